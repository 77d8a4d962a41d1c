import PyProof.Rows.All
import Wide.All
import OpenK.AllK
import Wide.FinOn
import HandS.ForMost
import HandS.Dict
import HandS.Set
import HandS.SetFor
import HandS.SetKeys
import PyProof.Rows.SortStr
import HandS.ForExc
import HandS.CallSlots
import HandS.Wide
import HandS.IsInst
import HandS.Codes
import HandS.Zip
import HandS.EndBits
import HandS.HeadHook1
import HandS.Exc
import HandS.ExcCtx
import HandS.ExcInit
import HandS.ExcIs
import HandS.ExcField
import HandS.Hot
import HandS.HotCalls
import HandS.Lambda
import HandS.TupAny
import HandS.Style
import HandS.Flow
import HandS.Iter
import HandS.TupMul
import PyProof.StrBlock2
import PyProof.Rows.IntBool
import HandS.Deep
import HandS.TupLe
import HandS.StrMore
import HandS.More
import KE.GoesEnum
import HandS.Conv
import HandS.Rev
import HandS.TupSets
import KE.SortData
import PyProof.ReprRoads
import KE.KDictZip
import HandS.Zip0
import KE.KExcIs
import HandS.Defaults
import KE.KIndexOf
import HandS.Walk
import HandS.SortKw
import KE.DatumOrd
import PyProof.AssignAttr
import HandS.Head0
import HandS.Head1
import HandS.Head2
import HandS.HeadEnd
import HandS.HeadHook2
import HandS.NestedK
import HandS.HeadHook4
import PySem.Challenge.RW_movebeats_k21_refusals_made
set_option Elab.async false
set_option linter.all false
set_option maxRecDepth 100000
namespace DL
open PySem PySem.Spec PyProof.Rows L2
inductive D where
  | non | bl (b : Bool) | int (i : Int) | str (x : Str) | ref (a : Addr) | ty (n : String)
  | tup (ds : List D)
  | sc (ds : List D)
  | rl (ds : List D)
  | rd (ks : List Key) (ds : List D)
  | exc (x : Str) (ks : List Str) (ds : List D)
  | fn (x : Str)
  | nt (ds : List D)
  | lam (f c : Addr) (vs : List V) (ds : List D)
/-- the name of a lambda of the law -/
def lamQ : Str := "law.<locals>.<lambda>"
/-! refusals: the classes under BeatError, by their names -/
def bt (K : PySem.W.Frag) : Addr := He.ga K "BeatError"
def isNew : List (Option Value) → Bool
  | [_, _, _, _, some (.builtin n), _] => decide (n = "ValueError.__new__")
  | _ => false
def lfObj (K : PySem.W.Frag) (x : Str) : Option Obj → Bool
  | some ⟨.type t, _, .cls cd, sl⟩ => decide (t = "type") && (cd.hasDict && (!cd.hasDel && (decide (cd.name = x) && (decide (cd.mro = .ref (He.ga K x) :: .ref (bt K) :: PySem.HandSPX.veTail) && isNew sl.toList))))
  | _ => false
def btObj (K : PySem.W.Frag) : Option Obj → Bool
  | some ⟨.type t, _, .cls cd, _⟩ => decide (t = "type") && (decide (cd.name = "BeatError") && decide (cd.mro = .ref (bt K) :: PySem.HandSPX.veTail))
  | _ => false
def findsB (K : PySem.W.Frag) (C : Addr) (f : Str) (v : Option Value) : Bool := decide (PySem.W.findIn K (.ref C) f = some v)
/-- the fields that refusals have -/
def xFields : List Str := ["word", "number", "line", "moves", "stretch", "beat", "block", "row", "many", "deed", "begin", "end"]
/-- a refusal's class as it must stand -/
def lfB (K : PySem.W.Frag) (x : Str) : Bool := lfObj K x (K.lookup (He.ga K x)) && (btObj K (K.lookup (bt K)) && (findsB K (He.ga K x) "__setattr__" (some (.builtin "object.__setattr__")) && (findsB K (He.ga K x) "__getattribute__" (some (.builtin "BaseException.__getattribute__")) &&
  (findsB K (He.ga K x) "__getattr__" none && (findsB K (He.ga K x) "__class__" (some (.builtin "object.__class__")) && (PySem.W.keepIn K (.ref (He.ga K x)) && xFields.all fun f => findsB K (He.ga K x) f none))))))
def Lf (K : PySem.W.Frag) (x : Str) : Prop := lfB K x = true
def btI (K : PySem.W.Frag) : Bool := PySem.W.readsIn K (bt K) (.type "type") && (match PySem.W.findCls K (.ref (bt K)) (.type "type") "__init__" with
  | some (.val (.builtin n)) => decide (n = "ValueError.__init__")
  | _ => false)
mutual
def cstB (K : PySem.W.Frag) : D → Value → Bool
  | .non, u => He.relB .non u
  | .bl b, u => He.relB (.bl b) u
  | .int i, u => He.relB (.int i) u
  | .str x, u => He.relB (.str x) u
  | .tup ds, u => match u with
    | .ref a => (match K.lookup a with
      | some ⟨.type c, _, .seq its _, _⟩ => decide (c = "tuple") && (decide (its.size ≤ sizeLine) && cstsB K ds its.toList)
      | _ => false)
    | _ => false
  | _, _ => false
def cstsB (K : PySem.W.Frag) : List D → List Value → Bool
  | [], us => us.isEmpty
  | d :: ds, us => match us with
    | u :: us => cstB K d u && cstsB K ds us
    | [] => false
end
def cstOk (K : PySem.W.Frag) (p : Str × D) : Bool := match PySem.W.nsIn K mainGlobals p.1 with
  | some (some u) => cstB K p.2 u
  | _ => false
/-- what is told of the refusals: the classes, and whether they are made here -/
structure XsD where
  xs : List Str := []
  mks : Bool := false
def XsD.ok (x : XsD) (K : PySem.W.Frag) : Bool := x.xs.all (lfB K) && (!x.mks || btI K)
def obsC (fa : List He.Fa) (fn : List He.DefD) (cs : List (Str × D)) (xd : XsD) (K : PySem.W.Frag) : He.AlD := ((((fa.all fun f => f.ok K) && fn.all fun d => d.ok K) && cs.all (cstOk K)) && xd.ok K, fn.map fun d => He.fnW K d.at_)
def SaysC (fa : List He.Fa) (fn : List He.DefD) (cs : List (Str × D)) (xd : XsD) (K : PySem.W.Frag) : Prop := obsC fa fn cs xd K = He.valD fn
def obsCG (n : Nat) (fa : List He.Fa) (fn : List He.DefD) (cs : List (Str × D)) (xd : XsD) (g : Addr → Option Obj) : He.AlD := obsC fa fn cs xd (He.frG g (cStatics :: He.asD g n))
def hookC (n : Nat) (fa : List He.Fa) (fn : List He.DefD) (cs : List (Str × D)) (xd : XsD) : PySem.W.Hook where
  α := He.AlD
  obs := fun s => obsCG n fa fn cs xd s.heap.get?
  val := fun _ => He.valD fn
  says := fun _ h => ∃ K : PySem.W.Frag, K.In h ∧ SaysC fa fn cs xd K
  of := fun _ _ e => ⟨_, He.frG_in, e⟩
  keeps := fun _ _ _ ⟨K, hK, c⟩ k => ⟨K, PySem.W.Frag.In.keeps hK k, c⟩
theorem obsCG_eq {n : Nat} {fa : List He.Fa} {fn : List He.DefD} {cs : List (Str × D)} {xd : XsD} {g : Addr → Option Obj} {s : Shared} (h : ∀ a, g a = s.heap.get? a) : obsCG n fa fn cs xd g = (hookC n fa fn cs xd).obs s := by
  have e : g = s.heap.get? := funext h
  rw [e]
  rfl
end DL
namespace K21
open PySem PySem.Spec PyProof.Rows L2 DL
def top (i : Nat) : Stmt := PySem.Challenge.pw_movebeats_k21_refusals_made.main.body.getD i (.Pass ⟨0, 0, 0, 0⟩)
def clsB : Stmt → List Stmt
  | .ClassDef (body := b) .. => b
  | _ => []
abbrev s_xNoMachine : Stmt := (clsB (top 2)).getD 0 (.Pass ⟨0, 0, 0, 0⟩)
abbrev s_xNoText : Stmt := (clsB (top 3)).getD 0 (.Pass ⟨0, 0, 0, 0⟩)
abbrev s_xNoCarry : Stmt := (clsB (top 4)).getD 0 (.Pass ⟨0, 0, 0, 0⟩)
abbrev s_xNoCode : Stmt := (clsB (top 5)).getD 0 (.Pass ⟨0, 0, 0, 0⟩)
abbrev s_xClash : Stmt := (clsB (top 6)).getD 0 (.Pass ⟨0, 0, 0, 0⟩)
abbrev s_xTooMany : Stmt := (clsB (top 7)).getD 0 (.Pass ⟨0, 0, 0, 0⟩)
abbrev s_xNoProgram : Stmt := (clsB (top 8)).getD 0 (.Pass ⟨0, 0, 0, 0⟩)
abbrev s_xNoPaper : Stmt := (clsB (top 9)).getD 0 (.Pass ⟨0, 0, 0, 0⟩)
abbrev s_xNoBox : Stmt := (clsB (top 10)).getD 0 (.Pass ⟨0, 0, 0, 0⟩)
abbrev s_xWrong : Stmt := (clsB (top 11)).getD 0 (.Pass ⟨0, 0, 0, 0⟩)
abbrev s_xNoSkill : Stmt := (clsB (top 12)).getD 0 (.Pass ⟨0, 0, 0, 0⟩)
abbrev s_xNoWay : Stmt := (clsB (top 13)).getD 0 (.Pass ⟨0, 0, 0, 0⟩)
abbrev s_xLacks : Stmt := (clsB (top 14)).getD 0 (.Pass ⟨0, 0, 0, 0⟩)
abbrev s_xNoRow : Stmt := (clsB (top 15)).getD 0 (.Pass ⟨0, 0, 0, 0⟩)
abbrev s_l_pen : Stmt := top 17
abbrev s_l_draw : Stmt := top 18
abbrev s_l_kinds : Stmt := top 19
abbrev s_l_made : Stmt := top 20
abbrev s_law : Stmt := top 21
def fn : List He.DefD := ([⟨("_law_pen", none), "_law_pen", "_law_pen", defArgs s_l_pen, defBody s_l_pen, defScope s_l_pen, [], []⟩, ⟨("_law_draw", none), "_law_draw", "_law_draw", defArgs s_l_draw, defBody s_l_draw, defScope s_l_draw, [], []⟩, ⟨("_law_kinds", none), "_law_kinds", "_law_kinds", defArgs s_l_kinds, defBody s_l_kinds, defScope s_l_kinds, [], []⟩, ⟨("_law_made", none), "_law_made", "_law_made", defArgs s_l_made, defBody s_l_made, defScope s_l_made, [], []⟩, ⟨("law", none), "law", "law", defArgs s_law, defBody s_law, defScope s_law, [], []⟩, ⟨("NoMachine", some "__init__"), "__init__", "NoMachine.__init__", defArgs s_xNoMachine, defBody s_xNoMachine, defScope s_xNoMachine, [], []⟩, ⟨("NoText", some "__init__"), "__init__", "NoText.__init__", defArgs s_xNoText, defBody s_xNoText, defScope s_xNoText, [], []⟩, ⟨("NoCarry", some "__init__"), "__init__", "NoCarry.__init__", defArgs s_xNoCarry, defBody s_xNoCarry, defScope s_xNoCarry, [], []⟩, ⟨("NoCode", some "__init__"), "__init__", "NoCode.__init__", defArgs s_xNoCode, defBody s_xNoCode, defScope s_xNoCode, [], []⟩, ⟨("Clash", some "__init__"), "__init__", "Clash.__init__", defArgs s_xClash, defBody s_xClash, defScope s_xClash, [], []⟩, ⟨("TooMany", some "__init__"), "__init__", "TooMany.__init__", defArgs s_xTooMany, defBody s_xTooMany, defScope s_xTooMany, [], []⟩, ⟨("NoProgram", some "__init__"), "__init__", "NoProgram.__init__", defArgs s_xNoProgram, defBody s_xNoProgram, defScope s_xNoProgram, [], []⟩, ⟨("NoPaper", some "__init__"), "__init__", "NoPaper.__init__", defArgs s_xNoPaper, defBody s_xNoPaper, defScope s_xNoPaper, [], []⟩, ⟨("NoBox", some "__init__"), "__init__", "NoBox.__init__", defArgs s_xNoBox, defBody s_xNoBox, defScope s_xNoBox, [], []⟩, ⟨("Wrong", some "__init__"), "__init__", "Wrong.__init__", defArgs s_xWrong, defBody s_xWrong, defScope s_xWrong, [], []⟩, ⟨("NoSkill", some "__init__"), "__init__", "NoSkill.__init__", defArgs s_xNoSkill, defBody s_xNoSkill, defScope s_xNoSkill, [], []⟩, ⟨("NoWay", some "__init__"), "__init__", "NoWay.__init__", defArgs s_xNoWay, defBody s_xNoWay, defScope s_xNoWay, [], []⟩, ⟨("Lacks", some "__init__"), "__init__", "Lacks.__init__", defArgs s_xLacks, defBody s_xLacks, defScope s_xLacks, [], []⟩, ⟨("NoRow", some "__init__"), "__init__", "NoRow.__init__", defArgs s_xNoRow, defBody s_xNoRow, defScope s_xNoRow, [], []⟩] : List He.DefD)
def fa : List He.Fa := ([.glo "_law_pen", .glo "_law_draw", .glo "_law_kinds", .glo "_law_made", .glo "law", .free "abs", .free "len", .free "range", .free "isinstance", .free "ValueError", .free "enumerate", .glo "NoMachine", .glo "NoText", .glo "NoCarry", .glo "NoCode", .glo "Clash", .glo "TooMany", .glo "NoProgram", .glo "NoPaper", .glo "NoBox", .glo "Wrong", .glo "NoSkill", .glo "NoWay", .glo "Lacks", .glo "NoRow"] : List He.Fa) ++ ([.glo "BeatError", .meth "NoMachine" "__init__", .meth "NoText" "__init__", .meth "NoCarry" "__init__", .meth "NoCode" "__init__", .meth "Clash" "__init__", .meth "TooMany" "__init__", .meth "NoProgram" "__init__", .meth "NoPaper" "__init__", .meth "NoBox" "__init__", .meth "Wrong" "__init__", .meth "NoSkill" "__init__", .meth "NoWay" "__init__", .meth "Lacks" "__init__", .meth "NoRow" "__init__"] : List He.Fa)
def cs : List (Str × D) := []
abbrev R : PySem.W.OpenRow := PySem.W.OpenLaw.row PySem.Challenge.rw_movebeats_k21_refusals_made
abbrev xd : XsD := { xs := ["NoMachine", "NoText", "NoCarry", "NoCode", "Clash", "TooMany", "NoProgram", "NoPaper", "NoBox", "Wrong", "NoSkill", "NoWay", "Lacks", "NoRow"], mks := true }
abbrev hk : PySem.W.Hook := hookC 4 fa fn cs xd
def ob (s : PySem.W.SharedT) : He.AlD := obsCG 4 fa fn cs xd (HandSHeadRun.getT s)
theorem ob_eq (s : PySem.W.SharedT) : ob s = hk.obs s.abs := obsCG_eq (HandSHeadRun.getT_eq s)
def loose : List Str := (["BeatError", "NoMachine", "NoText", "NoCarry", "NoCode", "Clash", "TooMany", "NoProgram", "NoPaper", "NoBox", "Wrong", "NoSkill", "NoWay", "Lacks", "NoRow", "_law_pen", "_law_draw", "_law_kinds", "_law_made"] : List Str)
theorem run (w : World) : HandSHeadRun.RunEq R (PySem.W.view R.prog [21]) hk ob 6000 loose w := by
  intro os
  kernel_rfl
end K21
namespace DL
open PySem PySem.Spec PyProof.Rows L2
/-! sets of ints and texts -/
def keyM : Value → Key
  | .int k _ => .inl k
  | .str x _ => .inr x
  | _ => .inl 0
def GoodM (P : Program) (w : World) (e : Int × Value) : Prop := RelV (kV (keyM e.2)) e.2 ∧ e.1 = (mixKind P w).hash (keyM e.2)
theorem keyM_of {k : Key} {u : Value} (r : RelV (kV k) u) : keyM u = k := by
  cases k with
  | inl i => obtain ⟨t, e⟩ := (show ∃ t, u = Value.int i t from r); subst e; rfl
  | inr x => obtain ⟨t, e⟩ := (show ∃ t, u = Value.str x t from r); subst e; rfl
theorem scan_of {k : Key} {u : Value} (r : RelV (kV k) u) : u.scannable = true := key_scan r
/-- the set at a has just the keys ks; its table can be walked -/
def SetM (P : Program) (w : World) (h : Heap) (a : Addr) (ks : List Key) : Prop :=
  ∃ o es ep t, h.get? a = some o ∧ o.ExactSet ∧ o.data = .set es ep t ∧ (∀ e ∈ es.toList, GoodM P w e) ∧ (es.toList.map fun e => keyM e.2).Perm ks ∧ ks.Nodup ∧
    es.size < scanBound ∧ t.fits es.size = true ∧ Ris t.place.toList ∧ (w.params.followText "set-order" = true ∨ t.led = true)
def hasK (ks : List Key) (k : Key) : Bool := ks.any fun j => decide (j = k)
theorem hasK_iff {ks : List Key} {k : Key} : hasK ks k = true ↔ k ∈ ks := by
  unfold hasK
  rw [List.any_eq_true]
  exact ⟨fun ⟨j, h, e⟩ => (of_decide_eq_true e) ▸ h, fun h => ⟨k, h, decide_eq_true rfl⟩⟩
def ddK (ks : List Key) (k : Key) : List Key := if hasK ks k = true then ks else ks ++ [k]
theorem ddK_nodup {ks : List Key} {k : Key} (h : ks.Nodup) : (ddK ks k).Nodup := by
  unfold ddK
  split
  · exact h
  · rename_i n
    rw [List.nodup_append]
    exact ⟨h, by simp, fun a ha b hb => by rw [List.mem_singleton] at hb; subst hb; intro e; subst e; exact n (hasK_iff.mpr ha)⟩
theorem mem_ddK {ks : List Key} {k j : Key} : j ∈ ddK ks k ↔ j ∈ ks ∨ j = k := by
  unfold ddK
  split
  · rename_i h
    exact ⟨.inl, fun z => z.elim id fun e => e ▸ hasK_iff.mp h⟩
  · simp
theorem ddK_len {ks : List Key} {k : Key} : (ddK ks k).length ≤ ks.length + 1 := by
  unfold ddK
  split <;> simp
def ddAll (ks : List Key) : List Key := ks.foldl ddK []
section
variable {P : Program} {w : World} {A : Around} {E : Value → Shared → Prop} {s : Shared} {a : Addr} {ks : List Key}
theorem goodM_elems {l : List (Int × Value)} (g : ∀ e ∈ l, GoodM P w e) : ElemsOf (mixKind P w) l := fun e he =>
  ⟨⟨keyM e.2, kV_is (g e he).1, (g e he).2⟩, scan_of (g e he).1⟩
theorem goodM_is {e : Int × Value} (g : GoodM P w e) (k : Key) : (mixKind P w).is k e.2 = true ↔ keyM e.2 = k := by
  constructor
  · intro h
    exact (mixKind P w).inj _ _ _ (kV_is g.1) h
  · intro h
    rw [← h]
    exact kV_is g.1
theorem tailM {g : Bool → Sem Unit} (hg : ∀ (b : Bool) (s₁ : Shared) (Q' : Unit → Shared → Prop), Q' () s₁ → wpAny (model P w) A (g b) Q' E s₁)
    {o : Obj} {es : Array (Int × Value)} {ep : Nat} {t : SetTable} (ho : s.heap.get? a = some o) (hex : o.ExactSet) (hd : o.data = .set es ep t)
    {es1 : Array (Int × Value)} {t2 : SetTable} {ks1 : List Key} (g1 : ∀ e ∈ es1.toList, GoodM P w e) (p1 : (es1.toList.map fun e => keyM e.2).Perm ks1) (nd1 : ks1.Nodup)
    (hb1 : es1.size < scanBound) (hf2 : t2.fits es1.size = true) (hr : Ris t2.place.toList) (hl : w.params.followText "set-order" = true ∨ t2.led = true) {wasDummy : Bool} {R : Option Bool → Shared → Prop}
    (hR : ∀ h', Heap.SameBut a s.heap h' → SetM P w h' a ks1 → R (some true) { s with heap := h' }) :
    wpAny (model P w) A (do
        storeSet a es1 t2
        if (!wasDummy && t2.tooFull) = true then do
            g (relayAll t2 es1 (SetTable.grown es1.size)).2.2
            storeSet a (relayAll t2 es1 (SetTable.grown es1.size)).1 (relayAll t2 es1 (SetTable.grown es1.size)).2.1
            pure (some true)
          else pure (some true)) R E s := by
  refine wpAny_bind (wpAny_storeSet_of ho hd ?_ (fits_of_scanBound hb1))
  have ho1 := store_at (es' := es1) (t' := t2) ho hd
  have sb1 := Heap.SameBut.update s.heap a (Obj.putSet es1 t2)
  split
  · have pm := relayAll_perm t2 es1 (SetTable.grown es1.size)
    have hf3 := relayAll_fits t2 es1 (SetTable.grown es1.size)
    have hr3 := relayAll_ris t2 es1 (SetTable.grown es1.size)
    have hl3 := relayAll_led t2 es1 (SetTable.grown es1.size)
    generalize relayAll t2 es1 (SetTable.grown es1.size) = Z at pm hf3 hr3 hl3 ⊢
    obtain ⟨es2, t3, gave⟩ := Z
    dsimp only at pm hf3 hr3 hl3 ⊢
    have hb2 : es2.size < scanBound := by
      have e : es2.size = es1.size := by rw [← Array.length_toList, pm.length_eq, Array.length_toList]
      omega
    refine wpAny_bind (hg _ _ _ (wpAny_bind (wpAny_storeSet_of ho1 rfl ?_ (fits_of_scanBound hb2))))
    have ho2 := store_at (es' := es2) (t' := t3) ho1 rfl
    exact wpAny_pure (hR _ (sb1.trans (Heap.SameBut.update _ a _)) ⟨_, es2, _, t3, ho2, hex, rfl, fun e he => g1 e (pm.mem_iff.mp he), (pm.map _).trans p1, nd1, hb2, hf3, hr3, hl.imp id fun z => by rw [hl3]; exact z⟩)
  · exact wpAny_pure (hR _ sb1 ⟨_, es1, _, t2, ho1, hex, rfl, g1, p1, nd1, hb1, hf2, hr, hl⟩)
/-- one more -/
theorem addM {k : Key} {u : Value} {Q : Bool → Shared → Prop} (ru : RelV (kV k) u) (R : SetM P w s.heap a ks) (room : ks.length + 1 < scanBound)
    (hQ : ∀ b h', Heap.SameBut a s.heap h' → SetM P w h' a (ddK ks k) → Q b { s with heap := h' }) :
    wpAny (model P w) A (setAddHashed a u ((mixKind P w).hash k)) Q E s := by
  obtain ⟨o, es, ep, t, ho, hex, hd, g, pk, nd, hb, hf, hr, hl⟩ := R
  have hel : ElemsOf (mixKind P w) es.toList := goodM_elems g
  have hsc := scan_of ru
  unfold setAddHashed setAddHashedIn
  refine wpAny_holding (wpAny_bind (wpAny_setState_of ho hd hf ?_))
  dsimp only
  rw [byScan_of hsc hb hel]
  simp only [↓reduceIte]
  unfold setAddByScan
  refine wpAny_bind (wpAny_bind (wpAny_rule (wpAny_bind (wpAny_setScan_of (kV_is ru) ho hd hf hel ?_))))
  cases hfi : List.findIdx? (fun e => (mixKind P w).is k e.2) es.toList with
  | some j =>
    dsimp only
    obtain ⟨hj, pj, _⟩ := List.findIdx?_eq_some_iff_getElem.mp hfi
    have hm : k ∈ ks := pk.mem_iff.mp (List.mem_map.mpr ⟨es.toList[j], List.getElem_mem hj, (goodM_is (g _ (List.getElem_mem hj)) k).1 pj⟩)
    refine wpAny_pure (wpAny_pure (hQ false s.heap (Heap.SameBut.refl a s.heap) ⟨o, es, ep, t, ho, hex, hd, g, ?_, ddK_nodup nd, hb, hf, hr, hl⟩))
    unfold ddK
    rw [if_pos (hasK_iff.mpr hm)]
    exact pk
  | none =>
    dsimp only
    have hnk : k ∉ ks := fun z => by
      obtain ⟨e, he, q⟩ := List.mem_map.mp (pk.mem_iff.mpr z)
      have c := List.findIdx?_eq_none_iff.mp hfi e he
      rw [(goodM_is (g e he) k).2 q] at c
      cases c
    have pm := layNew_perm t es ((mixKind P w).hash k) u
    have hf1 := layNew_fits t es ((mixKind P w).hash k) u
    have hr1 := layNew_ris t es ((mixKind P w).hash k) u hr
    have hl1 := layNew_led t es ((mixKind P w).hash k) u
    generalize layNew t es ((mixKind P w).hash k) u = Z at pm hf1 hr1 hl1 ⊢
    obtain ⟨es1, t1, wasDummy, gave⟩ := Z
    dsimp only at pm hf1 hr1 hl1 ⊢
    rw [Array.toList_push] at pm
    have g1 : ∀ e ∈ es1.toList, GoodM P w e := fun e he => by
      rcases List.mem_append.mp (pm.mem_iff.mp he) with z | z
      · exact g e z
      · rw [List.mem_singleton] at z
        subst z
        have ek := keyM_of ru
        exact ⟨by rw [ek]; exact ru, by rw [ek]⟩
    have p1 : (es1.toList.map fun e => keyM e.2).Perm (ddK ks k) := by
      have q := pm.map fun e : Int × Value => keyM e.2
      rw [List.map_append] at q
      unfold ddK
      rw [if_neg (fun z => hnk (hasK_iff.mp z))]
      refine q.trans (pk.append ?_)
      show [keyM u].Perm [k]
      rw [keyM_of ru]
    have hsz : es1.size = ks.length + 1 := by
      have := p1.length_eq
      unfold ddK at this
      rw [if_neg (fun z => hnk (hasK_iff.mp z)), List.length_append, List.length_map, Array.length_toList] at this
      exact this
    have hb1 : es1.size < scanBound := by omega
    have hled : w.params.followText "set-order" = true ∨ t1.led = true := hl.imp id fun z => by rw [hl1]; exact z
    refine wpAny_bind ?_
    have hgw : ∀ (b : Bool) {s₁ : Shared} {Q' : Unit → Shared → Prop}, Q' () s₁ → wpAny (model P w) A (match b with | true => rule "set.scan.the-table-gave-way" | false => pure ()) Q' E s₁ :=
      fun b s₁ Q' q => by cases b <;> first | exact wpAny_pure q | exact wpAny_rule q
    refine hgw _ ?_
    split
    · refine wpAny_bind ?_
      rw [hashByValue_scannable 8 hsc]
      refine wpAny_pure ?_
      refine tailM ?_ ho hex hd g1 p1 (ddK_nodup nd) hb1 ?_ ?_ ?_ ?_
      · intro b s₁ Q' q; cases b <;> first | exact wpAny_pure q | exact wpAny_rule q
      · first | (split <;> first | exact hf1 | exact SetTable.fits_plain_off hf1) | exact hf1
      · first | (split <;> exact hr1) | exact hr1
      · first | (split <;> exact hled) | exact hled
      · intro h' sb r; dsimp only; exact wpAny_pure (hQ true h' sb r)
    · refine wpAny_bind (wpAny_pure ?_)
      simp only [↓reduceIte]
      refine tailM ?_ ho hex hd g1 p1 (ddK_nodup nd) hb1 hf1 hr1 hled ?_
      · intro b s₁ Q' q; cases b <;> first | exact wpAny_pure q | exact wpAny_rule q
      · intro h' sb r; dsimp only; exact wpAny_pure (hQ true h' sb r)
theorem SetM.at {h h' : Heap} (R : SetM P w h a ks) (k : ∀ o, h.get? a = some o → h'.get? a = some o) : SetM P w h' a ks := by
  obtain ⟨o, es, ep, t, ho, r⟩ := R
  exact ⟨o, es, ep, t, k o ho, r⟩
theorem SetM.lt {h : Heap} (R : SetM P w h a ks) : a < h.objs.size := by
  obtain ⟨o, es, ep, t, ho, r⟩ := R
  exact Heap.lt_size ho
theorem setM_fresh {h : Heap} (ho : h.get? a = some { cls := .type "set", dict := none, data := .set #[] 0 (.fresh 0 0 (!w.params.followText "set-order")) }) : SetM P w h a [] :=
  ⟨_, #[], 0, _, ho, ⟨rfl, rfl, rfl⟩, rfl, (fun e he => by simp at he), .nil, List.nodup_nil, (by decide), (by rfl), List.Pairwise.nil, by
    show _ ∨ (!w.params.followText "set-order") = true
    cases w.params.followText "set-order"
    · exact .inr rfl
    · exact .inl rfl⟩
theorem ddAll_len_ : ∀ (ls acc : List Key), (ls.foldl ddK acc).length ≤ acc.length + ls.length
  | [], acc => by simp
  | k :: r, acc => by
    have h1 := ddAll_len_ r (ddK acc k)
    have h2 : (ddK acc k).length ≤ acc.length + 1 := ddK_len
    rw [List.foldl_cons, List.length_cons]
    omega
theorem ddAll_len (ls : List Key) : (ddAll ls).length ≤ ls.length := by
  have := ddAll_len_ ls []
  simpa [ddAll] using this
theorem vals_key : ∀ {ls : List Key} {us : List Value} {i : Nat} {v : Value}, Vals (ls.map kV) us → us[i]? = some v → ∃ k, ls[i]? = some k ∧ RelV (kV k) v
  | [], _, i, v, .nil, h => by simp at h
  | k :: ls, _, 0, v, .cons r t, h => by
    cases h
    exact ⟨k, rfl, r⟩
  | k :: ls, _, i + 1, v, .cons r t, h => by
    obtain ⟨j, h1, h2⟩ := vals_key (ls := ls) (i := i) (v := v) t (by simpa using h)
    exact ⟨j, by simpa using h1, h2⟩
theorem updM {I : Addr} {fp wr : List Addr} {Gs : Array GenState → Array GenState → Prop} {n : Nat} {Pv : Nat → Value → Prop} {St : Nat → Shared → Prop} {R : Result → Shared → Prop}
    (W : WalksS P w A.in1 I fp wr Gs n Pv St) (S : Addr) (hSf : S ∉ fp) (ls : List Key) (hn : n = ls.length) (hb : ls.length + 1 < scanBound) (hval : ∀ i v, Pv i v → ∃ k, ls[i]? = some k ∧ RelV (kV k) v) :
    ∀ (m i : Nat) (s : Shared), n - i = m → i ≤ n → St i s → SetM P w s.heap S (ddAll (ls.take i)) →
      (∀ s', Moved (S :: wr) Gs s s' → SetM P w s'.heap S (ddAll ls) → R (.ok (.ret .none)) s') →
      codeAny (model P w) A (.builtin "set.update.loop" ⟨[.ref S, .ref I], []⟩) R s := by
  have hSw : S ∉ wr := fun h => hSf (W.sub _ h)
  have hsub : ∀ b ∈ wr, b ∈ S :: wr := fun b hb => List.mem_cons_of_mem _ hb
  intro m
  induction m with
  | zero =>
    intro i s hk' hi hst hS hR
    obtain rfl : i = n := by omega
    refine codeAny_builtin F.entry_set_update_loop ?_
    rw [Around.under_plainId F.plain_set_update_loop _]
    show wpAny _ A.in1 (pyNext (.ref I) >>= _) _ _ s
    refine wpAny_bind (W.done s _ _ hst fun s' hm => ?_)
    rw [show ls.take i = ls from List.take_of_length_le (by omega)] at hS
    show wpAny _ A.in1 (ret Value.none) _ _ s'
    exact wpAny_pure (hR s' (hm.mono hsub) (hS.at fun o e => hm.heap S o hSw e))
  | succ m ih =>
    intro i s hk' hi hst hS hR
    have hlt : i < n := by omega
    refine codeAny_builtin F.entry_set_update_loop ?_
    rw [Around.under_plainId F.plain_set_update_loop _]
    show wpAny _ A.in1 (pyNext (.ref I) >>= _) _ _ s
    refine wpAny_bind (W.item i s _ _ hlt hst fun v s' hP hst' hm => ?_)
    obtain ⟨z, hz, rz⟩ := hval i v hP
    have hS' : SetM P w s'.heap S (ddAll (ls.take i)) := hS.at fun o e => hm.heap S o hSw e
    show wpAny _ A.in1 (holding [v] (setAdd S v) >>= _) _ _ s'
    refine wpAny_bind (wpAny_holding ?_)
    unfold setAdd
    refine wpAny_holding (wpAny_bind ((mixKind P w).pyHash (k := z) (kV_is rz) ?_))
    refine addM (s := { s' with toks := s'.toks + 1 }) rz hS' (by have := ddAll_len (ls.take i); rw [List.length_take] at this; omega) fun _ h' hsb hS2 => ?_
    have hS3 : SetM P w h' S (ddAll (ls.take (i + 1))) := by
      rw [List.take_add_one, hz]
      unfold ddAll
      rw [Option.toList_some, List.foldl_append]
      exact hS2
    refine wpAny_pure ⟨plainId_quiet F.plain_set_update_loop _, ih (i + 1) _ (by omega) hlt (W.frame _ s' _ _ hst' (Nat.le_succ _) fun b hb o e => ?_) hS3 fun s'' hm'' hS'' => ?_⟩
    · rw [hsb.2 b (fun h : b = S => hSf (by rw [← h]; exact hb))]; exact e
    · refine hR s'' (Moved.trans W.gtrans ((hm.mono hsub).then_heap (Nat.le_succ _) fun b o hb e => ?_) hm'') hS''
      rw [hsb.2 b (fun h : b = S => hb (by rw [h]; exact List.mem_cons_self))]; exact e
abbrev setO0 (w : World) : Obj := { cls := .type "set", dict := none, data := .set #[] 0 (.fresh 0 0 (!w.params.followText "set-order")) }
set_option maxHeartbeats 0 in
/-- set(xs), xs a list of keys -/
theorem call_setM_list {l : Addr} {items : Array Value} (ls : List Key) {Q : Value → Shared → Prop} (hh : A.handled = none) (hl : s.heap.IsList l items) (hit : Vals (ls.map kV) items.toList) (hb : ls.length + 1 < scanBound)
    (h : ∀ (h' : Heap) (tk : Nat), SetM P w h' s.heap.objs.size (ddAll ls) → (∀ b o, s.heap.get? b = some o → h'.get? b = some o) → Q (.ref s.heap.objs.size) { s with heap := h', toks := tk }) :
    wpAny (model P w) A (call (.type "set") [.ref l]) Q E s := by
  have hisz : items.size = ls.length := by
    have q := hit.length
    rw [List.length_map, Array.length_toList] at q
    exact q.symm
  obtain ⟨c, tl, hmro⟩ := F.called_set.mro
  have hmade := F.called_set.made
  have hsub := F.called_set.sub
  refine wpAny_call (codeAny_of_tree ?_)
  show wpAny _ _ (callAny (.type "set") _) _ _ _
  refine wpAny_pure ⟨Code.quiet_builtin _ (by decide +kernel), codeAny_builtin F.entry_type_call ?_⟩
  rw [Around.under_plain (weight_type_call_type "set" [.ref l] []) rfl]
  have h1 := F.called_set.notType
  have h2 := F.called_set.canCreate
  have hct := F.typeCall_set_1 (.ref l)
  repeat (any_goals (first | assumption | wp_step))
  refine codeAny_mono (code_set_led1 (.ref l) (E := E) (Q₁ := fun obj s₁ => obj = .ref s.heap.objs.size ∧ s₁ = { s with heap := s.heap.push (setO0 w) }) ⟨rfl, rfl⟩) fun r s₁ hr => ?_
  cases r with
  | error e => exact hr
  | ok fl =>
    cases fl with
    | ret obj =>
      obtain ⟨rfl, rfl⟩ := hr
      have hS : (s.heap.push (setO0 w)).get? s.heap.objs.size = some (setO0 w) := Heap.get?_push_size _ rfl
      have hT : Shared.TypeIs { s with heap := s.heap.push (setO0 w) } (.ref s.heap.objs.size) "set" := ⟨_, hS, rfl⟩
      have hli := F.called_set.init.lookup
      have hbi := F.called_set.init.bind (.ref s.heap.objs.size)
      repeat (any_goals (first | assumption | wp_step))
      refine codeAny_mono (codeAny_call_builtin (R := wants (fun r s₂ => r = .none ∧ ∃ h' tk, s₂ = { s with heap := h', toks := tk } ∧ SetM P w h' s.heap.objs.size (ddAll ls) ∧
          (∀ b o, s.heap.get? b = some o → h'.get? b = some o)) E) F.called_set.init.plain F.entry_set_init (check_set_init_1 hT ?_)) fun r₂ s₂ hr₂ => ?_
      · obtain ⟨ol, hol, hcl, nl, hdl⟩ := hl
        obtain ⟨ocls, odict, odata, oslots⟩ := ol
        simp only at hcl hdl
        subst hcl; subst hdl
        have hol' : (s.heap.push (setO0 w)).get? l = some { cls := .type "list", dict := odict, data := .seq items nl, slots := oslots } := Heap.get?_push_of_some _ hol
        have hsls := F.sub_list_set
        have hslf := F.sub_list_frozenset
        have hne : (Value.type "list" == Value.type "dict") = false := by decide
        have hl1 : (s.heap.push (setO0 w)).IsList l items := ⟨_, hol', rfl, nl, rfl⟩
        unfold Builtin.«set.__init__» noKeywords Builtin.Frozenset.updateFrom
        generalize hPI : pyIter = PI
        wp_walk
        subst hPI
        refine wpAny_pyIter_list hl1 ?_
        refine wpAny_bind (wpAny_runValue ?_)
        have hlS : l < s.heap.objs.size := Heap.lt_size hol
        have hh3 : A.in1.in1.in1.handled = none := by simp [hh]
        have hz1 : (s.heap.push (setO0 w)).objs.size = s.heap.objs.size + 1 := Heap.size_push ..
        have hneI : l ≠ (s.heap.push (setO0 w)).objs.size := by rw [hz1]; exact Nat.ne_of_lt (Nat.lt_succ_of_lt hlS)
        have hSf : s.heap.objs.size ∉ [(s.heap.push (setO0 w)).objs.size, l] := by
          simp only [List.mem_cons, List.not_mem_nil, or_false, not_or]
          exact ⟨by rw [hz1]; exact Nat.ne_of_lt (Nat.lt_succ_self _), Nat.ne_of_gt hlS⟩
        have hval : ∀ (i : Nat) (v : Value), items[i]? = some v → ∃ k, ls[i]? = some k ∧ RelV (kV k) v := fun i v hv => vals_key hit (by rw [Array.getElem?_toList]; exact hv)
        refine updM ((Walks.list hh3 _ l hneI items).toS) s.heap.objs.size hSf ls hisz hb hval (items.size - 0) 0 _ (by omega) (Nat.zero_le _)
          ⟨⟨_, Heap.get?_push_size _ rfl, rfl, rfl⟩, (hl1.push _)⟩ ?hS0 ?hR
        case hS0 => exact setM_fresh (Heap.get?_push_of_some _ hS)
        case hR =>
          intro s' hm hS'
          obtain ⟨h', g2, d', tk', os'⟩ := s'
          have eg : g2 = s.gens := hm.gens
          have ed : d' = s.drawn := hm.drawn
          have eo : os' = s.os := hm.os
          subst eg; subst ed; subst eo
          show wpAny _ _ _ _ _ _
          refine wpAny_pure ?_
          show wpAny _ _ (ret Value.none) _ _ _
          refine wpAny_pure ⟨rfl, h', tk', rfl, hS', fun b o e => ?_⟩
          have hb0 : b < s.heap.objs.size := Heap.lt_size e
          refine hm.heap b o ?_ (Heap.get?_push_of_some _ (Heap.get?_push_of_some _ e))
          simp only [List.mem_cons, List.not_mem_nil, or_false, not_or]
          exact ⟨Nat.ne_of_lt hb0, by rw [hz1]; exact Nat.ne_of_lt (Nat.lt_succ_of_lt hb0)⟩
      · cases r₂ with
        | error e => exact hr₂
        | ok fl₂ =>
          cases fl₂ with
          | ret r =>
            obtain ⟨rfl, h', tk, rfl, hS', hk'⟩ := hr₂
            repeat (any_goals (first | assumption | wp_step))
            exact h _ _ hS' hk'
          | _ => exact hr₂.elim
    | _ => exact hr.elim
set_option maxHeartbeats 0 in
/-- set(xs), xs a tuple of keys -/
theorem call_setM_tuple {l : Addr} {items : Array Value} (ls : List Key) {Q : Value → Shared → Prop} (hh : A.handled = none) (hl : s.heap.IsTuple l items) (hit : Vals (ls.map kV) items.toList) (hb : ls.length + 1 < scanBound)
    (h : ∀ (h' : Heap) (tk : Nat), SetM P w h' s.heap.objs.size (ddAll ls) → (∀ b o, s.heap.get? b = some o → h'.get? b = some o) → Q (.ref s.heap.objs.size) { s with heap := h', toks := tk }) :
    wpAny (model P w) A (call (.type "set") [.ref l]) Q E s := by
  have hisz : items.size = ls.length := by
    have q := hit.length
    rw [List.length_map, Array.length_toList] at q
    exact q.symm
  obtain ⟨c, tl, hmro⟩ := F.called_set.mro
  have hmade := F.called_set.made
  have hsub := F.called_set.sub
  refine wpAny_call (codeAny_of_tree ?_)
  show wpAny _ _ (callAny (.type "set") _) _ _ _
  refine wpAny_pure ⟨Code.quiet_builtin _ (by decide +kernel), codeAny_builtin F.entry_type_call ?_⟩
  rw [Around.under_plain (weight_type_call_type "set" [.ref l] []) rfl]
  have h1 := F.called_set.notType
  have h2 := F.called_set.canCreate
  have hct := F.typeCall_set_1 (.ref l)
  repeat (any_goals (first | assumption | wp_step))
  refine codeAny_mono (code_set_led1 (.ref l) (E := E) (Q₁ := fun obj s₁ => obj = .ref s.heap.objs.size ∧ s₁ = { s with heap := s.heap.push (setO0 w) }) ⟨rfl, rfl⟩) fun r s₁ hr => ?_
  cases r with
  | error e => exact hr
  | ok fl =>
    cases fl with
    | ret obj =>
      obtain ⟨rfl, rfl⟩ := hr
      have hS : (s.heap.push (setO0 w)).get? s.heap.objs.size = some (setO0 w) := Heap.get?_push_size _ rfl
      have hT : Shared.TypeIs { s with heap := s.heap.push (setO0 w) } (.ref s.heap.objs.size) "set" := ⟨_, hS, rfl⟩
      have hli := F.called_set.init.lookup
      have hbi := F.called_set.init.bind (.ref s.heap.objs.size)
      repeat (any_goals (first | assumption | wp_step))
      refine codeAny_mono (codeAny_call_builtin (R := wants (fun r s₂ => r = .none ∧ ∃ h' tk, s₂ = { s with heap := h', toks := tk } ∧ SetM P w h' s.heap.objs.size (ddAll ls) ∧
          (∀ b o, s.heap.get? b = some o → h'.get? b = some o)) E) F.called_set.init.plain F.entry_set_init (check_set_init_1 hT ?_)) fun r₂ s₂ hr₂ => ?_
      · obtain ⟨ol, hol, hcl, nl, hdl⟩ := hl
        obtain ⟨ocls, odict, odata, oslots⟩ := ol
        simp only at hcl hdl
        subst hcl; subst hdl
        have hol' : (s.heap.push (setO0 w)).get? l = some { cls := .type "tuple", dict := odict, data := .seq items nl, slots := oslots } := Heap.get?_push_of_some _ hol
        have hsls := F.sub_tuple_set
        have hslf := F.sub_tuple_frozenset
        have hne : (Value.type "tuple" == Value.type "dict") = false := by decide
        have hl1 : (s.heap.push (setO0 w)).IsTuple l items := ⟨_, hol', rfl, nl, rfl⟩
        unfold Builtin.«set.__init__» noKeywords Builtin.Frozenset.updateFrom
        generalize hPI : pyIter = PI
        wp_walk
        subst hPI
        refine wpAny_pyIter_tuple hl1 ?_
        refine wpAny_bind (wpAny_runValue ?_)
        have hlS : l < s.heap.objs.size := Heap.lt_size hol
        have hh3 : A.in1.in1.in1.handled = none := by simp [hh]
        have hz1 : (s.heap.push (setO0 w)).objs.size = s.heap.objs.size + 1 := Heap.size_push ..
        have hneI : l ≠ (s.heap.push (setO0 w)).objs.size := by rw [hz1]; exact Nat.ne_of_lt (Nat.lt_succ_of_lt hlS)
        have hSf : s.heap.objs.size ∉ [(s.heap.push (setO0 w)).objs.size, l] := by
          simp only [List.mem_cons, List.not_mem_nil, or_false, not_or]
          exact ⟨by rw [hz1]; exact Nat.ne_of_lt (Nat.lt_succ_self _), Nat.ne_of_gt hlS⟩
        have hval : ∀ (i : Nat) (v : Value), items[i]? = some v → ∃ k, ls[i]? = some k ∧ RelV (kV k) v := fun i v hv => vals_key hit (by rw [Array.getElem?_toList]; exact hv)
        refine updM ((Walks.tuple hh3 _ l hneI items).toS) s.heap.objs.size hSf ls hisz hb hval (items.size - 0) 0 _ (by omega) (Nat.zero_le _)
          ⟨⟨_, Heap.get?_push_size _ rfl, rfl, rfl⟩, (hl1.push _)⟩ ?hS0 ?hR
        case hS0 => exact setM_fresh (Heap.get?_push_of_some _ hS)
        case hR =>
          intro s' hm hS'
          obtain ⟨h', g2, d', tk', os'⟩ := s'
          have eg : g2 = s.gens := hm.gens
          have ed : d' = s.drawn := hm.drawn
          have eo : os' = s.os := hm.os
          subst eg; subst ed; subst eo
          show wpAny _ _ _ _ _ _
          refine wpAny_pure ?_
          show wpAny _ _ (ret Value.none) _ _ _
          refine wpAny_pure ⟨rfl, h', tk', rfl, hS', fun b o e => ?_⟩
          have hb0 : b < s.heap.objs.size := Heap.lt_size e
          refine hm.heap b o ?_ (Heap.get?_push_of_some _ (Heap.get?_push_of_some _ e))
          simp only [List.mem_cons, List.not_mem_nil, or_false, not_or]
          exact ⟨Nat.ne_of_lt hb0, by rw [hz1]; exact Nat.ne_of_lt (Nat.lt_succ_of_lt hb0)⟩
      · cases r₂ with
        | error e => exact hr₂
        | ok fl₂ =>
          cases fl₂ with
          | ret r =>
            obtain ⟨rfl, h', tk, rfl, hS', hk'⟩ := hr₂
            repeat (any_goals (first | assumption | wp_step))
            exact h _ _ hS' hk'
          | _ => exact hr₂.elim
    | _ => exact hr.elim
end
end DL
namespace DL
open PySem PySem.Spec PyProof.Rows
/-! strict linear orders, sorted lists without doubles -/
structure Lin {α : Type} (lt : α → α → Bool) : Prop where
  irr : ∀ a, lt a a = false
  tr : ∀ a b c, lt a b = true → lt b c = true → lt a c = true
  tot : ∀ a b, lt a b = true ∨ a = b ∨ lt b a = true
section
variable {α : Type} {lt : α → α → Bool}
def insO (lt : α → α → Bool) (x : α) : List α → List α
  | [] => [x]
  | y :: r => if lt x y = true then x :: y :: r else if lt y x = true then y :: insO lt x r else y :: r
def srtO (lt : α → α → Bool) : List α → List α
  | [] => []
  | x :: r => insO lt x (srtO lt r)
def Inc (lt : α → α → Bool) (l : List α) : Prop := l.Pairwise fun a b => lt a b = true
theorem mem_insO (L : Lin lt) {x z : α} : ∀ {l : List α}, z ∈ insO lt x l ↔ z = x ∨ z ∈ l
  | [] => by simp [insO]
  | y :: r => by
    unfold insO
    split
    · simp
    · rename_i h1
      split
      · simp only [List.mem_cons, mem_insO L (l := r)]
        constructor
        · rintro (h | h | h)
          · exact .inr (.inl h)
          · exact .inl h
          · exact .inr (.inr h)
        · rintro (h | h | h)
          · exact .inr (.inl h)
          · exact .inl h
          · exact .inr (.inr h)
      · rename_i h2
        have e : x = y := by
          rcases L.tot x y with h | h | h
          · exact (h1 h).elim
          · exact h
          · exact (h2 h).elim
        subst e
        simp
theorem inc_insO (L : Lin lt) {x : α} : ∀ {l : List α}, Inc lt l → Inc lt (insO lt x l)
  | [], _ => by simp [insO, Inc]
  | y :: r, h => by
    have h' := List.pairwise_cons.mp h
    unfold insO
    split
    · rename_i hx
      refine List.pairwise_cons.mpr ⟨fun z hz => ?_, h⟩
      rcases List.mem_cons.mp hz with e | hz
      · rw [e]; exact hx
      · exact L.tr _ _ _ hx (h'.1 z hz)
    · split
      · rename_i hy
        refine List.pairwise_cons.mpr ⟨fun z hz => ?_, inc_insO L h'.2⟩
        rcases (mem_insO L).mp hz with e | hz
        · rw [e]; exact hy
        · exact h'.1 z hz
      · exact h
theorem mem_srtO (L : Lin lt) {z : α} : ∀ {l : List α}, z ∈ srtO lt l ↔ z ∈ l
  | [] => by simp [srtO]
  | x :: r => by
    unfold srtO
    rw [mem_insO L, mem_srtO L, List.mem_cons]
theorem inc_srtO (L : Lin lt) : ∀ {l : List α}, Inc lt (srtO lt l)
  | [] => .nil
  | x :: r => inc_insO L (inc_srtO L)
theorem inc_eq (L : Lin lt) : ∀ {l m : List α}, Inc lt l → Inc lt m → (∀ z, z ∈ l ↔ z ∈ m) → l = m
  | [], [], _, _, _ => rfl
  | [], y :: m, _, _, h => absurd ((h y).mpr (by simp)) (by simp)
  | x :: l, [], _, _, h => absurd ((h x).mp (by simp)) (by simp)
  | x :: l, y :: m, hl, hm, h => by
    have hl' := List.pairwise_cons.mp hl
    have hm' := List.pairwise_cons.mp hm
    have e : x = y := by
      rcases List.mem_cons.mp ((h x).mp (by simp)) with e | hx
      · exact e
      · rcases List.mem_cons.mp ((h y).mpr (by simp)) with e | hy
        · exact e.symm
        · have a := hm'.1 x hx
          have b := hl'.1 y hy
          have c := L.tr _ _ _ a b
          rw [L.irr] at c
          cases c
    subst e
    rw [inc_eq L hl'.2 hm'.2 fun z => ?_]
    constructor
    · intro hz
      rcases List.mem_cons.mp ((h z).mp (by simp [hz])) with e | q
      · subst e
        have c := hl'.1 z hz
        rw [L.irr] at c
        cases c
      · exact q
    · intro hz
      rcases List.mem_cons.mp ((h z).mpr (by simp [hz])) with e | q
      · subst e
        have c := hm'.1 z hz
        rw [L.irr] at c
        cases c
      · exact q
theorem srtO_eq (L : Lin lt) {l m : List α} (h : Inc lt l) (k : ∀ z, z ∈ l ↔ z ∈ m) : l = srtO lt m := inc_eq L h (inc_srtO L) fun z => by rw [k z, mem_srtO L]
theorem inc_nodup (L : Lin lt) {l : List α} (h : Inc lt l) : l.Nodup := List.Pairwise.imp (fun {a b} q e => by subst e; rw [L.irr] at q; cases q) h
theorem srtO_nodup (L : Lin lt) {l : List α} : (srtO lt l).Nodup := inc_nodup L (inc_srtO L)
end
def ltI (a b : Int) : Bool := decide (a < b)
theorem linI : Lin ltI := ⟨fun a => by simp [ltI], fun a b c h1 h2 => by simp [ltI] at *; omega, fun a b => by simp [ltI]; omega⟩
def ltS (a b : Str) : Bool := decide (a.cps.toList < b.cps.toList)
theorem Str.ext' {a b : Str} (h : a.cps.toList = b.cps.toList) : a = b := by
  cases a; cases b
  exact congrArg Str.mk (Array.toList_inj.mp h)
theorem linS : Lin ltS where
  irr := fun a => by simp [ltS, List.lt_irrefl]
  tr := fun a b c h1 h2 => by
    simp only [ltS, decide_eq_true_eq] at *
    exact List.lt_trans h1 h2
  tot := fun a b => by
    simp only [ltS, decide_eq_true_eq]
    by_cases h : a.cps.toList < b.cps.toList
    · exact .inl h
    · by_cases h2 : b.cps.toList < a.cps.toList
      · exact .inr (.inr h2)
      · exact .inr (.inl (Str.ext' (List.le_antisymm (List.not_lt.mp h2) (List.not_lt.mp h))))
theorem rising_all : ∀ {p : Str} {l : List Str}, risingS p l = true → ∀ x ∈ l, ltS x p = false
  | p, [], _, x, h => by simp at h
  | p, y :: r, h, x, hx => by
    have h : (!ltCps y.cps.toList p.cps.toList && risingS y r) = true := h
    rw [Bool.and_eq_true, ltCps_eq] at h
    have h1 : ltS y p = false := by simpa [ltS] using h.1
    rcases List.mem_cons.mp hx with e | hx
    · rw [e]; exact h1
    · have h2 := rising_all h.2 x hx
      cases e : ltS x p with
      | false => rfl
      | true =>
        rcases linS.tot y p with q | q | q
        · rw [q] at h1; cases h1
        · subst q; rw [e] at h2; cases h2
        · rw [linS.tr _ _ _ e q] at h2; cases h2
theorem sortedS_inc : ∀ {l : List Str}, sortedS l = true → l.Nodup → Inc ltS l
  | [], _, _ => .nil
  | x :: r, h, nd => by
    have h : risingS x r = true := h
    have nd' := List.nodup_cons.mp nd
    refine List.pairwise_cons.mpr ⟨fun y hy => ?_, sortedS_inc ?_ nd'.2⟩
    · have q := rising_all h y hy
      rcases linS.tot x y with z | z | z
      · exact z
      · subst z; exact (nd'.1 hy).elim
      · rw [z] at q; cases q
    · cases r with
      | nil => rfl
      | cons y r =>
        have h : (!ltCps y.cps.toList x.cps.toList && risingS y r) = true := h
        rw [Bool.and_eq_true] at h
        exact h.2
end DL
namespace DL
open PySem PySem.Spec PyProof.Rows L2
theorem mem_ddAll_ {z : Key} : ∀ {ls acc : List Key}, z ∈ ls.foldl ddK acc ↔ z ∈ acc ∨ z ∈ ls
  | [], acc => by simp
  | k :: r, acc => by
    rw [List.foldl_cons, mem_ddAll_, mem_ddK, List.mem_cons]
    constructor
    · rintro ((h | h) | h)
      · exact .inl h
      · exact .inr (.inl h)
      · exact .inr (.inr h)
    · rintro (h | h | h)
      · exact .inl (.inl h)
      · exact .inl (.inr h)
      · exact .inr h
theorem mem_ddAll {z : Key} {ls : List Key} : z ∈ ddAll ls ↔ z ∈ ls := by
  unfold ddAll
  rw [mem_ddAll_]
  simp
theorem nodup_ddAll_ : ∀ {ls acc : List Key}, acc.Nodup → (ls.foldl ddK acc).Nodup
  | [], acc, h => h
  | k :: r, acc, h => nodup_ddAll_ (ls := r) (ddK_nodup h)
theorem nodup_ddAll {ls : List Key} : (ddAll ls).Nodup := nodup_ddAll_ .nil
section
variable {P : Program} {w : World} {A : Around} {E : Value → Shared → Prop} {s : Shared} {a : Addr} {ks : List Key}
/-- the sorted list of a set's members, by what the sort leaves of them -/
theorem sortedM_ {Q : Value → Shared → Prop} {κ : PyProof.Rows.KeyKind} (hO : κ.OneLt) (R : SetM P w s.heap a ks) (hh : A.handled = none) (h64 : ks.length < 64)
    (hK : ∀ vs : List Value, (∀ v ∈ vs, RelV (kV (keyM v)) v ∧ keyM v ∈ ks) → PyProof.Rows.KeysOf κ (pairsOf vs) ∧ ∀ v₁ v₂ rest, vs = v₁ :: v₂ :: rest → keyKind' (v₁ :: v₂ :: rest).toArray = pure oneType')
    (hQ : ∀ s' p (vs : List Value) (xs : Array Keyed) (c : Nat), (∀ b o, s.heap.get? b = some o → s'.heap.get? b = some o) → s'.gens = s.gens → s'.os = s.os → s.heap.objs.size ≤ p →
      s'.heap.get? p = some (seqObj "list" (xs.map (·.2)) c) → (∀ v ∈ vs, RelV (kV (keyM v)) v) → (vs.map keyM).Perm ks → xs.Perm (pairsOf vs) → SortedToK κ xs (pairsOf vs).size → Q (.ref p) s') :
    wpAny (model P w) A (call (.builtin "sorted") [.ref a]) Q E s := by
  obtain ⟨o, es, ep, t, ho, hex, hd, g, pk, nd, hb, hf, hr, hl⟩ := R
  refine Calls.call_function_entry kind_sorted plain_sorted entry_sorted (args_sorted1 _) ?_
  unfold Builtin.«sorted»
  refine wpAny_bind (m := checkCount "sorted" 1 1 _) (wpAny_pure (wpAny_bind (collect_set (A := A.in1) hh ⟨o, ho, hex.1, hd⟩ hf hb hr hl fun s1 vs k1 hz g1 o1 pm => ?_)))
  have pv : (vs.map keyM).Perm ks := by
    have q := pm.map keyM
    rw [List.map_map] at q
    exact q.trans pk
  have hvl : vs.length = ks.length := by rw [← pv.length_eq, List.length_map]
  have hg : ∀ v ∈ vs, RelV (kV (keyM v)) v := fun v hv => by
    obtain ⟨e, he, q⟩ := List.mem_map.mp (pm.mem_iff.mp hv)
    rw [← q]
    exact (g e he).1
  obtain ⟨hk1, hk2⟩ := hK vs fun v hv => ⟨hg v hv, pv.mem_iff.mp (List.mem_map.mpr ⟨v, hv, rfl⟩)⟩
  refine wpAny_bind (wpAny_newList ?_ (by rw [hvl, sizeLine_eq]; omega))
  have hoL : (s1.heap.push (seqObj "list" vs.toArray 0)).get? s1.heap.objs.size = some (seqObj "list" vs.toArray 0) := Heap.get?_push_size _ rfl
  refine wpAny_bind (wpAny_holding (wpAny_call_entry slot_list_sort ⟨_, hoL, rfl⟩ entry_list_sort (list_sort_treeK hO hoL hk1 hk2 (by rw [hvl]; exact h64) fun st' a1 a2 => ⟨_, rfl, ?_⟩) (args_list_sort _)))
  obtain ⟨c, hc⟩ := sortedHeap_at (vs := vs) (out := (arrOf st').map (·.2)) hoL
  refine wpAny_pure ⟨_, rfl, hQ _ s1.heap.objs.size vs (arrOf st') c (fun b u e => ?_) g1 o1 hz hc hg pv a1 a2⟩
  have q := k1 b u e
  have hlt := Heap.lt_size q
  show (sortedHeap (s1.heap.push (seqObj "list" vs.toArray 0)) s1.heap.objs.size vs _).get? b = some u
  rw [sortedHeap_old (Nat.ne_of_lt hlt) (by rw [size_push']; exact Nat.lt_succ_of_lt hlt)]
  exact Heap.get?_push_of_some _ q
theorem strs_keyM : ∀ {vs : List Value}, (∀ v ∈ vs, RelV (kV (keyM v)) v ∧ ∃ x, keyM v = .inr x) → StrsAre vs (vs.map strOf)
  | [], _ => .nil
  | v :: vs, h => by
    obtain ⟨h1, x, e⟩ := h v (by simp)
    rw [e] at h1
    obtain ⟨t, rfl⟩ := (show ∃ t, v = Value.str x t from h1)
    exact .cons x t (strs_keyM fun u hu => h u (by simp [hu]))
theorem ints_keyM : ∀ {vs : List Value}, (∀ v ∈ vs, RelV (kV (keyM v)) v ∧ ∃ x, keyM v = .inl x) → ∃ ns, IntsAre vs ns ∧ vs.map keyM = ns.map Sum.inl
  | [], _ => ⟨[], .nil, rfl⟩
  | v :: vs, h => by
    obtain ⟨h1, x, e⟩ := h v (by simp)
    obtain ⟨ns, h2, h3⟩ := ints_keyM (vs := vs) fun u hu => h u (by simp [hu])
    rw [e] at h1
    obtain ⟨t, rfl⟩ := (show ∃ t, v = Value.int x t from h1)
    exact ⟨x :: ns, .cons x t h2, by rw [List.map_cons, List.map_cons, h3]; rfl⟩
theorem key_strs : ∀ {vs : List Value}, (∀ v ∈ vs, RelV (kV (keyM v)) v ∧ ∃ x, keyM v = .inr x) → vs.map keyM = (vs.map strOf).map Sum.inr
  | [], _ => rfl
  | v :: vs, h => by
    obtain ⟨h1, x, e⟩ := h v (by simp)
    rw [e] at h1
    obtain ⟨t, rfl⟩ := (show ∃ t, v = Value.str x t from h1)
    rw [List.map_cons, List.map_cons, List.map_cons, key_strs fun u hu => h u (by simp [hu])]
    rfl
theorem inr_inj {l : List Str} {x : Str} : (Sum.inr x : Key) ∈ l.map Sum.inr ↔ x ∈ l := by
  rw [List.mem_map]
  exact ⟨fun ⟨y, h, e⟩ => by cases e; exact h, fun h => ⟨x, h, rfl⟩⟩
theorem inl_inj {l : List Int} {x : Int} : (Sum.inl x : Key) ∈ l.map Sum.inl ↔ x ∈ l := by
  rw [List.mem_map]
  exact ⟨fun ⟨y, h, e⟩ => by cases e; exact h, fun h => ⟨x, h, rfl⟩⟩
theorem nodup_inr {l : List Str} (h : (l.map (Sum.inr : Str → Key)).Nodup) : l.Nodup := List.Pairwise.of_map _ (fun _ _ hne e => hne (congrArg _ e)) h
theorem nodup_inl {l : List Int} (h : (l.map (Sum.inl : Int → Key)).Nodup) : l.Nodup := List.Pairwise.of_map _ (fun _ _ hne e => hne (congrArg _ e)) h
theorem SetM.nd {h : Heap} (R : SetM P w h a ks) : ks.Nodup := by
  obtain ⟨_, _, _, _, _, _, _, _, _, nd, _⟩ := R
  exact nd
/-- sorted(s), s a set of texts -/
theorem sortedM_str {Q : Value → Shared → Prop} {xs : List Str} (R : SetM P w s.heap a ks) (hks : ∀ k, k ∈ ks ↔ k ∈ xs.map Sum.inr) (hh : A.handled = none) (h64 : ks.length < 64)
    (hQ : ∀ s' p (out : Array Value) (c : Nat), (∀ b o, s.heap.get? b = some o → s'.heap.get? b = some o) → s'.gens = s.gens → s'.os = s.os → s.heap.objs.size ≤ p →
      s'.heap.get? p = some (seqObj "list" out c) → StrsAre out.toList (srtO ltS xs) → Q (.ref p) s') :
    wpAny (model P w) A (call (.builtin "sorted") [.ref a]) Q E s := by
  have allr : ∀ k ∈ ks, ∃ x, k = .inr x := fun k hk => by
    obtain ⟨x, _, e⟩ := List.mem_map.mp ((hks k).mp hk)
    exact ⟨x, e.symm⟩
  refine sortedM_ PyProof.Rows.strKind_oneLt R hh h64 (fun vs hv => ?_) fun s' p vs ys c k1 g1 o1 hp hc hg pv hpm hs => ?_
  · have hS := strs_keyM fun v h => ⟨(hv v h).1, allr _ (hv v h).2⟩
    exact ⟨hS.keysOf, fun v₁ v₂ rest e => keyKind_strs (by rw [← e]; exact hS)⟩
  · have hr : ∀ v ∈ vs, RelV (kV (keyM v)) v ∧ ∃ x, keyM v = .inr x := fun v h => ⟨hg v h, allr _ (pv.mem_iff.mp (List.mem_map.mpr ⟨v, h, rfl⟩))⟩
    have hS := strs_keyM hr
    obtain ⟨ss', h1, h2, h3⟩ := sorted_out_str hS hpm hs
    have kk := key_strs hr
    have nd : ss'.Nodup := by
      refine h2.nodup_iff.mpr (nodup_inr ?_)
      rw [← kk]
      exact pv.nodup_iff.mpr R.nd
    have e : ss' = srtO ltS xs := srtO_eq linS (sortedS_inc h3 nd) fun z => by
      rw [h2.mem_iff, ← inr_inj, ← kk, pv.mem_iff, hks, inr_inj]
    rw [e] at h1
    exact hQ s' p _ c k1 g1 o1 hp hc h1
/-- sorted(s), s a set of ints -/
theorem sortedM_int {Q : Value → Shared → Prop} {xs : List Int} (R : SetM P w s.heap a ks) (hks : ∀ k, k ∈ ks ↔ k ∈ xs.map Sum.inl) (hh : A.handled = none) (h64 : ks.length < 64)
    (hQ : ∀ s' p (out : Array Value) (c : Nat), (∀ b o, s.heap.get? b = some o → s'.heap.get? b = some o) → s'.gens = s.gens → s'.os = s.os → s.heap.objs.size ≤ p →
      s'.heap.get? p = some (seqObj "list" out c) → IntsAre out.toList (srtO ltI xs) → Q (.ref p) s') :
    wpAny (model P w) A (call (.builtin "sorted") [.ref a]) Q E s := by
  obtain ⟨o, es, ep, t, ho, hex, hd, g, pk, nd, hb, hf, hr, hl⟩ := R
  refine Calls.call_function_entry kind_sorted plain_sorted entry_sorted (args_sorted1 _) ?_
  unfold Builtin.«sorted»
  refine wpAny_bind (m := checkCount "sorted" 1 1 _) (wpAny_pure (wpAny_bind (collect_set (A := A.in1) hh ⟨o, ho, hex.1, hd⟩ hf hb hr hl fun s1 vs k1 hz g1 o1 pm => ?_)))
  have pv : (vs.map keyM).Perm ks := by
    have q := pm.map keyM
    rw [List.map_map] at q
    exact q.trans pk
  have hvl : vs.length = ks.length := by rw [← pv.length_eq, List.length_map]
  obtain ⟨ns, hI, en⟩ := ints_keyM (vs := vs) fun v hv => by
    obtain ⟨e, he, q⟩ := List.mem_map.mp (pm.mem_iff.mp hv)
    obtain ⟨x, _, ex⟩ := List.mem_map.mp ((hks _).mp (pv.mem_iff.mp (List.mem_map.mpr ⟨v, hv, rfl⟩)))
    exact ⟨by rw [← q]; exact (g e he).1, x, ex.symm⟩
  refine wpAny_bind (wpAny_newList ?_ (by rw [hvl, sizeLine_eq]; omega))
  have hoL : (s1.heap.push (seqObj "list" vs.toArray 0)).get? s1.heap.objs.size = some (seqObj "list" vs.toArray 0) := Heap.get?_push_size _ rfl
  refine wpAny_bind (wpAny_holding (wpAny_call_entry slot_list_sort ⟨_, hoL, rfl⟩ entry_list_sort (list_sort_tree hoL hI (by rw [hvl]; exact h64) fun out ns' a1 a2 a3 => ⟨_, rfl, ?_⟩) (args_list_sort _)))
  obtain ⟨c, hc⟩ := sortedHeap_at (vs := vs) (out := out) hoL
  have nd' : ns'.Nodup := by
    refine a2.nodup_iff.mpr (nodup_inl ?_)
    rw [← en]
    exact pv.nodup_iff.mpr nd
  have e : ns' = srtO ltI xs := srtO_eq linI (List.Pairwise.imp (fun {x y} h => by simp [ltI, h]) (lt_of_le_nodup ns' a3 nd')) fun z => by
    rw [a2.mem_iff, ← inl_inj, ← en, pv.mem_iff, hks, inl_inj]
  rw [e] at a1
  refine wpAny_pure ⟨_, rfl, hQ _ s1.heap.objs.size out c (fun b u e => ?_) g1 o1 hz hc a1⟩
  have q := k1 b u e
  have hlt := Heap.lt_size q
  show (sortedHeap (s1.heap.push (seqObj "list" vs.toArray 0)) s1.heap.objs.size vs out).get? b = some u
  rw [sortedHeap_old (Nat.ne_of_lt hlt) (by rw [size_push']; exact Nat.lt_succ_of_lt hlt)]
  exact Heap.get?_push_of_some _ q
end
end DL
namespace DL
open PySem PySem.Spec PyProof.Rows L2
/-! data without the heap: tuples by value, all that can change by its address -/
/-- an object that stays as it is -/
def exT (a : Addr) (oe : Obj) : HO := .ext fun h => h.get? a = some oe
/-- the exception's object: class, data, and that its context is None -/
structure ExO (K : PySem.W.Frag) (x : Str) (d : Option Addr) (oe : Obj) : Prop where
  lf : Lf K x
  cls : oe.cls = .ref (He.ga K x)
  dict : oe.dict = d
  dat : ∃ vs : Array Value, oe.data = .fields vs ∧ vs[2]? = some .none
/-- a list that is only read: the script -/
def RoL (K : PySem.W.Frag) (H : Hp) (a : Addr) (xs : List V) : Prop :=
  (∃ o, H a = some (.frz o (.lst xs))) ∨ ∃ (o : Obj) (its : Array Value) (n : Nat), K.lookup a = some o ∧ o.cls = .type "list" ∧ o.dict = none ∧ o.data = .seq its n ∧ its.size ≤ sizeLine ∧ Vals xs its.toList
theorem RoL.sq {K : PySem.W.Frag} {H : Hp} {a : Addr} {xs : List V} (h : RoL K H a xs) : SqL K H a xs := by
  rcases h with h | h
  · exact .inl (.inr h)
  · exact .inr h
theorem frz_sq {K : PySem.W.Frag} {H : Hp} {a : Addr} {o : Obj} {xs : List V} (h : H a = some (.frz o (.lst xs))) : SqL K H a xs := .inl (.inr ⟨o, h⟩)
mutual
inductive Rep (K : PySem.W.Frag) (H : Hp) : V → D → Prop
  | non : Rep K H .non .non
  | bl (b : Bool) : Rep K H (.bl b) (.bl b)
  | int (i : Int) : Rep K H (.int i) (.int i)
  | str (x : Str) : Rep K H (.str x) (.str x)
  | ref (a : Addr) : Rep K H (.ref a) (.ref a)
  | ty (n : String) : Rep K H (.ty n) (.ty n)
  | tup {a : Addr} {vs : List V} {ds : List D} : SqT K H a vs → Reps K H vs ds → Rep K H (.ref a) (.tup ds)
  | sc {a : Addr} {vs : List V} {ds : List D} : RoL K H a vs → Reps K H vs ds → Rep K H (.ref a) (.sc ds)
  | rl {a : Addr} {o : Obj} {vs : List V} {ds : List D} : H a = some (.frz o (.lst vs)) → Reps K H vs ds → Rep K H (.ref a) (.rl ds)
  | rd {a : Addr} {o : Obj} {m : List (Key × V)} {ks : List Key} {ds : List D} : H a = some (.frz o (.dK m)) → m.map (·.1) = ks → Reps K H (m.map (·.2)) ds → Rep K H (.ref a) (.rd ks ds)
  | exc0 {a : Addr} {oe : Obj} {x : Str} : H a = some (exT a oe) → ExO K x none oe → Rep K H (.ref a) (.exc x [] [])
  | exc {a dd : Addr} {oe : Obj} {x : Str} {m : List (Str × V)} {ks : List Str} {ds : List D} : H a = some (exT a oe) → ExO K x (some dd) oe → H dd = some (.xd m) → m.map (·.1) = ks → Reps K H (m.map (·.2)) ds → Rep K H (.ref a) (.exc x ks ds)
  | fn (x : Str) : Rep K H (.ref (He.ga K x)) (.fn x)
  | nt {a : Addr} {o : Obj} {vs : List V} {ds : List D} : H a = some (.frz o (.tup vs)) → o.dict = none → Reps K H vs ds → Rep K H (.ref a) (.nt ds)
  | lam {f c : Addr} {vs : List V} {ds : List D} : H c = some (LamX.CodeO c lamQ) → Reps K H vs ds → Rep K H (.ref f) (.lam f c vs ds)
inductive Reps (K : PySem.W.Frag) (H : Hp) : List V → List D → Prop
  | nil : Reps K H [] []
  | cons {v : V} {vs : List V} {d : D} {ds : List D} : Rep K H v d → Reps K H vs ds → Reps K H (v :: vs) (d :: ds)
end
/-- tuples stay -/
structure TupExt (K : PySem.W.Frag) (H H' : Hp) : Prop where
  t : ∀ a xs, SqT K H a xs → SqT K H' a xs
  l : ∀ a xs, RoL K H a xs → RoL K H' a xs
  d : ∀ a o u, H a = some (.frz o u) → H' a = some (.frz o u)
  e : ∀ a φ, H a = some (.ext φ) → H' a = some (.ext φ)
  x : ∀ a fs, H a = some (.xd fs) → H' a = some (.xd fs)
theorem TupExt.refl {K : PySem.W.Frag} {H : Hp} : TupExt K H H := ⟨fun _ _ h => h, fun _ _ h => h, fun _ _ _ h => h, fun _ _ h => h, fun _ _ h => h⟩
theorem TupExt.trans {K : PySem.W.Frag} {H H1 H2 : Hp} (a : TupExt K H H1) (b : TupExt K H1 H2) : TupExt K H H2 := ⟨fun c xs h => b.t c xs (a.t c xs h), fun c xs h => b.l c xs (a.l c xs h), fun c o u h => b.d c o u (a.d c o u h), fun c o h => b.e c o (a.e c o h), fun c o h => b.x c o (a.x c o h)⟩
section
variable {K : PySem.W.Frag} {H H' : Hp}
mutual
theorem Rep.mono (t : TupExt K H H') : ∀ {v : V} {d : D}, Rep K H v d → Rep K H' v d
  | _, _, .non => .non
  | _, _, .bl b => .bl b
  | _, _, .int i => .int i
  | _, _, .str x => .str x
  | _, _, .ref a => .ref a
  | _, _, .ty n => .ty n
  | _, _, .tup h r => .tup (t.t _ _ h) (Reps.mono t r)
  | _, _, .sc h r => .sc (t.l _ _ h) (Reps.mono t r)
  | _, _, .rl h r => .rl (t.d _ _ _ h) (Reps.mono t r)
  | _, _, .rd h e r => .rd (t.d _ _ _ h) e (Reps.mono t r)
  | _, _, .exc0 h o => .exc0 (t.e _ _ h) o
  | _, _, .exc h o h2 e r => .exc (t.e _ _ h) o (t.x _ _ h2) e (Reps.mono t r)
  | _, _, .fn x => .fn x
  | _, _, .nt h e r => .nt (t.d _ _ _ h) e (Reps.mono t r)
  | _, _, .lam h r => .lam (t.e _ _ h) (Reps.mono t r)
theorem Reps.mono (t : TupExt K H H') : ∀ {vs : List V} {ds : List D}, Reps K H vs ds → Reps K H' vs ds
  | _, _, .nil => .nil
  | _, _, .cons a b => .cons (Rep.mono t a) (Reps.mono t b)
end
theorem Reps.length : ∀ {vs : List V} {ds : List D}, Reps K H vs ds → vs.length = ds.length
  | _, _, .nil => rfl
  | _, _, .cons _ b => by rw [List.length_cons, List.length_cons, Reps.length b]
theorem Reps.get : ∀ {vs : List V} {ds : List D} {i : Nat} {d : D}, Reps K H vs ds → ds[i]? = some d → ∃ v, vs[i]? = some v ∧ Rep K H v d
  | _, _, _, _, .nil, e => by simp at e
  | _, _, 0, _, .cons a _, e => by
    have e' := Option.some.inj e
    subst e'
    exact ⟨_, rfl, a⟩
  | _, _, i + 1, d, .cons _ b, e => by
    obtain ⟨v, h1, h2⟩ := Reps.get (i := i) (d := d) b (by simpa using e)
    exact ⟨v, by simpa using h1, h2⟩
theorem Reps.getV : ∀ {vs : List V} {ds : List D} {i : Nat} {v : V}, Reps K H vs ds → vs[i]? = some v → ∃ d, ds[i]? = some d ∧ Rep K H v d
  | _, _, _, _, .nil, e => by simp at e
  | _, _, 0, _, .cons a _, e => by
    have e' := Option.some.inj e
    subst e'
    exact ⟨_, rfl, a⟩
  | _, _, i + 1, d, .cons _ b, e => by
    obtain ⟨v, h1, h2⟩ := Reps.getV (i := i) (v := d) b (by simpa using e)
    exact ⟨v, by simpa using h1, h2⟩
theorem Reps.append : ∀ {vs ws : List V} {ds es : List D}, Reps K H vs ds → Reps K H ws es → Reps K H (vs ++ ws) (ds ++ es)
  | _, _, _, _, .nil, s => s
  | _, _, _, _, .cons a b, s => .cons a (Reps.append b s)
theorem Reps.set {x : V} {d : D} (r : Rep K H x d) : ∀ {vs : List V} {ds : List D} (i : Nat), Reps K H vs ds → Reps K H (vs.set i x) (ds.set i d)
  | _, _, _, .nil => .nil
  | _, _, 0, .cons _ t => .cons r t
  | _, _, i + 1, .cons q t => .cons q (Reps.set r i t)
theorem Reps.take : ∀ {vs : List V} {ds : List D} (n : Nat), Reps K H vs ds → Reps K H (vs.take n) (ds.take n)
  | _, _, 0, _ => .nil
  | _, _, _ + 1, .nil => .nil
  | _, _, n + 1, .cons r t => .cons r (Reps.take n t)
theorem Reps.drop : ∀ {vs : List V} {ds : List D} (n : Nat), Reps K H vs ds → Reps K H (vs.drop n) (ds.drop n)
  | _, _, 0, r => r
  | _, _, _ + 1, .nil => .nil
  | _, _, n + 1, .cons _ t => Reps.drop n t
theorem Reps.reverse {vs : List V} {ds : List D} (h : Reps K H vs ds) : Reps K H vs.reverse ds.reverse := by
  induction vs generalizing ds with
  | nil => cases h; exact .nil
  | cons v vs ih =>
    cases h with
    | cons a b =>
      rw [List.reverse_cons, List.reverse_cons]
      exact (ih b).append (.cons a .nil)
end
/-! the store -/
inductive Cl where
  | lst (ds : List D)
  | dK (kvs : List (Key × D))
  | dT (kvs : List (List Key × D))
  | ins (C dx : Addr) (fs : List (Str × D))
  | tbl
abbrev Sto := Addr → Option Cl
def put (G : Sto) (a : Addr) (c : Cl) : Sto := fun b => if b = a then some c else G b
theorem put_same {G : Sto} {a : Addr} {c : Cl} : put G a c a = some c := by unfold put; rw [if_pos rfl]
theorem put_ne {G : Sto} {a b : Addr} {c : Cl} (h : b ≠ a) : put G a c b = G b := by unfold put; rw [if_neg h]
def drop (G : Sto) (a : Addr) : Sto := fun b => if b = a then none else G b
theorem drop_ne {G : Sto} {a b : Addr} (h : b ≠ a) : drop G a b = G b := by unfold drop; rw [if_neg h]
theorem drop_same {G : Sto} {a : Addr} : drop G a a = none := by unfold drop; rw [if_pos rfl]
theorem put_put {G : Sto} {a : Addr} {c c' : Cl} : put (put G a c) a c' = put G a c' := by
  funext b
  unfold put
  split <;> rfl
def RepKV {κ : Type} (K : PySem.W.Frag) (H : Hp) : List (κ × V) → List (κ × D) → Prop
  | [], [] => True
  | (k, v) :: r, (j, d) :: q => k = j ∧ Rep K H v d ∧ RepKV K H r q
  | _, _ => False
theorem RepKV.mono {κ : Type} {K : PySem.W.Frag} {H H' : Hp} (t : TupExt K H H') : ∀ {l : List (κ × V)} {m : List (κ × D)}, RepKV K H l m → RepKV K H' l m
  | [], [], h => h
  | (_, _) :: _, (_, _) :: _, ⟨a, b, c⟩ => ⟨a, b.mono t, RepKV.mono t c⟩
  | [], _ :: _, h => h.elim
  | _ :: _, [], h => h.elim
def CRep (K : PySem.W.Frag) (H : Hp) (a : Addr) : Cl → Prop
  | .lst ds => ∃ vs, H a = some (.lst vs) ∧ Reps K H vs ds
  | .dK kvs => ∃ m, H a = some (.dK m) ∧ RepKV K H m kvs
  | .dT kvs => ∃ m, H a = some (.dT m) ∧ RepKV K H m kvs
  | .ins C dx fs => ∃ m, H a = some (.ins C dx m) ∧ RepKV K H m fs
  | .tbl => LamX.TabS H a lamQ
def Sim (K : PySem.W.Frag) (G : Sto) (H : Hp) : Prop := ∀ a c, G a = some c → CRep K H a c
structure Ext (K : PySem.W.Frag) (G : Sto) (H : Hp) (G' : Sto) (H' : Hp) : Prop where
  tup : TupExt K H H'
  frm : ∀ a o, H a = some o → (∀ ps, o ≠ .tbl ps) → G a = none → H' a = some o ∧ G' a = none
section
variable {K : PySem.W.Frag} {G G' G1 G2 : Sto} {H H' H1 H2 : Hp} {p a : Addr} {o : HO} {c : Cl}
theorem Ext.refl : Ext K G H G H := ⟨.refl, fun _ _ h _ g => ⟨h, g⟩⟩
theorem Ext.trans (x : Ext K G H G1 H1) (y : Ext K G1 H1 G2 H2) : Ext K G H G2 H2 :=
  ⟨x.tup.trans y.tup, fun a o h n g => y.frm a o (x.frm a o h n g).1 n (x.frm a o h n g).2⟩
theorem CRep.mono (t : TupExt K H H') (k : H' a = H a) : ∀ {c : Cl}, CRep K H a c → CRep K H' a c
  | .lst _, ⟨vs, h, r⟩ => ⟨vs, k.trans h, r.mono t⟩
  | .dK _, ⟨m, h, r⟩ => ⟨m, k.trans h, r.mono t⟩
  | .dT _, ⟨m, h, r⟩ => ⟨m, k.trans h, r.mono t⟩
  | .ins _ _ _, ⟨m, h, r⟩ => ⟨m, k.trans h, r.mono t⟩
  | .tbl, ⟨ps, h1, h2, h3⟩ => ⟨ps, k.trans h1, h2, fun pos cv hc => let ⟨c, e1, e2⟩ := h3 pos cv hc; ⟨c, e1, t.e _ _ e2⟩⟩
theorem CRep.there : ∀ {c : Cl}, CRep K H a c → ∃ o, H a = some o
  | .lst _, ⟨_, h, _⟩ => ⟨_, h⟩
  | .dK _, ⟨_, h, _⟩ => ⟨_, h⟩
  | .dT _, ⟨_, h, _⟩ => ⟨_, h⟩
  | .ins _ _ _, ⟨_, h, _⟩ => ⟨_, h⟩
  | .tbl, ⟨_, h, _⟩ => ⟨_, h⟩
theorem Sim.free (s : Sim K G H) (h : H p = none) : G p = none := by
  cases e : G p with
  | none => rfl
  | some c =>
    obtain ⟨o, q⟩ := (s p c e).there
    rw [h] at q
    cases q
theorem tup_new (h : H p = none) : TupExt K H (upd H p o) := ⟨fun a xs q => by
  rcases q with (q | ⟨u, q⟩) | q
  · exact .inl (.inl (by rw [upd_ne (ne_of_none q h)]; exact q))
  · exact .inl (.inr ⟨u, by rw [upd_ne (ne_of_none q h)]; exact q⟩)
  · exact .inr q, fun a xs q => by
  rcases q with ⟨u, q⟩ | q
  · exact .inl ⟨u, by rw [upd_ne (ne_of_none q h)]; exact q⟩
  · exact .inr q, fun a o u q => by rw [upd_ne (ne_of_none q h)]; exact q, fun a o q => by rw [upd_ne (ne_of_none q h)]; exact q, fun a o q => by rw [upd_ne (ne_of_none q h)]; exact q⟩
def noTup : HO → Bool
  | .tup _ => false
  | .frz _ _ => false
  | .ext _ => false
  | .xd _ => false
  | _ => true
theorem tup_mut {o0 : HO} (h : H p = some o0) (n : noTup o0 = true) : TupExt K H (upd H p o) := by
  have ne0 : ∀ {a : Addr} {o1 : HO}, H a = some o1 → noTup o1 = false → a ≠ p := fun q n1 e => by
    subst e
    rw [h] at q
    cases q
    rw [n] at n1
    cases n1
  refine ⟨fun a xs q => ?_, fun a xs q => ?_, fun a ob u q => ?_, fun a φ q => by rw [upd_ne (ne0 q rfl)]; exact q, fun a fs q => by rw [upd_ne (ne0 q rfl)]; exact q⟩
  rcases q with (q | ⟨u, q⟩) | q
  · refine .inl (.inl ?_)
    have ne : a ≠ p := fun e => by
      subst e
      rw [h] at q
      cases q
      cases n
    rw [upd_ne ne]
    exact q
  · refine .inl (.inr ⟨u, ?_⟩)
    have ne : a ≠ p := fun e => by
      subst e
      rw [h] at q
      cases q
      cases n
    rw [upd_ne ne]
    exact q
  · exact .inr q
  rcases q with ⟨u, q⟩ | q
  · refine .inl ⟨u, ?_⟩
    have ne : a ≠ p := fun e => by
      subst e
      rw [h] at q
      cases q
      cases n
    rw [upd_ne ne]
    exact q
  · exact .inr q
  have ne : a ≠ p := fun e => by
    subst e
    rw [h] at q
    cases q
    cases n
  rw [upd_ne ne]
  exact q
/-- a new object that the store bears -/
theorem Sim.new (s : Sim K G H) (h : H p = none) (n : CRep K (upd H p o) p c) : Sim K (put G p c) (upd H p o) := fun a c' q => by
  by_cases e : a = p
  · subst e
    rw [put_same] at q
    cases q
    exact n
  · rw [put_ne e] at q
    exact (s a c' q).mono (tup_new h) (upd_ne e)
theorem Ext.new (h : H p = none) : Ext K G H (put G p c) (upd H p o) := ⟨tup_new h, fun a o q _ g => by
  have ne := ne_of_none q h
  rw [upd_ne ne, put_ne ne]
  exact ⟨q, g⟩⟩
/-- a new object that the store does not bear (a tuple) -/
theorem Sim.newT (s : Sim K G H) (h : H p = none) : Sim K G (upd H p o) := fun a c' q => by
  have ne : a ≠ p := fun e => by
    subst e
    rw [s.free h] at q
    cases q
  exact (s a c' q).mono (tup_new h) (upd_ne ne)
theorem Ext.newT (h : H p = none) : Ext K G H G (upd H p o) := ⟨tup_new h, fun a o q _ g => by
  have ne := ne_of_none q h
  rw [upd_ne ne]
  exact ⟨q, g⟩⟩
/-- an object of the store is changed -/
theorem Sim.mut {o0 : HO} {c0 : Cl} (s : Sim K G H) (h : H p = some o0) (n : noTup o0 = true) (hc : CRep K (upd H p o) p c) : Sim K (put G p c) (upd H p o) := fun a c' q => by
  by_cases e : a = p
  · subst e
    rw [put_same] at q
    cases q
    exact hc
  · rw [put_ne e] at q
    exact (s a c' q).mono (tup_mut h n) (upd_ne e)
theorem Ext.mut {o0 : HO} {c0 : Cl} (g : G p = some c0) (h : H p = some o0) (n : noTup o0 = true) : Ext K G H (put G p c) (upd H p o) := ⟨tup_mut h n, fun a o q _ z => by
  have ne : a ≠ p := fun e => by
    subst e
    rw [g] at z
    cases z
  rw [upd_ne ne, put_ne ne]
  exact ⟨q, z⟩⟩
/-- an object of the store is locked, and let go -/
theorem Sim.lock {o0 : HO} {ob : Obj} (s : Sim K G H) (h : H p = some o0) (n : noTup o0 = true) : Sim K (drop G p) (upd H p (.frz ob o0)) := fun a c' q => by
  by_cases e : a = p
  · subst e
    rw [drop_same] at q
    cases q
  · rw [drop_ne e] at q
    exact (s a c' q).mono (tup_mut h n) (upd_ne e)
theorem Ext.lock {o0 : HO} {ob : Obj} {c0 : Cl} (g : G p = some c0) (h : H p = some o0) (n : noTup o0 = true) : Ext K G H (drop G p) (upd H p (.frz ob o0)) := ⟨tup_mut h n, fun a o q _ z => by
  have ne : a ≠ p := fun e => by
    subst e
    rw [g] at z
    cases z
  rw [upd_ne ne, drop_ne ne]
  exact ⟨q, z⟩⟩
/-- fewer cells -/
def Dn (G G' : Sto) : Prop := ∀ a c, G' a = some c → G a = some c
theorem Dn.refl : Dn G G := fun _ _ h => h
theorem Dn.trans (a : Dn G G1) (b : Dn G1 G2) : Dn G G2 := fun x c h => a x c (b x c h)
theorem Dn.sim (d : Dn G G') (s : Sim K G H) : Sim K G' H := fun a c h => s a c (d a c h)
theorem Dn.non (d : Dn G G') (h : G p = none) : G' p = none := by
  cases e : G' p with
  | none => rfl
  | some c => rw [d p c e] at h; cases h
theorem Dn.ext (d : Dn G G') : Ext K G H G' H := ⟨.refl, fun a o h _ g => ⟨h, d.non g⟩⟩
theorem Dn.new {c : Cl} (h : G p = none) : Dn (put G p c) G := fun a c' e => by
  have n : a ≠ p := fun z => by
    subst z
    rw [h] at e
    cases e
  rw [put_ne n]
  exact e
end
/-! slots -/
abbrev Ev := List (Option D)
structure RepS (K : PySem.W.Frag) (H : Hp) (σ : L2.St) (ρ : Ev) : Prop where
  len : σ.length = ρ.length
  at_ : ∀ (i : Nat) (d : D), ρ[i]? = some (some d) → ∃ v, σ[i]? = some (some v) ∧ Rep K H v d
theorem RepS.mono {K : PySem.W.Frag} {H H' : Hp} {σ : L2.St} {ρ : Ev} (r : RepS K H σ ρ) (t : TupExt K H H') : RepS K H' σ ρ :=
  ⟨r.len, fun i d e => let ⟨v, h1, h2⟩ := r.at_ i d e; ⟨v, h1, h2.mono t⟩⟩
theorem RepS.set {K : PySem.W.Frag} {H : Hp} {σ : L2.St} {ρ : Ev} {v : V} {d : D} (r : RepS K H σ ρ) (i : Nat) (h : Rep K H v d) : RepS K H (σ.set i (some v)) (ρ.set i (some d)) := by
  refine ⟨by rw [List.length_set, List.length_set, r.len], fun j e q => ?_⟩
  by_cases hj : i = j
  · subst hj
    have hl : i < ρ.length := by
      rw [List.getElem?_set] at q
      split at q
      · split at q
        · assumption
        · cases q
      · contradiction
    rw [List.getElem?_set_self hl] at q
    cases q
    exact ⟨v, List.getElem?_set_self (by rw [r.len]; exact hl), h⟩
  · rw [List.getElem?_set_ne hj] at q
    obtain ⟨u, h1, h2⟩ := r.at_ j e q
    exact ⟨u, by rw [List.getElem?_set_ne hj]; exact h1, h2⟩
theorem RepS.forget {K : PySem.W.Frag} {H : Hp} {σ : L2.St} {ρ : Ev} (r : RepS K H σ ρ) (i : Nat) : RepS K H (σ.set i none) (ρ.set i none) := by
  refine ⟨by rw [List.length_set, List.length_set, r.len], fun j e q => ?_⟩
  by_cases hj : i = j
  · subst hj
    rw [List.getElem?_set] at q
    simp at q
  · rw [List.getElem?_set_ne hj] at q
    obtain ⟨u, h1, h2⟩ := r.at_ j e q
    exact ⟨u, by rw [List.getElem?_set_ne hj]; exact h1, h2⟩
def wipeD (ρ : Ev) : List Nat → Ev
  | [] => ρ
  | v :: vs => (wipeD ρ vs).set v none
theorem RepS.wipe {K : PySem.W.Frag} {H : Hp} {σ : L2.St} {ρ : Ev} (r : RepS K H σ ρ) : ∀ vs : List Nat, RepS K H (L2.wipe σ vs) (wipeD ρ vs)
  | [] => r
  | v :: vs => (RepS.wipe r vs).forget v
end DL
namespace DL
open PySem PySem.Spec PyProof.Rows L2
structure Exn where
  x : Str
  fs : List (Str × D)
abbrev DQ := D → Sto → Prop
abbrev BQ := Bool → Sto → Prop
abbrev AQ := List D → Sto → Prop
abbrev XQ := Exn → Sto → Prop
abbrev DE := Ev → Sto → DQ → XQ → Prop
abbrev DT := Ev → Sto → BQ → XQ → Prop
abbrev DA := Ev → Sto → AQ → XQ → Prop
def ExnRep (K : PySem.W.Frag) (H : Hp) (cls : Value) (d : Option Addr) (x : Exn) : Prop :=
  (cls = .ref (He.ga K x.x) ∧ Lf K x.x) ∧ match d with
    | none => x.fs = []
    | some a => ∃ m, H a = some (.xd m) ∧ RepKV K H m x.fs
/-- what is handled stands in the abstract heap -/
def HotH (A : Around) (H : Hp) : Prop := ∃ (a : Addr) (oe : Obj), A.handled = some (.ref a) ∧ H a = some (exT a oe) ∧ ∃ vs : Array Value, oe.data = .fields vs ∧ vs[2]? = some .none
theorem HotH.mono {A : Around} {K : PySem.W.Frag} {H H' : Hp} (h : HotH A H) (t : TupExt K H H') : HotH A H' := by
  obtain ⟨a, oe, h1, h2, h3⟩ := h
  exact ⟨a, oe, h1, t.e a _ h2, h3⟩
def HotX (X : Cx) (H : Hp) : Prop := X.calm = false → HotH X.A H
theorem HotX.mono {X : Cx} {H H' : Hp} (h : HotX X H) (t : TupExt X.K H H') : HotX X H' := fun c => (h c).mono t
theorem HotX.calm {X : Cx} {H : Hp} (h : X.calm = true) : HotX X H := fun c => by rw [h] at c; cases c
/-! the greatest readings -/
def WE (X : Cx) (e : Expr) : TE := fun σ H Q => ∀ pins s, Inv X pins σ H s → wpAny (model X.prog X.w) X.A (eval e X.env) (EP X pins σ Q) X.xe s
def WT (X : Cx) (e : Expr) : TT := fun σ H Q => ∀ pins s, Inv X pins σ H s → wpAny (model X.prog X.w) X.A (isTrue e X.env (eval e X.env)) (TP X pins σ Q) X.xe s
def WW (X : Cx) (e : Expr) : TT := fun σ H Q => ∀ (whole : Sem Value) pins s, Inv X pins σ H s → wpAny (model X.prog X.w) X.A (isTrue e X.env whole) (TP X pins σ Q) X.xe s
def WA (X : Cx) (es : List Expr) : TA := fun σ H Q => ∀ (pos : Pos) pins s, Inv X pins σ H s → wpAny (model X.prog X.w) X.A (spliced (backTo pos (starEach es X.env))) (AP X pins σ Q) X.xe s
section
variable {X : Cx} {e : Expr} {es : List Expr} {σ : L2.St} {H : Hp}
theorem pe_max : PE X e (WE X e) := ⟨fun pins s σ H Q I h => h pins s I⟩
theorem pt_max : PT X e (WT X e) := ⟨fun pins s σ H Q I h => h pins s I⟩
theorem pw_max : PW X e (WW X e) := ⟨fun whole pins s σ H Q I h => h whole pins s I⟩
theorem pa_max : PA X es (WA X es) := ⟨fun pos pins s σ H Q I h => h pos pins s I⟩
theorem PE.we {t : TE} {Q : VK} (h : PE X e t) (q : t σ H Q) : WE X e σ H Q := fun pins s I => h.run pins s σ H Q I q
theorem PT.wt {t : TT} {Q : Bool → Hp → Prop} (h : PT X e t) (q : t σ H Q) : WT X e σ H Q := fun pins s I => h.run pins s σ H Q I q
theorem PW.ww {t : TT} {Q : Bool → Hp → Prop} (h : PW X e t) (q : t σ H Q) : WW X e σ H Q := fun whole pins s I => h.run whole pins s σ H Q I q
theorem PA.wa {t : TA} {Q : List V → Hp → Prop} (h : PA X es t) (q : t σ H Q) : WA X es σ H Q := fun pos pins s I => h.run pos pins s σ H Q I q
theorem WE.imp {Q Q' : VK} (h : WE X e σ H Q) (i : ∀ v H', Q v H' → Q' v H') : WE X e σ H Q' := fun pins s I => thn (h pins s I) fun _ _ ⟨v, H', I', r, q⟩ => ⟨v, H', I', r, i _ _ q⟩
theorem WT.imp {Q Q' : Bool → Hp → Prop} (h : WT X e σ H Q) (i : ∀ v H', Q v H' → Q' v H') : WT X e σ H Q' := fun pins s I => thn (h pins s I) fun _ _ ⟨H', I', q⟩ => ⟨H', I', i _ _ q⟩
theorem WW.imp {Q Q' : Bool → Hp → Prop} (h : WW X e σ H Q) (i : ∀ v H', Q v H' → Q' v H') : WW X e σ H Q' := fun whole pins s I => thn (h whole pins s I) fun _ _ ⟨H', I', q⟩ => ⟨H', I', i _ _ q⟩
theorem WA.imp {Q Q' : List V → Hp → Prop} (h : WA X es σ H Q) (i : ∀ v H', Q v H' → Q' v H') : WA X es σ H Q' := fun pos pins s I => thn (h pos pins s I) fun _ _ ⟨vs, H', I', r, q⟩ => ⟨vs, H', I', r, i _ _ q⟩
theorem WW.wt {Q : Bool → Hp → Prop} (h : WW X e σ H Q) : WT X e σ H Q := fun pins s I => h _ pins s I
end
/-! an exception that the context takes -/
def XW (X : Cx) (cls : Value) (d : Option Addr) (σ : L2.St) (H : Hp) : Prop := ∀ u s', L2N.XE X (fun c e σ' H' => c = cls ∧ e = d ∧ σ' = σ ∧ H' = H) u s' → X.xe u s'
theorem takes_max {X : Cx} : L2N.Takes X (XW X) := fun u s' ⟨a, B, sI, pins, σ, H, cls, d, e, I, nb, up, sky, na, os, ag, w⟩ =>
  w u s' ⟨a, B, sI, pins, σ, H, cls, d, e, I, nb, up, sky, na, os, ag, rfl, rfl, rfl, rfl⟩
structure Tk (X : Cx) (σ : L2.St) (G : Sto) (H : Hp) (xq : XQ) : Prop where
  ex : ∀ x cls d G' H', ExnRep X.K H' cls d x → Sim X.K G' H' → Ext X.K G H G' H' → xq x G' → XW X cls d σ H'
  hot : HotX X H
theorem Tk.step {X : Cx} {σ : L2.St} {G G1 : Sto} {H H1 : Hp} {xq : XQ} (t : Tk X σ G H xq) (e : Ext X.K G H G1 H1) : Tk X σ G1 H1 xq :=
  ⟨fun x cls d G' H' r s y q => t.ex x cls d G' H' r s (e.trans y) q, t.hot.mono e.tup⟩
theorem Tk.never {X : Cx} {σ : L2.St} {G : Sto} {H : Hp} (h : HotX X H) : Tk X σ G H (fun _ _ => False) := ⟨fun _ _ _ _ _ _ _ _ q => q.elim, h⟩
/-! lifted ends -/
def Lift (K : PySem.W.Frag) (G : Sto) (H : Hp) (Q : DQ) : VK := fun v H' => ∃ d G', Rep K H' v d ∧ Sim K G' H' ∧ Ext K G H G' H' ∧ Q d G'
def LiftB (K : PySem.W.Frag) (G : Sto) (H : Hp) (Q : BQ) : Bool → Hp → Prop := fun b H' => ∃ G', Sim K G' H' ∧ Ext K G H G' H' ∧ Q b G'
def LiftA (K : PySem.W.Frag) (G : Sto) (H : Hp) (Q : AQ) : List V → Hp → Prop := fun vs H' => ∃ ds G', Reps K H' vs ds ∧ Sim K G' H' ∧ Ext K G H G' H' ∧ Q ds G'
theorem Lift.back {K : PySem.W.Frag} {G G1 : Sto} {H H1 : Hp} {Q : DQ} (x : Ext K G H G1 H1) : ∀ v H', Lift K G1 H1 Q v H' → Lift K G H Q v H' :=
  fun _ _ ⟨d, G', r, s, e, q⟩ => ⟨d, G', r, s, x.trans e, q⟩
theorem LiftB.back {K : PySem.W.Frag} {G G1 : Sto} {H H1 : Hp} {Q : BQ} (x : Ext K G H G1 H1) : ∀ v H', LiftB K G1 H1 Q v H' → LiftB K G H Q v H' :=
  fun _ _ ⟨G', s, e, q⟩ => ⟨G', s, x.trans e, q⟩
theorem Lift.here {K : PySem.W.Frag} {G : Sto} {H : Hp} {Q : DQ} {v : V} {d : D} (r : Rep K H v d) (s : Sim K G H) (q : Q d G) : Lift K G H Q v H := ⟨d, G, r, s, .refl, q⟩
/-! the judgements -/
structure QE (X : Cx) (e : Expr) (t : DE) : Prop where
  run : ∀ ρ G Q xq σ H, t ρ G Q xq → RepS X.K H σ ρ → Sim X.K G H → Tk X σ G H xq → WE X e σ H (Lift X.K G H Q)
structure QT (X : Cx) (e : Expr) (t : DT) : Prop where
  run : ∀ ρ G Q xq σ H, t ρ G Q xq → RepS X.K H σ ρ → Sim X.K G H → Tk X σ G H xq → WT X e σ H (LiftB X.K G H Q)
structure QW (X : Cx) (e : Expr) (t : DT) : Prop where
  run : ∀ ρ G Q xq σ H, t ρ G Q xq → RepS X.K H σ ρ → Sim X.K G H → Tk X σ G H xq → WW X e σ H (LiftB X.K G H Q)
structure QA (X : Cx) (es : List Expr) (t : DA) : Prop where
  run : ∀ ρ G Q xq σ H, t ρ G Q xq → RepS X.K H σ ρ → Sim X.K G H → Tk X σ G H xq → WA X es σ H (LiftA X.K G H Q)
theorem QW.qt {X : Cx} {e : Expr} {t : DT} (h : QW X e t) : QT X e t := ⟨fun ρ G Q xq σ H a b c d => (h.run ρ G Q xq σ H a b c d).wt⟩
section
variable {X : Cx} {a b c e : Expr} {es : List Expr} {pos : Pos} {ta tb tc te : DE}
/-! names, constants -/
def dVar (i : Nat) : DE := fun ρ G Q _ => match ρ[i]? with
  | some (some d) => Q d G
  | _ => False
theorem qe_var {i : Nat} {x : Str} (hN : X.N[i]? = some x) (hv : Vis X.env.scope x) (hd : (x == ("__debug__" : Str)) = false) (hcd : (x == ("__classdict__" : Str)) = false) : QE X (.Name x pos) (dVar i) := by
  refine ⟨fun ρ G Q xq σ H h r s tk => ?_⟩
  unfold dVar at h
  split at h
  · rename_i d e
    obtain ⟨v, h1, h2⟩ := r.at_ i d e
    exact PE.we (pe_var hN hv hd hcd) ⟨v, h1, Lift.here h2 s h⟩
  · exact h.elim
def dC (d : D) : DE := fun _ G Q _ => Q d G
theorem qe_int {i : Int} {j : Nat} : QE X (.Constant (.int i) j pos) (dC (.int i)) := ⟨fun _ _ _ _ _ _ h _ s _ => PE.we pe_int (Lift.here (.int i) s h)⟩
theorem qe_bl {i : Bool} {j : Nat} : QE X (.Constant (.bool i) j pos) (dC (.bl i)) := ⟨fun _ _ _ _ _ _ h _ s _ => PE.we pe_bl (Lift.here (.bl i) s h)⟩
theorem qe_non {j : Nat} : QE X (.Constant .none j pos) (dC .non) := ⟨fun _ _ _ _ _ _ h _ s _ => PE.we pe_non (Lift.here .non s h)⟩
theorem qe_str {i : Str} {j : Nat} : QE X (.Constant (.str i) j pos) (dC (.str i)) := ⟨fun _ _ _ _ _ _ h _ s _ => PE.we pe_str (Lift.here (.str i) s h)⟩
/-- a constant of the module -/
def Glb (X : Cx) (x : Str) (d : D) : Prop := ∃ v u, X.mg x = some u ∧ RelV v u ∧ ∀ H, Rep X.K H v d
theorem qe_glb {x : Str} {d : D} (hg : Gl X x) (g : Glb X x d) (hd : (x == ("__debug__" : Str)) = false) : QE X (.Name x pos) (dC d) := by
  obtain ⟨v, u, h1, h2, h3⟩ := g
  exact ⟨fun _ _ _ _ _ H h _ s _ => PE.we (pe_glob hg h1 h2 hd) (Lift.here (h3 H) s h)⟩
/-- a built-in type by its name -/
theorem qe_ty {x : Str} {n : String} (hg : Gl X x) (hm : X.mg x = none) (hv : bootBuiltins x = some (.type n)) (hn : x ≠ "__name__") (hd : (x == ("__debug__" : Str)) = false) : QE X (.Name x pos) (dC (.ty n)) :=
  ⟨fun _ _ _ _ _ H h _ s _ => PE.we (pe_bltn (v := .ty n) hg hm hv rfl hn hd) (Lift.here (.ty n) s h)⟩
/-! two in a row -/
abbrev DR2 := D → D → Sto → DQ → Prop
def dOp (r : DR2) (ta tb : DE) : DE := fun ρ G Q xq => ta ρ G (fun x G1 => tb ρ G1 (fun y G2 => r x y G2 Q) xq) xq
/-- an operation by values at the level of data -/
def WO (X : Cx) (f : Value → Value → Sem Value) (v u : V) (σ : L2.St) (H : Hp) (R : VK) : Prop :=
  ∀ pins s v' u', Inv X pins σ H s → RelV v v' → RelV u u' → wpAny (model X.prog X.w) X.A (f v' u') (EP X pins σ R) X.xe s
def OpD (X : Cx) (f : Value → Value → Sem Value) (r : DR2) : Prop :=
  ∀ x y G Q v u σ H, r x y G Q → Rep X.K H v x → Rep X.K H u y → Sim X.K G H → WO X f v u σ H (Lift X.K G H Q)
theorem op_max {f : Value → Value → Sem Value} : OpR X f (fun v u H R => ∀ σ, WO X f v u σ H R) := fun pins s σ H x y v u Q I rx ry h => h σ pins s v u I rx ry
theorem OpR.wo {f : Value → Value → Sem Value} {r : R2} {v u : V} {σ : L2.St} {H : Hp} {R : VK} (h : OpR X f r) (q : r v u H R) : WO X f v u σ H R := fun pins s v' u' I rx ry => h pins s σ H v u v' u' R I rx ry q
theorem WO.imp {f : Value → Value → Sem Value} {v u : V} {σ : L2.St} {H : Hp} {R R' : VK} (h : WO X f v u σ H R) (i : ∀ v H', R v H' → R' v H') : WO X f v u σ H R' :=
  fun pins s v' u' I rx ry => thn (h pins s v' u' I rx ry) fun _ _ ⟨v, H', I', r, q⟩ => ⟨v, H', I', r, i _ _ q⟩
/-- two readings in a row, then what the values ask -/
theorem two_ {ta tb : DE} (ha : QE X a ta) (hb : QE X b tb) {ρ : Ev} {G : Sto} {xq : XQ} {σ : L2.St} {H : Hp} {K2 : D → D → Sto → Prop} {R : V → V → Hp → Prop}
    (h : ta ρ G (fun x G1 => tb ρ G1 (fun y G2 => K2 x y G2) xq) xq) (r : RepS X.K H σ ρ) (s : Sim X.K G H) (tk : Tk X σ G H xq)
    (hk : ∀ x y v u G2 H2, K2 x y G2 → Rep X.K H2 v x → Rep X.K H2 u y → Sim X.K G2 H2 → Ext X.K G H G2 H2 → R v u H2) :
    WE X a σ H fun v H1 => WE X b σ H1 fun u H2 => R v u H2 :=
  (ha.run ρ G _ xq σ H h r s tk).imp fun v H1 ⟨x, G1, rx, s1, e1, q1⟩ =>
    (hb.run ρ G1 _ xq σ H1 q1 (r.mono e1.tup) s1 (tk.step e1)).imp fun u H2 ⟨y, G2, ry, s2, e2, q2⟩ =>
      hk x y v u G2 H2 q2 (rx.mono e2.tup) ry s2 (e1.trans e2)
theorem OpD.op {op : Operator} {r : DR2} (ho : OpD X (binaryOp op) r) (ha : QE X a ta) (hb : QE X b tb) : QE X (.BinOp a op b pos) (dOp r ta tb) := by
  refine ⟨fun ρ G Q xq σ H h rs s tk => ?_⟩
  refine PE.we (pe_op (r := fun v u H2 R => ∀ σ, WO X (binaryOp op) v u σ H2 R) op_max pe_max pe_max) ?_
  exact two_ ha hb h rs s tk fun x y v u G2 H2 q rx ry s2 e2 σ' => (ho x y G2 Q v u σ' H2 q rx ry s2).imp (Lift.back e2)
theorem OpD.cmp {op : CmpOp} {r : DR2} (ho : OpD X (compareOp op) r) (ha : QE X a ta) (hb : QE X b tb) (hm : behindInMarks op b = false) : QE X (.Compare a [op] [b] pos) (dOp r ta tb) := by
  refine ⟨fun ρ G Q xq σ H h rs s tk => ?_⟩
  refine PE.we (pe_cmpR (r := fun v u H2 R => ∀ σ, WO X (compareOp op) v u σ H2 R) op_max pe_max pe_max hm) ?_
  exact two_ ha hb h rs s tk fun x y v u G2 H2 q rx ry s2 e2 σ' => (ho x y G2 Q v u σ' H2 q rx ry s2).imp (Lift.back e2)
/-- what is asked of a truth -/
def asB (Q : BQ) : DQ := fun d G => match d with
  | .bl k => Q k G
  | _ => False
theorem asB_of {K : PySem.W.Frag} {Q : BQ} {d : D} {G : Sto} {v : V} {H : Hp} (h : asB Q d G) (r : Rep K H v d) : ∃ k, v = .bl k ∧ Q k G := by
  cases d with
  | bl k =>
    cases r
    exact ⟨k, rfl, h⟩
  | _ => exact False.elim h
def dTest (t : DE) : DT := fun ρ G Q xq => t ρ G (asB Q) xq
theorem OpD.cmpT {op : CmpOp} {r : DR2} (ho : OpD X (compareOp op) r) (ha : QE X a ta) (hb : QE X b tb) (hm : behindInMarks op b = false) : QT X (.Compare a [op] [b] pos) (dTest (dOp r ta tb)) := by
  refine ⟨fun ρ G Q xq σ H h rs s tk => ?_⟩
  refine PT.wt (pt_cmpR (r := fun v u H2 R => ∀ σ, WO X (compareOp op) v u σ H2 R) op_max pe_max pe_max hm) ?_
  refine two_ ha hb h rs s tk fun x y v u G2 H2 q rx ry s2 e2 σ' => (ho x y G2 _ v u σ' H2 q rx ry s2).imp fun w H3 ⟨d, G3, r3, s3, e3, q3⟩ => ?_
  obtain ⟨k, rfl, q4⟩ := asB_of q3 r3
  exact ⟨k, rfl, G3, s3, e2.trans e3, q4⟩
/-- a chain of two -/
def dChn (r r' : DR2) (ta tb tc : DE) : DE := fun ρ G Q xq => ta ρ G (fun x G1 => tb ρ G1 (fun y G2 => r x y G2 (asB fun k G3 => if k = true then tc ρ G3 (fun z G4 => r' y z G4 Q) xq else Q (.bl false) G3)) xq) xq
theorem qe_chn {op op' : CmpOp} {r r' : DR2} (ho : OpD X (compareOp op) r) (ho' : OpD X (compareOp op') r') (ha : QE X a ta) (hb : QE X b tb) (hc : QE X c tc) (hm : lastMarks [op, op'] [b, c] = false) :
    QE X (.Compare a [op, op'] [b, c] pos) (dChn r r' ta tb tc) := by
  refine ⟨fun ρ G Q xq σ H h rs s tk => ?_⟩
  intro pins s1 I
  have ho1 : OpR (X := X) (compareOp op) (fun v u H2 R => ∀ σ, WO X (compareOp op) v u σ H2 R) := op_max
  have ho2 : OpR (X := X) (compareOp op') (fun v u H2 R => ∀ σ, WO X (compareOp op') v u σ H2 R) := op_max
  refine (pe_chain (pos := pos) ho1 ho2 (pe_max (e := a)) (pe_max (e := b)) (pe_max (e := c)) hm).run pins s1 σ H _ I ?_
  refine two_ ha hb h rs s tk fun x y v u G2 H2 q rx ry s2 e2 => fun σ' => (ho x y G2 _ v u σ' H2 q rx ry s2).imp fun w H3 ⟨d, G3, r3, s3, e3, q3⟩ => ?_
  obtain ⟨k, rfl, q4⟩ := asB_of q3 r3
  refine ⟨k, rfl, ?_⟩
  have e23 := e2.trans e3
  cases k with
  | true =>
    simp only [if_true] at q4 ⊢
    refine (hc.run ρ G3 _ xq σ H3 q4 (rs.mono e23.tup) s3 (tk.step e23)).imp fun w H4 ⟨z, G4, r4, s4, e4, q5⟩ => fun σ'' => ?_
    exact (ho' y z G4 Q u w σ'' H4 q5 ((ry.mono e3.tup).mono e4.tup) r4 s4).imp fun v' H' l => Lift.back (e23.trans e4) _ _ l
  | false =>
    simp only [Bool.false_eq_true, if_false] at q4 ⊢
    exact ⟨.bl false, G3, .bl false, s3, e23, q4⟩
theorem qt_chn {op op' : CmpOp} {r r' : DR2} (ho : OpD X (compareOp op) r) (ho' : OpD X (compareOp op') r') (ha : QE X a ta) (hb : QE X b tb) (hc : QE X c tc) (hm : lastMarks [op, op'] [b, c] = false) :
    QT X (.Compare a [op, op'] [b, c] pos) (dTest (dChn r r' ta tb tc)) := by
  refine ⟨fun ρ G Q xq σ H h rs s tk => ?_⟩
  intro pins s1 I
  have ho1 : OpR (X := X) (compareOp op) (fun v u H2 R => ∀ σ, WO X (compareOp op) v u σ H2 R) := op_max
  have ho2 : OpR (X := X) (compareOp op') (fun v u H2 R => ∀ σ, WO X (compareOp op') v u σ H2 R) := op_max
  refine (pt_chain (pos := pos) ho1 ho2 (pe_max (e := a)) (pe_max (e := b)) (pe_max (e := c)) hm).run pins s1 σ H _ I ?_
  refine two_ ha hb h rs s tk fun x y v u G2 H2 q rx ry s2 e2 => fun σ' => (ho x y G2 _ v u σ' H2 q rx ry s2).imp fun w H3 ⟨d, G3, r3, s3, e3, q3⟩ => ?_
  obtain ⟨k, rfl, q4⟩ := asB_of q3 r3
  refine ⟨k, rfl, ?_⟩
  have e23 := e2.trans e3
  cases k with
  | true =>
    simp only [if_true] at q4 ⊢
    refine (hc.run ρ G3 _ xq σ H3 q4 (rs.mono e23.tup) s3 (tk.step e23)).imp fun w H4 ⟨z, G4, r4, s4, e4, q5⟩ => fun σ'' => ?_
    refine (ho' y z G4 _ u w σ'' H4 q5 ((ry.mono e3.tup).mono e4.tup) r4 s4).imp fun v' H' ⟨d5, G5, r5, s5, e5, q6⟩ => ?_
    obtain ⟨k, rfl, q7⟩ := asB_of q6 r5
    exact ⟨k, rfl, G5, s5, (e23.trans e4).trans e5, q7⟩
  | false =>
    simp only [Bool.false_eq_true, if_false] at q4 ⊢
    exact ⟨false, rfl, G3, s3, e23, q4⟩
/-! one -/
abbrev DR1 := D → Sto → DQ → Prop
def dUn (r : DR1) (ta : DE) : DE := fun ρ G Q xq => ta ρ G (fun x G1 => r x G1 Q) xq
def negD : DR1 := fun x G Q => match x with
  | .int i => Q (.int (-i)) G
  | _ => False
theorem qe_neg (ha : QE X a ta) : QE X (.UnaryOp .USub a pos) (dUn negD ta) := by
  refine ⟨fun ρ G Q xq σ H h rs s tk => ?_⟩
  refine PE.we (pe_un un_neg pe_max) ((ha.run ρ G _ xq σ H h rs s tk).imp fun v H1 ⟨x, G1, rx, s1, e1, q1⟩ => ?_)
  cases x with
  | int i =>
    cases rx
    exact ⟨i, rfl, .int (-i), G1, .int _, s1, e1, q1⟩
  | _ => exact False.elim q1
/-! truth -/
def truD (d : D) (G : Sto) (Q : BQ) : Prop := match d with
  | .non => Q false G
  | .bl b => Q b G
  | .int i => Q (i != 0) G
  | .str y => y.length ≤ sizeLine ∧ Q ((y.length : Int) != 0) G
  | .tup ds => Q (!ds.isEmpty) G
  | .ref a => ∃ ds, G a = some (.lst ds) ∧ Q (!ds.isEmpty) G
  | .ty _ => False
  | .rl ds => Q (!ds.isEmpty) G
  | .sc _ => False
  | .rd _ _ => False
  | .exc _ _ _ => False
  | .fn _ => False
  | .nt _ => False
  | .lam _ _ _ _ => False
theorem Reps.emp {K : PySem.W.Frag} {H : Hp} {vs : List V} {ds : List D} (h : Reps K H vs ds) : vs.isEmpty = ds.isEmpty := by cases h <;> rfl
theorem tru_ {K : PySem.W.Frag} {d : D} {G : Sto} {Q : BQ} {v : V} {H : Hp} (h : truD d G Q) (r : Rep K H v d) (s : Sim K G H) : ∃ k, TruV K v H k ∧ Q k G := by
  cases d with
  | non => cases r; exact ⟨false, rfl, h⟩
  | bl b => cases r; exact ⟨b, rfl, h⟩
  | int i => cases r; exact ⟨_, rfl, h⟩
  | str y => cases r; exact ⟨_, ⟨h.1, rfl⟩, h.2⟩
  | tup ds =>
    cases r with
    | tup hs rs => exact ⟨_, .inr (.inl ⟨_, hs, rfl⟩), by rw [rs.emp]; exact h⟩
  | ref a =>
    cases r
    obtain ⟨ds, hg, q⟩ := h
    obtain ⟨vs, h1, h2⟩ := s a _ hg
    exact ⟨_, .inl ⟨vs, .of h1, rfl⟩, by rw [h2.emp]; exact q⟩
  | ty n => exact False.elim h
  | rl n =>
    cases r with
    | rl hs rs => exact ⟨_, .inl ⟨_, frz_sq hs, rfl⟩, by rw [rs.emp]; exact h⟩
  | sc n => exact False.elim h
  | rd n m => exact False.elim h
  | exc _ _ _ => exact False.elim h
  | fn _ => exact False.elim h
  | nt _ => exact False.elim h
  | lam _ _ _ _ => exact False.elim h
def dTru (t : DE) : DT := fun ρ G Q xq => t ρ G (fun d G1 => truD d G1 Q) xq
theorem qt_val (ha : QE X a ta) (he : ∀ whole, isTrue a X.env whole = (do let v ← whole; standAt a.pos; holding [v] (truthy v))) : QT X a (dTru ta) := by
  refine ⟨fun ρ G Q xq σ H h rs s tk => ?_⟩
  refine PT.wt (pt_truth pe_max he) ((ha.run ρ G _ xq σ H h rs s tk).imp fun v H1 ⟨x, G1, rx, s1, e1, q1⟩ => ?_)
  obtain ⟨k, h1, h2⟩ := tru_ q1 rx s1
  exact ⟨k, h1, G1, s1, e1, h2⟩
variable {tA tB' : DT} {rest : List Expr}
def dNotT (t : DT) : DT := fun ρ G Q xq => t ρ G (fun k G1 => Q (!k) G1) xq
theorem qt_not (ha : QT X a tA) : QT X (.UnaryOp .Not a pos) (dNotT tA) := by
  refine ⟨fun ρ G Q xq σ H h rs s tk => ?_⟩
  exact PT.wt (pt_not pt_max) ((ha.run ρ G _ xq σ H h rs s tk).imp fun k H1 ⟨G1, s1, e1, q1⟩ => ⟨G1, s1, e1, q1⟩)
def dAndT (t u : DT) : DT := fun ρ G Q xq => t ρ G (fun k G1 => if k = true then u ρ G1 Q xq else Q false G1) xq
def dOrT (t u : DT) : DT := fun ρ G Q xq => t ρ G (fun k G1 => if k = true then Q true G1 else u ρ G1 Q xq) xq
theorem qw_and1 (ha : QT X a tA) : QW X (.BoolOp .And [a] pos) tA := ⟨fun ρ G Q xq σ H h rs s tk => PW.ww (pw_and1 pt_max) (ha.run ρ G Q xq σ H h rs s tk)⟩
theorem qw_or1 (ha : QT X a tA) : QW X (.BoolOp .Or [a] pos) tA := ⟨fun ρ G Q xq σ H h rs s tk => PW.ww (pw_or1 pt_max) (ha.run ρ G Q xq σ H h rs s tk)⟩
theorem qw_and (ha : QT X a tA) (hb : QW X (.BoolOp .And (b :: rest) pos) tB') : QW X (.BoolOp .And (a :: b :: rest) pos) (dAndT tA tB') := by
  refine ⟨fun ρ G Q xq σ H h rs s tk => ?_⟩
  refine PW.ww (pw_and pt_max pw_max) ((ha.run ρ G _ xq σ H h rs s tk).imp fun k H1 ⟨G1, s1, e1, q1⟩ => ?_)
  cases k with
  | true =>
    simp only [if_true] at q1 ⊢
    exact (hb.run ρ G1 Q xq σ H1 q1 (rs.mono e1.tup) s1 (tk.step e1)).imp (LiftB.back e1)
  | false =>
    simp only [Bool.false_eq_true, if_false] at q1 ⊢
    exact ⟨G1, s1, e1, q1⟩
theorem qw_or (ha : QT X a tA) (hb : QW X (.BoolOp .Or (b :: rest) pos) tB') : QW X (.BoolOp .Or (a :: b :: rest) pos) (dOrT tA tB') := by
  refine ⟨fun ρ G Q xq σ H h rs s tk => ?_⟩
  refine PW.ww (pw_or pt_max pw_max) ((ha.run ρ G _ xq σ H h rs s tk).imp fun k H1 ⟨G1, s1, e1, q1⟩ => ?_)
  cases k with
  | true =>
    simp only [if_true] at q1 ⊢
    exact ⟨G1, s1, e1, q1⟩
  | false =>
    simp only [Bool.false_eq_true, if_false] at q1 ⊢
    exact (hb.run ρ G1 Q xq σ H1 q1 (rs.mono e1.tup) s1 (tk.step e1)).imp (LiftB.back e1)
/-! values by truth -/
theorem qe_one {op : BoolOp} (h : QE X a ta) : QE X (.BoolOp op [a] pos) ta := ⟨fun ρ G Q xq σ H q rs s tk => PE.we (pe_one pe_max) (h.run ρ G Q xq σ H q rs s tk)⟩
def dAndV (t u : DE) : DE := fun ρ G Q xq => t ρ G (fun d G1 => truD d G1 fun k G2 => if k = true then u ρ G2 Q xq else Q d G2) xq
def dOrV (t u : DE) : DE := fun ρ G Q xq => t ρ G (fun d G1 => truD d G1 fun k G2 => if k = true then Q d G2 else u ρ G2 Q xq) xq
def dNotV (t : DE) : DE := fun ρ G Q xq => t ρ G (fun d G1 => truD d G1 fun k G2 => Q (.bl (!k)) G2) xq
theorem qe_and (ha : QE X a ta) (hb : QE X (.BoolOp .And (b :: rest) pos) tb) : QE X (.BoolOp .And (a :: b :: rest) pos) (dAndV ta tb) := by
  refine ⟨fun ρ G Q xq σ H h rs s tk => ?_⟩
  refine PE.we (pe_andT pe_max pe_max) ((ha.run ρ G _ xq σ H h rs s tk).imp fun v H1 ⟨x, G1, rx, s1, e1, q1⟩ => ?_)
  obtain ⟨k, h1, h2⟩ := tru_ q1 rx s1
  refine ⟨k, h1, ?_⟩
  cases k with
  | true =>
    simp only [if_true] at h2 ⊢
    exact (hb.run ρ G1 Q xq σ H1 h2 (rs.mono e1.tup) s1 (tk.step e1)).imp (Lift.back e1)
  | false =>
    simp only [Bool.false_eq_true, if_false] at h2 ⊢
    exact ⟨x, G1, rx, s1, e1, h2⟩
theorem qe_or (ha : QE X a ta) (hb : QE X (.BoolOp .Or (b :: rest) pos) tb) : QE X (.BoolOp .Or (a :: b :: rest) pos) (dOrV ta tb) := by
  refine ⟨fun ρ G Q xq σ H h rs s tk => ?_⟩
  refine PE.we (pe_orT pe_max pe_max) ((ha.run ρ G _ xq σ H h rs s tk).imp fun v H1 ⟨x, G1, rx, s1, e1, q1⟩ => ?_)
  obtain ⟨k, h1, h2⟩ := tru_ q1 rx s1
  refine ⟨k, h1, ?_⟩
  cases k with
  | true =>
    simp only [if_true] at h2 ⊢
    exact ⟨x, G1, rx, s1, e1, h2⟩
  | false =>
    simp only [Bool.false_eq_true, if_false] at h2 ⊢
    exact (hb.run ρ G1 Q xq σ H1 h2 (rs.mono e1.tup) s1 (tk.step e1)).imp (Lift.back e1)
theorem qe_not (ha : QE X a ta) : QE X (.UnaryOp .Not a pos) (dNotV ta) := by
  refine ⟨fun ρ G Q xq σ H h rs s tk => ?_⟩
  refine PE.we (pe_notT pe_max) ((ha.run ρ G _ xq σ H h rs s tk).imp fun v H1 ⟨x, G1, rx, s1, e1, q1⟩ => ?_)
  obtain ⟨k, h1, h2⟩ := tru_ q1 rx s1
  exact ⟨k, h1, .bl (!k), G1, .bl _, s1, e1, h2⟩
def dIfE (t : DT) (ta tb : DE) : DE := fun ρ G Q xq => t ρ G (fun k G1 => if k = true then ta ρ G1 Q xq else tb ρ G1 Q xq) xq
theorem qe_ife (hc : QT X c tA) (ha : QE X a ta) (hb : QE X b tb) : QE X (.IfExp c a b pos) (dIfE tA ta tb) := by
  refine ⟨fun ρ G Q xq σ H h rs s tk => ?_⟩
  refine PE.we (pe_ifExp pt_max pe_max pe_max) ((hc.run ρ G _ xq σ H h rs s tk).imp fun k H1 ⟨G1, s1, e1, q1⟩ => ?_)
  cases k with
  | true =>
    simp only [if_true] at q1 ⊢
    exact (ha.run ρ G1 Q xq σ H1 q1 (rs.mono e1.tup) s1 (tk.step e1)).imp (Lift.back e1)
  | false =>
    simp only [Bool.false_eq_true, if_false] at q1 ⊢
    exact (hb.run ρ G1 Q xq σ H1 q1 (rs.mono e1.tup) s1 (tk.step e1)).imp (Lift.back e1)
/-! argument lists, displays -/
def dNil : DA := fun _ G Q _ => Q [] G
def dCons (t : DE) (u : DA) : DA := fun ρ G Q xq => t ρ G (fun d G1 => u ρ G1 (fun ds G2 => Q (d :: ds) G2) xq) xq
variable {tas : DA}
theorem qa_nil : QA X [] dNil := ⟨fun ρ G Q xq σ H h rs s tk => PA.wa pa_nil ⟨[], G, .nil, s, .refl, h⟩⟩
theorem qa_cons (ha : QE X e te) (hr : QA X es tas) (hs : starEach (e :: es) X.env = (false, eval e X.env) :: starEach es X.env) : QA X (e :: es) (dCons te tas) := by
  refine ⟨fun ρ G Q xq σ H h rs s tk => ?_⟩
  refine PA.wa (pa_cons pe_max pa_max hs) ((ha.run ρ G _ xq σ H h rs s tk).imp fun v H1 ⟨x, G1, rx, s1, e1, q1⟩ => ?_)
  exact (hr.run ρ G1 _ xq σ H1 q1 (rs.mono e1.tup) s1 (tk.step e1)).imp fun vs H2 ⟨ds, G2, r2, s2, e2, q2⟩ => ⟨x :: ds, G2, .cons (rx.mono e2.tup) r2, s2, e1.trans e2, q2⟩
def dTup (t : DA) : DE := fun ρ G Q xq => t ρ G (fun ds G1 => ds.length ≤ sizeLine ∧ Q (.tup ds) G1) xq
def dLst (t : DA) : DE := fun ρ G Q xq => t ρ G (fun ds G1 => ds.length ≤ sizeLine ∧ ∀ p, G1 p = none → Q (.ref p) (put G1 p (.lst ds))) xq
theorem lift_tup {K : PySem.W.Frag} {G : Sto} {H : Hp} {Q : DQ} {ds : List D} {vs : List V} {p : Addr} (r : Reps K H vs ds) (s : Sim K G H) (q : Q (.tup ds) G) (hp : H p = none) : Lift K G H Q (.ref p) (upd H p (.tup vs)) :=
  ⟨.tup ds, G, .tup (.of upd_same) (r.mono (tup_new hp)), s.newT hp, .newT hp, q⟩
theorem lift_lst {K : PySem.W.Frag} {G : Sto} {H : Hp} {Q : DQ} {ds : List D} {vs : List V} {p : Addr} (r : Reps K H vs ds) (s : Sim K G H) (q : ∀ p, G p = none → Q (.ref p) (put G p (.lst ds))) (hp : H p = none) : Lift K G H Q (.ref p) (upd H p (.lst vs)) :=
  ⟨.ref p, put G p (.lst ds), .ref p, s.new hp ⟨vs, upd_same, r.mono (tup_new hp)⟩, .new hp, q p (s.free hp)⟩
theorem qe_tup {k : Nat} (h : QA X es tas) : QE X (.Tuple es k pos) (dTup tas) := by
  refine ⟨fun ρ G Q xq σ H hq rs s tk => ?_⟩
  refine PE.we (pe_tup pa_max) ((h.run ρ G _ xq σ H hq rs s tk).imp fun vs H1 ⟨ds, G1, r1, s1, e1, l1, q1⟩ => ?_)
  exact ⟨by rw [r1.length]; exact l1, fun p hp => Lift.back e1 _ _ (lift_tup r1 s1 q1 hp)⟩
theorem qe_lst (h : QA X es tas) : QE X (.List es pos) (dLst tas) := by
  refine ⟨fun ρ G Q xq σ H hq rs s tk => ?_⟩
  refine PE.we (pe_lst pa_max) ((h.run ρ G _ xq σ H hq rs s tk).imp fun vs H1 ⟨ds, G1, r1, s1, e1, l1, q1⟩ => ?_)
  exact ⟨by rw [r1.length]; exact l1, fun p hp => Lift.back e1 _ _ (lift_lst r1 s1 q1 hp)⟩
/-! lists by value: locked as soon as they are made -/
theorem WE.lock {σ : L2.St} {H : Hp} {Q : VK} (h : WE X e σ H fun v H' => ∃ p vs, v = .ref p ∧ H' p = some (.lst vs) ∧ ∀ od, Q (.ref p) (upd H' p (.frz od (.lst vs)))) : WE X e σ H Q := fun pins s I =>
  thn (h pins s I) fun u s' ⟨x, H', I', r, p, vs, ex, hp, q⟩ => by
    subst ex
    obtain ⟨od, I2⟩ := I'.lock hp True.intro
    exact ⟨.ref p, _, I2, r, q od⟩
theorem upd_upd {H : Hp} {p : Addr} {a b : HO} : upd (upd H p a) p b = upd H p b := by
  funext c
  unfold upd
  split <;> rfl
theorem lift_rl {K : PySem.W.Frag} {G : Sto} {H : Hp} {Q : DQ} {ds : List D} {vs : List V} {p : Addr} {od : Obj} (r : Reps K H vs ds) (s : Sim K G H) (q : Q (.rl ds) G) (hp : H p = none) : Lift K G H Q (.ref p) (upd H p (.frz od (.lst vs))) :=
  ⟨.rl ds, G, .rl upd_same (r.mono (tup_new hp)), s.newT hp, .newT hp, q⟩
/-- a reading whose list is new, by value -/
theorem WE.val {σ : L2.St} {H : Hp} {G : Sto} {Q : DQ} (h : WE X e σ H fun v H' => ∃ p vs ds G1 H1, v = .ref p ∧ H' = upd H1 p (.lst vs) ∧ H1 p = none ∧ Reps X.K H1 vs ds ∧ Sim X.K G1 H1 ∧ Ext X.K G H G1 H1 ∧ Q (.rl ds) G1) : WE X e σ H (Lift X.K G H Q) := by
  refine WE.lock (h.imp fun v H' ⟨p, vs, ds, G1, H1, ev, eh, hp, r, s, e1, q⟩ => ⟨p, vs, ev, by rw [eh]; exact upd_same, fun od => ?_⟩)
  rw [eh, upd_upd]
  exact Lift.back e1 _ _ (lift_rl r s q hp)
def dLstV (t : DA) : DE := fun ρ G Q xq => t ρ G (fun ds G1 => ds.length ≤ sizeLine ∧ Q (.rl ds) G1) xq
theorem qe_lstV (h : QA X es tas) : QE X (.List es pos) (dLstV tas) := by
  refine ⟨fun ρ G Q xq σ H hq rs s tk => WE.val ?_⟩
  refine PE.we (pe_lst pa_max) ((h.run ρ G _ xq σ H hq rs s tk).imp fun vs H1 ⟨ds, G1, r1, s1, e1, l1, q1⟩ => ?_)
  exact ⟨by rw [r1.length]; exact l1, fun p hp => ⟨p, vs, ds, G1, H1, rfl, rfl, hp, r1, s1, e1, q1⟩⟩
/-- a tracked list, locked and told by value -/
def frzD (d : D) (G : Sto) (Q : DQ) : Prop := match d with
  | .ref a => ∃ ds, G a = some (.lst ds) ∧ Q (.rl ds) (drop G a)
  | _ => False
def dFrz (t : DE) : DE := fun ρ G Q xq => t ρ G (fun d G1 => frzD d G1 Q) xq
theorem qe_frz (h : QE X e te) : QE X e (dFrz te) := by
  refine ⟨fun ρ G Q xq σ H hq rs s tk => WE.lock ?_⟩
  refine (h.run ρ G _ xq σ H hq rs s tk).imp fun v H1 ⟨x, G1, rx, s1, e1, q1⟩ => ?_
  have q1 : frzD x G1 Q := q1
  unfold frzD at q1
  split at q1
  · cases rx
    obtain ⟨ds, g, q⟩ := q1
    obtain ⟨vs, h1, r1⟩ := s1 _ _ g
    exact ⟨_, vs, rfl, h1, fun od => ⟨.rl ds, drop G1 _, .rl upd_same (r1.mono (tup_mut h1 rfl)), s1.lock h1 rfl, e1.trans (.lock g h1 rfl), q⟩⟩
  · exact q1.elim
end
end DL
set_option maxHeartbeats 4000000
/-! tuple * 0, tuple * 1 -/
namespace DL
open PySem PySem.Spec PyProof.Rows L2
theorem tuple_mul0W (l : Addr) (items : Array Value) (n : Nat) (dd : Option Addr) (sl : Array (Option Value)) (x : Int) (u : Tok) (c0 : (decide (x < -(2 ^ 63)) || decide (x ≥ 2 ^ 63)) = false) (c1 : (items.isEmpty || x == 1) = false) (c2 : (decide (x ≤ 0) || items.isEmpty) = true) :
    Meets (Builtin.«tuple.__mul__» ⟨[.ref l, .int x u], []⟩) (fun _ R s => s.heap.get? l = some { cls := .type "tuple", dict := dd, data := .seq items n, slots := sl } ∧
      R (.ok (.ret (Value.ref s.heap.objs.size))) { s with heap := s.heap.push { cls := Value.type "tuple", data := Data.seq #[] }, toks := s.toks }) :=
  .of_wp fun prog w A R s h => by
    obtain ⟨hp, g, d, tk, os⟩ := s
    obtain ⟨hl, h⟩ := h
    have f1 := AutoSeq1.idx_int
    wp_walk using wpAny_loadPart' hl
    repeat (first
      | (refine wpAny_ite_false (decide_eq_false (by rw [c0]; exact Bool.false_ne_true)) ?_; wp_walk using wpAny_loadPart' hl)
      | (refine wpAny_ite_false (decide_eq_false (by rw [c1]; exact Bool.false_ne_true)) ?_; wp_walk using wpAny_loadPart' hl)
      | (refine wpAny_ite_true (decide_eq_true (by rw [c2])) ?_; wp_walk using wpAny_loadPart' hl))
    exact ⟨_, rfl, h⟩
theorem tuple_mul1W (l : Addr) (items : Array Value) (n : Nat) (dd : Option Addr) (sl : Array (Option Value)) (x : Int) (u : Tok) (c0 : (decide (x < -(2 ^ 63)) || decide (x ≥ 2 ^ 63)) = false) (c1 : (items.isEmpty || x == 1) = true) :
    Meets (Builtin.«tuple.__mul__» ⟨[.ref l, .int x u], []⟩) (fun _ R s => s.heap.get? l = some { cls := .type "tuple", dict := dd, data := .seq items n, slots := sl } ∧
      R (.ok (.ret (Value.ref l))) s) :=
  .of_wp fun prog w A R s h => by
    obtain ⟨hp, g, d, tk, os⟩ := s
    obtain ⟨hl, h⟩ := h
    have f1 := AutoSeq1.idx_int
    wp_walk using wpAny_loadPart' hl
    repeat (first
      | (refine wpAny_ite_false (decide_eq_false (by rw [c0]; exact Bool.false_ne_true)) ?_; wp_walk using wpAny_loadPart' hl)
      | (refine wpAny_ite_true (decide_eq_true (by rw [c1])) ?_; wp_walk using wpAny_loadPart' hl))
    exact ⟨_, rfl, h⟩
section
variable {X : Cx}
def rRepT0 (K : PySem.W.Frag) : R2 := fun x y H Q => ∃ l xs, x = .ref l ∧ y = .int 0 ∧ SqT K H l xs ∧ xs ≠ [] ∧ ∀ p, H p = none → Q (.ref p) (upd H p (.tup []))
def rRepT1 (K : PySem.W.Frag) : R2 := fun x y H Q => ∃ l xs, x = .ref l ∧ y = .int 1 ∧ SqT K H l xs ∧ Q (.ref l) H
theorem op_repT0 : OpR X (binaryOp .Mult) (rRepT0 X.K) := by
  intro pins s σ H x y v u Q I rx ry h
  obtain ⟨l, xs, rfl, rfl, hT, hne, q⟩ := h
  cases rx
  obtain ⟨t, rfl⟩ := ry
  obtain ⟨its, r, ⟨⟨cls, dd, data, sl⟩, ho, hc, n, hd⟩, hs⟩ := I.tuple hT
  simp only at hc hd
  subst hc hd
  have hle : its.length = xs.length := r.length.symm
  have hn : its ≠ [] := fun e => hne (by
    rw [e] at hle
    exact List.eq_nil_of_length_eq_zero hle.symm)
  have hi : its.toArray.isEmpty = false := by
    cases its with
    | nil => exact absurd rfl hn
    | cons a b => rfl
  refine wpAny_binaryOp_repeat_ref (T := "tuple") (U := "int") (by decide) ⟨_, ho, rfl⟩ (fun s' => typeIs_int s' 0 t) noFill_tuple_mul F.fills_int_mul F.slot_int_rmul repeat_tuple F.slot_int_index.lookup
    (call_meets F.slot_int_rmul (typeIs_int s 0 t) F.entry_int_rmul (F.args_int_rmul_2 _ _) (int_rmul_tuple 0 t l its.toArray n dd sl)
      ⟨ho, rfl, ⟨_, ho, rfl⟩, call_meets F.slot_tuple_mul ⟨_, ho, rfl⟩ F.entry_tuple_mul (F.args_tuple_mul_2 _ _) (tuple_mul0W l its.toArray n dd sl 0 t (by decide) (by rw [hi]; rfl) (by simp)) ⟨ho, ?_⟩⟩)
  refine ⟨.ref s.heap.objs.size, _, I.laid (t' := s.toks) (o := .tup []) (fun b ob q => Heap.get?_push_of_some _ q) (Nat.le_refl _) ?_, rfl, q _ (I.hok.fresh (Nat.le_refl _))⟩
  exact ⟨by simp, _, .nil, IsTup.new _ _⟩
theorem op_repT1 : OpR X (binaryOp .Mult) (rRepT1 X.K) := by
  intro pins s σ H x y v u Q I rx ry h
  obtain ⟨l, xs, rfl, rfl, hT, q⟩ := h
  cases rx
  obtain ⟨t, rfl⟩ := ry
  obtain ⟨its, r, ⟨⟨cls, dd, data, sl⟩, ho, hc, n, hd⟩, hs⟩ := I.tuple hT
  simp only at hc hd
  subst hc hd
  refine wpAny_binaryOp_repeat_ref (T := "tuple") (U := "int") (by decide) ⟨_, ho, rfl⟩ (fun s' => typeIs_int s' 1 t) noFill_tuple_mul F.fills_int_mul F.slot_int_rmul repeat_tuple F.slot_int_index.lookup
    (call_meets F.slot_int_rmul (typeIs_int s 1 t) F.entry_int_rmul (F.args_int_rmul_2 _ _) (int_rmul_tuple 1 t l its.toArray n dd sl)
      ⟨ho, rfl, ⟨_, ho, rfl⟩, call_meets F.slot_tuple_mul ⟨_, ho, rfl⟩ F.entry_tuple_mul (F.args_tuple_mul_2 _ _) (tuple_mul1W l its.toArray n dd sl 1 t (by decide) (by simp)) ⟨ho, ?_⟩⟩)
  exact ⟨.ref l, H, I, rfl, q⟩
end
end DL
namespace DL
open PySem PySem.Spec PyProof.Rows L2
section
variable {X : Cx}
/-! operators -/
def addD : DR2 := fun x y G Q => match x, y with
  | .int i, .int j => Q (.int (i + j)) G
  | .bl i, .int j => Q (.int ((if i = true then 1 else 0) + j)) G
  | .str i, .str j => i.length + j.length ≤ sizeLine ∧ Q (.str (i ++ j)) G
  | .tup xs, .tup ys => xs.length + ys.length ≤ sizeLine ∧ Q (.tup (xs ++ ys)) G
  | .ref a, .ref b => ∃ xs ys, G a = some (.lst xs) ∧ G b = some (.lst ys) ∧ xs.length + ys.length ≤ sizeLine ∧ ∀ p, G p = none → Q (.ref p) (put G p (.lst (xs ++ ys)))
  | _, _ => False
theorem op_add_bi : OpR X (binaryOp .Add) (fun x y H Q => ∃ (b : Bool) (i : Int), x = .bl b ∧ y = .int i ∧ Q (.int ((if b = true then 1 else 0) + i)) H) := by
  intro pins s σ H x y v u Q I rx ry h
  obtain ⟨b, i, rfl, rfl, q⟩ := h
  obtain rfl : v = Value.bool b := rx
  obtain ⟨t, rfl⟩ := ry
  exact IntBool.add_bool_int ⟨.int _, H, I.tok _, ⟨_, rfl⟩, q⟩
theorem op_sub_bi : OpR X (binaryOp .Sub) (fun x y H Q => ∃ (b : Bool) (i : Int), x = .bl b ∧ y = .int i ∧ Q (.int ((if b = true then 1 else 0) - i)) H) := by
  intro pins s σ H x y v u Q I rx ry h
  obtain ⟨b, i, rfl, rfl, q⟩ := h
  obtain rfl : v = Value.bool b := rx
  obtain ⟨t, rfl⟩ := ry
  exact IntBool.sub_bool_int ⟨.int _, H, I.tok _, ⟨_, rfl⟩, q⟩
theorem op_sub_ib : OpR X (binaryOp .Sub) (fun x y H Q => ∃ (i : Int) (b : Bool), x = .int i ∧ y = .bl b ∧ Q (.int (i - (if b = true then 1 else 0))) H) := by
  intro pins s σ H x y v u Q I rx ry h
  obtain ⟨i, b, rfl, rfl, q⟩ := h
  obtain ⟨t, rfl⟩ := rx
  obtain rfl : u = Value.bool b := ry
  exact IntBool.sub_int_bool ⟨.int _, H, I.tok _, ⟨_, rfl⟩, q⟩
theorem op_addD : OpD X (binaryOp .Add) addD := by
  intro x y G Q v u σ H h rx ry s
  unfold addD at h
  split at h
  · cases rx; cases ry
    exact OpR.wo op_add ⟨_, _, rfl, rfl, Lift.here (.int _) s h⟩
  · cases rx; cases ry
    exact OpR.wo op_add_bi ⟨_, _, rfl, rfl, Lift.here (.int _) s h⟩
  · cases rx; cases ry
    exact OpR.wo op_add_str ⟨_, _, rfl, rfl, h.1, Lift.here (.str _) s h.2⟩
  · cases rx with
    | tup h1 r1 =>
      cases ry with
      | tup h2 r2 =>
        refine OpR.wo op_catA ⟨_, _, _, _, rfl, rfl, h1, h2, by rw [r1.length, r2.length]; exact h.1, fun e => ?_, fun _ e => ?_, fun _ _ p hp => lift_tup (r1.append r2) s h.2 hp⟩
        · subst e
          cases r1
          exact Lift.here (.tup h2 r2) s h.2
        · subst e
          cases r2
          have q := h.2
          rw [List.append_nil] at q
          exact Lift.here (.tup h1 r1) s q
  · cases rx; cases ry
    obtain ⟨xs, ys, g1, g2, hl, q⟩ := h
    obtain ⟨vs, h1, r1⟩ := s _ _ g1
    obtain ⟨us, h2, r2⟩ := s _ _ g2
    exact OpR.wo op_cat ⟨_, _, _, _, rfl, rfl, h1, h2, by rw [r1.length, r2.length]; exact hl, fun p hp => lift_lst (r1.append r2) s q hp⟩
  · exact h.elim
def intD (C : Int → Int → Prop) (g : Int → Int → Int) : DR2 := fun x y G Q => match x, y with
  | .int i, .int j => C i j ∧ Q (.int (g i j)) G
  | _, _ => False
theorem op_intD {f : Value → Value → Sem Value} {C : Int → Int → Prop} {g : Int → Int → Int} (h : OpR X f (rI C fun i j => .int (g i j))) : OpD X f (intD C g) := by
  intro x y G Q v u σ H q rx ry s
  unfold intD at q
  split at q
  · cases rx; cases ry
    exact OpR.wo h ⟨_, _, rfl, rfl, q.1, Lift.here (.int _) s q.2⟩
  · exact q.elim
theorem rI_or {f : Value → Value → Sem Value} {C C' : Int → Int → Prop} {g : Int → Int → V} (h : OpR X f (rI C g)) (h' : OpR X f (rI C' g)) : OpR X f (rI (fun i j => C i j ∨ C' i j) g) := by
  intro pins s σ H x y v u Q I rx ry q
  obtain ⟨i, j, e1, e2, c | c, q⟩ := q
  · exact h pins s σ H x y v u Q I rx ry ⟨i, j, e1, e2, c, q⟩
  · exact h' pins s σ H x y v u Q I rx ry ⟨i, j, e1, e2, c, q⟩
theorem rI_of {f : Value → Value → Sem Value} {g : Int → Int → V} (h : OpR X f (rI0 g)) : OpR X f (rI (fun _ _ => True) g) := by
  intro pins s σ H x y v u Q I rx ry q
  obtain ⟨i, j, e1, e2, _, q⟩ := q
  exact h pins s σ H x y v u Q I rx ry ⟨i, j, e1, e2, q⟩
def subD : DR2 := fun x y G Q => match x, y with
  | .int i, .int j => Q (.int (i - j)) G
  | .bl i, .int j => Q (.int ((if i = true then 1 else 0) - j)) G
  | .int i, .bl j => Q (.int (i - (if j = true then 1 else 0))) G
  | _, _ => False
theorem op_subD : OpD X (binaryOp .Sub) subD := by
  intro x y G Q v u σ H h rx ry s
  unfold subD at h
  split at h
  · cases rx; cases ry
    exact OpR.wo op_sub ⟨_, _, rfl, rfl, Lift.here (.int _) s h⟩
  · cases rx; cases ry
    exact OpR.wo op_sub_bi ⟨_, _, rfl, rfl, Lift.here (.int _) s h⟩
  · cases rx; cases ry
    exact OpR.wo op_sub_ib ⟨_, _, rfl, rfl, Lift.here (.int _) s h⟩
  · exact h.elim
def fdivD : DR2 := fun x y G Q => match x, y with
  | .int i, .int j => (CDiv i j ∨ CDivW i j) ∧ Q (.int (i / j)) G
  | _, _ => False
theorem op_fdivD : OpD X (binaryOp .FloorDiv) fdivD := fun x y G Q v u σ H h => op_intD (C := fun i j => CDiv i j ∨ CDivW i j) (g := fun i j => i / j) (rI_or op_fdiv op_fdivW) x y G Q v u σ H (by cases x <;> cases y <;> exact h)
def modD : DR2 := fun x y G Q => match x, y with
  | .int i, .int j => 0 < j ∧ Q (.int (i % j)) G
  | _, _ => False
theorem op_modD : OpD X (binaryOp .Mod) modD := fun x y G Q v u σ H h => op_intD (C := fun _ j => 0 < j) (g := fun i j => i % j) op_mod x y G Q v u σ H (by cases x <;> cases y <;> exact h)
def powD : DR2 := fun x y G Q => match x, y with
  | .int i, .int j => CPow i j ∧ Q (.int (i ^ j.toNat)) G
  | _, _ => False
theorem op_powD : OpD X (binaryOp .Pow) powD := fun x y G Q v u σ H h => op_intD (C := CPow) (g := fun i j => i ^ j.toNat) op_pow x y G Q v u σ H (by cases x <;> cases y <;> exact h)
def bandD : DR2 := fun x y G Q => match x, y with
  | .int i, .int j => Q (.int (Builtin.bitAnd i j)) G
  | _, _ => False
theorem op_bandD : OpD X (binaryOp .BitAnd) bandD := fun x y G Q v u σ H h => op_intD (C := fun _ _ => True) (g := fun i j => Builtin.bitAnd i j) (rI_of op_and) x y G Q v u σ H (by cases x <;> cases y <;> first | exact ⟨trivial, h⟩ | exact h)
def bxorD : DR2 := fun x y G Q => match x, y with
  | .int i, .int j => Q (.int (Builtin.bitXor i j)) G
  | _, _ => False
theorem op_bxorD : OpD X (binaryOp .BitXor) bxorD := fun x y G Q v u σ H h => op_intD (C := fun _ _ => True) (g := fun i j => Builtin.bitXor i j) (rI_of op_xor) x y G Q v u σ H (by cases x <;> cases y <;> first | exact ⟨trivial, h⟩ | exact h)
def mulD : DR2 := fun x y G Q => match x, y with
  | .int i, .int j => (CMul i j ∨ CMulW i j) ∧ Q (.int (i * j)) G
  | .ref a, .int k => ∃ xs, G a = some (.lst xs) ∧ -(2 ^ 63) ≤ k ∧ k < 2 ^ 63 ∧ xs.length * k.toNat ≤ sizeLine ∧ ∀ p, G p = none → Q (.ref p) (put G p (.lst (List.replicate k.toNat xs).flatten))
  | .tup xs, .int k => xs ≠ [] ∧ 0 ≤ k ∧ k ≤ 1000 ∧ xs.length ≤ 1000 ∧ Q (.tup (List.replicate k.toNat xs).flatten) G
  | .str z, .int k => PySem.MulOk z k ∧ Q (.str (PySem.Txt.mul z k)) G
  | _, _ => False
theorem op_mulS : OpR X (binaryOp .Mult) (fun x y H Q => ∃ (z : Str) (k : Int), x = .str z ∧ y = .int k ∧ PySem.MulOk z k ∧ Q (.str (PySem.Txt.mul z k)) H) := by
  intro pins s σ H x y v u Q I rx ry h
  obtain ⟨z, k, rfl, rfl, hk, q⟩ := h
  obtain ⟨t, rfl⟩ := rx
  obtain ⟨t', rfl⟩ := ry
  exact PySem.SB.mul hk fun t'' k' => ⟨.str _, H, I.tok _, ⟨t'', rfl⟩, q⟩
theorem Reps.rep {K : PySem.W.Frag} {H : Hp} {vs : List V} {ds : List D} (h : Reps K H vs ds) : ∀ k : Nat, Reps K H (List.replicate k vs).flatten (List.replicate k ds).flatten
  | 0 => .nil
  | k + 1 => by
    rw [List.replicate_succ, List.replicate_succ, List.flatten_cons, List.flatten_cons]
    exact h.append (Reps.rep h k)
theorem op_mulD : OpD X (binaryOp .Mult) mulD := by
  intro x y G Q v u σ H h rx ry s
  unfold mulD at h
  split at h
  · cases rx; cases ry
    exact OpR.wo (rI_or op_mul op_mulW) ⟨_, _, rfl, rfl, h.1, Lift.here (.int _) s h.2⟩
  · cases rx; cases ry
    obtain ⟨xs, g1, k1, k2, hl, q⟩ := h
    obtain ⟨vs, h1, r1⟩ := s _ _ g1
    exact OpR.wo op_rep ⟨_, _, _, rfl, rfl, h1, k1, k2, by rw [r1.length]; exact hl, fun p hp => lift_lst (r1.rep _) s q hp⟩
  · rename_i xs_ k_
    cases ry
    cases rx with
    | tup h1 r1 =>
      obtain ⟨hn, k0, k2, hl, q⟩ := h
      by_cases e0 : k_ = (0 : Int)
      · subst e0
        refine OpR.wo op_repT0 ⟨_, _, rfl, rfl, h1, fun e => ?_, fun p hp => lift_tup .nil s q hp⟩
        subst e
        cases r1
        exact hn rfl
      by_cases e1 : k_ = (1 : Int)
      · subst e1
        refine OpR.wo op_repT1 ⟨_, _, rfl, rfl, h1, ?_⟩
        have q : Q (.tup (xs_ ++ [])) G := q
        rw [List.append_nil] at q
        exact Lift.here (.tup h1 r1) s q
      have k1 : 2 ≤ k_ := by omega
      refine OpR.wo op_repT ⟨_, _, _, rfl, rfl, h1, fun e => ?_, k1, k2, by rw [r1.length]; exact hl, fun p hp => lift_tup (r1.rep _) s q hp⟩
      subst e
      cases r1
      exact hn rfl
  · cases rx; cases ry
    exact OpR.wo op_mulS ⟨_, _, rfl, rfl, h.1, Lift.here (.str _) s h.2⟩
  · exact h.elim
/-! operators whose new list is told by value -/
/-- what a list holds: by value, or tracked -/
def lstD (d : D) (G : Sto) (k : List D → Prop) : Prop := match d with
  | .ref a => ∃ ds, G a = some (.lst ds) ∧ k ds
  | .rl ds => k ds
  | _ => False
theorem lst_ {K : PySem.W.Frag} {d : D} {G : Sto} {k : List D → Prop} {v : V} {H : Hp} (h : lstD d G k) (r : Rep K H v d) (s : Sim K G H) : ∃ p vs ds, v = .ref p ∧ SqL K H p vs ∧ Reps K H vs ds ∧ k ds := by
  cases d with
  | ref a =>
    cases r
    obtain ⟨ds, hg, q⟩ := h
    obtain ⟨vs, h1, h2⟩ := s a _ hg
    exact ⟨_, vs, ds, rfl, .of h1, h2, q⟩
  | rl ds =>
    cases r with
    | rl h1 r1 => exact ⟨_, _, ds, rfl, frz_sq h1, r1, h⟩
  | _ => exact False.elim h
theorem lst_rd {K : PySem.W.Frag} {d : D} {G : Sto} {k : List D → Prop} {v : V} {H : Hp} (h : lstD d G k) (r : Rep K H v d) (s : Sim K G H) : ∃ p vs ds, v = .ref p ∧ Rd H p (.lst vs) ∧ Reps K H vs ds ∧ k ds := by
  cases d with
  | ref a =>
    cases r
    obtain ⟨ds, hg, q⟩ := h
    obtain ⟨vs, h1, h2⟩ := s a _ hg
    exact ⟨_, vs, ds, rfl, .inl h1, h2, q⟩
  | rl ds =>
    cases r with
    | rl h1 r1 => exact ⟨_, _, ds, rfl, .inr ⟨_, h1⟩, r1, h⟩
  | _ => exact False.elim h
def OpV (X : Cx) (f : Value → Value → Sem Value) (r : DR2) : Prop :=
  ∀ x y G Q v u σ H, r x y G Q → Rep X.K H v x → Rep X.K H u y → Sim X.K G H → WO X f v u σ H (fun w H' => ∃ p vs ds, w = .ref p ∧ H' = upd H p (.lst vs) ∧ H p = none ∧ Reps X.K H vs ds ∧ Q (.rl ds) G)
theorem WO.lock {f : Value → Value → Sem Value} {v u : V} {σ : L2.St} {H : Hp} {R : VK} (h : WO X f v u σ H fun v H' => ∃ p vs, v = .ref p ∧ H' p = some (.lst vs) ∧ ∀ od, R (.ref p) (upd H' p (.frz od (.lst vs)))) : WO X f v u σ H R := fun pins s v' u' I rx ry =>
  thn (h pins s v' u' I rx ry) fun w s' ⟨x, H', I', r, p, vs, ex, hp, q⟩ => by
    subst ex
    obtain ⟨od, I2⟩ := I'.lock hp True.intro
    exact ⟨.ref p, _, I2, r, q od⟩
theorem OpV.opd {f : Value → Value → Sem Value} {r : DR2} (h : OpV X f r) : OpD X f r := fun x y G Q v u σ H q rx ry s => by
  refine WO.lock ((h x y G Q v u σ H q rx ry s).imp fun w H' ⟨p, vs, ds, ew, eh, hp, rs, q⟩ => ⟨p, vs, ew, by rw [eh]; exact upd_same, fun od => ?_⟩)
  rw [eh, upd_upd]
  exact lift_rl rs s q hp
theorem op_cat_rd : OpR X (binaryOp .Add) (fun x y H Q => ∃ p q xs ys, x = .ref p ∧ y = .ref q ∧ Rd H p (.lst xs) ∧ Rd H q (.lst ys) ∧ xs.length + ys.length ≤ sizeLine ∧ ∀ b, H b = none → Q (.ref b) (upd H b (.lst (xs ++ ys)))) := by
  intro pins s σ H x y v u Q I rx ry h
  obtain ⟨l, b, xs, zs, rfl, rfl, hH, hB, hz, q⟩ := h
  cases rx
  cases ry
  obtain ⟨z, its, n, r, e⟩ := hH.ok I.hok
  obtain ⟨z2, its2, n2, r2, e2⟩ := hB.ok I.hok
  have hl := r.length
  have hl2 := r2.length
  refine PySem.P.add_list e e2 ?_ (by rw [List.size_toArray, List.size_toArray]; omega)
  rw [show its.toArray ++ its2.toArray = (its ++ its2).toArray by simp]
  exact ⟨.ref _, _, I.lnew (t' := s.toks) (r.append r2) (by rw [List.length_append]; omega), rfl, q _ I.fresh⟩
/-- + where lists may stand: their sum by value -/
def catV : DR2 := fun x y G Q => lstD x G fun xs => lstD y G fun ys => xs.length + ys.length ≤ sizeLine ∧ Q (.rl (xs ++ ys)) G
theorem op_catV : OpV X (binaryOp .Add) catV := by
  intro x y G Q v u σ H h rx ry s
  obtain ⟨p, vs, ds, rfl, hs, r1, h⟩ := lst_rd h rx s
  obtain ⟨p2, vs2, ds2, rfl, hs2, r2, hl, q⟩ := lst_rd h ry s
  exact OpR.wo op_cat_rd ⟨_, _, _, _, rfl, rfl, hs, hs2, by rw [r1.length, r2.length]; exact hl, fun b hb => ⟨b, _, _, rfl, rfl, hb, r1.append r2, q⟩⟩
def addV : DR2 := fun x y G Q => match x, y with
  | .int i, .int j => Q (.int (i + j)) G
  | .bl i, .int j => Q (.int ((if i = true then 1 else 0) + j)) G
  | .str i, .str j => i.length + j.length ≤ sizeLine ∧ Q (.str (i ++ j)) G
  | .tup xs, .tup ys => xs.length + ys.length ≤ sizeLine ∧ Q (.tup (xs ++ ys)) G
  | x, y => catV x y G Q
theorem op_addV : OpD X (binaryOp .Add) addV := by
  intro x y G Q v u σ H h rx ry s
  unfold addV at h
  split at h
  · exact op_addD (.int _) (.int _) G Q v u σ H h rx ry s
  · exact op_addD (.bl _) (.int _) G Q v u σ H h rx ry s
  · exact op_addD (.str _) (.str _) G Q v u σ H h rx ry s
  · exact op_addD (.tup _) (.tup _) G Q v u σ H h rx ry s
  · exact op_catV.opd _ _ G Q v u σ H h rx ry s
/-! data by value: what is compared -/
mutual
inductive Dd (G : Sto) : D → PyData → Prop
  | non : Dd G .non .none
  | bl (b : Bool) : Dd G (.bl b) (.bool b)
  | int (i : Int) : Dd G (.int i) (.int i)
  | str (x : Str) : Dd G (.str x) (.str x)
  | tup {ds : List D} {ps : List PyData} : Dds G ds ps → Dd G (.tup ds) (.tuple ps)
  | lst {a : Addr} {ds : List D} {ps : List PyData} : G a = some (.lst ds) → Dds G ds ps → Dd G (.ref a) (.list ps)
  | rl {ds : List D} {ps : List PyData} : Dds G ds ps → Dd G (.rl ds) (.list ps)
inductive Dds (G : Sto) : List D → List PyData → Prop
  | nil : Dds G [] []
  | cons {d : D} {ds : List D} {p : PyData} {ps : List PyData} : Dd G d p → Dds G ds ps → Dds G (d :: ds) (p :: ps)
end
section
variable {K : PySem.W.Frag} {G : Sto} {H : Hp} (s : Sim K G H)
include s
mutual
theorem Dd.dp : ∀ {d : D} {p : PyData}, Dd G d p → ∀ {v : V}, Rep K H v d → Dp K H v p
  | _, _, .non, _, .non => .non
  | _, _, .bl b, _, .bl _ => .bl b
  | _, _, .int i, _, .int _ => .int i
  | _, _, .str i, _, .str _ => .str i
  | _, _, .tup h, _, .tup h1 r => .tup h1 (Dds.dp h r)
  | _, _, .lst g h, _, .ref _ => by
    obtain ⟨vs, h1, r1⟩ := s _ _ g
    exact .lst (.of h1) (Dds.dp h r1)
  | _, _, .rl h, _, .rl h1 r => .lst (frz_sq h1) (Dds.dp h r)
theorem Dds.dp : ∀ {d : List D} {p : List PyData}, Dds G d p → ∀ {v : List V}, Reps K H v d → DpAll K H v p
  | _, _, .nil, _, .nil => .nil
  | _, _, .cons a b, _, .cons r t => .cons (Dd.dp a r) (Dds.dp b t)
end
end
theorem isEmpty_reps {K : PySem.W.Frag} {H : Hp} {vs : List V} {ds : List D} (r : Reps K H vs ds) : vs.isEmpty = ds.isEmpty := by
  cases r <;> rfl
/-- a tuple of whatever and the empty tuple -/
theorem op_eq_nilT (hu : X.A.units + 64 < cLine) : OpR X (compareOp .Eq) (fun x y H Q => ∃ a b xs, x = .ref a ∧ y = .ref b ∧ SqT X.K H a xs ∧ SqT X.K H b [] ∧ Q (.bl xs.isEmpty) H) := by
  intro pins s σ H x y v u Q I rx ry h
  obtain ⟨a, b, xs, rfl, rfl, ha, hb, q⟩ := h
  obtain rfl : v = Value.ref a := rx
  obtain rfl : u = Value.ref b := ry
  obtain ⟨its, r, p, _⟩ := I.tuple ha
  obtain ⟨its2, r2, p2, _⟩ := I.tuple hb
  cases r2
  have hl := r.length
  refine SeqAt.RcAt.tuples (e := fun _ => true) p p2 (by omega) (fun j h1 h2 => absurd h2 (by simp)) X.prog X.w X.xe _ ⟨.bl xs.isEmpty, H, I, ?_, q⟩
  show Value.bool _ = Value.bool _
  cases xs with
  | nil => cases r; rfl
  | cons x xs => cases r; simp
theorem op_ne_nilT (hu : X.A.units + 64 < cLine) : OpR X (compareOp .NotEq) (fun x y H Q => ∃ a b xs, x = .ref a ∧ y = .ref b ∧ SqT X.K H a xs ∧ SqT X.K H b [] ∧ Q (.bl (!xs.isEmpty)) H) := by
  intro pins s σ H x y v u Q I rx ry h
  obtain ⟨a, b, xs, rfl, rfl, ha, hb, q⟩ := h
  obtain rfl : v = Value.ref a := rx
  obtain rfl : u = Value.ref b := ry
  obtain ⟨its, r, p, _⟩ := I.tuple ha
  obtain ⟨its2, r2, p2, _⟩ := I.tuple hb
  cases r2
  have hl := r.length
  refine SeqAt.RcNeAt.tuples (e := fun _ => true) p p2 (by omega) (fun j h1 h2 => absurd h2 (by simp)) X.prog X.w X.xe _ ⟨.bl (!xs.isEmpty), H, I, ?_, q⟩
  show Value.bool _ = Value.bool _
  cases xs with
  | nil => cases r; rfl
  | cons x xs => cases r; simp
/-- a list of whatever and the empty list -/
theorem op_eq_nilL (hu : X.A.units + 64 < cLine) : OpR X (compareOp .Eq) (fun x y H Q => ∃ a b xs, x = .ref a ∧ y = .ref b ∧ SqL X.K H a xs ∧ SqL X.K H b [] ∧ Q (.bl xs.isEmpty) H) := by
  intro pins s σ H x y v u Q I rx ry h
  obtain ⟨a, b, xs, rfl, rfl, ha, hb, q⟩ := h
  obtain rfl : v = Value.ref a := rx
  obtain rfl : u = Value.ref b := ry
  obtain ⟨its, r, p, _⟩ := I.list ha
  obtain ⟨its2, r2, p2, _⟩ := I.list hb
  cases r2
  cases xs with
  | nil =>
    cases r
    exact SeqAt.RcAt.lists (e := fun _ => true) p.isList p2.isList rfl (by omega) (fun j h1 h2 => absurd h2 (by simp)) X.prog X.w X.xe _ ⟨.bl true, H, I, rfl, q⟩
  | cons x xs =>
    cases r
    exact SeqAt.RcAt.lists_lengths p.isList p2.isList (by simp) (by omega) X.prog X.w X.xe _ ⟨.bl false, H, I, rfl, q⟩
theorem op_ne_nilL (hu : X.A.units + 64 < cLine) : OpR X (compareOp .NotEq) (fun x y H Q => ∃ a b xs, x = .ref a ∧ y = .ref b ∧ SqL X.K H a xs ∧ SqL X.K H b [] ∧ Q (.bl (!xs.isEmpty)) H) := by
  intro pins s σ H x y v u Q I rx ry h
  obtain ⟨a, b, xs, rfl, rfl, ha, hb, q⟩ := h
  obtain rfl : v = Value.ref a := rx
  obtain rfl : u = Value.ref b := ry
  obtain ⟨its, r, p, _⟩ := I.list ha
  obtain ⟨its2, r2, p2, _⟩ := I.list hb
  cases r2
  cases xs with
  | nil =>
    cases r
    exact SeqAt.RcNeAt.lists (e := fun _ => true) p.isList p2.isList rfl (by omega) (fun j h1 h2 => absurd h2 (by simp)) X.prog X.w X.xe _ ⟨.bl false, H, I, rfl, q⟩
  | cons x xs =>
    cases r
    exact SeqAt.RcNeAt.lists_lengths p.isList p2.isList (by simp) (by omega) X.prog X.w X.xe _ ⟨.bl true, H, I, rfl, q⟩
def eqD : DR2 := fun x y G Q => match x, y with
  | .int i, .int j => Q (.bl (i == j)) G
  | .bl i, .bl j => Q (.bl (i == j)) G
  | .str i, .str j => Q (.bl (i == j)) G
  | .tup xs, .tup [] => Q (.bl xs.isEmpty) G
  | .rl xs, .rl [] => Q (.bl xs.isEmpty) G
  | .ref a, .rl [] => ∃ xs, G a = some (.lst xs) ∧ Q (.bl xs.isEmpty) G
  | x, y => ∃ p q, Dd G x p ∧ Dd G y q ∧ SeqAt.shaped p = true ∧ SeqAt.shaped q = true ∧ Q (.bl (PyData.eqv p q)) G
def neD : DR2 := fun x y G Q => match x, y with
  | .int i, .int j => Q (.bl (!(i == j))) G
  | .bl i, .bl j => Q (.bl (!(i == j))) G
  | .str i, .str j => Q (.bl (!(i == j))) G
  | .tup xs, .tup [] => Q (.bl (!xs.isEmpty)) G
  | .rl xs, .rl [] => Q (.bl (!xs.isEmpty)) G
  | .ref a, .rl [] => ∃ xs, G a = some (.lst xs) ∧ Q (.bl (!xs.isEmpty)) G
  | x, y => ∃ p q, Dd G x p ∧ Dd G y q ∧ SeqAt.shaped p = true ∧ SeqAt.shaped q = true ∧ Q (.bl (!PyData.eqv p q)) G
theorem op_eqD' (hu : X.A.units + 64 < cLine) : OpD X (compareOp .Eq) eqD := by
  intro x y G Q v u σ H h rx ry s
  unfold eqD at h
  split at h
  · cases rx; cases ry
    exact OpR.wo op_eq ⟨rfl, Lift.here (.bl _) s (by rw [dec_int]; exact h)⟩
  · cases rx; cases ry
    exact OpR.wo op_eq ⟨rfl, Lift.here (.bl _) s (by rw [dec_bl]; exact h)⟩
  · cases rx; cases ry
    exact OpR.wo op_eq ⟨rfl, Lift.here (.bl _) s (by rw [dec_str]; exact h)⟩
  · cases rx with
    | tup h1 r1 =>
      cases ry with
      | tup h2 r2 =>
        cases r2
        refine OpR.wo (op_eq_nilT hu) ⟨_, _, _, rfl, rfl, h1, h2, ?_⟩
        have e : List.isEmpty _ = List.isEmpty _ := isEmpty_reps r1
        rw [e]
        exact Lift.here (.bl _) s h
  · cases rx with
    | rl h1 r1 =>
      cases ry with
      | rl h2 r2 =>
        cases r2
        refine OpR.wo (op_eq_nilL hu) ⟨_, _, _, rfl, rfl, frz_sq h1, frz_sq h2, ?_⟩
        have e : List.isEmpty _ = List.isEmpty _ := isEmpty_reps r1
        rw [e]
        exact Lift.here (.bl _) s h
  · cases rx
    obtain ⟨xs, g, h⟩ := h
    obtain ⟨vs, h1, r1⟩ := s _ _ g
    cases ry with
    | rl h2 r2 =>
      cases r2
      refine OpR.wo (op_eq_nilL hu) ⟨_, _, _, rfl, rfl, .of h1, frz_sq h2, ?_⟩
      rw [isEmpty_reps r1]
      exact Lift.here (.bl _) s h
  · obtain ⟨p, q, d1, d2, s1, s2, h⟩ := h
    exact OpR.wo (op_eqD hu) ⟨p, q, d1.dp s rx, d2.dp s ry, s1, s2, Lift.here (.bl _) s h⟩
theorem op_neD' (hu : X.A.units + 64 < cLine) : OpD X (compareOp .NotEq) neD := by
  intro x y G Q v u σ H h rx ry s
  unfold neD at h
  split at h
  · cases rx; cases ry
    exact OpR.wo op_ne ⟨rfl, Lift.here (.bl _) s (by rw [dec_int]; exact h)⟩
  · cases rx; cases ry
    exact OpR.wo op_ne ⟨rfl, Lift.here (.bl _) s (by rw [dec_bl]; exact h)⟩
  · cases rx; cases ry
    exact OpR.wo op_ne ⟨rfl, Lift.here (.bl _) s (by rw [dec_str]; exact h)⟩
  · cases rx with
    | tup h1 r1 =>
      cases ry with
      | tup h2 r2 =>
        cases r2
        refine OpR.wo (op_ne_nilT hu) ⟨_, _, _, rfl, rfl, h1, h2, ?_⟩
        have e : List.isEmpty _ = List.isEmpty _ := isEmpty_reps r1
        rw [e]
        exact Lift.here (.bl _) s h
  · cases rx with
    | rl h1 r1 =>
      cases ry with
      | rl h2 r2 =>
        cases r2
        refine OpR.wo (op_ne_nilL hu) ⟨_, _, _, rfl, rfl, frz_sq h1, frz_sq h2, ?_⟩
        have e : List.isEmpty _ = List.isEmpty _ := isEmpty_reps r1
        rw [e]
        exact Lift.here (.bl _) s h
  · cases rx
    obtain ⟨xs, g, h⟩ := h
    obtain ⟨vs, h1, r1⟩ := s _ _ g
    cases ry with
    | rl h2 r2 =>
      cases r2
      refine OpR.wo (op_ne_nilL hu) ⟨_, _, _, rfl, rfl, .of h1, frz_sq h2, ?_⟩
      rw [isEmpty_reps r1]
      exact Lift.here (.bl _) s h
  · obtain ⟨p, q, d1, d2, s1, s2, h⟩ := h
    exact OpR.wo (op_neD hu) ⟨p, q, d1.dp s rx, d2.dp s ry, s1, s2, Lift.here (.bl _) s h⟩
/-! order -/
def ordD (g : Int → Int → Bool) (gs : Str → Str → Bool) : DR2 := fun x y G Q => match x, y with
  | .int i, .int j => Q (.bl (g i j)) G
  | .str i, .str j => Q (.bl (gs i j)) G
  | _, _ => False
theorem op_ordD {f : Value → Value → Sem Value} {g : Int → Int → Bool} {gs : Str → Str → Bool} (h : OpR X f (rI0 fun i j => .bl (g i j))) (h' : OpR X f (fun x y H Q => ∃ i j, x = .str i ∧ y = .str j ∧ Q (.bl (gs i j)) H)) : OpD X f (ordD g gs) := by
  intro x y G Q v u σ H q rx ry s
  unfold ordD at q
  split at q
  · cases rx; cases ry
    exact OpR.wo h ⟨_, _, rfl, rfl, Lift.here (.bl _) s q⟩
  · cases rx; cases ry
    exact OpR.wo h' ⟨_, _, rfl, rfl, Lift.here (.bl _) s q⟩
  · exact q.elim
def ltD : DR2 := fun x y G Q => match x, y with
  | .int i, .int j => Q (.bl (decide (i < j))) G
  | .str i, .str j => Q (.bl (decide (i.cps.toList < j.cps.toList))) G
  | _, _ => False
theorem op_ltD : OpD X (compareOp .Lt) ltD := fun x y G Q v u σ H h => op_ordD (g := fun i j => decide (i < j)) (gs := fun i j => decide (i.cps.toList < j.cps.toList)) op_lt op_lt_str x y G Q v u σ H (by cases x <;> cases y <;> exact h)
def leD : DR2 := fun x y G Q => match x, y with
  | .int i, .int j => Q (.bl (decide (i ≤ j))) G
  | .str i, .str j => Q (.bl (!decide (j.cps.toList < i.cps.toList))) G
  | _, _ => False
theorem op_leD : OpD X (compareOp .LtE) leD := fun x y G Q v u σ H h => op_ordD (g := fun i j => decide (i ≤ j)) (gs := fun i j => !decide (j.cps.toList < i.cps.toList)) op_le op_le_str x y G Q v u σ H (by cases x <;> cases y <;> exact h)
def gtD : DR2 := fun x y G Q => match x, y with
  | .int i, .int j => Q (.bl (decide (j < i))) G
  | .str i, .str j => Q (.bl (decide (j.cps.toList < i.cps.toList))) G
  | _, _ => False
theorem op_gtD : OpD X (compareOp .Gt) gtD := fun x y G Q v u σ H h => op_ordD (g := fun i j => decide (j < i)) (gs := fun i j => decide (j.cps.toList < i.cps.toList)) op_gt op_gt_str x y G Q v u σ H (by cases x <;> cases y <;> exact h)
def geD : DR2 := fun x y G Q => match x, y with
  | .int i, .int j => Q (.bl (decide (j ≤ i))) G
  | .str i, .str j => Q (.bl (!decide (i.cps.toList < j.cps.toList))) G
  | _, _ => False
theorem op_geD : OpD X (compareOp .GtE) geD := fun x y G Q v u σ H h => op_ordD (g := fun i j => decide (j ≤ i)) (gs := fun i j => !decide (i.cps.toList < j.cps.toList)) op_ge op_ge_str x y G Q v u σ H (by cases x <;> cases y <;> exact h)
/-! is None, is True -/
def isD : DR2 := fun x y G Q => match x, y with
  | .non, .non => Q (.bl true) G
  | _, .non => Q (.bl false) G
  | .bl a, .bl b => Q (.bl (decide (a = b))) G
  | _, .bl _ => Q (.bl false) G
  | _, _ => False
def isnD : DR2 := fun x y G Q => match x, y with
  | .non, .non => Q (.bl false) G
  | _, .non => Q (.bl true) G
  | .bl a, .bl b => Q (.bl (!decide (a = b))) G
  | _, .bl _ => Q (.bl true) G
  | _, _ => False
theorem rel_nobl {x : V} {v : Value} {b : Bool} (r : RelV x v) (h : ∀ a, x ≠ .bl a) : v ≠ .bool b := fun e => by
  subst e
  cases x with
  | bl a => exact h a rfl
  | int i => obtain ⟨t, z⟩ := r; cases z
  | str i => obtain ⟨t, z⟩ := r; cases z
  | byt i => obtain ⟨t, z⟩ := r; cases z
  | flt i => obtain ⟨t, z⟩ := r; cases z
  | _ => cases r
theorem plainIs_bl {x : V} {v : Value} {b : Bool} (r : RelV x v) : plainIs v (.bool b) = true := by
  cases v with
  | builtin id =>
    cases x with
    | int i => obtain ⟨t, z⟩ := r; cases z
    | str i => obtain ⟨t, z⟩ := r; cases z
    | byt i => obtain ⟨t, z⟩ := r; cases z
    | flt i => obtain ⟨t, z⟩ := r; cases z
    | _ => cases r
  | _ => rfl
theorem op_is_nobl : OpR X (compareOp .Is) (fun x y H Q => ∃ b, y = .bl b ∧ (∀ a, x ≠ .bl a) ∧ Q (.bl false) H) := by
  intro pins s σ H x y v u Q I rx ry h
  obtain ⟨b, rfl, hx, q⟩ := h
  obtain rfl : u = Value.bool b := ry
  exact wpAny_is_other (plainIs_bl rx) (rel_nobl rx hx) ⟨.bl false, H, I, rfl, q⟩
theorem op_isnot_nobl : OpR X (compareOp .IsNot) (fun x y H Q => ∃ b, y = .bl b ∧ (∀ a, x ≠ .bl a) ∧ Q (.bl true) H) := by
  intro pins s σ H x y v u Q I rx ry h
  obtain ⟨b, rfl, hx, q⟩ := h
  obtain rfl : u = Value.bool b := ry
  exact wpAny_isNot_other (plainIs_bl rx) (rel_nobl rx hx) ⟨.bl true, H, I, rfl, q⟩
theorem Rep.non_iff {K : PySem.W.Frag} {H : Hp} {v : V} {d : D} (r : Rep K H v d) (h : d ≠ .non) : decide (v = V.non) = false := by
  apply decide_eq_false
  intro e
  subst e
  cases r
  exact h rfl
theorem Rep.nobl {K : PySem.W.Frag} {H : Hp} {v : V} {d : D} (r : Rep K H v d) (h : ∀ a, d ≠ .bl a) : ∀ a, v ≠ .bl a := fun a e => by
  subst e
  cases r
  exact h a rfl
theorem op_isD : OpD X (compareOp .Is) isD := by
  intro x y G Q v u σ H h rx ry s
  unfold isD at h
  split at h
  · cases rx; cases ry
    exact OpR.wo op_isN ⟨rfl, Lift.here (.bl true) s h⟩
  · rename_i hx
    cases ry
    refine OpR.wo op_isN ⟨rfl, ?_⟩
    rw [rx.non_iff (fun e => hx e)]
    exact Lift.here (.bl false) s h
  · cases rx; cases ry
    exact OpR.wo op_is_bl ⟨_, _, rfl, rfl, Lift.here (.bl _) s h⟩
  · rename_i hx
    cases ry
    exact OpR.wo op_is_nobl ⟨_, rfl, rx.nobl fun a e => hx a e, Lift.here (.bl false) s h⟩
  · exact h.elim
theorem op_isnD : OpD X (compareOp .IsNot) isnD := by
  intro x y G Q v u σ H h rx ry s
  unfold isnD at h
  split at h
  · cases rx; cases ry
    exact OpR.wo op_notN ⟨rfl, Lift.here (.bl false) s h⟩
  · rename_i hx
    cases ry
    refine OpR.wo op_notN ⟨rfl, ?_⟩
    rw [rx.non_iff (fun e => hx e)]
    exact Lift.here (.bl true) s h
  · cases rx; cases ry
    exact OpR.wo op_isnot_bl ⟨_, _, rfl, rfl, Lift.here (.bl _) s h⟩
  · rename_i hx
    cases ry
    exact OpR.wo op_isnot_nobl ⟨_, rfl, rx.nobl fun a e => hx a e, Lift.here (.bl true) s h⟩
  · exact h.elim
/-! in -/
def flatD : D → Bool
  | .non => true | .bl _ => true | .int _ => true | .str _ => true
  | _ => false
def eqF : D → D → Bool
  | .non, .non => true
  | .bl a, .bl b => a == b
  | .bl a, .int j => (if a then 1 else 0) == j
  | .int i, .bl b => i == (if b then 1 else 0)
  | .int i, .int j => i == j
  | .str x, .str y => x == y
  | _, _ => false
def memF (x : D) (xs : List D) : Bool := xs.any fun y => eqF y x
end
end DL
namespace DL
open PySem PySem.Spec PyProof.Rows L2
/-! data by value -/
mutual
def okD : Nat → D → Bool
  | _, .non => true
  | _, .bl _ => true
  | _, .int _ => true
  | _, .str x => PyData.strOk x
  | n, .tup ds => (match n with
    | 0 => false
    | n + 1 => okDs n ds)
  | n, .rl ds => (match n with
    | 0 => false
    | n + 1 => okDs n ds)
  | _, _ => false
def okDs : Nat → List D → Bool
  | _, [] => true
  | n, d :: ds => okD n d && okDs n ds
end
mutual
def pyD : D → PyData
  | .bl b => .bool b
  | .int i => .int i
  | .str x => .str x
  | .tup ds => .tuple (pyDs ds)
  | .rl ds => .list (pyDs ds)
  | _ => .none
def pyDs : List D → List PyData
  | [] => []
  | d :: ds => pyD d :: pyDs ds
end
mutual
theorem okD_dd {G : Sto} : ∀ {d : D} {n : Nat}, okD n d = true → Dd G d (pyD d) ∧ PyData.canLay0 (pyD d) = true ∧ (pyD d).depth ≤ n
  | .non, n, _ => ⟨.non, rfl, Nat.zero_le _⟩
  | .bl b, n, _ => ⟨.bl b, rfl, Nat.zero_le _⟩
  | .int b, n, _ => ⟨.int b, rfl, Nat.zero_le _⟩
  | .str b, n, h => ⟨.str b, by unfold okD at h; exact h, Nat.zero_le _⟩
  | .tup ds, 0, h => by unfold okD at h; cases h
  | .tup ds, n + 1, h => by
    unfold okD at h
    obtain ⟨h1, h2, h3⟩ := okDs_dd (G := G) h
    unfold pyD
    exact ⟨.tup h1, h2, by unfold PyData.depth; omega⟩
  | .rl ds, 0, h => by unfold okD at h; cases h
  | .rl ds, n + 1, h => by
    unfold okD at h
    obtain ⟨h1, h2, h3⟩ := okDs_dd (G := G) h
    unfold pyD
    exact ⟨.rl h1, h2, by unfold PyData.depth; omega⟩
  | .ref _, n, h => by unfold okD at h; cases h
  | .ty _, n, h => by unfold okD at h; cases h
  | .sc _, n, h => by unfold okD at h; cases h
  | .rd _ _, n, h => by unfold okD at h; cases h
  | .exc _ _ _, n, h => by unfold okD at h; cases h
  | .fn _, n, h => by unfold okD at h; cases h
  | .nt _, n, h => by unfold okD at h; cases h
  | .lam _ _ _ _, n, h => by unfold okD at h; cases h
theorem okDs_dd {G : Sto} : ∀ {ds : List D} {n : Nat}, okDs n ds = true → Dds G ds (pyDs ds) ∧ PyData.canLayAll0 (pyDs ds) = true ∧ PyData.depthAll (pyDs ds) ≤ n
  | [], n, _ => ⟨.nil, rfl, Nat.zero_le _⟩
  | d :: ds, n, h => by
    unfold okDs at h
    rw [Bool.and_eq_true] at h
    obtain ⟨a1, a2, a3⟩ := okD_dd (G := G) h.1
    obtain ⟨b1, b2, b3⟩ := okDs_dd (G := G) h.2
    unfold pyDs
    refine ⟨.cons a1 b1, ?_, ?_⟩
    · unfold PyData.canLayAll0
      rw [a2, b2]
      rfl
    · unfold PyData.depthAll
      omega
end
end DL
namespace DL
open PySem PySem.Spec PyProof.Rows L2
/-! dicts with ints and texts for keys -/
def keyD : D → Option Key
  | .int i => some (.inl i)
  | .str x => some (.inr x)
  | _ => none
def keyV : Key → D
  | .inl i => .int i
  | .inr x => .str x
theorem keyD_rep {K : PySem.W.Frag} {H : Hp} {v : V} {d : D} {k : Key} (h : keyD d = some k) (r : Rep K H v d) : v = kV k := by
  cases d with
  | int i => cases r; cases h; rfl
  | str i => cases r; cases h; rfl
  | _ => cases h
/-- keys compared by a Bool that computes -/
def keq : Key → Key → Bool
  | .inl a, .inl b => a == b
  | .inr a, .inr b => a == b
  | _, _ => false
theorem keq_iff {a b : Key} : keq a b = true ↔ a = b := by
  cases a with
  | inl x =>
    cases b with
    | inl y => exact ⟨fun h => by rw [eq_of_beq h], fun h => by cases h; exact beq_self_eq_true x⟩
    | inr y => exact ⟨fun h => (nomatch (show false = true from h)), fun h => (nomatch h)⟩
  | inr x =>
    cases b with
    | inl y => exact ⟨fun h => (nomatch (show false = true from h)), fun h => (nomatch h)⟩
    | inr y => exact ⟨fun h => by rw [eq_of_beq h], fun h => by cases h; exact beq_self_eq_true x⟩
def valR : List Key → List D → Key → Option D
  | k :: ks, d :: ds, j => if keq k j = true then some d else valR ks ds j
  | _, _, _ => none
def unlike : List Key → Bool
  | [] => true
  | k :: ks => !(ks.any fun j => keq j k) && unlike ks
section
variable {κ : Type} [DecidableEq κ]
def valD (kvs : List (κ × D)) (k : κ) : Option D := (kvs.find? fun kv => decide (kv.1 = k)).map (·.2)
def putD (kvs : List (κ × D)) (k : κ) (v : D) : List (κ × D) :=
  if (kvs.any fun kv => decide (kv.1 = k)) = true then kvs.map (fun kv => if kv.1 = k then (kv.1, v) else kv) else kvs ++ [(k, v)]
variable {K : PySem.W.Frag} {H : Hp}
theorem RepKV.val : ∀ {m : List (κ × V)} {kvs : List (κ × D)} (k : κ), RepKV K H m kvs → (∀ d, valD kvs k = some d → ∃ v, valV m k = some v ∧ Rep K H v d) ∧ (valD kvs k = none → valV m k = none)
  | [], [], _, _ => ⟨fun d h => (nomatch (show (none : Option D) = some d from h)), fun _ => rfl⟩
  | (j, v) :: r, (j', d) :: q, k, ⟨e, rv, rr⟩ => by
    subst e
    have ih := RepKV.val k rr
    by_cases h : j = k
    · have e1 : valD ((j, d) :: q) k = some d := by simp [valD, List.find?_cons, h]
      have e2 : valV ((j, v) :: r) k = some v := by simp [valV, List.find?_cons, h]
      rw [e1, e2]
      exact ⟨fun d' z => by cases z; exact ⟨v, rfl, rv⟩, fun z => by cases z⟩
    · have e1 : valD ((j, d) :: q) k = valD q k := by simp [valD, List.find?_cons, h]
      have e2 : valV ((j, v) :: r) k = valV r k := by simp [valV, List.find?_cons, h]
      rw [e1, e2]
      exact ih
  | [], _ :: _, _, h => h.elim
  | _ :: _, [], _, h => h.elim
theorem RepKV.length : ∀ {m : List (κ × V)} {kvs : List (κ × D)}, RepKV K H m kvs → m.length = kvs.length
  | [], [], _ => rfl
  | (_, _) :: _, (_, _) :: _, ⟨_, _, rr⟩ => by rw [List.length_cons, List.length_cons, RepKV.length rr]
  | [], _ :: _, h => h.elim
  | _ :: _, [], h => h.elim
theorem RepKV.any : ∀ {m : List (κ × V)} {kvs : List (κ × D)} (k : κ), RepKV K H m kvs → (m.any fun kv => decide (kv.1 = k)) = (kvs.any fun kv => decide (kv.1 = k))
  | [], [], _, _ => rfl
  | (j, v) :: r, (j', d) :: q, k, ⟨e, rv, rr⟩ => by
    subst e
    rw [List.any_cons, List.any_cons, RepKV.any k rr]
  | [], _ :: _, _, h => h.elim
  | _ :: _, [], _, h => h.elim
theorem RepKV.over {k : κ} {v : V} {d : D} (rv : Rep K H v d) : ∀ {m : List (κ × V)} {kvs : List (κ × D)}, RepKV K H m kvs → RepKV K H (m.map fun kv => if kv.1 = k then (kv.1, v) else kv) (kvs.map fun kv => if kv.1 = k then (kv.1, d) else kv)
  | [], [], _ => True.intro
  | (j, u) :: r, (j', e) :: q, ⟨ee, ru, rr⟩ => by
    subst ee
    rw [List.map_cons, List.map_cons]
    by_cases h : j = k
    · rw [if_pos h, if_pos h]
      exact ⟨rfl, rv, RepKV.over rv rr⟩
    · rw [if_neg h, if_neg h]
      exact ⟨rfl, ru, RepKV.over rv rr⟩
  | [], _ :: _, h => h.elim
  | _ :: _, [], h => h.elim
theorem RepKV.snoc {k : κ} {v : V} {d : D} (rv : Rep K H v d) : ∀ {m : List (κ × V)} {kvs : List (κ × D)}, RepKV K H m kvs → RepKV K H (m ++ [(k, v)]) (kvs ++ [(k, d)])
  | [], [], _ => ⟨rfl, rv, True.intro⟩
  | (j, u) :: r, (j', e) :: q, ⟨ee, ru, rr⟩ => ⟨ee, ru, RepKV.snoc rv rr⟩
  | [], _ :: _, h => h.elim
  | _ :: _, [], h => h.elim
theorem RepKV.put {m : List (κ × V)} {kvs : List (κ × D)} {k : κ} {v : V} {d : D} (r : RepKV K H m kvs) (rv : Rep K H v d) : RepKV K H (putK m k v) (putD kvs k d) := by
  unfold putK putD
  rw [r.any k]
  split
  · exact r.over rv
  · exact r.snoc rv
end
theorem valR_eq : ∀ (ks : List Key) (ds : List D) (k : Key), valR ks ds k = valD (ks.zip ds) k
  | [], _, _ => by simp [valR, valD]
  | _ :: _, [], _ => by simp [valR, valD]
  | j :: ks, d :: ds, k => by
    unfold valR
    have ih := valR_eq ks ds k
    rw [ih]
    by_cases h : j = k
    · rw [if_pos (keq_iff.mpr h)]
      simp [valD, h]
    · rw [if_neg (fun z => h (keq_iff.mp z))]
      simp [valD, h]
def mergeD (kvs more : List (Key × D)) : List (Key × D) := more.foldl (fun acc kv => putD acc kv.1 kv.2) kvs
theorem RepKV.merge {K : PySem.W.Frag} {H : Hp} : ∀ {m' : List (Key × V)} {kvs' : List (Key × D)} {m : List (Key × V)} {kvs : List (Key × D)}, RepKV K H m' kvs' → RepKV K H m kvs → RepKV K H (mergeK m m') (mergeD kvs kvs')
  | [], [], _, _, _, r => r
  | (j, v) :: q, (j', d) :: q', m, kvs, ⟨e, rv, rr⟩, r => by
    subst e
    show RepKV K H (mergeK (putK m j v) q) (mergeD (putD kvs j d) q')
    exact RepKV.merge rr (r.put rv)
  | [], _ :: _, _, _, h, _ => h.elim
  | _ :: _, [], _, _, h, _ => h.elim
theorem mergeD_app : ∀ (more kvs : List (Key × D)), unlike (more.map (·.1)) = true → (∀ kv ∈ kvs, ∀ m ∈ more, kv.1 ≠ m.1) → mergeD kvs more = kvs ++ more
  | [], kvs, _, _ => by simp [mergeD]
  | (k, d) :: r, kvs, h, hk => by
    rw [show mergeD kvs ((k, d) :: r) = mergeD (putD kvs k d) r from rfl]
    have h' : (!((r.map (·.1)).any fun j => keq j k) && unlike (r.map (·.1))) = true := h
    rw [Bool.and_eq_true, Bool.not_eq_true'] at h'
    have e : putD kvs k d = kvs ++ [(k, d)] := by
      unfold putD
      rw [if_neg]
      intro z
      obtain ⟨kv, m1, m2⟩ := List.any_eq_true.mp z
      exact hk kv m1 (k, d) (by simp) (of_decide_eq_true m2)
    rw [e, mergeD_app r _ h'.2, List.append_assoc]
    · rfl
    · intro kv m1 m m2
      rcases List.mem_append.mp m1 with m1 | m1
      · exact hk kv m1 m (by simp [m2])
      · rw [List.mem_singleton] at m1
        subst m1
        intro z
        have := List.any_eq_false.mp h'.1 m.1 (List.mem_map.mpr ⟨m, m2, rfl⟩)
        exact this (keq_iff.mpr z.symm)
section
variable {X : Cx}
theorem ix_dict (hu : X.A.units + 1 < cLine) : IxR X (fun x y H Q => ∃ a v, x = .ref a ∧ DGet H a y (some v) ∧ Q v H) := by
  intro value slice pins s σ H x y v u Q I rx ry h hs
  obtain ⟨a, w, rfl, g, q⟩ := h
  obtain rfl : v = Value.ref a := rx
  exact tail_any (dict_typeIs I g) PySem.F.slot_dict_getitem.lookup (d_getItem hu I g ry fun w' s' I' r' => ⟨w, H, I', r', q⟩) hs
theorem op_in_dict (hu : X.A.units + 1 < cLine) : OpR X (compareOp .In) (fun x y H Q => ∃ a o, y = .ref a ∧ DGet H a x o ∧ Q (.bl o.isSome) H) := by
  intro pins s σ H x y v u Q I rx ry h
  obtain ⟨a, o, rfl, g, q⟩ := h
  obtain rfl : u = Value.ref a := ry
  exact d_in hu I g rx fun s' I' => ⟨.bl o.isSome, H, I', rfl, q⟩
theorem op_nin_dict (hu : X.A.units + 1 < cLine) : OpR X (compareOp .NotIn) (fun x y H Q => ∃ a o, y = .ref a ∧ DGet H a x o ∧ Q (.bl (!o.isSome)) H) := by
  intro pins s σ H x y v u Q I rx ry h
  obtain ⟨a, o, rfl, g, q⟩ := h
  obtain rfl : u = Value.ref a := ry
  exact d_notIn hu I g rx fun s' I' => ⟨.bl (!o.isSome), H, I', rfl, q⟩
theorem set_dict (hu : X.A.units + 1 < cLine) : PSet X (fun o i v H Q => ∃ a H', o = .ref a ∧ DPut H a i v H' ∧ Q H') := by
  intro pins s σ H o i v ov iv u Q I ro ri rv h
  obtain ⟨a, H', rfl, g, q⟩ := h
  obtain rfl : ov = Value.ref a := ro
  exact d_setItem hu I g ri rv fun s' I' => ⟨H', I', q⟩
/-- what a dict holds at a key -/
theorem dget_of {K : PySem.W.Frag} {G : Sto} {H : Hp} {a : Addr} {kvs : List (Key × D)} {y : D} {k : Key} {u : V} (s : Sim K G H) (g : G a = some (.dK kvs)) (hk : keyD y = some k) (ry : Rep K H u y) :
    (∀ d, valD kvs k = some d → ∃ v, DGet H a u (some v) ∧ Rep K H v d) ∧ (DGet H a u (match valD kvs k with | none => none | some _ => some (match valV (match H a with | some (.dK m) => m | _ => []) k with | some v => v | none => .non))) := by
  obtain ⟨m, hm, rm⟩ := s a _ g
  obtain rfl := keyD_rep hk ry
  have hv := rm.val k
  refine ⟨fun d hd => ?_, ?_⟩
  · obtain ⟨v, h1, h2⟩ := hv.1 d hd
    refine ⟨v, ?_, h2⟩
    rw [← h1]
    exact DGet.k hm
  · rw [hm]
    cases e : valD kvs k with
    | none =>
      show DGet H a (kV k) none
      rw [← hv.2 e]
      exact DGet.k hm
    | some d =>
      obtain ⟨v, h1, h2⟩ := hv.1 d e
      show DGet H a (kV k) (some (match valV m k with | some v => v | none => .non))
      rw [h1]
      show DGet H a (kV k) (some v)
      rw [← h1]
      exact DGet.k hm
theorem din_of {K : PySem.W.Frag} {G : Sto} {H : Hp} {a : Addr} {kvs : List (Key × D)} {y : D} {k : Key} {u : V} (s : Sim K G H) (g : G a = some (.dK kvs)) (hk : keyD y = some k) (ry : Rep K H u y) :
    ∃ o, DGet H a u o ∧ o.isSome = (valD kvs k).isSome := by
  refine ⟨_, (dget_of s g hk ry).2, ?_⟩
  cases valD kvs k <;> rfl
/-! displays -/
abbrev DKv := Ev → Sto → (List (D × D) → Sto → Prop) → XQ → Prop
def kvNil : DKv := fun _ G Q _ => Q [] G
def kvCons (tk tv : DE) (r : DKv) : DKv := fun ρ G Q xq => tk ρ G (fun x G1 => tv ρ G1 (fun y G2 => r ρ G2 (fun ps G3 => Q ((x, y) :: ps) G3) xq) xq) xq
def RepP (K : PySem.W.Frag) (H : Hp) : List (V × V) → List (D × D) → Prop
  | [], [] => True
  | (v, u) :: r, (d, e) :: q => Rep K H v d ∧ Rep K H u e ∧ RepP K H r q
  | _, _ => False
theorem RepP.mono {K : PySem.W.Frag} {H H' : Hp} (t : TupExt K H H') : ∀ {l : List (V × V)} {m : List (D × D)}, RepP K H l m → RepP K H' l m
  | [], [], h => h
  | (_, _) :: _, (_, _) :: _, ⟨a, b, c⟩ => ⟨a.mono t, b.mono t, RepP.mono t c⟩
  | [], _ :: _, h => h.elim
  | _ :: _, [], h => h.elim
def trsOf (X : Cx) : List (Option Expr) → List Expr → List (TE × TE)
  | some k :: ks, v :: vs => (WE X k, WE X v) :: trsOf X ks vs
  | _, _ => []
structure QKv (X : Cx) (ks : List (Option Expr)) (vs : List Expr) (t : DKv) : Prop where
  pp : ∀ pos, PPs X pos ks vs (trsOf X ks vs)
  len : ks.length = vs.length
  all : ks.all (·.isSome) = true
  run : ∀ ρ G Q xq σ H, t ρ G Q xq → RepS X.K H σ ρ → Sim X.K G H → Tk X σ G H xq → tPairs (trsOf X ks vs) σ H fun ps H' => ∃ prs G', RepP X.K H' ps prs ∧ Sim X.K G' H' ∧ Ext X.K G H G' H' ∧ Q prs G'
theorem tPairs_imp : ∀ {trs : List (TE × TE)} {σ : L2.St} {H : Hp} {Q Q' : List (V × V) → Hp → Prop}, (∀ p ∈ trs, (∃ e : Expr, p.1 = WE X e) ∧ ∃ e : Expr, p.2 = WE X e) → tPairs trs σ H Q → (∀ ps H', Q ps H' → Q' ps H') → tPairs trs σ H Q'
  | [], _, _, _, _, _, h, i => i _ _ h
  | (tk, tv) :: r, σ, H, Q, Q', hw, h, i => by
    obtain ⟨⟨e1, h1⟩, ⟨e2, h2⟩⟩ := hw (tk, tv) (by simp)
    have h1' : tk = WE X e1 := h1
    have h2' : tv = WE X e2 := h2
    subst h1' h2'
    exact WE.imp h fun x H1 q1 => WE.imp q1 fun y H2 q2 => tPairs_imp (fun p hp => hw p (by simp [hp])) q2 fun ps H3 q3 => i _ _ q3
theorem trs_we : ∀ (ks : List (Option Expr)) (vs : List Expr), ∀ p ∈ trsOf X ks vs, (∃ e : Expr, p.1 = WE X e) ∧ ∃ e : Expr, p.2 = WE X e
  | some k :: ks, v :: vs, p, hp => by
    unfold trsOf at hp
    rcases List.mem_cons.mp hp with rfl | hp
    · exact ⟨⟨k, rfl⟩, ⟨v, rfl⟩⟩
    · exact trs_we ks vs p hp
  | [], _, p, hp => by simp [trsOf] at hp
  | none :: _, _, p, hp => by simp [trsOf] at hp
  | some _ :: _, [], p, hp => by simp [trsOf] at hp
theorem qkv_nil : QKv X [] [] kvNil := ⟨fun _ => pps_nil, rfl, rfl, fun ρ G Q xq σ H h rs s tk => ⟨[], G, True.intro, s, .refl, h⟩⟩
theorem qkv_cons {k v : Expr} {ks : List (Option Expr)} {vs : List Expr} {tk tv : DE} {r : DKv} (hk : QE X k tk) (hv : QE X v tv) (hr : QKv X ks vs r) : QKv X (some k :: ks) (v :: vs) (kvCons tk tv r) := by
  refine ⟨fun pos => pps_cons pe_max pe_max (hr.pp pos), by rw [List.length_cons, List.length_cons, hr.len], by rw [List.all_cons, hr.all]; rfl, fun ρ G Q xq σ H h rs s t => ?_⟩
  refine (hk.run ρ G _ xq σ H h rs s t).imp fun x H1 ⟨dx, G1, rx, s1, e1, q1⟩ => ?_
  refine (hv.run ρ G1 _ xq σ H1 q1 (rs.mono e1.tup) s1 (t.step e1)).imp fun y H2 ⟨dy, G2, ry, s2, e2, q2⟩ => ?_
  have e12 := e1.trans e2
  refine tPairs_imp (trs_we ks vs) (hr.run ρ G2 _ xq σ H2 q2 (rs.mono e12.tup) s2 (t.step e12)) fun ps H3 ⟨prs, G3, r3, s3, e3, q3⟩ => ?_
  exact ⟨(dx, dy) :: prs, G3, ⟨(rx.mono e2.tup).mono e3.tup, ry.mono e3.tup, r3⟩, s3, e12.trans e3, q3⟩
def kvDs (kvs : List (Key × D)) : List (D × D) := kvs.map fun kv => (keyV kv.1, kv.2)
def dDisp (r : DKv) : DE := fun ρ G Q xq => ∀ p, G p = none → r ρ (put G p (.dK [])) (fun ps G2 => G2 p = some (.dK []) ∧ ∃ kvs, ps = kvDs kvs ∧ kvs.length ≤ 15 ∧ Q (.ref p) (put G2 p (.dK (mergeD [] kvs)))) xq
theorem repP_keys {K : PySem.W.Frag} {H : Hp} : ∀ {ps : List (V × V)} {kvs : List (Key × D)}, RepP K H ps (kvDs kvs) → ∃ m : List (Key × V), ps = m.map (fun kv => (kV kv.1, kv.2)) ∧ RepKV K H m kvs
  | [], [], _ => ⟨[], rfl, True.intro⟩
  | (v, u) :: r, (k, d) :: q, h => by
    obtain ⟨h1, h2, h3⟩ := h
    obtain ⟨m, e, rm⟩ := repP_keys (ps := r) (kvs := q) h3
    refine ⟨(k, u) :: m, ?_, rfl, h2, rm⟩
    rw [List.map_cons, ← e]
    have : v = kV k := by
      cases k with
      | inl i => cases h1; rfl
      | inr x => cases h1; rfl
    rw [this]
  | [], _ :: _, h => h.elim
  | _ :: _, [], h => h.elim
theorem qe_disp {ks : List (Option Expr)} {vs : List Expr} {r : DKv} {pos : Pos} (h : QKv X ks vs r) (h15 : ks.length ≤ 15) : QE X (.Dict ks vs pos) (dDisp r) := by
  refine ⟨fun ρ G Q xq σ H hq rs s tk => ?_⟩
  cases ks with
  | nil =>
    have hv : vs = [] := List.eq_nil_of_length_eq_zero (by rw [← h.len]; rfl)
    subst hv
    refine PE.we pe_dnewK fun p hp => ?_
    have en : Ext X.K G H (put G p (.dK [])) (upd H p (.dK [])) := .new hp
    have sn : Sim X.K (put G p (.dK [])) (upd H p (.dK [])) := s.new hp ⟨[], upd_same, True.intro⟩
    have := h.run ρ _ _ xq σ (upd H p (.dK [])) (hq p (s.free hp)) (rs.mono en.tup) sn (tk.step en)
    obtain ⟨prs, G', rp, s', e', g', kvs, ek, hl, q⟩ := this
    subst ek
    have hk0 : kvs = [] := by
      cases kvs with
      | nil => rfl
      | cons a b => exact rp.elim
    subst hk0
    obtain ⟨m0, hm0, rm0⟩ := s' p _ g'
    have e0 : upd H p (.dK []) = upd (upd H p (.dK [])) p (.dK []) := by
      funext b
      unfold upd
      split <;> rfl
    rw [e0]
    exact ⟨.ref p, _, .ref p, s'.mut (c := .dK (mergeD [] [])) (c0 := .dK []) upd_same rfl ⟨[], upd_same, True.intro⟩, en.trans (e'.trans (.mut g' upd_same rfl)), q⟩
  | cons k0 ks0 =>
    refine PE.we (pe_disp (h.pp pos) h.all h.len (by simp) h15) fun p hp => ?_
    have en : Ext X.K G H (put G p (.dK [])) (upd H p (.dK [])) := .new hp
    have sn : Sim X.K (put G p (.dK [])) (upd H p (.dK [])) := s.new hp ⟨[], upd_same, True.intro⟩
    refine tPairs_imp (trs_we _ _) (h.run ρ _ _ xq σ (upd H p (.dK [])) (hq p (s.free hp)) (rs.mono en.tup) sn (tk.step en)) fun ps H2 ⟨prs, G2, rp, s2, e2, g2, kvs, ek, hl, q⟩ => ?_
    subst ek
    obtain ⟨m, em, rm⟩ := repP_keys rp
    obtain ⟨m0, hm0, rm0⟩ := s2 p _ g2
    have hm00 : m0 = [] := by
      cases m0 with
      | nil => rfl
      | cons a b => exact rm0.elim
    subst hm00
    refine ⟨hm0, m, em, by rw [rm.length]; exact hl, ?_⟩
    have t3 : TupExt X.K H2 (upd H2 p (.dK (mergeK [] m))) := tup_mut hm0 rfl
    exact ⟨.ref p, _, .ref p, s2.mut (c := .dK (mergeD [] kvs)) (c0 := .dK []) hm0 rfl ⟨_, upd_same, (rm.mono t3).merge True.intro⟩, en.trans (e2.trans (.mut g2 hm0 rfl)), q⟩
end
end DL
namespace DL
open PySem PySem.Spec PyProof.Rows L2 HT
section
variable {prog : Program} {w : World} {A : Around} {E : Value → Shared → Prop} {s : Shared}
theorem back_places (n : Nat) : Builtin.Slice.slicePlaces ((n : Int) - 1) (-1) (-1) = n := by
  unfold Builtin.Slice.slicePlaces
  have h1 : ¬ ((-1 : Int) > 0) := by decide
  simp only [h1, if_false]
  rw [show (- -1 : Int) = 1 from rfl, Int.ediv_one]
  split <;> omega
theorem back_applied {sl : Addr} {vl vu vs : Value} {n : Nat} {Q : Int × Int × Nat → Shared → Prop} (hs : s.heap.IsSliceOf sl vl vu vs) (pl : IsPart vl none) (pu : IsPart vu none) (ps : IsPart vs (some (-1)))
    (h : Q ((n : Int) - 1, -1, n) s) : wpAny (model prog w) A (Builtin.Slice.sliceApplied (.ref sl) (pure (n : Int))) Q E s := by
  obtain ⟨os, hos, hcs, hds⟩ := id hs
  unfold Builtin.Slice.sliceApplied Builtin.Slice.sliceFields
  refine wpAny_bind (wpAny_bind (wpAny_field hos hds (x := vl) rfl (wpAny_bind (wpAny_field hos hds (x := vu) rfl (wpAny_bind (wpAny_field hos hds (x := vs) rfl (wpAny_pure ?_)))))))
  refine wpAny_bind (slicePart_ ps ?_)
  show wpAny _ _ (if ((-1 : Int) == 0) = true then _ else _) _ _ s
  rw [if_neg (by decide)]
  refine wpAny_bind (slicePart_ pl (wpAny_bind (slicePart_ pu (wpAny_bind (wpAny_pure ?_)))))
  show wpAny _ _ (pure ((n : Int) - 1, (-1 : Int), Builtin.Slice.slicePlaces ((n : Int) - 1) (-1) (-1))) _ _ s
  rw [back_places]
  exact wpAny_pure h
theorem back_pick (xs : Array Value) : ((List.range xs.size).filterMap fun (m : Nat) => xs[((xs.size : Int) - 1 + (m : Int) * (-1)).toNat]?).toArray = xs.toList.reverse.toArray := by
  have e0 : (List.range xs.size).map (fun (m : Nat) => ((xs.size : Int) - 1 + (m : Int) * (-1)).toNat) = (List.range xs.size).map fun k => xs.size - 1 - k := by
    apply List.map_congr_left
    intro m hm
    have := List.mem_range.mp hm
    omega
  have e : (List.range xs.size).filterMap (fun (m : Nat) => xs[((xs.size : Int) - 1 + (m : Int) * (-1)).toNat]?) = ((List.range xs.size).map fun k => xs.size - 1 - k).filterMap (xs[·]?) := by
    rw [← e0, List.filterMap_map]
    rfl
  rw [e, PySem.W.krv_range, List.filterMap_reverse, PySem.W.krv_all]
theorem getItem_back {t sl : Addr} {items : Array Value} {vl vu vs : Value} {Q : Value → Shared → Prop} (ht : IsTup s.heap t items) (hs : s.heap.IsSliceOf sl vl vu vs) (pl : IsPart vl none) (pu : IsPart vu none) (ps : IsPart vs (some (-1)))
    (h : Q (.ref s.heap.objs.size) { s with heap := s.heap.push { cls := .type "tuple", data := .seq items.toList.reverse.toArray } }) (hsz : items.size ≤ sizeLine) : wpAny (model prog w) A (getItem (.ref t) (.ref sl)) Q E s := by
  have hok : sizeOk (.seq items.toList.reverse.toArray) := by
    show items.toList.reverse.toArray.size ≤ sizeLine
    rw [List.size_toArray, List.length_reverse, Array.length_toList]
    exact hsz
  obtain ⟨os, hos, hcs, hds⟩ := id hs
  have hTs : s.TypeIs (.ref sl) "slice" := ⟨os, hos, hcs⟩
  unfold getItem
  try with_reducible refine wpAny_holding ?_
  first | refine wpAny_bind (wpAny_pure ?_) | skip
  refine wpAny_bind (wpAny_sequenceKey ht.typeIs (by decide) ?_)
  refine wpAny_bind (wpAny_callSpecial?_slot (name := Str.ofString "__getitem__") ht.typeIs PyProof.Rows.slot_tuple_getitem (wpAny_call_entry PyProof.Rows.slot_tuple_getitem ht.typeIs entry_tuple_getitem ?_ (args_tuple_getitem _ _)))
  show wpAny _ _ (Builtin.Tuple.tupleItemsOf (.ref t) >>= _) _ _ s
  refine wpAny_bind (tupleItemsOf_ ht ?_)
  refine wpAny_bind (wpAny_typeOf hTs ?_)
  rw [if_pos (by decide)]
  refine wpAny_bind (back_applied hs pl pu ps ?_)
  have hno : ¬ ((((items.size : Int) - 1) == 0 && (-1 : Int) == 1 && items.size == items.size) = true) := by simp
  show wpAny _ _ (if ((((items.size : Int) - 1) == 0 && (-1 : Int) == 1 && items.size == items.size)) = true then _ else _) _ _ s
  rw [if_neg hno, back_pick]
  first
    | exact wpAny_bind (m := Builtin.Tuple.tupleExact _) (wpAny_newObj_type (wpAny_pure ⟨_, rfl, wpAny_pure h⟩) hok)
    | exact wpAny_bind (m := Builtin.Tuple.tupleExact _) (wpAny_newObj_type (wpAny_bind (wpAny_pure (wpAny_pure ⟨_, rfl, wpAny_pure h⟩))) hok)
    | exact wpAny_bind (wpAny_bind (m := Builtin.Tuple.tupleExact _) (wpAny_newObj_type (wpAny_pure (wpAny_pure ⟨_, rfl, wpAny_pure h⟩)) hok))
    | exact wpAny_bind (wpAny_bind (m := Builtin.Tuple.tupleExact _) (wpAny_newObj_type (wpAny_pure ⟨_, rfl, wpAny_pure h⟩) hok))
end
section
variable {X : Cx}
/-- x[::-1], a list or a tuple -/
theorem pe_back {e : Expr} {te : TE} {k : Nat} {p1 p2 p3 pos : Pos} (he : PE X e te) : PE X (.Subscript e (.Slice none none (some (.UnaryOp .USub (.Constant (.int 1) k p1) p2)) p3) pos)
    (fun σ H Q => te σ H fun x H1 => (∃ a xs, x = .ref a ∧ SqL X.K H1 a xs ∧ ∀ p, H1 p = none → Q (.ref p) (upd H1 p (.lst xs.reverse))) ∨ ∃ a xs, x = .ref a ∧ SqT X.K H1 a xs ∧ ∀ p, H1 p = none → Q (.ref p) (upd H1 p (.tup xs.reverse))) := by
  refine ⟨fun pins s σ H Q I h => ?_⟩
  refine Subscript_ (thn (he.run pins s σ H _ I h) fun v s1 ⟨x, H1, I1, r1, q1⟩ => ?_)
  have hst : PO X (some (.UnaryOp .USub (.Constant (.int 1) k p1) p2)) (tPart (tUn (rU fun i => .int (-i)) (tC (.int 1)))) := po_some (pe_un un_neg pe_int)
  refine wpAny_Slice (thn (po_none.run pins s1 σ H1 (fun o H2 => o = none ∧ H2 = H1) I1 ⟨rfl, rfl⟩) fun vl s2 ⟨l, H2, I2, pl, el, e2⟩ => ?_)
  subst el e2
  refine thn (po_none.run pins s2 σ H2 (fun o H3 => o = none ∧ H3 = H2) I2 ⟨rfl, rfl⟩) fun vu s3 ⟨u, H3, I3, pu, eu, e3⟩ => ?_
  subst eu e3
  refine thn (hst.run pins s3 σ H3 (fun o H4 => o = some (-1) ∧ H4 = H3) I3 ⟨1, rfl, -1, rfl, rfl, rfl⟩) fun vs s4 ⟨o, H4, I4, ps, eo, e4⟩ => ?_
  subst eo e4
  have I5 : Inv X pins σ H4 { s4 with heap := s4.heap.push { cls := .type "slice", data := .fields #[vl, vu, vs] } } := I4.kept (t' := s4.toks) fun b ob q => Heap.get?_push_of_some _ q
  rcases q1 with ⟨a, xs, ex, hx, q⟩ | ⟨a, xs, ex, hx, q⟩
  · subst ex
    cases r1
    obtain ⟨its, r, ht, hz⟩ := I5.list hx
    have hlen := r.length
    show wpAny (model X.prog X.w) X.A (subscriptTail e (.Slice none none (some (.UnaryOp .USub (.Constant (.int 1) k p1) p2)) p3) (.ref a) (.ref s4.heap.objs.size)) (EP X pins σ Q) X.xe { s4 with heap := s4.heap.push { cls := .type "slice", data := .fields #[vl, vu, vs] } }
    refine tail_any (ops := [.ref a, .ref s4.heap.objs.size]) ht.isList.typeIs (PySem.slot_list_getitem.lookup) ?_ (by with_unfolding_all rfl)
    refine wpAny_getItem_list_slice ht.isList (Heap.IsSliceOf.new _ vl vu vs) pl pu ps (by decide) ?_ (by rw [List.size_toArray]; omega)
    rw [PySem.W.krv_pick]
    refine ⟨.ref _, _, I5.laid (t' := s4.toks) (o := .lst xs.reverse) (fun b ob q => Heap.get?_push_of_some _ q) (Nat.le_refl _) ?_, rfl, q _ (I5.hok.fresh (Nat.le_refl _))⟩
    exact ⟨by rw [List.length_reverse]; exact hz, _, 0, r.reverse, Heap.get?_push_size _ rfl⟩
  · subst ex
    cases r1
    obtain ⟨its, r, ht, hz⟩ := I5.tuple hx
    have hlen := r.length
    show wpAny (model X.prog X.w) X.A (subscriptTail e (.Slice none none (some (.UnaryOp .USub (.Constant (.int 1) k p1) p2)) p3) (.ref a) (.ref s4.heap.objs.size)) (EP X pins σ Q) X.xe { s4 with heap := s4.heap.push { cls := .type "slice", data := .fields #[vl, vu, vs] } }
    refine tail_any (ops := [.ref a, .ref s4.heap.objs.size]) ht.typeIs (PyProof.Rows.slot_tuple_getitem.lookup) ?_ (by with_unfolding_all rfl)
    refine getItem_back ht (Heap.IsSliceOf.new _ vl vu vs) pl pu ps ?_ (by rw [List.size_toArray]; omega)
    refine ⟨.ref _, _, I5.laid (t' := s4.toks) (o := .tup xs.reverse) (fun b ob q => Heap.get?_push_of_some _ q) (Nat.le_refl _) ?_, rfl, q _ (I5.hok.fresh (Nat.le_refl _))⟩
    exact ⟨by rw [List.length_reverse]; exact hz, _, r.reverse, IsTup.new _ _⟩
end
end DL
namespace DL
open PySem PySem.Spec PyProof.Rows L2
section
variable {X : Cx}
/-- what a list or a tuple holds -/
def seqD (d : D) (G : Sto) (k : List D → Prop) : Prop := match d with
  | .tup ds => k ds
  | .nt ds => k ds
  | .rl ds => k ds
  | .ref a => ∃ ds, G a = some (.lst ds) ∧ k ds
  | _ => False
theorem seq_ {K : PySem.W.Frag} {d : D} {G : Sto} {k : List D → Prop} {v : V} {H : Hp} (h : seqD d G k) (r : Rep K H v d) (s : Sim K G H) : ∃ p vs ds, v = .ref p ∧ (SqL K H p vs ∨ SqT K H p vs) ∧ Reps K H vs ds ∧ k ds := by
  cases d with
  | tup ds =>
    cases r with
    | tup h1 r1 => exact ⟨_, _, ds, rfl, .inr h1, r1, h⟩
  | nt ds =>
    cases r with
    | nt h1 _ r1 => exact ⟨_, _, ds, rfl, .inr (.inl (.inr ⟨_, h1⟩)), r1, h⟩
  | rl ds =>
    cases r with
    | rl h1 r1 => exact ⟨_, _, ds, rfl, .inl (frz_sq h1), r1, h⟩
  | ref a =>
    cases r
    obtain ⟨ds, hg, q⟩ := h
    obtain ⟨vs, h1, h2⟩ := s a _ hg
    exact ⟨_, vs, ds, rfl, .inl (.of h1), h2, q⟩
  | _ => exact False.elim h
theorem Rep.flat {K : PySem.W.Frag} {H : Hp} {v : V} {d : D} (r : Rep K H v d) (h : flatD d = true) : flatV v = true := by
  cases r <;> first | rfl | cases h
theorem Reps.flat {K : PySem.W.Frag} {H : Hp} : ∀ {vs : List V} {ds : List D}, Reps K H vs ds → ds.all flatD = true → vs.all flatV = true
  | _, _, .nil, _ => rfl
  | _, _, .cons a b, h => by
    rw [List.all_cons, Bool.and_eq_true] at h ⊢
    exact ⟨a.flat h.1, Reps.flat b h.2⟩
theorem eqF_eq {K : PySem.W.Frag} {H : Hp} {v u : V} {d e : D} (r : Rep K H v d) (q : Rep K H u e) (h : flatD d = true) (h' : flatD e = true) : eqV v u = eqF d e := by
  cases r <;> first | (cases h; done) | (cases q <;> first | (cases h'; done) | rfl)
theorem memF_eq {K : PySem.W.Frag} {H : Hp} {v : V} {d : D} (q : Rep K H v d) (h' : flatD d = true) : ∀ {vs : List V} {ds : List D}, Reps K H vs ds → ds.all flatD = true → inV v vs = memF d ds
  | _, _, .nil, _ => rfl
  | _, _, .cons a b, h => by
    rw [List.all_cons, Bool.and_eq_true] at h
    unfold inV memF
    rw [List.any_cons, List.any_cons, eqF_eq a q h.1 h']
    have := memF_eq q h' b h.2
    unfold inV memF at this
    rw [this]
/-- a dict by value -/
theorem repKV_of {K : PySem.W.Frag} {H : Hp} : ∀ {m : List (Key × V)} {ks : List Key} {ds : List D}, m.map (·.1) = ks → Reps K H (m.map (·.2)) ds → RepKV K H m (ks.zip ds)
  | [], _, _, e, r => by
    subst e
    cases r
    exact True.intro
  | (k, v) :: m, _, _, e, r => by
    subst e
    cases r with
    | cons a b => exact ⟨rfl, a, repKV_of rfl b⟩
theorem dgetR_of {K : PySem.W.Frag} {H : Hp} {x y : D} {ks : List Key} {ds : List D} {k : Key} {u v : V} (hk : keyD y = some k) (ry : Rep K H u y) (rx : Rep K H v (.rd ks ds)) :
    ∃ a, v = .ref a ∧ ∃ o, DGet H a u o ∧ (∀ d, valR ks ds k = some d → ∃ w, o = some w ∧ Rep K H w d) ∧ (valR ks ds k = none → o = none) := by
  cases rx with
  | @rd a ob m _ _ h e r =>
    obtain rfl := keyD_rep hk ry
    have hv := (repKV_of e r).val k
    rw [← valR_eq] at hv
    exact ⟨a, rfl, valV m k, .inl ⟨m, k, .inr ⟨ob, h⟩, rfl, rfl⟩, hv.1, hv.2⟩
theorem dinR_of {K : PySem.W.Frag} {H : Hp} {y : D} {ks : List Key} {ds : List D} {k : Key} {u v : V} (hk : keyD y = some k) (ry : Rep K H u y) (rx : Rep K H v (.rd ks ds)) :
    ∃ a, v = .ref a ∧ ∃ o, DGet H a u o ∧ o.isSome = (valR ks ds k).isSome := by
  obtain ⟨a, rfl, o, h1, h2, h3⟩ := dgetR_of (x := .non) hk ry rx
  refine ⟨a, rfl, o, h1, ?_⟩
  cases e : valR ks ds k with
  | none => rw [h3 e]; rfl
  | some d =>
    obtain ⟨w, rfl, _⟩ := h2 d e
    rfl
def inD : DR2 := fun x y G Q => match x, y with
  | .str i, .str j => ∃ c, i = ⟨#[c]⟩ ∧ Q (.bl (decide (c ∈ j.cps.toList))) G
  | .tup xs, .rl ds => ∃ p ps, Dds G xs p ∧ Dds G ds ps ∧ SeqAt.shaped (.tuple p) = true ∧ SeqAt.shaped (.list ps) = true ∧ Q (.bl (ps.any fun z => PyData.eqv z (.tuple p))) G
  | .rl xs, .rl ds => ∃ p ps, Dds G xs p ∧ Dds G ds ps ∧ SeqAt.shaped (.list p) = true ∧ SeqAt.shaped (.list ps) = true ∧ Q (.bl (ps.any fun z => PyData.eqv z (.list p))) G
  | .non, .rl ds => (ds.all flatD = true ∧ Q (.bl (memF .non ds)) G) ∨ ∃ ps, Dds G ds ps ∧ SeqAt.shaped (.list ps) = true ∧ Q (.bl (ps.any fun z => PyData.eqv z .none)) G
  | x, .tup ds => flatD x = true ∧ ds.all flatD = true ∧ Q (.bl (memF x ds)) G
  | x, .rl ds => flatD x = true ∧ ds.all flatD = true ∧ Q (.bl (memF x ds)) G
  | x, .rd ks ds => ∃ k, keyD x = some k ∧ Q (.bl ((valR ks ds k).isSome)) G
  | x, .ref a => (∃ ds, G a = some (.lst ds) ∧ flatD x = true ∧ ds.all flatD = true ∧ Q (.bl (memF x ds)) G) ∨ ∃ kvs k, G a = some (.dK kvs) ∧ keyD x = some k ∧ Q (.bl (valD kvs k).isSome) G
  | _, _ => False
def ninD : DR2 := fun x y G Q => match x, y with
  | .str i, .str j => ∃ c, i = ⟨#[c]⟩ ∧ Q (.bl (!decide (c ∈ j.cps.toList))) G
  | .tup xs, .rl ds => ∃ p ps, Dds G xs p ∧ Dds G ds ps ∧ SeqAt.shaped (.tuple p) = true ∧ SeqAt.shaped (.list ps) = true ∧ Q (.bl (!ps.any fun z => PyData.eqv z (.tuple p))) G
  | .rl xs, .rl ds => ∃ p ps, Dds G xs p ∧ Dds G ds ps ∧ SeqAt.shaped (.list p) = true ∧ SeqAt.shaped (.list ps) = true ∧ Q (.bl (!ps.any fun z => PyData.eqv z (.list p))) G
  | .non, .rl ds => (ds.all flatD = true ∧ Q (.bl (!memF .non ds)) G) ∨ ∃ ps, Dds G ds ps ∧ SeqAt.shaped (.list ps) = true ∧ Q (.bl (!ps.any fun z => PyData.eqv z .none)) G
  | x, .tup ds => flatD x = true ∧ ds.all flatD = true ∧ Q (.bl (!memF x ds)) G
  | x, .rl ds => flatD x = true ∧ ds.all flatD = true ∧ Q (.bl (!memF x ds)) G
  | x, .rd ks ds => ∃ k, keyD x = some k ∧ Q (.bl (!(valR ks ds k).isSome)) G
  | x, .ref a => (∃ ds, G a = some (.lst ds) ∧ flatD x = true ∧ ds.all flatD = true ∧ Q (.bl (!memF x ds)) G) ∨ ∃ kvs k, G a = some (.dK kvs) ∧ keyD x = some k ∧ Q (.bl (!(valD kvs k).isSome)) G
  | _, _ => False
theorem op_inD' (hu : X.A.units + 65 < cLine) : OpD X (compareOp .In) inD := by
  intro x y G Q v u σ H h rx ry s
  unfold inD at h
  split at h
  · cases rx; cases ry
    obtain ⟨c, rfl, q⟩ := h
    exact OpR.wo op_in_sign ⟨c, _, rfl, rfl, Lift.here (.bl _) s q⟩
  · obtain ⟨p, ps, d1, d2, s1, s2, q⟩ := h
    exact OpR.wo (op_inD hu) ⟨.tuple p, ps, (Dd.tup d1).dp s rx, (Dd.rl d2).dp s ry, s1, s2, Lift.here (.bl _) s q⟩
  · obtain ⟨p, ps, d1, d2, s1, s2, q⟩ := h
    exact OpR.wo (op_inD hu) ⟨.list p, ps, (Dd.rl d1).dp s rx, (Dd.rl d2).dp s ry, s1, s2, Lift.here (.bl _) s q⟩
  · rcases h with ⟨f2, q⟩ | ⟨ps, d2, s2, q⟩
    · have f1 : flatD .non = true := rfl
      cases ry with
      | rl hs r =>
        refine OpR.wo op_in_seq ⟨_, _, rfl, .inl (frz_sq hs), rx.flat f1, r.flat f2, ?_⟩
        show Lift _ _ _ _ (.bl (inV v _)) _
        rw [memF_eq rx f1 r f2]
        exact Lift.here (.bl _) s q
    · exact OpR.wo (op_inD hu) ⟨.none, ps, Dd.non.dp s rx, (Dd.rl d2).dp s ry, by rfl, s2, Lift.here (.bl _) s q⟩
  · rename_i ds
    obtain ⟨f1, f2, q⟩ := h
    cases ry with
    | tup hs r =>
      refine OpR.wo op_in_seq ⟨_, _, rfl, .inr hs, rx.flat f1, r.flat f2, ?_⟩
      show Lift _ _ _ _ (.bl (inV v _)) _
      rw [memF_eq rx f1 r f2]
      exact Lift.here (.bl _) s q
  · obtain ⟨f1, f2, q⟩ := h
    cases ry with
    | rl hs r =>
      refine OpR.wo op_in_seq ⟨_, _, rfl, .inl (frz_sq hs), rx.flat f1, r.flat f2, ?_⟩
      show Lift _ _ _ _ (.bl (inV v _)) _
      rw [memF_eq rx f1 r f2]
      exact Lift.here (.bl _) s q
  · obtain ⟨k, hk, q⟩ := h
    obtain ⟨a, rfl, o, h1, h2⟩ := dinR_of hk rx ry
    refine OpR.wo (op_in_dict (by omega)) ⟨a, o, rfl, h1, ?_⟩
    rw [h2]
    exact Lift.here (.bl _) s q
  · rename_i a
    cases ry
    rcases h with ⟨ds, g, f1, f2, q⟩ | ⟨kvs, k, g, hk, q⟩
    · obtain ⟨vs, hs, r⟩ := s a _ g
      refine OpR.wo op_in_seq ⟨_, _, rfl, .inl (.of hs), rx.flat f1, r.flat f2, ?_⟩
      show Lift _ _ _ _ (.bl (inV v _)) _
      rw [memF_eq rx f1 r f2]
      exact Lift.here (.bl _) s q
    · obtain ⟨o, h1, h2⟩ := din_of s g hk rx
      refine OpR.wo (op_in_dict (by omega)) ⟨a, o, rfl, h1, ?_⟩
      rw [h2]
      exact Lift.here (.bl _) s q
  · exact h.elim
theorem op_ninD' (hu : X.A.units + 65 < cLine) : OpD X (compareOp .NotIn) ninD := by
  intro x y G Q v u σ H h rx ry s
  unfold ninD at h
  split at h
  · cases rx; cases ry
    obtain ⟨c, rfl, q⟩ := h
    exact OpR.wo op_notIn_sign ⟨c, _, rfl, rfl, Lift.here (.bl _) s q⟩
  · obtain ⟨p, ps, d1, d2, s1, s2, q⟩ := h
    exact OpR.wo (op_notInD hu) ⟨.tuple p, ps, (Dd.tup d1).dp s rx, (Dd.rl d2).dp s ry, s1, s2, Lift.here (.bl _) s q⟩
  · obtain ⟨p, ps, d1, d2, s1, s2, q⟩ := h
    exact OpR.wo (op_notInD hu) ⟨.list p, ps, (Dd.rl d1).dp s rx, (Dd.rl d2).dp s ry, s1, s2, Lift.here (.bl _) s q⟩
  · rcases h with ⟨f2, q⟩ | ⟨ps, d2, s2, q⟩
    · have f1 : flatD .non = true := rfl
      cases ry with
      | rl hs r =>
        refine OpR.wo op_notIn_seq ⟨_, _, rfl, .inl (frz_sq hs), rx.flat f1, r.flat f2, ?_⟩
        show Lift _ _ _ _ (.bl (!inV v _)) _
        rw [memF_eq rx f1 r f2]
        exact Lift.here (.bl _) s q
    · exact OpR.wo (op_notInD hu) ⟨.none, ps, Dd.non.dp s rx, (Dd.rl d2).dp s ry, by rfl, s2, Lift.here (.bl _) s q⟩
  · rename_i ds
    obtain ⟨f1, f2, q⟩ := h
    cases ry with
    | tup hs r =>
      refine OpR.wo op_notIn_seq ⟨_, _, rfl, .inr hs, rx.flat f1, r.flat f2, ?_⟩
      show Lift _ _ _ _ (.bl (!inV v _)) _
      rw [memF_eq rx f1 r f2]
      exact Lift.here (.bl _) s q
  · obtain ⟨f1, f2, q⟩ := h
    cases ry with
    | rl hs r =>
      refine OpR.wo op_notIn_seq ⟨_, _, rfl, .inl (frz_sq hs), rx.flat f1, r.flat f2, ?_⟩
      show Lift _ _ _ _ (.bl (!inV v _)) _
      rw [memF_eq rx f1 r f2]
      exact Lift.here (.bl _) s q
  · obtain ⟨k, hk, q⟩ := h
    obtain ⟨a, rfl, o, h1, h2⟩ := dinR_of hk rx ry
    refine OpR.wo (op_nin_dict (by omega)) ⟨a, o, rfl, h1, ?_⟩
    rw [h2]
    exact Lift.here (.bl _) s q
  · rename_i a
    cases ry
    rcases h with ⟨ds, g, f1, f2, q⟩ | ⟨kvs, k, g, hk, q⟩
    · obtain ⟨vs, hs, r⟩ := s a _ g
      refine OpR.wo op_notIn_seq ⟨_, _, rfl, .inl (.of hs), rx.flat f1, r.flat f2, ?_⟩
      show Lift _ _ _ _ (.bl (!inV v _)) _
      rw [memF_eq rx f1 r f2]
      exact Lift.here (.bl _) s q
    · obtain ⟨o, h1, h2⟩ := din_of s g hk rx
      refine OpR.wo (op_nin_dict (by omega)) ⟨a, o, rfl, h1, ?_⟩
      rw [h2]
      exact Lift.here (.bl _) s q
  · exact h.elim
/-- the rule of a comparison -/
def cmpD : CmpOp → DR2
  | .Eq => eqD | .NotEq => neD | .Lt => ltD | .LtE => leD | .Gt => gtD | .GtE => geD | .Is => isD | .IsNot => isnD | .In => inD | .NotIn => ninD
theorem op_cmpD (hu : X.A.units + 65 < cLine) (op : CmpOp) : OpD X (compareOp op) (cmpD op) := by
  cases op
  · exact op_eqD' (Nat.lt_of_succ_lt hu)
  · exact op_neD' (Nat.lt_of_succ_lt hu)
  · exact op_ltD
  · exact op_leD
  · exact op_gtD
  · exact op_geD
  · exact op_isD
  · exact op_isnD
  · exact op_inD' hu
  · exact op_ninD' hu
def binD : Operator → DR2
  | .Add => addD | .Sub => subD | .Mult => mulD | .FloorDiv => fdivD | .Mod => modD | .Pow => powD | .BitAnd => bandD | .BitXor => bxorD
  | _ => fun _ _ _ _ => False
theorem op_binD (op : Operator) : OpD X (binaryOp op) (binD op) := by
  cases op
  case Add => exact op_addD
  case Sub => exact op_subD
  case Mult => exact op_mulD
  case FloorDiv => exact op_fdivD
  case Mod => exact op_modD
  case Pow => exact op_powD
  case BitAnd => exact op_bandD
  case BitXor => exact op_bxorD
  all_goals exact fun _ _ _ _ _ _ _ _ h _ _ _ => h.elim
/-! subscripts -/
variable {a b e : Expr} {pos : Pos} {ta tb te : DE}
def ixD : DR2 := fun x y G Q => match x, y with
  | .tup ds, .int i => ∃ d, atI ds i = some d ∧ Q d G
  | .rl ds, .int i => ∃ d, atI ds i = some d ∧ Q d G
  | .rd ks ds, y => ∃ k d, keyD y = some k ∧ valR ks ds k = some d ∧ Q d G
  | .ref p, .int i => ∃ ds d, G p = some (.lst ds) ∧ atI ds i = some d ∧ Q d G
  | .str z, .int i => ∃ c, z.length ≤ sizeLine ∧ atI z.cps.toList i = some c ∧ Q (.str ⟨#[c]⟩) G
  | .ref p, .str k => ∃ kvs d, G p = some (.dK kvs) ∧ valD kvs (.inr k) = some d ∧ Q d G
  | _, _ => False
theorem Reps.atI {K : PySem.W.Frag} {H : Hp} {vs : List V} {ds : List D} {i : Int} {d : D} (r : Reps K H vs ds) (h : L2.atI ds i = some d) : ∃ v, L2.atI vs i = some v ∧ Rep K H v d := by
  unfold L2.atI at h ⊢
  rw [r.length]
  cases e : ixN ds.length i with
  | none => rw [e] at h; cases h
  | some j =>
    rw [e] at h
    exact r.get h
theorem qe_ix (hu : X.A.units + 64 < cLine) (ha : QE X a ta) (hb : QE X b tb) (hs : PlainIx b) : QE X (.Subscript a b pos) (dOp ixD ta tb) := by
  refine ⟨fun ρ G Q xq σ H h rs s tk => ?_⟩
  refine PE.we (pe_ix (ix_seq.or (ix_dict (by omega))) pe_max pe_max hs) ?_
  refine two_ ha hb h rs s tk fun x y v u G2 H2 q rx ry s2 e2 => ?_
  unfold ixD at q
  split at q
  · obtain ⟨d, h1, q⟩ := q
    cases ry
    cases rx with
    | tup hs r1 =>
      obtain ⟨w, h2, r2⟩ := r1.atI h1
      exact .inl (.inr (.inl ⟨_, _, _, w, rfl, rfl, hs, h2, d, G2, r2, s2, e2, q⟩))
  · obtain ⟨d, h1, q⟩ := q
    cases ry
    cases rx with
    | rl hs r1 =>
      obtain ⟨w, h2, r2⟩ := r1.atI h1
      exact .inl (.inl ⟨_, _, _, w, rfl, rfl, frz_sq hs, h2, d, G2, r2, s2, e2, q⟩)
  · obtain ⟨k, d, hk, h1, q⟩ := q
    obtain ⟨a, rfl, o, g1, g2, _⟩ := dgetR_of (x := .non) hk ry rx
    obtain ⟨w, rfl, rw'⟩ := g2 d h1
    exact .inr ⟨a, w, rfl, g1, d, G2, rw', s2, e2, q⟩
  · cases rx; cases ry
    obtain ⟨ds, d, hg, h1, q⟩ := q
    obtain ⟨vs, h3, r1⟩ := s2 _ _ hg
    obtain ⟨w, h2, r2⟩ := r1.atI h1
    exact .inl (.inl ⟨_, _, _, w, rfl, rfl, .of h3, h2, d, G2, r2, s2, e2, q⟩)
  · cases rx; cases ry
    obtain ⟨c, hz, h1, q⟩ := q
    exact .inl (.inr (.inr ⟨_, _, c, rfl, rfl, hz, h1, _, G2, .str _, s2, e2, q⟩))
  · cases rx
    obtain ⟨kvs, d, hg, h1, q⟩ := q
    obtain ⟨w, h2, r2⟩ := (dget_of s2 hg rfl ry).1 d h1
    exact .inr ⟨_, w, rfl, h2, d, G2, r2, s2, e2, q⟩
  · exact q.elim
/-- a dict's value at an int or a text -/
def dixD : DR2 := fun x y G Q => match x with
  | .ref p => ∃ kvs k d, G p = some (.dK kvs) ∧ keyD y = some k ∧ valD kvs k = some d ∧ Q d G
  | _ => False
theorem qe_dix (hu : X.A.units + 64 < cLine) (ha : QE X a ta) (hb : QE X b tb) (hs : PlainIx b) : QE X (.Subscript a b pos) (dOp dixD ta tb) := by
  refine ⟨fun ρ G Q xq σ H h rs s tk => ?_⟩
  refine PE.we (pe_ix (ix_dict (by omega)) pe_max pe_max hs) ?_
  refine two_ ha hb h rs s tk fun x y v u G2 H2 q rx ry s2 e2 => ?_
  unfold dixD at q
  split at q
  · cases rx
    obtain ⟨kvs, k, d, hg, hk, h1, q⟩ := q
    obtain ⟨w, h2, r2⟩ := (dget_of s2 hg hk ry).1 d h1
    exact ⟨_, w, rfl, h2, d, G2, r2, s2, e2, q⟩
  · exact q.elim
/-! slices -/
abbrev DO := Ev → Sto → (Option Int → Sto → Prop) → XQ → Prop
def WPt (X : Cx) (e : Option Expr) : TO := fun σ H Q => ∀ pins s, Inv X pins σ H s → wpAny (model X.prog X.w) X.A (evalPart e X.env) (fun u s' => ∃ o H', Inv X pins σ H' s' ∧ IsPart u o ∧ Q o H') X.xe s
theorem po_max {e : Option Expr} : PO X e (WPt X e) := ⟨fun pins s σ H Q I h => h pins s I⟩
theorem PO.wp {e : Option Expr} {t : TO} {σ : L2.St} {H : Hp} {Q : Option Int → Hp → Prop} (h : PO X e t) (q : t σ H Q) : WPt X e σ H Q := fun pins s I => h.run pins s σ H Q I q
theorem WPt.imp {e : Option Expr} {σ : L2.St} {H : Hp} {Q Q' : Option Int → Hp → Prop} (h : WPt X e σ H Q) (i : ∀ v H', Q v H' → Q' v H') : WPt X e σ H Q' := fun pins s I => thn (h pins s I) fun _ _ ⟨o, H', I', p, q⟩ => ⟨o, H', I', p, i _ _ q⟩
structure QO (X : Cx) (e : Option Expr) (t : DO) : Prop where
  run : ∀ ρ G Q xq σ H, t ρ G Q xq → RepS X.K H σ ρ → Sim X.K G H → Tk X σ G H xq → WPt X e σ H fun o H' => ∃ G', Sim X.K G' H' ∧ Ext X.K G H G' H' ∧ Q o G'
def dNoPart : DO := fun _ G Q _ => Q none G
def asI (Q : Option Int → Sto → Prop) : DQ := fun d G => match d with
  | .int i => Q (some i) G
  | _ => False
def dPart (t : DE) : DO := fun ρ G Q xq => t ρ G (asI Q) xq
theorem qo_none : QO X none dNoPart := ⟨fun ρ G Q xq σ H h rs s tk => PO.wp po_none ⟨G, s, .refl, h⟩⟩
theorem qo_some (he : QE X e te) : QO X (some e) (dPart te) := by
  refine ⟨fun ρ G Q xq σ H h rs s tk => ?_⟩
  refine PO.wp (po_some pe_max) ((he.run ρ G _ xq σ H h rs s tk).imp fun v H1 ⟨x, G1, rx, s1, e1, q1⟩ => ?_)
  cases x with
  | int i =>
    cases rx
    exact ⟨i, rfl, G1, s1, e1, q1⟩
  | _ => exact False.elim q1
def cutD (xs : List D) (lo hi : Option Int) : List D := (xs.drop (HT.sIx xs.length 0 lo)).take (HT.sIx xs.length xs.length hi - HT.sIx xs.length 0 lo)
theorem Reps.cut {K : PySem.W.Frag} {H : Hp} {vs : List V} {ds : List D} (r : Reps K H vs ds) (lo hi : Option Int) : Reps K H (cutV vs lo hi) (cutD ds lo hi) := by
  unfold cutV cutD
  rw [r.length]
  exact (r.drop _).take _
theorem cut_whole {xs : List D} {lo hi : Option Int} (h : HT.sIx xs.length 0 lo = 0 ∧ HT.sIx xs.length xs.length hi = xs.length) : cutD xs lo hi = xs := by
  unfold cutD
  rw [h.1, h.2, List.drop_zero, Nat.sub_zero, List.take_length]
def slD (x : D) (lo hi : Option Int) (G : Sto) (Q : DQ) : Prop := match x with
  | .tup ds => Q (.tup (cutD ds lo hi)) G
  | .ref p => ∃ ds, G p = some (.lst ds) ∧ ∀ p, G p = none → Q (.ref p) (put G p (.lst (cutD ds lo hi)))
  | .sc ds => ∀ p, G p = none → Q (.ref p) (put G p (.lst (cutD ds lo hi)))
  | .str z => z.length ≤ sizeLine ∧ Q (.str (cutS z lo hi)) G
  | _ => False
def dSl (te : DE) (tl th : DO) : DE := fun ρ G Q xq => te ρ G (fun x G1 => tl ρ G1 (fun l G2 => th ρ G2 (fun u G3 => slD x l u G3 Q) xq) xq) xq
theorem qe_sl {lo hi : Option Expr} {tl th : DO} {p2 : Pos} (he : QE X e te) (hl : QO X lo tl) (hh : QO X hi th) : QE X (.Subscript e (.Slice lo hi none p2) pos) (dSl te tl th) := by
  refine ⟨fun ρ G Q xq σ H h rs s tk => ?_⟩
  refine PE.we (pe_slice (SlR.or sl_list (SlR.or sl_tupA sl_str)) pe_max po_max po_max) ((he.run ρ G _ xq σ H h rs s tk).imp fun v H1 ⟨x, G1, rx, s1, e1, q1⟩ => ?_)
  refine (hl.run ρ G1 _ xq σ H1 q1 (rs.mono e1.tup) s1 (tk.step e1)).imp fun l H2 ⟨G2, s2, e2, q2⟩ => ?_
  refine (hh.run ρ G2 _ xq σ H2 q2 (rs.mono (e1.trans e2).tup) s2 (tk.step (e1.trans e2))).imp fun u H3 ⟨G3, s3, e3, q3⟩ => ?_
  have e13 := (e1.trans e2).trans e3
  have rx3 := (rx.mono e2.tup).mono e3.tup
  unfold slD at q3
  split at q3
  · cases rx3 with
    | tup hs r1 =>
      refine .inr (.inl ⟨_, _, rfl, hs, fun w => ?_, fun _ p hp => Lift.back e13 _ _ (lift_tup (r1.cut l u) s3 q3 hp)⟩)
      rw [r1.length] at w
      rw [cut_whole w] at q3
      exact ⟨_, G3, .tup hs r1, s3, e13, q3⟩
  · cases rx3
    obtain ⟨ds, hg, q⟩ := q3
    obtain ⟨vs, h3, r1⟩ := s3 _ _ hg
    exact .inl ⟨_, _, rfl, .of h3, fun p hp => Lift.back e13 _ _ (lift_lst (r1.cut l u) s3 q hp)⟩
  · cases rx3 with
    | sc h3 r1 => exact .inl ⟨_, _, rfl, h3.sq, fun p hp => Lift.back e13 _ _ (lift_lst (r1.cut l u) s3 q3 hp)⟩
  · cases rx3
    exact .inr (.inr ⟨_, rfl, q3.1, _, G3, .str _, s3, e13, q3.2⟩)
  · exact q3.elim
/-- a slice, a list's by value -/
def slV (x : D) (lo hi : Option Int) (G : Sto) (Q : DQ) : Prop := match x with
  | .tup ds => Q (.tup (cutD ds lo hi)) G
  | .ref p => ∃ ds, G p = some (.lst ds) ∧ Q (.rl (cutD ds lo hi)) G
  | .rl ds => Q (.rl (cutD ds lo hi)) G
  | .sc ds => Q (.rl (cutD ds lo hi)) G
  | .str z => z.length ≤ sizeLine ∧ Q (.str (cutS z lo hi)) G
  | _ => False
def dSlV (te : DE) (tl th : DO) : DE := fun ρ G Q xq => te ρ G (fun x G1 => tl ρ G1 (fun l G2 => th ρ G2 (fun u G3 => slV x l u G3 Q) xq) xq) xq
theorem WE.lockIf {e : Expr} {σ : L2.St} {H : Hp} {Q : VK} (h : WE X e σ H fun v H' => Q v H' ∨ ∃ p vs, v = .ref p ∧ H' p = some (.lst vs) ∧ ∀ od, Q (.ref p) (upd H' p (.frz od (.lst vs)))) : WE X e σ H Q := fun pins s I =>
  thn (h pins s I) fun u s' ⟨x, H', I', r, z⟩ => by
    rcases z with q | ⟨p, vs, ex, hp, q⟩
    · exact ⟨x, H', I', r, q⟩
    · subst ex
      obtain ⟨od, I2⟩ := I'.lock hp True.intro
      exact ⟨.ref p, _, I2, r, q od⟩
theorem qe_slV {lo hi : Option Expr} {tl th : DO} {p2 : Pos} (he : QE X e te) (hl : QO X lo tl) (hh : QO X hi th) : QE X (.Subscript e (.Slice lo hi none p2) pos) (dSlV te tl th) := by
  refine ⟨fun ρ G Q xq σ H h rs s tk => WE.lockIf ?_⟩
  refine PE.we (pe_slice (SlR.or sl_list (SlR.or sl_tupA sl_str)) pe_max po_max po_max) ((he.run ρ G _ xq σ H h rs s tk).imp fun v H1 ⟨x, G1, rx, s1, e1, q1⟩ => ?_)
  refine (hl.run ρ G1 _ xq σ H1 q1 (rs.mono e1.tup) s1 (tk.step e1)).imp fun l H2 ⟨G2, s2, e2, q2⟩ => ?_
  refine (hh.run ρ G2 _ xq σ H2 q2 (rs.mono (e1.trans e2).tup) s2 (tk.step (e1.trans e2))).imp fun u H3 ⟨G3, s3, e3, q3⟩ => ?_
  have e13 := (e1.trans e2).trans e3
  have rx3 := (rx.mono e2.tup).mono e3.tup
  have fin : ∀ {a : Addr} {vs : List V} {ds : List D}, SqL X.K H3 a vs → Reps X.K H3 vs ds → Q (.rl (cutD ds l u)) G3 → ∀ p, H3 p = none → (Lift X.K G H Q (.ref p) (upd H3 p (.lst (cutV vs l u))) ∨ ∃ p' vs', V.ref p = .ref p' ∧ upd H3 p (.lst (cutV vs l u)) p' = some (.lst vs') ∧ ∀ od, Lift X.K G H Q (.ref p') (upd (upd H3 p (.lst (cutV vs l u))) p' (.frz od (.lst vs')))) := fun {a vs ds} _ r q p hp => by
    refine .inr ⟨p, _, rfl, upd_same, fun od => ?_⟩
    rw [upd_upd]
    exact Lift.back e13 _ _ (lift_rl (r.cut l u) s3 q hp)
  unfold slV at q3
  split at q3
  · cases rx3 with
    | tup hs r1 =>
      refine .inr (.inl ⟨_, _, rfl, hs, fun w => .inl ?_, fun _ p hp => .inl (Lift.back e13 _ _ (lift_tup (r1.cut l u) s3 q3 hp))⟩)
      rw [r1.length] at w
      rw [cut_whole w] at q3
      exact ⟨_, G3, .tup hs r1, s3, e13, q3⟩
  · cases rx3
    obtain ⟨ds, hg, q⟩ := q3
    obtain ⟨vs, h3, r1⟩ := s3 _ _ hg
    exact .inl ⟨_, _, rfl, .of h3, fin (.of h3) r1 q⟩
  · cases rx3 with
    | rl h3 r1 => exact .inl ⟨_, _, rfl, frz_sq h3, fin (frz_sq h3) r1 q3⟩
  · cases rx3 with
    | sc h3 r1 => exact .inl ⟨_, _, rfl, h3.sq, fin h3.sq r1 q3⟩
  · cases rx3
    exact .inr (.inr ⟨_, rfl, q3.1, .inl ⟨_, G3, .str _, s3, e13, q3.2⟩⟩)
  · exact q3.elim
/-- xs[::-1] of a list -/
def revD : DR1 := fun x G Q => match x with
  | .ref p => ∃ ds, G p = some (.lst ds) ∧ ∀ p, G p = none → Q (.ref p) (put G p (.lst ds.reverse))
  | .tup ds => Q (.tup ds.reverse) G
  | _ => False
theorem qe_rev {k : Nat} {p1 p2 p3 : Pos} (he : QE X e te) : QE X (.Subscript e (.Slice none none (some (.UnaryOp .USub (.Constant (.int 1) k p1) p2)) p3) pos) (dUn revD te) := by
  refine ⟨fun ρ G Q xq σ H h rs s tk => ?_⟩
  refine PE.we (pe_back pe_max) ((he.run ρ G _ xq σ H h rs s tk).imp fun v H1 ⟨x, G1, rx, s1, e1, q1⟩ => ?_)
  have q1 : revD x G1 Q := q1
  unfold revD at q1
  split at q1
  · cases rx
    obtain ⟨ds, hg, q⟩ := q1
    obtain ⟨vs, h3, r1⟩ := s1 _ _ hg
    exact .inl ⟨_, _, rfl, .of h3, fun p hp => Lift.back e1 _ _ (lift_lst r1.reverse s1 q hp)⟩
  · cases rx with
    | tup h3 r1 => exact .inr ⟨_, _, rfl, h3, fun p hp => Lift.back e1 _ _ (lift_tup r1.reverse s1 q1 hp)⟩
  · exact q1.elim
def revV : DR1 := fun x G Q => match x with
  | .tup ds => Q (.tup ds.reverse) G
  | x => lstD x G fun ds => Q (.rl ds.reverse) G
theorem qe_revV {k : Nat} {p1 p2 p3 : Pos} (he : QE X e te) : QE X (.Subscript e (.Slice none none (some (.UnaryOp .USub (.Constant (.int 1) k p1) p2)) p3) pos) (dUn revV te) := by
  refine ⟨fun ρ G Q xq σ H h rs s tk => WE.lockIf ?_⟩
  refine PE.we (pe_back pe_max) ((he.run ρ G _ xq σ H h rs s tk).imp fun v H1 ⟨x, G1, rx, s1, e1, q1⟩ => ?_)
  have q1 : revV x G1 Q := q1
  unfold revV at q1
  split at q1
  · cases rx with
    | tup h3 r1 => exact .inr ⟨_, _, rfl, h3, fun p hp => .inl (Lift.back e1 _ _ (lift_tup r1.reverse s1 q1 hp))⟩
  · obtain ⟨a, vs, ds, rfl, h3, r1, q⟩ := lst_ q1 rx s1
    refine .inl ⟨_, _, rfl, h3, fun p hp => .inr ⟨p, _, rfl, upd_same, fun od => ?_⟩⟩
    rw [upd_upd]
    exact Lift.back e1 _ _ (lift_rl r1.reverse s1 q hp)
end
end DL
namespace DL
open PySem PySem.Spec PyProof.Rows L2
section
variable {X : Cx}
/-! built-ins by name -/
inductive Bl where
  | len | abs | int | str | tuple | list | sum | max | min | all | any | isi | sorted
  deriving DecidableEq
def Bl.name : Bl → Str
  | .len => "len" | .abs => "abs" | .int => "int" | .str => "str" | .tuple => "tuple" | .list => "list" | .sum => "sum" | .max => "max" | .min => "min" | .all => "all" | .any => "any" | .isi => "isinstance" | .sorted => "sorted"
def Bl.val : Bl → Value
  | .len => .builtin "len" | .abs => .builtin "abs" | .int => .type "int" | .str => .type "str" | .tuple => .type "tuple" | .list => .type "list" | .sum => .builtin "sum" | .max => .builtin "max" | .min => .builtin "min" | .all => .builtin "all" | .any => .builtin "any" | .isi => .builtin "isinstance" | .sorted => .builtin "sorted"
theorem Bl.boot (b : Bl) : bootBuiltins b.name = some b.val := by
  cases b <;> decide +kernel
theorem Bl.nn (b : Bl) : b.name ≠ "__name__" := by
  cases b <;> decide
theorem Bl.nd (b : Bl) : (b.name == ("__debug__" : Str)) = false := by
  cases b <;> decide
abbrev DRA := List D → Sto → DQ → Prop
def WC (X : Cx) (f : Value) (vs : List V) (σ : L2.St) (H : Hp) (R : VK) : Prop :=
  ∀ pins s us, Inv X pins σ H s → Vals vs us → wpAny (model X.prog X.w) X.A (call f us) (EP X pins σ R) X.xe s
def CallD (X : Cx) (f : Value) (r : DRA) : Prop := ∀ ds G Q vs σ H, r ds G Q → Reps X.K H vs ds → Sim X.K G H → WC X f vs σ H (Lift X.K G H Q)
theorem CallR.wc {f : Value} {r : List V → Hp → VK → Prop} {vs : List V} {σ : L2.St} {H : Hp} {R : VK} (h : CallR X f r) (q : r vs H R) : WC X f vs σ H R := fun pins s us I rv => h pins s σ H vs us R I rv q
theorem call_max_ {f : Value} : CallR X f (fun vs H R => ∀ σ, WC X f vs σ H R) := fun pins s σ H xs us Q I r h => h σ pins s us I r
theorem WC.imp {f : Value} {vs : List V} {σ : L2.St} {H : Hp} {R R' : VK} (h : WC X f vs σ H R) (i : ∀ v H', R v H' → R' v H') : WC X f vs σ H R' :=
  fun pins s us I rv => thn (h pins s us I rv) fun _ _ ⟨v, H', I', r, q⟩ => ⟨v, H', I', r, i _ _ q⟩
def dCall (r : DRA) (t : DA) : DE := fun ρ G Q xq => t ρ G (fun ds G1 => r ds G1 Q) xq
variable {e : Expr} {es : List Expr} {tas : DA} {p pos : Pos}
theorem qe_blt {r : DRA} {b : Bl} (hr : CallD X b.val r) (hg : Gl X b.name) (hm : X.mg b.name = none) (ha : QA X (e :: es) tas) (he : starEach (e :: es) X.env = (false, eval e X.env) :: starEach es X.env) (hpl : (backTo pos (starEach es X.env)).any (·.1) = false) :
    QE X (.Call (.Name b.name p) (e :: es) [] pos) (dCall r tas) := by
  refine ⟨fun ρ G Q xq σ H h rs s tk => ?_⟩
  have main : tCB (fun vs H R => ∀ σ, WC X b.val vs σ H R) (WA X (e :: es)) σ H (Lift X.K G H Q) :=
    (ha.run ρ G _ xq σ H h rs s tk).imp fun vs H1 ⟨ds, G1, r1, s1, e1, q1⟩ => fun σ' => (hr ds G1 Q vs σ' H1 q1 r1 s1).imp (Lift.back e1)
  cases hv : b.val with
  | builtin id =>
    rw [hv] at main
    exact PE.we (pe_callB (id := id) call_max_ hg hm (by rw [b.boot, hv]) pa_max b.nn b.nd he hpl) main
  | type T =>
    rw [hv] at main
    exact PE.we (pe_callTy (T := T) call_max_ hg hm (by rw [b.boot, hv]) pa_max b.nn b.nd he hpl) main
  | _ => cases b <;> cases hv
theorem Reps.one {K : PySem.W.Frag} {H : Hp} {vs : List V} {d : D} (h : Reps K H vs [d]) : ∃ v, vs = [v] ∧ Rep K H v d := by
  cases h with
  | cons a b => cases b; exact ⟨_, rfl, a⟩
theorem Reps.two {K : PySem.W.Frag} {H : Hp} {vs : List V} {d e : D} (h : Reps K H vs [d, e]) : ∃ v u, vs = [v, u] ∧ Rep K H v d ∧ Rep K H u e := by
  cases h with
  | cons a b =>
    obtain ⟨u, rfl, r⟩ := b.one
    exact ⟨_, u, rfl, a, r⟩
theorem Reps.ints {K : PySem.W.Frag} {H : Hp} : ∀ {vs : List V} {ns : List Int}, Reps K H vs (ns.map D.int) → vs = ns.map V.int
  | _, [], h => by cases h; rfl
  | _, n :: ns, h => by
    cases h with
    | cons a b => cases a; rw [Reps.ints b]; rfl
theorem Reps.bls {K : PySem.W.Frag} {H : Hp} : ∀ {vs : List V} {ns : List Bool}, Reps K H vs (ns.map D.bl) → vs = ns.map V.bl
  | _, [], h => by cases h; rfl
  | _, n :: ns, h => by
    cases h with
    | cons a b => cases a; rw [Reps.bls b]; rfl
theorem Reps.strs {K : PySem.W.Frag} {H : Hp} : ∀ {vs : List V} {ns : List Str}, Reps K H vs (ns.map D.str) → vs = ns.map V.str
  | _, [], h => by cases h; rfl
  | _, n :: ns, h => by
    cases h with
    | cons a b => cases a; rw [Reps.strs b]; rfl
theorem reps_ints {K : PySem.W.Frag} {H : Hp} : ∀ ns : List Int, Reps K H (ns.map V.int) (ns.map D.int)
  | [] => .nil
  | n :: ns => .cons (.int n) (reps_ints ns)
theorem reps_strs {K : PySem.W.Frag} {H : Hp} : ∀ ns : List Str, Reps K H (ns.map V.str) (ns.map D.str)
  | [] => .nil
  | n :: ns => .cons (.str n) (reps_strs ns)
/-- the type's name -/
def tyD (d : D) (G : Sto) (k : String → Prop) : Prop := match d with
  | .non => k "NoneType" | .bl _ => k "bool" | .int _ => k "int" | .str _ => k "str" | .tup _ => k "tuple"
  | .ref a => ((∃ ds, G a = some (.lst ds)) ∧ k "list") ∨ ((∃ kvs, G a = some (.dK kvs)) ∧ k "dict") ∨ ((∃ kvs, G a = some (.dT kvs)) ∧ k "dict")
  | .rl _ => k "list" | .rd _ _ => k "dict"
  | .ty _ => False
  | .sc _ => False
  | .exc _ _ _ => False
  | .fn _ => False
  | .nt _ => False
  | .lam _ _ _ _ => False
theorem ty_ {K : PySem.W.Frag} {d : D} {G : Sto} {k : String → Prop} {v : V} {H : Hp} (h : tyD d G k) (r : Rep K H v d) (s : Sim K G H) : ∃ n, TyX K H v (.type n) ∧ k n := by
  cases d with
  | non => cases r; exact ⟨_, .base .non, h⟩
  | bl b => cases r; exact ⟨_, .base (.bl b), h⟩
  | int i => cases r; exact ⟨_, .base (.int i), h⟩
  | str x => cases r; exact ⟨_, .base (.str x), h⟩
  | tup ds =>
    cases r with
    | tup h1 r1 =>
      rcases h1 with (h1 | ⟨o, h1⟩) | ⟨o, its, n, h1, h2, _⟩
      · exact ⟨_, .base (.tup h1), h⟩
      · exact ⟨_, .fTuple h1, h⟩
      · exact ⟨_, .kTuple h1 h2, h⟩
  | ref a =>
    cases r
    rcases h with ⟨⟨ds, g⟩, q⟩ | ⟨⟨ds, g⟩, q⟩ | ⟨⟨ds, g⟩, q⟩
    · obtain ⟨vs, h1, _⟩ := s a _ g
      exact ⟨_, .base (.lst h1), q⟩
    · obtain ⟨vs, h1, _⟩ := s a _ g
      exact ⟨_, .base (.dK h1), q⟩
    · obtain ⟨vs, h1, _⟩ := s a _ g
      exact ⟨_, .base (.dT h1), q⟩
  | ty n => exact False.elim h
  | rl n =>
    cases r with
    | rl h1 r1 => exact ⟨_, .base (.frz h1), h⟩
  | rd n m =>
    cases r with
    | rd h1 e r1 => exact ⟨_, .fDict h1, h⟩
  | sc n => exact False.elim h
  | exc _ _ _ => exact False.elim h
  | fn _ => exact False.elim h
  | nt _ => exact False.elim h
  | lam _ _ _ _ => exact False.elim h
def bltD : Bl → DRA
  | .len => fun ds G Q => match ds with
    | [.str z] => z.length ≤ sizeLine ∧ Q (.int z.length) G
    | [x] => seqD x G fun ys => Q (.int ys.length) G
    | _ => False
  | .abs => fun ds G Q => match ds with
    | [.int i] => Q (.int (if i < 0 then -i else i)) G
    | _ => False
  | .int => fun ds G Q => match ds with
    | [.int i] => Q (.int i) G
    | [.bl k] => Q (.int (if k then 1 else 0)) G
    | [.str a] => ∃ n, PySem.intText? a = some n ∧ a.length ≤ 640 ∧ Q (.int n) G
    | _ => False
  | .str => fun ds G Q => match ds with
    | [.int i] => i.natAbs.log2 < 1920 ∧ Q (.str (toString i)) G
    | _ => False
  | .tuple => fun ds G Q => match ds with
    | [.tup ys] => Q (.tup ys) G
    | [x] => lstD x G fun ys => Q (.tup ys) G
    | _ => False
  | .list => fun ds G Q => match ds with
    | [x] => seqD x G fun ys => ∀ p, G p = none → Q (.ref p) (put G p (.lst ys))
    | _ => False
  | .sum => fun ds G Q => match ds with
    | [x] => lstD x G fun ys => ∃ ns : List Int, ys = ns.map D.int ∧ Q (.int ns.sum) G
    | _ => False
  | .max => fun ds G Q => match ds with
    | [.int i, .int j] => Q (.int (if j > i then j else i)) G
    | [x] => lstD x G fun ys => ∃ ns : List Int, ys = ns.map D.int ∧ 0 < ns.length ∧ ∀ m, m ∈ ns → (∀ y, y ∈ ns → y ≤ m) → Q (.int m) G
    | _ => False
  | .min => fun ds G Q => match ds with
    | [.int i, .int j] => Q (.int (if j < i then j else i)) G
    | [x] => lstD x G fun ys => ∃ ns : List Int, ys = ns.map D.int ∧ 0 < ns.length ∧ ∀ m, m ∈ ns → (∀ y, y ∈ ns → m ≤ y) → Q (.int m) G
    | _ => False
  | .all => fun ds G Q => match ds with
    | [x] => lstD x G fun ys => ∃ bs : List Bool, ys = bs.map D.bl ∧ Q (.bl (bs.all id)) G
    | _ => False
  | .any => fun ds G Q => match ds with
    | [x] => lstD x G fun ys => ∃ bs : List Bool, ys = bs.map D.bl ∧ Q (.bl (bs.any id)) G
    | _ => False
  | .isi => fun ds G Q => match ds with
    | [x, .ty n] => tyD x G fun t => ∃ b, kitB t n = some b ∧ Q (.bl b) G
    | _ => False
  | .sorted => fun ds G Q => match ds with
    | [x] => lstD x G fun ys => (∃ ns : List Int, ys = ns.map D.int ∧ ns.length < 64 ∧ ∀ (ns' : List Int) (p : Addr), ns'.Perm ns → ns'.Pairwise (· ≤ ·) → G p = none → Q (.ref p) (put G p (.lst (ns'.map D.int)))) ∨
        ∃ ns : List Str, ys = ns.map D.str ∧ ns.length < 64 ∧ ∀ (ns' : List Str) (p : Addr), ns'.Perm ns → sortedS ns' = true → G p = none → Q (.ref p) (put G p (.lst (ns'.map D.str)))
    | _ => False
def needC : Bl → Bool
  | .sum => true | .max => true | .min => true | .all => true | .any => true
  | _ => false
theorem blt_ok (b : Bl) (hc : needC b = true → X.calm = true) : CallD X b.val (bltD b) := by
  cases b
  case len =>
    intro ds G Q vs σ H h r s
    simp only [bltD] at h
    split at h
    · obtain ⟨v, rfl, r1⟩ := r.one
      cases r1
      exact CallR.wc call_len_str ⟨_, rfl, h.1, Lift.here (.int _) s h.2⟩
    · obtain ⟨v, rfl, r1⟩ := r.one
      obtain ⟨p, us, ys, rfl, hs, r2, q⟩ := seq_ h r1 s
      exact CallR.wc call_len_seq ⟨p, us, rfl, hs, by rw [r2.length]; exact Lift.here (.int _) s q⟩
    · exact h.elim
  case abs =>
    intro ds G Q vs σ H h r s
    simp only [bltD] at h
    split at h
    · obtain ⟨v, rfl, r1⟩ := r.one
      cases r1
      exact CallR.wc call_abs ⟨_, rfl, Lift.here (.int _) s h⟩
    · exact h.elim
  case int =>
    intro ds G Q vs σ H h r s
    simp only [bltD] at h
    split at h
    · obtain ⟨v, rfl, r1⟩ := r.one
      cases r1
      exact CallR.wc call_int1 (.inl ⟨_, rfl, Lift.here (.int _) s h⟩)
    · obtain ⟨v, rfl, r1⟩ := r.one
      cases r1
      exact CallR.wc call_int1 (.inr ⟨_, rfl, Lift.here (.int _) s h⟩)
    · obtain ⟨v, rfl, r1⟩ := r.one
      cases r1
      obtain ⟨n, h1, h2, q⟩ := h
      exact CallR.wc call_int_str ⟨_, n, rfl, h1, h2, Lift.here (.int _) s q⟩
    · exact h.elim
  case str =>
    intro ds G Q vs σ H h r s
    simp only [bltD] at h
    split at h
    · obtain ⟨v, rfl, r1⟩ := r.one
      cases r1
      exact CallR.wc call_str_int ⟨_, rfl, h.1, Lift.here (.str _) s h.2⟩
    · exact h.elim
  case tuple =>
    intro ds G Q vs σ H h r s
    simp only [bltD] at h
    split at h
    · obtain ⟨v, rfl, r1⟩ := r.one
      cases r1 with
      | tup h1 r2 => exact CallR.wc call_tuple_of ⟨_, _, rfl, .inr ⟨h1, Lift.here (.tup h1 r2) s h⟩⟩
    · obtain ⟨v, rfl, r1⟩ := r.one
      obtain ⟨p, us, ys, rfl, hs, r2, q⟩ := lst_ h r1 s
      exact CallR.wc call_tuple_of ⟨p, us, rfl, .inl ⟨hs, fun l hl => lift_tup r2 s q hl⟩⟩
    · exact h.elim
  case list =>
    intro ds G Q vs σ H h r s
    simp only [bltD] at h
    split at h
    · obtain ⟨v, rfl, r1⟩ := r.one
      obtain ⟨p, us, ys, rfl, hs, r2, q⟩ := seq_ h r1 s
      exact CallR.wc call_list_of ⟨p, us, rfl, hs, fun l hl => lift_lst r2 s q hl⟩
    · exact h.elim
  case sum =>
    intro ds G Q vs σ H h r s
    simp only [bltD] at h
    split at h
    · obtain ⟨v, rfl, r1⟩ := r.one
      obtain ⟨p, us, ys, rfl, hs, r2, ns, rfl, q⟩ := lst_ h r1 s
      rw [r2.ints] at hs
      exact CallR.wc (cr_sum (hc rfl)) ⟨p, ns, rfl, hs, Lift.here (.int _) s q⟩
    · exact h.elim
  case max =>
    intro ds G Q vs σ H h r s
    simp only [bltD] at h
    split at h
    · obtain ⟨v, u, rfl, r1, r2⟩ := r.two
      cases r1; cases r2
      exact CallR.wc (call_max2 (hc rfl)) ⟨_, _, rfl, Lift.here (.int _) s h⟩
    · obtain ⟨v, rfl, r1⟩ := r.one
      obtain ⟨p, us, ys, rfl, hs, r2, ns, rfl, hl, q⟩ := lst_ h r1 s
      rw [r2.ints] at hs
      exact CallR.wc (cr_max (hc rfl)) ⟨p, ns, rfl, hs, hl, fun m h1 h2 => Lift.here (.int _) s (q m h1 h2)⟩
    · exact h.elim
  case min =>
    intro ds G Q vs σ H h r s
    simp only [bltD] at h
    split at h
    · obtain ⟨v, u, rfl, r1, r2⟩ := r.two
      cases r1; cases r2
      exact CallR.wc (call_min2 (hc rfl)) ⟨_, _, rfl, Lift.here (.int _) s h⟩
    · obtain ⟨v, rfl, r1⟩ := r.one
      obtain ⟨p, us, ys, rfl, hs, r2, ns, rfl, hl, q⟩ := lst_ h r1 s
      rw [r2.ints] at hs
      exact CallR.wc (cr_min (hc rfl)) ⟨p, ns, rfl, hs, hl, fun m h1 h2 => Lift.here (.int _) s (q m h1 h2)⟩
    · exact h.elim
  case all =>
    intro ds G Q vs σ H h r s
    simp only [bltD] at h
    split at h
    · obtain ⟨v, rfl, r1⟩ := r.one
      obtain ⟨p, us, ys, rfl, hs, r2, ns, rfl, q⟩ := lst_ h r1 s
      rw [r2.bls] at hs
      exact CallR.wc (cr_all (hc rfl)) ⟨p, ns, rfl, hs, Lift.here (.bl _) s q⟩
    · exact h.elim
  case any =>
    intro ds G Q vs σ H h r s
    simp only [bltD] at h
    split at h
    · obtain ⟨v, rfl, r1⟩ := r.one
      obtain ⟨p, us, ys, rfl, hs, r2, ns, rfl, q⟩ := lst_ h r1 s
      rw [r2.bls] at hs
      exact CallR.wc (cr_any (hc rfl)) ⟨p, ns, rfl, hs, Lift.here (.bl _) s q⟩
    · exact h.elim
  case isi =>
    intro ds G Q vs σ H h r s
    simp only [bltD] at h
    split at h
    · obtain ⟨v, u, rfl, r1, r2⟩ := r.two
      cases r2
      obtain ⟨t, ht, b, hb, q⟩ := ty_ h r1 s
      exact CallR.wc call_isi ⟨v, _, _, _, b, rfl, .ty _, ht, kit_ty hb, Lift.here (.bl b) s q⟩
    · exact h.elim
  case sorted =>
    intro ds G Q vs σ H h r s
    simp only [bltD] at h
    split at h
    · obtain ⟨v, rfl, r1⟩ := r.one
      obtain ⟨p, us, ys, rfl, hs, r2, ⟨ns, rfl, hl, q⟩ | ⟨ns, rfl, hl, q⟩⟩ := lst_ h r1 s
      · rw [r2.ints] at hs
        exact CallR.wc cr_sorted ⟨p, ns, rfl, hs, hl, fun ns' p h1 h2 hp => lift_lst (reps_ints ns') s (fun p' g => by
          exact q ns' p' h1 h2 g) hp⟩
      · rw [r2.strs] at hs
        exact CallR.wc cr_sortedS ⟨p, ns, rfl, hs, hl, fun ns' p h1 h2 hp => lift_lst (reps_strs ns') s (fun p' g => by
          exact q ns' p' h1 h2 g) hp⟩
    · exact h.elim
end
end DL
namespace DL
open PySem PySem.Spec PyProof.Rows L2
/-! no stars among the arguments -/
def noStar : Expr → Bool
  | .Starred .. => false
  | _ => true
theorem starEach_cons {e : Expr} {es : List Expr} {env : PySem.Env} (h : noStar e = true) : starEach (e :: es) env = (false, eval e env) :: starEach es env := by
  cases e <;> first | rfl | cases h
theorem starEach_any {env : PySem.Env} : ∀ {es : List Expr}, es.all noStar = true → ∀ pos, (backTo pos (starEach es env)).any (·.1) = false
  | [], _, _ => rfl
  | e :: es, h, pos => by
    rw [List.all_cons, Bool.and_eq_true] at h
    rw [starEach_cons h.1]
    have := starEach_any (env := env) h.2 pos
    unfold backTo at this ⊢
    rw [List.map_cons, List.any_cons, this]
    rfl
theorem starEach_all {env : PySem.Env} : ∀ {es : List Expr}, es.all noStar = true → ∀ pos, (backTo pos (starEach es env)).all (fun x => !x.1) = true
  | [], _, _ => rfl
  | e :: es, h, pos => by
    rw [List.all_cons, Bool.and_eq_true] at h
    rw [starEach_cons h.1]
    have := starEach_all (env := env) h.2 pos
    unfold backTo at this ⊢
    rw [List.map_cons, List.all_cons, this]
    rfl
def baseOk : Expr → Bool
  | .Call (.Name id _) [] [] _ => id != "super"
  | _ => true
theorem base_ok {o : Expr} {attr : Str} {env : PySem.Env} {whole : Sem Value} (h : baseOk o = true) : attributeBase o attr env whole = whole := by
  unfold attributeBase
  split
  · rename_i id p pos
    have e : (id != "super") = true := h
    rw [e]
    simp
  · rfl
section
variable {X : Cx} {e o : Expr} {es : List Expr} {te to : DE} {tas : DA} {p pos apos cpos : Pos}
/-! types by name -/
inductive Tn where
  | int | str | bool | list | tuple | dict
  deriving DecidableEq
def Tn.name : Tn → Str
  | .int => "int" | .str => "str" | .bool => "bool" | .list => "list" | .tuple => "tuple" | .dict => "dict"
def Tn.ty : Tn → String
  | .int => "int" | .str => "str" | .bool => "bool" | .list => "list" | .tuple => "tuple" | .dict => "dict"
theorem Tn.boot (b : Tn) : bootBuiltins b.name = some (.type b.ty) := by
  cases b <;> decide +kernel
theorem Tn.nn (b : Tn) : b.name ≠ "__name__" := by
  cases b <;> decide
theorem Tn.nd (b : Tn) : (b.name == ("__debug__" : Str)) = false := by
  cases b <;> decide
theorem qe_tn {t : Tn} (hg : Gl X t.name) (hm : X.mg t.name = none) : QE X (.Name t.name pos) (dC (.ty t.ty)) := qe_ty hg hm t.boot t.nn t.nd
/-- isinstance(e, (t, ..)) -/
def isNames : List Tn → List Expr → Bool
  | [], [] => true
  | t :: ts, .Name x _ :: es => decide (x = t.name) && isNames ts es
  | _, _ => false
theorem pa_tns : ∀ {ts : List Tn} {es : List Expr}, isNames ts es = true → (∀ t ∈ ts, Gl X t.name ∧ X.mg t.name = none) → PA X es (fun _ H Q => Q (ts.map fun t => V.ty t.ty) H)
  | [], [], _, _ => pa_nil
  | t :: ts, .Name x p :: es, h, hm => by
    unfold isNames at h
    rw [Bool.and_eq_true, decide_eq_true_eq] at h
    obtain ⟨rfl, h⟩ := h
    have h1 := hm t (by simp)
    exact pa_cons (pe_bltn (v := .ty t.ty) h1.1 h1.2 t.boot rfl t.nn t.nd) (pa_tns h fun u hu => hm u (by simp [hu])) rfl
  | [], _ :: _, h, _ => by simp [isNames] at h
  | _ :: _, [], h, _ => by simp [isNames] at h
def kitBs (t : String) : List String → Option Bool
  | [] => some false
  | c :: r => match kitB t c with
    | some true => some true
    | some false => kitBs t r
    | none => none
theorem kitBs_eq {K : PySem.W.Frag} {t : String} : ∀ ns : List String, PySem.W.kitAny K (.type t) (ns.map Value.type) = kitBs t ns
  | [] => rfl
  | c :: r => by
    rw [List.map_cons]
    unfold PySem.W.kitAny kitBs
    rw [show PySem.W.kitOne K (.type t) (.type c) = kitB t c from rfl]
    cases kitB t c with
    | none => rfl
    | some b =>
      cases b with
      | true => rfl
      | false => exact kitBs_eq r
def isiT (ts : List Tn) : DR1 := fun x G Q => tyD x G fun n => ∃ b, kitBs n (ts.map Tn.ty) = some b ∧ Q (.bl b) G
theorem cls_tns : ∀ ts : List Tn, Paired ClsV (ts.map fun t => V.ty t.ty) ((ts.map Tn.ty).map Value.type)
  | [] => .nil
  | t :: ts => .cons (.ty _) (cls_tns ts)
theorem qe_isiT {ts : List Tn} {k : Nat} {tp : Pos} (hg : Gl X "isinstance") (hm : X.mg "isinstance" = none) (he : QE X e te) (hn : noStar e = true) (ht : isNames ts es = true) (hts : ∀ t ∈ ts, Gl X t.name ∧ X.mg t.name = none) (hl : ts.length ≤ 1000) :
    QE X (.Call (.Name "isinstance" p) [e, .Tuple es k tp] [] pos) (dUn (isiT ts) te) := by
  refine ⟨fun ρ G Q xq σ H h rs s tk => ?_⟩
  refine PE.we (pe_callB call_isiT hg hm Bl.isi.boot (pa_cons pe_max (pa_cons (pe_tup (pa_tns ht hts)) pa_nil rfl) (starEach_cons hn)) Bl.isi.nn Bl.isi.nd (starEach_cons hn) rfl) ?_
  refine (he.run ρ G _ xq σ H h rs s tk).imp fun v H1 ⟨x, G1, rx, s1, e1, q1⟩ => ?_
  refine ⟨by rw [List.length_map]; exact Nat.le_of_lt (small1000 hl), fun p hp => ?_⟩
  have s2 : Sim X.K G1 (upd H1 p (.tup (ts.map fun t => V.ty t.ty))) := s1.newT hp
  have e2 : Ext X.K G1 H1 G1 (upd H1 p (.tup (ts.map fun t => V.ty t.ty))) := .newT hp
  obtain ⟨n, hty, b, hb, q⟩ := ty_ q1 (rx.mono e2.tup) s2
  exact ⟨v, p, _, _, _, b, rfl, upd_same, cls_tns ts, hty, by rw [kitBs_eq]; exact hb, .bl b, G1, .bl b, s2, e1.trans e2, q⟩
/-! xs.count(y), data of any depth -/
def rCntD (K : PySem.W.Frag) : V → List V → Hp → VK → Prop := fun x xs H Q => ∃ (a : Addr) (y : V) (d : PyData) (ds : List PyData), x = V.ref a ∧ xs = [y] ∧ Dp K H (V.ref a) (.list ds) ∧ Dp K H y d ∧ SeqAt.shaped (.list ds) = true ∧ SeqAt.shaped d = true ∧ Q (.int ((ds.countP fun z => PyData.eqv z d : Nat))) H
theorem mt_countD {X : Cx} (hu : X.A.units + 65 < cLine) : MtR X "list.count" (rCntD X.K) := by
  intro pins s σ H x xs v us Q I rx rxs h
  obtain ⟨a, y, d, ds, rfl, rfl, hl, hy, sl, sd, q⟩ := h
  cases rx
  cases rxs with
  | cons ry rt =>
    rename_i uy ut
    cases rt
    obtain ⟨bs, r1⟩ := Dp.reads I d y uy hy ry
    have hxs : PyData.canLayAll0 ds = true := SeqAt.canLay_of_shaped sl
    have hroom : X.A.units + 1 + min (PyData.depthAll ds) d.depth < cLine := room_in_shaped sd hu
    cases hl with
    | lst hs ha =>
      obtain ⟨its, rv, ⟨⟨cls, dd, data, sls⟩, n, ho, hc, hdn, hdt⟩, hlen⟩ := I.list hs
      simp only at hc hdt
      subst hc hdt
      obtain ⟨as, h4⟩ := Dp.readsAll I ds _ its ha rv
      have hmap : its.map (SeqAt.readOf s.heap) = ds := SeqAt.readsAll_map ds its as hxs h4
      refine call_meets PySem.F.slot_list_count ⟨_, ho, rfl⟩ PySem.F.entry_list_count (PySem.F.args_list_count_2 _ _)
        (SeqAt.list_countAt a its.toArray n dd sls uy (fun u => PyData.eqv (SeqAt.readOf s.heap u) d)) ⟨ho, SeqAt.items_eqAt (vs := its.toArray) (show ReadsAll s.heap its.toArray.toList ds as from h4) r1 hxs (SeqAt.canLay_of_shaped sd) hroom, ?_⟩
      have ec : its.toArray.toList.countP (fun u => PyData.eqv (SeqAt.readOf s.heap u) d) = ds.countP fun z => PyData.eqv z d := by
        rw [← hmap, List.countP_map]
        rfl
      refine ⟨.int ((ds.countP fun z => PyData.eqv z d : Nat)), H, I.tok _, ⟨s.toks, ?_⟩, q⟩
      show Value.int ((its.toArray.toList.countP (fun u => PyData.eqv (SeqAt.readOf s.heap u) d) : Nat) : Int) s.toks = Value.int ((ds.countP fun z => PyData.eqv z d : Nat) : Int) s.toks
      rw [ec]
/-! methods of built-in types -/
inductive Mt where
  | append | extend | join | upper | index | pop | popAt | insert | clear | starts | rstrip | split | count
  deriving DecidableEq
def Mt.name : Mt → Str
  | .append => "append" | .extend => "extend" | .join => "join" | .upper => "upper" | .index => "index" | .pop => "pop" | .popAt => "pop" | .insert => "insert" | .clear => "clear" | .starts => "startswith" | .rstrip => "rstrip" | .split => "split" | .count => "count"
abbrev DRM := D → List D → Sto → DQ → Prop
def mtD : Mt → DRM
  | .append => fun x ds G Q => match x, ds with
    | .ref a, [y] => ∃ xs, G a = some (.lst xs) ∧ xs.length < sizeLine ∧ Q .non (put G a (.lst (xs ++ [y])))
    | _, _ => False
  | .extend => fun x ds G Q => match x, ds with
    | .ref a, [.ref b] => ∃ xs ys, G a = some (.lst xs) ∧ G b = some (.lst ys) ∧ xs.length + ys.length ≤ sizeLine ∧ Q .non (put G a (.lst (xs ++ ys)))
    | .ref a, [.rl ys] => ∃ xs, G a = some (.lst xs) ∧ xs.length + ys.length ≤ sizeLine ∧ Q .non (put G a (.lst (xs ++ ys)))
    | _, _ => False
  | .join => fun x ds G Q => match x, ds with
    | .str z, [y] => seqD y G fun ys => ∃ ts : List Str, ys = ts.map D.str ∧ (ts.map (·.length)).sum + ts.length * z.length ≤ 16777216 ∧ Q (.str (Txt.join z ts)) G
    | _, _ => False
  | .upper => fun x ds G Q => match x, ds with
    | .str z, [] => z.length ≤ 5592405 ∧ Q (.str (Txt.upper z)) G
    | _, _ => False
  | .index => fun x ds G Q => match x, ds with
    | .ref a, [y] => ∃ (xs : List D) (ps : List PyData) (q z : PyData) (j : Nat), G a = some (.lst xs) ∧ Dds G xs ps ∧ Dd G y q ∧ SeqAt.shaped (.list ps) = true ∧ SeqAt.shaped q = true ∧ ps[j]? = some z ∧ PyData.eqv z q = true ∧
        (∀ (m : Nat) (z' : PyData), m < j → ps[m]? = some z' → PyData.eqv z' q = false) ∧ Q (.int (j : Nat)) G
    | .rl xs, [y] => ∃ (ps : List PyData) (q z : PyData) (j : Nat), Dds G xs ps ∧ Dd G y q ∧ SeqAt.shaped (.list ps) = true ∧ SeqAt.shaped q = true ∧ ps[j]? = some z ∧ PyData.eqv z q = true ∧
        (∀ (m : Nat) (z' : PyData), m < j → ps[m]? = some z' → PyData.eqv z' q = false) ∧ Q (.int (j : Nat)) G
    | _, _ => False
  | .pop => fun x ds G Q => match x, ds with
    | .ref a, [] => ∃ xs y, G a = some (.lst xs) ∧ xs[xs.length - 1]? = some y ∧ Q y (put G a (.lst xs.dropLast))
    | _, _ => False
  | .popAt => fun x ds G Q => match x, ds with
    | .ref a, [.int i] => ∃ (xs : List D) (k : Nat) (y : D), i = (k : Nat) ∧ k < 2 ^ 62 ∧ G a = some (.lst xs) ∧ xs[k]? = some y ∧ Q y (put G a (.lst (xs.eraseIdx k)))
    | _, _ => False
  | .insert => fun x ds G Q => match x, ds with
    | .ref a, [.int i, y] => ∃ xs, G a = some (.lst xs) ∧ xs.length < sizeLine ∧ 0 ≤ i ∧ i < 2 ^ 63 ∧ Q .non (put G a (.lst (xs.take i.toNat ++ [y] ++ xs.drop i.toNat)))
    | _, _ => False
  | .clear => fun x ds G Q => match x, ds with
    | .ref a, [] => ∃ xs, G a = some (.lst xs) ∧ Q .non (put G a (.lst []))
    | _, _ => False
  | .starts => fun x ds G Q => match x, ds with
    | .str a, [.str b] => Q (.bl (Txt.startswith a b)) G
    | _, _ => False
  | .rstrip => fun x ds G Q => match x, ds with
    | .str a, [.str b] => a.length ≤ sizeLine ∧ Q (.str (Txt.rstripChars a b)) G
    | _, _ => False
  | .split => fun x ds G Q => match x, ds with
    | .str a, [.str b] => (b.length == 0) = false ∧ a.length + 2 ≤ sizeLine ∧ ∀ p, G p = none → Q (.ref p) (put G p (.lst ((Txt.split a b).map D.str)))
    | _, _ => False
  | .count => fun x ds G Q => match x, ds with
    | .ref a, [y] => ∃ (xs : List D) (ps : List PyData) (q : PyData), G a = some (.lst xs) ∧ Dds G xs ps ∧ Dd G y q ∧ SeqAt.shaped (.list ps) = true ∧ SeqAt.shaped q = true ∧ Q (.int ((ps.countP fun z => PyData.eqv z q : Nat))) G
    | .rl xs, [y] => ∃ (ps : List PyData) (q : PyData), Dds G xs ps ∧ Dd G y q ∧ SeqAt.shaped (.list ps) = true ∧ SeqAt.shaped q = true ∧ Q (.int ((ps.countP fun z => PyData.eqv z q : Nat))) G
    | _, _ => False
def Mt.ty : Mt → String
  | .append => "list" | .extend => "list" | .join => "str" | .upper => "str" | .index => "list" | .pop => "list" | .popAt => "list" | .insert => "list" | .clear => "list" | .starts => "str" | .rstrip => "str" | .split => "str" | .count => "list"
def Mt.id : Mt → String
  | .append => "list.append" | .extend => "list.extend" | .join => "str.join" | .upper => "str.upper" | .index => "list.index" | .pop => "list.pop" | .popAt => "list.pop" | .insert => "list.insert" | .clear => "list.clear" | .starts => "str.startswith" | .rstrip => "str.rstrip" | .split => "str.split" | .count => "list.count"
theorem Mt.attrs (m : Mt) : PlainAttrs m.ty := by
  cases m <;> first | exact PySem.F.plainAttrs_list | exact PySem.F.plainAttrs_str
theorem Mt.slot (m : Mt) : Slot m.ty m.name m.id := by
  cases m
  · exact PySem.F.slot_list_append
  · exact PySem.F.slot_list_extend
  · exact PySem.F.slot_str_join
  · exact PySem.F.slot_str_upper
  · exact PySem.F.slot_list_index
  · exact PySem.F.slot_list_pop
  · exact PySem.F.slot_list_pop
  · exact PySem.F.slot_list_insert
  · exact PySem.F.slot_list_clear
  · exact PySem.F.slot_str_startswith
  · exact PySem.F.slot_str_rstrip
  · exact PySem.F.slot_str_split
  · exact PySem.F.slot_list_count
theorem Mt.typ (m : Mt) : typeOf (.builtin m.id) = pure (.type "method_descriptor") := by
  cases m
  · exact PySem.F.type_list_append
  · exact PySem.F.type_list_extend
  · exact PySem.F.type_str_join
  · exact PySem.F.type_str_upper
  · exact PySem.F.type_list_index
  · exact PySem.F.type_list_pop
  · exact PySem.F.type_list_pop
  · exact PySem.F.type_list_insert
  · exact PySem.F.type_list_clear
  · exact PySem.F.type_str_startswith
  · exact PySem.F.type_str_rstrip
  · exact PySem.F.type_str_split
  · exact PySem.F.type_list_count
/-- the receiver is of the method's type -/
def recD (t : String) (x : D) (G : Sto) : Prop := match x with
  | .str _ => t = "str"
  | .rl _ => t = "list"
  | .ref a => t = "list" ∧ ∃ ds, G a = some (.lst ds)
  | _ => False
theorem rec_ {K : PySem.W.Frag} {t : String} {x : D} {G : Sto} {v : V} {H : Hp} (h : recD t x G) (r : Rep K H v x) (s : Sim K G H) : tyV K t v H := by
  cases x with
  | str z => cases r; exact h
  | rl ds =>
    cases r with
    | rl h1 r1 => exact .inl ⟨h, _, frz_sq h1⟩
  | ref a =>
    cases r
    obtain ⟨e, ds, g⟩ := h
    obtain ⟨vs, h1, _⟩ := s a _ g
    exact .inl ⟨e, vs, .of h1⟩
  | _ => exact False.elim h
def WM (X : Cx) (id : String) (v : V) (vs : List V) (σ : L2.St) (H : Hp) (R : VK) : Prop :=
  ∀ pins s v' us, Inv X pins σ H s → RelV v v' → Vals vs us → wpAny (model X.prog X.w) X.A (call (.builtin id) (v' :: us)) (EP X pins σ R) X.xe s
theorem mt_max {id : String} : MtR X id (fun v vs H R => ∀ σ, WM X id v vs σ H R) := fun pins s σ H x xs v us Q I rx rs h => h σ pins s v us I rx rs
theorem MtR.wm {id : String} {r : V → List V → Hp → VK → Prop} {v : V} {vs : List V} {σ : L2.St} {H : Hp} {R : VK} (h : MtR X id r) (q : r v vs H R) : WM X id v vs σ H R := fun pins s v' us I rx rs => h pins s σ H v vs v' us R I rx rs q
theorem WM.imp {id : String} {v : V} {vs : List V} {σ : L2.St} {H : Hp} {R R' : VK} (h : WM X id v vs σ H R) (i : ∀ v H', R v H' → R' v H') : WM X id v vs σ H R' :=
  fun pins s v' us I rx rs => thn (h pins s v' us I rx rs) fun _ _ ⟨v, H', I', r, q⟩ => ⟨v, H', I', r, i _ _ q⟩
def MtD (X : Cx) (id : String) (r : DRM) : Prop := ∀ x ds G Q v vs σ H, r x ds G Q → Rep X.K H v x → Reps X.K H vs ds → Sim X.K G H → WM X id v vs σ H (Lift X.K G H Q)
theorem lift_mut {K : PySem.W.Frag} {G : Sto} {H : Hp} {Q : DQ} {a : Addr} {xs : List D} {vs ws : List V} {ys : List D} {v : V} {d : D} (g : G a = some (.lst xs)) (h : H a = some (.lst vs)) (s : Sim K G H) (r : Reps K H ws ys) (rv : Rep K H v d) (q : Q d (put G a (.lst ys))) : Lift K G H Q v (upd H a (.lst ws)) :=
  ⟨d, put G a (.lst ys), rv.mono (tup_mut h rfl), s.mut (c0 := .lst xs) h rfl ⟨ws, upd_same, r.mono (tup_mut h rfl)⟩, .mut g h rfl, q⟩
theorem Reps.dropLast {K : PySem.W.Frag} {H : Hp} {vs : List V} {ds : List D} (h : Reps K H vs ds) : Reps K H vs.dropLast ds.dropLast := by
  rw [List.dropLast_eq_take, List.dropLast_eq_take, h.length]
  exact h.take _
theorem Reps.eraseIdx {K : PySem.W.Frag} {H : Hp} : ∀ {vs : List V} {ds : List D} (i : Nat), Reps K H vs ds → Reps K H (vs.eraseIdx i) (ds.eraseIdx i)
  | _, _, _, .nil => .nil
  | _, _, 0, .cons _ t => t
  | _, _, i + 1, .cons q t => .cons q (Reps.eraseIdx i t)
theorem Reps.zero {K : PySem.W.Frag} {H : Hp} {vs : List V} (h : Reps K H vs []) : vs = [] := by cases h; rfl
theorem mt_extend_rd : MtM X "list.extend" (fun x vs H Q => ∃ l b xs zs, x = .ref l ∧ vs = [.ref b] ∧ H l = some (.lst xs) ∧ Rd H b (.lst zs) ∧ xs.length + zs.length ≤ sizeLine ∧ Q .non (upd H l (.lst (xs ++ zs)))) := by
  intro pins s σ H x vs v us Q I rx rv h
  obtain ⟨l, b, xs, zs, rfl, rfl, hH, hB, hz, q⟩ := h
  cases rx
  obtain ⟨u, rfl, ru⟩ := rv.one
  cases ru
  obtain ⟨z, its, n, r, hl, e⟩ := I.lstM hH
  obtain ⟨z2, its2, n2, r2, e2⟩ := hB.ok I.hok
  have hl2 := r2.length
  have hsz : its.toArray.size + its2.toArray.size ≤ sizeLine := by rw [List.size_toArray, List.size_toArray]; omega
  have hlong : ¬ (!its.toArray.isEmpty && Builtin.List.listTooLong (its.toArray.size + its2.toArray.size)) = true := by
    rw [notLongL hsz, Bool.and_false]
    exact Bool.false_ne_true
  refine call_meets F.slot_list_extend ⟨_, e, rfl⟩ F.entry_list_extend (F.args_list_extend_2 _ _)
    (AutoSeq1.list_extend_list_list_0 l its.toArray n b its2.toArray n2 hlong (by rw [List.size_toArray]; omega) (by omega)) ⟨e, e2, ?_⟩
  exact ⟨.non, _, I.lset (its' := its ++ its2) hH e (by simp) (r.append r2) (by rw [List.length_append]; omega), rfl, q⟩
theorem mt_ok (hu : X.A.units + 65 < cLine) (m : Mt) : MtD X m.id (mtD m) := by
  cases m
  case append =>
    intro x ds G Q v vs σ H h rx rs s
    simp only [mtD] at h
    split at h
    · cases rx
      obtain ⟨xs, g, hl, q⟩ := h
      obtain ⟨u, rfl, r1⟩ := rs.one
      obtain ⟨ws, h1, r2⟩ := s _ _ g
      exact MtR.wm mt_append ⟨_, ws, u, rfl, rfl, h1, by rw [r2.length]; exact hl, lift_mut g h1 s (r2.append (.cons r1 .nil)) .non q⟩
    · exact h.elim
  case extend =>
    intro x ds G Q v vs σ H h rx rs s
    simp only [mtD] at h
    split at h
    · cases rx
      obtain ⟨xs, ys, g, g', hl, q⟩ := h
      obtain ⟨u, rfl, r1⟩ := rs.one
      cases r1
      obtain ⟨ws, h1, r2⟩ := s _ _ g
      obtain ⟨zs, h3, r3⟩ := s _ _ g'
      exact MtR.wm mt_extend ⟨_, _, ws, zs, rfl, rfl, h1, h3, by rw [r2.length, r3.length]; exact hl, lift_mut g h1 s (r2.append r3) .non q⟩
    · cases rx
      obtain ⟨xs, g, hl, q⟩ := h
      obtain ⟨u, rfl, r1⟩ := rs.one
      cases r1 with
      | rl h3 r3 =>
        obtain ⟨ws, h1, r2⟩ := s _ _ g
        exact MtR.wm mt_extend_rd ⟨_, _, ws, _, rfl, rfl, h1, .inr ⟨_, h3⟩, by rw [r2.length, r3.length]; exact hl, lift_mut g h1 s (r2.append r3) .non q⟩
    · exact h.elim
  case join =>
    intro x ds G Q v vs σ H h rx rs s
    simp only [mtD] at h
    split at h
    · cases rx
      obtain ⟨u, rfl, r1⟩ := rs.one
      obtain ⟨p, us, ys, rfl, hs, r2, ts, rfl, hl, q⟩ := seq_ h r1 s
      rw [r2.strs] at hs
      exact MtR.wm mt_join ⟨_, p, ts, rfl, rfl, hs, hl, Lift.here (.str _) s q⟩
    · exact h.elim
  case upper =>
    intro x ds G Q v vs σ H h rx rs s
    simp only [mtD] at h
    split at h
    · cases rx
      rw [rs.zero]
      exact MtR.wm mt_upper ⟨_, rfl, rfl, h.1, Lift.here (.str _) s h.2⟩
    · exact h.elim
  case index =>
    intro x ds G Q v vs σ H h rx rs s
    simp only [mtD] at h
    split at h
    · cases rx
      obtain ⟨u, rfl, r1⟩ := rs.one
      obtain ⟨xs, ps, q, z, j, g, h1, h2, h3, h4, h5, h6, h7, h8⟩ := h
      obtain ⟨ws, h9, r2⟩ := s _ _ g
      exact MtR.wm (mt_indexD hu) ⟨_, u, q, ps, j, z, rfl, rfl, .lst (.of h9) (h1.dp s r2), h2.dp s r1, h3, h4, h5, h6, h7, Lift.here (.int _) s h8⟩
    · cases rx with
      | rl h9 r2 =>
        obtain ⟨u, rfl, r1⟩ := rs.one
        obtain ⟨ps, q, z, j, h1, h2, h3, h4, h5, h6, h7, h8⟩ := h
        exact MtR.wm (mt_indexD hu) ⟨_, u, q, ps, j, z, rfl, rfl, .lst (frz_sq h9) (h1.dp s r2), h2.dp s r1, h3, h4, h5, h6, h7, Lift.here (.int _) s h8⟩
    · exact h.elim
  case pop =>
    intro x ds G Q v vs σ H h rx rs s
    simp only [mtD] at h
    split at h
    · cases rx
      rw [rs.zero]
      obtain ⟨xs, y, g, h1, q⟩ := h
      obtain ⟨ws, h2, r2⟩ := s _ _ g
      obtain ⟨w, h3, r3⟩ := r2.get h1
      exact MtR.wm mt_pop ⟨_, ws, w, rfl, rfl, h2, by rw [r2.length]; exact h3, lift_mut g h2 s r2.dropLast r3 q⟩
    · exact h.elim
  case popAt =>
    intro x ds G Q v vs σ H h rx rs s
    simp only [mtD] at h
    split at h
    · cases rx
      obtain ⟨u, rfl, r1⟩ := rs.one
      cases r1
      obtain ⟨xs, k, y, rfl, hk, g, h1, q⟩ := h
      obtain ⟨ws, h2, r2⟩ := s _ _ g
      obtain ⟨w, h3, r3⟩ := r2.get h1
      have hkl : k < ws.length := by
        cases hh : ws[k]? with
        | none => rw [hh] at h3; cases h3
        | some z => exact (List.getElem?_eq_some_iff.mp hh).1
      refine MtR.wm mt_popAt ⟨_, ws, _, k, w, rfl, rfl, h2, by omega, by omega, ?_, h3, lift_mut g h2 s (r2.eraseIdx k) r3 q⟩
      unfold seqIndex?
      have hk0 : (((k : Nat) : Int) < 0) = False := eq_false (by omega)
      simp [hk0, hkl]
    · exact h.elim
  case insert =>
    intro x ds G Q v vs σ H h rx rs s
    simp only [mtD] at h
    split at h
    · cases rx
      obtain ⟨u, w, rfl, r1, r3⟩ := rs.two
      cases r1
      obtain ⟨xs, g, hl, h0, h1, q⟩ := h
      obtain ⟨ws, h2, r2⟩ := s _ _ g
      exact MtR.wm mt_insert ⟨_, ws, _, w, rfl, rfl, h2, by rw [r2.length]; exact hl, h0, h1, lift_mut g h2 s (((r2.take _).append (.cons r3 .nil)).append (r2.drop _)) .non q⟩
    · exact h.elim
  case clear =>
    intro x ds G Q v vs σ H h rx rs s
    simp only [mtD] at h
    split at h
    · cases rx
      rw [rs.zero]
      obtain ⟨xs, g, q⟩ := h
      obtain ⟨ws, h2, r2⟩ := s _ _ g
      exact MtR.wm mt_clear ⟨_, ws, rfl, rfl, h2, lift_mut g h2 s .nil .non q⟩
    · exact h.elim
  case starts =>
    intro x ds G Q v vs σ H h rx rs s
    simp only [mtD] at h
    split at h
    · cases rx
      obtain ⟨u, rfl, r1⟩ := rs.one
      cases r1
      exact MtR.wm mt_startswith ⟨_, _, rfl, rfl, Lift.here (.bl _) s h⟩
    · exact h.elim
  case rstrip =>
    intro x ds G Q v vs σ H h rx rs s
    simp only [mtD] at h
    split at h
    · cases rx
      obtain ⟨u, rfl, r1⟩ := rs.one
      cases r1
      exact MtR.wm mt_rstripChars ⟨_, _, rfl, rfl, h.1, Lift.here (.str _) s h.2⟩
    · exact h.elim
  case split =>
    intro x ds G Q v vs σ H h rx rs s
    simp only [mtD] at h
    split at h
    · cases rx
      obtain ⟨u, rfl, r1⟩ := rs.one
      cases r1
      exact MtR.wm mt_split ⟨_, _, rfl, rfl, h.1, h.2.1, fun p hp => lift_lst (reps_strs _) s h.2.2 hp⟩
    · exact h.elim
  case count =>
    intro x ds G Q v vs σ H h rx rs s
    simp only [mtD] at h
    split at h
    · cases rx
      obtain ⟨u, rfl, r1⟩ := rs.one
      obtain ⟨xs, ps, q, g, h1, h2, h3, h4, h8⟩ := h
      obtain ⟨ws, h9, r2⟩ := s _ _ g
      exact MtR.wm (mt_countD hu) ⟨_, u, q, ps, rfl, rfl, .lst (.of h9) (h1.dp s r2), h2.dp s r1, h3, h4, Lift.here (.int _) s h8⟩
    · cases rx with
      | rl h9 r2 =>
        obtain ⟨u, rfl, r1⟩ := rs.one
        obtain ⟨ps, q, h1, h2, h3, h4, h8⟩ := h
        exact MtR.wm (mt_countD hu) ⟨_, u, q, ps, rfl, rfl, .lst (frz_sq h9) (h1.dp s r2), h2.dp s r1, h3, h4, Lift.here (.int _) s h8⟩
    · exact h.elim
def dMt (t : String) (r : DRM) (to : DE) (tas : DA) : DE := fun ρ G Q xq => to ρ G (fun x G1 => recD t x G1 ∧ tas ρ G1 (fun ds G2 => r x ds G2 Q) xq) xq
theorem qe_mt {m : Mt} {r : DRM} (hr : MtD X m.id r) (ho : QE X o to) (ha : QA X (e :: es) tas) (hb : baseOk o = true) (hn : (e :: es).all noStar = true) (hl : (e :: es).length < 30) (hline : (apos.endLine == cpos.line) = true) :
    QE X (.Call (.Attribute o m.name apos) (e :: es) [] cpos) (dMt m.ty r to tas) := by
  refine ⟨fun ρ G Q xq σ H h rs s tk => ?_⟩
  have hn2 := hn
  rw [List.all_cons, Bool.and_eq_true] at hn2
  refine PE.we (pe_bm m.attrs m.slot m.typ mt_max pe_max pa_max (base_ok hb) ?_ hline (starEach_cons hn2.1) (starEach_any hn2.2 _)) ?_
  · rw [starEach_all hn cpos]
    simp only [List.length_nil, List.isEmpty_nil, if_true, Nat.add_zero]
    rw [decide_eq_true hl]
    rfl
  · refine (ho.run ρ G _ xq σ H h rs s tk).imp fun v H1 ⟨x, G1, rx, s1, e1, rc, q1⟩ => ⟨rec_ rc rx s1, ?_⟩
    refine (ha.run ρ G1 _ xq σ H1 q1 (rs.mono e1.tup) s1 (tk.step e1)).imp fun vs H2 ⟨ds, G2, r2, s2, e2, q2⟩ => fun σ' => ?_
    exact (hr x ds G2 Q v vs σ' H2 q2 (rx.mono e2.tup) r2 s2).imp (Lift.back (e1.trans e2))
theorem qe_mt0 {m : Mt} {r : DRM} (hr : MtD X m.id r) (ho : QE X o to) (hb : baseOk o = true) (hline : (apos.endLine == cpos.line) = true) :
    QE X (.Call (.Attribute o m.name apos) [] [] cpos) (dMt m.ty r to dNil) := by
  refine ⟨fun ρ G Q xq σ H h rs s tk => ?_⟩
  refine PE.we (pe_bm0 m.attrs m.slot m.typ mt_max pe_max (base_ok hb) hline) ?_
  refine (ho.run ρ G _ xq σ H h rs s tk).imp fun v H1 ⟨x, G1, rx, s1, e1, rc, q1⟩ => ⟨rec_ rc rx s1, fun σ' => ?_⟩
  exact (hr x [] G1 Q v [] σ' H1 q1 rx .nil s1).imp (Lift.back e1)
/-! defs of the text -/
abbrev DSp := List D → Sto → DQ → XQ → Prop
def liftSp (K : PySem.W.Frag) (sp : DSp) : Sp := fun vs H Q E => ∃ ds G Q' xq, Reps K H vs ds ∧ Sim K G H ∧ sp ds G Q' xq ∧ (∀ v H', Lift K G H Q' v H' → Q v H') ∧
  ∀ x cls d G' H', ExnRep K H' cls d x → Sim K G' H' → Ext K G H G' H' → xq x G' → E cls d H'
def Cal (X : Cx) (x : Str) (sp : DSp) : Prop := ∃ (k : Nat) (f : Addr) (fd : FuncData) (ps : List Str) (sp0 : DSp) (dd : List D) (dvs : List V) (dus : List Value),
  FnOk X.prog X.w X.K X.mg X.base (L2N.CX X.prog X.w) k f fd ps (liftSp X.K sp0) ∧ Room k X.A ∧ X.mg x = some (.ref f) ∧ PySem.W.keepIn X.K (.ref f) = true ∧ Binds X.K fd ps dus ∧ Vals dvs dus ∧ (∀ H, Reps X.K H dvs dd) ∧
    ∀ ds G Q xq, sp ds G Q xq → sp0 (ds ++ dd) G Q xq
def dFn (sp : DSp) (t : DA) : DE := fun ρ G Q xq => t ρ G (fun ds G1 => sp ds G1 Q xq) xq
theorem passes_max {σ : L2.St} : PassesAt (L2N.CX X.prog X.w) X σ (fun cls d H' => XW X cls d σ H') := fun pins H s e s' I c => takes_max e s' (L2N.XE.of_call I (fun _ _ _ h => h) c)
theorem qe_fn {x : Str} {sp : DSp} (c : Cal X x sp) (hg : Gl X x) (ha : QA X (e :: es) tas) (hd : (x == ("__debug__" : Str)) = false) (hn : (e :: es).all noStar = true) :
    QE X (.Call (.Name x p) (e :: es) [] pos) (dFn sp tas) := by
  obtain ⟨k, f, fd, ps, sp0, dd, dvs, dus, F, hr, hm, hk, hb, hv, hdd, hsp⟩ := c
  rw [List.all_cons, Bool.and_eq_true] at hn
  refine ⟨fun ρ G Q xq σ H h rs s tk => ?_⟩
  refine PE.we (pe_callSD (E := fun σ cls d H' => XW X cls d σ H') F hr hg hm hk hb hv (fun _ => passes_max) pa_max hd (starEach_cons hn.1) (starEach_any hn.2 _)) ?_
  refine (ha.run ρ G _ xq σ H h rs s tk).imp fun vs H1 ⟨ds, G1, r1, s1, e1, q1⟩ => ?_
  exact ⟨ds ++ dd, G1, Q, xq, r1.append (hdd H1), s1, hsp _ _ _ _ q1, fun v H' l => Lift.back e1 _ _ l, fun z cls d G' H' x1 x2 x3 x4 => tk.ex z cls d G' H' x1 x2 (e1.trans x3) x4⟩
theorem qe_fn0 {x : Str} {sp : DSp} (c : Cal X x sp) (hg : Gl X x) (hd : (x == ("__debug__" : Str)) = false) :
    QE X (.Call (.Name x p) [] [] pos) (dFn sp dNil) := by
  obtain ⟨k, f, fd, ps, sp0, dd, dvs, dus, F, hr, hm, hk, hb, hv, hdd, hsp⟩ := c
  refine ⟨fun ρ G Q xq σ H h rs s tk => ?_⟩
  intro pins s1 I
  refine wpAny_Call_Name_kw (ld_glob I hg hm ?_ hd)
  refine PySem.W.callWith_K0 I.kIn hk (run_fnSD (E := fun σ cls d H' => XW X cls d σ H') (us := []) F hr hb hv passes_max I .nil ?_)
  exact ⟨[] ++ dd, G, Q, xq, Reps.append .nil (hdd H), s, hsp _ _ _ _ h, fun v H' l => l, fun z cls d G' H' x1 x2 x3 x4 => tk.ex z cls d G' H' x1 x2 x3 x4⟩
end
end DL
set_option maxHeartbeats 1000000
/-! zip of a list and a tuple -/
namespace DL
open PySem PySem.Spec PyProof.Rows L2 RZ
section
variable {prog : Program} {w : World} {A : Around} {E : Value → Shared → Prop} {s : Shared}
/-- one turn of the zip; its first part walks a list, its second a tuple -/
theorem zm_item {z TI TO i1 i2 l1 l2 : Addr} {k1 k2 : Nat} {xs ys : Array Value} {x y a b : Value} {Q : Value → Shared → Prop} (D : ZipApart z TI TO i1 i2 l1 l2)
    (hz : IsZip s.heap z TI TO .none) (hTI : IsPair s.heap TI (.ref i1) (.ref i2)) (hTO : IsPair s.heap TO a b)
    (h1 : s.heap.IsListIter i1 l1 k1) (h2 : s.heap.IsTupleIter i2 l2 k2) (hl1 : s.heap.IsList l1 xs) (hl2 : s.heap.IsTuple l2 ys) (hx : xs[k1]? = some x) (hy : ys[k2]? = some y)
    (hQ : ∀ h', IsZip h' z TI TO (rawInt s.heap.objs.size) → IsPair h' TO x y → h'.IsListIter i1 l1 (k1 + 1) → h'.IsTupleIter i2 l2 (k2 + 1) → IsPair h' s.heap.objs.size x y → h'.objs.size = s.heap.objs.size + 1 →
      (∀ c o, c ≠ z → c ≠ TO → c ≠ i1 → c ≠ i2 → s.heap.get? c = some o → h'.get? c = some o) → Q (.ref s.heap.objs.size) { s with heap := h' }) :
    wpAny (model prog w) A (Builtin.«zip.__next__» ⟨[.ref z], []⟩) (fun fin s' => ∃ v, fin = .done (.ret v) ∧ Q v s') E s := by
  show wpAny _ _ (field (.ref z) 2 >>= _) _ _ _
  refine wpAny_bind (wpAny_field hz rfl (x := .bool false) rfl ?_)
  show wpAny _ _ (field (.ref z) 3 >>= _) _ _ _
  refine wpAny_bind (wpAny_field hz rfl (x := .ref TI) rfl ?_)
  refine wpAny_bind (wpAny_seqItems hTI rfl ?_)
  show wpAny _ _ (Builtin.SmallTypes.ownedTupleIsFree (.ref z) >>= _) _ _ _
  refine wpAny_bind ?_
  unfold Builtin.SmallTypes.ownedTupleIsFree
  refine wpAny_bind (wpAny_field hz rfl (x := .none) rfl (wpAny_pure ?_))
  simp only [if_true]
  refine wpAny_bind (wpAny_rule ?_)
  refine wpAny_bind (wpAny_field hz rfl (x := .ref TO) rfl ?_)
  refine wpAny_bind (wpAny_setField_rec hz (by simp) fun ha za sa => ?_)
  replace za : IsZip ha z TI TO .ellipsis := za
  refine wpAny_bind ?_
  simp only [List.zipIdx_cons, List.zipIdx_nil, List.forIn_cons, List.forIn_nil]
  refine wpAny_bind (wpAny_bind (wpAny_onRaise ?_))
  show wpAny _ _ (Builtin.SmallTypes.nextOf (.ref i1) >>= _) _ _ _
  refine wpAny_bind (wpAny_nextOf_list_item (s := { s with heap := ha }) (h1.extBut sa.extBut D.i1z) (hl1.extBut sa.extBut D.l1z) hx fun hb ib sb => wpAny_pure ?_)
  have tb : IsPair hb TO a b := sb.extBut _ _ D.TOi1 (sa.extBut _ _ D.TOz hTO)
  refine wpAny_bind (wpAny_seqItems tb rfl ?_)
  refine wpAny_bind (wpAny_updateSeq_pair tb fun hc tc sc => ?_)
  replace tc : IsPair hc TO x b := tc
  refine wpAny_bind (wpAny_letGo (wpAny_pure ?_))
  refine wpAny_bind (wpAny_bind (wpAny_onRaise ?_))
  show wpAny _ _ (Builtin.SmallTypes.nextOf (.ref i2) >>= _) _ _ _
  refine wpAny_bind (nextOf_tuple_item (((h2.extBut sa.extBut D.i2z).extBut sb.extBut D.i12.symm).extBut sc.extBut D.TOi2.symm)
    (((hl2.extBut sa.extBut D.l2z).extBut sb.extBut D.l2i1).extBut sc.extBut D.l2TO) hy fun hd id sd => wpAny_pure ?_)
  have td : IsPair hd TO x b := sd.extBut _ _ D.TOi2 tc
  refine wpAny_bind (wpAny_seqItems td rfl ?_)
  refine wpAny_bind (wpAny_updateSeq_pair td fun he te se => ?_)
  replace te : IsPair he TO x y := te
  refine wpAny_bind (wpAny_letGo (wpAny_pure (wpAny_pure ?_)))
  refine wpAny_bind (wpAny_seqItems te rfl ?_)
  refine wpAny_bind (wpAny_newTuple ?_)
  have hsz : he.objs.size = s.heap.objs.size := by rw [se.1, sd.1, sc.1, sb.1, sa.1]
  have ze : IsZip he z TI TO .ellipsis := se.extBut _ _ D.TOz.symm (sd.extBut _ _ D.i2z.symm (sc.extBut _ _ D.TOz.symm (sb.extBut _ _ D.i1z.symm za)))
  have ke : ∀ c o, c ≠ z → c ≠ TO → c ≠ i1 → c ≠ i2 → s.heap.get? c = some o → he.get? c = some o := fun c o c1 c2 c3 c4 e =>
    se.extBut _ _ c2 (sd.extBut _ _ c4 (sc.extBut _ _ c2 (sb.extBut _ _ c3 (sa.extBut _ _ c1 e))))
  have i1e : he.IsListIter i1 l1 (k1 + 1) := ((ib.extBut sc.extBut D.TOi1.symm).extBut sd.extBut D.i12).extBut se.extBut D.TOi1.symm
  have i2e : he.IsTupleIter i2 l2 (k2 + 1) := id.extBut se.extBut D.TOi2.symm
  have hzlt : z < he.objs.size := Heap.lt_size ze
  show wpAny _ _ (Builtin.SmallTypes.ownedTupleHandOut (.ref z) (.ref he.objs.size) >>= _) _ _ _
  refine wpAny_bind ?_
  unfold Builtin.SmallTypes.ownedTupleHandOut
  have zf : IsZip (he.push { cls := .type "tuple", data := .seq #[x, y] }) z TI TO .ellipsis := Heap.get?_push_of_some _ ze
  refine wpAny_bind (wpAny_setField_rec zf (by simp) fun hg zg sg => ?_)
  replace zg : IsZip hg z TI TO (rawInt he.objs.size) := zg
  refine wpAny_setField_rec zg (by simp) fun hh zh sh => ?_
  replace zh : IsZip hh z TI TO (rawInt he.objs.size) := zh
  have up : ∀ c o, c ≠ z → he.get? c = some o → hh.get? c = some o := fun c o c1 e => sh.extBut _ _ c1 (sg.extBut _ _ c1 (Heap.get?_push_of_some _ e))
  have th : IsPair hh he.objs.size x y := sh.extBut _ _ (Nat.ne_of_gt hzlt) (sg.extBut _ _ (Nat.ne_of_gt hzlt) (Heap.get?_push_size _ rfl))
  have zs : hh.objs.size = he.objs.size + 1 := by rw [sh.1, sg.1, Heap.size_push]
  rw [hsz] at zh th zs
  refine wpAny_pure ⟨_, rfl, ?_⟩
  show Q (.ref he.objs.size) _
  rw [hsz]
  exact hQ hh zh (up _ _ D.TOz te) (i1e.at fun o e => up _ o D.i1z e) (i2e.at fun o e => up _ o D.i2z e) th zs fun c o c1 c2 c3 c4 e => up c o c1 (ke c o c1 c2 c3 c4 e)
theorem zm_end {z TI TO i1 i2 l1 l2 : Addr} {k1 k2 : Nat} {xs ys : Array Value} {a b : Value} {Q : Fin → Shared → Prop} (hh : A.handled = none) (D : ZipApart z TI TO i1 i2 l1 l2)
    (hz : IsZip s.heap z TI TO .none) (hTI : IsPair s.heap TI (.ref i1) (.ref i2)) (hTO : IsPair s.heap TO a b)
    (h1 : s.heap.IsListIter i1 l1 k1) (h2 : s.heap.IsTupleIter i2 l2 k2) (hl1 : s.heap.IsList l1 xs) (hl2 : s.heap.IsTuple l2 ys) (hend : xs[k1]? = none ∨ ys[k2]? = none)
    (hE : ∀ h' e, (∀ c o, c ≠ z → c ≠ TO → c ≠ i1 → c ≠ i2 → s.heap.get? c = some o → h'.get? c = some o) → (∃ o, h'.get? e = some o ∧ o.cls = .type "StopIteration") → E (.ref e) { s with heap := h' }) :
    wpAny (model prog w) A (Builtin.«zip.__next__» ⟨[.ref z], []⟩) Q E s := by
  show wpAny _ _ (field (.ref z) 2 >>= _) _ _ _
  refine wpAny_bind (wpAny_field hz rfl (x := .bool false) rfl ?_)
  show wpAny _ _ (field (.ref z) 3 >>= _) _ _ _
  refine wpAny_bind (wpAny_field hz rfl (x := .ref TI) rfl ?_)
  refine wpAny_bind (wpAny_seqItems hTI rfl ?_)
  show wpAny _ _ (Builtin.SmallTypes.ownedTupleIsFree (.ref z) >>= _) _ _ _
  refine wpAny_bind ?_
  unfold Builtin.SmallTypes.ownedTupleIsFree
  refine wpAny_bind (wpAny_field hz rfl (x := .none) rfl (wpAny_pure ?_))
  simp only [if_true]
  refine wpAny_bind (wpAny_rule ?_)
  refine wpAny_bind (wpAny_field hz rfl (x := .ref TO) rfl ?_)
  refine wpAny_bind (wpAny_setField_rec hz (by simp) fun ha za sa => ?_)
  replace za : IsZip ha z TI TO .ellipsis := za
  refine wpAny_bind ?_
  simp only [List.zipIdx_cons, List.zipIdx_nil, List.forIn_cons, List.forIn_nil]
  refine wpAny_bind (wpAny_bind (wpAny_onRaise ?_))
  show wpAny _ _ (Builtin.SmallTypes.nextOf (.ref i1) >>= _) _ _ _
  cases hx : xs[k1]? with
  | none =>
    refine wpAny_bind (wpAny_nextOf_list_end (s := { s with heap := ha }) hh (h1.extBut sa.extBut D.i1z) (hl1.extBut sa.extBut D.l1z) hx fun hb e sb he => ?_)
    obtain ⟨oe, hoe, hce⟩ := he
    have zb : IsZip hb z TI TO .ellipsis := sb _ _ D.i1z.symm za
    have hez : e ≠ z := fun x => by subst x; rw [zb] at hoe; cases hoe; simp at hce
    refine wpAny_setField_rec zb (by simp) fun hc _ sc => hE hc e (fun c o c1 _ c3 _ x => sc.extBut _ _ c1 (sb _ _ c3 (sa.extBut _ _ c1 x))) ⟨oe, sc.extBut _ _ hez hoe, hce⟩
  | some x =>
    have hy : ys[k2]? = none := by rcases hend with h | h; rw [hx] at h; cases h; exact h
    refine wpAny_bind (wpAny_nextOf_list_item (s := { s with heap := ha }) (h1.extBut sa.extBut D.i1z) (hl1.extBut sa.extBut D.l1z) hx fun hb ib sb => wpAny_pure ?_)
    have tb : IsPair hb TO a b := sb.extBut _ _ D.TOi1 (sa.extBut _ _ D.TOz hTO)
    refine wpAny_bind (wpAny_seqItems tb rfl ?_)
    refine wpAny_bind (wpAny_updateSeq_pair tb fun hc tc sc => ?_)
    refine wpAny_bind (wpAny_letGo (wpAny_pure ?_))
    refine wpAny_bind (wpAny_bind (wpAny_onRaise ?_))
    show wpAny _ _ (Builtin.SmallTypes.nextOf (.ref i2) >>= _) _ _ _
    refine wpAny_bind (nextOf_tuple_end hh (((h2.extBut sa.extBut D.i2z).extBut sb.extBut D.i12.symm).extBut sc.extBut D.TOi2.symm)
      (((hl2.extBut sa.extBut D.l2z).extBut sb.extBut D.l2i1).extBut sc.extBut D.l2TO) hy fun hd e sd he => ?_)
    obtain ⟨oe, hoe, hce⟩ := he
    have zd : IsZip hd z TI TO .ellipsis := sd _ _ D.i2z.symm (sc.extBut _ _ D.TOz.symm (sb.extBut _ _ D.i1z.symm za))
    have hez : e ≠ z := fun x => by subst x; rw [zd] at hoe; cases hoe; simp at hce
    refine wpAny_setField_rec zd (by simp) fun he _ se => hE he e (fun c o c1 c2 c3 c4 x => se.extBut _ _ c1 (sd _ _ c4 (sc.extBut _ _ c2 (sb.extBut _ _ c3 (sa.extBut _ _ c1 x))))) ⟨oe, se.extBut _ _ hez hoe, hce⟩
theorem zm_next {z TI TO i1 i2 l1 l2 : Addr} {k1 k2 : Nat} {xs ys : Array Value} {x y a b : Value} {Q : Option Value → Shared → Prop} (D : ZipApart z TI TO i1 i2 l1 l2)
    (hz : IsZip s.heap z TI TO .none) (hTI : IsPair s.heap TI (.ref i1) (.ref i2)) (hTO : IsPair s.heap TO a b)
    (h1 : s.heap.IsListIter i1 l1 k1) (h2 : s.heap.IsTupleIter i2 l2 k2) (hl1 : s.heap.IsList l1 xs) (hl2 : s.heap.IsTuple l2 ys) (hx : xs[k1]? = some x) (hy : ys[k2]? = some y)
    (hQ : ∀ h', IsZip h' z TI TO (rawInt s.heap.objs.size) → IsPair h' TO x y → h'.IsListIter i1 l1 (k1 + 1) → h'.IsTupleIter i2 l2 (k2 + 1) → IsPair h' s.heap.objs.size x y → h'.objs.size = s.heap.objs.size + 1 →
      (∀ c o, c ≠ z → c ≠ TO → c ≠ i1 → c ≠ i2 → s.heap.get? c = some o → h'.get? c = some o) → Q (some (.ref s.heap.objs.size)) { s with heap := h' }) :
    wpAny (model prog w) A (pyNext (.ref z)) Q E s := by
  have hT : s.TypeIs (.ref z) "zip" := ⟨_, hz, rfl⟩
  unfold pyNext
  exact wpAny_bind (wpAny_attempt (wpAny_callSpecial?_slot (name := Str.ofString "__next__") hT F.slot_zip_next
    (wpAny_call_entry F.slot_zip_next hT F.entry_zip_next
      (zm_item D hz hTI hTO h1 h2 hl1 hl2 hx hy fun h' a1 a2 a3 a4 a5 a6 a7 => wpAny_pure (hQ h' a1 a2 a3 a4 a5 a6 a7)) (F.args_zip_next_1 _))))
theorem zm_stop {z TI TO i1 i2 l1 l2 : Addr} {k1 k2 : Nat} {xs ys : Array Value} {a b : Value} {Q : Option Value → Shared → Prop} (hh : A.handled = none) (D : ZipApart z TI TO i1 i2 l1 l2)
    (hz : IsZip s.heap z TI TO .none) (hTI : IsPair s.heap TI (.ref i1) (.ref i2)) (hTO : IsPair s.heap TO a b)
    (h1 : s.heap.IsListIter i1 l1 k1) (h2 : s.heap.IsTupleIter i2 l2 k2) (hl1 : s.heap.IsList l1 xs) (hl2 : s.heap.IsTuple l2 ys) (hend : xs[k1]? = none ∨ ys[k2]? = none)
    (hQ : ∀ h', (∀ c o, c ≠ z → c ≠ TO → c ≠ i1 → c ≠ i2 → s.heap.get? c = some o → h'.get? c = some o) → Q none { s with heap := h' }) : wpAny (model prog w) A (pyNext (.ref z)) Q E s := by
  have hT : s.TypeIs (.ref z) "zip" := ⟨_, hz, rfl⟩
  unfold pyNext
  refine wpAny_bind (wpAny_attempt (wpAny_callSpecial?_slot (name := Str.ofString "__next__") hT F.slot_zip_next
    (wpAny_call_entry F.slot_zip_next hT F.entry_zip_next (zm_end hh D hz hTI hTO h1 h2 hl1 hl2 hend fun h' e hk he => ?_) (F.args_zip_next_1 _))))
  obtain ⟨o, ho, hc⟩ := he
  refine wpAny_bind (wpAny_isInstance (T := "StopIteration") (b := true) ⟨o, ho, hc⟩ isSubtype_stop ?_)
  exact wpAny_pure (hQ _ hk)
end
abbrev zmA (h : Heap) (l1 : Addr) : Heap := h.push { cls := .type "list_iterator", data := .fields #[.ref l1, .int 0 0] }
abbrev zmB (h : Heap) (l1 l2 : Addr) : Heap := (zmA h l1).push { cls := .type "tuple_iterator", data := .fields #[.ref l2, .int 0 0] }
abbrev zmC (h : Heap) (l1 l2 : Addr) : Heap := (zmB h l1 l2).push { cls := .type "tuple", data := .seq #[.ref h.objs.size, .ref (zmA h l1).objs.size] }
abbrev zmD (h : Heap) (l1 l2 : Addr) : Heap := (zmC h l1 l2).push { cls := .type "tuple", data := .seq #[.none, .none] }
abbrev zmE (h : Heap) (l1 l2 : Addr) : Heap := (zmD h l1 l2).push { cls := .type "zip", data := .fields #[.none, .bool false, .bool false, .ref (zmB h l1 l2).objs.size, .ref (zmC h l1 l2).objs.size] }
theorem zm_new (l1 l2 : Addr) (xs ys : Array Value) :
    Meets (Builtin.«zip.__new__» ⟨[.type "zip", .ref l1, .ref l2], []⟩) (fun _ R s => s.heap.IsList l1 xs ∧ s.heap.IsTuple l2 ys ∧
      R (.ok (.ret (.ref (zmD s.heap l1 l2).objs.size))) { s with heap := zmE s.heap l1 l2 }) :=
  .of_wp fun prog w A R s h => by
    obtain ⟨hp, g, d, tk, os⟩ := s; obtain ⟨hl1, hl2, h⟩ := h
    have hsub := sub_zip
    have hL1 : Heap.IsList (Shared.heap ⟨hp, g, d, tk, os⟩) l1 xs := hl1
    have hL2 : Heap.IsTuple (Shared.heap ⟨hp.push { cls := .type "list_iterator", data := .fields #[.ref l1, .int 0 0] }, g, d, tk, os⟩) l2 ys := Heap.IsTuple.push hl2 _
    wp_walk using wpAny_pyIter_list hL1, wpAny_pyIter_tuple hL2
    exact ⟨_, rfl, h⟩
section
variable {prog : Program} {w : World} {A : Around} {E : Value → Shared → Prop} {s : Shared}
theorem call_zm {l1 l2 : Addr} {xs ys : Array Value} {Q : Value → Shared → Prop} (hl1 : s.heap.IsList l1 xs) (hl2 : s.heap.IsTuple l2 ys)
    (h : ∀ h', IsZip h' (s.heap.objs.size + 4) (s.heap.objs.size + 2) (s.heap.objs.size + 3) .none → IsPair h' (s.heap.objs.size + 2) (.ref s.heap.objs.size) (.ref (s.heap.objs.size + 1)) →
      IsPair h' (s.heap.objs.size + 3) .none .none → h'.IsListIter s.heap.objs.size l1 0 → h'.IsTupleIter (s.heap.objs.size + 1) l2 0 → h'.objs.size = s.heap.objs.size + 5 →
      (∀ c o, s.heap.get? c = some o → h'.get? c = some o) → Q (.ref (s.heap.objs.size + 4)) { s with heap := h' }) :
    wpAny (model prog w) A (call (.type "zip") [.ref l1, .ref l2]) Q E s := by
  refine callType_new F.called_zip (by decide) (F.typeCall_zip_2 _ _) (F.newCall_zip_2 _ _) (fun obj => F.args_object_init_3 obj _ _) F.entry_zip_new
    (zm_new l1 l2 xs ys) ⟨hl1, hl2, ?_⟩
  have z1 : (zmA s.heap l1).objs.size = s.heap.objs.size + 1 := Heap.size_push ..
  have z2 : (zmB s.heap l1 l2).objs.size = s.heap.objs.size + 2 := by rw [Heap.size_push, z1]
  have z3 : (zmC s.heap l1 l2).objs.size = s.heap.objs.size + 3 := by rw [Heap.size_push, z2]
  have z4 : (zmD s.heap l1 l2).objs.size = s.heap.objs.size + 4 := by rw [Heap.size_push, z3]
  have z5 : (zmE s.heap l1 l2).objs.size = s.heap.objs.size + 5 := by rw [Heap.size_push, z4]
  have g5 : (zmE s.heap l1 l2).get? (zmD s.heap l1 l2).objs.size = some _ := Heap.get?_push_size _ rfl
  have g4 : (zmE s.heap l1 l2).get? (zmC s.heap l1 l2).objs.size = some _ := Heap.get?_push_of_some _ (Heap.get?_push_size _ rfl)
  have g3 : (zmE s.heap l1 l2).get? (zmB s.heap l1 l2).objs.size = some _ := Heap.get?_push_of_some _ (Heap.get?_push_of_some _ (Heap.get?_push_size _ rfl))
  have g2 : (zmE s.heap l1 l2).get? (zmA s.heap l1).objs.size = some _ := Heap.get?_push_of_some _ (Heap.get?_push_of_some _ (Heap.get?_push_of_some _ (Heap.get?_push_size _ rfl)))
  have g1 : (zmE s.heap l1 l2).get? s.heap.objs.size = some _ := Heap.get?_push_of_some _ (Heap.get?_push_of_some _ (Heap.get?_push_of_some _ (Heap.get?_push_of_some _ (Heap.get?_push_size _ rfl))))
  show _ ∧ _
  rw [z2, z3, z4] at g5
  rw [z1, z2] at g3
  rw [z3] at g4
  rw [z1] at g2
  rw [z4]
  exact ⟨⟨_, g5, rfl⟩, h _ g5 g3 g4 ⟨_, g1, rfl, rfl⟩ ⟨_, g2, rfl, rfl⟩ z5 fun c o x =>
    Heap.get?_push_of_some _ (Heap.get?_push_of_some _ (Heap.get?_push_of_some _ (Heap.get?_push_of_some _ (Heap.get?_push_of_some _ x))))⟩
end
/-- the list at a and the tuple at b as they stand at each turn -/
def ItzM (K : PySem.W.Frag) (a b : Addr) : It :=
  ⟨fun i H => ∃ (xs ys : List V) (x y : V), SqL K H a xs ∧ SqT K H b ys ∧ xs[i]? = some x ∧ ys[i]? = some y,
    fun i H v H' => ∃ T x y, v = .ref T ∧ H T = none ∧ H' = upd H T (.tup [x, y]) ∧ (∀ xs, SqL K H a xs → xs[i]? = some x) ∧ ∀ ys, SqT K H b ys → ys[i]? = some y,
    fun i H => ∃ xs ys : List V, SqL K H a xs ∧ SqT K H b ys ∧ (xs.length ≤ i ∨ ys.length ≤ i)⟩
theorem turn_zm {P : Program} {w : World} {K : PySem.W.Frag} {elts : List Expr} {kk : Nat} {tpos : Pos} {a b z TI TO i1 i2 : Addr} (D : ZipApart z TI TO i1 i2 a b) :
    Turn P w K (.Tuple elts kk tpos) (ItzM K a b) [z, TI, TO, i1, i2] z (fun i h => IsZip h z TI TO .none ∧ IsPair h TI (.ref i1) (.ref i2) ∧ (∃ x y, IsPair h TO x y) ∧ h.IsListIter i1 a i ∧ h.IsTupleIter i2 b i) where
  mem := by simp
  obj := fun i h st c hc => by
    obtain ⟨hz, hTI, ⟨x, y, hTO⟩, ⟨o1, e1, _, d1⟩, ⟨o2, e2, _, d2⟩⟩ := st
    have e' : c = z ∨ c = TI ∨ c = TO ∨ c = i1 ∨ c = i2 := by simpa using hc
    rcases e' with q | q | q | q | q
    · rw [q]; exact ⟨_, hz, fun v q => nomatch q⟩
    · rw [q]; exact ⟨_, hTI, fun v q => nomatch q⟩
    · rw [q]; exact ⟨_, hTO, fun v q => nomatch q⟩
    · rw [q]; exact ⟨o1, e1, fun v q => by rw [d1] at q; cases q⟩
    · rw [q]; exact ⟨o2, e2, fun v q => by rw [d2] at q; cases q⟩
  keep := fun i h h' st k => by
    obtain ⟨hz, hTI, ⟨x, y, hTO⟩, h1, h2⟩ := st
    exact ⟨k z (by simp) _ hz, k TI (by simp) _ hTI, ⟨x, y, k TO (by simp) _ hTO⟩, h1.at fun o q => k i1 (by simp) o q, h2.at fun o q => k i2 (by simp) o q⟩
  item := by
    intro X hP hw hK hc i pins s σ H E I hf st hg
    subst hP hw hK
    obtain ⟨hz, hTI, ⟨x0, y0, hTO⟩, h1, h2⟩ := st
    obtain ⟨xs, ys, x, y, hqx, hqy, hx, hy⟩ := hg
    obtain ⟨its, rv, p, _⟩ := I.list hqx
    obtain ⟨its2, rv2, p2, _⟩ := I.tuple hqy
    obtain ⟨u, hu, ru⟩ := rv.get hx
    obtain ⟨u2, hu2, ru2⟩ := rv2.get hy
    have hzl : z < s.heap.objs.size := Heap.lt_size hz
    refine zm_next D hz hTI hTO h1 h2 p.isList p2 (x := u) (y := u2) (by simpa using hu) (by simpa using hu2) fun h' z' TO' h1' h2' hT hsz hk => ?_
    refine ⟨_, rfl, wpAny_letOwnedTupleGo_zip (s := { s with heap := h' }) z' fun h'' z'' sb => ?_⟩
    have hT2 : h''.get? s.heap.objs.size = some { cls := .type "tuple", data := .seq #[u, u2] } := (sb.2 _ (Nat.ne_of_gt hzl)).trans hT
    have new : ObjOk X.prog X.w (upd H s.heap.objs.size (.tup [x, y])) h'' s.heap.objs.size (.tup [x, y]) :=
      ⟨by show 2 ≤ sizeLine; decide, [u, u2], .cons ru (.cons ru2 .nil), ⟨_, hT2, rfl, _, rfl⟩⟩
    have I1 : Inv X pins σ (upd H s.heap.objs.size (.tup [x, y])) { s with heap := h'' } :=
      I.turnedNew (t' := s.toks) (ch := [z, TI, TO, i1, i2]) (fun c o hb q => (sb.2 c (fun q' => hb (by simp [q']))).trans (hk c o (fun q' => hb (by simp [q'])) (fun q' => hb (by simp [q'])) (fun q' => hb (by simp [q'])) (fun q' => hb (by simp [q'])) q)) hf (Nat.le_refl _) new
    refine ⟨.ref s.heap.objs.size, _, I1, rfl, ⟨_, x, y, rfl, I.hok.fresh (Nat.le_refl _), rfl, fun l hl => by rw [I.list_inj hl hqx]; exact hx, fun l hl => by rw [I.tuple_inj hl hqy]; exact hy⟩, ⟨z'', ?_, ⟨u, u2, ?_⟩, ?_, ?_⟩, fun c hcm => ?_⟩
    · exact (sb.2 _ D.TIz).trans (hk _ _ D.TIz D.TITO D.TIi1 D.TIi2 hTI)
    · exact (sb.2 _ D.TOz).trans TO'
    · exact h1'.at fun o q => (sb.2 _ D.i1z).trans q
    · exact h2'.at fun o q => (sb.2 _ D.i2z).trans q
    · have hlt : c < s.heap.objs.size := by
        have e' : c = z ∨ c = TI ∨ c = TO ∨ c = i1 ∨ c = i2 := by simpa using hcm
        rcases e' with q | q | q | q | q
        · rw [q]; exact hzl
        · rw [q]; exact Heap.lt_size hTI
        · rw [q]; exact Heap.lt_size hTO
        · rw [q]; obtain ⟨_, e1, _⟩ := h1; exact Heap.lt_size e1
        · rw [q]; obtain ⟨_, e2, _⟩ := h2; exact Heap.lt_size e2
      rw [upd_ne (Nat.ne_of_lt hlt)]
      exact (hf c hcm).1
  done := by
    intro X hP hw hK hc i pins s σ H E I hf st hg
    subst hP hw hK
    obtain ⟨hz, hTI, ⟨x0, y0, hTO⟩, h1, h2⟩ := st
    obtain ⟨xs, ys, hqx, hqy, hend⟩ := hg
    obtain ⟨its, rv, p, _⟩ := I.list hqx
    obtain ⟨its2, rv2, p2, _⟩ := I.tuple hqy
    have l1 := rv.length
    have l2 := rv2.length
    have he : its.toArray[i]? = none ∨ its2.toArray[i]? = none := by
      rcases hend with q | q
      · exact .inl (by simp; omega)
      · exact .inr (by simp; omega)
    exact zm_stop (I.ok.hd hc) D hz hTI hTO h1 h2 p.isList p2 he fun h' hk => ⟨rfl, I.turnedL (t' := s.toks) (ch := [z, TI, TO, i1, i2]) (fun c o hb q =>
      hk c o (fun q' => hb (by simp [q'])) (fun q' => hb (by simp [q'])) (fun q' => hb (by simp [q'])) (fun q' => hb (by simp [q'])) q) hf⟩
  self := fun A i s Q E st h => wpAny_pyIter_zip st.1 h
/-- zip of two lists, of two tuples, of a list and a tuple -/
def iZipM (K : PySem.W.Frag) (ta : TA) : TI := fun σ H R => ta σ H fun vs H1 => ∃ a b xs ys, vs = [.ref a, .ref b] ∧ ((SqL K H1 a xs ∧ SqL K H1 b ys ∧ R (Itz K a b) H1) ∨ (SqT K H1 a xs ∧ SqT K H1 b ys ∧ R (ItzT K a b) H1) ∨ (SqL K H1 a xs ∧ SqT K H1 b ys ∧ R (ItzM K a b) H1))
theorem pi_zipM {X : Cx} {e e2 : Expr} {ta : TA} {p pos tpos : Pos} {elts : List Expr} {kk : Nat} (hg : Gl X "zip") (hm : X.mg "zip" = none) (ha : PA X [e, e2] ta)
    (hs : starEach [e, e2] X.env = (false, eval e X.env) :: starEach [e2] X.env := by rfl) (hpl : (backTo pos (starEach [e2] X.env)).any (·.1) = false := by rfl) :
    PI X (.Tuple elts kk tpos) (.Call (.Name "zip" p) [e, e2] [] pos) (iZipM X.K ta) := by
  refine ⟨fun pins s σ H R I h => ?_⟩
  refine Call_ (ld_blt I hg hm PyProof.Rows.boot_zip (PyProof.Rows.callWith_type1 (thn (ha.run pos pins s σ H _ I h) fun us s1 ⟨vs, H1, I1, r1, q1⟩ => ?_) hs hpl))
  obtain ⟨a, b, xs, ys, ex, q1⟩ := q1
  subst ex
  cases r1 with
  | cons r rr =>
    cases rr with
    | cons r' rr =>
      cases rr
      cases r
      cases r'
      have fresh5 : ∀ c, c ∈ [s1.heap.objs.size + 4, s1.heap.objs.size + 2, s1.heap.objs.size + 3, s1.heap.objs.size, s1.heap.objs.size + 1] → FpOk X pins H1 c := fun c hcm => by
        have hle : s1.heap.objs.size ≤ c := by
          simp only [List.mem_cons, List.not_mem_nil, or_false] at hcm
          rcases hcm with z | z | z | z | z <;> rw [z] <;> omega
        exact I1.fpOk hle (I1.hok.fresh hle)
      rcases q1 with ⟨hqx, hqy, q⟩ | ⟨hqx, hqy, q⟩ | ⟨hqx, hqy, q⟩
      · obtain ⟨its, rv, p1, _⟩ := I1.list hqx
        obtain ⟨its2, rv2, p2, _⟩ := I1.list hqy
        refine call_zip_2 p1.isList p2.isList fun h' hz hTI hTO h1 h2 hsz hk => wpAny_pyIter_zip hz ?_
        have I2 : Inv X pins σ H1 { s1 with heap := h' } := I1.kept (t' := s1.toks) hk
        exact ⟨s1.heap.objs.size + 4, _, _, _, H1, rfl, I2, turn_zip (PySem.W.ktu_apart s1.heap.objs.size a b p1.lt p2.lt), ⟨hz, hTI, ⟨_, _, hTO⟩, h1, h2⟩, fresh5, q⟩
      · obtain ⟨its, rv, p1, _⟩ := I1.tuple hqx
        obtain ⟨its2, rv2, p2, _⟩ := I1.tuple hqy
        obtain ⟨o1, ho1, _⟩ := id p1
        obtain ⟨o2, ho2, _⟩ := id p2
        refine call_zipT (show s1.heap.IsTuple a its.toArray from p1) (show s1.heap.IsTuple b its2.toArray from p2) fun h' hz hTI hTO h1 h2 hsz hk => wpAny_pyIter_zip hz ?_
        have I2 : Inv X pins σ H1 { s1 with heap := h' } := I1.kept (t' := s1.toks) hk
        exact ⟨s1.heap.objs.size + 4, _, _, _, H1, rfl, I2, turn_zipT (PySem.W.ktu_apart s1.heap.objs.size a b (Heap.lt_size ho1) (Heap.lt_size ho2)), ⟨hz, hTI, ⟨_, _, hTO⟩, h1, h2⟩, fresh5, q⟩
      · obtain ⟨its, rv, p1, _⟩ := I1.list hqx
        obtain ⟨its2, rv2, p2, _⟩ := I1.tuple hqy
        obtain ⟨o2, ho2, _⟩ := id p2
        refine call_zm p1.isList (show s1.heap.IsTuple b its2.toArray from p2) fun h' hz hTI hTO h1 h2 hsz hk => wpAny_pyIter_zip hz ?_
        have I2 : Inv X pins σ H1 { s1 with heap := h' } := I1.kept (t' := s1.toks) hk
        exact ⟨s1.heap.objs.size + 4, _, _, _, H1, rfl, I2, turn_zm (PySem.W.ktu_apart s1.heap.objs.size a b p1.lt (Heap.lt_size ho2)), ⟨hz, hTI, ⟨_, _, hTO⟩, h1, h2⟩, fresh5, q⟩
end DL
namespace DL
open PySem PySem.Spec PyProof.Rows L2
/-! enumerate over a tuple -/
set_option maxHeartbeats 1000000 in
theorem en_new {u : Value} {ob : Obj} {HH : Heap → Prop} (Bg : Begins u ob HH) :
    Meets (Builtin.«enumerate.__new__» ⟨[.type "enumerate", u], []⟩) (fun _ R s => HH s.heap ∧
      R (.ok (.ret (.ref (s.heap.push ob).objs.size))) { s with heap := (s.heap.push ob).push { cls := .type "enumerate", data := .fields #[.none, .bool false, .ref s.heap.objs.size, rawInt 0, .none, .none] } }) :=
  .of_wp fun P w Ar R s0 hyp => by
    obtain ⟨hp, gg, dd, tk, os⟩ := s0
    obtain ⟨hh1, hyp⟩ := hyp
    have hsub := sub_enumerate
    have q0 : ∀ {A' : Around} {E' : Value → Shared → Prop} {Q' : Value → Shared → Prop}, Q' (.ref hp.objs.size) ⟨hp.push ob, gg, dd, tk, os⟩ → wpAny (model P w) A' (pyIter u) Q' E' ⟨hp, gg, dd, tk, os⟩ :=
      fun q => Bg.iter P w _ _ ⟨hp, gg, dd, tk, os⟩ _ hh1 q
    wp_walk using q0
    refine wpAny_stack_any fun st0 => wpAny_pure ?_
    split
    · rename_i k0 _ _ _ _ _
      cases (k0 == Value.type "enumerate")
      · wp_walk using q0
        exact ⟨_, rfl, hyp⟩
      · wp_walk using q0
        exact ⟨_, rfl, hyp⟩
    · wp_walk using q0
      exact ⟨_, rfl, hyp⟩
theorem en_call {P : Program} {w : World} {Ar : Around} {E : Value → Shared → Prop} {s : Shared} {u : Value} {ob : Obj} {HH : Heap → Prop} {Q : Value → Shared → Prop} (Bg : Begins u ob HH) (h1 : HH s.heap)
    (h : ∀ h', IsEnum h' (s.heap.objs.size + 1) s.heap.objs.size 0 .none → h'.get? s.heap.objs.size = some ob → h'.objs.size = s.heap.objs.size + 2 → (∀ b o, s.heap.get? b = some o → h'.get? b = some o) → Q (.ref (s.heap.objs.size + 1)) { s with heap := h' }) :
    wpAny (model P w) Ar (call (.type "enumerate") [u]) Q E s := by
  refine callType_new F.called_enumerate (by decide) (F.typeCall_enumerate_1 _) (F.newCall_enumerate_1 _) (fun obj => F.args_object_init_2 obj _) F.entry_enumerate_new (en_new Bg) ⟨h1, ?_⟩
  have hz1 : (s.heap.push ob).objs.size = s.heap.objs.size + 1 := Heap.size_push ..
  show _ ∧ _
  rw [hz1]
  have he : IsEnum ((s.heap.push ob).push { cls := .type "enumerate", data := .fields #[.none, .bool false, .ref s.heap.objs.size, rawInt 0, .none, .none] }) (s.heap.objs.size + 1) s.heap.objs.size 0 .none := by
    have e := Heap.get?_push_size (s.heap.push ob) (o := { cls := .type "enumerate", data := .fields #[.none, .bool false, .ref s.heap.objs.size, rawInt 0, .none, .none] }) rfl
    rw [hz1] at e
    exact e
  exact ⟨⟨_, he, rfl⟩, h _ he (Heap.get?_push_of_some _ (Heap.get?_push_size _ Bg.free)) (by rw [Heap.size_push, hz1]) fun b o x => Heap.get?_push_of_some _ (Heap.get?_push_of_some _ x)⟩
/-- the tuple at a, each item in a new pair -/
def Itet (K : PySem.W.Frag) (a : Addr) : It :=
  ⟨fun i H => ∃ (xs : List V) (x : V), SqT K H a xs ∧ xs[i]? = some x, fun i H v H' => ∃ T x, v = .ref T ∧ H T = none ∧ H' = upd H T (.tup [.int (i : Nat), x]) ∧ ∀ xs, SqT K H a xs → xs[i]? = some x, fun i H => ∃ xs : List V, SqT K H a xs ∧ xs.length ≤ i⟩
theorem turn_enumT {P : Program} {w : World} {K : PySem.W.Frag} {elts : List Expr} {kk : Nat} {tpos : Pos} (a e it : Addr) (hae : a ≠ e) (hai : a ≠ it) :
    Turn P w K (.Tuple elts kk tpos) (Itet K a) [e, it] e (fun i h => (∃ old, IsEnum h e it ((i : Nat) : Int) old) ∧ h.IsTupleIter it a i ∧ e ≠ it) where
  mem := by simp
  obj := fun i h st b hb => by
    obtain ⟨⟨old, he⟩, ⟨o, ho, hc, hd⟩, _⟩ := st
    have e2 : b = e ∨ b = it := by simpa using hb
    rcases e2 with z | z
    · rw [z]; exact ⟨_, he, fun v q => nomatch q⟩
    · rw [z]; exact ⟨o, ho, fun v q => by rw [hd] at q; cases q⟩
  keep := fun i h h' st k => by
    obtain ⟨⟨old, he⟩, hi, hne⟩ := st
    exact ⟨⟨old, k e (by simp) _ he⟩, hi.at fun o q => k it (by simp) o q, hne⟩
  item := by
    intro X eP ew eK hc i pins s σ H E I hf st hg
    subst eP ew eK
    obtain ⟨⟨old, he⟩, hit, hne⟩ := st
    obtain ⟨xs, x, hq, hx⟩ := hg
    obtain ⟨its, rv, p, hz⟩ := I.tuple hq
    obtain ⟨u, hu, ru⟩ := rv.get hx
    have hel : e < s.heap.objs.size := Heap.lt_size he
    have hil : it < s.heap.objs.size := by obtain ⟨_, q, _⟩ := hit; exact Heap.lt_size q
    have hlt : i < its.toArray.size := by
      have := (List.getElem?_eq_some_iff.mp hu).1
      simpa using this
    refine wpAny_pyNext_enum_itemD (Draws.tuple (A := X.A.in1) (I.ok.hd hc) it a hai its.toArray) he ⟨hit, p⟩ hlt hne (by simp [hne, hae.symm]) fun y h' tk hy ho hst hT hsz hk => ?_
    have ey : y = u := by
      have h1 : its.toArray[i]? = some u := by simpa using hu
      rw [h1] at hy
      exact (Option.some.inj hy).symm
    subst ey
    refine ⟨_, rfl, wpAny_letOwnedTupleGo_enum (s := { s with heap := h', toks := tk + 1 }) ho fun h'' he' sb => ?_⟩
    have hT2 : h''.get? s.heap.objs.size = some { cls := .type "tuple", data := .seq #[.int i tk, y] } := (sb.2 _ (Nat.ne_of_gt hel)).trans hT
    have nw : ObjOk X.prog X.w (upd H s.heap.objs.size (.tup [.int (i : Nat), x])) h'' s.heap.objs.size (.tup [.int (i : Nat), x]) :=
      ⟨by show 2 ≤ sizeLine; decide, [.int i tk, y], .cons ⟨_, rfl⟩ (.cons ru .nil), ⟨_, hT2, rfl, _, rfl⟩⟩
    have I1 : Inv X pins σ (upd H s.heap.objs.size (.tup [.int (i : Nat), x])) { s with heap := h'', toks := tk + 1 } :=
      I.turnedNew (ch := [e, it]) (fun b ob hb q => (sb.2 b (fun z => hb (by simp [z]))).trans (hk b ob (fun z => hb (by simp [z])) (fun z => hb (by simp [z])) q)) hf (Nat.le_refl _) nw
    refine ⟨.ref s.heap.objs.size, _, I1, rfl, ⟨_, x, rfl, I.hok.fresh (Nat.le_refl _), rfl, fun ys hy => by rw [I.tuple_inj hy hq]; exact hx⟩, ⟨⟨y, ?_⟩, hst.1.at fun o q => (sb.2 it (Ne.symm hne)).trans q, hne⟩, fun b hb => ?_⟩
    · have e1 : ((i + 1 : Nat) : Int) = (i : Int) + 1 := by omega
      rw [e1]
      exact he'
    · have hb' : b < s.heap.objs.size := by
        have e2 : b = e ∨ b = it := by simpa using hb
        rcases e2 with z | z
        · rw [z]; exact hel
        · rw [z]; exact hil
      rw [upd_ne (Nat.ne_of_lt hb')]
      exact (hf b hb).1
  done := by
    intro X eP ew eK hc i pins s σ H E I hf st hg
    subst eP ew eK
    obtain ⟨⟨old, he⟩, hit, hne⟩ := st
    obtain ⟨xs, hq, hx⟩ := hg
    obtain ⟨its, rv, p, hz⟩ := I.tuple hq
    obtain ⟨f0, f1, f2, f3, f4, f5⟩ := hf it (by simp)
    have hl := rv.length
    have nx : its.toArray[i]? = none := by
      rw [List.getElem?_toArray]
      exact List.getElem?_eq_none (by omega)
    have hT : s.TypeIs (.ref e) "enumerate" := ⟨_, he, rfl⟩
    unfold pyNext
    refine wpAny_bind (wpAny_attempt (wpAny_callSpecial?_slot (name := Str.ofString "__next__") hT F.slot_enumerate_next (wpAny_call_entry F.slot_enumerate_next hT F.entry_enumerate_next ?_ (F.args_enumerate_next_1 _))))
    show wpAny _ _ (field (.ref e) 2 >>= _) _ _ _
    refine wpAny_bind (wpAny_field he rfl (x := .ref it) rfl ?_)
    refine wpAny_bind (wpAny_nextOf_tuple_end (I.ok.hd hc) hit p nx fun h' x eb hx' => ?_)
    obtain ⟨o, ho, hc2⟩ := hx'
    refine wpAny_bind (wpAny_isInstance (T := "StopIteration") (b := true) ⟨o, ho, hc2⟩ isSubtype_stop ?_)
    exact wpAny_pure ⟨rfl, I.turned (t' := s.toks) (fun b o hb q => eb b o hb q) f0 f1 f3 f4 f5⟩
  self := fun A i s Q E st h => by
    obtain ⟨⟨_, he⟩, _⟩ := st
    exact wpAny_pyIter_enum he h
theorem pi_enB {X : Cx} {e : Expr} {ta : TA} {p pos tpos : Pos} {elts : List Expr} {kk : Nat} (hg : Gl X "enumerate") (hm : X.mg "enumerate" = none) (ha : PA X [e] ta) (hs : starEach [e] X.env = [(false, eval e X.env)]) :
    PI X (.Tuple elts kk tpos) (.Call (.Name "enumerate" p) [e] [] pos) (fun σ H R => ta σ H fun vs H1 => (∃ a xs, vs = [.ref a] ∧ SqL X.K H1 a xs ∧ R (Ite X.K a) H1) ∨ ∃ a xs, vs = [.ref a] ∧ SqT X.K H1 a xs ∧ R (Itet X.K a) H1) := by
  refine ⟨fun pins s σ H R I h => ?_⟩
  refine Call_ (ld_blt I hg hm boot_enumerate (PyProof.Rows.callWith_type1 (thn (ha.run pos pins s σ H _ I h) fun us s1 ⟨vs, H1, I1, r1, q1⟩ => ?_) hs rfl))
  have hle : ∀ b, b ∈ [s1.heap.objs.size + 1, s1.heap.objs.size] → s1.heap.objs.size ≤ b := fun b hb => by
    have e' : b = s1.heap.objs.size + 1 ∨ b = s1.heap.objs.size := by simpa using hb
    rcases e' with z | z
    · rw [z]; exact Nat.le_succ _
    · rw [z]; exact Nat.le_refl _
  rcases q1 with ⟨a, xs, ex, hq, q⟩ | ⟨a, xs, ex, hq, q⟩
  · subst ex
    cases r1 with
    | cons r rr =>
      cases rr
      cases r
      obtain ⟨its, rv, p', hz⟩ := I1.list hq
      refine call_enumerate_list p'.isList fun h' he hit hsz hk => wpAny_pyIter_enum he ?_
      have I2 : Inv X pins σ H1 { s1 with heap := h' } := I1.kept (t' := s1.toks) hk
      exact ⟨s1.heap.objs.size + 1, [s1.heap.objs.size + 1, s1.heap.objs.size], _, _, H1, rfl, I2, turn_enum a (s1.heap.objs.size + 1) s1.heap.objs.size, ⟨⟨.none, he⟩, hit, Nat.succ_ne_self _⟩, fun b hb => I1.fpOk (hle b hb) (I1.hok.fresh (hle b hb)), q⟩
  · subst ex
    cases r1 with
    | cons r rr =>
      cases rr
      cases r
      obtain ⟨its, rv, p', hz⟩ := I1.tuple hq
      have hlt : a < s1.heap.objs.size := by obtain ⟨o, ho, _⟩ := p'; exact Heap.lt_size ho
      refine en_call (begins_tuple a its.toArray) p' fun h' he hit hsz hk => wpAny_pyIter_enum he ?_
      have I2 : Inv X pins σ H1 { s1 with heap := h' } := I1.kept (t' := s1.toks) hk
      exact ⟨s1.heap.objs.size + 1, [s1.heap.objs.size + 1, s1.heap.objs.size], _, _, H1, rfl, I2, turn_enumT a (s1.heap.objs.size + 1) s1.heap.objs.size (Nat.ne_of_lt (Nat.lt_succ_of_lt hlt)) (Nat.ne_of_lt hlt), ⟨⟨.none, he⟩, ⟨_, hit, rfl, rfl⟩, Nat.succ_ne_self _⟩, fun b hb => I1.fpOk (hle b hb) (I1.hok.fresh (hle b hb)), q⟩
end DL
namespace DL
open PySem PySem.Spec PyProof.Rows L2 RZ
/-! what is walked; H0: where it began -/
structure ItRep (K : PySem.W.Frag) (H0 : Hp) (J : It) (items : List D) (keep : Sto → Prop) : Prop where
  go : ∀ (i : Nat) G H, TupExt K H0 H → Sim K G H → keep G → i < items.length → J.go i H
  stop : ∀ (i : Nat) G H, TupExt K H0 H → Sim K G H → keep G → items.length ≤ i → J.stop i H
  yld : ∀ (i : Nat) G H x H', TupExt K H0 H → Sim K G H → keep G → i < items.length → J.yld i H x H' → ∃ d, items[i]? = some d ∧ Rep K H' x d ∧ Sim K G H' ∧ Ext K G H G H'
abbrev IQ := List D → (Sto → Prop) → Sto → Prop
abbrev DI := Ev → Sto → IQ → XQ → Prop
def WI (X : Cx) (tg iter : Expr) : TI := fun σ H R => ∀ pins s, Inv X pins σ H s → wpAny (model X.prog X.w) X.A (eval iter X.env) (fun v s1 => wpAny (model X.prog X.w) X.A (pyIter v) (PIE X pins σ tg R) X.xe s1) X.xe s
def LiftI (K : PySem.W.Frag) (G : Sto) (H : Hp) (R : IQ) : It → Hp → Prop := fun J H' => ∃ items keep G', ItRep K H' J items keep ∧ Sim K G' H' ∧ Ext K G H G' H' ∧ R items keep G'
structure QI (X : Cx) (tg iter : Expr) (t : DI) : Prop where
  run : ∀ ρ G R xq σ H, t ρ G R xq → RepS X.K H σ ρ → Sim X.K G H → Tk X σ G H xq → WI X tg iter σ H (LiftI X.K G H R)
section
variable {X : Cx} {tg iter e a b : Expr} {te ta tb : DE} {es : List Expr} {tas : DA} {p pos : Pos}
theorem pi_max : PI X tg iter (WI X tg iter) := ⟨fun pins s σ H R I h => h pins s I⟩
theorem PI.wi {t : TI} {σ : L2.St} {H : Hp} {R : It → Hp → Prop} (h : PI X tg iter t) (q : t σ H R) : WI X tg iter σ H R := fun pins s I => h.run pins s σ H R I q
def keepL (a : Addr) (ds : List D) : Sto → Prop := fun G => G a = some (.lst ds)
theorem keepL_ {K : PySem.W.Frag} {a : Addr} {ds : List D} {G : Sto} {H : Hp} (k : keepL a ds G) (s : Sim K G H) : ∃ vs, SqL K H a vs ∧ Reps K H vs ds := by
  obtain ⟨vs, h, r⟩ := s a _ k
  exact ⟨vs, .of h, r⟩
theorem it_list {K : PySem.W.Frag} {H0 : Hp} {a : Addr} {ds : List D} : ItRep K H0 (Itl K a) ds (keepL a ds) where
  go := fun i G H _ s k hi => by
    obtain ⟨vs, h, r⟩ := keepL_ k s
    obtain ⟨v, hv, _⟩ := r.get (List.getElem?_eq_getElem hi)
    exact ⟨vs, v, h, hv⟩
  stop := fun i G H _ s k hi => by
    obtain ⟨vs, h, r⟩ := keepL_ k s
    exact ⟨vs, h, by rw [r.length]; exact hi⟩
  yld := fun i G H x H' _ s k hi y => by
    obtain ⟨vs, h, r⟩ := keepL_ k s
    obtain ⟨rfl, hy⟩ := y
    obtain ⟨d, hd, rd⟩ := r.getV (hy vs h)
    exact ⟨d, hd, rd, s, .refl⟩
theorem it_tup {K : PySem.W.Frag} {H0 : Hp} {a : Addr} {vs : List V} {ds : List D} (h : SqT K H0 a vs) (r : Reps K H0 vs ds) : ItRep K H0 (Itt K a) ds (fun _ => True) where
  go := fun i G H t s k hi => by
    obtain ⟨v, hv, _⟩ := r.get (List.getElem?_eq_getElem hi)
    exact ⟨vs, v, t.t _ _ h, hv⟩
  stop := fun i G H t s k hi => ⟨vs, t.t _ _ h, by rw [r.length]; exact hi⟩
  yld := fun i G H x H' t s k hi y => by
    obtain ⟨rfl, hy⟩ := y
    obtain ⟨d, hd, rd⟩ := r.getV (hy vs (t.t _ _ h))
    exact ⟨d, hd, rd.mono t, s, .refl⟩
theorem it_rl {K : PySem.W.Frag} {H0 : Hp} {a : Addr} {o : Obj} {vs : List V} {ds : List D} (h : H0 a = some (.frz o (.lst vs))) (r : Reps K H0 vs ds) : ItRep K H0 (Itl K a) ds (fun _ => True) where
  go := fun i G H t s k hi => by
    obtain ⟨v, hv, _⟩ := r.get (List.getElem?_eq_getElem hi)
    exact ⟨vs, v, frz_sq (t.d _ _ _ h), hv⟩
  stop := fun i G H t s k hi => ⟨vs, frz_sq (t.d _ _ _ h), by rw [r.length]; exact hi⟩
  yld := fun i G H x H' t s k hi y => by
    obtain ⟨rfl, hy⟩ := y
    obtain ⟨d, hd, rd⟩ := r.getV (hy vs (frz_sq (t.d _ _ _ h)))
    exact ⟨d, hd, rd.mono t, s, .refl⟩
def rangeD (lo : Int) (n : Nat) : List D := (List.range n).map fun i => D.int (lo + (i : Nat))
theorem rangeD_len (lo : Int) (n : Nat) : (rangeD lo n).length = n := by unfold rangeD; simp
theorem it_range {K : PySem.W.Frag} {H0 : Hp} {lo : Int} {n : Nat} : ItRep K H0 (Itr lo n) (rangeD lo n) (fun _ => True) where
  go := fun i G H _ s k hi => by
    rw [rangeD_len] at hi
    exact hi
  stop := fun i G H _ s k hi => by
    rw [rangeD_len] at hi
    exact hi
  yld := fun i G H x H' _ s k hi y => by
    obtain ⟨rfl, rfl⟩ := y
    rw [rangeD_len] at hi
    exact ⟨_, by unfold rangeD; simp [hi], .int _, s, .refl⟩
theorem it_str {K : PySem.W.Frag} {H0 : Hp} {z : Str} : ItRep K H0 (Its z) (z.cps.toList.map fun c => D.str ⟨#[c]⟩) (fun _ => True) where
  go := fun i G H _ s k hi => by
    have h : i < z.cps.size := by simpa using hi
    exact h
  stop := fun i G H _ s k hi => by
    have h : z.cps.size ≤ i := by simpa using hi
    exact h
  yld := fun i G H x H' _ s k hi y => by
    obtain ⟨rfl, c, hc, rfl⟩ := y
    exact ⟨.str ⟨#[c]⟩, by rw [List.getElem?_map, Array.getElem?_toList, hc]; rfl, .str _, s, .refl⟩
/-- a list, a tuple or a text, by itself -/
def iterD (d : D) (G : Sto) (R : IQ) : Prop := match d with
  | .tup ds => R ds (fun _ => True) G
  | .ref a => ∃ ds, G a = some (.lst ds) ∧ R ds (keepL a ds) G
  | .rl ds => R ds (fun _ => True) G
  | .str z => R (z.cps.toList.map fun c => D.str ⟨#[c]⟩) (fun _ => True) G
  | _ => False
def dIter (t : DE) : DI := fun ρ G R xq => t ρ G (fun d G1 => iterD d G1 R) xq
theorem PI.or {t t' : TI} (h : PI X tg iter t) (h' : PI X tg iter t') : PI X tg iter (fun σ H R => t σ H R ∨ t' σ H R) := ⟨fun pins s σ H R I q => by
  rcases q with q | q
  · exact h.run pins s σ H R I q
  · exact h'.run pins s σ H R I q⟩
/-- what pyIter makes of a value -/
def WIv (X : Cx) (tg : Expr) (v : V) (σ : L2.St) (H : Hp) (R : It → Hp → Prop) : Prop := ∀ pins s v', Inv X pins σ H s → RelV v v' → wpAny (model X.prog X.w) X.A (pyIter v') (PIE X pins σ tg R) X.xe s
theorem pi_any : PI X tg e (fun σ H R => WE X e σ H fun v H1 => WIv X tg v σ H1 R) := ⟨fun pins s σ H R I h => thn (h pins s I) fun v s1 ⟨x, H1, I1, r1, q1⟩ => q1 pins s1 v I1 r1⟩
/-- the second half of the rules of HandS -/
theorem iv_list {a : Addr} {vs : List V} {σ : L2.St} {H : Hp} {R : It → Hp → Prop} (h : SqL X.K H a vs) (q : R (Itl X.K a) H) : WIv X tg (.ref a) σ H R := fun pins s v' I r => by
  cases r
  obtain ⟨its, rv, p, hz⟩ := I.list h
  refine wpAny_pyIter_list p.isList ?_
  refine ⟨s.heap.objs.size, [s.heap.objs.size], _, _, H, rfl, I.kept (t' := s.toks) fun b o e => Heap.get?_push_of_some _ e, turn_list a _, ⟨_, Heap.get?_push_size _ rfl, rfl, rfl⟩, fun b hb => ?_, q⟩
  have e : b = s.heap.objs.size := by simpa using hb
  subst e
  exact I.fpOk (Nat.le_refl _) (I.hok.fresh (Nat.le_refl _))
theorem iv_tup {a : Addr} {vs : List V} {σ : L2.St} {H : Hp} {R : It → Hp → Prop} (h : SqT X.K H a vs) (q : R (Itt X.K a) H) : WIv X tg (.ref a) σ H R := fun pins s v' I r => by
  cases r
  obtain ⟨its, rv, p, hz⟩ := I.tuple h
  refine wpAny_pyIter_tuple (show s.heap.IsTuple a its.toArray from p) ?_
  refine ⟨s.heap.objs.size, [s.heap.objs.size], _, _, H, rfl, I.kept (t' := s.toks) fun b o e => Heap.get?_push_of_some _ e, turn_tuple a _, ⟨_, Heap.get?_push_size _ rfl, rfl, rfl⟩, fun b hb => ?_, q⟩
  have e : b = s.heap.objs.size := by simpa using hb
  subst e
  exact I.fpOk (Nat.le_refl _) (I.hok.fresh (Nat.le_refl _))
theorem iv_str {z : Str} {σ : L2.St} {H : Hp} {R : It → Hp → Prop} (q : R (Its z) H) : WIv X tg (.str z) σ H R := fun pins s v' I r => by
  obtain ⟨t, rfl⟩ := r
  cases ha : z.cps.all (· < 128)
  · exact wpAny_pyIter_wide ha (pi_one (tk := s.toks) I _ (turn_str _ z t "str_iterator" (.inr rfl)) ⟨_, Heap.get?_push_size _ rfl, rfl, rfl⟩ q)
  · exact wpAny_pyIter_ascii ha (pi_one (tk := s.toks) I _ (turn_str _ z t "str_ascii_iterator" (.inl rfl)) ⟨_, Heap.get?_push_size _ rfl, rfl, rfl⟩ q)
theorem qi_it (he : QE X e te) : QI X tg e (dIter te) := by
  refine ⟨fun ρ G R xq σ H h rs s tk => ?_⟩
  refine PI.wi pi_any ((he.run ρ G _ xq σ H h rs s tk).imp fun v H1 ⟨x, G1, rx, s1, e1, q1⟩ => ?_)
  have q1 : iterD x G1 R := q1
  unfold iterD at q1
  split at q1
  · cases rx with
    | tup h1 r1 => exact iv_tup h1 ⟨_, _, G1, it_tup h1 r1, s1, e1, q1⟩
  · cases rx
    obtain ⟨ds, hg, q⟩ := q1
    obtain ⟨vs, h1, r1⟩ := keepL_ hg s1
    exact iv_list h1 ⟨_, _, G1, it_list, s1, e1, q⟩
  · cases rx with
    | rl h1 r1 => exact iv_list (frz_sq h1) ⟨_, _, G1, it_rl h1 r1, s1, e1, q1⟩
  · cases rx
    exact iv_str ⟨_, _, G1, it_str, s1, e1, q1⟩
  · exact q1.elim
/-! range -/
def rng1 (ds : List D) (G : Sto) (R : IQ) : Prop := match ds with
  | [.int j] => -(2 ^ 62) ≤ j ∧ j < 2 ^ 62 ∧ R (rangeD 0 j.toNat) (fun _ => True) G
  | _ => False
def rng2 (ds : List D) (G : Sto) (R : IQ) : Prop := match ds with
  | [.int i, .int j] => (-(2 ^ 62) ≤ i ∧ i < 2 ^ 62 ∧ -(2 ^ 62) ≤ j ∧ j < 2 ^ 62) ∧ R (rangeD i (j - i).toNat) (fun _ => True) G
  | _ => False
def dItA (r : List D → Sto → IQ → Prop) (t : DA) : DI := fun ρ G R xq => t ρ G (fun ds G1 => r ds G1 R) xq
theorem qi_rng1 (hg : Gl X "range") (hm : X.mg "range" = none) (ha : QA X [a] tas) (hn : noStar a = true) : QI X tg (.Call (.Name "range" p) [a] [] pos) (dItA rng1 tas) := by
  refine ⟨fun ρ G R xq σ H h rs s tk => ?_⟩
  refine PI.wi (pi_range1 hg hm pa_max (starEach_cons hn)) ((ha.run ρ G _ xq σ H h rs s tk).imp fun vs H1 ⟨ds, G1, r1, s1, e1, q1⟩ => ?_)
  have q1 : rng1 ds G1 R := q1
  unfold rng1 at q1
  split at q1
  · obtain ⟨v, rfl, rv⟩ := r1.one
    cases rv
    exact ⟨_, rfl, q1.1, q1.2.1, _, _, G1, it_range, s1, e1, q1.2.2⟩
  · exact q1.elim
theorem qi_rng2 (hg : Gl X "range") (hm : X.mg "range" = none) (ha : QA X [a, b] tas) (hn : noStar a = true) (hn2 : noStar b = true) : QI X tg (.Call (.Name "range" p) [a, b] [] pos) (dItA rng2 tas) := by
  refine ⟨fun ρ G R xq σ H h rs s tk => ?_⟩
  refine PI.wi (pi_range2 hg hm pa_max (by rw [starEach_cons hn, starEach_cons hn2]; rfl) (starEach_cons hn2)) ((ha.run ρ G _ xq σ H h rs s tk).imp fun vs H1 ⟨ds, G1, r1, s1, e1, q1⟩ => ?_)
  have q1 : rng2 ds G1 R := q1
  unfold rng2 at q1
  split at q1
  · obtain ⟨v, u, rfl, rv, ru⟩ := r1.two
    cases rv; cases ru
    exact ⟨_, _, rfl, q1.1, _, _, G1, it_range, s1, e1, q1.2⟩
  · exact q1.elim
/-! enumerate of a list -/
def enumD (ds : List D) : List D := ds.mapIdx fun i d => D.tup [.int (i : Nat), d]
theorem enumD_len (ds : List D) : (enumD ds).length = ds.length := by unfold enumD; simp
theorem it_enum {K : PySem.W.Frag} {H0 : Hp} {a : Addr} {ds : List D} : ItRep K H0 (Ite K a) (enumD ds) (keepL a ds) where
  go := fun i G H _ s k hi => by
    rw [enumD_len] at hi
    obtain ⟨vs, h, r⟩ := keepL_ k s
    obtain ⟨v, hv, _⟩ := r.get (List.getElem?_eq_getElem hi)
    exact ⟨vs, v, h, hv⟩
  stop := fun i G H _ s k hi => by
    rw [enumD_len] at hi
    obtain ⟨vs, h, r⟩ := keepL_ k s
    exact ⟨vs, h, by rw [r.length]; exact hi⟩
  yld := fun i G H x H' _ s k hi y => by
    obtain ⟨vs, h, r⟩ := keepL_ k s
    obtain ⟨T, z, rfl, hT, rfl, hy⟩ := y
    obtain ⟨d, hd, rd⟩ := r.getV (hy vs h)
    refine ⟨.tup [.int (i : Nat), d], ?_, .tup (.of upd_same) (.cons (.int _) (.cons (rd.mono (tup_new hT)) .nil)), s.newT hT, .newT hT⟩
    unfold enumD
    rw [List.getElem?_mapIdx, hd]
    rfl
theorem it_enumT {K : PySem.W.Frag} {H0 : Hp} {a : Addr} {vs : List V} {ds : List D} (h0 : SqT K H0 a vs) (r0 : Reps K H0 vs ds) : ItRep K H0 (Itet K a) (enumD ds) (fun _ => True) where
  go := fun i G H t s k hi => by
    rw [enumD_len] at hi
    obtain ⟨v, hv, _⟩ := r0.get (List.getElem?_eq_getElem hi)
    exact ⟨vs, v, t.t _ _ h0, hv⟩
  stop := fun i G H t s k hi => by
    rw [enumD_len] at hi
    exact ⟨vs, t.t _ _ h0, by rw [r0.length]; exact hi⟩
  yld := fun i G H x H' t s k hi y => by
    obtain ⟨T, z, rfl, hT, rfl, hy⟩ := y
    obtain ⟨d, hd, rd⟩ := r0.getV (hy vs (t.t _ _ h0))
    refine ⟨.tup [.int (i : Nat), d], ?_, .tup (.of upd_same) (.cons (.int _) (.cons ((rd.mono t).mono (tup_new hT)) .nil)), s.newT hT, .newT hT⟩
    unfold enumD
    rw [List.getElem?_mapIdx, hd]
    rfl
theorem it_enumV {K : PySem.W.Frag} {H0 : Hp} {a : Addr} {o : Obj} {vs : List V} {ds : List D} (h0 : H0 a = some (.frz o (.lst vs))) (r0 : Reps K H0 vs ds) : ItRep K H0 (Ite K a) (enumD ds) (fun _ => True) where
  go := fun i G H t s k hi => by
    rw [enumD_len] at hi
    obtain ⟨v, hv, _⟩ := r0.get (List.getElem?_eq_getElem hi)
    exact ⟨vs, v, frz_sq (t.d _ _ _ h0), hv⟩
  stop := fun i G H t s k hi => by
    rw [enumD_len] at hi
    exact ⟨vs, frz_sq (t.d _ _ _ h0), by rw [r0.length]; exact hi⟩
  yld := fun i G H x H' t s k hi y => by
    obtain ⟨T, z, rfl, hT, rfl, hy⟩ := y
    obtain ⟨d, hd, rd⟩ := r0.getV (hy vs (frz_sq (t.d _ _ _ h0)))
    refine ⟨.tup [.int (i : Nat), d], ?_, .tup (.of upd_same) (.cons (.int _) (.cons ((rd.mono t).mono (tup_new hT)) .nil)), s.newT hT, .newT hT⟩
    unfold enumD
    rw [List.getElem?_mapIdx, hd]
    rfl
def enm (ds : List D) (G : Sto) (R : IQ) : Prop := match ds with
  | [.ref a] => ∃ xs, G a = some (.lst xs) ∧ R (enumD xs) (keepL a xs) G
  | [.tup xs] => R (enumD xs) (fun _ => True) G
  | [.rl xs] => R (enumD xs) (fun _ => True) G
  | _ => False
theorem qi_enum {elts : List Expr} {kk : Nat} {tpos : Pos} (hg : Gl X "enumerate") (hm : X.mg "enumerate" = none) (ha : QA X [a] tas) (hn : noStar a = true) : QI X (.Tuple elts kk tpos) (.Call (.Name "enumerate" p) [a] [] pos) (dItA enm tas) := by
  refine ⟨fun ρ G R xq σ H h rs s tk => ?_⟩
  have two : PI X (.Tuple elts kk tpos) (.Call (.Name "enumerate" p) [a] [] pos) (fun σ H R => WA X [a] σ H fun vs H1 => (∃ a xs, vs = [.ref a] ∧ SqL X.K H1 a xs ∧ R (Ite X.K a) H1) ∨ ∃ a xs, vs = [.ref a] ∧ SqT X.K H1 a xs ∧ R (Itet X.K a) H1) := pi_enB hg hm pa_max (starEach_cons hn)
  refine PI.wi two ((ha.run ρ G _ xq σ H h rs s tk).imp fun vs H1 ⟨ds, G1, r1, s1, e1, q1⟩ => ?_)
  have q1 : enm ds G1 R := q1
  unfold enm at q1
  split at q1
  · obtain ⟨v, rfl, rv⟩ := r1.one
    cases rv
    obtain ⟨xs, hg, q⟩ := q1
    obtain ⟨vs, h1, r2⟩ := keepL_ hg s1
    exact .inl ⟨_, vs, rfl, h1, _, _, G1, it_enum, s1, e1, q⟩
  · obtain ⟨v, rfl, rv⟩ := r1.one
    cases rv with
    | tup h1 r2 => exact .inr ⟨_, _, rfl, h1, _, _, G1, it_enumT h1 r2, s1, e1, q1⟩
  · obtain ⟨v, rfl, rv⟩ := r1.one
    cases rv with
    | rl h1 r2 => exact .inl ⟨_, _, rfl, frz_sq h1, _, _, G1, it_enumV h1 r2, s1, e1, q1⟩
  · exact q1.elim
/-! zip of two lists, of two tuples -/
def zipD (xs ys : List D) : List D := List.zipWith (fun x y => D.tup [x, y]) xs ys
theorem zipD_len (xs ys : List D) : (zipD xs ys).length = min xs.length ys.length := by unfold zipD; rw [List.length_zipWith]
theorem it_zip {K : PySem.W.Frag} {H0 : Hp} {a b : Addr} {xs ys : List D} : ItRep K H0 (Itz K a b) (zipD xs ys) (fun G => keepL a xs G ∧ keepL b ys G) where
  go := fun i G H _ s k hi => by
    rw [zipD_len] at hi
    obtain ⟨vs, h, r⟩ := keepL_ k.1 s
    obtain ⟨us, h', r'⟩ := keepL_ k.2 s
    obtain ⟨v, hv, _⟩ := r.get (List.getElem?_eq_getElem (show i < xs.length by omega))
    obtain ⟨u, hu, _⟩ := r'.get (List.getElem?_eq_getElem (show i < ys.length by omega))
    exact ⟨vs, us, v, u, h, h', hv, hu⟩
  stop := fun i G H _ s k hi => by
    rw [zipD_len] at hi
    obtain ⟨vs, h, r⟩ := keepL_ k.1 s
    obtain ⟨us, h', r'⟩ := keepL_ k.2 s
    refine ⟨vs, us, h, h', ?_⟩
    rw [r.length, r'.length]
    omega
  yld := fun i G H x H' _ s k hi y => by
    obtain ⟨vs, h, r⟩ := keepL_ k.1 s
    obtain ⟨us, h', r'⟩ := keepL_ k.2 s
    obtain ⟨T, z, z', rfl, hT, rfl, hy, hy'⟩ := y
    obtain ⟨d, hd, rd⟩ := r.getV (hy vs h)
    obtain ⟨d', hd', rd'⟩ := r'.getV (hy' us h')
    refine ⟨.tup [d, d'], ?_, .tup (.of upd_same) (.cons (rd.mono (tup_new hT)) (.cons (rd'.mono (tup_new hT)) .nil)), s.newT hT, .newT hT⟩
    unfold zipD
    rw [List.getElem?_zipWith, hd, hd']
theorem it_zipT {K : PySem.W.Frag} {H0 : Hp} {a b : Addr} {vs us : List V} {xs ys : List D} (h0 : SqT K H0 a vs) (r : Reps K H0 vs xs) (h0' : SqT K H0 b us) (r' : Reps K H0 us ys) : ItRep K H0 (ItzT K a b) (zipD xs ys) (fun _ => True) where
  go := fun i G H t s k hi => by
    rw [zipD_len] at hi
    obtain ⟨v, hv, _⟩ := r.get (List.getElem?_eq_getElem (show i < xs.length by omega))
    obtain ⟨u, hu, _⟩ := r'.get (List.getElem?_eq_getElem (show i < ys.length by omega))
    exact ⟨vs, us, v, u, t.t _ _ h0, t.t _ _ h0', hv, hu⟩
  stop := fun i G H t s k hi => by
    rw [zipD_len] at hi
    refine ⟨vs, us, t.t _ _ h0, t.t _ _ h0', ?_⟩
    rw [r.length, r'.length]
    omega
  yld := fun i G H x H' t s k hi y => by
    obtain ⟨T, z, z', rfl, hT, rfl, hy, hy'⟩ := y
    obtain ⟨d, hd, rd⟩ := r.getV (hy vs (t.t _ _ h0))
    obtain ⟨d', hd', rd'⟩ := r'.getV (hy' us (t.t _ _ h0'))
    refine ⟨.tup [d, d'], ?_, .tup (.of upd_same) (.cons ((rd.mono t).mono (tup_new hT)) (.cons ((rd'.mono t).mono (tup_new hT)) .nil)), s.newT hT, .newT hT⟩
    unfold zipD
    rw [List.getElem?_zipWith, hd, hd']
theorem it_zipV {K : PySem.W.Frag} {H0 : Hp} {a b : Addr} {o o' : Obj} {vs us : List V} {xs ys : List D} (h0 : H0 a = some (.frz o (.lst vs))) (r : Reps K H0 vs xs) (h0' : H0 b = some (.frz o' (.lst us))) (r' : Reps K H0 us ys) : ItRep K H0 (Itz K a b) (zipD xs ys) (fun _ => True) where
  go := fun i G H t s k hi => by
    rw [zipD_len] at hi
    obtain ⟨v, hv, _⟩ := r.get (List.getElem?_eq_getElem (show i < xs.length by omega))
    obtain ⟨u, hu, _⟩ := r'.get (List.getElem?_eq_getElem (show i < ys.length by omega))
    exact ⟨vs, us, v, u, frz_sq (t.d _ _ _ h0), frz_sq (t.d _ _ _ h0'), hv, hu⟩
  stop := fun i G H t s k hi => by
    rw [zipD_len] at hi
    refine ⟨vs, us, frz_sq (t.d _ _ _ h0), frz_sq (t.d _ _ _ h0'), ?_⟩
    rw [r.length, r'.length]
    omega
  yld := fun i G H x H' t s k hi y => by
    obtain ⟨T, z, z', rfl, hT, rfl, hy, hy'⟩ := y
    obtain ⟨d, hd, rd⟩ := r.getV (hy vs (frz_sq (t.d _ _ _ h0)))
    obtain ⟨d', hd', rd'⟩ := r'.getV (hy' us (frz_sq (t.d _ _ _ h0')))
    refine ⟨.tup [d, d'], ?_, .tup (.of upd_same) (.cons ((rd.mono t).mono (tup_new hT)) (.cons ((rd'.mono t).mono (tup_new hT)) .nil)), s.newT hT, .newT hT⟩
    unfold zipD
    rw [List.getElem?_zipWith, hd, hd']
def zpp (ds : List D) (G : Sto) (R : IQ) : Prop := match ds with
  | [.ref a, .ref b] => ∃ xs ys, G a = some (.lst xs) ∧ G b = some (.lst ys) ∧ R (zipD xs ys) (fun G => keepL a xs G ∧ keepL b ys G) G
  | [.tup xs, .tup ys] => R (zipD xs ys) (fun _ => True) G
  | [.rl xs, .rl ys] => R (zipD xs ys) (fun _ => True) G
  | [.rl xs, .tup ys] => R (zipD xs ys) (fun _ => True) G
  | _ => False
/-- a locked list and a tuple -/
theorem it_zipM {K : PySem.W.Frag} {H0 : Hp} {a b : Addr} {o : Obj} {vs us : List V} {xs ys : List D} (h0 : H0 a = some (.frz o (.lst vs))) (r : Reps K H0 vs xs) (h0' : SqT K H0 b us) (r' : Reps K H0 us ys) : ItRep K H0 (ItzM K a b) (zipD xs ys) (fun _ => True) where
  go := fun i G H t s k hi => by
    rw [zipD_len] at hi
    obtain ⟨v, hv, _⟩ := r.get (List.getElem?_eq_getElem (show i < xs.length by omega))
    obtain ⟨u, hu, _⟩ := r'.get (List.getElem?_eq_getElem (show i < ys.length by omega))
    exact ⟨vs, us, v, u, frz_sq (t.d _ _ _ h0), t.t _ _ h0', hv, hu⟩
  stop := fun i G H t s k hi => by
    rw [zipD_len] at hi
    refine ⟨vs, us, frz_sq (t.d _ _ _ h0), t.t _ _ h0', ?_⟩
    rw [r.length, r'.length]
    omega
  yld := fun i G H x H' t s k hi y => by
    obtain ⟨T, z, z', rfl, hT, rfl, hy, hy'⟩ := y
    obtain ⟨d, hd, rd⟩ := r.getV (hy vs (frz_sq (t.d _ _ _ h0)))
    obtain ⟨d', hd', rd'⟩ := r'.getV (hy' us (t.t _ _ h0'))
    refine ⟨.tup [d, d'], ?_, .tup (.of upd_same) (.cons ((rd.mono t).mono (tup_new hT)) (.cons ((rd'.mono t).mono (tup_new hT)) .nil)), s.newT hT, .newT hT⟩
    unfold zipD
    rw [List.getElem?_zipWith, hd, hd']
theorem qi_zip {elts : List Expr} {kk : Nat} {tpos : Pos} (hg : Gl X "zip") (hm : X.mg "zip" = none) (ha : QA X [a, b] tas) (hn : noStar a = true) (hn2 : noStar b = true) : QI X (.Tuple elts kk tpos) (.Call (.Name "zip" p) [a, b] [] pos) (dItA zpp tas) := by
  refine ⟨fun ρ G R xq σ H h rs s tk => ?_⟩
  refine PI.wi (pi_zipM hg hm pa_max (starEach_cons hn) (starEach_any (es := [b]) (by simp [hn2]) _)) ((ha.run ρ G _ xq σ H h rs s tk).imp fun vs H1 ⟨ds, G1, r1, s1, e1, q1⟩ => ?_)
  have q1 : zpp ds G1 R := q1
  unfold zpp at q1
  split at q1
  · obtain ⟨v, u, rfl, rv, ru⟩ := r1.two
    cases rv; cases ru
    obtain ⟨xs, ys, h1, h2, q⟩ := q1
    obtain ⟨vs, h3, r3⟩ := keepL_ h1 s1
    obtain ⟨us, h4, r4⟩ := keepL_ h2 s1
    exact ⟨_, _, vs, us, rfl, .inl ⟨h3, h4, _, _, G1, it_zip, s1, e1, q⟩⟩
  · obtain ⟨v, u, rfl, rv, ru⟩ := r1.two
    cases rv with
    | tup h3 r3 =>
      cases ru with
      | tup h4 r4 => exact ⟨_, _, _, _, rfl, .inr (.inl ⟨h3, h4, _, _, G1, it_zipT h3 r3 h4 r4, s1, e1, q1⟩)⟩
  · obtain ⟨v, u, rfl, rv, ru⟩ := r1.two
    cases rv with
    | rl h3 r3 =>
      cases ru with
      | rl h4 r4 => exact ⟨_, _, _, _, rfl, .inl ⟨frz_sq h3, frz_sq h4, _, _, G1, it_zipV h3 r3 h4 r4, s1, e1, q1⟩⟩
  · obtain ⟨v, u, rfl, rv, ru⟩ := r1.two
    cases rv with
    | rl h3 r3 =>
      cases ru with
      | tup h4 r4 => exact ⟨_, _, _, _, rfl, .inr (.inr ⟨frz_sq h3, h4, _, _, G1, it_zipM h3 r3 h4 r4, s1, e1, q1⟩)⟩
  · exact q1.elim
end
end DL
namespace DL
open PySem PySem.Spec PyProof.Rows L2
abbrev EX := Exn → Ev → Sto → Prop
structure DEnds where
  nx : Ev → Sto → Prop
  rt : DQ
  bk : Ev → Sto → Prop := fun _ _ => False
  ct : Ev → Sto → Prop := fun _ _ => False
  ex : EX := fun _ _ _ => False
abbrev DS := DEnds → Ev → Sto → Prop
abbrev NQ := Ev → Sto → Prop
abbrev DG := D → Ev → Sto → NQ → EX → Prop
structure TkS (X : Cx) (G : Sto) (H : Hp) (ex : EX) : Prop where
  ex : ∀ x σ' ρ' cls d G' H', RepS X.K H' σ' ρ' → ExnRep X.K H' cls d x → Sim X.K G' H' → Ext X.K G H G' H' → ex x ρ' G' → XW X cls d σ' H'
  hot : HotX X H
theorem TkS.step {X : Cx} {G G1 : Sto} {H H1 : Hp} {ex : EX} (t : TkS X G H ex) (e : Ext X.K G H G1 H1) : TkS X G1 H1 ex :=
  ⟨fun x σ' ρ' cls d G' H' r xr s y q => t.ex x σ' ρ' cls d G' H' r xr s (e.trans y) q, t.hot.mono e.tup⟩
theorem TkS.tk {X : Cx} {G : Sto} {H : Hp} {ex : EX} {σ : L2.St} {ρ : Ev} (t : TkS X G H ex) (r : RepS X.K H σ ρ) : Tk X σ G H (fun x G' => ex x ρ G') :=
  ⟨fun x cls d G' H' xr s y q => t.ex x σ ρ cls d G' H' (r.mono y.tup) xr s y q, t.hot⟩
theorem TkS.never {X : Cx} {G : Sto} {H : Hp} (h : HotX X H) : TkS X G H (fun _ _ _ => False) := ⟨fun _ _ _ _ _ _ _ _ _ _ _ q => q.elim, h⟩
def WG (X : Cx) (tg : Expr) : TG := fun v σ H Q => ∀ pins s u, Inv X pins σ H s → RelV v u → wpAny (model X.prog X.w) X.A (assign tg X.env u) (fun _ s' => ∃ σ' H', Inv X pins σ' H' s' ∧ Q σ' H') X.xe s
def WGs (X : Cx) (ts : List Expr) : TGs := fun vs σ H Q => ∀ pins s us, Inv X pins σ H s → Vals vs us → wpAny (model X.prog X.w) X.A (assignInOrder ((assignEach ts X.env).map (·.2)) us) (fun _ s' => ∃ σ' H', Inv X pins σ' H' s' ∧ Q σ' H') X.xe s
/-- the slots outside S stay -/
def Only (S : List Nat) (σ σ' : L2.St) : Prop := σ'.length = σ.length ∧ ∀ j, j ∉ S → σ'[j]? = σ[j]?
theorem Only.refl {S : List Nat} {σ : L2.St} : Only S σ σ := ⟨rfl, fun _ _ => rfl⟩
theorem Only.trans {S : List Nat} {σ σ1 σ2 : L2.St} (a : Only S σ σ1) (b : Only S σ1 σ2) : Only S σ σ2 := ⟨b.1.trans a.1, fun j h => (b.2 j h).trans (a.2 j h)⟩
theorem Only.mono {S S' : List Nat} {σ σ1 : L2.St} (a : Only S σ σ1) (h : ∀ j ∈ S, j ∈ S') : Only S' σ σ1 := ⟨a.1, fun j q => a.2 j fun z => q (h j z)⟩
def LiftN (K : PySem.W.Frag) (S : List Nat) (σ : L2.St) (G : Sto) (H : Hp) (Q : NQ) : L2.St → Hp → Prop := fun σ' H' => Only S σ σ' ∧ ∃ ρ' G', RepS K H' σ' ρ' ∧ Sim K G' H' ∧ Ext K G H G' H' ∧ Q ρ' G'
structure QG (X : Cx) (tg : Expr) (S : List Nat) (t : DG) : Prop where
  run : ∀ d ρ G Q ex v σ H, t d ρ G Q ex → Rep X.K H v d → RepS X.K H σ ρ → Sim X.K G H → TkS X G H ex → WG X tg v σ H (LiftN X.K S σ G H Q)
abbrev DGs := List D → Ev → Sto → NQ → EX → Prop
structure QGs (X : Cx) (ts : List Expr) (S : List Nat) (t : DGs) : Prop where
  run : ∀ ds ρ G Q ex vs σ H, t ds ρ G Q ex → Reps X.K H vs ds → RepS X.K H σ ρ → Sim X.K G H → TkS X G H ex → WGs X ts vs σ H (LiftN X.K S σ G H Q)
section
variable {X : Cx} {tg e o i : Expr} {es : List Expr} {S S' : List Nat} {pos : Pos} {te to ti : DE}
theorem pg_max : PG X tg (WG X tg) := ⟨fun pins s σ H v u Q I r h => h pins s u I r⟩
theorem pgs_max : PGs X es (WGs X es) := ⟨fun pins s σ H vs us Q I r h => h pins s us I r⟩
theorem PG.wg {t : TG} {v : V} {σ : L2.St} {H : Hp} {Q : L2.St → Hp → Prop} (h : PG X tg t) (q : t v σ H Q) : WG X tg v σ H Q := fun pins s u I r => h.run pins s σ H v u Q I r q
theorem PGs.wg {t : TGs} {v : List V} {σ : L2.St} {H : Hp} {Q : L2.St → Hp → Prop} (h : PGs X es t) (q : t v σ H Q) : WGs X es v σ H Q := fun pins s u I r => h.run pins s σ H v u Q I r q
theorem WG.imp {v : V} {σ : L2.St} {H : Hp} {Q Q' : L2.St → Hp → Prop} (h : WG X tg v σ H Q) (i : ∀ σ' H', Q σ' H' → Q' σ' H') : WG X tg v σ H Q' := fun pins s u I r => thn (h pins s u I r) fun _ _ ⟨σ', H', I', q⟩ => ⟨σ', H', I', i _ _ q⟩
theorem WGs.imp {v : List V} {σ : L2.St} {H : Hp} {Q Q' : L2.St → Hp → Prop} (h : WGs X es v σ H Q) (i : ∀ σ' H', Q σ' H' → Q' σ' H') : WGs X es v σ H Q' := fun pins s u I r => thn (h pins s u I r) fun _ _ ⟨σ', H', I', q⟩ => ⟨σ', H', I', i _ _ q⟩
/-- a name -/
def gNm (i : Nat) : DG := fun d ρ G Q _ => Q (ρ.set i (some d)) G
theorem qg_name {i : Nat} {x : Str} (hN : X.N.Nodup) (hi : X.N[i]? = some x) (hx : Loc X.env.scope x) (hf : X.fn x = true ∨ X.env.scope.names.lookup x = some .local) : QG X (.Name x pos) [i] (gNm i) := by
  refine ⟨fun d ρ G Q ex v σ H h r rs s tk => ?_⟩
  refine PG.wg (pg_name hN hi hx hf) ⟨⟨by rw [List.length_set], fun j hj => ?_⟩, _, G, rs.set i r, s, .refl, h⟩
  rw [List.getElem?_set_ne]
  intro e
  exact hj (by simp [e])
def gNl : DGs := fun ds ρ G Q _ => match ds with
  | [] => Q ρ G
  | _ => False
def gCs (t : DG) (u : DGs) : DGs := fun ds ρ G Q ex => match ds with
  | d :: r => t d ρ G (fun ρ' G' => u r ρ' G' Q ex) ex
  | [] => False
theorem qgs_nil : QGs X [] S gNl := by
  refine ⟨fun ds ρ G Q ex vs σ H h r rs s tk => ?_⟩
  unfold gNl at h
  split at h
  · cases r
    exact PGs.wg pgs_nil ⟨rfl, .refl, ρ, G, rs, s, .refl, h⟩
  · exact h.elim
theorem assignEach_cons {e : Expr} {es : List Expr} {env : PySem.Env} (h : noStar e = true) : assignEach (e :: es) env = (false, assign e env) :: assignEach es env := by
  cases e <;> first | rfl | cases h
theorem qgs_cons {t : DG} {u : DGs} (h1 : QG X e S t) (h2 : QGs X es S' u) (hn : noStar e = true) : QGs X (e :: es) (S ++ S') (gCs t u) := by
  refine ⟨fun ds ρ G Q ex vs σ H h r rs s tk => ?_⟩
  cases ds with
  | nil => exact False.elim h
  | cons d ds =>
    cases r with
    | cons r1 r2 =>
      refine PGs.wg (pgs_cons pg_max pgs_max (by rw [assignEach_cons hn]; rfl)) ⟨_, _, rfl, ?_⟩
      refine (h1.run d ρ G _ ex _ σ H h r1 rs s tk).imp fun σ1 H1 ⟨o1, ρ1, G1, rs1, s1, e1, q1⟩ => ?_
      refine (h2.run ds ρ1 G1 Q ex _ σ1 H1 q1 (r2.mono e1.tup) rs1 s1 (tk.step e1)).imp fun σ2 H2 ⟨o2, ρ2, G2, rs2, s2, e2, q2⟩ => ?_
      exact ⟨(o1.mono fun j z => List.mem_append_left _ z).trans (o2.mono fun j z => List.mem_append_right _ z), ρ2, G2, rs2, s2, e1.trans e2, q2⟩
/-- a tuple of targets: a tuple, or a list, of that length -/
def gTp (n : Nat) (u : DGs) : DG := fun d ρ G Q ex => seqD d G fun ds => ds.length = n ∧ u ds ρ G Q ex
theorem assignEach_len {env : PySem.Env} : ∀ {es : List Expr}, es.all noStar = true → (assignEach es env).length = es.length ∧ (assignEach es env).findIdx? (·.1) = none
  | [], _ => ⟨rfl, rfl⟩
  | e :: es, h => by
    rw [List.all_cons, Bool.and_eq_true] at h
    obtain ⟨h1, h2⟩ := assignEach_len (env := env) h.2
    rw [assignEach_cons h.1]
    refine ⟨by simp [h1], ?_⟩
    rw [List.findIdx?_cons, h2]
    rfl
theorem qg_tup {u : DGs} {k : Nat} (hc : X.calm = true) (h : QGs X es S u) (hn : es.all noStar = true) : QG X (.Tuple es k pos) S (gTp es.length u) := by
  refine ⟨fun d ρ G Q ex v σ H hq r rs s tk => ?_⟩
  obtain ⟨hl, hf⟩ := assignEach_len (env := X.env) hn
  obtain ⟨p, vs, ds, rfl, h1 | h1, r1, hlen, q⟩ := seq_ hq r s
  · exact PG.wg (pg_lst hc pgs_max hl hf) ⟨p, vs, rfl, h1, by rw [r1.length]; exact hlen, h.run ds ρ G Q ex vs σ H q r1 rs s tk⟩
  · exact PG.wg (pg_tup hc pgs_max hl hf) ⟨p, vs, rfl, h1, by rw [r1.length]; exact hlen, h.run ds ρ G Q ex vs σ H q r1 rs s tk⟩
/-- o[i] = v, o a list -/
def setD (x y d : D) (G : Sto) (Q : Sto → Prop) : Prop := match x, y with
  | .ref p, .int k => ∃ xs j, G p = some (.lst xs) ∧ ixN xs.length k = some j ∧ Q (put G p (.lst (xs.set j d)))
  | .ref p, .str k => ∃ kvs, G p = some (.dK kvs) ∧ kvs.length < sizeLine ∧ Q (put G p (.dK (putD kvs (.inr k) d)))
  | _, _ => False
theorem PSet.or {t t' : TSet} (h : PSet X t) (h' : PSet X t') : PSet X (fun o i v H Q => t o i v H Q ∨ t' o i v H Q) := by
  intro pins s σ H o i v ov iv u Q I ro ri rv q
  rcases q with q | q
  · exact h pins s σ H o i v ov iv u Q I ro ri rv q
  · exact h' pins s σ H o i v ov iv u Q I ro ri rv q
def gSb (to ti : DE) : DG := fun d ρ G Q ex => to ρ G (fun x G1 => ti ρ G1 (fun y G2 => setD x y d G2 (Q ρ)) (fun z => ex z ρ)) (fun z => ex z ρ)
def plainSub : Expr → Bool
  | .Slice .. => false
  | _ => true
theorem qg_sub (hu : X.A.units + 64 < cLine) (ho : QE X o to) (hi : QE X i ti) (hp : plainSub i = true) : QG X (.Subscript o i pos) S (gSb to ti) := by
  refine ⟨fun d ρ G Q ex v σ H h r rs s tk => ?_⟩
  refine PG.wg (pg_sub pe_max pe_max (PSet.or set_list (set_dict (by omega))) (fun v => by cases i <;> first | rfl | cases hp)) ?_
  refine (ho.run ρ G _ _ σ H h rs s (tk.tk rs)).imp fun v1 H1 ⟨x, G1, rx, s1, e1, q1⟩ => ?_
  refine (hi.run ρ G1 _ _ σ H1 q1 (rs.mono e1.tup) s1 ((tk.tk rs).step e1)).imp fun v2 H2 ⟨y, G2, ry, s2, e2, q2⟩ => ?_
  have rx := rx.mono e2.tup
  have q2 : setD x y d G2 (Q ρ) := q2
  unfold setD at q2
  split at q2
  · cases rx; cases ry
    obtain ⟨xs, j, g, hj, q⟩ := q2
    obtain ⟨vs, h1, r1⟩ := s2 _ _ g
    have e12 := e1.trans e2
    have t3 : TupExt X.K H2 (upd H2 _ (.lst (vs.set j v))) := tup_mut h1 rfl
    refine .inl ⟨_, vs, _, j, rfl, rfl, h1, by rw [r1.length]; exact hj, .refl, ρ, put G2 _ (.lst (xs.set j d)), (rs.mono e12.tup).mono t3, s2.mut (c0 := .lst xs) h1 rfl ⟨_, upd_same, (r1.set (r.mono e12.tup) j).mono t3⟩, e12.trans (.mut g h1 rfl), q⟩
  · cases rx; cases ry
    rename_i p k _ _ _
    obtain ⟨kvs, g, hl, q⟩ := q2
    obtain ⟨m, h1, r1⟩ := s2 _ _ g
    have e12 := e1.trans e2
    refine .inr ⟨_, _, rfl, DPut.k (k := .inr k) h1 (by rw [r1.length]; exact hl), ?_⟩
    have t3 : TupExt X.K H2 (upd H2 p (.dK (putK m (.inr k) v))) := tup_mut h1 rfl
    exact ⟨.refl, ρ, put G2 _ (.dK (putD kvs (.inr k) d)), (rs.mono e12.tup).mono t3, s2.mut (c0 := .dK kvs) h1 rfl ⟨_, upd_same, (r1.put (r.mono e12.tup)).mono t3⟩, e12.trans (.mut g h1 rfl), q⟩
  · exact q2.elim
def dsetD (x y d : D) (G : Sto) (Q : Sto → Prop) : Prop := match x with
  | .ref p => ∃ kvs k, G p = some (.dK kvs) ∧ keyD y = some k ∧ kvs.length < sizeLine ∧ Q (put G p (.dK (putD kvs k d)))
  | _ => False
def gDs (to ti : DE) : DG := fun d ρ G Q ex => to ρ G (fun x G1 => ti ρ G1 (fun y G2 => dsetD x y d G2 (Q ρ)) (fun z => ex z ρ)) (fun z => ex z ρ)
theorem qg_dsub (hu : X.A.units + 64 < cLine) (ho : QE X o to) (hi : QE X i ti) (hp : plainSub i = true) : QG X (.Subscript o i pos) S (gDs to ti) := by
  refine ⟨fun d ρ G Q ex v σ H h r rs s tk => ?_⟩
  refine PG.wg (pg_sub pe_max pe_max (set_dict (by omega)) (fun v => by cases i <;> first | rfl | cases hp)) ?_
  refine (ho.run ρ G _ _ σ H h rs s (tk.tk rs)).imp fun v1 H1 ⟨x, G1, rx, s1, e1, q1⟩ => ?_
  refine (hi.run ρ G1 _ _ σ H1 q1 (rs.mono e1.tup) s1 ((tk.tk rs).step e1)).imp fun v2 H2 ⟨y, G2, ry, s2, e2, q2⟩ => ?_
  have rx := rx.mono e2.tup
  have q2 : dsetD x y d G2 (Q ρ) := q2
  unfold dsetD at q2
  split at q2
  · cases rx
    obtain ⟨kvs, k, g, hk, hl, q⟩ := q2
    obtain ⟨m, h1, r1⟩ := s2 _ _ g
    obtain rfl := keyD_rep hk ry
    have e12 := e1.trans e2
    refine ⟨_, _, rfl, DPut.k h1 (by rw [r1.length]; exact hl), ?_⟩
    have t3 : TupExt X.K H2 (upd H2 _ (.dK (putK m k v))) := tup_mut h1 rfl
    exact ⟨.refl, ρ, put G2 _ (.dK (putD kvs k d)), (rs.mono e12.tup).mono t3, s2.mut (c0 := .dK kvs) h1 rfl ⟨_, upd_same, (r1.put (r.mono e12.tup)).mono t3⟩, e12.trans (.mut g h1 rfl), q⟩
  · exact q2.elim
/-! statements -/
def WS (X : Cx) (st : Stmt) : TS := fun D σ H => ∀ pins s, Inv X pins σ H s → wpAny (model X.prog X.w) X.A (exec st X.env) (SP X pins D) X.xe s
def WSs (X : Cx) (st : List Stmt) : TS := fun D σ H => ∀ pins s, Inv X pins σ H s → wpAny (model X.prog X.w) X.A (execs st X.env) (SP X pins D) X.xe s
def LiftP (K : PySem.W.Frag) (G : Sto) (H : Hp) (Q : NQ) : L2.St → Hp → Prop := fun σ' H' => ∃ ρ' G', RepS K H' σ' ρ' ∧ Sim K G' H' ∧ Ext K G H G' H' ∧ Q ρ' G'
def LiftS (K : PySem.W.Frag) (G : Sto) (H : Hp) (D : DEnds) : Ends := ⟨LiftP K G H D.nx, Lift K G H D.rt, LiftP K G H D.bk, LiftP K G H D.ct⟩
structure QS (X : Cx) (st : Stmt) (t : DS) : Prop where
  run : ∀ (D : DEnds) ρ G σ H, t D ρ G → RepS X.K H σ ρ → Sim X.K G H → TkS X G H D.ex → WS X st (LiftS X.K G H D) σ H
structure QB (X : Cx) (st : List Stmt) (t : DS) : Prop where
  run : ∀ (D : DEnds) ρ G σ H, t D ρ G → RepS X.K H σ ρ → Sim X.K G H → TkS X G H D.ex → WSs X st (LiftS X.K G H D) σ H
variable {st : Stmt} {sts : List Stmt} {t u : DS} {c : Expr} {tc : DT}
theorem ps_max : PS X st (WS X st) := ⟨fun pins s σ H D I h => h pins s I⟩
theorem pss_max : PSs X sts (WSs X sts) := ⟨fun pins s σ H D I h => h pins s I⟩
theorem PS.ws {t : TS} {D : Ends} {σ : L2.St} {H : Hp} (h : PS X st t) (q : t D σ H) : WS X st D σ H := fun pins s I => h.run pins s σ H D I q
theorem PSs.ws {t : TS} {D : Ends} {σ : L2.St} {H : Hp} (h : PSs X sts t) (q : t D σ H) : WSs X sts D σ H := fun pins s I => h.run pins s σ H D I q
theorem SP.imp {pins : List (Addr × Obj)} {D D' : Ends} (h1 : ∀ σ H, D.nx σ H → D'.nx σ H) (h2 : ∀ v H, D.rt v H → D'.rt v H) (h3 : ∀ σ H, D.bk σ H → D'.bk σ H) (h4 : ∀ σ H, D.ct σ H → D'.ct σ H) {f : Flow} {s' : Shared} (h : SP X pins D f s') : SP X pins D' f s' := by
  cases f with
  | next => obtain ⟨σ, H, I, q⟩ := h; exact ⟨σ, H, I, h1 _ _ q⟩
  | brk => obtain ⟨σ, H, I, q⟩ := h; exact ⟨σ, H, I, h3 _ _ q⟩
  | cont => obtain ⟨σ, H, I, q⟩ := h; exact ⟨σ, H, I, h4 _ _ q⟩
  | ret u => obtain ⟨v, σ, H, I, r, q⟩ := h; exact ⟨v, σ, H, I, r, h2 _ _ q⟩
theorem WS.imp {D D' : Ends} {σ : L2.St} {H : Hp} (h : WS X st D σ H) (h1 : ∀ σ H, D.nx σ H → D'.nx σ H) (h2 : ∀ v H, D.rt v H → D'.rt v H) (h3 : ∀ σ H, D.bk σ H → D'.bk σ H) (h4 : ∀ σ H, D.ct σ H → D'.ct σ H) : WS X st D' σ H :=
  fun pins s I => thn (h pins s I) fun _ _ q => SP.imp h1 h2 h3 h4 q
theorem WSs.imp {D D' : Ends} {σ : L2.St} {H : Hp} (h : WSs X sts D σ H) (h1 : ∀ σ H, D.nx σ H → D'.nx σ H) (h2 : ∀ v H, D.rt v H → D'.rt v H) (h3 : ∀ σ H, D.bk σ H → D'.bk σ H) (h4 : ∀ σ H, D.ct σ H → D'.ct σ H) : WSs X sts D' σ H :=
  fun pins s I => thn (h pins s I) fun _ _ q => SP.imp h1 h2 h3 h4 q
theorem LiftP.back {K : PySem.W.Frag} {G G1 : Sto} {H H1 : Hp} {Q : NQ} (x : Ext K G H G1 H1) : ∀ σ' H', LiftP K G1 H1 Q σ' H' → LiftP K G H Q σ' H' :=
  fun _ _ ⟨ρ, G', r, s, e, q⟩ => ⟨ρ, G', r, s, x.trans e, q⟩
theorem WSs.back {G G1 : Sto} {H H1 : Hp} {D : DEnds} {σ : L2.St} (x : Ext X.K G H G1 H1) (h : WSs X sts (LiftS X.K G1 H1 D) σ H1) : WSs X sts (LiftS X.K G H D) σ H1 :=
  h.imp (LiftP.back x) (Lift.back x) (LiftP.back x) (LiftP.back x)
def sNext : DS := fun D ρ G => D.nx ρ G
def sSeq (t u : DS) : DS := fun D ρ G => t { D with nx := u D } ρ G
theorem qb_nil : QB X [] sNext := ⟨fun D ρ G σ H h rs s tk => PSs.ws pss_nil ⟨ρ, G, rs, s, .refl, h⟩⟩
theorem qb_cons (h1 : QS X st t) (h2 : QB X sts u) : QB X (st :: sts) (sSeq t u) := by
  refine ⟨fun D ρ G σ H h rs s tk => ?_⟩
  refine PSs.ws (pss_cons ps_max pss_max) ?_
  refine (h1.run { D with nx := u D } ρ G σ H h rs s tk).imp (fun σ1 H1 ⟨ρ1, G1, rs1, s1, e1, q1⟩ => ?_) (fun _ _ q => q) (fun _ _ q => q) (fun _ _ q => q)
  exact WSs.back e1 (h2.run D ρ1 G1 σ1 H1 q1 rs1 s1 (tk.step e1))
theorem qs_pass : QS X (.Pass pos) sNext := ⟨fun D ρ G σ H h rs s tk => PS.ws ps_pass ⟨ρ, G, rs, s, .refl, h⟩⟩
def sBreak : DS := fun D ρ G => D.bk ρ G
def sCont : DS := fun D ρ G => D.ct ρ G
theorem qs_break : QS X (.Break pos) sBreak := ⟨fun D ρ G σ H h rs s tk => PS.ws ps_break ⟨ρ, G, rs, s, .refl, h⟩⟩
theorem qs_cont : QS X (.Continue pos) sCont := ⟨fun D ρ G σ H h rs s tk => PS.ws ps_continue ⟨ρ, G, rs, s, .refl, h⟩⟩
def sRet (te : DE) : DS := fun D ρ G => te ρ G D.rt fun z => D.ex z ρ
theorem qs_ret (he : QE X e te) : QS X (.Return (some e) pos) (sRet te) := ⟨fun D ρ G σ H h rs s tk => PS.ws (ps_ret pe_max) (he.run ρ G _ _ σ H h rs s (tk.tk rs))⟩
def sRetN : DS := fun D _ G => D.rt .non G
theorem qs_retN : QS X (.Return none pos) sRetN := ⟨fun D ρ G σ H h rs s tk => PS.ws ps_retN (Lift.here .non s h)⟩
def sDrop (te : DE) : DS := fun D ρ G => te ρ G (fun _ G1 => D.nx ρ G1) fun z => D.ex z ρ
def noComp : Expr → Bool
  | .ListComp .. => false | .SetComp .. => false | .DictComp .. => false
  | _ => true
theorem swaps_no {e : Expr} {t : Option Expr} {l : Nat} {env : PySem.Env} (h : noComp e = true) : swapsWith e t l env = pure false := by
  cases e <;> first | rfl | cases h
theorem qs_expr (he : QE X e te) (hn : noComp e = true) : QS X (.Expr e pos) (sDrop te) :=
  ⟨fun D ρ G σ H h rs s tk => PS.ws (ps_expr pe_max (swaps_no hn)) ((he.run ρ G _ _ σ H h rs s (tk.tk rs)).imp fun v H1 ⟨x, G1, rx, s1, e1, q1⟩ => ⟨ρ, G1, rs.mono e1.tup, s1, e1, q1⟩)⟩
def sAsg (te : DE) (g : DG) : DS := fun D ρ G => te ρ G (fun x G1 => g x ρ G1 D.nx D.ex) fun z => D.ex z ρ
/-- no pair or triple of plain names on both sides -/
def noSwap : Expr → Expr → Bool
  | .Tuple .., .Tuple .. => false
  | .List .., .Tuple .. => false
  | _, _ => true
theorem swapped_no {tg e : Expr} {env : PySem.Env} (h : noSwap tg e = true) : swappedStores [tg] e env = pure none := by
  cases tg <;> first | rfl | (cases e <;> first | rfl | cases h)
def sIf (tc : DT) (t u : DS) : DS := fun D ρ G => tc ρ G (fun k G1 => if k = true then t D ρ G1 else u D ρ G1) fun z => D.ex z ρ
theorem qs_if {p q : List Stmt} (hc : QT X c tc) (hp : QB X p t) (hq : QB X q u) : QS X (.If c p q pos) (sIf tc t u) := by
  refine ⟨fun D ρ G σ H h rs s tk => ?_⟩
  refine PS.ws (ps_if pt_max pss_max pss_max) ((hc.run ρ G _ _ σ H h rs s (tk.tk rs)).imp fun k H1 ⟨G1, s1, e1, q1⟩ => ?_)
  cases k with
  | true =>
    simp only [if_true] at q1 ⊢
    exact WSs.back e1 (hp.run D ρ G1 σ H1 q1 (rs.mono e1.tup) s1 (tk.step e1))
  | false =>
    simp only [Bool.false_eq_true, if_false] at q1 ⊢
    exact WSs.back e1 (hq.run D ρ G1 σ H1 q1 (rs.mono e1.tup) s1 (tk.step e1))
/-! for -/
/-- some cells may be let go -/
def Fewer (N : NQ) : NQ := fun ρ G => ∃ G', Dn G G' ∧ N ρ G'
theorem Fewer.of {N : NQ} {ρ : Ev} {G : Sto} (h : N ρ G) : Fewer N ρ G := ⟨G, .refl, h⟩
def forL (g : DG) (tb : DS) (keep : Sto → Prop) (De : DEnds) : List D → Ev → Sto → Prop
  | [], ρ, G => keep G ∧ De.nx ρ G
  | x :: xs, ρ, G => keep G ∧ g x ρ G (fun ρ1 G1 => tb { De with nx := Fewer (forL g tb keep De xs), ct := Fewer (forL g tb keep De xs), bk := De.nx } ρ1 G1) De.ex
/-- the same, closed: it does not open by itself -/
@[irreducible] def forS (g : DG) (tb : DS) (keep : Sto → Prop) (De : DEnds) (items : List D) (ρ : Ev) (G : Sto) : Prop := forL g tb keep De items ρ G
theorem forS_eq {g : DG} {tb : DS} {keep : Sto → Prop} {De : DEnds} {items : List D} {ρ : Ev} {G : Sto} : forS g tb keep De items ρ G = forL g tb keep De items ρ G := by unfold forS; rfl
def sFor (wi : DI) (g : DG) (tb : DS) : DS := fun D ρ G => wi ρ G (fun items keep G1 => forS g tb keep D items ρ G1) fun z => D.ex z ρ
def noSet : Expr → Bool
  | .Set .. => false
  | _ => true
theorem folded_no {iter : Expr} {env : PySem.Env} (h : noSet iter = true) : ∀ x, foldedSetIterable iter env x = pure x := by
  intro x
  cases iter <;> first | rfl | cases h
theorem qs_for {iter : Expr} {wi : DI} {g : DG} {tb : DS} (hp : PassesOwn (model X.prog X.w) X.A X.env X.xe) (hc : X.calm = true) (hi : QI X tg iter wi) (hg : QG X tg S g) (hb : QB X sts tb) (hs : noSet iter = true) :
    QS X (.For tg iter sts [] pos) (sFor wi g tb) := by
  refine ⟨fun D ρ G σ H h rs s tk => ?_⟩
  refine PS.ws (ps_for hp hc pi_max pg_max pss_max (folded_no hs)) ?_
  refine fun pins s0 I => thn (hi.run ρ G _ _ σ H h rs s (tk.tk rs) pins s0 I) fun v s1 h1 => thn h1 fun itv s2 h2 => ?_
  obtain ⟨it, fp, tn, J, H', x1, x2, x3, x4, x5, items, keep, G1, IR, sm, e1, q⟩ := h2
  rw [forS_eq] at q
  refine ⟨it, fp, tn, J, H', x1, x2, x3, x4, x5, ?_⟩
  refine ⟨fun i m σ' H2 => m = items.length - i ∧ i ≤ items.length ∧ ∃ ρ' G', RepS X.K H2 σ' ρ' ∧ Sim X.K G' H2 ∧ Ext X.K G1 H' G' H2 ∧ forL g tb keep D (items.drop i) ρ' G', ⟨_, rfl, Nat.zero_le _, ρ, G1, rs.mono e1.tup, sm, .refl, q⟩, ?_⟩
  rintro i m σ' H2 ⟨rfl, hi, ρ', G', r', sm', e', q'⟩
  by_cases hlt : i < items.length
  · right
    rw [List.drop_eq_getElem_cons hlt] at q'
    obtain ⟨kp, q'⟩ := q'
    refine ⟨IR.go i G' H2 e'.tup sm' kp hlt, fun σ3 H3 => ∃ ρ' G', RepS X.K H3 σ3 ρ' ∧ Sim X.K G' H3 ∧ Ext X.K G1 H' G' H3 ∧ forL g tb keep D (items.drop (i + 1)) ρ' G', fun σ3 H3 z => ⟨_, by omega, rfl, hlt, z⟩, fun x H4 y => ?_⟩
    obtain ⟨d, hd, rd, sm4, e4⟩ := IR.yld i G' H2 x H4 e'.tup sm' kp hlt y
    have ed : d = items[i] := by
      rw [List.getElem?_eq_getElem hlt] at hd
      exact (Option.some.inj hd).symm
    subst ed
    have e04 := e1.trans (e'.trans e4)
    refine (hg.run _ ρ' G' _ _ x σ' H4 q' rd (r'.mono e4.tup) sm4 (tk.step e04)).imp fun σ5 H5 ⟨_, ρ5, G5, r5, sm5, e5, q5⟩ => ?_
    have e05 := e04.trans e5
    have e15 := (e'.trans e4).trans e5
    refine (hb.run _ ρ5 G5 σ5 H5 q5 r5 sm5 (tk.step e05)).imp (fun σ6 H6 ⟨ρ6, G6, r6, s6, e6, G7, d7, q6⟩ => ⟨ρ6, G7, r6, d7.sim s6, e15.trans (e6.trans d7.ext), q6⟩) (Lift.back e05) (LiftP.back e05) (fun σ6 H6 ⟨ρ6, G6, r6, s6, e6, G7, d7, q6⟩ => ⟨ρ6, G7, r6, d7.sim s6, e15.trans (e6.trans d7.ext), q6⟩)
  · left
    have ei : i = items.length := by omega
    subst ei
    rw [List.drop_length] at q'
    exact ⟨IR.stop _ G' H2 e'.tup sm' q'.1 (Nat.le_refl _), ρ', G', r', sm', e1.trans e', q'.2⟩
/-! while -/
def sWhile (tc : DT) (tb : DS) : DS := fun D ρ G => ∃ W : Nat → Ev → Sto → Prop, (∃ m, W m ρ G) ∧ ∀ m ρ G, W m ρ G →
  tc ρ G (fun k G1 => if k = true then tb { D with nx := Fewer fun ρ' G' => ∃ m', m' < m ∧ W m' ρ' G', ct := Fewer fun ρ' G' => ∃ m', m' < m ∧ W m' ρ' G', bk := D.nx } ρ G1 else D.nx ρ G1) fun z => D.ex z ρ
theorem qs_while {tb : DS} (hp : PassesOwn (model X.prog X.w) X.A X.env X.xe) (hc : QT X c tc) (hb : QB X sts tb) : QS X (.While c sts [] pos) (sWhile tc tb) := by
  refine ⟨fun D ρ G σ H h rs s tk => ?_⟩
  obtain ⟨W, ⟨m0, w0⟩, turn⟩ := h
  refine PS.ws (ps_while hp pt_max pss_max) ⟨fun m σ' H' => ∃ ρ' G', RepS X.K H' σ' ρ' ∧ Sim X.K G' H' ∧ Ext X.K G H G' H' ∧ W m ρ' G', ⟨m0, ρ, G, rs, s, .refl, w0⟩, ?_⟩
  rintro m σ1 H1 ⟨ρ1, G1, r1, s1, e1, w1⟩
  refine (hc.run ρ1 G1 _ _ σ1 H1 (turn m ρ1 G1 w1) r1 s1 ((tk.step e1).tk r1)).imp fun k H2 ⟨G2, s2, e2, q2⟩ => ?_
  have e12 := e1.trans e2
  cases k with
  | true =>
    simp only [if_true] at q2 ⊢
    refine ⟨LiftP X.K G H (Fewer fun ρ' G' => ∃ m', m' < m ∧ W m' ρ' G'), fun σ' H' ⟨ρ', G', r', s', e', G7, d7, m', hm, w'⟩ => ⟨m', hm, ρ', G7, r', d7.sim s', e'.trans d7.ext, w'⟩, ?_⟩
    exact WSs.back e12 (hb.run _ ρ1 G2 σ1 H2 q2 (r1.mono e2.tup) s2 (tk.step e12))
  | false =>
    simp only [Bool.false_eq_true, if_false] at q2 ⊢
    exact ⟨ρ1, G2, r1.mono e2.tup, s2, e12, q2⟩
/-! a list of a slot, locked: nothing of the text -/
def sLk (i : Nat) (t : DS) : DS := fun D ρ G => ∃ a ds, ρ[i]? = some (some (.ref a)) ∧ G a = some (.lst ds) ∧ t D (ρ.set i (some (.rl ds))) (drop G a)
theorem RepS.over {K : PySem.W.Frag} {H : Hp} {σ : L2.St} {ρ : Ev} {v : V} {d : D} {i : Nat} (r : RepS K H σ ρ) (hv : σ[i]? = some (some v)) (h : Rep K H v d) : RepS K H σ (ρ.set i (some d)) := by
  refine ⟨by rw [List.length_set, r.len], fun j e q => ?_⟩
  by_cases hj : i = j
  · subst hj
    rw [List.getElem?_set] at q
    simp only [if_true] at q
    split at q
    · cases q
      exact ⟨v, hv, h⟩
    · cases q
  · rw [List.getElem?_set_ne hj] at q
    exact r.at_ j e q
theorem qb_lk {i : Nat} (h : QB X sts t) : QB X sts (sLk i t) := by
  refine ⟨fun D ρ G σ H hq rs s tk => ?_⟩
  obtain ⟨a, ds, hi, g, q⟩ := hq
  obtain ⟨v, hv, rv⟩ := rs.at_ i _ hi
  cases rv
  obtain ⟨vs, h1, r1⟩ := s _ _ g
  intro pins s0 I
  obtain ⟨od, I2⟩ := I.lock h1 True.intro
  have t8 : TupExt X.K H (upd H a (.frz od (.lst vs))) := tup_mut h1 rfl
  have e8 : Ext X.K G H (drop G a) (upd H a (.frz od (.lst vs))) := .lock g h1 rfl
  exact WSs.back e8 (h.run D _ (drop G a) σ _ q ((rs.mono t8).over hv (.rl upd_same (r1.mono t8))) (s.lock h1 rfl) (tk.step e8)) pins s0 I2
end
end DL
namespace DL
open PySem PySem.Spec PyProof.Rows L2
/-! a, b = x, y -/
def isStarred : Expr → Bool
  | .Starred .. => true
  | _ => false
def swapN (sc : Scope) (ts : List Expr) : List Str := ts.filterMap fun
  | .Name id pos => if sc.names.lookup id == some .local && pos.line == (ts.head?.map (·.pos.line)).getD 0 then some id else none
  | _ => none
def swapR (sc : Scope) (ts vs : List Expr) : Option (Option (List Str)) :=
  if (!(ts.length == 2 || ts.length == 3) || vs.length != ts.length) = true then some none
  else if vs.any isStarred = true then some none
  else if ((swapN sc ts).length != ts.length || (swapN sc ts).eraseDups.length != (swapN sc ts).length) = true then some none
  else if vs.all (foldedForSure 8) = true then some none
  else if vs.all (constantsAlone 8) = true then none else some (some (swapN sc ts))
theorem swap_ok {env : PySem.Env} {ts vs : List Expr} {k k2 : Nat} {p p2 : Pos} {r : Option (List Str)} (hk : env.scope.kind = .function) (h : swapR env.scope ts vs = some r) : swappedStores [.Tuple ts k p] (.Tuple vs k2 p2) env = pure r := by
  have hb : env.blockKind = .function := by unfold Env.blockKind; rw [hk]; rfl
  unfold swapR at h
  unfold swappedStores
  dsimp only
  rw [hb]
  have e0 : (ScopeKind.function != ScopeKind.function) = false := by decide
  rw [e0, Bool.or_false]
  show (if (!(ts.length == 2 || ts.length == 3) || vs.length != ts.length) = true then pure none else
    if (vs.any isStarred) = true then pure none else
    if ((swapN env.scope ts).length != ts.length || (swapN env.scope ts).eraseDups.length != (swapN env.scope ts).length) = true then pure none else
    if vs.all (foldedForSure 8) = true then pure none else
    if vs.all (constantsAlone 8) = true then (do unsupported "assign.tuple-of-constant-expressions:order-of-the-stores"; pure (some (swapN env.scope ts)))
    else pure (some (swapN env.scope ts)) : Sem (Option (List Str))) = pure r
  by_cases c1 : (!(ts.length == 2 || ts.length == 3) || vs.length != ts.length) = true
  · rw [if_pos c1] at h ⊢
    rw [Option.some.inj h]
  rw [if_neg c1] at h ⊢
  by_cases c2 : vs.any isStarred = true
  · rw [if_pos c2] at h ⊢
    rw [Option.some.inj h]
  rw [if_neg c2] at h ⊢
  by_cases c3 : ((swapN env.scope ts).length != ts.length || (swapN env.scope ts).eraseDups.length != (swapN env.scope ts).length) = true
  · rw [if_pos c3] at h ⊢
    rw [Option.some.inj h]
  rw [if_neg c3] at h ⊢
  by_cases c4 : vs.all (foldedForSure 8) = true
  · rw [if_pos c4] at h ⊢
    rw [Option.some.inj h]
  rw [if_neg c4] at h ⊢
  by_cases c5 : vs.all (constantsAlone 8) = true
  · rw [if_pos c5] at h
    cases h
  rw [if_neg c5] at h ⊢
  rw [Option.some.inj h]
/-- a comprehension's value is stored in the plain way -/
def swapsNo (sc : Scope) (e tg : Expr) : Bool := match e with
  | .ListComp _ _ s p => (match tg with
    | .Name t q => !(sc.names.lookup t == some .local && q.line == p.line && !(s.names.any fun (n, k) => n == t && (k == .local || k == .cell)))
    | _ => true)
  | .SetComp .. => false | .DictComp .. => false
  | _ => true
theorem swapsNo_ok {env : PySem.Env} {e tg : Expr} {l : Nat} (hk : env.scope.kind = .function) (h : swapsNo env.scope e tg = true) : swapsWith e (some tg) l env = pure false := by
  have hb : env.blockKind = .function := by unfold Env.blockKind; rw [hk]; rfl
  cases e with
  | ListComp a b s p =>
    cases tg with
    | Name t q =>
      have h : (!(env.scope.names.lookup t == some .local && q.line == p.line && !(s.names.any fun (n, k) => n == t && (k == .local || k == .cell)))) = true := h
      rw [Bool.not_eq_true'] at h
      unfold swapsWith
      show (pure (env.blockKind == .function && env.scope.names.lookup t == some .local && q.line == p.line && !(s.names.any fun (n, k) => n == t && (k == .local || k == .cell))) : Sem Bool) = pure false
      have e0 : (env.blockKind == .function) = true := by rw [hb]; decide
      rw [e0, Bool.true_and, h]
    | _ => rfl
  | SetComp a b s p => cases h
  | DictComp a a2 b s p => cases h
  | _ => rfl
section
variable {X : Cx} {tg e o i : Expr} {es : List Expr} {S S' : List Nat} {pos : Pos} {te to ti : DE} {tas : DA}
theorem qs_asgN {g : DG} (he : QE X e te) (hg : QG X tg S g) (hk : X.env.scope.kind = .function) (hn : swapsNo X.env.scope e tg = true) (hw : noSwap tg e = true) (hs : noStar tg = true) : QS X (.Assign [tg] e pos) (sAsg te g) := by
  refine ⟨fun D ρ G σ H h rs s tk => ?_⟩
  refine PS.ws (ps_asg pe_max pg_max (swapsNo_ok hk hn) (swapped_no hw) (by rw [assignEach_cons hs]; rfl)) ?_
  refine (he.run ρ G _ _ σ H h rs s (tk.tk rs)).imp fun v H1 ⟨x, G1, rx, s1, e1, q1⟩ => ?_
  exact (hg.run x ρ G1 _ _ v σ H1 q1 rx (rs.mono e1.tup) s1 (tk.step e1)).imp fun σ2 H2 ⟨_, ρ2, G2, rs2, s2, e2, q2⟩ => ⟨ρ2, G2, rs2, s2, e1.trans e2, q2⟩
def sPar2 (i j : Nat) (tas : DA) : DS := fun D ρ G => tas ρ G (fun ds G1 => match ds with
  | [a, b] => D.nx ((ρ.set i (some a)).set j (some b)) G1
  | _ => False) fun z => D.ex z ρ
theorem qs_par2 {i j : Nat} {x y : Str} {a b : Expr} {px py pt : Pos} {kt k2 : Nat} {pt2 : Pos} (hc : X.calm = true) (hN : X.N.Nodup) (hi : X.N[i]? = some x) (hj : X.N[j]? = some y) (hij : i ≠ j)
    (hx : X.env.scope.names.lookup x = some .local) (hy : X.env.scope.names.lookup y = some .local) (ha : QA X [a, b] tas) (hk : X.env.scope.kind = .function)
    (hw : swapR X.env.scope [.Name x px, .Name y py] [a, b] = some (some [x, y])) : QS X (.Assign [.Tuple [.Name x px, .Name y py] kt pt] (.Tuple [a, b] k2 pt2) pos) (sPar2 i j tas) := by
  refine ⟨fun D ρ G σ H h rs s tk => ?_⟩
  refine PS.ws (ps_par hc hN hi hj hij hx hy pa_max (swap_ok hk hw) rfl) ((ha.run ρ G _ _ σ H h rs s (tk.tk rs)).imp fun vs H1 ⟨ds, G1, r1, s1, e1, q1⟩ => ?_)
  dsimp only at q1
  split at q1
  · obtain ⟨v, u, rfl, ra, rb⟩ := r1.two
    exact ⟨v, u, rfl, _, G1, ((rs.mono e1.tup).set i ra).set j rb, s1, e1, q1⟩
  · exact q1.elim
theorem Reps.three {K : PySem.W.Frag} {H : Hp} {vs : List V} {d e f : D} (h : Reps K H vs [d, e, f]) : ∃ v u w, vs = [v, u, w] ∧ Rep K H v d ∧ Rep K H u e ∧ Rep K H w f := by
  cases h with
  | cons a b =>
    obtain ⟨u, w, rfl, r, q⟩ := b.two
    exact ⟨_, u, w, rfl, a, r, q⟩
def sPar3 (i j l : Nat) (tas : DA) : DS := fun D ρ G => tas ρ G (fun ds G1 => match ds with
  | [a, b, c] => D.nx (((ρ.set i (some a)).set j (some b)).set l (some c)) G1
  | _ => False) fun z => D.ex z ρ
theorem qs_par3 {i j l : Nat} {x y z : Str} {a b c : Expr} {px py pz pt : Pos} {kt k2 : Nat} {pt2 : Pos} (hc : X.calm = true) (hN : X.N.Nodup) (hi : X.N[i]? = some x) (hj : X.N[j]? = some y) (hl : X.N[l]? = some z) (hij : i ≠ j) (hil : i ≠ l) (hjl : j ≠ l)
    (hx : X.env.scope.names.lookup x = some .local) (hy : X.env.scope.names.lookup y = some .local) (hz : X.env.scope.names.lookup z = some .local) (ha : QA X [a, b, c] tas) (hk : X.env.scope.kind = .function)
    (hw : swapR X.env.scope [.Name x px, .Name y py, .Name z pz] [a, b, c] = some (some [x, y, z])) : QS X (.Assign [.Tuple [.Name x px, .Name y py, .Name z pz] kt pt] (.Tuple [a, b, c] k2 pt2) pos) (sPar3 i j l tas) := by
  refine ⟨fun D ρ G σ H h rs s tk => ?_⟩
  refine PS.ws (ps_par3 hc hN hi hj hl hij hil hjl hx hy hz pa_max (swap_ok hk hw) rfl) ((ha.run ρ G _ _ σ H h rs s (tk.tk rs)).imp fun vs H1 ⟨ds, G1, r1, s1, e1, q1⟩ => ?_)
  dsimp only at q1
  split at q1
  · obtain ⟨v, u, w, rfl, ra, rb, rc⟩ := r1.three
    exact ⟨v, u, w, rfl, _, G1, (((rs.mono e1.tup).set i ra).set j rb).set l rc, s1, e1, q1⟩
  · exact q1.elim
/-- a tuple of targets from a written tuple, one by one -/
theorem qs_asgT {g : DG} {ts vs : List Expr} {k k2 : Nat} {p1 p2 : Pos} (he : QE X (.Tuple vs k2 p2) te) (hg : QG X (.Tuple ts k p1) S g) (hk : X.env.scope.kind = .function) (hw : swapR X.env.scope ts vs = some none) : QS X (.Assign [.Tuple ts k p1] (.Tuple vs k2 p2) pos) (sAsg te g) := by
  refine ⟨fun D ρ G σ H h rs s tk => ?_⟩
  refine PS.ws (ps_asg pe_max pg_max rfl (swap_ok hk hw) rfl) ?_
  refine (he.run ρ G _ _ σ H h rs s (tk.tk rs)).imp fun v H1 ⟨x, G1, rx, s1, e1, q1⟩ => ?_
  exact (hg.run x ρ G1 _ _ v σ H1 q1 rx (rs.mono e1.tup) s1 (tk.step e1)).imp fun σ2 H2 ⟨_, ρ2, G2, rs2, s2, e2, q2⟩ => ⟨ρ2, G2, rs2, s2, e1.trans e2, q2⟩
/-! list comprehensions -/
theorem wipe_get {σ : L2.St} {j : Nat} : ∀ {vs : List Nat}, (L2.wipe σ vs)[j]? = if j ∈ vs ∧ j < σ.length then some none else σ[j]?
  | [] => by simp [L2.wipe]
  | v :: vs => by
    unfold L2.wipe
    rw [List.getElem?_set, wipe_length, wipe_get]
    by_cases hv : v = j
    · subst hv
      by_cases hl : v < σ.length
      · simp [hl]
      · simp [hl]
    · simp [hv]
      by_cases hm : j ∈ vs
      · simp [hm]
      · simp [hm, Ne.symm hv]
theorem wipe_only {σ σ2 : L2.St} {vs : List Nat} (h : Only vs (L2.wipe σ vs) σ2) : L2.wipe σ2 vs = L2.wipe σ vs := by
  apply List.ext_getElem?
  intro j
  have hl : σ2.length = σ.length := h.1.trans (wipe_length σ vs)
  rw [wipe_get, wipe_get, hl]
  by_cases hj : j ∈ vs
  · by_cases hjl : j < σ.length
    · rw [if_pos ⟨hj, hjl⟩, if_pos ⟨hj, hjl⟩]
    · rw [if_neg (fun z => hjl z.2), if_neg (fun z => hjl z.2), List.getElem?_eq_none (by omega), List.getElem?_eq_none (by omega)]
  · rw [if_neg (fun z => hj z.1), if_neg (fun z => hj z.1), h.2 j hj, wipe_get, if_neg (fun z => hj z.1)]
/-- the next turn, with fewer cells -/
def Less (N : Sto → Prop) : Sto → Prop := fun G => ∃ G', Dn G G' ∧ N G'
theorem Less.of {N : Sto → Prop} {G : Sto} (h : N G) : Less N G := ⟨G, .refl, h⟩
def lcL (g : DG) (tt : DT) (te : DE) (ρ0 : Ev) (keep : Sto → Prop) (fin : List D → Sto → Prop) : List D → List D → Sto → Prop
  | [], acc, G => keep G ∧ fin acc G
  | x :: xs, acc, G => keep G ∧ g x ρ0 G (fun ρ1 G1 => tt ρ1 G1 (fun b G2 => if b = true then te ρ1 G2 (fun d G3 => acc.length < sizeLine ∧ Less (lcL g tt te ρ0 keep fin xs (acc ++ [d])) G3) (fun _ _ => False) else Less (lcL g tt te ρ0 keep fin xs acc) G2) (fun _ _ => False)) (fun _ _ _ => False)
@[irreducible] def lcS (g : DG) (tt : DT) (te : DE) (ρ0 : Ev) (keep : Sto → Prop) (fin : List D → Sto → Prop) (items acc : List D) (G : Sto) : Prop := lcL g tt te ρ0 keep fin items acc G
theorem lcS_eq {g : DG} {tt : DT} {te : DE} {ρ0 : Ev} {keep : Sto → Prop} {fin : List D → Sto → Prop} {items acc : List D} {G : Sto} : lcS g tt te ρ0 keep fin items acc G = lcL g tt te ρ0 keep fin items acc G := by unfold lcS; rfl
def dLcF (wi : DI) (g : DG) (tt : DT) (te : DE) (vs : List Nat) (ρ : Ev) (G : Sto) (fin : List D → Sto → Prop) (xq : XQ) : Prop := wi ρ G (fun items keep G1 => lcS g tt te (wipeD ρ vs) keep fin items [] G1) xq
def dLc (wi : DI) (g : DG) (tt : DT) (te : DE) (vs : List Nat) : DE := fun ρ G Q xq => dLcF wi g tt te vs ρ G (fun acc G2 => ∀ p, G2 p = none → Q (.ref p) (put G2 p (.lst acc))) xq
/-- its list by value -/
def dLcV (wi : DI) (g : DG) (tt : DT) (te : DE) (vs : List Nat) : DE := fun ρ G Q xq => dLcF wi g tt te vs ρ G (fun acc G2 => Q (.rl acc) G2) xq
def WTs (X : Cx) (ifs : List Expr) : TT := fun σ H Q => ∀ pins s, Inv X pins σ H s → wpAny (model X.prog X.w) X.A (forIn ifs true fun c r => if r = true then do let ok ← isTrue c X.env (eval c X.env); pure (ForInStep.yield ok) else pure (ForInStep.yield r)) (TP X pins σ Q) X.xe s
structure QTs (X : Cx) (ifs : List Expr) (t : DT) : Prop where
  run : ∀ ρ G Q xq σ H, t ρ G Q xq → RepS X.K H σ ρ → Sim X.K G H → Tk X σ G H xq → WTs X ifs σ H (LiftB X.K G H Q)
def dYes : DT := fun _ G Q _ => Q true G
theorem qts_nil : QTs X [] dYes := ⟨fun ρ G Q xq σ H h rs s tk pins s0 I => (pts_nil (X := X)).run pins s0 σ H _ I ⟨G, s, .refl, h⟩⟩
theorem qts_one {c : Expr} {tc : DT} (h : QT X c tc) : QTs X [c] tc := ⟨fun ρ G Q xq σ H q rs s tk pins s0 I => (pts_one pt_max).run pins s0 σ H _ I (h.run ρ G Q xq σ H q rs s tk)⟩
theorem WTs.imp {ifs : List Expr} {σ : L2.St} {H : Hp} {Q Q' : Bool → Hp → Prop} (h : WTs X ifs σ H Q) (i : ∀ v H', Q v H' → Q' v H') : WTs X ifs σ H Q' := fun pins s I => thn (h pins s I) fun _ _ ⟨H', I', q⟩ => ⟨H', I', i _ _ q⟩
/-- the contexts of the block -/
abbrev Blk (X : Cx) (scope : Scope) (Y : Cx) : Prop := ∃ s H C cl fp, Y = X.blk s H scope (compEnvC scope cl C X.env) fp
section
variable {elt iter : Expr} {ifs : List Expr} {scope : Scope} {own : List (Str × Nat)} {wi : DI} {g : DG} {tt : DT}
/-- the readings that serve in all of the block's contexts -/
def BG (X : Cx) (scope : Scope) (tg : Expr) : TG := fun v σ H Q => ∀ Y, Blk X scope Y → WG Y tg v σ H Q
def BT (X : Cx) (scope : Scope) (ifs : List Expr) : TT := fun σ H Q => ∀ Y, Blk X scope Y → WTs Y ifs σ H Q
def BE (X : Cx) (scope : Scope) (e : Expr) : TE := fun σ H Q => ∀ Y, Blk X scope Y → WE Y e σ H Q
theorem pg_blk (s : Shared) (H : Hp) (C : Addr) (cl : List (Str × Addr)) (fp : List Addr) : PG (X.blk s H scope (compEnvC scope cl C X.env) fp) tg (BG X scope tg) := ⟨fun pins s0 σ H' v u Q I r h => h _ ⟨s, H, C, cl, fp, rfl⟩ pins s0 u I r⟩
theorem pts_blk (s : Shared) (H : Hp) (C : Addr) (cl : List (Str × Addr)) (fp : List Addr) : PTs (X.blk s H scope (compEnvC scope cl C X.env) fp) ifs (BT X scope ifs) := ⟨fun pins s0 σ H' Q I h => h _ ⟨s, H, C, cl, fp, rfl⟩ pins s0 I⟩
theorem pe_blk (s : Shared) (H : Hp) (C : Addr) (cl : List (Str × Addr)) (fp : List Addr) : PE (X.blk s H scope (compEnvC scope cl C X.env) fp) elt (BE X scope elt) := ⟨fun pins s0 σ H' Q I h => h _ ⟨s, H, C, cl, fp, rfl⟩ pins s0 I⟩
theorem HotX.blk {H : Hp} {Y : Cx} (h : HotX X H) (hY : Blk X scope Y) : HotX Y H := by
  obtain ⟨_, _, _, _, _, rfl⟩ := hY
  exact h
theorem nol {vs : List V} : ∀ ps, HO.lst vs ≠ .tbl ps := fun _ z => by cases z
/-- the comprehension behind its iterator -/
theorem lc_it (hg : ∀ Y, Blk X scope Y → QG Y tg S g) (ht : ∀ Y, Blk X scope Y → QTs Y ifs tt) (he : ∀ Y, Blk X scope Y → QE Y elt te) (hS : ∀ j ∈ S, j ∈ own.map (·.2))
    {ρ : Ev} {G G1 : Sto} {fin : List D → Sto → Prop} {R : VK} {σ : L2.St} {H H' : Hp} {J : It} {items : List D} {keep : Sto → Prop} (IR : ItRep X.K H' J items keep) (sm : Sim X.K G1 H') (e1 : Ext X.K G H G1 H') (q : lcL g tt te (wipeD ρ (own.map (·.2))) keep fin items [] G1) (rs : RepS X.K H σ ρ) (hot : HotX X H)
    (hR : ∀ Dw acc vs G' H2, fin acc G' → H2 Dw = some (.lst vs) → Reps X.K H2 vs acc → G' Dw = none → Sim X.K G' H2 → Ext X.K G H G' H2 → (∀ o, H Dw = some o → (∀ ps, o ≠ .tbl ps) → G Dw = none → False) → R (.ref Dw) H2) :
    ∀ Dw, H' Dw = none → ∃ W : Nat → Nat → Hp → Prop, (∀ i m H2, W i m H2 → TupExt X.K H' H2) ∧ (∃ m, W 0 m (upd H' Dw (.lst []))) ∧ ∀ i m H2, W i m H2 →
      (J.stop i H2 ∧ R (.ref Dw) H2) ∨ (J.go i H2 ∧ ∃ Nx : Hp → Prop, (∀ H3, Nx H3 → ∃ m', m' < m ∧ W (i + 1) m' H3) ∧ ∀ x H3, J.yld i H2 x H3 → BG X scope tg x (L2.wipe σ (own.map (·.2))) H3 fun σ2 H4 => L2.wipe σ2 (own.map (·.2)) = L2.wipe σ (own.map (·.2)) ∧ BT X scope ifs σ2 H4 fun b H5 =>
        if b = true then BE X scope elt σ2 H5 fun y H6 => ∃ acc, H6 Dw = some (.lst acc) ∧ acc.length < sizeLine ∧ Nx (upd H6 Dw (.lst (acc ++ [y]))) else Nx H5) := by
  intro Dw hD
  have gD : G1 Dw = none := sm.free hD
  refine ⟨fun i m H2 => m = items.length - i ∧ i ≤ items.length ∧ ∃ acc vs G', Reps X.K H2 vs acc ∧ H2 Dw = some (.lst vs) ∧ G' Dw = none ∧ Sim X.K G' H2 ∧ Ext X.K G1 H' G' H2 ∧
    lcL g tt te (wipeD ρ (own.map (·.2))) keep fin (items.drop i) acc G', fun i m H2 ⟨_, _, _, _, _, _, _, _, _, z, _⟩ => z.tup, ⟨_, rfl, Nat.zero_le _, [], [], G1, .nil, upd_same, gD, sm.newT hD, .newT hD, q⟩, ?_⟩
  rintro i m H2 ⟨rfl, hi2, acc, vs, G', ra, hd, gn, sm', e', q'⟩
  by_cases hlt : i < items.length
  · right
    rw [List.drop_eq_getElem_cons hlt] at q'
    obtain ⟨kp, q'⟩ := q'
    refine ⟨IR.go i G' H2 e'.tup sm' kp hlt, fun H3 => ∃ acc vs G', Reps X.K H3 vs acc ∧ H3 Dw = some (.lst vs) ∧ G' Dw = none ∧ Sim X.K G' H3 ∧ Ext X.K G1 H' G' H3 ∧
      lcL g tt te (wipeD ρ (own.map (·.2))) keep fin (items.drop (i + 1)) acc G', fun H3 z => ⟨_, by omega, rfl, hlt, z⟩, fun x H4 y => ?_⟩
    obtain ⟨d, hd4, rd, sm4, e4⟩ := IR.yld i G' H2 x H4 e'.tup sm' kp hlt y
    have ed : d = items[i] := by
      rw [List.getElem?_eq_getElem hlt] at hd4
      exact (Option.some.inj hd4).symm
    subst ed
    have e04 := e1.trans (e'.trans e4)
    have rw4 : RepS X.K H4 (L2.wipe σ (own.map (·.2))) (wipeD ρ (own.map (·.2))) := (rs.mono e04.tup).wipe _
    have dn4 := e4.frm Dw _ hd nol gn
    have hot4 : HotX X H4 := hot.mono e04.tup
    intro Y hY
    have hYK : Y.K = X.K := by obtain ⟨_, _, _, _, _, rfl⟩ := hY; rfl
    refine ((hg Y hY).run _ _ G' _ _ x _ H4 q' (by rw [hYK]; exact rd) (by rw [hYK]; exact rw4) (by rw [hYK]; exact sm4) (TkS.never (hot4.blk hY))).imp fun σ5 H5 ⟨o5, ρ5, G5, r5, s5, e5, q5⟩ => ?_
    rw [hYK] at r5 s5 e5
    refine ⟨wipe_only (o5.mono hS), ?_⟩
    have dn5 := e5.frm Dw _ dn4.1 nol dn4.2
    intro Y hY
    have hYK : Y.K = X.K := by obtain ⟨_, _, _, _, _, rfl⟩ := hY; rfl
    refine ((ht Y hY).run ρ5 G5 _ _ σ5 H5 q5 (by rw [hYK]; exact r5) (by rw [hYK]; exact s5) (Tk.never ((hot4.mono e5.tup).blk hY))).imp fun b H6 ⟨G6, s6, e6, q6⟩ => ?_
    rw [hYK] at s6 e6
    have dn6 := e6.frm Dw _ dn5.1 nol dn5.2
    have e16 := ((e'.trans e4).trans e5).trans e6
    cases b with
    | true =>
      simp only [if_true] at q6 ⊢
      intro Y hY
      have hYK : Y.K = X.K := by obtain ⟨_, _, _, _, _, rfl⟩ := hY; rfl
      refine ((he Y hY).run ρ5 G6 _ _ σ5 H6 q6 (by rw [hYK]; exact r5.mono e6.tup) (by rw [hYK]; exact s6) (Tk.never (((hot4.mono e5.tup).mono e6.tup).blk hY))).imp fun v7 H7 ⟨d7, G7', r7, s7', e7', hl7, G7, dd7, q7⟩ => ?_
      rw [hYK] at r7 s7' e7'
      have s7 := dd7.sim s7'
      have e7 := e7'.trans (dd7.ext (K := X.K) (H := H7))
      have dn7 := e7.frm Dw _ dn6.1 nol dn6.2
      have e17 := e16.trans e7
      have ra7 : Reps X.K H7 vs acc := ra.mono ((e4.trans (e5.trans (e6.trans e7))).tup)
      have t8 : TupExt X.K H7 (upd H7 Dw (.lst (vs ++ [v7]))) := tup_mut dn7.1 rfl
      refine ⟨vs, dn7.1, by rw [ra7.length]; exact hl7, acc ++ [d7], vs ++ [v7], G7, (ra7.append (.cons r7 .nil)).mono t8, upd_same, dn7.2, ?_, ?_, q7⟩
      · intro a c hac
        have ne : a ≠ Dw := fun z => by
          subst z
          rw [dn7.2] at hac
          cases hac
        exact (s7 a c hac).mono t8 (upd_ne ne)
      · refine ⟨e17.tup.trans t8, fun a o z1 zn z2 => ?_⟩
        have ne : a ≠ Dw := fun z => by
          subst z
          rw [hD] at z1
          cases z1
        rw [upd_ne ne]
        exact e17.frm a o z1 zn z2
    | false =>
      simp only [Bool.false_eq_true, if_false] at q6 ⊢
      obtain ⟨G7, dd7, q7⟩ := q6
      exact ⟨acc, vs, G7, ra.mono ((e4.trans (e5.trans e6)).tup), dn6.1, dd7.non dn6.2, dd7.sim s6, e16.trans dd7.ext, q7⟩
  · left
    have ei : i = items.length := by omega
    subst ei
    rw [List.drop_length] at q'
    have hH : ∀ o, H Dw = some o → (∀ ps, o ≠ .tbl ps) → G Dw = none → False := fun o z zn g0 => by
      have z3 := e1.frm Dw o z zn g0
      rw [hD] at z3
      cases z3.1
    exact ⟨IR.stop _ G' H2 e'.tup sm' q'.1 (Nat.le_refl _), hR Dw acc vs G' H2 q'.2 hd ra gn sm' (e1.trans e') hH⟩
theorem lc_ (hi : QI X tg iter wi) (hg : ∀ Y, Blk X scope Y → QG Y tg S g) (ht : ∀ Y, Blk X scope Y → QTs Y ifs tt) (he : ∀ Y, Blk X scope Y → QE Y elt te) (hS : ∀ j ∈ S, j ∈ own.map (·.2))
    {ρ : Ev} {G : Sto} {fin : List D → Sto → Prop} {R : VK} {xq : XQ} {σ : L2.St} {H : Hp} (h : dLcF wi g tt te (own.map (·.2)) ρ G fin xq) (rs : RepS X.K H σ ρ) (s : Sim X.K G H) (tk : Tk X σ G H xq)
    (hR : ∀ Dw acc vs G' H2, fin acc G' → H2 Dw = some (.lst vs) → Reps X.K H2 vs acc → G' Dw = none → Sim X.K G' H2 → Ext X.K G H G' H2 → (∀ o, H Dw = some o → (∀ ps, o ≠ .tbl ps) → G Dw = none → False) → R (.ref Dw) H2) :
    tLc (WI X tg iter) (BG X scope tg) (BT X scope ifs) (BE X scope elt) (own.map (·.2)) σ H R := by
  refine fun pins s0 I => thn (hi.run ρ G _ _ σ H h rs s tk pins s0 I) fun v s1 h1 => thn h1 fun itv s2 h2 => ?_
  obtain ⟨it, fp, tn, J, H', x1, x2, x3, x4, x5, items, keep, G1, IR, sm, e1, q⟩ := h2
  rw [lcS_eq] at q
  refine ⟨it, fp, tn, J, H', x1, x2, x3, x4, x5, fun Dw hD => ?_⟩
  obtain ⟨W, _, w⟩ := lc_it hg ht he hS IR sm e1 q rs tk.hot hR Dw hD
  exact ⟨W, w⟩
theorem lc_track {K : PySem.W.Frag} {Dw : Addr} {acc : List D} {vs : List V} {G G' : Sto} {H H2 : Hp} {Q : DQ} (q : ∀ p, G' p = none → Q (.ref p) (put G' p (.lst acc))) (hd : H2 Dw = some (.lst vs)) (ra : Reps K H2 vs acc) (gn : G' Dw = none) (sm : Sim K G' H2) (e : Ext K G H G' H2)
    (hn : ∀ o, H Dw = some o → (∀ ps, o ≠ .tbl ps) → G Dw = none → False) : Lift K G H Q (.ref Dw) H2 := by
  refine ⟨.ref Dw, put G' Dw (.lst acc), .ref Dw, fun a c hac => ?_, ⟨e.tup, fun a o z1 zn z2 => ?_⟩, q Dw gn⟩
  · by_cases ea : a = Dw
    · subst ea
      rw [put_same] at hac
      cases hac
      exact ⟨vs, hd, ra⟩
    · rw [put_ne ea] at hac
      exact sm a c hac
  · have ne : a ≠ Dw := fun z => by
      subst z
      exact hn o z1 zn z2
    rw [put_ne ne]
    exact e.frm a o z1 zn z2
theorem lc_lock {K : PySem.W.Frag} {Dw : Addr} {acc : List D} {vs : List V} {G G' : Sto} {H H2 : Hp} {Q : DQ} {od : Obj} (q : Q (.rl acc) G') (hd : H2 Dw = some (.lst vs)) (ra : Reps K H2 vs acc) (gn : G' Dw = none) (sm : Sim K G' H2) (e : Ext K G H G' H2)
    (hn : ∀ o, H Dw = some o → (∀ ps, o ≠ .tbl ps) → G Dw = none → False) : Lift K G H Q (.ref Dw) (upd H2 Dw (.frz od (.lst vs))) := by
  have t8 : TupExt K H2 (upd H2 Dw (.frz od (.lst vs))) := tup_mut hd rfl
  refine ⟨.rl acc, G', .rl upd_same (ra.mono t8), fun a c hac => ?_, ⟨e.tup.trans t8, fun a o z1 zn z2 => ?_⟩, q⟩
  · have ne : a ≠ Dw := fun z => by
      subst z
      rw [gn] at hac
      cases hac
    exact (sm a c hac).mono t8 (upd_ne ne)
  · have ne : a ≠ Dw := fun z => by
      subst z
      exact hn o z1 zn z2
    rw [upd_ne ne]
    exact e.frm a o z1 zn z2
theorem qe_lc (hc : X.calm = true) (hN : X.N.Nodup) (hi : QI X tg iter wi) (ok : BlkOk X.N X.env.scope scope own) (hg : ∀ Y, Blk X scope Y → QG Y tg S g) (ht : ∀ Y, Blk X scope Y → QTs Y ifs tt) (he : ∀ Y, Blk X scope Y → QE Y elt te) (hS : ∀ j ∈ S, j ∈ own.map (·.2)) (hs : noSet iter = true) :
    QE X (.ListComp elt [⟨tg, iter, ifs, 0⟩] scope pos) (dLc wi g tt te (own.map (·.2))) :=
  ⟨fun ρ G Q xq σ H h rs s tk => PE.we (pe_lc hc hN pi_max ok pg_blk pts_blk pe_blk (folded_no hs)) (lc_ hi hg ht he hS h rs s tk fun Dw acc vs G' H2 a b c d e f g => lc_track a b c d e f g)⟩
theorem qe_lcV (hc : X.calm = true) (hN : X.N.Nodup) (hi : QI X tg iter wi) (ok : BlkOk X.N X.env.scope scope own) (hg : ∀ Y, Blk X scope Y → QG Y tg S g) (ht : ∀ Y, Blk X scope Y → QTs Y ifs tt) (he : ∀ Y, Blk X scope Y → QE Y elt te) (hS : ∀ j ∈ S, j ∈ own.map (·.2)) (hs : noSet iter = true) :
    QE X (.ListComp elt [⟨tg, iter, ifs, 0⟩] scope pos) (dLcV wi g tt te (own.map (·.2))) :=
  ⟨fun ρ G Q xq σ H h rs s tk => WE.lock (PE.we (pe_lc hc hN pi_max ok pg_blk pts_blk pe_blk (folded_no hs)) (lc_ hi hg ht he hS h rs s tk fun Dw acc vs G' H2 a b c d e f g => ⟨Dw, vs, rfl, b, fun od => lc_lock a b c d e f g⟩))⟩
/-- y = [..], y a local, on one line -/
theorem qs_setLc {i : Nat} {y : Str} {py spos : Pos} (hc : X.calm = true) (hN : X.N.Nodup) (hy : X.N[i]? = some y) (hyl : X.env.scope.names.lookup y = some .local)
    (hsw : swapsWith (.ListComp elt [⟨tg, iter, ifs, 0⟩] scope pos) (some (.Name y py)) spos.line X.env = pure true)
    (hi : QI X tg iter wi) (ok : BlkOk X.N X.env.scope scope own) (hg : ∀ Y, Blk X scope Y → QG Y tg S g) (ht : ∀ Y, Blk X scope Y → QTs Y ifs tt) (he : ∀ Y, Blk X scope Y → QE Y elt te) (hS : ∀ j ∈ S, j ∈ own.map (·.2)) (hs : noSet iter = true) :
    QS X (.Assign [.Name y py] (.ListComp elt [⟨tg, iter, ifs, 0⟩] scope pos) spos) (sAsg (dLc wi g tt te (own.map (·.2))) (gNm i)) := by
  refine ⟨fun D ρ G σ H h rs s tk => ?_⟩
  refine PS.ws (ps_setLc hc hN hy hyl hsw pi_max ok pg_blk pts_blk pe_blk (folded_no hs)) ?_
  have m := lc_ hi hg ht he hS h rs s (tk.tk rs) (R := Lift X.K G H (fun x G1 => D.nx (ρ.set i (some x)) G1)) fun Dw acc vs G' H2 a b c d e f g => lc_track (Q := fun x G1 => D.nx (ρ.set i (some x)) G1) a b c d e f g
  refine fun pins s0 I => thn (m pins s0 I) fun v s1 h1 => thn h1 fun itv s2 ⟨it, fp, tn, J, H', x1, x2, x3, x4, x5, q⟩ => ⟨it, fp, tn, J, H', x1, x2, x3, x4, x5, fun Dw hD => ?_⟩
  obtain ⟨W, w0, turn⟩ := q Dw hD
  refine ⟨W, w0, fun j m H2 w2 => ?_⟩
  rcases turn j m H2 w2 with ⟨st, d, G2, r2, s2, e2, q2⟩ | z
  · exact .inl ⟨st, _, G2, (rs.mono e2.tup).set i r2, s2, e2, q2⟩
  · exact .inr z
theorem WS.lockN {st : Stmt} {D : Ends} {σ : L2.St} {H : Hp} (h : WS X st ⟨fun σ' H' => ∃ p vs, H' p = some (.lst vs) ∧ ∀ od, D.nx σ' (upd H' p (.frz od (.lst vs))), D.rt, D.bk, D.ct⟩ σ H) : WS X st D σ H := fun pins s I =>
  thn (h pins s I) fun f s' q => by
    cases f with
    | next =>
      obtain ⟨σ', H', I', p, vs, hp, q⟩ := q
      obtain ⟨od, I2⟩ := I'.lock hp True.intro
      exact ⟨σ', _, I2, q od⟩
    | brk => exact q
    | cont => exact q
    | ret u => exact q
theorem qs_setLcV {i : Nat} {y : Str} {py spos : Pos} (hc : X.calm = true) (hN : X.N.Nodup) (hy : X.N[i]? = some y) (hyl : X.env.scope.names.lookup y = some .local)
    (hsw : swapsWith (.ListComp elt [⟨tg, iter, ifs, 0⟩] scope pos) (some (.Name y py)) spos.line X.env = pure true)
    (hi : QI X tg iter wi) (ok : BlkOk X.N X.env.scope scope own) (hg : ∀ Y, Blk X scope Y → QG Y tg S g) (ht : ∀ Y, Blk X scope Y → QTs Y ifs tt) (he : ∀ Y, Blk X scope Y → QE Y elt te) (hS : ∀ j ∈ S, j ∈ own.map (·.2)) (hs : noSet iter = true) :
    QS X (.Assign [.Name y py] (.ListComp elt [⟨tg, iter, ifs, 0⟩] scope pos) spos) (sAsg (dLcV wi g tt te (own.map (·.2))) (gNm i)) := by
  refine ⟨fun D ρ G σ H h rs s tk => WS.lockN ?_⟩
  refine PS.ws (ps_setLc hc hN hy hyl hsw pi_max ok pg_blk pts_blk pe_blk (folded_no hs)) ?_
  have m := lc_ hi hg ht he hS h rs s (tk.tk rs) (R := fun v H2 => ∃ p vs, v = .ref p ∧ H2 p = some (.lst vs) ∧ ∀ od, Lift X.K G H (fun x G1 => D.nx (ρ.set i (some x)) G1) (.ref p) (upd H2 p (.frz od (.lst vs)))) fun Dw acc vs G' H2 a b c d e f g => ⟨Dw, vs, rfl, b, fun od => lc_lock (Q := fun x G1 => D.nx (ρ.set i (some x)) G1) a b c d e f g⟩
  refine fun pins s0 I => thn (m pins s0 I) fun v s1 h1 => thn h1 fun itv s2 ⟨it, fp, tn, J, H', x1, x2, x3, x4, x5, q⟩ => ⟨it, fp, tn, J, H', x1, x2, x3, x4, x5, fun Dw hD => ?_⟩
  obtain ⟨W, w0, turn⟩ := q Dw hD
  refine ⟨W, w0, fun j m H2 w2 => ?_⟩
  rcases turn j m H2 w2 with ⟨st, p, vs, ep, hp, q⟩ | z
  · cases ep
    refine .inl ⟨st, Dw, vs, hp, fun od => ?_⟩
    obtain ⟨d, G2, r2, s2, e2, q2⟩ := q od
    exact ⟨_, G2, (rs.mono e2.tup).set i r2, s2, e2, q2⟩
  · exact .inr z
end
end
end DL
namespace DL
open PySem PySem.Spec PyProof.Rows L2
/-! list(range(n)), tuple(range(n)) -/
def rgK (l : Bool) (x : D) (G : Sto) (Q : DQ) : Prop := match x with
  | .int n => (0 ≤ n ∧ n < 16777216) ∧ (if l = true then ∀ p, G p = none → Q (.ref p) (put G p (.lst (rangeD 0 n.toNat))) else Q (.tup (rangeD 0 n.toNat)) G)
  | _ => False
def dRg (l : Bool) (t : DE) : DE := fun ρ G Q xq => t ρ G (fun x G1 => rgK l x G1 Q) xq
theorem reps_map {K : PySem.W.Frag} {H : Hp} (f : Nat → V) (g : Nat → D) (h : ∀ i, Rep K H (f i) (g i)) : ∀ l : List Nat, Reps K H (l.map f) (l.map g)
  | [] => .nil
  | a :: l => .cons (h a) (reps_map f g h l)
theorem reps_rg {K : PySem.W.Frag} {H : Hp} {n : Int} : Reps K H (rgV 0 n) (rangeD 0 n.toNat) := by
  unfold rgV rangeD
  rw [Int.sub_zero]
  exact reps_map _ _ (fun i => .int _) _
section
variable {X : Cx} {e : Expr} {te : DE} {p p2 pos pos2 : Pos}
theorem qe_rgL (hc : X.calm = true) (hg : Gl X "list") (hm : X.mg "list" = none) (hg2 : Gl X "range") (hm2 : X.mg "range" = none) (he : QE X e te) (hn : noStar e = true) (hn2 : noStar (.Call (.Name "range" p2) [e] [] pos2) = true) : QE X (.Call (.Name "list" p) [.Call (.Name "range" p2) [e] [] pos2] [] pos) (dRg true te) := by
  refine ⟨fun ρ G Q xq σ H h rs s tk => ?_⟩
  refine PE.we (pe_listRg hc hg hm (prg_1 hg2 hm2 pe_max (starEach_cons hn)) (starEach_cons hn2)) ((he.run ρ G _ xq σ H h rs s tk).imp fun v H1 ⟨x, G1, rx, s1, e1, q1⟩ => ?_)
  have q1 : rgK true x G1 Q := q1
  unfold rgK at q1
  split at q1
  · cases rx
    obtain ⟨⟨h0, h1⟩, q⟩ := q1
    exact ⟨_, rfl, RgOk.of_le (by decide) (by omega) (by decide) h0, fun q' hq => Lift.back e1 _ _ (lift_lst reps_rg s1 q hq)⟩
  · exact q1.elim
theorem qe_rgT (hc : X.calm = true) (hg : Gl X "tuple") (hm : X.mg "tuple" = none) (hg2 : Gl X "range") (hm2 : X.mg "range" = none) (he : QE X e te) (hn : noStar e = true) (hn2 : noStar (.Call (.Name "range" p2) [e] [] pos2) = true) : QE X (.Call (.Name "tuple" p) [.Call (.Name "range" p2) [e] [] pos2] [] pos) (dRg false te) := by
  refine ⟨fun ρ G Q xq σ H h rs s tk => ?_⟩
  refine PE.we (pe_tupRg hc hg hm (prg_1 hg2 hm2 pe_max (starEach_cons hn)) (starEach_cons hn2)) ((he.run ρ G _ xq σ H h rs s tk).imp fun v H1 ⟨x, G1, rx, s1, e1, q1⟩ => ?_)
  have q1 : rgK false x G1 Q := q1
  unfold rgK at q1
  split at q1
  · cases rx
    obtain ⟨⟨h0, h1⟩, q⟩ := q1
    exact ⟨_, rfl, RgOk.of_le (by decide) (by omega) (by decide) h0, fun q' hq => Lift.back e1 _ _ (lift_tup reps_rg s1 q hq)⟩
  · exact q1.elim
end
end DL
namespace DL
open PySem PySem.Spec PyProof.Rows L2
/-! sorted(t), t a tuple of ints -/
section
variable {prog : Program} {w : World} {A : Around} {E : Value → Shared → Prop} {s : Shared}
theorem collect_tuple {l : Addr} {vs : List Value} {Q : List Value → Shared → Prop} (hl : IsTup s.heap l vs.toArray)
    (h : Q vs { s with heap := (s.heap.push (seqObj "list" #[] 0)).update s.heap.objs.size (Obj.mapSeq (· ++ vs.toArray)) }) (hsz : vs.length ≤ sizeLine) :
    wpAny (model prog w) A (collect (.ref l)) Q E s := by
  obtain ⟨o, ho, hc, n, hd⟩ := id hl
  unfold collect
  refine wpAny_bind (wpAny_runValue (codeAny_builtin entry_proto_collect' ?_))
  show wpAny _ _ (do again (.builtin "list.__iadd__" ⟨[← newList [], .ref l], []⟩)) _ _ s
  refine wpAny_bind (wpAny_newList (wpAny_pure ⟨Code.quiet_builtin _ (by decide +kernel), codeAny_builtin entry_list_iadd' ?_⟩))
  show wpAny _ _ (Builtin.List.listExtendWith (.ref s.heap.objs.size) (.ref l) (.ref s.heap.objs.size)) _ _ { s with heap := s.heap.push (seqObj "list" #[] 0) }
  unfold Builtin.List.listExtendWith
  have ho' : (s.heap.push (seqObj "list" #[] 0)).get? l = some o := Heap.get?_push_of_some _ ho
  refine wpAny_bind (wpAny_typeOf (T := "tuple") ⟨o, ho', hc⟩ ?_)
  have ht : (Value.type "tuple" == Value.type "tuple") = true := by rfl
  rw [if_pos (by rw [ht]; simp)]
  refine wpAny_bind (listItems_at ho' hd ?_)
  refine wpAny_bind (listItems_at (xs := #[]) (n := 0) (Heap.get?_push_size _ rfl) rfl ?_)
  rw [if_neg (by simp)]
  refine wpAny_bind (listUpdate_at (xs := #[]) (n := 0) (Heap.get?_push_size _ rfl) rfl ?_ (Nat.zero_le _) (by show (#[] ++ vs.toArray).size ≤ sizeLine + 1; simp only [Array.size_append, List.size_toArray, List.length_nil]; omega))
  refine wpAny_pure ?_
  show wpAny (model prog w) A (do
      let o ← load s.heap.objs.size
      match o.data with
      | .seq xs _ => pure xs.toList
      | _ => unsupported "internal:collect") Q E { s with heap := (s.heap.push (seqObj "list" #[] 0)).update s.heap.objs.size (Obj.mapSeq (· ++ vs.toArray)) }
  refine wpAny_bind (wpAny_load (get?_update_seq (Heap.get?_push_size _ rfl) _) ?_)
  show wpAny _ _ (pure ((#[] : Array Value) ++ vs.toArray).toList) Q E _
  rw [show ((#[] : Array Value) ++ vs.toArray).toList = vs by simp]
  exact wpAny_pure h
theorem sorted_intsT {l : Addr} {vs : List Value} {ns : List Int} {Q : Value → Shared → Prop} (hl : IsTup s.heap l vs.toArray) (hI : IntsAre vs ns) (h64 : vs.length < 64)
    (h : ∀ (out : Array Value) (ns' : List Int), IntsAre out.toList ns' → ns'.Perm ns → ns'.Pairwise (· ≤ ·) → Q (.ref (s.heap.objs.size + 1)) { s with heap := sortedAll s.heap vs out }) :
    wpAny (model prog w) A (call (.builtin "sorted") [.ref l]) Q E s := by
  refine Calls.call_function_entry kind_sorted plain_sorted entry_sorted (args_sorted1 _) ?_
  unfold Builtin.«sorted»
  refine wpAny_bind (m := checkCount "sorted" 1 1 _) (wpAny_pure ?_)
  refine wpAny_bind (collect_tuple hl ?_ (by rw [sizeLine_eq]; omega))
  refine wpAny_bind (wpAny_newList ?_)
  have hsz : ((s.heap.push (seqObj "list" #[] 0)).update s.heap.objs.size (Obj.mapSeq (· ++ vs.toArray))).objs.size = s.heap.objs.size + 1 := by
    rw [Heap.size_update, size_push']
  have hoL : (((s.heap.push (seqObj "list" #[] 0)).update s.heap.objs.size (Obj.mapSeq (· ++ vs.toArray))).push (seqObj "list" vs.toArray 0)).get? (s.heap.objs.size + 1) = some (seqObj "list" vs.toArray 0) := by
    rw [← hsz]; exact Heap.get?_push_size _ rfl
  show wpAny _ _ _ _ _ { s with heap := ((s.heap.push (seqObj "list" #[] 0)).update s.heap.objs.size (Obj.mapSeq (· ++ vs.toArray))).push (seqObj "list" vs.toArray 0) }
  rw [hsz]
  refine wpAny_bind (wpAny_holding (wpAny_call_entry slot_list_sort ⟨_, hoL, rfl⟩ entry_list_sort (list_sort_tree hoL hI h64 fun out ns' a1 a2 a3 => ⟨_, rfl, ?_⟩) (args_list_sort _)))
  exact wpAny_pure ⟨_, rfl, h out ns' a1 a2 a3⟩
end
section
variable {X : Cx} {e : Expr} {te : DE} {p p2 pos pos2 : Pos}
def rSortedTI (K : PySem.W.Frag) : List V → Hp → VK → Prop := fun vs H Q => ∃ (a : Addr) (ns : List Int), vs = [V.ref a] ∧ SqT K H a (ns.map V.int) ∧ ns.length < 64 ∧
  ∀ (ns' : List Int) (p : Addr), ns'.Perm ns → ns'.Pairwise (· ≤ ·) → H p = none → Q (.ref p) (upd H p (.lst (ns'.map V.int)))
theorem cr_sortedTI : CallR X (.builtin "sorted") (rSortedTI X.K) := by
  intro pins s σ H vs us Q I r h
  obtain ⟨a, ns, rfl, hs, h64, q⟩ := h
  obtain ⟨its, rv, hl, _⟩ := I.tuple hs
  rw [Vals.ref1 r]
  have hi := rv.ints
  refine sorted_intsT hl hi (by rw [hi.length]; exact h64) fun out ns' h1 h2 h3 => ?_
  obtain ⟨ep, he'⟩ := PyProof.Rows.sortedAll_at s.heap its out
  have hlen : (ns'.map V.int).length ≤ sizeLine := by rw [List.length_map, h2.length_eq]; exact small64 h64
  exact ⟨.ref _, upd H (s.heap.objs.size + 1) (.lst (ns'.map V.int)), I.laid (t' := s.toks) (fun _ _ => PyProof.Rows.sortedAll_old) (Nat.le_succ _) ⟨hlen, out.toList, ep, vals_of_ints h1, he'⟩, rfl, q ns' _ h2 h3 (I.hok.fresh (Nat.le_succ _))⟩
end
end DL
namespace DL
open PySem PySem.Spec PyProof.Rows L2 RT
/-! sorted(set(e)), len(set(e)) -/
theorem ddAll_srtS {ns : List Str} : (ddAll (ns.map Sum.inr)).length = (srtO ltS ns).length := by
  have p : (ddAll (ns.map Sum.inr)).Perm ((srtO ltS ns).map (Sum.inr : Str → Key)) :=
    (List.perm_ext_iff_of_nodup nodup_ddAll (List.Pairwise.map _ (fun a b h e => h (by cases e; rfl)) (srtO_nodup linS))).mpr fun z => by
      rw [mem_ddAll]
      cases z with
      | inl i => simp
      | inr x => rw [inr_inj, inr_inj, mem_srtO linS]
  rw [p.length_eq, List.length_map]
theorem ddAll_srtI {ns : List Int} : (ddAll (ns.map Sum.inl)).length = (srtO ltI ns).length := by
  have p : (ddAll (ns.map Sum.inl)).Perm ((srtO ltI ns).map (Sum.inl : Int → Key)) :=
    (List.perm_ext_iff_of_nodup nodup_ddAll (List.Pairwise.map _ (fun a b h e => h (by cases e; rfl)) (srtO_nodup linI))).mpr fun z => by
      rw [mem_ddAll]
      cases z with
      | inl i => rw [inl_inj, inl_inj, mem_srtO linI]
      | inr x => simp
  rw [p.length_eq, List.length_map]
theorem kV_strs (ns : List Str) : (ns.map (Sum.inr : Str → Key)).map kV = ns.map V.str := by rw [List.map_map]; rfl
theorem kV_ints (ns : List Int) : (ns.map (Sum.inl : Int → Key)).map kV = ns.map V.int := by rw [List.map_map]; rfl
section
variable {X : Cx} {e o f : Expr} {te to tf : DE} {p p2 pos pos2 apos cpos : Pos}
/-- set(e), told of the heap behind it -/
def SetQ (X : Cx) (K : PySem.W.Frag) (pins : List (Addr × Obj)) (σ : L2.St) (H1 : Hp) (ks : List Key) (v : Value) (s2 : Shared) : Prop :=
  ∃ a, v = .ref a ∧ Inv X pins σ H1 s2 ∧ SetM X.prog X.w s2.heap a (ddAll ks)
theorem setM_call {pins : List (Addr × Obj)} {σ : L2.St} {H1 : Hp} {s1 : Shared} {a : Addr} {ks : List Key} {R : Value → Shared → Prop} (hc : X.calm = true) (I1 : Inv X pins σ H1 s1)
    (hq : SqL X.K H1 a (ks.map kV) ∨ SqT X.K H1 a (ks.map kV)) (hl : ks.length < 4000) (h : ∀ v s2, SetQ X X.K pins σ H1 ks v s2 → R v s2) : wpAny (model X.prog X.w) X.A (call (.type "set") [.ref a]) R X.xe s1 := by
  have hd := I1.ok.hd hc
  rcases hq with hq | hq
  · obtain ⟨its, rv, pl, hz⟩ := I1.list hq
    exact call_setM_list ks hd pl.isList (by simpa using rv) (by unfold scanBound; omega) fun h' tk R1 k => h _ _ ⟨_, rfl, I1.kept fun b o e => k b o e, R1⟩
  · obtain ⟨its, rv, pl, hz⟩ := I1.tuple hq
    exact call_setM_tuple ks hd (show s1.heap.IsTuple a its.toArray from pl) (by simpa using rv) (by unfold scanBound; omega) fun h' tk R1 k => h _ _ ⟨_, rfl, I1.kept fun b o e => k b o e, R1⟩
def rSset (K : PySem.W.Frag) (x : V) (H : Hp) (Q : VK) : Prop := ∃ a, x = .ref a ∧ ((∃ ns : List Int, (SqL K H a (ns.map V.int) ∨ SqT K H a (ns.map V.int)) ∧ ns.length < 4000 ∧ (srtO ltI ns).length < 64 ∧ ∀ b, H b = none → Q (.ref b) (upd H b (.lst ((srtO ltI ns).map V.int)))) ∨
  (∃ ns : List Str, (SqL K H a (ns.map V.str) ∨ SqT K H a (ns.map V.str)) ∧ ns.length < 4000 ∧ (srtO ltS ns).length < 64 ∧ ∀ b, H b = none → Q (.ref b) (upd H b (.lst ((srtO ltS ns).map V.str)))) ∨
  ∃ (ks : List (Addr × List Int)) (d : Nat) (B : Int), SqL K H a (ks.map fun p => V.ref p.1) ∧ (∀ p ∈ ks, SqT K H p.1 (p.2.map V.int)) ∧ ks.length < 64 ∧ 1 ≤ d ∧ (∀ p ∈ ks, p.2.length = d ∧ TS.Bd B p.2) ∧
    ∀ (L : List (Addr × List Int)) (c b : Addr) (o : HO), (∀ p ∈ L, p ∈ ks) → (∀ p ∈ ks, p.2 ∈ L.map (·.2)) → (L.map (·.2)).Nodup → H c = none → upd H c o b = none → Q (.ref b) (upd (upd H c o) b (.lst (L.map fun q => V.ref q.1))))
theorem pe_ssetM {t : TE} (hc : X.calm = true) (hu : X.A.units + 64 < cLine) (hg : Gl X "sorted") (hm : X.mg "sorted" = none) (hg2 : Gl X "set") (hm2 : X.mg "set" = none) (he : PE X e t) (hn : noStar e = true) :
    PE X (.Call (.Name "sorted" p) [.Call (.Name "set" p2) [e] [] pos2] [] pos) (fun σ H Q => t σ H fun x H1 => rSset X.K x H1 Q) := by
  refine ⟨fun pins s σ H Q I h => ?_⟩
  have na := starEach_cons (es := []) (env := X.env) hn
  have na2 : starEach [.Call (.Name "set" p2) [e] [] pos2] X.env = (false, eval (.Call (.Name "set" p2) [e] [] pos2) X.env) :: starEach [] X.env := starEach_cons rfl
  refine wpAny_Call_Name_kw (ld_blt I hg hm (show bootBuiltins "sorted" = some (.builtin "sorted") from Bl.sorted.boot) ?_ (by decide) (by decide))
  refine PyProof.Rows.callWith_builtin1 (args_cons ?_ na2) na2 rfl
  refine Call_ (ld_blt I hg2 hm2 PyProof.Rows.boot_set (PyProof.Rows.callWith_type1 (args_cons (thn (he.run pins s σ H _ I h) fun v s1 ⟨x, H1, I1, r1, q1⟩ => args_nil ?_) na) na rfl))
  obtain ⟨a, ex, q1⟩ := q1
  subst ex
  obtain rfl : v = Value.ref a := r1
  have hd := I1.ok.hd hc
  have fin : ∀ {s2 s3 : Shared} {b : Addr} {vs : List V} {out : Array Value} {c : Nat}, Inv X pins σ H1 s2 → (∀ b o, s2.heap.get? b = some o → s3.heap.get? b = some o) → s3.gens = s2.gens → s3.os = s2.os → s2.heap.objs.size ≤ b →
      s3.heap.get? b = some (seqObj "list" out c) → Vals vs out.toList → vs.length < 64 → (∀ b, H1 b = none → Q (.ref b) (upd H1 b (.lst vs))) → EP X pins σ Q (.ref b) s3 := by
    intro s2 s3 b vs out c I2 k g o hle hob hI hl q
    have new : ObjOk X.prog X.w (upd H1 b (.lst vs)) s3.heap b (.lst vs) := ⟨Nat.le_trans (show vs.length ≤ 64 by omega) (by decide), out.toList, c, hI, by rw [Array.toArray_toList]; exact hob⟩
    exact ⟨.ref b, upd H1 b (.lst vs), I2.call' (ch := []) o (Un.laid k hle (I2.hok.fresh hle)) (I2.hok.laid k hle new) (by rw [g]; exact I2.bare) (fun _ z => nomatch z), rfl, q b (I2.hok.fresh hle)⟩
  rcases q1 with ⟨ns, hq, hl, h64, q⟩ | ⟨ns, hq, hl, h64, q⟩ | ⟨ks, d, B, hq, hk, hl, hd1, hB, q⟩
  · rw [← kV_ints] at hq
    refine setM_call hc I1 hq (by rw [List.length_map]; exact hl) fun v s2 ⟨b, ev, I2, R2⟩ => args_nil ?_
    subst ev
    exact sortedM_int (xs := ns) R2 (fun k => by rw [mem_ddAll]) hd (by rw [ddAll_srtI]; exact h64) fun s3 b out c k g o hle hob hI => fin I2 k g o hle hob (vals_of_ints hI) (by rw [List.length_map]; exact h64) q
  · rw [← kV_strs] at hq
    refine setM_call hc I1 hq (by rw [List.length_map]; exact hl) fun v s2 ⟨b, ev, I2, R2⟩ => args_nil ?_
    subst ev
    exact sortedM_str (xs := ns) R2 (fun k => by rw [mem_ddAll]) hd (by rw [ddAll_srtS]; exact h64) fun s3 b out c k g o hle hob hI => fin I2 k g o hle hob (vals_of_strs hI) (by rw [List.length_map]; exact h64) q
  · refine thn (cr_setOfT hc hu pins s1 σ H1 [.ref a] [.ref a] (fun v H' => ∃ c L, v = .ref c ∧ H1 c = none ∧ H' = upd H1 c (SetTO X.prog X.w c L) ∧ (∀ p ∈ L, p ∈ ks) ∧ ∀ p ∈ ks, p.2 ∈ L.map (·.2)) I1 (.cons rfl .nil) ⟨a, ks, rfl, hq, hk, hl, fun c L h1 h2 h3 => ⟨c, L, rfl, h1, rfl, h2, h3⟩⟩) fun v s2 ⟨x, H2, I2, r2, c, L, ex, hc1, eH, h2, h3⟩ => args_nil ?_
    subst ex eH
    obtain rfl : v = Value.ref c := r2
    refine cr_sortedT hc pins s2 σ _ [.ref c] [.ref c] Q I2 (.cons rfl .nil) ⟨c, L, d, B, rfl, upd_same, fun p hp => (tup_new hc1).t _ _ (hk p (h2 p hp)), hd1, fun p hp => hB p (h2 p hp), fun L' b pm nd _ _ hb => ?_⟩
    exact q L' c b _ (fun p hp => h2 p (pm.mem_iff.mp hp)) (fun p hp => by
      obtain ⟨z, hz, e⟩ := List.mem_map.mp (h3 p hp)
      exact List.mem_map.mpr ⟨z, pm.mem_iff.mpr hz, e⟩) nd hc1 hb
def rLset (K : PySem.W.Frag) (x : V) (H : Hp) (Q : VK) : Prop := ∃ a, x = .ref a ∧ ∃ ns : List Str, (SqL K H a (ns.map V.str) ∨ SqT K H a (ns.map V.str)) ∧ ns.length < 4000 ∧ Q (.int (srtO ltS ns).length) H
theorem pe_lsetM {t : TE} (hc : X.calm = true) (hg : Gl X "len") (hm : X.mg "len" = none) (hg2 : Gl X "set") (hm2 : X.mg "set" = none) (he : PE X e t) (hn : noStar e = true) :
    PE X (.Call (.Name "len" p) [.Call (.Name "set" p2) [e] [] pos2] [] pos) (fun σ H Q => t σ H fun x H1 => rLset X.K x H1 Q) := by
  refine ⟨fun pins s σ H Q I h => ?_⟩
  have na := starEach_cons (es := []) (env := X.env) hn
  have na2 : starEach [.Call (.Name "set" p2) [e] [] pos2] X.env = (false, eval (.Call (.Name "set" p2) [e] [] pos2) X.env) :: starEach [] X.env := starEach_cons rfl
  refine wpAny_Call_Name_kw (ld_blt I hg hm (show bootBuiltins "len" = some (.builtin "len") from Bl.len.boot) ?_ (by decide) (by decide))
  refine PyProof.Rows.callWith_builtin1 (args_cons ?_ na2) na2 rfl
  refine Call_ (ld_blt I hg2 hm2 PyProof.Rows.boot_set (PyProof.Rows.callWith_type1 (args_cons (thn (he.run pins s σ H _ I h) fun v s1 ⟨x, H1, I1, r1, q1⟩ => args_nil ?_) na) na rfl))
  obtain ⟨a, ex, ns, hq, hl, q⟩ := q1
  subst ex
  obtain rfl : v = Value.ref a := r1
  rw [← kV_strs] at hq
  refine setM_call hc I1 hq (by rw [List.length_map]; exact hl) fun v s2 ⟨b, ev, I2, R2⟩ => args_nil ?_
  subst ev
  obtain ⟨oo, es, ep, t, ho, hex, hd, _, pk, _, hb, hf, _⟩ := R2
  have hsz : es.size = (srtO ltS ns).length := by rw [← ddAll_srtS, ← pk.length_eq, List.length_map, Array.length_toList]
  refine call_len_set ho hex hd hf (by unfold scanBound at hb; omega) ⟨.int (srtO ltS ns).length, H1, I2.tok _, ⟨_, by rw [hsz]⟩, q⟩
def rLsetI (K : PySem.W.Frag) (x : V) (H : Hp) (Q : VK) : Prop := ∃ a, x = .ref a ∧ ∃ ns : List Int, (SqL K H a (ns.map V.int) ∨ SqT K H a (ns.map V.int)) ∧ ns.length < 4000 ∧ Q (.int (srtO ltI ns).length) H
theorem pe_lsetMI {t : TE} (hc : X.calm = true) (hg : Gl X "len") (hm : X.mg "len" = none) (hg2 : Gl X "set") (hm2 : X.mg "set" = none) (he : PE X e t) (hn : noStar e = true) :
    PE X (.Call (.Name "len" p) [.Call (.Name "set" p2) [e] [] pos2] [] pos) (fun σ H Q => t σ H fun x H1 => rLsetI X.K x H1 Q) := by
  refine ⟨fun pins s σ H Q I h => ?_⟩
  have na := starEach_cons (es := []) (env := X.env) hn
  have na2 : starEach [.Call (.Name "set" p2) [e] [] pos2] X.env = (false, eval (.Call (.Name "set" p2) [e] [] pos2) X.env) :: starEach [] X.env := starEach_cons rfl
  refine wpAny_Call_Name_kw (ld_blt I hg hm (show bootBuiltins "len" = some (.builtin "len") from Bl.len.boot) ?_ (by decide) (by decide))
  refine PyProof.Rows.callWith_builtin1 (args_cons ?_ na2) na2 rfl
  refine Call_ (ld_blt I hg2 hm2 PyProof.Rows.boot_set (PyProof.Rows.callWith_type1 (args_cons (thn (he.run pins s σ H _ I h) fun v s1 ⟨x, H1, I1, r1, q1⟩ => args_nil ?_) na) na rfl))
  obtain ⟨a, ex, ns, hq, hl, q⟩ := q1
  subst ex
  obtain rfl : v = Value.ref a := r1
  rw [← kV_ints] at hq
  refine setM_call hc I1 hq (by rw [List.length_map]; exact hl) fun v s2 ⟨b, ev, I2, R2⟩ => args_nil ?_
  subst ev
  obtain ⟨oo, es, ep, t, ho, hex, hd, _, pk, _, hb, hf, _⟩ := R2
  have hsz : es.size = (srtO ltI ns).length := by rw [← ddAll_srtI, ← pk.length_eq, List.length_map, Array.length_toList]
  refine call_len_set ho hex hd hf (by unfold scanBound at hb; omega) ⟨.int (srtO ltI ns).length, H1, I2.tok _, ⟨_, by rw [hsz]⟩, q⟩
def ssetD (d : D) (G : Sto) (Q : DQ) : Prop := seqD d G fun ds => (∃ ns : List Int, ds = ns.map D.int ∧ ns.length < 4000 ∧ (srtO ltI ns).length < 64 ∧ ∀ b, G b = none → Q (.ref b) (put G b (.lst ((srtO ltI ns).map D.int)))) ∨
  ∃ ns : List Str, ds = ns.map D.str ∧ ns.length < 4000 ∧ (srtO ltS ns).length < 64 ∧ ∀ b, G b = none → Q (.ref b) (put G b (.lst ((srtO ltS ns).map D.str)))
theorem qe_sset (hc : X.calm = true) (hu : X.A.units + 64 < cLine) (hg : Gl X "sorted") (hm : X.mg "sorted" = none) (hg2 : Gl X "set") (hm2 : X.mg "set" = none) (he : QE X e te) (hn : noStar e = true) :
    QE X (.Call (.Name "sorted" p) [.Call (.Name "set" p2) [e] [] pos2] [] pos) (dUn ssetD te) := by
  refine ⟨fun ρ G Q xq σ H h rs s tk => ?_⟩
  refine PE.we (pe_ssetM hc hu hg hm hg2 hm2 pe_max hn) ((he.run ρ G _ xq σ H h rs s tk).imp fun v H1 ⟨x, G1, rx, s1, e1, q1⟩ => ?_)
  have q1 : ssetD x G1 Q := q1
  obtain ⟨a, vs, ds, rfl, hs, r1, q⟩ := seq_ q1 rx s1
  refine ⟨a, rfl, ?_⟩
  rcases q with ⟨ns, rfl, hl, h64, q⟩ | ⟨ns, rfl, hl, h64, q⟩
  · rw [r1.ints] at hs
    exact .inl ⟨ns, hs, hl, h64, fun b hb => Lift.back e1 _ _ (lift_lst (reps_ints _) s1 q hb)⟩
  · rw [r1.strs] at hs
    exact .inr (.inl ⟨ns, hs, hl, h64, fun b hb => Lift.back e1 _ _ (lift_lst (reps_strs _) s1 q hb)⟩)
/-- a tuple of ints -/
def tupI (ns : List Int) : D := .tup (ns.map D.int)
theorem reps_tups {K : PySem.W.Frag} {H : Hp} : ∀ {nss : List (List Int)} {vs : List V}, Reps K H vs (nss.map tupI) → ∃ ks : List (Addr × List Int), vs = ks.map (fun p => V.ref p.1) ∧ nss = ks.map (·.2) ∧ ∀ p ∈ ks, SqT K H p.1 (p.2.map V.int)
  | [], vs, h => by
    cases h
    exact ⟨[], rfl, rfl, fun p hp => (List.not_mem_nil hp).elim⟩
  | ns :: nss, vs, h => by
    cases h with
    | cons a b =>
      obtain ⟨ks, e1, e2, h3⟩ := reps_tups b
      cases a with
      | tup hs rs =>
        rw [rs.ints] at hs
        refine ⟨(_, ns) :: ks, by rw [e1]; rfl, by rw [e2]; rfl, fun p hp => ?_⟩
        rcases List.mem_cons.mp hp with rfl | hp
        · exact hs
        · exact h3 p hp
theorem tups_reps {K : PySem.W.Frag} {H : Hp} : ∀ {L : List (Addr × List Int)}, (∀ p ∈ L, SqT K H p.1 (p.2.map V.int)) → Reps K H (L.map fun q => V.ref q.1) ((L.map (·.2)).map tupI)
  | [], _ => .nil
  | p :: L, h => .cons (.tup (h p List.mem_cons_self) (reps_ints _)) (tups_reps fun q hq => h q (List.mem_cons_of_mem _ hq))
def ssetV2 (ds : List D) (G : Sto) (Q : DQ) : Prop := (∃ ns : List Int, ds = ns.map D.int ∧ ns.length < 4000 ∧ (srtO ltI ns).length < 64 ∧ Q (.rl ((srtO ltI ns).map D.int)) G) ∨
  ∃ ns : List Str, ds = ns.map D.str ∧ ns.length < 4000 ∧ (srtO ltS ns).length < 64 ∧ Q (.rl ((srtO ltS ns).map D.str)) G
def ssetV3 (ds : List D) (G : Sto) (Q : DQ) : Prop := (∃ ns : List Int, ds = ns.map D.int ∧ ns.length < 4000 ∧ (srtO ltI ns).length < 64 ∧ Q (.rl ((srtO ltI ns).map D.int)) G) ∨
  (∃ ns : List Str, ds = ns.map D.str ∧ ns.length < 4000 ∧ (srtO ltS ns).length < 64 ∧ Q (.rl ((srtO ltS ns).map D.str)) G) ∨
  ∃ (nss : List (List Int)) (d : Nat) (B : Int), ds = nss.map tupI ∧ nss.length < 64 ∧ 1 ≤ d ∧ (∀ ns ∈ nss, ns.length = d ∧ TS.Bd B ns) ∧ ∀ L : List (List Int), (∀ l, l ∈ L ↔ l ∈ nss) → L.Nodup → Q (.rl (L.map tupI)) G
def ssetV (d : D) (G : Sto) (Q : DQ) : Prop := match d with
  | .tup ds => ssetV2 ds G Q
  | d => lstD d G fun ds => ssetV3 ds G Q
theorem ssetV_seq {d : D} {G : Sto} {Q : DQ} (h : ssetV d G Q) : (seqD d G fun ds => ssetV2 ds G Q) ∨ (lstD d G fun ds => ssetV3 ds G Q) := by
  unfold ssetV at h
  split at h
  · exact .inl h
  · exact .inr h
theorem qe_ssetV (hc : X.calm = true) (hu : X.A.units + 64 < cLine) (hg : Gl X "sorted") (hm : X.mg "sorted" = none) (hg2 : Gl X "set") (hm2 : X.mg "set" = none) (he : QE X e te) (hn : noStar e = true) :
    QE X (.Call (.Name "sorted" p) [.Call (.Name "set" p2) [e] [] pos2] [] pos) (dUn ssetV te) := by
  refine ⟨fun ρ G Q xq σ H h rs s tk => WE.val ?_⟩
  refine PE.we (pe_ssetM hc hu hg hm hg2 hm2 pe_max hn) ((he.run ρ G _ xq σ H h rs s tk).imp fun v H1 ⟨x, G1, rx, s1, e1, q1⟩ => ?_)
  have q1 : ssetV x G1 Q := q1
  rcases ssetV_seq q1 with q1 | q1
  · obtain ⟨a, vs, ds, rfl, hs, r1, q⟩ := seq_ q1 rx s1
    refine ⟨a, rfl, ?_⟩
    rcases q with ⟨ns, rfl, hl, h64, q⟩ | ⟨ns, rfl, hl, h64, q⟩
    · rw [r1.ints] at hs
      exact .inl ⟨ns, hs, hl, h64, fun b hb => ⟨b, _, _, G1, H1, rfl, rfl, hb, reps_ints _, s1, e1, q⟩⟩
    · rw [r1.strs] at hs
      exact .inr (.inl ⟨ns, hs, hl, h64, fun b hb => ⟨b, _, _, G1, H1, rfl, rfl, hb, reps_strs _, s1, e1, q⟩⟩)
  · obtain ⟨a, vs, ds, rfl, hs, r1, q⟩ := lst_ q1 rx s1
    refine ⟨a, rfl, ?_⟩
    rcases q with ⟨ns, rfl, hl, h64, q⟩ | ⟨ns, rfl, hl, h64, q⟩ | ⟨nss, d, B, rfl, hl, hd1, hB, q⟩
    · rw [r1.ints] at hs
      exact .inl ⟨ns, .inl hs, hl, h64, fun b hb => ⟨b, _, _, G1, H1, rfl, rfl, hb, reps_ints _, s1, e1, q⟩⟩
    · rw [r1.strs] at hs
      exact .inr (.inl ⟨ns, .inl hs, hl, h64, fun b hb => ⟨b, _, _, G1, H1, rfl, rfl, hb, reps_strs _, s1, e1, q⟩⟩)
    · obtain ⟨ks, rfl, rfl, hk⟩ := reps_tups r1
      refine .inr (.inr ⟨ks, d, B, hs, hk, by rwa [List.length_map] at hl, hd1, fun p hp => hB _ (List.mem_map.mpr ⟨p, hp, rfl⟩), fun L c b o h2 h3 nd hc1 hb => ?_⟩)
      have t1 : TupExt X.K H1 (upd H1 c o) := tup_new hc1
      refine ⟨b, _, _, G1, upd H1 c o, rfl, rfl, hb, tups_reps fun p hp => t1.t _ _ (hk p (h2 p hp)), s1.newT hc1, e1.trans (.newT hc1), q (L.map (·.2)) (fun l => ?_) nd⟩
      constructor
      · intro hl
        obtain ⟨p, hp, e⟩ := List.mem_map.mp hl
        exact List.mem_map.mpr ⟨p, h2 p hp, e⟩
      · intro hl
        obtain ⟨p, hp, e⟩ := List.mem_map.mp hl
        rw [← e]
        exact h3 p hp
/-- list(e) by value -/
def lofV (d : D) (G : Sto) (Q : DQ) : Prop := seqD d G fun ds => Q (.rl ds) G
theorem qe_lofV (hg : Gl X "list") (hm : X.mg "list" = none) (he : QE X e te) (hn : noStar e = true) : QE X (.Call (.Name "list" p) [e] [] pos) (dUn lofV te) := by
  refine ⟨fun ρ G Q xq σ H h rs s tk => WE.val ?_⟩
  refine PE.we (pe_callTy (T := "list") call_list_of hg hm Bl.list.boot (pa_cons pe_max pa_nil (starEach_cons hn)) (by decide) (by decide) (starEach_cons hn) rfl) ((he.run ρ G _ xq σ H h rs s tk).imp fun v H1 ⟨x, G1, rx, s1, e1, q1⟩ => ?_)
  have q1 : lofV x G1 Q := q1
  obtain ⟨a, vs, ds, rfl, hs, r1, q⟩ := seq_ q1 rx s1
  exact ⟨a, _, rfl, hs, fun b hb => ⟨b, _, _, G1, H1, rfl, rfl, hb, r1, s1, e1, q⟩⟩
/-- sorted(xs), xs a list of data of one kind, of any depth -/
def rSortedD (K : PySem.W.Frag) : List V → Hp → VK → Prop := fun vs H Q => ∃ (a : Addr) (xs : List V) (ys : List D), vs = [V.ref a] ∧ SqL K H a xs ∧ Reps K H xs ys ∧ DpAll K H xs (ys.map pyD) ∧ PySem.W.AllAlike (ys.map pyD) ∧ PySem.W.Sortable (ys.map pyD) ∧ (∀ d ∈ ys, (pyD d).depth ≤ 32) ∧
  ∀ (zs : List V) (b : Addr), Reps K H zs (ys.mergeSort (PySem.W.dataLe false pyD)) → H b = none → Q (.ref b) (upd H b (.lst zs))
theorem each_of {K : PySem.W.Frag} {H : Hp} : ∀ {us : List Value} {xs : List V} {ys : List D}, Vals xs us → Reps K H xs ys → PySem.W.EachIs (fun u d => ∃ v, RelV v u ∧ Rep K H v d) us ys
  | _, _, _, .nil, .nil => .nil
  | _, _, _, .cons h1 h2, .cons r1 r2 => .cons ⟨_, h1, r1⟩ (each_of h2 r2)
theorem each_to {K : PySem.W.Frag} {H : Hp} : ∀ {us : List Value} {ys : List D}, PySem.W.EachIs (fun u d => ∃ v, RelV v u ∧ Rep K H v d) us ys → ∃ xs, Vals xs us ∧ Reps K H xs ys
  | _, _, .nil => ⟨[], .nil, .nil⟩
  | _, _, .cons ⟨v, h1, r1⟩ t => let ⟨xs, h2, r2⟩ := each_to t; ⟨v :: xs, .cons h1 h2, .cons r1 r2⟩
theorem each_reads {X : Cx} {pins : List (Addr × Obj)} {σ : L2.St} {H : Hp} {s : Shared} (I : L2.Inv X pins σ H s) : ∀ {us : List Value} {xs : List V} {ys : List D}, Vals xs us → DpAll X.K H xs (ys.map pyD) → PySem.W.EachIs (fun u d => ∃ as, Reads s.heap u (pyD d) as) us ys
  | _, _, [], .nil, .nil => .nil
  | _, _, y :: ys, .cons h1 h2, .cons r1 r2 => .cons (Dp.reads I _ _ _ r1 h1) (each_reads I h2 r2)
theorem cr_sortedD {X : Cx} (hu : X.A.units + 64 < cLine) : CallR X (.builtin "sorted") (rSortedD X.K) := by
  intro pins s σ H vs us Q I r h
  obtain ⟨a, xs, ys, rfl, hs, hr, hd, hal, hk, hdep, q⟩ := h
  obtain ⟨its, rv, hl, hz⟩ := I.list hs
  rw [Vals.ref1 r]
  have hlen1 : xs.length = its.length := rv.length
  have hlen2 : xs.length = ys.length := hr.length
  refine PySem.W.sorted_data hl.isList (each_of rv hr) (each_reads I rv hd) hal hk (by rw [← hlen2]; exact hz) (fun b hb => by have := hdep b hb; omega) fun out ho eo => ?_
  obtain ⟨zs, h1, h2⟩ := each_to eo
  obtain ⟨ep, he'⟩ := PyProof.Rows.sortedAll_at s.heap its out.toArray
  have hlen : zs.length ≤ sizeLine := by
    have e1 : zs.length = out.length := h1.length
    rw [e1, ho, ← hlen2]
    exact hz
  refine ⟨.ref _, upd H (s.heap.objs.size + 1) (.lst zs), I.laid (t' := s.toks) (fun _ _ => PyProof.Rows.sortedAll_old) (Nat.le_succ _) ⟨hlen, out, ep, h1, ?_⟩, rfl, q zs _ h2 (I.hok.fresh (Nat.le_succ _))⟩
  simpa using he'
/-- sorted(e) of a list, by value -/
def sofV (d : D) (G : Sto) (Q : DQ) : Prop := match d with
  | .tup ys => ∃ ns : List Int, ys = ns.map D.int ∧ ns.length < 64 ∧ ∀ ns' : List Int, ns'.Perm ns → ns'.Pairwise (· ≤ ·) → Q (.rl (ns'.map D.int)) G
  | d => lstD d G fun ys => (∃ ns : List Int, ys = ns.map D.int ∧ ns.length < 64 ∧ ∀ ns' : List Int, ns'.Perm ns → ns'.Pairwise (· ≤ ·) → Q (.rl (ns'.map D.int)) G) ∨
    (∃ ns : List Str, ys = ns.map D.str ∧ ns.length < 64 ∧ ∀ ns' : List Str, ns'.Perm ns → sortedS ns' = true → Q (.rl (ns'.map D.str)) G) ∨
    okDs 32 ys = true ∧ PySem.W.AllAlike (ys.map pyD) ∧ PySem.W.Sortable (ys.map pyD) ∧ Q (.rl (ys.mergeSort (PySem.W.dataLe false pyD))) G
theorem pyDs_map : ∀ ds : List D, pyDs ds = ds.map pyD
  | [] => rfl
  | d :: ds => by unfold pyDs; rw [pyDs_map ds, List.map_cons]
theorem depth_le {p : PyData} : ∀ {ps : List PyData}, p ∈ ps → p.depth ≤ PyData.depthAll ps
  | q :: ps, h => by
    unfold PyData.depthAll
    rcases List.mem_cons.mp h with rfl | h
    · omega
    · have := depth_le h
      omega
theorem qe_sofV (hu : X.A.units + 64 < cLine) (hg : Gl X "sorted") (hm : X.mg "sorted" = none) (he : QE X e te) (hn : noStar e = true) : QE X (.Call (.Name "sorted" p) [e] [] pos) (dUn sofV te) := by
  refine ⟨fun ρ G Q xq σ H h rs s tk => WE.val ?_⟩
  have both : CallR X (.builtin "sorted") (fun vs H Q => rSorted X.K vs H Q ∨ rSortedS X.K vs H Q ∨ rSortedTI X.K vs H Q ∨ rSortedD X.K vs H Q) := fun pins s σ H xs us Q I r q => by
    rcases q with q | q | q | q
    · exact cr_sorted pins s σ H xs us Q I r q
    · exact cr_sortedS pins s σ H xs us Q I r q
    · exact cr_sortedTI pins s σ H xs us Q I r q
    · exact cr_sortedD hu pins s σ H xs us Q I r q
  refine PE.we (pe_callB (id := "sorted") both hg hm Bl.sorted.boot (pa_cons pe_max pa_nil (starEach_cons hn)) (by decide) (by decide) (starEach_cons hn) rfl) ((he.run ρ G _ xq σ H h rs s tk).imp fun v H1 ⟨x, G1, rx, s1, e1, q1⟩ => ?_)
  have q1 : sofV x G1 Q := q1
  unfold sofV at q1
  split at q1
  · obtain ⟨ns, rfl, hl, q⟩ := q1
    cases rx with
    | tup hs r1 =>
      rw [r1.ints] at hs
      exact .inr (.inr (.inl ⟨_, ns, rfl, hs, hl, fun ns' b h1 h2 hb => ⟨b, _, _, G1, H1, rfl, rfl, hb, reps_ints _, s1, e1, q ns' h1 h2⟩⟩))
  obtain ⟨a, vs, ds, rfl, hs, r1, ⟨ns, rfl, hl, q⟩ | ⟨ns, rfl, hl, q⟩ | ⟨hok, hal, hk, q⟩⟩ := lst_ q1 rx s1
  · rw [r1.ints] at hs
    exact .inl ⟨a, ns, rfl, hs, hl, fun ns' b h1 h2 hb => ⟨b, _, _, G1, H1, rfl, rfl, hb, reps_ints _, s1, e1, q ns' h1 h2⟩⟩
  · rw [r1.strs] at hs
    exact .inr (.inl ⟨a, ns, rfl, hs, hl, fun ns' b h1 h2 hb => ⟨b, _, _, G1, H1, rfl, rfl, hb, reps_strs _, s1, e1, q ns' h1 h2⟩⟩)
  · obtain ⟨d1, d2, d3⟩ := okDs_dd (G := G1) hok
    rw [pyDs_map] at d1 d3
    refine .inr (.inr (.inr ⟨a, vs, ds, rfl, hs, r1, d1.dp s1 r1, hal, hk, fun d hd => Nat.le_trans (depth_le (List.mem_map.mpr ⟨d, hd, rfl⟩)) d3, fun zs b rz hb => ⟨b, _, _, G1, H1, rfl, rfl, hb, rz, s1, e1, q⟩⟩))
/-- list(range(n)) by value -/
def rgVD (x : D) (G : Sto) (Q : DQ) : Prop := match x with
  | .int n => (0 ≤ n ∧ n < 16777216) ∧ Q (.rl (rangeD 0 n.toNat)) G
  | _ => False
theorem qe_rgV (hc : X.calm = true) (hg : Gl X "list") (hm : X.mg "list" = none) (hg2 : Gl X "range") (hm2 : X.mg "range" = none) (he : QE X e te) (hn : noStar e = true) : QE X (.Call (.Name "list" p) [.Call (.Name "range" p2) [e] [] pos2] [] pos) (dUn rgVD te) := by
  refine ⟨fun ρ G Q xq σ H h rs s tk => WE.val ?_⟩
  refine PE.we (pe_listRg hc hg hm (prg_1 hg2 hm2 pe_max (starEach_cons hn)) (starEach_cons rfl)) ((he.run ρ G _ xq σ H h rs s tk).imp fun v H1 ⟨x, G1, rx, s1, e1, q1⟩ => ?_)
  have q1 : rgVD x G1 Q := q1
  unfold rgVD at q1
  split at q1
  · cases rx
    obtain ⟨⟨h0, h1⟩, q⟩ := q1
    exact ⟨_, rfl, RgOk.of_le (by decide) (by omega) (by decide) h0, fun b hb => ⟨b, _, _, G1, H1, rfl, rfl, hb, reps_rg, s1, e1, q⟩⟩
  · exact q1.elim
/-- a.split(b) by value -/
def splV (x y : D) (G : Sto) (Q : DQ) : Prop := match x, y with
  | .str a, .str b => (b.length == 0) = false ∧ a.length + 2 ≤ sizeLine ∧ Q (.rl ((Txt.split a b).map D.str)) G
  | _, _ => False
def isStrD : D → Bool
  | .str _ => true
  | _ => false
def dSplV (to te : DE) : DE := fun ρ G Q xq => to ρ G (fun x G1 => isStrD x = true ∧ te ρ G1 (fun y G2 => splV x y G2 Q) xq) xq
theorem qe_splV (ho : QE X o to) (he : QE X e te) (hb : baseOk o = true) (hn : noStar e = true) (hl : (apos.endLine == cpos.line) = true) : QE X (.Call (.Attribute o "split" apos) [e] [] cpos) (dSplV to te) := by
  refine ⟨fun ρ G Q xq σ H h rs s tk => WE.val ?_⟩
  refine PE.we (pe_bm PySem.F.plainAttrs_str PySem.F.slot_str_split PySem.F.type_str_split mt_split pe_max (pa_cons pe_max pa_nil (starEach_cons hn)) (base_ok hb) (by rw [starEach_cons hn]; rfl) hl (starEach_cons hn) rfl) ?_
  refine (ho.run ρ G _ xq σ H h rs s tk).imp fun v H1 ⟨x, G1, rx, s1, e1, hx, q1⟩ => ⟨?_, ?_⟩
  · cases x with
    | str z => cases rx; rfl
    | _ => cases hx
  · refine (he.run ρ G1 _ xq σ H1 q1 (rs.mono e1.tup) s1 (tk.step e1)).imp fun u H2 ⟨y, G2, ry, s2, e2, q2⟩ => ?_
    have q2 : splV x y G2 Q := q2
    unfold splV at q2
    split at q2
    · cases rx; cases ry
      exact ⟨_, _, rfl, rfl, q2.1, q2.2.1, fun b hb => ⟨b, _, _, G2, H2, rfl, rfl, hb, reps_strs _, s2, e1.trans e2, q2.2.2⟩⟩
    · exact q2.elim
/-! a written dict by value -/
def dDispV (r : DKv) : DE := fun ρ G Q xq => r ρ G (fun ps G2 => ∃ kvs, ps = kvDs kvs ∧ kvs.length ≤ 15 ∧ unlike (kvs.map (·.1)) = true ∧ Q (.rd (kvs.map (·.1)) (kvs.map (·.2))) G2) xq
theorem repKV_keys {K : PySem.W.Frag} {H : Hp} : ∀ {m : List (Key × V)} {kvs : List (Key × D)}, RepKV K H m kvs → m.map (·.1) = kvs.map (·.1) ∧ Reps K H (m.map (·.2)) (kvs.map (·.2))
  | [], [], _ => ⟨rfl, .nil⟩
  | (k, v) :: r, (j, d) :: q, ⟨e, rv, rr⟩ => by
    obtain ⟨h1, h2⟩ := repKV_keys rr
    exact ⟨by rw [List.map_cons, List.map_cons, h1, e], .cons rv h2⟩
  | [], _ :: _, h => h.elim
  | _ :: _, [], h => h.elim
theorem WE.lockD {σ : L2.St} {H : Hp} {Q : VK} (h : WE X e σ H fun v H' => ∃ p m, v = .ref p ∧ H' p = some (.dK m) ∧ ∀ od, Q (.ref p) (upd H' p (.frz od (.dK m)))) : WE X e σ H Q := fun pins s I =>
  thn (h pins s I) fun u s' ⟨x, H', I', r, p, vs, ex, hp, q⟩ => by
    subst ex
    obtain ⟨od, I2⟩ := I'.lock hp True.intro
    exact ⟨.ref p, _, I2, r, q od⟩
theorem lift_rd {K : PySem.W.Frag} {G G2 : Sto} {H H2 : Hp} {Q : DQ} {p : Addr} {od : Obj} {m : List (Key × V)} {kvs : List (Key × D)} (hp : H p = none) (h2 : H2 p = some (.dK [])) (g2 : G2 p = none) (s2 : Sim K G2 H2) (e : Ext K G H G2 H2) (rm : RepKV K H2 m kvs)
    (hu : unlike (kvs.map (·.1)) = true) (q : Q (.rd (kvs.map (·.1)) (kvs.map (·.2))) G2) : Lift K G H Q (.ref p) (upd (upd H2 p (.dK (mergeK [] m))) p (.frz od (.dK (mergeK [] m)))) := by
  rw [upd_upd]
  have t8 : TupExt K H2 (upd H2 p (.frz od (.dK (mergeK [] m)))) := tup_mut h2 rfl
  obtain ⟨k1, k2⟩ := repKV_keys ((rm.mono t8).merge (m := []) (kvs := []) True.intro)
  rw [mergeD_app kvs [] hu (fun _ z => by cases z), List.nil_append] at k1 k2
  refine ⟨_, G2, .rd upd_same k1 k2, fun a c hac => ?_, ⟨e.tup.trans t8, fun a o z1 zn z2 => ?_⟩, q⟩
  · have ne : a ≠ p := fun z => by
      subst z
      rw [g2] at hac
      cases hac
    exact (s2 a c hac).mono t8 (upd_ne ne)
  · have ne : a ≠ p := ne_of_none z1 hp
    rw [upd_ne ne]
    exact e.frm a o z1 zn z2
theorem qe_dispV {ks : List (Option Expr)} {vs : List Expr} {r : DKv} (h : QKv X ks vs r) (h15 : ks.length ≤ 15) : QE X (.Dict ks vs pos) (dDispV r) := by
  refine ⟨fun ρ G Q xq σ H hq rs s tk => WE.lockD ?_⟩
  by_cases hne : ks = []
  · subst hne
    have hv : vs = [] := List.eq_nil_of_length_eq_zero (by rw [← h.len]; rfl)
    subst hv
    refine PE.we pe_dnewK fun p hp => ?_
    have en : Ext X.K G H G (upd H p (.dK [])) := .newT hp
    have sn : Sim X.K G (upd H p (.dK [])) := s.newT hp
    obtain ⟨prs, G2, rp, s2, e2, kvs, ek, hl, hu, q⟩ := h.run ρ _ _ xq σ (upd H p (.dK [])) hq (rs.mono en.tup) sn (tk.step en)
    subst ek
    have hk0 : kvs = [] := by
      cases kvs with
      | nil => rfl
      | cons a b => exact rp.elim
    subst hk0
    refine ⟨p, [], rfl, upd_same, fun od => ?_⟩
    have z := lift_rd (od := od) (m := []) (kvs := []) hp upd_same (e2.frm p _ upd_same (fun _ z => by cases z) (s.free hp)).2 s2 (en.trans e2) True.intro hu q
    rw [upd_upd] at z ⊢
    rw [upd_upd] at z
    exact z
  refine PE.we (pe_disp (h.pp pos) h.all h.len hne h15) fun p hp => ?_
  have en : Ext X.K G H G (upd H p (.dK [])) := .newT hp
  have sn : Sim X.K G (upd H p (.dK [])) := s.newT hp
  refine tPairs_imp (trs_we _ _) (h.run ρ _ _ xq σ (upd H p (.dK [])) hq (rs.mono en.tup) sn (tk.step en)) fun ps H2 ⟨prs, G2, rp, s2, e2, kvs, ek, hl, hu, q⟩ => ?_
  subst ek
  obtain ⟨m, em, rm⟩ := repP_keys rp
  have f2 := e2.frm p _ upd_same (fun _ z => by cases z) (s.free hp)
  exact ⟨f2.1, m, em, by rw [rm.length]; exact hl, p, _, rfl, upd_same, fun od => lift_rd hp f2.1 f2.2 s2 (en.trans e2) rm hu q⟩
def lsetD (d : D) (G : Sto) (Q : DQ) : Prop := seqD d G fun ds => ∃ ns : List Str, ds = ns.map D.str ∧ ns.length < 4000 ∧ Q (.int (srtO ltS ns).length) G
theorem qe_lset (hc : X.calm = true) (hg : Gl X "len") (hm : X.mg "len" = none) (hg2 : Gl X "set") (hm2 : X.mg "set" = none) (he : QE X e te) (hn : noStar e = true) :
    QE X (.Call (.Name "len" p) [.Call (.Name "set" p2) [e] [] pos2] [] pos) (dUn lsetD te) := by
  refine ⟨fun ρ G Q xq σ H h rs s tk => ?_⟩
  refine PE.we (pe_lsetM hc hg hm hg2 hm2 pe_max hn) ((he.run ρ G _ xq σ H h rs s tk).imp fun v H1 ⟨x, G1, rx, s1, e1, q1⟩ => ?_)
  have q1 : lsetD x G1 Q := q1
  obtain ⟨a, vs, ds, rfl, hs, r1, ns, rfl, hl, q⟩ := seq_ q1 rx s1
  rw [r1.strs] at hs
  exact ⟨a, rfl, ns, hs, hl, _, G1, .int _, s1, e1, q⟩
def lsetID (d : D) (G : Sto) (Q : DQ) : Prop := seqD d G fun ds => ∃ ns : List Int, ds = ns.map D.int ∧ ns.length < 4000 ∧ Q (.int (srtO ltI ns).length) G
theorem qe_lsetI (hc : X.calm = true) (hg : Gl X "len") (hm : X.mg "len" = none) (hg2 : Gl X "set") (hm2 : X.mg "set" = none) (he : QE X e te) (hn : noStar e = true) :
    QE X (.Call (.Name "len" p) [.Call (.Name "set" p2) [e] [] pos2] [] pos) (dUn lsetID te) := by
  refine ⟨fun ρ G Q xq σ H h rs s tk => ?_⟩
  refine PE.we (pe_lsetMI hc hg hm hg2 hm2 pe_max hn) ((he.run ρ G _ xq σ H h rs s tk).imp fun v H1 ⟨x, G1, rx, s1, e1, q1⟩ => ?_)
  have q1 : lsetID x G1 Q := q1
  obtain ⟨a, vs, ds, rfl, hs, r1, ns, rfl, hl, q⟩ := seq_ q1 rx s1
  rw [r1.ints] at hs
  exact ⟨a, rfl, ns, hs, hl, _, G1, .int _, s1, e1, q⟩
/-! d.get(k), d.get(k, x) -/
def isDic (d : D) (G : Sto) (k : Addr → List (Key × D) → Prop) : Prop := match d with
  | .ref a => ∃ kvs, G a = some (.dK kvs) ∧ k a kvs
  | _ => False
theorem isD_of {K : PySem.W.Frag} {G : Sto} {H : Hp} {a : Addr} {kvs : List (Key × D)} (s : Sim K G H) (g : G a = some (.dK kvs)) : IsD H a := by
  obtain ⟨m, h, _⟩ := s a _ g
  exact .inl ⟨m, .inl h⟩
def dGet1 (to te : DE) : DE := fun ρ G Q xq => to ρ G (fun x G1 => match x with
  | .rd ks ds => te ρ G1 (fun y G2 => ∃ k, keyD y = some k ∧ Q ((valR ks ds k).getD .non) G2) xq
  | x => isDic x G1 fun a _ => te ρ G1 (fun y G2 => ∃ kvs k, G2 a = some (.dK kvs) ∧ keyD y = some k ∧ Q ((valD kvs k).getD .non) G2) xq) xq
theorem m1_of (hb : baseOk o = true) (hn : noStar e = true) (hl : (apos.endLine == cpos.line) = true) {m : Str} : M1 X o m apos e cpos where
  base := base_ok hb
  few := by
    rw [starEach_cons hn]
    rfl
  line := hl
  trees := by
    rw [starEach_cons hn]
    rfl
theorem m2_of (hb : baseOk o = true) (hn : noStar e = true) (hn2 : noStar f = true) (hl : (apos.endLine == cpos.line) = true) {m : Str} : M2 X o m apos e f cpos where
  base := base_ok hb
  few := by
    rw [starEach_cons hn, starEach_cons hn2]
    rfl
  line := hl
  trees := by
    rw [starEach_cons hn, starEach_cons hn2]
    rfl
/-- what a dict tells at a key -/
theorem dgo_of {K : PySem.W.Frag} {G : Sto} {H : Hp} {a : Addr} {kvs : List (Key × D)} {y z : D} {k : Key} {u v : V} (s : Sim K G H) (g : G a = some (.dK kvs)) (hk : keyD y = some k) (ry : Rep K H u y) (rz : Rep K H v z) :
    ∃ o, DGet H a u o ∧ Rep K H (o.getD v) ((valD kvs k).getD z) := by
  obtain ⟨m, hm, rm⟩ := s a _ g
  obtain rfl := keyD_rep hk ry
  have hv := rm.val k
  refine ⟨valV m k, DGet.k hm, ?_⟩
  cases e : valD kvs k with
  | none => rw [hv.2 e]; exact rz
  | some d =>
    obtain ⟨w, h1, h2⟩ := hv.1 d e
    rw [h1]
    exact h2
theorem rd_at {K : PySem.W.Frag} {H : Hp} {ks : List Key} {ds : List D} {v : V} (r : Rep K H v (.rd ks ds)) : ∃ a, v = .ref a ∧ IsD H a := by
  cases r with
  | rd h e r1 => exact ⟨_, rfl, .inl ⟨_, .inr ⟨_, h⟩⟩⟩
theorem dgoR_of {K : PySem.W.Frag} {H : Hp} {ks : List Key} {ds : List D} {y z : D} {k : Key} {u v : V} {a : Addr} (rx : Rep K H (.ref a) (.rd ks ds)) (hk : keyD y = some k) (ry : Rep K H u y) (rz : Rep K H v z) :
    ∃ o, DGet H a u o ∧ Rep K H (o.getD v) ((valR ks ds k).getD z) := by
  obtain ⟨a', ea, o, h1, h2, h3⟩ := dgetR_of (x := .non) hk ry rx
  cases ea
  refine ⟨o, h1, ?_⟩
  cases e : valR ks ds k with
  | none => rw [h3 e]; exact rz
  | some d =>
    obtain ⟨w, rfl, r⟩ := h2 d e
    exact r
theorem qe_get1 (hu : X.A.units + 1 < cLine) (ho : QE X o to) (he : QE X e te) (hb : baseOk o = true) (hn : noStar e = true) (hl : (apos.endLine == cpos.line) = true) : QE X (.Call (.Attribute o "get" apos) [e] [] cpos) (dGet1 to te) := by
  refine ⟨fun ρ G Q xq σ H h rs s tk => ?_⟩
  refine PE.we (pe_dget1 hu pe_max pe_max (m1_of hb hn hl)) ((ho.run ρ G _ xq σ H h rs s tk).imp fun v H1 ⟨x, G1, rx, s1, e1, q1⟩ => ?_)
  dsimp only at q1
  split at q1
  · obtain ⟨a, rfl, hd⟩ := rd_at rx
    refine ⟨_, rfl, hd, (he.run ρ G1 _ xq σ H1 q1 (rs.mono e1.tup) s1 (tk.step e1)).imp fun u H2 ⟨y, G2, ry, s2, e2, k, hk, q2⟩ => ?_⟩
    obtain ⟨oo, h1, h2⟩ := dgoR_of (rx.mono e2.tup) hk ry Rep.non
    exact ⟨oo, h1, _, G2, h2, s2, e1.trans e2, q2⟩
  · unfold isDic at q1
    split at q1
    · cases rx
      obtain ⟨kvs, g, q⟩ := q1
      refine ⟨_, rfl, isD_of s1 g, (he.run ρ G1 _ xq σ H1 q (rs.mono e1.tup) s1 (tk.step e1)).imp fun u H2 ⟨y, G2, ry, s2, e2, kvs2, k, g2, hk, q2⟩ => ?_⟩
      obtain ⟨oo, h1, h2⟩ := dgo_of s2 g2 hk ry Rep.non
      exact ⟨oo, h1, _, G2, h2, s2, e1.trans e2, q2⟩
    · exact q1.elim
def dGet2 (to te tf : DE) : DE := fun ρ G Q xq => to ρ G (fun x G1 => match x with
  | .rd ks ds => te ρ G1 (fun y G2 => tf ρ G2 (fun z G3 => ∃ k, keyD y = some k ∧ Q ((valR ks ds k).getD z) G3) xq) xq
  | x => isDic x G1 fun a _ => te ρ G1 (fun y G2 => tf ρ G2 (fun z G3 => ∃ kvs k, G3 a = some (.dK kvs) ∧ keyD y = some k ∧ Q ((valD kvs k).getD z) G3) xq) xq) xq
theorem qe_get2 (hu : X.A.units + 1 < cLine) (ho : QE X o to) (he : QE X e te) (hf : QE X f tf) (hb : baseOk o = true) (hn : noStar e = true) (hn2 : noStar f = true) (hl : (apos.endLine == cpos.line) = true) : QE X (.Call (.Attribute o "get" apos) [e, f] [] cpos) (dGet2 to te tf) := by
  refine ⟨fun ρ G Q xq σ H h rs s tk => ?_⟩
  refine PE.we (pe_dget2 hu pe_max pe_max pe_max (m2_of hb hn hn2 hl)) ((ho.run ρ G _ xq σ H h rs s tk).imp fun v H1 ⟨x, G1, rx, s1, e1, q1⟩ => ?_)
  dsimp only at q1
  split at q1
  · obtain ⟨a, rfl, hd⟩ := rd_at rx
    refine ⟨_, rfl, hd, (he.run ρ G1 _ xq σ H1 q1 (rs.mono e1.tup) s1 (tk.step e1)).imp fun u H2 ⟨y, G2, ry, s2, e2, q2⟩ => ?_⟩
    have e12 := e1.trans e2
    refine (hf.run ρ G2 _ xq σ H2 q2 (rs.mono e12.tup) s2 (tk.step e12)).imp fun w H3 ⟨z, G3, rz, s3, e3, k, hk, q3⟩ => ?_
    obtain ⟨oo, h1, h2⟩ := dgoR_of ((rx.mono e2.tup).mono e3.tup) hk (ry.mono e3.tup) rz
    exact ⟨oo, h1, _, G3, h2, s3, e12.trans e3, q3⟩
  · unfold isDic at q1
    split at q1
    · cases rx
      obtain ⟨kvs, g, q⟩ := q1
      refine ⟨_, rfl, isD_of s1 g, (he.run ρ G1 _ xq σ H1 q (rs.mono e1.tup) s1 (tk.step e1)).imp fun u H2 ⟨y, G2, ry, s2, e2, q2⟩ => ?_⟩
      have e12 := e1.trans e2
      refine (hf.run ρ G2 _ xq σ H2 q2 (rs.mono e12.tup) s2 (tk.step e12)).imp fun w H3 ⟨z, G3, rz, s3, e3, kvs2, k, g2, hk, q3⟩ => ?_
      obtain ⟨oo, h1, h2⟩ := dgo_of s3 g2 hk (ry.mono e3.tup) rz
      exact ⟨oo, h1, _, G3, h2, s3, e12.trans e3, q3⟩
    · exact q1.elim
/-! dict(xs), xs a list of pairs -/
def pairsD (kvs : List (Key × D)) : List D := kvs.map fun kv => D.tup [keyV kv.1, kv.2]
def dofD (d : D) (G : Sto) (Q : DQ) : Prop := lstD d G fun ds => ∃ kvs : List (Key × D), ds = pairsD kvs ∧ ∀ p, G p = none → Q (.ref p) (put G p (.dK (mergeD [] kvs)))
theorem keyV_rep {K : PySem.W.Frag} {H : Hp} {v : V} {k : Key} (r : Rep K H v (keyV k)) : v = kV k := by
  cases k with
  | inl i => cases r; rfl
  | inr x => cases r; rfl
theorem pairs_of {K : PySem.W.Frag} {H : Hp} : ∀ {vs : List V} {kvs : List (Key × D)}, Reps K H vs (pairsD kvs) → ∃ (ps : List Addr) (m : List (Key × V)), vs = ps.map V.ref ∧ Paired (fun p kv => SqT K H p [kV kv.1, kv.2]) ps m ∧ RepKV K H m kvs
  | _, [], h => by
    cases h
    exact ⟨[], [], rfl, .nil, True.intro⟩
  | _, (k, d) :: r, h => by
    cases h with
    | cons a b =>
      obtain ⟨ps, m, rfl, h2, h3⟩ := pairs_of (kvs := r) b
      cases a with
      | @tup t us ds hs rr =>
        obtain ⟨v, u, rfl, rv, ru⟩ := rr.two
        rw [keyV_rep rv] at hs
        exact ⟨t :: ps, (k, u) :: m, rfl, .cons hs h2, rfl, ru, h3⟩
theorem dict_boot : bootBuiltins "dict" = some (.type "dict") := by decide +kernel
theorem qe_dof (hc : X.calm = true) (hg : Gl X "dict") (hm : X.mg "dict" = none) (he : QE X e te) (hn : noStar e = true) : QE X (.Call (.Name "dict" p) [e] [] pos) (dUn dofD te) := by
  refine ⟨fun ρ G Q xq σ H h rs s tk => ?_⟩
  refine PE.we (pe_callTy (T := "dict") (call_dictP hc) hg hm dict_boot (pa_cons pe_max pa_nil (starEach_cons hn)) (by decide) (by decide) (starEach_cons hn) rfl) ((he.run ρ G _ xq σ H h rs s tk).imp fun v H1 ⟨x, G1, rx, s1, e1, q1⟩ => ?_)
  have q1 : dofD x G1 Q := q1
  obtain ⟨a, vs, ds, rfl, hs, r1, kvs, rfl, q⟩ := lst_ q1 rx s1
  obtain ⟨ps, m, rfl, h2, h3⟩ := pairs_of r1
  refine ⟨a, ps, m, rfl, hs, h2, fun b hb => ?_⟩
  exact Lift.back e1 _ _ ⟨.ref b, put G1 b (.dK (mergeD [] kvs)), .ref b, s1.new hb ⟨_, upd_same, (h3.mono (tup_new hb)).merge True.intro⟩, .new hb, q b (s1.free hb)⟩
/-! reversed -/
theorem rev_get {α : Type} {xs : List α} {i : Nat} (h : i < xs.length) : xs.reverse[i]? = xs[xs.length - 1 - i]? := List.getElem?_reverse h
theorem it_rev {K : PySem.W.Frag} {H0 : Hp} {a : Addr} {n : Nat} {ds : List D} (hn : n = ds.length) : ItRep K H0 (Itv K a n) ds.reverse (keepL a ds) where
  go := fun i G H _ s k hi => by
    rw [List.length_reverse] at hi
    obtain ⟨vs, h, r⟩ := keepL_ k s
    obtain ⟨v, hv, _⟩ := r.get (List.getElem?_eq_getElem (show ds.length - 1 - i < ds.length by omega))
    exact ⟨by omega, vs, v, h, by rw [hn]; exact hv⟩
  stop := fun i G H _ s k hi => by
    rw [List.length_reverse] at hi
    exact (by omega : n ≤ i)
  yld := fun i G H x H' _ s k hi y => by
    rw [List.length_reverse] at hi
    obtain ⟨vs, h, r⟩ := keepL_ k s
    obtain ⟨rfl, hy⟩ := y
    obtain ⟨d, hd, rd⟩ := r.getV (hy vs h)
    exact ⟨d, by rw [rev_get hi, ← hn]; exact hd, rd, s, .refl⟩
theorem it_revT {K : PySem.W.Frag} {H0 : Hp} {a : Addr} {n : Nat} {vs : List V} {ds : List D} (hn : n = ds.length) (h0 : SqT K H0 a vs) (r : Reps K H0 vs ds) : ItRep K H0 (ItvT K a n) ds.reverse (fun _ => True) where
  go := fun i G H t s k hi => by
    rw [List.length_reverse] at hi
    obtain ⟨v, hv, _⟩ := r.get (List.getElem?_eq_getElem (show ds.length - 1 - i < ds.length by omega))
    exact ⟨by omega, vs, v, t.t _ _ h0, by rw [hn]; exact hv⟩
  stop := fun i G H t s k hi => by
    rw [List.length_reverse] at hi
    exact (by omega : n ≤ i)
  yld := fun i G H x H' t s k hi y => by
    rw [List.length_reverse] at hi
    obtain ⟨rfl, hy⟩ := y
    obtain ⟨d, hd, rd⟩ := r.getV (hy vs (t.t _ _ h0))
    exact ⟨d, by rw [rev_get hi, ← hn]; exact hd, rd.mono t, s, .refl⟩
theorem it_revV {K : PySem.W.Frag} {H0 : Hp} {a : Addr} {o : Obj} {n : Nat} {vs : List V} {ds : List D} (hn : n = ds.length) (h0 : H0 a = some (.frz o (.lst vs))) (r : Reps K H0 vs ds) : ItRep K H0 (Itv K a n) ds.reverse (fun _ => True) where
  go := fun i G H t s k hi => by
    rw [List.length_reverse] at hi
    obtain ⟨v, hv, _⟩ := r.get (List.getElem?_eq_getElem (show ds.length - 1 - i < ds.length by omega))
    exact ⟨by omega, vs, v, frz_sq (t.d _ _ _ h0), by rw [hn]; exact hv⟩
  stop := fun i G H t s k hi => by
    rw [List.length_reverse] at hi
    exact (by omega : n ≤ i)
  yld := fun i G H x H' t s k hi y => by
    rw [List.length_reverse] at hi
    obtain ⟨rfl, hy⟩ := y
    obtain ⟨d, hd, rd⟩ := r.getV (hy vs (frz_sq (t.d _ _ _ h0)))
    exact ⟨d, by rw [rev_get hi, ← hn]; exact hd, rd.mono t, s, .refl⟩
def revI (d : D) (G : Sto) (R : IQ) : Prop := match d with
  | .tup ds => R ds.reverse (fun _ => True) G
  | .ref a => ∃ ds, G a = some (.lst ds) ∧ R ds.reverse (keepL a ds) G
  | .rl ds => R ds.reverse (fun _ => True) G
  | _ => False
def dIRev (t : DE) : DI := fun ρ G R xq => t ρ G (fun d G1 => revI d G1 R) xq
theorem qi_rev {tg : Expr} (hg : Gl X "reversed") (hm : X.mg "reversed" = none) (he : QE X e te) (hn : noStar e = true) : QI X tg (.Call (.Name "reversed" p) [e] [] pos) (dIRev te) := by
  refine ⟨fun ρ G R xq σ H h rs s tk => ?_⟩
  refine PI.wi (pi_revA hg hm pe_max (starEach_cons hn)) ((he.run ρ G _ xq σ H h rs s tk).imp fun v H1 ⟨x, G1, rx, s1, e1, q1⟩ => ?_)
  have q1 : revI x G1 R := q1
  unfold revI at q1
  split at q1
  · cases rx with
    | tup h1 r1 => exact ⟨_, _, rfl, .inr ⟨h1, _, _, G1, it_revT r1.length h1 r1, s1, e1, q1⟩⟩
  · cases rx
    obtain ⟨ds, hg, q⟩ := q1
    obtain ⟨vs, h1, r1⟩ := keepL_ hg s1
    exact ⟨_, _, rfl, .inl ⟨h1, _, _, G1, it_rev r1.length, s1, e1, q⟩⟩
  · cases rx with
    | rl h1 r1 => exact ⟨_, _, rfl, .inl ⟨frz_sq h1, _, _, G1, it_revV r1.length h1 r1, s1, e1, q1⟩⟩
  · exact q1.elim
end
end DL
namespace DL
open PySem PySem.Spec PyProof.Rows L2
section
variable {X : Cx} {e : Expr} {te : DE} {p pos : Pos}
/-! repr of a tuple or a list, where nothing is being shown -/
def repD (d : D) (G : Sto) (Q : DQ) : Prop := match d with
  | .tup ds => ∃ q, Dd G (.tup ds) q ∧ q.showable = true ∧ q.hasDict = false ∧ q.depth ≤ 60 ∧ q.shown.length ≤ sizeLine ∧ Q (.str q.shown) G
  | .rl ds => ∃ q, Dd G (.rl ds) q ∧ q.showable = true ∧ q.hasDict = false ∧ q.depth ≤ 60 ∧ q.shown.length ≤ sizeLine ∧ Q (.str q.shown) G
  | _ => False
theorem call_repr_at (hgd : X.A.guards = some []) (hu : X.A.units + 64 < cLine) : CallR X (.builtin "repr") (fun xs H Q => ∃ a d, xs = [.ref a] ∧ Dp X.K H (.ref a) d ∧ d.showable = true ∧ d.hasDict = false ∧ d.depth ≤ 60 ∧ d.shown.length ≤ sizeLine ∧ Q (.str d.shown) H) := by
  rintro pins s σ H xs us Q I rv ⟨a, d, rfl, hd, h1, h2, h3, h4, q⟩
  cases rv with
  | cons r1 r2 =>
    cases r2
    obtain ⟨as, r⟩ := Dp.reads I d _ _ hd r1
    obtain rfl := r1
    exact repr_of_reads' r h1 (PyData.noDict_hsm h2) hgd (by omega) (fun b o z => z) (fun h' u tk hk => ⟨.str d.shown, H, I.un (Un.kept hk) (I.hok.kept hk), ⟨u, rfl⟩, q⟩) h4
theorem repr_boot : bootBuiltins "repr" = some (.builtin "repr") := by decide +kernel
theorem qe_rep (hgd : X.A.guards = some []) (hu : X.A.units + 64 < cLine) (hg : Gl X "repr") (hm : X.mg "repr" = none) (he : QE X e te) (hn : noStar e = true) : QE X (.Call (.Name "repr" p) [e] [] pos) (dUn repD te) := by
  refine ⟨fun ρ G Q xq σ H h rs s tk => ?_⟩
  refine PE.we (pe_callB (id := "repr") (call_repr_at hgd hu) hg hm repr_boot (pa_cons pe_max pa_nil (starEach_cons hn)) (by decide) (by decide) (starEach_cons hn) rfl) ((he.run ρ G _ xq σ H h rs s tk).imp fun v H1 ⟨x, G1, rx, s1, e1, q1⟩ => ?_)
  have q1 : repD x G1 Q := q1
  unfold repD at q1
  split at q1
  · obtain ⟨d, hd, h1, h2, h3, h4, q⟩ := q1
    have hp := hd.dp s1 rx
    cases rx with
    | tup a b => exact ⟨_, d, rfl, hp, h1, h2, h3, h4, Lift.back e1 _ _ (Lift.here (.str _) s1 q)⟩
  · obtain ⟨d, hd, h1, h2, h3, h4, q⟩ := q1
    have hp := hd.dp s1 rx
    cases rx with
    | rl a b => exact ⟨_, d, rfl, hp, h1, h2, h3, h4, Lift.back e1 _ _ (Lift.here (.str _) s1 q)⟩
  · exact q1.elim
end
end DL
/-! dict(zip(a, b)) of two tuples: the zip is drawn while its pair before is still held -/
namespace PySem
open Sem (wp)
open RZ
section
variable {prog : Program} {w : World} {A : Around} {E : Value → Shared → Prop} {s : Shared}
theorem zipTH_item {z TI TO T i1 i2 l1 l2 : Addr} {f : Bool} {oT : Obj} {k1 k2 : Nat} {xs ys : Array Value} {x y : Value} {Q : Value → Shared → Prop} (D : ZipApart z TI TO i1 i2 l1 l2)
    (hz : IsZipHeld s.heap z TI TO T f) (hT : s.heap.get? T = some oT) (hTI : IsPair s.heap TI (.ref i1) (.ref i2))
    (h1 : s.heap.IsTupleIter i1 l1 k1) (h2 : s.heap.IsTupleIter i2 l2 k2) (hl1 : s.heap.IsTuple l1 xs) (hl2 : s.heap.IsTuple l2 ys) (hx : xs[k1]? = some x) (hy : ys[k2]? = some y)
    (hQ : ∀ h', IsZipHeld h' z TI TO T true → h'.IsTupleIter i1 l1 (k1 + 1) → h'.IsTupleIter i2 l2 (k2 + 1) → IsPair h' s.heap.objs.size x y →
      (∀ c o, c ≠ z → c ≠ i1 → c ≠ i2 → s.heap.get? c = some o → h'.get? c = some o) → Q (.ref s.heap.objs.size) { s with heap := h' }) :
    wpAny (model prog w) A (Builtin.«zip.__next__» ⟨[.ref z], []⟩) (fun fin s' => ∃ v, fin = .done (.ret v) ∧ Q v s') E s := by
  show wpAny _ _ (field (.ref z) 2 >>= _) _ _ _
  refine wpAny_bind (wpAny_field hz rfl (x := .bool false) rfl ?_)
  show wpAny _ _ (field (.ref z) 3 >>= _) _ _ _
  refine wpAny_bind (wpAny_field hz rfl (x := .ref TI) rfl (wpAny_bind (wpAny_seqItems hTI rfl ?_)))
  show wpAny _ _ (Builtin.SmallTypes.ownedTupleIsFree (.ref z) >>= _) _ _ _
  refine wpAny_bind (wpAny_tupleHeld_zip hz hT fun g1 hz1 hs1 => ?_)
  simp only [Bool.false_eq_true, if_false]
  refine wpAny_bind ?_
  rw [← Array.forIn_toList]
  simp only [List.forIn_cons, List.forIn_nil]
  refine wpAny_bind (wpAny_bind (wpAny_holding ?_))
  show wpAny _ _ (Builtin.SmallTypes.nextOf (.ref i1) >>= _) _ _ _
  refine wpAny_bind (nextOf_tuple_item (s := { s with heap := g1 }) (h1.extBut hs1.extBut D.i1z) (hl1.extBut hs1.extBut D.l1z) hx fun g2 j1 hs2 => wpAny_pure (wpAny_pure ?_))
  refine wpAny_bind (wpAny_bind (wpAny_holding ?_))
  show wpAny _ _ (Builtin.SmallTypes.nextOf (.ref i2) >>= _) _ _ _
  refine wpAny_bind (nextOf_tuple_item (s := { s with heap := g2 }) ((h2.extBut hs1.extBut D.i2z).extBut hs2.extBut D.i12.symm) ((hl2.extBut hs1.extBut D.l2z).extBut hs2.extBut D.l2i1) hy fun g3 j2 hs3 => wpAny_pure (wpAny_pure (wpAny_pure ?_)))
  show wpAny _ _ (newTuple [x, y] >>= _) _ _ _
  refine wpAny_bind (wpAny_newTuple (wpAny_pure ⟨_, rfl, ?_⟩))
  have hsz : g3.objs.size = s.heap.objs.size := by rw [hs3.1, hs2.1, hs1.1]
  have hp : IsPair (g3.push { cls := .type "tuple", data := .seq #[x, y] }) g3.objs.size x y := Heap.get?_push_size _ rfl
  show Q (.ref g3.objs.size) _
  rw [hsz] at hp ⊢
  exact hQ _ (Heap.get?_push_of_some _ (hs3.extBut _ _ D.i2z.symm (hs2.extBut _ _ D.i1z.symm hz1))) ((j1.extBut hs3.extBut D.i12).at fun o e => Heap.get?_push_of_some _ e) (j2.at fun o e => Heap.get?_push_of_some _ e) hp
    fun c o c1 c2 c3 e => Heap.get?_push_of_some _ (hs3.extBut _ _ c3 (hs2.extBut _ _ c2 (hs1.extBut _ _ c1 e)))
theorem zipTH_end {z TI TO T i1 i2 l1 l2 : Addr} {f : Bool} {oT : Obj} {k1 : Nat} {xs : Array Value} {Q : Fin → Shared → Prop} (hh : A.handled = none) (D : ZipApart z TI TO i1 i2 l1 l2)
    (hz : IsZipHeld s.heap z TI TO T f) (hT : s.heap.get? T = some oT) (hTI : IsPair s.heap TI (.ref i1) (.ref i2))
    (h1 : s.heap.IsTupleIter i1 l1 k1) (hl1 : s.heap.IsTuple l1 xs) (hx : xs[k1]? = none)
    (hE : ∀ h' e, (∀ c o, c ≠ z → c ≠ i1 → s.heap.get? c = some o → h'.get? c = some o) → (∃ o, h'.get? e = some o ∧ o.cls = .type "StopIteration") → E (.ref e) { s with heap := h' }) :
    wpAny (model prog w) A (Builtin.«zip.__next__» ⟨[.ref z], []⟩) Q E s := by
  show wpAny _ _ (field (.ref z) 2 >>= _) _ _ _
  refine wpAny_bind (wpAny_field hz rfl (x := .bool false) rfl ?_)
  show wpAny _ _ (field (.ref z) 3 >>= _) _ _ _
  refine wpAny_bind (wpAny_field hz rfl (x := .ref TI) rfl (wpAny_bind (wpAny_seqItems hTI rfl ?_)))
  show wpAny _ _ (Builtin.SmallTypes.ownedTupleIsFree (.ref z) >>= _) _ _ _
  refine wpAny_bind (wpAny_tupleHeld_zip hz hT fun g1 hz1 hs1 => ?_)
  simp only [Bool.false_eq_true, if_false]
  refine wpAny_bind ?_
  rw [← Array.forIn_toList]
  simp only [List.forIn_cons, List.forIn_nil]
  refine wpAny_bind (wpAny_bind (wpAny_holding ?_))
  show wpAny _ _ (Builtin.SmallTypes.nextOf (.ref i1) >>= _) _ _ _
  refine wpAny_bind (nextOf_tuple_end (s := { s with heap := g1 }) hh (h1.extBut hs1.extBut D.i1z) (hl1.extBut hs1.extBut D.l1z) hx fun g2 e hs2 he => ?_)
  exact hE g2 e (fun c o c1 c2 x => hs2 _ _ c2 (hs1.extBut _ _ c1 x)) he
/-- zip(t, u), two tuples of one length, as what a dict is made of -/
theorem pairArg_zipT (z TI TO i1 i2 l1 l2 : Addr) (D : ZipApart z TI TO i1 i2 l1 l2) (xs ys : Array Value) (hxy : xs.size = ys.size) :
    PairArg prog w "zip" z [z, TI, TO, i1, i2, l1, l2] [z, TO, i1, i2] xs.size (fun i k v => xs[i]? = some k ∧ ys[i]? = some v)
      (fun h => IsZip h z TI TO .none ∧ IsPair h TI (.ref i1) (.ref i2) ∧ (∃ a b, IsPair h TO a b) ∧ h.IsTupleIter i1 l1 0 ∧ h.IsTupleIter i2 l2 0 ∧ h.IsTuple l1 xs ∧ h.IsTuple l2 ys) where
  type := fun s ok => ⟨_, ok.1, rfl⟩
  notDict := by decide
  keep := fun h h' ok hk => by
    obtain ⟨hz, hTI, ⟨a, b, hTO⟩, h1, h2, hl1, hl2⟩ := ok
    exact ⟨hk _ _ hz, hk _ _ hTI, ⟨a, b, hk _ _ hTO⟩, h1.at fun o e => hk _ o e, h2.at fun o e => hk _ o e, hl1.at fun o e => hk _ o e, hl2.at fun o e => hk _ o e⟩
  there := fun h ok b hb => by
    obtain ⟨hz, hTI, ⟨a, c, hTO⟩, ⟨o1, h1, _⟩, ⟨o2, h2, _⟩, ⟨o3, hl1, _⟩, ⟨o4, hl2, _⟩⟩ := ok
    simp only [List.mem_cons, List.not_mem_nil, or_false] at hb
    rcases hb with rfl | rfl | rfl | rfl | rfl | rfl | rfl
    all_goals first | exact ⟨_, hz⟩ | exact ⟨_, hTI⟩ | exact ⟨_, hTO⟩ | exact ⟨_, h1⟩ | exact ⟨_, h2⟩ | exact ⟨_, hl1⟩ | exact ⟨_, hl2⟩
  sub := fun b hb => by
    simp at hb ⊢
    rcases hb with rfl | rfl | rfl | rfl <;> simp
  noKeys := fun A s Q E hA ok h => getAttrOr_miss_zip ok.1 rfl rfl rfl zip_no_keys (by decide +kernel) hA h
  iter := fun A s d Q E hA ok hd hdf h => by
    obtain ⟨hz, hTI, ⟨a, b, hTO⟩, h1, h2, hl1, hl2⟩ := ok
    simp only [List.mem_cons, List.not_mem_nil, or_false, not_or] at hdf
    obtain ⟨dz, dTI, dTO, di1, di2, dl1, dl2⟩ := hdf
    refine wpAny_pyIter_zip hz (h z [z, TO, i1, i2] (fun i h => IsPair h TI (.ref i1) (.ref i2) ∧ h.IsTupleIter i1 l1 i ∧ h.IsTupleIter i2 l2 i ∧ h.IsTuple l1 xs ∧ h.IsTuple l2 ys ∧
      ((IsZip h z TI TO .none ∧ ∃ a b, IsPair h TO a b) ∨ ∃ T f oT, IsZipHeld h z TI TO T f ∧ h.get? T = some oT ∧ T ≠ z ∧ T ≠ i1 ∧ T ≠ i2 ∧ T ≠ d)) s.heap s.toks ?_
      ⟨hTI, h1, h2, hl1, hl2, .inl ⟨hz, a, b, hTO⟩⟩ (fun _ _ e => e) fun b hb => .inl hb)
    exact {
      off := fun hm => by
        simp only [List.mem_cons, List.not_mem_nil, or_false] at hm
        rcases hm with e | e | e | e
        · exact dz e
        · exact dTO e
        · exact di1 e
        · exact di2 e
      frame := fun i g g' st hk => by
        obtain ⟨hTI, h1, h2, hl1, hl2, hz⟩ := st
        refine ⟨hk _ _ (Ne.symm dTI) hTI, h1.at fun o e => hk _ o (Ne.symm di1) e, h2.at fun o e => hk _ o (Ne.symm di2) e, hl1.at fun o e => hk _ o (Ne.symm dl1) e, hl2.at fun o e => hk _ o (Ne.symm dl2) e, ?_⟩
        rcases hz with ⟨hz, a, b, hTO⟩ | ⟨T, f, oT, hz, hT, r1, r2, r3, r4⟩
        · exact .inl ⟨hk _ _ (Ne.symm dz) hz, a, b, hk _ _ (Ne.symm dTO) hTO⟩
        · exact .inr ⟨T, f, oT, hk _ _ (Ne.symm dz) hz, hk _ _ r4 hT, r1, r2, r3, r4⟩
      item := fun i t Q1 E1 hi st hds hQ => by
        obtain ⟨hTI, h1, h2, hl1, hl2, hz⟩ := st
        have ex := Array.getElem?_eq_getElem hi
        have ey := Array.getElem?_eq_getElem (show i < ys.size by omega)
        have lt : ∀ {c o}, t.heap.get? c = some o → t.heap.objs.size ≠ c := fun e => Nat.ne_of_gt (Heap.lt_size e)
        have n1 : t.heap.objs.size ≠ i1 := let ⟨_, e, _⟩ := h1; lt e
        have n2 : t.heap.objs.size ≠ i2 := let ⟨_, e, _⟩ := h2; lt e
        rcases hz with ⟨hz, a, b, hTO⟩ | ⟨T, f, oT, hz, hT, r1, r2, r3, r4⟩
        · refine pyNext_zipT_item D hz hTI hTO h1 h2 hl1 hl2 ex ey fun h' a1 a2 a3 a4 a5 a6 hk => ?_
          exact hQ t.heap.objs.size _ _ h' t.toks ⟨ex, ey⟩ (.inl ⟨_, a5, rfl, _, rfl⟩)
            ⟨hk _ _ D.TIz D.TITO D.TIi1 D.TIi2 hTI, a3, a4, hl1.at fun o e => hk _ o D.l1z D.l1TO D.l1i1 D.l1i2 e, hl2.at fun o e => hk _ o D.l2z D.l2TO D.l2i1 D.l2i2 e,
              .inr ⟨t.heap.objs.size, false, _, a1, a5, lt hz, n1, n2, Nat.ne_of_gt hds⟩⟩
            fun c o hc e => hk c o (fun x => hc (by simp [x])) (fun x => hc (by simp [x])) (fun x => hc (by simp [x])) (fun x => hc (by simp [x])) e
        · have hTy : t.TypeIs (.ref z) "zip" := ⟨_, hz, rfl⟩
          unfold pyNext
          refine wpAny_bind (wpAny_attempt (wpAny_callSpecial?_slot (name := Str.ofString "__next__") hTy F.slot_zip_next
            (wpAny_call_entry F.slot_zip_next hTy F.entry_zip_next (zipTH_item D hz hT hTI h1 h2 hl1 hl2 ex ey fun h' a1 a3 a4 a5 hk => wpAny_pure ?_) (F.args_zip_next_1 _))))
          exact hQ t.heap.objs.size _ _ h' t.toks ⟨ex, ey⟩ (.inl ⟨_, a5, rfl, _, rfl⟩)
            ⟨hk _ _ D.TIz D.TIi1 D.TIi2 hTI, a3, a4, hl1.at fun o e => hk _ o D.l1z D.l1i1 D.l1i2 e, hl2.at fun o e => hk _ o D.l2z D.l2i1 D.l2i2 e,
              .inr ⟨T, true, oT, a1, hk _ _ r1 r2 r3 hT, r1, r2, r3, r4⟩⟩
            fun c o hc e => hk c o (fun x => hc (by simp [x])) (fun x => hc (by simp [x])) (fun x => hc (by simp [x])) e
      done := fun t Q1 E1 st hQ => by
        obtain ⟨hTI, h1, h2, hl1, hl2, hz⟩ := st
        have hx : xs[xs.size]? = none := Array.getElem?_eq_none (Nat.le_refl _)
        rcases hz with ⟨hz, a, b, hTO⟩ | ⟨T, f, oT, hz, hT, r1, r2, r3, r4⟩
        · exact pyNext_zipT_end hA D hz hTI hTO h1 h2 hl1 hl2 (.inl hx) fun h' hk => hQ h' t.toks fun c o hc e => hk c o (fun x => hc (by simp [x])) (fun x => hc (by simp [x])) (fun x => hc (by simp [x])) (fun x => hc (by simp [x])) e
        · have hTy : t.TypeIs (.ref z) "zip" := ⟨_, hz, rfl⟩
          unfold pyNext
          refine wpAny_bind (wpAny_attempt (wpAny_callSpecial?_slot (name := Str.ofString "__next__") hTy F.slot_zip_next
            (wpAny_call_entry F.slot_zip_next hTy F.entry_zip_next (zipTH_end hA D hz hT hTI h1 hl1 hx fun h' e hk he => ?_) (F.args_zip_next_1 _))))
          obtain ⟨o, ho, hc⟩ := he
          refine wpAny_bind (wpAny_isInstance (T := "StopIteration") (b := true) ⟨o, ho, hc⟩ isSubtype_stop (wpAny_pure ?_))
          exact hQ h' t.toks fun c o hc e => hk c o (fun x => hc (by simp [x])) (fun x => hc (by simp [x])) e }
end
end PySem
namespace DL
open PySem PySem.Spec PyProof.Rows L2
theorem kV_is {k : Key} {u : Value} (h : RelV (kV k) u) : keyIs k u = true := by
  cases k with
  | inl i =>
    obtain ⟨t, rfl⟩ := h
    exact keyIs_int i t
  | inr x =>
    obtain ⟨t, rfl⟩ := h
    exact keyIs_str x t
theorem zip_have : ∀ {kvs : List (Key × V)} {us ws : List Value}, Vals (kvs.map fun kv => kV kv.1) us → Vals (kvs.map (·.2)) ws →
    ∃ prs : List (Key × Value), KV kvs prs ∧ prs.length = us.length ∧ us.length = ws.length ∧ ∀ (i : Nat) (key v : Value), us[i]? = some key → ws[i]? = some v → ∃ k, prs[i]? = some (k, v) ∧ keyIs k key = true
  | [], us, ws, h1, h2 => by
    cases h1
    cases h2
    exact ⟨[], .nil, rfl, rfl, fun i key v e => by simp at e⟩
  | kv :: kvs, us, ws, h1, h2 => by
    cases h1 with
    | cons a1 b1 =>
      cases h2 with
      | cons a2 b2 =>
        rename_i u us w ws
        obtain ⟨prs, r1, r2, r3, r4⟩ := zip_have b1 b2
        refine ⟨(kv.1, w) :: prs, .cons ⟨rfl, a2⟩ r1, by simp [r2], by simp [r3], fun i key v e1 e2 => ?_⟩
        cases i with
        | zero =>
          have e1 : u = key := Option.some.inj e1
          have e2 : w = v := Option.some.inj e2
          subst e1 e2
          exact ⟨kv.1, rfl, kV_is a1⟩
        | succ i => exact r4 i key v (by simpa using e1) (by simpa using e2)
section
variable {X : Cx} {e e1 e2 : Expr} {te1 te2 : DE} {p p2 pos pos2 : Pos}
def rDzip (K : PySem.W.Frag) (vs : List V) (H : Hp) (Q : VK) : Prop := ∃ (a b : Addr) (kvs : List (Key × V)), vs = [.ref a, .ref b] ∧ SqT K H a (kvs.map fun kv => kV kv.1) ∧ SqT K H b (kvs.map (·.2)) ∧ kvs.length ≤ 1000 ∧ ∀ q, H q = none → Q (.ref q) (upd H q (.dK (mergeK [] kvs)))
theorem pe_dzip {t : TA} (hc : X.calm = true) (hg : Gl X "dict") (hm : X.mg "dict" = none) (hg2 : Gl X "zip") (hm2 : X.mg "zip" = none) (ha : PA X [e1, e2] t) (hn1 : noStar e1 = true) (hn2 : noStar e2 = true) :
    PE X (.Call (.Name "dict" p) [.Call (.Name "zip" p2) [e1, e2] [] pos2] [] pos) (fun σ H Q => t σ H fun vs H1 => rDzip X.K vs H1 Q) := by
  refine ⟨fun pins s σ H Q I h => ?_⟩
  have na2 : starEach [.Call (.Name "zip" p2) [e1, e2] [] pos2] X.env = (false, eval (.Call (.Name "zip" p2) [e1, e2] [] pos2) X.env) :: starEach [] X.env := starEach_cons rfl
  refine wpAny_Call_Name_kw (ld_blt I hg hm dict_boot ?_ (by decide) (by decide))
  refine PyProof.Rows.callWith_type1 (args_cons ?_ na2) na2 rfl
  refine Call_ (ld_blt I hg2 hm2 PyProof.Rows.boot_zip (PyProof.Rows.callWith_type1 (thn (ha.run pos2 pins s σ H _ I h) fun us s1 ⟨vs, H1, I1, r1, a, b, kvs, ev, ta, tb, hl, q⟩ => ?_) (starEach_cons hn1) (by rw [starEach_cons hn2]; rfl)))
  subst ev
  obtain ⟨u, y, eu, ru, ry⟩ := vals2 r1
  subst eu
  obtain rfl : u = Value.ref a := ru
  obtain rfl : y = Value.ref b := ry
  obtain ⟨i1, v1, p1, z1⟩ := I1.tuple ta
  obtain ⟨i2, v2, p2', z2⟩ := I1.tuple tb
  obtain ⟨prs, r2, r3, r4, r5⟩ := zip_have v1 v2
  have hl1 : s1.heap.IsTuple a i1.toArray := p1
  have hl2 : s1.heap.IsTuple b i2.toArray := p2'
  have la : a < s1.heap.objs.size := by obtain ⟨o, ho, _⟩ := hl1; exact Heap.lt_size ho
  have lb : b < s1.heap.objs.size := by obtain ⟨o, ho, _⟩ := hl2; exact Heap.lt_size ho
  refine RZ.call_zipT hl1 hl2 fun h' c1 c2 c3 c4 c5 c6 c7 => args_nil ?_
  have hsz : i1.toArray.size = prs.length := by simp [r3]
  have hn : prs.length ≤ 1000 := by rw [r3, ← v1.length, List.length_map]; exact hl
  refine PySem.call_dict_pairs (knd := mixKind X.prog X.w) (kvs := prs) (s := { s1 with heap := h' }) (pairArg_zipT _ _ _ _ _ a b (zipApart_new la lb) i1.toArray i2.toArray (by simp [r4])) (I1.ok.hd hc)
    ⟨c1, c2, ⟨_, _, c3⟩, c4, c5, hl1.at fun o e => c7 _ _ e, hl2.at fun o e => c7 _ _ e⟩ ⟨hsz.symm, fun i key v ⟨e1, e2⟩ => r5 i key v (by simpa using e1) (by simpa using e2)⟩ (by rw [hsz]; exact Nat.le_trans hn (by decide)) fun h2 tk hd hk => ?_
  have keep : ∀ b o, s1.heap.get? b = some o → h2.get? b = some o := fun b o e => hk b o (fun z => by
    have lt : b < s1.heap.objs.size := Heap.lt_size e
    simp only [List.mem_cons, List.not_mem_nil, or_false] at z
    rcases z with z | z | z | z
    · rw [z] at lt
      exact absurd lt (Nat.not_lt.mpr (Nat.le_add_right _ _))
    · rw [z] at lt
      exact absurd lt (Nat.not_lt.mpr (Nat.le_add_right _ _))
    · rw [z] at lt
      exact absurd lt (Nat.lt_irrefl _)
    · rw [z] at lt
      exact absurd lt (Nat.not_lt.mpr (Nat.le_add_right _ _))) (c7 b o e)
  have hle : s1.heap.objs.size ≤ h'.objs.size := by omega
  have hlen : (mergeK [] kvs).length ≤ sizeLine := by
    refine Nat.le_trans (length_mergeK kvs []) ?_
    rw [List.length_nil, Nat.zero_add]
    exact Nat.le_trans hl (by decide)
  have hm' : (h'.objs.size == sysModules) = false := beq_eq_false_iff_ne.mpr (Nat.ne_of_gt (Nat.lt_of_lt_of_le I1.big hle))
  exact ⟨.ref h'.objs.size, upd H1 h'.objs.size (.dK (mergeK [] kvs)), I1.laid (t' := tk) keep hle (show ObjOk X.prog X.w _ _ _ (.dK (mergeK [] kvs)) from ⟨hlen, hm', merged [] prs, KV.merge r2 .nil, hd⟩), rfl, q _ (I1.hok.fresh hle)⟩
/-- dict(zip(t, u)) -/
def dzipD (x y : D) (G : Sto) (Q : DQ) : Prop := match x, y with
  | .tup xs, .tup ys => ∃ kvs : List (Key × D), xs = kvs.map (fun kv => keyV kv.1) ∧ ys = kvs.map (·.2) ∧ kvs.length ≤ 1000 ∧ ∀ q, G q = none → Q (.ref q) (put G q (.dK (mergeD [] kvs)))
  | _, _ => False
def dDzip (a b : DE) : DE := fun ρ G Q xq => a ρ G (fun x G1 => b ρ G1 (fun y G2 => dzipD x y G2 Q) xq) xq
theorem keys_rep {K : PySem.W.Frag} {H : Hp} : ∀ {kvs : List (Key × D)} {us vs : List V}, Reps K H us (kvs.map fun kv => keyV kv.1) → Reps K H vs (kvs.map (·.2)) → ∃ m : List (Key × V), us = m.map (fun kv => kV kv.1) ∧ vs = m.map (·.2) ∧ RepKV K H m kvs
  | [], us, vs, h1, h2 => by
    cases h1
    cases h2
    exact ⟨[], rfl, rfl, True.intro⟩
  | kv :: kvs, us, vs, h1, h2 => by
    cases h1 with
    | cons a1 b1 =>
      cases h2 with
      | cons a2 b2 =>
        obtain ⟨m, e1, e2, r⟩ := keys_rep b1 b2
        rw [keyV_rep a1, e1, e2]
        exact ⟨(kv.1, _) :: m, rfl, rfl, rfl, a2, r⟩
theorem qe_dzip (hc : X.calm = true) (hg : Gl X "dict") (hm : X.mg "dict" = none) (hg2 : Gl X "zip") (hm2 : X.mg "zip" = none) (h1 : QE X e1 te1) (h2 : QE X e2 te2) (hn1 : noStar e1 = true) (hn2 : noStar e2 = true) :
    QE X (.Call (.Name "dict" p) [.Call (.Name "zip" p2) [e1, e2] [] pos2] [] pos) (dDzip te1 te2) := by
  refine ⟨fun ρ G Q xq σ H h rs s tk => ?_⟩
  refine PE.we (pe_dzip hc hg hm hg2 hm2 (pa_cons pe_max (pa_cons pe_max pa_nil (starEach_cons hn2)) (starEach_cons hn1)) hn1 hn2) ((h1.run ρ G _ xq σ H h rs s tk).imp fun v H1 ⟨x, G1, rx, s1, x1, q1⟩ => ?_)
  refine (h2.run ρ G1 _ xq σ H1 q1 (rs.mono x1.tup) s1 (tk.step x1)).imp fun u H2 ⟨y, G2, ry, s2, x2, q2⟩ => ?_
  have rx2 := rx.mono x2.tup
  have q2 : dzipD x y G2 Q := q2
  unfold dzipD at q2
  split at q2
  · obtain ⟨kvs, ex, ey, hl, q⟩ := q2
    subst ex ey
    cases rx2 with
    | tup ta ra =>
      cases ry with
      | tup tb rb =>
        obtain ⟨m, e1, e2, r⟩ := keys_rep ra rb
        rw [e1] at ta
        rw [e2] at tb
        refine ⟨_, _, m, rfl, ta, tb, by rw [r.length]; exact hl, fun b hb => ?_⟩
        exact Lift.back (x1.trans x2) _ _ ⟨.ref b, put G2 b (.dK (mergeD [] kvs)), .ref b, s2.new hb ⟨_, upd_same, (r.mono (tup_new hb)).merge True.intro⟩, .new hb, q b (s2.free hb)⟩
  · exact q2.elim
end
end DL
namespace DL
open PySem PySem.Spec PyProof.Rows L2
/-! own classes: fields, methods, making -/
section
variable {X : Cx} {C : Addr} {o e : Expr} {es : List Expr} {to te : DE} {tas : DA} {f m x : Str} {p pos apos cpos : Pos} {sp : DSp}
theorem kv_lookup {K : PySem.W.Frag} {H : Hp} {f : Str} {d : D} : ∀ {l : List (Str × V)} {fs : List (Str × D)}, RepKV K H l fs → fs.lookup f = some d → ∃ v, l.lookup f = some v ∧ Rep K H v d
  | [], [], _, h => by simp at h
  | (k, v) :: l, (j, z) :: fs, ⟨e, r, rr⟩, h => by
    subst e
    rw [List.lookup_cons] at h ⊢
    split at h
    · rename_i hh
      cases h
      exact ⟨v, rfl, r⟩
    · rename_i hh
      obtain ⟨w, h1, h2⟩ := kv_lookup rr h
      exact ⟨w, h1, h2⟩
  | [], _ :: _, h, _ => h.elim
  | _ :: _, [], h, _ => h.elim
theorem kv_none {K : PySem.W.Frag} {H : Hp} {f : Str} : ∀ {l : List (Str × V)} {fs : List (Str × D)}, RepKV K H l fs → fs.lookup f = none → l.lookup f = none
  | [], [], _, h => rfl
  | (k, v) :: l, (j, z) :: fs, ⟨e, r, rr⟩, h => by
    subst e
    rw [List.lookup_cons] at h ⊢
    split at h
    · cases h
    · exact kv_none rr h
  | [], _ :: _, h, _ => h.elim
  | _ :: _, [], h, _ => h.elim
def putFD (f : Str) (v : D) : List (Str × D) → List (Str × D)
  | [] => [(f, v)]
  | (g, x) :: r => if g = f then (g, v) :: r else (g, x) :: putFD f v r
theorem kv_put {K : PySem.W.Frag} {H : Hp} {f : Str} {v : V} {d : D} (r0 : Rep K H v d) : ∀ {l : List (Str × V)} {fs : List (Str × D)}, RepKV K H l fs → RepKV K H (putF f v l) (putFD f d fs)
  | [], [], _ => ⟨rfl, r0, True.intro⟩
  | (k, w) :: l, (j, z) :: fs, ⟨e, r, rr⟩ => by
    subst e
    unfold putF putFD
    by_cases h : k = f
    · rw [if_pos h, if_pos h]
      exact ⟨rfl, r0, rr⟩
    · rw [if_neg h, if_neg h]
      exact ⟨rfl, r, kv_put r0 rr⟩
  | [], _ :: _, h => h.elim
  | _ :: _, [], h => h.elim
theorem ins_at {K : PySem.W.Frag} {G : Sto} {H : Hp} (s : Sim K G H) {a dx : Addr} {fs : List (Str × D)} (g : G a = some (.ins C dx fs)) : ∃ l, H a = some (.ins C dx l) ∧ RepKV K H l fs := s a _ g
/-- o.f -/
def fldD (C : Addr) (f : Str) (d : D) (G : Sto) (Q : DQ) : Prop := ∃ a dx fs v, d = .ref a ∧ G a = some (.ins C dx fs) ∧ fs.lookup f = some v ∧ Q v G
theorem qe_fld (c : Cls X.K C) (n : NoAttr X.K C f) (ho : QE X o to) (hb : baseOk o = true) : QE X (.Attribute o f pos) (dUn (fldD C f) to) := by
  refine ⟨fun ρ G Q xq σ H h rs s tk => ?_⟩
  refine PE.we (pe_fld pe_max (base_ok hb)) ((ho.run ρ G _ xq σ H h rs s tk).imp fun v H1 ⟨d, G1, rd, s1, e1, q1⟩ => ?_)
  obtain ⟨a, dx, fs, w, ed, g, l, q⟩ := (show fldD C f d G1 Q from q1)
  subst ed
  cases rd
  obtain ⟨m, hm, rm⟩ := ins_at s1 g
  obtain ⟨u, hu, ru⟩ := kv_lookup rm l
  exact ⟨a, C, dx, m, u, rfl, hm, c, n, hu, Lift.back e1 _ _ (Lift.here ru s1 q)⟩
/-- o.f = e -/
def sFldD (C : Addr) (f : Str) (te to : DE) : DS := fun D ρ G => te ρ G (fun y G1 => to ρ G1 (fun d G2 => ∃ a dx fs, d = .ref a ∧ G2 a = some (.ins C dx fs) ∧ fs.length < 1000 ∧ D.nx ρ (put G2 a (.ins C dx (putFD f y fs)))) fun z => D.ex z ρ) fun z => D.ex z ρ
theorem qs_fld (c : Cls X.K C) (n : NoAttr X.K C f) (he : QE X e te) (ho : QE X o to) : QS X (.Assign [.Attribute o f apos] e pos) (sFldD C f te to) := by
  refine ⟨fun D ρ G σ H h rs s tk => ?_⟩
  refine PS.ws (ps_fld pe_max pe_max (by cases e <;> rfl)) ?_
  refine (he.run ρ G _ _ σ H h rs s (tk.tk rs)).imp fun v H1 ⟨y, G1, ry, s1, e1, q1⟩ => ?_
  refine (ho.run ρ G1 _ _ σ H1 q1 (rs.mono e1.tup) s1 ((tk.step e1).tk (rs.mono e1.tup))).imp fun w H2 ⟨d, G2, rd, s2, e2, a, dx, fs, ed, g, hl, q⟩ => ?_
  subst ed
  cases rd
  obtain ⟨m, hm, rm⟩ := ins_at s2 g
  have e12 := e1.trans e2
  have tm : TupExt X.K H2 (upd H2 a (.ins C dx (putF f v m))) := tup_mut hm rfl
  refine ⟨a, C, dx, m, rfl, hm, c, n, by rw [rm.length]; exact hl, ?_⟩
  exact ⟨ρ, _, (rs.mono e12.tup).mono tm, s2.mut (c := .ins C dx (putFD f y fs)) (c0 := .ins C dx fs) hm rfl ⟨_, upd_same, (kv_put (ry.mono e2.tup) rm).mono tm⟩, e12.trans (.mut g hm rfl), q⟩
/-- a method of the class, with its promise -/
def MCal (X : Cx) (C : Addr) (m : Str) (sp : DSp) : Prop := ∃ (k : Nat) (f : Addr) (fd : FuncData) (ps : List Str),
  FnOk X.prog X.w X.K X.mg X.base (L2N.CX X.prog X.w) k f fd ps (liftSp X.K sp) ∧ Room (k + 1) X.A ∧ Meth X.K C m f ∧ Binds X.K fd ps []
theorem meth_eq {env : PySem.Env} (hb : baseOk o = true) (hn : es.all noStar = true) (hl : es.length < 30) (hline : (apos.endLine == cpos.line) = true) :
    eval (.Call (.Attribute o m apos) es [] cpos) env = (do
      let ov ← eval o env
      standAt apos.atName
      let (f, first) ← holding [ov] (getMethod ov m (do return (← importBound o env).getD true))
      callWith cpos f first (backTo cpos (starEach es env)) (backToKw cpos (keywordEach [] env))) := by
  have hf : methodCallForm (es.length + ([] : List Keyword).length) (backTo cpos (starEach es env)) (backToKw cpos (keywordEach [] env)) = true := by
    unfold methodCallForm
    rw [starEach_all hn cpos]
    show (true && true && decide (es.length + 0 + 0 < 30)) = true
    rw [decide_eq_true (by omega)]
    rfl
  show (attributeBase o m env (eval o env) >>= fun ov => standAt apos.atName >>= fun _ => methodCall o m apos cpos env ov (es.length + ([] : List Keyword).length) (backTo cpos (starEach es env)) (backToKw cpos (keywordEach [] env))) = _
  rw [base_ok hb]
  unfold methodCall
  rw [hf]
  unfold calleeOf methodCallPos
  rw [hline]
  simp only [Bool.not_true, Bool.or_true, if_true, pure_bind]
/-- o.m(..) -/
def dMeth (C : Addr) (m : Str) (sp : DSp) (to : DE) (t : DA) : DE := fun ρ G Q xq => to ρ G (fun d G1 => ∃ a dx fs, d = .ref a ∧ G1 a = some (.ins C dx fs) ∧ fs.lookup m = none ∧ t ρ G1 (fun ds G2 => sp (.ref a :: ds) G2 Q xq) xq) xq
theorem qe_meth (M : MCal X C m sp) (c : Cls X.K C) (ho : QE X o to) (ha : QA X (e :: es) tas) (hb : baseOk o = true) (hn : (e :: es).all noStar = true) (hl : (e :: es).length < 30) (hline : (apos.endLine == cpos.line) = true) :
    QE X (.Call (.Attribute o m apos) (e :: es) [] cpos) (dMeth C m sp to tas) := by
  obtain ⟨k, f, fd, ps, F, hr, hm, hb2⟩ := M
  have hr := hr.mono (Nat.le_succ k)
  have hn2 := hn
  rw [List.all_cons, Bool.and_eq_true] at hn2
  refine ⟨fun ρ G Q xq σ H h rs s tk => ?_⟩
  intro pins s0 I
  refine PySem.W.methodCall_KW (pl := do return (← importBound o X.env).getD true) (thn ((ho.run ρ G _ xq σ H h rs s tk) pins s0 I) fun u s1 ⟨v, H1, I1, rx, d, G1, rd, sm1, e1, a, dx, fs, ed, g, l, q⟩ => ?_) (meth_eq hb hn hl hline)
  subst ed
  cases rd
  obtain rfl : u = Value.ref a := rx
  obtain ⟨mm, hmm, rm⟩ := ins_at sm1 g
  refine getmeth_ok I1 hmm c hm (kv_none rm l) ?_
  have hA := (ha.run ρ G1 _ xq σ H1 q (rs.mono e1.tup) sm1 (tk.step e1)) cpos pins s1 I1
  refine PySem.W.callWith_K (first := [.ref a]) (h₀ := X.base) I.ok.mod.kin hm.kp (thn hA fun us s2 ⟨vs, H2, I2, r2, ds, G2, rds, sm2, e2, q2⟩ => ⟨I2.kIn, ?_⟩) (starEach_cons hn2.1) (starEach_any hn2.2 _)
  refine run_fnSD (E := fun σ cls d H' => XW X cls d σ H') (us := .ref a :: us) (vs := .ref a :: vs) F hr hb2 .nil passes_max I2 (.cons rfl r2) ?_
  have e12 := e1.trans e2
  exact ⟨.ref a :: ds, G2, Q, xq, by rw [List.append_nil]; exact .cons (.ref a) rds, sm2, q2, fun v H' lf => Lift.back e12 _ _ lf, fun z cls d G' H' x1 x2 x3 x4 => tk.ex z cls d G' H' x1 x2 (e12.trans x3) x4⟩
theorem qe_meth0 (M : MCal X C m sp) (c : Cls X.K C) (ho : QE X o to) (hb : baseOk o = true) (hline : (apos.endLine == cpos.line) = true) :
    QE X (.Call (.Attribute o m apos) [] [] cpos) (dMeth C m sp to dNil) := by
  obtain ⟨k, f, fd, ps, F, hr, hm, hb2⟩ := M
  have hr := hr.mono (Nat.le_succ k)
  refine ⟨fun ρ G Q xq σ H h rs s tk => ?_⟩
  intro pins s0 I
  refine PySem.W.methodCall_KW (pl := do return (← importBound o X.env).getD true) (thn ((ho.run ρ G _ xq σ H h rs s tk) pins s0 I) fun u s1 ⟨v, H1, I1, rx, d, G1, rd, sm1, e1, a, dx, fs, ed, g, l, q⟩ => ?_) (meth_eq hb rfl (by simp) hline)
  subst ed
  cases rd
  obtain rfl : u = Value.ref a := rx
  obtain ⟨mm, hmm, rm⟩ := ins_at sm1 g
  refine getmeth_ok I1 hmm c hm (kv_none rm l) ?_
  refine PySem.W.callWith_K0 (first := [.ref a]) I1.kIn hm.kp (run_fnSD (E := fun σ cls d H' => XW X cls d σ H') (us := [.ref a]) (vs := [.ref a]) F hr hb2 .nil passes_max I1 (.cons rfl .nil) ?_)
  exact ⟨[.ref a], G1, Q, xq, .cons (.ref a) .nil, sm1, q, fun v H' lf => Lift.back e1 _ _ lf, fun z cls d G' H' x1 x2 x3 x4 => tk.ex z cls d G' H' x1 x2 (e1.trans x3) x4⟩
/-- the class can be made -/
def KCal (X : Cx) (x : Str) (C : Addr) (sp : DSp) : Prop := ∃ (k : Nat) (f : Addr) (fd : FuncData) (ps : List Str),
  FnOk X.prog X.w X.K X.mg X.base (L2N.CX X.prog X.w) k f fd ps (liftSp X.K sp) ∧ Room (k + 1) X.A ∧ Mk X.K C f ∧ X.mg x = some (.ref C) ∧ Binds X.K fd ps []
/-- C(..): a new object, then __init__; what __init__ may raise is not served -/
def dMk (C : Addr) (sp : DSp) (t : DA) : DE := fun ρ G Q xq => t ρ G (fun ds G1 => ∀ y dx, G1 y = none → sp (.ref y :: ds) (put G1 y (.ins C dx [])) (fun d G2 => d = .non ∧ Q (.ref y) G2) (fun _ _ => False)) xq
theorem never_passes : Passes (L2N.CX X.prog X.w) X (fun _ _ _ => False) := fun pins σ H s e s' I h => by
  obtain ⟨_, _, _, _, _, _, _, _, _, _, _, _, z⟩ := h
  exact z.elim
theorem mk_run {G G1 : Sto} {H H1 : Hp} {ds : List D} {vs : List V} {Q : DQ} (sm1 : Sim X.K G1 H1) (e1 : Ext X.K G H G1 H1) (rds : Reps X.K H1 vs ds) (q : ∀ y dx, G1 y = none → sp (.ref y :: ds) (put G1 y (.ins C dx [])) (fun d G2 => d = .non ∧ Q (.ref y) G2) (fun _ _ => False)) :
    ∀ y dx, H1 y = none → H1 dx = none → dx ≠ y → liftSp X.K sp (.ref y :: (vs ++ [])) (upd (upd H1 dx (.own y)) y (.ins C dx [])) (fun v H2 => v = .non ∧ Lift X.K G H Q (.ref y) H2) (fun _ _ _ => False) := by
  intro y dx hy hdx hne
  have hy2 : upd H1 dx (.own y) y = none := by rw [upd_ne (Ne.symm hne)]; exact hy
  have x2 : Ext X.K G1 H1 G1 (upd H1 dx (.own y)) := .newT hdx
  have s2 : Sim X.K G1 (upd H1 dx (.own y)) := sm1.newT hdx
  have x3 : Ext X.K G1 (upd H1 dx (.own y)) (put G1 y (.ins C dx [])) (upd (upd H1 dx (.own y)) y (.ins C dx [])) := .new hy2
  have s3 : Sim X.K (put G1 y (.ins C dx [])) (upd (upd H1 dx (.own y)) y (.ins C dx [])) := s2.new hy2 ⟨[], upd_same, True.intro⟩
  have x13 := e1.trans (x2.trans x3)
  refine ⟨.ref y :: ds, put G1 y (.ins C dx []), _, _, by rw [List.append_nil]; exact .cons (.ref y) ((rds.mono x2.tup).mono x3.tup), s3, q y dx (sm1.free hy), fun v H' lf => ?_, fun z cls d G' H' x1 x2 x3 x4 => x4⟩
  obtain ⟨d, G', rd, sm, ex, ed, q2⟩ := lf
  subst ed
  cases rd
  exact ⟨rfl, .ref y, G', .ref y, sm, x13.trans ex, q2⟩
theorem qe_mk (M : KCal X x C sp) (hg : Gl X x) (ha : QA X (e :: es) tas) (hd : (x == ("__debug__" : Str)) = false) (hn : (e :: es).all noStar = true) :
    QE X (.Call (.Name x p) (e :: es) [] pos) (dMk C sp tas) := by
  obtain ⟨k, f, fd, ps, F, hr, hm, hx, hb⟩ := M
  rw [List.all_cons, Bool.and_eq_true] at hn
  refine ⟨fun ρ G Q xq σ H h rs s tk => ?_⟩
  refine PE.we (pe_make hm F hr hg hx hb .nil never_passes pa_max hd (starEach_cons hn.1) (starEach_any hn.2 _)) ?_
  refine (ha.run ρ G _ xq σ H h rs s tk).imp fun vs H1 ⟨ds, G1, r1, s1, e1, q1⟩ => ?_
  exact mk_run s1 e1 r1 q1
theorem qe_mk0 (M : KCal X x C sp) (hg : Gl X x) (hd : (x == ("__debug__" : Str)) = false) :
    QE X (.Call (.Name x p) [] [] pos) (dMk C sp dNil) := by
  obtain ⟨k, f, fd, ps, F, hr, hm, hx, hb⟩ := M
  refine ⟨fun ρ G Q xq σ H h rs s tk => ?_⟩
  refine PE.we (pe_make0 hm F hr hg hx hb .nil never_passes hd) ?_
  exact mk_run (vs := []) s .refl .nil h
end
end DL
namespace DL
open PySem PySem.Spec PyProof.Rows L2
/-! refusals: what their classes say -/
section
variable {K : PySem.W.Frag} {x y : Str}
theorem lf_obj (h : Lf K x) : ∃ nm q N bs sn sub ab col dd k0 k1 k2 k3 k5, nm = x ∧ K.lookup (He.ga K x) = some (excClassObj nm q (He.ga K x) N bs (.ref (bt K) :: PySem.HandSPX.veTail) true sn sub ab col dd k0 k1 k2 k3 k5 "ValueError.__new__") := by
  have h1 : lfObj K x (K.lookup (He.ga K x)) = true := (He.ba h).1
  unfold lfObj at h1
  split at h1
  · rename_i t dd cd sl e
    simp only [Bool.and_eq_true, decide_eq_true_eq, Bool.not_eq_true'] at h1
    obtain ⟨rfl, h2, h3, h4, h5, h6⟩ := h1
    obtain ⟨nm, bs, mro, ns, qn, hd, sn, sub, ab, col, del⟩ := cd
    dsimp only at h2 h3 h4 h5
    subst h2 h3 h5
    obtain ⟨l⟩ := sl
    dsimp only at h6
    unfold isNew at h6
    split at h6
    · rename_i k0 k1 k2 k3 n k5
      have hn := of_decide_eq_true h6
      subst hn
      exact ⟨nm, qn, ns, bs, sn, sub, ab, col, dd, k0, k1, k2, k3, k5, h4, e⟩
    · cases h6
  · cases h1
theorem bt_obj (h : Lf K x) : ∃ dd cd sl, K.lookup (bt K) = some ⟨.type "type", dd, .cls cd, sl⟩ ∧ cd.name = "BeatError" ∧ cd.mro = .ref (bt K) :: PySem.HandSPX.veTail := by
  have h1 : btObj K (K.lookup (bt K)) = true := (He.ba (He.ba h).2).1
  unfold btObj at h1
  split at h1
  · rename_i t dd cd sl e
    simp only [Bool.and_eq_true, decide_eq_true_eq] at h1
    obtain ⟨rfl, h2, h3⟩ := h1
    exact ⟨dd, cd, sl, e, h2, h3⟩
  · cases h1
theorem lf_cls (h : Lf K x) : ∃ cd, PySem.W.clsIn K (He.ga K x) = some cd ∧ cd.name = x ∧ cd.mro = .ref (He.ga K x) :: .ref (bt K) :: PySem.HandSPX.veTail ∧ cd.hasDict = true := by
  obtain ⟨nm, q, N, bs, sn, sub, ab, col, dd, k0, k1, k2, k3, k5, en, e⟩ := lf_obj h
  exact ⟨_, by unfold PySem.W.clsIn; rw [e], en, rfl, rfl⟩
theorem lf_sub (h : Lf K x) (b : Value) : PySem.W.subIn K (.ref (He.ga K x)) b = some ((.ref (He.ga K x) :: .ref (bt K) :: PySem.HandSPX.veTail : List Value).contains b) := by
  obtain ⟨cd, e, _, em, _⟩ := lf_cls h
  show PySem.W.mroIn K _ b = _
  unfold PySem.W.mroIn
  rw [e, Option.bind_some, em]
  rfl
theorem lf_find (h : Lf K x) : PySem.W.findIn K (.ref (He.ga K x)) "__setattr__" = some (some (.builtin "object.__setattr__")) ∧ PySem.W.findIn K (.ref (He.ga K x)) "__getattribute__" = some (some (.builtin "BaseException.__getattribute__")) ∧
    PySem.W.findIn K (.ref (He.ga K x)) "__getattr__" = some none ∧ PySem.W.findIn K (.ref (He.ga K x)) "__class__" = some (some (.builtin "object.__class__")) ∧ PySem.W.keepIn K (.ref (He.ga K x)) = true := by
  have h2 := (He.ba (He.ba h).2).2
  obtain ⟨a1, h2⟩ := He.ba h2
  obtain ⟨a2, h2⟩ := He.ba h2
  obtain ⟨a3, h2⟩ := He.ba h2
  obtain ⟨a4, h2⟩ := He.ba h2
  have a5 := (He.ba h2).1
  exact ⟨of_decide_eq_true a1, of_decide_eq_true a2, of_decide_eq_true a3, of_decide_eq_true a4, a5⟩
theorem lf_noat (h : Lf K x) {f : Str} (hf : f ∈ xFields) : PySem.W.findIn K (.ref (He.ga K x)) f = some none := by
  have h2 := (He.ba (He.ba h).2).2
  obtain ⟨a1, h2⟩ := He.ba h2
  obtain ⟨a2, h2⟩ := He.ba h2
  obtain ⟨a3, h2⟩ := He.ba h2
  obtain ⟨a4, h2⟩ := He.ba h2
  exact of_decide_eq_true (List.all_eq_true.mp (He.ba h2).2 f hf)
theorem lf_ty (h : Lf K x) : PySem.W.typeIn K (.ref (He.ga K x)) = some (.type "type") := by
  obtain ⟨nm, q, N, bs, sn, sub, ab, col, dd, k0, k1, k2, k3, k5, en, e⟩ := lf_obj h
  show (K.lookup (He.ga K x)).map (·.cls) = _
  rw [e]
  rfl
theorem cont_tail (v : Value) (C B : Addr) (h : PySem.HandSPX.veTail.contains v = true) : (.ref C :: .ref B :: PySem.HandSPX.veTail : List Value).contains v = true := by
  rw [List.contains_cons, List.contains_cons, h]
  simp
theorem lf_base (h : Lf K x) : PySem.W.subIn K (.ref (He.ga K x)) (.type "BaseException") = some true := by
  rw [lf_sub h, cont_tail _ _ _ (by decide +kernel)]
theorem lf_oex (h : Lf K x) : OexC K (He.ga K x) := by
  obtain ⟨nm, q, N, bs, sn, sub, ab, col, dd, k0, k1, k2, k3, k5, en, e⟩ := lf_obj h
  exact ⟨⟨nm, q, N, bs, _, sn, sub, ab, col, dd, k0, k1, k2, k3, k5, e, by show PySem.HandSPX.refsVE PySem.HandSPX.veTail = true; decide +kernel⟩, (lf_find h).1, lf_base h, lf_ty h, (lf_find h).2.2.2.2⟩
theorem lf_has (h : Lf K x) : PySem.W.hasDictIn K (He.ga K x) = true := by
  obtain ⟨cd, e, _, _, ed⟩ := lf_cls h
  unfold PySem.W.hasDictIn
  rw [e]
  exact ed
theorem lf_xf (h : Lf K x) : XfC K (He.ga K x) := ⟨(lf_find h).2.1, (lf_find h).2.2.1, lf_base h, lf_has h⟩
theorem cls_get (K : PySem.W.Frag) : PySem.W.specialIn K (.builtin "object.__class__") "__get__" = some (some (.builtin "getset_descriptor.__get__")) := by kernel_rfl
theorem cls_take (K : PySem.W.Frag) : PySem.W.takesIn K (.builtin "object.__class__") = some true := by kernel_rfl
theorem lf_exc (h : Lf K x) : ExcC K (He.ga K x) := by
  refine ⟨(lf_find h).2.1, (lf_find h).2.2.1, lf_base h, lf_has h, (lf_find h).2.2.2.1, cls_get K, cls_take K, ?_⟩
  have e := lf_sub h (.type "object")
  rw [cont_tail _ _ _ (by decide +kernel)] at e
  exact e
/-- two refusals' classes: one below the other just where they are one -/
theorem lf_two (h : Lf K x) (h2 : Lf K y) : PySem.W.subIn K (.ref (He.ga K x)) (.ref (He.ga K y)) = some (decide (x = y)) := by
  obtain ⟨cd, e1, e2, em, _⟩ := lf_cls h
  obtain ⟨cd', e3, e4, em', _⟩ := lf_cls h2
  rw [lf_sub h]
  congr 1
  by_cases e : x = y
  · subst e
    rw [decide_eq_true rfl, List.contains_cons]
    simp
  · rw [decide_eq_false e]
    have n1 : He.ga K y ≠ He.ga K x := fun z => by
      rw [z, e1] at e3
      cases e3
      exact e (e2.symm.trans e4)
    have n2 : He.ga K y ≠ bt K := fun z => by
      obtain ⟨dd, cd2, sl, e5, e6, e7⟩ := bt_obj h
      unfold PySem.W.clsIn at e3
      rw [z, e5] at e3
      cases e3
      rw [em'] at e7
      have e8 : (Value.ref (bt K) :: PySem.HandSPX.veTail : List Value) = PySem.HandSPX.veTail := (List.cons.inj e7).2
      have e9 := congrArg List.length e8
      simp at e9
    rw [List.contains_cons, List.contains_cons]
    have m1 : ((Value.ref (He.ga K y)) == Value.ref (He.ga K x)) = false := by
      rw [Bool.eq_false_iff]
      intro q
      exact n1 (Value.ref.inj (beq_iff_eq.mp q))
    have m2 : ((Value.ref (He.ga K y)) == Value.ref (bt K)) = false := by
      rw [Bool.eq_false_iff]
      intro q
      exact n2 (Value.ref.inj (beq_iff_eq.mp q))
    rw [m1, m2]
    show PySem.HandSPX.veTail.contains (Value.ref (He.ga K y)) = false
    generalize He.ga K y = z
    kernel_rfl
theorem lf_isc (h : Lf K y) : ((PySem.W.clsIn K (He.ga K y)).isSome && PySem.W.typeIn K (.ref (He.ga K y)) == some (.type "type")) = true := by
  obtain ⟨cd, e1, _⟩ := lf_cls h
  rw [e1, lf_ty h]
  rfl
theorem lf_kit (h : Lf K x) (h2 : Lf K y) : PySem.W.kitOne K (.ref (He.ga K x)) (.ref (He.ga K y)) = some (decide (x = y)) := by
  unfold PySem.W.kitOne
  split
  · rename_i q
    have e : He.ga K x = He.ga K y := Value.ref.inj (beq_iff_eq.mp q)
    obtain ⟨cd, e1, e2, _⟩ := lf_cls h
    obtain ⟨cd', e3, e4, _⟩ := lf_cls h2
    rw [e, e3] at e1
    cases e1
    rw [decide_eq_true (e2.symm.trans e4)]
  · show (if ((PySem.W.clsIn K (He.ga K y)).isSome && PySem.W.typeIn K (.ref (He.ga K y)) == some (.type "type")) = true then PySem.W.subIn K (.ref (He.ga K x)) (.ref (He.ga K y)) else none) = _
    rw [if_pos (lf_isc h2), lf_two h h2]
theorem lf_exm (h : Lf K x) (h2 : Lf K y) : PySem.W.exmOne K (.ref (He.ga K x)) (.ref (He.ga K y)) = some (decide (x = y)) := by
  unfold PySem.W.exmOne
  rw [if_pos (by rw [lf_base h2]; rfl)]
  show (if ((PySem.W.clsIn K (He.ga K y)).isSome && PySem.W.typeIn K (.ref (He.ga K y)) == some (.type "type")) = true then PySem.W.subIn K (.ref (He.ga K x)) (.ref (He.ga K y)) else none) = _
  rw [if_pos (lf_isc h2), lf_two h h2]
theorem bt_isc (h : Lf K x) : ((PySem.W.clsIn K (bt K)).isSome && PySem.W.typeIn K (.ref (bt K)) == some (.type "type")) = true := by
  obtain ⟨dd, cd', sl, e3, e4, _⟩ := bt_obj h
  have t : PySem.W.typeIn K (.ref (bt K)) = some (.type "type") := by
    show (K.lookup (bt K)).map (·.cls) = _
    rw [e3]
    rfl
  have c : PySem.W.clsIn K (bt K) = some cd' := by
    unfold PySem.W.clsIn
    rw [e3]
  rw [t, c]
  rfl
theorem lf_bt (h : Lf K x) : PySem.W.subIn K (.ref (He.ga K x)) (.ref (bt K)) = some true := by
  rw [lf_sub h, List.contains_cons, List.contains_cons]
  simp
theorem bt_base (h : Lf K x) : PySem.W.subIn K (.ref (bt K)) (.type "BaseException") = some true := by
  obtain ⟨dd, cd', sl, e3, e4, e5⟩ := bt_obj h
  show PySem.W.mroIn K _ _ = _
  unfold PySem.W.mroIn PySem.W.clsIn
  rw [e3, Option.bind_some, e5, List.contains_cons, show PySem.HandSPX.veTail.contains (.type "BaseException") = true by decide +kernel]
  simp
theorem lf_kitB (h : Lf K x) : PySem.W.kitOne K (.ref (He.ga K x)) (.ref (bt K)) = some true := by
  unfold PySem.W.kitOne
  split
  · rfl
  · show (if ((PySem.W.clsIn K (bt K)).isSome && PySem.W.typeIn K (.ref (bt K)) == some (.type "type")) = true then PySem.W.subIn K (.ref (He.ga K x)) (.ref (bt K)) else none) = _
    rw [if_pos (bt_isc h), lf_bt h]
theorem lf_exmB (h : Lf K x) : PySem.W.exmOne K (.ref (He.ga K x)) (.ref (bt K)) = some true := by
  unfold PySem.W.exmOne
  rw [if_pos (by rw [bt_base h]; rfl)]
  show (if ((PySem.W.clsIn K (bt K)).isSome && PySem.W.typeIn K (.ref (bt K)) == some (.type "type")) = true then PySem.W.subIn K (.ref (He.ga K x)) (.ref (bt K)) else none) = _
  rw [if_pos (bt_isc h), lf_bt h]
theorem lf_kitV (h : Lf K x) : PySem.W.kitOne K (.ref (He.ga K x)) (.type "ValueError") = some true := by
  unfold PySem.W.kitOne
  rw [if_neg (by simp)]
  show (if PySem.W.kitMeta "ValueError" = true then PySem.W.subIn K (.ref (He.ga K x)) (.type "ValueError") else none) = _
  rw [if_pos (by decide +kernel), lf_sub h, cont_tail _ _ _ (by decide +kernel)]
end
/-! isinstance, fields -/
section
variable {X : Cx} {e c : Expr} {te : DE} {p pos q : Pos} {x f : Str}
theorem ext_at {pins : List (Addr × Obj)} {σ : L2.St} {H : Hp} {s : Shared} {a : Addr} {oe : Obj} (I : Inv X pins σ H s) (h : H a = some (exT a oe)) : s.heap.get? a = some oe := by
  have z : ObjOk X.prog X.w H s.heap a (.ext fun h => h.get? a = some oe) := I.hok a _ h
  exact z.1
theorem exo_no {K : PySem.W.Frag} {d : Option Addr} {oe : Obj} (o : ExO K x d oe) : PySem.W.notCls oe = true := by
  obtain ⟨vs, hd, _⟩ := o.dat
  unfold PySem.W.notCls
  rw [hd]
theorem zip_lookup {K : PySem.W.Frag} {H : Hp} {d : D} : ∀ {m : List (Str × V)} {ks : List Str} {ds : List D}, m.map (·.1) = ks → Reps K H (m.map (·.2)) ds → (ks.zip ds).lookup f = some d → ∃ v, m.lookup f = some v ∧ Rep K H v d
  | [], ks, ds, e, r, h => by
    subst e
    cases r
    cases h
  | (g, v) :: m, ks, ds, e, r, h => by
    subst e
    cases r with
    | cons r1 r2 =>
      rename_i d1 ds1
      have h : ((g, d1) :: (m.map (·.1)).zip ds1).lookup f = some d := h
      rw [List.lookup_cons] at h ⊢
      split at h
      · cases h
        exact ⟨v, rfl, r1⟩
      · obtain ⟨w, h1, h2⟩ := zip_lookup rfl r2 h
        exact ⟨w, h1, h2⟩
/-- where the exception of a datum stands -/
theorem exc_inst {pins : List (Addr × Obj)} {σ : L2.St} {H : Hp} {s : Shared} {v : V} {ks : List Str} {ds : List D} (I : Inv X pins σ H s) (r : Rep X.K H v (.exc x ks ds)) :
    ∃ a oe od, v = .ref a ∧ Lf X.K x ∧ PySem.W.InstAt s.heap a oe (He.ga X.K x) od ∧
      ∀ g d, (ks.zip ds).lookup g = some d → g ∈ xFields → ∃ w u, Rep X.K H w d ∧ RelV w u ∧ PySem.W.findObj X.K (He.ga X.K x) od g = some (.value u) := by
  cases r with
  | exc0 h o => exact ⟨_, _, none, rfl, o.lf, ⟨ext_at I h, o.cls, exo_no o, by rw [o.dict]; trivial⟩, fun g d z => by cases z⟩
  | exc h o hd em rs =>
    rename_i a dd oe m
    have hx : ObjOk X.prog X.w H s.heap dd (.xd m) := I.hok dd _ hd
    obtain ⟨mA, hns, hr⟩ := hx
    obtain ⟨od, ho, hl⟩ := lookIn_ns hns
    refine ⟨a, oe, some od, rfl, o.lf, ⟨ext_at I h, o.cls, exo_no o, by rw [o.dict]; exact ho⟩, fun g d z hg => ?_⟩
    obtain ⟨w, h1, h2⟩ := zip_lookup em rs z
    obtain ⟨u, hu, ru⟩ := RelO.some_of (v := w) (o := mA g) (by rw [← h1]; exact hr g)
    exact ⟨w, u, h2, ru, PySem.W.findObj_own (lf_has o.lf) (lf_noat o.lf hg) rfl (by rw [hl, hu])⟩
def isXD (b : Str → Bool) : DR1 := fun d G Q => match d with
  | .exc x _ _ => Q (.bl (b x)) G
  | _ => False
theorem qe_isX {dc : D} {cv : Value} {b : Str → Bool} (hg : Gl X "isinstance") (hm : X.mg "isinstance" = none) (he : QE X e te) (hc : QE X c (dC dc)) (hn : noStar e = true) (hn2 : noStar c = true)
    (hrel : ∀ H v u, Rep X.K H v dc → RelV v u → u = cv) (hk : ∀ x, Lf X.K x → PySem.W.kitOne X.K (.ref (He.ga X.K x)) cv = some (b x)) : QE X (.Call (.Name "isinstance" p) [e, c] [] pos) (dUn (isXD b) te) := by
  have hcall : CallD X (.builtin "isinstance") (fun ds G Q => ∃ x ks vs, ds = [.exc x ks vs, dc] ∧ Q (.bl (b x)) G) := by
    rintro ds G Q vs σ H ⟨x, ks, ws, rfl, hq⟩ r s pins s0 us I rv
    obtain ⟨v, u, rfl, r1, r2⟩ := r.two
    obtain ⟨a, oe, od, rfl, lf, J, _⟩ := exc_inst I r1
    cases rv with
    | cons rx rr =>
      cases rr with
      | cons rt rr =>
        cases rr
        cases rx
        have ec := hrel _ _ _ r2 rt
        subst ec
        have lc := lf_exc lf
        have hci : (PySem.W.clsIn X.K (He.ga X.K x)).isSome = true := by
          obtain ⟨cd, e1, _⟩ := lf_cls lf
          rw [e1]
          rfl
        exact PySem.W.kia_one (PySem.W.kitx_exc hci lc.hg lc.hk lc.hs lc.ha lc.hn lc.ht lc.hm) I.kIn J (hk x lf) (fun z => nomatch z) fun tk => ⟨.bl (b x), H, I.kept (t' := tk) fun _ _ z => z, rfl, Lift.here (.bl _) s hq⟩
  have := qe_blt (X := X) (b := .isi) (p := p) (pos := pos) hcall hg hm (qa_cons he (qa_cons hc qa_nil (starEach_cons hn2)) (starEach_cons hn)) (starEach_cons hn) (by rw [starEach_cons hn2]; rfl)
  refine ⟨fun ρ G Q xq σ H h rs s tk => this.run ρ G Q xq σ H ?_ rs s tk⟩
  have mono : te ρ G (fun d G1 => isXD b d G1 Q) xq → te ρ G (fun d G1 => (fun ds G2 => ∃ x ks vs, ds = [.exc x ks vs, dc] ∧ Q (.bl (b x)) G2) [d, dc] G1) xq := fun h => by
    have e0 : (fun (d : D) (G1 : Sto) => (fun ds G2 => ∃ x ks vs, ds = [.exc x ks vs, dc] ∧ Q (.bl (b x)) G2) [d, dc] G1) = fun d G1 => isXD b d G1 Q := by
      funext d G1
      apply propext
      constructor
      · rintro ⟨x, ks, vs, z, q⟩
        cases z
        exact q
      · intro z
        unfold isXD at z
        split at z
        · exact ⟨_, _, _, rfl, z⟩
        · exact z.elim
    rw [e0]
    exact h
  exact mono h
/-- e.f -/
def xfD (f : Str) : DR1 := fun d G Q => match d with
  | .exc _ ks ds => ∃ v, (ks.zip ds).lookup f = some v ∧ Q v G
  | _ => False
theorem qe_xf (he : QE X e te) (hb : baseOk e = true) (hf : f ∈ xFields) : QE X (.Attribute e f pos) (dUn (xfD f) te) := by
  refine ⟨fun ρ G Q xq σ H h rs s tk => ?_⟩
  intro pins s0 I
  refine attr_of (base_ok hb) (thn ((he.run ρ G _ xq σ H h rs s tk) pins s0 I) fun u s1 ⟨v, H1, I1, rx, d, G1, rd, sm1, e1, q1⟩ => ?_)
  have q1 : xfD f d G1 Q := q1
  unfold xfD at q1
  split at q1
  · obtain ⟨w, hl, qq⟩ := q1
    obtain ⟨a, oe, od, rfl, lf, J, hfd⟩ := exc_inst I1 rd
    obtain ⟨w2, u2, rw2, ru, hfo⟩ := hfd f w hl hf
    obtain rfl : u = Value.ref a := rx
    have T := lf_xf lf
    exact HandSPX.exc_get I1.kIn J T.ga T.gg T.exC hfo (handed_of ru) ⟨w2, H1, I1.tok _, ru, Lift.back e1 _ _ (Lift.here rw2 sm1 qq)⟩
  · exact q1.elim
end
end DL
namespace DL
open PySem PySem.Spec PyProof.Rows L2
/-! refusals made: class(fields), their __init__ -/
/-- what BeatError must say, so that BeatError.__init__ is ValueError's -/
theorem btI_ok {K : PySem.W.Frag} (h : btI K = true) : PySem.W.readsIn K (bt K) (.type "type") = true ∧ PySem.W.findCls K (.ref (bt K)) (.type "type") "__init__" = some (.val (.builtin "ValueError.__init__")) := by
  obtain ⟨h1, h2⟩ := He.ba h
  refine ⟨h1, ?_⟩
  split at h2
  · rename_i n e
    rw [e, of_decide_eq_true h2]
  · cases h2
/-- the fields as they stand in its dict at last -/
def fsV (fl : List Str) (ws : List V) : List (Str × V) := (fl.zip ws).reverse
def spInit (C : Addr) (fl : List Str) : Sp := fun vs H Q _ => ∃ a ws, vs = .ref a :: ws ∧ ws.length = fl.length ∧ H a = some (exo a C none) ∧
  (fl = [] → Q .non H) ∧ (fl ≠ [] → ∀ dx, H dx = none → dx ≠ a → Q .non (upd (upd H dx (exd dx (fsV fl ws))) a (exo a C (some dx))))
section
variable {X : Cx} {C : Addr} {e o : Expr} {es : List Expr} {ta : TA} {to te : TE} {f x : Str} {p p1 p2 p3 pos : Pos}
theorem pe_beinit {pl : Sem Bool} (hg : Gl X "BeatError") (hm : X.mg "BeatError" = some (.ref (bt X.K))) (hty : PySem.W.typeIn X.K (.ref (bt X.K)) = some (.type "type")) (hI : btI X.K = true) (ha : PA X (e :: es) ta)
    (hc : eval (.Call (.Attribute (.Name "BeatError" p1) "__init__" p2) (e :: es) [] pos) X.env = (do
      let ov ← eval (.Name "BeatError" p1) X.env
      standAt p2.atName
      let (f, first) ← holding [ov] (getMethod ov "__init__" pl)
      callWith pos f first (backTo pos (starEach (e :: es) X.env)) (backToKw pos (keywordEach [] X.env))))
    (he : starEach (e :: es) X.env = (false, eval e X.env) :: starEach es X.env) (hpl : (backTo pos (starEach es X.env)).any (·.1) = false) :
    PE X (.Call (.Attribute (.Name "BeatError" p1) "__init__" p2) (e :: es) [] pos) (tVeI X.K ta) := by
  obtain ⟨hr, hf⟩ := btI_ok hI
  have hsp : PySem.W.specialIn X.K (.ref (bt X.K)) "__getattribute__" = some (some (.builtin "type.__getattribute__")) := by
    unfold PySem.W.specialIn
    rw [hty]
    exact PySem.W.type_tga
  refine ⟨fun pins s σ H Q I h => ?_⟩
  refine PySem.W.methodCall_KW (ld_glob I hg hm ?_ (by decide)) hc
  refine PySem.W.method_cls I.kIn hsp (PySem.W.cls_value I.kIn hr hf (by decide +kernel) ?_)
  refine PyProof.Rows.callWith_method1 (thn (ha.run pos pins _ σ H _ (I.tok _) h) ?_) he hpl
  rintro us s1 ⟨vs, H1, I1, r1, a, C, ws, rfl, hl, T, ea, q⟩
  cases r1 with
  | @cons _ u0 _ ur ra rr =>
    obtain rfl : u0 = Value.ref a := ra
    have hz : ur.length ≤ sizeLine := by
      rw [← Paired.length rr, sizeLine_eq]
      omega
    exact oinit_ok T I1 ea hz fun s' J => ⟨.non, H1, J, rfl, q⟩
/-- the stores of the fields, from the i-th on -/
inductive StB (N : List Str) : Nat → List Str → List Stmt → Prop
  | nil {i : Nat} : StB N i [] []
  | cons {i : Nat} {f y : Str} {fl : List Str} {b : List Stmt} {q1 q2 q3 q4 : Pos} : N[i]? = some y → StB N (i + 1) fl b → StB N i (f :: fl) (.Assign [.Attribute (.Name "self" q1) f q2] (.Name y q3) q4 :: b)
def stB (N : List Str) : Nat → List Str → List Stmt → Bool
  | _, [], b => b.isEmpty
  | i, f :: fl, b => match b with
    | .Assign [.Attribute (.Name s _) g _] (.Name y _) _ :: b => decide (s = "self") && (decide (g = f) && ((match N[i]? with
      | some z => decide (z = y)
      | none => false) && stB N (i + 1) fl b))
    | _ => false
theorem stB_ok {N : List Str} : ∀ {fl : List Str} {i : Nat} {b : List Stmt}, stB N i fl b = true → StB N i fl b
  | [], i, b, h => by
    unfold stB at h
    rw [List.isEmpty_iff] at h
    subst h
    exact .nil
  | f :: fl, i, b, h => by
    unfold stB at h
    split at h
    · simp only [Bool.and_eq_true, decide_eq_true_eq] at h
      obtain ⟨rfl, rfl, h3, h4⟩ := h
      split at h3
      · rename_i z e
        have := of_decide_eq_true h3
        subst this
        exact .cons e (stB_ok h4)
      · cases h3
    · cases h
/-- the first fields are stored already -/
theorem pss_fields (T : OexC X.K C) (hno : ∀ f, f ∈ xFields → PySem.W.findIn X.K (.ref C) f = some none) (hself : X.N[0]? = some ("self" : Str)) (hv : ∀ y, y ∈ X.N → Vis X.env.scope y) (hnm : ∀ y, y ∈ X.N → (y == ("__debug__" : Str)) = false ∧ (y == ("__classdict__" : Str)) = false) :
    ∀ {fl : List Str} {i : Nat} {b : List Stmt}, StB X.N i fl b → (∀ f, f ∈ fl → f ∈ xFields) → ∀ (pins : List (Addr × Obj)) (s : Shared) (σ : L2.St) (H : Hp) (D : Ends) (a dx : Addr) (fs : List (Str × V)) (ws : List V), Inv X pins σ H s →
      H a = some (exo a C (some dx)) → H dx = some (exd dx fs) → fs.length + fl.length ≤ 900 → σ[0]? = some (some (.ref a)) → ws.length = fl.length → (∀ j v, ws[j]? = some v → σ[i + j]? = some (some v)) →
      (∀ σ' H', H' = upd H dx (exd dx ((fl.zip ws).reverse ++ fs)) → D.nx σ' H') → wpAny (model X.prog X.w) X.A (execs b X.env) (SP X pins D) X.xe s := by
  intro fl i b h
  induction h with
  | nil =>
    intro hx pins s σ H D a dx fs ws I ea ed hl h0 hw hs hq
    refine wpAny_execs_nil ⟨σ, H, I, hq σ H ?_⟩
    have e0 : ws = [] := List.length_eq_zero_iff.mp (by simpa using hw)
    subst e0
    funext c
    by_cases hc : c = dx
    · subst hc
      rw [upd_same]
      exact ed
    · rw [upd_ne hc]
  | @cons i f y fl b q1 q2 q3 q4 hy hst ih =>
    intro hx pins s σ H D a dx fs ws I ea ed hl h0 hw hs hq
    obtain ⟨w, ws, rfl⟩ : ∃ w ws', ws = w :: ws' := by
      cases ws with
      | nil => simp at hw
      | cons w ws' => exact ⟨w, ws', rfl⟩
    have hw0 := hs 0 w rfl
    have nd : (a : Addr) ≠ dx := fun z => by
      obtain ⟨t1, ht⟩ := exo_at (d := some dx) (C := C) I.hok ea
      obtain ⟨mA, ⟨o2, es2, ep2, e2, e3, _⟩, _⟩ := exd_at I.hok ed
      rw [z] at ht
      rw [e2] at ht
      have z3 := Option.some.inj ht
      subst z3
      cases e3
    have m0 : ("self" : Str) ∈ X.N := List.mem_of_getElem? hself
    have my : y ∈ X.N := List.mem_of_getElem? hy
    have P1 := ps_ost (X := X) (p' := q2) (pos := q4) (f := f) (pe_var (pos := q1) hself (hv _ m0) (hnm _ m0).1 (hnm _ m0).2) (pe_var (pos := q3) hy (hv y my) (hnm y my).1 (hnm y my).2) rfl
    refine wpAny_execs_cons (thn (P1.run pins s σ H { D with nx := fun σ' H' => σ' = σ ∧ H' = upd H dx (exd dx ((f, w) :: fs)) } I ?_) fun fl' s1 q => ?_)
    · refine ⟨w, hw0, .ref a, h0, a, C, rfl, T, hno f (hx f (List.mem_cons_self ..)), .inr ⟨dx, fs, ea, ed, by rw [List.length_cons] at hl; omega, rfl, rfl⟩⟩
    · cases fl' with
      | next =>
        obtain ⟨σ1, H1, I1, rfl, rfl⟩ := q
        refine ih (fun g hg => hx g (List.mem_cons_of_mem _ hg)) pins s1 _ _ D a dx ((f, w) :: fs) ws I1 (by rw [upd_ne nd]; exact ea) upd_same (by rw [List.length_cons] at hl ⊢; omega) h0 (by simpa using hw) (fun j v hj => ?_) (fun σ' H' eH => hq σ' H' ?_)
        · have := hs (j + 1) v (by simpa using hj)
          rw [show i + (j + 1) = i + 1 + j by omega] at this
          exact this
        · rw [eH]
          funext c
          by_cases hc : c = dx
          · subst hc
            rw [upd_same, upd_same, List.zip_cons_cons, List.reverse_cons, List.append_assoc]
            rfl
          · rw [upd_ne hc, upd_ne hc, upd_ne hc]
      | brk =>
        obtain ⟨σ1, H1, I1, q1⟩ := q
        exact ⟨σ1, H1, I1, q1⟩
      | cont =>
        obtain ⟨σ1, H1, I1, q1⟩ := q
        exact ⟨σ1, H1, I1, q1⟩
      | ret u =>
        obtain ⟨v, σ1, H1, I1, r1, q1⟩ := q
        exact ⟨v, σ1, H1, I1, r1, q1⟩
end
end DL
namespace DL
open PySem PySem.Spec PyProof.Rows L2
/-! raise class(fields) -/
/-- the class x can be raised; fl its fields -/
def RCal (X : Cx) (x : Str) (fl : List Str) : Prop := ∃ (k : Nat) (fI : Addr) (fd : FuncData) (ps : List Str), Lf X.K x ∧ PySem.W.findIn X.K (.ref (He.ga X.K x)) "__init__" = some (some (.ref fI)) ∧ PySem.W.typeIn X.K (.ref fI) = some (.type "function") ∧
  FnOk X.prog X.w X.K X.mg X.base (L2N.CX X.prog X.w) k fI fd ps (spInit (He.ga X.K x) fl) ∧ Room (k + 1) X.A ∧ Binds X.K fd ps [] ∧ X.mg x = some (.ref (He.ga X.K x))
def dOf (fl : List Str) (dx : Addr) : Option Addr := match fl with
  | [] => none
  | _ :: _ => some dx
def hOf (fl : List Str) (vs : List V) (H : Hp) (dx : Addr) : Hp := match fl with
  | [] => H
  | _ :: _ => upd H dx (.xd (fsV fl vs))
section
variable {X : Cx} {x : Str} {fl : List Str} {p pos : Pos} {e : Expr} {es : List Expr} {tas : DA}
/-- an exception without fields is let go behind its __init__ -/
theorem end_none {pins : List (Addr × Obj)} {σ : L2.St} {H1 : Hp} {hp hp2 h2 : Heap} {g1 g2 : Array GenState} {d1 d2 : Drawn} {t1 t2 : Nat} {os1 os2 : OsState} {a C : Addr} (I1 : Inv X pins σ H1 ⟨hp, g1, d1, t1, os1⟩) (ha : hp.objs.size ≤ a)
    (k : ∀ b o, hp.get? b = some o → hp2.get? b = some o) (un : Un (frs X.stack) [] (upd H1 a (exo a C none)) (upd H1 a (exo a C none)) hp2 h2) (hok : HOk X.prog X.w (upd H1 a (exo a C none)) h2) (ho : os2 = os1) (hb : AllBare g2) :
    ∃ (t0 : Addr) (G : Heap), Inv X pins σ H1 ⟨G, g2, d2, t2, os2⟩ ∧ (∀ b o, G.get? b = some o → h2.get? b = some o) ∧ G.get? a = none ∧
      h2.get? a = some ({ cls := .ref C, dict := none, data := .fields #[.ref t0, .none, .none, .none, .bool false, .none] } : Obj) := by
  obtain ⟨t0, hoe⟩ := exo_at hok upd_same
  have hn : H1 a = none := I1.hok.fresh ha
  obtain ⟨G, g1', g2'⟩ := restrict h2 fun b => decide (b ≠ a)
  have gk : ∀ b, b ≠ a → G.get? b = h2.get? b := fun b z => g1' b (decide_eq_true z)
  have ge : G.get? a = none := g2' a (by simp)
  have nha : ∀ {b : Addr} {o : Obj}, hp.get? b = some o → b ≠ a := fun z => Nat.ne_of_lt (Nat.lt_of_lt_of_le (Heap.lt_size z) ha)
  have U : Un (frs X.stack) [] H1 H1 hp G := {
    keep := fun b o z n y v => (gk b (nha z)).trans (un.keep b o (k b o z) (by rw [upd_ne (nha z)]; exact n) y v)
    slot := fun b o z n y v => by
      obtain ⟨sl, r⟩ := un.slot b o (k b o z) (by rw [upd_ne (nha z)]; exact n) y v
      exact ⟨sl, (gk b (nha z)).trans r⟩
    free := fun b o z n v => n
    there := fun b o z v => by
      obtain ⟨o2, r⟩ := un.there b o (k b o z) v
      exact ⟨o2, (gk b (nha z)).trans r⟩
    tups := fun b xs z => z
    frzs := fun b o v z => z
    tbls := fun b ps z => ⟨#[], by rw [z]; simp⟩ }
  have hok3 : HOk X.prog X.w H1 G := fun b o z => by
    have hba : b ≠ a := fun e => by rw [e, hn] at z; cases z
    refine (hok b o (by rw [upd_ne hba]; exact z)).stay (fun c v hc y => ?_) (fun c hc => ?_) (fun c xs hc => ?_)
    · refine (gk c ?_).trans y
      rcases hc with hc | hc
      · rw [hc]; exact hba
      · exact at_ne upd_same hc exo_own
    · have n : c ≠ a := at_ne upd_same hc exo_own
      rw [upd_ne n] at hc
      exact hc
    · have n : c ≠ a := at_ne upd_same hc exo_tup
      rw [upd_ne n] at hc
      exact hc
  exact ⟨t0, G, I1.call' (ch := []) ho U hok3 hb (fun b z => absurd z (by simp)), fun b o z => by
    by_cases hba : b = a
    · rw [hba, ge] at z; cases z
    · exact (gk b hba).symm.trans z, ge, hoe⟩
theorem zn_obj {C t0 : Addr} {d : Option Addr} : L2N.Zn (.ref C) d ({ cls := .ref C, dict := d, data := .fields #[.ref t0, .none, .none, .none, .bool false, .none] } : Obj) :=
  ⟨rfl, rfl, fun vs e => by cases e; rfl⟩
/-- class(..) called -/
theorem mkx_call (c : RCal X x fl) {pins : List (Addr × Obj)} {σ : L2.St} {H1 : Hp} {s1 : Shared} {vs : List V} {us : List Value} {Q : XK} (I1 : Inv X pins σ H1 s1) (r1 : Vals vs us) (hz : vs.length = fl.length) (hl : fl.length ≤ 1000)
    (q : ∀ dx, H1 dx = none → Q (.ref (He.ga X.K x)) (dOf fl dx) (hOf fl vs H1 dx)) : wpAny (model X.prog X.w) X.A (call (.ref (He.ga X.K x)) us) (L2N.MkP X pins σ Q) X.xe s1 := by
  obtain ⟨k, fI, fd, ps, lf, iC, tI, F1, hr, hb, hm⟩ := c
  obtain ⟨nm, qn, N, bs, sn, sub, ab, col, dd, k0, k1, k2, k3, k5, en, hC⟩ := lf_obj lf
  have T := lf_oex lf
  obtain ⟨hp, g, dr, tk, os⟩ := s1
  generalize eC : He.ga X.K x = C at *
  have hsz : hp.objs.size ≤ hp.objs.size + 1 := Nat.le_succ _
  have hn : H1 (hp.objs.size + 1) = none := I1.hok.fresh hsz
  have hlen : us.length ≤ sizeLine := by
    rw [← Paired.length r1, hz, sizeLine_eq]
    omega
  have kk : ∀ b o, hp.get? b = some o → ((hp.push (PySem.W.kdv_tup us)).push (PySem.HandSPX.excO C hp.objs.size)).get? b = some o := fun b o e => Heap.get?_push_of_some _ (Heap.get?_push_of_some _ e)
  have hget : ((hp.push (PySem.W.kdv_tup us)).push (PySem.HandSPX.excO C hp.objs.size)).get? (hp.objs.size + 1) = some (PySem.HandSPX.excO C hp.objs.size) := by heap_get
  generalize hpe : (hp.push (PySem.W.kdv_tup us)).push (PySem.HandSPX.excO C hp.objs.size) = hp2 at kk hget
  generalize ea0 : hp.objs.size + 1 = a at hsz hn hget
  have I2 : Inv X pins σ (upd H1 a (exo a C none)) ⟨hp2, g, dr, tk, os⟩ := I1.laid (t' := tk) (a := a) (o := exo a C none) (h' := hp2) kk hsz (exo_ok hget)
  have hbm : PySem.HandSPX.refsVE (.ref (bt X.K) :: PySem.HandSPX.veTail) = true := by
    show PySem.HandSPX.refsVE PySem.HandSPX.veTail = true
    decide +kernel
  have hne : ∀ dx, upd H1 a (exo a C none) dx = none → dx ≠ a → H1 dx = none := fun dx h1 h2 => by rw [upd_ne h2] at h1; exact h1
  have hsp : spInit C fl (.ref a :: vs) (upd H1 a (exo a C none)) (fun v H2 => v = .non ∧ ((fl = [] ∧ H2 = upd H1 a (exo a C none)) ∨ (fl ≠ [] ∧ ∃ dx, H1 dx = none ∧ dx ≠ a ∧ H2 = upd (upd (upd H1 a (exo a C none)) dx (exd dx (fsV fl vs))) a (exo a C (some dx))))) (fun _ _ _ => False) :=
    ⟨a, vs, rfl, hz, upd_same, fun e => ⟨rfl, .inl ⟨e, rfl⟩⟩, fun e dx h1 h2 => ⟨rfl, .inr ⟨e, dx, hne dx h1 h2, h2, rfl⟩⟩⟩
  have rself : Vals (V.ref a :: vs) (Value.ref a :: us) := .cons rfl r1
  have hle : (Value.ref a :: us).length = ps.length := by
    rw [← rself.length]
    exact F1.len _ _ _ _ hsp
  refine wpAny_call (PySem.HandSPX.call_own F.excBase_ValueError (fun Y => PySem.HandSPX.refsVE_contains Y _ hbm) (I1.kIn _ _ hC) (PySem.W.looks_findIn I1.kIn iC) (fun self => PySem.W.bind_fn I1.kIn self tI) hlen ?_)
  rw [hpe, ea0]
  have bnd := hb ⟨hp2, g, dr, tk, os⟩ (Value.ref a :: us) I2.kIn (by rw [List.append_nil]; exact hle)
  rw [List.append_nil] at bnd
  refine codeAny_mono (F1.run _ X.stack _ _ ⟨Value.ref a :: us, []⟩ (Value.ref a :: us) _ _ (fun _ _ _ => False) (hr.make C us []) (I2.env0.make C us []) bnd rself hsp) fun r s' hq' => ?_
  cases r with
  | error er =>
    obtain ⟨_, _, _, _, _, _, _, _, _, _, _, _, z⟩ := hq'
    exact z.elim
  | ok fw =>
    cases fw with
    | ret u =>
      obtain ⟨v, H2, os2, bare2, un2, hok2, rv, ev, alt⟩ := hq'
      subst ev
      obtain ⟨h2, g2, d2, t2, os'⟩ := s'
      refine ⟨rv, ?_⟩
      have R : Raises X (.ref C) := raises_own T.exC T.tyC
      rcases alt with ⟨rfl, rfl⟩ | ⟨hfl, dx, hd1, hda, rfl⟩
      · obtain ⟨t0, G, J, kG, ge, hoe⟩ := end_none (d2 := d2) (t2 := t2) I1 hsz kk un2 hok2 os2 bare2
        exact ⟨a, _, _, ⟨G, g2, d2, t2, os'⟩, H1, .ref C, none, rfl, J, kG, ge, hoe, zn_obj, rfl, rfl, hn, rfl, bare2, R, q 0 |> fun z => by
          have := q (hp.objs.size) (I1.hok.fresh (Nat.le_refl _))
          exact this⟩
      · obtain ⟨t0, G, J, kG, ge, hoe, na⟩ := mk_end0 (d2 := d2) (t2 := t2) (fs := fsV fl vs) (d := dx) I1 hsz kk un2 hok2 os2 bare2 upd_same (by rw [upd_ne hda, upd_same]) hd1
        have eH : upd (del (upd (upd (upd H1 a (exo a C none)) dx (exd dx (fsV fl vs))) a (exo a C (some dx))) a) dx (.xd (fsV fl vs)) = upd H1 dx (.xd (fsV fl vs)) := by
          funext c
          by_cases h1 : c = dx
          · subst h1; rw [upd_same, upd_same]
          · rw [upd_ne h1, upd_ne h1]
            by_cases h2 : c = a
            · subst h2; rw [del_same]; exact hn.symm
            · rw [del_ne h2, upd_ne h2, upd_ne h1, upd_ne h2]
        rw [eH] at J na
        have qq := q dx hd1
        cases fl with
        | nil => exact (hfl rfl).elim
        | cons f fl => exact ⟨a, _, _, ⟨G, g2, d2, t2, os'⟩, _, .ref C, some dx, rfl, J, kG, ge, hoe, zn_obj, rfl, rfl, na, rfl, bare2, R, qq⟩
    | next => exact False.elim hq'
    | brk => exact False.elim hq'
    | cont => exact False.elim hq'
theorem pmk_x (c : RCal X x fl) (hl : fl.length ≤ 1000) (hg : Gl X x) (hd : (x == ("__debug__" : Str)) = false) (hn : (e :: es).all noStar = true) :
    L2N.PMk X (.Call (.Name x p) (e :: es) [] pos) (fun σ H Q => WA X (e :: es) σ H fun vs H1 => vs.length = fl.length ∧ ∀ dx, H1 dx = none → Q (.ref (He.ga X.K x)) (dOf fl dx) (hOf fl vs H1 dx)) := by
  rw [List.all_cons, Bool.and_eq_true] at hn
  intro pins s σ H Q I h
  have c' := c
  obtain ⟨k, fI, fd, ps, lf, _, _, _, _, _, hm⟩ := c'
  refine wpAny_Call_Name_kw (ld_glob I hg hm ?_ hd)
  refine PySem.W.callWith_K (h₀ := X.base) I.ok.mod.kin (lf_oex lf).kC (thn (h pos pins s I) ?_) (starEach_cons hn.1) (starEach_any hn.2 _)
  rintro us s1 ⟨vs, H1, I1, r1, hz, q1⟩
  exact ⟨I1.kIn, mkx_call c I1 r1 hz hl q1⟩
theorem pmk_x0 (c : RCal X x fl) (h0 : fl = []) (hg : Gl X x) (hd : (x == ("__debug__" : Str)) = false) :
    L2N.PMk X (.Call (.Name x p) [] [] pos) (fun σ H Q => ∀ dx, H dx = none → Q (.ref (He.ga X.K x)) (dOf fl dx) (hOf fl [] H dx)) := by
  intro pins s σ H Q I h
  have c' := c
  obtain ⟨k, fI, fd, ps, lf, _, _, _, _, _, hm⟩ := c'
  refine wpAny_Call_Name_kw (ld_glob I hg hm ?_ hd)
  refine PySem.W.callWith_K0 I.kIn (lf_oex lf).kC ?_
  exact mkx_call c I .nil (by rw [h0]; rfl) (by rw [h0]; decide) h
/-- the fields as data -/
def fsD (fl : List Str) (ds : List D) : List (Str × D) := (fl.zip ds).reverse
theorem kv_app {K : PySem.W.Frag} {H : Hp} : ∀ {l l2 : List (Str × V)} {m m2 : List (Str × D)}, RepKV K H l m → RepKV K H l2 m2 → RepKV K H (l ++ l2) (m ++ m2)
  | [], _, [], _, _, h => h
  | (_, _) :: _, _, (_, _) :: _, _, ⟨a, b, c⟩, h => ⟨a, b, kv_app c h⟩
  | [], _, _ :: _, _, h, _ => h.elim
  | _ :: _, _, [], _, h, _ => h.elim
theorem kv_fs {K : PySem.W.Frag} {H : Hp} : ∀ {fl : List Str} {vs : List V} {ds : List D}, Reps K H vs ds → RepKV K H (fsV fl vs) (fsD fl ds)
  | [], _, _, _ => by unfold fsV fsD; exact True.intro
  | f :: fl, _, _, .nil => by unfold fsV fsD; exact True.intro
  | f :: fl, v :: vs, d :: ds, .cons a b => by
    have ih := kv_fs (fl := fl) b
    unfold fsV fsD at ih ⊢
    rw [List.zip_cons_cons, List.zip_cons_cons, List.reverse_cons, List.reverse_cons]
    exact kv_app ih ⟨rfl, a, True.intro⟩
def sRaise (x : Str) (fl : List Str) (t : DA) : DS := fun D ρ G => t ρ G (fun ds G1 => ds.length = fl.length ∧ D.ex ⟨x, fsD fl ds⟩ ρ G1) fun z => D.ex z ρ
theorem raise_end {lf : Lf X.K x} {De : DEnds} {ρ : Ev} {G G1 : Sto} {σ : L2.St} {H H1 : Hp} {vs : List V} {ds : List D} (rs : RepS X.K H1 σ ρ) (r1 : Reps X.K H1 vs ds) (s1 : Sim X.K G1 H1) (tk : TkS X G1 H1 De.ex) (hl : ds.length = fl.length) (q : De.ex ⟨x, fsD fl ds⟩ ρ G1) (dx : Addr) (hd : H1 dx = none) :
    XW X (.ref (He.ga X.K x)) (dOf fl dx) σ (hOf fl vs H1 dx) := by
  cases fl with
  | nil => exact tk.ex ⟨x, fsD [] ds⟩ σ ρ _ _ G1 H1 rs ⟨⟨rfl, lf⟩, rfl⟩ s1 .refl q
  | cons f fl =>
    have t3 : TupExt X.K H1 (upd H1 dx (.xd (fsV (f :: fl) vs))) := tup_new hd
    exact tk.ex ⟨x, fsD (f :: fl) ds⟩ σ ρ _ _ G1 _ (rs.mono t3) ⟨⟨rfl, lf⟩, _, upd_same, (kv_fs (r1.mono t3))⟩ (s1.newT hd) (.newT hd) q
theorem qs_raise {pos2 : Pos} (hc : X.calm = true) (c : RCal X x fl) (hl : fl.length ≤ 1000) (hg : Gl X x) (ha : QA X (e :: es) tas) (hd : (x == ("__debug__" : Str)) = false) (hn : (e :: es).all noStar = true) :
    QS X (.Raise (some (.Call (.Name x p) (e :: es) [] pos)) none pos2) (sRaise x fl tas) := by
  have lf : Lf X.K x := by obtain ⟨_, _, _, _, lf, _⟩ := c; exact lf
  refine ⟨fun De ρ G σ H h rs s tk => ?_⟩
  refine PS.ws (L2N.ps_raise hc takes_max (pmk_x c hl hg hd hn)) ?_
  refine (ha.run ρ G _ _ σ H h rs s (tk.tk rs)).imp fun vs H1 ⟨ds, G1, r1, s1, e1, q1⟩ => ?_
  exact ⟨by rw [r1.length]; exact q1.1, fun dx hdx => raise_end (lf := lf) (G := G) (H := H) (rs.mono e1.tup) r1 s1 (tk.step e1) q1.1 q1.2 dx hdx⟩
theorem qs_raise0 {pos2 : Pos} (hc : X.calm = true) (c : RCal X x fl) (h0 : fl = []) (hg : Gl X x) (hd : (x == ("__debug__" : Str)) = false) :
    QS X (.Raise (some (.Call (.Name x p) [] [] pos)) none pos2) (sRaise x fl dNil) := by
  have lf : Lf X.K x := by obtain ⟨_, _, _, _, lf, _⟩ := c; exact lf
  refine ⟨fun De ρ G σ H h rs s tk => ?_⟩
  refine PS.ws (L2N.ps_raise hc takes_max (pmk_x0 c h0 hg hd)) ?_
  intro dx hdx
  have h : ([] : List D).length = fl.length ∧ De.ex ⟨x, fsD fl []⟩ ρ G := h
  exact raise_end (lf := lf) (G := G) (H := H) rs .nil s tk h.1 h.2 dx hdx
end
end DL
namespace DL
open PySem PySem.Spec PyProof.Rows L2
/-! try: .. except C as e: .. -/
section
variable {X : Cx} {pins : List (Addr × Obj)} {σ : L2.St} {H : Hp} {s sI : Shared} {a : Addr} {oe : Obj}
/-- an object that isn't in the state of the entry is tracked from now on -/
theorem inv_track (J : Inv X pins σ H sI) (hna : sI.heap.get? a = none) (I : Inv X pins σ H s) (hs : s.heap.get? a = some oe) (n : H a = none) : Inv X pins σ (upd H a (exT a oe)) s := by
  have there : ∀ {b : Addr} {o : Obj}, sI.heap.get? b = some o → b ≠ a := fun z e => by
    rw [e, hna] at z
    cases z
  have n0 : X.s_0.heap.get? a = none ∨ a ∈ X.ex := by
    by_cases hx : a ∈ X.ex
    · exact .inr hx
    · left
      cases e : X.s_0.heap.get? a with
      | none => rfl
      | some o =>
        obtain ⟨o', z⟩ := J.base.there a o e hx
        rw [hna] at z
        cases z
  have nL : X.env.locals ≠ a := by
    obtain ⟨m, ⟨o, es, ep, ho, _⟩, _⟩ := J.loc
    exact there ho
  have nC : ∀ x c, X.env.cells.lookup x = some c → c ≠ a := fun x c e => by
    obtain ⟨v, o, ho, _⟩ := J.cell x c e
    exact there ho
  refine { ok := I.ok, os := I.os, bare := I.bare, base := ?_, loc := I.loc, cell := I.cell, free := by rw [upd_ne nL]; exact I.free, freeC := fun x c e => by rw [upd_ne (nC x c e)]; exact I.freeC x c e, pin := fun p hp => ?_, hok := fun b o e => ?_, len := I.len }
  · exact { keep := I.base.keep, slot := I.base.slot, there := I.base.there
            free := fun b o e m hx => by
              have hb : b ≠ a := fun z => by
                subst z
                rcases n0 with z | z
                · rw [e] at z; cases z
                · exact hx z
              rw [upd_ne hb]
              exact I.base.free b o e m hx
            tups := fun b xs e => by
              have q := I.base.tups b xs e
              rw [upd_ne (ne_of_none q n)]
              exact q
            frzs := fun b o v e => by
              have q := I.base.frzs b o v e
              rw [upd_ne (ne_of_none q n)]
              exact q
            tbls := fun b ps e => by
              obtain ⟨m, q⟩ := I.base.tbls b ps e
              exact ⟨m, by rw [upd_ne (ne_of_none q n)]; exact q⟩ }
  · obtain ⟨e1, e2, e3⟩ := I.pin p hp
    obtain ⟨z1, _⟩ := J.pin p hp
    exact ⟨e1, by rw [upd_ne (there z1)]; exact e2, e3⟩
  · by_cases hb : b = a
    · subst hb
      rw [upd_same] at e
      cases e
      exact ⟨hs, ⟨oe, hs⟩, fun h1 h2 z k => k _ z⟩
    · rw [upd_ne hb] at e
      exact (I.hok b o e).stay (fun c v _ z => z) (fun c z => by rw [upd_ne (ne_of_none z n)]; exact z) fun c xs z => by rw [upd_ne (ne_of_none z n)]; exact z
/-- into the suite, out of it -/
theorem inv_suite (I : Inv X pins σ H s) : Inv (X.suite a (X.pn ++ pins)) [] σ H s :=
  { ok := I.ok.suite _ _, os := I.os, bare := I.bare, base := I.base, loc := I.loc, cell := I.cell, free := I.free, freeC := I.freeC, pin := fun p hp => I.pin p (by rw [List.append_nil] at hp; exact hp), hok := I.hok, len := I.len }
theorem inv_unsuite {pn' : List (Addr × Obj)} (I : Inv (X.suite a (X.pn ++ pins)) pn' σ H s) (ok : X.Ok) : Inv X pins σ H s :=
  { ok := ok, os := I.os, bare := I.bare, base := I.base, loc := I.loc, cell := I.cell, free := I.free, freeC := I.freeC, pin := fun p hp => I.pin p (List.mem_append_left _ hp), hok := I.hok, len := I.len }
end
/-! the reading -/
def hits (y : Str) (x : Str) : Bool := decide (y = "BeatError") || decide (x = y)
def asExc (z : Exn) : D := .exc z.x (z.fs.map (·.1)) (z.fs.map (·.2))
def endsOf (D : DEnds) : Option Nat → DEnds
  | none => { D with ex := fun _ _ _ => False }
  | some i => { nx := fun ρ G => D.nx (ρ.set i none) G, rt := D.rt, bk := fun ρ G => D.bk (ρ.set i none) G, ct := fun ρ G => D.ct (ρ.set i none) G, ex := fun _ _ _ => False }
def evOf (z : Exn) (ρ : Ev) : Option Nat → Ev
  | none => ρ
  | some i => ρ.set i (some (asExc z))
def hEx (De : DEnds) : List (Str × Option Nat × DS) → EX
  | [], z, ρ, G => De.ex z ρ G
  | (y, i, ts) :: r, z, ρ, G => if hits y z.x = true then ts (endsOf De i) (evOf z ρ i) G else hEx De r z ρ G
def sTry (tb : DS) (hs : List (Str × Option Nat × DS)) : DS := fun De ρ G => tb { De with ex := hEx De hs } ρ G
section
variable {X : Cx}
inductive HsOk (X : Cx) : List ExceptHandler → List (Str × Option Nat × DS) → Prop
  | nil : HsOk X [] []
  | cons {y : Str} {i : Option Nat} {nm : Option Str} {ts : DS} {b0 : Stmt} {suite : List Stmt} {np pos' : Pos} {hds : List ExceptHandler} {l : List (Str × Option Nat × DS)}
      (hy : Gl X y ∧ (y == ("__debug__" : Str)) = false ∧ X.mg y = some (.ref (He.ga X.K y)) ∧ (y ≠ "BeatError" → Lf X.K y))
      (hn : match nm, i with
        | none, none => True
        | some n, some j => X.N[j]? = some n ∧ X.env.kindOf n = some .local
        | _, _ => False)
      (hsu : ∀ (a : Addr) (pn : List (Addr × Obj)), QB (X.suite a pn) (b0 :: suite) ts) (r : HsOk X hds l) : HsOk X (.ExceptHandler (some (.Name y np)) nm (b0 :: suite) pos' :: hds) ((y, i, ts) :: l)
theorem exn_rep {K : PySem.W.Frag} {H : Hp} {cls : Value} {d : Option Addr} {z : Exn} {a : Addr} {oe : Obj} (r : ExnRep K H cls d z) (h : H a = some (exT a oe)) (hz : L2N.Zn cls d oe) (hd : ∃ vs, oe.data = .fields vs) : Rep K H (.ref a) (asExc z) := by
  obtain ⟨⟨rfl, lf⟩, r⟩ := r
  obtain ⟨vs, hv⟩ := hd
  have o : ExO K z.x d oe := ⟨lf, hz.1, hz.2.1, vs, hv, hz.2.2 vs hv⟩
  cases d with
  | none =>
    have r : z.fs = [] := r
    unfold asExc
    rw [r]
    exact .exc0 h o
  | some dd =>
    obtain ⟨m, hm, rm⟩ := r
    have two : ∀ {l : List (Str × V)} {fs : List (Str × D)}, RepKV K H l fs → l.map (·.1) = fs.map (·.1) ∧ Reps K H (l.map (·.2)) (fs.map (·.2)) := by
      intro l
      induction l with
      | nil =>
        intro fs q
        cases fs with
        | nil => exact ⟨rfl, .nil⟩
        | cons _ _ => exact q.elim
      | cons p l ih =>
        intro fs q
        cases fs with
        | nil => exact q.elim
        | cons p2 fs =>
          obtain ⟨e, r1, r2⟩ := q
          obtain ⟨i1, i2⟩ := ih r2
          exact ⟨by rw [List.map_cons, List.map_cons, i1, e], .cons r1 i2⟩
    obtain ⟨e1, e2⟩ := two rm
    exact .exc h o hm e1 e2
theorem exn_mono {K : PySem.W.Frag} {H H' : Hp} {cls : Value} {d : Option Addr} {z : Exn} (r : ExnRep K H cls d z) (t : TupExt K H H') : ExnRep K H' cls d z := by
  obtain ⟨e, r⟩ := r
  refine ⟨e, ?_⟩
  cases d with
  | none => exact r
  | some a =>
    obtain ⟨m, h, rm⟩ := r
    exact ⟨m, t.x a m h, rm.mono t⟩
theorem qs_try {body : List Stmt} {h0 : ExceptHandler} {hds : List ExceptHandler} {l : List (Str × Option Nat × DS)} {pos : Pos} {tb : DS} (hst : X.stack = X.env :: X.outer) (hf : X.env.frame = some X.env.locals) (hN : X.N.Nodup) (hc : X.calm = true)
    (hb : ∀ (pn : List (Addr × Obj)) (xe : Value → Shared → Prop), PassesOwn (model X.prog X.w) X.A X.env xe → QB (X.tr pn xe) body tb) (hh : HsOk X (h0 :: hds) l) : QS X (.Try body (h0 :: hds) [] [] pos) (sTry tb l) := by
  refine ⟨fun De ρ G σ H h rs sm tk pins s0 I => ?_⟩
  have ok := I.ok
  have hfr : X.A.frames = some (X.env :: X.outer) := by rw [ok.frames, hst]
  refine wpAny_Try_except ?_
  have fin : ∀ {f : Flow} {s1 : Shared}, SP (X.tr (X.pn ++ pins) (fun e s₁ => wpAny (model X.prog X.w) X.A (noteFrame e X.env) (fun _ s₂ => wpAny (model X.prog X.w) X.A (setFlight e none)
      (fun _ s₃ => wpAny (model X.prog X.w) X.A (handleBy e X.env (h0 :: hds)) (SP X pins (LiftS X.K G H De)) X.xe s₃) X.xe s₂) X.xe s₁)) [] (LiftS X.K G H { De with ex := hEx De l }) f s1 →
      (match f with
        | .next => wpAny (model X.prog X.w) X.A (execs [] X.env) (SP X pins (LiftS X.K G H De)) X.xe s1
        | f => SP X pins (LiftS X.K G H De) f s1) := by
    intro f s1 z
    cases f with
    | next => obtain ⟨σ1, H1, J1, q⟩ := z; exact wpAny_execs_nil ⟨σ1, H1, J1.ofTry ok, q⟩
    | brk => obtain ⟨σ1, H1, J1, q⟩ := z; exact ⟨σ1, H1, J1.ofTry ok, q⟩
    | cont => obtain ⟨σ1, H1, J1, q⟩ := z; exact ⟨σ1, H1, J1.ofTry ok, q⟩
    | ret u => obtain ⟨v, σ1, H1, J1, r, q⟩ := z; exact ⟨v, σ1, H1, J1.ofTry ok, r, q⟩
  refine wpAny_mono ((hb (X.pn ++ pins) _ PassesOwn.looking).run { De with ex := hEx De l } ρ G σ H h rs sm ⟨?_, .calm hc⟩ [] s0 (I.toTry _)) (fun f s1 z => fin z) (fun e s1 z => z)
  intro z σ0 ρ0 cls0 d0 G0 H0 rs0 xr0 sm0 ex0 q0 u s' xx
  obtain ⟨a, B, sI, pins', σ', H', cls, d, rfl, J', nb, up, sky, na, os, ag, rfl, rfl, rfl, rfl⟩ := xx
  have J : Inv X pins σ' H' sI := J'.ofTry ok
  have sky' : Sky B (X.env :: X.outer) a (L2N.Zn cls d) X.env.locals s'.heap := by rw [← hst]; exact sky
  refine L2N.Sky.land L2N.Zn.steady hfr hf sky' fun h3 fl3 up3 => ?_
  have J3 : Inv X pins σ' H' { s' with heap := h3 } := J.landed nb fl3.1 (up.trans up3) os ag
  obtain ⟨oe3, vs3, he3, hz3, hd3⟩ := fl3.there
  have nfr : ∀ {h : Heap} {o : Obj} {vs : Array Value}, h.FunFrames B (X.env :: X.outer) → h.get? a = some o → o.data = .fields vs → a ∉ frs (X.env :: X.outer) := by
    intro h o vs ff e dd hm
    obtain ⟨_, o', e', hnf⟩ := ff.mem hm
    rw [e] at e'
    cases e'
    exact hnf _ dd
  have nfr3 := nfr fl3.2.2.1 he3 hd3
  have hna : sI.heap.get? a = none := by
    cases e : sI.heap.get? a with
    | none => rfl
    | some o =>
      have z1 := nb a o e (by rw [hst]; exact nfr3)
      rw [fl3.2.1] at z1
      cases z1
  have nL : a ≠ X.env.locals := fun z => nfr3 (List.mem_filterMap.mpr ⟨X.env, List.mem_cons_self, by rw [hf, z]⟩)
  have nF : a ∉ X.fs := fun hm => by
    obtain ⟨e, he, q⟩ := List.mem_filterMap.mp hm
    exact nfr3 (List.mem_filterMap.mpr ⟨e, List.mem_cons_of_mem _ he, q⟩)
  have S3 := J3.suite he3 hd3 na nL nF
  have lf : Lf X.K z.x := xr0.1.2
  have ecls : cls = .ref (He.ga X.K z.x) := xr0.1.1
  have go : ∀ {hds' : List ExceptHandler} {l' : List (Str × Option Nat × DS)}, HsOk X hds' l' → hEx De l' z ρ0 G0 → wpAny (model X.prog X.w) X.A (handleBy (.ref a) X.env hds') (SP X pins (LiftS X.K G H De)) X.xe { s' with heap := h3 } := by
    intro hds' l' hk
    induction hk with
    | nil =>
      intro w
      refine wpAny_handleBy_nil ?_
      obtain ⟨k1, k2, k3, oe, vs, T, oT, ts', he, hz, hd, h1, hr⟩ := id fl3
      unfold PySem.passOn
      refine wpAny_bind (wpAny_field he hd h1 ?_)
      rw [if_neg (show ¬ ((Value.ref T == Value.none) = true) from by simp)]
      have last : wpAny (model X.prog X.w) X.A (setFlight (.ref a) X.env.frame) (fun _ s4 => wpAny (model X.prog X.w) X.A (throw (.ref a) : Sem Flow) (SP X pins (LiftS X.K G H De)) X.xe s4) X.xe { s' with heap := h3 } := by
        rw [hf]
        refine HandSPX.setFlight_upZ fl3 fun h4 hh4 up4 => wpAny_throw ?_
        exact tk.ex z σ' ρ0 cls d G0 H' rs0 xr0 sm0 ex0 w _ _ ⟨a, B, sI, pins, σ', H', cls, d, rfl, J, nb, (up.trans up3).trans up4, .inr (.inr (by rw [hst]; exact hh4)), na, os, ag, rfl, rfl, rfl, rfl⟩
      first
        | exact wpAny_bind (wpAny_pure (wpAny_bind last))
        | exact wpAny_bind last
    | @cons y i nm ts b0 suite np pos' hds2 l2 hy hn hsu r ih =>
      intro w
      obtain ⟨hg, hdb, hm, hly⟩ := hy
      have hb1 : PySem.W.exmOne X.K cls (.ref (He.ga X.K y)) = some (hits y z.x) := by
        rw [ecls]
        unfold hits
        by_cases e : y = "BeatError"
        · subst e
          rw [decide_eq_true rfl, Bool.true_or]
          exact lf_exmB lf
        · rw [decide_eq_false e, Bool.false_or]
          exact lf_exm lf (hly e)
      refine wpAny_handleBy_cons (codeAny_handlers_test ?_) (by intro q; cases q)
      have LT : PySem.W.Looks (model X.prog X.w) h3 (typeOf (.ref a)) cls := fun A Q E s k q => wpAny_typeOf_ref (k _ _ he3) (by rw [hz3.1]; exact q)
      have LM := PySem.W.exm_one (M := model X.prog X.w) (J3.kIn) LT hb1
      refine ld_glob (X := X.suite a ((a, oe3) :: (X.pn ++ pins))) S3 hg hm (LM.here ?_) hdb
      have w : (if hits y z.x = true then ts (endsOf De i) (evOf z ρ0 i) G0 else hEx De l2 z ρ0 G0) := w
      cases hv : hits y z.x with
      | false =>
        rw [hv] at w
        simp only [Bool.false_eq_true, if_false] at w
        exact ih w
      | true =>
        rw [hv] at w
        simp only [if_true] at w
        -- the suite's begin
        have begin_ : ∀ {h4 : Heap}, HandSPX.FlyingZ B (X.env :: X.outer) a (L2N.Zn cls d) h4 → h3.UpToSlots h4 → ∃ oe4, Inv (X.suite a (X.pn ++ pins)) [] σ' (upd H' a (exT a oe4)) { s' with heap := h4 } ∧ Rep X.K (upd H' a (exT a oe4)) (.ref a) (asExc z) ∧
            HotX (X.suite a (X.pn ++ pins)) (upd H' a (exT a oe4)) := by
          intro h4 fl4 up4
          have J4 : Inv X pins σ' H' { s' with heap := h4 } := J.landed nb fl4.1 ((up.trans up3).trans up4) os ag
          obtain ⟨oe4, vs4, he4, hz4, hd4⟩ := fl4.there
          refine ⟨oe4, inv_suite (inv_track J hna J4 he4 na), exn_rep (exn_mono xr0 (tup_new na)) upd_same hz4 ⟨_, hd4⟩, fun _ => ⟨a, oe4, rfl, upd_same, vs4, hd4, hz4.2.2 vs4 hd4⟩⟩
        have t4 : ∀ oe4, Ext X.K G H G0 (upd H' a (exT a oe4)) := fun oe4 => ex0.trans (.newT na)
        cases nm with
        | none =>
          cases i with
          | some j => exact hn.elim
          | none =>
            refine codeAny_handlers_suite (HandSPX.lands_againZ fl3 fun h4 fl4 up4 => ?_)
            obtain ⟨oe4, I4, r4, hot4⟩ := begin_ fl4 up4
            refine wpAny_mono ((hsu a (X.pn ++ pins)).run (endsOf De none) ρ0 G0 σ' _ w (rs0.mono (tup_new na)) (sm0.newT na) (TkS.never hot4) [] _ I4) (fun f s6 hsp => ?_) (fun _ _ y => y.elim)
            cases f with
            | next => obtain ⟨σ6, H6, S6, ρ6, G6, r6, m6, x6, q6⟩ := hsp; exact ⟨σ6, H6, inv_unsuite S6 ok, ρ6, G6, r6, m6, (t4 oe4).trans x6, q6⟩
            | brk => obtain ⟨σ6, H6, S6, ρ6, G6, r6, m6, x6, q6⟩ := hsp; exact ⟨σ6, H6, inv_unsuite S6 ok, ρ6, G6, r6, m6, (t4 oe4).trans x6, q6⟩
            | cont => obtain ⟨σ6, H6, S6, ρ6, G6, r6, m6, x6, q6⟩ := hsp; exact ⟨σ6, H6, inv_unsuite S6 ok, ρ6, G6, r6, m6, (t4 oe4).trans x6, q6⟩
            | ret u => obtain ⟨v6, σ6, H6, S6, rv6, d6, G6, r6, m6, x6, q6⟩ := hsp; exact ⟨v6, σ6, H6, inv_unsuite S6 ok, rv6, d6, G6, r6, m6, (t4 oe4).trans x6, q6⟩
        | some n =>
          cases i with
          | none => exact hn.elim
          | some j =>
            obtain ⟨hj, hln⟩ := hn
            refine codeAny_handlers_suite_as (HandSPX.lands_againZ fl3 fun h4 fl4 up4 => ?_)
            obtain ⟨oe4, I4, r4, hot4⟩ := begin_ fl4 up4
            refine store_ok (X := X.suite a (X.pn ++ pins)) (v := .ref a) I4 hN hj (.inl hln) rfl (fun s5 S5 => ?_) (.inr hln)
            refine wpAny_mono ((hsu a (X.pn ++ pins)).run (endsOf De (some j)) (evOf z ρ0 (some j)) G0 _ _ w ((rs0.mono (tup_new na)).set j r4) (sm0.newT na) (TkS.never hot4) [] _ S5) (fun f s6 hsp => ?_) (fun _ _ y => y.elim)
            have end_ : ∀ {σ6 : L2.St} {H6 : Hp} {Q : Shared → Prop}, Inv (X.suite a (X.pn ++ pins)) [] σ6 H6 s6 → (∀ s7, Inv X pins (σ6.set j none) H6 s7 → Q s7) →
                wpAny (model X.prog X.w) X.A (do bindName X.env n .none; unbindBehindTheSuite X.env n pos') (fun _ s7 => Q s7) X.xe s6 := fun S6 hq => gone_ok (inv_unsuite S6 ok) hN hj hln hq
            cases f with
            | next => obtain ⟨σ6, H6, S6, ρ6, G6, r6, m6, x6, q6⟩ := hsp; exact end_ S6 fun s7 J7 => ⟨_, H6, J7, _, G6, r6.forget j, m6, (t4 oe4).trans x6, q6⟩
            | brk => obtain ⟨σ6, H6, S6, ρ6, G6, r6, m6, x6, q6⟩ := hsp; exact end_ S6 fun s7 J7 => ⟨_, H6, J7, _, G6, r6.forget j, m6, (t4 oe4).trans x6, q6⟩
            | cont => obtain ⟨σ6, H6, S6, ρ6, G6, r6, m6, x6, q6⟩ := hsp; exact end_ S6 fun s7 J7 => ⟨_, H6, J7, _, G6, r6.forget j, m6, (t4 oe4).trans x6, q6⟩
            | ret u => obtain ⟨v6, σ6, H6, S6, rv6, d6, G6, r6, m6, x6, q6⟩ := hsp; exact end_ S6 fun s7 J7 => ⟨v6, _, H6, J7, rv6, d6, G6, r6, m6, (t4 oe4).trans x6, q6⟩
  exact go hh q0
end
end DL
namespace DL
open PySem PySem.Spec PyProof.Rows L2 RZ
/-! where an exception is handled: what is walked ends by StopIteration, whose context is that exception -/
section
variable {prog : Program} {w : World} {A : Around} {E : Value → Shared → Prop} {s : Shared}
theorem stop_hot {α : Type} {x1 : Addr} {Q : α → Shared → Prop} (hot : _root_.HotX.HotAt A x1 s.heap)
    (hE : ∀ h' e, (∀ b o, s.heap.get? b = some o → h'.get? b = some o) → (∃ o, h'.get? e = some o ∧ o.cls = .type "StopIteration") → E (.ref e) { s with heap := h' }) :
    wpAny (model prog w) A (newExc (.type "StopIteration") [] >>= fun e => (raiseNew e : Sem α)) Q E s := by
  obtain ⟨hh, o1, vs1, h1, d1, c1⟩ := hot
  refine wpAny_bind ?_
  simp only [newExc, newTuple]
  refine wpAny_bind (wpAny_newObj_type ?_ (by size_fits))
  refine wpAny_bind (m := firstArgMember _ _) (wpAny_of_eq (a := Value.none) (by first | rfl | (simp only [firstArgMember]; rfl)) (wpAny_newObj_type ?_ (by size_fits)))
  have k1 : ∀ {o : Obj} {b : Addr} {u : Obj}, s.heap.get? b = some u → (s.heap.push o).get? b = some u := fun z => Heap.get?_push_of_some _ z
  refine _root_.HotX.raiseNew_hot ⟨hh, o1, vs1, Heap.get?_push_of_some _ (k1 h1), d1, c1⟩ (Nat.ne_of_lt (Heap.lt_size (k1 h1))) (Heap.get?_push_size _ rfl) rfl (by first | (simp; done) | (simp; omega) | (simp only [Array.size_append]; simp; omega)) ?_
  refine hE _ _ (fun b o e => ?_) ⟨_, Heap.get?_update_self _ (Heap.get?_push_size _ rfl) rfl, rfl⟩
  rw [Heap.get?_update_other _ _ (Nat.ne_of_gt (Heap.lt_size (Heap.get?_push_of_some _ e)))]
  exact Heap.get?_push_of_some _ (Heap.get?_push_of_some _ e)
theorem hot_upd {x1 it : Addr} {h' : Heap} {o : Obj} {f : Obj → Obj} (hot : _root_.HotX.HotAt A x1 s.heap) (ne : x1 ≠ it) : _root_.HotX.HotAt A x1 (s.heap.update it f) := by
  obtain ⟨hh, o1, vs1, h1, r⟩ := hot
  exact ⟨hh, o1, vs1, by rw [Heap.get?_update_other _ _ (Ne.symm ne)]; exact h1, r⟩
/-- the next of a list's iterator, none left -/
theorem lstEnd_hot {it l x1 : Addr} {i : Nat} {items : Array Value} {Q : Value → Shared → Prop} (hot : _root_.HotX.HotAt A x1 s.heap) (ne : x1 ≠ it) (hit : s.heap.IsListIter it l i) (hl : s.heap.IsList l items) (hx : items[i]? = none)
    (hE : ∀ h' e, Heap.ExtBut it s.heap h' → (∃ o, h'.get? e = some o ∧ o.cls = .type "StopIteration") → E (.ref e) { s with heap := h' }) : wpAny (model prog w) A (Builtin.SmallTypes.nextOf (.ref it)) Q E s := by
  obtain ⟨o, ho, hc, hd⟩ := id hit
  obtain ⟨ol, hol, _, nl, hdl⟩ := hl
  unfold Builtin.SmallTypes.nextOf
  refine wpAny_bind (wpAny_callSpecial?_slot (name := Str.ofString "__next__") hit.typeIs slot_listiter_next (wpAny_call_entry slot_listiter_next hit.typeIs entry_listiter_next ?_ (args_listiter_next _)))
  refine wpAny_bind (m := field (.ref it) 0) (wpAny_field ho hd (x := .ref l) rfl ?_)
  show wpAny _ _ (if (Value.ref l == Value.none) = true then _ else _) _ _ s
  rw [if_neg (by exact Bool.false_ne_true)]
  refine wpAny_bind (m := field (.ref it) 1) (wpAny_field ho hd (x := .int i 0) rfl ?_)
  refine wpAny_bind (m := seqItems? (.ref l)) (wpAny_seqItems hol hdl ?_)
  simp only [Int.toNat_natCast, hx]
  refine wpAny_bind (wpAny_rule (wpAny_bind (wpAny_setField ho hd (by simp) ?_)))
  have hot2 : _root_.HotX.HotAt A x1 (s.heap.update it (Obj.mapFields (·.setIfInBounds 0 Value.none))) := hot_upd (o := o) (h' := s.heap) hot ne
  refine stop_hot hot2 fun h' e k z => hE h' e (fun b u hb q => k b u ?_) z
  exact (Heap.get?_update_other _ _ (Ne.symm hb)).trans q
/-- of a tuple's -/
theorem tupEnd_hot {it t x1 : Addr} {i : Nat} {items : Array Value} {Q : Option Value → Shared → Prop} (hot : _root_.HotX.HotAt A x1 s.heap) (ne : x1 ≠ it) (hit : IsTupIter s.heap it t i) (ht : IsTup s.heap t items) (hx : items[i]? = none)
    (hQ : ∀ h', Heap.ExtBut it s.heap h' → Q none { s with heap := h' }) : wpAny (model prog w) A (pyNext (.ref it)) Q E s := by
  obtain ⟨o, ho, hc, hd⟩ := id hit
  obtain ⟨ol, hol, _, nl, hdl⟩ := ht
  unfold pyNext
  refine wpAny_bind (wpAny_attempt (wpAny_callSpecial?_slot (name := Str.ofString "__next__") hit.typeIs slot_tupleiter_next (wpAny_call_entry slot_tupleiter_next hit.typeIs entry_tupleiter_next ?_ (args_tupleiter_next _))))
  refine wpAny_bind (m := field (.ref it) 0) (wpAny_field ho hd (x := .ref t) rfl ?_)
  show wpAny _ _ (if (Value.ref t == Value.none) = true then _ else _) _ _ s
  rw [if_neg (by exact Bool.false_ne_true)]
  refine wpAny_bind (m := field (.ref it) 1) (wpAny_field ho hd (x := .int i 0) rfl ?_)
  refine wpAny_bind (m := seqItems? (.ref t)) (wpAny_seqItems hol hdl ?_)
  simp only [Int.toNat_natCast, hx]
  refine wpAny_bind (wpAny_rule (wpAny_bind (wpAny_setField ho hd (by simp) ?_)))
  have hot2 : _root_.HotX.HotAt A x1 (s.heap.update it (Obj.mapFields (·.setIfInBounds 0 Value.none))) := hot_upd (o := o) (h' := s.heap) hot ne
  refine stop_hot hot2 fun h' e k z => ?_
  obtain ⟨oe, hoe, hce⟩ := z
  refine wpAny_bind (wpAny_isInstance (T := "StopIteration") (b := true) ⟨oe, hoe, hce⟩ isSubtype_stop (wpAny_pure (hQ _ fun b u hb q => k b u ?_)))
  exact (Heap.get?_update_other _ _ (Ne.symm hb)).trans q
theorem hot_keep {x1 : Addr} {h h' : Heap} (hot : _root_.HotX.HotAt A x1 h) (k : ∀ o, h.get? x1 = some o → h'.get? x1 = some o) : _root_.HotX.HotAt A x1 h' := by
  obtain ⟨hh, o1, vs1, h1, r⟩ := hot
  exact ⟨hh, o1, vs1, k _ h1, r⟩
theorem hot_lt {x1 : Addr} {h : Heap} (hot : _root_.HotX.HotAt A x1 h) : x1 < h.objs.size := by
  obtain ⟨_, o1, vs1, h1, _⟩ := hot
  exact Heap.lt_size h1
theorem unpack_hot {t x1 : Addr} {items : Array Value} {Q : List Value → Shared → Prop} (hot : _root_.HotX.HotAt A x1 s.heap) (ht : IsTup s.heap t items)
    (hQ : ∀ h', Heap.ExtBut s.heap.objs.size s.heap h' → Q items.toList { s with heap := h' }) : wpAny (model prog w) A (unpackItems (.ref t) items.size none) Q E s := by
  have hlt : t ≠ s.heap.objs.size := by obtain ⟨o, ho, _⟩ := ht; exact Nat.ne_of_lt (Heap.lt_size ho)
  have nx := Nat.ne_of_lt (hot_lt hot)
  unfold unpackItems
  refine wpAny_bind ?_
  unfold notIterableAtAll
  refine wpAny_bind (wpAny_specialOf ht.typeIs slot_tuple_iter.lookup (wpAny_pure ?_))
  simp only [Bool.false_eq_true, if_false]
  refine wpAny_bind (wpAny_holding (iter_tuple ht (wpAny_bind (wpAny_holding ?_))))
  refine draw_tuple hlt items.size 0 _ _ ⟨_, Heap.get?_push_size _ rfl, rfl, rfl⟩ (ht.push _) (by omega) fun h1 it1 sb => ?_
  have hall : List.take items.size (List.drop 0 items.toList) = items.toList := by
    rw [List.drop_zero]
    exact List.take_of_length_le (by simp)
  rw [hall, if_neg (by simp)]
  have ht1 : IsTup h1 t items := (ht.push _).extBut sb.extBut hlt
  refine wpAny_bind (wpAny_holding (tupEnd_hot (x1 := x1) (hot_keep hot fun o z => sb.extBut _ _ nx (Heap.get?_push_of_some _ z)) nx it1 ht1 (by simp) fun h2 he => ?_))
  simp only [Option.isSome_none, Bool.false_eq_true, if_false]
  exact wpAny_pure (hQ h2 fun b o hb e => he b o hb (sb.extBut b o hb (Heap.get?_push_of_some _ e)))
/-- zip of lists, none left -/
theorem zipEnd_hot {z TI TO i1 i2 l1 l2 x1 : Addr} {k1 k2 : Nat} {xs ys : Array Value} {a b : Value} {Q : Option Value → Shared → Prop} (hot : _root_.HotX.HotAt A x1 s.heap) (nx : x1 ≠ z ∧ x1 ≠ TO ∧ x1 ≠ i1 ∧ x1 ≠ i2) (D : ZipApart z TI TO i1 i2 l1 l2)
    (hz : IsZip s.heap z TI TO .none) (hTI : IsPair s.heap TI (.ref i1) (.ref i2)) (hTO : IsPair s.heap TO a b) (h1 : s.heap.IsListIter i1 l1 k1) (h2 : s.heap.IsListIter i2 l2 k2) (hl1 : s.heap.IsList l1 xs) (hl2 : s.heap.IsList l2 ys) (hend : xs[k1]? = none ∨ ys[k2]? = none)
    (hQ : ∀ h', (∀ c o, c ≠ z → c ≠ TO → c ≠ i1 → c ≠ i2 → s.heap.get? c = some o → h'.get? c = some o) → Q none { s with heap := h' }) : wpAny (model prog w) A (pyNext (.ref z)) Q E s := by
  have hT : s.TypeIs (.ref z) "zip" := ⟨_, hz, rfl⟩
  have last : ∀ (h' : Heap) (e : Addr), (∀ c o, c ≠ z → c ≠ TO → c ≠ i1 → c ≠ i2 → s.heap.get? c = some o → h'.get? c = some o) → (∃ o, h'.get? e = some o ∧ o.cls = .type "StopIteration") →
      wpAny (model prog w) A (isInstance (.ref e) (.type "StopIteration")) (fun r s' => wpAny (model prog w) A (if r = true then pure none else throw (Value.ref e)) Q E s') E { s with heap := h' } := by
    rintro h' e hk ⟨oe, hoe, hce⟩
    exact wpAny_isInstance (T := "StopIteration") (b := true) ⟨oe, hoe, hce⟩ isSubtype_stop (wpAny_pure (hQ h' hk))
  unfold pyNext
  refine wpAny_bind (wpAny_attempt (wpAny_callSpecial?_slot (name := Str.ofString "__next__") hT F.slot_zip_next (wpAny_call_entry F.slot_zip_next hT F.entry_zip_next ?_ (F.args_zip_next_1 _))))
  refine wpAny_bind (m := field (.ref z) 2) (wpAny_field hz rfl (x := .bool false) rfl ?_)
  refine wpAny_bind (m := field (.ref z) 3) (wpAny_field hz rfl (x := .ref TI) rfl ?_)
  refine wpAny_bind (wpAny_seqItems hTI rfl ?_)
  refine wpAny_bind (m := Builtin.SmallTypes.ownedTupleIsFree (.ref z)) ?_
  unfold Builtin.SmallTypes.ownedTupleIsFree
  refine wpAny_bind (wpAny_field hz rfl (x := .none) rfl (wpAny_pure ?_))
  simp only [if_true]
  refine wpAny_bind (wpAny_rule (wpAny_bind (wpAny_field hz rfl (x := .ref TO) rfl (wpAny_bind (wpAny_setField_rec hz (by simp) fun g1 hz1 sb1 => ?_)))))
  replace hz1 : IsZip g1 z TI TO .ellipsis := hz1
  refine wpAny_bind ?_
  simp only [List.zipIdx_cons, List.zipIdx_nil, List.forIn_cons, List.forIn_nil]
  refine wpAny_bind (wpAny_bind (wpAny_onRaise (wpAny_bind (m := Builtin.SmallTypes.nextOf (.ref i1)) ?_)))
  have hot1 : _root_.HotX.HotAt A x1 g1 := hot_keep hot fun o q => sb1.extBut _ _ nx.1 q
  cases hx : xs[k1]? with
  | none =>
    refine lstEnd_hot hot1 nx.2.2.1 (h1.extBut sb1.extBut D.i1z) (hl1.extBut sb1.extBut D.l1z) hx fun g2 e sb2 he => ?_
    obtain ⟨oe, hoe, hce⟩ := he
    have hz2 : IsZip g2 z TI TO .ellipsis := sb2 _ _ D.i1z.symm hz1
    have hez : e ≠ z := fun q => by
      subst q
      rw [hz2] at hoe
      cases hoe
      simp at hce
    refine wpAny_setField_rec hz2 (by simp) fun g3 _ sb3 => wpAny_bind (last g3 e (fun c o c1 _ c3 _ q => sb3.extBut _ _ c1 (sb2 _ _ c3 (sb1.extBut _ _ c1 q))) ⟨oe, sb3.extBut _ _ hez hoe, hce⟩)
  | some x =>
    have hy : ys[k2]? = none := by
      rcases hend with h | h
      · rw [hx] at h; cases h
      · exact h
    refine wpAny_nextOf_list_item (h1.extBut sb1.extBut D.i1z) (hl1.extBut sb1.extBut D.l1z) hx fun g2 it2 sb2 => wpAny_pure ?_
    have hTO2 : IsPair g2 TO a b := sb2.extBut _ _ D.TOi1 (sb1.extBut _ _ D.TOz hTO)
    refine wpAny_bind (wpAny_seqItems hTO2 rfl (wpAny_bind (wpAny_updateSeq_pair hTO2 fun g3 hTO3 sb3 => ?_)))
    refine wpAny_bind (wpAny_letGo (wpAny_pure (wpAny_bind (wpAny_bind (wpAny_onRaise (wpAny_bind (m := Builtin.SmallTypes.nextOf (.ref i2)) ?_))))))
    have hot3 : _root_.HotX.HotAt A x1 g3 := hot_keep hot1 fun o q => sb3.extBut _ _ nx.2.1 (sb2.extBut _ _ nx.2.2.1 q)
    refine lstEnd_hot hot3 nx.2.2.2 (((h2.extBut sb1.extBut D.i2z).extBut sb2.extBut D.i12.symm).extBut sb3.extBut D.TOi2.symm) (((hl2.extBut sb1.extBut D.l2z).extBut sb2.extBut D.l2i1).extBut sb3.extBut D.l2TO) hy fun g4 e sb4 he => ?_
    obtain ⟨oe, hoe, hce⟩ := he
    have hz4 : IsZip g4 z TI TO .ellipsis := sb4 _ _ D.i2z.symm (sb3.extBut _ _ D.TOz.symm (sb2.extBut _ _ D.i1z.symm hz1))
    have hez : e ≠ z := fun q => by
      subst q
      rw [hz4] at hoe
      cases hoe
      simp at hce
    refine wpAny_setField_rec hz4 (by simp) fun g5 _ sb5 => wpAny_bind (last g5 e (fun c o c1 c2 c3 c4 q => sb5.extBut _ _ c1 (sb4 _ _ c4 (sb3.extBut _ _ c2 (sb2.extBut _ _ c3 (sb1.extBut _ _ c1 q))))) ⟨oe, sb5.extBut _ _ hez hoe, hce⟩)
end
end DL
namespace DL
open PySem PySem.Spec PyProof.Rows L2 RZ
/-! comprehensions where an exception is handled -/
structure TurnX (P : Program) (w : World) (K : PySem.W.Frag) (tg : Expr) (J : It) (fp : List Addr) (it : Addr) (tn : Nat → Heap → Prop) : Prop where
  mem : it ∈ fp
  obj : ∀ i h, tn i h → ∀ b ∈ fp, ∃ o, h.get? b = some o ∧ ∀ v, o.data ≠ .cell v
  keep : ∀ i h h', tn i h → (∀ b ∈ fp, ∀ o, h.get? b = some o → h'.get? b = some o) → tn i h'
  item : ∀ (X : Cx), X.prog = P → X.w = w → X.K = K → ∀ (i : Nat) pins s σ H (E : Value → Shared → Prop), Inv X pins σ H s → (∀ b ∈ fp, FpOk X pins H b) → tn i s.heap → J.go i H →
    wpAny (model P w) X.A (pyNext (.ref it)) (fun r s1 => ∃ u, r = some u ∧
      wpAny (model P w) X.A (letOwnedTupleGo tg (.ref it) u) (fun _ s2 => ∃ x H', Inv X pins σ H' s2 ∧ RelV x u ∧ J.yld i H x H' ∧ tn (i + 1) s2.heap ∧ ∀ b ∈ fp, H' b = none) E s1) E s
  done : ∀ (X : Cx), X.prog = P → X.w = w → X.K = K → ∀ (i : Nat) pins s σ H (E : Value → Shared → Prop), Inv X pins σ H s → HotH X.A H → (∀ b ∈ fp, FpOk X pins H b) → tn i s.heap → J.stop i H →
    wpAny (model P w) X.A (pyNext (.ref it)) (fun r s1 => r = none ∧ Inv X pins σ H s1) E s
  self : ∀ (A : Around) (i : Nat) (s : Shared) (Q : Value → Shared → Prop) (E : Value → Shared → Prop), tn i s.heap → Q (.ref it) s → wpAny (model P w) A (pyIter (.ref it)) Q E s
def PIX (X : Cx) (pins : List (Addr × Obj)) (σ : L2.St) (tg : Expr) (R : It → Hp → Prop) (itv : Value) (s2 : Shared) : Prop :=
  ∃ it fp tn J H', itv = .ref it ∧ Inv X pins σ H' s2 ∧ TurnX X.prog X.w X.K tg J fp it tn ∧ tn 0 s2.heap ∧ (∀ b ∈ fp, FpOk X pins H' b) ∧ R J H'
def WIX (X : Cx) (tg iter : Expr) : TI := fun σ H R => ∀ pins s, Inv X pins σ H s → wpAny (model X.prog X.w) X.A (eval iter X.env) (fun v s1 => wpAny (model X.prog X.w) X.A (pyIter v) (PIX X pins σ tg R) X.xe s1) X.xe s
structure QIX (X : Cx) (tg iter : Expr) (t : DI) : Prop where
  run : ∀ ρ G R xq σ H, t ρ G R xq → RepS X.K H σ ρ → Sim X.K G H → Tk X σ G H xq → WIX X tg iter σ H (LiftI X.K G H R)
section
variable {X : Cx}
theorem hotAt {pins : List (Addr × Obj)} {σ : L2.St} {H : Hp} {s : Shared} (I : Inv X pins σ H s) (h : HotH X.A H) : ∃ a, _root_.HotX.HotAt X.A a s.heap ∧ ∀ b, H b = none → a ≠ b := by
  obtain ⟨a, oe, h1, h2, vs, h3, h4⟩ := h
  exact ⟨a, ⟨h1, oe, vs, ext_at I h2, h3, h4⟩, fun b n e => by rw [← e, h2] at n; cases n⟩
theorem turnX_range {P : Program} {w : World} {K : PySem.W.Frag} {tg : Expr} (it : Addr) (lo : Int) (n : Nat) : TurnX P w K tg (Itr lo n) [it] it (fun i h => IsRangeIter h it (lo + (i : Int) * 1) ((n : Int) - (i : Int)) 1) := by
  have T := L2H.turn_rangeH (P := P) (w := w) (K := K) (tg := tg) it lo n
  refine ⟨T.mem, T.obj, T.keep, ?_, ?_, T.self⟩
  · intro X hP hw hK i pins s σ H E I hf st hg
    subst hP hw hK
    obtain ⟨f0, f1, f2, f3, f4, f5⟩ := hf it (by simp)
    have hlt : i < n := hg
    refine wpAny_pyNext_range_item st (by omega) fun h' st' sb => ?_
    have e1 : lo + ((i : Nat) : Int) * 1 + 1 = lo + ((i + 1 : Nat) : Int) * 1 := by omega
    have e2 : (n : Int) - ((i : Nat) : Int) - 1 = (n : Int) - ((i + 1 : Nat) : Int) := by omega
    rw [e1, e2] at st'
    have I1 : Inv X pins σ H { s with heap := h', toks := s.toks + 1 } := I.turned (fun b o hb e => (sb.2 b hb).trans e) f0 f1 f3 f4 f5
    refine ⟨_, rfl, go_of (s := { s with heap := h', toks := s.toks + 1 }) (n := "range_iterator") st' rfl rfl (by decide) ⟨.int (lo + i), H, I1, ⟨s.toks, by rw [Int.mul_one]⟩, ⟨rfl, rfl⟩, st', fun b hb => (hf b hb).1⟩⟩
  · intro X hP hw hK i pins s σ H E I hot hf st hg
    subst hP hw hK
    obtain ⟨f0, f1, f2, f3, f4, f5⟩ := hf it (by simp)
    obtain ⟨x1, h1, _⟩ := hotAt I hot
    have hle : n ≤ i := hg
    exact _root_.HotX.pyNext_range_end_hot h1 st (by omega) fun h' eb => ⟨rfl, I.turned (t' := s.toks) (fun b o _ e => eb b o e) f0 f1 f3 f4 f5⟩
theorem turnX_zip {P : Program} {w : World} {K : PySem.W.Frag} {elts : List Expr} {kk : Nat} {tpos : Pos} {a b z TI TO i1 i2 : Addr} (D : ZipApart z TI TO i1 i2 a b) :
    TurnX P w K (.Tuple elts kk tpos) (Itz K a b) [z, TI, TO, i1, i2] z (fun i h => IsZip h z TI TO .none ∧ IsPair h TI (.ref i1) (.ref i2) ∧ (∃ x y, IsPair h TO x y) ∧ h.IsListIter i1 a i ∧ h.IsListIter i2 b i) := by
  have T := turn_zip (P := P) (w := w) (K := K) (elts := elts) (kk := kk) (tpos := tpos) D
  refine ⟨T.mem, T.obj, T.keep, ?_, ?_, T.self⟩
  · intro X hP hw hK i pins s σ H E I hf st hg
    subst hP hw hK
    obtain ⟨hz, hTI, ⟨x0, y0, hTO⟩, h1, h2⟩ := st
    obtain ⟨xs, ys, x, y, hqx, hqy, hx, hy⟩ := hg
    obtain ⟨its, rv, p, _⟩ := I.list hqx
    obtain ⟨its2, rv2, p2, _⟩ := I.list hqy
    obtain ⟨u, hu, ru⟩ := rv.get hx
    obtain ⟨u2, hu2, ru2⟩ := rv2.get hy
    have lz : z < s.heap.objs.size := Heap.lt_size hz
    have all : ∀ c, c ∈ [z, TI, TO, i1, i2] → c < s.heap.objs.size := fun c hc => by
      obtain ⟨o, ho, _⟩ := T.obj i s.heap ⟨hz, hTI, ⟨x0, y0, hTO⟩, h1, h2⟩ c hc
      exact Heap.lt_size ho
    refine wpAny_pyNext_zip_item D hz hTI hTO h1 h2 p.isList p2.isList (x := u) (y := u2) (by simpa using hu) (by simpa using hu2) ?_
    intro h' z' TO' h1' h2' hT hsz hk
    refine ⟨_, rfl, wpAny_letOwnedTupleGo_zip (s := { s with heap := h' }) z' ?_⟩
    intro h'' z'' sb
    have hT2 := (sb.2 _ (Nat.ne_of_gt lz)).trans hT
    have new : ObjOk X.prog X.w (upd H s.heap.objs.size (.tup [x, y])) h'' s.heap.objs.size (.tup [x, y]) := ⟨(by decide : 2 ≤ sizeLine), [u, u2], .cons ru (.cons ru2 .nil), ⟨_, hT2, rfl, _, rfl⟩⟩
    have kp : ∀ c o, c ∉ [z, TI, TO, i1, i2] → s.heap.get? c = some o → h''.get? c = some o := fun c o hb q => by
      have n : c ≠ z ∧ c ≠ TI ∧ c ≠ TO ∧ c ≠ i1 ∧ c ≠ i2 := by simpa using hb
      exact (sb.2 c n.1).trans (hk c o n.1 n.2.2.1 n.2.2.2.1 n.2.2.2.2 q)
    have I1 : Inv X pins σ (upd H s.heap.objs.size (.tup [x, y])) { s with heap := h'' } := I.turnedNew (t' := s.toks) (ch := [z, TI, TO, i1, i2]) kp hf (Nat.le_refl _) new
    refine ⟨.ref s.heap.objs.size, _, I1, rfl, ⟨_, x, y, rfl, I.hok.fresh (Nat.le_refl _), rfl, ?_, ?_⟩, ⟨z'', (sb.2 _ D.TIz).trans (hk _ _ D.TIz D.TITO D.TIi1 D.TIi2 hTI), ⟨u, u2, (sb.2 _ D.TOz).trans TO'⟩, h1'.at fun o q => (sb.2 _ D.i1z).trans q, h2'.at fun o q => (sb.2 _ D.i2z).trans q⟩, ?_⟩
    · intro l hl
      rw [I.list_inj hl hqx]
      exact hx
    · intro l hl
      rw [I.list_inj hl hqy]
      exact hy
    · intro c hc
      rw [upd_ne (Nat.ne_of_lt (all c hc))]
      exact (hf c hc).1
  · intro X hP hw hK i pins s σ H E I hot hf st hg
    subst hP hw hK
    obtain ⟨hz, hTI, ⟨x0, y0, hTO⟩, h1, h2⟩ := st
    obtain ⟨xs, ys, hqx, hqy, hend⟩ := hg
    obtain ⟨its, rv, p, _⟩ := I.list hqx
    obtain ⟨its2, rv2, p2, _⟩ := I.list hqy
    have l1 := rv.length
    have l2 := rv2.length
    have he : its.toArray[i]? = none ∨ its2.toArray[i]? = none := by
      rcases hend with q | q
      · left; simp; omega
      · right; simp; omega
    obtain ⟨x1, ha, hne⟩ := hotAt I hot
    have nx : x1 ≠ z ∧ x1 ≠ TO ∧ x1 ≠ i1 ∧ x1 ≠ i2 := ⟨hne z (hf z (by simp)).1, hne TO (hf TO (by simp)).1, hne i1 (hf i1 (by simp)).1, hne i2 (hf i2 (by simp)).1⟩
    refine zipEnd_hot ha nx D hz hTI hTO h1 h2 p.isList p2.isList he fun h' hk => ⟨rfl, I.turnedL (t' := s.toks) (ch := [z, TI, TO, i1, i2]) (fun c o hb q => ?_) hf⟩
    have n : c ≠ z ∧ c ≠ TI ∧ c ≠ TO ∧ c ≠ i1 ∧ c ≠ i2 := by simpa using hb
    exact hk c o n.1 n.2.2.1 n.2.2.2.1 n.2.2.2.2 q
end
end DL
namespace DL
open PySem PySem.Spec PyProof.Rows L2 RZ
section
variable {X : Cx}
/-- the block's loop where an exception is handled; as HandS.Comp has it for calm contexts -/
theorem lcX_core {pins : List (Addr × Obj)} {s : Shared} {σ : L2.St} {H : Hp} {Q : VK} {elt tg iter : Expr} {ifs : List Expr} {scope : Scope} {own : List (Str × Nat)} {pos pos' : Pos} {use : Option (Value → Sem Unit)} {Qf : Value → Shared → Prop}
    (hN : X.N.Nodup) (I : Inv X pins σ H s) (ok : BlkOk X.N X.env.scope scope own) (hs : ∀ x, foldedSetIterable iter X.env x = pure x)
    (h : WIX X tg iter σ H fun J H1 => HotH X.A H1 ∧ ∀ Dw, H1 Dw = none → ∃ W : Nat → Nat → Hp → Prop, (∀ i m H2, W i m H2 → TupExt X.K H1 H2) ∧ (∃ m, W 0 m (upd H1 Dw (.lst []))) ∧ ∀ i m H2, W i m H2 →
      (J.stop i H2 ∧ Q (.ref Dw) H2) ∨ (J.go i H2 ∧ ∃ Nx : Hp → Prop, (∀ H3, Nx H3 → ∃ m', m' < m ∧ W (i + 1) m' H3) ∧ ∀ x H3, J.yld i H2 x H3 → BG X scope tg x (L2.wipe σ (own.map (·.2))) H3 fun σ2 H4 => L2.wipe σ2 (own.map (·.2)) = L2.wipe σ (own.map (·.2)) ∧ BT X scope ifs σ2 H4 fun b H5 =>
        if b = true then BE X scope elt σ2 H5 fun y H6 => ∃ acc, H6 Dw = some (.lst acc) ∧ acc.length < sizeLine ∧ Nx (upd H6 Dw (.lst (acc ++ [y]))) else Nx H5))
    (fin : ∀ Dw C s' m H', Inv X pins σ H' s' → Q (.ref Dw) H' → s'.heap.Ns C m → FpOk X pins H' C → compPost (model X.prog X.w) X.A X.xe use Qf (.ref Dw) C (.ok .next) s') :
    wpAny (model X.prog X.w) X.A (comprehension (.ListComp elt [⟨tg, iter, ifs, 0⟩] scope pos) scope X.env pos' (newList []) false (eval iter X.env) use) Qf X.xe s := by
  have hfree : ∀ y ∈ scope.names, y.2 = .free → ∃ c, X.env.cells.lookup y.1 = some c := fun y hy e => (ok.free y hy e).elim (fun k => I.ok.has _ (.inl k)) fun k => I.ok.has _ (.inr k)
  refine wpAny_comprehension_free (use := use) rfl hs (closure_ok hfree) ok.kind (fun y hy e => by rw [ok.uniq y hy, e]) (thn (h pins s I) fun xv s1 hx => thn hx ?_)
  rintro itv s2 ⟨it, fp, tn, J, H2, rfl, I2, T, st2, f2, hot2, q⟩
  refine wpAny_newObj_type (newEnv_comp ?_) (by show 0 ≤ sizeLine; decide)
  generalize hD : s2.heap.objs.size = Dw
  have hDn : H2 Dw = none := I2.hok.fresh (Nat.le_of_eq hD)
  obtain ⟨W, wt, ⟨m0, w0⟩, turn⟩ := q Dw hDn
  generalize hs3 : ({ s2 with heap := s2.heap.push { cls := .type "list", data := .seq ([] : List Value).toArray } } : Shared) = s3
  have h3 : s3.heap = s2.heap.push { cls := .type "list", data := .seq ([] : List Value).toArray } := by rw [← hs3]
  have I3 : Inv X pins σ (upd H2 Dw (.lst [])) s3 := by
    rw [← hs3]
    refine I2.laid (t' := s2.toks) (fun b o e => Heap.get?_push_of_some _ e) (Nat.le_of_eq hD) ⟨Nat.zero_le _, [], 0, .nil, ?_⟩
    rw [← hD]
    exact Heap.get?_push_size _ rfl
  have f3 : ∀ b ∈ fp, FpOk X pins (upd H2 Dw (.lst [])) b ∧ b < s3.heap.objs.size := by
    intro b hb
    obtain ⟨o, e, _⟩ := T.obj _ _ st2 b hb
    have hlt := Heap.lt_size e
    refine ⟨⟨?_, (f2 b hb).2⟩, by rw [h3, Heap.size_push]; exact Nat.lt_succ_of_lt hlt⟩
    rw [upd_ne (by rw [← hD]; exact Nat.ne_of_lt hlt)]
    exact (f2 b hb).1
  have st3 : tn 0 s3.heap := T.keep _ _ _ st2 fun b _ o e => by rw [h3]; exact Heap.get?_push_of_some _ e
  have I4 := block_start I3 ok hN f3
  show codeAny _ _ (.compStart (.ListComp elt [⟨tg, iter, ifs, 0⟩] scope pos) 0 (.ref it) (.ref Dw) (compEnvC scope (cellsFrom (s3.heap.objs.size + 1) scope.names (cloFrom X.env.cells scope.names [])) s3.heap.objs.size X.env)) (compPost (model X.prog X.w) X.A X.xe use Qf (.ref Dw) s3.heap.objs.size) { s3 with heap := pushCells (s3.heap.push { cls := .type "dict", data := .dict #[] }) scope.names }
  have nfp : ∀ b ∈ fp, (upd H2 Dw (.lst [])) b = none := fun b hb => (f3 b hb).1.1
  have hbk : ∀ H5, Blk X scope (X.blk s3 H5 scope (compEnvC scope (cellsFrom (s3.heap.objs.size + 1) scope.names (cloFrom X.env.cells scope.names [])) s3.heap.objs.size X.env) fp) := fun H5 => ⟨s3, H5, _, _, fp, rfl⟩
  generalize hce : compEnvC scope (cellsFrom (s3.heap.objs.size + 1) scope.names (cloFrom X.env.cells scope.names [])) s3.heap.objs.size X.env = ce at I4 hbk ⊢
  have cL : ce.locals = s3.heap.objs.size := by subst hce; rfl
  generalize hH3 : upd H2 Dw (.lst []) = H3 at I3 I4 w0 nfp f3
  have hY : Blk X scope (X.blk s3 H3 scope ce fp) := hbk H3
  generalize hs4 : ({ s3 with heap := pushCells (s3.heap.push { cls := .type "dict", data := .dict #[] }) scope.names } : Shared) = s4 at I4 ⊢
  have st4 : tn 0 s4.heap := T.keep _ _ _ st3 fun b _ o e => by rw [← hs4]; exact pushCells_keeps _ _ _ _ (Heap.get?_push_of_some _ e)
  have stat : ∀ {σ' : L2.St} {H' : Hp} {s' : Shared}, Inv (X.blk s3 H3 scope ce fp) [] σ' H' s' → (∀ b ∈ fp, H' b = none) → ∀ b ∈ fp, FpOk (X.blk s3 H3 scope ce fp) [] H' b := fun I' hn b hb =>
    ⟨hn b hb, (I'.ok.exf b hb).1, I'.ok.exfs b hb, .inl hb, fun x c e => (I'.ok.exf b hb).2 x c e, fun p hp => absurd (show p ∈ ([] : List (Addr × Obj)) ++ [] from hp) (by simp)⟩
  have loop : codeAny (model X.prog X.w) X.A (.compLoop (.ListComp elt [⟨tg, iter, ifs, 0⟩] scope pos) 0 (.ref it) (.ref Dw) ce) (compPost (model X.prog X.w) X.A X.xe use Qf (.ref Dw) s3.heap.objs.size) s4 := by
    refine compLoop_any (fun n s' => ∃ i H', Inv (X.blk s3 H3 scope ce fp) [] (L2.wipe σ (own.map (·.2))) H' s' ∧ tn i s'.heap ∧ (∀ b ∈ fp, H' b = none) ∧ W i n H') ?_ m0 ⟨0, H3, I4, st4, nfp, w0⟩
    rintro n s5 ⟨i, H5, I5, st5, n5, w5⟩
    have hot5 : HotH X.A H5 := hot2.mono (wt i n H5 w5)
    rcases turn i n H5 w5 with ⟨stop, qq⟩ | ⟨go, Nx, hNx, step⟩
    · refine thnF (T.done (X.blk s3 H3 scope ce fp) rfl rfl rfl i [] s5 _ H5 (fun _ _ => False) I5 hot5 (stat I5 n5) st5 stop) ?_
      rintro r s6 ⟨rfl, I6⟩
      have I7 : Inv X pins σ H5 s6 := I3.call' (ch := fp) I6.os I6.base I6.hok I6.bare fun b hb => ⟨(f3 b hb).1.2.2.2.1, (f3 b hb).1.2.1, (f3 b hb).1.2.2.2.2.1, (f3 b hb).1.2.2.2.2.2⟩
      have nC : H5 s3.heap.objs.size = none := cL ▸ I6.free
      obtain ⟨m, hn, _⟩ := I6.loc
      have hn : s6.heap.Ns ce.locals m := hn
      rw [cL] at hn
      exact fin Dw s3.heap.objs.size s6 m H5 I7 qq hn (I3.fpOk (Nat.le_refl _) nC)
    · refine thnF (T.item (X.blk s3 H3 scope ce fp) rfl rfl rfl i [] s5 _ H5 (fun _ _ => False) I5 (stat I5 n5) st5 go) ?_
      rintro r s6 ⟨u, rfl, h6⟩
      refine thnF h6 ?_
      rintro _ s7 ⟨x, H7, I7, r7, y7, st7, n7⟩
      have I7' := I7.pinned (stat I7 n7) (T.obj _ _ st7)
      refine thnF (step x H7 y7 _ hY _ s7 u I7' r7) ?_
      rintro _ s8 ⟨σ8, H8, I8, hw8, q8⟩
      refine thnF (q8 _ hY _ s8 I8) ?_
      rintro b s9 ⟨H9, I9, q9⟩
      have again : ∀ {s' : Shared} {H' : Hp}, Inv (X.blk s3 H3 scope ce fp) ([] ++ pinsAt fp s7.heap) σ8 H' s' → Nx H' → ∃ m, m < n ∧ ∃ i H', Inv (X.blk s3 H3 scope ce fp) [] (L2.wipe σ (own.map (·.2))) H' s' ∧ tn i s'.heap ∧ (∀ b ∈ fp, H' b = none) ∧ W i m H' := by
        intro s' H' I' nx
        obtain ⟨m', hm, w'⟩ := hNx H' nx
        have pin' : ∀ b ∈ fp, ∀ o, s7.heap.get? b = some o → s'.heap.get? b = some o ∧ H' b = none := fun b hb o e =>
          ⟨(I'.pin (b, o) (List.mem_append_right _ (List.mem_append_right _ (mem_pinsAt hb e)))).1, (I'.pin (b, o) (List.mem_append_right _ (List.mem_append_right _ (mem_pinsAt hb e)))).2.1⟩
        have hl : (L2.wipe σ (own.map (·.2))).length = σ8.length := by rw [← hw8, wipe_length]
        refine ⟨m', hm, i + 1, H', (I'.unpinned (pins := [])).weak hl (fun j v e => ?_), T.keep _ _ _ st7 fun b hb o e => (pin' b hb o e).1, fun b hb => ?_, w'⟩
        · rw [← hw8] at e
          exact (wipe_some e).1
        · obtain ⟨o, e, _⟩ := T.obj _ _ st7 b hb
          exact (pin' b hb o e).2
      cases b with
      | false =>
        simp only [Bool.false_eq_true, if_false] at q9 ⊢
        exact again I9 q9
      | true =>
        simp only [if_true] at q9 ⊢
        refine thnF (q9 _ hY _ s9 I9) ?_
        rintro z s10 ⟨yv, H10, I10, r10, acc, hD10, hz10, nx⟩
        exact app_ok (X := X.blk s3 H3 scope ce fp) I10 hD10 hz10 r10 fun s11 I11 => again I11 nx
  exact codeAny_compStart_list loop (T.self X.A 0 _ _ _ st4 loop)
variable {elt tg iter e a b : Expr} {ifs es : List Expr} {scope : Scope} {own : List (Str × Nat)} {wi : DI} {g : DG} {tt : DT} {te ta tb : DE} {tas : DA} {S : List Nat} {p pos : Pos}
/-- behind the iterator, by value -/
theorem lcX_ (hi : QIX X tg iter wi) (hcm : X.calm = false) (hg : ∀ Y, Blk X scope Y → QG Y tg S g) (ht : ∀ Y, Blk X scope Y → QTs Y ifs tt) (he : ∀ Y, Blk X scope Y → QE Y elt te) (hS : ∀ j ∈ S, j ∈ own.map (·.2))
    {ρ : Ev} {G : Sto} {fin : List D → Sto → Prop} {R : VK} {xq : XQ} {σ : L2.St} {H : Hp} (h : dLcF wi g tt te (own.map (·.2)) ρ G fin xq) (rs : RepS X.K H σ ρ) (s : Sim X.K G H) (tk : Tk X σ G H xq)
    (hR : ∀ Dw acc vs G' H2, fin acc G' → H2 Dw = some (.lst vs) → Reps X.K H2 vs acc → G' Dw = none → Sim X.K G' H2 → Ext X.K G H G' H2 → (∀ o, H Dw = some o → (∀ ps, o ≠ .tbl ps) → G Dw = none → False) → R (.ref Dw) H2) :
    WIX X tg iter σ H fun J H1 => HotH X.A H1 ∧ ∀ Dw, H1 Dw = none → ∃ W : Nat → Nat → Hp → Prop, (∀ i m H2, W i m H2 → TupExt X.K H1 H2) ∧ (∃ m, W 0 m (upd H1 Dw (.lst []))) ∧ ∀ i m H2, W i m H2 →
      (J.stop i H2 ∧ R (.ref Dw) H2) ∨ (J.go i H2 ∧ ∃ Nx : Hp → Prop, (∀ H3, Nx H3 → ∃ m', m' < m ∧ W (i + 1) m' H3) ∧ ∀ x H3, J.yld i H2 x H3 → BG X scope tg x (L2.wipe σ (own.map (·.2))) H3 fun σ2 H4 => L2.wipe σ2 (own.map (·.2)) = L2.wipe σ (own.map (·.2)) ∧ BT X scope ifs σ2 H4 fun b H5 =>
        if b = true then BE X scope elt σ2 H5 fun y H6 => ∃ acc, H6 Dw = some (.lst acc) ∧ acc.length < sizeLine ∧ Nx (upd H6 Dw (.lst (acc ++ [y]))) else Nx H5) := by
  refine fun pins s0 I => thn (hi.run ρ G _ _ σ H h rs s tk pins s0 I) fun v s1 h1 => thn h1 fun itv s2 h2 => ?_
  obtain ⟨it, fp, tn, J, H', x1, x2, x3, x4, x5, items, keep, G1, IR, sm, e1, q⟩ := h2
  rw [lcS_eq] at q
  exact ⟨it, fp, tn, J, H', x1, x2, x3, x4, x5, (tk.hot hcm).mono e1.tup, lc_it hg ht he hS IR sm e1 q rs tk.hot hR⟩
theorem qe_lcX (hcm : X.calm = false) (hN : X.N.Nodup) (hi : QIX X tg iter wi) (ok : BlkOk X.N X.env.scope scope own) (hg : ∀ Y, Blk X scope Y → QG Y tg S g) (ht : ∀ Y, Blk X scope Y → QTs Y ifs tt) (he : ∀ Y, Blk X scope Y → QE Y elt te) (hS : ∀ j ∈ S, j ∈ own.map (·.2)) (hs : noSet iter = true) :
    QE X (.ListComp elt [⟨tg, iter, ifs, 0⟩] scope pos) (dLcV wi g tt te (own.map (·.2))) := by
  refine ⟨fun ρ G Q xq σ H h rs s tk => WE.lock fun pins s0 I => ?_⟩
  rw [eval_ListComp]
  have m := lcX_ hi hcm hg ht he hS (R := fun v H' => ∃ p vs, v = .ref p ∧ H' p = some (.lst vs) ∧ ∀ od, Lift X.K G H Q (.ref p) (upd H' p (.frz od (.lst vs)))) h rs s tk fun Dw acc vs G' H2 a b c d e f g => ⟨Dw, vs, rfl, b, fun od => lc_lock a b c d e f g⟩
  refine lcX_core (Q := fun v H' => ∃ p vs, v = .ref p ∧ H' p = some (.lst vs) ∧ ∀ od, Lift X.K G H Q (.ref p) (upd H' p (.frz od (.lst vs)))) hN I ok (folded_no hs) m ?_
  intro Dw C s' m H' I' q hn f
  obtain ⟨f0, f1, f2, f3, f4, f5⟩ := f
  exact ⟨m, hn, fun h'' sb => ⟨.ref Dw, H', I'.turned (t' := s'.toks) (fun b o hb e => (sb.2 b hb).trans e) f0 f1 f3 f4 f5, rfl, q⟩⟩
/-! what is walked there -/
theorem rngX_it {pins : List (Addr × Obj)} {σ : L2.St} {H : Hp} {s : Shared} {R : It → Hp → Prop} {E : Value → Shared → Prop} {hi : Int} {t u v : Tok} {tk : Nat} (I : Inv X pins σ H s) (h3 : -(2 ^ 62) ≤ hi) (h4 : hi < 2 ^ 62) (q : R (Itr 0 (hi - 0).toNat) H) :
    wpAny (model X.prog X.w) X.A (pyIter (.ref s.heap.objs.size)) (PIX X pins σ tg R) E { s with heap := s.heap.push { cls := .type "range", data := .fields #[.int 0 t, .int hi u, .int 1 v] }, toks := tk } := by
  refine wpAny_pyIter_range (IsRange.new ..) (small_one (by decide) (by decide) h3 h4) ?_
  generalize hh : s.heap.push { cls := .type "range", data := .fields #[.int 0 t, .int hi u, .int 1 v] } = h1
  have I1 : Inv X pins σ H { s with heap := h1, toks := tk } := I.kept fun b o e => by rw [← hh]; exact Heap.get?_push_of_some _ e
  refine ⟨h1.objs.size, [h1.objs.size], _, _, H, rfl, I1.kept (t' := tk) fun b o e => Heap.get?_push_of_some _ e, turnX_range _ 0 (hi - 0).toNat, ?_, fun b hb => ?_, q⟩
  · have e1 : (0 : Int) + ((0 : Nat) : Int) * 1 = 0 := by simp
    have e2 : (((hi - 0).toNat : Nat) : Int) - ((0 : Nat) : Int) = Builtin.Range.rangeSize 0 hi 1 := by rw [rangeSize_one]; split <;> omega
    show IsRangeIter _ _ ((0 : Int) + ((0 : Nat) : Int) * 1) ((((hi - 0).toNat : Nat) : Int) - ((0 : Nat) : Int)) 1
    rw [e1, e2]
    exact Heap.get?_push_size _ rfl
  · have e : b = h1.objs.size := List.mem_singleton.mp hb
    rw [e]
    exact I1.fpOk (Nat.le_refl _) (I1.hok.fresh (Nat.le_refl _))
theorem qix_rng1 (hg : Gl X "range") (hm : X.mg "range" = none) (ha : QA X [a] tas) (hn : noStar a = true) : QIX X tg (.Call (.Name "range" p) [a] [] pos) (dItA rng1 tas) := by
  refine ⟨fun ρ G R xq σ H h rs s tk pins s0 I => ?_⟩
  refine Call_ (ld_blt I hg hm boot_range (PyProof.Rows.callWith_type1 (thn ((ha.run ρ G _ xq σ H h rs s tk) pos pins s0 I) ?_) (starEach_cons hn) rfl))
  rintro us s1 ⟨vs, H1, I1, rv, ds, G1, r1, sm1, e1, q1⟩
  have q1 : rng1 ds G1 R := q1
  unfold rng1 at q1
  split at q1
  · obtain ⟨v, rfl, r2⟩ := r1.one
    cases r2
    obtain ⟨h1, h2, q⟩ := q1
    cases rv with
    | cons rr rn =>
      cases rn
      obtain ⟨t, rfl⟩ := rr
      exact call_range_1 (rngX_it I1 h1 h2 ⟨_, _, G1, it_range, sm1, e1, by simpa using q⟩)
  · exact q1.elim
def zpv (ds : List D) (G : Sto) (R : IQ) : Prop := match ds with
  | [.rl xs, .rl ys] => R (zipD xs ys) (fun _ => True) G
  | _ => False
theorem qix_zip {elts : List Expr} {kk : Nat} {tpos : Pos} (hg : Gl X "zip") (hm : X.mg "zip" = none) (ha : QA X [a, b] tas) (hn : noStar a = true) (hn2 : noStar b = true) : QIX X (.Tuple elts kk tpos) (.Call (.Name "zip" p) [a, b] [] pos) (dItA zpv tas) := by
  refine ⟨fun ρ G R xq σ H h rs s tk pins s0 I => ?_⟩
  refine Call_ (ld_blt I hg hm PyProof.Rows.boot_zip (PyProof.Rows.callWith_type1 (thn ((ha.run ρ G _ xq σ H h rs s tk) pos pins s0 I) ?_) (starEach_cons hn) (starEach_any (es := [b]) (by simp [hn2]) _)))
  rintro us s1 ⟨vs, H1, I1, rv, ds, G1, r1, sm1, e1, q1⟩
  have q1 : zpv ds G1 R := q1
  unfold zpv at q1
  split at q1
  · obtain ⟨v, u, rfl, ra, rb⟩ := r1.two
    cases ra with
    | rl h3 r3 =>
      cases rb with
      | rl h4 r4 =>
        cases rv with
        | cons w1 wr =>
          cases wr with
          | cons w2 wr =>
            cases wr
            cases w1
            cases w2
            rename_i aa oa va ab ob vb _ _
            obtain ⟨its, rv, p1, _⟩ := I1.list (frz_sq h3)
            obtain ⟨its2, rv2, p2, _⟩ := I1.list (frz_sq h4)
            refine call_zip_2 p1.isList p2.isList fun h' hz hTI hTO g1 g2 hsz hk => wpAny_pyIter_zip hz ?_
            have I2 : Inv X pins σ H1 { s1 with heap := h' } := I1.kept (t' := s1.toks) hk
            refine ⟨_, _, _, _, H1, rfl, I2, turnX_zip (PySem.W.ktu_apart s1.heap.objs.size _ _ p1.lt p2.lt), ⟨hz, hTI, ⟨_, _, hTO⟩, g1, g2⟩, fun c hcm => ?_, _, _, G1, it_zipV h3 r3 h4 r4, sm1, e1, q1⟩
            have hle : s1.heap.objs.size ≤ c := by
              rcases List.mem_cons.mp hcm with e | hcm
              · rw [e]; exact Nat.le_add_right _ _
              rcases List.mem_cons.mp hcm with e | hcm
              · rw [e]; exact Nat.le_add_right _ _
              rcases List.mem_cons.mp hcm with e | hcm
              · rw [e]; exact Nat.le_add_right _ _
              rcases List.mem_cons.mp hcm with e | hcm
              · rw [e]; exact Nat.le_refl _
              rcases List.mem_cons.mp hcm with e | hcm
              · rw [e]; exact Nat.le_add_right _ _
              · exact (List.not_mem_nil hcm).elim
            exact I1.fpOk hle (I1.hok.fresh hle)
  · exact q1.elim
/-- a tuple of targets -/
def gTpX (n : Nat) (u : DGs) : DG := fun d ρ G Q ex => match d with
  | .tup ds => ds.length = n ∧ u ds ρ G Q ex
  | _ => False
theorem qg_tupX {u : DGs} {k : Nat} (hcm : X.calm = false) (h : QGs X es S u) (hn : es.all noStar = true) : QG X (.Tuple es k pos) S (gTpX es.length u) := by
  refine ⟨fun d ρ G Q ex v σ H hq r rs s tk pins s0 w I rw0 => ?_⟩
  obtain ⟨hl, hf⟩ := assignEach_len (env := X.env) hn
  unfold gTpX at hq
  split at hq
  · cases r with
    | tup h1 r1 =>
      cases rw0
      obtain ⟨its, rv, ht, hz⟩ := I.tuple h1
      obtain ⟨hlen, q⟩ := hq
      obtain ⟨x1, hot, _⟩ := hotAt I (tk.hot hcm)
      rw [assign_Tuple]
      refine wpAny_bind (wpAny_standAt ?_)
      unfold unpack
      have hsz : (assignEach es X.env).length = its.toArray.size := by
        have := rv.length
        have := r1.length
        simp
        omega
      rw [hsz, hf]
      refine wpAny_bind (wpAny_holding (unpack_hot hot ht fun h' hx => ?_))
      have I1 : Inv X pins σ H { s0 with heap := h' } := I.kept (t' := s0.toks) fun b o e => hx b o (Nat.ne_of_lt (Heap.lt_size e)) e
      exact (h.run _ ρ G Q ex _ σ H q r1 rs s tk) pins _ _ I1 (by simpa using rv)
  · exact hq.elim
/-- y = [..], y a local, on one line -/
theorem qs_setLcX {i : Nat} {y : Str} {py spos : Pos} (hcm : X.calm = false) (hN : X.N.Nodup) (hy : X.N[i]? = some y) (hyl : X.env.scope.names.lookup y = some .local) (hsw : swapsWith (.ListComp elt [⟨tg, iter, ifs, 0⟩] scope pos) (some (.Name y py)) spos.line X.env = pure true)
    (hi : QIX X tg iter wi) (ok : BlkOk X.N X.env.scope scope own) (hg : ∀ Y, Blk X scope Y → QG Y tg S g) (ht : ∀ Y, Blk X scope Y → QTs Y ifs tt) (he : ∀ Y, Blk X scope Y → QE Y elt te) (hS : ∀ j ∈ S, j ∈ own.map (·.2)) (hs : noSet iter = true) :
    QS X (.Assign [.Name y py] (.ListComp elt [⟨tg, iter, ifs, 0⟩] scope pos) spos) (sAsg (dLcV wi g tt te (own.map (·.2))) (gNm i)) := by
  refine ⟨fun De ρ G σ H h rs s tk pins s0 I => ?_⟩
  rw [exec_Assign_Name_used _ _ _ _ hsw]
  refine wpAny_bind (wpAny_standAt (wpAny_bind ?_))
  show wpAny _ X.A (do let _ ← comprehension (.ListComp elt [⟨tg, iter, ifs, 0⟩] scope pos) scope X.env (firstIterPos [⟨tg, iter, ifs, 0⟩] pos) (newList []) false (eval iter X.env) (some (assign (.Name y py) X.env))) _ _ s0
  have m := lcX_ hi hcm hg ht he hS (R := fun v H' => ∃ p vs, v = .ref p ∧ H' p = some (.lst vs) ∧ ∀ od, Lift X.K G H (fun x G1 => De.nx (ρ.set i (some x)) G1) (.ref p) (upd H' p (.frz od (.lst vs)))) h rs s (tk.tk rs) fun Dw acc vs G' H2 a b c d e f g => ⟨Dw, vs, rfl, b, fun od => lc_lock (Q := fun x G1 => De.nx (ρ.set i (some x)) G1) a b c d e f g⟩
  refine wpAny_bind (thn (lcX_core (Q := fun v H' => ∃ p vs, v = .ref p ∧ H' p = some (.lst vs) ∧ ∀ od, Lift X.K G H (fun x G1 => De.nx (ρ.set i (some x)) G1) (.ref p) (upd H' p (.frz od (.lst vs)))) (Qf := fun _ s' => SP X pins (LiftS X.K G H De) .next s') hN I ok (folded_no hs) m ?_) fun _ s' hq => wpAny_pure (wpAny_pure hq))
  intro L C s' mm H' I' q hn f
  obtain ⟨p0, vs, ep, hp0, q⟩ := q
  cases ep
  show wpAny _ _ (assign (.Name y py) X.env (.ref L)) _ _ _
  refine wpAny_assign_Name (store_ok2 (v := V.ref L) I' hN hy (.inl hyl) rfl (fun s2 I2 ⟨aa, sb, ha⟩ => ?_) (.inr hyl))
  obtain ⟨f0, f1, f2, f3, f4, f5⟩ := f
  have haC : C ≠ aa := by
    rcases ha with z | z
    · rw [z]; exact f1
    · exact fun z2 => f4 y aa z z2.symm
  refine ⟨mm, hn.sameBut sb haC, fun h'' sb2 => ?_⟩
  have I3 : Inv X pins (σ.set i (some (.ref L))) H' { s2 with heap := h'' } := I2.turned (t' := s2.toks) (fun b o hb e => (sb2.2 b hb).trans e) f0 f1 f3 f4 f5
  obtain ⟨od, I4⟩ := I3.lock hp0 True.intro
  obtain ⟨d, G2, r2, s2', e2, q2⟩ := q od
  exact ⟨_, _, I4, _, G2, (rs.mono e2.tup).set i r2, s2', e2, q2⟩
end
end DL
namespace DL
open PySem PySem.Spec PyProof.Rows L2
/-! defs called where an exception is handled -/
structure FnT (P : Program) (w : World) (K : PySem.W.Frag) (mg : Str → Option Value) (base : Heap) (CX : CXT) (k : Nat) (f : Addr) (fd : FuncData) (ps : List Str) (sp : Sp) : Prop where
  len : ∀ vs H Q E, sp vs H Q E → vs.length = ps.length
  run : ∀ (A : Around) (outer : List PySem.Env) (s : Shared) (H : Hp) (args : Args) (us : List Value) (vs : List V) (Q : VK) (E : XK), L2H.RoomH k A → HotH A H → Env0 P w K mg base A outer s H → BindsTo s fd args (ps.zip us) → Vals vs us → sp vs H Q E →
    codeAny (model P w) A (.call (.ref f) args) (CR CX outer P w H s Q E) s
/-- a def that may be called there, with its promise -/
def HCal (X : Cx) (x : Str) (sp : DSp) : Prop := ∃ (k : Nat) (f : Addr) (fd : FuncData) (ps : List Str),
  FnT X.prog X.w X.K X.mg X.base (L2N.CX X.prog X.w) k f fd ps (liftSp X.K sp) ∧ L2H.RoomH k X.A ∧ X.mg x = some (.ref f) ∧ PySem.W.keepIn X.K (.ref f) = true ∧ Binds X.K fd ps []
section
variable {X : Cx} {e : Expr} {es : List Expr} {tas : DA} {p pos : Pos} {x : Str} {sp : DSp}
theorem run_fnT {k : Nat} {f : Addr} {fd : FuncData} {ps : List Str} {sp : Sp} {pins : List (Addr × Obj)} {σ : L2.St} {H : Hp} {s : Shared} {Q : VK} {us : List Value} {vs : List V} (F : FnT X.prog X.w X.K X.mg X.base (L2N.CX X.prog X.w) k f fd ps sp) (hr : L2H.RoomH k X.A) (hot : HotH X.A H) (hb : Binds X.K fd ps [])
    (I : Inv X pins σ H s) (r : Vals vs us) (h : sp vs H Q (fun cls d H' => XW X cls d σ H')) : wpAny (model X.prog X.w) X.A (call (.ref f) us) (EP X pins σ Q) X.xe s := by
  have hl : us.length = ps.length := by rw [← r.length]; exact F.len _ _ _ _ h
  have b := hb s us I.kIn (by rw [List.append_nil]; exact hl)
  rw [List.append_nil] at b
  refine wpAny_call (codeAny_mono (F.run X.A X.stack s H ⟨us, []⟩ us vs Q _ hr hot I.env0 b r h) fun r s' hq => ?_)
  cases r with
  | error e => exact passes_max pins H s e s' I hq
  | ok fl =>
    cases fl with
    | ret u => exact I.after hq
    | next => exact False.elim hq
    | brk => exact False.elim hq
    | cont => exact False.elim hq
theorem qe_fnX (hcm : X.calm = false) (c : HCal X x sp) (hg : Gl X x) (ha : QA X (e :: es) tas) (hd : (x == ("__debug__" : Str)) = false) (hn : (e :: es).all noStar = true) :
    QE X (.Call (.Name x p) (e :: es) [] pos) (dFn sp tas) := by
  obtain ⟨k, f, fd, ps, F, hr, hm, hk, hb⟩ := c
  rw [List.all_cons, Bool.and_eq_true] at hn
  refine ⟨fun ρ G Q xq σ H h rs s tk pins s0 I => ?_⟩
  refine wpAny_Call_Name_kw (ld_glob I hg hm ?_ hd)
  refine PySem.W.callWith_K (h₀ := X.base) I.ok.mod.kin hk (thn ((ha.run ρ G _ xq σ H h rs s tk) pos pins s0 I) ?_) (starEach_cons hn.1) (starEach_any hn.2 _)
  rintro us s1 ⟨vs, H1, I1, rv, ds, G1, r1, sm1, e1, q1⟩
  refine ⟨I1.kIn, run_fnT F hr ((tk.hot hcm).mono e1.tup) hb I1 rv ?_⟩
  exact ⟨ds, G1, Q, xq, r1, sm1, q1, fun v H' l => Lift.back e1 _ _ l, fun z cls d G' H' x1 x2 x3 x4 => tk.ex z cls d G' H' x1 x2 (e1.trans x3) x4⟩
/-! a def as a value, and a call of a local that holds one -/
theorem qe_fnv (hg : Gl X x) (hm : X.mg x = some (.ref (He.ga X.K x))) (hd : (x == ("__debug__" : Str)) = false) : QE X (.Name x pos) (dC (.fn x)) :=
  ⟨fun _ _ _ _ _ H h _ s _ => PE.we (pe_glob (v := .ref (He.ga X.K x)) hg hm rfl hd) (Lift.here (.fn x) s h)⟩
/-- the promises of the defs that the local may hold -/
def dCallL (i : Nat) (T : List (Str × DSp)) (t : DA) : DE := fun ρ G Q xq => ∃ x sp, ρ[i]? = some (some (.fn x)) ∧ T.lookup x = some sp ∧ t ρ G (fun ds G1 => sp ds G1 Q xq) xq
theorem qe_callL {i : Nat} {y : Str} {T : List (Str × DSp)} (hT : ∀ x sp, T.lookup x = some sp → Cal X x sp ∧ X.mg x = some (.ref (He.ga X.K x))) (hN : X.N[i]? = some y) (hv : Vis X.env.scope y) (hd : (y == ("__debug__" : Str)) = false) (hcd : (y == ("__classdict__" : Str)) = false)
    (ha : QA X (e :: es) tas) (hn : (e :: es).all noStar = true) : QE X (.Call (.Name y p) (e :: es) [] pos) (dCallL i T tas) := by
  rw [List.all_cons, Bool.and_eq_true] at hn
  refine ⟨fun ρ G Q xq σ H h rs s tk pins s0 I => ?_⟩
  obtain ⟨x, sp, hx, hl, h⟩ := h
  obtain ⟨⟨k, f, fd, ps, sp0, dd, dvs, dus, F, hr, hm, hk, hb, hv2, hdd, hsp⟩, hm2⟩ := hT x sp hl
  obtain ⟨v, e1, r1⟩ := rs.at_ i _ hx
  rw [hm2] at hm
  cases hm
  cases r1
  refine wpAny_Call_Name_kw (thn ((pe_var (pos := p) hN hv hd hcd).run pins s0 σ H (fun v H1 => v = .ref (He.ga X.K x) ∧ H1 = H) I ⟨_, e1, rfl, rfl⟩) ?_)
  rintro u s1 ⟨v, H1, I1, rr, rfl, rfl⟩
  cases rr
  refine PySem.W.callWith_K (h₀ := X.base) I1.ok.mod.kin hk (thn ((ha.run ρ G _ xq σ H1 h rs s tk) pos pins s1 I1) ?_) (starEach_cons hn.1) (starEach_any hn.2 _)
  rintro us s2 ⟨vs, H2, I2, rv, ds, G1, r1, sm1, e1, q1⟩
  refine ⟨I2.kIn, run_fnSD (E := fun σ cls d H' => XW X cls d σ H') F hr hb hv2 passes_max I2 rv ?_⟩
  exact ⟨ds ++ dd, G1, Q, xq, r1.append (hdd H2), sm1, hsp _ _ _ _ q1, fun v H' l => Lift.back e1 _ _ l, fun z cls d G' H' x1 x2 x3 x4 => tk.ex z cls d G' H' x1 x2 (e1.trans x3) x4⟩
end
end DL
namespace DL
open PySem PySem.Spec PyProof.Rows L2
section
variable {X : Cx} {e o : Expr} {es : List Expr} {to : DE} {tas : DA} {p apos cpos : Pos}
/-! tuples that are known to have no dict of their own: tuple(l), t.index(x) -/
theorem call_tuple_frz : CallR X (.type "tuple") (fun xs H Q => ∃ p ys, xs = [.ref p] ∧ SqL X.K H p ys ∧ ∀ l o, H l = none → o.dict = none → Q (.ref l) (upd H l (.frz o (.tup ys)))) := by
  intro pins s σ H xs us Q I r h
  obtain ⟨p, ys, rfl, hq, q⟩ := h
  obtain ⟨u, rfl, rx⟩ := vals1 r
  cases rx
  obtain ⟨its, r', pl, hz⟩ := I.list hq
  have hlen := r'.length
  refine call_tuple_list pl.isList (fun h' kp => ?_) (by simp only [List.size_toArray] <;> omega)
  have I1 : Inv X pins σ H { s with heap := h' } := I.kept (t' := s.toks) kp
  have I2 : Inv X pins σ (upd H h'.objs.size (.frz { cls := .type "tuple", data := .seq its.toArray } (.tup ys))) { s with heap := h'.push { cls := .type "tuple", data := .seq its.toArray } } :=
    I1.laid (t' := s.toks) (fun b o e => Heap.get?_push_of_some _ e) (Nat.le_refl _) (show ObjOk X.prog X.w _ _ _ (.frz _ (.tup ys)) from ⟨Heap.get?_push_size _ rfl, hz, its, r', IsTup.new _ _⟩)
  exact ⟨.ref h'.objs.size, _, I2, rfl, q _ _ (I1.hok.fresh (Nat.le_refl _)) rfl⟩
def tupnR : DRA := fun ds G Q => match ds with
  | [.rl ys] => Q (.nt ys) G
  | _ => False
theorem call_tupn : CallD X Bl.tuple.val tupnR := by
  intro ds G Q vs σ H h r s
  unfold tupnR at h
  split at h
  · obtain ⟨v, rfl, r1⟩ := r.one
    cases r1 with
    | rl h1 r2 =>
      refine CallR.wc call_tuple_frz ⟨_, _, rfl, frz_sq h1, fun l o hl hd => ?_⟩
      exact ⟨_, G, .nt upd_same hd (r2.mono (tup_new hl)), s.newT hl, .newT hl, h⟩
  · exact h.elim
def rTix (K : PySem.W.Frag) : V → List V → Hp → VK → Prop := fun x xs H Q => ∃ (p : Addr) (ts : List Str) (y : Str), x = .ref p ∧ xs = [.str y] ∧ SqT K H p (ts.map V.str) ∧ y ∈ ts ∧ Q (.int (ts.idxOf y : Nat)) H
theorem mt_tix : MtR X "tuple.index" (rTix X.K) := by
  intro pins s σ H x xs v us Q I rx rxs h
  obtain ⟨p, ts, y, rfl, rfl, hs, hy, q⟩ := h
  cases rx
  obtain ⟨u, rfl, ru⟩ := rxs.one
  obtain ⟨t, rfl⟩ := ru
  obtain ⟨its, rv, ht, hz⟩ := I.tuple hs
  exact SeqAt.tuple_index_strs (show s.heap.IsTuple p its.toArray from ht) (Vals.strs rv) hy ⟨.int (ts.idxOf y : Nat), H, I.tok _, ⟨_, rfl⟩, q⟩
def Fz (H : Hp) (x : V) : Prop := ∃ p ob vs, x = V.ref p ∧ H p = some (.frz ob (.tup vs)) ∧ ob.dict = none
theorem pe_tix {r : V → List V → Hp → VK → Prop} {tO : TE} {t : TA} (hm : MtR X "tuple.index" r) (ho : PE X o tO) (ha : PA X (e :: es) t)
    (hbase : attributeBase o "index" X.env (eval o X.env) = eval o X.env)
    (hfew : ((backTo cpos (starEach (e :: es) X.env)).all (fun x => !x.1) && (backToKw cpos (keywordEach [] X.env)).all (fun x => x.1.isSome)
      && decide ((e :: es).length + ([] : List Keyword).length + (if ([] : List Keyword).isEmpty then 0 else 1) < 30)) = true)
    (hline : (apos.endLine == cpos.line) = true) (hs : starEach (e :: es) X.env = (false, eval e X.env) :: starEach es X.env) (hplain : (backTo cpos (starEach es X.env)).any (·.1) = false) :
    PE X (.Call (.Attribute o "index" apos) (e :: es) [] cpos) (fun σ H Q => tO σ H fun x H1 => Fz H1 x ∧ t σ H1 fun xs H2 => r x xs H2 Q) := by
  refine ⟨fun pins s σ H Q I h => ?_⟩
  refine wpAny_Call_method_late hbase hfew hline rfl (thn (ho.run pins s σ H _ I h) fun v s1 ⟨x, H1, I1, r1, ty, q1⟩ => ?_)
  obtain ⟨p, ob, vs, rfl, hp, hd⟩ := ty
  cases r1
  obtain ⟨hg, _, its, _, o2, hg2, hc, _⟩ := I1.hok p _ hp
  rw [hg] at hg2
  cases hg2
  refine ⟨"tuple", "tuple.index", PySem.F.plainAttrs_tuple, PySem.F.slot_tuple_index, PySem.F.type_tuple_index, ⟨ob, hg, hc⟩, fun a e => by cases e; exact ⟨ob, hg, hd⟩, ?_⟩
  have hA := ha.run cpos pins s1 σ H1 _ I1 q1
  rw [hs] at hA ⊢
  refine Calls.callWith_builtin (by show (false || (backTo cpos (starEach es X.env)).any (·.1)) = false; rw [hplain] <;> rfl) (Calls.evalArgs_plain ?_)
  exact thn hA fun us s2 ⟨vs, H2, I2, r2, q2⟩ => hm pins s2 σ H2 (.ref p) vs _ us Q I2 rfl r2 q2
def dTix (to : DE) (tas : DA) : DE := fun ρ G Q xq => to ρ G (fun x G1 => ∃ ts : List Str, x = .nt (ts.map D.str) ∧ tas ρ G1 (fun ds G2 => ∃ y, ds = [.str y] ∧ y ∈ ts ∧ Q (.int (ts.idxOf y : Nat)) G2) xq) xq
theorem qe_tix (ho : QE X o to) (ha : QA X (e :: es) tas) (hb : baseOk o = true) (hn : (e :: es).all noStar = true) (hl : (e :: es).length < 30) (hline : (apos.endLine == cpos.line) = true) :
    QE X (.Call (.Attribute o "index" apos) (e :: es) [] cpos) (dTix to tas) := by
  refine ⟨fun ρ G Q xq σ H h rs s tk => ?_⟩
  have hn2 := hn
  rw [List.all_cons, Bool.and_eq_true] at hn2
  refine PE.we (pe_tix mt_max pe_max pa_max (base_ok hb) ?_ hline (starEach_cons hn2.1) (starEach_any hn2.2 _)) ?_
  · rw [starEach_all hn cpos]
    simp only [List.length_nil, List.isEmpty_nil, if_true, Nat.add_zero]
    rw [decide_eq_true hl]
    rfl
  · refine (ho.run ρ G _ xq σ H h rs s tk).imp fun v H1 ⟨x, G1, rx, s1, e1, ts, hx, q1⟩ => ?_
    subst hx
    cases rx with
    | nt hf hd r1 =>
      refine ⟨⟨_, _, _, rfl, hf, hd⟩, ?_⟩
      refine (ha.run ρ G1 _ xq σ H1 q1 (rs.mono e1.tup) s1 (tk.step e1)).imp fun vs H2 ⟨ds, G2, r2, s2, e2, y, hy, hm, q2⟩ => fun σ' => ?_
      subst hy
      obtain ⟨u, rfl, ru⟩ := r2.one
      cases ru
      have hf2 := e2.tup.d _ _ _ hf
      have r3 := r1.strs
      rw [r3] at hf2
      exact (MtR.wm mt_tix ⟨_, ts, y, rfl, rfl, .inl (.inr ⟨_, hf2⟩), hm, Lift.back (e1.trans e2) _ _ (Lift.here (.int _) s2 q2)⟩)
end
end DL
namespace DL
open PySem PySem.Spec PyProof.Rows L2
/-! a comprehension over the keys of a dict that an object's field holds: ints to ints -/
abbrev IxI := List (Int × Int)
def dkV (ns : IxI) : List (Key × V) := ns.map fun p => (.inl p.1, .int p.2)
def dkI (ns : IxI) : List (Key × D) := ns.map fun p => (.inl p.1, .int p.2)
theorem dk_of {K : PySem.W.Frag} {H : Hp} : ∀ {ns : IxI} {m : List (Key × V)}, RepKV K H m (dkI ns) → m = dkV ns
  | [], [], _ => rfl
  | p :: ns, (k, v) :: m, ⟨e, r, rr⟩ => by
    subst e
    cases r
    show _ :: _ = _ :: dkV ns
    rw [dk_of rr]
  | [], _ :: _, h => h.elim
  | _ :: _, [], h => h.elim
/-- the tuples stay -/
def KT (H H' : Hp) : Prop := ∀ b xs, H b = some (.tup xs) → H' b = some (.tup xs)
/-- all that stood stands yet, but at d -/
def UpBut (d : Addr) (H H' : Hp) : Prop := ∀ b o, b ≠ d → H b = some o → H' b = some o
section
variable {X : Cx} {elt tg o : Expr} {ifs : List Expr} {scope : Scope} {own : List (Str × Nat)} {C a d dx : Addr} {f : Str} {pos fpos : Pos} {i j : Nat}
theorem valV_dk {ns : IxI} (hn : (ns.map (·.1)).Nodup) {p : Int × Int} (hp : p ∈ ns) : valV (dkV ns) (.inl p.1) = some (.int p.2) := by
  unfold valV dkV
  induction ns with
  | nil => cases hp
  | cons q ns ih =>
    rw [List.map_cons, List.find?_cons]
    rw [List.map_cons, List.nodup_cons] at hn
    by_cases e : q.1 = p.1
    · have : q = p := by
        rcases List.mem_cons.mp hp with h | h
        · exact h.symm
        · exact (hn.1 (by rw [e]; exact List.mem_map.mpr ⟨p, h, rfl⟩)).elim
      subst this
      simp
    · have h2 : p ∈ ns := by
        rcases List.mem_cons.mp hp with h | h
        · exact (e (by rw [h])).elim
        · exact h
      have e2 : (Sum.inl q.1 : Key) ≠ Sum.inl p.1 := fun z => e (Sum.inl.inj z)
      simp only [e2, decide_false]
      exact ih hn.2 h2
theorem we_dkeys (hc : X.calm = true) (hN : X.N.Nodup) (ok : BlkOk X.N X.env.scope scope own) (how : own.map (·.2) = [j]) (hs0 : PE X o (tVar i)) (hb : baseOk o = true) (cl : Cls X.K C) (na : NoAttr X.K C f)
    (hg : ∀ Y, Blk X scope Y → PG Y tg (gName j)) (hs : noSet (.Attribute o f fpos) = true) {σ : L2.St} {H : Hp} {mf : List (Str × V)} {ns : IxI} (hσ : σ[i]? = some (some (.ref a))) (ha : H a = some (.ins C dx mf)) (hf : mf.lookup f = some (.ref d)) (hd : H d = some (.dK (dkV ns))) (hlen : ns.length < sizeLine)
    (B : Int × Int → Bool) (F : Int × Int → D)
    (stepT : ∀ Y, Blk X scope Y → ∀ p ∈ ns, ∀ H2 od, UpBut d H H2 → H2 d = some (.frz od (.dK (dkV ns))) → WTs Y ifs ((L2.wipe σ [j]).set j (some (.int p.1))) H2 (fun b H3 => H3 = H2 ∧ b = B p))
    (stepE : ∀ Y, Blk X scope Y → ∀ p ∈ ns, B p = true → ∀ H2 od, UpBut d H H2 → H2 d = some (.frz od (.dK (dkV ns))) → WE Y elt ((L2.wipe σ [j]).set j (some (.int p.1))) H2 (fun y H3 => (∀ b o, H2 b = some o → H3 b = some o) ∧ ∀ H4, KT H3 H4 → Rep X.K H4 y (F p))) :
    WE X (.ListComp elt [⟨tg, .Attribute o f fpos, ifs, 0⟩] scope pos) σ H (fun v H' => ∃ Dw vs, v = .ref Dw ∧ H Dw = none ∧ H' Dw = some (.lst vs) ∧ (∀ b o, H b = some o → H' b = some o) ∧ Reps X.K H' vs ((ns.filter B).map F)) := by
  refine PE.we (pe_lock (pe_lc (wi := iKeys (tFld X.K (tVar i) f)) (g := gName j) (tt := BT X scope ifs) (te := BE X scope elt) hc hN (pi_keys (pe_fld hs0 (base_ok hb))) ok (fun s H C cl fp => hg _ ⟨s, H, C, cl, fp, rfl⟩) pts_blk pe_blk (folded_no hs))) ?_
  refine ⟨d, _, hd, True.intro, fun od => ?_⟩
  have hne : a ≠ d := fun e => by
    subst e
    rw [ha] at hd
    cases hd
  refine ⟨.ref a, hσ, a, C, dx, mf, .ref d, rfl, by rw [upd_ne hne]; exact ha, cl, na, hf, d, od, rfl, .inl ⟨dkV ns, upd_same, fun Dw hD => ?_⟩⟩
  have hDd : Dw ≠ d := fun e => by
    subst e
    rw [upd_same] at hD
    cases hD
  have hDH : H Dw = none := by rw [upd_ne hDd] at hD; exact hD
  have hu0 : ∀ b o, b ≠ d → H b = some o → b ≠ Dw := fun b o _ h e => by
    subst e
    rw [hDH] at h
    cases h
  have lk : (dkV ns).length = ns.length := List.length_map _
  rw [how]
  refine L2.lc_it (walk_keys (d := d) (o := od) (kvs := dkV ns)) (fun n H2 => UpBut d H H2 ∧ H2 d = some (.frz od (.dK (dkV ns))) ∧ ∃ vs, H2 Dw = some (.lst vs) ∧ ∀ H4, KT H2 H4 → Reps X.K H4 vs (((ns.take n).filter B).map F)) ?_ (fun n H2 _ h => h.2.1) ?_ ?_
  · refine ⟨fun b o' hbd h => ?_, ?_, [], upd_same, fun _ _ => .nil⟩
    · rw [upd_ne (hu0 b o' hbd h), upd_ne hbd]
      exact h
    · rw [upd_ne (Ne.symm hDd), upd_same]
  · rintro n x H2 H3 hn ⟨up, hfd, vs, hv, hr⟩ ⟨rfl, k, v, hk, rfl⟩
    rw [lk] at hn
    obtain ⟨p, hp⟩ : ∃ p, ns[n]? = some p := ⟨_, List.getElem?_eq_getElem hn⟩
    have hk2 : (dkV ns)[n]? = some (.inl p.1, .int p.2) := by
      unfold dkV
      rw [List.getElem?_map, hp]
      rfl
    rw [hk2] at hk
    cases hk
    have hpm : p ∈ ns := List.mem_of_getElem? hp
    have et : ns.take (n + 1) = ns.take n ++ [p] := by rw [List.take_add_one, hp]; rfl
    show _ ∧ _
    refine ⟨?_, ?_⟩
    · apply List.ext_getElem?
      intro q
      rw [wipe_get, wipe_get, List.length_set, wipe_length]
      by_cases e : q ∈ [j] ∧ q < σ.length
      · rw [if_pos e, if_pos e]
      · rw [if_neg e, if_neg e]
        by_cases e1 : j = q
        · subst e1
          have hl : ¬ j < σ.length := fun z => e ⟨by simp, z⟩
          rw [List.getElem?_eq_none (by rw [List.length_set, wipe_length]; omega), List.getElem?_eq_none (by omega)]
        · rw [List.getElem?_set_ne e1, wipe_get, if_neg e]
    · intro Y hY
      refine (stepT Y hY p hpm H3 od up hfd).imp ?_
      rintro b H4 ⟨rfl, rfl⟩
      cases hb2 : B p with
      | false =>
        rw [if_neg (by simp)]
        refine ⟨up, hfd, vs, hv, fun H5 u5 => ?_⟩
        rw [et, List.filter_append, List.filter_cons, hb2, List.filter_nil]
        simpa using hr H5 u5
      | true =>
        rw [if_pos rfl]
        intro Y2 hY2
        refine (stepE Y2 hY2 p hpm hb2 H4 od up hfd).imp ?_
        rintro y H5 ⟨u5, ry⟩
        refine ⟨vs, u5 _ _ hv, ?_, ?_, ?_, vs ++ [y], upd_same, fun H6 u6 => ?_⟩
        · have hl := (hr H4 (fun _ _ h => h)).length
          rw [hl, List.length_map]
          have := List.length_filter_le B (ns.take n)
          have := List.length_take_le n ns
          rw [List.length_take] at *
          omega
        · intro b o' hbd h
          have h2 := hu0 b o' hbd h
          rw [upd_ne h2]
          exact u5 _ _ (up b o' hbd h)
        · rw [upd_ne (Ne.symm hDd)]
          exact u5 _ _ hfd
        · rw [et, List.filter_append, List.filter_cons, hb2, List.filter_nil, List.map_append]
          have kt : KT H5 H6 := fun b xs h => u6 _ _ (by
            rw [upd_ne (fun z => ?_)]
            · exact h
            · subst z
              rw [u5 _ _ hv] at h
              cases h)
          exact (hr H6 (fun b xs h => kt _ _ (u5 _ _ h))).append (.cons (ry H6 kt) .nil)
  · rintro H2 ⟨up, hfd, vs, hv, hr⟩
    refine ⟨hfd, Dw, vs, rfl, hDH, by rw [upd_ne hDd]; exact hv, fun b o' h => ?_, ?_⟩
    · by_cases e : b = d
      · subst e
        rw [upd_same, ← h, hd]
      · rw [upd_ne e]
        exact up b o' e h
    · rw [lk, List.take_length] at hr
      refine hr _ fun b xs h => ?_
      rw [upd_ne (fun z => ?_)]
      · exact h
      · subst z
        rw [hfd] at h
        cases h
/-- the end: the list by value -/
theorem dkeys_end {K : PySem.W.Frag} {G : Sto} {H H' : Hp} {Q : DQ} {Dw : Addr} {vs : List V} {ds : List D} (s : Sim K G H) (hD : H Dw = none) (hv : H' Dw = some (.lst vs)) (up : ∀ b o, H b = some o → H' b = some o) (r : Reps K H' vs ds) (q : Q (.rl ds) G) (od : Obj) : Lift K G H Q (.ref Dw) (upd H' Dw (.frz od (.lst vs))) := by
  have te : TupExt K H H' := ⟨fun a xs z => by
    rcases z with (z | ⟨u, z⟩) | z
    · exact .inl (.inl (up _ _ z))
    · exact .inl (.inr ⟨u, up _ _ z⟩)
    · exact .inr z, fun a xs z => by
    rcases z with ⟨u, z⟩ | z
    · exact .inl ⟨u, up _ _ z⟩
    · exact .inr z, fun a o u z => up _ _ z, fun a o z => up _ _ z, fun a o z => up _ _ z⟩
  refine lc_lock q hv r (s.free hD) (fun a c hac => ?_) ⟨te, fun a o z1 _ z2 => ⟨up _ _ z1, z2⟩⟩ (fun o z _ _ => by rw [hD] at z; cases z)
  obtain ⟨o, ho⟩ := (s a c hac).there
  exact (s a c hac).mono te (by rw [ho]; exact up _ _ ho)
theorem wipe_set {σ : L2.St} {j i : Nat} {v u : V} (h : σ[i]? = some (some v)) (hij : i ≠ j) : ((L2.wipe σ [j]).set j (some u))[i]? = some (some v) := by
  rw [List.getElem?_set_ne (Ne.symm hij), wipe_get, if_neg (fun z => hij (by simpa using z.1))]
  exact h
theorem wipe_self {σ : L2.St} {j : Nat} {u : V} (hj : j < σ.length) : ((L2.wipe σ [j]).set j (some u))[j]? = some (some u) := List.getElem?_set_self (by rw [wipe_length]; exact hj)
/-- [x for x in o.f if o.f[x] == y] -/
def dKby (C : Addr) (f : Str) (i l : Nat) : DE := fun ρ G Q _ => ∃ a dx fs d ns k, ρ[i]? = some (some (.ref a)) ∧ G a = some (.ins C dx fs) ∧ fs.lookup f = some (.ref d) ∧ G d = some (.dK (dkI ns)) ∧ (ns.map (·.1)).Nodup ∧ ns.length < sizeLine ∧ ρ[l]? = some (some (.int k)) ∧ Q (.rl ((ns.filter fun p => p.2 == k).map fun p => .int p.1)) G
/-- [(o.f[x], x) for x in o.f] -/
def dKinv (C : Addr) (f : Str) (i : Nat) : DE := fun ρ G Q _ => ∃ a dx fs d ns, ρ[i]? = some (some (.ref a)) ∧ G a = some (.ins C dx fs) ∧ fs.lookup f = some (.ref d) ∧ G d = some (.dK (dkI ns)) ∧ (ns.map (·.1)).Nodup ∧ ns.length < sizeLine ∧ Q (.rl (ns.map fun p => .tup [.int p.2, .int p.1])) G
variable {x0 x1 o2 y1 : Expr} {fp2 sp cp tp : Pos} {tk l : Nat}
theorem qe_kby (hc : X.calm = true) (hu : X.A.units + 64 < cLine) (hN : X.N.Nodup) (ok : BlkOk X.N X.env.scope scope own) (how : own.map (·.2) = [j]) (hs0 : PE X o (tVar i)) (hb : baseOk o = true) (hb2 : baseOk o2 = true) (cl : Cls X.K C) (na : NoAttr X.K C f)
    (hg : ∀ Y, Blk X scope Y → PG Y tg (gName j)) (hs : noSet (.Attribute o f fpos) = true) (hsY : ∀ Y, Blk X scope Y → PE Y o2 (tVar i)) (hx0 : ∀ Y, Blk X scope Y → PE Y x0 (tVar j)) (hx1 : ∀ Y, Blk X scope Y → PE Y x1 (tVar j)) (hy : ∀ Y, Blk X scope Y → PE Y y1 (tVar l))
    (hij : i ≠ j) (hlj : l ≠ j) (hj : j < X.N.length) (hp : PlainIx x1) (hm : behindInMarks .Eq y1 = false) :
    QE X (.ListComp x0 [⟨tg, .Attribute o f fpos, [.Compare (.Subscript (.Attribute o2 f fp2) x1 sp) [.Eq] [y1] cp], 0⟩] scope pos) (dKby C f i l) := by
  refine ⟨fun ρ G Q xq σ H h rs s tk => ?_⟩
  obtain ⟨a, dx, fs, d, ns, k, e1, g1, g2, g3, nd, hlen, e2, q⟩ := h
  obtain ⟨v, σ1, r1⟩ := rs.at_ i _ e1
  cases r1
  obtain ⟨w, σ2, r2⟩ := rs.at_ l _ e2
  cases r2
  obtain ⟨mf, ha, rm⟩ := ins_at s g1
  obtain ⟨u, hf, ru⟩ := kv_lookup rm g2
  cases ru
  obtain ⟨m, hd, rd⟩ := s d _ g3
  rw [dk_of rd] at hd
  refine WE.lock (fun pins s0 I => ?_)
  have hjl : j < σ.length := by rw [I.len]; exact hj
  revert pins s0
  show WE X _ σ H _
  refine (we_dkeys (B := fun p => p.2 == k) (F := fun p => .int p.1) hc hN ok how hs0 hb cl na hg hs σ1 ha hf hd hlen (fun Y hY p hp2 H2 od up hfd => ?_) (fun Y hY p hp2 _ H2 od up hfd => ?_)).imp ?_
  · have hYK : Y.K = X.K := by obtain ⟨_, _, _, _, _, rfl⟩ := hY; rfl
    have hYA : Y.A = X.A := by obtain ⟨_, _, _, _, _, rfl⟩ := hY; rfl
    have had : a ≠ d := fun e => by subst e; rw [ha] at hd; cases hd
    refine fun pins s0 I => (pts_one (pt_cmpR op_eq (pe_ix (ix_dict (X := Y) (by rw [hYA]; omega)) (pe_fld (hsY Y hY) (base_ok hb2)) (hx1 Y hY) hp) (hy Y hY) hm)).run pins s0 _ _ _ I ?_
    refine ⟨.ref a, wipe_set σ1 hij, a, C, dx, mf, .ref d, rfl, up a _ had ha, by rw [hYK]; exact cl, by rw [hYK]; exact na, hf, .int p.1, wipe_self hjl, ?_⟩
    refine ⟨d, .int p.2, rfl, .inl ⟨dkV ns, .inl p.1, .inr ⟨od, hfd⟩, rfl, (valV_dk nd hp2).symm⟩, .int k, wipe_set σ2 hlj, rfl, _, rfl, rfl, ?_⟩
    exact dec_int
  · refine fun pins s0 I => (hx0 Y hY).run pins s0 _ _ _ I ⟨.int p.1, wipe_self hjl, fun _ _ z => z, fun _ _ => .int _⟩
  · rintro v H' ⟨Dw, vs, rfl, hD, hv, up, r⟩
    exact ⟨Dw, vs, rfl, hv, fun od => dkeys_end s hD hv up r q od⟩
theorem qe_kinv (hc : X.calm = true) (hu : X.A.units + 64 < cLine) (hN : X.N.Nodup) (ok : BlkOk X.N X.env.scope scope own) (how : own.map (·.2) = [j]) (hs0 : PE X o (tVar i)) (hb : baseOk o = true) (hb2 : baseOk o2 = true) (cl : Cls X.K C) (na : NoAttr X.K C f)
    (hg : ∀ Y, Blk X scope Y → PG Y tg (gName j)) (hs : noSet (.Attribute o f fpos) = true) (hsY : ∀ Y, Blk X scope Y → PE Y o2 (tVar i)) (hx0 : ∀ Y, Blk X scope Y → PE Y x0 (tVar j)) (hx1 : ∀ Y, Blk X scope Y → PE Y x1 (tVar j))
    (hij : i ≠ j) (hj : j < X.N.length) (hp : PlainIx x1) (hn0 : noStar x0 = true) :
    QE X (.ListComp (.Tuple [.Subscript (.Attribute o2 f fp2) x1 sp, x0] tk tp) [⟨tg, .Attribute o f fpos, [], 0⟩] scope pos) (dKinv C f i) := by
  refine ⟨fun ρ G Q xq σ H h rs s tk => ?_⟩
  obtain ⟨a, dx, fs, d, ns, e1, g1, g2, g3, nd, hlen, q⟩ := h
  obtain ⟨v, σ1, r1⟩ := rs.at_ i _ e1
  cases r1
  obtain ⟨mf, ha, rm⟩ := ins_at s g1
  obtain ⟨u, hf, ru⟩ := kv_lookup rm g2
  cases ru
  obtain ⟨m, hd, rd⟩ := s d _ g3
  rw [dk_of rd] at hd
  refine WE.lock (fun pins s0 I => ?_)
  have hjl : j < σ.length := by rw [I.len]; exact hj
  revert pins s0
  show WE X _ σ H _
  refine (we_dkeys (B := fun p => true) (F := fun p => .tup [.int p.2, .int p.1]) hc hN ok how hs0 hb cl na hg hs σ1 ha hf hd hlen (fun Y hY p hp2 H2 od up hfd => ?_) (fun Y hY p hp2 _ H2 od up hfd => ?_)).imp ?_
  · exact fun pins s0 I => (pts_nil (X := Y)).run pins s0 _ _ _ I ⟨rfl, rfl⟩
  · have hYK : Y.K = X.K := by obtain ⟨_, _, _, _, _, rfl⟩ := hY; rfl
    have hYA : Y.A = X.A := by obtain ⟨_, _, _, _, _, rfl⟩ := hY; rfl
    have had : a ≠ d := fun e => by subst e; rw [ha] at hd; cases hd
    refine fun pins s0 I => (pe_tup (pa_cons (pe_ix (ix_dict (X := Y) (by rw [hYA]; omega)) (pe_fld (hsY Y hY) (base_ok hb2)) (hx1 Y hY) hp) (pa_cons (hx0 Y hY) pa_nil (starEach_cons hn0)) (by rfl))).run pins s0 _ _ _ I ?_
    refine ⟨.ref a, wipe_set σ1 hij, a, C, dx, mf, .ref d, rfl, up a _ had ha, by rw [hYK]; exact cl, by rw [hYK]; exact na, hf, .int p.1, wipe_self hjl, ?_⟩
    refine ⟨d, .int p.2, rfl, .inl ⟨dkV ns, .inl p.1, .inr ⟨od, hfd⟩, rfl, (valV_dk nd hp2).symm⟩, .int p.1, wipe_self hjl, (show 2 ≤ sizeLine by decide), fun t ht => ?_⟩
    refine ⟨fun b o' z => ?_, fun H4 kt => .tup (.of (kt t _ upd_same)) (.cons (.int _) (.cons (.int _) .nil))⟩
    rw [upd_ne (ne_of_none z ht)]
    exact z
  · rintro v H' ⟨Dw, vs, rfl, hD, hv, up, r⟩
    refine ⟨Dw, vs, rfl, hv, fun od => dkeys_end s hD hv up ?_ q od⟩
    rw [List.filter_eq_self.mpr (fun _ _ => rfl)] at r
    exact r
end
end DL
namespace DL
open PySem PySem.Spec PyProof.Rows L2
/-! max(l, default=n): a list of whole numbers -/
section
variable {X : Cx}
def maxdR (n : Int) : DR1 := fun x G Q => lstD x G fun ys => ∃ ns : List Int, ys = ns.map D.int ∧ (ns = [] → Q (.int n) G) ∧ ∀ m, m ∈ ns → (∀ y, y ∈ ns → y ≤ m) → Q (.int m) G
theorem maxOf_mem : ∀ (xs : List Int) (x : Int), PySem.W.maxOf x xs ∈ x :: xs ∧ ∀ y ∈ x :: xs, y ≤ PySem.W.maxOf x xs
  | [], x => ⟨by simp [PySem.W.maxOf], fun y hy => by rw [List.mem_singleton.mp hy]; exact Int.le_refl _⟩
  | z :: xs, x => by
    have e : PySem.W.maxOf x (z :: xs) = PySem.W.maxOf (if decide (x < z) = true then z else x) xs := rfl
    rw [e]
    obtain ⟨h1, h2⟩ := maxOf_mem xs (if decide (x < z) = true then z else x)
    generalize PySem.W.maxOf (if decide (x < z) = true then z else x) xs = m at *
    constructor
    · rcases List.mem_cons.mp h1 with h | h
      · split at h
        · rw [h]; simp
        · rw [h]; simp
      · simp [h]
    · intro y hy
      have h3 := h2 (if decide (x < z) = true then z else x) (by simp)
      rcases List.mem_cons.mp hy with rfl | hy
      · split at h3
        · rename_i h; have := of_decide_eq_true h; omega
        · exact h3
      · rcases List.mem_cons.mp hy with rfl | hy
        · split at h3
          · exact h3
          · rename_i h; have : ¬ x < y := fun z => h (decide_eq_true z); omega
        · exact h2 y (by simp [hy])
theorem cr_maxd {n : Int} (hc : X.calm = true) (hu : X.A.units + 65 < cLine) : CallRK X (.builtin "max") [Str.ofString "default"] (fun vs zs H Q => ∃ (a : Addr) (ns : List Int), vs = [V.ref a] ∧ zs = [V.int n] ∧ SqL X.K H a (ns.map V.int) ∧ (ns = [] → Q (.int n) H) ∧ ∀ m, m ∈ ns → (∀ y, y ∈ ns → y ≤ m) → Q (.int m) H) := by
  intro pins s σ H vs zs us ws Q I r rz h
  obtain ⟨a, ns, rfl, rfl, hs, q0, q⟩ := h
  obtain ⟨its, rv, hl, _⟩ := I.list hs
  rw [Vals.ref1 r]
  cases rz with
  | cons rx rt =>
    cases rt
    obtain ⟨t, rfl⟩ := rx
    refine PySem.W.max_list_datum_default (α := Int) (I.ok.hd hc) hl.isList (PySem.W.HoldAll.of_ints rv.ints) (by show X.A.units + 1 + 0 < cLine; omega) (fun e h' tk hk => ⟨.int _, H, I.kept hk, ⟨_, rfl⟩, q0 e⟩) (fun y ys i v h' tk e hi Hm hk => ?_)
    obtain ⟨t', rfl⟩ := PySem.W.int_of_holds Hm
    obtain ⟨m1, m2⟩ := maxOf_mem ys y
    exact ⟨.int _, H, I.kept hk, ⟨_, rfl⟩, q _ (by rw [e]; exact m1) (fun z hz => m2 z (by rw [← e]; exact hz))⟩
variable {e : Expr} {te : DE} {p cp kp pos : Pos} {n : Int} {k : Nat}
theorem qe_maxd (hc : X.calm = true) (hu : X.A.units + 65 < cLine) (hg : Gl X "max") (hm : X.mg "max" = none) (he : QE X e te) (hn : noStar e = true) :
    QE X (.Call (.Name "max" p) [e] [⟨some "default", .Constant (.int n) k cp, kp⟩] pos) (dUn (maxdR n) te) := by
  refine ⟨fun ρ G Q xq σ H h rs s tk => ?_⟩
  refine PE.we (pe_callBK (ks := [Str.ofString "default"]) (cr_maxd (n := n) hc hu) hg hm rfl (pa_cons pe_max pa_nil (starEach_cons hn)) (pk_cons (pe_int (i := n)) pk_nil) (by decide) (by decide) (congrArg (backTo pos) (starEach_cons hn)) (by show (backTo pos (starEach [e] X.env)).any (·.1) = false; rw [starEach_cons hn]; rfl)) ?_
  refine (he.run ρ G _ xq σ H h rs s tk).imp fun v H1 ⟨x, G1, rx, s1, e1, q1⟩ => ?_
  obtain ⟨a, us, ys, rfl, hs, r2, ns, rfl, q0, q⟩ := lst_ q1 rx s1
  rw [r2.ints] at hs
  exact ⟨a, ns, rfl, rfl, hs, fun z => Lift.back e1 _ _ (Lift.here (.int _) s1 (q0 z)), fun m h1 h2 => Lift.back e1 _ _ (Lift.here (.int _) s1 (q m h1 h2))⟩
end
end DL
namespace DL
open PySem PySem.Spec PyProof.Rows L2
/-! != of a thing of any kind and a tuple of whole numbers -/
namespace NeU
open PySem.SeqAt AutoSeq1 MeetsSeq MeetsSeq2 MeetsSeq3
section
variable {M : Model} {A : Around} {E : Value → Shared → Prop} {s : Shared}
theorem int_eq_dict (b : Int) (u : Tok) (l : Addr) (ob : Obj) (es : Array DictEntry) (ep : Nat) (hc : ob.cls = .type "dict") (hd : ob.data = .dict es ep) :
    Meets (Builtin.«int.__eq__» ⟨[.int b u, .ref l], []⟩) (fun _ R s => s.heap.get? l = some ob ∧ R (.ok (.ret .notImplemented)) s) :=
  .of_wp fun prog w A R s h => by obtain ⟨hp, g, d, tk, os⟩ := s; obtain ⟨hl, h⟩ := h; obtain ⟨cls, dd, data, sl⟩ := ob; simp only at hc hd; subst hc hd; wp_walk using wpAny_loadPart' hl, wpAny_load hl; exact ⟨_, rfl, h⟩
theorem tuple_ne_dict (l b : Addr) (items : Array Value) (n : Nat) (dd : Option Addr) (sl : Array (Option Value)) (ob : Obj) (hc : ob.cls = .type "dict") :
    Meets (Builtin.«tuple.__ne__» ⟨[.ref l, .ref b], []⟩) (fun _ R s => s.heap.get? l = some { cls := .type "tuple", dict := dd, data := .seq items n, slots := sl } ∧ s.heap.get? b = some ob ∧ R (.ok (.ret .notImplemented)) s) :=
  .of_wp fun prog w A R s h => by obtain ⟨hp, g, d, tk, os⟩ := s; obtain ⟨hl, hb, h⟩ := h; obtain ⟨cls, dd2, data, sl2⟩ := ob; simp only at hc; subst hc; have f1 := F.sub_dict_tuple; wp_walk using wpAny_loadPart' hl, wpAny_loadPart' hb; exact ⟨_, rfl, h⟩
theorem call_dict_ne {P : Program} {w : World} {A : Around} {E : Value → Shared → Prop} {s : Shared} {a : Addr} {v : Value} {T : String} (hd : s.TypeIs (.ref a) "dict") (hv : s.TypeIs v T) (hs : isSubtype (.type T) (.type "dict") = pure false) (Q : Value → Shared → Prop) (h : Q .notImplemented s) :
    wpAny (model P w) A (call (.builtin "dict.__ne__") [.ref a, v]) Q E s := by
  refine wpAny_call_entry PySem.F.slot_dict_ne hd PySem.F.entry_dict_ne ?_ (PySem.F.args_dict_ne_2 _ _)
  show wpAny _ _ (Builtin.Dict.dictSlotArgs "__ne__" ⟨[.ref a, v], []⟩ >>= _) _ _ s
  refine wpAny_bind ?_
  unfold Builtin.Dict.dictSlotArgs
  refine wpAny_bind (wpAny_notOrdered_dict hd ?_)
  show wpAny _ _ (pure (Value.ref a, v)) _ _ s
  refine wpAny_pure ?_
  refine wpAny_bind (wpAny_isInstance (T := T) hv hs ?_)
  simp only [Bool.not_false, if_true]
  refine wpAny_bind (wpAny_rule ?_)
  exact wpAny_bind (wpAny_pure (wpAny_pure ⟨_, rfl, h⟩))
theorem call_dict_eq {P : Program} {w : World} {A : Around} {E : Value → Shared → Prop} {s : Shared} {a : Addr} {v : Value} {T : String} (hd : s.TypeIs (.ref a) "dict") (hv : s.TypeIs v T) (hs : isSubtype (.type T) (.type "dict") = pure false) (Q : Value → Shared → Prop) (h : Q .notImplemented s) :
    wpAny (model P w) A (call (.builtin "dict.__eq__") [.ref a, v]) Q E s := by
  refine wpAny_call_entry PySem.F.slot_dict_eq hd PySem.F.entry_dict_eq ?_ (PySem.F.args_dict_eq_2 _ _)
  show wpAny _ _ (Builtin.Dict.dictSlotArgs "__eq__" ⟨[.ref a, v], []⟩ >>= _) _ _ s
  refine wpAny_bind ?_
  unfold Builtin.Dict.dictSlotArgs
  refine wpAny_bind (wpAny_notOrdered_dict hd ?_)
  show wpAny _ _ (pure (Value.ref a, v)) _ _ s
  refine wpAny_pure ?_
  refine wpAny_bind (wpAny_isInstance (T := T) hv hs ?_)
  simp only [Bool.not_false, if_true]
  refine wpAny_bind (wpAny_rule ?_)
  exact wpAny_bind (wpAny_pure (wpAny_pure ⟨_, rfl, h⟩))
theorem rc_dict_int {a : Addr} {b : Int} {u : Tok} {ob : Obj} {es : Array DictEntry} {ep : Nat} (ho : s.heap.get? a = some ob) (hc : ob.cls = .type "dict") (hd : ob.data = .dict es ep) (hu : A.units < cLine) : RcAt A s (.ref a) (.int b u) false := fun prog w E Q h =>
  rc_eq_decline_or (k := false) ⟨_, ho, hc⟩ (typeIs_int s b u) (by decide) F.sub_int_dict F.slot_dict_eq F.slot_int_eq_refl
    (fun Q' hq => call_dict_eq ⟨_, ho, hc⟩ (typeIs_int s b u) F.sub_int_dict Q' hq)
    (fun _ hq => call_meets F.slot_int_eq_refl (typeIs_int s b u) F.entry_int_eq (F.args_int_eq_2 _ _) (int_eq_dict b u a ob es ep hc hd) ⟨ho, hq⟩)
    (fun _ hq => wpAny_of_eq (rfl : isSame (.ref a) (.int b u) = pure false) hq) (.inr hu) h
theorem eq_dict_int {a : Addr} {b : Int} {u : Tok} {ob : Obj} {es : Array DictEntry} {ep : Nat} (ho : s.heap.get? a = some ob) (hc : ob.cls = .type "dict") (hd : ob.data = .dict es ep) (hu : A.units < cLine) : EqAt A s (.ref a) (.int b u) false := fun prog w E Q h => by
  unfold eqBool
  refine wpAny_holding ?_
  refine wpAny_ite_split (fun hab => absurd (eq_of_beq hab) nofun) (fun _ => ?_)
  exact wpAny_bind (rc_dict_int ho hc hd hu prog w E _ (wpAny_truthy_bool h))
theorem ne_dict_tuple {a b : Addr} {items : Array Value} {ob : Obj} {es : Array DictEntry} {ep : Nat} (ho : s.heap.get? a = some ob) (hc : ob.cls = .type "dict") (hd : ob.data = .dict es ep) (hb : s.heap.IsTuple b items) (hu : A.units < cLine) : RcNeAt A s (.ref a) (.ref b) true := fun prog w E Q h => by
  obtain ⟨⟨cls2, dd2, data2, sl2⟩, ho2, hc2, n2, hd2⟩ := id hb
  simp only at hc2 hd2
  subst hc2 hd2
  have hne : a ≠ b := fun z => by
    subst z
    rw [ho] at ho2
    cases ho2
    exact absurd hc (by simp)
  exact rc_ne_decline_or (k := false) ⟨_, ho, hc⟩ (show s.TypeIs (.ref b) "tuple" from ⟨_, ho2, rfl⟩) (by decide) F.sub_tuple_dict F.slot_dict_ne F.slot_tuple_ne_refl
    (fun Q' hq => call_dict_ne ⟨_, ho, hc⟩ (show s.TypeIs (.ref b) "tuple" from ⟨_, ho2, rfl⟩) F.sub_tuple_dict Q' hq)
    (fun _ hq => call_meets F.slot_tuple_ne_refl ⟨_, ho2, rfl⟩ F.entry_tuple_ne (F.args_tuple_ne_2 _ _) (tuple_ne_dict b a items n2 dd2 sl2 ob hc) ⟨ho2, ho, hq⟩)
    (fun _ hq => wpAny_isSame_ref_other hne ho ho2 (by rw [hc]; simp) hq) (.inr hu) h
end
end NeU
/-- what may be compared: any thing whose parts are things -/
def eqOne : D → Int → Bool
  | .int i, j => i == j
  | .bl b, j => (if b then 1 else 0) == j
  | _, _ => false
def eqOnes : List D → List Int → Bool
  | [], [] => true
  | d :: ds, n :: ns => eqOne d n && eqOnes ds ns
  | _, _ => false
def plD : D → Bool
  | .ty _ => false
  | .sc _ => false
  | .ref _ => false
  | .exc _ _ _ => false
  | .fn _ => false
  | .nt _ => false
  | .lam _ _ _ _ => false
  | _ => true
def plT : D → Bool
  | .tup ds => ds.all plD
  | d => plD d
def eqInts : D → List Int → Bool
  | .tup ds, ns => eqOnes ds ns
  | _, _ => false
def neuD : DR2 := fun x y G Q => ∃ ns : List Int, y = .tup (ns.map D.int) ∧ plT x = true ∧ Q (.bl (!eqInts x ns)) G
section
variable {X : Cx} {pins : List (Addr × Obj)} {σ : L2.St} {H : Hp} {s : Shared}
theorem dict_obj (I : Inv X pins σ H s) {a : Addr} {o : Obj} {m : List (Key × V)} (h : H a = some (.frz o (.dK m))) : ∃ ob es ep, s.heap.get? a = some ob ∧ ob.cls = .type "dict" ∧ ob.data = .dict es ep := by
  obtain ⟨_, _, _, va, _, o2, es, ep, ho, hc, hd, _⟩ := (show _ ∧ ObjOk X.prog X.w H s.heap a (.dK m) from I.hok a _ h)
  exact ⟨o2, es, ep, ho, hc.1, hd⟩
theorem eq_one (I : Inv X pins σ H s) {A : Around} (hu : A.units < cLine) {d : D} (hp : plD d = true) {v : V} (r : Rep X.K H v d) {u : Value} (rv : RelV v u) (n : Int) (t : Tok) : SeqAt.EqAt A s u (.int n t) (eqOne d n) := by
  cases r with
  | non => cases rv; exact SeqAt.EqAt.none_int n t
  | bl b => cases rv; exact SeqAt.EqAt.bool_int b n t
  | int i => obtain ⟨t2, rfl⟩ := rv; exact SeqAt.EqAt.int_int i t2 n t
  | str x => obtain ⟨t2, rfl⟩ := rv; exact SeqAt.EqAt.str_int x t2 n t
  | tup h _ =>
    cases (show u = _ from rv)
    obtain ⟨its, _, p, _⟩ := I.tuple h
    exact SeqAt.EqAt.tuple_int n t p hu
  | rl h _ =>
    cases (show u = _ from rv)
    obtain ⟨its, _, p, _⟩ := I.list (frz_sq h)
    exact SeqAt.EqAt.list_int n t p.isList hu
  | rd h _ _ =>
    cases (show u = _ from rv)
    obtain ⟨ob, es, ep, h1, h2, h3⟩ := dict_obj I h
    exact NeU.eq_dict_int h1 h2 h3 hu
  | ref _ => cases hp
  | ty _ => cases hp
  | sc _ _ => cases hp
  | exc0 _ _ => cases hp
  | exc _ _ _ _ _ => cases hp
  | fn _ => cases hp
  | nt _ _ _ => cases hp
  | lam _ _ => cases hp
theorem eqOnes_len : ∀ {ds : List D} {ns : List Int}, ds.length ≠ ns.length → eqOnes ds ns = false
  | [], [], h => (h rfl).elim
  | [], _ :: _, _ => rfl
  | _ :: _, [], _ => rfl
  | d :: ds, n :: ns, h => by
    show (eqOne d n && eqOnes ds ns) = false
    rw [eqOnes_len (ds := ds) (ns := ns) (fun z => h (by simp [z])), Bool.and_false]
theorem eqOnes_all : ∀ {ds : List D} {ns : List Int}, ds.length = ns.length → eqOnes ds ns = (List.range ds.length).all fun j => eqOne (ds.getD j .non) (ns.getD j 0)
  | [], [], _ => rfl
  | [], _ :: _, h => by cases h
  | _ :: _, [], h => by cases h
  | d :: ds, n :: ns, h => by
    show (eqOne d n && eqOnes ds ns) = _
    rw [eqOnes_all (ds := ds) (ns := ns) (by simpa using h), List.length_cons, List.range_succ_eq_map, List.all_cons, List.all_map]
    rfl
theorem vals_get {K : PySem.W.Frag} : ∀ {vs : List V} {ds : List D} {us : List Value}, Reps K H vs ds → Vals vs us → ∀ (j : Nat) (h : j < us.length) (h2 : j < ds.length), ∃ v, Rep K H v ds[j] ∧ RelV v us[j]
  | _, _, _, .cons r rs, .cons a b, 0, _, _ => ⟨_, r, a⟩
  | _, _, _, .cons r rs, .cons a b, j + 1, h, h2 => vals_get rs b j (Nat.lt_of_succ_lt_succ h) (Nat.lt_of_succ_lt_succ h2)
  | _, _, _, .nil, .nil, _, h, _ => absurd h (Nat.not_lt_zero _)
theorem ints_get : ∀ {ns : List Int} {us : List Value}, Vals (ns.map V.int) us → ∀ (j : Nat) (h : j < us.length) (h2 : j < ns.length), ∃ t, us[j] = .int ns[j] t
  | n :: ns, _, .cons a b, 0, _, _ => a
  | n :: ns, _, .cons a b, j + 1, h, h2 => ints_get (ns := ns) b j (Nat.lt_of_succ_lt_succ h) (Nat.lt_of_succ_lt_succ h2)
  | [], _, .nil, _, h, _ => absurd h (Nat.not_lt_zero _)
theorem op_neU (hu : X.A.units + 64 < cLine) : OpR X (compareOp .NotEq) (fun x y H Q => ∃ (d : D) (ns : List Int) (b : Addr), Rep X.K H x d ∧ y = .ref b ∧ SqT X.K H b (ns.map V.int) ∧ plT d = true ∧ Q (.bl (!eqInts d ns)) H) := by
  intro pins s σ H x y v u Q I rx ry h
  obtain ⟨d, ns, b, r, rfl, hb, hp, q⟩ := h
  obtain rfl : u = Value.ref b := ry
  obtain ⟨its2, r2, p2, _⟩ := I.tuple hb
  have hu1 : X.A.units < cLine := by omega
  have hu2 : X.A.in1.units < cLine := by show X.A.units + 1 < cLine; omega
  cases r with
  | non =>
    cases rx
    exact SeqAt.RcNeAt.none_tuple p2 hu1 X.prog X.w X.xe _ ⟨.bl true, H, I, rfl, q⟩
  | bl z =>
    cases rx
    exact SeqAt.RcNeAt.bool_tuple z p2 hu1 X.prog X.w X.xe _ ⟨.bl true, H, I, rfl, q⟩
  | int i =>
    obtain ⟨t2, rfl⟩ := rx
    exact SeqAt.RcNeAt.int_tuple i t2 p2 hu1 X.prog X.w X.xe _ ⟨.bl true, H, I, rfl, q⟩
  | str z =>
    obtain ⟨t2, rfl⟩ := rx
    exact SeqAt.RcNeAt.str_tuple z t2 p2 hu1 X.prog X.w X.xe _ ⟨.bl true, H, I, rfl, q⟩
  | rl h _ =>
    cases (show v = _ from rx)
    obtain ⟨its, _, p, _⟩ := I.list (frz_sq h)
    exact SeqAt.RcNeAt.list_tuple p.isList p2 hu1 X.prog X.w X.xe _ ⟨.bl true, H, I, rfl, q⟩
  | rd h _ _ =>
    cases (show v = _ from rx)
    obtain ⟨ob, es, ep, h1, h2, h3⟩ := dict_obj I h
    exact NeU.ne_dict_tuple h1 h2 h3 p2 hu1 X.prog X.w X.xe _ ⟨.bl true, H, I, rfl, q⟩
  | @tup a vs ds h rs =>
    cases (show v = _ from rx)
    obtain ⟨its, r1, p1, _⟩ := I.tuple h
    have hpl : ds.all plD = true := hp
    have l1 : its.length = ds.length := by rw [← r1.length, rs.length]
    have l2 : its2.length = ns.length := by rw [← r2.length, List.length_map]
    refine SeqAt.RcNeAt.tuples (e := fun j => eqOne (ds.getD j .non) (ns.getD j 0)) p1 p2 hu1 (fun j h1 h2 => ?_) X.prog X.w X.xe _ ⟨.bl _, H, I, rfl, ?_⟩
    · have h1' : j < its.length := by simpa using h1
      have h2' : j < its2.length := by simpa using h2
      have h3 : j < ds.length := by omega
      have h4 : j < ns.length := by omega
      obtain ⟨v1, e1, e2⟩ := vals_get rs r1 j h1' h3
      obtain ⟨t, e3⟩ := ints_get r2 j h2' h4
      have := eq_one I hu2 (List.all_eq_true.mp hpl _ (List.getElem_mem h3)) e1 e2 ns[j] t
      rw [← e3] at this
      rw [show ds.getD j .non = ds[j] by rw [List.getD_eq_getElem?_getD, List.getElem?_eq_getElem h3]; rfl, show ns.getD j 0 = ns[j] by rw [List.getD_eq_getElem?_getD, List.getElem?_eq_getElem h4]; rfl]
      simpa using this
    · have e : (!((List.range (min its.toArray.size its2.toArray.size)).all (fun j => eqOne (ds.getD j .non) (ns.getD j 0)) && its.toArray.size == its2.toArray.size)) = !eqInts (.tup ds) ns := by
        show _ = !eqOnes ds ns
        rw [List.size_toArray, List.size_toArray, l1, l2]
        by_cases hh : ds.length = ns.length
        · rw [eqOnes_all hh, ← hh, Nat.min_self, beq_self_eq_true, Bool.and_true]
        · rw [eqOnes_len hh, beq_eq_false_iff_ne.mpr hh, Bool.and_false]
      rw [e]
      exact q
  | ref _ => cases hp
  | ty _ => cases hp
  | sc _ _ => cases hp
  | exc0 _ _ => cases hp
  | exc _ _ _ _ _ => cases hp
  | fn _ => cases hp
  | nt _ _ _ => cases hp
  | lam _ _ => cases hp
theorem op_neuD (hu : X.A.units + 65 < cLine) : OpD X (compareOp .NotEq) neuD := by
  intro x y G Q v u σ H h rx ry s
  obtain ⟨ns, rfl, hp, q⟩ := h
  cases ry with
  | tup h2 r2 =>
    rw [r2.ints] at h2
    exact OpR.wo (op_neU (Nat.lt_trans (Nat.lt_succ_self _) hu)) ⟨x, ns, _, rx, rfl, h2, hp, Lift.here (.bl _) s q⟩
end
end DL
namespace DL
open PySem PySem.Spec PyProof.Rows L2
/-! class(fields) as an expression: a refusal that nobody raises -/
section
variable {X : Cx} {x : Str} {fl : List Str} {p pos : Pos} {e : Expr} {es : List Expr} {tas : DA}
theorem pe_of_mk {te : L2N.St → Hp → XK → Prop} (h : L2N.PMk X e te) : PE X e (fun σ H Q => te σ H (fun cls d H1 => ∀ a oe, H1 a = none → L2N.Zn cls d oe → (∃ vs, oe.data = .fields vs) → Q (.ref a) (upd H1 a (exT a oe)))) := by
  refine ⟨fun pins s σ H Q I q => wpAny_mono (h pins s σ H _ I q) (fun u s' z => ?_) (fun _ _ z => z)⟩
  obtain ⟨a, oe, vs, sI, H', cls, d, rfl, J, k, na, hs, zn, hd, _, n, os, ag, R, q⟩ := z
  have J4 : Inv X pins σ H' s' := J.call' (ch := []) os (Un.kept k) (J.hok.kept k) ag (by simp)
  exact ⟨.ref a, _, inv_track J na J4 hs n, rfl, q a oe n zn ⟨vs, hd⟩⟩
def mkxD (x : Str) (fl : List Str) (t : DA) : DE := fun ρ G Q xq => t ρ G (fun ds G1 => ds.length = fl.length ∧ Q (asExc ⟨x, fsD fl ds⟩) G1) xq
theorem mkx_end {lf : Lf X.K x} {G G1 : Sto} {H H1 : Hp} {Q : DQ} {vs : List V} {ds : List D} (r1 : Reps X.K H1 vs ds) (s1 : Sim X.K G1 H1) (e1 : Ext X.K G H G1 H1) (q : Q (asExc ⟨x, fsD fl ds⟩) G1) (hl : ds.length = fl.length) (dx : Addr) (hd : H1 dx = none) (a : Addr) (oe : Obj)
    (na : hOf fl vs H1 dx a = none) (zn : L2N.Zn (.ref (He.ga X.K x)) (dOf fl dx) oe) (hv : ∃ vs, oe.data = .fields vs) : Lift X.K G H Q (.ref a) (upd (hOf fl vs H1 dx) a (exT a oe)) := by
  cases fl with
  | nil =>
    have na : H1 a = none := na
    exact ⟨asExc ⟨x, fsD [] ds⟩, G1, exn_rep (d := none) ⟨⟨rfl, lf⟩, rfl⟩ upd_same zn hv, s1.newT na, e1.trans (.newT na), q⟩
  | cons f fl =>
    have t3 : TupExt X.K H1 (upd H1 dx (.xd (fsV (f :: fl) vs))) := tup_new hd
    have na : upd H1 dx (.xd (fsV (f :: fl) vs)) a = none := na
    have r : ExnRep X.K (upd H1 dx (.xd (fsV (f :: fl) vs))) (.ref (He.ga X.K x)) (some dx) ⟨x, fsD (f :: fl) ds⟩ := ⟨⟨rfl, lf⟩, _, upd_same, kv_fs (r1.mono t3)⟩
    exact ⟨asExc ⟨x, fsD (f :: fl) ds⟩, G1, exn_rep (exn_mono r (tup_new na)) upd_same zn hv, (s1.newT hd).newT na, (e1.trans (.newT hd)).trans (.newT na), q⟩
theorem qe_mkx (c : RCal X x fl) (hl : fl.length ≤ 1000) (hg : Gl X x) (ha : QA X (e :: es) tas) (hd : (x == ("__debug__" : Str)) = false) (hn : (e :: es).all noStar = true) : QE X (.Call (.Name x p) (e :: es) [] pos) (mkxD x fl tas) := by
  have lf : Lf X.K x := by obtain ⟨_, _, _, _, lf, _⟩ := c; exact lf
  refine ⟨fun ρ G Q xq σ H h rs s tk => ?_⟩
  refine PE.we (pe_of_mk (pmk_x c hl hg hd hn)) ?_
  refine (ha.run ρ G _ xq σ H h rs s tk).imp fun vs H1 ⟨ds, G1, r1, s1, e1, q1⟩ => ?_
  exact ⟨by rw [r1.length]; exact q1.1, fun dx hdx a oe na zn hv => mkx_end (lf := lf) r1 s1 e1 q1.2 q1.1 dx hdx a oe na zn hv⟩
theorem qe_mkx0 (c : RCal X x fl) (h0 : fl = []) (hg : Gl X x) (hd : (x == ("__debug__" : Str)) = false) : QE X (.Call (.Name x p) [] [] pos) (mkxD x fl dNil) := by
  have lf : Lf X.K x := by obtain ⟨_, _, _, _, lf, _⟩ := c; exact lf
  refine ⟨fun ρ G Q xq σ H h rs s tk => ?_⟩
  refine PE.we (pe_of_mk (pmk_x0 c h0 hg hd)) ?_
  intro dx hdx a oe na zn hv
  have h : ([] : List D).length = fl.length ∧ Q (asExc ⟨x, fsD fl []⟩) G := h
  exact mkx_end (lf := lf) (G := G) (H := H) .nil s .refl h.2 h.1 dx hdx a oe na zn hv
end
end DL
namespace DL
open PySem PySem.Spec PyProof.Rows L2
/-! a lambda without parameters, handed to a def that calls it -/
/-- the captured slots -/
structure Cap (σ : L2.St) (ρ : Ev) (vs : List V) (ds : List D) : Prop where
  len : σ.length = ρ.length
  at_ : ∀ (i : Nat) (d : D), ρ[i]? = some (some d) → ∃ v, σ[i]? = some (some v) ∧ vs[i]? = some v ∧ ds[i]? = some d
theorem Cap.rep {K : PySem.W.Frag} {H : Hp} {σ : L2.St} {ρ : Ev} {vs : List V} {ds : List D} (c : Cap σ ρ vs ds) (r : Reps K H vs ds) : RepS K H σ ρ := ⟨c.len, fun i d e => by
  obtain ⟨v, h1, h2, h3⟩ := c.at_ i d e
  obtain ⟨w, h4, h5⟩ := r.get h3
  rw [h2] at h4
  cases h4
  exact ⟨v, h1, h5⟩⟩
theorem cap_of {K : PySem.W.Frag} {H : Hp} : ∀ {σ : L2.St} {ρ : Ev}, RepS K H σ ρ → ∃ vs ds, Cap σ ρ vs ds ∧ Reps K H vs ds
  | [], [], _ => ⟨[], [], ⟨rfl, fun i d e => by simp at e⟩, .nil⟩
  | [], _ :: _, r => by have := r.len; simp at this
  | _ :: _, [], r => by have := r.len; simp at this
  | s :: σ, o :: ρ, r => by
    obtain ⟨vs, ds, c, q⟩ := cap_of (σ := σ) (ρ := ρ) ⟨by have := r.len; simpa using this, fun i d e => r.at_ (i + 1) d (by simpa using e)⟩
    have len : (s :: σ).length = (o :: ρ).length := r.len
    cases o with
    | none =>
      refine ⟨.non :: vs, .non :: ds, ⟨len, fun i d e => ?_⟩, .cons .non q⟩
      cases i with
      | zero => simp at e
      | succ i => simpa using c.at_ i d (by simpa using e)
    | some d0 =>
      obtain ⟨v, h1, h2⟩ := r.at_ 0 d0 rfl
      refine ⟨v :: vs, d0 :: ds, ⟨len, fun i d e => ?_⟩, .cons h2 q⟩
      cases i with
      | zero =>
        have : d0 = d := by simpa using e
        subst this
        exact ⟨v, h1, rfl, rfl⟩
      | succ i => simpa using c.at_ i d (by simpa using e)
/-- the context of the lambda's body -/
def lamN (X : Cx) (A : Around) (outer : List PySem.Env) (s : Shared) (H : Hp) (E : XK) (scope : Scope) (f c : Addr) : Cx :=
  (LamX.lamCx X A outer s H (fun _ _ _ => False) scope f c).tr [] fun e s1 =>
    wpAny (model X.prog X.w) (A.deeper (LamX.lamEnv X scope s.heap.objs.size f c)) (leaving (LamX.lamEnv X scope s.heap.objs.size f c) e) (fun _ s2 => L2N.CX X.prog X.w outer H s E e s2) (fun e2 s2 => L2N.CX X.prog X.w outer H s E e2 s2) s1
/-- what the call of the lambda does: F, where the i-th slot holds it -/
abbrev TlR := Sto → DQ → XQ → Prop
def dThk (z : D) (tl : TlR) : DE := fun ρ G Q xq => ρ[0]? = some (some z) ∧ tl G Q xq
section
variable {X : Cx} {pins : List (Addr × Obj)} {σ : L2.St} {H : Hp} {s : Shared}
theorem qe_thunk {Eg : XK} {Ng : List Str} {qg : Str} {sg : Scope} {g f c : Addr} {cdg pm ctv : Value} {params : Arguments} {body : Expr} {scope : Scope} {k : Nat} {a : Str} {pn : List (Addr × Obj)} {xe : Value → Shared → Prop} {p1 p2 : Pos} {te : DE} {ρ0 : Ev} {vs : List V} {ds : List D}
    (I : Inv X pins σ H s) (L : LamX.LamS X.env.scope scope) (hql : X.env.qual ++ "<lambda>" = lamQ)
    (hf : s.heap.get? f = some (PySem.W.kla_obj "<lambda>" (X.env.qual ++ "<lambda>") params body scope (cloFrom X.env.cells scope.names []) pm c ctv)) (hfn : H f = none) (hfr : f ∉ frs X.stack)
    (hbind : bindArgs (PySem.W.kla_fn "<lambda>" (X.env.qual ++ "<lambda>") params body scope (cloFrom X.env.cells scope.names []) pm (.ref c) ctv) ⟨[], []⟩ = pure []) (cap : Cap σ ρ0 vs ds)
    (hr : Room (k + 1) (X.A.deeper (envOfC qg sg s.heap.objs.size g cdg)))
    (hbody : ∀ (A : Around) (outer : List PySem.Env) (s : Shared) (H : Hp) (E : XK), Room k (A.deeper (LamX.lamEnv X scope s.heap.objs.size f c)) → QE (lamN X A outer s H E scope f c) body te)
    (hN : Ng[0]? = some a) (hv : Vis sg a) (hd : (a == ("__debug__" : Str)) = false) (hcd : (a == ("__classdict__" : Str)) = false) :
    QE ((cxOf (L2N.CX X.prog X.w) X.prog X.w X.K X.mg X.base Ng qg sg g cdg X.A X.stack s H Eg).tr pn xe) (.Call (.Name a p1) [] [] p2) (dThk (.lam f c vs ds) (te ρ0)) := by
  refine ⟨fun ρ G Q xq σZ HZ h rs sm tk pinsZ sZ IZ => ?_⟩
  obtain ⟨h1, h2⟩ := h
  obtain ⟨v0, e1, r1⟩ := rs.at_ 0 _ h1
  cases r1 with
  | lam hc rd =>
  refine wpAny_Call_Name_kw (thn ((pe_var (pos := p1) (i := 0) hN hv hd hcd).run pinsZ sZ σZ HZ (fun v H1 => v = .ref f ∧ H1 = HZ) IZ ⟨.ref f, e1, rfl, rfl⟩) ?_)
  rintro u s1 ⟨v, H1, I1, rr, rfl, rfl⟩
  cases rr
  have of1 := I1.base.keep f _ hf hfn hfr (by intro z; exact absurd (show f ∈ ([] : List Addr) from z) (by simp))
  refine PySem.W.callWith_F0 ⟨_, _, _, _, of1⟩ ?_
  have un : Un (frs X.stack) [] H H1 s.heap s1.heap := I1.base
  obtain ⟨⟨oc, us, t, hoc, hdc, hvc⟩, _, _⟩ := I1.hok c _ hc
  let Z := (cxOf (L2N.CX X.prog X.w) X.prog X.w X.K X.mg X.base Ng qg sg g cdg X.A X.stack s H Eg).tr pn xe
  let EZ : XK := fun cls d H' => XW Z cls d σZ H'
  let envg := envOfC qg sg s.heap.objs.size g cdg
  have rc : codeAny (model X.prog X.w) (X.A.deeper envg) (.call (.ref f) ⟨[], []⟩) (CR (L2N.CX X.prog X.w) (envg :: X.stack) X.prog X.w H1 s1 (Lift X.K G H1 Q) EZ) s1 := by
    refine PySem.W.kla_callFunE hr.depth of1 rfl L.co L.gen rfl ⟨c, oc, us, t, rfl, hoc, hdc, by rw [hvc]; show some (Value.str lamQ t) = some (Value.str (X.env.qual ++ "<lambda>") t); rw [hql]⟩ ?_
    rw [hbind]
    refine wpAny_pure (wpAny_newFunctionEnv (fun y hy => (L.own y hy).2) (fun y hy => absurd hy (by simp)) (fun h₁ hns hsb => ⟨I1.nolimit.fresh _ hsb, ?_⟩) L.kind)
    show codeAny _ _ (.expr body (LamX.lamEnv X scope s1.heap.objs.size f c)) _ _
    have kp : ∀ b o, s1.heap.get? b = some o → h₁.get? b = some o := fun b o e => hsb.extBut b o (Nat.ne_of_lt (Heap.lt_size e)) (Heap.get?_push_of_some _ e)
    have J0 := LamX.lam_start2 (E := fun _ _ _ => False) (f := f) (c' := c) (tk := s1.toks + ([] : List (Str × Value)).length) I L I1.env0 hr.hd un hns kp
    have J : Inv (lamN X (X.A.deeper envg) (envg :: X.stack) s1 H1 EZ scope f c) [] σ H1 { s1 with heap := h₁, toks := s1.toks + ([] : List (Str × Value)).length } := J0.toTry _
    have tkE : L2N.Takes (lamN X (X.A.deeper envg) (envg :: X.stack) s1 H1 EZ scope f c) (fun cls d _ H => EZ cls d H) := L2N.takes_of (E := EZ) rfl rfl rfl rfl
    have tk2 : Tk (lamN X (X.A.deeper envg) (envg :: X.stack) s1 H1 EZ scope f c) σ G H1 xq := ⟨fun x cls d G' H' xr sm' e' q' u s' xx => tkE u s' (by
      obtain ⟨a1, B1, sI, pins1, σ1, H2, cls1, d1, w1, w2, w3, w4, w5, w6, w7, w8, rfl, rfl, rfl, rfl⟩ := xx
      exact ⟨a1, B1, sI, pins1, σ1, H2, cls1, d1, w1, w2, w3, w4, w5, w6, w7, w8, tk.ex x _ _ G' _ xr sm' e' q'⟩), .calm rfl⟩
    have run := (hbody _ _ s1 H1 EZ (hr.deeper _)).run ρ0 G Q xq σ H1 h2 (cap.rep rd) sm tk2 [] _ J
    refine PySem.W.kla_codeExpr (wpAny_mono run (fun v s' hq => ?_) fun e s' hq => hq)
    obtain ⟨w', H', J', rv, q⟩ := hq
    exact ⟨w', H', J'.os, J'.bare, J'.base, J'.hok, rv, q⟩
  refine wpAny_call (codeAny_mono rc fun r s' hq => ?_)
  cases r with
  | error e => exact passes_max pinsZ H1 s1 e s' I1 hq
  | ok fl =>
    cases fl with
    | ret u => exact I1.after hq
    | next => exact False.elim hq
    | brk => exact False.elim hq
    | cont => exact False.elim hq
end
/-- a def that calls the lambda that it got, and goes on by what it told -/
structure TMono (tl : TlR) : Prop where
  m : ∀ G (A A' : DQ) (B B' : XQ), tl G A B → (∀ d G', A d G' → A' d G') → (∀ x G', B x G' → B' x G') → tl G A' B'
def clos (tl : TlR) : TlR := fun G A B => ∃ (A0 : DQ) (B0 : XQ), tl G A0 B0 ∧ (∀ d G', A0 d G' → A d G') ∧ ∀ x G', B0 x G' → B x G'
theorem clos_mono {tl : TlR} : TMono (clos tl) := ⟨fun _ _ _ _ _ ⟨A0, B0, h, a, b⟩ ha hb => ⟨A0, B0, h, fun d G' z => ha d G' (a d G' z), fun x G' z => hb x G' (b x G' z)⟩⟩
theorem qe_clos {X : Cx} {e : Expr} {z : D} {tl : TlR} (h : QE X e (dThk z tl)) : QE X e (dThk z (clos tl)) := ⟨fun ρ G Q xq σ H q rs s tk => by
  obtain ⟨q0, A0, B0, q, ha, hb⟩ := q
  exact (h.run ρ G A0 B0 σ H ⟨q0, q⟩ rs s ⟨fun x cls d G' H' r s' e' w => tk.ex x cls d G' H' r s' e' (hb _ _ w), tk.hot⟩).imp fun v H' ⟨d, G', r, s', e', w⟩ => ⟨d, G', r, s', e', ha _ _ w⟩⟩
abbrev HSp := TlR → Sto → DQ → XQ → Prop
/-- told by a promise about the lambda's end: true and what it told, or false and what it refused -/
def hspOf (sp : DSp) : HSp := fun tl G Q xq => tl G (fun d G' => sp [.bl true, d] G' Q xq) (fun z G' => sp [.bl false, asExc z] G' Q xq)
def tblSp (P : Addr) : DSp := fun ds _ _ _ => ds = [.ref P]
def thkR (sp : DSp) : DE := fun ρ G Q xq => ∃ d, ρ[0]? = some (some d) ∧ sp [d] G Q xq
structure HFn (P : Program) (w : World) (K : PySem.W.Frag) (mg : Str → Option Value) (base : Heap) (k : Nat) (g : Addr) (fd : FuncData) (N : List Str) (a qual : Str) (scope : Scope) (cdv : Value) (hsp : HSp) : Prop where
  slot : N[0]? = some a ∧ Vis scope a ∧ (a == ("__debug__" : Str)) = false ∧ (a == ("__classdict__" : Str)) = false
  run : ∀ (A : Around) (outer : List PySem.Env) (s : Shared) (H : Hp) (f c : Addr) (vs : List V) (ds : List D) (tl : TlR) (G : Sto) (Q : DQ) (xq : XQ) (Q' : VK) (E : XK), Room (k + 1) A → TMono tl → Env0 P w K mg base A outer s H → BindsTo s fd ⟨[.ref f], []⟩ [(a, .ref f)] → H c = some (LamX.CodeO c lamQ) → Reps K H vs ds →
    (Room k (A.deeper (envOfC qual scope s.heap.objs.size g cdv)) → ∀ (pn : List (Addr × Obj)) (xe : Value → Shared → Prop) (p1 p2 : Pos), QE ((cxOf (L2N.CX P w) P w K mg base N qual scope g cdv A outer s H E).tr pn xe) (.Call (.Name a p1) [] [] p2) (dThk (.lam f c vs ds) tl)) →
    Sim K G H → hsp tl G Q xq → (∀ v H', Lift K G H Q v H' → Q' v H') → (∀ x cls d G' H', ExnRep K H' cls d x → Sim K G' H' → Ext K G H G' H' → xq x G' → E cls d H') →
    codeAny (model P w) A (.call (.ref g) ⟨[.ref f], []⟩) (CR (L2N.CX P w) outer P w H s Q' E) s
def HCalK (X : Cx) (k : Nat) (x : Str) (hsp : HSp) : Prop := ∃ (g : Addr) (fd : FuncData) (N : List Str) (a qual : Str) (scope : Scope) (cdv : Value),
  HFn X.prog X.w X.K X.mg X.base (k + 1) g fd N a qual scope cdv hsp ∧ X.mg x = some (.ref g) ∧ PySem.W.keepIn X.K (.ref g) = true ∧ Binds X.K fd [a] []
/-- the table of the lambdas of this def -/
def Tab (X : Cx) (P : Addr) : Prop := ∃ c, LamX.TabB X.base X.mg c P ∧ X.env.code = .ref c ∧ X.env.qual ++ "<lambda>" = lamQ
def dLam (P : Addr) (hsp : HSp) (te : DE) : DE := fun ρ G Q xq => G P = some .tbl ∧ (∀ a, G a = some .tbl → a = P) ∧ hsp (clos (te ρ)) G Q xq
theorem extN_ext {K : PySem.W.Frag} {G : Sto} {H H1 : Hp} {P : Addr} (e : LamX.ExtN H H1) (t : LamX.TabS H1 P lamQ) (s : Sim K G H) (one : ∀ a, G a = some .tbl → a = P) : Sim K G H1 ∧ Ext K G H G H1 := by
  have te : TupExt K H H1 := ⟨fun a xs z => by
    rcases z with (z | ⟨u, z⟩) | z
    · exact .inl (.inl (e _ _ z (fun _ q => by cases q)))
    · exact .inl (.inr ⟨u, e _ _ z (fun _ q => by cases q)⟩)
    · exact .inr z, fun a xs z => by
    rcases z with ⟨u, z⟩ | z
    · exact .inl ⟨u, e _ _ z (fun _ q => by cases q)⟩
    · exact .inr z, fun a o u z => e _ _ z (fun _ q => by cases q), fun a o z => e _ _ z (fun _ q => by cases q), fun a o z => e _ _ z (fun _ q => by cases q)⟩
  refine ⟨fun a c hac => ?_, te, fun a o z n g => ⟨e a o z n, g⟩⟩
  cases c with
  | tbl =>
    have := one a hac
    subst this
    exact t
  | lst ds =>
    obtain ⟨m, h, r⟩ := s a _ hac
    exact ⟨m, e _ _ h (fun _ q => by cases q), r.mono te⟩
  | dK ds =>
    obtain ⟨m, h, r⟩ := s a _ hac
    exact ⟨m, e _ _ h (fun _ q => by cases q), r.mono te⟩
  | dT ds =>
    obtain ⟨m, h, r⟩ := s a _ hac
    exact ⟨m, e _ _ h (fun _ q => by cases q), r.mono te⟩
  | ins C dx fs =>
    obtain ⟨m, h, r⟩ := s a _ hac
    exact ⟨m, e _ _ h (fun _ q => by cases q), r.mono te⟩
section
variable {X : Cx} {x : Str} {hsp : HSp} {te : DE} {P : Addr} {params : Arguments} {body : Expr} {scope : Scope} {p lpos pos : Pos}
theorem qe_lam {k : Nat} (hr : Room (k + 2) X.A) (h : HCalK X k x hsp) (T : Tab X P) (hg : Gl X x) (hdb : (x == ("__debug__" : Str)) = false) (L : LamX.LamS X.env.scope scope) (hdef : defaultsOf params X.env = ([], []))
    (hbind : ∀ (q : Str) (cl : List (Str × Addr)) (pm cv ctv : Value), bindArgs (PySem.W.kla_fn "<lambda>" q params body scope cl pm cv ctv) ⟨[], []⟩ = pure [])
    (hbody : ∀ (A : Around) (outer : List PySem.Env) (s : Shared) (H : Hp) (E : XK) (f c : Addr), Room k (A.deeper (LamX.lamEnv X scope s.heap.objs.size f c)) → QE (lamN X A outer s H E scope f c) body te) :
    QE X (.Call (.Name x p) [.Lambda params body scope lpos] [] pos) (dLam P hsp te) := by
  obtain ⟨g, fd, N, a, qual, sg, cdv, F, hm, hk, hb⟩ := h
  obtain ⟨c0, TB, hcode, hq⟩ := T
  refine ⟨fun ρ G Q xq σ H h rs s tk pins s0 I => ?_⟩
  obtain ⟨gP, one, h⟩ := h
  refine wpAny_Call_Name_kw (ld_glob I hg hm ?_ hdb)
  refine PySem.W.callWith_K (h₀ := X.base) I.ok.mod.kin hk ?_ (by rfl) (by rfl)
  show wpAny _ _ (spliced ((false, eval (.Lambda params body scope lpos) X.env) :: backTo pos (starEach [] X.env))) _ _ s0
  have hT : LamX.Tabs [(P, lamQ)] H := fun q hq2 => by
    rw [List.mem_singleton] at hq2
    subst hq2
    exact s P _ gP
  refine Calls.spliced_cons (LamX.lam_make2 I TB hcode (T := [(P, lamQ)]) (by rw [hq]; simp) (fun q hq2 _ => by rw [List.mem_singleton] at hq2; rw [hq2, hq]) hT hdef (L.has I.ok) fun f c pm ctv H1 s1 I1 eN T1 hf hfn hfr hco => ?_)
  rw [hq] at hco
  refine Calls.spliced_nil ⟨I1.kIn, ?_⟩
  obtain ⟨s2, e2⟩ := extN_ext eN (T1 (P, lamQ) (by simp)) s one
  have rs2 := rs.mono e2.tup
  obtain ⟨vs, ds, cap, rd⟩ := cap_of rs2
  obtain ⟨hN, hv, hd, hcd⟩ := F.slot
  have rc := F.run X.A X.stack s1 H1 f c vs ds (clos (te ρ)) G Q xq (Lift X.K G H1 Q) (fun cls d H' => XW X cls d σ H') hr clos_mono I1.env0 (hb s1 [.ref f] I1.kIn rfl) hco rd
    (fun hr' pn xe p1 p2 => qe_clos (qe_thunk (k := k) I1 L hq hf hfn hfr (hbind _ _ _ _ _) cap hr' (fun A outer s H E hr2 => hbody A outer s H E f c hr2) hN hv hd hcd)) s2 h (fun v H' l => l)
    (fun z cls d G' H' x1 x2 x3 x4 => tk.ex z cls d G' H' x1 x2 (e2.trans x3) x4)
  refine wpAny_call (codeAny_mono rc fun r s' hq => ?_)
  cases r with
  | error e => exact passes_max pins H1 s1 e s' I1 hq
  | ok fl =>
    cases fl with
    | ret u =>
      obtain ⟨v, H', I', r, l⟩ := I1.after hq
      exact ⟨v, H', I', r, Lift.back e2 _ _ l⟩
    | next => exact False.elim hq
    | brk => exact False.elim hq
    | cont => exact False.elim hq
end
end DL
namespace DL
open PySem PySem.Spec PyProof.Rows L2
/-! an attribute as a target -/
section
variable {X : Cx} {C : Addr} {o e : Expr} {es : List Expr} {to : DE} {tas : DA} {f x : Str} {pos p apos : Pos} {S : List Nat} {sp : DSp}
theorem wg_fld {σ : L2.St} {H : Hp} {v : V} {Q : L2.St → Hp → Prop} (h : WE X o σ H fun x H1 => ∃ a C dx fs, x = .ref a ∧ H1 a = some (.ins C dx fs) ∧ Cls X.K C ∧ NoAttr X.K C f ∧ fs.length < 1000 ∧ Q σ (upd H1 a (.ins C dx (putF f v fs)))) : WG X (.Attribute o f pos) v σ H Q := by
  intro pins s u I r
  have k := h pins s I
  intro Γ pp hΓ
  simp only [assign_Attribute, Sem.wp_bind', Sem.wp_holding, Sem.wp_cmd_standAt, Sem.wp_release, Sem.wp_pure']
  refine Sem.wp_mono _ Γ _ (fun ov p1 s1 h1 => ?_) (fun _ _ _ h' => h') _ _ (k Γ _ hΓ)
  obtain ⟨x, H1, I1, rx, a, C, dx, fs, rfl, ha, c, n, l, q⟩ := h1
  obtain rfl : ov = Value.ref a := rx
  exact Sem.wp_mono _ Γ _ (fun _ _ s3 h3 => h3) (fun _ _ _ h' => h') _ _ ((setattr_ok (Q := fun _ s' => ∃ σ' H', Inv X pins σ' H' s' ∧ Q σ' H') I1 ha c n l r fun s2 I2 => ⟨σ, _, I2, q⟩) Γ _ hΓ)
/-- o.f = v -/
def gFl (C : Addr) (f : Str) (to : DE) : DG := fun d ρ G Q ex => to ρ G (fun x G1 => ∃ a dx fs, x = .ref a ∧ G1 a = some (.ins C dx fs) ∧ fs.length < 1000 ∧ Q ρ (put G1 a (.ins C dx (putFD f d fs)))) (fun z => ex z ρ)
theorem qg_fld (c : Cls X.K C) (n : NoAttr X.K C f) (ho : QE X o to) : QG X (.Attribute o f pos) S (gFl C f to) := by
  refine ⟨fun d ρ G Q ex v σ H h r rs s tk => wg_fld ?_⟩
  refine (ho.run ρ G _ _ σ H h rs s (tk.tk rs)).imp fun w H1 ⟨x, G1, rx, s1, e1, a, dx, fs, ed, g, hl, q⟩ => ?_
  subst ed
  cases rx
  obtain ⟨m, hm, rm⟩ := ins_at s1 g
  have tm : TupExt X.K H1 (upd H1 a (.ins C dx (putF f v m))) := tup_mut hm rfl
  refine ⟨a, C, dx, m, rfl, hm, c, n, by rw [rm.length]; exact hl, .refl, ρ, _, (rs.mono e1.tup).mono tm, s1.mut (c := .ins C dx (putFD f d fs)) (c0 := .ins C dx fs) hm rfl ⟨_, upd_same, (kv_put (r.mono e1.tup) rm).mono tm⟩, e1.trans (.mut g hm rfl), q⟩
end
/-! defs that ask that nothing is being shown (repr) -/
structure GOk (P : Program) (w : World) (K : PySem.W.Frag) (mg : Str → Option Value) (base : Heap) (CX : CXT) (k : Nat) (f : Addr) (fd : FuncData) (ps : List Str) (sp : Sp) : Prop where
  run : ∀ (A : Around) (outer : List Env) (s : Shared) (H : Hp) (args : Args) (us : List Value) (vs : List V) (Q : VK) (E : XK), A.guards = some [] → Room k A → Env0 P w K mg base A outer s H → BindsTo s fd args (ps.zip us) → Vals vs us → sp vs H Q E →
    codeAny (model P w) A (.call (.ref f) args) (CR CX outer P w H s Q E) s
def GCal (X : Cx) (x : Str) (sp : DSp) : Prop := ∃ (k : Nat) (f : Addr) (fd : FuncData) (ps : List Str), GOk X.prog X.w X.K X.mg X.base (L2N.CX X.prog X.w) k f fd ps (liftSp X.K sp) ∧ (∀ ds G Q xq, sp ds G Q xq → ds.length = ps.length) ∧ Room k X.A ∧ X.A.guards = some [] ∧
  X.mg x = some (.ref f) ∧ PySem.W.keepIn X.K (.ref f) = true ∧ Binds X.K fd ps []
section
variable {X : Cx} {e : Expr} {es : List Expr} {tas : DA} {x : Str} {pos p : Pos} {sp : DSp}
theorem qe_fnG (c : GCal X x sp) (hg : Gl X x) (ha : QA X (e :: es) tas) (hd : (x == ("__debug__" : Str)) = false) (hn : (e :: es).all noStar = true) : QE X (.Call (.Name x p) (e :: es) [] pos) (dFn sp tas) := by
  obtain ⟨k, f, fd, ps, F, hl, hr, hgd, hm, hk, hb⟩ := c
  rw [List.all_cons, Bool.and_eq_true] at hn
  refine ⟨fun ρ G Q xq σ H h rs s tk pins s0 I => ?_⟩
  refine wpAny_Call_Name_kw (ld_glob I hg hm ?_ hd)
  refine PySem.W.callWith_K (h₀ := X.base) I.ok.mod.kin hk (thn ((ha.run ρ G _ xq σ H h rs s tk) pos pins s0 I) ?_) (starEach_cons hn.1) (starEach_any hn.2 _)
  rintro us s1 ⟨vs, H1, I1, rv, ds, G1, r1, sm1, e1, q1⟩
  refine ⟨I1.kIn, ?_⟩
  have hlen : us.length = ps.length := by rw [← rv.length, r1.length]; exact hl _ _ _ _ q1
  have b := hb s1 us I1.kIn (by rw [List.append_nil]; exact hlen)
  rw [List.append_nil] at b
  refine wpAny_call (codeAny_mono (F.run X.A X.stack s1 H1 ⟨us, []⟩ us vs (Lift X.K G H Q) (fun cls d H' => XW X cls d σ H') hgd hr I1.env0 b rv ⟨ds, G1, Q, xq, r1, sm1, q1, fun v H' l => Lift.back e1 _ _ l, fun z cls d G' H' x1 x2 x3 x4 => tk.ex z cls d G' H' x1 x2 (e1.trans x3) x4⟩) fun r s' hq => ?_)
  cases r with
  | error e => exact passes_max pins H1 s1 e s' I1 hq
  | ok fl =>
    cases fl with
    | ret u => exact I1.after hq
    | next => exact False.elim hq
    | brk => exact False.elim hq
    | cont => exact False.elim hq
end
end DL
namespace DL
open PySem PySem.Spec PyProof.Rows L2
/-! the core: what a body does, without its text -/
mutual
inductive CE where
  | var (i : Nat) | int (i : Int) | bl (b : Bool) | non | str (s : Str) | glb (j : Nat) | tn (t : Tn)
  | bin (op : Operator) (a b : CE) | cmp (op : CmpOp) (a b : CE) | chn (op op' : CmpOp) (a b c : CE)
  | neg (a : CE) | not (a : CE) | and (a b : CE) | or (a b : CE) | ife (t : CT) (a b : CE)
  | tup (as : CA) | lst (as : CA) | ix (a b : CE) | sl (a : CE) (lo hi : CO) | rev (a : CE)
  | blt (b : Bl) (as : CA) | isiT (ts : List Tn) (a : CE) | mt (m : Mt) (o : CE) (as : CA) | fn (j : Nat) (as : CA)
  | lc (own : List (Str × Nat)) (g : CG) (it : CI) (t : CTs) (e : CE)
  | dct (r : CKv) | dix (a b : CE) | rg (l : Bool) (a : CE)
  | sset (a : CE) | lset (a : CE) | get1 (o a : CE) | get2 (o a b : CE) | dof (a : CE) | rep (a : CE) | dzip (a b : CE)
  | fld (j : Nat) (o : CE) (f : Str) | meth (i j : Nat) (m : Str) (o : CE) (as : CA) | mk (i j : Nat) (as : CA)
  | lstv (as : CA) | lcv (own : List (Str × Nat)) (g : CG) (it : CI) (t : CTs) (e : CE) | addv (a b : CE) | slv (a : CE) (lo hi : CO) | revv (a : CE) | frz (a : CE)
  | ssetv (a : CE) | lofv (a : CE) | sofv (a : CE) | rgv (a : CE) | splv (o a : CE) | dctv (r : CKv)
  | isX (y : Str) (a : CE) | isB (a : CE) | isV (a : CE) | xf (a : CE) (f : Str) | fnX (j : Nat) (as : CA) | fnv (x : Str) | callL (i : Nat) (alts : List (Str × Nat)) (as : CA) | tupn (as : CA) | tix (o : CE) (as : CA)
  | lcx (own : List (Str × Nat)) (g : CG) (it : CI) (t : CTs) (e : CE)
  | kby (j : Nat) (f : Str) (i v l : Nat) | kinv (j : Nat) (f : Str) (i v : Nat) | ask (j : Nat) | lamc (i j : Nat) (e : CE) | lseti (a : CE) | fnG (j : Nat) (as : CA) | maxd (a : CE) (n : Int) | mkx (x : Str) (fl : List Str) (as : CA)
inductive CKv where
  | nil | cons (k v : CE) (r : CKv)
inductive CA where
  | nil | cons (e : CE) (as : CA)
inductive CO where
  | no | part (e : CE)
inductive CT where
  | cmp (op : CmpOp) (a b : CE) | neu (a b : CE) | chn (op op' : CmpOp) (a b c : CE) | not (t : CT) | and (t u : CT) | or (t u : CT) | val (e : CE)
inductive CTs where
  | no | one (t : CT)
inductive CI where
  | it (e : CE) | rng1 (a : CE) | rng2 (a b : CE) | enum (a : CE) | zip (a b : CE) | rev (a : CE)
inductive CG where
  | name (i : Nat) | tup (n : Nat) (gs : CGs) | sub (o i : CE) | dsub (o i : CE) | tupX (n : Nat) (gs : CGs) | fld (j : Nat) (f : Str) (o : CE)
inductive CGs where
  | nil | cons (g : CG) (gs : CGs)
end
mutual
inductive CS where
  | fldset (j : Nat) (f : Str) (o e : CE) | fail | pass | brk | cont | ret (e : CE) | retN | expr (e : CE) | asg (g : CG) (e : CE) | par2 (i j : Nat) (as : CA) | par3 (i j l : Nat) (as : CA) | asgT (g : CG) (e : CE)
  | setLc (i : Nat) (own : List (Str × Nat)) (g : CG) (it : CI) (t : CTs) (e : CE)
  | setLcv (i : Nat) (own : List (Str × Nat)) (g : CG) (it : CI) (t : CTs) (e : CE)
  | setLcx (i : Nat) (own : List (Str × Nat)) (g : CG) (it : CI) (t : CTs) (e : CE)
  | raise (x : Str) (fl : List Str) (as : CA) | tryx (b : CB) (hs : CH)
  | ifs (t : CT) (a b : CB) | fors (g : CG) (it : CI) (b : CB) | whil (t : CT) (b : CB)
inductive CB where
  | nil | cons (s : CS) (b : CB) | lk (i : Nat) (b : CB)
inductive CH where
  | nil | cons (y : Str) (i : Option Nat) (b : CB) (r : CH)
end
def CB.drop : CB → Nat → CB
  | b, 0 => b
  | .nil, _ => .nil
  | .cons _ b, n + 1 => b.drop n
  | .lk _ b, n + 1 => b.drop n
section
variable (F : List DSp) (Gm : List D)
def glbD (j : Nat) : DE := fun _ G Q _ => match Gm[j]? with
  | some d => Q d G
  | none => False
def fnD (j : Nat) (t : DA) : DE := match F[j]? with
  | some sp => dFn sp t
  | none => fun _ _ _ _ => False
def clsD (j : Nat) (k : Addr → DE) : DE := match Gm[j]? with
  | some (.ref C) => k C
  | _ => fun _ _ _ _ => False
def spD (i : Nat) (k : DSp → DE) : DE := match F[i]? with
  | some sp => k sp
  | none => fun _ _ _ _ => False
def askD (j : Nat) : DE := match F[j]? with
  | some sp => thkR sp
  | none => fun _ _ _ _ => False
def lamD (i j : Nat) (te : DE) : DE := match F[i]?, F[j]? with
  | some sp, some tp => fun ρ G Q xq => ∃ P, tp = tblSp P ∧ dLam P (hspOf sp) te ρ G Q xq
  | _, _ => fun _ _ _ _ => False
def clsG (j : Nat) (k : Addr → DG) : DG := match Gm[j]? with
  | some (.ref C) => k C
  | _ => fun _ _ _ _ _ => False
def clsS (j : Nat) (k : Addr → DS) : DS := match Gm[j]? with
  | some (.ref C) => k C
  | _ => fun _ _ _ => False
def altsT : List (Str × Nat) → List (Str × DSp)
  | [] => []
  | (x, j) :: r => match F[j]? with
    | some sp => (x, sp) :: altsT r
    | none => altsT r
def slots : CG → List Nat
  | .name i => [i]
  | .tup _ gs => slotsL gs
  | .sub _ _ => []
  | .dsub _ _ => []
  | .tupX _ gs => slotsL gs
  | .fld _ _ _ => []
where slotsL : CGs → List Nat
  | .nil => []
  | .cons g gs => slots g ++ slotsL gs
mutual
def denE : CE → DE
  | .var i => dVar i | .int i => dC (.int i) | .bl b => dC (.bl b) | .non => dC .non | .str s => dC (.str s) | .glb j => glbD Gm j | .tn t => dC (.ty t.ty)
  | .bin op a b => dOp (binD op) (denE a) (denE b)
  | .cmp op a b => dOp (cmpD op) (denE a) (denE b)
  | .chn op op' a b c => dChn (cmpD op) (cmpD op') (denE a) (denE b) (denE c)
  | .neg a => dUn negD (denE a)
  | .not a => dNotV (denE a)
  | .and a b => dAndV (denE a) (denE b)
  | .or a b => dOrV (denE a) (denE b)
  | .ife t a b => dIfE (denT t) (denE a) (denE b)
  | .tup as => dTup (denA as)
  | .lst as => dLst (denA as)
  | .ix a b => dOp ixD (denE a) (denE b)
  | .sl a lo hi => dSl (denE a) (denO lo) (denO hi)
  | .rev a => dUn revD (denE a)
  | .blt b as => dCall (bltD b) (denA as)
  | .tupn as => dCall tupnR (denA as)
  | .tix o as => dTix (denE o) (denA as)
  | .isiT ts a => dUn (isiT ts) (denE a)
  | .mt m o as => dMt m.ty (mtD m) (denE o) (denA as)
  | .fn j as => fnD F j (denA as)
  | .lc own g it t e => dLc (denI it) (denG g) (denTs t) (denE e) (own.map (·.2))
  | .dct r => dDisp (denKv r)
  | .dix a b => dOp dixD (denE a) (denE b)
  | .rg l a => dRg l (denE a)
  | .sset a => dUn ssetD (denE a)
  | .lset a => dUn lsetD (denE a)
  | .get1 o a => dGet1 (denE o) (denE a)
  | .get2 o a b => dGet2 (denE o) (denE a) (denE b)
  | .dof a => dUn dofD (denE a)
  | .rep a => dUn repD (denE a)
  | .dzip a b => dDzip (denE a) (denE b)
  | .fld j o f => clsD Gm j fun C => dUn (fldD C f) (denE o)
  | .meth i j m o as => clsD Gm j fun C => spD F i fun sp => dMeth C m sp (denE o) (denA as)
  | .mk i j as => clsD Gm j fun C => spD F i fun sp => dMk C sp (denA as)
  | .lstv as => dLstV (denA as)
  | .lcv own g it t e => dLcV (denI it) (denG g) (denTs t) (denE e) (own.map (·.2))
  | .addv a b => dOp addV (denE a) (denE b)
  | .slv a lo hi => dSlV (denE a) (denO lo) (denO hi)
  | .revv a => dUn revV (denE a)
  | .frz a => dFrz (denE a)
  | .ssetv a => dUn ssetV (denE a)
  | .lofv a => dUn lofV (denE a)
  | .sofv a => dUn sofV (denE a)
  | .rgv a => dUn rgVD (denE a)
  | .splv o a => dSplV (denE o) (denE a)
  | .dctv r => dDispV (denKv r)
  | .isX y a => dUn (isXD fun x => decide (x = y)) (denE a)
  | .isB a => dUn (isXD fun _ => true) (denE a)
  | .isV a => dUn (isXD fun _ => true) (denE a)
  | .xf a f => dUn (xfD f) (denE a)
  | .fnX j as => fnD F j (denA as)
  | .fnv x => dC (.fn x)
  | .callL i alts as => dCallL i (altsT F alts) (denA as)
  | .lcx own g it t e => dLcV (denIX it) (denG g) (denTs t) (denE e) (own.map (·.2))
  | .kby j f i v l => clsD Gm j fun C => dKby C f i l
  | .kinv j f i v => clsD Gm j fun C => dKinv C f i
  | .ask j => askD F j
  | .lamc i j e => lamD F i j (denE e)
  | .lseti a => dUn lsetID (denE a)
  | .fnG j as => fnD F j (denA as)
  | .maxd a n => dUn (maxdR n) (denE a)
  | .mkx x fl as => mkxD x fl (denA as)
def denKv : CKv → DKv
  | .nil => kvNil
  | .cons k v r => kvCons (denE k) (denE v) (denKv r)
def denA : CA → DA
  | .nil => dNil
  | .cons e as => dCons (denE e) (denA as)
def denO : CO → DO
  | .no => dNoPart
  | .part e => dPart (denE e)
def denT : CT → DT
  | .cmp op a b => dTest (dOp (cmpD op) (denE a) (denE b))
  | .neu a b => dTest (dOp neuD (denE a) (denE b))
  | .chn op op' a b c => dTest (dChn (cmpD op) (cmpD op') (denE a) (denE b) (denE c))
  | .not t => dNotT (denT t)
  | .and t u => dAndT (denT t) (denT u)
  | .or t u => dOrT (denT t) (denT u)
  | .val e => dTru (denE e)
def denTs : CTs → DT
  | .no => dYes
  | .one t => denT t
def denI : CI → DI
  | .it e => dIter (denE e)
  | .rng1 a => dItA rng1 (dCons (denE a) dNil)
  | .rng2 a b => dItA rng2 (dCons (denE a) (dCons (denE b) dNil))
  | .enum a => dItA enm (dCons (denE a) dNil)
  | .zip a b => dItA zpp (dCons (denE a) (dCons (denE b) dNil))
  | .rev a => dIRev (denE a)
def denIX : CI → DI
  | .rng1 a => dItA rng1 (dCons (denE a) dNil)
  | .zip a b => dItA zpv (dCons (denE a) (dCons (denE b) dNil))
  | _ => fun _ _ _ _ => False
def denG : CG → DG
  | .name i => gNm i
  | .tup n gs => gTp n (denGs gs)
  | .sub o i => gSb (denE o) (denE i)
  | .dsub o i => gDs (denE o) (denE i)
  | .tupX n gs => gTpX n (denGs gs)
  | .fld j f o => clsG Gm j fun C => gFl C f (denE o)
def denGs : CGs → DGs
  | .nil => gNl
  | .cons g gs => gCs (denG g) (denGs gs)
end
mutual
def denS : CS → DS
  | .fldset j f o e => clsS Gm j fun C => sFldD C f (denE F Gm e) (denE F Gm o)
  | .fail => fun _ _ _ => False
  | .pass => sNext | .brk => sBreak | .cont => sCont
  | .ret e => sRet (denE F Gm e)
  | .retN => sRetN
  | .expr e => sDrop (denE F Gm e)
  | .asg g e => sAsg (denE F Gm e) (denG F Gm g)
  | .par2 i j as => sPar2 i j (denA F Gm as)
  | .par3 i j l as => sPar3 i j l (denA F Gm as)
  | .asgT g e => sAsg (denE F Gm e) (denG F Gm g)
  | .setLc i own g it t e => sAsg (dLc (denI F Gm it) (denG F Gm g) (denTs F Gm t) (denE F Gm e) (own.map (·.2))) (gNm i)
  | .setLcv i own g it t e => sAsg (dLcV (denI F Gm it) (denG F Gm g) (denTs F Gm t) (denE F Gm e) (own.map (·.2))) (gNm i)
  | .setLcx i own g it t e => sAsg (dLcV (denIX F Gm it) (denG F Gm g) (denTs F Gm t) (denE F Gm e) (own.map (·.2))) (gNm i)
  | .raise x fl as => sRaise x fl (denA F Gm as)
  | .tryx b hs => sTry (denB b) (denH hs)
  | .ifs t a b => sIf (denT F Gm t) (denB a) (denB b)
  | .fors g it b => sFor (denI F Gm it) (denG F Gm g) (denB b)
  | .whil t b => sWhile (denT F Gm t) (denB b)
def denB : CB → DS
  | .nil => sNext
  | .cons s b => sSeq (denS s) (denB b)
  | .lk i b => sLk i (denB b)
def denH : CH → List (Str × Option Nat × DS)
  | .nil => []
  | .cons y i b r => (y, i, denB b) :: denH r
end
end
/-! the check of a body against its core -/
structure Ci where
  N : List Str
  sc : Scope
  own : Option Scope
  fns : List Str
  glbs : List Str
  blts : List Str
  hot : Bool := false
  exs : List Str := []
  beat : Bool := false
  rs : List (Str × List Str) := []
  fvs : List Str := []
  thk : Bool := false
  lam : Bool := false
  grd : Bool := false
/-- c.m -/
def dot (c m : Str) : Str := c ++ "." ++ m
def dotted (x : Str) : Bool := x.cps.contains 46
/-- the name of a def that may be called where an exception is handled -/
def bang (x : Str) : Str := "!" ++ x
def banged (x : Str) : Bool := x.cps.contains 33 || (x.cps.contains 63 || (x.cps.contains 38 || x.cps.contains 37))
/-- the names of a lambda that is called, of a def that calls one, of the table of lambdas -/
def quest (x : Str) : Str := "?" ++ x
def amp (x : Str) : Str := "&" ++ x
def tblN : Str := "?&tbl"
/-- the name of a def that asks that nothing is being shown -/
def pct (x : Str) : Str := "%" ++ x
/-- a plain def's name in the table of callees -/
def plainN (x : Str) : Bool := !dotted x && !banged x
def Ci.fldOk (ci : Ci) (j : Nat) (f : Str) : Bool := match ci.glbs[j]? with
  | some c => ci.blts.contains (dot c f)
  | none => false
def Ci.metOk (ci : Ci) (i j : Nat) (m : Str) : Bool := match ci.glbs[j]?, ci.fns[i]? with
  | some c, some y => decide (y = dot c m)
  | _, _ => false
def Ci.blk (ci : Ci) (scope : Scope) : Ci := { ci with sc := relS scope ci.sc, own := some scope }
def Ci.lamb (ci : Ci) (scope : Scope) : Ci := { ci with sc := scope, own := some scope, blts := ci.blts.filter (fun x => !decide (x = "repr")), thk := false, lam := false, grd := false }
def isK (k : Option NameKind) (l : NameKind) : Bool := match k, l with
  | some .local, .local => true
  | some .cell, .cell => true
  | some .free, .free => true
  | some .globalImplicit, .globalImplicit => true
  | _, _ => false
theorem isK_eq {k : Option NameKind} {l : NameKind} (h : isK k l = true) : k = some l := by
  unfold isK at h
  split at h <;> first | rfl | cases h
def Ci.kind (ci : Ci) (x : Str) : Option NameKind := ci.sc.names.lookup x
def Ci.vis (ci : Ci) (x : Str) : Bool := isK (ci.kind x) .local || isK (ci.kind x) .cell || isK (ci.kind x) .free
def Ci.loc (ci : Ci) (x : Str) : Bool := isK (ci.kind x) .local || (isK (ci.kind x) .cell && (match ci.own with
  | none => true
  | some s => isK (s.names.lookup x) .cell))
def Ci.gl (ci : Ci) (x : Str) : Bool := isK (ci.kind x) .globalImplicit
def Ci.slot (ci : Ci) (i : Nat) (x : Str) : Bool := match ci.N[i]? with
  | some y => decide (y = x)
  | none => false
def Ci.bltin (ci : Ci) (x : Str) : Bool := ci.gl x && ci.blts.contains x
def okName (x : Str) : Bool := !(x == ("__debug__" : Str)) && !(x == ("__classdict__" : Str))
def nthIs (l : List Str) (j : Nat) (x : Str) : Bool := match l[j]? with
  | some y => decide (y = x)
  | none => false
def plainTest : Expr → Bool
  | .UnaryOp .Not _ _ => false | .BoolOp .. => false | .IfExp .. => false | .Compare .. => false
  | _ => true
def Ci.isV (ci : Ci) (i : Nat) : Expr → Bool
  | .Name x _ => ci.slot i x && ci.vis x && okName x
  | _ => false
def Ci.isT (ci : Ci) (i : Nat) : Expr → Bool
  | .Name x _ => ci.slot i x && ci.loc x
  | _ => false
def noPar : Arguments → Bool
  | ⟨[], [], none, [], [], none, []⟩ => true
  | _ => false
def chkKby (ci : Ci) (j : Nat) (f : Str) (i v l : Nat) : Expr → Bool
  | .ListComp x0 [⟨tg, .Attribute o f1 fpos, [.Compare (.Subscript (.Attribute o2 f2 _) x1 _) [.Eq] [y1] _], 0⟩] scope _ =>
    match tg with
    | .Name y _ => blkC ci.N ci.sc scope [(y, v)] && decide (f1 = f) && decide (f2 = f) && ci.fldOk j f && ci.isV i o && noSet (.Attribute o f1 fpos) && (ci.blk scope).isV i o2 && (ci.blk scope).isV v x0 && (ci.blk scope).isV v x1 && (ci.blk scope).isV l y1 && (ci.blk scope).isT v tg && baseOk o && baseOk o2 && plainSub x1 && !behindInMarks .Eq y1 && decide (i ≠ v) && decide (l ≠ v) && decide (v < ci.N.length) && !ci.hot
    | _ => false
  | _ => false
def chkKinv (ci : Ci) (j : Nat) (f : Str) (i v : Nat) : Expr → Bool
  | .ListComp (.Tuple [.Subscript (.Attribute o2 f2 _) x1 _, x0] _ _) [⟨tg, .Attribute o f1 fpos, [], 0⟩] scope _ =>
    match tg with
    | .Name y _ => blkC ci.N ci.sc scope [(y, v)] && decide (f1 = f) && decide (f2 = f) && ci.fldOk j f && ci.isV i o && noSet (.Attribute o f1 fpos) && (ci.blk scope).isV i o2 && (ci.blk scope).isV v x0 && (ci.blk scope).isV v x1 && (ci.blk scope).isT v tg && baseOk o && baseOk o2 && plainSub x1 && noStar x0 && decide (i ≠ v) && decide (v < ci.N.length) && !ci.hot
    | _ => false
  | _ => false
mutual
def chkE (ci : Ci) : CE → Expr → Bool
  | .var i, z0 => match z0 with
    | .Name x _ => ci.slot i x && ci.vis x && okName x
    | _ => false
  | .int i, z0 => match z0 with
    | .Constant (.int j) _ _ => decide (i = j)
    | _ => false
  | .bl b, z0 => match z0 with
    | .Constant (.bool c) _ _ => b == c
    | _ => false
  | .non, z0 => match z0 with
    | .Constant .none _ _ => true
    | _ => false
  | .str s, z0 => match z0 with
    | .Constant (.str t) _ _ => decide (s = t)
    | _ => false
  | .glb j, z0 => match z0 with
    | .Name x _ => ci.gl x && nthIs ci.glbs j x && okName x
    | _ => false
  | .tn t, z0 => match z0 with
    | .Name x _ => decide (x = t.name) && ci.bltin x
    | _ => false
  | .bin op a b, z0 => match z0 with
    | .BinOp e op' e' _ => decide (op = op') && chkE ci a e && chkE ci b e'
    | _ => false
  | .cmp op a b, z0 => match z0 with
    | .Compare e [op'] [e'] _ => decide (op = op') && !behindInMarks op e' && chkE ci a e && chkE ci b e'
    | _ => false
  | .chn op1 op2 a b c, z0 => match z0 with
    | .Compare e [op1', op2'] [e', e''] _ => decide (op1 = op1') && decide (op2 = op2') && !lastMarks [op1, op2] [e', e''] && chkE ci a e && chkE ci b e' && chkE ci c e''
    | _ => false
  | .neg a, z0 => match z0 with
    | .UnaryOp .USub e _ => chkE ci a e
    | _ => false
  | .not a, z0 => match z0 with
    | .UnaryOp .Not e _ => chkE ci a e
    | _ => false
  | .and a b, z0 => match z0 with
    | .BoolOp .And (e :: e' :: es) p => chkE ci a e && (match es with
        | [] => chkE ci b e'
        | _ :: _ => chkE ci b (.BoolOp .And (e' :: es) p))
    | _ => false
  | .or a b, z0 => match z0 with
    | .BoolOp .Or (e :: e' :: es) p => chkE ci a e && (match es with
        | [] => chkE ci b e'
        | _ :: _ => chkE ci b (.BoolOp .Or (e' :: es) p))
    | _ => false
  | .ife t a b, z0 => match z0 with
    | .IfExp c e e' _ => chkT ci t c && chkE ci a e && chkE ci b e'
    | _ => false
  | .tup as, z0 => match z0 with
    | .Tuple es _ _ => chkA ci as es
    | _ => false
  | .lst as, z0 => match z0 with
    | .List es _ => chkA ci as es
    | _ => false
  | .ix a b, z0 => match z0 with
    | .Subscript e e' _ => plainSub e' && chkE ci a e && chkE ci b e'
    | _ => false
  | .sl a lo hi, z0 => match z0 with
    | .Subscript e (.Slice l h none _) _ => chkE ci a e && chkO ci lo l && chkO ci hi h
    | _ => false
  | .rev a, z0 => match z0 with
    | .Subscript e (.Slice none none (some (.UnaryOp .USub (.Constant (.int 1) _ _) _)) _) _ => chkE ci a e
    | _ => false
  | .blt b as, z0 => match z0 with
    | .Call (.Name x _) (e :: es) [] _ => decide (x = b.name) && ci.bltin x && chkA ci as (e :: es) && (!ci.hot || !needC b)
    | _ => false
  | .tupn as, z0 => match z0 with
    | .Call (.Name x _) (e :: es) [] _ => decide (x = "tuple") && ci.bltin x && chkA ci as (e :: es)
    | _ => false
  | .tix o as, z0 => match z0 with
    | .Call (.Attribute e x ap) (e1 :: es) [] cp => decide (x = "index") && baseOk e && (ap.endLine == cp.line) && decide ((e1 :: es).length < 30) && chkE ci o e && chkA ci as (e1 :: es)
    | _ => false
  | .isiT ts a, z0 => match z0 with
    | .Call (.Name x _) [e, .Tuple es _ _] [] _ => decide (x = "isinstance") && ci.bltin x && noStar e && isNames ts es && (ts.all fun t => ci.bltin t.name) && decide (ts.length ≤ 1000) && chkE ci a e
    | _ => false
  | .mt m o as, z0 => match z0 with
    | .Call (.Attribute e x ap) es [] cp => decide (x = m.name) && baseOk e && (ap.endLine == cp.line) && decide (es.length < 30) && chkE ci o e && chkA ci as es
    | _ => false
  | .fn j as, z0 => match z0 with
    | .Call (.Name x _) es [] _ => ci.gl x && nthIs ci.fns j x && okName x && chkA ci as es && plainN x && !ci.hot
    | _ => false
  | .fld j o f, z0 => match z0 with
    | .Attribute e x _ => decide (x = f) && baseOk e && ci.fldOk j f && chkE ci o e
    | _ => false
  | .meth i j m o as, z0 => match z0 with
    | .Call (.Attribute e x ap) es [] cp => decide (x = m) && baseOk e && (ap.endLine == cp.line) && decide (es.length < 30) && ci.metOk i j m && chkE ci o e && chkA ci as es && !ci.hot
    | _ => false
  | .mk i j as, z0 => match z0 with
    | .Call (.Name x _) es [] _ => ci.gl x && nthIs ci.glbs j x && ci.metOk i j "__init__" && okName x && chkA ci as es && !ci.hot
    | _ => false
  | .lc own g it t e, z0 => match z0 with
    | .ListComp elt [⟨tg, iter, ifs, 0⟩] scope _ => blkC ci.N ci.sc scope own && noSet iter && (slots g).all (fun j => decide (j ∈ own.map (·.2))) && chkI ci it tg iter && chkG (ci.blk scope) g tg && chkTs (ci.blk scope) t ifs && chkE (ci.blk scope) e elt && !ci.hot
    | _ => false
  | .dct r, z0 => match z0 with
    | .Dict ks vs _ => decide (ks.length ≤ 15) && chkKv ci r ks vs
    | _ => false
  | .dix a b, z0 => match z0 with
    | .Subscript e e' _ => plainSub e' && chkE ci a e && chkE ci b e'
    | _ => false
  | .rg l a, z0 => match z0 with
    | .Call (.Name x _) [.Call (.Name y _) [e] [] _] [] _ => decide (x = if l then "list" else "tuple") && ci.bltin x && decide (y = "range") && ci.bltin y && noStar e && chkE ci a e && !ci.hot
    | _ => false
  | .sset a, z0 => match z0 with
    | .Call (.Name x _) [.Call (.Name y _) [e] [] _] [] _ => decide (x = "sorted") && ci.bltin x && decide (y = "set") && ci.bltin y && noStar e && chkE ci a e && !ci.hot
    | _ => false
  | .lset a, z0 => match z0 with
    | .Call (.Name x _) [.Call (.Name y _) [e] [] _] [] _ => decide (x = "len") && ci.bltin x && decide (y = "set") && ci.bltin y && noStar e && chkE ci a e && !ci.hot
    | _ => false
  | .get1 o a, z0 => match z0 with
    | .Call (.Attribute e x ap) [e1] [] cp => decide (x = "get") && baseOk e && noStar e1 && (ap.endLine == cp.line) && chkE ci o e && chkE ci a e1
    | _ => false
  | .get2 o a b, z0 => match z0 with
    | .Call (.Attribute e x ap) [e1, e2] [] cp => decide (x = "get") && baseOk e && noStar e1 && noStar e2 && (ap.endLine == cp.line) && chkE ci o e && chkE ci a e1 && chkE ci b e2
    | _ => false
  | .dof a, z0 => match z0 with
    | .Call (.Name x _) [e] [] _ => decide (x = "dict") && ci.bltin x && noStar e && chkE ci a e && !ci.hot
    | _ => false
  | .dzip a b, z0 => match z0 with
    | .Call (.Name x _) [.Call (.Name y _) [e1, e2] [] _] [] _ => decide (x = "dict") && ci.bltin x && decide (y = "zip") && ci.bltin y && noStar e1 && noStar e2 && chkE ci a e1 && chkE ci b e2 && !ci.hot
    | _ => false
  | .rep a, z0 => match z0 with
    | .Call (.Name x _) [e] [] _ => decide (x = "repr") && ci.bltin x && noStar e && chkE ci a e
    | _ => false
  | .lstv as, z0 => match z0 with
    | .List es _ => chkA ci as es
    | _ => false
  | .lcv own g it t e, z0 => match z0 with
    | .ListComp elt [⟨tg, iter, ifs, 0⟩] scope _ => blkC ci.N ci.sc scope own && noSet iter && (slots g).all (fun j => decide (j ∈ own.map (·.2))) && chkI ci it tg iter && chkG (ci.blk scope) g tg && chkTs (ci.blk scope) t ifs && chkE (ci.blk scope) e elt && !ci.hot
    | _ => false
  | .addv a b, z0 => match z0 with
    | .BinOp e op' e' _ => decide (op' = .Add) && chkE ci a e && chkE ci b e'
    | _ => false
  | .slv a lo hi, z0 => match z0 with
    | .Subscript e (.Slice l h none _) _ => chkE ci a e && chkO ci lo l && chkO ci hi h
    | _ => false
  | .revv a, z0 => match z0 with
    | .Subscript e (.Slice none none (some (.UnaryOp .USub (.Constant (.int 1) _ _) _)) _) _ => chkE ci a e
    | _ => false
  | .frz a, z0 => chkE ci a z0
  | .ssetv a, z0 => match z0 with
    | .Call (.Name x _) [.Call (.Name y _) [e] [] _] [] _ => decide (x = "sorted") && ci.bltin x && decide (y = "set") && ci.bltin y && noStar e && chkE ci a e && !ci.hot
    | _ => false
  | .lofv a, z0 => match z0 with
    | .Call (.Name x _) [e] [] _ => decide (x = "list") && ci.bltin x && noStar e && chkE ci a e
    | _ => false
  | .sofv a, z0 => match z0 with
    | .Call (.Name x _) [e] [] _ => decide (x = "sorted") && ci.bltin x && noStar e && chkE ci a e
    | _ => false
  | .rgv a, z0 => match z0 with
    | .Call (.Name x _) [.Call (.Name y _) [e] [] _] [] _ => decide (x = "list") && ci.bltin x && decide (y = "range") && ci.bltin y && noStar e && chkE ci a e && !ci.hot
    | _ => false
  | .splv o a, z0 => match z0 with
    | .Call (.Attribute e x ap) [e1] [] cp => decide (x = "split") && baseOk e && noStar e1 && (ap.endLine == cp.line) && chkE ci o e && chkE ci a e1
    | _ => false
  | .dctv r, z0 => match z0 with
    | .Dict ks vs _ => decide (ks.length ≤ 15) && chkKv ci r ks vs
    | _ => false
  | .isX y a, z0 => match z0 with
    | .Call (.Name x _) [e, .Name y' _] [] _ => decide (x = "isinstance") && ci.bltin x && decide (y' = y) && ci.gl y && ci.exs.contains y && okName y && noStar e && chkE ci a e
    | _ => false
  | .isB a, z0 => match z0 with
    | .Call (.Name x _) [e, .Name y' _] [] _ => decide (x = "isinstance") && ci.bltin x && decide (y' = "BeatError") && ci.gl y' && ci.beat && noStar e && chkE ci a e
    | _ => false
  | .isV a, z0 => match z0 with
    | .Call (.Name x _) [e, .Name y' _] [] _ => decide (x = "isinstance") && ci.bltin x && decide (y' = "ValueError") && ci.bltin y' && noStar e && chkE ci a e
    | _ => false
  | .xf a f, z0 => match z0 with
    | .Attribute e x _ => decide (x = f) && baseOk e && decide (f ∈ xFields) && chkE ci a e
    | _ => false
  | .fnX j as, z0 => match z0 with
    | .Call (.Name x _) (e :: es) [] _ => ci.gl x && nthIs ci.fns j (bang x) && okName x && chkA ci as (e :: es) && ci.hot
    | _ => false
  | .fnv x, z0 => match z0 with
    | .Name x' _ => decide (x' = x) && ci.gl x && ci.fvs.contains x && okName x
    | _ => false
  | .callL i alts as, z0 => match z0 with
    | .Call (.Name y _) (e :: es) [] _ => ci.slot i y && ci.vis y && okName y && alts.all (fun q => nthIs ci.fns q.2 q.1 && plainN q.1) && chkA ci as (e :: es) && !ci.hot
    | _ => false
  | .lcx own g it t e, z0 => match z0 with
    | .ListComp elt [⟨tg, iter, ifs, 0⟩] scope _ => blkC ci.N ci.sc scope own && noSet iter && (slots g).all (fun j => decide (j ∈ own.map (·.2))) && chkIX ci it tg iter && chkG (ci.blk scope) g tg && chkTs (ci.blk scope) t ifs && chkE (ci.blk scope) e elt && ci.hot
    | _ => false
  | .kby j fl i v l, z0 => chkKby ci j fl i v l z0
  | .kinv j fl i v, z0 => chkKinv ci j fl i v z0
  | .ask j, z0 => match z0 with
    | .Call (.Name x _) [] [] _ => ci.thk && !ci.hot && ci.own.isNone && nthIs ci.fns j (quest x)
    | _ => false
  | .lamc i j e, z0 => match z0 with
    | .Call (.Name x _) [.Lambda ps body scope _] [] _ => ci.lam && !ci.hot && ci.own.isNone && ci.gl x && okName x && nthIs ci.fns i (amp x) && nthIs ci.fns j tblN && LamX.lamSB ci.sc scope && noPar ps && chkE (ci.lamb scope) e body
    | _ => false
  | .lseti a, z0 => match z0 with
    | .Call (.Name x _) [.Call (.Name y _) [e] [] _] [] _ => decide (x = "len") && ci.bltin x && decide (y = "set") && ci.bltin y && noStar e && chkE ci a e && !ci.hot
    | _ => false
  | .fnG j as, z0 => match z0 with
    | .Call (.Name x _) (e :: es) [] _ => ci.gl x && nthIs ci.fns j (pct x) && okName x && chkA ci as (e :: es) && ci.grd && !ci.hot
    | _ => false
  | .maxd a n, z0 => match z0 with
    | .Call (.Name x _) [e] [⟨some y, .Constant (.int m) _ _, _⟩] _ => decide (x = "max") && ci.bltin x && decide (y = "default") && decide (m = n) && noStar e && chkE ci a e && !ci.hot
    | _ => false
  | .mkx x fl as, z0 => match z0 with
    | .Call (.Name y _) es [] _ => decide (y = x) && ci.gl x && okName x && decide ((x, fl) ∈ ci.rs) && decide (fl.length ≤ 1000) && (!es.isEmpty || fl.isEmpty) && chkA ci as es && !ci.hot
    | _ => false
def chkIX (ci : Ci) : CI → Expr → Expr → Bool
  | .rng1 a, z0, z1 => match z0, z1 with
    | _, .Call (.Name x _) [e] [] _ => decide (x = "range") && ci.bltin x && noStar e && chkE ci a e
    | _, _ => false
  | .zip a b, z0, z1 => match z0, z1 with
    | .Tuple _ _ _, .Call (.Name x _) [e, e'] [] _ => decide (x = "zip") && ci.bltin x && noStar e && noStar e' && chkE ci a e && chkE ci b e'
    | _, _ => false
  | _, _, _ => false
def chkKv (ci : Ci) : CKv → List (Option Expr) → List Expr → Bool
  | .nil, z0, z1 => match z0, z1 with
    | [], [] => true
    | _, _ => false
  | .cons k v r, z0, z1 => match z0, z1 with
    | some k' :: ks, v' :: vs => chkE ci k k' && chkE ci v v' && chkKv ci r ks vs
    | _, _ => false
def chkA (ci : Ci) : CA → List Expr → Bool
  | .nil, z0 => match z0 with
    | [] => true
    | _ => false
  | .cons e as, z0 => match z0 with
    | x :: xs => noStar x && chkE ci e x && chkA ci as xs
    | _ => false
def chkO (ci : Ci) : CO → Option Expr → Bool
  | .no, z0 => match z0 with
    | none => true
    | _ => false
  | .part e, z0 => match z0 with
    | some x => chkE ci e x
    | _ => false
def chkT (ci : Ci) : CT → Expr → Bool
  | .cmp op a b, z0 => match z0 with
    | .Compare e [op'] [e'] _ => decide (op = op') && !behindInMarks op e' && chkE ci a e && chkE ci b e'
    | _ => false
  | .neu a b, z0 => match z0 with
    | .Compare e [.NotEq] [e'] _ => !behindInMarks .NotEq e' && chkE ci a e && chkE ci b e'
    | _ => false
  | .chn op1 op2 a b c, z0 => match z0 with
    | .Compare e [op1', op2'] [e', e''] _ => decide (op1 = op1') && decide (op2 = op2') && !lastMarks [op1, op2] [e', e''] && chkE ci a e && chkE ci b e' && chkE ci c e''
    | _ => false
  | .not t, z0 => match z0 with
    | .UnaryOp .Not e _ => chkT ci t e
    | _ => false
  | .and a b, z0 => match z0 with
    | .BoolOp .And (e :: e' :: es) p => chkT ci a e && (match es with
        | [] => chkT ci b e'
        | _ :: _ => chkT ci b (.BoolOp .And (e' :: es) p))
    | _ => false
  | .or a b, z0 => match z0 with
    | .BoolOp .Or (e :: e' :: es) p => chkT ci a e && (match es with
        | [] => chkT ci b e'
        | _ :: _ => chkT ci b (.BoolOp .Or (e' :: es) p))
    | _ => false
  | .val e, z0 => match z0 with
    | x => plainTest x && chkE ci e x
def chkTs (ci : Ci) : CTs → List Expr → Bool
  | .no, z0 => match z0 with
    | [] => true
    | _ => false
  | .one t, z0 => match z0 with
    | [x] => chkT ci t x
    | _ => false
def chkI (ci : Ci) : CI → Expr → Expr → Bool
  | .it e, z0, z1 => match z0, z1 with
    | _, x => chkE ci e x
  | .rng1 a, z0, z1 => match z0, z1 with
    | _, .Call (.Name x _) [e] [] _ => decide (x = "range") && ci.bltin x && noStar e && chkE ci a e
    | _, _ => false
  | .rng2 a b, z0, z1 => match z0, z1 with
    | _, .Call (.Name x _) [e, e'] [] _ => decide (x = "range") && ci.bltin x && noStar e && noStar e' && chkE ci a e && chkE ci b e'
    | _, _ => false
  | .enum a, z0, z1 => match z0, z1 with
    | .Tuple _ _ _, .Call (.Name x _) [e] [] _ => decide (x = "enumerate") && ci.bltin x && noStar e && chkE ci a e
    | _, _ => false
  | .zip a b, z0, z1 => match z0, z1 with
    | .Tuple _ _ _, .Call (.Name x _) [e, e'] [] _ => decide (x = "zip") && ci.bltin x && noStar e && noStar e' && chkE ci a e && chkE ci b e'
    | _, _ => false
  | .rev a, z0, z1 => match z0, z1 with
    | _, .Call (.Name x _) [e] [] _ => decide (x = "reversed") && ci.bltin x && noStar e && chkE ci a e
    | _, _ => false
def chkG (ci : Ci) : CG → Expr → Bool
  | .name i, z0 => match z0 with
    | .Name x _ => ci.slot i x && ci.loc x
    | _ => false
  | .tup n gs, z0 => match z0 with
    | .Tuple es _ _ => decide (n = es.length) && chkGs ci gs es && !ci.hot
    | _ => false
  | .tupX n gs, z0 => match z0 with
    | .Tuple es _ _ => decide (n = es.length) && chkGs ci gs es && ci.hot
    | _ => false
  | .sub o i, z0 => match z0 with
    | .Subscript e e' _ => plainSub e' && chkE ci o e && chkE ci i e'
    | _ => false
  | .dsub o i, z0 => match z0 with
    | .Subscript e e' _ => plainSub e' && chkE ci o e && chkE ci i e'
    | _ => false
  | .fld j fl o, z0 => match z0 with
    | .Attribute e x _ => decide (x = fl) && ci.fldOk j fl && chkE ci o e
    | _ => false
def chkGs (ci : Ci) : CGs → List Expr → Bool
  | .nil, z0 => match z0 with
    | [] => true
    | _ => false
  | .cons g gs, z0 => match z0 with
    | x :: xs => noStar x && chkG ci g x && chkGs ci gs xs
    | _ => false
end
/-! a context that fits -/
/-- what a lower context must have -/
structure Lo (F : List DSp) (Gm : List D) (ci : Ci) (Y : Cx) : Prop where
  cal : ∀ (j : Nat) x sp, ci.fns[j]? = some x → F[j]? = some sp → plainN x = true → Cal Y x sp ∧ Y.mg x = some (.ref (He.ga Y.K x))
  hcal : ∀ (j : Nat) x sp, ci.fns[j]? = some (bang x) → F[j]? = some sp → HCal Y x sp
  met : ∀ (i j : Nat) c C m sp, ci.glbs[j]? = some c → Gm[j]? = some (.ref C) → ci.fns[i]? = some (dot c m) → F[i]? = some sp → MCal Y C m sp
  mkr : ∀ (i j : Nat) c C sp, ci.glbs[j]? = some c → Gm[j]? = some (.ref C) → ci.fns[i]? = some (dot c "__init__") → F[i]? = some sp → KCal Y c C sp
  rai : ∀ x fl, (x, fl) ∈ ci.rs → RCal Y x fl
/-- where lambdas are handed on -/
def LamF (F : List DSp) (Gm : List D) (ci : Ci) (X : Cx) : Prop := ∃ k, Room (k + 2) X.A ∧ (∀ (i : Nat) x sp, ci.fns[i]? = some (amp x) → F[i]? = some sp → HCalK X k x (hspOf sp)) ∧
  (∀ (j : Nat) P, ci.fns[j]? = some tblN → F[j]? = some (tblSp P) → Tab X P) ∧
  ∀ Y : Cx, Y.prog = X.prog → Y.w = X.w → Y.K = X.K → Y.mg = X.mg → Y.base = X.base → Room k Y.A → Lo F Gm ci Y
structure Fit (F : List DSp) (Gm : List D) (ci : Ci) (X : Cx) : Prop where
  N : X.N = ci.N
  nd : ci.N.Nodup
  sc : X.env.scope = ci.sc
  kind : ci.sc.kind = .function
  calm : ci.hot = false → X.calm = true
  hotc : ci.hot = true → X.calm = false
  own : match ci.own with
    | none => ∀ x, X.fn x = true
    | some s => ∀ x, X.fn x = (s.names.lookup x == some .cell)
  stk : ci.own = none → X.stack = X.env :: X.outer ∧ X.env.frame = some X.env.locals
  hu : X.A.units + 65 < cLine
  cal : ci.hot = false → ∀ (j : Nat) x sp, ci.fns[j]? = some x → F[j]? = some sp → plainN x = true → Cal X x sp ∧ X.mg x = some (.ref (He.ga X.K x))
  hcal : ∀ (j : Nat) x sp, ci.fns[j]? = some (bang x) → F[j]? = some sp → HCal X x sp
  cls : ∀ (j : Nat) C, Gm[j]? = some (.ref C) → Cls X.K C
  fld : ∀ (j : Nat) c C fl, ci.glbs[j]? = some c → Gm[j]? = some (.ref C) → dot c fl ∈ ci.blts → NoAttr X.K C fl
  met : ci.hot = false → ∀ (i j : Nat) c C m sp, ci.glbs[j]? = some c → Gm[j]? = some (.ref C) → ci.fns[i]? = some (dot c m) → F[i]? = some sp → MCal X C m sp
  mkr : ci.hot = false → ∀ (i j : Nat) c C sp, ci.glbs[j]? = some c → Gm[j]? = some (.ref C) → ci.fns[i]? = some (dot c "__init__") → F[i]? = some sp → KCal X c C sp
  glb : ∀ (j : Nat) x d, ci.glbs[j]? = some x → Gm[j]? = some d → Glb X x d
  blt : ∀ x, x ∈ ci.blts → X.mg x = none
  gd : ("repr" : Str) ∈ ci.blts → X.A.guards = some []
  exl : ∀ x, x ∈ ci.exs → Lf X.K x ∧ X.mg x = some (.ref (He.ga X.K x))
  bt : ci.beat = true → X.mg "BeatError" = some (.ref (bt X.K))
  rai : ci.hot = false → ∀ x fl, (x, fl) ∈ ci.rs → RCal X x fl
  fvl : ∀ x, x ∈ ci.fvs → X.mg x = some (.ref (He.ga X.K x))
  thk : ci.thk = true → ci.hot = false → ci.own = none → ∀ (j : Nat) x sp, ci.fns[j]? = some (quest x) → F[j]? = some sp → ∀ (pn : List (Addr × Obj)) (xe : Value → Shared → Prop) (p1 p2 : Pos), QE (X.tr pn xe) (.Call (.Name x p1) [] [] p2) (thkR sp)
  lamf : ci.lam = true → ci.hot = false → ci.own = none → LamF F Gm ci X
  gcal : ci.grd = true → ci.hot = false → ∀ (j : Nat) x sp, ci.fns[j]? = some (pct x) → F[j]? = some sp → GCal X x sp
section
variable {F : List DSp} {Gm : List D} {ci : Ci} {X : Cx}
theorem Fit.slot (f : Fit F Gm ci X) {i : Nat} {x : Str} (h : ci.slot i x = true) : X.N[i]? = some x := by
  rw [f.N]
  unfold Ci.slot at h
  split at h
  · rename_i y e
    rw [e, of_decide_eq_true h]
  · cases h
theorem Fit.vis (f : Fit F Gm ci X) {x : Str} (h : ci.vis x = true) : Vis X.env.scope x := by
  unfold Ci.vis at h
  rw [Bool.or_eq_true, Bool.or_eq_true] at h
  unfold Vis
  rw [f.sc]
  rcases h with (h | h) | h
  · exact .inl (isK_eq h)
  · exact .inr (.inl (isK_eq h))
  · exact .inr (.inr (isK_eq h))
theorem Fit.gl (f : Fit F Gm ci X) {x : Str} (h : ci.gl x = true) : Gl X x := by
  unfold Gl
  show X.env.scope.names.lookup x = _
  rw [f.sc]
  exact isK_eq h
theorem Fit.bltin (f : Fit F Gm ci X) {x : Str} (h : ci.bltin x = true) : Gl X x ∧ X.mg x = none := by
  unfold Ci.bltin at h
  rw [Bool.and_eq_true] at h
  exact ⟨f.gl h.1, f.blt x (List.contains_iff_mem.mp h.2)⟩
theorem Fit.grd (f : Fit F Gm ci X) (h : ci.bltin "repr" = true) : X.A.guards = some [] := by
  unfold Ci.bltin at h
  rw [Bool.and_eq_true] at h
  exact f.gd (List.contains_iff_mem.mp h.2)
theorem Fit.fldN (f : Fit F Gm ci X) {j : Nat} {C : Addr} {fl : Str} (h : ci.fldOk j fl = true) (g : Gm[j]? = some (.ref C)) : NoAttr X.K C fl := by
  unfold Ci.fldOk at h
  split at h
  · rename_i c e
    exact f.fld j c C fl e g (List.contains_iff_mem.mp h)
  · cases h
theorem Fit.metM (f : Fit F Gm ci X) (hh : ci.hot = false) {i j : Nat} {C : Addr} {m : Str} {sp : DSp} (h : ci.metOk i j m = true) (g : Gm[j]? = some (.ref C)) (hs : F[i]? = some sp) : MCal X C m sp := by
  unfold Ci.metOk at h
  split at h
  · rename_i c y e1 e2
    have := of_decide_eq_true h
    subst this
    exact f.met hh i j c C m sp e1 g e2 hs
  · cases h
theorem Fit.mkM (f : Fit F Gm ci X) (hh : ci.hot = false) {i j : Nat} {C : Addr} {c : Str} {sp : DSp} (h : ci.metOk i j "__init__" = true) (hc : ci.glbs[j]? = some c) (g : Gm[j]? = some (.ref C)) (hs : F[i]? = some sp) : KCal X c C sp := by
  unfold Ci.metOk at h
  split at h
  · rename_i c' y e1 e2
    have := of_decide_eq_true h
    subst this
    rw [hc] at e1
    cases e1
    exact f.mkr hh i j c C sp hc g e2 hs
  · cases h
theorem Fit.loc (f : Fit F Gm ci X) {x : Str} (h : ci.loc x = true) : L2.Loc X.env.scope x ∧ (X.fn x = true ∨ X.env.scope.names.lookup x = some .local) := by
  unfold Ci.loc at h
  rw [Bool.or_eq_true, Bool.and_eq_true] at h
  unfold L2.Loc
  rw [f.sc]
  rcases h with h | ⟨h, h2⟩
  · exact ⟨.inl (isK_eq h), .inr (isK_eq h)⟩
  · refine ⟨.inr (isK_eq h), .inl ?_⟩
    have fo := f.own
    split at h2
    · rename_i e
      rw [e] at fo
      exact fo x
    · rename_i s e
      rw [e] at fo
      rw [fo x, isK_eq h2]
      rfl
theorem okName_ok {x : Str} (h : okName x = true) : (x == ("__debug__" : Str)) = false ∧ (x == ("__classdict__" : Str)) = false := by
  unfold okName at h
  rw [Bool.and_eq_true] at h
  exact ⟨by simpa using h.1, by simpa using h.2⟩
theorem nth_ok {l : List Str} {j : Nat} {x : Str} (h : nthIs l j x = true) : l[j]? = some x := by
  unfold nthIs at h
  split at h
  · rename_i y e
    rw [e, of_decide_eq_true h]
  · cases h
theorem Fit.blk (f : Fit F Gm ci X) {scope : Scope} (hk : scope.kind = .function) {Y : Cx} (b : Blk X scope Y) : Fit F Gm (ci.blk scope) Y := by
  obtain ⟨s, H, C, cl, fp, rfl⟩ := b
  refine ⟨f.N, f.nd, ?_, hk, f.calm, f.hotc, fun _ => rfl, (fun z => by cases z), f.hu, f.cal, f.hcal, f.cls, f.fld, f.met, f.mkr, f.glb, f.blt, f.gd, f.exl, f.bt, f.rai, f.fvl, fun _ _ z => (by cases z), fun _ _ z => (by cases z), f.gcal⟩
  show relS scope X.env.scope = relS scope ci.sc
  rw [f.sc]
/-- in a try's body, in an except suite -/
theorem Fit.tr (f : Fit F Gm ci X) (pn : List (Addr × Obj)) (xe : Value → Shared → Prop) : Fit F Gm ci (X.tr pn xe) :=
  ⟨f.N, f.nd, f.sc, f.kind, f.calm, f.hotc, f.own, f.stk, f.hu, f.cal, f.hcal, f.cls, f.fld, f.met, f.mkr, f.glb, f.blt, f.gd, f.exl, f.bt, f.rai, f.fvl, f.thk, f.lamf, f.gcal⟩
def Ci.inHot (ci : Ci) : Ci := { ci with hot := true }
theorem Fit.suite (f : Fit F Gm ci X) (a : Addr) (pn : List (Addr × Obj)) : Fit F Gm ci.inHot (X.suite a pn) :=
  ⟨f.N, f.nd, f.sc, f.kind, fun z => Bool.noConfusion z, fun _ => rfl, f.own, f.stk, f.hu, fun z => Bool.noConfusion z, fun j x sp h1 h2 => by
    obtain ⟨k, g, fd, ps, F', hr, r⟩ := f.hcal j x sp h1 h2
    exact ⟨k, g, fd, ps, F', ⟨hr.dp, hr.un⟩, r⟩, f.cls, f.fld, fun z => Bool.noConfusion z, fun z => Bool.noConfusion z, f.glb, f.blt, f.gd, f.exl, f.bt, fun z => Bool.noConfusion z, f.fvl, fun _ z => Bool.noConfusion z, fun _ z => Bool.noConfusion z, fun _ z => Bool.noConfusion z⟩
/-- in a lambda's body -/
theorem Fit.lamb (f : Fit F Gm ci X) (hh : ci.hot = false) {k : Nat} {scope : Scope} {A : Around} {outer : List PySem.Env} {s : Shared} {H : Hp} {E : XK} {g c : Addr} (L : LamX.LamS ci.sc scope) (hr : Room k (A.deeper (LamX.lamEnv X scope s.heap.objs.size g c))) (lo : Lo F Gm ci (lamN X A outer s H E scope g c)) : Fit F Gm (ci.lamb scope) (lamN X A outer s H E scope g c) where
  N := f.N
  nd := f.nd
  sc := rfl
  kind := L.kind
  calm := fun _ => rfl
  hotc := fun z => by rw [show (ci.lamb scope).hot = ci.hot from rfl, hh] at z; cases z
  own := fun x => by
    show false = (scope.names.lookup x == some .cell)
    cases e : scope.names.lookup x with
    | none => rfl
    | some k2 =>
      have := (L.own _ (PySem.mem_of_lookup e)).2
      cases k2 <;> first | rfl | exact (this rfl).elim
  stk := fun z => by cases z
  hu := by
    have := hr.un
    show (A.deeper _).units + 65 < cLine
    omega
  cal := fun _ => lo.cal
  hcal := lo.hcal
  cls := f.cls
  fld := fun j c C fl h1 h2 h3 => f.fld j c C fl h1 h2 (List.mem_filter.mp h3).1
  met := fun _ => lo.met
  mkr := fun _ => lo.mkr
  glb := f.glb
  blt := fun x h => f.blt x (List.mem_filter.mp h).1
  gd := fun z => by
    have := (List.mem_filter.mp z).2
    simp at this
  exl := f.exl
  bt := f.bt
  rai := fun _ => lo.rai
  fvl := f.fvl
  thk := fun z => by cases z
  lamf := fun z => by cases z
  gcal := fun z => by cases z
theorem not_hot {h : Bool} (z : (!h) = true) : h = false := by cases h <;> simp_all
theorem altsT_ok {alts : List (Str × Nat)} {x : Str} {sp : DSp} : (altsT F alts).lookup x = some sp → ∃ j, (x, j) ∈ alts ∧ F[j]? = some sp := by
  induction alts with
  | nil => intro h; cases h
  | cons q r ih =>
    intro h
    obtain ⟨y, j⟩ := q
    unfold altsT at h
    split at h
    · rename_i s e
      rw [List.lookup_cons] at h
      split at h
      · rename_i z
        cases h
        have : x = y := eq_of_beq z
        subst this
        exact ⟨j, List.mem_cons_self .., e⟩
      · obtain ⟨i, h1, h2⟩ := ih h
        exact ⟨i, List.mem_cons_of_mem _ h1, h2⟩
    · obtain ⟨i, h1, h2⟩ := ih h
      exact ⟨i, List.mem_cons_of_mem _ h1, h2⟩
theorem chkA_star : ∀ {as : CA} {es : List Expr}, chkA ci as es = true → es.all noStar = true
  | .nil, es, h => by
    unfold chkA at h
    split at h
    · rfl
    · cases h
  | .cons e as, es, h => by
    unfold chkA at h
    split at h
    · rw [Bool.and_eq_true, Bool.and_eq_true] at h
      rw [List.all_cons, h.1.1, chkA_star h.2]
      rfl
    · cases h
theorem chkGs_star : ∀ {as : CGs} {es : List Expr}, chkGs ci as es = true → es.all noStar = true
  | .nil, es, h => by
    unfold chkGs at h
    split at h
    · rfl
    · cases h
  | .cons e as, es, h => by
    unfold chkGs at h
    split at h
    · rw [Bool.and_eq_true, Bool.and_eq_true] at h
      rw [List.all_cons, h.1.1, chkGs_star h.2]
      rfl
    · cases h
theorem plainIx_ok {b : Expr} (h : plainSub b = true) : PlainIx b := by
  intro o i
  cases b <;> first | rfl | cases h
theorem plainTest_ok {a : Expr} {env : PySem.Env} (h : plainTest a = true) : ∀ whole, isTrue a env whole = (do let v ← whole; standAt a.pos; holding [v] (truthy v)) := by
  intro whole
  cases a with
  | UnaryOp op x p => cases op <;> first | rfl | cases h
  | _ => first | rfl | cases h
def isBop : Expr → Bool
  | .BoolOp .. => true
  | _ => false
/-- a test, and where it is a chain of and, or, whatever the whole is -/
structure QTW (X : Cx) (e : Expr) (t : DT) : Prop where
  qt : QT X e t
  qw : isBop e = true → QW X e t
end
end DL
namespace DL
open PySem PySem.Spec PyProof.Rows L2
section
variable {F : List DSp} {Gm : List D}
theorem clsD_of {j : Nat} {k : Addr → DE} {ρ : Ev} {G : Sto} {Q : DQ} {xq : XQ} (h : clsD Gm j k ρ G Q xq) : ∃ C, Gm[j]? = some (.ref C) ∧ k C ρ G Q xq := by
  unfold clsD at h
  cases e : Gm[j]? with
  | none => rw [e] at h; exact h.elim
  | some d =>
    rw [e] at h
    cases d with
    | ref C => exact ⟨C, rfl, h⟩
    | _ => exact h.elim
theorem askD_of {j : Nat} {ρ : Ev} {G : Sto} {Q : DQ} {xq : XQ} (h : askD F j ρ G Q xq) : ∃ sp, F[j]? = some sp ∧ thkR sp ρ G Q xq := by
  unfold askD at h
  cases e : F[j]? with
  | none => rw [e] at h; exact h.elim
  | some d => rw [e] at h; exact ⟨d, rfl, h⟩
theorem lamD_of {i j : Nat} {te : DE} {ρ : Ev} {G : Sto} {Q : DQ} {xq : XQ} (h : lamD F i j te ρ G Q xq) : ∃ sp P, F[i]? = some sp ∧ F[j]? = some (tblSp P) ∧ dLam P (hspOf sp) te ρ G Q xq := by
  unfold lamD at h
  cases e : F[i]? with
  | none => rw [e] at h; exact h.elim
  | some d =>
    cases e2 : F[j]? with
    | none => rw [e, e2] at h; exact h.elim
    | some d2 =>
      rw [e, e2] at h
      obtain ⟨P, rfl, q⟩ := h
      exact ⟨d, P, rfl, rfl, q⟩
theorem isV_ok {ci : Ci} {X : Cx} {i : Nat} {e : Expr} (f : Fit F Gm ci X) (h : ci.isV i e = true) : PE X e (tVar i) := by
  unfold Ci.isV at h
  split at h
  · simp only [Bool.and_eq_true] at h
    exact pe_var (f.slot h.1.1) (f.vis h.1.2) (okName_ok h.2).1 (okName_ok h.2).2
  · cases h
theorem isT_ok {ci : Ci} {X : Cx} {i : Nat} {e : Expr} (f : Fit F Gm ci X) (h : ci.isT i e = true) : PG X e (gName i) := by
  unfold Ci.isT at h
  split at h
  · simp only [Bool.and_eq_true] at h
    exact pg_name (by rw [f.N]; exact f.nd) (f.slot h.1) (f.loc h.2).1 (f.loc h.2).2
  · cases h
set_option maxHeartbeats 0
mutual
theorem okE : ∀ (c : CE) (ci : Ci) (X : Cx) (e : Expr), Fit F Gm ci X → chkE ci c e = true → QE X e (denE F Gm c)
  | .var i, ci, X, e, f, h => by
    unfold chkE at h
    split at h
    · simp only [Bool.and_eq_true] at h
      obtain ⟨⟨h1, h2⟩, h3⟩ := h
      exact qe_var (f.slot h1) (f.vis h2) (okName_ok h3).1 (okName_ok h3).2
    · cases h
  | .int i, ci, X, e, f, h => by
    unfold chkE at h
    split at h
    · cases of_decide_eq_true h
      exact qe_int
    · cases h
  | .bl b, ci, X, e, f, h => by
    unfold chkE at h
    split at h
    · cases eq_of_beq h
      exact qe_bl
    · cases h
  | .non, ci, X, e, f, h => by
    unfold chkE at h
    split at h
    · exact qe_non
    · cases h
  | .str s, ci, X, e, f, h => by
    unfold chkE at h
    split at h
    · cases of_decide_eq_true h
      exact qe_str
    · cases h
  | .glb j, ci, X, e, f, h => by
    unfold chkE at h
    split at h
    · simp only [Bool.and_eq_true] at h
      obtain ⟨⟨h1, h2⟩, h3⟩ := h
      refine ⟨fun ρ G Q xq σ H q rs s tk => ?_⟩
      have q : glbD Gm j ρ G Q xq := q
      unfold glbD at q
      split at q
      · rename_i d ed
        exact (qe_glb (f.gl h1) (f.glb j _ d (nth_ok h2) ed) (okName_ok h3).1).run ρ G Q xq σ H q rs s tk
      · exact q.elim
    · cases h
  | .tn t, ci, X, e, f, h => by
    unfold chkE at h
    split at h
    · simp only [Bool.and_eq_true, decide_eq_true_eq] at h
      obtain ⟨rfl, h⟩ := h
      exact qe_tn (f.bltin h).1 (f.bltin h).2
    · cases h
  | .bin op a b, ci, X, e, f, h => by
    unfold chkE at h
    split at h
    · simp only [Bool.and_eq_true, decide_eq_true_eq] at h
      obtain ⟨⟨rfl, h1⟩, h2⟩ := h
      exact (op_binD op).op (okE a ci X _ f h1) (okE b ci X _ f h2)
    · cases h
  | .cmp op a b, ci, X, e, f, h => by
    unfold chkE at h
    split at h
    · simp only [Bool.and_eq_true, decide_eq_true_eq, Bool.not_eq_true'] at h
      obtain ⟨⟨⟨rfl, h0⟩, h1⟩, h2⟩ := h
      exact (op_cmpD f.hu op).cmp (okE a ci X _ f h1) (okE b ci X _ f h2) h0
    · cases h
  | .chn op op' a b c, ci, X, e, f, h => by
    unfold chkE at h
    split at h
    · simp only [Bool.and_eq_true, decide_eq_true_eq, Bool.not_eq_true'] at h
      obtain ⟨⟨⟨⟨⟨rfl, rfl⟩, h0⟩, h1⟩, h2⟩, h3⟩ := h
      exact qe_chn (op_cmpD f.hu op) (op_cmpD f.hu op') (okE a ci X _ f h1) (okE b ci X _ f h2) (okE c ci X _ f h3) h0
    · cases h
  | .neg a, ci, X, e, f, h => by
    unfold chkE at h
    split at h
    · exact qe_neg (okE a ci X _ f h)
    · cases h
  | .not a, ci, X, e, f, h => by
    unfold chkE at h
    split at h
    · exact qe_not (okE a ci X _ f h)
    · cases h
  | .and a b, ci, X, e, f, h => by
    unfold chkE at h
    split at h
    · rename_i z e1 e2 es p
      rw [Bool.and_eq_true] at h
      obtain ⟨h1, h2⟩ := h
      split at h2
      · exact qe_and (okE a ci X _ f h1) (qe_one (okE b ci X _ f h2))
      · exact qe_and (okE a ci X _ f h1) (okE b ci X _ f h2)
    · cases h
  | .or a b, ci, X, e, f, h => by
    unfold chkE at h
    split at h
    · rename_i z e1 e2 es p
      rw [Bool.and_eq_true] at h
      obtain ⟨h1, h2⟩ := h
      split at h2
      · exact qe_or (okE a ci X _ f h1) (qe_one (okE b ci X _ f h2))
      · exact qe_or (okE a ci X _ f h1) (okE b ci X _ f h2)
    · cases h
  | .ife t a b, ci, X, e, f, h => by
    unfold chkE at h
    split at h
    · simp only [Bool.and_eq_true] at h
      obtain ⟨⟨h0, h1⟩, h2⟩ := h
      exact qe_ife (okT t ci X _ f h0).qt (okE a ci X _ f h1) (okE b ci X _ f h2)
    · cases h
  | .tup as, ci, X, e, f, h => by
    unfold chkE at h
    split at h
    · exact qe_tup (okA as ci X _ f h)
    · cases h
  | .lst as, ci, X, e, f, h => by
    unfold chkE at h
    split at h
    · exact qe_lst (okA as ci X _ f h)
    · cases h
  | .ix a b, ci, X, e, f, h => by
    unfold chkE at h
    split at h
    · simp only [Bool.and_eq_true] at h
      obtain ⟨⟨h0, h1⟩, h2⟩ := h
      exact qe_ix (by have := f.hu; omega) (okE a ci X _ f h1) (okE b ci X _ f h2) (plainIx_ok h0)
    · cases h
  | .sl a lo hi, ci, X, e, f, h => by
    unfold chkE at h
    split at h
    · simp only [Bool.and_eq_true] at h
      obtain ⟨⟨h0, h1⟩, h2⟩ := h
      exact qe_sl (okE a ci X _ f h0) (okO lo ci X _ f h1) (okO hi ci X _ f h2)
    · cases h
  | .rev a, ci, X, e, f, h => by
    unfold chkE at h
    split at h
    · exact qe_rev (okE a ci X _ f h)
    · cases h
  | .blt b as, ci, X, e, f, h => by
    unfold chkE at h
    split at h
    · simp only [Bool.and_eq_true, decide_eq_true_eq] at h
      obtain ⟨⟨⟨rfl, h1⟩, h2⟩, hg⟩ := h
      have hs := chkA_star h2
      rw [List.all_cons, Bool.and_eq_true] at hs
      exact qe_blt (blt_ok b fun hb => f.calm (by rw [hb, Bool.not_true, Bool.or_false] at hg; exact not_hot hg)) (f.bltin h1).1 (f.bltin h1).2 (okA as ci X _ f h2) (starEach_cons hs.1) (starEach_any hs.2 _)
    · cases h
  | .tupn as, ci, X, e, f, h => by
    unfold chkE at h
    split at h
    · simp only [Bool.and_eq_true, decide_eq_true_eq] at h
      obtain ⟨⟨rfl, h1⟩, h2⟩ := h
      have hs := chkA_star h2
      rw [List.all_cons, Bool.and_eq_true] at hs
      exact qe_blt (b := .tuple) call_tupn (f.bltin h1).1 (f.bltin h1).2 (okA as ci X _ f h2) (starEach_cons hs.1) (starEach_any hs.2 _)
    · cases h
  | .tix o as, ci, X, e, f, h => by
    unfold chkE at h
    split at h
    · simp only [Bool.and_eq_true, decide_eq_true_eq] at h
      obtain ⟨⟨⟨⟨⟨rfl, h1⟩, h2⟩, h3⟩, h4⟩, h5⟩ := h
      exact qe_tix (okE o ci X _ f h4) (okA as ci X _ f h5) h1 (chkA_star h5) h3 h2
    · cases h
  | .isiT ts a, ci, X, e, f, h => by
    unfold chkE at h
    split at h
    · simp only [Bool.and_eq_true, decide_eq_true_eq, List.all_eq_true] at h
      obtain ⟨⟨⟨⟨⟨⟨rfl, h1⟩, h2⟩, h3⟩, h4⟩, h5⟩, h6⟩ := h
      exact qe_isiT (f.bltin h1).1 (f.bltin h1).2 (okE a ci X _ f h6) h2 h3 (fun t ht => f.bltin (h4 t ht)) h5
    · cases h
  | .mt m o as, ci, X, e, f, h => by
    unfold chkE at h
    split at h
    · rename_i z e1 x ap es cp
      simp only [Bool.and_eq_true, decide_eq_true_eq] at h
      obtain ⟨⟨⟨⟨⟨rfl, h1⟩, h2⟩, h3⟩, h4⟩, h5⟩ := h
      cases es with
      | nil =>
        cases as with
        | nil => exact qe_mt0 (mt_ok f.hu m) (okE o ci X _ f h4) h1 h2
        | cons _ _ => unfold chkA at h5; cases h5
      | cons e2 es => exact qe_mt (mt_ok f.hu m) (okE o ci X _ f h4) (okA as ci X _ f h5) h1 (chkA_star h5) h3 h2
    · cases h
  | .fn j as, ci, X, e, f, h => by
    unfold chkE at h
    split at h
    · rename_i z x ap es cp
      simp only [Bool.and_eq_true] at h
      obtain ⟨⟨⟨⟨⟨h1, h2⟩, h3⟩, h4⟩, h5⟩, hg⟩ := h
      have main : ∀ sp, F[j]? = some sp → QE X (.Call (.Name x ap) es [] cp) (dFn sp (denA F Gm as)) := fun sp hsp => by
        cases es with
        | nil =>
          cases as with
          | nil => exact qe_fn0 (f.cal (not_hot hg) j x sp (nth_ok h2) hsp h5).1 (f.gl h1) (okName_ok h3).1
          | cons _ _ => unfold chkA at h4; cases h4
        | cons e2 es => exact qe_fn (f.cal (not_hot hg) j x sp (nth_ok h2) hsp h5).1 (f.gl h1) (okA as ci X _ f h4) (okName_ok h3).1 (chkA_star h4)
      show QE X _ (fnD F j (denA F Gm as))
      unfold fnD
      split
      · rename_i sp hsp
        exact main sp hsp
      · exact ⟨fun _ _ _ _ _ _ q _ _ _ => q.elim⟩
    · cases h
  | .lc own g it t e0, ci, X, e, f, h => by
    unfold chkE at h
    split at h
    · rename_i z elt tg iter ifs scope p
      simp only [Bool.and_eq_true, List.all_eq_true, decide_eq_true_eq] at h
      obtain ⟨⟨⟨⟨⟨⟨⟨h1, h2⟩, h3⟩, h4⟩, h5⟩, h6⟩, h7⟩, hg⟩ := h
      have bo : BlkOk X.N X.env.scope scope own := by rw [f.N, f.sc]; exact blkOk_by h1
      exact qe_lc (f.calm (not_hot hg)) (by rw [f.N]; exact f.nd) (okI it ci X _ _ f h4) bo (fun Y hY => okG g (ci.blk scope) Y _ (f.blk bo.kind hY) h5) (fun Y hY => okTs t (ci.blk scope) Y _ (f.blk bo.kind hY) h6)
        (fun Y hY => okE e0 (ci.blk scope) Y _ (f.blk bo.kind hY) h7) h3 h2
    · cases h
  | .dct r, ci, X, e, f, h => by
    unfold chkE at h
    split at h
    · simp only [Bool.and_eq_true, decide_eq_true_eq] at h
      exact qe_disp (okKv r ci X _ _ f h.2) h.1
    · cases h
  | .dix a b, ci, X, e, f, h => by
    unfold chkE at h
    split at h
    · simp only [Bool.and_eq_true] at h
      obtain ⟨⟨h0, h1⟩, h2⟩ := h
      exact qe_dix (by have := f.hu; omega) (okE a ci X _ f h1) (okE b ci X _ f h2) (plainIx_ok h0)
    · cases h
  | .rg l a, ci, X, e, f, h => by
    unfold chkE at h
    split at h
    · simp only [Bool.and_eq_true, decide_eq_true_eq] at h
      obtain ⟨⟨⟨⟨⟨⟨h1, h2⟩, h3⟩, h4⟩, h5⟩, h6⟩, hg⟩ := h
      subst h3
      cases l with
      | true =>
        have h1 : _ = ("list" : Str) := h1
        subst h1
        exact qe_rgL (f.calm (not_hot hg)) (f.bltin h2).1 (f.bltin h2).2 (f.bltin h4).1 (f.bltin h4).2 (okE a ci X _ f h6) h5 rfl
      | false =>
        have h1 : _ = ("tuple" : Str) := h1
        subst h1
        exact qe_rgT (f.calm (not_hot hg)) (f.bltin h2).1 (f.bltin h2).2 (f.bltin h4).1 (f.bltin h4).2 (okE a ci X _ f h6) h5 rfl
    · cases h
  | .sset a, ci, X, e, f, h => by
    unfold chkE at h
    split at h
    · simp only [Bool.and_eq_true, decide_eq_true_eq] at h
      obtain ⟨⟨⟨⟨⟨⟨rfl, h2⟩, rfl⟩, h4⟩, h5⟩, h6⟩, hg⟩ := h
      exact qe_sset (f.calm (not_hot hg)) (Nat.lt_of_succ_lt f.hu) (f.bltin h2).1 (f.bltin h2).2 (f.bltin h4).1 (f.bltin h4).2 (okE a ci X _ f h6) h5
    · cases h
  | .lset a, ci, X, e, f, h => by
    unfold chkE at h
    split at h
    · simp only [Bool.and_eq_true, decide_eq_true_eq] at h
      obtain ⟨⟨⟨⟨⟨⟨rfl, h2⟩, rfl⟩, h4⟩, h5⟩, h6⟩, hg⟩ := h
      exact qe_lset (f.calm (not_hot hg)) (f.bltin h2).1 (f.bltin h2).2 (f.bltin h4).1 (f.bltin h4).2 (okE a ci X _ f h6) h5
    · cases h
  | .get1 o a, ci, X, e, f, h => by
    unfold chkE at h
    split at h
    · simp only [Bool.and_eq_true, decide_eq_true_eq] at h
      obtain ⟨⟨⟨⟨⟨rfl, h1⟩, h2⟩, h3⟩, h4⟩, h5⟩ := h
      exact qe_get1 (by have := f.hu; omega) (okE o ci X _ f h4) (okE a ci X _ f h5) h1 h2 h3
    · cases h
  | .get2 o a b, ci, X, e, f, h => by
    unfold chkE at h
    split at h
    · simp only [Bool.and_eq_true, decide_eq_true_eq] at h
      obtain ⟨⟨⟨⟨⟨⟨⟨rfl, h1⟩, h2⟩, h2'⟩, h3⟩, h4⟩, h5⟩, h6⟩ := h
      exact qe_get2 (by have := f.hu; omega) (okE o ci X _ f h4) (okE a ci X _ f h5) (okE b ci X _ f h6) h1 h2 h2' h3
    · cases h
  | .dof a, ci, X, e, f, h => by
    unfold chkE at h
    split at h
    · simp only [Bool.and_eq_true, decide_eq_true_eq] at h
      obtain ⟨⟨⟨⟨rfl, h2⟩, h5⟩, h6⟩, hg⟩ := h
      exact qe_dof (f.calm (not_hot hg)) (f.bltin h2).1 (f.bltin h2).2 (okE a ci X _ f h6) h5
    · cases h
  | .fld j o fl, ci, X, e, f, h => by
    unfold chkE at h
    split at h
    · simp only [Bool.and_eq_true, decide_eq_true_eq] at h
      obtain ⟨⟨⟨rfl, h1⟩, h2⟩, h3⟩ := h
      show QE X _ (clsD Gm j _)
      unfold clsD
      split
      · rename_i C g
        exact qe_fld (f.cls j C g) (f.fldN h2 g) (okE o ci X _ f h3) h1
      · exact ⟨fun _ _ _ _ _ _ q _ _ _ => q.elim⟩
    · cases h
  | .meth i j m o as, ci, X, e, f, h => by
    unfold chkE at h
    split at h
    · rename_i z e1 x ap es cp
      simp only [Bool.and_eq_true, decide_eq_true_eq] at h
      obtain ⟨⟨⟨⟨⟨⟨⟨rfl, h1⟩, h2⟩, h3⟩, h4⟩, h5⟩, h6⟩, hg⟩ := h
      show QE X _ (clsD Gm j _)
      unfold clsD
      split
      · rename_i C g
        show QE X _ (spD F i _)
        unfold spD
        split
        · rename_i sp hsp
          cases es with
          | nil =>
            cases as with
            | nil => exact qe_meth0 (f.metM (not_hot hg) h4 g hsp) (f.cls j C g) (okE o ci X _ f h5) h1 h2
            | cons _ _ => unfold chkA at h6; cases h6
          | cons e2 es => exact qe_meth (f.metM (not_hot hg) h4 g hsp) (f.cls j C g) (okE o ci X _ f h5) (okA as ci X _ f h6) h1 (chkA_star h6) h3 h2
        · exact ⟨fun _ _ _ _ _ _ q _ _ _ => q.elim⟩
      · exact ⟨fun _ _ _ _ _ _ q _ _ _ => q.elim⟩
    · cases h
  | .mk i j as, ci, X, e, f, h => by
    unfold chkE at h
    split at h
    · rename_i z x ap es cp
      simp only [Bool.and_eq_true] at h
      obtain ⟨⟨⟨⟨⟨h1, h2⟩, h3⟩, h4⟩, h5⟩, hg⟩ := h
      show QE X _ (clsD Gm j _)
      unfold clsD
      split
      · rename_i C g
        show QE X _ (spD F i _)
        unfold spD
        split
        · rename_i sp hsp
          cases es with
          | nil =>
            cases as with
            | nil => exact qe_mk0 (f.mkM (not_hot hg) h3 (nth_ok h2) g hsp) (f.gl h1) (okName_ok h4).1
            | cons _ _ => unfold chkA at h5; cases h5
          | cons e2 es => exact qe_mk (f.mkM (not_hot hg) h3 (nth_ok h2) g hsp) (f.gl h1) (okA as ci X _ f h5) (okName_ok h4).1 (chkA_star h5)
        · exact ⟨fun _ _ _ _ _ _ q _ _ _ => q.elim⟩
      · exact ⟨fun _ _ _ _ _ _ q _ _ _ => q.elim⟩
    · cases h
  | .dzip a b, ci, X, e, f, h => by
    unfold chkE at h
    split at h
    · simp only [Bool.and_eq_true, decide_eq_true_eq] at h
      obtain ⟨⟨⟨⟨⟨⟨⟨⟨rfl, h2⟩, rfl⟩, h3⟩, h4⟩, h5⟩, h6⟩, h7⟩, hg⟩ := h
      exact qe_dzip (f.calm (not_hot hg)) (f.bltin h2).1 (f.bltin h2).2 (f.bltin h3).1 (f.bltin h3).2 (okE a ci X _ f h6) (okE b ci X _ f h7) h4 h5
    · cases h
  | .rep a, ci, X, e, f, h => by
    unfold chkE at h
    split at h
    · simp only [Bool.and_eq_true, decide_eq_true_eq] at h
      obtain ⟨⟨⟨rfl, h2⟩, h5⟩, h6⟩ := h
      exact qe_rep (f.grd h2) (by have := f.hu; omega) (f.bltin h2).1 (f.bltin h2).2 (okE a ci X _ f h6) h5
    · cases h
  | .lstv as, ci, X, e, f, h => by
    unfold chkE at h
    split at h
    · exact qe_lstV (okA as ci X _ f h)
    · cases h
  | .lcv own g it t e0, ci, X, e, f, h => by
    unfold chkE at h
    split at h
    · rename_i z elt tg iter ifs scope p
      simp only [Bool.and_eq_true, List.all_eq_true, decide_eq_true_eq] at h
      obtain ⟨⟨⟨⟨⟨⟨⟨h1, h2⟩, h3⟩, h4⟩, h5⟩, h6⟩, h7⟩, hg⟩ := h
      have bo : BlkOk X.N X.env.scope scope own := by rw [f.N, f.sc]; exact blkOk_by h1
      exact qe_lcV (f.calm (not_hot hg)) (by rw [f.N]; exact f.nd) (okI it ci X _ _ f h4) bo (fun Y hY => okG g (ci.blk scope) Y _ (f.blk bo.kind hY) h5) (fun Y hY => okTs t (ci.blk scope) Y _ (f.blk bo.kind hY) h6)
        (fun Y hY => okE e0 (ci.blk scope) Y _ (f.blk bo.kind hY) h7) h3 h2
    · cases h
  | .addv a b, ci, X, e, f, h => by
    unfold chkE at h
    split at h
    · simp only [Bool.and_eq_true, decide_eq_true_eq] at h
      obtain ⟨⟨rfl, h1⟩, h2⟩ := h
      exact op_addV.op (okE a ci X _ f h1) (okE b ci X _ f h2)
    · cases h
  | .slv a lo hi, ci, X, e, f, h => by
    unfold chkE at h
    split at h
    · simp only [Bool.and_eq_true] at h
      exact qe_slV (okE a ci X _ f h.1.1) (okO lo ci X _ f h.1.2) (okO hi ci X _ f h.2)
    · cases h
  | .revv a, ci, X, e, f, h => by
    unfold chkE at h
    split at h
    · exact qe_revV (okE a ci X _ f h)
    · cases h
  | .frz a, ci, X, e, f, h => by
    unfold chkE at h
    exact qe_frz (okE a ci X _ f h)
  | .ssetv a, ci, X, e, f, h => by
    unfold chkE at h
    split at h
    · simp only [Bool.and_eq_true, decide_eq_true_eq] at h
      obtain ⟨⟨⟨⟨⟨⟨rfl, h2⟩, rfl⟩, h4⟩, h5⟩, h6⟩, hg⟩ := h
      exact qe_ssetV (f.calm (not_hot hg)) (Nat.lt_of_succ_lt f.hu) (f.bltin h2).1 (f.bltin h2).2 (f.bltin h4).1 (f.bltin h4).2 (okE a ci X _ f h6) h5
    · cases h
  | .lofv a, ci, X, e, f, h => by
    unfold chkE at h
    split at h
    · simp only [Bool.and_eq_true, decide_eq_true_eq] at h
      obtain ⟨⟨⟨rfl, h2⟩, h5⟩, h6⟩ := h
      exact qe_lofV (f.bltin h2).1 (f.bltin h2).2 (okE a ci X _ f h6) h5
    · cases h
  | .sofv a, ci, X, e, f, h => by
    unfold chkE at h
    split at h
    · simp only [Bool.and_eq_true, decide_eq_true_eq] at h
      obtain ⟨⟨⟨rfl, h2⟩, h5⟩, h6⟩ := h
      exact qe_sofV (by have := f.hu; omega) (f.bltin h2).1 (f.bltin h2).2 (okE a ci X _ f h6) h5
    · cases h
  | .rgv a, ci, X, e, f, h => by
    unfold chkE at h
    split at h
    · simp only [Bool.and_eq_true, decide_eq_true_eq] at h
      obtain ⟨⟨⟨⟨⟨⟨rfl, h2⟩, rfl⟩, h4⟩, h5⟩, h6⟩, hg⟩ := h
      exact qe_rgV (f.calm (not_hot hg)) (f.bltin h2).1 (f.bltin h2).2 (f.bltin h4).1 (f.bltin h4).2 (okE a ci X _ f h6) h5
    · cases h
  | .splv o a, ci, X, e, f, h => by
    unfold chkE at h
    split at h
    · simp only [Bool.and_eq_true, decide_eq_true_eq] at h
      obtain ⟨⟨⟨⟨⟨rfl, h1⟩, h2⟩, h3⟩, h4⟩, h5⟩ := h
      exact qe_splV (okE o ci X _ f h4) (okE a ci X _ f h5) h1 h2 h3
    · cases h
  | .dctv r, ci, X, e, f, h => by
    unfold chkE at h
    split at h
    · simp only [Bool.and_eq_true, decide_eq_true_eq] at h
      exact qe_dispV (okKv r ci X _ _ f h.2) h.1
    · cases h
  | .isX y a, ci, X, e, f, h => by
    unfold chkE at h
    split at h
    · simp only [Bool.and_eq_true, decide_eq_true_eq] at h
      obtain ⟨⟨⟨⟨⟨⟨⟨rfl, h1⟩, rfl⟩, h2⟩, h3⟩, h4⟩, h5⟩, h6⟩ := h
      obtain ⟨lf, hm⟩ := f.exl _ (List.contains_iff_mem.mp h3)
      exact qe_isX (f.bltin h1).1 (f.bltin h1).2 (okE a ci X _ f h6) (qe_glb (f.gl h2) ⟨.ref _, _, hm, rfl, fun H => .ref _⟩ (okName_ok h4).1) h5 rfl (fun H v u r rr => by cases r; exact rr) fun x hx => lf_kit hx lf
    · cases h
  | .isB a, ci, X, e, f, h => by
    unfold chkE at h
    split at h
    · simp only [Bool.and_eq_true, decide_eq_true_eq] at h
      obtain ⟨⟨⟨⟨⟨⟨rfl, h1⟩, rfl⟩, h2⟩, h3⟩, h5⟩, h6⟩ := h
      exact qe_isX (f.bltin h1).1 (f.bltin h1).2 (okE a ci X _ f h6) (qe_glb (f.gl h2) ⟨.ref _, _, f.bt h3, rfl, fun H => .ref _⟩ (by decide)) h5 rfl (fun H v u r rr => by cases r; exact rr) fun x hx => lf_kitB hx
    · cases h
  | .isV a, ci, X, e, f, h => by
    unfold chkE at h
    split at h
    · simp only [Bool.and_eq_true, decide_eq_true_eq] at h
      obtain ⟨⟨⟨⟨⟨rfl, h1⟩, rfl⟩, h2⟩, h5⟩, h6⟩ := h
      exact qe_isX (f.bltin h1).1 (f.bltin h1).2 (okE a ci X _ f h6) (qe_ty (n := "ValueError") (f.bltin h2).1 (f.bltin h2).2 PyProof.Rows.Boot.«ValueError» (by decide) (by decide)) h5 rfl (fun H v u r rr => by cases r; exact rr) fun x hx => lf_kitV hx
    · cases h
  | .xf a fl, ci, X, e, f, h => by
    unfold chkE at h
    split at h
    · simp only [Bool.and_eq_true, decide_eq_true_eq] at h
      obtain ⟨⟨⟨rfl, h1⟩, h2⟩, h3⟩ := h
      exact qe_xf (okE a ci X _ f h3) h1 h2
    · cases h
  | .fnX j as, ci, X, e, f, h => by
    unfold chkE at h
    split at h
    · simp only [Bool.and_eq_true] at h
      obtain ⟨⟨⟨⟨h1, h2⟩, h3⟩, h4⟩, hg⟩ := h
      show QE X _ (fnD F j (denA F Gm as))
      unfold fnD
      split
      · rename_i sp hsp
        exact qe_fnX (f.hotc hg) (f.hcal j _ sp (nth_ok h2) hsp) (f.gl h1) (okA as ci X _ f h4) (okName_ok h3).1 (chkA_star h4)
      · exact ⟨fun _ _ _ _ _ _ q _ _ _ => q.elim⟩
    · cases h
  | .fnv x, ci, X, e, f, h => by
    unfold chkE at h
    split at h
    · simp only [Bool.and_eq_true, decide_eq_true_eq] at h
      obtain ⟨⟨⟨rfl, h1⟩, h2⟩, h3⟩ := h
      exact qe_fnv (f.gl h1) (f.fvl _ (List.contains_iff_mem.mp h2)) (okName_ok h3).1
    · cases h
  | .callL i alts as, ci, X, e, f, h => by
    unfold chkE at h
    split at h
    · simp only [Bool.and_eq_true, List.all_eq_true] at h
      obtain ⟨⟨⟨⟨⟨h1, h2⟩, h3⟩, h4⟩, h5⟩, hg⟩ := h
      refine qe_callL (fun x sp hx => ?_) (f.slot h1) (f.vis h2) (okName_ok h3).1 (okName_ok h3).2 (okA as ci X _ f h5) (chkA_star h5)
      obtain ⟨j, h6, h7⟩ := altsT_ok hx
      exact f.cal (not_hot hg) j x sp (nth_ok (h4 _ h6).1) h7 (h4 _ h6).2
    · cases h
  | .lcx own g it t e0, ci, X, e, f, h => by
    unfold chkE at h
    split at h
    · rename_i z elt tg iter ifs scope p
      simp only [Bool.and_eq_true, List.all_eq_true, decide_eq_true_eq] at h
      obtain ⟨⟨⟨⟨⟨⟨⟨h1, h2⟩, h3⟩, h4⟩, h5⟩, h6⟩, h7⟩, hg⟩ := h
      have bo : BlkOk X.N X.env.scope scope own := by rw [f.N, f.sc]; exact blkOk_by h1
      exact qe_lcX (f.hotc hg) (by rw [f.N]; exact f.nd) (okIX it ci X _ _ f h4) bo (fun Y hY => okG g (ci.blk scope) Y _ (f.blk bo.kind hY) h5) (fun Y hY => okTs t (ci.blk scope) Y _ (f.blk bo.kind hY) h6)
        (fun Y hY => okE e0 (ci.blk scope) Y _ (f.blk bo.kind hY) h7) h3 h2
    · cases h
  | .kby j fl i v l, ci, X, e, f, h => by
    unfold chkE at h
    refine ⟨fun ρ G Q xq σ H q rs s tk => ?_⟩
    obtain ⟨C, eC, q⟩ := clsD_of (k := fun C => dKby C fl i l) q
    · unfold chkKby at h
      split at h
      · rename_i x0 tg o f1 fpos o2 f2 fp2 x1 sp y1 cp scope pos
        split at h
        · rename_i y yp
          simp only [Bool.and_eq_true, decide_eq_true_eq, Bool.not_eq_true'] at h
          obtain ⟨⟨⟨⟨⟨⟨⟨⟨⟨⟨⟨⟨⟨⟨⟨⟨⟨⟨h1, rfl⟩, rfl⟩, h3⟩, h4⟩, h5⟩, h6⟩, h7⟩, h8⟩, h9⟩, h10⟩, h11⟩, h12⟩, h13⟩, h14⟩, h15⟩, h16⟩, h17⟩, hg⟩ := h
          have bo : BlkOk X.N X.env.scope scope [(y, v)] := by rw [f.N, f.sc]; exact blkOk_by h1
          exact (qe_kby (own := [(y, v)]) (f.calm hg) (by have := f.hu; omega) (by rw [f.N]; exact f.nd) bo rfl (isV_ok f h4) h11 h12 (f.cls j C eC) (f.fldN h3 eC) (fun Y hY => isT_ok (f.blk bo.kind hY) h10) h5
            (fun Y hY => isV_ok (f.blk bo.kind hY) h6) (fun Y hY => isV_ok (f.blk bo.kind hY) h7) (fun Y hY => isV_ok (f.blk bo.kind hY) h8) (fun Y hY => isV_ok (f.blk bo.kind hY) h9) h15 h16 (by rw [f.N]; exact h17) (plainIx_ok h13) h14).run ρ G Q xq σ H q rs s tk
        · cases h
      · cases h
  | .kinv j fl i v, ci, X, e, f, h => by
    unfold chkE at h
    refine ⟨fun ρ G Q xq σ H q rs s tk => ?_⟩
    obtain ⟨C, eC, q⟩ := clsD_of (k := fun C => dKinv C fl i) q
    · unfold chkKinv at h
      split at h
      · rename_i o2 f2 fp2 x1 sp x0 tk0 tp tg o f1 fpos scope pos
        split at h
        · rename_i y yp
          simp only [Bool.and_eq_true, decide_eq_true_eq, Bool.not_eq_true'] at h
          obtain ⟨⟨⟨⟨⟨⟨⟨⟨⟨⟨⟨⟨⟨⟨⟨⟨h1, rfl⟩, rfl⟩, h3⟩, h4⟩, h5⟩, h6⟩, h7⟩, h8⟩, h10⟩, h11⟩, h12⟩, h13⟩, h14⟩, h15⟩, h17⟩, hg⟩ := h
          have bo : BlkOk X.N X.env.scope scope [(y, v)] := by rw [f.N, f.sc]; exact blkOk_by h1
          exact (qe_kinv (own := [(y, v)]) (f.calm hg) (by have := f.hu; omega) (by rw [f.N]; exact f.nd) bo rfl (isV_ok f h4) h11 h12 (f.cls j C eC) (f.fldN h3 eC) (fun Y hY => isT_ok (f.blk bo.kind hY) h10) h5
            (fun Y hY => isV_ok (f.blk bo.kind hY) h6) (fun Y hY => isV_ok (f.blk bo.kind hY) h7) (fun Y hY => isV_ok (f.blk bo.kind hY) h8) h15 (by rw [f.N]; exact h17) (plainIx_ok h13) h14).run ρ G Q xq σ H q rs s tk
        · cases h
      · cases h
  | .ask j, ci, X, e, f, h => by
    unfold chkE at h
    split at h
    · rename_i z x p1 p2
      simp only [Bool.and_eq_true] at h
      obtain ⟨⟨⟨h1, hg⟩, h3⟩, h4⟩ := h
      refine ⟨fun ρ G Q xq σ H q rs s tk => ?_⟩
      obtain ⟨sp, es, q⟩ := askD_of q
      · exact (f.thk h1 (not_hot hg) (Option.isNone_iff_eq_none.mp h3) j _ sp (nth_ok h4) es X.pn X.xe p1 p2).run ρ G Q xq σ H q rs s tk
    · cases h
  | .lamc i j e0, ci, X, e, f, h => by
    unfold chkE at h
    split at h
    · rename_i z x p ps body scope lpos pos
      simp only [Bool.and_eq_true] at h
      obtain ⟨⟨⟨⟨⟨⟨⟨⟨⟨h1, hg⟩, h3⟩, h4⟩, h5⟩, h6⟩, h7⟩, h8⟩, h9⟩, h10⟩ := h
      obtain ⟨k, hr, hc, ht, lo⟩ := f.lamf h1 (not_hot hg) (Option.isNone_iff_eq_none.mp h3)
      have hps : ps = ⟨[], [], none, [], [], none, []⟩ := by
        unfold noPar at h9
        split at h9
        · rfl
        · cases h9
      subst hps
      have L := LamX.lamS_by h8
      refine ⟨fun ρ G Q xq σ H q rs s tk => ?_⟩
      obtain ⟨sp, P, es, et, q⟩ := lamD_of q
      · have L2 : LamX.LamS X.env.scope scope := by rw [f.sc]; exact L
        exact (qe_lam (lpos := lpos) (pos := pos) (p := p) hr (hc i _ sp (nth_ok h6) es) (ht j P (nth_ok h7) et) (f.gl h4) (okName_ok h5).1 L2 rfl (fun _ _ _ _ _ => rfl)
          (fun A outer s H E g c hr2 => okE e0 (ci.lamb scope) _ _ (f.lamb (not_hot hg) L hr2 (lo _ rfl rfl rfl rfl rfl hr2)) h10)).run ρ G Q xq σ H q rs s tk
    · cases h
  | .lseti a, ci, X, e, f, h => by
    unfold chkE at h
    split at h
    · simp only [Bool.and_eq_true, decide_eq_true_eq] at h
      obtain ⟨⟨⟨⟨⟨⟨rfl, h2⟩, rfl⟩, h4⟩, h5⟩, h6⟩, hg⟩ := h
      exact qe_lsetI (f.calm (not_hot hg)) (f.bltin h2).1 (f.bltin h2).2 (f.bltin h4).1 (f.bltin h4).2 (okE a ci X _ f h6) h5
    · cases h
  | .maxd a n, ci, X, e, f, h => by
    unfold chkE at h
    split at h
    · simp only [Bool.and_eq_true, decide_eq_true_eq] at h
      obtain ⟨⟨⟨⟨⟨⟨rfl, h2⟩, rfl⟩, rfl⟩, h5⟩, h6⟩, hg⟩ := h
      exact qe_maxd (f.calm (not_hot hg)) f.hu (f.bltin h2).1 (f.bltin h2).2 (okE a ci X _ f h6) h5
    · cases h
  | .mkx x fl as, ci, X, e, f, h => by
    unfold chkE at h
    split at h
    · rename_i z y yp es cp
      simp only [Bool.and_eq_true, decide_eq_true_eq] at h
      obtain ⟨⟨⟨⟨⟨⟨⟨rfl, h1⟩, h2⟩, h3⟩, h4⟩, h5⟩, h6⟩, hg⟩ := h
      cases es with
      | nil =>
        cases as with
        | nil => exact qe_mkx0 (f.rai (not_hot hg) _ fl h3) (List.isEmpty_iff.mp h5) (f.gl h1) (okName_ok h2).1
        | cons _ _ => unfold chkA at h6; cases h6
      | cons e2 es => exact qe_mkx (f.rai (not_hot hg) _ fl h3) h4 (f.gl h1) (okA as ci X _ f h6) (okName_ok h2).1 (chkA_star h6)
    · cases h
  | .fnG j as, ci, X, e, f, h => by
    unfold chkE at h
    split at h
    · simp only [Bool.and_eq_true] at h
      obtain ⟨⟨⟨⟨⟨h1, h2⟩, h3⟩, h4⟩, h5⟩, hg⟩ := h
      show QE X _ (fnD F j _)
      unfold fnD
      split
      · rename_i sp hsp
        exact qe_fnG (f.gcal h5 (not_hot hg) j _ sp (nth_ok h2) hsp) (f.gl h1) (okA as ci X _ f h4) (okName_ok h3).1 (chkA_star h4)
      · exact ⟨fun _ _ _ _ _ _ q => q.elim⟩
    · cases h
theorem okIX : ∀ (c : CI) (ci : Ci) (X : Cx) (tg e : Expr), Fit F Gm ci X → chkIX ci c tg e = true → QIX X tg e (denIX F Gm c)
  | .rng1 a, ci, X, tg, e, f, h => by
    unfold chkIX at h
    split at h
    · simp only [Bool.and_eq_true, decide_eq_true_eq] at h
      obtain ⟨⟨⟨rfl, h1⟩, h2⟩, h3⟩ := h
      exact qix_rng1 (f.bltin h1).1 (f.bltin h1).2 (qa_cons (okE a ci X _ f h3) qa_nil (starEach_cons h2)) h2
    · cases h
  | .zip a b, ci, X, tg, e, f, h => by
    unfold chkIX at h
    split at h
    · simp only [Bool.and_eq_true, decide_eq_true_eq] at h
      obtain ⟨⟨⟨⟨⟨rfl, h1⟩, h2⟩, h3⟩, h4⟩, h5⟩ := h
      exact qix_zip (f.bltin h1).1 (f.bltin h1).2 (qa_cons (okE a ci X _ f h4) (qa_cons (okE b ci X _ f h5) qa_nil (starEach_cons h3)) (starEach_cons h2)) h2 h3
    · cases h
  | .it a, ci, X, tg, e, f, h => by unfold chkIX at h; cases h
  | .rng2 a b, ci, X, tg, e, f, h => by unfold chkIX at h; cases h
  | .enum a, ci, X, tg, e, f, h => by unfold chkIX at h; cases h
  | .rev a, ci, X, tg, e, f, h => by unfold chkIX at h; cases h
theorem okKv : ∀ (c : CKv) (ci : Ci) (X : Cx) (ks : List (Option Expr)) (vs : List Expr), Fit F Gm ci X → chkKv ci c ks vs = true → QKv X ks vs (denKv F Gm c)
  | .nil, ci, X, ks, vs, f, h => by
    unfold chkKv at h
    split at h
    · exact qkv_nil
    · cases h
  | .cons k v r, ci, X, ks, vs, f, h => by
    unfold chkKv at h
    split at h
    · simp only [Bool.and_eq_true] at h
      obtain ⟨⟨h0, h1⟩, h2⟩ := h
      exact qkv_cons (okE k ci X _ f h0) (okE v ci X _ f h1) (okKv r ci X _ _ f h2)
    · cases h
theorem okA : ∀ (c : CA) (ci : Ci) (X : Cx) (e : List Expr), Fit F Gm ci X → chkA ci c e = true → QA X e (denA F Gm c)
  | .nil, ci, X, e, f, h => by
    unfold chkA at h
    split at h
    · exact qa_nil
    · cases h
  | .cons e0 as, ci, X, e, f, h => by
    unfold chkA at h
    split at h
    · simp only [Bool.and_eq_true] at h
      obtain ⟨⟨h0, h1⟩, h2⟩ := h
      exact qa_cons (okE e0 ci X _ f h1) (okA as ci X _ f h2) (starEach_cons h0)
    · cases h
theorem okO : ∀ (c : CO) (ci : Ci) (X : Cx) (e : Option Expr), Fit F Gm ci X → chkO ci c e = true → QO X e (denO F Gm c)
  | .no, ci, X, e, f, h => by
    unfold chkO at h
    split at h
    · exact qo_none
    · cases h
  | .part e0, ci, X, e, f, h => by
    unfold chkO at h
    split at h
    · exact qo_some (okE e0 ci X _ f h)
    · cases h
theorem okT : ∀ (c : CT) (ci : Ci) (X : Cx) (e : Expr), Fit F Gm ci X → chkT ci c e = true → QTW X e (denT F Gm c)
  | .cmp op a b, ci, X, e, f, h => by
    unfold chkT at h
    split at h
    · simp only [Bool.and_eq_true, decide_eq_true_eq, Bool.not_eq_true'] at h
      obtain ⟨⟨⟨rfl, h0⟩, h1⟩, h2⟩ := h
      exact ⟨(op_cmpD f.hu op).cmpT (okE a ci X _ f h1) (okE b ci X _ f h2) h0, fun z => by cases z⟩
    · cases h
  | .neu a b, ci, X, e, f, h => by
    unfold chkT at h
    split at h
    · simp only [Bool.and_eq_true, Bool.not_eq_true'] at h
      obtain ⟨⟨h0, h1⟩, h2⟩ := h
      exact ⟨(op_neuD f.hu).cmpT (okE a ci X _ f h1) (okE b ci X _ f h2) h0, fun z => by cases z⟩
    · cases h
  | .chn op op' a b c, ci, X, e, f, h => by
    unfold chkT at h
    split at h
    · simp only [Bool.and_eq_true, decide_eq_true_eq, Bool.not_eq_true'] at h
      obtain ⟨⟨⟨⟨⟨rfl, rfl⟩, h0⟩, h1⟩, h2⟩, h3⟩ := h
      exact ⟨qt_chn (op_cmpD f.hu op) (op_cmpD f.hu op') (okE a ci X _ f h1) (okE b ci X _ f h2) (okE c ci X _ f h3) h0, fun z => by cases z⟩
    · cases h
  | .not t, ci, X, e, f, h => by
    unfold chkT at h
    split at h
    · exact ⟨qt_not (okT t ci X _ f h).qt, fun z => by cases z⟩
    · cases h
  | .and a b, ci, X, e, f, h => by
    unfold chkT at h
    split at h
    · rename_i z e1 e2 es p
      rw [Bool.and_eq_true] at h
      obtain ⟨h1, h2⟩ := h
      have w : QW X (.BoolOp .And (e1 :: e2 :: es) p) (denT F Gm (.and a b)) := by
        split at h2
        · exact qw_and (okT a ci X _ f h1).qt (qw_and1 (okT b ci X _ f h2).qt)
        · exact qw_and (okT a ci X _ f h1).qt ((okT b ci X _ f h2).qw rfl)
      exact ⟨w.qt, fun _ => w⟩
    · cases h
  | .or a b, ci, X, e, f, h => by
    unfold chkT at h
    split at h
    · rename_i z e1 e2 es p
      rw [Bool.and_eq_true] at h
      obtain ⟨h1, h2⟩ := h
      have w : QW X (.BoolOp .Or (e1 :: e2 :: es) p) (denT F Gm (.or a b)) := by
        split at h2
        · exact qw_or (okT a ci X _ f h1).qt (qw_or1 (okT b ci X _ f h2).qt)
        · exact qw_or (okT a ci X _ f h1).qt ((okT b ci X _ f h2).qw rfl)
      exact ⟨w.qt, fun _ => w⟩
    · cases h
  | .val e0, ci, X, e, f, h => by
    unfold chkT at h
    have h : (plainTest e && chkE ci e0 e) = true := h
    rw [Bool.and_eq_true] at h
    obtain ⟨h1, h2⟩ := h
    refine ⟨qt_val (okE e0 ci X _ f h2) (plainTest_ok h1), fun z => ?_⟩
    cases e <;> first | (cases h1; done) | (cases z; done)
theorem okTs : ∀ (c : CTs) (ci : Ci) (X : Cx) (e : List Expr), Fit F Gm ci X → chkTs ci c e = true → QTs X e (denTs F Gm c)
  | .no, ci, X, e, f, h => by
    unfold chkTs at h
    split at h
    · exact qts_nil
    · cases h
  | .one t, ci, X, e, f, h => by
    unfold chkTs at h
    split at h
    · exact qts_one (okT t ci X _ f h).qt
    · cases h
theorem okI : ∀ (c : CI) (ci : Ci) (X : Cx) (tg e : Expr), Fit F Gm ci X → chkI ci c tg e = true → QI X tg e (denI F Gm c)
  | .it e0, ci, X, tg, e, f, h => by
    unfold chkI at h
    have h : chkE ci e0 e = true := h
    exact qi_it (okE e0 ci X _ f h)
  | .rng1 a, ci, X, tg, e, f, h => by
    unfold chkI at h
    split at h
    · simp only [Bool.and_eq_true, decide_eq_true_eq] at h
      obtain ⟨⟨⟨rfl, h1⟩, h2⟩, h3⟩ := h
      exact qi_rng1 (f.bltin h1).1 (f.bltin h1).2 (qa_cons (okE a ci X _ f h3) qa_nil (starEach_cons h2)) h2
    · cases h
  | .rng2 a b, ci, X, tg, e, f, h => by
    unfold chkI at h
    split at h
    · simp only [Bool.and_eq_true, decide_eq_true_eq] at h
      obtain ⟨⟨⟨⟨⟨rfl, h1⟩, h2⟩, h3⟩, h4⟩, h5⟩ := h
      exact qi_rng2 (f.bltin h1).1 (f.bltin h1).2 (qa_cons (okE a ci X _ f h4) (qa_cons (okE b ci X _ f h5) qa_nil (starEach_cons h3)) (starEach_cons h2)) h2 h3
    · cases h
  | .enum a, ci, X, tg, e, f, h => by
    unfold chkI at h
    split at h
    · simp only [Bool.and_eq_true, decide_eq_true_eq] at h
      obtain ⟨⟨⟨rfl, h1⟩, h2⟩, h3⟩ := h
      exact qi_enum (f.bltin h1).1 (f.bltin h1).2 (qa_cons (okE a ci X _ f h3) qa_nil (starEach_cons h2)) h2
    · cases h
  | .zip a b, ci, X, tg, e, f, h => by
    unfold chkI at h
    split at h
    · simp only [Bool.and_eq_true, decide_eq_true_eq] at h
      obtain ⟨⟨⟨⟨⟨rfl, h1⟩, h2⟩, h3⟩, h4⟩, h5⟩ := h
      exact qi_zip (f.bltin h1).1 (f.bltin h1).2 (qa_cons (okE a ci X _ f h4) (qa_cons (okE b ci X _ f h5) qa_nil (starEach_cons h3)) (starEach_cons h2)) h2 h3
    · cases h
  | .rev a, ci, X, tg, e, f, h => by
    unfold chkI at h
    split at h
    · simp only [Bool.and_eq_true, decide_eq_true_eq] at h
      obtain ⟨⟨⟨rfl, h1⟩, h2⟩, h3⟩ := h
      exact qi_rev (f.bltin h1).1 (f.bltin h1).2 (okE a ci X _ f h3) h2
    · cases h
theorem okG : ∀ (c : CG) (ci : Ci) (X : Cx) (e : Expr), Fit F Gm ci X → chkG ci c e = true → QG X e (slots c) (denG F Gm c)
  | .name i, ci, X, e, f, h => by
    unfold chkG at h
    split at h
    · simp only [Bool.and_eq_true] at h
      exact qg_name (by rw [f.N]; exact f.nd) (f.slot h.1) (f.loc h.2).1 (f.loc h.2).2
    · cases h
  | .tup n gs, ci, X, e, f, h => by
    unfold chkG at h
    split at h
    · simp only [Bool.and_eq_true, decide_eq_true_eq] at h
      obtain ⟨⟨rfl, h⟩, hg⟩ := h
      exact qg_tup (f.calm (not_hot hg)) (okGs gs ci X _ f h) (chkGs_star h)
    · cases h
  | .tupX n gs, ci, X, e, f, h => by
    unfold chkG at h
    split at h
    · simp only [Bool.and_eq_true, decide_eq_true_eq] at h
      obtain ⟨⟨rfl, h⟩, hg⟩ := h
      exact qg_tupX (f.hotc hg) (okGs gs ci X _ f h) (chkGs_star h)
    · cases h
  | .sub o i, ci, X, e, f, h => by
    unfold chkG at h
    split at h
    · simp only [Bool.and_eq_true] at h
      obtain ⟨⟨h0, h1⟩, h2⟩ := h
      exact qg_sub (by have := f.hu; omega) (okE o ci X _ f h1) (okE i ci X _ f h2) h0
    · cases h
  | .dsub o i, ci, X, e, f, h => by
    unfold chkG at h
    split at h
    · simp only [Bool.and_eq_true] at h
      obtain ⟨⟨h0, h1⟩, h2⟩ := h
      exact qg_dsub (by have := f.hu; omega) (okE o ci X _ f h1) (okE i ci X _ f h2) h0
    · cases h
  | .fld j fl o, ci, X, e, f, h => by
    unfold chkG at h
    split at h
    · simp only [Bool.and_eq_true, decide_eq_true_eq] at h
      obtain ⟨⟨rfl, h1⟩, h2⟩ := h
      refine ⟨fun d ρ G Q ex v σ H q r rs s tk => ?_⟩
      have q : clsG Gm j (fun C => gFl C _ (denE F Gm o)) d ρ G Q ex := q
      unfold clsG at q
      cases eC : Gm[j]? with
      | none => rw [eC] at q; exact q.elim
      | some c =>
        rw [eC] at q
        cases c with
        | ref C => exact (qg_fld (f.cls j C eC) (f.fldN h1 eC) (okE o ci X _ f h2)).run d ρ G Q ex v σ H q r rs s tk
        | _ => exact q.elim
    · cases h
theorem okGs : ∀ (c : CGs) (ci : Ci) (X : Cx) (e : List Expr), Fit F Gm ci X → chkGs ci c e = true → QGs X e (slots.slotsL c) (denGs F Gm c)
  | .nil, ci, X, e, f, h => by
    unfold chkGs at h
    split at h
    · exact qgs_nil
    · cases h
  | .cons g gs, ci, X, e, f, h => by
    unfold chkGs at h
    split at h
    · simp only [Bool.and_eq_true] at h
      obtain ⟨⟨h0, h1⟩, h2⟩ := h
      exact qgs_cons (okG g ci X _ f h1) (okGs gs ci X _ f h2) h0
    · cases h
end
end
/-! statements -/
mutual
def chkS (ci : Ci) : CS → Stmt → Bool
  | .fldset j fl o e, z => match z with
    | .Assign [.Attribute o' x _] e' _ => decide (x = fl) && ci.fldOk j fl && chkE ci o o' && chkE ci e e'
    | _ => false
  | .fail, _ => true
  | .pass, z => match z with
    | .Pass _ => true
    | _ => false
  | .brk, z => match z with
    | .Break _ => true
    | _ => false
  | .cont, z => match z with
    | .Continue _ => true
    | _ => false
  | .ret e, z => match z with
    | .Return (some x) _ => chkE ci e x
    | _ => false
  | .retN, z => match z with
    | .Return none _ => true
    | _ => false
  | .expr e, z => match z with
    | .Expr x _ => noComp x && chkE ci e x
    | _ => false
  | .asg g e, z => match z with
    | .Assign [tg] x _ => swapsNo ci.sc x tg && noSwap tg x && noStar tg && chkE ci e x && chkG ci g tg
    | _ => false
  | .par2 i j as, z => match z with
    | .Assign [.Tuple [.Name x px, .Name y py] _ _] (.Tuple [a, b] _ _) _ => ci.slot i x && ci.slot j y && decide (i ≠ j) && isK (ci.kind x) .local && isK (ci.kind y) .local &&
        decide (swapR ci.sc [.Name x px, .Name y py] [a, b] = some (some [x, y])) && chkA ci as [a, b] && !ci.hot
    | _ => false
  | .par3 i j l as, w => match w with
    | .Assign [.Tuple [.Name x px, .Name y py, .Name z pz] _ _] (.Tuple [a, b, c] _ _) _ => ci.slot i x && ci.slot j y && ci.slot l z && decide (i ≠ j) && decide (i ≠ l) && decide (j ≠ l) && isK (ci.kind x) .local && isK (ci.kind y) .local && isK (ci.kind z) .local &&
        decide (swapR ci.sc [.Name x px, .Name y py, .Name z pz] [a, b, c] = some (some [x, y, z])) && chkA ci as [a, b, c] && !ci.hot
    | _ => false
  | .asgT g e, z => match z with
    | .Assign [.Tuple ts k p] (.Tuple vs k2 p2) _ => decide (swapR ci.sc ts vs = some none) && chkE ci e (.Tuple vs k2 p2) && chkG ci g (.Tuple ts k p)
    | _ => false
  | .setLc i own g it t e, z => match z with
    | .Assign [.Name y py] (.ListComp elt [⟨tg, iter, ifs, 0⟩] scope pos) _ => ci.slot i y && isK (ci.kind y) .local && (py.line == pos.line) && !(scope.names.any fun (n, k) => n == y && (k == .local || k == .cell)) &&
        blkC ci.N ci.sc scope own && noSet iter && (slots g).all (fun j => decide (j ∈ own.map (·.2))) && chkI ci it tg iter && chkG (ci.blk scope) g tg && chkTs (ci.blk scope) t ifs && chkE (ci.blk scope) e elt && !ci.hot
    | _ => false
  | .setLcv i own g it t e, z => match z with
    | .Assign [.Name y py] (.ListComp elt [⟨tg, iter, ifs, 0⟩] scope pos) _ => ci.slot i y && isK (ci.kind y) .local && (py.line == pos.line) && !(scope.names.any fun (n, k) => n == y && (k == .local || k == .cell)) &&
        blkC ci.N ci.sc scope own && noSet iter && (slots g).all (fun j => decide (j ∈ own.map (·.2))) && chkI ci it tg iter && chkG (ci.blk scope) g tg && chkTs (ci.blk scope) t ifs && chkE (ci.blk scope) e elt && !ci.hot
    | _ => false
  | .setLcx i own g it t e, z => match z with
    | .Assign [.Name y py] (.ListComp elt [⟨tg, iter, ifs, 0⟩] scope pos) _ => ci.slot i y && isK (ci.kind y) .local && (py.line == pos.line) && !(scope.names.any fun (n, k) => n == y && (k == .local || k == .cell)) &&
        blkC ci.N ci.sc scope own && noSet iter && (slots g).all (fun j => decide (j ∈ own.map (·.2))) && chkIX ci it tg iter && chkG (ci.blk scope) g tg && chkTs (ci.blk scope) t ifs && chkE (ci.blk scope) e elt && ci.hot
    | _ => false
  | .raise x fl as, z => match z with
    | .Raise (some (.Call (.Name y _) es [] _)) none _ => decide (y = x) && ci.gl x && okName x && decide ((x, fl) ∈ ci.rs) && decide (fl.length ≤ 1000) && (!es.isEmpty || fl.isEmpty) && chkA ci as es && !ci.hot
    | _ => false
  | .tryx b hs, z => match z with
    | .Try body hds [] [] _ => chkB ci b body && chkH ci hs hds && !hds.isEmpty && !ci.hot && ci.own.isNone
    | _ => false
  | .ifs t a b, z => match z with
    | .If c p q _ => chkT ci t c && chkB ci a p && chkB ci b q
    | _ => false
  | .fors g it b, z => match z with
    | .For tg iter body [] _ => noSet iter && chkI ci it tg iter && chkG ci g tg && chkB ci b body && !ci.hot
    | _ => false
  | .whil t b, z => match z with
    | .While c body [] _ => chkT ci t c && chkB ci b body
    | _ => false
def chkB (ci : Ci) : CB → List Stmt → Bool
  | .nil, z => match z with
    | [] => true
    | _ => false
  | .cons s b, z => match z with
    | x :: xs => chkS ci s x && chkB ci b xs
    | _ => false
  | .lk _ b, z => chkB ci b z
def chkH (ci : Ci) : CH → List ExceptHandler → Bool
  | .nil, z => match z with
    | [] => true
    | _ => false
  | .cons y i b r, z => match z with
    | .ExceptHandler (some (.Name y' _)) nm (s0 :: ss) _ :: hds => decide (y' = y) && ci.gl y && okName y && (if y = "BeatError" then ci.beat else ci.exs.contains y) && (match nm, i with
        | none, none => true
        | some n, some j => ci.slot j n && isK (ci.kind n) .local
        | _, _ => false) && chkB ci.inHot b (s0 :: ss) && chkH ci r hds
    | _ => false
end
section
variable {F : List DSp} {Gm : List D} {ci : Ci} {X : Cx} (f : Fit F Gm ci X) (hp : PassesOwn (model X.prog X.w) X.A X.env X.xe)
include f hp
theorem Fit.kindX : X.env.scope.kind = .function := by rw [f.sc]; exact f.kind
theorem Fit.locX {x : Str} (h : isK (ci.kind x) .local = true) : X.env.scope.names.lookup x = some .local := by rw [f.sc]; exact isK_eq h
end
section
variable {F : List DSp} {Gm : List D}
mutual
theorem okS : ∀ (c : CS) (ci : Ci) (X : Cx) (z : Stmt), Fit F Gm ci X → PassesOwn (model X.prog X.w) X.A X.env X.xe → chkS ci c z = true → QS X z (denS F Gm c)
  | .fldset j fl o e, ci, X, z, f, hp, h => by
    unfold chkS at h
    split at h
    · simp only [Bool.and_eq_true, decide_eq_true_eq] at h
      obtain ⟨⟨⟨rfl, h2⟩, h3⟩, h4⟩ := h
      show QS X _ (clsS Gm j _)
      unfold clsS
      split
      · rename_i C g
        exact qs_fld (f.cls j C g) (f.fldN h2 g) (okE e ci X _ f h4) (okE o ci X _ f h3)
      · exact ⟨fun _ _ _ _ _ q _ _ _ => q.elim⟩
    · cases h
  | .fail, ci, X, z, f, hp, h => ⟨fun D ρ G σ H q _ _ _ => False.elim q⟩
  | .pass, ci, X, z, f, hp, h => by
    unfold chkS at h
    split at h
    · exact qs_pass
    · cases h
  | .brk, ci, X, z, f, hp, h => by
    unfold chkS at h
    split at h
    · exact qs_break
    · cases h
  | .cont, ci, X, z, f, hp, h => by
    unfold chkS at h
    split at h
    · exact qs_cont
    · cases h
  | .ret e, ci, X, z, f, hp, h => by
    unfold chkS at h
    split at h
    · exact qs_ret (okE e ci X _ f h)
    · cases h
  | .retN, ci, X, z, f, hp, h => by
    unfold chkS at h
    split at h
    · exact qs_retN
    · cases h
  | .expr e, ci, X, z, f, hp, h => by
    unfold chkS at h
    split at h
    · rw [Bool.and_eq_true] at h
      exact qs_expr (okE e ci X _ f h.2) h.1
    · cases h
  | .asg g e, ci, X, z, f, hp, h => by
    unfold chkS at h
    split at h
    · simp only [Bool.and_eq_true] at h
      obtain ⟨⟨⟨⟨h1, h2⟩, h3⟩, h4⟩, h5⟩ := h
      exact qs_asgN (okE e ci X _ f h4) (okG g ci X _ f h5) (f.kindX hp) (by rw [f.sc]; exact h1) h2 h3
    · cases h
  | .par2 i j as, ci, X, z, f, hp, h => by
    unfold chkS at h
    split at h
    · simp only [Bool.and_eq_true, decide_eq_true_eq] at h
      obtain ⟨⟨⟨⟨⟨⟨⟨h1, h2⟩, h3⟩, h4⟩, h5⟩, h6⟩, h7⟩, hg⟩ := h
      exact qs_par2 (f.calm (not_hot hg)) (by rw [f.N]; exact f.nd) (f.slot h1) (f.slot h2) h3 (f.locX hp h4) (f.locX hp h5) (okA as ci X _ f h7) (f.kindX hp) (by rw [f.sc]; exact h6)
    · cases h
  | .par3 i j l as, ci, X, w, f, hp, h => by
    unfold chkS at h
    split at h
    · simp only [Bool.and_eq_true, decide_eq_true_eq] at h
      obtain ⟨⟨⟨⟨⟨⟨⟨⟨⟨⟨⟨h1, h2⟩, h3⟩, h4⟩, h5⟩, h6⟩, h7⟩, h8⟩, h9⟩, h10⟩, h11⟩, hg⟩ := h
      exact qs_par3 (f.calm (not_hot hg)) (by rw [f.N]; exact f.nd) (f.slot h1) (f.slot h2) (f.slot h3) h4 h5 h6 (f.locX hp h7) (f.locX hp h8) (f.locX hp h9) (okA as ci X _ f h11) (f.kindX hp) (by rw [f.sc]; exact h10)
    · cases h
  | .asgT g e, ci, X, z, f, hp, h => by
    unfold chkS at h
    split at h
    · simp only [Bool.and_eq_true, decide_eq_true_eq] at h
      obtain ⟨⟨h1, h2⟩, h3⟩ := h
      exact qs_asgT (okE e ci X _ f h2) (okG g ci X _ f h3) (f.kindX hp) (by rw [f.sc]; exact h1)
    · cases h
  | .setLc i own g it t e0, ci, X, w, f, hp, h => by
    unfold chkS at h
    split at h
    · rename_i z y py elt tg iter ifs scope pos sp
      simp only [Bool.and_eq_true, List.all_eq_true, decide_eq_true_eq, Bool.not_eq_true'] at h
      obtain ⟨⟨⟨⟨⟨⟨⟨⟨⟨⟨⟨k1, k2⟩, k3⟩, k4⟩, h1⟩, h2⟩, h3⟩, h4⟩, h5⟩, h6⟩, h7⟩, hg⟩ := h
      have bo : BlkOk X.N X.env.scope scope own := by rw [f.N, f.sc]; exact blkOk_by h1
      exact qs_setLc (f.calm hg) (by rw [f.N]; exact f.nd) (f.slot k1) (f.locX hp k2) (sw_true (f.kindX hp) (f.locX hp k2) k3 k4) (okI it ci X _ _ f h4) bo (fun Y hY => okG g (ci.blk scope) Y _ (f.blk bo.kind hY) h5)
        (fun Y hY => okTs t (ci.blk scope) Y _ (f.blk bo.kind hY) h6) (fun Y hY => okE e0 (ci.blk scope) Y _ (f.blk bo.kind hY) h7) h3 h2
    · cases h
  | .setLcv i own g it t e0, ci, X, w, f, hp, h => by
    unfold chkS at h
    split at h
    · rename_i z y py elt tg iter ifs scope pos sp
      simp only [Bool.and_eq_true, List.all_eq_true, decide_eq_true_eq, Bool.not_eq_true'] at h
      obtain ⟨⟨⟨⟨⟨⟨⟨⟨⟨⟨⟨k1, k2⟩, k3⟩, k4⟩, h1⟩, h2⟩, h3⟩, h4⟩, h5⟩, h6⟩, h7⟩, hg⟩ := h
      have bo : BlkOk X.N X.env.scope scope own := by rw [f.N, f.sc]; exact blkOk_by h1
      exact qs_setLcV (f.calm hg) (by rw [f.N]; exact f.nd) (f.slot k1) (f.locX hp k2) (sw_true (f.kindX hp) (f.locX hp k2) k3 k4) (okI it ci X _ _ f h4) bo (fun Y hY => okG g (ci.blk scope) Y _ (f.blk bo.kind hY) h5)
        (fun Y hY => okTs t (ci.blk scope) Y _ (f.blk bo.kind hY) h6) (fun Y hY => okE e0 (ci.blk scope) Y _ (f.blk bo.kind hY) h7) h3 h2
    · cases h
  | .setLcx i own g it t e0, ci, X, w, f, hp, h => by
    unfold chkS at h
    split at h
    · rename_i z y py elt tg iter ifs scope pos sp
      simp only [Bool.and_eq_true, List.all_eq_true, decide_eq_true_eq, Bool.not_eq_true'] at h
      obtain ⟨⟨⟨⟨⟨⟨⟨⟨⟨⟨⟨k1, k2⟩, k3⟩, k4⟩, h1⟩, h2⟩, h3⟩, h4⟩, h5⟩, h6⟩, h7⟩, hg⟩ := h
      have bo : BlkOk X.N X.env.scope scope own := by rw [f.N, f.sc]; exact blkOk_by h1
      exact qs_setLcX (f.hotc hg) (by rw [f.N]; exact f.nd) (f.slot k1) (f.locX hp k2) (sw_true (f.kindX hp) (f.locX hp k2) k3 k4) (okIX it ci X _ _ f h4) bo (fun Y hY => okG g (ci.blk scope) Y _ (f.blk bo.kind hY) h5)
        (fun Y hY => okTs t (ci.blk scope) Y _ (f.blk bo.kind hY) h6) (fun Y hY => okE e0 (ci.blk scope) Y _ (f.blk bo.kind hY) h7) h3 h2
    · cases h
  | .raise x fl as, ci, X, z, f, hp, h => by
    unfold chkS at h
    split at h
    · rename_i z y yp es cp rp
      simp only [Bool.and_eq_true, decide_eq_true_eq] at h
      obtain ⟨⟨⟨⟨⟨⟨⟨rfl, h1⟩, h2⟩, h3⟩, h4⟩, h5⟩, h6⟩, hg⟩ := h
      cases es with
      | nil =>
        cases as with
        | nil => exact qs_raise0 (f.calm (not_hot hg)) (f.rai (not_hot hg) _ fl h3) (List.isEmpty_iff.mp h5) (f.gl h1) (okName_ok h2).1
        | cons _ _ => unfold chkA at h6; cases h6
      | cons e2 es => exact qs_raise (f.calm (not_hot hg)) (f.rai (not_hot hg) _ fl h3) h4 (f.gl h1) (okA as ci X _ f h6) (okName_ok h2).1 (chkA_star h6)
    · cases h
  | .tryx b hs, ci, X, z, f, hp, h => by
    unfold chkS at h
    split at h
    · rename_i z body hds tp
      simp only [Bool.and_eq_true] at h
      obtain ⟨⟨⟨⟨h1, h2⟩, h3⟩, hg⟩, h4⟩ := h
      cases hds with
      | nil => cases h3
      | cons h0 hds =>
        obtain ⟨st1, st2⟩ := f.stk (Option.isNone_iff_eq_none.mp h4)
        exact qs_try st1 st2 (by rw [f.N]; exact f.nd) (f.calm (not_hot hg)) (fun pn xe hpx => okB b ci (X.tr pn xe) _ (f.tr pn xe) hpx h1) (okH hs ci X _ f h2)
    · cases h
  | .ifs t a b, ci, X, z, f, hp, h => by
    unfold chkS at h
    split at h
    · simp only [Bool.and_eq_true] at h
      obtain ⟨⟨h1, h2⟩, h3⟩ := h
      exact qs_if (okT t ci X _ f h1).qt (okB a ci X _ f hp h2) (okB b ci X _ f hp h3)
    · cases h
  | .fors g it b, ci, X, z, f, hp, h => by
    unfold chkS at h
    split at h
    · simp only [Bool.and_eq_true] at h
      obtain ⟨⟨⟨⟨h0, h1⟩, h2⟩, h3⟩, hg⟩ := h
      exact qs_for hp (f.calm (not_hot hg)) (okI it ci X _ _ f h1) (okG g ci X _ f h2) (okB b ci X _ f hp h3) h0
    · cases h
  | .whil t b, ci, X, z, f, hp, h => by
    unfold chkS at h
    split at h
    · simp only [Bool.and_eq_true] at h
      exact qs_while hp (okT t ci X _ f h.1).qt (okB b ci X _ f hp h.2)
    · cases h
theorem okB : ∀ (c : CB) (ci : Ci) (X : Cx) (z : List Stmt), Fit F Gm ci X → PassesOwn (model X.prog X.w) X.A X.env X.xe → chkB ci c z = true → QB X z (denB F Gm c)
  | .nil, ci, X, z, f, hp, h => by
    unfold chkB at h
    split at h
    · exact qb_nil
    · cases h
  | .cons s b, ci, X, z, f, hp, h => by
    unfold chkB at h
    split at h
    · rw [Bool.and_eq_true] at h
      exact qb_cons (okS s ci X _ f hp h.1) (okB b ci X _ f hp h.2)
    · cases h
  | .lk i b, ci, X, z, f, hp, h => by
    unfold chkB at h
    exact qb_lk (okB b ci X _ f hp h)
theorem okH : ∀ (c : CH) (ci : Ci) (X : Cx) (z : List ExceptHandler), Fit F Gm ci X → chkH ci c z = true → HsOk X z (denH F Gm c)
  | .nil, ci, X, z, f, h => by
    unfold chkH at h
    split at h
    · exact .nil
    · cases h
  | .cons y i b r, ci, X, z, f, h => by
    unfold chkH at h
    split at h
    · rename_i z y' yp nm s0 ss hp2 hds
      simp only [Bool.and_eq_true, decide_eq_true_eq] at h
      obtain ⟨⟨⟨⟨⟨⟨rfl, h1⟩, h2⟩, h3⟩, h4⟩, h5⟩, h6⟩ := h
      refine .cons ⟨f.gl h1, (okName_ok h2).1, ?_, fun hy => ?_⟩ ?_ (fun a pn => okB b ci.inHot (X.suite a pn) _ (f.suite a pn) (fun _ _ z => z.elim) h5) (okH r ci X _ f h6)
      · split at h3
        · rename_i e
          subst e
          exact f.bt h3
        · exact (f.exl _ (List.contains_iff_mem.mp h3)).2
      · rw [if_neg hy] at h3
        exact (f.exl _ (List.contains_iff_mem.mp h3)).1
      · cases nm with
        | none =>
          cases i with
          | none => trivial
          | some _ => cases h4
        | some n =>
          cases i with
          | none => cases h4
          | some j =>
            have h4 : (ci.slot j n && isK (ci.kind n) .local) = true := h4
            rw [Bool.and_eq_true] at h4
            refine ⟨f.slot h4.1, ?_⟩
            show X.env.scope.names.lookup n = _
            rw [f.sc]
            exact isK_eq h4.2
    · cases h
end
end
end DL
namespace DL
open PySem PySem.Spec PyProof.Rows L2
def startD (N : List Str) (ds : List D) : Ev := ds.map some ++ List.replicate (N.length - ds.length) none
theorem start_rep {K : PySem.W.Frag} {H : Hp} {N : List Str} {vs : List V} {ds : List D} (r : Reps K H vs ds) : RepS K H (L2.start N vs) (startD N ds) := by
  have hl := r.length
  refine ⟨?_, fun i d e => ?_⟩
  · unfold L2.start startD
    simp [hl]
  · unfold startD at e
    unfold L2.start
    by_cases hi : i < ds.length
    · rw [List.getElem?_append_left (by simpa using hi), List.getElem?_map] at e
      cases e2 : ds[i]? with
      | none => rw [e2] at e; cases e
      | some d' =>
        rw [e2] at e
        have ed : d' = d := Option.some.inj (Option.some.inj e)
        subst ed
        obtain ⟨v, hv, rv⟩ := r.get e2
        refine ⟨v, ?_, rv⟩
        rw [List.getElem?_append_left (by rw [List.length_map, hl]; exact hi), List.getElem?_map, hv]
        rfl
    · rw [List.getElem?_append_right (by simpa using hi), List.getElem?_replicate] at e
      split at e <;> cases e
section
variable {P : Program} {w : World} {K : PySem.W.Frag} {mg : Str → Option Value} {base : Heap}
/-- a def of the text with its promise at level k -/
def DefOk (P : Program) (w : World) (K : PySem.W.Frag) (mg : Str → Option Value) (base : Heap) (k : Nat) (x : Str) (sp : DSp) : Prop :=
  ∃ (f : Addr) (fd : FuncData) (ps : List Str) (sp0 : DSp) (dd : List D) (dvs : List V) (dus : List Value),
    FnOk P w K mg base (L2N.CX P w) k f fd ps (liftSp K sp0) ∧ mg x = some (.ref f) ∧ PySem.W.keepIn K (.ref f) = true ∧ Binds K fd ps dus ∧ Vals dvs dus ∧ (∀ H, Reps K H dvs dd) ∧
      (∀ ds G Q xq, sp ds G Q xq → sp0 (ds ++ dd) G Q xq) ∧ f = He.ga K x
theorem DefOk.mono {j k : Nat} {x : Str} {sp : DSp} (d : DefOk P w K mg base j x sp) (h : j ≤ k) : DefOk P w K mg base k x sp := by
  obtain ⟨f, fd, ps, sp0, dd, dvs, dus, F, r⟩ := d
  exact ⟨f, fd, ps, sp0, dd, dvs, dus, F.mono h, r⟩
theorem DefOk.imp {k : Nat} {x : Str} {sp sp' : DSp} (d : DefOk P w K mg base k x sp) (h : ∀ ds G Q xq, sp' ds G Q xq → sp ds G Q xq) : DefOk P w K mg base k x sp' := by
  obtain ⟨f, fd, ps, sp0, dd, dvs, dus, F, r1, r2, r3, r4, r5, r6, r7⟩ := d
  exact ⟨f, fd, ps, sp0, dd, dvs, dus, F, r1, r2, r3, r4, r5, fun ds G Q xq q => r6 _ _ _ _ (h _ _ _ _ q), r7⟩
/-- the callees' table -/
def Cals (P : Program) (w : World) (K : PySem.W.Frag) (mg : Str → Option Value) (base : Heap) (k : Nat) (fns : List Str) (F : List DSp) : Prop :=
  ∀ (j : Nat) y s, fns[j]? = some y → F[j]? = some s → DefOk P w K mg base k y s
theorem Cals.nil {k : Nat} : Cals P w K mg base k [] [] := fun j y s h => by simp at h
theorem Cals.cons {k : Nat} {y : Str} {s : DSp} {fns : List Str} {F : List DSp} (d : DefOk P w K mg base k y s) (r : Cals P w K mg base k fns F) : Cals P w K mg base k (y :: fns) (s :: F) := fun j y' s' h1 h2 => by
  cases j with
  | zero =>
    have e1 : y = y' := Option.some.inj h1
    have e2 : s = s' := Option.some.inj h2
    subst e1 e2
    exact d
  | succ j => exact r j y' s' (by simpa using h1) (by simpa using h2)
/-- the module's constants -/
def Glbs (K : PySem.W.Frag) (mg : Str → Option Value) (glbs : List Str) (Gm : List D) : Prop :=
  ∀ (j : Nat) y d, glbs[j]? = some y → Gm[j]? = some d → ∃ v u, mg y = some u ∧ RelV v u ∧ ∀ H, Rep K H v d
theorem Glbs.nil : Glbs K mg [] [] := fun j y s h => by simp at h
theorem Glbs.cons {y : Str} {d : D} {glbs : List Str} {Gm : List D} (h : ∃ v u, mg y = some u ∧ RelV v u ∧ ∀ H, Rep K H v d) (r : Glbs K mg glbs Gm) : Glbs K mg (y :: glbs) (d :: Gm) := fun j y' s' h1 h2 => by
  cases j with
  | zero =>
    have e1 : y = y' := Option.some.inj h1
    have e2 : d = s' := Option.some.inj h2
    subst e1 e2
    exact h
  | succ j => exact r j y' s' (by simpa using h1) (by simpa using h2)
/-- what a body's proof is of -/
abbrev Fin0 (Q : DQ) (xq : XQ) : DEnds := { nx := fun _ G' => Q .non G', rt := Q, ex := fun z _ G' => xq z G' }
/-- some cells may be let go at the end -/
def WQ (Q : DQ) : DQ := fun d G => ∃ G', Dn G G' ∧ Q d G'
def WX (xq : XQ) : XQ := fun z G => ∃ G', Dn G G' ∧ xq z G'
theorem WQ.of {Q : DQ} {d : D} {G : Sto} (h : Q d G) : WQ Q d G := ⟨G, .refl, h⟩
theorem WX.of {Q : XQ} {d : Exn} {G : Sto} (h : Q d G) : WX Q d G := ⟨G, .refl, h⟩
def BodG (F : List DSp) (Gm : List D) (core : CB) (n : Nat) (sp : DSp) : Prop := ∀ ds G Q xq, sp ds G Q xq → ∃ Q' xq', (∀ d G', Q' d G' → WQ Q d G') ∧ (∀ z G', xq' z G' → WX xq z G') ∧ denB F Gm core (Fin0 Q' xq') (ds.map some ++ List.replicate (n - ds.length) none) G
def Bod (F : List DSp) (Gm : List D) (core : CB) (n : Nat) (sp : DSp) : Prop := ∀ ds G Q xq, sp ds G Q xq → denB F Gm core (Fin0 Q xq) (ds.map some ++ List.replicate (n - ds.length) none) G
def BodW (F : List DSp) (Gm : List D) (core : CB) (n : Nat) (sp : DSp) : Prop := ∀ ds G Q xq, sp ds G Q xq → denB F Gm core (Fin0 (WQ Q) (WX xq)) (ds.map some ++ List.replicate (n - ds.length) none) G
theorem Bod.g {F : List DSp} {Gm : List D} {core : CB} {n : Nat} {sp : DSp} (h : Bod F Gm core n sp) : BodG F Gm core n sp := fun ds G Q xq q => ⟨Q, xq, fun _ _ => .of, fun _ _ => .of, h ds G Q xq q⟩
theorem BodW.g {F : List DSp} {Gm : List D} {core : CB} {n : Nat} {sp : DSp} (h : BodW F Gm core n sp) : BodG F Gm core n sp := fun ds G Q xq q => ⟨_, _, fun _ _ z => z, fun _ _ z => z, h ds G Q xq q⟩
theorem BodG.none {F : List DSp} {Gm : List D} {core : CB} {n : Nat} {sp : DSp} (h : ∀ ds G Q xq, sp ds G Q xq → False) : BodG F Gm core n sp := fun ds G Q xq q => (h ds G Q xq q).elim
/-- a method, and a class that can be made, each with its promise -/
def MethOk (P : Program) (w : World) (K : PySem.W.Frag) (mg : Str → Option Value) (base : Heap) (k : Nat) (C : Addr) (m : Str) (sp : DSp) : Prop :=
  ∃ (j : Nat) (f : Addr) (fd : FuncData) (ps : List Str), j + 1 ≤ k ∧ FnOk P w K mg base (L2N.CX P w) j f fd ps (liftSp K sp) ∧ Meth K C m f ∧ Binds K fd ps []
def MakeOk (P : Program) (w : World) (K : PySem.W.Frag) (mg : Str → Option Value) (base : Heap) (k : Nat) (x : Str) (C : Addr) (sp : DSp) : Prop :=
  ∃ (j : Nat) (f : Addr) (fd : FuncData) (ps : List Str), j + 1 ≤ k ∧ FnOk P w K mg base (L2N.CX P w) j f fd ps (liftSp K sp) ∧ Mk K C f ∧ mg x = some (.ref C) ∧ Binds K fd ps []
structure ClsT (P : Program) (w : World) (K : PySem.W.Frag) (mg : Str → Option Value) (base : Heap) (k : Nat) (fns glbs blts : List Str) (F : List DSp) (Gm : List D) : Prop where
  cls : ∀ (j : Nat) C, Gm[j]? = some (.ref C) → Cls K C
  fld : ∀ (j : Nat) c C fl, glbs[j]? = some c → Gm[j]? = some (.ref C) → dot c fl ∈ blts → NoAttr K C fl
  met : ∀ (i j : Nat) c C m sp, glbs[j]? = some c → Gm[j]? = some (.ref C) → fns[i]? = some (dot c m) → F[i]? = some sp → MethOk P w K mg base k C m sp
  mkr : ∀ (i j : Nat) c C sp, glbs[j]? = some c → Gm[j]? = some (.ref C) → fns[i]? = some (dot c "__init__") → F[i]? = some sp → MakeOk P w K mg base k c C sp
def noRef (Gm : List D) : Bool := Gm.all fun d => match d with
  | .ref _ => false
  | _ => true
theorem noRef_ok {Gm : List D} (h : noRef Gm = true) {j : Nat} {C : Addr} (g : Gm[j]? = some (.ref C)) : False := by
  have := List.all_eq_true.mp h _ (List.mem_of_getElem? g)
  cases this
theorem ClsT.none {k : Nat} {fns glbs blts : List Str} {F : List DSp} {Gm : List D} (h : noRef Gm = true) : ClsT P w K mg base k fns glbs blts F Gm :=
  ⟨fun j C g => (noRef_ok h g).elim, fun j c C fl _ g => (noRef_ok h g).elim, fun i j c C m sp _ g => (noRef_ok h g).elim, fun i j c C sp _ g => (noRef_ok h g).elim⟩
/-- a def that may be called where an exception is handled -/
def HotOk (P : Program) (w : World) (K : PySem.W.Frag) (mg : Str → Option Value) (base : Heap) (k : Nat) (x : Str) (sp : DSp) : Prop :=
  ∃ (j : Nat) (f : Addr) (fd : FuncData) (ps : List Str), j ≤ k ∧ FnT P w K mg base (L2N.CX P w) j f fd ps (liftSp K sp) ∧ mg x = some (.ref f) ∧ PySem.W.keepIn K (.ref f) = true ∧ Binds K fd ps []
/-- a refusal that may be raised -/
def RaiseOk (P : Program) (w : World) (K : PySem.W.Frag) (mg : Str → Option Value) (base : Heap) (k : Nat) (x : Str) (fl : List Str) : Prop :=
  ∃ (j : Nat) (fI : Addr) (fd : FuncData) (ps : List Str), j + 1 ≤ k ∧ Lf K x ∧ PySem.W.findIn K (.ref (He.ga K x)) "__init__" = some (some (.ref fI)) ∧ PySem.W.typeIn K (.ref fI) = some (.type "function") ∧
    FnOk P w K mg base (L2N.CX P w) j fI fd ps (spInit (He.ga K x) fl) ∧ Binds K fd ps [] ∧ mg x = some (.ref (He.ga K x))
/-- a def that asks that nothing is being shown -/
def GDefOk (P : Program) (w : World) (K : PySem.W.Frag) (mg : Str → Option Value) (base : Heap) (k : Nat) (x : Str) (sp : DSp) : Prop :=
  ∃ (f : Addr) (fd : FuncData) (ps : List Str), GOk P w K mg base (L2N.CX P w) k f fd ps (liftSp K sp) ∧ (∀ ds G Q xq, sp ds G Q xq → ds.length = ps.length) ∧ mg x = some (.ref f) ∧ PySem.W.keepIn K (.ref f) = true ∧ Binds K fd ps []
/-- all that a def's body may lean on -/
structure TabOk (P : Program) (w : World) (K : PySem.W.Frag) (mg : Str → Option Value) (base : Heap) (k : Nat) (ci : Ci) (F : List DSp) (Gm : List D) : Prop where
  cal : ∀ (j : Nat) y s, ci.fns[j]? = some y → F[j]? = some s → plainN y = true → DefOk P w K mg base k y s
  hcal : ∀ (j : Nat) y s, ci.fns[j]? = some (bang y) → F[j]? = some s → HotOk P w K mg base k y s
  ct : ClsT P w K mg base k ci.fns ci.glbs ci.blts F Gm
  glb : Glbs K mg ci.glbs Gm
  blt : ∀ y, y ∈ ci.blts → mg y = none
  exl : ∀ x, x ∈ ci.exs → Lf K x ∧ mg x = some (.ref (He.ga K x))
  bt : ci.beat = true → mg "BeatError" = some (.ref (bt K))
  rai : ∀ x fl, (x, fl) ∈ ci.rs → RaiseOk P w K mg base k x fl
  fvl : ∀ x, x ∈ ci.fvs → mg x = some (.ref (He.ga K x))
  gcal : ∀ (j : Nat) y s, ci.fns[j]? = some (pct y) → F[j]? = some s → GDefOk P w K mg base k y s
/-- the context of a def's body fits -/
theorem fit_def {N ps : List Str} {qual : Str} {scope : Scope} {f : Addr} {cdv : Value} {A : Around} {outer : List PySem.Env} {s : Shared} {H : Hp} {E : XK} {k : Nat} {ci : Ci} {F : List DSp} {Gm : List D} (S : FnScope N ps scope) (T : TabOk P w K mg base k ci F Gm) (hN : ci.N = N) (hs : ci.sc = scope) (ho : ci.own = none) (hh : ci.hot = false)
    (hthk : ci.thk = true → ∀ (j : Nat) x sp, ci.fns[j]? = some (quest x) → F[j]? = some sp → ∀ (pn : List (Addr × Obj)) (xe : Value → Shared → Prop) (p1 p2 : Pos), QE ((cxOf (L2N.CX P w) P w K mg base N qual scope f cdv A outer s H E).tr pn xe) (.Call (.Name x p1) [] [] p2) (thkR sp))
    (hlam : ci.lam = true → LamF F Gm ci (cxOf (L2N.CX P w) P w K mg base N qual scope f cdv A outer s H E))
    (hr : Room k (A.deeper (envOfC qual scope s.heap.objs.size f cdv))) (hgd : (("repr" : Str) ∈ ci.blts ∨ ci.grd = true) → (A.deeper (envOfC qual scope s.heap.objs.size f cdv)).guards = some []) : Fit F Gm ci (cxOf (L2N.CX P w) P w K mg base N qual scope f cdv A outer s H E) where
  N := hN.symm
  nd := by rw [hN]; exact S.nd
  sc := hs.symm
  kind := by rw [hs]; exact S.kind
  calm := fun _ => rfl
  hotc := fun z => by rw [hh] at z; cases z
  own := by rw [ho]; exact fun _ => rfl
  stk := fun _ => ⟨rfl, rfl⟩
  hu := by
    have := hr.un
    show (A.deeper _).units + 65 < cLine
    omega
  cal := fun _ j y sp' h1 h2 h3 => by
    obtain ⟨f', fd', ps', sp0, dd, dvs, dus, F', r1, r2, r3, r4, r5, r6, r7⟩ := T.cal j y sp' h1 h2 h3
    subst r7
    exact ⟨⟨k, _, fd', ps', sp0, dd, dvs, dus, F', hr, r1, r2, r3, r4, r5, r6⟩, r1⟩
  hcal := fun j y sp' h1 h2 => by
    obtain ⟨l, f', fd', ps', hl, F', r⟩ := T.hcal j y sp' h1 h2
    exact ⟨l, f', fd', ps', F', L2H.roomH_of (hr.mono hl), r⟩
  cls := T.ct.cls
  fld := T.ct.fld
  met := fun _ i j c C m sp' h1 h2 h3 h4 => by
    obtain ⟨l, f', fd', ps', hl', F', r1, r2⟩ := T.ct.met i j c C m sp' h1 h2 h3 h4
    exact ⟨l, f', fd', ps', F', hr.mono hl', r1, r2⟩
  mkr := fun _ i j c C sp' h1 h2 h3 h4 => by
    obtain ⟨l, f', fd', ps', hl', F', r1, r2, r3⟩ := T.ct.mkr i j c C sp' h1 h2 h3 h4
    exact ⟨l, f', fd', ps', F', hr.mono hl', r1, r2, r3⟩
  glb := fun j y d h1 h2 => T.glb j y d h1 h2
  blt := T.blt
  gd := fun z => hgd (.inl z)
  exl := T.exl
  bt := T.bt
  rai := fun _ x fl h => by
    obtain ⟨j, fI, fd, ps, hj, lf, r1, r2, r3, r4, r5⟩ := T.rai x fl h
    exact ⟨j, fI, fd, ps, lf, r1, r2, r3, hr.mono hj, r4, r5⟩
  fvl := T.fvl
  thk := fun z _ _ => hthk z
  lamf := fun z _ _ => hlam z
  gcal := fun z _ j y sp' h1 h2 => by
    obtain ⟨g, fd', ps', F0, hl, r1, r2, r3⟩ := T.gcal j y sp' h1 h2
    exact ⟨k, g, fd', ps', F0, hl, hr, hgd (.inr z), r1, r2, r3⟩
/-- from a proof of the reading to the walk -/
theorem def_walk {X : Cx} {F : List DSp} {Gm : List D} {ci : Ci} {core : CB} {body : List Stmt} {N : List Str} {ds : List D} {G : Sto} {H : Hp} {vs : List V} {Q0 : DQ} {xq0 : XQ} {Q : VK} {E : XK} {sp : DSp} (hKX : X.K = K) (fit : Fit F Gm ci X) (hp : PassesOwn (model X.prog X.w) X.A X.env X.xe) (tkE : L2N.Takes X (fun cls d _ H => E cls d H)) (hot : HotX X H)
    (hchk : chkB ci core body = true) (hsp : BodG F Gm core N.length sp) (r : Reps K H vs ds) (sm : Sim K G H) (q0 : sp ds G Q0 xq0) (hQ : ∀ v H', Lift K G H Q0 v H' → Q v H') (hE : ∀ x cls d G' H', ExnRep K H' cls d x → Sim K G' H' → Ext K G H G' H' → xq0 x G' → E cls d H') :
    WSs X body { nx := fun _ H' => Q .non H', rt := Q } (L2.start N vs) H := by
  obtain ⟨Q', xq, wQ, wX, q⟩ := hsp ds G Q0 xq0 q0
  subst hKX
  have tk : TkS X G H (fun z _ G' => xq z G') := ⟨fun z σ' ρ' cls d G' H' _ xr s' e' q' u s1 xe => tkE u s1 (by
      obtain ⟨a, B, sI, pins, σ1, H1, cls1, d1, e, I, nb, up, sky, na, os, ag, rfl, rfl, rfl, rfl⟩ := xe
      obtain ⟨G7, d7, q7⟩ := wX _ _ q'
      exact ⟨a, B, sI, pins, σ1, H1, cls1, d1, e, I, nb, up, sky, na, os, ag, hE z _ _ G7 _ xr (d7.sim s') (e'.trans d7.ext) q7⟩), hot⟩
  have := (okB core ci X body fit hp hchk).run { nx := fun _ G' => Q' .non G', rt := Q', ex := fun z _ G' => xq z G' } (startD N ds) G (L2.start N vs) H q (start_rep r) sm tk
  exact this.imp (fun σ1 H1 ⟨ρ1, G1, _, s1, e1, q1⟩ => by
      obtain ⟨G7, d7, q7⟩ := wQ _ _ q1
      exact hQ _ _ ⟨.non, G7, .non, d7.sim s1, e1.trans d7.ext, q7⟩) (fun v H1 ⟨d, G1, r1, s1, e1, q1⟩ => by
      obtain ⟨G7, d7, q7⟩ := wQ _ _ q1
      exact hQ _ _ ⟨d, G7, r1, d7.sim s1, e1.trans d7.ext, q7⟩) (fun _ _ ⟨_, _, _, _, _, z⟩ => z) (fun _ _ ⟨_, _, _, _, _, z⟩ => z)
theorem mk_fn {x qual : Str} {params : Arguments} {body : List Stmt} {scope : Scope} {dvs0 : List V} {kws : List (Str × V)} {f : Addr} {fd : FuncData} {N ps : List Str} {ci : Ci} {F : List DSp} {Gm : List D} {core : CB} {k : Nat} {sp : DSp}
    (Fu : FunD K x qual params body scope dvs0 kws f fd) (S : FnScope N ps scope) (hl : ∀ ds G Q xq, sp ds G Q xq → ds.length = ps.length) (T : TabOk P w K mg base k ci F Gm) (hchk : chkB ci core body = true) (hsp : BodG F Gm core N.length sp)
    (hN : ci.N = N := by rfl) (hs : ci.sc = scope := by rfl) (ho : ci.own = none := by rfl) (hh : ci.hot = false := by rfl) (hng : ("repr" : Str) ∉ ci.blts := by decide +kernel) (hfl : ci.thk = false ∧ ci.lam = false ∧ ci.grd = false := by exact ⟨rfl, rfl, rfl⟩) : FnOk P w K mg base (L2N.CX P w) (k + 1) f fd ps (liftSp K sp) := by
  refine Fu.ok S (fun vs H Q E h => ?_) (fun cdv A outer s H vs Q E hr h => ?_)
  · obtain ⟨ds, G, Q', xq, r, _, q, _⟩ := h
    rw [r.length]
    exact hl _ _ _ _ q
  · obtain ⟨ds, G, Q0, xq0, r, sm, q0, hQ, hE⟩ := h
    exact ⟨_, pss_max, def_walk rfl (fit_def S T hN hs ho hh (fun z => by rw [hfl.1] at z; cases z) (fun z => by rw [hfl.2.1] at z; cases z) hr fun z => z.elim (fun z => (hng z).elim) (fun z => by rw [hfl.2.2] at z; cases z)) (passes_of rfl) (L2N.takes_of (X := cxOf (L2N.CX P w) P w K mg base N qual scope f cdv A outer s H E) (E := E) rfl rfl rfl rfl) (.calm rfl) hchk hsp r sm q0 hQ hE⟩
theorem mk_def {x qual : Str} {params : Arguments} {body : List Stmt} {scope : Scope} {f : Addr} {fd : FuncData} {N ps : List Str} {ci : Ci} {F : List DSp} {Gm : List D} {core : CB} {k : Nat} {sp : DSp}
    (Fu : FunD K x qual params body scope [] [] f fd) (g : mg x = some (.ref f)) (b : Binds K fd ps []) (S : FnScope N ps scope) (hl : ∀ ds G Q xq, sp ds G Q xq → ds.length = ps.length) (T : TabOk P w K mg base k ci F Gm) (hchk : chkB ci core body = true) (hsp : BodG F Gm core N.length sp)
    (hN : ci.N = N := by rfl) (hs : ci.sc = scope := by rfl) (ho : ci.own = none := by rfl) (hh : ci.hot = false := by rfl) (hng : ("repr" : Str) ∉ ci.blts := by decide +kernel) (hfl : ci.thk = false ∧ ci.lam = false ∧ ci.grd = false := by exact ⟨rfl, rfl, rfl⟩) (hf : f = He.ga K x := by rfl) : DefOk P w K mg base (k + 1) x sp :=
  ⟨f, fd, ps, sp, [], [], [], mk_fn Fu S hl T hchk hsp hN hs ho hh hng hfl, g, Fu.kp, b, .nil, fun _ => .nil, fun ds G Q xq q => by rw [List.append_nil]; exact q, hf⟩
/-- a def that calls the lambda that it got, with its promise -/
def LamOk (P : Program) (w : World) (K : PySem.W.Frag) (mg : Str → Option Value) (base : Heap) (k : Nat) (x : Str) (sp : DSp) : Prop :=
  ∃ (g : Addr) (fd : FuncData) (N : List Str) (a qual : Str) (scope : Scope) (cdv : Value), HFn P w K mg base (k + 1) g fd N a qual scope cdv (hspOf sp) ∧ mg x = some (.ref g) ∧ PySem.W.keepIn K (.ref g) = true ∧ Binds K fd [a] []
theorem LamOk.mono {j k : Nat} {x : Str} {sp : DSp} (d : LamOk P w K mg base j x sp) (h : j ≤ k) : LamOk P w K mg base k x sp := by
  obtain ⟨g, fd, N, a, qual, scope, cdv, F, r⟩ := d
  exact ⟨g, fd, N, a, qual, scope, cdv, ⟨F.slot, fun A outer s H f c vs ds tl G Q xq Q' E hr m e0 hb hc rd hq => F.run A outer s H f c vs ds tl G Q xq Q' E (hr.mono (by omega)) m e0 hb hc rd fun _ => hq ⟨hr.hd, (hr.deeper _).dp, (hr.deeper _).un⟩⟩, r⟩
/-- the law's own promise -/
def lawSp : DSp := fun ds G Q _ => ∃ ns : List Int, ds = [.sc (ns.map D.int)] ∧ ns.length ≤ 63 ∧ (∀ b, G b = none) ∧ ∀ G', Q (.bl true) G'
theorem law_start {H : Hp} {a : Addr} {ns : List Int} (hl : ns.length ≤ 63) (hO : L2.Only H) (hS : SqL K H a (ns.map V.int)) : liftSp K lawSp [.ref a] H (fun v _ => v = .bl true) fun _ _ _ => False := by
  have ro : RoL K H a (ns.map V.int) := by
    rcases hS with (h | ⟨o, h⟩) | h
    · rcases hO a with z | ⟨o, xs, z⟩
      · rw [h] at z; cases z
      · rw [h] at z; cases z
    · exact .inl ⟨o, h⟩
    · exact .inr h
  refine ⟨[.sc (ns.map D.int)], fun _ => none, fun d _ => d = .bl true, fun _ _ => False, .cons (.sc ro (reps_ints ns)) .nil, fun b c z => (by cases z), ⟨ns, rfl, hl, fun _ => rfl, fun _ => rfl⟩, fun v H' ⟨d, G', r, _, _, q⟩ => ?_, fun _ _ _ _ _ _ _ _ z => z⟩
  subst q
  cases r
  rfl
theorem cx_never {H : Hp} {s : Shared} {e : Value} {s' : Shared} (h : L2N.CX P w [] H s (fun _ _ _ => False) e s') : False := by
  obtain ⟨_, _, _, _, _, _, _, _, _, _, _, _, z⟩ := h
  exact z
/-- a law's end; as HandS.HeadEnd has it, what is raised told by the world -/
theorem walk_end {l : PySem.W.OpenLaw} {n k : Nat} {q : Program} {loose : List Str} {XP : (Str → Option Value) → Heap → Prop} {YP : World → Heap → Prop} {d : DefRec} {x : Str}
    (hn : l.most = some n) (hn2 : n ≤ 63) (hdf : d.params.defaults = []) (hr : Room k callerA)
    (F : ∀ (w : World) (mg : Str → Option Value) (fa : Addr) (h : Heap), YP w h → h.Ns mainGlobals mg → mg d.name = some (.ref fa) →
      ∃ (K : PySem.W.Frag) (fd : FuncData), K.In h ∧ (∀ (s : Shared) (u : Value), BindsTo s fd ⟨[u], []⟩ [(x, u)]) ∧
        ∀ base : Heap, K.In base → base.Ns mainGlobals mg → FnOk l.prog w K mg base (L2N.CX l.prog w) k fa fd [x] (liftSp K lawSp)) :
    PySem.W.WalkO q loose XP YP l.row.toRowW d [] (fun f vs => PySem.call f vs) := by
  refine Att.attach_call hn hdf fun w s0 s1 mg mb fa o pm cd doc a vs ns G Y ho hd hcd hmg hobj hints hlen hg => ?_
  obtain ⟨K, fd, KX, hb, hF⟩ := F w mg fa _ Y G.T.g hmg
  exact law_call KX G.T.g G.T.b G.T.builtins G.T.nolimit hg hobj hints (Nat.le_trans (Nat.le_trans hlen hn2) (by decide)) hr hF hb (fun H hO hS => law_start (Nat.le_trans hlen hn2) hO hS) fun H e s' => cx_never
end
end DL
namespace DL
open PySem PySem.Spec PyProof.Rows L2
/-! loops by an invariant -/
/-- by the turn, where a turn may let cells go -/
theorem for_atL {g : DG} {tb : DS} {keep : Sto → Prop} {De : DEnds} {items : List D} (I : Nat → Ev → Sto → Prop) {ρ : Ev} {G : Sto} (h0 : I 0 ρ G)
    (step : ∀ i x, items[i]? = some x → ∀ ρ G (N : NQ), I i ρ G → (∀ ρ' G' G'', Dn G' G'' → I (i + 1) ρ' G'' → N ρ' G') → keep G ∧ g x ρ G (fun ρ1 G1 => tb { De with nx := N, ct := N, bk := De.nx } ρ1 G1) De.ex)
    (fin : ∀ ρ G, I items.length ρ G → keep G ∧ De.nx ρ G) : forL g tb keep De items ρ G := by
  have main : ∀ (n : Nat) (k : Nat), n = items.length - k → k ≤ items.length → ∀ ρ G, I k ρ G → forL g tb keep De (items.drop k) ρ G := by
    intro n
    induction n with
    | zero =>
      intro k hn hk ρ G h
      obtain rfl : k = items.length := by omega
      rw [List.drop_length]
      exact fin ρ G h
    | succ n ih =>
      intro k hn hk ρ G h
      have hlt : k < items.length := by omega
      rw [List.drop_eq_getElem_cons hlt]
      exact step k _ (List.getElem?_eq_getElem hlt) ρ G _ h fun ρ' G' G'' d i => ⟨G'', d, ih (k + 1) (by omega) hlt ρ' G'' i⟩
  have := main _ 0 rfl (Nat.zero_le _) ρ G h0
  rwa [List.drop_zero] at this
theorem lc_ixL {g : DG} {tt : DT} {te : DE} {ρ0 : Ev} {keep : Sto → Prop} {fin : List D → Sto → Prop} (I : Nat → List D → Sto → Prop) : ∀ {items acc : List D} {G : Sto} (k : Nat), I k acc G →
    (∀ i x, items[i]? = some x → ∀ acc G (N : List D → Sto → Prop), I (k + i) acc G → (∀ a G', I (k + i + 1) a G' → N a G') → keep G ∧ g x ρ0 G (fun ρ1 G1 => tt ρ1 G1 (fun b G2 => if b = true then te ρ1 G2 (fun d G3 => acc.length < sizeLine ∧ N (acc ++ [d]) G3) (fun _ _ => False) else N acc G2) (fun _ _ => False)) (fun _ _ _ => False)) →
    (∀ a G, I (k + items.length) a G → keep G ∧ fin a G) → lcL g tt te ρ0 keep fin items acc G
  | [], acc, G, k, h0, _, f => f acc G h0
  | x :: xs, acc, G, k, h0, step, f => by
    exact step 0 x rfl acc G (fun a G' => Less (lcL g tt te ρ0 keep fin xs a) G') h0 fun a G' i => .of (lc_ixL I (k + 1) i (fun j y hy acc G N a b => step (j + 1) y (by simpa using hy) acc G N (by rw [show k + (j + 1) = k + 1 + j by omega]; exact a) (fun ρ' G' z => b ρ' G' (by rw [show k + 1 + j + 1 = k + (j + 1) + 1 by omega]; exact z))) (fun ρ G z => f ρ G (by rw [show k + (x :: xs).length = k + 1 + xs.length by rw [List.length_cons]; omega]; exact z)))
theorem for_at {g : DG} {tb : DS} {keep : Sto → Prop} {De : DEnds} {items : List D} (I : Nat → Ev → Sto → Prop) {ρ : Ev} {G : Sto} (h0 : I 0 ρ G)
    (step : ∀ i x, items[i]? = some x → ∀ ρ G (N : NQ), I i ρ G → (∀ ρ' G' G'', Dn G' G'' → I (i + 1) ρ' G'' → N ρ' G') → keep G ∧ g x ρ G (fun ρ1 G1 => tb { De with nx := N, ct := N, bk := De.nx } ρ1 G1) De.ex)
    (fin : ∀ ρ G, I items.length ρ G → keep G ∧ De.nx ρ G) : forS g tb keep De items ρ G := by
  rw [forS_eq]
  exact for_atL I h0 step fin
theorem lc_ix {g : DG} {tt : DT} {te : DE} {ρ0 : Ev} {keep : Sto → Prop} {fin : List D → Sto → Prop} (I : Nat → List D → Sto → Prop) {items acc : List D} {G : Sto} (k : Nat) (h0 : I k acc G)
    (step : ∀ i x, items[i]? = some x → ∀ acc G (N : List D → Sto → Prop), I (k + i) acc G → (∀ a G', I (k + i + 1) a G' → N a G') → keep G ∧ g x ρ0 G (fun ρ1 G1 => tt ρ1 G1 (fun b G2 => if b = true then te ρ1 G2 (fun d G3 => acc.length < sizeLine ∧ N (acc ++ [d]) G3) (fun _ _ => False) else N acc G2) (fun _ _ => False)) (fun _ _ _ => False))
    (f : ∀ a G, I (k + items.length) a G → keep G ∧ fin a G) : lcS g tt te ρ0 keep fin items acc G := by
  rw [lcS_eq]
  exact lc_ixL I k h0 step f
theorem mem_range {x : D} {lo : Int} {n : Nat} (h : x ∈ rangeD lo n) : ∃ i : Nat, i < n ∧ x = .int (lo + i) := by
  unfold rangeD at h
  obtain ⟨i, hi, e⟩ := List.mem_map.mp h
  exact ⟨i, List.mem_range.mp hi, e.symm⟩
theorem get_range {x : D} {lo : Int} {n i : Nat} (h : (rangeD lo n)[i]? = some x) : i < n ∧ x = .int (lo + i) := by
  unfold rangeD at h
  rw [List.getElem?_map] at h
  by_cases hi : i < n
  · rw [List.getElem?_range hi] at h
    exact ⟨hi, (Option.some.inj h).symm⟩
  · rw [List.getElem?_eq_none (by simpa using hi)] at h
    cases h
theorem divok {i m : Int} (h : 1 ≤ m) (h2 : m < 2 ^ 200) : CDiv i m ∨ CDivW i m := .inr (wide_div (b := 200) (by omega) (by omega) (by decide) (by decide))
theorem mulL {i j : Int} (h : -(2 ^ 64) < i) (h2 : i < 2 ^ 64) : CMul i j ∨ CMulW i j := .inl (.inl ⟨h, h2⟩)
theorem mulR {i j : Int} (h : -(2 ^ 64) < j) (h2 : j < 2 ^ 64) : CMul i j ∨ CMulW i j := .inl (.inr ⟨h, h2⟩)
theorem take_snoc {α : Type} {l : List α} {i : Nat} {x : α} (h : l[i]? = some x) : l.take i ++ [x] = l.take (i + 1) := by
  rw [List.take_add_one, h]
  rfl
end DL
namespace DL
open PySem PySem.Spec PyProof.Rows L2
/-! deeds -/
def doneF (d : Str) (a b : Int) : Int :=
  if (d == "add") = true then (a + b) % 65536 else if (d == "less") = true then (a - b) % 65536 else if (d == "times") = true then a * b % 65536
  else if (d == "both") = true then Builtin.bitAnd a b else if (d == "odd") = true then Builtin.bitXor a b else if (d == "same") = true then (if a == b then 1 else 0) else (if decide (a < b) then 1 else 0)
/-! a worth drawn -/
end DL
namespace DL
open PySem PySem.Spec PyProof.Rows L2
/-! the module's constants, read off the heap -/
section
variable {fa : List He.Fa} {fn : List He.DefD} {cs : List (Str × D)} {xd : XsD} {K : PySem.W.Frag}
theorem SaysC.says (c : SaysC fa fn cs xd K) : He.SaysD fa fn K := by
  have c1 := (He.ba (He.ba (congrArg (fun z : He.AlD => z.1) c)).1).1
  have c2 : (fn.map fun d => He.fnW K d.at_) = fn.map He.DefD.val := congrArg (fun z : He.AlD => z.2) c
  exact Prod.ext c1 c2
theorem SaysC.lf (c : SaysC fa fn cs xd K) (i : Nat) {x : Str} (h : xd.xs[i]? = some x) : Lf K x := by
  have c1 := (He.ba (He.ba (congrArg (fun z : He.AlD => z.1) c)).2).1
  exact List.all_eq_true.mp c1 x (List.mem_of_getElem? h)
theorem SaysC.mk (c : SaysC fa fn cs xd K) (h : xd.mks = true) : btI K = true := by
  have c1 := (He.ba (He.ba (congrArg (fun z : He.AlD => z.1) c)).2).2
  rw [h] at c1
  exact c1
end
theorem Cals.none {P : Program} {w : World} {K : PySem.W.Frag} {mg : Str → Option Value} {base : Heap} {k : Nat} {fns : List Str} : Cals P w K mg base k fns [] := fun j y s _ h => by simp at h
/-- every argument row that a promise takes has n members -/
def LenS (sp : DSp) (n : Nat) : Prop := ∀ ds G Q xq, sp ds G Q xq → ds.length = n
abbrev sp_law := lawSp
theorem len_law : LenS sp_law 1 := by rintro ds G Q xq ⟨ns, rfl, _⟩; rfl
end DL
namespace DL
open PySem PySem.Spec PyProof.Rows L2
/-! a law whose body calls repr: its promise where nothing is being shown.
Like FnOk and the law's call of HandS, with the guards carried along. -/
end DL
namespace DL
open PySem PySem.Spec PyProof.Rows L2
def initCk (N fl : List Str) (scope : Scope) (body : List Stmt) : Bool := decide (N.length = fl.length + 1) && (decide (N[0]? = some ("self" : Str)) && (N.all (fun y => isK (scope.names.lookup y) .local && okName y) && (isK (scope.names.lookup ("BeatError" : Str)) .globalImplicit && (fl.all (fun f => decide (f ∈ xFields)) &&
  match body with
  | .Expr (.Call (.Attribute (.Name b _) i ap) [.Name s _, .Constant (.str _) _ _] [] cp) _ :: rest => decide (b = "BeatError") && (decide (i = "__init__") && (decide (s = "self") && ((ap.endLine == cp.line) && (stB N 1 fl rest && decide (fl.length ≤ 800)))))
  | _ => false))))
section
variable {P : Program} {w : World} {K : PySem.W.Frag} {mg : Str → Option Value} {base : Heap}
theorem start_get {N : List Str} {vs : List V} {i : Nat} {v : V} (h : vs[i]? = some v) : (L2.start N vs)[i]? = some (some v) := by
  unfold L2.start
  have hi : i < vs.length := by
    rcases List.getElem?_eq_some_iff.mp h with ⟨h1, _⟩
    exact h1
  rw [List.getElem?_append_left (by simpa using hi), List.getElem?_map, h]
  rfl
/-- a refusal's __init__ -/
theorem init_fn {x qual : Str} {params : Arguments} {body : List Stmt} {scope : Scope} {fI : Addr} {fd : FuncData} {N fl : List Str} {k : Nat} (Fu : FunD K "__init__" qual params body scope [] [] fI fd) (S : FnScope N N scope) (hck : initCk N fl scope body = true)
    (lf : Lf K x) (hI : btI K = true) (gB : mg "BeatError" = some (.ref (bt K))) : FnOk P w K mg base (L2N.CX P w) (k + 1) fI fd N (spInit (He.ga K x) fl) := by
  unfold initCk at hck
  simp only [Bool.and_eq_true, decide_eq_true_eq, List.all_eq_true] at hck
  obtain ⟨hN, hself, hvis, hgl, hfl, hck⟩ := hck
  refine Fu.ok S (fun vs H Q E h => ?_) (fun cdv A outer s H vs Q E hr h => ?_)
  · obtain ⟨a, ws, rfl, hl, _⟩ := h
    rw [List.length_cons, hl, hN]
  · obtain ⟨a, ws, rfl, hl, ea, q0, q1⟩ := h
    split at hck
    · rename_i b pb i ap se ps m j pm cp pe rest
      simp only [Bool.and_eq_true, decide_eq_true_eq] at hck
      obtain ⟨rfl, rfl, rfl, hline, hst, h8⟩ := hck
      refine ⟨_, pss_max, ?_⟩
      intro pins s1 I
      have T := lf_oex lf
      have hty : PySem.W.typeIn K (.ref (bt K)) = some (.type "type") := by
        have := bt_isc lf
        rw [Bool.and_eq_true] at this
        exact eq_of_beq this.2
      have m0 : ("self" : Str) ∈ N := List.mem_of_getElem? hself
      have hv : ∀ y, y ∈ N → Vis scope y := fun y hy => .inl (isK_eq (hvis y hy).1)
      have hnm : ∀ y, y ∈ N → (y == ("__debug__" : Str)) = false ∧ (y == ("__classdict__" : Str)) = false := fun y hy => okName_ok (hvis y hy).2
      have P0 := ps_expr (X := cxOf (L2N.CX P w) P w K mg base N qual scope fI cdv A outer s H E) (pos := pe) (pe_beinit (p1 := pb) (p2 := ap) (pos := cp) (isK_eq hgl) gB hty hI (pa_cons (pe_var (pos := ps) hself (hv _ m0) (hnm _ m0).1 (hnm _ m0).2) (pa_cons (pe_str (j := j) (pos := pm) (x := m)) pa_nil)) (meth_eq rfl rfl (by simp) hline) rfl rfl) rfl
      refine wpAny_execs_cons (thn (P0.run pins s1 _ H { nx := fun σ' H' => σ' = L2.start N (.ref a :: ws) ∧ H' = H, rt := Q } I ?_) fun f1 s2 z => ?_)
      · exact ⟨.ref a, start_get rfl, a, _, [.str m], rfl, by simp, T, ea, rfl, rfl⟩
      · cases f1 with
        | next =>
          obtain ⟨σ1, H1, I1, rfl, rfl⟩ := z
          cases fl with
          | nil =>
            have e0 : rest = [] := by
              unfold stB at hst
              exact List.isEmpty_iff.mp hst
            subst e0
            exact wpAny_execs_nil ⟨_, _, I1, q0 rfl⟩
          | cons f fl =>
            obtain ⟨w0, ws, rfl⟩ : ∃ w0 ws', ws = w0 :: ws' := by
              cases ws with
              | nil => simp at hl
              | cons w0 ws' => exact ⟨w0, ws', rfl⟩
            have st := stB_ok hst
            cases st with
            | @cons _ _ y _ b q1' q2' q3' q4' hy hst2 =>
              have my : y ∈ N := List.mem_of_getElem? hy
              have P1 := ps_ost (X := cxOf (L2N.CX P w) P w K mg base N qual scope fI cdv A outer s H1 E) (p' := q2') (pos := q4') (f := f) (pe_var (pos := q1') hself (hv _ m0) (hnm _ m0).1 (hnm _ m0).2) (pe_var (pos := q3') hy (hv y my) (hnm y my).1 (hnm y my).2) rfl
              have hno : ∀ g, g ∈ xFields → PySem.W.findIn K (.ref (He.ga K x)) g = some none := fun g hg => lf_noat lf hg
              refine wpAny_execs_cons (thn (P1.run pins s2 _ H1 { nx := fun σ' H' => σ' = L2.start N (.ref a :: w0 :: ws) ∧ ∃ dx, H1 dx = none ∧ dx ≠ a ∧ H' = upd (upd H1 dx (exd dx [(f, w0)])) a (exo a (He.ga K x) (some dx)), rt := Q } I1 ?_) fun f2 s3 z => ?_)
              · exact ⟨w0, start_get rfl, .ref a, start_get rfl, a, _, rfl, T, hno f (hfl f (List.mem_cons_self ..)), .inl ⟨ea, fun dx hd hda => ⟨rfl, dx, hd, hda, rfl⟩⟩⟩
              · cases f2 with
                | next =>
                  obtain ⟨σ2, H2, I2, rfl, dx, hd, hda, rfl⟩ := z
                  refine pss_fields (X := cxOf (L2N.CX P w) P w K mg base N qual scope fI cdv A outer s H1 E) (C := He.ga K x) T hno hself hv hnm hst2 (fun g hg => hfl g (List.mem_cons_of_mem _ hg)) pins s3 _ _ _ a dx [(f, w0)] ws I2 upd_same (by rw [upd_ne hda, upd_same]) (by
                      rw [List.length_cons] at h8
                      show 1 + fl.length ≤ 900
                      omega) (start_get rfl) (by simpa using hl) (fun j v hj => start_get (by rw [show 1 + 1 + j = j + 1 + 1 by omega]; simpa using hj)) (fun σ' H' eH => ?_)
                  have q2 := q1 (by simp) dx hd hda
                  have eq : H' = upd (upd H1 dx (exd dx (fsV (f :: fl) (w0 :: ws)))) a (exo a (He.ga K x) (some dx)) := by
                    rw [eH]
                    funext c
                    by_cases hc : c = a
                    · subst hc
                      rw [upd_ne (Ne.symm hda), upd_same, upd_same]
                    · by_cases hc2 : c = dx
                      · subst hc2
                        rw [upd_same, upd_ne hc, upd_same]
                        unfold fsV
                        rw [List.zip_cons_cons, List.reverse_cons]
                      · rw [upd_ne hc2, upd_ne hc, upd_ne hc2, upd_ne hc, upd_ne hc2]
                  show Q .non H'
                  rw [eq]
                  exact q2
                | brk => obtain ⟨_, _, _, z⟩ := z; exact z.elim
                | cont => obtain ⟨_, _, _, z⟩ := z; exact z.elim
                | ret u =>
                  obtain ⟨v, σ2, H2, I2, r2, q2⟩ := z
                  exact ⟨v, σ2, H2, I2, r2, q2⟩
        | brk => obtain ⟨_, _, _, z⟩ := z; exact z.elim
        | cont => obtain ⟨_, _, _, z⟩ := z; exact z.elim
        | ret u =>
          obtain ⟨v, σ2, H2, I2, r2, q2⟩ := z
          exact ⟨v, σ2, H2, I2, r2, q2⟩
    · cases hck
end
end DL
namespace DL
open PySem PySem.Spec PyProof.Rows L2
/-! the tables of a def that uses classes -/
def strip : List Nat → List Nat → Option (List Nat)
  | [], y => some y
  | _ :: _, [] => none
  | a :: p, b :: y => if a = b then strip p y else none
theorem strip_app : ∀ (p y : List Nat), strip p (p ++ y) = some y
  | [], y => rfl
  | a :: p, y => by
    show (if a = a then strip p (p ++ y) else none) = _
    rw [if_pos rfl]
    exact strip_app p y
def afterDot (c y : Str) : Option Str := (strip (c ++ ".").cps.toList y.cps.toList).map fun l => ⟨l.toArray⟩
theorem afterDot_dot (c m : Str) : afterDot c (dot c m) = some m := by
  unfold afterDot dot
  have e : (c ++ "." ++ m : Str).cps.toList = (c ++ "." : Str).cps.toList ++ m.cps.toList := Array.toList_append
  rw [e, strip_app]
  rfl
section
variable {P : Program} {w : World} {K : PySem.W.Frag} {mg : Str → Option Value} {base : Heap} {k : Nat}
theorem MethOk.mono {j : Nat} {C : Addr} {m : Str} {sp : DSp} (h : MethOk P w K mg base j C m sp) (le : j ≤ k) : MethOk P w K mg base k C m sp := by
  obtain ⟨i, f, fd, ps, hi, r⟩ := h
  exact ⟨i, f, fd, ps, Nat.le_trans hi le, r⟩
theorem MakeOk.mono {j : Nat} {C : Addr} {x : Str} {sp : DSp} (h : MakeOk P w K mg base j x C sp) (le : j ≤ k) : MakeOk P w K mg base k x C sp := by
  obtain ⟨i, f, fd, ps, hi, r⟩ := h
  exact ⟨i, f, fd, ps, Nat.le_trans hi le, r⟩
/-- callees, methods left out -/
def CalX (P : Program) (w : World) (K : PySem.W.Frag) (mg : Str → Option Value) (base : Heap) (k : Nat) (fns : List Str) (F : List DSp) : Prop := ∀ (j : Nat) y s, fns[j]? = some y → F[j]? = some s → plainN y = true → DefOk P w K mg base k y s
theorem CalX.nil : CalX P w K mg base k [] [] := fun j y s h => by simp at h
theorem CalX.cons {y : Str} {s : DSp} {fns : List Str} {F : List DSp} (d : DefOk P w K mg base k y s) (r : CalX P w K mg base k fns F) : CalX P w K mg base k (y :: fns) (s :: F) := fun j y' s' h1 h2 h3 => by
  cases j with
  | zero =>
    have e1 : y = y' := Option.some.inj h1
    have e2 : s = s' := Option.some.inj h2
    subst e1 e2
    exact d
  | succ j => exact r j y' s' (by simpa using h1) (by simpa using h2) h3
/-- the fields -/
def FldX (K : PySem.W.Frag) (c : Str) (C : Addr) (blts : List Str) : Prop := ∀ y ∈ blts, ∀ f, afterDot c y = some f → NoAttr K C f
theorem FldX.nil {c : Str} {C : Addr} : FldX K c C [] := fun y h => (List.not_mem_nil h).elim
theorem FldX.no {c y : Str} {C : Addr} {blts : List Str} (e : afterDot c y = none) (r : FldX K c C blts) : FldX K c C (y :: blts) := fun z hz f h => by
  rcases List.mem_cons.mp hz with rfl | hz
  · rw [e] at h; cases h
  · exact r z hz f h
/-- the methods -/
def MetX (P : Program) (w : World) (K : PySem.W.Frag) (mg : Str → Option Value) (base : Heap) (k : Nat) (c : Str) (C : Addr) (fns : List Str) (F : List DSp) : Prop :=
  ∀ (i : Nat) y sp, fns[i]? = some y → F[i]? = some sp → ∀ m, afterDot c y = some m → MethOk P w K mg base k C m sp ∧ (m = "__init__" → MakeOk P w K mg base k c C sp)
theorem MetX.nil {c : Str} {C : Addr} : MetX P w K mg base k c C [] [] := fun i y sp h => by simp at h
theorem MetX.no {c y : Str} {C : Addr} {sp : DSp} {fns : List Str} {F : List DSp} (e : afterDot c y = none) (r : MetX P w K mg base k c C fns F) : MetX P w K mg base k c C (y :: fns) (sp :: F) := fun i y' sp' h1 h2 m h => by
  cases i with
  | zero =>
    have e1 : y = y' := Option.some.inj h1
    subst e1
    rw [e] at h
    cases h
  | succ i => exact r i y' sp' (by simpa using h1) (by simpa using h2) m h
/-- the classes -/
def ClsX (P : Program) (w : World) (K : PySem.W.Frag) (mg : Str → Option Value) (base : Heap) (k : Nat) (fns blts : List Str) (F : List DSp) (glbs : List Str) (Gm : List D) : Prop :=
  ∀ (j : Nat) C, Gm[j]? = some (.ref C) → Cls K C ∧ ∀ c, glbs[j]? = some c → FldX K c C blts ∧ MetX P w K mg base k c C fns F
theorem ClsX.nil {fns blts : List Str} {F : List DSp} : ClsX P w K mg base k fns blts F [] [] := fun j C h => by simp at h
theorem ClsX.no {fns blts : List Str} {F : List DSp} {y : Str} {d : D} {glbs : List Str} {Gm : List D} (e : noRef [d] = true) (r : ClsX P w K mg base k fns blts F glbs Gm) : ClsX P w K mg base k fns blts F (y :: glbs) (d :: Gm) := fun j C h => by
  cases j with
  | zero =>
    have e1 : d = .ref C := Option.some.inj h
    subst e1
    cases e
  | succ j =>
    obtain ⟨a, b⟩ := r j C (by simpa using h)
    exact ⟨a, fun c hc => b c (by simpa using hc)⟩
theorem ClsX.t {fns blts : List Str} {F : List DSp} {glbs : List Str} {Gm : List D} (h : ClsX P w K mg base k fns blts F glbs Gm) : ClsT P w K mg base k fns glbs blts F Gm :=
  ⟨fun j C g => (h j C g).1, fun j c C fl hc g hb => ((h j C g).2 c hc).1 _ hb _ (afterDot_dot c fl), fun i j c C m sp hc g hf hF => (((h j C g).2 c hc).2 i _ sp hf hF _ (afterDot_dot c m)).1,
    fun i j c C sp hc g hf hF => (((h j C g).2 c hc).2 i _ sp hf hF _ (afterDot_dot c "__init__")).2 rfl⟩
/-! the other tables -/
theorem memNil {α : Type} {Pr : α → Prop} : ∀ x, x ∈ ([] : List α) → Pr x := fun x h => (List.not_mem_nil h).elim
theorem memCons {α : Type} {Pr : α → Prop} {a : α} {l : List α} (h : Pr a) (r : ∀ x, x ∈ l → Pr x) : ∀ x, x ∈ a :: l → Pr x := fun x hx => by
  rcases List.mem_cons.mp hx with rfl | hx
  · exact h
  · exact r x hx
def RsX (P : Program) (w : World) (K : PySem.W.Frag) (mg : Str → Option Value) (base : Heap) (k : Nat) (rs : List (Str × List Str)) : Prop := ∀ x fl, (x, fl) ∈ rs → RaiseOk P w K mg base k x fl
theorem RsX.nil : RsX P w K mg base k [] := fun x fl h => (List.not_mem_nil h).elim
theorem RsX.cons {x : Str} {fl : List Str} {rs : List (Str × List Str)} (h : RaiseOk P w K mg base k x fl) (r : RsX P w K mg base k rs) : RsX P w K mg base k ((x, fl) :: rs) := fun y gl hy => by
  rcases List.mem_cons.mp hy with e | hy
  · cases e
    exact h
  · exact r y gl hy
theorem RaiseOk.mono {j : Nat} {x : Str} {fl : List Str} (h : RaiseOk P w K mg base j x fl) (le : j ≤ k) : RaiseOk P w K mg base k x fl := by
  obtain ⟨i, fI, fd, ps, hi, r⟩ := h
  exact ⟨i, fI, fd, ps, Nat.le_trans hi le, r⟩
theorem HotOk.mono {j : Nat} {x : Str} {sp : DSp} (h : HotOk P w K mg base j x sp) (le : j ≤ k) : HotOk P w K mg base k x sp := by
  obtain ⟨i, f, fd, ps, hi, r⟩ := h
  exact ⟨i, f, fd, ps, Nat.le_trans hi le, r⟩
theorem GDefOk.mono {j : Nat} {x : Str} {sp : DSp} (d : GDefOk P w K mg base j x sp) (h : j ≤ k) : GDefOk P w K mg base k x sp := by
  obtain ⟨f, fd, ps, F, r⟩ := d
  exact ⟨f, fd, ps, ⟨fun A outer s H args us vs Q E hg hr => F.run A outer s H args us vs Q E hg (hr.mono h)⟩, r⟩
/-- the name behind a mark -/
def unmark (m : Nat) (y : Str) : Option Str := match y.cps.toList with
  | c :: r => if c = m then some ⟨r.toArray⟩ else none
  | _ => none
theorem unmark_pct {x : Str} : unmark 37 (pct x) = some x := by
  have e : (pct x).cps.toList = 37 :: x.cps.toList := by
    show (("%" : Str).cps ++ x.cps).toList = _
    rw [Array.toList_append]
    rfl
  unfold unmark
  rw [e]
  show some (⟨x.cps.toList.toArray⟩ : Str) = some x
  cases x
  simp
def GcX (P : Program) (w : World) (K : PySem.W.Frag) (mg : Str → Option Value) (base : Heap) (k : Nat) (fns : List Str) (F : List DSp) : Prop := ∀ (i : Nat) y s, fns[i]? = some (pct y) → F[i]? = some s → GDefOk P w K mg base k y s
theorem GcX.nil : GcX P w K mg base k [] [] := fun j y s h => by simp at h
theorem GcX.no {y : Str} {s : DSp} {fns : List Str} {F : List DSp} (e : unmark 37 y = none) (r : GcX P w K mg base k fns F) : GcX P w K mg base k (y :: fns) (s :: F) := fun j y' s' h1 h2 => by
  cases j with
  | zero =>
    have h3 : y = pct y' := Option.some.inj h1
    rw [h3, unmark_pct] at e
    cases e
  | succ j => exact r j y' s' (by simpa using h1) (by simpa using h2)
theorem gc_none {fns : List Str} {F : List DSp} (h : fns.all (fun y => (unmark 37 y).isNone) = true) : GcX P w K mg base k fns F := fun j y s h1 _ => by
  have := List.all_eq_true.mp h _ (List.mem_of_getElem? h1)
  rw [unmark_pct] at this
  cases this
def unbang (y : Str) : Option Str := (strip ("!" : Str).cps.toList y.cps.toList).map fun l => ⟨l.toArray⟩
theorem unbang_bang (m : Str) : unbang (bang m) = some m := by
  unfold unbang bang
  have e : ("!" ++ m : Str).cps.toList = ("!" : Str).cps.toList ++ m.cps.toList := Array.toList_append
  rw [e, strip_app]
  rfl
def HcX (P : Program) (w : World) (K : PySem.W.Frag) (mg : Str → Option Value) (base : Heap) (k : Nat) (fns : List Str) (F : List DSp) : Prop := ∀ (j : Nat) y s, fns[j]? = some (bang y) → F[j]? = some s → HotOk P w K mg base k y s
theorem HcX.nil : HcX P w K mg base k [] [] := fun j y s h => by simp at h
theorem HcX.no {y : Str} {s : DSp} {fns : List Str} {F : List DSp} (e : unbang y = none) (r : HcX P w K mg base k fns F) : HcX P w K mg base k (y :: fns) (s :: F) := fun j y' s' h1 h2 => by
  cases j with
  | zero =>
    have e1 : y = bang y' := Option.some.inj h1
    rw [e1, unbang_bang] at e
    cases e
  | succ j => exact r j y' s' (by simpa using h1) (by simpa using h2)
theorem unb_none {fns : List Str} {F : List DSp} (h : fns.all (fun y => (unbang y).isNone) = true) : HcX P w K mg base k fns F := fun j y s h1 _ => by
  have := List.all_eq_true.mp h _ (List.mem_of_getElem? h1)
  rw [unbang_bang] at this
  cases this
/-- a refusal's class, from the head's facts -/
theorem raise_ok {x qual : Str} {params : Arguments} {body : List Stmt} {scope : Scope} {fI : Addr} {fd : FuncData} {N fl : List Str} (Fu : FunD K "__init__" qual params body scope [] [] fI fd) (S : FnScope N N scope) (hck : initCk N fl scope body = true)
    (lf : Lf K x) (hI : btI K = true) (gB : mg "BeatError" = some (.ref (bt K))) (gx : mg x = some (.ref (He.ga K x))) (me : Meth K (He.ga K x) "__init__" fI) (b : Binds K fd N []) : RaiseOk P w K mg base 2 x fl :=
  ⟨1, fI, fd, N, Nat.le_refl _, lf, me.at_, beq_iff_eq.mp me.fn, init_fn Fu S hck lf hI gB, b, gx⟩
end
end DL
namespace DL
open PySem PySem.Spec PyProof.Rows L2
/-! a law that hands lambdas on -/
section
variable {P : Program} {w : World} {K : PySem.W.Frag} {mg : Str → Option Value} {base : Heap}
/-- the name behind the mark -/
def unamp (y : Str) : Option Str := match y.cps.toList with
  | 38 :: r => some ⟨r.toArray⟩
  | _ => none
theorem unamp_amp {x : Str} : unamp (amp x) = some x := by
  have e : (amp x).cps.toList = 38 :: x.cps.toList := by
    show (("&" : Str).cps ++ x.cps).toList = _
    rw [Array.toList_append]
    rfl
  unfold unamp
  rw [e]
  show some (⟨x.cps.toList.toArray⟩ : Str) = some x
  cases x
  simp
def LmX (P : Program) (w : World) (K : PySem.W.Frag) (mg : Str → Option Value) (base : Heap) (k : Nat) (fns : List Str) (F : List DSp) : Prop := ∀ (i : Nat) y s, fns[i]? = some (amp y) → F[i]? = some s → LamOk P w K mg base k y s
theorem LmX.nil {k : Nat} : LmX P w K mg base k [] [] := fun j y s h => by simp at h
theorem LmX.no {k : Nat} {y : Str} {s : DSp} {fns : List Str} {F : List DSp} (e : unamp y = none) (r : LmX P w K mg base k fns F) : LmX P w K mg base k (y :: fns) (s :: F) := fun j y' s' h1 h2 => by
  cases j with
  | zero =>
    have h3 : y = amp y' := Option.some.inj h1
    rw [h3, unamp_amp] at e
    cases e
  | succ j => exact r j y' s' (by simpa using h1) (by simpa using h2)
def TbX (P0 : Addr) (fns : List Str) (F : List DSp) : Prop := ∀ (j : Nat) P', fns[j]? = some tblN → F[j]? = some (tblSp P') → P' = P0
theorem TbX.nil {P0 : Addr} : TbX P0 [] [] := fun j y h => by simp at h
theorem TbX.no {P0 : Addr} {y : Str} {s : DSp} {fns : List Str} {F : List DSp} (e : y ≠ tblN) (r : TbX P0 fns F) : TbX P0 (y :: fns) (s :: F) := fun j P' h1 h2 => by
  cases j with
  | zero => exact (e (Option.some.inj h1)).elim
  | succ j => exact r j P' (by simpa using h1) (by simpa using h2)
end
end DL
namespace K21
open PySem PySem.Spec PyProof.Rows L2 DL
abbrev n_xNoMachine : List Str := ["self", "word", "number"]
theorem sc_xNoMachine : FnScope n_xNoMachine n_xNoMachine (defScope s_xNoMachine) := ⟨rfl, rfl, rfl, by decide +kernel, rfl, by decide +kernel, by decide +kernel⟩
theorem ck_xNoMachine : initCk n_xNoMachine ["word", "number"] (defScope s_xNoMachine) (defBody s_xNoMachine) = true := by decide +kernel
abbrev n_xNoText : List Str := ["self", "line"]
theorem sc_xNoText : FnScope n_xNoText n_xNoText (defScope s_xNoText) := ⟨rfl, rfl, rfl, by decide +kernel, rfl, by decide +kernel, by decide +kernel⟩
theorem ck_xNoText : initCk n_xNoText ["line"] (defScope s_xNoText) (defBody s_xNoText) = true := by decide +kernel
abbrev n_xNoCarry : List Str := ["self", "moves"]
theorem sc_xNoCarry : FnScope n_xNoCarry n_xNoCarry (defScope s_xNoCarry) := ⟨rfl, rfl, rfl, by decide +kernel, rfl, by decide +kernel, by decide +kernel⟩
theorem ck_xNoCarry : initCk n_xNoCarry ["moves"] (defScope s_xNoCarry) (defBody s_xNoCarry) = true := by decide +kernel
abbrev n_xNoCode : List Str := ["self", "word", "stretch", "beat"]
theorem sc_xNoCode : FnScope n_xNoCode n_xNoCode (defScope s_xNoCode) := ⟨rfl, rfl, rfl, by decide +kernel, rfl, by decide +kernel, by decide +kernel⟩
theorem ck_xNoCode : initCk n_xNoCode ["word", "stretch", "beat"] (defScope s_xNoCode) (defBody s_xNoCode) = true := by decide +kernel
abbrev n_xClash : List Str := ["self", "word"]
theorem sc_xClash : FnScope n_xClash n_xClash (defScope s_xClash) := ⟨rfl, rfl, rfl, by decide +kernel, rfl, by decide +kernel, by decide +kernel⟩
theorem ck_xClash : initCk n_xClash ["word"] (defScope s_xClash) (defBody s_xClash) = true := by decide +kernel
abbrev n_xTooMany : List Str := ["self"]
theorem sc_xTooMany : FnScope n_xTooMany n_xTooMany (defScope s_xTooMany) := ⟨rfl, rfl, rfl, by decide +kernel, rfl, by decide +kernel, by decide +kernel⟩
theorem ck_xTooMany : initCk n_xTooMany [] (defScope s_xTooMany) (defBody s_xTooMany) = true := by decide +kernel
abbrev n_xNoProgram : List Str := ["self", "word", "block", "row"]
theorem sc_xNoProgram : FnScope n_xNoProgram n_xNoProgram (defScope s_xNoProgram) := ⟨rfl, rfl, rfl, by decide +kernel, rfl, by decide +kernel, by decide +kernel⟩
theorem ck_xNoProgram : initCk n_xNoProgram ["word", "block", "row"] (defScope s_xNoProgram) (defBody s_xNoProgram) = true := by decide +kernel
abbrev n_xNoPaper : List Str := ["self"]
theorem sc_xNoPaper : FnScope n_xNoPaper n_xNoPaper (defScope s_xNoPaper) := ⟨rfl, rfl, rfl, by decide +kernel, rfl, by decide +kernel, by decide +kernel⟩
theorem ck_xNoPaper : initCk n_xNoPaper [] (defScope s_xNoPaper) (defBody s_xNoPaper) = true := by decide +kernel
abbrev n_xNoBox : List Str := ["self", "many"]
theorem sc_xNoBox : FnScope n_xNoBox n_xNoBox (defScope s_xNoBox) := ⟨rfl, rfl, rfl, by decide +kernel, rfl, by decide +kernel, by decide +kernel⟩
theorem ck_xNoBox : initCk n_xNoBox ["many"] (defScope s_xNoBox) (defBody s_xNoBox) = true := by decide +kernel
abbrev n_xWrong : List Str := ["self", "block"]
theorem sc_xWrong : FnScope n_xWrong n_xWrong (defScope s_xWrong) := ⟨rfl, rfl, rfl, by decide +kernel, rfl, by decide +kernel, by decide +kernel⟩
theorem ck_xWrong : initCk n_xWrong ["block"] (defScope s_xWrong) (defBody s_xWrong) = true := by decide +kernel
abbrev n_xNoSkill : List Str := ["self", "deed"]
theorem sc_xNoSkill : FnScope n_xNoSkill n_xNoSkill (defScope s_xNoSkill) := ⟨rfl, rfl, rfl, by decide +kernel, rfl, by decide +kernel, by decide +kernel⟩
theorem ck_xNoSkill : initCk n_xNoSkill ["deed"] (defScope s_xNoSkill) (defBody s_xNoSkill) = true := by decide +kernel
abbrev n_xNoWay : List Str := ["self", "begin", "end"]
theorem sc_xNoWay : FnScope n_xNoWay n_xNoWay (defScope s_xNoWay) := ⟨rfl, rfl, rfl, by decide +kernel, rfl, by decide +kernel, by decide +kernel⟩
theorem ck_xNoWay : initCk n_xNoWay ["begin", "end"] (defScope s_xNoWay) (defBody s_xNoWay) = true := by decide +kernel
abbrev n_xLacks : List Str := ["self", "word"]
theorem sc_xLacks : FnScope n_xLacks n_xLacks (defScope s_xLacks) := ⟨rfl, rfl, rfl, by decide +kernel, rfl, by decide +kernel, by decide +kernel⟩
theorem ck_xLacks : initCk n_xLacks ["word"] (defScope s_xLacks) (defBody s_xLacks) = true := by decide +kernel
abbrev n_xNoRow : List Str := ["self"]
theorem sc_xNoRow : FnScope n_xNoRow n_xNoRow (defScope s_xNoRow) := ⟨rfl, rfl, rfl, by decide +kernel, rfl, by decide +kernel, by decide +kernel⟩
theorem ck_xNoRow : initCk n_xNoRow [] (defScope s_xNoRow) (defBody s_xNoRow) = true := by decide +kernel
abbrev n_l_pen : List Str := ["_law_script", "_law_cell"]
theorem sc_l_pen : FnScope n_l_pen ["_law_script"] (defScope s_l_pen) := ⟨rfl, rfl, rfl, by decide +kernel, rfl, by decide +kernel, by decide +kernel⟩
def c_l_pen : CB := (.cons (.ret (.lst (.cons (.lcv [("_law_cell", 1)] (.name 1) (.it (.slv (.var 0) .no (.part (.int 63)))) .no (.var 1)) (.cons (.int 0) (.cons (.int 0) .nil))))) .nil)
abbrev f_l_pen : List Str := []
abbrev g_l_pen : List Str := []
abbrev b_l_pen : List Str := []
abbrev i_l_pen : Ci := { N := n_l_pen, sc := defScope s_l_pen, own := none, fns := f_l_pen, glbs := g_l_pen, blts := b_l_pen }
theorem ch_l_pen : chkB i_l_pen c_l_pen (defBody s_l_pen) = true := by decide +kernel
abbrev n_l_draw : List Str := ["_law_pen_here", "_law_many", "_law_at", "_law_cell", "_law_number", "_law_digit"]
theorem sc_l_draw : FnScope n_l_draw ["_law_pen_here", "_law_many"] (defScope s_l_draw) := ⟨rfl, rfl, rfl, by decide +kernel, rfl, by decide +kernel, by decide +kernel⟩
def c_l_draw : CB := (.cons (.ifs (.cmp .Gt (.ix (.var 0) (.int 2)) (.int 0)) (.cons (.asg (.name 5) (.bin .Mod (.ix (.var 0) (.int 2)) (.var 1))) (.cons (.asg (.sub (.var 0) (.int 2)) (.bin .FloorDiv (.ix (.var 0) (.int 2)) (.var 1))) (.cons (.ret (.var 5)) .nil))) .nil) (.cons (.asg (.name 2) (.ix (.var 0) (.int 1))) (.cons (.asg (.sub (.var 0) (.int 1)) (.addv (.var 2) (.int 1))) (.cons (.asg (.name 3) (.int 11)) (.cons (.ifs (.cmp .Gt (.blt .len (.cons (.ix (.var 0) (.int 0)) .nil)) (.int 0)) (.cons (.asg (.name 3) (.ix (.ix (.var 0) (.int 0)) (.bin .Mod (.var 2) (.blt .len (.cons (.ix (.var 0) (.int 0)) .nil))))) .nil) .nil) (.cons (.ifs (.and (.cmp .Lt (.var 2) (.blt .len (.cons (.ix (.var 0) (.int 0)) .nil))) (.cmp .GtE (.blt .abs (.cons (.var 3) .nil)) (.bin .Pow (.int 10) (.int 18)))) (.cons (.asg (.sub (.var 0) (.int 2)) (.bin .FloorDiv (.blt .abs (.cons (.var 3) .nil)) (.var 1))) (.cons (.ret (.bin .Mod (.blt .abs (.cons (.var 3) .nil)) (.var 1))) .nil)) .nil) (.cons (.asg (.name 4) (.bin .Mod (.bin .Mult (.addv (.addv (.bin .Mod (.var 3) (.int 2147483647)) (.bin .Mult (.int 69621) (.var 2))) (.int 13)) (.int 48271)) (.int 2147483629))) (.cons (.asg (.name 4) (.bin .Mod (.bin .Mult (.bin .Mod (.bin .Mult (.var 4) (.var 4)) (.int 2147483587)) (.addv (.addv (.bin .Mod (.var 4) (.int 65521)) (.bin .Mult (.int 7) (.var 2))) (.int 1))) (.int 2147483563))) (.cons (.ret (.bin .Mod (.bin .FloorDiv (.var 4) (.int 32)) (.var 1))) .nil)))))))))
abbrev f_l_draw : List Str := []
abbrev g_l_draw : List Str := []
abbrev b_l_draw : List Str := ["abs", "len"]
abbrev i_l_draw : Ci := { N := n_l_draw, sc := defScope s_l_draw, own := none, fns := f_l_draw, glbs := g_l_draw, blts := b_l_draw }
theorem ch_l_draw : chkB i_l_draw c_l_draw (defBody s_l_draw) = true := by decide +kernel
abbrev n_l_kinds : List Str := ["_law_e", "_law_some", "_law_k"]
theorem sc_l_kinds : FnScope n_l_kinds ["_law_e"] (defScope s_l_kinds) := ⟨rfl, rfl, rfl, by decide +kernel, rfl, by decide +kernel, by decide +kernel⟩
def c_l_kinds : CB := (.cons (.asg (.name 1) (.lstv (.cons (.isX "NoMachine" (.var 0)) (.cons (.isX "NoText" (.var 0)) (.cons (.isX "NoCarry" (.var 0)) (.cons (.isX "NoCode" (.var 0)) .nil)))))) (.cons (.asg (.name 1) (.addv (.var 1) (.lstv (.cons (.isX "Clash" (.var 0)) (.cons (.isX "TooMany" (.var 0)) (.cons (.isX "NoProgram" (.var 0)) (.cons (.isX "NoPaper" (.var 0)) .nil))))))) (.cons (.asg (.name 1) (.addv (.var 1) (.lstv (.cons (.isX "NoBox" (.var 0)) (.cons (.isX "Wrong" (.var 0)) (.cons (.isX "NoSkill" (.var 0)) (.cons (.isX "NoWay" (.var 0)) .nil))))))) (.cons (.asg (.name 1) (.addv (.var 1) (.lstv (.cons (.isX "Lacks" (.var 0)) (.cons (.isX "NoRow" (.var 0)) .nil))))) (.cons (.ifs (.or (.not (.val (.isB (.var 0)))) (.not (.val (.isV (.var 0))))) (.cons (.ret (.lstv .nil)) .nil) .nil) (.cons (.ret (.lcv [("_law_k", 2)] (.name 2) (.rng1 (.int 14)) (.one (.val (.ix (.var 1) (.var 2)))) (.var 2))) .nil))))))
abbrev f_l_kinds : List Str := []
abbrev g_l_kinds : List Str := []
abbrev b_l_kinds : List Str := ["range", "isinstance", "ValueError"]
abbrev i_l_kinds : Ci := { N := n_l_kinds, sc := defScope s_l_kinds, own := none, fns := f_l_kinds, glbs := g_l_kinds, blts := b_l_kinds, exs := ["NoRow", "Lacks", "NoWay", "NoSkill", "Wrong", "NoBox", "NoPaper", "NoProgram", "TooMany", "Clash", "NoCode", "NoCarry", "NoText", "NoMachine"], beat := true }
theorem ch_l_kinds : chkB i_l_kinds c_l_kinds (defBody s_l_kinds) = true := by decide +kernel
abbrev n_l_made : List Str := ["_law_pen_here", "_law_word", "_law_some", "_law_rows", "_law_a", "_law_b", "_law_c", "_law_deed", "_law_port", "_law_far", "_law_one", "_law_two", "_law_three", "_law_four", "_law_five", "_law_seven", "_law_nine", "_law_ten", "_law_more", "_law_way", "_law_lacks"]
theorem sc_l_made : FnScope n_l_made ["_law_pen_here"] (defScope s_l_made) := ⟨rfl, rfl, rfl, by decide +kernel, rfl, by decide +kernel, by decide +kernel⟩
def c_l_made : CB := (.cons (.asg (.name 1) (.ix (.lstv (.cons (.str "machine") (.cons (.str "doer") (.cons (.str "way") (.cons (.str "code") (.cons (.str "empty") (.cons (.str "go") (.cons (.str "beyond") (.cons (.str "program") .nil))))))))) (.fn 0 (.cons (.var 0) (.cons (.int 8) .nil))))) (.cons (.par3 4 5 6 (.cons (.var 1) (.cons (.fn 0 (.cons (.var 0) (.cons (.int 99) .nil))) (.cons (.fn 0 (.cons (.var 0) (.cons (.int 9) .nil))) .nil)))) (.cons (.asg (.name 2) (.ix (.lstv (.cons (.tup (.cons (.int 0) .nil)) (.cons (.tup (.cons (.int 0) (.cons (.int 2) .nil))) (.cons (.tup (.cons (.int 1) (.cons (.int 3) (.cons (.int 4) .nil)))) (.cons (.tup (.cons (.int 5) .nil)) .nil))))) (.fn 0 (.cons (.var 0) (.cons (.int 4) .nil))))) (.cons (.par3 7 8 9 (.cons (.ix (.lstv (.cons (.str "add") (.cons (.str "under") (.cons (.str "same") .nil)))) (.bin .Mod (.var 6) (.int 3))) (.cons (.ix (.lstv (.cons (.str "num") (.cons (.str "box0") (.cons (.str "out2") .nil)))) (.bin .Mod (.var 5) (.int 3))) (.cons (.ix (.lstv (.cons (.str "tell") (.cons (.str "in1") (.cons (.str "box7") .nil)))) (.bin .Mod (.var 6) (.int 3))) .nil)))) (.cons (.asgT (.tup 4 (.cons (.name 10) (.cons (.name 11) (.cons (.name 12) (.cons (.name 13) .nil))))) (.tup (.cons (.mkx "NoMachine" ["word", "number"] (.cons (.var 4) (.cons (.var 5) .nil))) (.cons (.mkx "NoText" ["line"] (.cons (.var 5) .nil)) (.cons (.mkx "NoCarry" ["moves"] (.cons (.var 2) .nil)) (.cons (.mkx "NoCode" ["word", "stretch", "beat"] (.cons (.var 4) (.cons (.var 5) (.cons (.var 6) .nil)))) .nil)))))) (.cons (.asg (.name 3) (.lst (.cons (.tup (.cons (.var 10) (.cons (.tup (.cons (.xf (.var 10) "word") (.cons (.xf (.var 10) "number") .nil))) (.cons (.tup (.cons (.var 4) (.cons (.var 5) .nil))) .nil)))) (.cons (.tup (.cons (.var 11) (.cons (.tup (.cons (.xf (.var 11) "line") .nil)) (.cons (.tup (.cons (.var 5) .nil)) .nil)))) (.cons (.tup (.cons (.var 12) (.cons (.tup (.cons (.xf (.var 12) "moves") .nil)) (.cons (.tup (.cons (.var 2) .nil)) .nil)))) .nil))))) (.cons (.expr (.mt .append (.var 3) (.cons (.tup (.cons (.var 13) (.cons (.tup (.cons (.xf (.var 13) "word") (.cons (.xf (.var 13) "stretch") (.cons (.xf (.var 13) "beat") .nil)))) (.cons (.tup (.cons (.var 4) (.cons (.var 5) (.cons (.var 6) .nil)))) .nil)))) .nil))) (.cons (.par3 14 15 16 (.cons (.mkx "Clash" ["word"] (.cons (.var 4) .nil)) (.cons (.mkx "NoProgram" ["word", "block", "row"] (.cons (.var 4) (.cons (.var 6) (.cons (.var 5) .nil)))) (.cons (.mkx "NoBox" ["many"] (.cons (.var 5) .nil)) .nil)))) (.cons (.asg (.name 3) (.bin .Add (.var 3) (.lst (.cons (.tup (.cons (.var 14) (.cons (.tup (.cons (.xf (.var 14) "word") .nil)) (.cons (.tup (.cons (.var 4) .nil)) .nil)))) (.cons (.tup (.cons (.mkx "TooMany" [] .nil) (.cons (.tup .nil) (.cons (.tup .nil) .nil)))) .nil))))) (.cons (.asg (.name 3) (.bin .Add (.var 3) (.lst (.cons (.tup (.cons (.var 15) (.cons (.tup (.cons (.xf (.var 15) "word") (.cons (.xf (.var 15) "block") (.cons (.xf (.var 15) "row") .nil)))) (.cons (.tup (.cons (.var 4) (.cons (.var 6) (.cons (.var 5) .nil)))) .nil)))) (.cons (.tup (.cons (.mkx "NoPaper" [] .nil) (.cons (.tup .nil) (.cons (.tup .nil) .nil)))) .nil))))) (.cons (.asgT (.tup 4 (.cons (.name 17) (.cons (.name 18) (.cons (.name 19) (.cons (.name 20) .nil))))) (.tup (.cons (.mkx "Wrong" ["block"] (.cons (.var 6) .nil)) (.cons (.mkx "NoSkill" ["deed"] (.cons (.var 7) .nil)) (.cons (.mkx "NoWay" ["begin", "end"] (.cons (.var 8) (.cons (.var 9) .nil))) (.cons (.mkx "Lacks" ["word"] (.cons (.var 4) .nil)) .nil)))))) (.cons (.asg (.name 3) (.bin .Add (.var 3) (.lst (.cons (.tup (.cons (.var 16) (.cons (.tup (.cons (.xf (.var 16) "many") .nil)) (.cons (.tup (.cons (.var 5) .nil)) .nil)))) (.cons (.tup (.cons (.var 17) (.cons (.tup (.cons (.xf (.var 17) "block") .nil)) (.cons (.tup (.cons (.var 6) .nil)) .nil)))) (.cons (.tup (.cons (.var 18) (.cons (.tup (.cons (.xf (.var 18) "deed") .nil)) (.cons (.tup (.cons (.var 7) .nil)) .nil)))) .nil)))))) (.cons (.ret (.addv (.var 3) (.lstv (.cons (.tup (.cons (.var 19) (.cons (.tup (.cons (.xf (.var 19) "begin") (.cons (.xf (.var 19) "end") .nil))) (.cons (.tup (.cons (.var 8) (.cons (.var 9) .nil))) .nil)))) (.cons (.tup (.cons (.var 20) (.cons (.tup (.cons (.xf (.var 20) "word") .nil)) (.cons (.tup (.cons (.var 4) .nil)) .nil)))) (.cons (.tup (.cons (.mkx "NoRow" [] .nil) (.cons (.tup .nil) (.cons (.tup .nil) .nil)))) .nil)))))) .nil)))))))))))))
abbrev f_l_made : List Str := ["_law_draw"]
abbrev g_l_made : List Str := []
abbrev b_l_made : List Str := []
abbrev i_l_made : Ci := { N := n_l_made, sc := defScope s_l_made, own := none, fns := f_l_made, glbs := g_l_made, blts := b_l_made, rs := [("NoRow", []), ("Lacks", ["word"]), ("NoWay", ["begin", "end"]), ("NoSkill", ["deed"]), ("Wrong", ["block"]), ("NoPaper", []), ("TooMany", []), ("NoBox", ["many"]), ("NoProgram", ["word", "block", "row"]), ("Clash", ["word"]), ("NoCode", ["word", "stretch", "beat"]), ("NoCarry", ["moves"]), ("NoText", ["line"]), ("NoMachine", ["word", "number"])] }
theorem ch_l_made : chkB i_l_made c_l_made (defBody s_l_made) = true := by decide +kernel
abbrev n_law : List Str := ["_law_script", "_law_pen_here", "_law_k", "_law_number", "_law_refusal", "_law_fields", "_law_due"]
theorem sc_law : FnScope n_law ["_law_script"] (defScope s_law) := ⟨rfl, rfl, rfl, by decide +kernel, rfl, by decide +kernel, by decide +kernel⟩
def c_law : CB := (.cons (.asg (.name 1) (.fn 3 (.cons (.var 0) .nil))) (.cons (.fors (.name 2) (.rng1 (.addv (.int 1) (.fn 0 (.cons (.var 1) (.cons (.int 10) .nil))))) (.cons (.fors (.tup 2 (.cons (.name 3) (.cons (.tup 3 (.cons (.name 4) (.cons (.name 5) (.cons (.name 6) .nil)))) .nil))) (.enum (.fn 1 (.cons (.var 1) .nil))) (.cons (.ifs (.or (.cmp .NotEq (.var 5) (.var 6)) (.cmp .NotEq (.fn 2 (.cons (.var 4) .nil)) (.lstv (.cons (.var 3) .nil)))) (.cons (.ret (.bl false)) .nil) .nil) .nil)) .nil)) (.cons (.ret (.bl true)) .nil)))
abbrev f_law : List Str := ["_law_draw", "_law_made", "_law_kinds", "_law_pen"]
abbrev g_law : List Str := []
abbrev b_law : List Str := ["range", "enumerate"]
abbrev i_law : Ci := { N := n_law, sc := defScope s_law, own := none, fns := f_law, glbs := g_law, blts := b_law }
theorem ch_law : chkB i_law c_law (defBody s_law) = true := by decide +kernel
end K21
namespace DL
open PySem PySem.Spec PyProof.Rows L2
end DL
namespace DL
open PySem PySem.Spec PyProof.Rows L2
/-- _law_pen_by: slots 0 _law_script 1 _law_cell; calls ; names  -/
def penC : CB := (.cons (.ret (.lst (.cons (.lcv [("_law_cell", 1)] (.name 1) (.it (.slv (.var 0) .no (.part (.int 63)))) .no (.var 1)) (.cons (.int 0) (.cons (.int 0) .nil))))) .nil)
/-- _law_draw: slots 0 _law_pen 1 _law_many 2 _law_at 3 _law_cell 4 _law_number 5 _law_digit; calls ; names  -/
def drawAC : CB := (.cons (.ifs (.cmp .Gt (.ix (.var 0) (.int 2)) (.int 0)) (.cons (.asg (.name 5) (.bin .Mod (.ix (.var 0) (.int 2)) (.var 1))) (.cons (.asg (.sub (.var 0) (.int 2)) (.bin .FloorDiv (.ix (.var 0) (.int 2)) (.var 1))) (.cons (.ret (.var 5)) .nil))) .nil) (.cons (.asg (.name 2) (.ix (.var 0) (.int 1))) (.cons (.asg (.sub (.var 0) (.int 1)) (.addv (.var 2) (.int 1))) (.cons (.asg (.name 3) (.int 11)) (.cons (.ifs (.cmp .Gt (.blt .len (.cons (.ix (.var 0) (.int 0)) .nil)) (.int 0)) (.cons (.asg (.name 3) (.ix (.ix (.var 0) (.int 0)) (.bin .Mod (.var 2) (.blt .len (.cons (.ix (.var 0) (.int 0)) .nil))))) .nil) .nil) (.cons (.ifs (.and (.cmp .Lt (.var 2) (.blt .len (.cons (.ix (.var 0) (.int 0)) .nil))) (.cmp .GtE (.blt .abs (.cons (.var 3) .nil)) (.bin .Pow (.int 10) (.int 18)))) (.cons (.asg (.sub (.var 0) (.int 2)) (.bin .FloorDiv (.blt .abs (.cons (.var 3) .nil)) (.var 1))) (.cons (.ret (.bin .Mod (.blt .abs (.cons (.var 3) .nil)) (.var 1))) .nil)) .nil) (.cons (.asg (.name 4) (.bin .Mod (.bin .Mult (.addv (.addv (.bin .Mod (.var 3) (.int 2147483647)) (.bin .Mult (.int 69621) (.var 2))) (.int 13)) (.int 48271)) (.int 2147483629))) (.cons (.asg (.name 4) (.bin .Mod (.bin .Mult (.bin .Mod (.bin .Mult (.var 4) (.var 4)) (.int 2147483587)) (.addv (.addv (.bin .Mod (.var 4) (.int 65521)) (.bin .Mult (.int 7) (.var 2))) (.int 1))) (.int 2147483563))) (.cons (.ret (.bin .Mod (.bin .FloorDiv (.var 4) (.int 32)) (.var 1))) .nil)))))))))
end DL
namespace DL
open PySem PySem.Spec PyProof.Rows L2
/-! loops whose ends are told by their names alone -/
theorem for_op {g : DG} {tb : DS} {keep : Sto → Prop} {De : DEnds} {items : List D} (I : Nat → Ev → Sto → Prop) {ρ : Ev} {G : Sto} (h0 : I 0 ρ G)
    (step : ∀ (i : Nat) (x : D), items[i]? = some x → ∀ (ρ : Ev) (G : Sto) (E : DEnds), I i ρ G → (∀ ρ' G' G'', Dn G' G'' → I (i + 1) ρ' G'' → E.nx ρ' G') → (∀ ρ' G' G'', Dn G' G'' → I (i + 1) ρ' G'' → E.ct ρ' G') → (∀ d G', De.rt d G' → E.rt d G') → (∀ ρ' G', De.nx ρ' G' → E.bk ρ' G') → (∀ z ρ' G', De.ex z ρ' G' → E.ex z ρ' G') →
      keep G ∧ g x ρ G (fun ρ1 G1 => tb E ρ1 G1) De.ex)
    (fin : ∀ ρ G, I items.length ρ G → keep G ∧ De.nx ρ G) : forS g tb keep De items ρ G :=
  for_at I h0 (fun i x hx ρ G N hI hN => step i x hx ρ G { De with nx := N, ct := N, bk := De.nx } hI hN hN (fun _ _ z => z) (fun _ _ z => z) (fun _ _ _ z => z)) fin
/-- a written length -/
theorem sz3 (n : Nat) (h : n ≤ 16777216 := by decide) : n ≤ sizeLine := h
/-! the pen: one list of the script's numbers, a place, a rest -/
structure Pn where
  cells : List Int
  at_ : Nat
  rest : Nat
def Pn.c (s : Pn) : Cl := .lst [.rl (s.cells.map D.int), .int s.at_, .int s.rest]
def spDrawP (Pr : Nat → Prop) : DSp := fun ds G Q _ => ∃ (p : Addr) (s : Pn) (m : Int) (G0 : Sto), ds = [.ref p, .int m] ∧ G = put G0 p s.c ∧ 1 ≤ m ∧ m < 2 ^ 200 ∧ Pr s.at_ ∧ ∀ (k : Nat) (s' : Pn), (k : Int) < m → s'.at_ ≤ s.at_ + 1 → Q (.int k) (put G0 p s'.c)
def spDraw : DSp := fun ds G Q _ => ∃ (p : Addr) (s : Pn) (m : Int) (G0 : Sto), ds = [.ref p, .int m] ∧ G = put G0 p s.c ∧ 1 ≤ m ∧ m < 2 ^ 200 ∧ ∀ (k : Nat) (s' : Pn), (k : Int) < m → Q (.int k) (put G0 p s'.c)
theorem cell_at {cells : List Int} {a : Nat} (hl : 0 < (cells.length : Int)) : ∃ cell, atI (cells.map D.int) ((a : Int) % ((cells.map D.int).length : Int)) = some (.int cell) := by
  rw [List.length_map]
  have hr1 := Int.emod_nonneg (a : Int) (show (cells.length : Int) ≠ 0 by omega)
  have hr2 := Int.emod_lt_of_pos (a : Int) hl
  obtain ⟨j, hj⟩ : ∃ j : Nat, (a : Int) % (cells.length : Int) = j := ⟨((a : Int) % (cells.length : Int)).toNat, by omega⟩
  have hjl : j < cells.length := by omega
  rw [hj]
  exact ⟨cells[j], atI_nat (by rw [List.getElem?_map, List.getElem?_eq_getElem hjl]; rfl)⟩
/-- what is told of a pen's draw at its end -/
theorem draw_end {Q : DQ} {G0 : Sto} {p : Addr} {m i : Int} {b : Nat} (hm : 1 ≤ m) (q : ∀ (k : Nat) (s' : Pn), (k : Int) < m → s'.at_ ≤ b → Q (.int k) (put G0 p s'.c)) (s' : Pn) (hb : s'.at_ ≤ b) : Q (.int (i % m)) (put G0 p s'.c) := by
  have h1 := Int.emod_nonneg i (show m ≠ 0 by omega)
  have h2 := Int.emod_lt_of_pos i (show 0 < m by omega)
  obtain ⟨k, hk⟩ : ∃ k : Nat, i % m = k := ⟨(i % m).toNat, by omega⟩
  rw [hk]
  exact q k s' (by omega) hb
theorem div_nat (a : Nat) {m : Int} (h : 1 ≤ m) : ∃ b : Nat, (a : Int) / m = b := ⟨((a : Int) / m).toNat, by have := Int.ediv_nonneg (show 0 ≤ (a : Int) by omega) (show 0 ≤ m by omega); omega⟩
theorem abs_nat (i : Int) : ∃ b : Nat, (if i < 0 then -i else i) = b := ⟨i.natAbs, by split <;> omega⟩
/-- draw's first half: the same in both -/
theorem draw_any {Pr : Nat → Prop} {C : CB} {c0 : Int} (hC : C = .cons (.ifs (.cmp .Gt (.ix (.var 0) (.int 2)) (.int 0)) (.cons (.asg (.name 5) (.bin .Mod (.ix (.var 0) (.int 2)) (.var 1))) (.cons (.asg (.sub (.var 0) (.int 2)) (.bin .FloorDiv (.ix (.var 0) (.int 2)) (.var 1))) (.cons (.ret (.var 5)) .nil))) .nil) (.cons (.asg (.name 2) (.ix (.var 0) (.int 1))) (.cons (.asg (.sub (.var 0) (.int 1)) (.addv (.var 2) (.int 1))) (.cons (.asg (.name 3) (.int c0)) (.cons (.ifs (.cmp .Gt (.blt .len (.cons (.ix (.var 0) (.int 0)) .nil)) (.int 0)) (.cons (.asg (.name 3) (.ix (.ix (.var 0) (.int 0)) (.bin .Mod (.var 2) (.blt .len (.cons (.ix (.var 0) (.int 0)) .nil))))) .nil) .nil) (.cons (.ifs (.and (.cmp .Lt (.var 2) (.blt .len (.cons (.ix (.var 0) (.int 0)) .nil))) (.cmp .GtE (.blt .abs (.cons (.var 3) .nil)) (.bin .Pow (.int 10) (.int 18)))) (.cons (.asg (.sub (.var 0) (.int 2)) (.bin .FloorDiv (.blt .abs (.cons (.var 3) .nil)) (.var 1))) (.cons (.ret (.bin .Mod (.blt .abs (.cons (.var 3) .nil)) (.var 1))) .nil)) .nil) (C.drop 6)))))))
    (last : ∀ (Q : DQ) (xq : XQ) (p : Addr) (m : Int) (a : Nat) (cell : Int) (G : Sto), 1 ≤ m → Pr a → (∀ i : Int, Q (.int (i % m)) G) → denB [] [] (C.drop 6) (Fin0 Q xq) [some (.ref p), some (.int m), some (.int a), some (.int cell), none, none] G) : Bod [] [] C 6 (spDrawP Pr) := by
  rintro ds G Q xq ⟨p, s, m, G0, rfl, rfl, hm, hm2, hPr, q⟩
  have hm0 : 0 < m := by omega
  obtain ⟨cells, a, r⟩ := s
  rw [hC]
  refine ⟨_, _, put_same, rfl, ?_⟩
  refine ite2 (fun h => ?_) (fun h => ?_)
  · obtain ⟨b, hb⟩ := div_nat r hm
    refine ⟨_, _, put_same, rfl, hm0, _, _, put_same, rfl, divok hm hm2, _, _, put_same, rfl, ?_⟩
    rw [put_put]
    show Q (.int ((r : Int) % m)) (put G0 p (.lst [.rl (cells.map D.int), .int a, .int ((r : Int) / m)]))
    rw [hb]
    exact draw_end hm q ⟨cells, a, b⟩ (Nat.le_succ _)
  · refine ⟨_, _, put_same, rfl, _, _, put_same, rfl, ?_⟩
    rw [put_put]
    have tail : ∀ (cell : Int), denB [] [] ((CB.cons (.ifs (.and (.cmp .Lt (.var 2) (.blt .len (.cons (.ix (.var 0) (.int 0)) .nil))) (.cmp .GtE (.blt .abs (.cons (.var 3) .nil)) (.bin .Pow (.int 10) (.int 18)))) (.cons (.asg (.sub (.var 0) (.int 2)) (.bin .FloorDiv (.blt .abs (.cons (.var 3) .nil)) (.var 1))) (.cons (.ret (.bin .Mod (.blt .abs (.cons (.var 3) .nil)) (.var 1))) .nil)) .nil) (C.drop 6))) (Fin0 Q xq) [some (.ref p), some (.int m), some (.int a), some (.int cell), none, none] (put G0 p (Pn.c ⟨cells, a + 1, r⟩)) := by
      intro cell
      refine ⟨_, _, put_same, rfl, ?_⟩
      have fin := last Q xq p m a cell (put G0 p (Pn.c ⟨cells, a + 1, r⟩)) hm hPr fun i => draw_end hm q _ (Nat.le_refl _)
      refine ite2 (fun h1 => ?_) (fun h1 => ?_)
      · refine ⟨⟨by decide, by decide, by decide⟩, ?_⟩
        refine ite2 (fun h2 => ?_) (fun h2 => ?_)
        · obtain ⟨b, hb⟩ := abs_nat cell
          obtain ⟨c, hc⟩ := div_nat b hm
          refine ⟨divok hm hm2, _, _, put_same, rfl, hm0, ?_⟩
          rw [put_put]
          show Q (.int ((if cell < 0 then -cell else cell) % m)) (put G0 p (.lst [.rl (cells.map D.int), .int ((a + 1 : Nat) : Int), .int ((if cell < 0 then -cell else cell) / m)]))
          rw [hb, hc]
          exact draw_end hm q ⟨cells, a + 1, c⟩ (Nat.le_refl _)
        · exact fin
      · exact fin
    refine ⟨_, _, put_same, rfl, ?_⟩
    refine ite2 (fun h1 => ?_) (fun h1 => ?_)
    · have hl : 0 < (cells.length : Int) := by
        have := of_decide_eq_true h1
        rw [List.length_map] at this
        exact this
      obtain ⟨cell, hcell⟩ := cell_at (a := a) hl
      exact ⟨_, _, put_same, rfl, _, _, put_same, rfl, by rw [List.length_map]; exact hl, _, hcell, tail cell⟩
    · exact tail c0
theorem body_drawA : Bod [] [] drawAC 6 spDraw := by
  refine fun ds G Q xq ⟨p, s, m, G0, h1, h2, h3, h4, q⟩ => draw_any (Pr := fun _ => True) rfl (fun Q xq p m a cell G hm _ q => ?_) ds G Q xq ⟨p, s, m, G0, h1, h2, h3, h4, trivial, fun k s' h _ => q k s' h⟩
  have hm0 : 0 < m := by omega
  refine ⟨show (0 : Int) < 2147483647 by decide, mulL (by decide) (by decide), mulR (by decide) (by decide), show (0 : Int) < 2147483629 by decide, ?_⟩
  have hx1 := Int.emod_nonneg ((cell % 2147483647 + 69621 * (a : Int) + 13) * 48271) (show (2147483629 : Int) ≠ 0 by decide)
  have hx2 := Int.emod_lt_of_pos ((cell % 2147483647 + 69621 * (a : Int) + 13) * 48271) (show (0 : Int) < 2147483629 by decide)
  refine ⟨mulL (by omega) (by omega), show (0 : Int) < 2147483587 by decide, show (0 : Int) < 65521 by decide, mulL (by decide) (by decide), mulL ?_ ?_, show (0 : Int) < 2147483563 by decide, ?_⟩
  · exact Int.lt_of_lt_of_le (by decide) (Int.emod_nonneg _ (show (2147483587 : Int) ≠ 0 by decide))
  · exact Int.lt_trans (Int.emod_lt_of_pos _ (show (0 : Int) < 2147483587 by decide)) (by decide)
  exact ⟨.inl ⟨by decide, by decide⟩, hm0, q _⟩
/-! the pen of a script -/
def spPen : DSp := fun ds G Q _ => ∃ ns : List Int, ds = [.sc (ns.map D.int)] ∧ ∀ p, G p = none → Q (.ref p) (put G p (Pn.c ⟨ns.take 63, 0, 0⟩))
theorem cut63 (ns : List Int) : cutD (ns.map D.int) none (some 63) = (ns.take 63).map D.int := by
  unfold cutD
  rw [List.length_map]
  have h0 : HT.sIx ns.length 0 none = 0 := rfl
  have h1 : HT.sIx ns.length ns.length (some 63) = min 63 ns.length := by
    unfold HT.sIx
    simp
  rw [h0, h1, List.drop_zero, Nat.sub_zero, ← List.map_take]
  congr 1
  rw [List.take_eq_take_iff]
  omega
/-- a comprehension that tells just f of its items; the store stays -/
theorem lc_mapV {g : DG} {te : DE} {ρ0 : Ev} {keep : Sto → Prop} {fin : List D → Sto → Prop} {G : Sto} (f : D → D) {items items0 : List D} (he : items0 = items) (hl : items.length < sizeLine) (hk : keep G)
    (step : ∀ (i : Nat) (x : D), items[i]? = some x → ∀ K : D → Sto → Prop, K (f x) G → g x ρ0 G (fun ρ1 G1 => te ρ1 G1 K (fun _ _ => False)) (fun _ _ _ => False))
    (h : fin (items.map f) G) : lcS g dYes te ρ0 keep fin items0 [] G := by
  cases he
  refine lc_ix (I := fun k acc G1 => acc = (items.map f).take k ∧ G1 = G) 0 ⟨rfl, rfl⟩ ?_ ?_
  · rintro i x hx acc G1 N ⟨rfl, rfl⟩ hN
    rw [Nat.zero_add] at hN ⊢
    have hi := (List.getElem?_eq_some_iff.mp hx).1
    refine ⟨hk, step i x hx (fun d G3 => ((items.map f).take i).length < sizeLine ∧ N ((items.map f).take i ++ [d]) G3) ⟨?_, hN _ _ ⟨?_, rfl⟩⟩⟩
    · rw [List.length_take, List.length_map]
      omega
    · exact take_snoc (by rw [List.getElem?_map, hx]; rfl)
  · rintro acc G1 ⟨rfl, rfl⟩
    rw [Nat.zero_add]
    refine ⟨hk, ?_⟩
    have e : (items.map f).take items.length = items.map f := by
      conv => lhs; rw [← List.length_map (f := f)]
      exact List.take_length
    rw [e]
    exact h
theorem body_pen : Bod [] [] penC 2 spPen := by
  rintro ds G Q xq ⟨ns, rfl, q⟩
  show lcS _ _ _ _ _ _ _ _ _
  refine lc_mapV id (cut63 ns) ?_ trivial (fun i x hx K k => k) ⟨sz3 3, ?_⟩
  · rw [List.length_map, List.length_take]
    exact Nat.lt_of_le_of_lt (Nat.min_le_left _ _) (by decide)
  · rw [List.map_id]
    exact q
/-! a worth drawn -/
end DL
namespace DL
open PySem PySem.Spec PyProof.Rows L2
end DL
namespace DL
open PySem PySem.Spec PyProof.Rows L2
/-! programs -/
inductive One where
  | nm (x : Str) | wo (n : Nat)
inductive Row where
  | set (x d : Str) (a b : One) | copy (x : Str) (a : One) | tell (a : One)
inductive Exit where
  | fin | go (b : Nat) | iff (a : One) (b c : Nat)
abbrev Blok := List Row × Exit
structure Prog where
  params : List Str
  blocks : List Blok
def One.d : One → D
  | .nm x => .str x
  | .wo n => .int n
def Row.d : Row → D
  | .set x e a b => .tup [.str "set", .str x, .str e, a.d, b.d]
  | .copy x a => .tup [.str "copy", .str x, a.d]
  | .tell a => .tup [.str "tell", a.d]
def Exit.d : Exit → D
  | .fin => .tup [.str "end"]
  | .go b => .tup [.str "go", .int b]
  | .iff a b c => .tup [.str "if", a.d, .int b, .int c]
def blokD (b : Blok) : D := .tup [.tup (b.1.map Row.d), b.2.d]
def strsD (ts : List Str) : D := .tup (ts.map D.str)
def Prog.d (p : Prog) : D := .tup [strsD p.params, .tup (p.blocks.map blokD)]
def One.names : One → List Str
  | .nm x => [x]
  | .wo _ => []
def onesN (os : List One) : List Str := os.flatMap One.names
def Row.reads : Row → List Str
  | .set _ _ a b => onesN [a, b]
  | .copy _ a => onesN [a]
  | .tell a => onesN [a]
def Row.sets : Row → List Str
  | .set x _ _ _ => [x]
  | .copy x _ => [x]
  | .tell _ => []
def Exit.reads : Exit → List Str
  | .iff a _ _ => onesN [a]
  | _ => []
def Exit.led : Exit → List Nat
  | .fin => []
  | .go b => [b]
  | .iff _ b c => [b, c]
/-! names_read -/
/-! names_of -/
def rowN (r : Row) : List Str := r.sets ++ r.reads
def blokN (b : Blok) : List Str := b.1.flatMap rowN ++ b.2.reads
def Prog.names (p : Prog) : List Str := p.params ++ p.blocks.flatMap blokN
theorem ones_len (os : List One) : (onesN os).length ≤ os.length := by
  induction os with
  | nil => exact Nat.le_refl _
  | cons o os ih =>
    unfold onesN at ih ⊢
    rw [List.flatMap_cons, List.length_append, List.length_cons]
    have : (One.names o).length ≤ 1 := by cases o <;> simp [One.names]
    omega
theorem rowN_len (r : Row) : (rowN r).length ≤ 3 := by
  unfold rowN
  rw [List.length_append]
  cases r with
  | set x e a b => have := ones_len [a, b]; simp [Row.sets, Row.reads] at *; omega
  | copy x a => have := ones_len [a]; simp [Row.sets, Row.reads] at *; omega
  | tell a => have := ones_len [a]; simp [Row.sets, Row.reads] at *; omega
theorem exitR_len (e : Exit) : e.reads.length ≤ 1 := by
  cases e with
  | iff a b c => exact ones_len [a]
  | _ => simp [Exit.reads]
theorem flat_len {α β : Type} {f : α → List β} {n : Nat} (h : ∀ x, (f x).length ≤ n) : ∀ l : List α, (l.flatMap f).length ≤ n * l.length
  | [] => by simp
  | x :: l => by
    rw [List.flatMap_cons, List.length_append, List.length_cons, Nat.mul_add]
    have := h x
    have := flat_len h l
    omega
/-- of a form that programs have -/
structure Prog.Few (p : Prog) : Prop where
  pl : p.params.length ≤ 10
  bl : p.blocks.length ≤ 10
  rl : ∀ b ∈ p.blocks, b.1.length ≤ 10
  nl : (srtO ltS p.names).length < 64
theorem blokN_len {b : Blok} (h : b.1.length ≤ 10) : (blokN b).length ≤ 31 := by
  unfold blokN
  rw [List.length_append]
  have h1 := flat_len (f := rowN) (n := 3) rowN_len b.1
  have h2 := exitR_len b.2
  omega
theorem flat_len' {α β : Type} {f : α → List β} {n : Nat} : ∀ l : List α, (∀ x ∈ l, (f x).length ≤ n) → (l.flatMap f).length ≤ n * l.length
  | [], _ => by simp
  | x :: l, h => by
    rw [List.flatMap_cons, List.length_append, List.length_cons, Nat.mul_add]
    have := h x (by simp)
    have := flat_len' l fun y hy => h y (by simp [hy])
    omega
theorem Prog.Few.len {p : Prog} (h : p.Few) : p.names.length ≤ 320 := by
  unfold Prog.names
  rw [List.length_append]
  have := h.pl
  have h1 := flat_len' (f := blokN) (n := 31) p.blocks fun b hb => blokN_len (h.rl b hb)
  have := h.bl
  omega
theorem get_map {α : Type} {f : α → D} {l : List α} {i : Nat} {x : D} (h : (l.map f)[i]? = some x) : ∃ y, l[i]? = some y ∧ x = f y := by
  rw [List.getElem?_map] at h
  cases e : l[i]? with
  | none => rw [e] at h; cases h
  | some y =>
    rw [e] at h
    exact ⟨y, rfl, (Option.some.inj h).symm⟩
end DL
namespace DL
open PySem PySem.Spec PyProof.Rows L2
/-! rows and exits by the law's own helpers -/
inductive Ln where
  | row (r : Row) | ex (e : Exit)
def Ln.d : Ln → D
  | .row r => r.d
  | .ex e => e.d
def Ln.reads : Ln → List Str
  | .row r => r.reads
  | .ex e => e.reads
def Ln.sets : Ln → List Str
  | .row r => r.sets
  | .ex _ => []
def setsB (l : Ln) (x : Str) : Bool := l.sets.any fun y => y == x
end DL
namespace DL
open PySem PySem.Spec PyProof.Rows L2
/-! all names, by the law -/
def linesOf (b : Blok) : List Ln := b.1.map Ln.row ++ [Ln.ex b.2]
def blokM (b : Blok) : List Str := (linesOf b).flatMap Ln.reads ++ b.1.flatMap Row.sets
theorem mem_flat {α β : Type} {f : α → List β} {l : List α} {y : β} : y ∈ l.flatMap f ↔ ∃ x ∈ l, y ∈ f x := List.mem_flatMap
theorem blokM_mem {b : Blok} {z : Str} : z ∈ blokM b ↔ z ∈ blokN b := by
  unfold blokM blokN linesOf
  simp only [List.mem_append, List.mem_flatMap, List.mem_map, List.mem_singleton, rowN]
  constructor
  · rintro (⟨l, (⟨r, hr, rfl⟩ | rfl), hz⟩ | ⟨r, hr, hz⟩)
    · exact .inl ⟨r, hr, .inr hz⟩
    · exact .inr hz
    · exact .inl ⟨r, hr, .inl hz⟩
  · rintro (⟨r, hr, hz | hz⟩ | hz)
    · exact .inr ⟨r, hr, hz⟩
    · exact .inl ⟨_, .inl ⟨r, hr, rfl⟩, hz⟩
    · exact .inl ⟨_, .inr rfl, hz⟩
theorem names_mem {p : Prog} {z : Str} : z ∈ p.params ++ p.blocks.flatMap blokM ↔ z ∈ p.names := by
  unfold Prog.names
  simp only [List.mem_append, List.mem_flatMap, blokM_mem]
end DL
namespace DL
open PySem PySem.Spec PyProof.Rows L2
/-- a comprehension over what stands for xs -/
theorem lc_filtA {α : Type} {g : DG} {tt : DT} {te : DE} {ρ0 : Ev} {keep : Sto → Prop} {fin : List D → Sto → Prop} {G : Sto} (enc : α → D) (b : α → Bool) (f : α → D) {xs : List α} {items0 : List D} (he : items0 = xs.map enc) (hl : xs.length < sizeLine) (hk : keep G)
    (step : ∀ (i : Nat) (x : α), xs[i]? = some x → ∀ (K : D → Sto → Prop) (N : Sto → Prop), (b x = true → K (f x) G) → (b x = false → N G) → g (enc x) ρ0 G (fun ρ1 G1 => tt ρ1 G1 (fun c G2 => if c = true then te ρ1 G2 K (fun _ _ => False) else N G2) (fun _ _ => False)) (fun _ _ _ => False))
    (h : fin ((xs.filter b).map f) G) : lcS g tt te ρ0 keep fin items0 [] G := by
  cases he
  refine lc_ix (I := fun k acc G1 => acc = ((xs.take k).filter b).map f ∧ G1 = G) 0 ⟨rfl, rfl⟩ ?_ ?_
  · rintro i x hx acc G1 N ⟨rfl, rfl⟩ hN
    rw [Nat.zero_add] at hN ⊢
    obtain ⟨y, hy, rfl⟩ := get_map hx
    have hi := (List.getElem?_eq_some_iff.mp hy).1
    refine ⟨hk, step i y hy (fun d G3 => (((xs.take i).filter b).map f).length < sizeLine ∧ N (((xs.take i).filter b).map f ++ [d]) G3) _ (fun hb => ⟨?_, hN _ _ ⟨?_, rfl⟩⟩) (fun hb => hN _ _ ⟨?_, rfl⟩)⟩
    · rw [List.length_map]
      exact Nat.lt_of_le_of_lt (List.length_filter_le _ _) (by rw [List.length_take]; omega)
    · rw [List.take_add_one, hy]
      simp [hb]
    · rw [List.take_add_one, hy]
      simp [hb]
  · rintro acc G1 ⟨rfl, rfl⟩
    rw [Nat.zero_add, List.length_map, List.take_length]
    exact ⟨hk, h⟩
/-! blocks to which a name comes unset, by the law's own walk -/
def natD (n : Nat) : D := .int (n : Nat)
def pushN (s : List Nat × List Nat) (k : Nat) : List Nat × List Nat := if k ∈ s.1 then s else (s.1 ++ [k], s.2 ++ [k])
def setsIn (x : Str) (b : Blok) : Bool := b.1.any fun r => setsB (.row r) x
def stepU (p : Prog) (x : Str) (s : List Nat × List Nat) : List Nat × List Nat :=
  match s.2.getLast? with
  | none => s
  | some b => match p.blocks[b]? with
    | none => (s.1, s.2.dropLast)
    | some bl => if setsIn x bl = true then (s.1, s.2.dropLast) else bl.2.led.foldl pushN (s.1, s.2.dropLast)
def goU (p : Prog) (x : Str) : Nat → List Nat × List Nat → List Nat
  | 0, s => s.1
  | f + 1, s => if s.2 = [] then s.1 else goU p x f (stepU p x s)
def unsetB (p : Prog) (x : Str) : List Nat := if x ∈ p.params then [] else goU p x (2 * p.blocks.length + 2) ([0], [0])
/-- exits lead to blocks -/
structure Prog.Led (p : Prog) : Prop where
  ne : 1 ≤ p.blocks.length
  led : ∀ b ∈ p.blocks, ∀ k ∈ b.2.led, k < p.blocks.length
def StU (p : Prog) (s : List Nat × List Nat) : Prop := s.1.Nodup ∧ (∀ k ∈ s.1, k < p.blocks.length) ∧ ∀ k ∈ s.2, k ∈ s.1
def meaU (p : Prog) (s : List Nat × List Nat) : Nat := 2 * (p.blocks.length - s.1.length) + s.2.length
theorem StU.len {p : Prog} {s : List Nat × List Nat} (h : StU p s) : s.1.length ≤ p.blocks.length := by
  have := h.1.length_le_of_subset (l₂ := List.range p.blocks.length) fun k hk => List.mem_range.mpr (h.2.1 k hk)
  rwa [List.length_range] at this
theorem StU.push {p : Prog} {s : List Nat × List Nat} {k : Nat} (h : StU p s) (hk : k < p.blocks.length) : StU p (pushN s k) ∧ meaU p (pushN s k) ≤ meaU p s := by
  unfold pushN
  split
  · exact ⟨h, Nat.le_refl _⟩
  · rename_i n
    have h' : StU p (s.1 ++ [k], s.2 ++ [k]) := by
      refine ⟨?_, fun j hj => ?_, fun j hj => ?_⟩
      · rw [List.nodup_append]
        exact ⟨h.1, by simp, fun a ha b hb => by rw [List.mem_singleton] at hb; subst hb; intro e; subst e; exact n ha⟩
      · rcases List.mem_append.mp hj with hj | hj
        · exact h.2.1 j hj
        · rw [List.mem_singleton] at hj; rw [hj]; exact hk
      · rcases List.mem_append.mp hj with hj | hj
        · exact List.mem_append.mpr (.inl (h.2.2 j hj))
        · exact List.mem_append.mpr (.inr hj)
    refine ⟨h', ?_⟩
    have := h'.len
    unfold meaU
    simp only [List.length_append, List.length_singleton] at this ⊢
    omega
theorem StU.pushes {p : Prog} : ∀ {ks : List Nat} {s : List Nat × List Nat}, StU p s → (∀ k ∈ ks, k < p.blocks.length) → StU p (ks.foldl pushN s) ∧ meaU p (ks.foldl pushN s) ≤ meaU p s
  | [], s, h, _ => ⟨h, Nat.le_refl _⟩
  | k :: ks, s, h, hk => by
    obtain ⟨h1, h2⟩ := h.push (hk k (by simp))
    obtain ⟨h3, h4⟩ := StU.pushes (ks := ks) h1 fun j hj => hk j (by simp [hj])
    exact ⟨h3, Nat.le_trans h4 h2⟩
theorem StU.pop {p : Prog} {s : List Nat × List Nat} (h : StU p s) : StU p (s.1, s.2.dropLast) := ⟨h.1, h.2.1, fun k hk => h.2.2 k (List.dropLast_subset _ hk)⟩
theorem mea_pop {p : Prog} {s : List Nat × List Nat} (hn : s.2 ≠ []) : meaU p (s.1, s.2.dropLast) + 1 = meaU p s := by
  unfold meaU
  have : 0 < s.2.length := List.length_pos_iff.mpr hn
  simp only [List.length_dropLast]
  omega
end DL
namespace DL
open PySem PySem.Spec PyProof.Rows L2
/-! the first name that may be unset, by the law -/
def noneAhead (bl : Blok) (r : Nat) (x : Str) : Bool := !((linesOf bl).take r).any fun l => setsB l x
def hitB (p : Prog) (bl : Blok) (b r : Nat) (x : Str) : Bool := decide (b ∈ unsetB p x) && noneAhead bl r x
def HitR (p : Prog) (b r : Nat) : Prop := ∃ bl l x, p.blocks[b]? = some bl ∧ (linesOf bl)[r]? = some l ∧ x ∈ l.reads ∧ hitB p bl b r x = true
def UnsetIs (p : Prog) (o : Option (Nat × Nat)) : Prop := (o = none ∧ ∀ b r, ¬ HitR p b r) ∨ ∃ b r, o = some (b, r) ∧ HitR p b r ∧ ∀ b' r', (b' < b ∨ (b' = b ∧ r' < r)) → ¬ HitR p b' r'
theorem UnsetIs.uniq {p : Prog} {o o' : Option (Nat × Nat)} (h : UnsetIs p o) (h' : UnsetIs p o') : o = o' := by
  rcases h with ⟨rfl, h⟩ | ⟨b, r, rfl, h1, h2⟩
  · rcases h' with ⟨rfl, _⟩ | ⟨b', r', rfl, h1', _⟩
    · rfl
    · exact (h _ _ h1').elim
  · rcases h' with ⟨rfl, h⟩ | ⟨b', r', rfl, h1', h2'⟩
    · exact (h _ _ h1).elim
    · by_cases e : b = b' ∧ r = r'
      · rw [e.1, e.2]
      · by_cases l : b < b' ∨ (b = b' ∧ r < r')
        · exact (h2' b r l h1).elim
        · exact (h2 b' r' (by omega) h1').elim
theorem reads_names {p : Prog} {b r : Nat} {bl : Blok} {l : Ln} {x : Str} (h1 : p.blocks[b]? = some bl) (h2 : (linesOf bl)[r]? = some l) (h3 : x ∈ l.reads) : x ∈ p.names := by
  refine names_mem.mp (List.mem_append.mpr (.inr (mem_flat.mpr ⟨bl, List.mem_of_getElem? h1, ?_⟩)))
  unfold blokM
  exact List.mem_append.mpr (.inl (mem_flat.mpr ⟨l, List.mem_of_getElem? h2, h3⟩))
theorem enum_get {ds : List D} {i : Nat} {x : D} (h : (enumD ds)[i]? = some x) : ∃ d, ds[i]? = some d ∧ x = .tup [natD i, d] := by
  unfold enumD at h
  rw [List.getElem?_mapIdx] at h
  cases e : ds[i]? with
  | none => rw [e] at h; cases h
  | some d => rw [e] at h; exact ⟨d, rfl, (Option.some.inj h).symm⟩
end DL
namespace DL
open PySem PySem.Spec PyProof.Rows L2
/-! names turned to worths -/
end DL
namespace DL
open PySem PySem.Spec PyProof.Rows L2
/-! programs mended: no name may be unset -/
/-! how many names are read -/
def Ln.at (bl : Blok) (r : Nat) : Option Ln := (linesOf bl)[r]?
end DL
namespace DL
open PySem PySem.Spec PyProof.Rows L2
/-! programs drawn -/
def Letter (c : Nat) : Prop := 97 ≤ c ∧ c ≤ 122
def NmOk (t : Str) : Prop := 1 ≤ t.length ∧ t.length ≤ 8 ∧ ∀ c ∈ t.cps.toList, Letter c
instance (c : Nat) : Decidable (Letter c) := inferInstanceAs (Decidable (_ ∧ _))
instance (t : Str) : Decidable (NmOk t) := inferInstanceAs (Decidable (_ ∧ _ ∧ _))
theorem cutS_hi (t : Str) {j : Nat} (h : j ≤ t.length) : (cutS t none (some (j : Int))).cps.toList = t.cps.toList.take j := by
  unfold cutS
  have h0 : HT.sIx t.length 0 none = 0 := rfl
  have h1 : HT.sIx t.length t.length (some (j : Int)) = j := by
    unfold HT.sIx
    simp
    rw [if_neg (by omega)]
    omega
  rw [h0, h1]
  simp
theorem Str.len_tl (t : Str) : t.length = t.cps.toList.length := by unfold Str.length; simp
theorem NmOk.cut {t : Str} (h : NmOk t) {c : Nat} (hc : Letter c) : NmOk (cutS t none (some ((t.length : Int) - 1)) ++ ⟨#[c]⟩) := by
  have e : (t.length : Int) - 1 = ((t.length - 1 : Nat) : Int) := by have := h.1; omega
  rw [e]
  have e2 : (cutS t none (some ((t.length - 1 : Nat) : Int)) ++ (⟨#[c]⟩ : Str)).cps.toList = t.cps.toList.take (t.length - 1) ++ [c] := by
    rw [← cutS_hi t (show t.length - 1 ≤ t.length by omega)]
    exact TL.tl_append _ _
  have hl := Str.len_tl t
  have h1 := h.1
  have h2 := h.2.1
  refine ⟨?_, ?_, fun d hd => ?_⟩
  · rw [Str.len_tl, e2, List.length_append, List.length_singleton]; omega
  · rw [Str.len_tl, e2, List.length_append, List.length_take, List.length_singleton]; omega
  · rw [e2] at hd
    rcases List.mem_append.mp hd with hd | hd
    · exact h.2.2 d (List.mem_of_mem_take hd)
    · rw [List.mem_singleton] at hd
      exact hd ▸ hc
structure NmsOk (n : Nat) (ts : List Str) : Prop where
  len : ts.length ≤ n
  nd : ts.Nodup
  ok : ∀ t ∈ ts, NmOk t
end DL
namespace DL
open PySem PySem.Spec PyProof.Rows L2
def deedNames : List Str := ["add", "less", "times", "both", "odd", "same", "under"]
def OneOk (ts : List Str) : One → Prop
  | .nm x => x ∈ ts
  | .wo n => n < 65536
def RowOk (ts : List Str) : Row → Prop
  | .set x e a b => x ∈ ts ∧ e ∈ deedNames ∧ OneOk ts a ∧ OneOk ts b
  | .copy x a => x ∈ ts ∧ OneOk ts a
  | .tell a => OneOk ts a
def ExitOk (n : Nat) (ts : List Str) : Exit → Prop
  | .fin => True
  | .go b => b < n
  | .iff a b c => OneOk ts a ∧ b < n ∧ c < n
end DL
namespace DL
open PySem PySem.Spec PyProof.Rows L2
/-- a program over names -/
structure ProgOk (ts : List Str) (p : Prog) : Prop where
  ns : NmsOk 14 ts
  ne : ts ≠ []
  ps : ∃ j, j ≤ 4 ∧ p.params = ts.take j
  b1 : 1 ≤ p.blocks.length
  bl : p.blocks.length ≤ 6
  rl : ∀ b ∈ p.blocks, b.1.length ≤ 6
  ro : ∀ b ∈ p.blocks, ∀ r ∈ b.1, RowOk ts r
  ex : ∀ b ∈ p.blocks, ExitOk p.blocks.length ts b.2
theorem OneOk.names {ts : List Str} {o : One} {z : Str} (h : OneOk ts o) (hz : z ∈ o.names) : z ∈ ts := by
  cases o with
  | nm x => rw [show (One.nm x).names = [x] from rfl, List.mem_singleton] at hz; exact hz ▸ h
  | wo n => cases hz
theorem ones_ok {ts : List Str} {os : List One} {z : Str} (h : ∀ o ∈ os, OneOk ts o) (hz : z ∈ onesN os) : z ∈ ts := by
  obtain ⟨o, ho, hz⟩ := mem_flat.mp hz
  exact (h o ho).names hz
theorem RowOk.names {ts : List Str} {r : Row} {z : Str} (h : RowOk ts r) (hz : z ∈ rowN r) : z ∈ ts := by
  unfold rowN at hz
  rcases List.mem_append.mp hz with hz | hz
  · cases r with
    | set x e a b => rw [show (Row.set x e a b).sets = [x] from rfl, List.mem_singleton] at hz; exact hz ▸ h.1
    | copy x a => rw [show (Row.copy x a).sets = [x] from rfl, List.mem_singleton] at hz; exact hz ▸ h.1
    | tell a => cases hz
  · cases r with
    | set x e a b => exact ones_ok (os := [a, b]) (fun o ho => by simp at ho; rcases ho with rfl | rfl; exact h.2.2.1; exact h.2.2.2) hz
    | copy x a => exact ones_ok (os := [a]) (fun o ho => by simp at ho; rcases ho with rfl; exact h.2) hz
    | tell a => exact ones_ok (os := [a]) (fun o ho => by simp at ho; rcases ho with rfl; exact h) hz
theorem ExitOk.names {n : Nat} {ts : List Str} {e : Exit} {z : Str} (h : ExitOk n ts e) (hz : z ∈ e.reads) : z ∈ ts := by
  cases e with
  | fin => cases hz
  | go b => cases hz
  | iff a b c => exact ones_ok (os := [a]) (fun o ho => by simp at ho; rcases ho with rfl; exact h.1) hz
theorem ProgOk.names {ts : List Str} {p : Prog} (h : ProgOk ts p) {z : Str} (hz : z ∈ p.names) : z ∈ ts := by
  unfold Prog.names at hz
  rcases List.mem_append.mp hz with hz | hz
  · obtain ⟨j, _, e⟩ := h.ps
    rw [e] at hz
    exact List.mem_of_mem_take hz
  · obtain ⟨b, hb, hz⟩ := mem_flat.mp hz
    unfold blokN at hz
    rcases List.mem_append.mp hz with hz | hz
    · obtain ⟨r, hr, hz⟩ := mem_flat.mp hz
      exact (h.ro b hb r hr).names hz
    · exact (h.ex b hb).names hz
theorem ProgOk.led {ts : List Str} {p : Prog} (h : ProgOk ts p) : p.Led where
  ne := h.b1
  led := fun b hb k hk => by
    have he := h.ex b hb
    cases e : b.2 with
    | fin => rw [e] at hk; cases hk
    | go c =>
      rw [e] at hk he
      rw [show (Exit.go c).led = [c] from rfl, List.mem_singleton] at hk
      exact hk ▸ he
    | iff a c d =>
      rw [e] at hk he
      rw [show (Exit.iff a c d).led = [c, d] from rfl] at hk
      simp at hk
      rcases hk with rfl | rfl
      · exact he.2.1
      · exact he.2.2
end DL
namespace DL
open PySem PySem.Spec PyProof.Rows L2
/-! the same, down to the kind -/
def PlainD : Nat → D → Prop
  | 0, _ => False
  | n + 1, d => match d with
    | .non => True
    | .bl _ => True
    | .int _ => True
    | .str _ => True
    | .tup ds => ds.length ≤ 1000 ∧ ∀ e ∈ ds, PlainD n e
    | .rl ds => ds.length ≤ 1000 ∧ ∀ e ∈ ds, PlainD n e
    | _ => False
end DL
namespace DL
open PySem PySem.Spec PyProof.Rows L2
/-! data by value -/
mutual
theorem eqv_refl : ∀ d : D, PyData.eqv (pyD d) (pyD d) = true
  | .non => rfl
  | .bl b => by simp [pyD, PyData.eqv]
  | .int b => by simp [pyD, PyData.eqv]
  | .str b => by simp [pyD, PyData.eqv]
  | .tup ds => by
    unfold pyD PyData.eqv
    exact eqvs_refl ds
  | .rl ds => by
    unfold pyD PyData.eqv
    exact eqvs_refl ds
  | .ref _ => rfl
  | .ty _ => rfl
  | .sc _ => rfl
  | .rd _ _ => rfl
  | .exc _ _ _ => rfl
  | .fn _ => rfl
  | .nt _ => rfl
  | .lam _ _ _ _ => rfl
theorem eqvs_refl : ∀ ds : List D, PyData.eqvAll (pyDs ds) (pyDs ds) = true
  | [] => rfl
  | d :: ds => by
    unfold pyDs PyData.eqvAll
    rw [eqv_refl d, eqvs_refl ds]
    rfl
end
theorem okDs_mem {n : Nat} : ∀ {ds : List D}, okDs n ds = true ↔ ∀ d ∈ ds, okD n d = true
  | [] => ⟨fun _ d h => (List.not_mem_nil h).elim, fun _ => rfl⟩
  | d :: ds => by
    unfold okDs
    rw [Bool.and_eq_true, okDs_mem (ds := ds)]
    constructor
    · rintro ⟨h1, h2⟩ x hx
      rcases List.mem_cons.mp hx with rfl | hx
      · exact h1
      · exact h2 x hx
    · exact fun h => ⟨h d (by simp), fun x hx => h x (by simp [hx])⟩
theorem shaped_of {d : D} {n : Nat} (h : okD n d = true) (hn : n ≤ 64) : SeqAt.shaped (pyD d) = true := by
  obtain ⟨_, h2, h3⟩ := okD_dd (G := fun _ => none) h
  unfold SeqAt.shaped
  rw [h2, decide_eq_true (by omega)]
  rfl
theorem eqvAll_nil {xs : List D} : PyData.eqvAll (pyDs xs) (pyDs []) = xs.isEmpty := by cases xs <;> rfl
theorem ne_tup {xs ys : List D} {G : Sto} {Q : DQ} {n : Nat} (hx : okDs n xs = true) (hy : okDs n ys = true) (hn : n ≤ 63) (q : Q (.bl (!PyData.eqvAll (pyDs xs) (pyDs ys))) G) : neD (.tup xs) (.tup ys) G Q := by
  cases ys with
  | nil =>
    rw [eqvAll_nil] at q
    exact q
  | cons y ys => exact ⟨_, _, .tup (okDs_dd hx).1, .tup (okDs_dd hy).1, shaped_of (d := .tup xs) (n := n + 1) hx (by omega), shaped_of (d := .tup (y :: ys)) (n := n + 1) hy (by omega), q⟩
theorem NmOk.ok {t : Str} (h : NmOk t) : PyData.strOk t = true := by
  unfold PyData.strOk
  rw [← Array.all_toList, List.all_eq_true]
  intro c hc
  have := h.2.2 c hc
  unfold Letter at this
  exact decide_eq_true (by omega)
end DL
namespace DL
open PySem PySem.Spec PyProof.Rows L2
/-! names alive: read further on before they are set -/
def useL (x : Str) : List Ln → Bool
  | [] => false
  | l :: ls => decide (x ∈ l.reads) || (!setsB l x && useL x ls)
inductive Live (p : Prog) (x : Str) : Nat → Prop
  | use {b : Nat} {bl : Blok} : p.blocks[b]? = some bl → useL x (linesOf bl) = true → Live p x b
  | on {b c : Nat} {bl : Blok} : p.blocks[b]? = some bl → setsIn x bl = false → c ∈ bl.2.led → Live p x c → Live p x b
def aheadStep (found : List Str) (r : Row) : List Str := (found.filter fun x => !decide (x ∈ r.sets)) ++ r.reads.filter fun x => !decide (x ∈ found.filter fun x => !decide (x ∈ r.sets))
def aheadOf (names : List Str) (bl : Blok) : List Str := bl.1.reverse.foldl aheadStep (names ++ bl.2.reads.filter fun x => !decide (x ∈ names))
theorem mem_app_new {a b : List Str} {x : Str} : x ∈ a ++ (b.filter fun y => !decide (y ∈ a)) ↔ x ∈ a ∨ x ∈ b := by
  rw [List.mem_append, List.mem_filter]
  by_cases h : x ∈ a
  · simp [h]
  · simp [h]
theorem mem_aheadStep {f : List Str} {r : Row} {x : Str} : x ∈ aheadStep f r ↔ x ∈ r.reads ∨ (x ∈ f ∧ x ∉ r.sets) := by
  unfold aheadStep
  rw [mem_app_new, List.mem_filter]
  constructor
  · rintro (⟨h1, h2⟩ | h)
    · exact .inr ⟨h1, by simpa using h2⟩
    · exact .inl h
  · rintro (h | ⟨h1, h2⟩)
    · exact .inr h
    · exact .inl ⟨h1, by simpa using h2⟩
theorem setsB_row {r : Row} {x : Str} : setsB (.row r) x = decide (x ∈ r.sets) := by
  rw [Bool.eq_iff_iff, decide_eq_true_eq]
  show (r.sets.any fun y => y == x) = true ↔ _
  rw [List.any_eq_true]
  constructor
  · rintro ⟨y, hy, e⟩
    exact (eq_of_beq e) ▸ hy
  · exact fun h => ⟨x, h, beq_self_eq_true x⟩
theorem mem_ahead_rows {e : Exit} {names : List Str} {x : Str} : ∀ rows : List Row, x ∈ rows.foldr (fun r f => aheadStep f r) (names ++ e.reads.filter fun x => !decide (x ∈ names)) ↔ useL x (rows.map Ln.row ++ [.ex e]) = true ∨ (x ∈ names ∧ (rows.any fun r => setsB (.row r) x) = false)
  | [] => by
    rw [List.foldr_nil, mem_app_new, List.map_nil, List.nil_append]
    show _ ↔ (decide (x ∈ e.reads) || _) = true ∨ _
    simp [useL, or_comm]
  | r :: rows => by
    have ih := mem_ahead_rows (e := e) (names := names) (x := x) rows
    rw [List.foldr_cons, mem_aheadStep, ih, List.map_cons, List.cons_append]
    show _ ↔ (decide (x ∈ r.reads) || (!setsB (.row r) x && useL x (rows.map Ln.row ++ [.ex e]))) = true ∨ _
    rw [List.any_cons, setsB_row]
    by_cases h1 : x ∈ r.reads <;> by_cases h2 : x ∈ r.sets <;> simp [h1, h2]
theorem mem_ahead {names : List Str} {bl : Blok} {x : Str} : x ∈ aheadOf names bl ↔ useL x (linesOf bl) = true ∨ (x ∈ names ∧ setsIn x bl = false) := by
  unfold aheadOf
  rw [List.foldl_reverse]
  exact mem_ahead_rows bl.1
theorem useL_reads {x : Str} : ∀ {ls : List Ln}, useL x ls = true → ∃ l ∈ ls, x ∈ l.reads
  | [], h => by cases h
  | l :: ls, h => by
    have h : (decide (x ∈ l.reads) || (!setsB l x && useL x ls)) = true := h
    rw [Bool.or_eq_true, Bool.and_eq_true] at h
    rcases h with h | ⟨_, h⟩
    · exact ⟨l, by simp, of_decide_eq_true h⟩
    · obtain ⟨l', h1, h2⟩ := useL_reads h
      exact ⟨l', by simp [h1], h2⟩
theorem Live.name {p : Prog} {x : Str} {b : Nat} (h : Live p x b) : x ∈ p.names := by
  induction h with
  | use hb hu =>
    obtain ⟨l, hl, hx⟩ := useL_reads hu
    obtain ⟨r, hr⟩ := List.getElem?_of_mem hl
    exact reads_names hb hr hx
  | on _ _ _ _ ih => exact ih
/-! the fixpoint -/
/-- names behind a block -/
def behindOf (found : List (List Str)) (ks : List Nat) : List Str := ks.foldl (fun acc k => acc ++ ((found[k]?.getD []).filter fun x => !decide (x ∈ acc))) []
theorem mem_behind_go {found : List (List Str)} {x : Str} : ∀ (ks : List Nat) (acc : List Str), x ∈ ks.foldl (fun acc k => acc ++ ((found[k]?.getD []).filter fun x => !decide (x ∈ acc))) acc ↔ x ∈ acc ∨ ∃ k ∈ ks, x ∈ found[k]?.getD []
  | [], acc => by simp
  | k :: ks, acc => by
    rw [List.foldl_cons, mem_behind_go ks, mem_app_new]
    simp [or_assoc]
theorem mem_behind {found : List (List Str)} {ks : List Nat} {x : Str} : x ∈ behindOf found ks ↔ ∃ k ∈ ks, x ∈ found[k]?.getD [] := by
  unfold behindOf
  rw [mem_behind_go]
  simp
/-- what a block tells of its names -/
def nextOf (found : List (List Str)) (bl : Blok) : List Str := srtO ltS (aheadOf (behindOf found bl.2.led) bl)
theorem mem_next {found : List (List Str)} {bl : Blok} {x : Str} : x ∈ nextOf found bl ↔ useL x (linesOf bl) = true ∨ ((∃ k ∈ bl.2.led, x ∈ found[k]?.getD []) ∧ setsIn x bl = false) := by
  unfold nextOf
  rw [mem_srtO linS, mem_ahead, mem_behind]
/-- so far: all that is found is alive, and each block's names are kept by a turn -/
structure SoFar (p : Prog) (found : List (List Str)) : Prop where
  len : found.length = p.blocks.length
  inc : ∀ ns ∈ found, Inc ltS ns
  live : ∀ (b : Nat) (x : Str), x ∈ found[b]?.getD [] → Live p x b
  up : ∀ (b : Nat) (bl : Blok), p.blocks[b]? = some bl → ∀ x ∈ found[b]?.getD [], x ∈ nextOf found bl
theorem SoFar.next {p : Prog} {found : List (List Str)} (h : SoFar p found) {b : Nat} {bl : Blok} (hb : p.blocks[b]? = some bl) {x : Str} (hx : x ∈ nextOf found bl) : Live p x b := by
  rcases mem_next.mp hx with hu | ⟨⟨k, hk, hx⟩, hs⟩
  · exact .use hb hu
  · exact .on hb hs hk (h.live k x hx)
theorem set_getD {found : List (List Str)} {b k : Nat} {ns : List Str} (hb : b < found.length) : (found.set b ns)[k]?.getD [] = if k = b then ns else found[k]?.getD [] := by
  rw [List.getElem?_set]
  by_cases h : b = k
  · subst h
    simp [hb]
  · rw [if_neg h, if_neg (Ne.symm h)]
theorem SoFar.step {p : Prog} {found : List (List Str)} (h : SoFar p found) {b : Nat} {bl : Blok} (hb : p.blocks[b]? = some bl) : SoFar p (found.set b (nextOf found bl)) := by
  have hbl : b < found.length := by rw [h.len]; exact (List.getElem?_eq_some_iff.mp hb).1
  have grow : ∀ k x, x ∈ found[k]?.getD [] → x ∈ (found.set b (nextOf found bl))[k]?.getD [] := fun k x hx => by
    rw [set_getD hbl]
    by_cases e : k = b
    · rw [if_pos e]
      subst e
      exact h.up k bl hb x hx
    · rw [if_neg e]
      exact hx
  have mono : ∀ bl' x, x ∈ nextOf found bl' → x ∈ nextOf (found.set b (nextOf found bl)) bl' := fun bl' x hx => by
    rcases mem_next.mp hx with hu | ⟨⟨k, hk, hx⟩, hs⟩
    · exact mem_next.mpr (.inl hu)
    · exact mem_next.mpr (.inr ⟨⟨k, hk, grow k x hx⟩, hs⟩)
  refine ⟨by rw [List.length_set]; exact h.len, fun ns hns => ?_, fun c x hx => ?_, fun c bl' hc x hx => ?_⟩
  · rcases List.mem_or_eq_of_mem_set hns with hns | rfl
    · exact h.inc ns hns
    · exact inc_srtO linS
  · rw [set_getD hbl] at hx
    by_cases e : c = b
    · rw [if_pos e] at hx
      subst e
      exact h.next hb hx
    · rw [if_neg e] at hx
      exact h.live c x hx
  · rw [set_getD hbl] at hx
    by_cases e : c = b
    · rw [if_pos e] at hx
      subst e
      rw [hb] at hc
      cases hc
      exact mono bl x hx
    · rw [if_neg e] at hx
      exact mono bl' x (h.up c bl' hc x hx)
/-- how much is found -/
def sizeF (found : List (List Str)) : Nat := (found.map List.length).sum
theorem SoFar.size {p : Prog} {found : List (List Str)} (h : SoFar p found) : sizeF found ≤ p.blocks.length * (srtO ltS p.names).length := by
  have hn : ∀ ns ∈ found, ns.length ≤ (srtO ltS p.names).length := fun ns hns => by
    obtain ⟨b, hb⟩ := List.getElem?_of_mem hns
    refine (inc_nodup linS (h.inc ns hns)).length_le_of_subset fun x hx => (mem_srtO linS).mpr ?_
    exact (h.live b x (by rw [hb]; exact hx)).name
  rw [← h.len]
  unfold sizeF
  generalize (srtO ltS p.names).length = m at hn
  clear h
  induction found with
  | nil => simp
  | cons ns found ih =>
    rw [List.map_cons, List.sum_cons, List.length_cons, Nat.add_mul, Nat.one_mul]
    have := hn ns (by simp)
    have := ih fun y hy => hn y (by simp [hy])
    omega
/-- what is alive, block by block -/
def aliveAt (p : Prog) (ns : List Str) (b : Nat) : Prop := Inc ltS ns ∧ ∀ x, x ∈ ns ↔ Live p x b
def AliveIs (p : Prog) (found : List (List Str)) : Prop := found.length = p.blocks.length ∧ ∀ b ns, found[b]? = some ns → aliveAt p ns b
theorem AliveIs.uniq {p : Prog} {f g : List (List Str)} (hf : AliveIs p f) (hg : AliveIs p g) : f = g := by
  refine List.ext_getElem? fun b => ?_
  by_cases h : b < p.blocks.length
  · have h1 : b < f.length := by rw [hf.1]; exact h
    have h2 : b < g.length := by rw [hg.1]; exact h
    rw [List.getElem?_eq_getElem h1, List.getElem?_eq_getElem h2]
    obtain ⟨i1, m1⟩ := hf.2 b _ (List.getElem?_eq_getElem h1)
    obtain ⟨i2, m2⟩ := hg.2 b _ (List.getElem?_eq_getElem h2)
    exact congrArg some (inc_eq linS i1 i2 fun z => (m1 z).trans (m2 z).symm)
  · rw [List.getElem?_eq_none (by rw [hf.1]; omega), List.getElem?_eq_none (by rw [hg.1]; omega)]
end DL
namespace DL
open PySem PySem.Spec PyProof.Rows L2
end DL
namespace DL
open PySem PySem.Spec PyProof.Rows L2
end DL
namespace DL
open PySem PySem.Spec PyProof.Rows L2
end DL
namespace DL
open PySem PySem.Spec PyProof.Rows L2
/-! the law's own search -/
structure AtI (p : Prog) (x : Str) (b : Nat) (s : List Nat × List Nat) : Prop where
  st : StU p s
  wn : s.2.Nodup
  bm : b ∈ s.1
  path : ∀ c ∈ s.1, Live p x c → Live p x b
  don : ∀ c ∈ s.1, c ∉ s.2 → ∀ bl, p.blocks[c]? = some bl → useL x (linesOf bl) = false ∧ (setsIn x bl = false → ∀ k ∈ bl.2.led, k ∈ s.1)
structure Pushed (ks : List Nat) (s s' : List Nat × List Nat) : Prop where
  old : ∀ k ∈ s.1, k ∈ s'.1
  new : ∀ k ∈ ks, k ∈ s'.1
  fro : ∀ k ∈ s'.1, k ∈ s.1 ∨ k ∈ ks
  wai : ∀ k ∈ s'.1, k ∉ s'.2 → k ∈ s.1 ∧ k ∉ s.2
  nod : s.2.Nodup → (∀ k ∈ s.2, k ∈ s.1) → s'.2.Nodup
  sub : (∀ k ∈ s.2, k ∈ s.1) → ∀ k ∈ s'.2, k ∈ s'.1
theorem pushed_one (k : Nat) (s : List Nat × List Nat) : Pushed [k] s (pushN s k) := by
  unfold pushN
  split
  · rename_i h
    exact ⟨fun _ h => h, fun j hj => by rw [List.mem_singleton] at hj; exact hj ▸ h, fun _ h => .inl h, fun _ h1 h2 => ⟨h1, h2⟩, fun h _ => h, fun h => h⟩
  · rename_i h
    refine ⟨fun j hj => List.mem_append.mpr (.inl hj), fun j hj => List.mem_append.mpr (.inr hj), fun j hj => ?_, fun j h1 h2 => ?_, fun h1 h2 => ?_, fun h1 j hj => ?_⟩
    · rcases List.mem_append.mp hj with hj | hj
      · exact .inl hj
      · exact .inr hj
    · have h2' : j ∉ s.2 ∧ j ∉ [k] := by
        constructor
        · exact fun z => h2 (List.mem_append.mpr (.inl z))
        · exact fun z => h2 (List.mem_append.mpr (.inr z))
      rcases List.mem_append.mp h1 with h1 | h1
      · exact ⟨h1, h2'.1⟩
      · exact (h2'.2 h1).elim
    · show (s.2 ++ [k]).Nodup
      rw [List.nodup_append]
      exact ⟨h1, by simp, fun a ha b hb => by rw [List.mem_singleton] at hb; subst hb; intro e; subst e; exact h (h2 a ha)⟩
    · rcases List.mem_append.mp hj with hj | hj
      · exact List.mem_append.mpr (.inl (h1 j hj))
      · exact List.mem_append.mpr (.inr hj)
theorem pushed_all : ∀ (ks : List Nat) (s : List Nat × List Nat), Pushed ks s (ks.foldl pushN s)
  | [], s => ⟨fun _ h => h, (fun _ h => by cases h), fun _ h => .inl h, fun _ h1 h2 => ⟨h1, h2⟩, fun h _ => h, fun h => h⟩
  | k :: ks, s => by
    have a := pushed_one k s
    have b := pushed_all ks (pushN s k)
    rw [List.foldl_cons]
    refine ⟨fun j hj => b.old j (a.old j hj), fun j hj => ?_, fun j hj => ?_, fun j h1 h2 => ?_, fun h1 h2 => b.nod (a.nod h1 h2) (a.sub h2), fun h => b.sub (a.sub h)⟩
    · rcases List.mem_cons.mp hj with rfl | hj
      · exact b.old _ (a.new _ (by simp))
      · exact b.new j hj
    · rcases b.fro j hj with hj | hj
      · rcases a.fro j hj with hj | hj
        · exact .inl hj
        · rw [List.mem_singleton] at hj
          exact .inr (by simp [hj])
      · exact .inr (by simp [hj])
    · obtain ⟨h3, h4⟩ := b.wai j h1 h2
      exact a.wai j h3 h4
def nextS (x : Str) (bl : Blok) (s : List Nat × List Nat) : List Nat × List Nat := if setsIn x bl = true then (s.1, s.2.dropLast) else bl.2.led.foldl pushN (s.1, s.2.dropLast)
theorem nodup_dropLast {l : List Nat} (h : l.Nodup) : l.dropLast.Nodup := h.sublist (List.dropLast_sublist l)
theorem last_split {l : List Nat} {c : Nat} (h : l.getLast? = some c) : l = l.dropLast ++ [c] := by
  have hne : l ≠ [] := fun z => by rw [z] at h; cases h
  rw [List.getLast?_eq_some_getLast hne] at h
  have := List.dropLast_concat_getLast hne
  rw [Option.some.inj h] at this
  exact this.symm
theorem AtI.next {p : Prog} {x : Str} {b c : Nat} {s : List Nat × List Nat} {bl : Blok} (h : AtI p x b s) (hL : p.Led) (hc : s.2.getLast? = some c) (hb : p.blocks[c]? = some bl) (hu : useL x (linesOf bl) = false) : AtI p x b (nextS x bl s) ∧ meaU p (nextS x bl s) < meaU p s := by
  have hs := last_split hc
  have hne : s.2 ≠ [] := fun z => by rw [z] at hc; cases hc
  have hcm : c ∈ s.2 := by rw [hs]; simp
  have hc1 : c ∈ s.1 := h.st.2.2 c hcm
  have mp := mea_pop (p := p) hne
  have hblm := List.mem_of_getElem? hb
  have out : ∀ k, k ∉ s.2.dropLast → k = c ∨ k ∉ s.2 := fun k hk => by
    by_cases e : k = c
    · exact .inl e
    · refine .inr fun z => ?_
      rw [hs] at z
      rcases List.mem_append.mp z with z | z
      · exact hk z
      · exact e (by simpa using z)
  unfold nextS
  by_cases hsi : setsIn x bl = true
  · rw [if_pos hsi]
    refine ⟨⟨h.st.pop, nodup_dropLast h.wn, h.bm, h.path, fun k h1 h2 bl' hbl' => ?_⟩, by omega⟩
    rcases out k h2 with rfl | h2
    · rw [hb] at hbl'
      cases hbl'
      exact ⟨hu, fun z => by rw [hsi] at z; cases z⟩
    · exact h.don k h1 h2 bl' hbl'
  · rw [if_neg hsi]
    have hsf : setsIn x bl = false := Bool.not_eq_true _ ▸ hsi
    have P := pushed_all bl.2.led (s.1, s.2.dropLast)
    obtain ⟨S2, m2⟩ := h.st.pop.pushes (hL.led bl hblm)
    refine ⟨⟨S2, P.nod (nodup_dropLast h.wn) h.st.pop.2.2, P.old _ h.bm, fun k hk lk => ?_, fun k h1 h2 bl' hbl' => ?_⟩, by omega⟩
    · rcases P.fro k hk with hk | hk
      · exact h.path k hk lk
      · exact h.path c hc1 (.on hb hsf hk lk)
    · obtain ⟨h3, h4⟩ := P.wai k h1 h2
      rcases out k h4 with rfl | h5
      · rw [hb] at hbl'
        cases hbl'
        exact ⟨hu, fun _ j hj => P.new j hj⟩
      · obtain ⟨a1, a2⟩ := h.don k h3 h5 bl' hbl'
        exact ⟨a1, fun z j hj => P.old j (a2 z j hj)⟩
theorem AtI.fin {p : Prog} {x : Str} {b : Nat} {s : List Nat × List Nat} (h : AtI p x b s) (he : s.2 = []) : ¬ Live p x b := by
  have all : ∀ c, Live p x c → c ∉ s.1 := by
    intro c l
    induction l with
    | use hb hu =>
      intro hc
      have := (h.don _ hc (by rw [he]; simp) _ hb).1
      rw [hu] at this
      cases this
    | on hb hs hk _ ih =>
      intro hc
      exact ih ((h.don _ hc (by rw [he]; simp) _ hb).2 hs _ hk)
  exact fun l => all b l h.bm
end DL
namespace DL
open PySem PySem.Spec PyProof.Rows L2
end DL
namespace DL
open PySem PySem.Spec PyProof.Rows L2
/-! blocks in a row -/
def rowsRow (k att : Nat) : List Row := (if k = att then [.set "x" "add" (.wo 1) (.wo 2)] else []) ++ (if k < 5 then [] else [.tell (.nm "x")])
def ExRow (o : List Nat) (k : Nat) (e : Exit) : Prop := (k < 5 ∧ ∃ n, o[k + 1]? = some n ∧ (e = .go n ∨ e = .iff (.wo 7) n n)) ∨ (k = 5 ∧ e = .fin)
structure InRow (ps : List Str) (pr : Prog) (o : List Nat) (att : Nat) : Prop where
  ps : pr.params = ps
  perm : o.Perm (List.range 6)
  hd : o.head? = some 0
  len : pr.blocks.length = 6
  blk : ∀ k b, o[k]? = some b → ∃ e, pr.blocks[b]? = some (rowsRow k att, e) ∧ ExRow o k e
end DL
namespace DL
open PySem PySem.Spec PyProof.Rows L2
theorem InRow.at_ {ps : List Str} {pr : Prog} {o : List Nat} {att : Nat} (h : InRow ps pr o att) {bl : Blok} (hb : bl ∈ pr.blocks) : ∃ k e, k < 6 ∧ bl = (rowsRow k att, e) ∧ ExRow o k e := by
  obtain ⟨b, hb⟩ := List.getElem?_of_mem hb
  have hbl := (List.getElem?_eq_some_iff.mp hb).1
  rw [h.len] at hbl
  have : b ∈ o := h.perm.symm.subset (List.mem_range.mpr hbl)
  obtain ⟨k, hk⟩ := List.getElem?_of_mem this
  obtain ⟨e, h1, h2⟩ := h.blk k b hk
  rw [hb] at h1
  have hk6 := (List.getElem?_eq_some_iff.mp hk).1
  rw [h.perm.length_eq, List.length_range] at hk6
  exact ⟨k, e, hk6, Option.some.inj h1, h2⟩
theorem rowsRow_mem {k att : Nat} {r : Row} (h : r ∈ rowsRow k att) : r = .set "x" "add" (.wo 1) (.wo 2) ∨ r = .tell (.nm "x") := by
  unfold rowsRow at h
  rcases List.mem_append.mp h with h | h
  · split at h
    · exact .inl (by simpa using h)
    · cases h
  · split at h
    · cases h
    · exact .inr (by simpa using h)
theorem InRow.names {ps : List Str} {pr : Prog} {o : List Nat} {att : Nat} (h : InRow ps pr o att) {z : Str} (hz : z ∈ pr.names) : z ∈ ps ++ [("x" : Str)] := by
  unfold Prog.names at hz
  rcases List.mem_append.mp hz with hz | hz
  · rw [h.ps] at hz
    exact List.mem_append.mpr (.inl hz)
  · refine List.mem_append.mpr (.inr ?_)
    obtain ⟨bl, hbl, hz⟩ := mem_flat.mp hz
    obtain ⟨k, e, _, rfl, hx⟩ := h.at_ hbl
    unfold blokN at hz
    rcases List.mem_append.mp hz with hz | hz
    · obtain ⟨r, hr, hz⟩ := mem_flat.mp hz
      rcases rowsRow_mem hr with rfl | rfl
      · exact hz
      · exact hz
    · rcases hx with ⟨_, n, _, rfl | rfl⟩ | ⟨_, rfl⟩
      · cases hz
      · cases hz
      · cases hz
end DL
namespace DL
open PySem PySem.Spec PyProof.Rows L2
end DL
namespace DL
open PySem PySem.Spec PyProof.Rows L2
/-! names of ports -/
def numS (k : Nat) : Str := Str.ofString (toString (k : Int))
def boxS (k : Nat) : Str := "box" ++ numS k
def outS (k : Nat) : Str := "out" ++ numS k
def inS (k : Nat) : Str := "in" ++ numS k
def startS (k : Nat) : Str := "start" ++ numS k
def fromsL (b d : Nat) : List Str := ([("num" : Str)] ++ (List.range b).map boxS) ++ (List.range d).map outS
def insL (d : Nat) : List Str := (List.range d).flatMap fun k => [inS k, startS k]
def tosL (b d : Nat) : List Str := ((List.range b).map boxS ++ insL d) ++ [("tell" : Str), "go", "end"]
abbrev deedsL : List Str := ["add", "less", "times", "both", "odd", "same", "under"]
theorem numS_tab : (List.range 200).all (fun k => decide ((numS k).length ≤ 3)) = true := by decide +kernel
theorem numS_len {k : Nat} (h : k < 200) : (numS k).length ≤ 3 := of_decide_eq_true (List.all_eq_true.mp numS_tab k (List.mem_range.mpr h))
/-! some of a list -/
def SomeOf (ts xs : List Str) : Prop := xs ≠ [] ∧ ∃ ys, ys.Sublist ts ∧ xs.Perm ys
theorem SomeOf.mem {ts xs : List Str} (h : SomeOf ts xs) : ∀ x ∈ xs, x ∈ ts := fun x hx => by
  obtain ⟨_, ys, h1, h2⟩ := h
  exact h1.subset (h2.mem_iff.mp hx)
theorem SomeOf.len {ts xs : List Str} (h : SomeOf ts xs) : xs.length ≤ ts.length := by
  obtain ⟨_, ys, h1, h2⟩ := h
  rw [h2.length_eq]
  exact h1.length_le
end DL
namespace DL
open PySem PySem.Spec PyProof.Rows L2
/-! repr of plain data: what it comes to -/
end DL
namespace DL
open PySem PySem.Spec PyProof.Rows L2
/-! machines -/
structure Mach where
  lag : Nat
  boxes : Nat
  doers : List (Nat × List Str)
  ways : List (List Str × List Str)
def doerD (d : Nat × List Str) : D := .tup [.int d.1, strsD d.2]
def wayD (w : List Str × List Str) : D := .tup [strsD w.1, strsD w.2]
def Mach.d (m : Mach) : D := .tup [.int m.lag, .int m.boxes, .tup (m.doers.map doerD), .tup (m.ways.map wayD)]
def DoerOk (d : Nat × List Str) : Prop := 1 ≤ d.1 ∧ d.1 ≤ 4 ∧ SomeOf deedsL d.2
def WayOk (b n : Nat) (w : List Str × List Str) : Prop := SomeOf (fromsL b n) w.1 ∧ SomeOf (tosL b n) w.2
structure Mach.Ok (m : Mach) : Prop where
  lag : m.lag ≤ 3
  b1 : 1 ≤ m.boxes
  b2 : m.boxes ≤ 12
  d1 : 1 ≤ m.doers.length
  d2 : m.doers.length ≤ 4
  dk : ∀ d ∈ m.doers, DoerOk d
  w1 : 1 ≤ m.ways.length
  w2 : m.ways.length ≤ 6
  wk : ∀ w ∈ m.ways, WayOk m.boxes m.doers.length w
def StrsOk (ts : List Str) : Prop := ∀ t ∈ ts, PyData.strOk t = true ∧ t.length ≤ 20
theorem SomeOf.all {ts : List Str} (h : ts ≠ []) : SomeOf ts ts := ⟨h, ts, List.Sublist.refl _, List.Perm.refl _⟩
theorem SomeOf.rev {ts : List Str} (h : ts ≠ []) : SomeOf ts ts.reverse := ⟨by simpa using h, ts, List.Sublist.refl _, List.reverse_perm ts⟩
end DL
namespace DL
open PySem PySem.Spec PyProof.Rows L2
/-! texts joined -/
theorem sum_lens {k : Nat} : ∀ {ts : List Str}, (∀ t ∈ ts, t.length ≤ k) → (ts.map (·.length)).sum ≤ k * ts.length
  | [], _ => by simp
  | t :: ts, h => by
    rw [List.map_cons, List.sum_cons, List.length_cons, Nat.mul_add, Nat.mul_one]
    have h1 := h t (by simp)
    have h2 := sum_lens (ts := ts) fun x hx => h x (by simp [hx])
    omega
theorem tj_len {z : Str} {ts : List Str} {k : Nat} (h : ∀ t ∈ ts, t.length ≤ k) : (Txt.join z ts).length ≤ (k + z.length) * ts.length := by
  rw [TL.join_eq]
  refine Nat.le_trans (StrLaws.join_length_le z ts) ?_
  have := sum_lens h
  rw [Nat.add_mul]
  have e : ts.length * z.length = z.length * ts.length := Nat.mul_comm _ _
  omega
/-! a machine's text -/
def doerL (d : Nat × List Str) : Str := ((("doer " : Str) ++ numS d.1) ++ (" " : Str)) ++ Txt.join " " d.2
def wayL (w : List Str × List Str) : Str := ((("way " : Str) ++ Txt.join " " w.1) ++ (" to " : Str)) ++ Txt.join " " w.2
def lagL (m : Mach) : Str := ("lag " : Str) ++ numS m.lag
def boxesL (m : Mach) : Str := ("boxes " : Str) ++ numS m.boxes
def Mach.lines (m : Mach) : List Str := ([lagL m, boxesL m] ++ m.doers.map doerL) ++ m.ways.map wayL
/-- what the texts need of a machine -/
structure Mach.Fit (m : Mach) : Prop where
  lag : m.lag < 200
  b2 : m.boxes < 200
  d2 : m.doers.length ≤ 100
  dk : ∀ d ∈ m.doers, d.1 < 200 ∧ d.2 ≠ [] ∧ d.2.length ≤ 100 ∧ StrsOk d.2
  w2 : m.ways.length ≤ 100
  wk : ∀ w ∈ m.ways, w.1 ≠ [] ∧ w.2 ≠ [] ∧ w.1.length ≤ 100 ∧ w.2.length ≤ 100 ∧ StrsOk w.1 ∧ StrsOk w.2
theorem SomeOf.ok {ts xs : List Str} (h : SomeOf ts xs) (o : StrsOk ts) : StrsOk xs := fun t ht => o t (h.mem t ht)
theorem len20 {ts : List Str} (h : StrsOk ts) : ∀ t ∈ ts, t.length ≤ 20 := fun t ht => (h t ht).2
theorem tj_sz {ts : List Str} (h : StrsOk ts) (hl : ts.length ≤ 100) : (Txt.join (" " : Str) ts).length ≤ 2100 := by
  have h1 := tj_len (z := (" " : Str)) (len20 h)
  have h2 : (20 + (" " : Str).length) * ts.length ≤ (20 + (" " : Str).length) * 100 := Nat.mul_le_mul_left _ hl
  exact Nat.le_trans h1 h2
theorem doerL_len {d : Nat × List Str} (h1 : d.1 < 200) (h2 : d.2.length ≤ 100) (h3 : StrsOk d.2) : (doerL d).length ≤ 5000 := by
  unfold doerL
  have a := numS_len h1
  have b := tj_sz h3 h2
  have c : ("doer " : Str).length = 5 := rfl
  have c2 : (" " : Str).length = 1 := rfl
  simp only [strLen_append]
  omega
theorem wayL_len {w : List Str × List Str} (h1 : w.1.length ≤ 100) (h2 : w.2.length ≤ 100) (h3 : StrsOk w.1) (h4 : StrsOk w.2) : (wayL w).length ≤ 5000 := by
  unfold wayL
  have a := tj_sz h3 h1
  have b := tj_sz h4 h2
  have c : ("way " : Str).length = 4 := rfl
  have c2 : (" to " : Str).length = 4 := rfl
  simp only [strLen_append]
  omega
theorem Mach.Fit.len {m : Mach} (h : m.Fit) : ∀ t ∈ m.lines, t.length ≤ 5000 := by
  intro t ht
  unfold Mach.lines at ht
  rcases List.mem_append.mp ht with ht | ht
  · rcases List.mem_append.mp ht with ht | ht
    · simp only [List.mem_cons, List.not_mem_nil, or_false] at ht
      rcases ht with rfl | rfl
      · have := numS_len h.lag
        have c : ("lag " : Str).length = 4 := rfl
        unfold lagL
        rw [strLen_append]
        omega
      · have := numS_len h.b2
        have c : ("boxes " : Str).length = 6 := rfl
        unfold boxesL
        rw [strLen_append]
        omega
    · obtain ⟨d, hd, rfl⟩ := List.mem_map.mp ht
      obtain ⟨a, b, c, e⟩ := h.dk d hd
      exact doerL_len a c e
  · obtain ⟨w, hw, rfl⟩ := List.mem_map.mp ht
    obtain ⟨a, b, c, e, f, g⟩ := h.wk w hw
    exact wayL_len c e f g
end DL
namespace DL
open PySem PySem.Spec PyProof.Rows L2
/-! a machine shown -/
end DL
namespace DL
open PySem PySem.Spec PyProof.Rows L2
end DL
namespace DL
open PySem PySem.Spec PyProof.Rows L2
/-! moves -/
inductive Src where
  | num (w : Int) | box (k : Nat) | out (k : Nat)
inductive Goal where
  | box (k : Nat) | inn (k : Nat) | start (k : Nat) (s : Str) | tell | go (k : Nat) | fin
def Src.d : Src → D
  | .num w => .tup [.str "num", .int w]
  | .box k => .tup [.str "box", .int k]
  | .out k => .tup [.str "out", .int k]
def Goal.d : Goal → D
  | .box k => .tup [.str "box", .int k]
  | .inn k => .tup [.str "in", .int k]
  | .start k s => .tup [.str "start", .int k, .str s]
  | .tell => .tup [.str "tell"]
  | .go k => .tup [.str "go", .int k]
  | .fin => .tup [.str "end"]
def Src.Ok (m : Mach) : Src → Prop
  | .num w => 0 ≤ w ∧ w < 65536
  | .box k => k < m.boxes
  | .out k => k < m.doers.length
def Goal.Ok (m : Mach) (st : Nat) : Goal → Prop
  | .box k => k < m.boxes
  | .inn k => k < m.doers.length
  | .start k s => ∃ d, m.doers[k]? = some d ∧ s ∈ d.2
  | .tell => True
  | .go k => k < st
  | .fin => True
def moveD (s : Src) (g : Goal) : D := .tup [s.d, g.d]
/-- numbers small enough to be told -/
def Src.Few : Src → Prop
  | .num _ => True
  | .box k => k < 200
  | .out k => k < 200
def Goal.Few : Goal → Prop
  | .box k => k < 200
  | .inn k => k < 200
  | .start k _ => k < 200
  | _ => True
/-! a move drawn -/
structure Move where
  s : Src
  g : Goal
def Move.d (m : Move) : D := moveD m.s m.g
def Move.Ok (m : Mach) (st : Nat) (v : Move) : Prop := v.s.Ok m ∧ v.g.Ok m st
/-! ways that join -/
def natT (ks : List Nat) : D := .tup (ks.map natD)
end DL
namespace DL
open PySem PySem.Spec PyProof.Rows L2
/-! things of any kind, by value -/
/-! a thing of any kind -/
/-! a tuple of places bent -/
end DL
namespace DL
open PySem PySem.Spec PyProof.Rows L2
/-! moves over ways -/
/-! some ways -/
/-! for each move its ways -/
end DL
namespace DL
open PySem PySem.Spec PyProof.Rows L2
/-! whether moves are carried, tried one after the other -/
/-! moves drawn -/
end DL
namespace DL
open PySem PySem.Spec PyProof.Rows L2
theorem all_map {ds : List D} {f : D → Bool} : (ds.map f).all id = ds.all f := by
  rw [List.all_map]
  rfl
end DL
namespace DL
open PySem PySem.Spec PyProof.Rows L2
theorem ne_rl {xs ys : List D} {G : Sto} {Q : DQ} {n : Nat} (hx : okDs n xs = true) (hy : okDs n ys = true) (hn : n ≤ 63) (q : Q (.bl (!PyData.eqvAll (pyDs xs) (pyDs ys))) G) : neD (.rl xs) (.rl ys) G Q := by
  cases ys with
  | nil =>
    rw [eqvAll_nil] at q
    exact q
  | cons y ys => exact ⟨_, _, .rl (okDs_dd hx).1, .rl (okDs_dd hy).1, shaped_of (d := .rl xs) (n := n + 1) hx (by omega), shaped_of (d := .rl (y :: ys)) (n := n + 1) hy (by omega), q⟩
end DL
namespace DL
open PySem PySem.Spec PyProof.Rows L2
/-! what shows too few ways: no ways carry all moves then -/
end DL
namespace DL
open PySem PySem.Spec PyProof.Rows L2
end DL
namespace DL
open PySem PySem.Spec PyProof.Rows L2
/-! a machine, drawn the other way -/
theorem SomeOf.reverse {ts xs : List Str} (h : SomeOf ts xs) : SomeOf ts xs.reverse := by
  obtain ⟨h1, ys, h2, h3⟩ := h
  exact ⟨by simpa using h1, ys, h2, (List.reverse_perm xs).trans h3⟩
end DL
namespace DL
open PySem PySem.Spec PyProof.Rows L2
/-! at the begin only params are alive -/
end DL
namespace DL
open PySem PySem.Spec PyProof.Rows L2
/-! boxes at the begin -/
abbrev Home := Str × Nat
structure HomesOk (nb : Nat) (hs : List Home) : Prop where
  nd : (hs.map (·.2)).Nodup
  lt : ∀ h ∈ hs, h.2 < nb
  len : hs.length ≤ 100
theorem HomesOk.inj {nb : Nat} {hs : List Home} (h : HomesOk nb hs) {a b : Home} (ha : a ∈ hs) (hb : b ∈ hs) (e : a.2 = b.2) : a = b := by
  obtain ⟨i, hi⟩ := List.getElem?_of_mem ha
  obtain ⟨j, hj⟩ := List.getElem?_of_mem hb
  have e1 : (hs.map (·.2))[i]? = some a.2 := by rw [List.getElem?_map, hi]; rfl
  have e2 : (hs.map (·.2))[j]? = some b.2 := by rw [List.getElem?_map, hj]; rfl
  have hil := (List.getElem?_eq_some_iff.mp e1).1
  have : i = j := (List.getElem?_inj hil h.nd).mp (by rw [e1, e2, e])
  subst this
  rw [hi] at hj
  exact Option.some.inj hj
/-- the boxes filled for those homes for which P stands -/
structure BoxP (nb : Nat) (ps : List Str) (ws : List Nat) (hs : List Home) (P : Home → Prop) (L : List D) : Prop where
  len : L.length = nb
  at_ : ∀ h ∈ hs, P h → ∀ (k n : Nat), ps[k]? = some h.1 → ws[k]? = some n → L[h.2]? = some (natD n)
  no : ∀ b, b < nb → (∀ h ∈ hs, P h → h.2 ≠ b) → L[b]? = some .non
section
variable {nb : Nat} {ps : List Str} {ws : List Nat} {hs : List Home} {P P' : Home → Prop} {L L' : List D}
theorem BoxP.zero (h : ∀ x ∈ hs, ¬ P x) : BoxP nb ps ws hs P (List.replicate nb .non) :=
  ⟨by simp, fun x hx hp => (h x hx hp).elim, fun b hb _ => by rw [List.getElem?_replicate, if_pos hb]⟩
theorem BoxP.step (h : BoxP nb ps ws hs P L) (H : HomesOk nb hs) (hnd : ps.Nodup) {x : Home} (hx : x ∈ hs) {k n : Nat} (hk : ps[k]? = some x.1) (hn : ws[k]? = some n) : BoxP nb ps ws hs (fun y => P y ∨ y = x) (L.set x.2 (natD n)) := by
  have hxl : x.2 < L.length := by rw [h.len]; exact H.lt x hx
  refine ⟨by rw [List.length_set]; exact h.len, fun y hy hp k' n' hk' hn' => ?_, fun b hb hno => ?_⟩
  · by_cases e : y = x
    · subst e
      have : k = k' := (List.getElem?_inj (List.getElem?_eq_some_iff.mp hk).1 hnd).mp (by rw [hk, hk'])
      subst this
      rw [hn] at hn'
      cases hn'
      rw [List.getElem?_set_self hxl]
    · have hne : x.2 ≠ y.2 := fun z => e (H.inj hy hx z.symm)
      rw [List.getElem?_set_ne hne]
      rcases hp with hp | hp
      · exact h.at_ y hy hp k' n' hk' hn'
      · exact (e hp).elim
  · have hne : x.2 ≠ b := hno x hx (.inr rfl)
    rw [List.getElem?_set_ne hne]
    exact h.no b hb fun y hy hp => hno y hy (.inl hp)
theorem BoxP.uniq (h : BoxP nb ps ws hs P L) (h' : BoxP nb ps ws hs P L') (hP : ∀ x ∈ hs, P x → x.1 ∈ ps) (hl : ws.length = ps.length) : L = L' := by
  refine List.ext_getElem? fun b => ?_
  by_cases hb : b < nb
  · by_cases e : ∀ x ∈ hs, P x → x.2 ≠ b
    · rw [h.no b hb e, h'.no b hb e]
    · obtain ⟨x, hx, hp, rfl⟩ : ∃ x, x ∈ hs ∧ P x ∧ x.2 = b := by
        refine Classical.byContradiction fun z => e fun x hx hp he => z ⟨x, hx, hp, he⟩
      obtain ⟨k, hk⟩ := List.getElem?_of_mem (hP x hx hp)
      have hkl := (List.getElem?_eq_some_iff.mp hk).1
      obtain ⟨n, hn⟩ : ∃ n, ws[k]? = some n := ⟨_, List.getElem?_eq_getElem (by rw [hl]; exact hkl)⟩
      rw [h.at_ x hx hp k _ hk hn, h'.at_ x hx hp k _ hk hn]
  · rw [List.getElem?_eq_none (by rw [h.len]; omega), List.getElem?_eq_none (by rw [h'.len]; omega)]
theorem BoxP.plain (h : BoxP nb ps ws hs P L) (hP : ∀ x ∈ hs, P x → x.1 ∈ ps) (hl : ws.length = ps.length) (hb : nb ≤ 1000) : PlainD 3 (.tup L) := by
  refine ⟨by rw [h.len]; exact hb, fun d hd => ?_⟩
  obtain ⟨b, hb⟩ := List.getElem?_of_mem hd
  have hbl := (List.getElem?_eq_some_iff.mp hb).1
  rw [h.len] at hbl
  by_cases e : ∀ x ∈ hs, P x → x.2 ≠ b
  · rw [h.no b hbl e] at hb
    cases hb
    exact trivial
  · obtain ⟨x, hx, hp, rfl⟩ : ∃ x, x ∈ hs ∧ P x ∧ x.2 = b := by
      refine Classical.byContradiction fun z => e fun x hx hp he => z ⟨x, hx, hp, he⟩
    obtain ⟨k, hk⟩ := List.getElem?_of_mem (hP x hx hp)
    have hkl := (List.getElem?_eq_some_iff.mp hk).1
    obtain ⟨n, hn⟩ : ∃ n, ws[k]? = some n := ⟨_, List.getElem?_eq_getElem (by rw [hl]; exact hkl)⟩
    rw [h.at_ x hx hp k _ hk hn] at hb
    cases hb
    exact trivial
end
end DL
namespace DL
open PySem PySem.Spec PyProof.Rows L2
/-! papers -/
end DL
namespace DL
open PySem PySem.Spec PyProof.Rows L2
/-! what names have -/
abbrev Held := List (Str × Nat)
def getH (hv : Held) (x : Str) : Option Nat := (hv.find? fun z => decide (z.1 = x)).map (·.2)
def putH (hv : Held) (x : Str) (n : Nat) : Held := if (hv.any fun z => decide (z.1 = x)) = true then hv.map (fun z => if z.1 = x then (z.1, n) else z) else hv ++ [(x, n)]
theorem putH_keys (hv : Held) (x : Str) (n : Nat) : (putH hv x n).map (·.1) = if x ∈ hv.map (·.1) then hv.map (·.1) else hv.map (·.1) ++ [x] := by
  have e : (hv.any fun z => decide (z.1 = x)) = decide (x ∈ hv.map (·.1)) := by
    rw [Bool.eq_iff_iff, decide_eq_true_eq, List.any_eq_true, List.mem_map]
    constructor
    · rintro ⟨z, hz, e⟩
      exact ⟨z, hz, of_decide_eq_true e⟩
    · rintro ⟨z, hz, e⟩
      exact ⟨z, hz, decide_eq_true e⟩
  unfold putH
  rw [e]
  by_cases h : x ∈ hv.map (·.1)
  · rw [if_pos (decide_eq_true h), if_pos h, List.map_map]
    refine List.map_congr_left fun z _ => ?_
    show (if z.1 = x then (z.1, n) else z).1 = z.1
    split <;> rfl
  · rw [if_neg (by simpa using h), if_neg h, List.map_append]
    rfl
theorem putH_mem {hv : Held} {x y : Str} {n : Nat} : y ∈ (putH hv x n).map (·.1) ↔ y = x ∨ y ∈ hv.map (·.1) := by
  rw [putH_keys]
  split
  · rename_i h
    exact ⟨.inr, fun z => z.elim (fun e => e ▸ h) id⟩
  · rw [List.mem_append, List.mem_singleton]
    exact or_comm
def BelowH (hv : Held) : Prop := ∀ z ∈ hv, z.2 < 65536
theorem putH_below {hv : Held} (h : BelowH hv) {x : Str} {n : Nat} (hn : n < 65536) : BelowH (putH hv x n) := by
  intro z hz
  unfold putH at hz
  split at hz
  · obtain ⟨w, hw, rfl⟩ := List.mem_map.mp hz
    split
    · exact hn
    · exact h w hw
  · rcases List.mem_append.mp hz with hz | hz
    · exact h z hz
    · rw [List.mem_singleton.mp hz]
      exact hn
/-- what is kept of the names: each once, of these names, worths -/
structure HOkN (ts : List Str) (hv : Held) : Prop where
  nd : (hv.map (·.1)).Nodup
  sub : ∀ x ∈ hv.map (·.1), x ∈ ts
  bel : BelowH hv
theorem HOkN.put {ts : List Str} {hv : Held} (h : HOkN ts hv) {x : Str} (hx : x ∈ ts) {n : Nat} (hn : n < 65536) : HOkN ts (putH hv x n) := by
  refine ⟨?_, fun y hy => ?_, putH_below h.bel hn⟩
  · rw [putH_keys]
    split
    · exact h.nd
    · rename_i hh
      rw [List.nodup_append]
      exact ⟨h.nd, by simp, fun a ha b hb => by rw [List.mem_singleton.mp hb]; intro e; exact hh (e ▸ ha)⟩
  · rcases putH_mem.mp hy with rfl | hy
    · exact hx
    · exact h.sub y hy
theorem HOkN.len {ts : List Str} {hv : Held} (h : HOkN ts hv) : hv.length ≤ ts.length := by
  have := h.nd.length_le_of_subset (l₂ := ts) h.sub
  rwa [List.length_map] at this
end DL
namespace DL
open PySem PySem.Spec PyProof.Rows L2
/-! going row by row, in plain -/
def doneN (e : Str) (m n : Nat) : Nat := (doneF e m n).toNat
def worthOf (hv : Held) : One → Option Nat
  | .nm x => getH hv x
  | .wo n => some n
def doRow (s : Held × List Nat) : Row → Option (Held × List Nat)
  | .set x e a b => match worthOf s.1 a, worthOf s.1 b with
    | some m, some n => some (putH s.1 x (doneN e m n), s.2)
    | _, _ => none
  | .copy x a => (worthOf s.1 a).map fun m => (putH s.1 x m, s.2)
  | .tell a => (worthOf s.1 a).map fun m => (s.1, s.2 ++ [m])
def doRows : List Row → Held × List Nat → Option (Held × List Nat)
  | [], s => some s
  | r :: rs, s => (doRow s r).bind (doRows rs)
def wayOf (hv : Held) : Exit → Option (Nat × Option Nat)
  | .fin => some (0, none)
  | .go b => some (0, some b)
  | .iff a b c => (worthOf hv a).map fun n => if n = 0 then (1, some c) else (0, some b)
structure RS where
  hv : Held
  said : List Nat
  path : List (Nat × Nat)
  at_ : Option Nat
def goTh (bl : Blok) (s : Held × List Nat) : Option ((Held × List Nat) × Nat × Option Nat) := (doRows bl.1 s).bind fun s1 => (wayOf s1.1 bl.2).map fun w => (s1, w)
def stepT (p : Prog) (s : RS) : RS := match s.at_ with
  | none => s
  | some b => match p.blocks[b]? with
    | none => s
    | some bl => match goTh bl (s.hv, s.said) with
      | none => s
      | some (s1, w, nx) => ⟨s1.1, s1.2, s.path ++ [(b, w)], nx⟩
def start (p : Prog) (ws : List Nat) : RS := ⟨p.params.zip ws, [], [], some 0⟩
end DL
namespace DL
open PySem PySem.Spec PyProof.Rows L2
end DL
namespace DL
open PySem PySem.Spec PyProof.Rows L2
/-! the object -/
end DL
namespace DL
open PySem PySem.Spec PyProof.Rows L2
/-! __init__ -/
/-! plain_run -/
end DL
namespace DL
open PySem PySem.Spec PyProof.Rows L2
theorem ne_rlS {xs ys : List D} {G : Sto} {Q : DQ} {n : Nat} (e : xs = ys) (h : okDs n ys = true) (hn : n ≤ 63) (q : Q (.bl false) G) : neD (.rl xs) (.rl ys) G Q := by
  subst e
  refine ne_rl h h hn ?_
  rw [eqvs_refl]
  exact q
theorem ne_tupS {xs ys : List D} {G : Sto} {Q : DQ} {n : Nat} (e : xs = ys) (h : okDs n ys = true) (hn : n ≤ 63) (q : Q (.bl false) G) : neD (.tup xs) (.tup ys) G Q := by
  subst e
  refine ne_tup h h hn ?_
  rw [eqvs_refl]
  exact q
theorem nats_ok (ns : List Nat) (n : Nat) : okDs n (ns.map natD) = true := okDs_mem.mpr fun d hd => by
  obtain ⟨m, _, rfl⟩ := List.mem_map.mp hd
  cases n <;> rfl
/-! _law_block_told -/
end DL
namespace K21
open PySem PySem.Spec PyProof.Rows L2 DL
-- l_pen (K56)
abbrev sp_l_pen := spPen
theorem len_l_pen : LenS sp_l_pen 1 := by rintro ds G Q xq ⟨ns, rfl, _⟩; rfl
theorem body_l_pen : Bod [] [] c_l_pen 2 sp_l_pen := body_pen
-- l_draw (K36)
abbrev sp_l_draw := spDraw
theorem len_l_draw : LenS sp_l_draw 2 := by rintro ds G Q xq ⟨p, s, m, G0, rfl, _⟩; rfl
theorem body_l_draw : Bod [] [] c_l_draw 6 sp_l_draw := body_drawA
def N14 : List Str := ["NoMachine", "NoText", "NoCarry", "NoCode", "Clash", "TooMany", "NoProgram", "NoPaper", "NoBox", "Wrong", "NoSkill", "NoWay", "Lacks", "NoRow"]
def kindB (x : Str) (k : Nat) : Bool := decide (x = N14.getD k "")
def sp_l_kinds : DSp := fun ds G Q _ => ∃ (x : Str) (ks : List Str) (vs : List D), ds = [.exc x ks vs] ∧ Q (.rl (((List.range 14).filter (kindB x)).map natD)) G
theorem len_l_kinds : LenS sp_l_kinds 1 := by rintro ds G Q xq ⟨x, ks, vs, rfl, _⟩; rfl
set_option maxHeartbeats 0 in
theorem body_l_kinds : Bod [] [] c_l_kinds 3 sp_l_kinds := by
  rintro ds G Q xq ⟨x, ks, vs, rfl, q⟩
  refine ⟨sz3 4, sz3 4, sz3 8, sz3 4, sz3 12, sz3 2, sz3 14, ?_⟩
  refine ⟨by decide, by decide, ?_⟩
  show lcS _ _ _ _ _ _ _ _ _
  refine lc_filtA natD (kindB x) natD (xs := List.range 14) rfl (by decide) trivial (fun i k hk K N ha hb => ?_) q
  have hk14 : k < 14 := List.mem_range.mp (List.mem_of_getElem? hk)
  refine ⟨.bl (kindB x k), atI_nat (xs := N14.map fun y => D.bl (decide (x = y))) ?_, ?_⟩
  · rw [List.getElem?_map, List.getElem?_eq_getElem (show k < N14.length from hk14)]
    unfold kindB
    rw [List.getD_eq_getElem?_getD, List.getElem?_eq_getElem (show k < N14.length from hk14)]
    rfl
  · cases h : kindB x k with
    | true => exact ha h
    | false => exact hb h
structure Row where
  x : Str
  fl : List Str
  ds : List D
def Row.d (r : Row) : D := .tup [asExc ⟨r.x, fsD r.fl r.ds⟩, .tup r.ds, .tup r.ds]
def RowsOk (rows : List Row) : Prop := rows.map (·.x) = N14 ∧ ∀ r ∈ rows, okDs 3 r.ds = true
def sp_l_made : DSp := fun ds G Q _ => ∃ (p : Addr) (s : Pn) (G0 : Sto), ds = [.ref p] ∧ G = put G0 p s.c ∧ ∀ (rows : List Row) (s' : Pn), RowsOk rows → Q (.rl (rows.map Row.d)) (put G0 p s'.c)
theorem len_l_made : LenS sp_l_made 1 := by rintro ds G Q xq ⟨p, s, G0, rfl, _⟩; rfl
def words8 : List Str := ["machine", "doer", "way", "code", "empty", "go", "beyond", "program"]
theorem words8_ok : ∀ w ∈ words8, PyData.strOk w = true := by decide +kernel
def deeds3 : List Str := ["add", "under", "same"]
def begs3 : List Str := ["num", "box0", "out2"]
def ends3 : List Str := ["tell", "in1", "box7"]
theorem three_ok : (∀ w ∈ deeds3, PyData.strOk w = true) ∧ (∀ w ∈ begs3, PyData.strOk w = true) ∧ (∀ w ∈ ends3, PyData.strOk w = true) := by decide +kernel
def somes4 : List (List Nat) := [[0], [0, 2], [1, 3, 4], [5]]
theorem pick_get {L : List Str} {k : Nat} (h : k < L.length) : ∃ w, w ∈ L ∧ atI (L.map D.str) (k : Int) = some (.str w) := ⟨L[k], List.getElem_mem h, atI_nat (by rw [List.getElem?_map, List.getElem?_eq_getElem h]; rfl)⟩
theorem mod_get {L : List Str} (hL : L.length = 3) (n : Nat) : ∃ w, w ∈ L ∧ atI (L.map D.str) ((n : Int) % 3) = some (.str w) := by
  have e : (n : Int) % 3 = ((n % 3 : Nat) : Int) := by omega
  rw [e]
  exact pick_get (by omega)
def fld (x : Str) (fl : List Str) (ds : List D) (f : Str) : Option D := match asExc ⟨x, fsD fl ds⟩ with
  | .exc _ ks vs => (ks.zip vs).lookup f
  | _ => none
theorem f1 {x f : Str} {a : D} : fld x [f] [a] f = some a := by
  show List.lookup f [(f, a)] = some a
  rw [List.lookup_cons, beq_self_eq_true]
theorem f2a {x f g : Str} {a b : D} (h : (f == g) = false := by decide +kernel) : fld x [f, g] [a, b] f = some a := by
  show List.lookup f [(g, b), (f, a)] = some a
  rw [List.lookup_cons, h, List.lookup_cons, beq_self_eq_true]
theorem f2b {x f g : Str} {a b : D} : fld x [f, g] [a, b] g = some b := by
  show List.lookup g [(g, b), (f, a)] = some b
  rw [List.lookup_cons, beq_self_eq_true]
theorem f3a {x f g k : Str} {a b c : D} (h : (f == g) = false := by decide +kernel) (h2 : (f == k) = false := by decide +kernel) : fld x [f, g, k] [a, b, c] f = some a := by
  show List.lookup f [(k, c), (g, b), (f, a)] = some a
  rw [List.lookup_cons, h2, List.lookup_cons, h, List.lookup_cons, beq_self_eq_true]
theorem f3b {x f g k : Str} {a b c : D} (h : (g == k) = false := by decide +kernel) : fld x [f, g, k] [a, b, c] g = some b := by
  show List.lookup g [(k, c), (g, b), (f, a)] = some b
  rw [List.lookup_cons, h, List.lookup_cons, beq_self_eq_true]
theorem f3c {x f g k : Str} {a b c : D} : fld x [f, g, k] [a, b, c] k = some c := by
  show List.lookup k [(k, c), (g, b), (f, a)] = some c
  rw [List.lookup_cons, beq_self_eq_true]
def Fr (B G : Sto) : Prop := ∀ b c, B b = some c → G b = some c
theorem Fr.new {B G : Sto} {a : Addr} {c : Cl} (h : Fr B G) (n : G a = none) : Fr B (put G a c) := fun b d e => by
  have n1 : b ≠ a := fun z => by
    have := h b d e
    rw [z, n] at this
    cases this
  rw [put_ne n1]
  exact h b d e
theorem Fr.upd {B G : Sto} {a : Addr} {c : Cl} (h : Fr B G) (n : B a = none) : Fr B (put G a c) := fun b d e => by
  have n1 : b ≠ a := fun z => by rw [z, n] at e; cases e
  rw [put_ne n1]
  exact h b d e
theorem Fr.none {B G : Sto} {a : Addr} (h : Fr B G) (n : G a = none) : B a = none := by
  cases e : B a with
  | none => rfl
  | some c =>
    have := h a c e
    rw [n] at this
    cases this
/-- what was drawn -/
structure Drw where
  wd : Str
  de : Str
  be : Str
  en : Str
  b : Nat
  c : Nat
  sm : List Nat
structure Drw.Ok (w : Drw) : Prop where
  wd : w.wd ∈ words8
  de : w.de ∈ deeds3
  be : w.be ∈ begs3
  en : w.en ∈ ends3
def Drw.rows (w : Drw) : List Row := [⟨"NoMachine", ["word", "number"], [.str w.wd, natD w.b]⟩, ⟨"NoText", ["line"], [natD w.b]⟩, ⟨"NoCarry", ["moves"], [natT w.sm]⟩, ⟨"NoCode", ["word", "stretch", "beat"], [.str w.wd, natD w.b, natD w.c]⟩, ⟨"Clash", ["word"], [.str w.wd]⟩, ⟨"TooMany", [], []⟩, ⟨"NoProgram", ["word", "block", "row"], [.str w.wd, natD w.c, natD w.b]⟩, ⟨"NoPaper", [], []⟩, ⟨"NoBox", ["many"], [natD w.b]⟩, ⟨"Wrong", ["block"], [natD w.c]⟩, ⟨"NoSkill", ["deed"], [.str w.de]⟩, ⟨"NoWay", ["begin", "end"], [.str w.be, .str w.en]⟩, ⟨"Lacks", ["word"], [.str w.wd]⟩, ⟨"NoRow", [], []⟩]
def Drw.r (w : Drw) (k : Nat) : List D := (w.rows.take k).map Row.d
theorem okA {n : Nat} {d : D} {ds : List D} (h : okD n d = true) (k : okDs n ds = true) : okDs n (d :: ds) = true := by
  unfold okDs
  rw [h, k]
  rfl
theorem okN {n : Nat} : okDs n [] = true := by unfold okDs; rfl
theorem okS {n : Nat} {s : Str} (h : PyData.strOk s = true) : okD n (.str s) = true := by
  unfold okD
  exact h
theorem okI {n : Nat} {i : Int} : okD n (.int i) = true := by unfold okD; rfl
theorem rows_ok {w : Drw} (h : w.Ok) : RowsOk w.rows := by
  have h1 := words8_ok _ h.wd
  have h2 := three_ok.1 _ h.de
  have h3 := three_ok.2.1 _ h.be
  have h4 := three_ok.2.2 _ h.en
  refine ⟨rfl, fun r hr => ?_⟩
  simp only [Drw.rows, List.mem_cons, List.not_mem_nil, or_false] at hr
  have hT : okD 3 (natT w.sm) = true := by unfold natT okD; exact nats_ok _ 2
  rcases hr with rfl | rfl | rfl | rfl | rfl | rfl | rfl | rfl | rfl | rfl | rfl | rfl | rfl | rfl
  · exact okA (okS h1) (okA okI okN)
  · exact okA okI okN
  · exact okA hT okN
  · exact okA (okS h1) (okA okI (okA okI okN))
  · exact okA (okS h1) okN
  · exact okN
  · exact okA (okS h1) (okA okI (okA okI okN))
  · exact okN
  · exact okA okI okN
  · exact okA okI okN
  · exact okA (okS h2) okN
  · exact okA (okS h3) (okA (okS h4) okN)
  · exact okA (okS h1) okN
  · exact okN
section
variable {Q : DQ} {xq : XQ} {p : Addr} {B : Sto} {w : Drw}
def env (w : Drw) (p : Addr) (x3 : Option D) (es : List (Option D)) : Ev := [some (.ref p), some (.str w.wd), some (natT w.sm), x3, some (.str w.wd), some (natD w.b), some (natD w.c), some (.str w.de), some (.str w.be), some (.str w.en)] ++ es
set_option maxHeartbeats 0 in
theorem t12 (q : Q (.rl (w.rows.map Row.d)) B) {G : Sto} {a : Addr} (hF : Fr B G) (ha : G a = some (.lst (w.r 11))) (y1 y2 y3 y4 y5 y6 y7 y8 y9 : Option D) :
    denB [spDraw] [] (c_l_made.drop 12) (Fin0 (WQ Q) (WX xq)) [some (.ref p), some (.str w.wd), some (natT w.sm), some (.ref a), some (.str w.wd), some (natD w.b), some (natD w.c), some (.str w.de), some (.str w.be), some (.str w.en), y1, y2, y3, y4, y5, y6, y7, y8, y9, (some (asExc ⟨"NoWay", fsD ["begin", "end"] [.str w.be, .str w.en]⟩)), (some (asExc ⟨"Lacks", fsD ["word"] [.str w.wd]⟩))] G := by
  refine ⟨_, f2a (x := "NoWay") (f := "begin") (g := "end") (a := .str w.be) (b := .str w.en), ?_⟩
  refine ⟨_, f2b (x := "NoWay") (f := "begin") (g := "end") (a := .str w.be) (b := .str w.en), sz3 2, sz3 2, sz3 3, ?_⟩
  refine ⟨_, f1 (x := "Lacks") (f := "word") (a := .str w.wd), sz3 1, sz3 1, sz3 3, ?_⟩
  refine ⟨rfl, sz3 0, sz3 0, sz3 3, sz3 3, ?_⟩
  exact ⟨_, ha, sz3 14, ⟨B, hF, q⟩⟩
set_option maxHeartbeats 0 in
theorem t11 (q : Q (.rl (w.rows.map Row.d)) B) {G : Sto} {a : Addr} (hF : Fr B G) (ha : G a = some (.lst (w.r 8))) (y1 y2 y3 y4 y5 y6 : Option D) :
    denB [spDraw] [] (c_l_made.drop 11) (Fin0 (WQ Q) (WX xq)) [some (.ref p), some (.str w.wd), some (natT w.sm), some (.ref a), some (.str w.wd), some (natD w.b), some (natD w.c), some (.str w.de), some (.str w.be), some (.str w.en), y1, y2, y3, y4, y5, y6, (some (asExc ⟨"NoBox", fsD ["many"] [natD w.b]⟩)), (some (asExc ⟨"Wrong", fsD ["block"] [natD w.c]⟩)), (some (asExc ⟨"NoSkill", fsD ["deed"] [.str w.de]⟩)), (some (asExc ⟨"NoWay", fsD ["begin", "end"] [.str w.be, .str w.en]⟩)), (some (asExc ⟨"Lacks", fsD ["word"] [.str w.wd]⟩))] G := by
  refine ⟨_, f1 (x := "NoBox") (f := "many") (a := natD w.b), sz3 1, sz3 1, sz3 3, ?_⟩
  refine ⟨_, f1 (x := "Wrong") (f := "block") (a := natD w.c), sz3 1, sz3 1, sz3 3, ?_⟩
  refine ⟨_, f1 (x := "NoSkill") (f := "deed") (a := .str w.de), sz3 1, sz3 1, sz3 3, sz3 3, fun a2 n2 => ?_⟩
  have d2 : a ≠ a2 := fun z => by rw [← z, ha] at n2; cases n2
  refine ⟨w.r 8, _, by rw [put_ne d2]; exact ha, put_same, sz3 11, fun a3 n3 => ?_⟩
  exact t12 q ((hF.new n2).new n3) put_same _ _ _ _ _ _ _ _ _
set_option maxHeartbeats 0 in
theorem t9 (q : Q (.rl (w.rows.map Row.d)) B) {G : Sto} {a : Addr} (hF : Fr B G) (ha : G a = some (.lst (w.r 6))) (y1 y2 y3 y4 y5 y7 y8 y9 y10 : Option D) :
    denB [spDraw] [] (c_l_made.drop 9) (Fin0 (WQ Q) (WX xq)) [some (.ref p), some (.str w.wd), some (natT w.sm), some (.ref a), some (.str w.wd), some (natD w.b), some (natD w.c), some (.str w.de), some (.str w.be), some (.str w.en), y1, y2, y3, y4, y5, (some (asExc ⟨"NoProgram", fsD ["word", "block", "row"] [.str w.wd, natD w.c, natD w.b]⟩)), (some (asExc ⟨"NoBox", fsD ["many"] [natD w.b]⟩)), y7, y8, y9, y10] G := by
  refine ⟨_, f3a (x := "NoProgram") (f := "word") (g := "block") (k := "row") (a := .str w.wd) (b := natD w.c) (c := natD w.b), ?_⟩
  refine ⟨_, f3b (x := "NoProgram") (f := "word") (g := "block") (k := "row") (a := .str w.wd) (b := natD w.c) (c := natD w.b), ?_⟩
  refine ⟨_, f3c (x := "NoProgram") (f := "word") (g := "block") (k := "row") (a := .str w.wd) (b := natD w.c) (c := natD w.b), sz3 3, sz3 3, sz3 3, ?_⟩
  refine ⟨rfl, sz3 0, sz3 0, sz3 3, sz3 2, fun a2 n2 => ?_⟩
  have d2 : a ≠ a2 := fun z => by rw [← z, ha] at n2; cases n2
  refine ⟨w.r 6, _, by rw [put_ne d2]; exact ha, put_same, sz3 8, fun a3 n3 => ?_⟩
  refine ⟨rfl, rfl, rfl, rfl, sz3 4, rfl, ?_⟩
  exact t11 q ((hF.new n2).new n3) put_same _ _ _ _ _ _
set_option maxHeartbeats 0 in
theorem t7 (q : Q (.rl (w.rows.map Row.d)) B) {G : Sto} {a : Addr} (hF : Fr B G) (ha1 : G a = some (.lst (w.r 4))) (y1 y2 y3 y4 y5 y6 y7 y8 y9 y10 y11 : Option D) :
    denB [spDraw] [] (c_l_made.drop 7) (Fin0 (WQ Q) (WX xq)) [some (.ref p), some (.str w.wd), some (natT w.sm), some (.ref a), some (.str w.wd), some (natD w.b), some (natD w.c), some (.str w.de), some (.str w.be), some (.str w.en), y1, y2, y3, y4, y5, y6, y7, y8, y9, y10, y11] G := by
  refine ⟨rfl, rfl, rfl, ?_⟩
  refine ⟨_, f1 (x := "Clash") (f := "word") (a := .str w.wd), sz3 1, sz3 1, sz3 3, ?_⟩
  refine ⟨rfl, sz3 0, sz3 0, sz3 3, sz3 2, fun a2 n2 => ?_⟩
  have d2 : a ≠ a2 := fun z => by rw [← z, ha1] at n2; cases n2
  refine ⟨w.r 4, _, by rw [put_ne d2]; exact ha1, put_same, sz3 6, fun a3 n3 => ?_⟩
  exact t9 q ((hF.new n2).new n3) put_same _ _ _ _ _ _ _ _ _
set_option maxHeartbeats 0 in
theorem t6 (q : Q (.rl (w.rows.map Row.d)) B) {G : Sto} {a : Addr} (hF : Fr B G) (hB : B a = none) (ha : G a = some (.lst (w.r 3))) (y1 y2 y3 y5 y6 y7 y8 y9 y10 y11 : Option D) :
    denB [spDraw] [] (c_l_made.drop 6) (Fin0 (WQ Q) (WX xq)) [some (.ref p), some (.str w.wd), some (natT w.sm), some (.ref a), some (.str w.wd), some (natD w.b), some (natD w.c), some (.str w.de), some (.str w.be), some (.str w.en), y1, y2, y3, (some (asExc ⟨"NoCode", fsD ["word", "stretch", "beat"] [.str w.wd, natD w.b, natD w.c]⟩)), y5, y6, y7, y8, y9, y10, y11] G := by
  refine ⟨⟨rfl, _, ha⟩, ?_⟩
  refine ⟨_, f3a (x := "NoCode") (f := "word") (g := "stretch") (k := "beat") (a := .str w.wd) (b := natD w.b) (c := natD w.c), ?_⟩
  refine ⟨_, f3b (x := "NoCode") (f := "word") (g := "stretch") (k := "beat") (a := .str w.wd) (b := natD w.b) (c := natD w.c), ?_⟩
  refine ⟨_, f3c (x := "NoCode") (f := "word") (g := "stretch") (k := "beat") (a := .str w.wd) (b := natD w.b) (c := natD w.c), sz3 3, sz3 3, sz3 3, ?_⟩
  refine ⟨_, ha, Nat.lt_of_le_of_lt (show 3 ≤ 100 by decide) (by decide), ?_⟩
  exact t7 q (hF.upd hB) put_same _ _ _ _ _ _ _ _ _ _ _
end
abbrev QM (Q : DQ) (G0 : Sto) (p : Addr) : Prop := ∀ (rows : List Row) (s' : Pn), RowsOk rows → Q (.rl (rows.map Row.d)) (put G0 p s'.c)
set_option maxHeartbeats 0 in
theorem t3 {Q : DQ} {xq : XQ} {p : Addr} {G0 : Sto} (q : QM Q G0 p) (s4 : Pn) {wd : Str} (hwd : wd ∈ words8) (b c : Nat) (sm : List Nat) :
    denB [spDraw] [] (c_l_made.drop 3) (Fin0 (WQ Q) (WX xq)) [some (.ref p), some (.str wd), some (natT sm), none, some (.str wd), some (natD b), some (natD c), none, none, none, none, none, none, none, none, none, none, none, none, none, none] (put G0 p s4.c) := by
  obtain ⟨de, hde, ad⟩ := mod_get (L := deeds3) rfl c
  obtain ⟨be, hbe, ab⟩ := mod_get (L := begs3) rfl b
  obtain ⟨en, hen, ae⟩ := mod_get (L := ends3) rfl c
  have hq := q _ s4 (rows_ok (w := ⟨wd, de, be, en, b, c, sm⟩) ⟨hwd, hde, hbe, hen⟩)
  refine ⟨sz3 3, show (0 : Int) < 3 by decide, _, ad, ?_⟩
  refine ⟨sz3 3, show (0 : Int) < 3 by decide, _, ab, ?_⟩
  refine ⟨sz3 3, show (0 : Int) < 3 by decide, _, ae, ?_⟩
  refine ⟨rfl, rfl, rfl, rfl, sz3 4, rfl, ?_⟩
  refine ⟨_, f2a (x := "NoMachine") (f := "word") (g := "number") (a := .str wd) (b := natD b), ?_⟩
  refine ⟨_, f2b (x := "NoMachine") (f := "word") (g := "number") (a := .str wd) (b := natD b), sz3 2, sz3 2, sz3 3, ?_⟩
  refine ⟨_, f1 (x := "NoText") (f := "line") (a := natD b), sz3 1, sz3 1, sz3 3, ?_⟩
  refine ⟨_, f1 (x := "NoCarry") (f := "moves") (a := natT sm), sz3 1, sz3 1, sz3 3, sz3 3, fun a n => ?_⟩
  exact t6 (w := ⟨wd, de, be, en, b, c, sm⟩) (a := a) hq (Fr.new (fun _ _ z => z) n) n put_same _ _ _ _ _ _ _ _ _ _
set_option maxHeartbeats 0 in
theorem t2 {Q : DQ} {xq : XQ} {p : Addr} {G0 : Sto} (q : QM Q G0 p) (s3 : Pn) {wd : Str} (hwd : wd ∈ words8) (b c : Nat) :
    denB [spDraw] [] (c_l_made.drop 2) (Fin0 (WQ Q) (WX xq)) [some (.ref p), some (.str wd), none, none, some (.str wd), some (natD b), some (natD c), none, none, none, none, none, none, none, none, none, none, none, none, none, none] (put G0 p s3.c) := by
  refine ⟨sz3 1, sz3 2, sz3 3, sz3 1, sz3 4, p, s3, 4, G0, rfl, rfl, by decide, by decide, fun r4 s4 h4 => ?_⟩
  obtain ⟨sm, hsm, am⟩ : ∃ w, w ∈ somes4 ∧ atI (somes4.map natT) (r4 : Int) = some (natT w) := ⟨somes4[r4]'(by show r4 < 4; omega), List.getElem_mem _, atI_nat (by rw [List.getElem?_map, List.getElem?_eq_getElem (show r4 < somes4.length by show r4 < 4; omega)]; rfl)⟩
  exact ⟨_, am, t3 q s4 hwd b c sm⟩
set_option maxHeartbeats 0 in
theorem t1 {Q : DQ} {xq : XQ} {p : Addr} {G0 : Sto} (q : QM Q G0 p) (s1 : Pn) {wd : Str} (hwd : wd ∈ words8) :
    denB [spDraw] [] (c_l_made.drop 1) (Fin0 (WQ Q) (WX xq)) [some (.ref p), some (.str wd), none, none, none, none, none, none, none, none, none, none, none, none, none, none, none, none, none, none, none] (put G0 p s1.c) := by
  refine ⟨p, s1, 99, G0, rfl, rfl, by decide, by decide, fun b s2 h2 => ?_⟩
  refine ⟨p, s2, 9, G0, rfl, rfl, by decide, by decide, fun c s3 h3 => ?_⟩
  exact t2 q s3 hwd b c
set_option maxHeartbeats 0 in
theorem body_l_made : BodW [spDraw] [] c_l_made 21 sp_l_made := by
  rintro ds G Q xq ⟨p, s, G0, rfl, rfl, q⟩
  refine ⟨sz3 8, p, s, 8, G0, rfl, rfl, by decide, by decide, fun r1 s1 h1 => ?_⟩
  obtain ⟨wd, hwd, aw⟩ := pick_get (L := words8) (k := r1) (by show r1 < 8; omega)
  exact ⟨_, aw, t1 q s1 hwd⟩
abbrev Fw : List DSp := [spDraw, sp_l_made, sp_l_kinds, spPen]
theorem kinds_at {rows : List Row} (h : RowsOk rows) {i : Nat} {r : Row} (hr : rows[i]? = some r) : (List.range 14).filter (kindB r.x) = [i] := by
  have h1 : (rows.map (·.x))[i]? = some r.x := by rw [List.getElem?_map, hr]; rfl
  rw [h.1] at h1
  have hi : i < 14 := (List.getElem?_eq_some_iff.mp h1).1
  have tab : ((List.range 14).all fun i => decide ((List.range 14).filter (kindB (N14.getD i "")) = [i])) = true := by decide +kernel
  have := of_decide_eq_true (List.all_eq_true.mp tab i (List.mem_range.mpr hi))
  rw [List.getD_eq_getElem?_getD, h1] at this
  exact this
set_option maxHeartbeats 0 in
theorem body_law : BodW Fw [] c_law 7 sp_law := by
  rintro ds G Q xq ⟨ns, rfl, hl, hG, q⟩
  refine ⟨ns, rfl, fun p fp => ?_⟩
  refine ⟨p, _, 10, G, rfl, rfl, by decide, by decide, fun r1 s1 h1 => ⟨by omega, by omega, ?_⟩⟩
  show forS _ _ _ _ _ _ _
  refine for_op (I := fun k ρ G1 => ∃ (s' : Pn) (x2 x3 x4 x5 x6 : Option D), G1 = put G p s'.c ∧ ρ = [some (.sc (ns.map D.int)), some (.ref p), x2, x3, x4, x5, x6]) ⟨s1, _, _, _, _, _, rfl, rfl⟩ ?_ ?_
  · rintro i x hx ρ G1 E ⟨s5, x2, x3, x4, x5, x6, rfl, rfl⟩ eN eC eR eB eX
    obtain ⟨hi, rfl⟩ := get_range hx
    refine ⟨trivial, p, s5, G, rfl, rfl, fun rows s6 hR => ?_⟩
    show forS _ _ _ _ (enumD (rows.map Row.d)) _ _
    refine for_op (I := fun k ρ G1 => G1 = put G p s6.c ∧ ∃ (x2 x3 x4 x5 x6 : Option D), ρ = [some (.sc (ns.map D.int)), some (.ref p), x2, x3, x4, x5, x6]) ⟨rfl, _, _, _, _, _, rfl⟩ ?_ ?_
    · rintro j y hy ρ G1 E2 ⟨rfl, x2, x3, x4, x5, x6, rfl⟩ fN fC fR fB fX
      obtain ⟨d, hd, rfl⟩ := enum_get hy
      obtain ⟨r, hr, rfl⟩ := get_map hd
      refine ⟨trivial, rfl, rfl, ?_⟩
      show neD (.tup r.ds) (.tup r.ds) _ _
      refine ne_tupS rfl (hR.2 r (List.mem_of_getElem? hr)) (by decide) ?_
      refine ⟨r.x, _, _, rfl, ?_⟩
      rw [kinds_at hR hr]
      refine ⟨sz3 1, ?_⟩
      show neD (.rl [natD j]) (.rl [natD j]) _ _
      refine ne_rlS (n := 0) rfl (nats_ok [j] 0) (by decide) ?_
      exact fN _ _ _ .refl ⟨rfl, _, _, _, _, _, rfl⟩
    · rintro ρ G1 ⟨rfl, x2, x3, x4, x5, x6, rfl⟩
      exact ⟨trivial, eN _ _ _ .refl ⟨s6, _, _, _, _, _, rfl, rfl⟩⟩
  · rintro ρ G1 ⟨s5, x2, x3, x4, x5, x6, rfl, rfl⟩
    exact ⟨trivial, .of (q _)⟩
end K21
namespace K21
open PySem PySem.Spec PyProof.Rows L2 DL
set_option maxHeartbeats 0 in
theorem facts {P : Program} {w : World} {K : PySem.W.Frag} {h : Heap} {mg : Str → Option Value} {f : Addr} (X : K.In h) (G : h.Ns mainGlobals mg) (hfa : mg ("law" : Str) = some (.ref f)) (c : SaysC fa fn cs xd K) :
    ∃ fd : FuncData, (∀ (s : Shared) (v : Value), BindsTo s fd ⟨[v], []⟩ [("_law_script", v)]) ∧ ∀ base : Heap, K.In base → base.Ns mainGlobals mg → FnOk P w K mg base (L2N.CX P w) 4 f fd ["_law_script"] (liftSp K sp_law) := by
  have c0 := c.says
  obtain ⟨fd_l_pen, F_l_pen⟩ := c0.def_ 0 rfl
  have g_l_pen := He.glo_ok X G (c0.fact 0 (f := .glo "_law_pen") rfl)
  obtain ⟨fd_l_draw, F_l_draw⟩ := c0.def_ 1 rfl
  have g_l_draw := He.glo_ok X G (c0.fact 1 (f := .glo "_law_draw") rfl)
  obtain ⟨fd_l_kinds, F_l_kinds⟩ := c0.def_ 2 rfl
  have g_l_kinds := He.glo_ok X G (c0.fact 2 (f := .glo "_law_kinds") rfl)
  obtain ⟨fd_l_made, F_l_made⟩ := c0.def_ 3 rfl
  have g_l_made := He.glo_ok X G (c0.fact 3 (f := .glo "_law_made") rfl)
  obtain ⟨fd_law, F_law⟩ := c0.def_ 4 rfl
  have g_law := He.glo_ok X G (c0.fact 4 (f := .glo "law") rfl)
  have z_abs := He.free_ok X G (c0.fact 5 (f := .free "abs") rfl)
  have z_len := He.free_ok X G (c0.fact 6 (f := .free "len") rfl)
  have z_range := He.free_ok X G (c0.fact 7 (f := .free "range") rfl)
  have z_isinstance := He.free_ok X G (c0.fact 8 (f := .free "isinstance") rfl)
  have z_ValueError := He.free_ok X G (c0.fact 9 (f := .free "ValueError") rfl)
  have z_enumerate := He.free_ok X G (c0.fact 10 (f := .free "enumerate") rfl)
  have lf_NoMachine := c.lf 0 (x := "NoMachine") rfl
  have gx_NoMachine := He.glo_ok X G (c0.fact 11 (f := .glo "NoMachine") rfl)
  have lf_NoText := c.lf 1 (x := "NoText") rfl
  have gx_NoText := He.glo_ok X G (c0.fact 12 (f := .glo "NoText") rfl)
  have lf_NoCarry := c.lf 2 (x := "NoCarry") rfl
  have gx_NoCarry := He.glo_ok X G (c0.fact 13 (f := .glo "NoCarry") rfl)
  have lf_NoCode := c.lf 3 (x := "NoCode") rfl
  have gx_NoCode := He.glo_ok X G (c0.fact 14 (f := .glo "NoCode") rfl)
  have lf_Clash := c.lf 4 (x := "Clash") rfl
  have gx_Clash := He.glo_ok X G (c0.fact 15 (f := .glo "Clash") rfl)
  have lf_TooMany := c.lf 5 (x := "TooMany") rfl
  have gx_TooMany := He.glo_ok X G (c0.fact 16 (f := .glo "TooMany") rfl)
  have lf_NoProgram := c.lf 6 (x := "NoProgram") rfl
  have gx_NoProgram := He.glo_ok X G (c0.fact 17 (f := .glo "NoProgram") rfl)
  have lf_NoPaper := c.lf 7 (x := "NoPaper") rfl
  have gx_NoPaper := He.glo_ok X G (c0.fact 18 (f := .glo "NoPaper") rfl)
  have lf_NoBox := c.lf 8 (x := "NoBox") rfl
  have gx_NoBox := He.glo_ok X G (c0.fact 19 (f := .glo "NoBox") rfl)
  have lf_Wrong := c.lf 9 (x := "Wrong") rfl
  have gx_Wrong := He.glo_ok X G (c0.fact 20 (f := .glo "Wrong") rfl)
  have lf_NoSkill := c.lf 10 (x := "NoSkill") rfl
  have gx_NoSkill := He.glo_ok X G (c0.fact 21 (f := .glo "NoSkill") rfl)
  have lf_NoWay := c.lf 11 (x := "NoWay") rfl
  have gx_NoWay := He.glo_ok X G (c0.fact 22 (f := .glo "NoWay") rfl)
  have lf_Lacks := c.lf 12 (x := "Lacks") rfl
  have gx_Lacks := He.glo_ok X G (c0.fact 23 (f := .glo "Lacks") rfl)
  have lf_NoRow := c.lf 13 (x := "NoRow") rfl
  have gx_NoRow := He.glo_ok X G (c0.fact 24 (f := .glo "NoRow") rfl)
  have gx_BeatError := He.glo_ok X G (c0.fact 25 (f := .glo "BeatError") rfl)
  obtain ⟨fd_xNoMachine, F_xNoMachine⟩ := c0.def_ 5 rfl
  have bx_NoMachine := FunD.bindsN (ps := n_xNoMachine) F_xNoMachine fun _ _ _ _ _ _ us hl => match us, hl with | [_, _, _], _ => rfl
  have ra_NoMachine : ∀ base : Heap, RaiseOk P w K mg base 2 "NoMachine" ["word", "number"] := fun base => raise_ok F_xNoMachine sc_xNoMachine ck_xNoMachine lf_NoMachine (c.mk rfl) gx_BeatError gx_NoMachine (He.meth_ok (c0.fact 26 (f := .meth "NoMachine" "__init__") rfl)) bx_NoMachine
  obtain ⟨fd_xNoText, F_xNoText⟩ := c0.def_ 6 rfl
  have bx_NoText := FunD.bindsN (ps := n_xNoText) F_xNoText fun _ _ _ _ _ _ us hl => match us, hl with | [_, _], _ => rfl
  have ra_NoText : ∀ base : Heap, RaiseOk P w K mg base 2 "NoText" ["line"] := fun base => raise_ok F_xNoText sc_xNoText ck_xNoText lf_NoText (c.mk rfl) gx_BeatError gx_NoText (He.meth_ok (c0.fact 27 (f := .meth "NoText" "__init__") rfl)) bx_NoText
  obtain ⟨fd_xNoCarry, F_xNoCarry⟩ := c0.def_ 7 rfl
  have bx_NoCarry := FunD.bindsN (ps := n_xNoCarry) F_xNoCarry fun _ _ _ _ _ _ us hl => match us, hl with | [_, _], _ => rfl
  have ra_NoCarry : ∀ base : Heap, RaiseOk P w K mg base 2 "NoCarry" ["moves"] := fun base => raise_ok F_xNoCarry sc_xNoCarry ck_xNoCarry lf_NoCarry (c.mk rfl) gx_BeatError gx_NoCarry (He.meth_ok (c0.fact 28 (f := .meth "NoCarry" "__init__") rfl)) bx_NoCarry
  obtain ⟨fd_xNoCode, F_xNoCode⟩ := c0.def_ 8 rfl
  have bx_NoCode := FunD.bindsN (ps := n_xNoCode) F_xNoCode fun _ _ _ _ _ _ us hl => match us, hl with | [_, _, _, _], _ => rfl
  have ra_NoCode : ∀ base : Heap, RaiseOk P w K mg base 2 "NoCode" ["word", "stretch", "beat"] := fun base => raise_ok F_xNoCode sc_xNoCode ck_xNoCode lf_NoCode (c.mk rfl) gx_BeatError gx_NoCode (He.meth_ok (c0.fact 29 (f := .meth "NoCode" "__init__") rfl)) bx_NoCode
  obtain ⟨fd_xClash, F_xClash⟩ := c0.def_ 9 rfl
  have bx_Clash := FunD.bindsN (ps := n_xClash) F_xClash fun _ _ _ _ _ _ us hl => match us, hl with | [_, _], _ => rfl
  have ra_Clash : ∀ base : Heap, RaiseOk P w K mg base 2 "Clash" ["word"] := fun base => raise_ok F_xClash sc_xClash ck_xClash lf_Clash (c.mk rfl) gx_BeatError gx_Clash (He.meth_ok (c0.fact 30 (f := .meth "Clash" "__init__") rfl)) bx_Clash
  obtain ⟨fd_xTooMany, F_xTooMany⟩ := c0.def_ 10 rfl
  have bx_TooMany := FunD.bindsN (ps := n_xTooMany) F_xTooMany fun _ _ _ _ _ _ us hl => match us, hl with | [_], _ => rfl
  have ra_TooMany : ∀ base : Heap, RaiseOk P w K mg base 2 "TooMany" [] := fun base => raise_ok F_xTooMany sc_xTooMany ck_xTooMany lf_TooMany (c.mk rfl) gx_BeatError gx_TooMany (He.meth_ok (c0.fact 31 (f := .meth "TooMany" "__init__") rfl)) bx_TooMany
  obtain ⟨fd_xNoProgram, F_xNoProgram⟩ := c0.def_ 11 rfl
  have bx_NoProgram := FunD.bindsN (ps := n_xNoProgram) F_xNoProgram fun _ _ _ _ _ _ us hl => match us, hl with | [_, _, _, _], _ => rfl
  have ra_NoProgram : ∀ base : Heap, RaiseOk P w K mg base 2 "NoProgram" ["word", "block", "row"] := fun base => raise_ok F_xNoProgram sc_xNoProgram ck_xNoProgram lf_NoProgram (c.mk rfl) gx_BeatError gx_NoProgram (He.meth_ok (c0.fact 32 (f := .meth "NoProgram" "__init__") rfl)) bx_NoProgram
  obtain ⟨fd_xNoPaper, F_xNoPaper⟩ := c0.def_ 12 rfl
  have bx_NoPaper := FunD.bindsN (ps := n_xNoPaper) F_xNoPaper fun _ _ _ _ _ _ us hl => match us, hl with | [_], _ => rfl
  have ra_NoPaper : ∀ base : Heap, RaiseOk P w K mg base 2 "NoPaper" [] := fun base => raise_ok F_xNoPaper sc_xNoPaper ck_xNoPaper lf_NoPaper (c.mk rfl) gx_BeatError gx_NoPaper (He.meth_ok (c0.fact 33 (f := .meth "NoPaper" "__init__") rfl)) bx_NoPaper
  obtain ⟨fd_xNoBox, F_xNoBox⟩ := c0.def_ 13 rfl
  have bx_NoBox := FunD.bindsN (ps := n_xNoBox) F_xNoBox fun _ _ _ _ _ _ us hl => match us, hl with | [_, _], _ => rfl
  have ra_NoBox : ∀ base : Heap, RaiseOk P w K mg base 2 "NoBox" ["many"] := fun base => raise_ok F_xNoBox sc_xNoBox ck_xNoBox lf_NoBox (c.mk rfl) gx_BeatError gx_NoBox (He.meth_ok (c0.fact 34 (f := .meth "NoBox" "__init__") rfl)) bx_NoBox
  obtain ⟨fd_xWrong, F_xWrong⟩ := c0.def_ 14 rfl
  have bx_Wrong := FunD.bindsN (ps := n_xWrong) F_xWrong fun _ _ _ _ _ _ us hl => match us, hl with | [_, _], _ => rfl
  have ra_Wrong : ∀ base : Heap, RaiseOk P w K mg base 2 "Wrong" ["block"] := fun base => raise_ok F_xWrong sc_xWrong ck_xWrong lf_Wrong (c.mk rfl) gx_BeatError gx_Wrong (He.meth_ok (c0.fact 35 (f := .meth "Wrong" "__init__") rfl)) bx_Wrong
  obtain ⟨fd_xNoSkill, F_xNoSkill⟩ := c0.def_ 15 rfl
  have bx_NoSkill := FunD.bindsN (ps := n_xNoSkill) F_xNoSkill fun _ _ _ _ _ _ us hl => match us, hl with | [_, _], _ => rfl
  have ra_NoSkill : ∀ base : Heap, RaiseOk P w K mg base 2 "NoSkill" ["deed"] := fun base => raise_ok F_xNoSkill sc_xNoSkill ck_xNoSkill lf_NoSkill (c.mk rfl) gx_BeatError gx_NoSkill (He.meth_ok (c0.fact 36 (f := .meth "NoSkill" "__init__") rfl)) bx_NoSkill
  obtain ⟨fd_xNoWay, F_xNoWay⟩ := c0.def_ 16 rfl
  have bx_NoWay := FunD.bindsN (ps := n_xNoWay) F_xNoWay fun _ _ _ _ _ _ us hl => match us, hl with | [_, _, _], _ => rfl
  have ra_NoWay : ∀ base : Heap, RaiseOk P w K mg base 2 "NoWay" ["begin", "end"] := fun base => raise_ok F_xNoWay sc_xNoWay ck_xNoWay lf_NoWay (c.mk rfl) gx_BeatError gx_NoWay (He.meth_ok (c0.fact 37 (f := .meth "NoWay" "__init__") rfl)) bx_NoWay
  obtain ⟨fd_xLacks, F_xLacks⟩ := c0.def_ 17 rfl
  have bx_Lacks := FunD.bindsN (ps := n_xLacks) F_xLacks fun _ _ _ _ _ _ us hl => match us, hl with | [_, _], _ => rfl
  have ra_Lacks : ∀ base : Heap, RaiseOk P w K mg base 2 "Lacks" ["word"] := fun base => raise_ok F_xLacks sc_xLacks ck_xLacks lf_Lacks (c.mk rfl) gx_BeatError gx_Lacks (He.meth_ok (c0.fact 38 (f := .meth "Lacks" "__init__") rfl)) bx_Lacks
  obtain ⟨fd_xNoRow, F_xNoRow⟩ := c0.def_ 18 rfl
  have bx_NoRow := FunD.bindsN (ps := n_xNoRow) F_xNoRow fun _ _ _ _ _ _ us hl => match us, hl with | [_], _ => rfl
  have ra_NoRow : ∀ base : Heap, RaiseOk P w K mg base 2 "NoRow" [] := fun base => raise_ok F_xNoRow sc_xNoRow ck_xNoRow lf_NoRow (c.mk rfl) gx_BeatError gx_NoRow (He.meth_ok (c0.fact 39 (f := .meth "NoRow" "__init__") rfl)) bx_NoRow
  have e := hfa.symm.trans g_law
  cases e
  have bl := FunD.bindsA (ps := ["_law_script"]) F_law fun _ _ _ _ _ _ us hl => match us, hl with | [_], _ => rfl
  refine ⟨fd_law, fun s v => bl s [v] rfl, fun base _ _ => ?_⟩
  have d_l_pen : DefOk P w K mg base 1 "_law_pen" sp_l_pen := mk_def (ci := i_l_pen) (F := []) (Gm := []) F_l_pen g_l_pen (FunD.bindsN F_l_pen fun _ _ _ _ _ _ us hl => match us, hl with | [_], _ => rfl) sc_l_pen len_l_pen ⟨CalX.nil, (unb_none (by decide +kernel)), (ClsT.none rfl), Glbs.nil, (by simp [b_l_pen]), memNil, fun z => Bool.noConfusion z, RsX.nil, memNil, (gc_none (by decide +kernel))⟩ ch_l_pen body_l_pen.g
  have d_l_draw : DefOk P w K mg base 1 "_law_draw" sp_l_draw := mk_def (ci := i_l_draw) (F := []) (Gm := []) F_l_draw g_l_draw (FunD.bindsN F_l_draw fun _ _ _ _ _ _ us hl => match us, hl with | [_, _], _ => rfl) sc_l_draw len_l_draw ⟨CalX.nil, (unb_none (by decide +kernel)), (ClsT.none rfl), Glbs.nil, (by simp [b_l_draw, z_abs, z_len]), memNil, fun z => Bool.noConfusion z, RsX.nil, memNil, (gc_none (by decide +kernel))⟩ ch_l_draw body_l_draw.g
  have d_l_kinds : DefOk P w K mg base 1 "_law_kinds" sp_l_kinds := mk_def (ci := i_l_kinds) (F := []) (Gm := []) F_l_kinds g_l_kinds (FunD.bindsN F_l_kinds fun _ _ _ _ _ _ us hl => match us, hl with | [_], _ => rfl) sc_l_kinds len_l_kinds ⟨CalX.nil, (unb_none (by decide +kernel)), (ClsT.none rfl), Glbs.nil, (by simp [b_l_kinds, z_range, z_isinstance, z_ValueError]), (memCons ⟨lf_NoRow, gx_NoRow⟩ (memCons ⟨lf_Lacks, gx_Lacks⟩ (memCons ⟨lf_NoWay, gx_NoWay⟩ (memCons ⟨lf_NoSkill, gx_NoSkill⟩ (memCons ⟨lf_Wrong, gx_Wrong⟩ (memCons ⟨lf_NoBox, gx_NoBox⟩ (memCons ⟨lf_NoPaper, gx_NoPaper⟩ (memCons ⟨lf_NoProgram, gx_NoProgram⟩ (memCons ⟨lf_TooMany, gx_TooMany⟩ (memCons ⟨lf_Clash, gx_Clash⟩ (memCons ⟨lf_NoCode, gx_NoCode⟩ (memCons ⟨lf_NoCarry, gx_NoCarry⟩ (memCons ⟨lf_NoText, gx_NoText⟩ (memCons ⟨lf_NoMachine, gx_NoMachine⟩ memNil)))))))))))))), fun _ => gx_BeatError, RsX.nil, memNil, (gc_none (by decide +kernel))⟩ ch_l_kinds body_l_kinds.g
  have d_l_made : DefOk P w K mg base 3 "_law_made" sp_l_made := mk_def (ci := i_l_made) (F := [sp_l_draw]) (Gm := []) F_l_made g_l_made (FunD.bindsN F_l_made fun _ _ _ _ _ _ us hl => match us, hl with | [_], _ => rfl) sc_l_made len_l_made ⟨(CalX.cons (d_l_draw.mono (by decide)) CalX.nil), (unb_none (by decide +kernel)), (ClsT.none rfl), Glbs.nil, (by simp [b_l_made]), memNil, fun z => Bool.noConfusion z, (RsX.cons ((ra_NoRow base).mono (by decide)) (RsX.cons ((ra_Lacks base).mono (by decide)) (RsX.cons ((ra_NoWay base).mono (by decide)) (RsX.cons ((ra_NoSkill base).mono (by decide)) (RsX.cons ((ra_Wrong base).mono (by decide)) (RsX.cons ((ra_NoPaper base).mono (by decide)) (RsX.cons ((ra_TooMany base).mono (by decide)) (RsX.cons ((ra_NoBox base).mono (by decide)) (RsX.cons ((ra_NoProgram base).mono (by decide)) (RsX.cons ((ra_Clash base).mono (by decide)) (RsX.cons ((ra_NoCode base).mono (by decide)) (RsX.cons ((ra_NoCarry base).mono (by decide)) (RsX.cons ((ra_NoText base).mono (by decide)) (RsX.cons ((ra_NoMachine base).mono (by decide)) RsX.nil)))))))))))))), memNil, (gc_none (by decide +kernel))⟩ ch_l_made body_l_made.g
  exact mk_fn (ci := i_law) (F := [sp_l_draw, sp_l_made, sp_l_kinds, sp_l_pen]) (Gm := []) F_law sc_law len_law ⟨(CalX.cons (d_l_draw.mono (by decide)) (CalX.cons (d_l_made.mono (by decide)) (CalX.cons (d_l_kinds.mono (by decide)) (CalX.cons (d_l_pen.mono (by decide)) CalX.nil)))), (unb_none (by decide +kernel)), (ClsT.none rfl), Glbs.nil, (by simp [b_law, z_range, z_enumerate]), memNil, fun z => Bool.noConfusion z, RsX.nil, memNil, (gc_none (by decide +kernel))⟩ ch_law body_law.g
end K21
open PySem PySem.W PySem.Calls PyProof.Rows
set_option maxHeartbeats 0 in
theorem PySem.Challenge.cw_movebeats_k21_refusals_made_holds : PySem.Challenge.rw_movebeats_k21_refusals_made.Holds := by
  w_on; o_law
  refine HandSHeadRun.head_any (r := OpenLaw.row PySem.Challenge.rw_movebeats_k21_refusals_made) (q := view (OpenLaw.row PySem.Challenge.rw_movebeats_k21_refusals_made).prog [21]) (H := K21.hk) (ob := K21.ob) (M := 6000) (loose := K21.loose) (d := HandSHeadRun.topDef (OpenLaw.row PySem.Challenge.rw_movebeats_k21_refusals_made).prog 21) (kwd := []) K21.ob_eq
    (by kernel_rfl) (fun s => by kernel_rfl) K21.run (by kernel_rfl) (by kernel_rfl) (by kernel_rfl) (by rfl) (by first | assumption | decide +kernel) (by decide +kernel) ⟨rfl, rfl, rfl, rfl, rfl, by decide +kernel⟩ ?hw ?hc
  case hw => w_witness2
  case hc =>
    refine DL.walk_end (l := PySem.Challenge.rw_movebeats_k21_refusals_made) (n := 63) (k := 4) (x := "_law_script") rfl (by decide) (by kernel_rfl) ⟨rfl, by decide, by decide⟩ ?F
    intro w mg fa h Y G hmg0
    obtain ⟨K, KX, c⟩ := Y
    have hmg : mg ("law" : PySem.Str) = some (.ref fa) := by
      have e : (HandSHeadRun.topDef (OpenLaw.row PySem.Challenge.rw_movebeats_k21_refusals_made).prog 21).name = ("law" : PySem.Str) := by kernel_rfl
      rw [← e]
      exact hmg0
    obtain ⟨fd, hb, hF⟩ := K21.facts (P := (PySem.Challenge.rw_movebeats_k21_refusals_made).prog) (w := w) KX G hmg c
    exact ⟨K, fd, KX, hb, hF⟩
