import PyProof.Rows.All
import Wide.All
import OpenK.AllK
import Wide.FinOn
import HandS.ForMost
import HandS.ForExc
import HandS.CallSlots
import HandS.Wide
import HandS.IsInst
import HandS.Codes
import HandS.Zip
import HandS.EndBits
import HandS.TupAny
import HandS.Style
import HandS.Flow
import PyProof.Rows.IntBool
import HandS.Deep
import HandS.TupMul
import HandS.TupLe
import HandS.Dict
import KE.GoesEnum
import HandS.Defaults
import HandS.Head0
import HandS.Head1
import HandS.Head2
import HandS.HeadEnd
import HandS.HeadHook1
import HandS.HeadHook2
import PySem.Challenge.RW_movebeats_k13_moves_known
set_option Elab.async false
set_option linter.all false
set_option maxRecDepth 100000
namespace DL
open PySem PySem.Spec PyProof.Rows L2
/-! data without the heap: tuples by value, all that can change by its address -/
inductive D where
  | non | bl (b : Bool) | int (i : Int) | str (x : Str) | ref (a : Addr) | ty (n : String)
  | tup (ds : List D)
  | rl (ds : List D)
/-- a list that is only read: the script -/
def RoL (K : PySem.W.Frag) (H : Hp) (a : Addr) (xs : List V) : Prop :=
  (∃ o, H a = some (.frz o (.lst xs))) ∨ ∃ (o : Obj) (its : Array Value) (n : Nat), K.lookup a = some o ∧ o.cls = .type "list" ∧ o.dict = none ∧ o.data = .seq its n ∧ its.size ≤ sizeLine ∧ Vals xs its.toList
theorem RoL.sq {K : PySem.W.Frag} {H : Hp} {a : Addr} {xs : List V} (h : RoL K H a xs) : SqL K H a xs := by
  rcases h with h | h
  · exact .inl (.inr h)
  · exact .inr h
mutual
inductive Rep (K : PySem.W.Frag) (H : Hp) : V → D → Prop
  | non : Rep K H .non .non
  | bl (b : Bool) : Rep K H (.bl b) (.bl b)
  | int (i : Int) : Rep K H (.int i) (.int i)
  | str (x : Str) : Rep K H (.str x) (.str x)
  | ref (a : Addr) : Rep K H (.ref a) (.ref a)
  | ty (n : String) : Rep K H (.ty n) (.ty n)
  | tup {a : Addr} {vs : List V} {ds : List D} : SqT K H a vs → Reps K H vs ds → Rep K H (.ref a) (.tup ds)
  | rl {a : Addr} {vs : List V} {ds : List D} : RoL K H a vs → Reps K H vs ds → Rep K H (.ref a) (.rl ds)
inductive Reps (K : PySem.W.Frag) (H : Hp) : List V → List D → Prop
  | nil : Reps K H [] []
  | cons {v : V} {vs : List V} {d : D} {ds : List D} : Rep K H v d → Reps K H vs ds → Reps K H (v :: vs) (d :: ds)
end
/-- tuples stay -/
structure TupExt (K : PySem.W.Frag) (H H' : Hp) : Prop where
  t : ∀ a xs, SqT K H a xs → SqT K H' a xs
  l : ∀ a xs, RoL K H a xs → RoL K H' a xs
theorem TupExt.refl {K : PySem.W.Frag} {H : Hp} : TupExt K H H := ⟨fun _ _ h => h, fun _ _ h => h⟩
theorem TupExt.trans {K : PySem.W.Frag} {H H1 H2 : Hp} (a : TupExt K H H1) (b : TupExt K H1 H2) : TupExt K H H2 := ⟨fun c xs h => b.t c xs (a.t c xs h), fun c xs h => b.l c xs (a.l c xs h)⟩
section
variable {K : PySem.W.Frag} {H H' : Hp}
mutual
theorem Rep.mono (t : TupExt K H H') : ∀ {v : V} {d : D}, Rep K H v d → Rep K H' v d
  | _, _, .non => .non
  | _, _, .bl b => .bl b
  | _, _, .int i => .int i
  | _, _, .str x => .str x
  | _, _, .ref a => .ref a
  | _, _, .ty n => .ty n
  | _, _, .tup h r => .tup (t.t _ _ h) (Reps.mono t r)
  | _, _, .rl h r => .rl (t.l _ _ h) (Reps.mono t r)
theorem Reps.mono (t : TupExt K H H') : ∀ {vs : List V} {ds : List D}, Reps K H vs ds → Reps K H' vs ds
  | _, _, .nil => .nil
  | _, _, .cons a b => .cons (Rep.mono t a) (Reps.mono t b)
end
theorem Reps.length : ∀ {vs : List V} {ds : List D}, Reps K H vs ds → vs.length = ds.length
  | _, _, .nil => rfl
  | _, _, .cons _ b => by rw [List.length_cons, List.length_cons, Reps.length b]
theorem Reps.get : ∀ {vs : List V} {ds : List D} {i : Nat} {d : D}, Reps K H vs ds → ds[i]? = some d → ∃ v, vs[i]? = some v ∧ Rep K H v d
  | _, _, _, _, .nil, e => by simp at e
  | _, _, 0, _, .cons a _, e => by
    have e' := Option.some.inj e
    subst e'
    exact ⟨_, rfl, a⟩
  | _, _, i + 1, d, .cons _ b, e => by
    obtain ⟨v, h1, h2⟩ := Reps.get (i := i) (d := d) b (by simpa using e)
    exact ⟨v, by simpa using h1, h2⟩
theorem Reps.getV : ∀ {vs : List V} {ds : List D} {i : Nat} {v : V}, Reps K H vs ds → vs[i]? = some v → ∃ d, ds[i]? = some d ∧ Rep K H v d
  | _, _, _, _, .nil, e => by simp at e
  | _, _, 0, _, .cons a _, e => by
    have e' := Option.some.inj e
    subst e'
    exact ⟨_, rfl, a⟩
  | _, _, i + 1, d, .cons _ b, e => by
    obtain ⟨v, h1, h2⟩ := Reps.getV (i := i) (v := d) b (by simpa using e)
    exact ⟨v, by simpa using h1, h2⟩
theorem Reps.append : ∀ {vs ws : List V} {ds es : List D}, Reps K H vs ds → Reps K H ws es → Reps K H (vs ++ ws) (ds ++ es)
  | _, _, _, _, .nil, s => s
  | _, _, _, _, .cons a b, s => .cons a (Reps.append b s)
theorem Reps.set {x : V} {d : D} (r : Rep K H x d) : ∀ {vs : List V} {ds : List D} (i : Nat), Reps K H vs ds → Reps K H (vs.set i x) (ds.set i d)
  | _, _, _, .nil => .nil
  | _, _, 0, .cons _ t => .cons r t
  | _, _, i + 1, .cons q t => .cons q (Reps.set r i t)
theorem Reps.take : ∀ {vs : List V} {ds : List D} (n : Nat), Reps K H vs ds → Reps K H (vs.take n) (ds.take n)
  | _, _, 0, _ => .nil
  | _, _, _ + 1, .nil => .nil
  | _, _, n + 1, .cons r t => .cons r (Reps.take n t)
theorem Reps.drop : ∀ {vs : List V} {ds : List D} (n : Nat), Reps K H vs ds → Reps K H (vs.drop n) (ds.drop n)
  | _, _, 0, r => r
  | _, _, _ + 1, .nil => .nil
  | _, _, n + 1, .cons _ t => Reps.drop n t
theorem Reps.reverse {vs : List V} {ds : List D} (h : Reps K H vs ds) : Reps K H vs.reverse ds.reverse := by
  induction vs generalizing ds with
  | nil => cases h; exact .nil
  | cons v vs ih =>
    cases h with
    | cons a b =>
      rw [List.reverse_cons, List.reverse_cons]
      exact (ih b).append (.cons a .nil)
end
/-! the store -/
inductive Cl where
  | lst (ds : List D)
  | dK (kvs : List (Key × D))
  | dT (kvs : List (List Key × D))
  | ins (C dx : Addr) (fs : List (Str × D))
abbrev Sto := Addr → Option Cl
def put (G : Sto) (a : Addr) (c : Cl) : Sto := fun b => if b = a then some c else G b
theorem put_same {G : Sto} {a : Addr} {c : Cl} : put G a c a = some c := by unfold put; rw [if_pos rfl]
theorem put_ne {G : Sto} {a b : Addr} {c : Cl} (h : b ≠ a) : put G a c b = G b := by unfold put; rw [if_neg h]
theorem put_put {G : Sto} {a : Addr} {c c' : Cl} : put (put G a c) a c' = put G a c' := by
  funext b
  unfold put
  split <;> rfl
def RepKV {κ : Type} (K : PySem.W.Frag) (H : Hp) : List (κ × V) → List (κ × D) → Prop
  | [], [] => True
  | (k, v) :: r, (j, d) :: q => k = j ∧ Rep K H v d ∧ RepKV K H r q
  | _, _ => False
theorem RepKV.mono {κ : Type} {K : PySem.W.Frag} {H H' : Hp} (t : TupExt K H H') : ∀ {l : List (κ × V)} {m : List (κ × D)}, RepKV K H l m → RepKV K H' l m
  | [], [], h => h
  | (_, _) :: _, (_, _) :: _, ⟨a, b, c⟩ => ⟨a, b.mono t, RepKV.mono t c⟩
  | [], _ :: _, h => h.elim
  | _ :: _, [], h => h.elim
def CRep (K : PySem.W.Frag) (H : Hp) (a : Addr) : Cl → Prop
  | .lst ds => ∃ vs, H a = some (.lst vs) ∧ Reps K H vs ds
  | .dK kvs => ∃ m, H a = some (.dK m) ∧ RepKV K H m kvs
  | .dT kvs => ∃ m, H a = some (.dT m) ∧ RepKV K H m kvs
  | .ins C dx fs => ∃ m, H a = some (.ins C dx m) ∧ RepKV K H m fs
def Sim (K : PySem.W.Frag) (G : Sto) (H : Hp) : Prop := ∀ a c, G a = some c → CRep K H a c
structure Ext (K : PySem.W.Frag) (G : Sto) (H : Hp) (G' : Sto) (H' : Hp) : Prop where
  tup : TupExt K H H'
  frm : ∀ a o, H a = some o → G a = none → H' a = some o ∧ G' a = none
section
variable {K : PySem.W.Frag} {G G' G1 G2 : Sto} {H H' H1 H2 : Hp} {p a : Addr} {o : HO} {c : Cl}
theorem Ext.refl : Ext K G H G H := ⟨.refl, fun _ _ h g => ⟨h, g⟩⟩
theorem Ext.trans (x : Ext K G H G1 H1) (y : Ext K G1 H1 G2 H2) : Ext K G H G2 H2 :=
  ⟨x.tup.trans y.tup, fun a o h g => y.frm a o (x.frm a o h g).1 (x.frm a o h g).2⟩
theorem CRep.mono (t : TupExt K H H') (k : H' a = H a) : ∀ {c : Cl}, CRep K H a c → CRep K H' a c
  | .lst _, ⟨vs, h, r⟩ => ⟨vs, k.trans h, r.mono t⟩
  | .dK _, ⟨m, h, r⟩ => ⟨m, k.trans h, r.mono t⟩
  | .dT _, ⟨m, h, r⟩ => ⟨m, k.trans h, r.mono t⟩
  | .ins _ _ _, ⟨m, h, r⟩ => ⟨m, k.trans h, r.mono t⟩
theorem CRep.there : ∀ {c : Cl}, CRep K H a c → ∃ o, H a = some o
  | .lst _, ⟨_, h, _⟩ => ⟨_, h⟩
  | .dK _, ⟨_, h, _⟩ => ⟨_, h⟩
  | .dT _, ⟨_, h, _⟩ => ⟨_, h⟩
  | .ins _ _ _, ⟨_, h, _⟩ => ⟨_, h⟩
theorem Sim.free (s : Sim K G H) (h : H p = none) : G p = none := by
  cases e : G p with
  | none => rfl
  | some c =>
    obtain ⟨o, q⟩ := (s p c e).there
    rw [h] at q
    cases q
theorem tup_new (h : H p = none) : TupExt K H (upd H p o) := ⟨fun a xs q => by
  rcases q with (q | ⟨u, q⟩) | q
  · exact .inl (.inl (by rw [upd_ne (ne_of_none q h)]; exact q))
  · exact .inl (.inr ⟨u, by rw [upd_ne (ne_of_none q h)]; exact q⟩)
  · exact .inr q, fun a xs q => by
  rcases q with ⟨u, q⟩ | q
  · exact .inl ⟨u, by rw [upd_ne (ne_of_none q h)]; exact q⟩
  · exact .inr q⟩
def noTup : HO → Bool
  | .tup _ => false
  | .frz _ _ => false
  | _ => true
theorem tup_mut {o0 : HO} (h : H p = some o0) (n : noTup o0 = true) : TupExt K H (upd H p o) := by
  refine ⟨fun a xs q => ?_, fun a xs q => ?_⟩
  rcases q with (q | ⟨u, q⟩) | q
  · refine .inl (.inl ?_)
    have ne : a ≠ p := fun e => by
      subst e
      rw [h] at q
      cases q
      cases n
    rw [upd_ne ne]
    exact q
  · refine .inl (.inr ⟨u, ?_⟩)
    have ne : a ≠ p := fun e => by
      subst e
      rw [h] at q
      cases q
      cases n
    rw [upd_ne ne]
    exact q
  · exact .inr q
  rcases q with ⟨u, q⟩ | q
  · refine .inl ⟨u, ?_⟩
    have ne : a ≠ p := fun e => by
      subst e
      rw [h] at q
      cases q
      cases n
    rw [upd_ne ne]
    exact q
  · exact .inr q
/-- a new object that the store bears -/
theorem Sim.new (s : Sim K G H) (h : H p = none) (n : CRep K (upd H p o) p c) : Sim K (put G p c) (upd H p o) := fun a c' q => by
  by_cases e : a = p
  · subst e
    rw [put_same] at q
    cases q
    exact n
  · rw [put_ne e] at q
    exact (s a c' q).mono (tup_new h) (upd_ne e)
theorem Ext.new (h : H p = none) : Ext K G H (put G p c) (upd H p o) := ⟨tup_new h, fun a o q g => by
  have ne := ne_of_none q h
  rw [upd_ne ne, put_ne ne]
  exact ⟨q, g⟩⟩
/-- a new object that the store does not bear (a tuple) -/
theorem Sim.newT (s : Sim K G H) (h : H p = none) : Sim K G (upd H p o) := fun a c' q => by
  have ne : a ≠ p := fun e => by
    subst e
    rw [s.free h] at q
    cases q
  exact (s a c' q).mono (tup_new h) (upd_ne ne)
theorem Ext.newT (h : H p = none) : Ext K G H G (upd H p o) := ⟨tup_new h, fun a o q g => by
  have ne := ne_of_none q h
  rw [upd_ne ne]
  exact ⟨q, g⟩⟩
/-- an object of the store is changed -/
theorem Sim.mut {o0 : HO} {c0 : Cl} (s : Sim K G H) (h : H p = some o0) (n : noTup o0 = true) (hc : CRep K (upd H p o) p c) : Sim K (put G p c) (upd H p o) := fun a c' q => by
  by_cases e : a = p
  · subst e
    rw [put_same] at q
    cases q
    exact hc
  · rw [put_ne e] at q
    exact (s a c' q).mono (tup_mut h n) (upd_ne e)
theorem Ext.mut {o0 : HO} {c0 : Cl} (g : G p = some c0) (h : H p = some o0) (n : noTup o0 = true) : Ext K G H (put G p c) (upd H p o) := ⟨tup_mut h n, fun a o q z => by
  have ne : a ≠ p := fun e => by
    subst e
    rw [g] at z
    cases z
  rw [upd_ne ne, put_ne ne]
  exact ⟨q, z⟩⟩
end
/-! slots -/
abbrev Ev := List (Option D)
structure RepS (K : PySem.W.Frag) (H : Hp) (σ : L2.St) (ρ : Ev) : Prop where
  len : σ.length = ρ.length
  at_ : ∀ (i : Nat) (d : D), ρ[i]? = some (some d) → ∃ v, σ[i]? = some (some v) ∧ Rep K H v d
theorem RepS.mono {K : PySem.W.Frag} {H H' : Hp} {σ : L2.St} {ρ : Ev} (r : RepS K H σ ρ) (t : TupExt K H H') : RepS K H' σ ρ :=
  ⟨r.len, fun i d e => let ⟨v, h1, h2⟩ := r.at_ i d e; ⟨v, h1, h2.mono t⟩⟩
theorem RepS.set {K : PySem.W.Frag} {H : Hp} {σ : L2.St} {ρ : Ev} {v : V} {d : D} (r : RepS K H σ ρ) (i : Nat) (h : Rep K H v d) : RepS K H (σ.set i (some v)) (ρ.set i (some d)) := by
  refine ⟨by rw [List.length_set, List.length_set, r.len], fun j e q => ?_⟩
  by_cases hj : i = j
  · subst hj
    have hl : i < ρ.length := by
      rw [List.getElem?_set] at q
      split at q
      · split at q
        · assumption
        · cases q
      · contradiction
    rw [List.getElem?_set_self hl] at q
    cases q
    exact ⟨v, List.getElem?_set_self (by rw [r.len]; exact hl), h⟩
  · rw [List.getElem?_set_ne hj] at q
    obtain ⟨u, h1, h2⟩ := r.at_ j e q
    exact ⟨u, by rw [List.getElem?_set_ne hj]; exact h1, h2⟩
theorem RepS.forget {K : PySem.W.Frag} {H : Hp} {σ : L2.St} {ρ : Ev} (r : RepS K H σ ρ) (i : Nat) : RepS K H (σ.set i none) (ρ.set i none) := by
  refine ⟨by rw [List.length_set, List.length_set, r.len], fun j e q => ?_⟩
  by_cases hj : i = j
  · subst hj
    rw [List.getElem?_set] at q
    simp at q
  · rw [List.getElem?_set_ne hj] at q
    obtain ⟨u, h1, h2⟩ := r.at_ j e q
    exact ⟨u, by rw [List.getElem?_set_ne hj]; exact h1, h2⟩
def wipeD (ρ : Ev) : List Nat → Ev
  | [] => ρ
  | v :: vs => (wipeD ρ vs).set v none
theorem RepS.wipe {K : PySem.W.Frag} {H : Hp} {σ : L2.St} {ρ : Ev} (r : RepS K H σ ρ) : ∀ vs : List Nat, RepS K H (L2.wipe σ vs) (wipeD ρ vs)
  | [] => r
  | v :: vs => (RepS.wipe r vs).forget v
end DL

namespace DL
open PySem PySem.Spec PyProof.Rows L2
structure Exn where
  cls : Value
  fs : List (Str × D)
abbrev DQ := D → Sto → Prop
abbrev BQ := Bool → Sto → Prop
abbrev AQ := List D → Sto → Prop
abbrev XQ := Exn → Sto → Prop
abbrev DE := Ev → Sto → DQ → XQ → Prop
abbrev DT := Ev → Sto → BQ → XQ → Prop
abbrev DA := Ev → Sto → AQ → XQ → Prop
def ExnRep (K : PySem.W.Frag) (H : Hp) (cls : Value) (d : Option Addr) (x : Exn) : Prop :=
  cls = x.cls ∧ match d with
    | none => x.fs = []
    | some a => ∃ m, H a = some (.xd m) ∧ RepKV K H m x.fs
/-! the greatest readings -/
def WE (X : Cx) (e : Expr) : TE := fun σ H Q => ∀ pins s, Inv X pins σ H s → wpAny (model X.prog X.w) X.A (eval e X.env) (EP X pins σ Q) X.xe s
def WT (X : Cx) (e : Expr) : TT := fun σ H Q => ∀ pins s, Inv X pins σ H s → wpAny (model X.prog X.w) X.A (isTrue e X.env (eval e X.env)) (TP X pins σ Q) X.xe s
def WW (X : Cx) (e : Expr) : TT := fun σ H Q => ∀ (whole : Sem Value) pins s, Inv X pins σ H s → wpAny (model X.prog X.w) X.A (isTrue e X.env whole) (TP X pins σ Q) X.xe s
def WA (X : Cx) (es : List Expr) : TA := fun σ H Q => ∀ (pos : Pos) pins s, Inv X pins σ H s → wpAny (model X.prog X.w) X.A (spliced (backTo pos (starEach es X.env))) (AP X pins σ Q) X.xe s
section
variable {X : Cx} {e : Expr} {es : List Expr} {σ : L2.St} {H : Hp}
theorem pe_max : PE X e (WE X e) := ⟨fun pins s σ H Q I h => h pins s I⟩
theorem pt_max : PT X e (WT X e) := ⟨fun pins s σ H Q I h => h pins s I⟩
theorem pw_max : PW X e (WW X e) := ⟨fun whole pins s σ H Q I h => h whole pins s I⟩
theorem pa_max : PA X es (WA X es) := ⟨fun pos pins s σ H Q I h => h pos pins s I⟩
theorem PE.we {t : TE} {Q : VK} (h : PE X e t) (q : t σ H Q) : WE X e σ H Q := fun pins s I => h.run pins s σ H Q I q
theorem PT.wt {t : TT} {Q : Bool → Hp → Prop} (h : PT X e t) (q : t σ H Q) : WT X e σ H Q := fun pins s I => h.run pins s σ H Q I q
theorem PW.ww {t : TT} {Q : Bool → Hp → Prop} (h : PW X e t) (q : t σ H Q) : WW X e σ H Q := fun whole pins s I => h.run whole pins s σ H Q I q
theorem PA.wa {t : TA} {Q : List V → Hp → Prop} (h : PA X es t) (q : t σ H Q) : WA X es σ H Q := fun pos pins s I => h.run pos pins s σ H Q I q
theorem WE.imp {Q Q' : VK} (h : WE X e σ H Q) (i : ∀ v H', Q v H' → Q' v H') : WE X e σ H Q' := fun pins s I => thn (h pins s I) fun _ _ ⟨v, H', I', r, q⟩ => ⟨v, H', I', r, i _ _ q⟩
theorem WT.imp {Q Q' : Bool → Hp → Prop} (h : WT X e σ H Q) (i : ∀ v H', Q v H' → Q' v H') : WT X e σ H Q' := fun pins s I => thn (h pins s I) fun _ _ ⟨H', I', q⟩ => ⟨H', I', i _ _ q⟩
theorem WW.imp {Q Q' : Bool → Hp → Prop} (h : WW X e σ H Q) (i : ∀ v H', Q v H' → Q' v H') : WW X e σ H Q' := fun whole pins s I => thn (h whole pins s I) fun _ _ ⟨H', I', q⟩ => ⟨H', I', i _ _ q⟩
theorem WA.imp {Q Q' : List V → Hp → Prop} (h : WA X es σ H Q) (i : ∀ v H', Q v H' → Q' v H') : WA X es σ H Q' := fun pos pins s I => thn (h pos pins s I) fun _ _ ⟨vs, H', I', r, q⟩ => ⟨vs, H', I', r, i _ _ q⟩
theorem WW.wt {Q : Bool → Hp → Prop} (h : WW X e σ H Q) : WT X e σ H Q := fun pins s I => h _ pins s I
end
/-! an exception that the context takes -/
def XW (X : Cx) (cls : Value) (d : Option Addr) (σ : L2.St) (H : Hp) : Prop := ∀ u s', XE X (fun c e σ' H' => c = cls ∧ e = d ∧ σ' = σ ∧ H' = H) u s' → X.xe u s'
theorem takes_max {X : Cx} : Takes X (XW X) := fun u s' ⟨a, B, sI, pins, σ, H, cls, d, e, I, nb, up, sky, na, os, ag, w⟩ =>
  w u s' ⟨a, B, sI, pins, σ, H, cls, d, e, I, nb, up, sky, na, os, ag, rfl, rfl, rfl, rfl⟩
def Tk (X : Cx) (σ : L2.St) (G : Sto) (H : Hp) (xq : XQ) : Prop :=
  ∀ x cls d G' H', ExnRep X.K H' cls d x → Sim X.K G' H' → Ext X.K G H G' H' → xq x G' → XW X cls d σ H'
theorem Tk.step {X : Cx} {σ : L2.St} {G G1 : Sto} {H H1 : Hp} {xq : XQ} (t : Tk X σ G H xq) (e : Ext X.K G H G1 H1) : Tk X σ G1 H1 xq :=
  fun x cls d G' H' r s y q => t x cls d G' H' r s (e.trans y) q
theorem Tk.never {X : Cx} {σ : L2.St} {G : Sto} {H : Hp} : Tk X σ G H (fun _ _ => False) := fun _ _ _ _ _ _ _ _ q => q.elim
/-! lifted ends -/
def Lift (K : PySem.W.Frag) (G : Sto) (H : Hp) (Q : DQ) : VK := fun v H' => ∃ d G', Rep K H' v d ∧ Sim K G' H' ∧ Ext K G H G' H' ∧ Q d G'
def LiftB (K : PySem.W.Frag) (G : Sto) (H : Hp) (Q : BQ) : Bool → Hp → Prop := fun b H' => ∃ G', Sim K G' H' ∧ Ext K G H G' H' ∧ Q b G'
def LiftA (K : PySem.W.Frag) (G : Sto) (H : Hp) (Q : AQ) : List V → Hp → Prop := fun vs H' => ∃ ds G', Reps K H' vs ds ∧ Sim K G' H' ∧ Ext K G H G' H' ∧ Q ds G'
theorem Lift.back {K : PySem.W.Frag} {G G1 : Sto} {H H1 : Hp} {Q : DQ} (x : Ext K G H G1 H1) : ∀ v H', Lift K G1 H1 Q v H' → Lift K G H Q v H' :=
  fun _ _ ⟨d, G', r, s, e, q⟩ => ⟨d, G', r, s, x.trans e, q⟩
theorem LiftB.back {K : PySem.W.Frag} {G G1 : Sto} {H H1 : Hp} {Q : BQ} (x : Ext K G H G1 H1) : ∀ v H', LiftB K G1 H1 Q v H' → LiftB K G H Q v H' :=
  fun _ _ ⟨G', s, e, q⟩ => ⟨G', s, x.trans e, q⟩
theorem LiftA.back {K : PySem.W.Frag} {G G1 : Sto} {H H1 : Hp} {Q : AQ} (x : Ext K G H G1 H1) : ∀ v H', LiftA K G1 H1 Q v H' → LiftA K G H Q v H' :=
  fun _ _ ⟨d, G', r, s, e, q⟩ => ⟨d, G', r, s, x.trans e, q⟩
theorem Lift.here {K : PySem.W.Frag} {G : Sto} {H : Hp} {Q : DQ} {v : V} {d : D} (r : Rep K H v d) (s : Sim K G H) (q : Q d G) : Lift K G H Q v H := ⟨d, G, r, s, .refl, q⟩
/-! the judgements -/
structure QE (X : Cx) (e : Expr) (t : DE) : Prop where
  run : ∀ ρ G Q xq σ H, t ρ G Q xq → RepS X.K H σ ρ → Sim X.K G H → Tk X σ G H xq → WE X e σ H (Lift X.K G H Q)
structure QT (X : Cx) (e : Expr) (t : DT) : Prop where
  run : ∀ ρ G Q xq σ H, t ρ G Q xq → RepS X.K H σ ρ → Sim X.K G H → Tk X σ G H xq → WT X e σ H (LiftB X.K G H Q)
structure QW (X : Cx) (e : Expr) (t : DT) : Prop where
  run : ∀ ρ G Q xq σ H, t ρ G Q xq → RepS X.K H σ ρ → Sim X.K G H → Tk X σ G H xq → WW X e σ H (LiftB X.K G H Q)
structure QA (X : Cx) (es : List Expr) (t : DA) : Prop where
  run : ∀ ρ G Q xq σ H, t ρ G Q xq → RepS X.K H σ ρ → Sim X.K G H → Tk X σ G H xq → WA X es σ H (LiftA X.K G H Q)
theorem QW.qt {X : Cx} {e : Expr} {t : DT} (h : QW X e t) : QT X e t := ⟨fun ρ G Q xq σ H a b c d => (h.run ρ G Q xq σ H a b c d).wt⟩
section
variable {X : Cx} {a b c e : Expr} {es : List Expr} {pos : Pos} {ta tb tc te : DE}
/-! names, constants -/
def dVar (i : Nat) : DE := fun ρ G Q _ => match ρ[i]? with
  | some (some d) => Q d G
  | _ => False
theorem qe_var {i : Nat} {x : Str} (hN : X.N[i]? = some x) (hv : Vis X.env.scope x) (hd : (x == ("__debug__" : Str)) = false) (hcd : (x == ("__classdict__" : Str)) = false) : QE X (.Name x pos) (dVar i) := by
  refine ⟨fun ρ G Q xq σ H h r s tk => ?_⟩
  unfold dVar at h
  split at h
  · rename_i d e
    obtain ⟨v, h1, h2⟩ := r.at_ i d e
    exact PE.we (pe_var hN hv hd hcd) ⟨v, h1, Lift.here h2 s h⟩
  · exact h.elim
def dC (d : D) : DE := fun _ G Q _ => Q d G
theorem qe_int {i : Int} {j : Nat} : QE X (.Constant (.int i) j pos) (dC (.int i)) := ⟨fun _ _ _ _ _ _ h _ s _ => PE.we pe_int (Lift.here (.int i) s h)⟩
theorem qe_bl {i : Bool} {j : Nat} : QE X (.Constant (.bool i) j pos) (dC (.bl i)) := ⟨fun _ _ _ _ _ _ h _ s _ => PE.we pe_bl (Lift.here (.bl i) s h)⟩
theorem qe_non {j : Nat} : QE X (.Constant .none j pos) (dC .non) := ⟨fun _ _ _ _ _ _ h _ s _ => PE.we pe_non (Lift.here .non s h)⟩
theorem qe_str {i : Str} {j : Nat} : QE X (.Constant (.str i) j pos) (dC (.str i)) := ⟨fun _ _ _ _ _ _ h _ s _ => PE.we pe_str (Lift.here (.str i) s h)⟩
/-- a constant of the module -/
def Glb (X : Cx) (x : Str) (d : D) : Prop := ∃ v u, X.mg x = some u ∧ RelV v u ∧ ∀ H, Rep X.K H v d
theorem qe_glb {x : Str} {d : D} (hg : Gl X x) (g : Glb X x d) (hd : (x == ("__debug__" : Str)) = false) : QE X (.Name x pos) (dC d) := by
  obtain ⟨v, u, h1, h2, h3⟩ := g
  exact ⟨fun _ _ _ _ _ H h _ s _ => PE.we (pe_glob hg h1 h2 hd) (Lift.here (h3 H) s h)⟩
/-- a built-in type by its name -/
theorem qe_ty {x : Str} {n : String} (hg : Gl X x) (hm : X.mg x = none) (hv : bootBuiltins x = some (.type n)) (hn : x ≠ "__name__") (hd : (x == ("__debug__" : Str)) = false) : QE X (.Name x pos) (dC (.ty n)) :=
  ⟨fun _ _ _ _ _ H h _ s _ => PE.we (pe_bltn (v := .ty n) hg hm hv rfl hn hd) (Lift.here (.ty n) s h)⟩
/-! two in a row -/
abbrev DR2 := D → D → Sto → DQ → Prop
def dOp (r : DR2) (ta tb : DE) : DE := fun ρ G Q xq => ta ρ G (fun x G1 => tb ρ G1 (fun y G2 => r x y G2 Q) xq) xq
/-- an operation by values at the level of data -/
def WO (X : Cx) (f : Value → Value → Sem Value) (v u : V) (σ : L2.St) (H : Hp) (R : VK) : Prop :=
  ∀ pins s v' u', Inv X pins σ H s → RelV v v' → RelV u u' → wpAny (model X.prog X.w) X.A (f v' u') (EP X pins σ R) X.xe s
def OpD (X : Cx) (f : Value → Value → Sem Value) (r : DR2) : Prop :=
  ∀ x y G Q v u σ H, r x y G Q → Rep X.K H v x → Rep X.K H u y → Sim X.K G H → WO X f v u σ H (Lift X.K G H Q)
theorem op_max {f : Value → Value → Sem Value} : OpR X f (fun v u H R => ∀ σ, WO X f v u σ H R) := fun pins s σ H x y v u Q I rx ry h => h σ pins s v u I rx ry
theorem OpR.wo {f : Value → Value → Sem Value} {r : R2} {v u : V} {σ : L2.St} {H : Hp} {R : VK} (h : OpR X f r) (q : r v u H R) : WO X f v u σ H R := fun pins s v' u' I rx ry => h pins s σ H v u v' u' R I rx ry q
theorem WO.imp {f : Value → Value → Sem Value} {v u : V} {σ : L2.St} {H : Hp} {R R' : VK} (h : WO X f v u σ H R) (i : ∀ v H', R v H' → R' v H') : WO X f v u σ H R' :=
  fun pins s v' u' I rx ry => thn (h pins s v' u' I rx ry) fun _ _ ⟨v, H', I', r, q⟩ => ⟨v, H', I', r, i _ _ q⟩
/-- two readings in a row, then what the values ask -/
theorem two_ {ta tb : DE} (ha : QE X a ta) (hb : QE X b tb) {ρ : Ev} {G : Sto} {xq : XQ} {σ : L2.St} {H : Hp} {K2 : D → D → Sto → Prop} {R : V → V → Hp → Prop}
    (h : ta ρ G (fun x G1 => tb ρ G1 (fun y G2 => K2 x y G2) xq) xq) (r : RepS X.K H σ ρ) (s : Sim X.K G H) (tk : Tk X σ G H xq)
    (hk : ∀ x y v u G2 H2, K2 x y G2 → Rep X.K H2 v x → Rep X.K H2 u y → Sim X.K G2 H2 → Ext X.K G H G2 H2 → R v u H2) :
    WE X a σ H fun v H1 => WE X b σ H1 fun u H2 => R v u H2 :=
  (ha.run ρ G _ xq σ H h r s tk).imp fun v H1 ⟨x, G1, rx, s1, e1, q1⟩ =>
    (hb.run ρ G1 _ xq σ H1 q1 (r.mono e1.tup) s1 (tk.step e1)).imp fun u H2 ⟨y, G2, ry, s2, e2, q2⟩ =>
      hk x y v u G2 H2 q2 (rx.mono e2.tup) ry s2 (e1.trans e2)
theorem OpD.op {op : Operator} {r : DR2} (ho : OpD X (binaryOp op) r) (ha : QE X a ta) (hb : QE X b tb) : QE X (.BinOp a op b pos) (dOp r ta tb) := by
  refine ⟨fun ρ G Q xq σ H h rs s tk => ?_⟩
  refine PE.we (pe_op (r := fun v u H2 R => ∀ σ, WO X (binaryOp op) v u σ H2 R) op_max pe_max pe_max) ?_
  exact two_ ha hb h rs s tk fun x y v u G2 H2 q rx ry s2 e2 σ' => (ho x y G2 Q v u σ' H2 q rx ry s2).imp (Lift.back e2)
theorem OpD.cmp {op : CmpOp} {r : DR2} (ho : OpD X (compareOp op) r) (ha : QE X a ta) (hb : QE X b tb) (hm : behindInMarks op b = false) : QE X (.Compare a [op] [b] pos) (dOp r ta tb) := by
  refine ⟨fun ρ G Q xq σ H h rs s tk => ?_⟩
  refine PE.we (pe_cmpR (r := fun v u H2 R => ∀ σ, WO X (compareOp op) v u σ H2 R) op_max pe_max pe_max hm) ?_
  exact two_ ha hb h rs s tk fun x y v u G2 H2 q rx ry s2 e2 σ' => (ho x y G2 Q v u σ' H2 q rx ry s2).imp (Lift.back e2)
/-- what is asked of a truth -/
def asB (Q : BQ) : DQ := fun d G => match d with
  | .bl k => Q k G
  | _ => False
theorem asB_of {K : PySem.W.Frag} {Q : BQ} {d : D} {G : Sto} {v : V} {H : Hp} (h : asB Q d G) (r : Rep K H v d) : ∃ k, v = .bl k ∧ Q k G := by
  cases d with
  | bl k =>
    cases r
    exact ⟨k, rfl, h⟩
  | _ => exact False.elim h
def dTest (t : DE) : DT := fun ρ G Q xq => t ρ G (asB Q) xq
theorem OpD.cmpT {op : CmpOp} {r : DR2} (ho : OpD X (compareOp op) r) (ha : QE X a ta) (hb : QE X b tb) (hm : behindInMarks op b = false) : QT X (.Compare a [op] [b] pos) (dTest (dOp r ta tb)) := by
  refine ⟨fun ρ G Q xq σ H h rs s tk => ?_⟩
  refine PT.wt (pt_cmpR (r := fun v u H2 R => ∀ σ, WO X (compareOp op) v u σ H2 R) op_max pe_max pe_max hm) ?_
  refine two_ ha hb h rs s tk fun x y v u G2 H2 q rx ry s2 e2 σ' => (ho x y G2 _ v u σ' H2 q rx ry s2).imp fun w H3 ⟨d, G3, r3, s3, e3, q3⟩ => ?_
  obtain ⟨k, rfl, q4⟩ := asB_of q3 r3
  exact ⟨k, rfl, G3, s3, e2.trans e3, q4⟩
/-- a chain of two -/
def dChn (r r' : DR2) (ta tb tc : DE) : DE := fun ρ G Q xq => ta ρ G (fun x G1 => tb ρ G1 (fun y G2 => r x y G2 (asB fun k G3 => if k = true then tc ρ G3 (fun z G4 => r' y z G4 Q) xq else Q (.bl false) G3)) xq) xq
theorem chn_ {op op' : CmpOp} {r r' : DR2} (ho : OpD X (compareOp op) r) (ho' : OpD X (compareOp op') r') (ha : QE X a ta) (hb : QE X b tb) (hc : QE X c tc) {ρ : Ev} {G : Sto} {xq : XQ} {σ : L2.St} {H : Hp} {Q : DQ} {R : VK}
    (h : dChn r r' ta tb tc ρ G Q xq) (rs : RepS X.K H σ ρ) (s : Sim X.K G H) (tk : Tk X σ G H xq) (hR : ∀ v H', Lift X.K G H Q v H' → R v H') :
    tChain (fun v u H2 R => WO X (compareOp op) v u σ H2 R) (fun v u H2 R => WO X (compareOp op') v u σ H2 R) (WE X a) (WE X b) (WE X c) σ H R := by
  refine two_ ha hb h rs s tk fun x y v u G2 H2 q rx ry s2 e2 => (ho x y G2 _ v u σ H2 q rx ry s2).imp fun w H3 ⟨d, G3, r3, s3, e3, q3⟩ => ?_
  obtain ⟨k, rfl, q4⟩ := asB_of q3 r3
  refine ⟨k, rfl, ?_⟩
  have e23 := e2.trans e3
  cases k with
  | true =>
    simp only [if_true] at q4 ⊢
    refine (hc.run ρ G3 _ xq σ H3 q4 (rs.mono e23.tup) s3 (tk.step e23)).imp fun w H4 ⟨z, G4, r4, s4, e4, q5⟩ => ?_
    exact (ho' y z G4 Q u w σ H4 q5 ((ry.mono e3.tup).mono e4.tup) r4 s4).imp fun v' H' l => hR _ _ (Lift.back (e23.trans e4) _ _ l)
  | false =>
    simp only [Bool.false_eq_true, if_false] at q4 ⊢
    exact hR _ _ ⟨.bl false, G3, .bl false, s3, e23, q4⟩
theorem op_at {f : Value → Value → Sem Value} {σ0 : L2.St} : OpR X f (fun v u H R => ∀ σ, WO X f v u σ H R) := op_max
theorem tChain_at {r r' : L2.St → R2} {ta tb tc : TE} {σ : L2.St} {H : Hp} {R : VK} (h : tChain (r σ) (r' σ) ta tb tc σ H R) : tChain (r σ) (r' σ) ta tb tc σ H R := h
theorem qe_chn {op op' : CmpOp} {r r' : DR2} (ho : OpD X (compareOp op) r) (ho' : OpD X (compareOp op') r') (ha : QE X a ta) (hb : QE X b tb) (hc : QE X c tc) (hm : lastMarks [op, op'] [b, c] = false) :
    QE X (.Compare a [op, op'] [b, c] pos) (dChn r r' ta tb tc) := by
  refine ⟨fun ρ G Q xq σ H h rs s tk => ?_⟩
  intro pins s1 I
  have ho1 : OpR (X := X) (compareOp op) (fun v u H2 R => ∀ σ, WO X (compareOp op) v u σ H2 R) := op_max
  have ho2 : OpR (X := X) (compareOp op') (fun v u H2 R => ∀ σ, WO X (compareOp op') v u σ H2 R) := op_max
  refine (pe_chain (pos := pos) ho1 ho2 (pe_max (e := a)) (pe_max (e := b)) (pe_max (e := c)) hm).run pins s1 σ H _ I ?_
  refine two_ ha hb h rs s tk fun x y v u G2 H2 q rx ry s2 e2 => fun σ' => (ho x y G2 _ v u σ' H2 q rx ry s2).imp fun w H3 ⟨d, G3, r3, s3, e3, q3⟩ => ?_
  obtain ⟨k, rfl, q4⟩ := asB_of q3 r3
  refine ⟨k, rfl, ?_⟩
  have e23 := e2.trans e3
  cases k with
  | true =>
    simp only [if_true] at q4 ⊢
    refine (hc.run ρ G3 _ xq σ H3 q4 (rs.mono e23.tup) s3 (tk.step e23)).imp fun w H4 ⟨z, G4, r4, s4, e4, q5⟩ => fun σ'' => ?_
    exact (ho' y z G4 Q u w σ'' H4 q5 ((ry.mono e3.tup).mono e4.tup) r4 s4).imp fun v' H' l => Lift.back (e23.trans e4) _ _ l
  | false =>
    simp only [Bool.false_eq_true, if_false] at q4 ⊢
    exact ⟨.bl false, G3, .bl false, s3, e23, q4⟩
theorem qt_chn {op op' : CmpOp} {r r' : DR2} (ho : OpD X (compareOp op) r) (ho' : OpD X (compareOp op') r') (ha : QE X a ta) (hb : QE X b tb) (hc : QE X c tc) (hm : lastMarks [op, op'] [b, c] = false) :
    QT X (.Compare a [op, op'] [b, c] pos) (dTest (dChn r r' ta tb tc)) := by
  refine ⟨fun ρ G Q xq σ H h rs s tk => ?_⟩
  intro pins s1 I
  have ho1 : OpR (X := X) (compareOp op) (fun v u H2 R => ∀ σ, WO X (compareOp op) v u σ H2 R) := op_max
  have ho2 : OpR (X := X) (compareOp op') (fun v u H2 R => ∀ σ, WO X (compareOp op') v u σ H2 R) := op_max
  refine (pt_chain (pos := pos) ho1 ho2 (pe_max (e := a)) (pe_max (e := b)) (pe_max (e := c)) hm).run pins s1 σ H _ I ?_
  refine two_ ha hb h rs s tk fun x y v u G2 H2 q rx ry s2 e2 => fun σ' => (ho x y G2 _ v u σ' H2 q rx ry s2).imp fun w H3 ⟨d, G3, r3, s3, e3, q3⟩ => ?_
  obtain ⟨k, rfl, q4⟩ := asB_of q3 r3
  refine ⟨k, rfl, ?_⟩
  have e23 := e2.trans e3
  cases k with
  | true =>
    simp only [if_true] at q4 ⊢
    refine (hc.run ρ G3 _ xq σ H3 q4 (rs.mono e23.tup) s3 (tk.step e23)).imp fun w H4 ⟨z, G4, r4, s4, e4, q5⟩ => fun σ'' => ?_
    refine (ho' y z G4 _ u w σ'' H4 q5 ((ry.mono e3.tup).mono e4.tup) r4 s4).imp fun v' H' ⟨d5, G5, r5, s5, e5, q6⟩ => ?_
    obtain ⟨k, rfl, q7⟩ := asB_of q6 r5
    exact ⟨k, rfl, G5, s5, (e23.trans e4).trans e5, q7⟩
  | false =>
    simp only [Bool.false_eq_true, if_false] at q4 ⊢
    exact ⟨false, rfl, G3, s3, e23, q4⟩
/-! one -/
abbrev DR1 := D → Sto → DQ → Prop
def dUn (r : DR1) (ta : DE) : DE := fun ρ G Q xq => ta ρ G (fun x G1 => r x G1 Q) xq
def negD : DR1 := fun x G Q => match x with
  | .int i => Q (.int (-i)) G
  | _ => False
theorem qe_neg (ha : QE X a ta) : QE X (.UnaryOp .USub a pos) (dUn negD ta) := by
  refine ⟨fun ρ G Q xq σ H h rs s tk => ?_⟩
  refine PE.we (pe_un un_neg pe_max) ((ha.run ρ G _ xq σ H h rs s tk).imp fun v H1 ⟨x, G1, rx, s1, e1, q1⟩ => ?_)
  cases x with
  | int i =>
    cases rx
    exact ⟨i, rfl, .int (-i), G1, .int _, s1, e1, q1⟩
  | _ => exact False.elim q1
/-! truth -/
def truD (d : D) (G : Sto) (Q : BQ) : Prop := match d with
  | .non => Q false G
  | .bl b => Q b G
  | .int i => Q (i != 0) G
  | .str y => y.length ≤ sizeLine ∧ Q ((y.length : Int) != 0) G
  | .tup ds => Q (!ds.isEmpty) G
  | .ref a => ∃ ds, G a = some (.lst ds) ∧ Q (!ds.isEmpty) G
  | .ty _ => False
  | .rl _ => False
theorem Reps.emp {K : PySem.W.Frag} {H : Hp} {vs : List V} {ds : List D} (h : Reps K H vs ds) : vs.isEmpty = ds.isEmpty := by cases h <;> rfl
theorem tru_ {K : PySem.W.Frag} {d : D} {G : Sto} {Q : BQ} {v : V} {H : Hp} (h : truD d G Q) (r : Rep K H v d) (s : Sim K G H) : ∃ k, TruV K v H k ∧ Q k G := by
  cases d with
  | non => cases r; exact ⟨false, rfl, h⟩
  | bl b => cases r; exact ⟨b, rfl, h⟩
  | int i => cases r; exact ⟨_, rfl, h⟩
  | str y => cases r; exact ⟨_, ⟨h.1, rfl⟩, h.2⟩
  | tup ds =>
    cases r with
    | tup hs rs => exact ⟨_, .inr (.inl ⟨_, hs, rfl⟩), by rw [rs.emp]; exact h⟩
  | ref a =>
    cases r
    obtain ⟨ds, hg, q⟩ := h
    obtain ⟨vs, h1, h2⟩ := s a _ hg
    exact ⟨_, .inl ⟨vs, .of h1, rfl⟩, by rw [h2.emp]; exact q⟩
  | ty n => exact False.elim h
  | rl n => exact False.elim h
def dTru (t : DE) : DT := fun ρ G Q xq => t ρ G (fun d G1 => truD d G1 Q) xq
theorem qt_val (ha : QE X a ta) (he : ∀ whole, isTrue a X.env whole = (do let v ← whole; standAt a.pos; holding [v] (truthy v))) : QT X a (dTru ta) := by
  refine ⟨fun ρ G Q xq σ H h rs s tk => ?_⟩
  refine PT.wt (pt_truth pe_max he) ((ha.run ρ G _ xq σ H h rs s tk).imp fun v H1 ⟨x, G1, rx, s1, e1, q1⟩ => ?_)
  obtain ⟨k, h1, h2⟩ := tru_ q1 rx s1
  exact ⟨k, h1, G1, s1, e1, h2⟩
variable {tA tB' : DT} {rest : List Expr}
def dNotT (t : DT) : DT := fun ρ G Q xq => t ρ G (fun k G1 => Q (!k) G1) xq
theorem qt_not (ha : QT X a tA) : QT X (.UnaryOp .Not a pos) (dNotT tA) := by
  refine ⟨fun ρ G Q xq σ H h rs s tk => ?_⟩
  exact PT.wt (pt_not pt_max) ((ha.run ρ G _ xq σ H h rs s tk).imp fun k H1 ⟨G1, s1, e1, q1⟩ => ⟨G1, s1, e1, q1⟩)
def dAndT (t u : DT) : DT := fun ρ G Q xq => t ρ G (fun k G1 => if k = true then u ρ G1 Q xq else Q false G1) xq
def dOrT (t u : DT) : DT := fun ρ G Q xq => t ρ G (fun k G1 => if k = true then Q true G1 else u ρ G1 Q xq) xq
theorem qw_and1 (ha : QT X a tA) : QW X (.BoolOp .And [a] pos) tA := ⟨fun ρ G Q xq σ H h rs s tk => PW.ww (pw_and1 pt_max) (ha.run ρ G Q xq σ H h rs s tk)⟩
theorem qw_or1 (ha : QT X a tA) : QW X (.BoolOp .Or [a] pos) tA := ⟨fun ρ G Q xq σ H h rs s tk => PW.ww (pw_or1 pt_max) (ha.run ρ G Q xq σ H h rs s tk)⟩
theorem qw_and (ha : QT X a tA) (hb : QW X (.BoolOp .And (b :: rest) pos) tB') : QW X (.BoolOp .And (a :: b :: rest) pos) (dAndT tA tB') := by
  refine ⟨fun ρ G Q xq σ H h rs s tk => ?_⟩
  refine PW.ww (pw_and pt_max pw_max) ((ha.run ρ G _ xq σ H h rs s tk).imp fun k H1 ⟨G1, s1, e1, q1⟩ => ?_)
  cases k with
  | true =>
    simp only [if_true] at q1 ⊢
    exact (hb.run ρ G1 Q xq σ H1 q1 (rs.mono e1.tup) s1 (tk.step e1)).imp (LiftB.back e1)
  | false =>
    simp only [Bool.false_eq_true, if_false] at q1 ⊢
    exact ⟨G1, s1, e1, q1⟩
theorem qw_or (ha : QT X a tA) (hb : QW X (.BoolOp .Or (b :: rest) pos) tB') : QW X (.BoolOp .Or (a :: b :: rest) pos) (dOrT tA tB') := by
  refine ⟨fun ρ G Q xq σ H h rs s tk => ?_⟩
  refine PW.ww (pw_or pt_max pw_max) ((ha.run ρ G _ xq σ H h rs s tk).imp fun k H1 ⟨G1, s1, e1, q1⟩ => ?_)
  cases k with
  | true =>
    simp only [if_true] at q1 ⊢
    exact ⟨G1, s1, e1, q1⟩
  | false =>
    simp only [Bool.false_eq_true, if_false] at q1 ⊢
    exact (hb.run ρ G1 Q xq σ H1 q1 (rs.mono e1.tup) s1 (tk.step e1)).imp (LiftB.back e1)
/-! values by truth -/
theorem qe_one {op : BoolOp} (h : QE X a ta) : QE X (.BoolOp op [a] pos) ta := ⟨fun ρ G Q xq σ H q rs s tk => PE.we (pe_one pe_max) (h.run ρ G Q xq σ H q rs s tk)⟩
def dAndV (t u : DE) : DE := fun ρ G Q xq => t ρ G (fun d G1 => truD d G1 fun k G2 => if k = true then u ρ G2 Q xq else Q d G2) xq
def dOrV (t u : DE) : DE := fun ρ G Q xq => t ρ G (fun d G1 => truD d G1 fun k G2 => if k = true then Q d G2 else u ρ G2 Q xq) xq
def dNotV (t : DE) : DE := fun ρ G Q xq => t ρ G (fun d G1 => truD d G1 fun k G2 => Q (.bl (!k)) G2) xq
theorem tru_same {d : D} {G : Sto} {Q : BQ} (h : truD d G Q) : truD d G fun k G' => G' = G ∧ Q k G := by
  cases d with
  | non => exact ⟨rfl, h⟩
  | bl b => exact ⟨rfl, h⟩
  | int i => exact ⟨rfl, h⟩
  | str y => exact ⟨h.1, rfl, h.2⟩
  | tup ds => exact ⟨rfl, h⟩
  | ref a => obtain ⟨ds, g, q⟩ := h; exact ⟨ds, g, rfl, q⟩
  | ty n => exact h
  | rl n => exact h
theorem qe_and (ha : QE X a ta) (hb : QE X (.BoolOp .And (b :: rest) pos) tb) : QE X (.BoolOp .And (a :: b :: rest) pos) (dAndV ta tb) := by
  refine ⟨fun ρ G Q xq σ H h rs s tk => ?_⟩
  refine PE.we (pe_andT pe_max pe_max) ((ha.run ρ G _ xq σ H h rs s tk).imp fun v H1 ⟨x, G1, rx, s1, e1, q1⟩ => ?_)
  obtain ⟨k, h1, h2⟩ := tru_ q1 rx s1
  refine ⟨k, h1, ?_⟩
  cases k with
  | true =>
    simp only [if_true] at h2 ⊢
    exact (hb.run ρ G1 Q xq σ H1 h2 (rs.mono e1.tup) s1 (tk.step e1)).imp (Lift.back e1)
  | false =>
    simp only [Bool.false_eq_true, if_false] at h2 ⊢
    exact ⟨x, G1, rx, s1, e1, h2⟩
theorem qe_or (ha : QE X a ta) (hb : QE X (.BoolOp .Or (b :: rest) pos) tb) : QE X (.BoolOp .Or (a :: b :: rest) pos) (dOrV ta tb) := by
  refine ⟨fun ρ G Q xq σ H h rs s tk => ?_⟩
  refine PE.we (pe_orT pe_max pe_max) ((ha.run ρ G _ xq σ H h rs s tk).imp fun v H1 ⟨x, G1, rx, s1, e1, q1⟩ => ?_)
  obtain ⟨k, h1, h2⟩ := tru_ q1 rx s1
  refine ⟨k, h1, ?_⟩
  cases k with
  | true =>
    simp only [if_true] at h2 ⊢
    exact ⟨x, G1, rx, s1, e1, h2⟩
  | false =>
    simp only [Bool.false_eq_true, if_false] at h2 ⊢
    exact (hb.run ρ G1 Q xq σ H1 h2 (rs.mono e1.tup) s1 (tk.step e1)).imp (Lift.back e1)
theorem qe_not (ha : QE X a ta) : QE X (.UnaryOp .Not a pos) (dNotV ta) := by
  refine ⟨fun ρ G Q xq σ H h rs s tk => ?_⟩
  refine PE.we (pe_notT pe_max) ((ha.run ρ G _ xq σ H h rs s tk).imp fun v H1 ⟨x, G1, rx, s1, e1, q1⟩ => ?_)
  obtain ⟨k, h1, h2⟩ := tru_ q1 rx s1
  exact ⟨k, h1, .bl (!k), G1, .bl _, s1, e1, h2⟩
def dIfE (t : DT) (ta tb : DE) : DE := fun ρ G Q xq => t ρ G (fun k G1 => if k = true then ta ρ G1 Q xq else tb ρ G1 Q xq) xq
theorem qe_ife (hc : QT X c tA) (ha : QE X a ta) (hb : QE X b tb) : QE X (.IfExp c a b pos) (dIfE tA ta tb) := by
  refine ⟨fun ρ G Q xq σ H h rs s tk => ?_⟩
  refine PE.we (pe_ifExp pt_max pe_max pe_max) ((hc.run ρ G _ xq σ H h rs s tk).imp fun k H1 ⟨G1, s1, e1, q1⟩ => ?_)
  cases k with
  | true =>
    simp only [if_true] at q1 ⊢
    exact (ha.run ρ G1 Q xq σ H1 q1 (rs.mono e1.tup) s1 (tk.step e1)).imp (Lift.back e1)
  | false =>
    simp only [Bool.false_eq_true, if_false] at q1 ⊢
    exact (hb.run ρ G1 Q xq σ H1 q1 (rs.mono e1.tup) s1 (tk.step e1)).imp (Lift.back e1)
/-! argument lists, displays -/
def dNil : DA := fun _ G Q _ => Q [] G
def dCons (t : DE) (u : DA) : DA := fun ρ G Q xq => t ρ G (fun d G1 => u ρ G1 (fun ds G2 => Q (d :: ds) G2) xq) xq
variable {tas : DA}
theorem qa_nil : QA X [] dNil := ⟨fun ρ G Q xq σ H h rs s tk => PA.wa pa_nil ⟨[], G, .nil, s, .refl, h⟩⟩
theorem qa_cons (ha : QE X e te) (hr : QA X es tas) (hs : starEach (e :: es) X.env = (false, eval e X.env) :: starEach es X.env) : QA X (e :: es) (dCons te tas) := by
  refine ⟨fun ρ G Q xq σ H h rs s tk => ?_⟩
  refine PA.wa (pa_cons pe_max pa_max hs) ((ha.run ρ G _ xq σ H h rs s tk).imp fun v H1 ⟨x, G1, rx, s1, e1, q1⟩ => ?_)
  exact (hr.run ρ G1 _ xq σ H1 q1 (rs.mono e1.tup) s1 (tk.step e1)).imp fun vs H2 ⟨ds, G2, r2, s2, e2, q2⟩ => ⟨x :: ds, G2, .cons (rx.mono e2.tup) r2, s2, e1.trans e2, q2⟩
def dTup (t : DA) : DE := fun ρ G Q xq => t ρ G (fun ds G1 => ds.length ≤ sizeLine ∧ Q (.tup ds) G1) xq
def dLst (t : DA) : DE := fun ρ G Q xq => t ρ G (fun ds G1 => ds.length ≤ sizeLine ∧ ∀ p, G1 p = none → Q (.ref p) (put G1 p (.lst ds))) xq
theorem lift_tup {K : PySem.W.Frag} {G : Sto} {H : Hp} {Q : DQ} {ds : List D} {vs : List V} {p : Addr} (r : Reps K H vs ds) (s : Sim K G H) (q : Q (.tup ds) G) (hp : H p = none) : Lift K G H Q (.ref p) (upd H p (.tup vs)) :=
  ⟨.tup ds, G, .tup (.of upd_same) (r.mono (tup_new hp)), s.newT hp, .newT hp, q⟩
theorem lift_lst {K : PySem.W.Frag} {G : Sto} {H : Hp} {Q : DQ} {ds : List D} {vs : List V} {p : Addr} (r : Reps K H vs ds) (s : Sim K G H) (q : ∀ p, G p = none → Q (.ref p) (put G p (.lst ds))) (hp : H p = none) : Lift K G H Q (.ref p) (upd H p (.lst vs)) :=
  ⟨.ref p, put G p (.lst ds), .ref p, s.new hp ⟨vs, upd_same, r.mono (tup_new hp)⟩, .new hp, q p (s.free hp)⟩
theorem qe_tup {k : Nat} (h : QA X es tas) : QE X (.Tuple es k pos) (dTup tas) := by
  refine ⟨fun ρ G Q xq σ H hq rs s tk => ?_⟩
  refine PE.we (pe_tup pa_max) ((h.run ρ G _ xq σ H hq rs s tk).imp fun vs H1 ⟨ds, G1, r1, s1, e1, l1, q1⟩ => ?_)
  exact ⟨by rw [r1.length]; exact l1, fun p hp => Lift.back e1 _ _ (lift_tup r1 s1 q1 hp)⟩
theorem qe_lst (h : QA X es tas) : QE X (.List es pos) (dLst tas) := by
  refine ⟨fun ρ G Q xq σ H hq rs s tk => ?_⟩
  refine PE.we (pe_lst pa_max) ((h.run ρ G _ xq σ H hq rs s tk).imp fun vs H1 ⟨ds, G1, r1, s1, e1, l1, q1⟩ => ?_)
  exact ⟨by rw [r1.length]; exact l1, fun p hp => Lift.back e1 _ _ (lift_lst r1 s1 q1 hp)⟩
end
end DL

namespace DL
open PySem PySem.Spec PyProof.Rows L2
section
variable {X : Cx}
/-! operators -/
def addD : DR2 := fun x y G Q => match x, y with
  | .int i, .int j => Q (.int (i + j)) G
  | .bl i, .int j => Q (.int ((if i = true then 1 else 0) + j)) G
  | .str i, .str j => i.length + j.length ≤ sizeLine ∧ Q (.str (i ++ j)) G
  | .tup xs, .tup ys => xs.length + ys.length ≤ sizeLine ∧ Q (.tup (xs ++ ys)) G
  | .ref a, .ref b => ∃ xs ys, G a = some (.lst xs) ∧ G b = some (.lst ys) ∧ xs.length + ys.length ≤ sizeLine ∧ ∀ p, G p = none → Q (.ref p) (put G p (.lst (xs ++ ys)))
  | _, _ => False
theorem Reps.nil_of {K : PySem.W.Frag} {H : Hp} {vs : List V} (h : Reps K H vs []) : vs = [] := by cases h; rfl
theorem op_add_bi : OpR X (binaryOp .Add) (fun x y H Q => ∃ (b : Bool) (i : Int), x = .bl b ∧ y = .int i ∧ Q (.int ((if b = true then 1 else 0) + i)) H) := by
  intro pins s σ H x y v u Q I rx ry h
  obtain ⟨b, i, rfl, rfl, q⟩ := h
  obtain rfl : v = Value.bool b := rx
  obtain ⟨t, rfl⟩ := ry
  exact IntBool.add_bool_int ⟨.int _, H, I.tok _, ⟨_, rfl⟩, q⟩
theorem op_sub_bi : OpR X (binaryOp .Sub) (fun x y H Q => ∃ (b : Bool) (i : Int), x = .bl b ∧ y = .int i ∧ Q (.int ((if b = true then 1 else 0) - i)) H) := by
  intro pins s σ H x y v u Q I rx ry h
  obtain ⟨b, i, rfl, rfl, q⟩ := h
  obtain rfl : v = Value.bool b := rx
  obtain ⟨t, rfl⟩ := ry
  exact IntBool.sub_bool_int ⟨.int _, H, I.tok _, ⟨_, rfl⟩, q⟩
theorem op_sub_ib : OpR X (binaryOp .Sub) (fun x y H Q => ∃ (i : Int) (b : Bool), x = .int i ∧ y = .bl b ∧ Q (.int (i - (if b = true then 1 else 0))) H) := by
  intro pins s σ H x y v u Q I rx ry h
  obtain ⟨i, b, rfl, rfl, q⟩ := h
  obtain ⟨t, rfl⟩ := rx
  obtain rfl : u = Value.bool b := ry
  exact IntBool.sub_int_bool ⟨.int _, H, I.tok _, ⟨_, rfl⟩, q⟩
theorem op_addD : OpD X (binaryOp .Add) addD := by
  intro x y G Q v u σ H h rx ry s
  unfold addD at h
  split at h
  · cases rx; cases ry
    exact OpR.wo op_add ⟨_, _, rfl, rfl, Lift.here (.int _) s h⟩
  · cases rx; cases ry
    exact OpR.wo op_add_bi ⟨_, _, rfl, rfl, Lift.here (.int _) s h⟩
  · cases rx; cases ry
    exact OpR.wo op_add_str ⟨_, _, rfl, rfl, h.1, Lift.here (.str _) s h.2⟩
  · cases rx with
    | tup h1 r1 =>
      cases ry with
      | tup h2 r2 =>
        refine OpR.wo op_catA ⟨_, _, _, _, rfl, rfl, h1, h2, by rw [r1.length, r2.length]; exact h.1, fun e => ?_, fun _ e => ?_, fun _ _ p hp => lift_tup (r1.append r2) s h.2 hp⟩
        · subst e
          cases r1
          exact Lift.here (.tup h2 r2) s h.2
        · subst e
          cases r2
          have q := h.2
          rw [List.append_nil] at q
          exact Lift.here (.tup h1 r1) s q
  · cases rx; cases ry
    obtain ⟨xs, ys, g1, g2, hl, q⟩ := h
    obtain ⟨vs, h1, r1⟩ := s _ _ g1
    obtain ⟨us, h2, r2⟩ := s _ _ g2
    exact OpR.wo op_cat ⟨_, _, _, _, rfl, rfl, h1, h2, by rw [r1.length, r2.length]; exact hl, fun p hp => lift_lst (r1.append r2) s q hp⟩
  · exact h.elim
def intD (C : Int → Int → Prop) (g : Int → Int → Int) : DR2 := fun x y G Q => match x, y with
  | .int i, .int j => C i j ∧ Q (.int (g i j)) G
  | _, _ => False
theorem op_intD {f : Value → Value → Sem Value} {C : Int → Int → Prop} {g : Int → Int → Int} (h : OpR X f (rI C fun i j => .int (g i j))) : OpD X f (intD C g) := by
  intro x y G Q v u σ H q rx ry s
  unfold intD at q
  split at q
  · cases rx; cases ry
    exact OpR.wo h ⟨_, _, rfl, rfl, q.1, Lift.here (.int _) s q.2⟩
  · exact q.elim
theorem rI_or {f : Value → Value → Sem Value} {C C' : Int → Int → Prop} {g : Int → Int → V} (h : OpR X f (rI C g)) (h' : OpR X f (rI C' g)) : OpR X f (rI (fun i j => C i j ∨ C' i j) g) := by
  intro pins s σ H x y v u Q I rx ry q
  obtain ⟨i, j, e1, e2, c | c, q⟩ := q
  · exact h pins s σ H x y v u Q I rx ry ⟨i, j, e1, e2, c, q⟩
  · exact h' pins s σ H x y v u Q I rx ry ⟨i, j, e1, e2, c, q⟩
theorem rI_of {f : Value → Value → Sem Value} {g : Int → Int → V} (h : OpR X f (rI0 g)) : OpR X f (rI (fun _ _ => True) g) := by
  intro pins s σ H x y v u Q I rx ry q
  obtain ⟨i, j, e1, e2, _, q⟩ := q
  exact h pins s σ H x y v u Q I rx ry ⟨i, j, e1, e2, q⟩
def subD : DR2 := fun x y G Q => match x, y with
  | .int i, .int j => Q (.int (i - j)) G
  | .bl i, .int j => Q (.int ((if i = true then 1 else 0) - j)) G
  | .int i, .bl j => Q (.int (i - (if j = true then 1 else 0))) G
  | _, _ => False
theorem op_subD : OpD X (binaryOp .Sub) subD := by
  intro x y G Q v u σ H h rx ry s
  unfold subD at h
  split at h
  · cases rx; cases ry
    exact OpR.wo op_sub ⟨_, _, rfl, rfl, Lift.here (.int _) s h⟩
  · cases rx; cases ry
    exact OpR.wo op_sub_bi ⟨_, _, rfl, rfl, Lift.here (.int _) s h⟩
  · cases rx; cases ry
    exact OpR.wo op_sub_ib ⟨_, _, rfl, rfl, Lift.here (.int _) s h⟩
  · exact h.elim
def fdivD : DR2 := fun x y G Q => match x, y with
  | .int i, .int j => (CDiv i j ∨ CDivW i j) ∧ Q (.int (i / j)) G
  | _, _ => False
theorem op_fdivD : OpD X (binaryOp .FloorDiv) fdivD := fun x y G Q v u σ H h => op_intD (C := fun i j => CDiv i j ∨ CDivW i j) (g := fun i j => i / j) (rI_or op_fdiv op_fdivW) x y G Q v u σ H (by cases x <;> cases y <;> exact h)
def modD : DR2 := fun x y G Q => match x, y with
  | .int i, .int j => 0 < j ∧ Q (.int (i % j)) G
  | _, _ => False
theorem op_modD : OpD X (binaryOp .Mod) modD := fun x y G Q v u σ H h => op_intD (C := fun _ j => 0 < j) (g := fun i j => i % j) op_mod x y G Q v u σ H (by cases x <;> cases y <;> exact h)
def powD : DR2 := fun x y G Q => match x, y with
  | .int i, .int j => CPow i j ∧ Q (.int (i ^ j.toNat)) G
  | _, _ => False
theorem op_powD : OpD X (binaryOp .Pow) powD := fun x y G Q v u σ H h => op_intD (C := CPow) (g := fun i j => i ^ j.toNat) op_pow x y G Q v u σ H (by cases x <;> cases y <;> exact h)
def bandD : DR2 := fun x y G Q => match x, y with
  | .int i, .int j => Q (.int (Builtin.bitAnd i j)) G
  | _, _ => False
theorem op_bandD : OpD X (binaryOp .BitAnd) bandD := fun x y G Q v u σ H h => op_intD (C := fun _ _ => True) (g := fun i j => Builtin.bitAnd i j) (rI_of op_and) x y G Q v u σ H (by cases x <;> cases y <;> first | exact ⟨trivial, h⟩ | exact h)
def bxorD : DR2 := fun x y G Q => match x, y with
  | .int i, .int j => Q (.int (Builtin.bitXor i j)) G
  | _, _ => False
theorem op_bxorD : OpD X (binaryOp .BitXor) bxorD := fun x y G Q v u σ H h => op_intD (C := fun _ _ => True) (g := fun i j => Builtin.bitXor i j) (rI_of op_xor) x y G Q v u σ H (by cases x <;> cases y <;> first | exact ⟨trivial, h⟩ | exact h)
def mulD : DR2 := fun x y G Q => match x, y with
  | .int i, .int j => (CMul i j ∨ CMulW i j) ∧ Q (.int (i * j)) G
  | .ref a, .int k => ∃ xs, G a = some (.lst xs) ∧ -(2 ^ 63) ≤ k ∧ k < 2 ^ 63 ∧ xs.length * k.toNat ≤ sizeLine ∧ ∀ p, G p = none → Q (.ref p) (put G p (.lst (List.replicate k.toNat xs).flatten))
  | .tup xs, .int k => xs ≠ [] ∧ 2 ≤ k ∧ k ≤ 1000 ∧ xs.length ≤ 1000 ∧ Q (.tup (List.replicate k.toNat xs).flatten) G
  | _, _ => False
theorem Reps.rep {K : PySem.W.Frag} {H : Hp} {vs : List V} {ds : List D} (h : Reps K H vs ds) : ∀ k : Nat, Reps K H (List.replicate k vs).flatten (List.replicate k ds).flatten
  | 0 => .nil
  | k + 1 => by
    rw [List.replicate_succ, List.replicate_succ, List.flatten_cons, List.flatten_cons]
    exact h.append (Reps.rep h k)
theorem op_mulD : OpD X (binaryOp .Mult) mulD := by
  intro x y G Q v u σ H h rx ry s
  unfold mulD at h
  split at h
  · cases rx; cases ry
    exact OpR.wo (rI_or op_mul op_mulW) ⟨_, _, rfl, rfl, h.1, Lift.here (.int _) s h.2⟩
  · cases rx; cases ry
    obtain ⟨xs, g1, k1, k2, hl, q⟩ := h
    obtain ⟨vs, h1, r1⟩ := s _ _ g1
    exact OpR.wo op_rep ⟨_, _, _, rfl, rfl, h1, k1, k2, by rw [r1.length]; exact hl, fun p hp => lift_lst (r1.rep _) s q hp⟩
  · cases ry
    cases rx with
    | tup h1 r1 =>
      obtain ⟨hn, k1, k2, hl, q⟩ := h
      refine OpR.wo op_repT ⟨_, _, _, rfl, rfl, h1, fun e => ?_, k1, k2, by rw [r1.length]; exact hl, fun p hp => lift_tup (r1.rep _) s q hp⟩
      subst e
      cases r1
      exact hn rfl
  · exact h.elim
/-! data by value: what is compared -/
mutual
inductive Dd (G : Sto) : D → PyData → Prop
  | non : Dd G .non .none
  | bl (b : Bool) : Dd G (.bl b) (.bool b)
  | int (i : Int) : Dd G (.int i) (.int i)
  | str (x : Str) : Dd G (.str x) (.str x)
  | tup {ds : List D} {ps : List PyData} : Dds G ds ps → Dd G (.tup ds) (.tuple ps)
  | lst {a : Addr} {ds : List D} {ps : List PyData} : G a = some (.lst ds) → Dds G ds ps → Dd G (.ref a) (.list ps)
inductive Dds (G : Sto) : List D → List PyData → Prop
  | nil : Dds G [] []
  | cons {d : D} {ds : List D} {p : PyData} {ps : List PyData} : Dd G d p → Dds G ds ps → Dds G (d :: ds) (p :: ps)
end
section
variable {K : PySem.W.Frag} {G : Sto} {H : Hp} (s : Sim K G H)
include s
mutual
theorem Dd.dp : ∀ {d : D} {p : PyData}, Dd G d p → ∀ {v : V}, Rep K H v d → Dp K H v p
  | _, _, .non, _, .non => .non
  | _, _, .bl b, _, .bl _ => .bl b
  | _, _, .int i, _, .int _ => .int i
  | _, _, .str i, _, .str _ => .str i
  | _, _, .tup h, _, .tup h1 r => .tup h1 (Dds.dp h r)
  | _, _, .lst g h, _, .ref _ => by
    obtain ⟨vs, h1, r1⟩ := s _ _ g
    exact .lst (.of h1) (Dds.dp h r1)
theorem Dds.dp : ∀ {d : List D} {p : List PyData}, Dds G d p → ∀ {v : List V}, Reps K H v d → DpAll K H v p
  | _, _, .nil, _, .nil => .nil
  | _, _, .cons a b, _, .cons r t => .cons (Dd.dp a r) (Dds.dp b t)
end
end
theorem isEmpty_reps {K : PySem.W.Frag} {H : Hp} {vs : List V} {ds : List D} (r : Reps K H vs ds) : vs.isEmpty = ds.isEmpty := by
  cases r <;> rfl
/-- a tuple of whatever and the empty tuple -/
theorem op_eq_nilT (hu : X.A.units + 64 < cLine) : OpR X (compareOp .Eq) (fun x y H Q => ∃ a b xs, x = .ref a ∧ y = .ref b ∧ SqT X.K H a xs ∧ SqT X.K H b [] ∧ Q (.bl xs.isEmpty) H) := by
  intro pins s σ H x y v u Q I rx ry h
  obtain ⟨a, b, xs, rfl, rfl, ha, hb, q⟩ := h
  obtain rfl : v = Value.ref a := rx
  obtain rfl : u = Value.ref b := ry
  obtain ⟨its, r, p, _⟩ := I.tuple ha
  obtain ⟨its2, r2, p2, _⟩ := I.tuple hb
  cases r2
  have hl := r.length
  refine SeqAt.RcAt.tuples (e := fun _ => true) p p2 (by omega) (fun j h1 h2 => absurd h2 (by simp)) X.prog X.w X.xe _ ⟨.bl xs.isEmpty, H, I, ?_, q⟩
  show Value.bool _ = Value.bool _
  cases xs with
  | nil => cases r; rfl
  | cons x xs => cases r; simp
theorem op_ne_nilT (hu : X.A.units + 64 < cLine) : OpR X (compareOp .NotEq) (fun x y H Q => ∃ a b xs, x = .ref a ∧ y = .ref b ∧ SqT X.K H a xs ∧ SqT X.K H b [] ∧ Q (.bl (!xs.isEmpty)) H) := by
  intro pins s σ H x y v u Q I rx ry h
  obtain ⟨a, b, xs, rfl, rfl, ha, hb, q⟩ := h
  obtain rfl : v = Value.ref a := rx
  obtain rfl : u = Value.ref b := ry
  obtain ⟨its, r, p, _⟩ := I.tuple ha
  obtain ⟨its2, r2, p2, _⟩ := I.tuple hb
  cases r2
  have hl := r.length
  refine SeqAt.RcNeAt.tuples (e := fun _ => true) p p2 (by omega) (fun j h1 h2 => absurd h2 (by simp)) X.prog X.w X.xe _ ⟨.bl (!xs.isEmpty), H, I, ?_, q⟩
  show Value.bool _ = Value.bool _
  cases xs with
  | nil => cases r; rfl
  | cons x xs => cases r; simp
def eqD : DR2 := fun x y G Q => match x, y with
  | .int i, .int j => Q (.bl (i == j)) G
  | .bl i, .bl j => Q (.bl (i == j)) G
  | .str i, .str j => Q (.bl (i == j)) G
  | .tup xs, .tup [] => Q (.bl xs.isEmpty) G
  | x, y => ∃ p q, Dd G x p ∧ Dd G y q ∧ SeqAt.shaped p = true ∧ SeqAt.shaped q = true ∧ Q (.bl (PyData.eqv p q)) G
def neD : DR2 := fun x y G Q => match x, y with
  | .int i, .int j => Q (.bl (!(i == j))) G
  | .bl i, .bl j => Q (.bl (!(i == j))) G
  | .str i, .str j => Q (.bl (!(i == j))) G
  | .tup xs, .tup [] => Q (.bl (!xs.isEmpty)) G
  | x, y => ∃ p q, Dd G x p ∧ Dd G y q ∧ SeqAt.shaped p = true ∧ SeqAt.shaped q = true ∧ Q (.bl (!PyData.eqv p q)) G
theorem op_eqD' (hu : X.A.units + 64 < cLine) : OpD X (compareOp .Eq) eqD := by
  intro x y G Q v u σ H h rx ry s
  unfold eqD at h
  split at h
  · cases rx; cases ry
    exact OpR.wo op_eq ⟨rfl, Lift.here (.bl _) s (by rw [dec_int]; exact h)⟩
  · cases rx; cases ry
    exact OpR.wo op_eq ⟨rfl, Lift.here (.bl _) s (by rw [dec_bl]; exact h)⟩
  · cases rx; cases ry
    exact OpR.wo op_eq ⟨rfl, Lift.here (.bl _) s (by rw [dec_str]; exact h)⟩
  · cases rx with
    | tup h1 r1 =>
      cases ry with
      | tup h2 r2 =>
        cases r2
        refine OpR.wo (op_eq_nilT hu) ⟨_, _, _, rfl, rfl, h1, h2, ?_⟩
        have e : List.isEmpty _ = List.isEmpty _ := isEmpty_reps r1
        rw [e]
        exact Lift.here (.bl _) s h
  · obtain ⟨p, q, d1, d2, s1, s2, h⟩ := h
    exact OpR.wo (op_eqD hu) ⟨p, q, d1.dp s rx, d2.dp s ry, s1, s2, Lift.here (.bl _) s h⟩
theorem op_neD' (hu : X.A.units + 64 < cLine) : OpD X (compareOp .NotEq) neD := by
  intro x y G Q v u σ H h rx ry s
  unfold neD at h
  split at h
  · cases rx; cases ry
    exact OpR.wo op_ne ⟨rfl, Lift.here (.bl _) s (by rw [dec_int]; exact h)⟩
  · cases rx; cases ry
    exact OpR.wo op_ne ⟨rfl, Lift.here (.bl _) s (by rw [dec_bl]; exact h)⟩
  · cases rx; cases ry
    exact OpR.wo op_ne ⟨rfl, Lift.here (.bl _) s (by rw [dec_str]; exact h)⟩
  · cases rx with
    | tup h1 r1 =>
      cases ry with
      | tup h2 r2 =>
        cases r2
        refine OpR.wo (op_ne_nilT hu) ⟨_, _, _, rfl, rfl, h1, h2, ?_⟩
        have e : List.isEmpty _ = List.isEmpty _ := isEmpty_reps r1
        rw [e]
        exact Lift.here (.bl _) s h
  · obtain ⟨p, q, d1, d2, s1, s2, h⟩ := h
    exact OpR.wo (op_neD hu) ⟨p, q, d1.dp s rx, d2.dp s ry, s1, s2, Lift.here (.bl _) s h⟩
/-! order -/
def ordD (g : Int → Int → Bool) (gs : Str → Str → Bool) : DR2 := fun x y G Q => match x, y with
  | .int i, .int j => Q (.bl (g i j)) G
  | .str i, .str j => Q (.bl (gs i j)) G
  | _, _ => False
theorem op_ordD {f : Value → Value → Sem Value} {g : Int → Int → Bool} {gs : Str → Str → Bool} (h : OpR X f (rI0 fun i j => .bl (g i j))) (h' : OpR X f (fun x y H Q => ∃ i j, x = .str i ∧ y = .str j ∧ Q (.bl (gs i j)) H)) : OpD X f (ordD g gs) := by
  intro x y G Q v u σ H q rx ry s
  unfold ordD at q
  split at q
  · cases rx; cases ry
    exact OpR.wo h ⟨_, _, rfl, rfl, Lift.here (.bl _) s q⟩
  · cases rx; cases ry
    exact OpR.wo h' ⟨_, _, rfl, rfl, Lift.here (.bl _) s q⟩
  · exact q.elim
def ltD : DR2 := fun x y G Q => match x, y with
  | .int i, .int j => Q (.bl (decide (i < j))) G
  | .str i, .str j => Q (.bl (decide (i.cps.toList < j.cps.toList))) G
  | _, _ => False
theorem op_ltD : OpD X (compareOp .Lt) ltD := fun x y G Q v u σ H h => op_ordD (g := fun i j => decide (i < j)) (gs := fun i j => decide (i.cps.toList < j.cps.toList)) op_lt op_lt_str x y G Q v u σ H (by cases x <;> cases y <;> exact h)
def leD : DR2 := fun x y G Q => match x, y with
  | .int i, .int j => Q (.bl (decide (i ≤ j))) G
  | .str i, .str j => Q (.bl (!decide (j.cps.toList < i.cps.toList))) G
  | _, _ => False
theorem op_leD : OpD X (compareOp .LtE) leD := fun x y G Q v u σ H h => op_ordD (g := fun i j => decide (i ≤ j)) (gs := fun i j => !decide (j.cps.toList < i.cps.toList)) op_le op_le_str x y G Q v u σ H (by cases x <;> cases y <;> exact h)
def gtD : DR2 := fun x y G Q => match x, y with
  | .int i, .int j => Q (.bl (decide (j < i))) G
  | .str i, .str j => Q (.bl (decide (j.cps.toList < i.cps.toList))) G
  | _, _ => False
theorem op_gtD : OpD X (compareOp .Gt) gtD := fun x y G Q v u σ H h => op_ordD (g := fun i j => decide (j < i)) (gs := fun i j => decide (j.cps.toList < i.cps.toList)) op_gt op_gt_str x y G Q v u σ H (by cases x <;> cases y <;> exact h)
def geD : DR2 := fun x y G Q => match x, y with
  | .int i, .int j => Q (.bl (decide (j ≤ i))) G
  | .str i, .str j => Q (.bl (!decide (i.cps.toList < j.cps.toList))) G
  | _, _ => False
theorem op_geD : OpD X (compareOp .GtE) geD := fun x y G Q v u σ H h => op_ordD (g := fun i j => decide (j ≤ i)) (gs := fun i j => !decide (i.cps.toList < j.cps.toList)) op_ge op_ge_str x y G Q v u σ H (by cases x <;> cases y <;> exact h)
/-! is None -/
def isD : DR2 := fun x y G Q => match x, y with
  | .non, .non => Q (.bl true) G
  | _, .non => Q (.bl false) G
  | _, _ => False
def isnD : DR2 := fun x y G Q => match x, y with
  | .non, .non => Q (.bl false) G
  | _, .non => Q (.bl true) G
  | _, _ => False
theorem Rep.non_iff {K : PySem.W.Frag} {H : Hp} {v : V} {d : D} (r : Rep K H v d) (h : d ≠ .non) : decide (v = V.non) = false := by
  apply decide_eq_false
  intro e
  subst e
  cases r
  exact h rfl
theorem op_isD : OpD X (compareOp .Is) isD := by
  intro x y G Q v u σ H h rx ry s
  unfold isD at h
  split at h
  · cases rx; cases ry
    exact OpR.wo op_isN ⟨rfl, Lift.here (.bl true) s h⟩
  · rename_i hx
    cases ry
    refine OpR.wo op_isN ⟨rfl, ?_⟩
    rw [rx.non_iff (fun e => hx e)]
    exact Lift.here (.bl false) s h
  · exact h.elim
theorem op_isnD : OpD X (compareOp .IsNot) isnD := by
  intro x y G Q v u σ H h rx ry s
  unfold isnD at h
  split at h
  · cases rx; cases ry
    exact OpR.wo op_notN ⟨rfl, Lift.here (.bl false) s h⟩
  · rename_i hx
    cases ry
    refine OpR.wo op_notN ⟨rfl, ?_⟩
    rw [rx.non_iff (fun e => hx e)]
    exact Lift.here (.bl true) s h
  · exact h.elim
/-! in -/
def flatD : D → Bool
  | .non => true | .bl _ => true | .int _ => true | .str _ => true
  | _ => false
def eqF : D → D → Bool
  | .non, .non => true
  | .bl a, .bl b => a == b
  | .bl a, .int j => (if a then 1 else 0) == j
  | .int i, .bl b => i == (if b then 1 else 0)
  | .int i, .int j => i == j
  | .str x, .str y => x == y
  | _, _ => false
def memF (x : D) (xs : List D) : Bool := xs.any fun y => eqF y x
end
end DL

namespace DL
open PySem PySem.Spec PyProof.Rows L2
/-! dicts with ints and texts for keys -/
def keyD : D → Option Key
  | .int i => some (.inl i)
  | .str x => some (.inr x)
  | _ => none
def keyV : Key → D
  | .inl i => .int i
  | .inr x => .str x
theorem keyD_rep {K : PySem.W.Frag} {H : Hp} {v : V} {d : D} {k : Key} (h : keyD d = some k) (r : Rep K H v d) : v = kV k := by
  cases d with
  | int i => cases r; cases h; rfl
  | str i => cases r; cases h; rfl
  | _ => cases h
section
variable {κ : Type} [DecidableEq κ]
def valD (kvs : List (κ × D)) (k : κ) : Option D := (kvs.find? fun kv => decide (kv.1 = k)).map (·.2)
def putD (kvs : List (κ × D)) (k : κ) (v : D) : List (κ × D) :=
  if (kvs.any fun kv => decide (kv.1 = k)) = true then kvs.map (fun kv => if kv.1 = k then (kv.1, v) else kv) else kvs ++ [(k, v)]
def dropD (kvs : List (κ × D)) (k : κ) : List (κ × D) := kvs.filter fun kv => decide (kv.1 ≠ k)
variable {K : PySem.W.Frag} {H : Hp}
theorem RepKV.val : ∀ {m : List (κ × V)} {kvs : List (κ × D)} (k : κ), RepKV K H m kvs → (∀ d, valD kvs k = some d → ∃ v, valV m k = some v ∧ Rep K H v d) ∧ (valD kvs k = none → valV m k = none)
  | [], [], _, _ => ⟨fun d h => (nomatch (show (none : Option D) = some d from h)), fun _ => rfl⟩
  | (j, v) :: r, (j', d) :: q, k, ⟨e, rv, rr⟩ => by
    subst e
    have ih := RepKV.val k rr
    by_cases h : j = k
    · have e1 : valD ((j, d) :: q) k = some d := by simp [valD, List.find?_cons, h]
      have e2 : valV ((j, v) :: r) k = some v := by simp [valV, List.find?_cons, h]
      rw [e1, e2]
      exact ⟨fun d' z => by cases z; exact ⟨v, rfl, rv⟩, fun z => by cases z⟩
    · have e1 : valD ((j, d) :: q) k = valD q k := by simp [valD, List.find?_cons, h]
      have e2 : valV ((j, v) :: r) k = valV r k := by simp [valV, List.find?_cons, h]
      rw [e1, e2]
      exact ih
  | [], _ :: _, _, h => h.elim
  | _ :: _, [], _, h => h.elim
theorem RepKV.length : ∀ {m : List (κ × V)} {kvs : List (κ × D)}, RepKV K H m kvs → m.length = kvs.length
  | [], [], _ => rfl
  | (_, _) :: _, (_, _) :: _, ⟨_, _, rr⟩ => by rw [List.length_cons, List.length_cons, RepKV.length rr]
  | [], _ :: _, h => h.elim
  | _ :: _, [], h => h.elim
theorem RepKV.any : ∀ {m : List (κ × V)} {kvs : List (κ × D)} (k : κ), RepKV K H m kvs → (m.any fun kv => decide (kv.1 = k)) = (kvs.any fun kv => decide (kv.1 = k))
  | [], [], _, _ => rfl
  | (j, v) :: r, (j', d) :: q, k, ⟨e, rv, rr⟩ => by
    subst e
    rw [List.any_cons, List.any_cons, RepKV.any k rr]
  | [], _ :: _, _, h => h.elim
  | _ :: _, [], _, h => h.elim
theorem RepKV.over {k : κ} {v : V} {d : D} (rv : Rep K H v d) : ∀ {m : List (κ × V)} {kvs : List (κ × D)}, RepKV K H m kvs → RepKV K H (m.map fun kv => if kv.1 = k then (kv.1, v) else kv) (kvs.map fun kv => if kv.1 = k then (kv.1, d) else kv)
  | [], [], _ => True.intro
  | (j, u) :: r, (j', e) :: q, ⟨ee, ru, rr⟩ => by
    subst ee
    rw [List.map_cons, List.map_cons]
    by_cases h : j = k
    · rw [if_pos h, if_pos h]
      exact ⟨rfl, rv, RepKV.over rv rr⟩
    · rw [if_neg h, if_neg h]
      exact ⟨rfl, ru, RepKV.over rv rr⟩
  | [], _ :: _, h => h.elim
  | _ :: _, [], h => h.elim
theorem RepKV.snoc {k : κ} {v : V} {d : D} (rv : Rep K H v d) : ∀ {m : List (κ × V)} {kvs : List (κ × D)}, RepKV K H m kvs → RepKV K H (m ++ [(k, v)]) (kvs ++ [(k, d)])
  | [], [], _ => ⟨rfl, rv, True.intro⟩
  | (j, u) :: r, (j', e) :: q, ⟨ee, ru, rr⟩ => ⟨ee, ru, RepKV.snoc rv rr⟩
  | [], _ :: _, h => h.elim
  | _ :: _, [], h => h.elim
theorem RepKV.put {m : List (κ × V)} {kvs : List (κ × D)} {k : κ} {v : V} {d : D} (r : RepKV K H m kvs) (rv : Rep K H v d) : RepKV K H (putK m k v) (putD kvs k d) := by
  unfold putK putD
  rw [r.any k]
  split
  · exact r.over rv
  · exact r.snoc rv
end
def mergeD (kvs more : List (Key × D)) : List (Key × D) := more.foldl (fun acc kv => putD acc kv.1 kv.2) kvs
theorem RepKV.merge {K : PySem.W.Frag} {H : Hp} : ∀ {m' : List (Key × V)} {kvs' : List (Key × D)} {m : List (Key × V)} {kvs : List (Key × D)}, RepKV K H m' kvs' → RepKV K H m kvs → RepKV K H (mergeK m m') (mergeD kvs kvs')
  | [], [], _, _, _, r => r
  | (j, v) :: q, (j', d) :: q', m, kvs, ⟨e, rv, rr⟩, r => by
    subst e
    show RepKV K H (mergeK (putK m j v) q) (mergeD (putD kvs j d) q')
    exact RepKV.merge rr (r.put rv)
  | [], _ :: _, _, _, h, _ => h.elim
  | _ :: _, [], _, _, h, _ => h.elim
theorem mergeD_len : ∀ (more kvs : List (Key × D)), (mergeD kvs more).length ≤ kvs.length + more.length
  | [], kvs => by simp [mergeD]
  | (k, d) :: r, kvs => by
    have h : (putD kvs k d).length ≤ kvs.length + 1 := by
      unfold putD
      split <;> simp
    have := mergeD_len r (putD kvs k d)
    rw [show mergeD kvs ((k, d) :: r) = mergeD (putD kvs k d) r from rfl, List.length_cons]
    omega
section
variable {X : Cx}
theorem ix_dict (hu : X.A.units + 1 < cLine) : IxR X (fun x y H Q => ∃ a v, x = .ref a ∧ DGet H a y (some v) ∧ Q v H) := by
  intro value slice pins s σ H x y v u Q I rx ry h hs
  obtain ⟨a, w, rfl, g, q⟩ := h
  obtain rfl : v = Value.ref a := rx
  exact tail_any (dict_typeIs I g) PySem.F.slot_dict_getitem.lookup (d_getItem hu I g ry fun w' s' I' r' => ⟨w, H, I', r', q⟩) hs
theorem op_in_dict (hu : X.A.units + 1 < cLine) : OpR X (compareOp .In) (fun x y H Q => ∃ a o, y = .ref a ∧ DGet H a x o ∧ Q (.bl o.isSome) H) := by
  intro pins s σ H x y v u Q I rx ry h
  obtain ⟨a, o, rfl, g, q⟩ := h
  obtain rfl : u = Value.ref a := ry
  exact d_in hu I g rx fun s' I' => ⟨.bl o.isSome, H, I', rfl, q⟩
theorem op_nin_dict (hu : X.A.units + 1 < cLine) : OpR X (compareOp .NotIn) (fun x y H Q => ∃ a o, y = .ref a ∧ DGet H a x o ∧ Q (.bl (!o.isSome)) H) := by
  intro pins s σ H x y v u Q I rx ry h
  obtain ⟨a, o, rfl, g, q⟩ := h
  obtain rfl : u = Value.ref a := ry
  exact d_notIn hu I g rx fun s' I' => ⟨.bl (!o.isSome), H, I', rfl, q⟩
theorem set_dict (hu : X.A.units + 1 < cLine) : PSet X (fun o i v H Q => ∃ a H', o = .ref a ∧ DPut H a i v H' ∧ Q H') := by
  intro pins s σ H o i v ov iv u Q I ro ri rv h
  obtain ⟨a, H', rfl, g, q⟩ := h
  obtain rfl : ov = Value.ref a := ro
  exact d_setItem hu I g ri rv fun s' I' => ⟨H', I', q⟩
/-- what a dict holds at a key -/
theorem dget_of {K : PySem.W.Frag} {G : Sto} {H : Hp} {a : Addr} {kvs : List (Key × D)} {y : D} {k : Key} {u : V} (s : Sim K G H) (g : G a = some (.dK kvs)) (hk : keyD y = some k) (ry : Rep K H u y) :
    (∀ d, valD kvs k = some d → ∃ v, DGet H a u (some v) ∧ Rep K H v d) ∧ (DGet H a u (match valD kvs k with | none => none | some _ => some (match valV (match H a with | some (.dK m) => m | _ => []) k with | some v => v | none => .non))) := by
  obtain ⟨m, hm, rm⟩ := s a _ g
  obtain rfl := keyD_rep hk ry
  have hv := rm.val k
  refine ⟨fun d hd => ?_, ?_⟩
  · obtain ⟨v, h1, h2⟩ := hv.1 d hd
    refine ⟨v, ?_, h2⟩
    rw [← h1]
    exact DGet.k hm
  · rw [hm]
    cases e : valD kvs k with
    | none =>
      show DGet H a (kV k) none
      rw [← hv.2 e]
      exact DGet.k hm
    | some d =>
      obtain ⟨v, h1, h2⟩ := hv.1 d e
      show DGet H a (kV k) (some (match valV m k with | some v => v | none => .non))
      rw [h1]
      show DGet H a (kV k) (some v)
      rw [← h1]
      exact DGet.k hm
theorem din_of {K : PySem.W.Frag} {G : Sto} {H : Hp} {a : Addr} {kvs : List (Key × D)} {y : D} {k : Key} {u : V} (s : Sim K G H) (g : G a = some (.dK kvs)) (hk : keyD y = some k) (ry : Rep K H u y) :
    ∃ o, DGet H a u o ∧ o.isSome = (valD kvs k).isSome := by
  refine ⟨_, (dget_of s g hk ry).2, ?_⟩
  cases valD kvs k <;> rfl
/-! displays -/
abbrev DKv := Ev → Sto → (List (D × D) → Sto → Prop) → XQ → Prop
def kvNil : DKv := fun _ G Q _ => Q [] G
def kvCons (tk tv : DE) (r : DKv) : DKv := fun ρ G Q xq => tk ρ G (fun x G1 => tv ρ G1 (fun y G2 => r ρ G2 (fun ps G3 => Q ((x, y) :: ps) G3) xq) xq) xq
def RepP (K : PySem.W.Frag) (H : Hp) : List (V × V) → List (D × D) → Prop
  | [], [] => True
  | (v, u) :: r, (d, e) :: q => Rep K H v d ∧ Rep K H u e ∧ RepP K H r q
  | _, _ => False
theorem RepP.mono {K : PySem.W.Frag} {H H' : Hp} (t : TupExt K H H') : ∀ {l : List (V × V)} {m : List (D × D)}, RepP K H l m → RepP K H' l m
  | [], [], h => h
  | (_, _) :: _, (_, _) :: _, ⟨a, b, c⟩ => ⟨a.mono t, b.mono t, RepP.mono t c⟩
  | [], _ :: _, h => h.elim
  | _ :: _, [], h => h.elim
def trsOf (X : Cx) : List (Option Expr) → List Expr → List (TE × TE)
  | some k :: ks, v :: vs => (WE X k, WE X v) :: trsOf X ks vs
  | _, _ => []
structure QKv (X : Cx) (ks : List (Option Expr)) (vs : List Expr) (t : DKv) : Prop where
  pp : ∀ pos, PPs X pos ks vs (trsOf X ks vs)
  len : ks.length = vs.length
  all : ks.all (·.isSome) = true
  run : ∀ ρ G Q xq σ H, t ρ G Q xq → RepS X.K H σ ρ → Sim X.K G H → Tk X σ G H xq → tPairs (trsOf X ks vs) σ H fun ps H' => ∃ prs G', RepP X.K H' ps prs ∧ Sim X.K G' H' ∧ Ext X.K G H G' H' ∧ Q prs G'
theorem tPairs_imp : ∀ {trs : List (TE × TE)} {σ : L2.St} {H : Hp} {Q Q' : List (V × V) → Hp → Prop}, (∀ p ∈ trs, (∃ e : Expr, p.1 = WE X e) ∧ ∃ e : Expr, p.2 = WE X e) → tPairs trs σ H Q → (∀ ps H', Q ps H' → Q' ps H') → tPairs trs σ H Q'
  | [], _, _, _, _, _, h, i => i _ _ h
  | (tk, tv) :: r, σ, H, Q, Q', hw, h, i => by
    obtain ⟨⟨e1, h1⟩, ⟨e2, h2⟩⟩ := hw (tk, tv) (by simp)
    have h1' : tk = WE X e1 := h1
    have h2' : tv = WE X e2 := h2
    subst h1' h2'
    exact WE.imp h fun x H1 q1 => WE.imp q1 fun y H2 q2 => tPairs_imp (fun p hp => hw p (by simp [hp])) q2 fun ps H3 q3 => i _ _ q3
theorem trs_we : ∀ (ks : List (Option Expr)) (vs : List Expr), ∀ p ∈ trsOf X ks vs, (∃ e : Expr, p.1 = WE X e) ∧ ∃ e : Expr, p.2 = WE X e
  | some k :: ks, v :: vs, p, hp => by
    unfold trsOf at hp
    rcases List.mem_cons.mp hp with rfl | hp
    · exact ⟨⟨k, rfl⟩, ⟨v, rfl⟩⟩
    · exact trs_we ks vs p hp
  | [], _, p, hp => by simp [trsOf] at hp
  | none :: _, _, p, hp => by simp [trsOf] at hp
  | some _ :: _, [], p, hp => by simp [trsOf] at hp
theorem qkv_nil : QKv X [] [] kvNil := ⟨fun _ => pps_nil, rfl, rfl, fun ρ G Q xq σ H h rs s tk => ⟨[], G, True.intro, s, .refl, h⟩⟩
theorem qkv_cons {k v : Expr} {ks : List (Option Expr)} {vs : List Expr} {tk tv : DE} {r : DKv} (hk : QE X k tk) (hv : QE X v tv) (hr : QKv X ks vs r) : QKv X (some k :: ks) (v :: vs) (kvCons tk tv r) := by
  refine ⟨fun pos => pps_cons pe_max pe_max (hr.pp pos), by rw [List.length_cons, List.length_cons, hr.len], by rw [List.all_cons, hr.all]; rfl, fun ρ G Q xq σ H h rs s t => ?_⟩
  refine (hk.run ρ G _ xq σ H h rs s t).imp fun x H1 ⟨dx, G1, rx, s1, e1, q1⟩ => ?_
  refine (hv.run ρ G1 _ xq σ H1 q1 (rs.mono e1.tup) s1 (t.step e1)).imp fun y H2 ⟨dy, G2, ry, s2, e2, q2⟩ => ?_
  have e12 := e1.trans e2
  refine tPairs_imp (trs_we ks vs) (hr.run ρ G2 _ xq σ H2 q2 (rs.mono e12.tup) s2 (t.step e12)) fun ps H3 ⟨prs, G3, r3, s3, e3, q3⟩ => ?_
  exact ⟨(dx, dy) :: prs, G3, ⟨(rx.mono e2.tup).mono e3.tup, ry.mono e3.tup, r3⟩, s3, e12.trans e3, q3⟩
def kvDs (kvs : List (Key × D)) : List (D × D) := kvs.map fun kv => (keyV kv.1, kv.2)
def dDisp (r : DKv) : DE := fun ρ G Q xq => ∀ p, G p = none → r ρ (put G p (.dK [])) (fun ps G2 => G2 p = some (.dK []) ∧ ∃ kvs, ps = kvDs kvs ∧ kvs.length ≤ 15 ∧ Q (.ref p) (put G2 p (.dK (mergeD [] kvs)))) xq
theorem repP_keys {K : PySem.W.Frag} {H : Hp} : ∀ {ps : List (V × V)} {kvs : List (Key × D)}, RepP K H ps (kvDs kvs) → ∃ m : List (Key × V), ps = m.map (fun kv => (kV kv.1, kv.2)) ∧ RepKV K H m kvs
  | [], [], _ => ⟨[], rfl, True.intro⟩
  | (v, u) :: r, (k, d) :: q, h => by
    obtain ⟨h1, h2, h3⟩ := h
    obtain ⟨m, e, rm⟩ := repP_keys (ps := r) (kvs := q) h3
    refine ⟨(k, u) :: m, ?_, rfl, h2, rm⟩
    rw [List.map_cons, ← e]
    have : v = kV k := by
      cases k with
      | inl i => cases h1; rfl
      | inr x => cases h1; rfl
    rw [this]
  | [], _ :: _, h => h.elim
  | _ :: _, [], h => h.elim
theorem qe_disp {ks : List (Option Expr)} {vs : List Expr} {r : DKv} {pos : Pos} (h : QKv X ks vs r) (h15 : ks.length ≤ 15) : QE X (.Dict ks vs pos) (dDisp r) := by
  refine ⟨fun ρ G Q xq σ H hq rs s tk => ?_⟩
  cases ks with
  | nil =>
    have hv : vs = [] := List.eq_nil_of_length_eq_zero (by rw [← h.len]; rfl)
    subst hv
    refine PE.we pe_dnewK fun p hp => ?_
    have en : Ext X.K G H (put G p (.dK [])) (upd H p (.dK [])) := .new hp
    have sn : Sim X.K (put G p (.dK [])) (upd H p (.dK [])) := s.new hp ⟨[], upd_same, True.intro⟩
    have := h.run ρ _ _ xq σ (upd H p (.dK [])) (hq p (s.free hp)) (rs.mono en.tup) sn (tk.step en)
    obtain ⟨prs, G', rp, s', e', g', kvs, ek, hl, q⟩ := this
    subst ek
    have hk0 : kvs = [] := by
      cases kvs with
      | nil => rfl
      | cons a b => exact rp.elim
    subst hk0
    obtain ⟨m0, hm0, rm0⟩ := s' p _ g'
    have e0 : upd H p (.dK []) = upd (upd H p (.dK [])) p (.dK []) := by
      funext b
      unfold upd
      split <;> rfl
    rw [e0]
    exact ⟨.ref p, _, .ref p, s'.mut (c := .dK (mergeD [] [])) (c0 := .dK []) upd_same rfl ⟨[], upd_same, True.intro⟩, en.trans (e'.trans (.mut g' upd_same rfl)), q⟩
  | cons k0 ks0 =>
    refine PE.we (pe_disp (h.pp pos) h.all h.len (by simp) h15) fun p hp => ?_
    have en : Ext X.K G H (put G p (.dK [])) (upd H p (.dK [])) := .new hp
    have sn : Sim X.K (put G p (.dK [])) (upd H p (.dK [])) := s.new hp ⟨[], upd_same, True.intro⟩
    refine tPairs_imp (trs_we _ _) (h.run ρ _ _ xq σ (upd H p (.dK [])) (hq p (s.free hp)) (rs.mono en.tup) sn (tk.step en)) fun ps H2 ⟨prs, G2, rp, s2, e2, g2, kvs, ek, hl, q⟩ => ?_
    subst ek
    obtain ⟨m, em, rm⟩ := repP_keys rp
    obtain ⟨m0, hm0, rm0⟩ := s2 p _ g2
    have hm00 : m0 = [] := by
      cases m0 with
      | nil => rfl
      | cons a b => exact rm0.elim
    subst hm00
    refine ⟨hm0, m, em, by rw [rm.length]; exact hl, ?_⟩
    have t3 : TupExt X.K H2 (upd H2 p (.dK (mergeK [] m))) := tup_mut hm0 rfl
    exact ⟨.ref p, _, .ref p, s2.mut (c := .dK (mergeD [] kvs)) (c0 := .dK []) hm0 rfl ⟨_, upd_same, (rm.mono t3).merge True.intro⟩, en.trans (e2.trans (.mut g2 hm0 rfl)), q⟩
end
end DL

namespace DL
open PySem PySem.Spec PyProof.Rows L2 HT
section
variable {prog : Program} {w : World} {A : Around} {E : Value → Shared → Prop} {s : Shared}
theorem back_places (n : Nat) : Builtin.Slice.slicePlaces ((n : Int) - 1) (-1) (-1) = n := by
  unfold Builtin.Slice.slicePlaces
  have h1 : ¬ ((-1 : Int) > 0) := by decide
  simp only [h1, if_false]
  rw [show (- -1 : Int) = 1 from rfl, Int.ediv_one]
  split <;> omega
theorem back_applied {sl : Addr} {vl vu vs : Value} {n : Nat} {Q : Int × Int × Nat → Shared → Prop} (hs : s.heap.IsSliceOf sl vl vu vs) (pl : IsPart vl none) (pu : IsPart vu none) (ps : IsPart vs (some (-1)))
    (h : Q ((n : Int) - 1, -1, n) s) : wpAny (model prog w) A (Builtin.Slice.sliceApplied (.ref sl) (pure (n : Int))) Q E s := by
  obtain ⟨os, hos, hcs, hds⟩ := id hs
  unfold Builtin.Slice.sliceApplied Builtin.Slice.sliceFields
  refine wpAny_bind (wpAny_bind (wpAny_field hos hds (x := vl) rfl (wpAny_bind (wpAny_field hos hds (x := vu) rfl (wpAny_bind (wpAny_field hos hds (x := vs) rfl (wpAny_pure ?_)))))))
  refine wpAny_bind (slicePart_ ps ?_)
  show wpAny _ _ (if ((-1 : Int) == 0) = true then _ else _) _ _ s
  rw [if_neg (by decide)]
  refine wpAny_bind (slicePart_ pl (wpAny_bind (slicePart_ pu (wpAny_bind (wpAny_pure ?_)))))
  show wpAny _ _ (pure ((n : Int) - 1, (-1 : Int), Builtin.Slice.slicePlaces ((n : Int) - 1) (-1) (-1))) _ _ s
  rw [back_places]
  exact wpAny_pure h
theorem back_pick (xs : Array Value) : ((List.range xs.size).filterMap fun (m : Nat) => xs[((xs.size : Int) - 1 + (m : Int) * (-1)).toNat]?).toArray = xs.toList.reverse.toArray := by
  have e0 : (List.range xs.size).map (fun (m : Nat) => ((xs.size : Int) - 1 + (m : Int) * (-1)).toNat) = (List.range xs.size).map fun k => xs.size - 1 - k := by
    apply List.map_congr_left
    intro m hm
    have := List.mem_range.mp hm
    omega
  have e : (List.range xs.size).filterMap (fun (m : Nat) => xs[((xs.size : Int) - 1 + (m : Int) * (-1)).toNat]?) = ((List.range xs.size).map fun k => xs.size - 1 - k).filterMap (xs[·]?) := by
    rw [← e0, List.filterMap_map]
    rfl
  rw [e, PySem.W.krv_range, List.filterMap_reverse, PySem.W.krv_all]
theorem getItem_back {t sl : Addr} {items : Array Value} {vl vu vs : Value} {Q : Value → Shared → Prop} (ht : IsTup s.heap t items) (hs : s.heap.IsSliceOf sl vl vu vs) (pl : IsPart vl none) (pu : IsPart vu none) (ps : IsPart vs (some (-1)))
    (h : Q (.ref s.heap.objs.size) { s with heap := s.heap.push { cls := .type "tuple", data := .seq items.toList.reverse.toArray } }) (hsz : items.size ≤ sizeLine) : wpAny (model prog w) A (getItem (.ref t) (.ref sl)) Q E s := by
  have hok : sizeOk (.seq items.toList.reverse.toArray) := by
    show items.toList.reverse.toArray.size ≤ sizeLine
    rw [List.size_toArray, List.length_reverse, Array.length_toList]
    exact hsz
  obtain ⟨os, hos, hcs, hds⟩ := id hs
  have hTs : s.TypeIs (.ref sl) "slice" := ⟨os, hos, hcs⟩
  unfold getItem
  try with_reducible refine wpAny_holding ?_
  first | refine wpAny_bind (wpAny_pure ?_) | skip
  refine wpAny_bind (wpAny_sequenceKey ht.typeIs (by decide) ?_)
  refine wpAny_bind (wpAny_callSpecial?_slot (name := Str.ofString "__getitem__") ht.typeIs PyProof.Rows.slot_tuple_getitem (wpAny_call_entry PyProof.Rows.slot_tuple_getitem ht.typeIs entry_tuple_getitem ?_ (args_tuple_getitem _ _)))
  show wpAny _ _ (Builtin.Tuple.tupleItemsOf (.ref t) >>= _) _ _ s
  refine wpAny_bind (tupleItemsOf_ ht ?_)
  refine wpAny_bind (wpAny_typeOf hTs ?_)
  rw [if_pos (by decide)]
  refine wpAny_bind (back_applied hs pl pu ps ?_)
  have hno : ¬ ((((items.size : Int) - 1) == 0 && (-1 : Int) == 1 && items.size == items.size) = true) := by simp
  show wpAny _ _ (if ((((items.size : Int) - 1) == 0 && (-1 : Int) == 1 && items.size == items.size)) = true then _ else _) _ _ s
  rw [if_neg hno, back_pick]
  first
    | exact wpAny_bind (m := Builtin.Tuple.tupleExact _) (wpAny_newObj_type (wpAny_pure ⟨_, rfl, wpAny_pure h⟩) hok)
    | exact wpAny_bind (m := Builtin.Tuple.tupleExact _) (wpAny_newObj_type (wpAny_bind (wpAny_pure (wpAny_pure ⟨_, rfl, wpAny_pure h⟩))) hok)
    | exact wpAny_bind (wpAny_bind (m := Builtin.Tuple.tupleExact _) (wpAny_newObj_type (wpAny_pure (wpAny_pure ⟨_, rfl, wpAny_pure h⟩)) hok))
    | exact wpAny_bind (wpAny_bind (m := Builtin.Tuple.tupleExact _) (wpAny_newObj_type (wpAny_pure ⟨_, rfl, wpAny_pure h⟩) hok))
end
section
variable {X : Cx}
/-- x[::-1], a list or a tuple -/
theorem pe_back {e : Expr} {te : TE} {k : Nat} {p1 p2 p3 pos : Pos} (he : PE X e te) : PE X (.Subscript e (.Slice none none (some (.UnaryOp .USub (.Constant (.int 1) k p1) p2)) p3) pos)
    (fun σ H Q => te σ H fun x H1 => (∃ a xs, x = .ref a ∧ SqL X.K H1 a xs ∧ ∀ p, H1 p = none → Q (.ref p) (upd H1 p (.lst xs.reverse))) ∨ ∃ a xs, x = .ref a ∧ SqT X.K H1 a xs ∧ ∀ p, H1 p = none → Q (.ref p) (upd H1 p (.tup xs.reverse))) := by
  refine ⟨fun pins s σ H Q I h => ?_⟩
  refine Subscript_ (thn (he.run pins s σ H _ I h) fun v s1 ⟨x, H1, I1, r1, q1⟩ => ?_)
  have hst : PO X (some (.UnaryOp .USub (.Constant (.int 1) k p1) p2)) (tPart (tUn (rU fun i => .int (-i)) (tC (.int 1)))) := po_some (pe_un un_neg pe_int)
  refine wpAny_Slice (thn (po_none.run pins s1 σ H1 (fun o H2 => o = none ∧ H2 = H1) I1 ⟨rfl, rfl⟩) fun vl s2 ⟨l, H2, I2, pl, el, e2⟩ => ?_)
  subst el e2
  refine thn (po_none.run pins s2 σ H2 (fun o H3 => o = none ∧ H3 = H2) I2 ⟨rfl, rfl⟩) fun vu s3 ⟨u, H3, I3, pu, eu, e3⟩ => ?_
  subst eu e3
  refine thn (hst.run pins s3 σ H3 (fun o H4 => o = some (-1) ∧ H4 = H3) I3 ⟨1, rfl, -1, rfl, rfl, rfl⟩) fun vs s4 ⟨o, H4, I4, ps, eo, e4⟩ => ?_
  subst eo e4
  have I5 : Inv X pins σ H4 { s4 with heap := s4.heap.push { cls := .type "slice", data := .fields #[vl, vu, vs] } } := I4.kept (t' := s4.toks) fun b ob q => Heap.get?_push_of_some _ q
  rcases q1 with ⟨a, xs, ex, hx, q⟩ | ⟨a, xs, ex, hx, q⟩
  · subst ex
    cases r1
    obtain ⟨its, r, ht, hz⟩ := I5.list hx
    have hlen := r.length
    show wpAny (model X.prog X.w) X.A (subscriptTail e (.Slice none none (some (.UnaryOp .USub (.Constant (.int 1) k p1) p2)) p3) (.ref a) (.ref s4.heap.objs.size)) (EP X pins σ Q) X.xe { s4 with heap := s4.heap.push { cls := .type "slice", data := .fields #[vl, vu, vs] } }
    refine tail_any (ops := [.ref a, .ref s4.heap.objs.size]) ht.isList.typeIs (PySem.slot_list_getitem.lookup) ?_ (by with_unfolding_all rfl)
    refine wpAny_getItem_list_slice ht.isList (Heap.IsSliceOf.new _ vl vu vs) pl pu ps (by decide) ?_ (by rw [List.size_toArray]; omega)
    rw [PySem.W.krv_pick]
    refine ⟨.ref _, _, I5.laid (t' := s4.toks) (o := .lst xs.reverse) (fun b ob q => Heap.get?_push_of_some _ q) (Nat.le_refl _) ?_, rfl, q _ (I5.hok.fresh (Nat.le_refl _))⟩
    exact ⟨by rw [List.length_reverse]; exact hz, _, 0, r.reverse, Heap.get?_push_size _ rfl⟩
  · subst ex
    cases r1
    obtain ⟨its, r, ht, hz⟩ := I5.tuple hx
    have hlen := r.length
    show wpAny (model X.prog X.w) X.A (subscriptTail e (.Slice none none (some (.UnaryOp .USub (.Constant (.int 1) k p1) p2)) p3) (.ref a) (.ref s4.heap.objs.size)) (EP X pins σ Q) X.xe { s4 with heap := s4.heap.push { cls := .type "slice", data := .fields #[vl, vu, vs] } }
    refine tail_any (ops := [.ref a, .ref s4.heap.objs.size]) ht.typeIs (PyProof.Rows.slot_tuple_getitem.lookup) ?_ (by with_unfolding_all rfl)
    refine getItem_back ht (Heap.IsSliceOf.new _ vl vu vs) pl pu ps ?_ (by rw [List.size_toArray]; omega)
    refine ⟨.ref _, _, I5.laid (t' := s4.toks) (o := .tup xs.reverse) (fun b ob q => Heap.get?_push_of_some _ q) (Nat.le_refl _) ?_, rfl, q _ (I5.hok.fresh (Nat.le_refl _))⟩
    exact ⟨by rw [List.length_reverse]; exact hz, _, r.reverse, IsTup.new _ _⟩
end
end DL

namespace DL
open PySem PySem.Spec PyProof.Rows L2
section
variable {X : Cx}
/-- what a list or a tuple holds -/
def seqD (d : D) (G : Sto) (k : List D → Prop) : Prop := match d with
  | .tup ds => k ds
  | .ref a => ∃ ds, G a = some (.lst ds) ∧ k ds
  | _ => False
theorem seq_ {K : PySem.W.Frag} {d : D} {G : Sto} {k : List D → Prop} {v : V} {H : Hp} (h : seqD d G k) (r : Rep K H v d) (s : Sim K G H) : ∃ p vs ds, v = .ref p ∧ (SqL K H p vs ∨ SqT K H p vs) ∧ Reps K H vs ds ∧ k ds := by
  cases d with
  | tup ds =>
    cases r with
    | tup h1 r1 => exact ⟨_, _, ds, rfl, .inr h1, r1, h⟩
  | ref a =>
    cases r
    obtain ⟨ds, hg, q⟩ := h
    obtain ⟨vs, h1, h2⟩ := s a _ hg
    exact ⟨_, vs, ds, rfl, .inl (.of h1), h2, q⟩
  | _ => exact False.elim h
theorem Rep.flat {K : PySem.W.Frag} {H : Hp} {v : V} {d : D} (r : Rep K H v d) (h : flatD d = true) : flatV v = true := by
  cases r <;> first | rfl | cases h
theorem Reps.flat {K : PySem.W.Frag} {H : Hp} : ∀ {vs : List V} {ds : List D}, Reps K H vs ds → ds.all flatD = true → vs.all flatV = true
  | _, _, .nil, _ => rfl
  | _, _, .cons a b, h => by
    rw [List.all_cons, Bool.and_eq_true] at h ⊢
    exact ⟨a.flat h.1, Reps.flat b h.2⟩
theorem eqF_eq {K : PySem.W.Frag} {H : Hp} {v u : V} {d e : D} (r : Rep K H v d) (q : Rep K H u e) (h : flatD d = true) (h' : flatD e = true) : eqV v u = eqF d e := by
  cases r <;> first | (cases h; done) | (cases q <;> first | (cases h'; done) | rfl)
theorem memF_eq {K : PySem.W.Frag} {H : Hp} {v : V} {d : D} (q : Rep K H v d) (h' : flatD d = true) : ∀ {vs : List V} {ds : List D}, Reps K H vs ds → ds.all flatD = true → inV v vs = memF d ds
  | _, _, .nil, _ => rfl
  | _, _, .cons a b, h => by
    rw [List.all_cons, Bool.and_eq_true] at h
    unfold inV memF
    rw [List.any_cons, List.any_cons, eqF_eq a q h.1 h']
    have := memF_eq q h' b h.2
    unfold inV memF at this
    rw [this]
def inD : DR2 := fun x y G Q => match x, y with
  | .str i, .str j => ∃ c, i = ⟨#[c]⟩ ∧ Q (.bl (decide (c ∈ j.cps.toList))) G
  | x, .tup ds => flatD x = true ∧ ds.all flatD = true ∧ Q (.bl (memF x ds)) G
  | x, .ref a => (∃ ds, G a = some (.lst ds) ∧ flatD x = true ∧ ds.all flatD = true ∧ Q (.bl (memF x ds)) G) ∨ ∃ kvs k, G a = some (.dK kvs) ∧ keyD x = some k ∧ Q (.bl (valD kvs k).isSome) G
  | _, _ => False
def ninD : DR2 := fun x y G Q => match x, y with
  | .str i, .str j => ∃ c, i = ⟨#[c]⟩ ∧ Q (.bl (!decide (c ∈ j.cps.toList))) G
  | x, .tup ds => flatD x = true ∧ ds.all flatD = true ∧ Q (.bl (!memF x ds)) G
  | x, .ref a => (∃ ds, G a = some (.lst ds) ∧ flatD x = true ∧ ds.all flatD = true ∧ Q (.bl (!memF x ds)) G) ∨ ∃ kvs k, G a = some (.dK kvs) ∧ keyD x = some k ∧ Q (.bl (!(valD kvs k).isSome)) G
  | _, _ => False
theorem op_inD' (hu : X.A.units + 64 < cLine) : OpD X (compareOp .In) inD := by
  intro x y G Q v u σ H h rx ry s
  unfold inD at h
  split at h
  · cases rx; cases ry
    obtain ⟨c, rfl, q⟩ := h
    exact OpR.wo op_in_sign ⟨c, _, rfl, rfl, Lift.here (.bl _) s q⟩
  · rename_i ds
    obtain ⟨f1, f2, q⟩ := h
    cases ry with
    | tup hs r =>
      refine OpR.wo op_in_seq ⟨_, _, rfl, .inr hs, rx.flat f1, r.flat f2, ?_⟩
      show Lift _ _ _ _ (.bl (inV v _)) _
      rw [memF_eq rx f1 r f2]
      exact Lift.here (.bl _) s q
  · rename_i a
    cases ry
    rcases h with ⟨ds, g, f1, f2, q⟩ | ⟨kvs, k, g, hk, q⟩
    · obtain ⟨vs, hs, r⟩ := s a _ g
      refine OpR.wo op_in_seq ⟨_, _, rfl, .inl (.of hs), rx.flat f1, r.flat f2, ?_⟩
      show Lift _ _ _ _ (.bl (inV v _)) _
      rw [memF_eq rx f1 r f2]
      exact Lift.here (.bl _) s q
    · obtain ⟨o, h1, h2⟩ := din_of s g hk rx
      refine OpR.wo (op_in_dict (by omega)) ⟨a, o, rfl, h1, ?_⟩
      rw [h2]
      exact Lift.here (.bl _) s q
  · exact h.elim
theorem op_ninD' (hu : X.A.units + 64 < cLine) : OpD X (compareOp .NotIn) ninD := by
  intro x y G Q v u σ H h rx ry s
  unfold ninD at h
  split at h
  · cases rx; cases ry
    obtain ⟨c, rfl, q⟩ := h
    exact OpR.wo op_notIn_sign ⟨c, _, rfl, rfl, Lift.here (.bl _) s q⟩
  · rename_i ds
    obtain ⟨f1, f2, q⟩ := h
    cases ry with
    | tup hs r =>
      refine OpR.wo op_notIn_seq ⟨_, _, rfl, .inr hs, rx.flat f1, r.flat f2, ?_⟩
      show Lift _ _ _ _ (.bl (!inV v _)) _
      rw [memF_eq rx f1 r f2]
      exact Lift.here (.bl _) s q
  · rename_i a
    cases ry
    rcases h with ⟨ds, g, f1, f2, q⟩ | ⟨kvs, k, g, hk, q⟩
    · obtain ⟨vs, hs, r⟩ := s a _ g
      refine OpR.wo op_notIn_seq ⟨_, _, rfl, .inl (.of hs), rx.flat f1, r.flat f2, ?_⟩
      show Lift _ _ _ _ (.bl (!inV v _)) _
      rw [memF_eq rx f1 r f2]
      exact Lift.here (.bl _) s q
    · obtain ⟨o, h1, h2⟩ := din_of s g hk rx
      refine OpR.wo (op_nin_dict (by omega)) ⟨a, o, rfl, h1, ?_⟩
      rw [h2]
      exact Lift.here (.bl _) s q
  · exact h.elim
/-- the rule of a comparison -/
def cmpD : CmpOp → DR2
  | .Eq => eqD | .NotEq => neD | .Lt => ltD | .LtE => leD | .Gt => gtD | .GtE => geD | .Is => isD | .IsNot => isnD | .In => inD | .NotIn => ninD
theorem op_cmpD (hu : X.A.units + 64 < cLine) (op : CmpOp) : OpD X (compareOp op) (cmpD op) := by
  cases op
  · exact op_eqD' hu
  · exact op_neD' hu
  · exact op_ltD
  · exact op_leD
  · exact op_gtD
  · exact op_geD
  · exact op_isD
  · exact op_isnD
  · exact op_inD' hu
  · exact op_ninD' hu
def binD : Operator → DR2
  | .Add => addD | .Sub => subD | .Mult => mulD | .FloorDiv => fdivD | .Mod => modD | .Pow => powD | .BitAnd => bandD | .BitXor => bxorD
  | _ => fun _ _ _ _ => False
theorem op_binD (op : Operator) : OpD X (binaryOp op) (binD op) := by
  cases op
  case Add => exact op_addD
  case Sub => exact op_subD
  case Mult => exact op_mulD
  case FloorDiv => exact op_fdivD
  case Mod => exact op_modD
  case Pow => exact op_powD
  case BitAnd => exact op_bandD
  case BitXor => exact op_bxorD
  all_goals exact fun _ _ _ _ _ _ _ _ h _ _ _ => h.elim
/-! subscripts -/
variable {a b e : Expr} {pos : Pos} {ta tb te : DE}
def ixD : DR2 := fun x y G Q => match x, y with
  | .tup ds, .int i => ∃ d, atI ds i = some d ∧ Q d G
  | .ref p, .int i => ∃ ds d, G p = some (.lst ds) ∧ atI ds i = some d ∧ Q d G
  | .str z, .int i => ∃ c, z.length ≤ sizeLine ∧ atI z.cps.toList i = some c ∧ Q (.str ⟨#[c]⟩) G
  | .ref p, .str k => ∃ kvs d, G p = some (.dK kvs) ∧ valD kvs (.inr k) = some d ∧ Q d G
  | _, _ => False
theorem Reps.atI {K : PySem.W.Frag} {H : Hp} {vs : List V} {ds : List D} {i : Int} {d : D} (r : Reps K H vs ds) (h : L2.atI ds i = some d) : ∃ v, L2.atI vs i = some v ∧ Rep K H v d := by
  unfold L2.atI at h ⊢
  rw [r.length]
  cases e : ixN ds.length i with
  | none => rw [e] at h; cases h
  | some j =>
    rw [e] at h
    exact r.get h
theorem qe_ix (hu : X.A.units + 64 < cLine) (ha : QE X a ta) (hb : QE X b tb) (hs : PlainIx b) : QE X (.Subscript a b pos) (dOp ixD ta tb) := by
  refine ⟨fun ρ G Q xq σ H h rs s tk => ?_⟩
  refine PE.we (pe_ix (ix_seq.or (ix_dict (by omega))) pe_max pe_max hs) ?_
  refine two_ ha hb h rs s tk fun x y v u G2 H2 q rx ry s2 e2 => ?_
  unfold ixD at q
  split at q
  · obtain ⟨d, h1, q⟩ := q
    cases ry
    cases rx with
    | tup hs r1 =>
      obtain ⟨w, h2, r2⟩ := r1.atI h1
      exact .inl (.inr (.inl ⟨_, _, _, w, rfl, rfl, hs, h2, d, G2, r2, s2, e2, q⟩))
  · cases rx; cases ry
    obtain ⟨ds, d, hg, h1, q⟩ := q
    obtain ⟨vs, h3, r1⟩ := s2 _ _ hg
    obtain ⟨w, h2, r2⟩ := r1.atI h1
    exact .inl (.inl ⟨_, _, _, w, rfl, rfl, .of h3, h2, d, G2, r2, s2, e2, q⟩)
  · cases rx; cases ry
    obtain ⟨c, hz, h1, q⟩ := q
    exact .inl (.inr (.inr ⟨_, _, c, rfl, rfl, hz, h1, _, G2, .str _, s2, e2, q⟩))
  · cases rx
    obtain ⟨kvs, d, hg, h1, q⟩ := q
    obtain ⟨w, h2, r2⟩ := (dget_of s2 hg rfl ry).1 d h1
    exact .inr ⟨_, w, rfl, h2, d, G2, r2, s2, e2, q⟩
  · exact q.elim
/-- a dict's value at an int or a text -/
def dixD : DR2 := fun x y G Q => match x with
  | .ref p => ∃ kvs k d, G p = some (.dK kvs) ∧ keyD y = some k ∧ valD kvs k = some d ∧ Q d G
  | _ => False
theorem qe_dix (hu : X.A.units + 64 < cLine) (ha : QE X a ta) (hb : QE X b tb) (hs : PlainIx b) : QE X (.Subscript a b pos) (dOp dixD ta tb) := by
  refine ⟨fun ρ G Q xq σ H h rs s tk => ?_⟩
  refine PE.we (pe_ix (ix_dict (by omega)) pe_max pe_max hs) ?_
  refine two_ ha hb h rs s tk fun x y v u G2 H2 q rx ry s2 e2 => ?_
  unfold dixD at q
  split at q
  · cases rx
    obtain ⟨kvs, k, d, hg, hk, h1, q⟩ := q
    obtain ⟨w, h2, r2⟩ := (dget_of s2 hg hk ry).1 d h1
    exact ⟨_, w, rfl, h2, d, G2, r2, s2, e2, q⟩
  · exact q.elim
/-! slices -/
abbrev DO := Ev → Sto → (Option Int → Sto → Prop) → XQ → Prop
def WPt (X : Cx) (e : Option Expr) : TO := fun σ H Q => ∀ pins s, Inv X pins σ H s → wpAny (model X.prog X.w) X.A (evalPart e X.env) (fun u s' => ∃ o H', Inv X pins σ H' s' ∧ IsPart u o ∧ Q o H') X.xe s
theorem po_max {e : Option Expr} : PO X e (WPt X e) := ⟨fun pins s σ H Q I h => h pins s I⟩
theorem PO.wp {e : Option Expr} {t : TO} {σ : L2.St} {H : Hp} {Q : Option Int → Hp → Prop} (h : PO X e t) (q : t σ H Q) : WPt X e σ H Q := fun pins s I => h.run pins s σ H Q I q
theorem WPt.imp {e : Option Expr} {σ : L2.St} {H : Hp} {Q Q' : Option Int → Hp → Prop} (h : WPt X e σ H Q) (i : ∀ v H', Q v H' → Q' v H') : WPt X e σ H Q' := fun pins s I => thn (h pins s I) fun _ _ ⟨o, H', I', p, q⟩ => ⟨o, H', I', p, i _ _ q⟩
structure QO (X : Cx) (e : Option Expr) (t : DO) : Prop where
  run : ∀ ρ G Q xq σ H, t ρ G Q xq → RepS X.K H σ ρ → Sim X.K G H → Tk X σ G H xq → WPt X e σ H fun o H' => ∃ G', Sim X.K G' H' ∧ Ext X.K G H G' H' ∧ Q o G'
def dNoPart : DO := fun _ G Q _ => Q none G
def asI (Q : Option Int → Sto → Prop) : DQ := fun d G => match d with
  | .int i => Q (some i) G
  | _ => False
def dPart (t : DE) : DO := fun ρ G Q xq => t ρ G (asI Q) xq
theorem qo_none : QO X none dNoPart := ⟨fun ρ G Q xq σ H h rs s tk => PO.wp po_none ⟨G, s, .refl, h⟩⟩
theorem qo_some (he : QE X e te) : QO X (some e) (dPart te) := by
  refine ⟨fun ρ G Q xq σ H h rs s tk => ?_⟩
  refine PO.wp (po_some pe_max) ((he.run ρ G _ xq σ H h rs s tk).imp fun v H1 ⟨x, G1, rx, s1, e1, q1⟩ => ?_)
  cases x with
  | int i =>
    cases rx
    exact ⟨i, rfl, G1, s1, e1, q1⟩
  | _ => exact False.elim q1
def cutD (xs : List D) (lo hi : Option Int) : List D := (xs.drop (HT.sIx xs.length 0 lo)).take (HT.sIx xs.length xs.length hi - HT.sIx xs.length 0 lo)
theorem Reps.cut {K : PySem.W.Frag} {H : Hp} {vs : List V} {ds : List D} (r : Reps K H vs ds) (lo hi : Option Int) : Reps K H (cutV vs lo hi) (cutD ds lo hi) := by
  unfold cutV cutD
  rw [r.length]
  exact (r.drop _).take _
theorem cut_whole {xs : List D} {lo hi : Option Int} (h : HT.sIx xs.length 0 lo = 0 ∧ HT.sIx xs.length xs.length hi = xs.length) : cutD xs lo hi = xs := by
  unfold cutD
  rw [h.1, h.2, List.drop_zero, Nat.sub_zero, List.take_length]
def slD (x : D) (lo hi : Option Int) (G : Sto) (Q : DQ) : Prop := match x with
  | .tup ds => Q (.tup (cutD ds lo hi)) G
  | .ref p => ∃ ds, G p = some (.lst ds) ∧ ∀ p, G p = none → Q (.ref p) (put G p (.lst (cutD ds lo hi)))
  | .rl ds => ∀ p, G p = none → Q (.ref p) (put G p (.lst (cutD ds lo hi)))
  | .str z => z.length ≤ sizeLine ∧ Q (.str (cutS z lo hi)) G
  | _ => False
def dSl (te : DE) (tl th : DO) : DE := fun ρ G Q xq => te ρ G (fun x G1 => tl ρ G1 (fun l G2 => th ρ G2 (fun u G3 => slD x l u G3 Q) xq) xq) xq
theorem qe_sl {lo hi : Option Expr} {tl th : DO} {p2 : Pos} (he : QE X e te) (hl : QO X lo tl) (hh : QO X hi th) : QE X (.Subscript e (.Slice lo hi none p2) pos) (dSl te tl th) := by
  refine ⟨fun ρ G Q xq σ H h rs s tk => ?_⟩
  refine PE.we (pe_slice (SlR.or sl_list (SlR.or sl_tupA sl_str)) pe_max po_max po_max) ((he.run ρ G _ xq σ H h rs s tk).imp fun v H1 ⟨x, G1, rx, s1, e1, q1⟩ => ?_)
  refine (hl.run ρ G1 _ xq σ H1 q1 (rs.mono e1.tup) s1 (tk.step e1)).imp fun l H2 ⟨G2, s2, e2, q2⟩ => ?_
  refine (hh.run ρ G2 _ xq σ H2 q2 (rs.mono (e1.trans e2).tup) s2 (tk.step (e1.trans e2))).imp fun u H3 ⟨G3, s3, e3, q3⟩ => ?_
  have e13 := (e1.trans e2).trans e3
  have rx3 := (rx.mono e2.tup).mono e3.tup
  unfold slD at q3
  split at q3
  · cases rx3 with
    | tup hs r1 =>
      refine .inr (.inl ⟨_, _, rfl, hs, fun w => ?_, fun _ p hp => Lift.back e13 _ _ (lift_tup (r1.cut l u) s3 q3 hp)⟩)
      rw [r1.length] at w
      rw [cut_whole w] at q3
      exact ⟨_, G3, .tup hs r1, s3, e13, q3⟩
  · cases rx3
    obtain ⟨ds, hg, q⟩ := q3
    obtain ⟨vs, h3, r1⟩ := s3 _ _ hg
    exact .inl ⟨_, _, rfl, .of h3, fun p hp => Lift.back e13 _ _ (lift_lst (r1.cut l u) s3 q hp)⟩
  · cases rx3 with
    | rl h3 r1 => exact .inl ⟨_, _, rfl, h3.sq, fun p hp => Lift.back e13 _ _ (lift_lst (r1.cut l u) s3 q3 hp)⟩
  · cases rx3
    exact .inr (.inr ⟨_, rfl, q3.1, _, G3, .str _, s3, e13, q3.2⟩)
  · exact q3.elim
/-- xs[::-1] of a list -/
def revD : DR1 := fun x G Q => match x with
  | .ref p => ∃ ds, G p = some (.lst ds) ∧ ∀ p, G p = none → Q (.ref p) (put G p (.lst ds.reverse))
  | .tup ds => Q (.tup ds.reverse) G
  | _ => False
theorem qe_rev {k : Nat} {p1 p2 p3 : Pos} (he : QE X e te) : QE X (.Subscript e (.Slice none none (some (.UnaryOp .USub (.Constant (.int 1) k p1) p2)) p3) pos) (dUn revD te) := by
  refine ⟨fun ρ G Q xq σ H h rs s tk => ?_⟩
  refine PE.we (pe_back pe_max) ((he.run ρ G _ xq σ H h rs s tk).imp fun v H1 ⟨x, G1, rx, s1, e1, q1⟩ => ?_)
  have q1 : revD x G1 Q := q1
  unfold revD at q1
  split at q1
  · cases rx
    obtain ⟨ds, hg, q⟩ := q1
    obtain ⟨vs, h3, r1⟩ := s1 _ _ hg
    exact .inl ⟨_, _, rfl, .of h3, fun p hp => Lift.back e1 _ _ (lift_lst r1.reverse s1 q hp)⟩
  · cases rx with
    | tup h3 r1 => exact .inr ⟨_, _, rfl, h3, fun p hp => Lift.back e1 _ _ (lift_tup r1.reverse s1 q1 hp)⟩
  · exact q1.elim
end
end DL

namespace DL
open PySem PySem.Spec PyProof.Rows L2
section
variable {X : Cx}
/-! built-ins by name -/
inductive Bl where
  | len | abs | int | str | tuple | list | sum | max | min | all | any | isi | sorted
  deriving DecidableEq
def Bl.name : Bl → Str
  | .len => "len" | .abs => "abs" | .int => "int" | .str => "str" | .tuple => "tuple" | .list => "list" | .sum => "sum" | .max => "max" | .min => "min" | .all => "all" | .any => "any" | .isi => "isinstance" | .sorted => "sorted"
def Bl.val : Bl → Value
  | .len => .builtin "len" | .abs => .builtin "abs" | .int => .type "int" | .str => .type "str" | .tuple => .type "tuple" | .list => .type "list" | .sum => .builtin "sum" | .max => .builtin "max" | .min => .builtin "min" | .all => .builtin "all" | .any => .builtin "any" | .isi => .builtin "isinstance" | .sorted => .builtin "sorted"
theorem Bl.boot (b : Bl) : bootBuiltins b.name = some b.val := by
  cases b <;> decide +kernel
theorem Bl.nn (b : Bl) : b.name ≠ "__name__" := by
  cases b <;> decide
theorem Bl.nd (b : Bl) : (b.name == ("__debug__" : Str)) = false := by
  cases b <;> decide
abbrev DRA := List D → Sto → DQ → Prop
def WC (X : Cx) (f : Value) (vs : List V) (σ : L2.St) (H : Hp) (R : VK) : Prop :=
  ∀ pins s us, Inv X pins σ H s → Vals vs us → wpAny (model X.prog X.w) X.A (call f us) (EP X pins σ R) X.xe s
def CallD (X : Cx) (f : Value) (r : DRA) : Prop := ∀ ds G Q vs σ H, r ds G Q → Reps X.K H vs ds → Sim X.K G H → WC X f vs σ H (Lift X.K G H Q)
theorem CallR.wc {f : Value} {r : List V → Hp → VK → Prop} {vs : List V} {σ : L2.St} {H : Hp} {R : VK} (h : CallR X f r) (q : r vs H R) : WC X f vs σ H R := fun pins s us I rv => h pins s σ H vs us R I rv q
theorem call_max_ {f : Value} : CallR X f (fun vs H R => ∀ σ, WC X f vs σ H R) := fun pins s σ H xs us Q I r h => h σ pins s us I r
theorem WC.imp {f : Value} {vs : List V} {σ : L2.St} {H : Hp} {R R' : VK} (h : WC X f vs σ H R) (i : ∀ v H', R v H' → R' v H') : WC X f vs σ H R' :=
  fun pins s us I rv => thn (h pins s us I rv) fun _ _ ⟨v, H', I', r, q⟩ => ⟨v, H', I', r, i _ _ q⟩
def dCall (r : DRA) (t : DA) : DE := fun ρ G Q xq => t ρ G (fun ds G1 => r ds G1 Q) xq
variable {e : Expr} {es : List Expr} {tas : DA} {p pos : Pos}
theorem qe_blt {r : DRA} {b : Bl} (hr : CallD X b.val r) (hg : Gl X b.name) (hm : X.mg b.name = none) (ha : QA X (e :: es) tas) (he : starEach (e :: es) X.env = (false, eval e X.env) :: starEach es X.env) (hpl : (backTo pos (starEach es X.env)).any (·.1) = false) :
    QE X (.Call (.Name b.name p) (e :: es) [] pos) (dCall r tas) := by
  refine ⟨fun ρ G Q xq σ H h rs s tk => ?_⟩
  have main : tCB (fun vs H R => ∀ σ, WC X b.val vs σ H R) (WA X (e :: es)) σ H (Lift X.K G H Q) :=
    (ha.run ρ G _ xq σ H h rs s tk).imp fun vs H1 ⟨ds, G1, r1, s1, e1, q1⟩ => fun σ' => (hr ds G1 Q vs σ' H1 q1 r1 s1).imp (Lift.back e1)
  cases hv : b.val with
  | builtin id =>
    rw [hv] at main
    exact PE.we (pe_callB (id := id) call_max_ hg hm (by rw [b.boot, hv]) pa_max b.nn b.nd he hpl) main
  | type T =>
    rw [hv] at main
    exact PE.we (pe_callTy (T := T) call_max_ hg hm (by rw [b.boot, hv]) pa_max b.nn b.nd he hpl) main
  | _ => cases b <;> cases hv
theorem Reps.one {K : PySem.W.Frag} {H : Hp} {vs : List V} {d : D} (h : Reps K H vs [d]) : ∃ v, vs = [v] ∧ Rep K H v d := by
  cases h with
  | cons a b => cases b; exact ⟨_, rfl, a⟩
theorem Reps.two {K : PySem.W.Frag} {H : Hp} {vs : List V} {d e : D} (h : Reps K H vs [d, e]) : ∃ v u, vs = [v, u] ∧ Rep K H v d ∧ Rep K H u e := by
  cases h with
  | cons a b =>
    obtain ⟨u, rfl, r⟩ := b.one
    exact ⟨_, u, rfl, a, r⟩
/-- what a list (no tuple) holds -/
def lstD (d : D) (G : Sto) (k : List D → Prop) : Prop := match d with
  | .ref a => ∃ ds, G a = some (.lst ds) ∧ k ds
  | _ => False
theorem lst_ {K : PySem.W.Frag} {d : D} {G : Sto} {k : List D → Prop} {v : V} {H : Hp} (h : lstD d G k) (r : Rep K H v d) (s : Sim K G H) : ∃ p vs ds, v = .ref p ∧ SqL K H p vs ∧ Reps K H vs ds ∧ k ds := by
  cases d with
  | ref a =>
    cases r
    obtain ⟨ds, hg, q⟩ := h
    obtain ⟨vs, h1, h2⟩ := s a _ hg
    exact ⟨_, vs, ds, rfl, .of h1, h2, q⟩
  | _ => exact False.elim h
theorem Reps.ints {K : PySem.W.Frag} {H : Hp} : ∀ {vs : List V} {ns : List Int}, Reps K H vs (ns.map D.int) → vs = ns.map V.int
  | _, [], h => by cases h; rfl
  | _, n :: ns, h => by
    cases h with
    | cons a b => cases a; rw [Reps.ints b]; rfl
theorem Reps.bls {K : PySem.W.Frag} {H : Hp} : ∀ {vs : List V} {ns : List Bool}, Reps K H vs (ns.map D.bl) → vs = ns.map V.bl
  | _, [], h => by cases h; rfl
  | _, n :: ns, h => by
    cases h with
    | cons a b => cases a; rw [Reps.bls b]; rfl
theorem Reps.strs {K : PySem.W.Frag} {H : Hp} : ∀ {vs : List V} {ns : List Str}, Reps K H vs (ns.map D.str) → vs = ns.map V.str
  | _, [], h => by cases h; rfl
  | _, n :: ns, h => by
    cases h with
    | cons a b => cases a; rw [Reps.strs b]; rfl
theorem reps_ints {K : PySem.W.Frag} {H : Hp} : ∀ ns : List Int, Reps K H (ns.map V.int) (ns.map D.int)
  | [] => .nil
  | n :: ns => .cons (.int n) (reps_ints ns)
theorem reps_strs {K : PySem.W.Frag} {H : Hp} : ∀ ns : List Str, Reps K H (ns.map V.str) (ns.map D.str)
  | [] => .nil
  | n :: ns => .cons (.str n) (reps_strs ns)
/-- the type's name -/
def tyD (d : D) (G : Sto) (k : String → Prop) : Prop := match d with
  | .non => k "NoneType" | .bl _ => k "bool" | .int _ => k "int" | .str _ => k "str" | .tup _ => k "tuple"
  | .ref a => ((∃ ds, G a = some (.lst ds)) ∧ k "list") ∨ ((∃ kvs, G a = some (.dK kvs)) ∧ k "dict") ∨ ((∃ kvs, G a = some (.dT kvs)) ∧ k "dict")
  | .ty _ => False
  | .rl _ => False
theorem ty_ {K : PySem.W.Frag} {d : D} {G : Sto} {k : String → Prop} {v : V} {H : Hp} (h : tyD d G k) (r : Rep K H v d) (s : Sim K G H) : ∃ n, TyX K H v (.type n) ∧ k n := by
  cases d with
  | non => cases r; exact ⟨_, .base .non, h⟩
  | bl b => cases r; exact ⟨_, .base (.bl b), h⟩
  | int i => cases r; exact ⟨_, .base (.int i), h⟩
  | str x => cases r; exact ⟨_, .base (.str x), h⟩
  | tup ds =>
    cases r with
    | tup h1 r1 =>
      rcases h1 with (h1 | ⟨o, h1⟩) | ⟨o, its, n, h1, h2, _⟩
      · exact ⟨_, .base (.tup h1), h⟩
      · exact ⟨_, .fTuple h1, h⟩
      · exact ⟨_, .kTuple h1 h2, h⟩
  | ref a =>
    cases r
    rcases h with ⟨⟨ds, g⟩, q⟩ | ⟨⟨ds, g⟩, q⟩ | ⟨⟨ds, g⟩, q⟩
    · obtain ⟨vs, h1, _⟩ := s a _ g
      exact ⟨_, .base (.lst h1), q⟩
    · obtain ⟨vs, h1, _⟩ := s a _ g
      exact ⟨_, .base (.dK h1), q⟩
    · obtain ⟨vs, h1, _⟩ := s a _ g
      exact ⟨_, .base (.dT h1), q⟩
  | ty n => exact False.elim h
  | rl n => exact False.elim h
def bltD : Bl → DRA
  | .len => fun ds G Q => match ds with
    | [.str z] => z.length ≤ sizeLine ∧ Q (.int z.length) G
    | [x] => seqD x G fun ys => Q (.int ys.length) G
    | _ => False
  | .abs => fun ds G Q => match ds with
    | [.int i] => Q (.int (if i < 0 then -i else i)) G
    | _ => False
  | .int => fun ds G Q => match ds with
    | [.int i] => Q (.int i) G
    | [.bl k] => Q (.int (if k then 1 else 0)) G
    | _ => False
  | .str => fun ds G Q => match ds with
    | [.int i] => i.natAbs.log2 < 1920 ∧ Q (.str (toString i)) G
    | _ => False
  | .tuple => fun ds G Q => match ds with
    | [.tup ys] => Q (.tup ys) G
    | [x] => lstD x G fun ys => Q (.tup ys) G
    | _ => False
  | .list => fun ds G Q => match ds with
    | [x] => seqD x G fun ys => ∀ p, G p = none → Q (.ref p) (put G p (.lst ys))
    | _ => False
  | .sum => fun ds G Q => match ds with
    | [x] => lstD x G fun ys => ∃ ns : List Int, ys = ns.map D.int ∧ Q (.int ns.sum) G
    | _ => False
  | .max => fun ds G Q => match ds with
    | [.int i, .int j] => Q (.int (if j > i then j else i)) G
    | _ => False
  | .min => fun ds G Q => match ds with
    | [.int i, .int j] => Q (.int (if j < i then j else i)) G
    | _ => False
  | .all => fun ds G Q => match ds with
    | [x] => lstD x G fun ys => ∃ bs : List Bool, ys = bs.map D.bl ∧ Q (.bl (bs.all id)) G
    | _ => False
  | .any => fun ds G Q => match ds with
    | [x] => lstD x G fun ys => ∃ bs : List Bool, ys = bs.map D.bl ∧ Q (.bl (bs.any id)) G
    | _ => False
  | .isi => fun ds G Q => match ds with
    | [x, .ty n] => tyD x G fun t => ∃ b, kitB t n = some b ∧ Q (.bl b) G
    | _ => False
  | .sorted => fun ds G Q => match ds with
    | [x] => lstD x G fun ys => (∃ ns : List Int, ys = ns.map D.int ∧ ns.length < 64 ∧ ∀ (ns' : List Int) (p : Addr), ns'.Perm ns → ns'.Pairwise (· ≤ ·) → G p = none → Q (.ref p) (put G p (.lst (ns'.map D.int)))) ∨
        ∃ ns : List Str, ys = ns.map D.str ∧ ns.length < 64 ∧ ∀ (ns' : List Str) (p : Addr), ns'.Perm ns → sortedS ns' = true → G p = none → Q (.ref p) (put G p (.lst (ns'.map D.str)))
    | _ => False
theorem blt_ok (hc : X.calm = true) (b : Bl) : CallD X b.val (bltD b) := by
  cases b
  case len =>
    intro ds G Q vs σ H h r s
    simp only [bltD] at h
    split at h
    · obtain ⟨v, rfl, r1⟩ := r.one
      cases r1
      exact CallR.wc call_len_str ⟨_, rfl, h.1, Lift.here (.int _) s h.2⟩
    · obtain ⟨v, rfl, r1⟩ := r.one
      obtain ⟨p, us, ys, rfl, hs, r2, q⟩ := seq_ h r1 s
      exact CallR.wc call_len_seq ⟨p, us, rfl, hs, by rw [r2.length]; exact Lift.here (.int _) s q⟩
    · exact h.elim
  case abs =>
    intro ds G Q vs σ H h r s
    simp only [bltD] at h
    split at h
    · obtain ⟨v, rfl, r1⟩ := r.one
      cases r1
      exact CallR.wc call_abs ⟨_, rfl, Lift.here (.int _) s h⟩
    · exact h.elim
  case int =>
    intro ds G Q vs σ H h r s
    simp only [bltD] at h
    split at h
    · obtain ⟨v, rfl, r1⟩ := r.one
      cases r1
      exact CallR.wc call_int1 (.inl ⟨_, rfl, Lift.here (.int _) s h⟩)
    · obtain ⟨v, rfl, r1⟩ := r.one
      cases r1
      exact CallR.wc call_int1 (.inr ⟨_, rfl, Lift.here (.int _) s h⟩)
    · exact h.elim
  case str =>
    intro ds G Q vs σ H h r s
    simp only [bltD] at h
    split at h
    · obtain ⟨v, rfl, r1⟩ := r.one
      cases r1
      exact CallR.wc call_str_int ⟨_, rfl, h.1, Lift.here (.str _) s h.2⟩
    · exact h.elim
  case tuple =>
    intro ds G Q vs σ H h r s
    simp only [bltD] at h
    split at h
    · obtain ⟨v, rfl, r1⟩ := r.one
      cases r1 with
      | tup h1 r2 => exact CallR.wc call_tuple_of ⟨_, _, rfl, .inr ⟨h1, Lift.here (.tup h1 r2) s h⟩⟩
    · obtain ⟨v, rfl, r1⟩ := r.one
      obtain ⟨p, us, ys, rfl, hs, r2, q⟩ := lst_ h r1 s
      exact CallR.wc call_tuple_of ⟨p, us, rfl, .inl ⟨hs, fun l hl => lift_tup r2 s q hl⟩⟩
    · exact h.elim
  case list =>
    intro ds G Q vs σ H h r s
    simp only [bltD] at h
    split at h
    · obtain ⟨v, rfl, r1⟩ := r.one
      obtain ⟨p, us, ys, rfl, hs, r2, q⟩ := seq_ h r1 s
      exact CallR.wc call_list_of ⟨p, us, rfl, hs, fun l hl => lift_lst r2 s q hl⟩
    · exact h.elim
  case sum =>
    intro ds G Q vs σ H h r s
    simp only [bltD] at h
    split at h
    · obtain ⟨v, rfl, r1⟩ := r.one
      obtain ⟨p, us, ys, rfl, hs, r2, ns, rfl, q⟩ := lst_ h r1 s
      rw [r2.ints] at hs
      exact CallR.wc (cr_sum hc) ⟨p, ns, rfl, hs, Lift.here (.int _) s q⟩
    · exact h.elim
  case max =>
    intro ds G Q vs σ H h r s
    simp only [bltD] at h
    split at h
    · obtain ⟨v, u, rfl, r1, r2⟩ := r.two
      cases r1; cases r2
      exact CallR.wc (call_max2 hc) ⟨_, _, rfl, Lift.here (.int _) s h⟩
    · exact h.elim
  case min =>
    intro ds G Q vs σ H h r s
    simp only [bltD] at h
    split at h
    · obtain ⟨v, u, rfl, r1, r2⟩ := r.two
      cases r1; cases r2
      exact CallR.wc (call_min2 hc) ⟨_, _, rfl, Lift.here (.int _) s h⟩
    · exact h.elim
  case all =>
    intro ds G Q vs σ H h r s
    simp only [bltD] at h
    split at h
    · obtain ⟨v, rfl, r1⟩ := r.one
      obtain ⟨p, us, ys, rfl, hs, r2, ns, rfl, q⟩ := lst_ h r1 s
      rw [r2.bls] at hs
      exact CallR.wc (cr_all hc) ⟨p, ns, rfl, hs, Lift.here (.bl _) s q⟩
    · exact h.elim
  case any =>
    intro ds G Q vs σ H h r s
    simp only [bltD] at h
    split at h
    · obtain ⟨v, rfl, r1⟩ := r.one
      obtain ⟨p, us, ys, rfl, hs, r2, ns, rfl, q⟩ := lst_ h r1 s
      rw [r2.bls] at hs
      exact CallR.wc (cr_any hc) ⟨p, ns, rfl, hs, Lift.here (.bl _) s q⟩
    · exact h.elim
  case isi =>
    intro ds G Q vs σ H h r s
    simp only [bltD] at h
    split at h
    · obtain ⟨v, u, rfl, r1, r2⟩ := r.two
      cases r2
      obtain ⟨t, ht, b, hb, q⟩ := ty_ h r1 s
      exact CallR.wc call_isi ⟨v, _, _, _, b, rfl, .ty _, ht, kit_ty hb, Lift.here (.bl b) s q⟩
    · exact h.elim
  case sorted =>
    intro ds G Q vs σ H h r s
    simp only [bltD] at h
    split at h
    · obtain ⟨v, rfl, r1⟩ := r.one
      obtain ⟨p, us, ys, rfl, hs, r2, ⟨ns, rfl, hl, q⟩ | ⟨ns, rfl, hl, q⟩⟩ := lst_ h r1 s
      · rw [r2.ints] at hs
        exact CallR.wc cr_sorted ⟨p, ns, rfl, hs, hl, fun ns' p h1 h2 hp => lift_lst (reps_ints ns') s (fun p' g => by
          exact q ns' p' h1 h2 g) hp⟩
      · rw [r2.strs] at hs
        exact CallR.wc cr_sortedS ⟨p, ns, rfl, hs, hl, fun ns' p h1 h2 hp => lift_lst (reps_strs ns') s (fun p' g => by
          exact q ns' p' h1 h2 g) hp⟩
    · exact h.elim
end
end DL

namespace DL
open PySem PySem.Spec PyProof.Rows L2
/-! no stars among the arguments -/
def noStar : Expr → Bool
  | .Starred .. => false
  | _ => true
theorem starEach_cons {e : Expr} {es : List Expr} {env : PySem.Env} (h : noStar e = true) : starEach (e :: es) env = (false, eval e env) :: starEach es env := by
  cases e <;> first | rfl | cases h
theorem starEach_any {env : PySem.Env} : ∀ {es : List Expr}, es.all noStar = true → ∀ pos, (backTo pos (starEach es env)).any (·.1) = false
  | [], _, _ => rfl
  | e :: es, h, pos => by
    rw [List.all_cons, Bool.and_eq_true] at h
    rw [starEach_cons h.1]
    have := starEach_any (env := env) h.2 pos
    unfold backTo at this ⊢
    rw [List.map_cons, List.any_cons, this]
    rfl
theorem starEach_all {env : PySem.Env} : ∀ {es : List Expr}, es.all noStar = true → ∀ pos, (backTo pos (starEach es env)).all (fun x => !x.1) = true
  | [], _, _ => rfl
  | e :: es, h, pos => by
    rw [List.all_cons, Bool.and_eq_true] at h
    rw [starEach_cons h.1]
    have := starEach_all (env := env) h.2 pos
    unfold backTo at this ⊢
    rw [List.map_cons, List.all_cons, this]
    rfl
def baseOk : Expr → Bool
  | .Call (.Name id _) [] [] _ => id != "super"
  | _ => true
theorem base_ok {o : Expr} {attr : Str} {env : PySem.Env} {whole : Sem Value} (h : baseOk o = true) : attributeBase o attr env whole = whole := by
  unfold attributeBase
  split
  · rename_i id p pos
    have e : (id != "super") = true := h
    rw [e]
    simp
  · rfl
section
variable {X : Cx} {e o : Expr} {es : List Expr} {te to : DE} {tas : DA} {p pos apos cpos : Pos}
/-! types by name -/
inductive Tn where
  | int | str | bool | list | tuple | dict
  deriving DecidableEq
def Tn.name : Tn → Str
  | .int => "int" | .str => "str" | .bool => "bool" | .list => "list" | .tuple => "tuple" | .dict => "dict"
def Tn.ty : Tn → String
  | .int => "int" | .str => "str" | .bool => "bool" | .list => "list" | .tuple => "tuple" | .dict => "dict"
theorem Tn.boot (b : Tn) : bootBuiltins b.name = some (.type b.ty) := by
  cases b <;> decide +kernel
theorem Tn.nn (b : Tn) : b.name ≠ "__name__" := by
  cases b <;> decide
theorem Tn.nd (b : Tn) : (b.name == ("__debug__" : Str)) = false := by
  cases b <;> decide
theorem qe_tn {t : Tn} (hg : Gl X t.name) (hm : X.mg t.name = none) : QE X (.Name t.name pos) (dC (.ty t.ty)) := qe_ty hg hm t.boot t.nn t.nd
/-- isinstance(e, (t, ..)) -/
def isNames : List Tn → List Expr → Bool
  | [], [] => true
  | t :: ts, .Name x _ :: es => decide (x = t.name) && isNames ts es
  | _, _ => false
theorem pa_tns : ∀ {ts : List Tn} {es : List Expr}, isNames ts es = true → (∀ t ∈ ts, Gl X t.name ∧ X.mg t.name = none) → PA X es (fun _ H Q => Q (ts.map fun t => V.ty t.ty) H)
  | [], [], _, _ => pa_nil
  | t :: ts, .Name x p :: es, h, hm => by
    unfold isNames at h
    rw [Bool.and_eq_true, decide_eq_true_eq] at h
    obtain ⟨rfl, h⟩ := h
    have h1 := hm t (by simp)
    exact pa_cons (pe_bltn (v := .ty t.ty) h1.1 h1.2 t.boot rfl t.nn t.nd) (pa_tns h fun u hu => hm u (by simp [hu])) rfl
  | [], _ :: _, h, _ => by simp [isNames] at h
  | _ :: _, [], h, _ => by simp [isNames] at h
def kitBs (t : String) : List String → Option Bool
  | [] => some false
  | c :: r => match kitB t c with
    | some true => some true
    | some false => kitBs t r
    | none => none
theorem kitBs_eq {K : PySem.W.Frag} {t : String} : ∀ ns : List String, PySem.W.kitAny K (.type t) (ns.map Value.type) = kitBs t ns
  | [] => rfl
  | c :: r => by
    rw [List.map_cons]
    unfold PySem.W.kitAny kitBs
    rw [show PySem.W.kitOne K (.type t) (.type c) = kitB t c from rfl]
    cases kitB t c with
    | none => rfl
    | some b =>
      cases b with
      | true => rfl
      | false => exact kitBs_eq r
def isiT (ts : List Tn) : DR1 := fun x G Q => tyD x G fun n => ∃ b, kitBs n (ts.map Tn.ty) = some b ∧ Q (.bl b) G
theorem cls_tns : ∀ ts : List Tn, Paired ClsV (ts.map fun t => V.ty t.ty) ((ts.map Tn.ty).map Value.type)
  | [] => .nil
  | t :: ts => .cons (.ty _) (cls_tns ts)
theorem qe_isiT {ts : List Tn} {k : Nat} {tp : Pos} (hg : Gl X "isinstance") (hm : X.mg "isinstance" = none) (he : QE X e te) (hn : noStar e = true) (ht : isNames ts es = true) (hts : ∀ t ∈ ts, Gl X t.name ∧ X.mg t.name = none) (hl : ts.length ≤ 1000) :
    QE X (.Call (.Name "isinstance" p) [e, .Tuple es k tp] [] pos) (dUn (isiT ts) te) := by
  refine ⟨fun ρ G Q xq σ H h rs s tk => ?_⟩
  refine PE.we (pe_callB call_isiT hg hm Bl.isi.boot (pa_cons pe_max (pa_cons (pe_tup (pa_tns ht hts)) pa_nil rfl) (starEach_cons hn)) Bl.isi.nn Bl.isi.nd (starEach_cons hn) rfl) ?_
  refine (he.run ρ G _ xq σ H h rs s tk).imp fun v H1 ⟨x, G1, rx, s1, e1, q1⟩ => ?_
  refine ⟨by rw [List.length_map]; exact Nat.le_of_lt (small1000 hl), fun p hp => ?_⟩
  have s2 : Sim X.K G1 (upd H1 p (.tup (ts.map fun t => V.ty t.ty))) := s1.newT hp
  have e2 : Ext X.K G1 H1 G1 (upd H1 p (.tup (ts.map fun t => V.ty t.ty))) := .newT hp
  obtain ⟨n, hty, b, hb, q⟩ := ty_ q1 (rx.mono e2.tup) s2
  exact ⟨v, p, _, _, _, b, rfl, upd_same, cls_tns ts, hty, by rw [kitBs_eq]; exact hb, .bl b, G1, .bl b, s2, e1.trans e2, q⟩
/-! methods of built-in types -/
inductive Mt where
  | append | extend | join | upper | index | pop
  deriving DecidableEq
def Mt.name : Mt → Str
  | .append => "append" | .extend => "extend" | .join => "join" | .upper => "upper" | .index => "index" | .pop => "pop"
abbrev DRM := D → List D → Sto → DQ → Prop
def mtD : Mt → DRM
  | .append => fun x ds G Q => match x, ds with
    | .ref a, [y] => ∃ xs, G a = some (.lst xs) ∧ xs.length < sizeLine ∧ Q .non (put G a (.lst (xs ++ [y])))
    | _, _ => False
  | .extend => fun x ds G Q => match x, ds with
    | .ref a, [.ref b] => ∃ xs ys, G a = some (.lst xs) ∧ G b = some (.lst ys) ∧ xs.length + ys.length ≤ sizeLine ∧ Q .non (put G a (.lst (xs ++ ys)))
    | _, _ => False
  | .join => fun x ds G Q => match x, ds with
    | .str z, [y] => seqD y G fun ys => ∃ ts : List Str, ys = ts.map D.str ∧ (ts.map (·.length)).sum + ts.length * z.length ≤ 16777216 ∧ Q (.str (Txt.join z ts)) G
    | _, _ => False
  | .upper => fun x ds G Q => match x, ds with
    | .str z, [] => z.length ≤ 5592405 ∧ Q (.str (Txt.upper z)) G
    | _, _ => False
  | .index => fun x ds G Q => match x, ds with
    | .ref a, [y] => ∃ (xs : List D) (ps : List PyData) (q z : PyData) (j : Nat), G a = some (.lst xs) ∧ Dds G xs ps ∧ Dd G y q ∧ SeqAt.shaped (.list ps) = true ∧ SeqAt.shaped q = true ∧ ps[j]? = some z ∧ PyData.eqv z q = true ∧
        (∀ (m : Nat) (z' : PyData), m < j → ps[m]? = some z' → PyData.eqv z' q = false) ∧ Q (.int (j : Nat)) G
    | _, _ => False
  | .pop => fun x ds G Q => match x, ds with
    | .ref a, [] => ∃ xs y, G a = some (.lst xs) ∧ xs[xs.length - 1]? = some y ∧ Q y (put G a (.lst xs.dropLast))
    | _, _ => False
def Mt.ty : Mt → String
  | .append => "list" | .extend => "list" | .join => "str" | .upper => "str" | .index => "list" | .pop => "list"
def Mt.id : Mt → String
  | .append => "list.append" | .extend => "list.extend" | .join => "str.join" | .upper => "str.upper" | .index => "list.index" | .pop => "list.pop"
theorem Mt.attrs (m : Mt) : PlainAttrs m.ty := by
  cases m <;> first | exact PySem.F.plainAttrs_list | exact PySem.F.plainAttrs_str
theorem Mt.slot (m : Mt) : Slot m.ty m.name m.id := by
  cases m
  · exact PySem.F.slot_list_append
  · exact PySem.F.slot_list_extend
  · exact PySem.F.slot_str_join
  · exact PySem.F.slot_str_upper
  · exact PySem.F.slot_list_index
  · exact PySem.F.slot_list_pop
theorem Mt.typ (m : Mt) : typeOf (.builtin m.id) = pure (.type "method_descriptor") := by
  cases m
  · exact PySem.F.type_list_append
  · exact PySem.F.type_list_extend
  · exact PySem.F.type_str_join
  · exact PySem.F.type_str_upper
  · exact PySem.F.type_list_index
  · exact PySem.F.type_list_pop
/-- the receiver is of the method's type -/
def recD (t : String) (x : D) (G : Sto) : Prop := match x with
  | .str _ => t = "str"
  | .ref a => t = "list" ∧ ∃ ds, G a = some (.lst ds)
  | _ => False
theorem rec_ {K : PySem.W.Frag} {t : String} {x : D} {G : Sto} {v : V} {H : Hp} (h : recD t x G) (r : Rep K H v x) (s : Sim K G H) : tyV K t v H := by
  cases x with
  | str z => cases r; exact h
  | ref a =>
    cases r
    obtain ⟨e, ds, g⟩ := h
    obtain ⟨vs, h1, _⟩ := s a _ g
    exact .inl ⟨e, vs, .of h1⟩
  | _ => exact False.elim h
def WM (X : Cx) (id : String) (v : V) (vs : List V) (σ : L2.St) (H : Hp) (R : VK) : Prop :=
  ∀ pins s v' us, Inv X pins σ H s → RelV v v' → Vals vs us → wpAny (model X.prog X.w) X.A (call (.builtin id) (v' :: us)) (EP X pins σ R) X.xe s
theorem mt_max {id : String} : MtR X id (fun v vs H R => ∀ σ, WM X id v vs σ H R) := fun pins s σ H x xs v us Q I rx rs h => h σ pins s v us I rx rs
theorem MtR.wm {id : String} {r : V → List V → Hp → VK → Prop} {v : V} {vs : List V} {σ : L2.St} {H : Hp} {R : VK} (h : MtR X id r) (q : r v vs H R) : WM X id v vs σ H R := fun pins s v' us I rx rs => h pins s σ H v vs v' us R I rx rs q
theorem WM.imp {id : String} {v : V} {vs : List V} {σ : L2.St} {H : Hp} {R R' : VK} (h : WM X id v vs σ H R) (i : ∀ v H', R v H' → R' v H') : WM X id v vs σ H R' :=
  fun pins s v' us I rx rs => thn (h pins s v' us I rx rs) fun _ _ ⟨v, H', I', r, q⟩ => ⟨v, H', I', r, i _ _ q⟩
def MtD (X : Cx) (id : String) (r : DRM) : Prop := ∀ x ds G Q v vs σ H, r x ds G Q → Rep X.K H v x → Reps X.K H vs ds → Sim X.K G H → WM X id v vs σ H (Lift X.K G H Q)
theorem lift_mut {K : PySem.W.Frag} {G : Sto} {H : Hp} {Q : DQ} {a : Addr} {xs : List D} {vs ws : List V} {ys : List D} {v : V} {d : D} (g : G a = some (.lst xs)) (h : H a = some (.lst vs)) (s : Sim K G H) (r : Reps K H ws ys) (rv : Rep K H v d) (q : Q d (put G a (.lst ys))) : Lift K G H Q v (upd H a (.lst ws)) :=
  ⟨d, put G a (.lst ys), rv.mono (tup_mut h rfl), s.mut (c0 := .lst xs) h rfl ⟨ws, upd_same, r.mono (tup_mut h rfl)⟩, .mut g h rfl, q⟩
theorem Reps.dropLast {K : PySem.W.Frag} {H : Hp} {vs : List V} {ds : List D} (h : Reps K H vs ds) : Reps K H vs.dropLast ds.dropLast := by
  rw [List.dropLast_eq_take, List.dropLast_eq_take, h.length]
  exact h.take _
theorem Reps.zero {K : PySem.W.Frag} {H : Hp} {vs : List V} (h : Reps K H vs []) : vs = [] := by cases h; rfl
theorem mt_ok (hu : X.A.units + 65 < cLine) (m : Mt) : MtD X m.id (mtD m) := by
  cases m
  case append =>
    intro x ds G Q v vs σ H h rx rs s
    simp only [mtD] at h
    split at h
    · cases rx
      obtain ⟨xs, g, hl, q⟩ := h
      obtain ⟨u, rfl, r1⟩ := rs.one
      obtain ⟨ws, h1, r2⟩ := s _ _ g
      exact MtR.wm mt_append ⟨_, ws, u, rfl, rfl, h1, by rw [r2.length]; exact hl, lift_mut g h1 s (r2.append (.cons r1 .nil)) .non q⟩
    · exact h.elim
  case extend =>
    intro x ds G Q v vs σ H h rx rs s
    simp only [mtD] at h
    split at h
    · cases rx
      obtain ⟨xs, ys, g, g', hl, q⟩ := h
      obtain ⟨u, rfl, r1⟩ := rs.one
      cases r1
      obtain ⟨ws, h1, r2⟩ := s _ _ g
      obtain ⟨zs, h3, r3⟩ := s _ _ g'
      exact MtR.wm mt_extend ⟨_, _, ws, zs, rfl, rfl, h1, h3, by rw [r2.length, r3.length]; exact hl, lift_mut g h1 s (r2.append r3) .non q⟩
    · exact h.elim
  case join =>
    intro x ds G Q v vs σ H h rx rs s
    simp only [mtD] at h
    split at h
    · cases rx
      obtain ⟨u, rfl, r1⟩ := rs.one
      obtain ⟨p, us, ys, rfl, hs, r2, ts, rfl, hl, q⟩ := seq_ h r1 s
      rw [r2.strs] at hs
      exact MtR.wm mt_join ⟨_, p, ts, rfl, rfl, hs, hl, Lift.here (.str _) s q⟩
    · exact h.elim
  case upper =>
    intro x ds G Q v vs σ H h rx rs s
    simp only [mtD] at h
    split at h
    · cases rx
      rw [rs.zero]
      exact MtR.wm mt_upper ⟨_, rfl, rfl, h.1, Lift.here (.str _) s h.2⟩
    · exact h.elim
  case index =>
    intro x ds G Q v vs σ H h rx rs s
    simp only [mtD] at h
    split at h
    · cases rx
      obtain ⟨u, rfl, r1⟩ := rs.one
      obtain ⟨xs, ps, q, z, j, g, h1, h2, h3, h4, h5, h6, h7, h8⟩ := h
      obtain ⟨ws, h9, r2⟩ := s _ _ g
      exact MtR.wm (mt_indexD hu) ⟨_, u, q, ps, j, z, rfl, rfl, .lst (.of h9) (h1.dp s r2), h2.dp s r1, h3, h4, h5, h6, h7, Lift.here (.int _) s h8⟩
    · exact h.elim
  case pop =>
    intro x ds G Q v vs σ H h rx rs s
    simp only [mtD] at h
    split at h
    · cases rx
      rw [rs.zero]
      obtain ⟨xs, y, g, h1, q⟩ := h
      obtain ⟨ws, h2, r2⟩ := s _ _ g
      obtain ⟨w, h3, r3⟩ := r2.get h1
      exact MtR.wm mt_pop ⟨_, ws, w, rfl, rfl, h2, by rw [r2.length]; exact h3, lift_mut g h2 s r2.dropLast r3 q⟩
    · exact h.elim
def dMt (t : String) (r : DRM) (to : DE) (tas : DA) : DE := fun ρ G Q xq => to ρ G (fun x G1 => recD t x G1 ∧ tas ρ G1 (fun ds G2 => r x ds G2 Q) xq) xq
theorem qe_mt {m : Mt} {r : DRM} (hr : MtD X m.id r) (ho : QE X o to) (ha : QA X (e :: es) tas) (hb : baseOk o = true) (hn : (e :: es).all noStar = true) (hl : (e :: es).length < 30) (hline : (apos.endLine == cpos.line) = true) :
    QE X (.Call (.Attribute o m.name apos) (e :: es) [] cpos) (dMt m.ty r to tas) := by
  refine ⟨fun ρ G Q xq σ H h rs s tk => ?_⟩
  have hn2 := hn
  rw [List.all_cons, Bool.and_eq_true] at hn2
  refine PE.we (pe_bm m.attrs m.slot m.typ mt_max pe_max pa_max (base_ok hb) ?_ hline (starEach_cons hn2.1) (starEach_any hn2.2 _)) ?_
  · rw [starEach_all hn cpos]
    simp only [List.length_nil, List.isEmpty_nil, if_true, Nat.add_zero]
    rw [decide_eq_true hl]
    rfl
  · refine (ho.run ρ G _ xq σ H h rs s tk).imp fun v H1 ⟨x, G1, rx, s1, e1, rc, q1⟩ => ⟨rec_ rc rx s1, ?_⟩
    refine (ha.run ρ G1 _ xq σ H1 q1 (rs.mono e1.tup) s1 (tk.step e1)).imp fun vs H2 ⟨ds, G2, r2, s2, e2, q2⟩ => fun σ' => ?_
    exact (hr x ds G2 Q v vs σ' H2 q2 (rx.mono e2.tup) r2 s2).imp (Lift.back (e1.trans e2))
theorem qe_mt0 {m : Mt} {r : DRM} (hr : MtD X m.id r) (ho : QE X o to) (hb : baseOk o = true) (hline : (apos.endLine == cpos.line) = true) :
    QE X (.Call (.Attribute o m.name apos) [] [] cpos) (dMt m.ty r to dNil) := by
  refine ⟨fun ρ G Q xq σ H h rs s tk => ?_⟩
  refine PE.we (pe_bm0 m.attrs m.slot m.typ mt_max pe_max (base_ok hb) hline) ?_
  refine (ho.run ρ G _ xq σ H h rs s tk).imp fun v H1 ⟨x, G1, rx, s1, e1, rc, q1⟩ => ⟨rec_ rc rx s1, fun σ' => ?_⟩
  exact (hr x [] G1 Q v [] σ' H1 q1 rx .nil s1).imp (Lift.back e1)
/-! defs of the text -/
abbrev DSp := List D → Sto → DQ → XQ → Prop
def liftSp (K : PySem.W.Frag) (sp : DSp) : Sp := fun vs H Q E => ∃ ds G Q' xq, Reps K H vs ds ∧ Sim K G H ∧ sp ds G Q' xq ∧ (∀ v H', Lift K G H Q' v H' → Q v H') ∧
  ∀ x cls d G' H', ExnRep K H' cls d x → Sim K G' H' → Ext K G H G' H' → xq x G' → E cls d H'
def Cal (X : Cx) (x : Str) (sp : DSp) : Prop := ∃ (k : Nat) (f : Addr) (fd : FuncData) (ps : List Str) (sp0 : DSp) (dd : List D) (dvs : List V) (dus : List Value),
  FnOk X.prog X.w X.K X.mg X.base (L2.CX X.prog X.w) k f fd ps (liftSp X.K sp0) ∧ Room k X.A ∧ X.mg x = some (.ref f) ∧ PySem.W.keepIn X.K (.ref f) = true ∧ Binds X.K fd ps dus ∧ Vals dvs dus ∧ (∀ H, Reps X.K H dvs dd) ∧
    ∀ ds G Q xq, sp ds G Q xq → sp0 (ds ++ dd) G Q xq
def dFn (sp : DSp) (t : DA) : DE := fun ρ G Q xq => t ρ G (fun ds G1 => sp ds G1 Q xq) xq
theorem passes_max {σ : L2.St} : PassesAt (L2.CX X.prog X.w) X σ (fun cls d H' => XW X cls d σ H') := fun pins H s e s' I c => takes_max e s' (XE.of_call I (fun _ _ _ h => h) c)
theorem qe_fn {x : Str} {sp : DSp} (c : Cal X x sp) (hg : Gl X x) (ha : QA X (e :: es) tas) (hd : (x == ("__debug__" : Str)) = false) (hn : (e :: es).all noStar = true) :
    QE X (.Call (.Name x p) (e :: es) [] pos) (dFn sp tas) := by
  obtain ⟨k, f, fd, ps, sp0, dd, dvs, dus, F, hr, hm, hk, hb, hv, hdd, hsp⟩ := c
  rw [List.all_cons, Bool.and_eq_true] at hn
  refine ⟨fun ρ G Q xq σ H h rs s tk => ?_⟩
  refine PE.we (pe_callSD (E := fun σ cls d H' => XW X cls d σ H') F hr hg hm hk hb hv (fun _ => passes_max) pa_max hd (starEach_cons hn.1) (starEach_any hn.2 _)) ?_
  refine (ha.run ρ G _ xq σ H h rs s tk).imp fun vs H1 ⟨ds, G1, r1, s1, e1, q1⟩ => ?_
  exact ⟨ds ++ dd, G1, Q, xq, r1.append (hdd H1), s1, hsp _ _ _ _ q1, fun v H' l => Lift.back e1 _ _ l, fun z cls d G' H' x1 x2 x3 x4 => tk z cls d G' H' x1 x2 (e1.trans x3) x4⟩
theorem qe_fn0 {x : Str} {sp : DSp} (c : Cal X x sp) (hg : Gl X x) (hd : (x == ("__debug__" : Str)) = false) :
    QE X (.Call (.Name x p) [] [] pos) (dFn sp dNil) := by
  obtain ⟨k, f, fd, ps, sp0, dd, dvs, dus, F, hr, hm, hk, hb, hv, hdd, hsp⟩ := c
  refine ⟨fun ρ G Q xq σ H h rs s tk => ?_⟩
  intro pins s1 I
  refine wpAny_Call_Name_kw (ld_glob I hg hm ?_ hd)
  refine PySem.W.callWith_K0 I.kIn hk (run_fnSD (E := fun σ cls d H' => XW X cls d σ H') (us := []) F hr hb hv passes_max I .nil ?_)
  exact ⟨[] ++ dd, G, Q, xq, Reps.append .nil (hdd H), s, hsp _ _ _ _ h, fun v H' l => l, fun z cls d G' H' x1 x2 x3 x4 => tk z cls d G' H' x1 x2 x3 x4⟩
end
end DL

namespace DL
open PySem PySem.Spec PyProof.Rows L2
/-! enumerate over a tuple -/
set_option maxHeartbeats 1000000 in
theorem en_new {u : Value} {ob : Obj} {HH : Heap → Prop} (Bg : Begins u ob HH) :
    Meets (Builtin.«enumerate.__new__» ⟨[.type "enumerate", u], []⟩) (fun _ R s => HH s.heap ∧
      R (.ok (.ret (.ref (s.heap.push ob).objs.size))) { s with heap := (s.heap.push ob).push { cls := .type "enumerate", data := .fields #[.none, .bool false, .ref s.heap.objs.size, rawInt 0, .none, .none] } }) :=
  .of_wp fun P w Ar R s0 hyp => by
    obtain ⟨hp, gg, dd, tk, os⟩ := s0
    obtain ⟨hh1, hyp⟩ := hyp
    have hsub := sub_enumerate
    have q0 : ∀ {A' : Around} {E' : Value → Shared → Prop} {Q' : Value → Shared → Prop}, Q' (.ref hp.objs.size) ⟨hp.push ob, gg, dd, tk, os⟩ → wpAny (model P w) A' (pyIter u) Q' E' ⟨hp, gg, dd, tk, os⟩ :=
      fun q => Bg.iter P w _ _ ⟨hp, gg, dd, tk, os⟩ _ hh1 q
    wp_walk using q0
    refine wpAny_stack_any fun st0 => wpAny_pure ?_
    split
    · rename_i k0 _ _ _ _ _
      cases (k0 == Value.type "enumerate")
      · wp_walk using q0
        exact ⟨_, rfl, hyp⟩
      · wp_walk using q0
        exact ⟨_, rfl, hyp⟩
    · wp_walk using q0
      exact ⟨_, rfl, hyp⟩
theorem en_call {P : Program} {w : World} {Ar : Around} {E : Value → Shared → Prop} {s : Shared} {u : Value} {ob : Obj} {HH : Heap → Prop} {Q : Value → Shared → Prop} (Bg : Begins u ob HH) (h1 : HH s.heap)
    (h : ∀ h', IsEnum h' (s.heap.objs.size + 1) s.heap.objs.size 0 .none → h'.get? s.heap.objs.size = some ob → h'.objs.size = s.heap.objs.size + 2 → (∀ b o, s.heap.get? b = some o → h'.get? b = some o) → Q (.ref (s.heap.objs.size + 1)) { s with heap := h' }) :
    wpAny (model P w) Ar (call (.type "enumerate") [u]) Q E s := by
  refine callType_new F.called_enumerate (by decide) (F.typeCall_enumerate_1 _) (F.newCall_enumerate_1 _) (fun obj => F.args_object_init_2 obj _) F.entry_enumerate_new (en_new Bg) ⟨h1, ?_⟩
  have hz1 : (s.heap.push ob).objs.size = s.heap.objs.size + 1 := Heap.size_push ..
  show _ ∧ _
  rw [hz1]
  have he : IsEnum ((s.heap.push ob).push { cls := .type "enumerate", data := .fields #[.none, .bool false, .ref s.heap.objs.size, rawInt 0, .none, .none] }) (s.heap.objs.size + 1) s.heap.objs.size 0 .none := by
    have e := Heap.get?_push_size (s.heap.push ob) (o := { cls := .type "enumerate", data := .fields #[.none, .bool false, .ref s.heap.objs.size, rawInt 0, .none, .none] }) rfl
    rw [hz1] at e
    exact e
  exact ⟨⟨_, he, rfl⟩, h _ he (Heap.get?_push_of_some _ (Heap.get?_push_size _ Bg.free)) (by rw [Heap.size_push, hz1]) fun b o x => Heap.get?_push_of_some _ (Heap.get?_push_of_some _ x)⟩
/-- the tuple at a, each item in a new pair -/
def Itet (K : PySem.W.Frag) (a : Addr) : It :=
  ⟨fun i H => ∃ (xs : List V) (x : V), SqT K H a xs ∧ xs[i]? = some x, fun i H v H' => ∃ T x, v = .ref T ∧ H T = none ∧ H' = upd H T (.tup [.int (i : Nat), x]) ∧ ∀ xs, SqT K H a xs → xs[i]? = some x, fun i H => ∃ xs : List V, SqT K H a xs ∧ xs.length ≤ i⟩
theorem isTup_tuple {h : Heap} {a : Addr} {its : Array Value} (p : IsTup h a its) : h.IsTuple a its := p
theorem turn_enumT {P : Program} {w : World} {K : PySem.W.Frag} {elts : List Expr} {kk : Nat} {tpos : Pos} (a e it : Addr) (hae : a ≠ e) (hai : a ≠ it) :
    Turn P w K (.Tuple elts kk tpos) (Itet K a) [e, it] e (fun i h => (∃ old, IsEnum h e it ((i : Nat) : Int) old) ∧ h.IsTupleIter it a i ∧ e ≠ it) where
  mem := by simp
  obj := fun i h st b hb => by
    obtain ⟨⟨old, he⟩, ⟨o, ho, hc, hd⟩, _⟩ := st
    have e2 : b = e ∨ b = it := by simpa using hb
    rcases e2 with z | z
    · rw [z]; exact ⟨_, he, fun v q => nomatch q⟩
    · rw [z]; exact ⟨o, ho, fun v q => by rw [hd] at q; cases q⟩
  keep := fun i h h' st k => by
    obtain ⟨⟨old, he⟩, hi, hne⟩ := st
    exact ⟨⟨old, k e (by simp) _ he⟩, hi.at fun o q => k it (by simp) o q, hne⟩
  item := by
    intro X eP ew eK hc i pins s σ H E I hf st hg
    subst eP ew eK
    obtain ⟨⟨old, he⟩, hit, hne⟩ := st
    obtain ⟨xs, x, hq, hx⟩ := hg
    obtain ⟨its, rv, p, hz⟩ := I.tuple hq
    obtain ⟨u, hu, ru⟩ := rv.get hx
    have hel : e < s.heap.objs.size := Heap.lt_size he
    have hil : it < s.heap.objs.size := by obtain ⟨_, q, _⟩ := hit; exact Heap.lt_size q
    have hlt : i < its.toArray.size := by
      have := (List.getElem?_eq_some_iff.mp hu).1
      simpa using this
    refine wpAny_pyNext_enum_itemD (Draws.tuple (A := X.A.in1) (I.ok.hd hc) it a hai its.toArray) he ⟨hit, p⟩ hlt hne (by simp [hne, hae.symm]) fun y h' tk hy ho hst hT hsz hk => ?_
    have ey : y = u := by
      have h1 : its.toArray[i]? = some u := by simpa using hu
      rw [h1] at hy
      exact (Option.some.inj hy).symm
    subst ey
    refine ⟨_, rfl, wpAny_letOwnedTupleGo_enum (s := { s with heap := h', toks := tk + 1 }) ho fun h'' he' sb => ?_⟩
    have hT2 : h''.get? s.heap.objs.size = some { cls := .type "tuple", data := .seq #[.int i tk, y] } := (sb.2 _ (Nat.ne_of_gt hel)).trans hT
    have nw : ObjOk X.prog X.w (upd H s.heap.objs.size (.tup [.int (i : Nat), x])) h'' s.heap.objs.size (.tup [.int (i : Nat), x]) :=
      ⟨by show 2 ≤ sizeLine; decide, [.int i tk, y], .cons ⟨_, rfl⟩ (.cons ru .nil), ⟨_, hT2, rfl, _, rfl⟩⟩
    have I1 : Inv X pins σ (upd H s.heap.objs.size (.tup [.int (i : Nat), x])) { s with heap := h'', toks := tk + 1 } :=
      I.turnedNew (ch := [e, it]) (fun b ob hb q => (sb.2 b (fun z => hb (by simp [z]))).trans (hk b ob (fun z => hb (by simp [z])) (fun z => hb (by simp [z])) q)) hf (Nat.le_refl _) nw
    refine ⟨.ref s.heap.objs.size, _, I1, rfl, ⟨_, x, rfl, I.hok.fresh (Nat.le_refl _), rfl, fun ys hy => by rw [I.tuple_inj hy hq]; exact hx⟩, ⟨⟨y, ?_⟩, hst.1.at fun o q => (sb.2 it (Ne.symm hne)).trans q, hne⟩, fun b hb => ?_⟩
    · have e1 : ((i + 1 : Nat) : Int) = (i : Int) + 1 := by omega
      rw [e1]
      exact he'
    · have hb' : b < s.heap.objs.size := by
        have e2 : b = e ∨ b = it := by simpa using hb
        rcases e2 with z | z
        · rw [z]; exact hel
        · rw [z]; exact hil
      rw [upd_ne (Nat.ne_of_lt hb')]
      exact (hf b hb).1
  done := by
    intro X eP ew eK hc i pins s σ H E I hf st hg
    subst eP ew eK
    obtain ⟨⟨old, he⟩, hit, hne⟩ := st
    obtain ⟨xs, hq, hx⟩ := hg
    obtain ⟨its, rv, p, hz⟩ := I.tuple hq
    obtain ⟨f0, f1, f2, f3, f4, f5⟩ := hf it (by simp)
    have hl := rv.length
    have nx : its.toArray[i]? = none := by
      rw [List.getElem?_toArray]
      exact List.getElem?_eq_none (by omega)
    have hT : s.TypeIs (.ref e) "enumerate" := ⟨_, he, rfl⟩
    unfold pyNext
    refine wpAny_bind (wpAny_attempt (wpAny_callSpecial?_slot (name := Str.ofString "__next__") hT F.slot_enumerate_next (wpAny_call_entry F.slot_enumerate_next hT F.entry_enumerate_next ?_ (F.args_enumerate_next_1 _))))
    show wpAny _ _ (field (.ref e) 2 >>= _) _ _ _
    refine wpAny_bind (wpAny_field he rfl (x := .ref it) rfl ?_)
    refine wpAny_bind (wpAny_nextOf_tuple_end (I.ok.hd hc) hit p nx fun h' x eb hx' => ?_)
    obtain ⟨o, ho, hc2⟩ := hx'
    refine wpAny_bind (wpAny_isInstance (T := "StopIteration") (b := true) ⟨o, ho, hc2⟩ isSubtype_stop ?_)
    exact wpAny_pure ⟨rfl, I.turned (t' := s.toks) (fun b o hb q => eb b o hb q) f0 f1 f3 f4 f5⟩
  self := fun A i s Q E st h => by
    obtain ⟨⟨_, he⟩, _⟩ := st
    exact wpAny_pyIter_enum he h
theorem pi_enB {X : Cx} {e : Expr} {ta : TA} {p pos tpos : Pos} {elts : List Expr} {kk : Nat} (hg : Gl X "enumerate") (hm : X.mg "enumerate" = none) (ha : PA X [e] ta) (hs : starEach [e] X.env = [(false, eval e X.env)]) :
    PI X (.Tuple elts kk tpos) (.Call (.Name "enumerate" p) [e] [] pos) (fun σ H R => ta σ H fun vs H1 => (∃ a xs, vs = [.ref a] ∧ SqL X.K H1 a xs ∧ R (Ite X.K a) H1) ∨ ∃ a xs, vs = [.ref a] ∧ SqT X.K H1 a xs ∧ R (Itet X.K a) H1) := by
  refine ⟨fun pins s σ H R I h => ?_⟩
  refine Call_ (ld_blt I hg hm boot_enumerate (PyProof.Rows.callWith_type1 (thn (ha.run pos pins s σ H _ I h) fun us s1 ⟨vs, H1, I1, r1, q1⟩ => ?_) hs rfl))
  have hle : ∀ b, b ∈ [s1.heap.objs.size + 1, s1.heap.objs.size] → s1.heap.objs.size ≤ b := fun b hb => by
    have e' : b = s1.heap.objs.size + 1 ∨ b = s1.heap.objs.size := by simpa using hb
    rcases e' with z | z
    · rw [z]; exact Nat.le_succ _
    · rw [z]; exact Nat.le_refl _
  rcases q1 with ⟨a, xs, ex, hq, q⟩ | ⟨a, xs, ex, hq, q⟩
  · subst ex
    cases r1 with
    | cons r rr =>
      cases rr
      cases r
      obtain ⟨its, rv, p', hz⟩ := I1.list hq
      refine call_enumerate_list p'.isList fun h' he hit hsz hk => wpAny_pyIter_enum he ?_
      have I2 : Inv X pins σ H1 { s1 with heap := h' } := I1.kept (t' := s1.toks) hk
      exact ⟨s1.heap.objs.size + 1, [s1.heap.objs.size + 1, s1.heap.objs.size], _, _, H1, rfl, I2, turn_enum a (s1.heap.objs.size + 1) s1.heap.objs.size, ⟨⟨.none, he⟩, hit, Nat.succ_ne_self _⟩, fun b hb => I1.fpOk (hle b hb) (I1.hok.fresh (hle b hb)), q⟩
  · subst ex
    cases r1 with
    | cons r rr =>
      cases rr
      cases r
      obtain ⟨its, rv, p', hz⟩ := I1.tuple hq
      have hlt : a < s1.heap.objs.size := by obtain ⟨o, ho, _⟩ := p'; exact Heap.lt_size ho
      refine en_call (begins_tuple a its.toArray) p' fun h' he hit hsz hk => wpAny_pyIter_enum he ?_
      have I2 : Inv X pins σ H1 { s1 with heap := h' } := I1.kept (t' := s1.toks) hk
      exact ⟨s1.heap.objs.size + 1, [s1.heap.objs.size + 1, s1.heap.objs.size], _, _, H1, rfl, I2, turn_enumT a (s1.heap.objs.size + 1) s1.heap.objs.size (Nat.ne_of_lt (Nat.lt_succ_of_lt hlt)) (Nat.ne_of_lt hlt), ⟨⟨.none, he⟩, ⟨_, hit, rfl, rfl⟩, Nat.succ_ne_self _⟩, fun b hb => I1.fpOk (hle b hb) (I1.hok.fresh (hle b hb)), q⟩
end DL

namespace DL
open PySem PySem.Spec PyProof.Rows L2 RZ
/-! what is walked; H0: where it began -/
structure ItRep (K : PySem.W.Frag) (H0 : Hp) (J : It) (items : List D) (keep : Sto → Prop) : Prop where
  go : ∀ (i : Nat) G H, TupExt K H0 H → Sim K G H → keep G → i < items.length → J.go i H
  stop : ∀ (i : Nat) G H, TupExt K H0 H → Sim K G H → keep G → items.length ≤ i → J.stop i H
  yld : ∀ (i : Nat) G H x H', TupExt K H0 H → Sim K G H → keep G → i < items.length → J.yld i H x H' → ∃ d, items[i]? = some d ∧ Rep K H' x d ∧ Sim K G H' ∧ Ext K G H G H'
abbrev IQ := List D → (Sto → Prop) → Sto → Prop
abbrev DI := Ev → Sto → IQ → XQ → Prop
def WI (X : Cx) (tg iter : Expr) : TI := fun σ H R => ∀ pins s, Inv X pins σ H s → wpAny (model X.prog X.w) X.A (eval iter X.env) (fun v s1 => wpAny (model X.prog X.w) X.A (pyIter v) (PIE X pins σ tg R) X.xe s1) X.xe s
def LiftI (K : PySem.W.Frag) (G : Sto) (H : Hp) (R : IQ) : It → Hp → Prop := fun J H' => ∃ items keep G', ItRep K H' J items keep ∧ Sim K G' H' ∧ Ext K G H G' H' ∧ R items keep G'
structure QI (X : Cx) (tg iter : Expr) (t : DI) : Prop where
  run : ∀ ρ G R xq σ H, t ρ G R xq → RepS X.K H σ ρ → Sim X.K G H → Tk X σ G H xq → WI X tg iter σ H (LiftI X.K G H R)
section
variable {X : Cx} {tg iter e a b : Expr} {te ta tb : DE} {es : List Expr} {tas : DA} {p pos : Pos}
theorem pi_max : PI X tg iter (WI X tg iter) := ⟨fun pins s σ H R I h => h pins s I⟩
theorem PI.wi {t : TI} {σ : L2.St} {H : Hp} {R : It → Hp → Prop} (h : PI X tg iter t) (q : t σ H R) : WI X tg iter σ H R := fun pins s I => h.run pins s σ H R I q
def keepL (a : Addr) (ds : List D) : Sto → Prop := fun G => G a = some (.lst ds)
theorem keepL_ {K : PySem.W.Frag} {a : Addr} {ds : List D} {G : Sto} {H : Hp} (k : keepL a ds G) (s : Sim K G H) : ∃ vs, SqL K H a vs ∧ Reps K H vs ds := by
  obtain ⟨vs, h, r⟩ := s a _ k
  exact ⟨vs, .of h, r⟩
theorem it_list {K : PySem.W.Frag} {H0 : Hp} {a : Addr} {ds : List D} : ItRep K H0 (Itl K a) ds (keepL a ds) where
  go := fun i G H _ s k hi => by
    obtain ⟨vs, h, r⟩ := keepL_ k s
    obtain ⟨v, hv, _⟩ := r.get (List.getElem?_eq_getElem hi)
    exact ⟨vs, v, h, hv⟩
  stop := fun i G H _ s k hi => by
    obtain ⟨vs, h, r⟩ := keepL_ k s
    exact ⟨vs, h, by rw [r.length]; exact hi⟩
  yld := fun i G H x H' _ s k hi y => by
    obtain ⟨vs, h, r⟩ := keepL_ k s
    obtain ⟨rfl, hy⟩ := y
    obtain ⟨d, hd, rd⟩ := r.getV (hy vs h)
    exact ⟨d, hd, rd, s, .refl⟩
theorem it_tup {K : PySem.W.Frag} {H0 : Hp} {a : Addr} {vs : List V} {ds : List D} (h : SqT K H0 a vs) (r : Reps K H0 vs ds) : ItRep K H0 (Itt K a) ds (fun _ => True) where
  go := fun i G H t s k hi => by
    obtain ⟨v, hv, _⟩ := r.get (List.getElem?_eq_getElem hi)
    exact ⟨vs, v, t.t _ _ h, hv⟩
  stop := fun i G H t s k hi => ⟨vs, t.t _ _ h, by rw [r.length]; exact hi⟩
  yld := fun i G H x H' t s k hi y => by
    obtain ⟨rfl, hy⟩ := y
    obtain ⟨d, hd, rd⟩ := r.getV (hy vs (t.t _ _ h))
    exact ⟨d, hd, rd.mono t, s, .refl⟩
def rangeD (lo : Int) (n : Nat) : List D := (List.range n).map fun i => D.int (lo + (i : Nat))
theorem rangeD_len (lo : Int) (n : Nat) : (rangeD lo n).length = n := by unfold rangeD; simp
theorem it_range {K : PySem.W.Frag} {H0 : Hp} {lo : Int} {n : Nat} : ItRep K H0 (Itr lo n) (rangeD lo n) (fun _ => True) where
  go := fun i G H _ s k hi => by
    rw [rangeD_len] at hi
    exact hi
  stop := fun i G H _ s k hi => by
    rw [rangeD_len] at hi
    exact hi
  yld := fun i G H x H' _ s k hi y => by
    obtain ⟨rfl, rfl⟩ := y
    rw [rangeD_len] at hi
    exact ⟨_, by unfold rangeD; simp [hi], .int _, s, .refl⟩
theorem it_str {K : PySem.W.Frag} {H0 : Hp} {z : Str} : ItRep K H0 (Its z) (z.cps.toList.map fun c => D.str ⟨#[c]⟩) (fun _ => True) where
  go := fun i G H _ s k hi => by
    have h : i < z.cps.size := by simpa using hi
    exact h
  stop := fun i G H _ s k hi => by
    have h : z.cps.size ≤ i := by simpa using hi
    exact h
  yld := fun i G H x H' _ s k hi y => by
    obtain ⟨rfl, c, hc, rfl⟩ := y
    exact ⟨.str ⟨#[c]⟩, by rw [List.getElem?_map, Array.getElem?_toList, hc]; rfl, .str _, s, .refl⟩
/-- a list, a tuple or a text, by itself -/
def iterD (d : D) (G : Sto) (R : IQ) : Prop := match d with
  | .tup ds => R ds (fun _ => True) G
  | .ref a => ∃ ds, G a = some (.lst ds) ∧ R ds (keepL a ds) G
  | .str z => R (z.cps.toList.map fun c => D.str ⟨#[c]⟩) (fun _ => True) G
  | _ => False
def dIter (t : DE) : DI := fun ρ G R xq => t ρ G (fun d G1 => iterD d G1 R) xq
theorem PI.or {t t' : TI} (h : PI X tg iter t) (h' : PI X tg iter t') : PI X tg iter (fun σ H R => t σ H R ∨ t' σ H R) := ⟨fun pins s σ H R I q => by
  rcases q with q | q
  · exact h.run pins s σ H R I q
  · exact h'.run pins s σ H R I q⟩
/-- what pyIter makes of a value -/
def WIv (X : Cx) (tg : Expr) (v : V) (σ : L2.St) (H : Hp) (R : It → Hp → Prop) : Prop := ∀ pins s v', Inv X pins σ H s → RelV v v' → wpAny (model X.prog X.w) X.A (pyIter v') (PIE X pins σ tg R) X.xe s
theorem pi_any : PI X tg e (fun σ H R => WE X e σ H fun v H1 => WIv X tg v σ H1 R) := ⟨fun pins s σ H R I h => thn (h pins s I) fun v s1 ⟨x, H1, I1, r1, q1⟩ => q1 pins s1 v I1 r1⟩
/-- the second half of the rules of HandS -/
theorem iv_list {a : Addr} {vs : List V} {σ : L2.St} {H : Hp} {R : It → Hp → Prop} (h : SqL X.K H a vs) (q : R (Itl X.K a) H) : WIv X tg (.ref a) σ H R := fun pins s v' I r => by
  cases r
  obtain ⟨its, rv, p, hz⟩ := I.list h
  refine wpAny_pyIter_list p.isList ?_
  refine ⟨s.heap.objs.size, [s.heap.objs.size], _, _, H, rfl, I.kept (t' := s.toks) fun b o e => Heap.get?_push_of_some _ e, turn_list a _, ⟨_, Heap.get?_push_size _ rfl, rfl, rfl⟩, fun b hb => ?_, q⟩
  have e : b = s.heap.objs.size := by simpa using hb
  subst e
  exact I.fpOk (Nat.le_refl _) (I.hok.fresh (Nat.le_refl _))
theorem iv_tup {a : Addr} {vs : List V} {σ : L2.St} {H : Hp} {R : It → Hp → Prop} (h : SqT X.K H a vs) (q : R (Itt X.K a) H) : WIv X tg (.ref a) σ H R := fun pins s v' I r => by
  cases r
  obtain ⟨its, rv, p, hz⟩ := I.tuple h
  refine wpAny_pyIter_tuple (show s.heap.IsTuple a its.toArray from p) ?_
  refine ⟨s.heap.objs.size, [s.heap.objs.size], _, _, H, rfl, I.kept (t' := s.toks) fun b o e => Heap.get?_push_of_some _ e, turn_tuple a _, ⟨_, Heap.get?_push_size _ rfl, rfl, rfl⟩, fun b hb => ?_, q⟩
  have e : b = s.heap.objs.size := by simpa using hb
  subst e
  exact I.fpOk (Nat.le_refl _) (I.hok.fresh (Nat.le_refl _))
theorem iv_str {z : Str} {σ : L2.St} {H : Hp} {R : It → Hp → Prop} (q : R (Its z) H) : WIv X tg (.str z) σ H R := fun pins s v' I r => by
  obtain ⟨t, rfl⟩ := r
  cases ha : z.cps.all (· < 128)
  · exact wpAny_pyIter_wide ha (pi_one (tk := s.toks) I _ (turn_str _ z t "str_iterator" (.inr rfl)) ⟨_, Heap.get?_push_size _ rfl, rfl, rfl⟩ q)
  · exact wpAny_pyIter_ascii ha (pi_one (tk := s.toks) I _ (turn_str _ z t "str_ascii_iterator" (.inl rfl)) ⟨_, Heap.get?_push_size _ rfl, rfl, rfl⟩ q)
theorem qi_it (he : QE X e te) : QI X tg e (dIter te) := by
  refine ⟨fun ρ G R xq σ H h rs s tk => ?_⟩
  refine PI.wi pi_any ((he.run ρ G _ xq σ H h rs s tk).imp fun v H1 ⟨x, G1, rx, s1, e1, q1⟩ => ?_)
  have q1 : iterD x G1 R := q1
  unfold iterD at q1
  split at q1
  · cases rx with
    | tup h1 r1 => exact iv_tup h1 ⟨_, _, G1, it_tup h1 r1, s1, e1, q1⟩
  · cases rx
    obtain ⟨ds, hg, q⟩ := q1
    obtain ⟨vs, h1, r1⟩ := keepL_ hg s1
    exact iv_list h1 ⟨_, _, G1, it_list, s1, e1, q⟩
  · cases rx
    exact iv_str ⟨_, _, G1, it_str, s1, e1, q1⟩
  · exact q1.elim
/-! range -/
def rng1 (ds : List D) (G : Sto) (R : IQ) : Prop := match ds with
  | [.int j] => -(2 ^ 62) ≤ j ∧ j < 2 ^ 62 ∧ R (rangeD 0 j.toNat) (fun _ => True) G
  | _ => False
def rng2 (ds : List D) (G : Sto) (R : IQ) : Prop := match ds with
  | [.int i, .int j] => (-(2 ^ 62) ≤ i ∧ i < 2 ^ 62 ∧ -(2 ^ 62) ≤ j ∧ j < 2 ^ 62) ∧ R (rangeD i (j - i).toNat) (fun _ => True) G
  | _ => False
def dItA (r : List D → Sto → IQ → Prop) (t : DA) : DI := fun ρ G R xq => t ρ G (fun ds G1 => r ds G1 R) xq
theorem qi_rng1 (hg : Gl X "range") (hm : X.mg "range" = none) (ha : QA X [a] tas) (hn : noStar a = true) : QI X tg (.Call (.Name "range" p) [a] [] pos) (dItA rng1 tas) := by
  refine ⟨fun ρ G R xq σ H h rs s tk => ?_⟩
  refine PI.wi (pi_range1 hg hm pa_max (starEach_cons hn)) ((ha.run ρ G _ xq σ H h rs s tk).imp fun vs H1 ⟨ds, G1, r1, s1, e1, q1⟩ => ?_)
  have q1 : rng1 ds G1 R := q1
  unfold rng1 at q1
  split at q1
  · obtain ⟨v, rfl, rv⟩ := r1.one
    cases rv
    exact ⟨_, rfl, q1.1, q1.2.1, _, _, G1, it_range, s1, e1, q1.2.2⟩
  · exact q1.elim
theorem qi_rng2 (hg : Gl X "range") (hm : X.mg "range" = none) (ha : QA X [a, b] tas) (hn : noStar a = true) (hn2 : noStar b = true) : QI X tg (.Call (.Name "range" p) [a, b] [] pos) (dItA rng2 tas) := by
  refine ⟨fun ρ G R xq σ H h rs s tk => ?_⟩
  refine PI.wi (pi_range2 hg hm pa_max (by rw [starEach_cons hn, starEach_cons hn2]; rfl) (starEach_cons hn2)) ((ha.run ρ G _ xq σ H h rs s tk).imp fun vs H1 ⟨ds, G1, r1, s1, e1, q1⟩ => ?_)
  have q1 : rng2 ds G1 R := q1
  unfold rng2 at q1
  split at q1
  · obtain ⟨v, u, rfl, rv, ru⟩ := r1.two
    cases rv; cases ru
    exact ⟨_, _, rfl, q1.1, _, _, G1, it_range, s1, e1, q1.2⟩
  · exact q1.elim
/-! enumerate of a list -/
def enumD (ds : List D) : List D := ds.mapIdx fun i d => D.tup [.int (i : Nat), d]
theorem enumD_len (ds : List D) : (enumD ds).length = ds.length := by unfold enumD; simp
theorem it_enum {K : PySem.W.Frag} {H0 : Hp} {a : Addr} {ds : List D} : ItRep K H0 (Ite K a) (enumD ds) (keepL a ds) where
  go := fun i G H _ s k hi => by
    rw [enumD_len] at hi
    obtain ⟨vs, h, r⟩ := keepL_ k s
    obtain ⟨v, hv, _⟩ := r.get (List.getElem?_eq_getElem hi)
    exact ⟨vs, v, h, hv⟩
  stop := fun i G H _ s k hi => by
    rw [enumD_len] at hi
    obtain ⟨vs, h, r⟩ := keepL_ k s
    exact ⟨vs, h, by rw [r.length]; exact hi⟩
  yld := fun i G H x H' _ s k hi y => by
    obtain ⟨vs, h, r⟩ := keepL_ k s
    obtain ⟨T, z, rfl, hT, rfl, hy⟩ := y
    obtain ⟨d, hd, rd⟩ := r.getV (hy vs h)
    refine ⟨.tup [.int (i : Nat), d], ?_, .tup (.of upd_same) (.cons (.int _) (.cons (rd.mono (tup_new hT)) .nil)), s.newT hT, .newT hT⟩
    unfold enumD
    rw [List.getElem?_mapIdx, hd]
    rfl
theorem it_enumT {K : PySem.W.Frag} {H0 : Hp} {a : Addr} {vs : List V} {ds : List D} (h0 : SqT K H0 a vs) (r0 : Reps K H0 vs ds) : ItRep K H0 (Itet K a) (enumD ds) (fun _ => True) where
  go := fun i G H t s k hi => by
    rw [enumD_len] at hi
    obtain ⟨v, hv, _⟩ := r0.get (List.getElem?_eq_getElem hi)
    exact ⟨vs, v, t.t _ _ h0, hv⟩
  stop := fun i G H t s k hi => by
    rw [enumD_len] at hi
    exact ⟨vs, t.t _ _ h0, by rw [r0.length]; exact hi⟩
  yld := fun i G H x H' t s k hi y => by
    obtain ⟨T, z, rfl, hT, rfl, hy⟩ := y
    obtain ⟨d, hd, rd⟩ := r0.getV (hy vs (t.t _ _ h0))
    refine ⟨.tup [.int (i : Nat), d], ?_, .tup (.of upd_same) (.cons (.int _) (.cons ((rd.mono t).mono (tup_new hT)) .nil)), s.newT hT, .newT hT⟩
    unfold enumD
    rw [List.getElem?_mapIdx, hd]
    rfl
def enm (ds : List D) (G : Sto) (R : IQ) : Prop := match ds with
  | [.ref a] => ∃ xs, G a = some (.lst xs) ∧ R (enumD xs) (keepL a xs) G
  | [.tup xs] => R (enumD xs) (fun _ => True) G
  | _ => False
theorem qi_enum {elts : List Expr} {kk : Nat} {tpos : Pos} (hg : Gl X "enumerate") (hm : X.mg "enumerate" = none) (ha : QA X [a] tas) (hn : noStar a = true) : QI X (.Tuple elts kk tpos) (.Call (.Name "enumerate" p) [a] [] pos) (dItA enm tas) := by
  refine ⟨fun ρ G R xq σ H h rs s tk => ?_⟩
  have two : PI X (.Tuple elts kk tpos) (.Call (.Name "enumerate" p) [a] [] pos) (fun σ H R => WA X [a] σ H fun vs H1 => (∃ a xs, vs = [.ref a] ∧ SqL X.K H1 a xs ∧ R (Ite X.K a) H1) ∨ ∃ a xs, vs = [.ref a] ∧ SqT X.K H1 a xs ∧ R (Itet X.K a) H1) := pi_enB hg hm pa_max (starEach_cons hn)
  refine PI.wi two ((ha.run ρ G _ xq σ H h rs s tk).imp fun vs H1 ⟨ds, G1, r1, s1, e1, q1⟩ => ?_)
  have q1 : enm ds G1 R := q1
  unfold enm at q1
  split at q1
  · obtain ⟨v, rfl, rv⟩ := r1.one
    cases rv
    obtain ⟨xs, hg, q⟩ := q1
    obtain ⟨vs, h1, r2⟩ := keepL_ hg s1
    exact .inl ⟨_, vs, rfl, h1, _, _, G1, it_enum, s1, e1, q⟩
  · obtain ⟨v, rfl, rv⟩ := r1.one
    cases rv with
    | tup h1 r2 => exact .inr ⟨_, _, rfl, h1, _, _, G1, it_enumT h1 r2, s1, e1, q1⟩
  · exact q1.elim
/-! zip of two lists, of two tuples -/
def zipD (xs ys : List D) : List D := List.zipWith (fun x y => D.tup [x, y]) xs ys
theorem zipD_len (xs ys : List D) : (zipD xs ys).length = min xs.length ys.length := by unfold zipD; rw [List.length_zipWith]
theorem it_zip {K : PySem.W.Frag} {H0 : Hp} {a b : Addr} {xs ys : List D} : ItRep K H0 (Itz K a b) (zipD xs ys) (fun G => keepL a xs G ∧ keepL b ys G) where
  go := fun i G H _ s k hi => by
    rw [zipD_len] at hi
    obtain ⟨vs, h, r⟩ := keepL_ k.1 s
    obtain ⟨us, h', r'⟩ := keepL_ k.2 s
    obtain ⟨v, hv, _⟩ := r.get (List.getElem?_eq_getElem (show i < xs.length by omega))
    obtain ⟨u, hu, _⟩ := r'.get (List.getElem?_eq_getElem (show i < ys.length by omega))
    exact ⟨vs, us, v, u, h, h', hv, hu⟩
  stop := fun i G H _ s k hi => by
    rw [zipD_len] at hi
    obtain ⟨vs, h, r⟩ := keepL_ k.1 s
    obtain ⟨us, h', r'⟩ := keepL_ k.2 s
    refine ⟨vs, us, h, h', ?_⟩
    rw [r.length, r'.length]
    omega
  yld := fun i G H x H' _ s k hi y => by
    obtain ⟨vs, h, r⟩ := keepL_ k.1 s
    obtain ⟨us, h', r'⟩ := keepL_ k.2 s
    obtain ⟨T, z, z', rfl, hT, rfl, hy, hy'⟩ := y
    obtain ⟨d, hd, rd⟩ := r.getV (hy vs h)
    obtain ⟨d', hd', rd'⟩ := r'.getV (hy' us h')
    refine ⟨.tup [d, d'], ?_, .tup (.of upd_same) (.cons (rd.mono (tup_new hT)) (.cons (rd'.mono (tup_new hT)) .nil)), s.newT hT, .newT hT⟩
    unfold zipD
    rw [List.getElem?_zipWith, hd, hd']
theorem it_zipT {K : PySem.W.Frag} {H0 : Hp} {a b : Addr} {vs us : List V} {xs ys : List D} (h0 : SqT K H0 a vs) (r : Reps K H0 vs xs) (h0' : SqT K H0 b us) (r' : Reps K H0 us ys) : ItRep K H0 (ItzT K a b) (zipD xs ys) (fun _ => True) where
  go := fun i G H t s k hi => by
    rw [zipD_len] at hi
    obtain ⟨v, hv, _⟩ := r.get (List.getElem?_eq_getElem (show i < xs.length by omega))
    obtain ⟨u, hu, _⟩ := r'.get (List.getElem?_eq_getElem (show i < ys.length by omega))
    exact ⟨vs, us, v, u, t.t _ _ h0, t.t _ _ h0', hv, hu⟩
  stop := fun i G H t s k hi => by
    rw [zipD_len] at hi
    refine ⟨vs, us, t.t _ _ h0, t.t _ _ h0', ?_⟩
    rw [r.length, r'.length]
    omega
  yld := fun i G H x H' t s k hi y => by
    obtain ⟨T, z, z', rfl, hT, rfl, hy, hy'⟩ := y
    obtain ⟨d, hd, rd⟩ := r.getV (hy vs (t.t _ _ h0))
    obtain ⟨d', hd', rd'⟩ := r'.getV (hy' us (t.t _ _ h0'))
    refine ⟨.tup [d, d'], ?_, .tup (.of upd_same) (.cons ((rd.mono t).mono (tup_new hT)) (.cons ((rd'.mono t).mono (tup_new hT)) .nil)), s.newT hT, .newT hT⟩
    unfold zipD
    rw [List.getElem?_zipWith, hd, hd']
def zpp (ds : List D) (G : Sto) (R : IQ) : Prop := match ds with
  | [.ref a, .ref b] => ∃ xs ys, G a = some (.lst xs) ∧ G b = some (.lst ys) ∧ R (zipD xs ys) (fun G => keepL a xs G ∧ keepL b ys G) G
  | [.tup xs, .tup ys] => R (zipD xs ys) (fun _ => True) G
  | _ => False
theorem qi_zip {elts : List Expr} {kk : Nat} {tpos : Pos} (hg : Gl X "zip") (hm : X.mg "zip" = none) (ha : QA X [a, b] tas) (hn : noStar a = true) (hn2 : noStar b = true) : QI X (.Tuple elts kk tpos) (.Call (.Name "zip" p) [a, b] [] pos) (dItA zpp tas) := by
  refine ⟨fun ρ G R xq σ H h rs s tk => ?_⟩
  refine PI.wi (pi_zipA hg hm pa_max (starEach_cons hn) (starEach_any (es := [b]) (by simp [hn2]) _)) ((ha.run ρ G _ xq σ H h rs s tk).imp fun vs H1 ⟨ds, G1, r1, s1, e1, q1⟩ => ?_)
  have q1 : zpp ds G1 R := q1
  unfold zpp at q1
  split at q1
  · obtain ⟨v, u, rfl, rv, ru⟩ := r1.two
    cases rv; cases ru
    obtain ⟨xs, ys, h1, h2, q⟩ := q1
    obtain ⟨vs, h3, r3⟩ := keepL_ h1 s1
    obtain ⟨us, h4, r4⟩ := keepL_ h2 s1
    exact ⟨_, _, vs, us, rfl, .inl ⟨h3, h4, _, _, G1, it_zip, s1, e1, q⟩⟩
  · obtain ⟨v, u, rfl, rv, ru⟩ := r1.two
    cases rv with
    | tup h3 r3 =>
      cases ru with
      | tup h4 r4 => exact ⟨_, _, _, _, rfl, .inr ⟨h3, h4, _, _, G1, it_zipT h3 r3 h4 r4, s1, e1, q1⟩⟩
  · exact q1.elim
end
end DL

namespace DL
open PySem PySem.Spec PyProof.Rows L2
abbrev EX := Exn → Ev → Sto → Prop
structure DEnds where
  nx : Ev → Sto → Prop
  rt : DQ
  bk : Ev → Sto → Prop := fun _ _ => False
  ct : Ev → Sto → Prop := fun _ _ => False
  ex : EX := fun _ _ _ => False
abbrev DS := DEnds → Ev → Sto → Prop
abbrev NQ := Ev → Sto → Prop
abbrev DG := D → Ev → Sto → NQ → EX → Prop
def TkS (X : Cx) (G : Sto) (H : Hp) (ex : EX) : Prop :=
  ∀ x σ' ρ' cls d G' H', RepS X.K H' σ' ρ' → ExnRep X.K H' cls d x → Sim X.K G' H' → Ext X.K G H G' H' → ex x ρ' G' → XW X cls d σ' H'
theorem TkS.step {X : Cx} {G G1 : Sto} {H H1 : Hp} {ex : EX} (t : TkS X G H ex) (e : Ext X.K G H G1 H1) : TkS X G1 H1 ex :=
  fun x σ' ρ' cls d G' H' r xr s y q => t x σ' ρ' cls d G' H' r xr s (e.trans y) q
theorem TkS.tk {X : Cx} {G : Sto} {H : Hp} {ex : EX} {σ : L2.St} {ρ : Ev} (t : TkS X G H ex) (r : RepS X.K H σ ρ) : Tk X σ G H (fun x G' => ex x ρ G') :=
  fun x cls d G' H' xr s y q => t x σ ρ cls d G' H' (r.mono y.tup) xr s y q
theorem TkS.never {X : Cx} {G : Sto} {H : Hp} : TkS X G H (fun _ _ _ => False) := fun _ _ _ _ _ _ _ _ _ _ _ q => q.elim
def WG (X : Cx) (tg : Expr) : TG := fun v σ H Q => ∀ pins s u, Inv X pins σ H s → RelV v u → wpAny (model X.prog X.w) X.A (assign tg X.env u) (fun _ s' => ∃ σ' H', Inv X pins σ' H' s' ∧ Q σ' H') X.xe s
def WGs (X : Cx) (ts : List Expr) : TGs := fun vs σ H Q => ∀ pins s us, Inv X pins σ H s → Vals vs us → wpAny (model X.prog X.w) X.A (assignInOrder ((assignEach ts X.env).map (·.2)) us) (fun _ s' => ∃ σ' H', Inv X pins σ' H' s' ∧ Q σ' H') X.xe s
/-- the slots outside S stay -/
def Only (S : List Nat) (σ σ' : L2.St) : Prop := σ'.length = σ.length ∧ ∀ j, j ∉ S → σ'[j]? = σ[j]?
theorem Only.refl {S : List Nat} {σ : L2.St} : Only S σ σ := ⟨rfl, fun _ _ => rfl⟩
theorem Only.trans {S : List Nat} {σ σ1 σ2 : L2.St} (a : Only S σ σ1) (b : Only S σ1 σ2) : Only S σ σ2 := ⟨b.1.trans a.1, fun j h => (b.2 j h).trans (a.2 j h)⟩
theorem Only.mono {S S' : List Nat} {σ σ1 : L2.St} (a : Only S σ σ1) (h : ∀ j ∈ S, j ∈ S') : Only S' σ σ1 := ⟨a.1, fun j q => a.2 j fun z => q (h j z)⟩
def LiftN (K : PySem.W.Frag) (S : List Nat) (σ : L2.St) (G : Sto) (H : Hp) (Q : NQ) : L2.St → Hp → Prop := fun σ' H' => Only S σ σ' ∧ ∃ ρ' G', RepS K H' σ' ρ' ∧ Sim K G' H' ∧ Ext K G H G' H' ∧ Q ρ' G'
structure QG (X : Cx) (tg : Expr) (S : List Nat) (t : DG) : Prop where
  run : ∀ d ρ G Q ex v σ H, t d ρ G Q ex → Rep X.K H v d → RepS X.K H σ ρ → Sim X.K G H → TkS X G H ex → WG X tg v σ H (LiftN X.K S σ G H Q)
abbrev DGs := List D → Ev → Sto → NQ → EX → Prop
structure QGs (X : Cx) (ts : List Expr) (S : List Nat) (t : DGs) : Prop where
  run : ∀ ds ρ G Q ex vs σ H, t ds ρ G Q ex → Reps X.K H vs ds → RepS X.K H σ ρ → Sim X.K G H → TkS X G H ex → WGs X ts vs σ H (LiftN X.K S σ G H Q)
section
variable {X : Cx} {tg e o i : Expr} {es : List Expr} {S S' : List Nat} {pos : Pos} {te to ti : DE}
theorem pg_max : PG X tg (WG X tg) := ⟨fun pins s σ H v u Q I r h => h pins s u I r⟩
theorem pgs_max : PGs X es (WGs X es) := ⟨fun pins s σ H vs us Q I r h => h pins s us I r⟩
theorem PG.wg {t : TG} {v : V} {σ : L2.St} {H : Hp} {Q : L2.St → Hp → Prop} (h : PG X tg t) (q : t v σ H Q) : WG X tg v σ H Q := fun pins s u I r => h.run pins s σ H v u Q I r q
theorem PGs.wg {t : TGs} {v : List V} {σ : L2.St} {H : Hp} {Q : L2.St → Hp → Prop} (h : PGs X es t) (q : t v σ H Q) : WGs X es v σ H Q := fun pins s u I r => h.run pins s σ H v u Q I r q
theorem WG.imp {v : V} {σ : L2.St} {H : Hp} {Q Q' : L2.St → Hp → Prop} (h : WG X tg v σ H Q) (i : ∀ σ' H', Q σ' H' → Q' σ' H') : WG X tg v σ H Q' := fun pins s u I r => thn (h pins s u I r) fun _ _ ⟨σ', H', I', q⟩ => ⟨σ', H', I', i _ _ q⟩
theorem WGs.imp {v : List V} {σ : L2.St} {H : Hp} {Q Q' : L2.St → Hp → Prop} (h : WGs X es v σ H Q) (i : ∀ σ' H', Q σ' H' → Q' σ' H') : WGs X es v σ H Q' := fun pins s u I r => thn (h pins s u I r) fun _ _ ⟨σ', H', I', q⟩ => ⟨σ', H', I', i _ _ q⟩
/-- a name -/
def gNm (i : Nat) : DG := fun d ρ G Q _ => Q (ρ.set i (some d)) G
theorem qg_name {i : Nat} {x : Str} (hN : X.N.Nodup) (hi : X.N[i]? = some x) (hx : Loc X.env.scope x) (hf : X.fn x = true ∨ X.env.scope.names.lookup x = some .local) : QG X (.Name x pos) [i] (gNm i) := by
  refine ⟨fun d ρ G Q ex v σ H h r rs s tk => ?_⟩
  refine PG.wg (pg_name hN hi hx hf) ⟨⟨by rw [List.length_set], fun j hj => ?_⟩, _, G, rs.set i r, s, .refl, h⟩
  rw [List.getElem?_set_ne]
  intro e
  exact hj (by simp [e])
def gNl : DGs := fun ds ρ G Q _ => match ds with
  | [] => Q ρ G
  | _ => False
def gCs (t : DG) (u : DGs) : DGs := fun ds ρ G Q ex => match ds with
  | d :: r => t d ρ G (fun ρ' G' => u r ρ' G' Q ex) ex
  | [] => False
theorem qgs_nil : QGs X [] S gNl := by
  refine ⟨fun ds ρ G Q ex vs σ H h r rs s tk => ?_⟩
  unfold gNl at h
  split at h
  · cases r
    exact PGs.wg pgs_nil ⟨rfl, .refl, ρ, G, rs, s, .refl, h⟩
  · exact h.elim
theorem assignEach_cons {e : Expr} {es : List Expr} {env : PySem.Env} (h : noStar e = true) : assignEach (e :: es) env = (false, assign e env) :: assignEach es env := by
  cases e <;> first | rfl | cases h
theorem qgs_cons {t : DG} {u : DGs} (h1 : QG X e S t) (h2 : QGs X es S' u) (hn : noStar e = true) : QGs X (e :: es) (S ++ S') (gCs t u) := by
  refine ⟨fun ds ρ G Q ex vs σ H h r rs s tk => ?_⟩
  cases ds with
  | nil => exact False.elim h
  | cons d ds =>
    cases r with
    | cons r1 r2 =>
      refine PGs.wg (pgs_cons pg_max pgs_max (by rw [assignEach_cons hn]; rfl)) ⟨_, _, rfl, ?_⟩
      refine (h1.run d ρ G _ ex _ σ H h r1 rs s tk).imp fun σ1 H1 ⟨o1, ρ1, G1, rs1, s1, e1, q1⟩ => ?_
      refine (h2.run ds ρ1 G1 Q ex _ σ1 H1 q1 (r2.mono e1.tup) rs1 s1 (tk.step e1)).imp fun σ2 H2 ⟨o2, ρ2, G2, rs2, s2, e2, q2⟩ => ?_
      exact ⟨(o1.mono fun j z => List.mem_append_left _ z).trans (o2.mono fun j z => List.mem_append_right _ z), ρ2, G2, rs2, s2, e1.trans e2, q2⟩
/-- a tuple of targets: a tuple, or a list, of that length -/
def gTp (n : Nat) (u : DGs) : DG := fun d ρ G Q ex => seqD d G fun ds => ds.length = n ∧ u ds ρ G Q ex
theorem assignEach_len {env : PySem.Env} : ∀ {es : List Expr}, es.all noStar = true → (assignEach es env).length = es.length ∧ (assignEach es env).findIdx? (·.1) = none
  | [], _ => ⟨rfl, rfl⟩
  | e :: es, h => by
    rw [List.all_cons, Bool.and_eq_true] at h
    obtain ⟨h1, h2⟩ := assignEach_len (env := env) h.2
    rw [assignEach_cons h.1]
    refine ⟨by simp [h1], ?_⟩
    rw [List.findIdx?_cons, h2]
    rfl
theorem qg_tup {u : DGs} {k : Nat} (hc : X.calm = true) (h : QGs X es S u) (hn : es.all noStar = true) : QG X (.Tuple es k pos) S (gTp es.length u) := by
  refine ⟨fun d ρ G Q ex v σ H hq r rs s tk => ?_⟩
  obtain ⟨hl, hf⟩ := assignEach_len (env := X.env) hn
  obtain ⟨p, vs, ds, rfl, h1 | h1, r1, hlen, q⟩ := seq_ hq r s
  · exact PG.wg (pg_lst hc pgs_max hl hf) ⟨p, vs, rfl, h1, by rw [r1.length]; exact hlen, h.run ds ρ G Q ex vs σ H q r1 rs s tk⟩
  · exact PG.wg (pg_tup hc pgs_max hl hf) ⟨p, vs, rfl, h1, by rw [r1.length]; exact hlen, h.run ds ρ G Q ex vs σ H q r1 rs s tk⟩
/-- o[i] = v, o a list -/
def setD (x y d : D) (G : Sto) (Q : Sto → Prop) : Prop := match x, y with
  | .ref p, .int k => ∃ xs j, G p = some (.lst xs) ∧ ixN xs.length k = some j ∧ Q (put G p (.lst (xs.set j d)))
  | .ref p, .str k => ∃ kvs, G p = some (.dK kvs) ∧ kvs.length < sizeLine ∧ Q (put G p (.dK (putD kvs (.inr k) d)))
  | _, _ => False
theorem PSet.or {t t' : TSet} (h : PSet X t) (h' : PSet X t') : PSet X (fun o i v H Q => t o i v H Q ∨ t' o i v H Q) := by
  intro pins s σ H o i v ov iv u Q I ro ri rv q
  rcases q with q | q
  · exact h pins s σ H o i v ov iv u Q I ro ri rv q
  · exact h' pins s σ H o i v ov iv u Q I ro ri rv q
def gSb (to ti : DE) : DG := fun d ρ G Q ex => to ρ G (fun x G1 => ti ρ G1 (fun y G2 => setD x y d G2 (Q ρ)) (fun z => ex z ρ)) (fun z => ex z ρ)
def plainSub : Expr → Bool
  | .Slice .. => false
  | _ => true
theorem qg_sub (hu : X.A.units + 64 < cLine) (ho : QE X o to) (hi : QE X i ti) (hp : plainSub i = true) : QG X (.Subscript o i pos) S (gSb to ti) := by
  refine ⟨fun d ρ G Q ex v σ H h r rs s tk => ?_⟩
  refine PG.wg (pg_sub pe_max pe_max (PSet.or set_list (set_dict (by omega))) (fun v => by cases i <;> first | rfl | cases hp)) ?_
  refine (ho.run ρ G _ _ σ H h rs s (tk.tk rs)).imp fun v1 H1 ⟨x, G1, rx, s1, e1, q1⟩ => ?_
  refine (hi.run ρ G1 _ _ σ H1 q1 (rs.mono e1.tup) s1 ((tk.tk rs).step e1)).imp fun v2 H2 ⟨y, G2, ry, s2, e2, q2⟩ => ?_
  have rx := rx.mono e2.tup
  have q2 : setD x y d G2 (Q ρ) := q2
  unfold setD at q2
  split at q2
  · cases rx; cases ry
    obtain ⟨xs, j, g, hj, q⟩ := q2
    obtain ⟨vs, h1, r1⟩ := s2 _ _ g
    have e12 := e1.trans e2
    have t3 : TupExt X.K H2 (upd H2 _ (.lst (vs.set j v))) := tup_mut h1 rfl
    refine .inl ⟨_, vs, _, j, rfl, rfl, h1, by rw [r1.length]; exact hj, .refl, ρ, put G2 _ (.lst (xs.set j d)), (rs.mono e12.tup).mono t3, s2.mut (c0 := .lst xs) h1 rfl ⟨_, upd_same, (r1.set (r.mono e12.tup) j).mono t3⟩, e12.trans (.mut g h1 rfl), q⟩
  · cases rx; cases ry
    rename_i p k _ _ _
    obtain ⟨kvs, g, hl, q⟩ := q2
    obtain ⟨m, h1, r1⟩ := s2 _ _ g
    have e12 := e1.trans e2
    refine .inr ⟨_, _, rfl, DPut.k (k := .inr k) h1 (by rw [r1.length]; exact hl), ?_⟩
    have t3 : TupExt X.K H2 (upd H2 p (.dK (putK m (.inr k) v))) := tup_mut h1 rfl
    exact ⟨.refl, ρ, put G2 _ (.dK (putD kvs (.inr k) d)), (rs.mono e12.tup).mono t3, s2.mut (c0 := .dK kvs) h1 rfl ⟨_, upd_same, (r1.put (r.mono e12.tup)).mono t3⟩, e12.trans (.mut g h1 rfl), q⟩
  · exact q2.elim
def dsetD (x y d : D) (G : Sto) (Q : Sto → Prop) : Prop := match x with
  | .ref p => ∃ kvs k, G p = some (.dK kvs) ∧ keyD y = some k ∧ kvs.length < sizeLine ∧ Q (put G p (.dK (putD kvs k d)))
  | _ => False
def gDs (to ti : DE) : DG := fun d ρ G Q ex => to ρ G (fun x G1 => ti ρ G1 (fun y G2 => dsetD x y d G2 (Q ρ)) (fun z => ex z ρ)) (fun z => ex z ρ)
theorem qg_dsub (hu : X.A.units + 64 < cLine) (ho : QE X o to) (hi : QE X i ti) (hp : plainSub i = true) : QG X (.Subscript o i pos) S (gDs to ti) := by
  refine ⟨fun d ρ G Q ex v σ H h r rs s tk => ?_⟩
  refine PG.wg (pg_sub pe_max pe_max (set_dict (by omega)) (fun v => by cases i <;> first | rfl | cases hp)) ?_
  refine (ho.run ρ G _ _ σ H h rs s (tk.tk rs)).imp fun v1 H1 ⟨x, G1, rx, s1, e1, q1⟩ => ?_
  refine (hi.run ρ G1 _ _ σ H1 q1 (rs.mono e1.tup) s1 ((tk.tk rs).step e1)).imp fun v2 H2 ⟨y, G2, ry, s2, e2, q2⟩ => ?_
  have rx := rx.mono e2.tup
  have q2 : dsetD x y d G2 (Q ρ) := q2
  unfold dsetD at q2
  split at q2
  · cases rx
    obtain ⟨kvs, k, g, hk, hl, q⟩ := q2
    obtain ⟨m, h1, r1⟩ := s2 _ _ g
    obtain rfl := keyD_rep hk ry
    have e12 := e1.trans e2
    refine ⟨_, _, rfl, DPut.k h1 (by rw [r1.length]; exact hl), ?_⟩
    have t3 : TupExt X.K H2 (upd H2 _ (.dK (putK m k v))) := tup_mut h1 rfl
    exact ⟨.refl, ρ, put G2 _ (.dK (putD kvs k d)), (rs.mono e12.tup).mono t3, s2.mut (c0 := .dK kvs) h1 rfl ⟨_, upd_same, (r1.put (r.mono e12.tup)).mono t3⟩, e12.trans (.mut g h1 rfl), q⟩
  · exact q2.elim
/-! statements -/
def WS (X : Cx) (st : Stmt) : TS := fun D σ H => ∀ pins s, Inv X pins σ H s → wpAny (model X.prog X.w) X.A (exec st X.env) (SP X pins D) X.xe s
def WSs (X : Cx) (st : List Stmt) : TS := fun D σ H => ∀ pins s, Inv X pins σ H s → wpAny (model X.prog X.w) X.A (execs st X.env) (SP X pins D) X.xe s
def LiftP (K : PySem.W.Frag) (G : Sto) (H : Hp) (Q : NQ) : L2.St → Hp → Prop := fun σ' H' => ∃ ρ' G', RepS K H' σ' ρ' ∧ Sim K G' H' ∧ Ext K G H G' H' ∧ Q ρ' G'
def LiftS (K : PySem.W.Frag) (G : Sto) (H : Hp) (D : DEnds) : Ends := ⟨LiftP K G H D.nx, Lift K G H D.rt, LiftP K G H D.bk, LiftP K G H D.ct⟩
structure QS (X : Cx) (st : Stmt) (t : DS) : Prop where
  run : ∀ (D : DEnds) ρ G σ H, t D ρ G → RepS X.K H σ ρ → Sim X.K G H → TkS X G H D.ex → WS X st (LiftS X.K G H D) σ H
structure QB (X : Cx) (st : List Stmt) (t : DS) : Prop where
  run : ∀ (D : DEnds) ρ G σ H, t D ρ G → RepS X.K H σ ρ → Sim X.K G H → TkS X G H D.ex → WSs X st (LiftS X.K G H D) σ H
variable {st : Stmt} {sts : List Stmt} {t u : DS} {c : Expr} {tc : DT}
theorem ps_max : PS X st (WS X st) := ⟨fun pins s σ H D I h => h pins s I⟩
theorem pss_max : PSs X sts (WSs X sts) := ⟨fun pins s σ H D I h => h pins s I⟩
theorem PS.ws {t : TS} {D : Ends} {σ : L2.St} {H : Hp} (h : PS X st t) (q : t D σ H) : WS X st D σ H := fun pins s I => h.run pins s σ H D I q
theorem PSs.ws {t : TS} {D : Ends} {σ : L2.St} {H : Hp} (h : PSs X sts t) (q : t D σ H) : WSs X sts D σ H := fun pins s I => h.run pins s σ H D I q
theorem SP.imp {pins : List (Addr × Obj)} {D D' : Ends} (h1 : ∀ σ H, D.nx σ H → D'.nx σ H) (h2 : ∀ v H, D.rt v H → D'.rt v H) (h3 : ∀ σ H, D.bk σ H → D'.bk σ H) (h4 : ∀ σ H, D.ct σ H → D'.ct σ H) {f : Flow} {s' : Shared} (h : SP X pins D f s') : SP X pins D' f s' := by
  cases f with
  | next => obtain ⟨σ, H, I, q⟩ := h; exact ⟨σ, H, I, h1 _ _ q⟩
  | brk => obtain ⟨σ, H, I, q⟩ := h; exact ⟨σ, H, I, h3 _ _ q⟩
  | cont => obtain ⟨σ, H, I, q⟩ := h; exact ⟨σ, H, I, h4 _ _ q⟩
  | ret u => obtain ⟨v, σ, H, I, r, q⟩ := h; exact ⟨v, σ, H, I, r, h2 _ _ q⟩
theorem WS.imp {D D' : Ends} {σ : L2.St} {H : Hp} (h : WS X st D σ H) (h1 : ∀ σ H, D.nx σ H → D'.nx σ H) (h2 : ∀ v H, D.rt v H → D'.rt v H) (h3 : ∀ σ H, D.bk σ H → D'.bk σ H) (h4 : ∀ σ H, D.ct σ H → D'.ct σ H) : WS X st D' σ H :=
  fun pins s I => thn (h pins s I) fun _ _ q => SP.imp h1 h2 h3 h4 q
theorem WSs.imp {D D' : Ends} {σ : L2.St} {H : Hp} (h : WSs X sts D σ H) (h1 : ∀ σ H, D.nx σ H → D'.nx σ H) (h2 : ∀ v H, D.rt v H → D'.rt v H) (h3 : ∀ σ H, D.bk σ H → D'.bk σ H) (h4 : ∀ σ H, D.ct σ H → D'.ct σ H) : WSs X sts D' σ H :=
  fun pins s I => thn (h pins s I) fun _ _ q => SP.imp h1 h2 h3 h4 q
theorem LiftP.back {K : PySem.W.Frag} {G G1 : Sto} {H H1 : Hp} {Q : NQ} (x : Ext K G H G1 H1) : ∀ σ' H', LiftP K G1 H1 Q σ' H' → LiftP K G H Q σ' H' :=
  fun _ _ ⟨ρ, G', r, s, e, q⟩ => ⟨ρ, G', r, s, x.trans e, q⟩
theorem WSs.back {G G1 : Sto} {H H1 : Hp} {D : DEnds} {σ : L2.St} (x : Ext X.K G H G1 H1) (h : WSs X sts (LiftS X.K G1 H1 D) σ H1) : WSs X sts (LiftS X.K G H D) σ H1 :=
  h.imp (LiftP.back x) (Lift.back x) (LiftP.back x) (LiftP.back x)
theorem WS.back {G G1 : Sto} {H H1 : Hp} {D : DEnds} {σ : L2.St} (x : Ext X.K G H G1 H1) (h : WS X st (LiftS X.K G1 H1 D) σ H1) : WS X st (LiftS X.K G H D) σ H1 :=
  h.imp (LiftP.back x) (Lift.back x) (LiftP.back x) (LiftP.back x)
def sNext : DS := fun D ρ G => D.nx ρ G
def sSeq (t u : DS) : DS := fun D ρ G => t { D with nx := u D } ρ G
theorem qb_nil : QB X [] sNext := ⟨fun D ρ G σ H h rs s tk => PSs.ws pss_nil ⟨ρ, G, rs, s, .refl, h⟩⟩
theorem qb_cons (h1 : QS X st t) (h2 : QB X sts u) : QB X (st :: sts) (sSeq t u) := by
  refine ⟨fun D ρ G σ H h rs s tk => ?_⟩
  refine PSs.ws (pss_cons ps_max pss_max) ?_
  refine (h1.run { D with nx := u D } ρ G σ H h rs s tk).imp (fun σ1 H1 ⟨ρ1, G1, rs1, s1, e1, q1⟩ => ?_) (fun _ _ q => q) (fun _ _ q => q) (fun _ _ q => q)
  exact WSs.back e1 (h2.run D ρ1 G1 σ1 H1 q1 rs1 s1 (tk.step e1))
theorem qs_pass : QS X (.Pass pos) sNext := ⟨fun D ρ G σ H h rs s tk => PS.ws ps_pass ⟨ρ, G, rs, s, .refl, h⟩⟩
def sBreak : DS := fun D ρ G => D.bk ρ G
def sCont : DS := fun D ρ G => D.ct ρ G
theorem qs_break : QS X (.Break pos) sBreak := ⟨fun D ρ G σ H h rs s tk => PS.ws ps_break ⟨ρ, G, rs, s, .refl, h⟩⟩
theorem qs_cont : QS X (.Continue pos) sCont := ⟨fun D ρ G σ H h rs s tk => PS.ws ps_continue ⟨ρ, G, rs, s, .refl, h⟩⟩
def sRet (te : DE) : DS := fun D ρ G => te ρ G D.rt fun z => D.ex z ρ
theorem qs_ret (he : QE X e te) : QS X (.Return (some e) pos) (sRet te) := ⟨fun D ρ G σ H h rs s tk => PS.ws (ps_ret pe_max) (he.run ρ G _ _ σ H h rs s (tk.tk rs))⟩
def sRetN : DS := fun D _ G => D.rt .non G
theorem qs_retN : QS X (.Return none pos) sRetN := ⟨fun D ρ G σ H h rs s tk => PS.ws ps_retN (Lift.here .non s h)⟩
def sDrop (te : DE) : DS := fun D ρ G => te ρ G (fun _ G1 => D.nx ρ G1) fun z => D.ex z ρ
def noComp : Expr → Bool
  | .ListComp .. => false | .SetComp .. => false | .DictComp .. => false
  | _ => true
theorem swaps_no {e : Expr} {t : Option Expr} {l : Nat} {env : PySem.Env} (h : noComp e = true) : swapsWith e t l env = pure false := by
  cases e <;> first | rfl | cases h
theorem qs_expr (he : QE X e te) (hn : noComp e = true) : QS X (.Expr e pos) (sDrop te) :=
  ⟨fun D ρ G σ H h rs s tk => PS.ws (ps_expr pe_max (swaps_no hn)) ((he.run ρ G _ _ σ H h rs s (tk.tk rs)).imp fun v H1 ⟨x, G1, rx, s1, e1, q1⟩ => ⟨ρ, G1, rs.mono e1.tup, s1, e1, q1⟩)⟩
def sAsg (te : DE) (g : DG) : DS := fun D ρ G => te ρ G (fun x G1 => g x ρ G1 D.nx D.ex) fun z => D.ex z ρ
/-- no pair or triple of plain names on both sides -/
def noSwap : Expr → Expr → Bool
  | .Tuple .., .Tuple .. => false
  | .List .., .Tuple .. => false
  | _, _ => true
theorem swapped_no {tg e : Expr} {env : PySem.Env} (h : noSwap tg e = true) : swappedStores [tg] e env = pure none := by
  cases tg <;> first | rfl | (cases e <;> first | rfl | cases h)
theorem qs_asg {g : DG} (he : QE X e te) (hg : QG X tg S g) (hn : noComp e = true) (hw : noSwap tg e = true) (hs : noStar tg = true) : QS X (.Assign [tg] e pos) (sAsg te g) := by
  refine ⟨fun D ρ G σ H h rs s tk => ?_⟩
  refine PS.ws (ps_asg pe_max pg_max (swaps_no hn) (swapped_no hw) (by rw [assignEach_cons hs]; rfl)) ?_
  refine (he.run ρ G _ _ σ H h rs s (tk.tk rs)).imp fun v H1 ⟨x, G1, rx, s1, e1, q1⟩ => ?_
  exact (hg.run x ρ G1 _ _ v σ H1 q1 rx (rs.mono e1.tup) s1 (tk.step e1)).imp fun σ2 H2 ⟨_, ρ2, G2, rs2, s2, e2, q2⟩ => ⟨ρ2, G2, rs2, s2, e1.trans e2, q2⟩
def sIf (tc : DT) (t u : DS) : DS := fun D ρ G => tc ρ G (fun k G1 => if k = true then t D ρ G1 else u D ρ G1) fun z => D.ex z ρ
theorem qs_if {p q : List Stmt} (hc : QT X c tc) (hp : QB X p t) (hq : QB X q u) : QS X (.If c p q pos) (sIf tc t u) := by
  refine ⟨fun D ρ G σ H h rs s tk => ?_⟩
  refine PS.ws (ps_if pt_max pss_max pss_max) ((hc.run ρ G _ _ σ H h rs s (tk.tk rs)).imp fun k H1 ⟨G1, s1, e1, q1⟩ => ?_)
  cases k with
  | true =>
    simp only [if_true] at q1 ⊢
    exact WSs.back e1 (hp.run D ρ G1 σ H1 q1 (rs.mono e1.tup) s1 (tk.step e1))
  | false =>
    simp only [Bool.false_eq_true, if_false] at q1 ⊢
    exact WSs.back e1 (hq.run D ρ G1 σ H1 q1 (rs.mono e1.tup) s1 (tk.step e1))
/-! for -/
def forL (g : DG) (tb : DS) (keep : Sto → Prop) (De : DEnds) : List D → Ev → Sto → Prop
  | [], ρ, G => keep G ∧ De.nx ρ G
  | x :: xs, ρ, G => keep G ∧ g x ρ G (fun ρ1 G1 => tb { De with nx := forL g tb keep De xs, ct := forL g tb keep De xs, bk := De.nx } ρ1 G1) De.ex
def sFor (wi : DI) (g : DG) (tb : DS) : DS := fun D ρ G => wi ρ G (fun items keep G1 => forL g tb keep D items ρ G1) fun z => D.ex z ρ
def noSet : Expr → Bool
  | .Set .. => false
  | _ => true
theorem folded_no {iter : Expr} {env : PySem.Env} (h : noSet iter = true) : ∀ x, foldedSetIterable iter env x = pure x := by
  intro x
  cases iter <;> first | rfl | cases h
theorem qs_for {iter : Expr} {wi : DI} {g : DG} {tb : DS} (hp : PassesOwn (model X.prog X.w) X.A X.env X.xe) (hc : X.calm = true) (hi : QI X tg iter wi) (hg : QG X tg S g) (hb : QB X sts tb) (hs : noSet iter = true) :
    QS X (.For tg iter sts [] pos) (sFor wi g tb) := by
  refine ⟨fun D ρ G σ H h rs s tk => ?_⟩
  refine PS.ws (ps_for hp hc pi_max pg_max pss_max (folded_no hs)) ?_
  refine fun pins s0 I => thn (hi.run ρ G _ _ σ H h rs s (tk.tk rs) pins s0 I) fun v s1 h1 => thn h1 fun itv s2 h2 => ?_
  obtain ⟨it, fp, tn, J, H', x1, x2, x3, x4, x5, items, keep, G1, IR, sm, e1, q⟩ := h2
  refine ⟨it, fp, tn, J, H', x1, x2, x3, x4, x5, ?_⟩
  refine ⟨fun i m σ' H2 => m = items.length - i ∧ i ≤ items.length ∧ ∃ ρ' G', RepS X.K H2 σ' ρ' ∧ Sim X.K G' H2 ∧ Ext X.K G1 H' G' H2 ∧ forL g tb keep D (items.drop i) ρ' G', ⟨_, rfl, Nat.zero_le _, ρ, G1, rs.mono e1.tup, sm, .refl, q⟩, ?_⟩
  rintro i m σ' H2 ⟨rfl, hi, ρ', G', r', sm', e', q'⟩
  by_cases hlt : i < items.length
  · right
    rw [List.drop_eq_getElem_cons hlt] at q'
    obtain ⟨kp, q'⟩ := q'
    refine ⟨IR.go i G' H2 e'.tup sm' kp hlt, fun σ3 H3 => ∃ ρ' G', RepS X.K H3 σ3 ρ' ∧ Sim X.K G' H3 ∧ Ext X.K G1 H' G' H3 ∧ forL g tb keep D (items.drop (i + 1)) ρ' G', fun σ3 H3 z => ⟨_, by omega, rfl, hlt, z⟩, fun x H4 y => ?_⟩
    obtain ⟨d, hd, rd, sm4, e4⟩ := IR.yld i G' H2 x H4 e'.tup sm' kp hlt y
    have ed : d = items[i] := by
      rw [List.getElem?_eq_getElem hlt] at hd
      exact (Option.some.inj hd).symm
    subst ed
    have e04 := e1.trans (e'.trans e4)
    refine (hg.run _ ρ' G' _ _ x σ' H4 q' rd (r'.mono e4.tup) sm4 (tk.step e04)).imp fun σ5 H5 ⟨_, ρ5, G5, r5, sm5, e5, q5⟩ => ?_
    have e05 := e04.trans e5
    have e15 := (e'.trans e4).trans e5
    refine (hb.run _ ρ5 G5 σ5 H5 q5 r5 sm5 (tk.step e05)).imp (fun σ6 H6 ⟨ρ6, G6, r6, s6, e6, q6⟩ => ⟨ρ6, G6, r6, s6, e15.trans e6, q6⟩) (Lift.back e05) (LiftP.back e05) (fun σ6 H6 ⟨ρ6, G6, r6, s6, e6, q6⟩ => ⟨ρ6, G6, r6, s6, e15.trans e6, q6⟩)
  · left
    have ei : i = items.length := by omega
    subst ei
    rw [List.drop_length] at q'
    exact ⟨IR.stop _ G' H2 e'.tup sm' q'.1 (Nat.le_refl _), ρ', G', r', sm', e1.trans e', q'.2⟩
/-! while -/
def sWhile (tc : DT) (tb : DS) : DS := fun D ρ G => ∃ W : Nat → Ev → Sto → Prop, (∃ m, W m ρ G) ∧ ∀ m ρ G, W m ρ G →
  tc ρ G (fun k G1 => if k = true then tb { D with nx := fun ρ' G' => ∃ m', m' < m ∧ W m' ρ' G', ct := fun ρ' G' => ∃ m', m' < m ∧ W m' ρ' G', bk := D.nx } ρ G1 else D.nx ρ G1) fun z => D.ex z ρ
theorem qs_while {tb : DS} (hp : PassesOwn (model X.prog X.w) X.A X.env X.xe) (hc : QT X c tc) (hb : QB X sts tb) : QS X (.While c sts [] pos) (sWhile tc tb) := by
  refine ⟨fun D ρ G σ H h rs s tk => ?_⟩
  obtain ⟨W, ⟨m0, w0⟩, turn⟩ := h
  refine PS.ws (ps_while hp pt_max pss_max) ⟨fun m σ' H' => ∃ ρ' G', RepS X.K H' σ' ρ' ∧ Sim X.K G' H' ∧ Ext X.K G H G' H' ∧ W m ρ' G', ⟨m0, ρ, G, rs, s, .refl, w0⟩, ?_⟩
  rintro m σ1 H1 ⟨ρ1, G1, r1, s1, e1, w1⟩
  refine (hc.run ρ1 G1 _ _ σ1 H1 (turn m ρ1 G1 w1) r1 s1 ((tk.step e1).tk r1)).imp fun k H2 ⟨G2, s2, e2, q2⟩ => ?_
  have e12 := e1.trans e2
  cases k with
  | true =>
    simp only [if_true] at q2 ⊢
    refine ⟨LiftP X.K G H fun ρ' G' => ∃ m', m' < m ∧ W m' ρ' G', fun σ' H' ⟨ρ', G', r', s', e', m', hm, w'⟩ => ⟨m', hm, ρ', G', r', s', e', w'⟩, ?_⟩
    exact WSs.back e12 (hb.run _ ρ1 G2 σ1 H2 q2 (r1.mono e2.tup) s2 (tk.step e12))
  | false =>
    simp only [Bool.false_eq_true, if_false] at q2 ⊢
    exact ⟨ρ1, G2, r1.mono e2.tup, s2, e12, q2⟩
end
end DL

namespace DL
open PySem PySem.Spec PyProof.Rows L2
/-! a, b = x, y -/
def isStarred : Expr → Bool
  | .Starred .. => true
  | _ => false
def swapN (sc : Scope) (ts : List Expr) : List Str := ts.filterMap fun
  | .Name id pos => if sc.names.lookup id == some .local && pos.line == (ts.head?.map (·.pos.line)).getD 0 then some id else none
  | _ => none
def swapR (sc : Scope) (ts vs : List Expr) : Option (Option (List Str)) :=
  if (!(ts.length == 2 || ts.length == 3) || vs.length != ts.length) = true then some none
  else if vs.any isStarred = true then some none
  else if ((swapN sc ts).length != ts.length || (swapN sc ts).eraseDups.length != (swapN sc ts).length) = true then some none
  else if vs.all (foldedForSure 8) = true then some none
  else if vs.all (constantsAlone 8) = true then none else some (some (swapN sc ts))
theorem any_starred (vs : List Expr) : (vs.any fun | .Starred .. => true | _ => false) = vs.any isStarred := by
  congr 1
theorem swap_ok {env : PySem.Env} {ts vs : List Expr} {k k2 : Nat} {p p2 : Pos} {r : Option (List Str)} (hk : env.scope.kind = .function) (h : swapR env.scope ts vs = some r) : swappedStores [.Tuple ts k p] (.Tuple vs k2 p2) env = pure r := by
  have hb : env.blockKind = .function := by unfold Env.blockKind; rw [hk]; rfl
  unfold swapR at h
  unfold swappedStores
  dsimp only
  rw [hb]
  have e0 : (ScopeKind.function != ScopeKind.function) = false := by decide
  rw [e0, Bool.or_false]
  show (if (!(ts.length == 2 || ts.length == 3) || vs.length != ts.length) = true then pure none else
    if (vs.any isStarred) = true then pure none else
    if ((swapN env.scope ts).length != ts.length || (swapN env.scope ts).eraseDups.length != (swapN env.scope ts).length) = true then pure none else
    if vs.all (foldedForSure 8) = true then pure none else
    if vs.all (constantsAlone 8) = true then (do unsupported "assign.tuple-of-constant-expressions:order-of-the-stores"; pure (some (swapN env.scope ts)))
    else pure (some (swapN env.scope ts)) : Sem (Option (List Str))) = pure r
  by_cases c1 : (!(ts.length == 2 || ts.length == 3) || vs.length != ts.length) = true
  · rw [if_pos c1] at h ⊢
    rw [Option.some.inj h]
  rw [if_neg c1] at h ⊢
  by_cases c2 : vs.any isStarred = true
  · rw [if_pos c2] at h ⊢
    rw [Option.some.inj h]
  rw [if_neg c2] at h ⊢
  by_cases c3 : ((swapN env.scope ts).length != ts.length || (swapN env.scope ts).eraseDups.length != (swapN env.scope ts).length) = true
  · rw [if_pos c3] at h ⊢
    rw [Option.some.inj h]
  rw [if_neg c3] at h ⊢
  by_cases c4 : vs.all (foldedForSure 8) = true
  · rw [if_pos c4] at h ⊢
    rw [Option.some.inj h]
  rw [if_neg c4] at h ⊢
  by_cases c5 : vs.all (constantsAlone 8) = true
  · rw [if_pos c5] at h
    cases h
  rw [if_neg c5] at h ⊢
  rw [Option.some.inj h]
/-- a comprehension's value is stored in the plain way -/
def swapsNo (sc : Scope) (e tg : Expr) : Bool := match e with
  | .ListComp _ _ s p => (match tg with
    | .Name t q => !(sc.names.lookup t == some .local && q.line == p.line && !(s.names.any fun (n, k) => n == t && (k == .local || k == .cell)))
    | _ => true)
  | .SetComp .. => false | .DictComp .. => false
  | _ => true
theorem swapsNo_ok {env : PySem.Env} {e tg : Expr} {l : Nat} (hk : env.scope.kind = .function) (h : swapsNo env.scope e tg = true) : swapsWith e (some tg) l env = pure false := by
  have hb : env.blockKind = .function := by unfold Env.blockKind; rw [hk]; rfl
  cases e with
  | ListComp a b s p =>
    cases tg with
    | Name t q =>
      have h : (!(env.scope.names.lookup t == some .local && q.line == p.line && !(s.names.any fun (n, k) => n == t && (k == .local || k == .cell)))) = true := h
      rw [Bool.not_eq_true'] at h
      unfold swapsWith
      show (pure (env.blockKind == .function && env.scope.names.lookup t == some .local && q.line == p.line && !(s.names.any fun (n, k) => n == t && (k == .local || k == .cell))) : Sem Bool) = pure false
      have e0 : (env.blockKind == .function) = true := by rw [hb]; decide
      rw [e0, Bool.true_and, h]
    | _ => rfl
  | SetComp a b s p => cases h
  | DictComp a a2 b s p => cases h
  | _ => rfl
section
variable {X : Cx} {tg e o i : Expr} {es : List Expr} {S S' : List Nat} {pos : Pos} {te to ti : DE} {tas : DA}
theorem qs_asgN {g : DG} (he : QE X e te) (hg : QG X tg S g) (hk : X.env.scope.kind = .function) (hn : swapsNo X.env.scope e tg = true) (hw : noSwap tg e = true) (hs : noStar tg = true) : QS X (.Assign [tg] e pos) (sAsg te g) := by
  refine ⟨fun D ρ G σ H h rs s tk => ?_⟩
  refine PS.ws (ps_asg pe_max pg_max (swapsNo_ok hk hn) (swapped_no hw) (by rw [assignEach_cons hs]; rfl)) ?_
  refine (he.run ρ G _ _ σ H h rs s (tk.tk rs)).imp fun v H1 ⟨x, G1, rx, s1, e1, q1⟩ => ?_
  exact (hg.run x ρ G1 _ _ v σ H1 q1 rx (rs.mono e1.tup) s1 (tk.step e1)).imp fun σ2 H2 ⟨_, ρ2, G2, rs2, s2, e2, q2⟩ => ⟨ρ2, G2, rs2, s2, e1.trans e2, q2⟩
def sPar2 (i j : Nat) (tas : DA) : DS := fun D ρ G => tas ρ G (fun ds G1 => match ds with
  | [a, b] => D.nx ((ρ.set i (some a)).set j (some b)) G1
  | _ => False) fun z => D.ex z ρ
theorem qs_par2 {i j : Nat} {x y : Str} {a b : Expr} {px py pt : Pos} {kt k2 : Nat} {pt2 : Pos} (hc : X.calm = true) (hN : X.N.Nodup) (hi : X.N[i]? = some x) (hj : X.N[j]? = some y) (hij : i ≠ j)
    (hx : X.env.scope.names.lookup x = some .local) (hy : X.env.scope.names.lookup y = some .local) (ha : QA X [a, b] tas) (hk : X.env.scope.kind = .function)
    (hw : swapR X.env.scope [.Name x px, .Name y py] [a, b] = some (some [x, y])) : QS X (.Assign [.Tuple [.Name x px, .Name y py] kt pt] (.Tuple [a, b] k2 pt2) pos) (sPar2 i j tas) := by
  refine ⟨fun D ρ G σ H h rs s tk => ?_⟩
  refine PS.ws (ps_par hc hN hi hj hij hx hy pa_max (swap_ok hk hw) rfl) ((ha.run ρ G _ _ σ H h rs s (tk.tk rs)).imp fun vs H1 ⟨ds, G1, r1, s1, e1, q1⟩ => ?_)
  dsimp only at q1
  split at q1
  · obtain ⟨v, u, rfl, ra, rb⟩ := r1.two
    exact ⟨v, u, rfl, _, G1, ((rs.mono e1.tup).set i ra).set j rb, s1, e1, q1⟩
  · exact q1.elim
theorem Reps.three {K : PySem.W.Frag} {H : Hp} {vs : List V} {d e f : D} (h : Reps K H vs [d, e, f]) : ∃ v u w, vs = [v, u, w] ∧ Rep K H v d ∧ Rep K H u e ∧ Rep K H w f := by
  cases h with
  | cons a b =>
    obtain ⟨u, w, rfl, r, q⟩ := b.two
    exact ⟨_, u, w, rfl, a, r, q⟩
def sPar3 (i j l : Nat) (tas : DA) : DS := fun D ρ G => tas ρ G (fun ds G1 => match ds with
  | [a, b, c] => D.nx (((ρ.set i (some a)).set j (some b)).set l (some c)) G1
  | _ => False) fun z => D.ex z ρ
theorem qs_par3 {i j l : Nat} {x y z : Str} {a b c : Expr} {px py pz pt : Pos} {kt k2 : Nat} {pt2 : Pos} (hc : X.calm = true) (hN : X.N.Nodup) (hi : X.N[i]? = some x) (hj : X.N[j]? = some y) (hl : X.N[l]? = some z) (hij : i ≠ j) (hil : i ≠ l) (hjl : j ≠ l)
    (hx : X.env.scope.names.lookup x = some .local) (hy : X.env.scope.names.lookup y = some .local) (hz : X.env.scope.names.lookup z = some .local) (ha : QA X [a, b, c] tas) (hk : X.env.scope.kind = .function)
    (hw : swapR X.env.scope [.Name x px, .Name y py, .Name z pz] [a, b, c] = some (some [x, y, z])) : QS X (.Assign [.Tuple [.Name x px, .Name y py, .Name z pz] kt pt] (.Tuple [a, b, c] k2 pt2) pos) (sPar3 i j l tas) := by
  refine ⟨fun D ρ G σ H h rs s tk => ?_⟩
  refine PS.ws (ps_par3 hc hN hi hj hl hij hil hjl hx hy hz pa_max (swap_ok hk hw) rfl) ((ha.run ρ G _ _ σ H h rs s (tk.tk rs)).imp fun vs H1 ⟨ds, G1, r1, s1, e1, q1⟩ => ?_)
  dsimp only at q1
  split at q1
  · obtain ⟨v, u, w, rfl, ra, rb, rc⟩ := r1.three
    exact ⟨v, u, w, rfl, _, G1, (((rs.mono e1.tup).set i ra).set j rb).set l rc, s1, e1, q1⟩
  · exact q1.elim
/-- a tuple of targets from a written tuple, one by one -/
theorem qs_asgT {g : DG} {ts vs : List Expr} {k k2 : Nat} {p1 p2 : Pos} (he : QE X (.Tuple vs k2 p2) te) (hg : QG X (.Tuple ts k p1) S g) (hk : X.env.scope.kind = .function) (hw : swapR X.env.scope ts vs = some none) : QS X (.Assign [.Tuple ts k p1] (.Tuple vs k2 p2) pos) (sAsg te g) := by
  refine ⟨fun D ρ G σ H h rs s tk => ?_⟩
  refine PS.ws (ps_asg pe_max pg_max rfl (swap_ok hk hw) rfl) ?_
  refine (he.run ρ G _ _ σ H h rs s (tk.tk rs)).imp fun v H1 ⟨x, G1, rx, s1, e1, q1⟩ => ?_
  exact (hg.run x ρ G1 _ _ v σ H1 q1 rx (rs.mono e1.tup) s1 (tk.step e1)).imp fun σ2 H2 ⟨_, ρ2, G2, rs2, s2, e2, q2⟩ => ⟨ρ2, G2, rs2, s2, e1.trans e2, q2⟩
/-! list comprehensions -/
theorem wipe_get {σ : L2.St} {j : Nat} : ∀ {vs : List Nat}, (L2.wipe σ vs)[j]? = if j ∈ vs ∧ j < σ.length then some none else σ[j]?
  | [] => by simp [L2.wipe]
  | v :: vs => by
    unfold L2.wipe
    rw [List.getElem?_set, wipe_length, wipe_get]
    by_cases hv : v = j
    · subst hv
      by_cases hl : v < σ.length
      · simp [hl]
      · simp [hl]
    · simp [hv]
      by_cases hm : j ∈ vs
      · simp [hm]
      · simp [hm, Ne.symm hv]
theorem wipe_only {σ σ2 : L2.St} {vs : List Nat} (h : Only vs (L2.wipe σ vs) σ2) : L2.wipe σ2 vs = L2.wipe σ vs := by
  apply List.ext_getElem?
  intro j
  have hl : σ2.length = σ.length := h.1.trans (wipe_length σ vs)
  rw [wipe_get, wipe_get, hl]
  by_cases hj : j ∈ vs
  · by_cases hjl : j < σ.length
    · rw [if_pos ⟨hj, hjl⟩, if_pos ⟨hj, hjl⟩]
    · rw [if_neg (fun z => hjl z.2), if_neg (fun z => hjl z.2), List.getElem?_eq_none (by omega), List.getElem?_eq_none (by omega)]
  · rw [if_neg (fun z => hj z.1), if_neg (fun z => hj z.1), h.2 j hj, wipe_get, if_neg (fun z => hj z.1)]
def lcL (g : DG) (tt : DT) (te : DE) (ρ0 : Ev) (keep : Sto → Prop) (fin : List D → Sto → Prop) : List D → List D → Sto → Prop
  | [], acc, G => keep G ∧ fin acc G
  | x :: xs, acc, G => keep G ∧ g x ρ0 G (fun ρ1 G1 => tt ρ1 G1 (fun b G2 => if b = true then te ρ1 G2 (fun d G3 => acc.length < sizeLine ∧ lcL g tt te ρ0 keep fin xs (acc ++ [d]) G3) (fun _ _ => False) else lcL g tt te ρ0 keep fin xs acc G2) (fun _ _ => False)) (fun _ _ _ => False)
def dLc (wi : DI) (g : DG) (tt : DT) (te : DE) (vs : List Nat) : DE := fun ρ G Q xq => wi ρ G (fun items keep G1 => lcL g tt te (wipeD ρ vs) keep (fun acc G2 => ∀ p, G2 p = none → Q (.ref p) (put G2 p (.lst acc))) items [] G1) xq
def WTs (X : Cx) (ifs : List Expr) : TT := fun σ H Q => ∀ pins s, Inv X pins σ H s → wpAny (model X.prog X.w) X.A (forIn ifs true fun c r => if r = true then do let ok ← isTrue c X.env (eval c X.env); pure (ForInStep.yield ok) else pure (ForInStep.yield r)) (TP X pins σ Q) X.xe s
structure QTs (X : Cx) (ifs : List Expr) (t : DT) : Prop where
  run : ∀ ρ G Q xq σ H, t ρ G Q xq → RepS X.K H σ ρ → Sim X.K G H → Tk X σ G H xq → WTs X ifs σ H (LiftB X.K G H Q)
def dYes : DT := fun _ G Q _ => Q true G
theorem qts_nil : QTs X [] dYes := ⟨fun ρ G Q xq σ H h rs s tk pins s0 I => (pts_nil (X := X)).run pins s0 σ H _ I ⟨G, s, .refl, h⟩⟩
theorem qts_one {c : Expr} {tc : DT} (h : QT X c tc) : QTs X [c] tc := ⟨fun ρ G Q xq σ H q rs s tk pins s0 I => (pts_one pt_max).run pins s0 σ H _ I (h.run ρ G Q xq σ H q rs s tk)⟩
theorem WTs.imp {ifs : List Expr} {σ : L2.St} {H : Hp} {Q Q' : Bool → Hp → Prop} (h : WTs X ifs σ H Q) (i : ∀ v H', Q v H' → Q' v H') : WTs X ifs σ H Q' := fun pins s I => thn (h pins s I) fun _ _ ⟨H', I', q⟩ => ⟨H', I', i _ _ q⟩
/-- the contexts of the block -/
abbrev Blk (X : Cx) (scope : Scope) (Y : Cx) : Prop := ∃ s H C cl fp, Y = X.blk s H scope (compEnvC scope cl C X.env) fp
section
variable {elt iter : Expr} {ifs : List Expr} {scope : Scope} {own : List (Str × Nat)} {wi : DI} {g : DG} {tt : DT}
/-- the readings that serve in all of the block's contexts -/
def BG (X : Cx) (scope : Scope) (tg : Expr) : TG := fun v σ H Q => ∀ Y, Blk X scope Y → WG Y tg v σ H Q
def BT (X : Cx) (scope : Scope) (ifs : List Expr) : TT := fun σ H Q => ∀ Y, Blk X scope Y → WTs Y ifs σ H Q
def BE (X : Cx) (scope : Scope) (e : Expr) : TE := fun σ H Q => ∀ Y, Blk X scope Y → WE Y e σ H Q
theorem pg_blk (s : Shared) (H : Hp) (C : Addr) (cl : List (Str × Addr)) (fp : List Addr) : PG (X.blk s H scope (compEnvC scope cl C X.env) fp) tg (BG X scope tg) := ⟨fun pins s0 σ H' v u Q I r h => h _ ⟨s, H, C, cl, fp, rfl⟩ pins s0 u I r⟩
theorem pts_blk (s : Shared) (H : Hp) (C : Addr) (cl : List (Str × Addr)) (fp : List Addr) : PTs (X.blk s H scope (compEnvC scope cl C X.env) fp) ifs (BT X scope ifs) := ⟨fun pins s0 σ H' Q I h => h _ ⟨s, H, C, cl, fp, rfl⟩ pins s0 I⟩
theorem pe_blk (s : Shared) (H : Hp) (C : Addr) (cl : List (Str × Addr)) (fp : List Addr) : PE (X.blk s H scope (compEnvC scope cl C X.env) fp) elt (BE X scope elt) := ⟨fun pins s0 σ H' Q I h => h _ ⟨s, H, C, cl, fp, rfl⟩ pins s0 I⟩
theorem lc_ (hi : QI X tg iter wi) (hg : ∀ Y, Blk X scope Y → QG Y tg S g) (ht : ∀ Y, Blk X scope Y → QTs Y ifs tt) (he : ∀ Y, Blk X scope Y → QE Y elt te) (hS : ∀ j ∈ S, j ∈ own.map (·.2))
    {ρ : Ev} {G : Sto} {Q : DQ} {xq : XQ} {σ : L2.St} {H : Hp} (h : dLc wi g tt te (own.map (·.2)) ρ G Q xq) (rs : RepS X.K H σ ρ) (s : Sim X.K G H) (tk : Tk X σ G H xq) :
    tLc (WI X tg iter) (BG X scope tg) (BT X scope ifs) (BE X scope elt) (own.map (·.2)) σ H (Lift X.K G H Q) := by
  refine fun pins s0 I => thn (hi.run ρ G _ _ σ H h rs s tk pins s0 I) fun v s1 h1 => thn h1 fun itv s2 h2 => ?_
  obtain ⟨it, fp, tn, J, H', x1, x2, x3, x4, x5, items, keep, G1, IR, sm, e1, q⟩ := h2
  refine ⟨it, fp, tn, J, H', x1, x2, x3, x4, x5, fun Dn hD => ?_⟩
  have gD : G1 Dn = none := sm.free hD
  refine ⟨fun i m H2 => m = items.length - i ∧ i ≤ items.length ∧ ∃ acc vs G', Reps X.K H2 vs acc ∧ H2 Dn = some (.lst vs) ∧ G' Dn = none ∧ Sim X.K G' H2 ∧ Ext X.K G1 H' G' H2 ∧
    lcL g tt te (wipeD ρ (own.map (·.2))) keep (fun acc G2 => ∀ p, G2 p = none → Q (.ref p) (put G2 p (.lst acc))) (items.drop i) acc G', ⟨_, rfl, Nat.zero_le _, [], [], G1, .nil, upd_same, gD, sm.newT hD, .newT hD, q⟩, ?_⟩
  rintro i m H2 ⟨rfl, hi2, acc, vs, G', ra, hd, gn, sm', e', q'⟩
  by_cases hlt : i < items.length
  · right
    rw [List.drop_eq_getElem_cons hlt] at q'
    obtain ⟨kp, q'⟩ := q'
    refine ⟨IR.go i G' H2 e'.tup sm' kp hlt, fun H3 => ∃ acc vs G', Reps X.K H3 vs acc ∧ H3 Dn = some (.lst vs) ∧ G' Dn = none ∧ Sim X.K G' H3 ∧ Ext X.K G1 H' G' H3 ∧
      lcL g tt te (wipeD ρ (own.map (·.2))) keep (fun acc G2 => ∀ p, G2 p = none → Q (.ref p) (put G2 p (.lst acc))) (items.drop (i + 1)) acc G', fun H3 z => ⟨_, by omega, rfl, hlt, z⟩, fun x H4 y => ?_⟩
    obtain ⟨d, hd4, rd, sm4, e4⟩ := IR.yld i G' H2 x H4 e'.tup sm' kp hlt y
    have ed : d = items[i] := by
      rw [List.getElem?_eq_getElem hlt] at hd4
      exact (Option.some.inj hd4).symm
    subst ed
    have e04 := e1.trans (e'.trans e4)
    have rw4 : RepS X.K H4 (L2.wipe σ (own.map (·.2))) (wipeD ρ (own.map (·.2))) := (rs.mono e04.tup).wipe _
    have dn4 := e4.frm Dn _ hd gn
    intro Y hY
    have hYK : Y.K = X.K := by obtain ⟨_, _, _, _, _, rfl⟩ := hY; rfl
    refine ((hg Y hY).run _ _ G' _ _ x _ H4 q' (by rw [hYK]; exact rd) (by rw [hYK]; exact rw4) (by rw [hYK]; exact sm4) TkS.never).imp fun σ5 H5 ⟨o5, ρ5, G5, r5, s5, e5, q5⟩ => ?_
    rw [hYK] at r5 s5 e5
    refine ⟨wipe_only (o5.mono hS), ?_⟩
    have dn5 := e5.frm Dn _ dn4.1 dn4.2
    intro Y hY
    have hYK : Y.K = X.K := by obtain ⟨_, _, _, _, _, rfl⟩ := hY; rfl
    refine ((ht Y hY).run ρ5 G5 _ _ σ5 H5 q5 (by rw [hYK]; exact r5) (by rw [hYK]; exact s5) Tk.never).imp fun b H6 ⟨G6, s6, e6, q6⟩ => ?_
    rw [hYK] at s6 e6
    have dn6 := e6.frm Dn _ dn5.1 dn5.2
    have e16 := ((e'.trans e4).trans e5).trans e6
    cases b with
    | true =>
      simp only [if_true] at q6 ⊢
      intro Y hY
      have hYK : Y.K = X.K := by obtain ⟨_, _, _, _, _, rfl⟩ := hY; rfl
      refine ((he Y hY).run ρ5 G6 _ _ σ5 H6 q6 (by rw [hYK]; exact r5.mono e6.tup) (by rw [hYK]; exact s6) Tk.never).imp fun v7 H7 ⟨d7, G7, r7, s7, e7, hl7, q7⟩ => ?_
      rw [hYK] at r7 s7 e7
      have dn7 := e7.frm Dn _ dn6.1 dn6.2
      have e17 := e16.trans e7
      have ra7 : Reps X.K H7 vs acc := ra.mono ((e4.trans (e5.trans (e6.trans e7))).tup)
      have t8 : TupExt X.K H7 (upd H7 Dn (.lst (vs ++ [v7]))) := tup_mut dn7.1 rfl
      refine ⟨vs, dn7.1, by rw [ra7.length]; exact hl7, acc ++ [d7], vs ++ [v7], G7, (ra7.append (.cons r7 .nil)).mono t8, upd_same, dn7.2, ?_, ?_, q7⟩
      · intro a c hac
        have ne : a ≠ Dn := fun z => by
          subst z
          rw [dn7.2] at hac
          cases hac
        exact (s7 a c hac).mono t8 (upd_ne ne)
      · refine ⟨e17.tup.trans t8, fun a o z1 z2 => ?_⟩
        have ne : a ≠ Dn := fun z => by
          subst z
          rw [hD] at z1
          cases z1
        rw [upd_ne ne]
        exact e17.frm a o z1 z2
    | false =>
      simp only [Bool.false_eq_true, if_false] at q6 ⊢
      exact ⟨acc, vs, G6, ra.mono ((e4.trans (e5.trans e6)).tup), dn6.1, dn6.2, s6, e16, q6⟩
  · left
    have ei : i = items.length := by omega
    subst ei
    rw [List.drop_length] at q'
    refine ⟨IR.stop _ G' H2 e'.tup sm' q'.1 (Nat.le_refl _), .ref Dn, put G' Dn (.lst acc), .ref Dn, ?_, ?_, q'.2 Dn gn⟩
    · intro a c hac
      by_cases ea : a = Dn
      · subst ea
        rw [put_same] at hac
        cases hac
        exact ⟨vs, hd, ra⟩
      · rw [put_ne ea] at hac
        exact sm' a c hac
    · have e01 := e1.trans e'
      refine ⟨e01.tup, fun a o z1 z2 => ?_⟩
      have z3 := e1.frm a o z1 z2
      have ne : a ≠ Dn := fun z => by
        subst z
        rw [hD] at z3
        cases z3.1
      rw [put_ne ne]
      exact e01.frm a o z1 z2
theorem qe_lc (hc : X.calm = true) (hN : X.N.Nodup) (hi : QI X tg iter wi) (ok : BlkOk X.N X.env.scope scope own) (hg : ∀ Y, Blk X scope Y → QG Y tg S g) (ht : ∀ Y, Blk X scope Y → QTs Y ifs tt) (he : ∀ Y, Blk X scope Y → QE Y elt te) (hS : ∀ j ∈ S, j ∈ own.map (·.2)) (hs : noSet iter = true) :
    QE X (.ListComp elt [⟨tg, iter, ifs, 0⟩] scope pos) (dLc wi g tt te (own.map (·.2))) :=
  ⟨fun ρ G Q xq σ H h rs s tk => PE.we (pe_lc hc hN pi_max ok pg_blk pts_blk pe_blk (folded_no hs)) (lc_ hi hg ht he hS h rs s tk)⟩
/-- y = [..], y a local, on one line -/
theorem qs_setLc {i : Nat} {y : Str} {py spos : Pos} (hc : X.calm = true) (hN : X.N.Nodup) (hy : X.N[i]? = some y) (hyl : X.env.scope.names.lookup y = some .local)
    (hsw : swapsWith (.ListComp elt [⟨tg, iter, ifs, 0⟩] scope pos) (some (.Name y py)) spos.line X.env = pure true)
    (hi : QI X tg iter wi) (ok : BlkOk X.N X.env.scope scope own) (hg : ∀ Y, Blk X scope Y → QG Y tg S g) (ht : ∀ Y, Blk X scope Y → QTs Y ifs tt) (he : ∀ Y, Blk X scope Y → QE Y elt te) (hS : ∀ j ∈ S, j ∈ own.map (·.2)) (hs : noSet iter = true) :
    QS X (.Assign [.Name y py] (.ListComp elt [⟨tg, iter, ifs, 0⟩] scope pos) spos) (sAsg (dLc wi g tt te (own.map (·.2))) (gNm i)) := by
  refine ⟨fun D ρ G σ H h rs s tk => ?_⟩
  refine PS.ws (ps_setLc hc hN hy hyl hsw pi_max ok pg_blk pts_blk pe_blk (folded_no hs)) ?_
  have m := lc_ hi hg ht he hS (Q := fun x G1 => D.nx (ρ.set i (some x)) G1) h rs s (tk.tk rs)
  refine fun pins s0 I => thn (m pins s0 I) fun v s1 h1 => thn h1 fun itv s2 ⟨it, fp, tn, J, H', x1, x2, x3, x4, x5, q⟩ => ⟨it, fp, tn, J, H', x1, x2, x3, x4, x5, fun Dn hD => ?_⟩
  obtain ⟨W, w0, turn⟩ := q Dn hD
  refine ⟨W, w0, fun j m H2 w2 => ?_⟩
  rcases turn j m H2 w2 with ⟨st, d, G2, r2, s2, e2, q2⟩ | z
  · exact .inl ⟨st, _, G2, (rs.mono e2.tup).set i r2, s2, e2, q2⟩
  · exact .inr z
end
end
end DL

namespace DL
open PySem PySem.Spec PyProof.Rows L2
/-! the core: what a body does, without its text -/
mutual
inductive CE where
  | var (i : Nat) | int (i : Int) | bl (b : Bool) | non | str (s : Str) | glb (j : Nat) | tn (t : Tn)
  | bin (op : Operator) (a b : CE) | cmp (op : CmpOp) (a b : CE) | chn (op op' : CmpOp) (a b c : CE)
  | neg (a : CE) | not (a : CE) | and (a b : CE) | or (a b : CE) | ife (t : CT) (a b : CE)
  | tup (as : CA) | lst (as : CA) | ix (a b : CE) | sl (a : CE) (lo hi : CO) | rev (a : CE)
  | blt (b : Bl) (as : CA) | isiT (ts : List Tn) (a : CE) | mt (m : Mt) (o : CE) (as : CA) | fn (j : Nat) (as : CA)
  | lc (own : List (Str × Nat)) (g : CG) (it : CI) (t : CTs) (e : CE)
  | dct (r : CKv) | dix (a b : CE)
inductive CKv where
  | nil | cons (k v : CE) (r : CKv)
inductive CA where
  | nil | cons (e : CE) (as : CA)
inductive CO where
  | no | part (e : CE)
inductive CT where
  | cmp (op : CmpOp) (a b : CE) | chn (op op' : CmpOp) (a b c : CE) | not (t : CT) | and (t u : CT) | or (t u : CT) | val (e : CE)
inductive CTs where
  | no | one (t : CT)
inductive CI where
  | it (e : CE) | rng1 (a : CE) | rng2 (a b : CE) | enum (a : CE) | zip (a b : CE)
inductive CG where
  | name (i : Nat) | tup (n : Nat) (gs : CGs) | sub (o i : CE) | dsub (o i : CE)
inductive CGs where
  | nil | cons (g : CG) (gs : CGs)
end
mutual
inductive CS where
  | pass | brk | cont | ret (e : CE) | retN | expr (e : CE) | asg (g : CG) (e : CE) | par2 (i j : Nat) (as : CA) | par3 (i j l : Nat) (as : CA) | asgT (g : CG) (e : CE)
  | setLc (i : Nat) (own : List (Str × Nat)) (g : CG) (it : CI) (t : CTs) (e : CE)
  | ifs (t : CT) (a b : CB) | fors (g : CG) (it : CI) (b : CB) | whil (t : CT) (b : CB)
inductive CB where
  | nil | cons (s : CS) (b : CB)
end
def CB.drop : CB → Nat → CB
  | b, 0 => b
  | .nil, _ => .nil
  | .cons _ b, n + 1 => b.drop n
section
variable (F : List DSp) (Gm : List D)
def glbD (j : Nat) : DE := fun _ G Q _ => match Gm[j]? with
  | some d => Q d G
  | none => False
def fnD (j : Nat) (t : DA) : DE := match F[j]? with
  | some sp => dFn sp t
  | none => fun _ _ _ _ => False
def slots : CG → List Nat
  | .name i => [i]
  | .tup _ gs => slotsL gs
  | .sub _ _ => []
  | .dsub _ _ => []
where slotsL : CGs → List Nat
  | .nil => []
  | .cons g gs => slots g ++ slotsL gs
mutual
def denE : CE → DE
  | .var i => dVar i | .int i => dC (.int i) | .bl b => dC (.bl b) | .non => dC .non | .str s => dC (.str s) | .glb j => glbD Gm j | .tn t => dC (.ty t.ty)
  | .bin op a b => dOp (binD op) (denE a) (denE b)
  | .cmp op a b => dOp (cmpD op) (denE a) (denE b)
  | .chn op op' a b c => dChn (cmpD op) (cmpD op') (denE a) (denE b) (denE c)
  | .neg a => dUn negD (denE a)
  | .not a => dNotV (denE a)
  | .and a b => dAndV (denE a) (denE b)
  | .or a b => dOrV (denE a) (denE b)
  | .ife t a b => dIfE (denT t) (denE a) (denE b)
  | .tup as => dTup (denA as)
  | .lst as => dLst (denA as)
  | .ix a b => dOp ixD (denE a) (denE b)
  | .sl a lo hi => dSl (denE a) (denO lo) (denO hi)
  | .rev a => dUn revD (denE a)
  | .blt b as => dCall (bltD b) (denA as)
  | .isiT ts a => dUn (isiT ts) (denE a)
  | .mt m o as => dMt m.ty (mtD m) (denE o) (denA as)
  | .fn j as => fnD F j (denA as)
  | .lc own g it t e => dLc (denI it) (denG g) (denTs t) (denE e) (own.map (·.2))
  | .dct r => dDisp (denKv r)
  | .dix a b => dOp dixD (denE a) (denE b)
def denKv : CKv → DKv
  | .nil => kvNil
  | .cons k v r => kvCons (denE k) (denE v) (denKv r)
def denA : CA → DA
  | .nil => dNil
  | .cons e as => dCons (denE e) (denA as)
def denO : CO → DO
  | .no => dNoPart
  | .part e => dPart (denE e)
def denT : CT → DT
  | .cmp op a b => dTest (dOp (cmpD op) (denE a) (denE b))
  | .chn op op' a b c => dTest (dChn (cmpD op) (cmpD op') (denE a) (denE b) (denE c))
  | .not t => dNotT (denT t)
  | .and t u => dAndT (denT t) (denT u)
  | .or t u => dOrT (denT t) (denT u)
  | .val e => dTru (denE e)
def denTs : CTs → DT
  | .no => dYes
  | .one t => denT t
def denI : CI → DI
  | .it e => dIter (denE e)
  | .rng1 a => dItA rng1 (dCons (denE a) dNil)
  | .rng2 a b => dItA rng2 (dCons (denE a) (dCons (denE b) dNil))
  | .enum a => dItA enm (dCons (denE a) dNil)
  | .zip a b => dItA zpp (dCons (denE a) (dCons (denE b) dNil))
def denG : CG → DG
  | .name i => gNm i
  | .tup n gs => gTp n (denGs gs)
  | .sub o i => gSb (denE o) (denE i)
  | .dsub o i => gDs (denE o) (denE i)
def denGs : CGs → DGs
  | .nil => gNl
  | .cons g gs => gCs (denG g) (denGs gs)
end
mutual
def denS : CS → DS
  | .pass => sNext | .brk => sBreak | .cont => sCont
  | .ret e => sRet (denE F Gm e)
  | .retN => sRetN
  | .expr e => sDrop (denE F Gm e)
  | .asg g e => sAsg (denE F Gm e) (denG F Gm g)
  | .par2 i j as => sPar2 i j (denA F Gm as)
  | .par3 i j l as => sPar3 i j l (denA F Gm as)
  | .asgT g e => sAsg (denE F Gm e) (denG F Gm g)
  | .setLc i own g it t e => sAsg (dLc (denI F Gm it) (denG F Gm g) (denTs F Gm t) (denE F Gm e) (own.map (·.2))) (gNm i)
  | .ifs t a b => sIf (denT F Gm t) (denB a) (denB b)
  | .fors g it b => sFor (denI F Gm it) (denG F Gm g) (denB b)
  | .whil t b => sWhile (denT F Gm t) (denB b)
def denB : CB → DS
  | .nil => sNext
  | .cons s b => sSeq (denS s) (denB b)
end
end
/-! the check of a body against its core -/
structure Ci where
  N : List Str
  sc : Scope
  own : Option Scope
  fns : List Str
  glbs : List Str
  blts : List Str
def Ci.blk (ci : Ci) (scope : Scope) : Ci := { ci with sc := relS scope ci.sc, own := some scope }
def isK (k : Option NameKind) (l : NameKind) : Bool := match k, l with
  | some .local, .local => true
  | some .cell, .cell => true
  | some .free, .free => true
  | some .globalImplicit, .globalImplicit => true
  | _, _ => false
theorem isK_eq {k : Option NameKind} {l : NameKind} (h : isK k l = true) : k = some l := by
  unfold isK at h
  split at h <;> first | rfl | cases h
def Ci.kind (ci : Ci) (x : Str) : Option NameKind := ci.sc.names.lookup x
def Ci.vis (ci : Ci) (x : Str) : Bool := isK (ci.kind x) .local || isK (ci.kind x) .cell || isK (ci.kind x) .free
def Ci.loc (ci : Ci) (x : Str) : Bool := isK (ci.kind x) .local || (isK (ci.kind x) .cell && (match ci.own with
  | none => true
  | some s => isK (s.names.lookup x) .cell))
def Ci.gl (ci : Ci) (x : Str) : Bool := isK (ci.kind x) .globalImplicit
def Ci.slot (ci : Ci) (i : Nat) (x : Str) : Bool := match ci.N[i]? with
  | some y => decide (y = x)
  | none => false
def Ci.bltin (ci : Ci) (x : Str) : Bool := ci.gl x && ci.blts.contains x
def okName (x : Str) : Bool := !(x == ("__debug__" : Str)) && !(x == ("__classdict__" : Str))
def nthIs (l : List Str) (j : Nat) (x : Str) : Bool := match l[j]? with
  | some y => decide (y = x)
  | none => false
def plainTest : Expr → Bool
  | .UnaryOp .Not _ _ => false | .BoolOp .. => false | .IfExp .. => false | .Compare .. => false
  | _ => true
mutual
def chkE (ci : Ci) : CE → Expr → Bool
  | .var i, z0 => match z0 with
    | .Name x _ => ci.slot i x && ci.vis x && okName x
    | _ => false
  | .int i, z0 => match z0 with
    | .Constant (.int j) _ _ => decide (i = j)
    | _ => false
  | .bl b, z0 => match z0 with
    | .Constant (.bool c) _ _ => b == c
    | _ => false
  | .non, z0 => match z0 with
    | .Constant .none _ _ => true
    | _ => false
  | .str s, z0 => match z0 with
    | .Constant (.str t) _ _ => decide (s = t)
    | _ => false
  | .glb j, z0 => match z0 with
    | .Name x _ => ci.gl x && nthIs ci.glbs j x && okName x
    | _ => false
  | .tn t, z0 => match z0 with
    | .Name x _ => decide (x = t.name) && ci.bltin x
    | _ => false
  | .bin op a b, z0 => match z0 with
    | .BinOp e op' e' _ => decide (op = op') && chkE ci a e && chkE ci b e'
    | _ => false
  | .cmp op a b, z0 => match z0 with
    | .Compare e [op'] [e'] _ => decide (op = op') && !behindInMarks op e' && chkE ci a e && chkE ci b e'
    | _ => false
  | .chn op1 op2 a b c, z0 => match z0 with
    | .Compare e [op1', op2'] [e', e''] _ => decide (op1 = op1') && decide (op2 = op2') && !lastMarks [op1, op2] [e', e''] && chkE ci a e && chkE ci b e' && chkE ci c e''
    | _ => false
  | .neg a, z0 => match z0 with
    | .UnaryOp .USub e _ => chkE ci a e
    | _ => false
  | .not a, z0 => match z0 with
    | .UnaryOp .Not e _ => chkE ci a e
    | _ => false
  | .and a b, z0 => match z0 with
    | .BoolOp .And (e :: e' :: es) p => chkE ci a e && (match es with
        | [] => chkE ci b e'
        | _ :: _ => chkE ci b (.BoolOp .And (e' :: es) p))
    | _ => false
  | .or a b, z0 => match z0 with
    | .BoolOp .Or (e :: e' :: es) p => chkE ci a e && (match es with
        | [] => chkE ci b e'
        | _ :: _ => chkE ci b (.BoolOp .Or (e' :: es) p))
    | _ => false
  | .ife t a b, z0 => match z0 with
    | .IfExp c e e' _ => chkT ci t c && chkE ci a e && chkE ci b e'
    | _ => false
  | .tup as, z0 => match z0 with
    | .Tuple es _ _ => chkA ci as es
    | _ => false
  | .lst as, z0 => match z0 with
    | .List es _ => chkA ci as es
    | _ => false
  | .ix a b, z0 => match z0 with
    | .Subscript e e' _ => plainSub e' && chkE ci a e && chkE ci b e'
    | _ => false
  | .sl a lo hi, z0 => match z0 with
    | .Subscript e (.Slice l h none _) _ => chkE ci a e && chkO ci lo l && chkO ci hi h
    | _ => false
  | .rev a, z0 => match z0 with
    | .Subscript e (.Slice none none (some (.UnaryOp .USub (.Constant (.int 1) _ _) _)) _) _ => chkE ci a e
    | _ => false
  | .blt b as, z0 => match z0 with
    | .Call (.Name x _) (e :: es) [] _ => decide (x = b.name) && ci.bltin x && chkA ci as (e :: es)
    | _ => false
  | .isiT ts a, z0 => match z0 with
    | .Call (.Name x _) [e, .Tuple es _ _] [] _ => decide (x = "isinstance") && ci.bltin x && noStar e && isNames ts es && (ts.all fun t => ci.bltin t.name) && decide (ts.length ≤ 1000) && chkE ci a e
    | _ => false
  | .mt m o as, z0 => match z0 with
    | .Call (.Attribute e x ap) es [] cp => decide (x = m.name) && baseOk e && (ap.endLine == cp.line) && decide (es.length < 30) && chkE ci o e && chkA ci as es
    | _ => false
  | .fn j as, z0 => match z0 with
    | .Call (.Name x _) es [] _ => ci.gl x && nthIs ci.fns j x && okName x && chkA ci as es
    | _ => false
  | .lc own g it t e, z0 => match z0 with
    | .ListComp elt [⟨tg, iter, ifs, 0⟩] scope _ => blkC ci.N ci.sc scope own && noSet iter && (slots g).all (fun j => decide (j ∈ own.map (·.2))) && chkI ci it tg iter && chkG (ci.blk scope) g tg && chkTs (ci.blk scope) t ifs && chkE (ci.blk scope) e elt
    | _ => false
  | .dct r, z0 => match z0 with
    | .Dict ks vs _ => decide (ks.length ≤ 15) && chkKv ci r ks vs
    | _ => false
  | .dix a b, z0 => match z0 with
    | .Subscript e e' _ => plainSub e' && chkE ci a e && chkE ci b e'
    | _ => false
def chkKv (ci : Ci) : CKv → List (Option Expr) → List Expr → Bool
  | .nil, z0, z1 => match z0, z1 with
    | [], [] => true
    | _, _ => false
  | .cons k v r, z0, z1 => match z0, z1 with
    | some k' :: ks, v' :: vs => chkE ci k k' && chkE ci v v' && chkKv ci r ks vs
    | _, _ => false
def chkA (ci : Ci) : CA → List Expr → Bool
  | .nil, z0 => match z0 with
    | [] => true
    | _ => false
  | .cons e as, z0 => match z0 with
    | x :: xs => noStar x && chkE ci e x && chkA ci as xs
    | _ => false
def chkO (ci : Ci) : CO → Option Expr → Bool
  | .no, z0 => match z0 with
    | none => true
    | _ => false
  | .part e, z0 => match z0 with
    | some x => chkE ci e x
    | _ => false
def chkT (ci : Ci) : CT → Expr → Bool
  | .cmp op a b, z0 => match z0 with
    | .Compare e [op'] [e'] _ => decide (op = op') && !behindInMarks op e' && chkE ci a e && chkE ci b e'
    | _ => false
  | .chn op1 op2 a b c, z0 => match z0 with
    | .Compare e [op1', op2'] [e', e''] _ => decide (op1 = op1') && decide (op2 = op2') && !lastMarks [op1, op2] [e', e''] && chkE ci a e && chkE ci b e' && chkE ci c e''
    | _ => false
  | .not t, z0 => match z0 with
    | .UnaryOp .Not e _ => chkT ci t e
    | _ => false
  | .and a b, z0 => match z0 with
    | .BoolOp .And (e :: e' :: es) p => chkT ci a e && (match es with
        | [] => chkT ci b e'
        | _ :: _ => chkT ci b (.BoolOp .And (e' :: es) p))
    | _ => false
  | .or a b, z0 => match z0 with
    | .BoolOp .Or (e :: e' :: es) p => chkT ci a e && (match es with
        | [] => chkT ci b e'
        | _ :: _ => chkT ci b (.BoolOp .Or (e' :: es) p))
    | _ => false
  | .val e, z0 => match z0 with
    | x => plainTest x && chkE ci e x
def chkTs (ci : Ci) : CTs → List Expr → Bool
  | .no, z0 => match z0 with
    | [] => true
    | _ => false
  | .one t, z0 => match z0 with
    | [x] => chkT ci t x
    | _ => false
def chkI (ci : Ci) : CI → Expr → Expr → Bool
  | .it e, z0, z1 => match z0, z1 with
    | _, x => chkE ci e x
  | .rng1 a, z0, z1 => match z0, z1 with
    | _, .Call (.Name x _) [e] [] _ => decide (x = "range") && ci.bltin x && noStar e && chkE ci a e
    | _, _ => false
  | .rng2 a b, z0, z1 => match z0, z1 with
    | _, .Call (.Name x _) [e, e'] [] _ => decide (x = "range") && ci.bltin x && noStar e && noStar e' && chkE ci a e && chkE ci b e'
    | _, _ => false
  | .enum a, z0, z1 => match z0, z1 with
    | .Tuple _ _ _, .Call (.Name x _) [e] [] _ => decide (x = "enumerate") && ci.bltin x && noStar e && chkE ci a e
    | _, _ => false
  | .zip a b, z0, z1 => match z0, z1 with
    | .Tuple _ _ _, .Call (.Name x _) [e, e'] [] _ => decide (x = "zip") && ci.bltin x && noStar e && noStar e' && chkE ci a e && chkE ci b e'
    | _, _ => false
def chkG (ci : Ci) : CG → Expr → Bool
  | .name i, z0 => match z0 with
    | .Name x _ => ci.slot i x && ci.loc x
    | _ => false
  | .tup n gs, z0 => match z0 with
    | .Tuple es _ _ => decide (n = es.length) && chkGs ci gs es
    | _ => false
  | .sub o i, z0 => match z0 with
    | .Subscript e e' _ => plainSub e' && chkE ci o e && chkE ci i e'
    | _ => false
  | .dsub o i, z0 => match z0 with
    | .Subscript e e' _ => plainSub e' && chkE ci o e && chkE ci i e'
    | _ => false
def chkGs (ci : Ci) : CGs → List Expr → Bool
  | .nil, z0 => match z0 with
    | [] => true
    | _ => false
  | .cons g gs, z0 => match z0 with
    | x :: xs => noStar x && chkG ci g x && chkGs ci gs xs
    | _ => false
end
/-! a context that fits -/
structure Fit (F : List DSp) (Gm : List D) (ci : Ci) (X : Cx) : Prop where
  N : X.N = ci.N
  nd : ci.N.Nodup
  sc : X.env.scope = ci.sc
  kind : ci.sc.kind = .function
  calm : X.calm = true
  own : match ci.own with
    | none => ∀ x, X.fn x = true
    | some s => ∀ x, X.fn x = (s.names.lookup x == some .cell)
  hu : X.A.units + 65 < cLine
  cal : ∀ (j : Nat) x sp, ci.fns[j]? = some x → F[j]? = some sp → Cal X x sp
  glb : ∀ (j : Nat) x d, ci.glbs[j]? = some x → Gm[j]? = some d → Glb X x d
  blt : ∀ x, x ∈ ci.blts → X.mg x = none
section
variable {F : List DSp} {Gm : List D} {ci : Ci} {X : Cx}
theorem Fit.slot (f : Fit F Gm ci X) {i : Nat} {x : Str} (h : ci.slot i x = true) : X.N[i]? = some x := by
  rw [f.N]
  unfold Ci.slot at h
  split at h
  · rename_i y e
    rw [e, of_decide_eq_true h]
  · cases h
theorem Fit.vis (f : Fit F Gm ci X) {x : Str} (h : ci.vis x = true) : Vis X.env.scope x := by
  unfold Ci.vis at h
  rw [Bool.or_eq_true, Bool.or_eq_true] at h
  unfold Vis
  rw [f.sc]
  rcases h with (h | h) | h
  · exact .inl (isK_eq h)
  · exact .inr (.inl (isK_eq h))
  · exact .inr (.inr (isK_eq h))
theorem Fit.gl (f : Fit F Gm ci X) {x : Str} (h : ci.gl x = true) : Gl X x := by
  unfold Gl
  show X.env.scope.names.lookup x = _
  rw [f.sc]
  exact isK_eq h
theorem Fit.bltin (f : Fit F Gm ci X) {x : Str} (h : ci.bltin x = true) : Gl X x ∧ X.mg x = none := by
  unfold Ci.bltin at h
  rw [Bool.and_eq_true] at h
  exact ⟨f.gl h.1, f.blt x (List.contains_iff_mem.mp h.2)⟩
theorem Fit.loc (f : Fit F Gm ci X) {x : Str} (h : ci.loc x = true) : L2.Loc X.env.scope x ∧ (X.fn x = true ∨ X.env.scope.names.lookup x = some .local) := by
  unfold Ci.loc at h
  rw [Bool.or_eq_true, Bool.and_eq_true] at h
  unfold L2.Loc
  rw [f.sc]
  rcases h with h | ⟨h, h2⟩
  · exact ⟨.inl (isK_eq h), .inr (isK_eq h)⟩
  · refine ⟨.inr (isK_eq h), .inl ?_⟩
    have fo := f.own
    split at h2
    · rename_i e
      rw [e] at fo
      exact fo x
    · rename_i s e
      rw [e] at fo
      rw [fo x, isK_eq h2]
      rfl
theorem okName_ok {x : Str} (h : okName x = true) : (x == ("__debug__" : Str)) = false ∧ (x == ("__classdict__" : Str)) = false := by
  unfold okName at h
  rw [Bool.and_eq_true] at h
  exact ⟨by simpa using h.1, by simpa using h.2⟩
theorem nth_ok {l : List Str} {j : Nat} {x : Str} (h : nthIs l j x = true) : l[j]? = some x := by
  unfold nthIs at h
  split at h
  · rename_i y e
    rw [e, of_decide_eq_true h]
  · cases h
theorem Fit.blk (f : Fit F Gm ci X) {scope : Scope} (hk : scope.kind = .function) {Y : Cx} (b : Blk X scope Y) : Fit F Gm (ci.blk scope) Y := by
  obtain ⟨s, H, C, cl, fp, rfl⟩ := b
  refine ⟨f.N, f.nd, ?_, hk, f.calm, fun _ => rfl, f.hu, f.cal, f.glb, f.blt⟩
  show relS scope X.env.scope = relS scope ci.sc
  rw [f.sc]
theorem chkA_star : ∀ {as : CA} {es : List Expr}, chkA ci as es = true → es.all noStar = true
  | .nil, es, h => by
    unfold chkA at h
    split at h
    · rfl
    · cases h
  | .cons e as, es, h => by
    unfold chkA at h
    split at h
    · rw [Bool.and_eq_true, Bool.and_eq_true] at h
      rw [List.all_cons, h.1.1, chkA_star h.2]
      rfl
    · cases h
theorem chkGs_star : ∀ {as : CGs} {es : List Expr}, chkGs ci as es = true → es.all noStar = true
  | .nil, es, h => by
    unfold chkGs at h
    split at h
    · rfl
    · cases h
  | .cons e as, es, h => by
    unfold chkGs at h
    split at h
    · rw [Bool.and_eq_true, Bool.and_eq_true] at h
      rw [List.all_cons, h.1.1, chkGs_star h.2]
      rfl
    · cases h
theorem plainIx_ok {b : Expr} (h : plainSub b = true) : PlainIx b := by
  intro o i
  cases b <;> first | rfl | cases h
theorem plainTest_ok {a : Expr} {env : PySem.Env} (h : plainTest a = true) : ∀ whole, isTrue a env whole = (do let v ← whole; standAt a.pos; holding [v] (truthy v)) := by
  intro whole
  cases a with
  | UnaryOp op x p => cases op <;> first | rfl | cases h
  | _ => first | rfl | cases h
def isBop : Expr → Bool
  | .BoolOp .. => true
  | _ => false
/-- a test, and where it is a chain of and, or, whatever the whole is -/
structure QTW (X : Cx) (e : Expr) (t : DT) : Prop where
  qt : QT X e t
  qw : isBop e = true → QW X e t
end
end DL

namespace DL
open PySem PySem.Spec PyProof.Rows L2
section
variable {F : List DSp} {Gm : List D}
theorem slotsL_eq (gs : CGs) : slots.slotsL gs = slots.slotsL gs := rfl
mutual
theorem okE : ∀ (c : CE) (ci : Ci) (X : Cx) (e : Expr), Fit F Gm ci X → chkE ci c e = true → QE X e (denE F Gm c)
  | .var i, ci, X, e, f, h => by
    unfold chkE at h
    split at h
    · simp only [Bool.and_eq_true] at h
      obtain ⟨⟨h1, h2⟩, h3⟩ := h
      exact qe_var (f.slot h1) (f.vis h2) (okName_ok h3).1 (okName_ok h3).2
    · cases h
  | .int i, ci, X, e, f, h => by
    unfold chkE at h
    split at h
    · cases of_decide_eq_true h
      exact qe_int
    · cases h
  | .bl b, ci, X, e, f, h => by
    unfold chkE at h
    split at h
    · cases eq_of_beq h
      exact qe_bl
    · cases h
  | .non, ci, X, e, f, h => by
    unfold chkE at h
    split at h
    · exact qe_non
    · cases h
  | .str s, ci, X, e, f, h => by
    unfold chkE at h
    split at h
    · cases of_decide_eq_true h
      exact qe_str
    · cases h
  | .glb j, ci, X, e, f, h => by
    unfold chkE at h
    split at h
    · simp only [Bool.and_eq_true] at h
      obtain ⟨⟨h1, h2⟩, h3⟩ := h
      refine ⟨fun ρ G Q xq σ H q rs s tk => ?_⟩
      have q : glbD Gm j ρ G Q xq := q
      unfold glbD at q
      split at q
      · rename_i d ed
        exact (qe_glb (f.gl h1) (f.glb j _ d (nth_ok h2) ed) (okName_ok h3).1).run ρ G Q xq σ H q rs s tk
      · exact q.elim
    · cases h
  | .tn t, ci, X, e, f, h => by
    unfold chkE at h
    split at h
    · simp only [Bool.and_eq_true, decide_eq_true_eq] at h
      obtain ⟨rfl, h⟩ := h
      exact qe_tn (f.bltin h).1 (f.bltin h).2
    · cases h
  | .bin op a b, ci, X, e, f, h => by
    unfold chkE at h
    split at h
    · simp only [Bool.and_eq_true, decide_eq_true_eq] at h
      obtain ⟨⟨rfl, h1⟩, h2⟩ := h
      exact (op_binD op).op (okE a ci X _ f h1) (okE b ci X _ f h2)
    · cases h
  | .cmp op a b, ci, X, e, f, h => by
    unfold chkE at h
    split at h
    · simp only [Bool.and_eq_true, decide_eq_true_eq, Bool.not_eq_true'] at h
      obtain ⟨⟨⟨rfl, h0⟩, h1⟩, h2⟩ := h
      exact (op_cmpD (Nat.lt_of_succ_lt f.hu) op).cmp (okE a ci X _ f h1) (okE b ci X _ f h2) h0
    · cases h
  | .chn op op' a b c, ci, X, e, f, h => by
    unfold chkE at h
    split at h
    · simp only [Bool.and_eq_true, decide_eq_true_eq, Bool.not_eq_true'] at h
      obtain ⟨⟨⟨⟨⟨rfl, rfl⟩, h0⟩, h1⟩, h2⟩, h3⟩ := h
      exact qe_chn (op_cmpD (Nat.lt_of_succ_lt f.hu) op) (op_cmpD (Nat.lt_of_succ_lt f.hu) op') (okE a ci X _ f h1) (okE b ci X _ f h2) (okE c ci X _ f h3) h0
    · cases h
  | .neg a, ci, X, e, f, h => by
    unfold chkE at h
    split at h
    · exact qe_neg (okE a ci X _ f h)
    · cases h
  | .not a, ci, X, e, f, h => by
    unfold chkE at h
    split at h
    · exact qe_not (okE a ci X _ f h)
    · cases h
  | .and a b, ci, X, e, f, h => by
    unfold chkE at h
    split at h
    · rename_i z e1 e2 es p
      rw [Bool.and_eq_true] at h
      obtain ⟨h1, h2⟩ := h
      split at h2
      · exact qe_and (okE a ci X _ f h1) (qe_one (okE b ci X _ f h2))
      · exact qe_and (okE a ci X _ f h1) (okE b ci X _ f h2)
    · cases h
  | .or a b, ci, X, e, f, h => by
    unfold chkE at h
    split at h
    · rename_i z e1 e2 es p
      rw [Bool.and_eq_true] at h
      obtain ⟨h1, h2⟩ := h
      split at h2
      · exact qe_or (okE a ci X _ f h1) (qe_one (okE b ci X _ f h2))
      · exact qe_or (okE a ci X _ f h1) (okE b ci X _ f h2)
    · cases h
  | .ife t a b, ci, X, e, f, h => by
    unfold chkE at h
    split at h
    · simp only [Bool.and_eq_true] at h
      obtain ⟨⟨h0, h1⟩, h2⟩ := h
      exact qe_ife (okT t ci X _ f h0).qt (okE a ci X _ f h1) (okE b ci X _ f h2)
    · cases h
  | .tup as, ci, X, e, f, h => by
    unfold chkE at h
    split at h
    · exact qe_tup (okA as ci X _ f h)
    · cases h
  | .lst as, ci, X, e, f, h => by
    unfold chkE at h
    split at h
    · exact qe_lst (okA as ci X _ f h)
    · cases h
  | .ix a b, ci, X, e, f, h => by
    unfold chkE at h
    split at h
    · simp only [Bool.and_eq_true] at h
      obtain ⟨⟨h0, h1⟩, h2⟩ := h
      exact qe_ix (by have := f.hu; omega) (okE a ci X _ f h1) (okE b ci X _ f h2) (plainIx_ok h0)
    · cases h
  | .sl a lo hi, ci, X, e, f, h => by
    unfold chkE at h
    split at h
    · simp only [Bool.and_eq_true] at h
      obtain ⟨⟨h0, h1⟩, h2⟩ := h
      exact qe_sl (okE a ci X _ f h0) (okO lo ci X _ f h1) (okO hi ci X _ f h2)
    · cases h
  | .rev a, ci, X, e, f, h => by
    unfold chkE at h
    split at h
    · exact qe_rev (okE a ci X _ f h)
    · cases h
  | .blt b as, ci, X, e, f, h => by
    unfold chkE at h
    split at h
    · simp only [Bool.and_eq_true, decide_eq_true_eq] at h
      obtain ⟨⟨rfl, h1⟩, h2⟩ := h
      have hs := chkA_star h2
      rw [List.all_cons, Bool.and_eq_true] at hs
      exact qe_blt (blt_ok f.calm b) (f.bltin h1).1 (f.bltin h1).2 (okA as ci X _ f h2) (starEach_cons hs.1) (starEach_any hs.2 _)
    · cases h
  | .isiT ts a, ci, X, e, f, h => by
    unfold chkE at h
    split at h
    · simp only [Bool.and_eq_true, decide_eq_true_eq, List.all_eq_true] at h
      obtain ⟨⟨⟨⟨⟨⟨rfl, h1⟩, h2⟩, h3⟩, h4⟩, h5⟩, h6⟩ := h
      exact qe_isiT (f.bltin h1).1 (f.bltin h1).2 (okE a ci X _ f h6) h2 h3 (fun t ht => f.bltin (h4 t ht)) h5
    · cases h
  | .mt m o as, ci, X, e, f, h => by
    unfold chkE at h
    split at h
    · rename_i z e1 x ap es cp
      simp only [Bool.and_eq_true, decide_eq_true_eq] at h
      obtain ⟨⟨⟨⟨⟨rfl, h1⟩, h2⟩, h3⟩, h4⟩, h5⟩ := h
      cases es with
      | nil =>
        cases as with
        | nil => exact qe_mt0 (mt_ok f.hu m) (okE o ci X _ f h4) h1 h2
        | cons _ _ => unfold chkA at h5; cases h5
      | cons e2 es => exact qe_mt (mt_ok f.hu m) (okE o ci X _ f h4) (okA as ci X _ f h5) h1 (chkA_star h5) h3 h2
    · cases h
  | .fn j as, ci, X, e, f, h => by
    unfold chkE at h
    split at h
    · rename_i z x ap es cp
      simp only [Bool.and_eq_true] at h
      obtain ⟨⟨⟨h1, h2⟩, h3⟩, h4⟩ := h
      have main : ∀ sp, F[j]? = some sp → QE X (.Call (.Name x ap) es [] cp) (dFn sp (denA F Gm as)) := fun sp hsp => by
        cases es with
        | nil =>
          cases as with
          | nil => exact qe_fn0 (f.cal j x sp (nth_ok h2) hsp) (f.gl h1) (okName_ok h3).1
          | cons _ _ => unfold chkA at h4; cases h4
        | cons e2 es => exact qe_fn (f.cal j x sp (nth_ok h2) hsp) (f.gl h1) (okA as ci X _ f h4) (okName_ok h3).1 (chkA_star h4)
      show QE X _ (fnD F j (denA F Gm as))
      unfold fnD
      split
      · rename_i sp hsp
        exact main sp hsp
      · exact ⟨fun _ _ _ _ _ _ q _ _ _ => q.elim⟩
    · cases h
  | .lc own g it t e0, ci, X, e, f, h => by
    unfold chkE at h
    split at h
    · rename_i z elt tg iter ifs scope p
      simp only [Bool.and_eq_true, List.all_eq_true, decide_eq_true_eq] at h
      obtain ⟨⟨⟨⟨⟨⟨h1, h2⟩, h3⟩, h4⟩, h5⟩, h6⟩, h7⟩ := h
      have bo : BlkOk X.N X.env.scope scope own := by rw [f.N, f.sc]; exact blkOk_by h1
      exact qe_lc f.calm (by rw [f.N]; exact f.nd) (okI it ci X _ _ f h4) bo (fun Y hY => okG g (ci.blk scope) Y _ (f.blk bo.kind hY) h5) (fun Y hY => okTs t (ci.blk scope) Y _ (f.blk bo.kind hY) h6)
        (fun Y hY => okE e0 (ci.blk scope) Y _ (f.blk bo.kind hY) h7) h3 h2
    · cases h
  | .dct r, ci, X, e, f, h => by
    unfold chkE at h
    split at h
    · simp only [Bool.and_eq_true, decide_eq_true_eq] at h
      exact qe_disp (okKv r ci X _ _ f h.2) h.1
    · cases h
  | .dix a b, ci, X, e, f, h => by
    unfold chkE at h
    split at h
    · simp only [Bool.and_eq_true] at h
      obtain ⟨⟨h0, h1⟩, h2⟩ := h
      exact qe_dix (by have := f.hu; omega) (okE a ci X _ f h1) (okE b ci X _ f h2) (plainIx_ok h0)
    · cases h
theorem okKv : ∀ (c : CKv) (ci : Ci) (X : Cx) (ks : List (Option Expr)) (vs : List Expr), Fit F Gm ci X → chkKv ci c ks vs = true → QKv X ks vs (denKv F Gm c)
  | .nil, ci, X, ks, vs, f, h => by
    unfold chkKv at h
    split at h
    · exact qkv_nil
    · cases h
  | .cons k v r, ci, X, ks, vs, f, h => by
    unfold chkKv at h
    split at h
    · simp only [Bool.and_eq_true] at h
      obtain ⟨⟨h0, h1⟩, h2⟩ := h
      exact qkv_cons (okE k ci X _ f h0) (okE v ci X _ f h1) (okKv r ci X _ _ f h2)
    · cases h
theorem okA : ∀ (c : CA) (ci : Ci) (X : Cx) (e : List Expr), Fit F Gm ci X → chkA ci c e = true → QA X e (denA F Gm c)
  | .nil, ci, X, e, f, h => by
    unfold chkA at h
    split at h
    · exact qa_nil
    · cases h
  | .cons e0 as, ci, X, e, f, h => by
    unfold chkA at h
    split at h
    · simp only [Bool.and_eq_true] at h
      obtain ⟨⟨h0, h1⟩, h2⟩ := h
      exact qa_cons (okE e0 ci X _ f h1) (okA as ci X _ f h2) (starEach_cons h0)
    · cases h
theorem okO : ∀ (c : CO) (ci : Ci) (X : Cx) (e : Option Expr), Fit F Gm ci X → chkO ci c e = true → QO X e (denO F Gm c)
  | .no, ci, X, e, f, h => by
    unfold chkO at h
    split at h
    · exact qo_none
    · cases h
  | .part e0, ci, X, e, f, h => by
    unfold chkO at h
    split at h
    · exact qo_some (okE e0 ci X _ f h)
    · cases h
theorem okT : ∀ (c : CT) (ci : Ci) (X : Cx) (e : Expr), Fit F Gm ci X → chkT ci c e = true → QTW X e (denT F Gm c)
  | .cmp op a b, ci, X, e, f, h => by
    unfold chkT at h
    split at h
    · simp only [Bool.and_eq_true, decide_eq_true_eq, Bool.not_eq_true'] at h
      obtain ⟨⟨⟨rfl, h0⟩, h1⟩, h2⟩ := h
      exact ⟨(op_cmpD (Nat.lt_of_succ_lt f.hu) op).cmpT (okE a ci X _ f h1) (okE b ci X _ f h2) h0, fun z => by cases z⟩
    · cases h
  | .chn op op' a b c, ci, X, e, f, h => by
    unfold chkT at h
    split at h
    · simp only [Bool.and_eq_true, decide_eq_true_eq, Bool.not_eq_true'] at h
      obtain ⟨⟨⟨⟨⟨rfl, rfl⟩, h0⟩, h1⟩, h2⟩, h3⟩ := h
      exact ⟨qt_chn (op_cmpD (Nat.lt_of_succ_lt f.hu) op) (op_cmpD (Nat.lt_of_succ_lt f.hu) op') (okE a ci X _ f h1) (okE b ci X _ f h2) (okE c ci X _ f h3) h0, fun z => by cases z⟩
    · cases h
  | .not t, ci, X, e, f, h => by
    unfold chkT at h
    split at h
    · exact ⟨qt_not (okT t ci X _ f h).qt, fun z => by cases z⟩
    · cases h
  | .and a b, ci, X, e, f, h => by
    unfold chkT at h
    split at h
    · rename_i z e1 e2 es p
      rw [Bool.and_eq_true] at h
      obtain ⟨h1, h2⟩ := h
      have w : QW X (.BoolOp .And (e1 :: e2 :: es) p) (denT F Gm (.and a b)) := by
        split at h2
        · exact qw_and (okT a ci X _ f h1).qt (qw_and1 (okT b ci X _ f h2).qt)
        · exact qw_and (okT a ci X _ f h1).qt ((okT b ci X _ f h2).qw rfl)
      exact ⟨w.qt, fun _ => w⟩
    · cases h
  | .or a b, ci, X, e, f, h => by
    unfold chkT at h
    split at h
    · rename_i z e1 e2 es p
      rw [Bool.and_eq_true] at h
      obtain ⟨h1, h2⟩ := h
      have w : QW X (.BoolOp .Or (e1 :: e2 :: es) p) (denT F Gm (.or a b)) := by
        split at h2
        · exact qw_or (okT a ci X _ f h1).qt (qw_or1 (okT b ci X _ f h2).qt)
        · exact qw_or (okT a ci X _ f h1).qt ((okT b ci X _ f h2).qw rfl)
      exact ⟨w.qt, fun _ => w⟩
    · cases h
  | .val e0, ci, X, e, f, h => by
    unfold chkT at h
    have h : (plainTest e && chkE ci e0 e) = true := h
    rw [Bool.and_eq_true] at h
    obtain ⟨h1, h2⟩ := h
    refine ⟨qt_val (okE e0 ci X _ f h2) (plainTest_ok h1), fun z => ?_⟩
    cases e <;> first | (cases h1; done) | (cases z; done)
theorem okTs : ∀ (c : CTs) (ci : Ci) (X : Cx) (e : List Expr), Fit F Gm ci X → chkTs ci c e = true → QTs X e (denTs F Gm c)
  | .no, ci, X, e, f, h => by
    unfold chkTs at h
    split at h
    · exact qts_nil
    · cases h
  | .one t, ci, X, e, f, h => by
    unfold chkTs at h
    split at h
    · exact qts_one (okT t ci X _ f h).qt
    · cases h
theorem okI : ∀ (c : CI) (ci : Ci) (X : Cx) (tg e : Expr), Fit F Gm ci X → chkI ci c tg e = true → QI X tg e (denI F Gm c)
  | .it e0, ci, X, tg, e, f, h => by
    unfold chkI at h
    have h : chkE ci e0 e = true := h
    exact qi_it (okE e0 ci X _ f h)
  | .rng1 a, ci, X, tg, e, f, h => by
    unfold chkI at h
    split at h
    · simp only [Bool.and_eq_true, decide_eq_true_eq] at h
      obtain ⟨⟨⟨rfl, h1⟩, h2⟩, h3⟩ := h
      exact qi_rng1 (f.bltin h1).1 (f.bltin h1).2 (qa_cons (okE a ci X _ f h3) qa_nil (starEach_cons h2)) h2
    · cases h
  | .rng2 a b, ci, X, tg, e, f, h => by
    unfold chkI at h
    split at h
    · simp only [Bool.and_eq_true, decide_eq_true_eq] at h
      obtain ⟨⟨⟨⟨⟨rfl, h1⟩, h2⟩, h3⟩, h4⟩, h5⟩ := h
      exact qi_rng2 (f.bltin h1).1 (f.bltin h1).2 (qa_cons (okE a ci X _ f h4) (qa_cons (okE b ci X _ f h5) qa_nil (starEach_cons h3)) (starEach_cons h2)) h2 h3
    · cases h
  | .enum a, ci, X, tg, e, f, h => by
    unfold chkI at h
    split at h
    · simp only [Bool.and_eq_true, decide_eq_true_eq] at h
      obtain ⟨⟨⟨rfl, h1⟩, h2⟩, h3⟩ := h
      exact qi_enum (f.bltin h1).1 (f.bltin h1).2 (qa_cons (okE a ci X _ f h3) qa_nil (starEach_cons h2)) h2
    · cases h
  | .zip a b, ci, X, tg, e, f, h => by
    unfold chkI at h
    split at h
    · simp only [Bool.and_eq_true, decide_eq_true_eq] at h
      obtain ⟨⟨⟨⟨⟨rfl, h1⟩, h2⟩, h3⟩, h4⟩, h5⟩ := h
      exact qi_zip (f.bltin h1).1 (f.bltin h1).2 (qa_cons (okE a ci X _ f h4) (qa_cons (okE b ci X _ f h5) qa_nil (starEach_cons h3)) (starEach_cons h2)) h2 h3
    · cases h
theorem okG : ∀ (c : CG) (ci : Ci) (X : Cx) (e : Expr), Fit F Gm ci X → chkG ci c e = true → QG X e (slots c) (denG F Gm c)
  | .name i, ci, X, e, f, h => by
    unfold chkG at h
    split at h
    · simp only [Bool.and_eq_true] at h
      exact qg_name (by rw [f.N]; exact f.nd) (f.slot h.1) (f.loc h.2).1 (f.loc h.2).2
    · cases h
  | .tup n gs, ci, X, e, f, h => by
    unfold chkG at h
    split at h
    · simp only [Bool.and_eq_true, decide_eq_true_eq] at h
      obtain ⟨rfl, h⟩ := h
      exact qg_tup f.calm (okGs gs ci X _ f h) (chkGs_star h)
    · cases h
  | .sub o i, ci, X, e, f, h => by
    unfold chkG at h
    split at h
    · simp only [Bool.and_eq_true] at h
      obtain ⟨⟨h0, h1⟩, h2⟩ := h
      exact qg_sub (by have := f.hu; omega) (okE o ci X _ f h1) (okE i ci X _ f h2) h0
    · cases h
  | .dsub o i, ci, X, e, f, h => by
    unfold chkG at h
    split at h
    · simp only [Bool.and_eq_true] at h
      obtain ⟨⟨h0, h1⟩, h2⟩ := h
      exact qg_dsub (by have := f.hu; omega) (okE o ci X _ f h1) (okE i ci X _ f h2) h0
    · cases h
theorem okGs : ∀ (c : CGs) (ci : Ci) (X : Cx) (e : List Expr), Fit F Gm ci X → chkGs ci c e = true → QGs X e (slots.slotsL c) (denGs F Gm c)
  | .nil, ci, X, e, f, h => by
    unfold chkGs at h
    split at h
    · exact qgs_nil
    · cases h
  | .cons g gs, ci, X, e, f, h => by
    unfold chkGs at h
    split at h
    · simp only [Bool.and_eq_true] at h
      obtain ⟨⟨h0, h1⟩, h2⟩ := h
      exact qgs_cons (okG g ci X _ f h1) (okGs gs ci X _ f h2) h0
    · cases h
end
end
/-! statements -/
def noSwapC (tg e : Expr) : Bool := noSwap tg e
mutual
def chkS (ci : Ci) : CS → Stmt → Bool
  | .pass, z => match z with
    | .Pass _ => true
    | _ => false
  | .brk, z => match z with
    | .Break _ => true
    | _ => false
  | .cont, z => match z with
    | .Continue _ => true
    | _ => false
  | .ret e, z => match z with
    | .Return (some x) _ => chkE ci e x
    | _ => false
  | .retN, z => match z with
    | .Return none _ => true
    | _ => false
  | .expr e, z => match z with
    | .Expr x _ => noComp x && chkE ci e x
    | _ => false
  | .asg g e, z => match z with
    | .Assign [tg] x _ => swapsNo ci.sc x tg && noSwap tg x && noStar tg && chkE ci e x && chkG ci g tg
    | _ => false
  | .par2 i j as, z => match z with
    | .Assign [.Tuple [.Name x px, .Name y py] _ _] (.Tuple [a, b] _ _) _ => ci.slot i x && ci.slot j y && decide (i ≠ j) && isK (ci.kind x) .local && isK (ci.kind y) .local &&
        decide (swapR ci.sc [.Name x px, .Name y py] [a, b] = some (some [x, y])) && chkA ci as [a, b]
    | _ => false
  | .par3 i j l as, w => match w with
    | .Assign [.Tuple [.Name x px, .Name y py, .Name z pz] _ _] (.Tuple [a, b, c] _ _) _ => ci.slot i x && ci.slot j y && ci.slot l z && decide (i ≠ j) && decide (i ≠ l) && decide (j ≠ l) && isK (ci.kind x) .local && isK (ci.kind y) .local && isK (ci.kind z) .local &&
        decide (swapR ci.sc [.Name x px, .Name y py, .Name z pz] [a, b, c] = some (some [x, y, z])) && chkA ci as [a, b, c]
    | _ => false
  | .asgT g e, z => match z with
    | .Assign [.Tuple ts k p] (.Tuple vs k2 p2) _ => decide (swapR ci.sc ts vs = some none) && chkE ci e (.Tuple vs k2 p2) && chkG ci g (.Tuple ts k p)
    | _ => false
  | .setLc i own g it t e, z => match z with
    | .Assign [.Name y py] (.ListComp elt [⟨tg, iter, ifs, 0⟩] scope pos) _ => ci.slot i y && isK (ci.kind y) .local && (py.line == pos.line) && !(scope.names.any fun (n, k) => n == y && (k == .local || k == .cell)) &&
        blkC ci.N ci.sc scope own && noSet iter && (slots g).all (fun j => decide (j ∈ own.map (·.2))) && chkI ci it tg iter && chkG (ci.blk scope) g tg && chkTs (ci.blk scope) t ifs && chkE (ci.blk scope) e elt
    | _ => false
  | .ifs t a b, z => match z with
    | .If c p q _ => chkT ci t c && chkB ci a p && chkB ci b q
    | _ => false
  | .fors g it b, z => match z with
    | .For tg iter body [] _ => noSet iter && chkI ci it tg iter && chkG ci g tg && chkB ci b body
    | _ => false
  | .whil t b, z => match z with
    | .While c body [] _ => chkT ci t c && chkB ci b body
    | _ => false
def chkB (ci : Ci) : CB → List Stmt → Bool
  | .nil, z => match z with
    | [] => true
    | _ => false
  | .cons s b, z => match z with
    | x :: xs => chkS ci s x && chkB ci b xs
    | _ => false
end
section
variable {F : List DSp} {Gm : List D} {ci : Ci} {X : Cx} (f : Fit F Gm ci X) (hp : PassesOwn (model X.prog X.w) X.A X.env X.xe)
include f hp
theorem Fit.kindX : X.env.scope.kind = .function := by rw [f.sc]; exact f.kind
theorem Fit.locX {x : Str} (h : isK (ci.kind x) .local = true) : X.env.scope.names.lookup x = some .local := by rw [f.sc]; exact isK_eq h
mutual
theorem okS : ∀ (c : CS) (z : Stmt), chkS ci c z = true → QS X z (denS F Gm c)
  | .pass, z, h => by
    unfold chkS at h
    split at h
    · exact qs_pass
    · cases h
  | .brk, z, h => by
    unfold chkS at h
    split at h
    · exact qs_break
    · cases h
  | .cont, z, h => by
    unfold chkS at h
    split at h
    · exact qs_cont
    · cases h
  | .ret e, z, h => by
    unfold chkS at h
    split at h
    · exact qs_ret (okE e ci X _ f h)
    · cases h
  | .retN, z, h => by
    unfold chkS at h
    split at h
    · exact qs_retN
    · cases h
  | .expr e, z, h => by
    unfold chkS at h
    split at h
    · rw [Bool.and_eq_true] at h
      exact qs_expr (okE e ci X _ f h.2) h.1
    · cases h
  | .asg g e, z, h => by
    unfold chkS at h
    split at h
    · simp only [Bool.and_eq_true] at h
      obtain ⟨⟨⟨⟨h1, h2⟩, h3⟩, h4⟩, h5⟩ := h
      exact qs_asgN (okE e ci X _ f h4) (okG g ci X _ f h5) (f.kindX hp) (by rw [f.sc]; exact h1) h2 h3
    · cases h
  | .par2 i j as, z, h => by
    unfold chkS at h
    split at h
    · simp only [Bool.and_eq_true, decide_eq_true_eq] at h
      obtain ⟨⟨⟨⟨⟨⟨h1, h2⟩, h3⟩, h4⟩, h5⟩, h6⟩, h7⟩ := h
      exact qs_par2 f.calm (by rw [f.N]; exact f.nd) (f.slot h1) (f.slot h2) h3 (f.locX hp h4) (f.locX hp h5) (okA as ci X _ f h7) (f.kindX hp) (by rw [f.sc]; exact h6)
    · cases h
  | .par3 i j l as, w, h => by
    unfold chkS at h
    split at h
    · simp only [Bool.and_eq_true, decide_eq_true_eq] at h
      obtain ⟨⟨⟨⟨⟨⟨⟨⟨⟨⟨h1, h2⟩, h3⟩, h4⟩, h5⟩, h6⟩, h7⟩, h8⟩, h9⟩, h10⟩, h11⟩ := h
      exact qs_par3 f.calm (by rw [f.N]; exact f.nd) (f.slot h1) (f.slot h2) (f.slot h3) h4 h5 h6 (f.locX hp h7) (f.locX hp h8) (f.locX hp h9) (okA as ci X _ f h11) (f.kindX hp) (by rw [f.sc]; exact h10)
    · cases h
  | .asgT g e, z, h => by
    unfold chkS at h
    split at h
    · simp only [Bool.and_eq_true, decide_eq_true_eq] at h
      obtain ⟨⟨h1, h2⟩, h3⟩ := h
      exact qs_asgT (okE e ci X _ f h2) (okG g ci X _ f h3) (f.kindX hp) (by rw [f.sc]; exact h1)
    · cases h
  | .setLc i own g it t e0, w, h => by
    unfold chkS at h
    split at h
    · rename_i z y py elt tg iter ifs scope pos sp
      simp only [Bool.and_eq_true, List.all_eq_true, decide_eq_true_eq, Bool.not_eq_true'] at h
      obtain ⟨⟨⟨⟨⟨⟨⟨⟨⟨⟨k1, k2⟩, k3⟩, k4⟩, h1⟩, h2⟩, h3⟩, h4⟩, h5⟩, h6⟩, h7⟩ := h
      have bo : BlkOk X.N X.env.scope scope own := by rw [f.N, f.sc]; exact blkOk_by h1
      exact qs_setLc f.calm (by rw [f.N]; exact f.nd) (f.slot k1) (f.locX hp k2) (sw_true (f.kindX hp) (f.locX hp k2) k3 k4) (okI it ci X _ _ f h4) bo (fun Y hY => okG g (ci.blk scope) Y _ (f.blk bo.kind hY) h5)
        (fun Y hY => okTs t (ci.blk scope) Y _ (f.blk bo.kind hY) h6) (fun Y hY => okE e0 (ci.blk scope) Y _ (f.blk bo.kind hY) h7) h3 h2
    · cases h
  | .ifs t a b, z, h => by
    unfold chkS at h
    split at h
    · simp only [Bool.and_eq_true] at h
      obtain ⟨⟨h1, h2⟩, h3⟩ := h
      exact qs_if (okT t ci X _ f h1).qt (okB a _ h2) (okB b _ h3)
    · cases h
  | .fors g it b, z, h => by
    unfold chkS at h
    split at h
    · simp only [Bool.and_eq_true] at h
      obtain ⟨⟨⟨h0, h1⟩, h2⟩, h3⟩ := h
      exact qs_for hp f.calm (okI it ci X _ _ f h1) (okG g ci X _ f h2) (okB b _ h3) h0
    · cases h
  | .whil t b, z, h => by
    unfold chkS at h
    split at h
    · simp only [Bool.and_eq_true] at h
      exact qs_while hp (okT t ci X _ f h.1).qt (okB b _ h.2)
    · cases h
theorem okB : ∀ (c : CB) (z : List Stmt), chkB ci c z = true → QB X z (denB F Gm c)
  | .nil, z, h => by
    unfold chkB at h
    split at h
    · exact qb_nil
    · cases h
  | .cons s b, z, h => by
    unfold chkB at h
    split at h
    · rw [Bool.and_eq_true] at h
      exact qb_cons (okS s _ h.1) (okB b _ h.2)
    · cases h
end
end
end DL

namespace DL
open PySem PySem.Spec PyProof.Rows L2
def startD (N : List Str) (ds : List D) : Ev := ds.map some ++ List.replicate (N.length - ds.length) none
theorem start_rep {K : PySem.W.Frag} {H : Hp} {N : List Str} {vs : List V} {ds : List D} (r : Reps K H vs ds) : RepS K H (L2.start N vs) (startD N ds) := by
  have hl := r.length
  refine ⟨?_, fun i d e => ?_⟩
  · unfold L2.start startD
    simp [hl]
  · unfold startD at e
    unfold L2.start
    by_cases hi : i < ds.length
    · rw [List.getElem?_append_left (by simpa using hi), List.getElem?_map] at e
      cases e2 : ds[i]? with
      | none => rw [e2] at e; cases e
      | some d' =>
        rw [e2] at e
        have ed : d' = d := Option.some.inj (Option.some.inj e)
        subst ed
        obtain ⟨v, hv, rv⟩ := r.get e2
        refine ⟨v, ?_, rv⟩
        rw [List.getElem?_append_left (by rw [List.length_map, hl]; exact hi), List.getElem?_map, hv]
        rfl
    · rw [List.getElem?_append_right (by simpa using hi), List.getElem?_replicate] at e
      split at e <;> cases e
section
variable {P : Program} {w : World} {K : PySem.W.Frag} {mg : Str → Option Value} {base : Heap}
/-- a def of the text with its promise at level k -/
def DefOk (P : Program) (w : World) (K : PySem.W.Frag) (mg : Str → Option Value) (base : Heap) (k : Nat) (x : Str) (sp : DSp) : Prop :=
  ∃ (f : Addr) (fd : FuncData) (ps : List Str) (sp0 : DSp) (dd : List D) (dvs : List V) (dus : List Value),
    FnOk P w K mg base (L2.CX P w) k f fd ps (liftSp K sp0) ∧ mg x = some (.ref f) ∧ PySem.W.keepIn K (.ref f) = true ∧ Binds K fd ps dus ∧ Vals dvs dus ∧ (∀ H, Reps K H dvs dd) ∧
      ∀ ds G Q xq, sp ds G Q xq → sp0 (ds ++ dd) G Q xq
theorem DefOk.mono {j k : Nat} {x : Str} {sp : DSp} (d : DefOk P w K mg base j x sp) (h : j ≤ k) : DefOk P w K mg base k x sp := by
  obtain ⟨f, fd, ps, sp0, dd, dvs, dus, F, r⟩ := d
  exact ⟨f, fd, ps, sp0, dd, dvs, dus, F.mono h, r⟩
theorem DefOk.imp {k : Nat} {x : Str} {sp sp' : DSp} (d : DefOk P w K mg base k x sp) (h : ∀ ds G Q xq, sp' ds G Q xq → sp ds G Q xq) : DefOk P w K mg base k x sp' := by
  obtain ⟨f, fd, ps, sp0, dd, dvs, dus, F, r1, r2, r3, r4, r5, r6⟩ := d
  exact ⟨f, fd, ps, sp0, dd, dvs, dus, F, r1, r2, r3, r4, r5, fun ds G Q xq q => r6 _ _ _ _ (h _ _ _ _ q)⟩
/-- the callees' table -/
def Cals (P : Program) (w : World) (K : PySem.W.Frag) (mg : Str → Option Value) (base : Heap) (k : Nat) (fns : List Str) (F : List DSp) : Prop :=
  ∀ (j : Nat) y s, fns[j]? = some y → F[j]? = some s → DefOk P w K mg base k y s
theorem Cals.nil {k : Nat} : Cals P w K mg base k [] [] := fun j y s h => by simp at h
theorem Cals.cons {k : Nat} {y : Str} {s : DSp} {fns : List Str} {F : List DSp} (d : DefOk P w K mg base k y s) (r : Cals P w K mg base k fns F) : Cals P w K mg base k (y :: fns) (s :: F) := fun j y' s' h1 h2 => by
  cases j with
  | zero =>
    have e1 : y = y' := Option.some.inj h1
    have e2 : s = s' := Option.some.inj h2
    subst e1 e2
    exact d
  | succ j => exact r j y' s' (by simpa using h1) (by simpa using h2)
/-- the module's constants -/
def Glbs (K : PySem.W.Frag) (mg : Str → Option Value) (glbs : List Str) (Gm : List D) : Prop :=
  ∀ (j : Nat) y d, glbs[j]? = some y → Gm[j]? = some d → ∃ v u, mg y = some u ∧ RelV v u ∧ ∀ H, Rep K H v d
theorem Glbs.nil : Glbs K mg [] [] := fun j y s h => by simp at h
theorem Glbs.cons {y : Str} {d : D} {glbs : List Str} {Gm : List D} (h : ∃ v u, mg y = some u ∧ RelV v u ∧ ∀ H, Rep K H v d) (r : Glbs K mg glbs Gm) : Glbs K mg (y :: glbs) (d :: Gm) := fun j y' s' h1 h2 => by
  cases j with
  | zero =>
    have e1 : y = y' := Option.some.inj h1
    have e2 : d = s' := Option.some.inj h2
    subst e1 e2
    exact h
  | succ j => exact r j y' s' (by simpa using h1) (by simpa using h2)
theorem glb_int {y : Str} {i : Int} (h : ∃ t, mg y = some (.int i t)) : ∃ v u, mg y = some u ∧ RelV v u ∧ ∀ H, Rep K H v (.int i) := by
  obtain ⟨t, h⟩ := h
  exact ⟨.int i, _, h, ⟨t, rfl⟩, fun _ => .int i⟩
theorem mk_fn {x qual : Str} {params : Arguments} {body : List Stmt} {scope : Scope} {dvs0 : List V} {kws : List (Str × V)} {f : Addr} {fd : FuncData} {N ps fns glbs blts : List Str} {F : List DSp} {Gm : List D} {core : CB} {k : Nat} {sp : DSp}
    (Fu : FunD K x qual params body scope dvs0 kws f fd) (S : FnScope N ps scope) (hl : ∀ ds G Q xq, sp ds G Q xq → ds.length = ps.length)
    (hcal : Cals P w K mg base k fns F) (hglb : Glbs K mg glbs Gm) (hblt : ∀ y, y ∈ blts → mg y = none) (hchk : chkB ⟨N, scope, none, fns, glbs, blts⟩ core body = true)
    (hsp : ∀ ds G Q xq, sp ds G Q xq → denB F Gm core { nx := fun _ G' => Q .non G', rt := Q, ex := fun z _ G' => xq z G' } (startD N ds) G) : FnOk P w K mg base (L2.CX P w) (k + 1) f fd ps (liftSp K sp) := by
  refine Fu.ok S (fun vs H Q E h => ?_) (fun cdv A outer s H vs Q E hr h => ?_)
  · obtain ⟨ds, G, Q', xq, r, _, q, _⟩ := h
    rw [r.length]
    exact hl _ _ _ _ q
  · obtain ⟨ds, G, Q', xq, r, sm, q, hQ, hE⟩ := h
    refine ⟨_, pss_max, ?_⟩
    have fit : Fit F Gm ⟨N, scope, none, fns, glbs, blts⟩ (cxOf (L2.CX P w) P w K mg base N qual scope f cdv A outer s H E) := by
      refine ⟨rfl, S.nd, rfl, S.kind, rfl, fun _ => rfl, ?_, fun j y sp' h1 h2 => ?_, fun j y d h1 h2 => hglb j y d h1 h2, hblt⟩
      · have := hr.un
        show (A.deeper _).units + 65 < cLine
        omega
      · obtain ⟨f', fd', ps', sp0, dd, dvs, dus, F', r1, r2, r3, r4, r5, r6⟩ := hcal j y sp' h1 h2
        exact ⟨k, f', fd', ps', sp0, dd, dvs, dus, F', hr, r1, r2, r3, r4, r5, r6⟩
    have tk : TkS (cxOf (L2.CX P w) P w K mg base N qual scope f cdv A outer s H E) G H (fun z _ G' => xq z G') := fun z σ' ρ' cls d G' H' _ xr s' e' q' u s1 xe =>
      takes_of (X := cxOf (L2.CX P w) P w K mg base N qual scope f cdv A outer s H E) (E := E) rfl rfl rfl rfl u s1 (by
        obtain ⟨a, B, sI, pins, σ1, H1, cls1, d1, e, I, nb, up, sky, na, os, ag, rfl, rfl, rfl, rfl⟩ := xe
        exact ⟨a, B, sI, pins, σ1, H1, cls1, d1, e, I, nb, up, sky, na, os, ag, hE z _ _ G' _ xr s' e' q'⟩)
    have := (okB fit (passes_of rfl) core body hchk).run { nx := fun _ G' => Q' .non G', rt := Q', ex := fun z _ G' => xq z G' } (startD N ds) G (L2.start N vs) H (hsp _ _ _ _ q) (start_rep r) sm tk
    exact this.imp (fun σ1 H1 ⟨ρ1, G1, _, s1, e1, q1⟩ => hQ _ _ ⟨.non, G1, .non, s1, e1, q1⟩) (fun v H1 l => hQ _ _ l) (fun _ _ ⟨_, _, _, _, _, z⟩ => z) (fun _ _ ⟨_, _, _, _, _, z⟩ => z)
theorem mk_def {x qual : Str} {params : Arguments} {body : List Stmt} {scope : Scope} {f : Addr} {fd : FuncData} {N ps fns glbs blts : List Str} {F : List DSp} {Gm : List D} {core : CB} {k : Nat} {sp : DSp}
    (Fu : FunD K x qual params body scope [] [] f fd) (g : mg x = some (.ref f)) (b : Binds K fd ps []) (S : FnScope N ps scope) (hl : ∀ ds G Q xq, sp ds G Q xq → ds.length = ps.length)
    (hcal : Cals P w K mg base k fns F) (hglb : Glbs K mg glbs Gm) (hblt : ∀ y, y ∈ blts → mg y = none) (hchk : chkB ⟨N, scope, none, fns, glbs, blts⟩ core body = true)
    (hsp : ∀ ds G Q xq, sp ds G Q xq → denB F Gm core { nx := fun _ G' => Q .non G', rt := Q, ex := fun z _ G' => xq z G' } (startD N ds) G) : DefOk P w K mg base (k + 1) x sp :=
  ⟨f, fd, ps, sp, [], [], [], mk_fn Fu S hl hcal hglb hblt hchk hsp, g, Fu.kp, b, .nil, fun _ => .nil, fun ds G Q xq q => by rw [List.append_nil]; exact q⟩
/-- the law's own promise -/
def lawSp : DSp := fun ds G Q _ => ∃ ns : List Int, ds = [.rl (ns.map D.int)] ∧ ns.length ≤ 63 ∧ (∀ b, G b = none) ∧ ∀ G', Q (.bl true) G'
theorem law_start {H : Hp} {a : Addr} {ns : List Int} (hl : ns.length ≤ 63) (hO : L2.Only H) (hS : SqL K H a (ns.map V.int)) : liftSp K lawSp [.ref a] H (fun v _ => v = .bl true) fun _ _ _ => False := by
  have ro : RoL K H a (ns.map V.int) := by
    rcases hS with (h | ⟨o, h⟩) | h
    · rcases hO a with z | ⟨o, xs, z⟩
      · rw [h] at z; cases z
      · rw [h] at z; cases z
    · exact .inl ⟨o, h⟩
    · exact .inr h
  refine ⟨[.rl (ns.map D.int)], fun _ => none, fun d _ => d = .bl true, fun _ _ => False, .cons (.rl ro (reps_ints ns)) .nil, fun b c z => (by cases z), ⟨ns, rfl, hl, fun _ => rfl, fun _ => rfl⟩, fun v H' ⟨d, G', r, _, _, q⟩ => ?_, fun _ _ _ _ _ _ _ _ z => z⟩
  subst q
  cases r
  rfl
theorem cx_never {H : Hp} {s : Shared} {e : Value} {s' : Shared} (h : L2.CX P w [] H s (fun _ _ _ => False) e s') : False := by
  obtain ⟨_, _, _, _, _, _, _, _, _, _, _, _, z⟩ := h
  exact z
/-- a law's end; as HandS.HeadEnd has it, what is raised told by the world -/
theorem walk_end {l : PySem.W.OpenLaw} {n k : Nat} {q : Program} {loose : List Str} {XP : (Str → Option Value) → Heap → Prop} {YP : World → Heap → Prop} {d : DefRec} {x : Str}
    (hn : l.most = some n) (hn2 : n ≤ 63) (hdf : d.params.defaults = []) (hr : Room k callerA)
    (F : ∀ (w : World) (mg : Str → Option Value) (fa : Addr) (h : Heap), YP w h → h.Ns mainGlobals mg → mg d.name = some (.ref fa) →
      ∃ (K : PySem.W.Frag) (fd : FuncData), K.In h ∧ (∀ (s : Shared) (u : Value), BindsTo s fd ⟨[u], []⟩ [(x, u)]) ∧
        ∀ base : Heap, K.In base → base.Ns mainGlobals mg → FnOk l.prog w K mg base (L2.CX l.prog w) k fa fd [x] (liftSp K lawSp)) :
    PySem.W.WalkO q loose XP YP l.row.toRowW d [] (fun f vs => PySem.call f vs) := by
  refine Att.attach_call hn hdf fun w s0 s1 mg mb fa o pm cd doc a vs ns G Y ho hd hcd hmg hobj hints hlen hg => ?_
  obtain ⟨K, fd, KX, hb, hF⟩ := F w mg fa _ Y G.T.g hmg
  exact law_call KX G.T.g G.T.b G.T.builtins G.T.nolimit hg hobj hints (Nat.le_trans (Nat.le_trans hlen hn2) (by decide)) hr hF hb (fun H hO hS => law_start (Nat.le_trans hlen hn2) hO hS) fun H e s' => cx_never
end
end DL

namespace DL
open PySem PySem.Spec PyProof.Rows L2
/-! what a body's proof is of -/
abbrev Fin0 (Q : DQ) (xq : XQ) : DEnds := { nx := fun _ G' => Q .non G', rt := Q, ex := fun z _ G' => xq z G' }
def Bod (F : List DSp) (Gm : List D) (core : CB) (n : Nat) (sp : DSp) : Prop := ∀ ds G Q xq, sp ds G Q xq → denB F Gm core (Fin0 Q xq) (ds.map some ++ List.replicate (n - ds.length) none) G
/-! loops by an invariant -/
theorem for_inv {g : DG} {tb : DS} {keep : Sto → Prop} {De : DEnds} (I : Ev → Sto → Prop) : ∀ {items : List D} {ρ : Ev} {G : Sto}, I ρ G →
    (∀ x, x ∈ items → ∀ ρ G (N : NQ), I ρ G → (∀ ρ' G', I ρ' G' → N ρ' G') → keep G ∧ g x ρ G (fun ρ1 G1 => tb { De with nx := N, ct := N, bk := De.nx } ρ1 G1) De.ex) →
    (∀ ρ G, I ρ G → keep G ∧ De.nx ρ G) → forL g tb keep De items ρ G
  | [], ρ, G, h0, _, fin => fin ρ G h0
  | x :: xs, ρ, G, h0, step, fin => step x (by simp) ρ G _ h0 fun ρ' G' i => for_inv I i (fun y hy => step y (by simp [hy])) fin
/-- the same, by the turn -/
theorem for_ix {g : DG} {tb : DS} {keep : Sto → Prop} {De : DEnds} (I : Nat → Ev → Sto → Prop) : ∀ {items : List D} {ρ : Ev} {G : Sto} (k : Nat), I k ρ G →
    (∀ i x, items[i]? = some x → ∀ ρ G (N : NQ), I (k + i) ρ G → (∀ ρ' G', I (k + i + 1) ρ' G' → N ρ' G') → keep G ∧ g x ρ G (fun ρ1 G1 => tb { De with nx := N, ct := N, bk := De.nx } ρ1 G1) De.ex) →
    (∀ ρ G, I (k + items.length) ρ G → keep G ∧ De.nx ρ G) → forL g tb keep De items ρ G
  | [], ρ, G, k, h0, _, fin => fin ρ G h0
  | x :: xs, ρ, G, k, h0, step, fin => step 0 x rfl ρ G _ h0 fun ρ' G' i => for_ix I (k + 1) i (fun j y hy ρ G N a b => step (j + 1) y (by simpa using hy) ρ G N (by rw [show k + (j + 1) = k + 1 + j by omega]; exact a) (fun ρ' G' z => b ρ' G' (by rw [show k + 1 + j + 1 = k + (j + 1) + 1 by omega]; exact z))) (fun ρ G z => fin ρ G (by rw [show k + (x :: xs).length = k + 1 + xs.length by rw [List.length_cons]; omega]; exact z))
/-- a comprehension by an invariant over the list so far -/
theorem lc_inv {g : DG} {tt : DT} {te : DE} {ρ0 : Ev} {keep : Sto → Prop} {fin : List D → Sto → Prop} (I : List D → Sto → Prop) : ∀ {items acc : List D} {G : Sto}, I acc G →
    (∀ x, x ∈ items → ∀ acc G (N : List D → Sto → Prop), I acc G → (∀ a G', I a G' → N a G') → keep G ∧ g x ρ0 G (fun ρ1 G1 => tt ρ1 G1 (fun b G2 => if b = true then te ρ1 G2 (fun d G3 => acc.length < sizeLine ∧ N (acc ++ [d]) G3) (fun _ _ => False) else N acc G2) (fun _ _ => False)) (fun _ _ _ => False)) →
    (∀ a G, I a G → keep G ∧ fin a G) → lcL g tt te ρ0 keep fin items acc G
  | [], acc, G, h0, _, f => f acc G h0
  | x :: xs, acc, G, h0, step, f => by
    exact step x (by simp) acc G (fun a G' => lcL g tt te ρ0 keep fin xs a G') h0 fun a G' i => lc_inv I i (fun y hy => step y (by simp [hy])) f
theorem lc_ix {g : DG} {tt : DT} {te : DE} {ρ0 : Ev} {keep : Sto → Prop} {fin : List D → Sto → Prop} (I : Nat → List D → Sto → Prop) : ∀ {items acc : List D} {G : Sto} (k : Nat), I k acc G →
    (∀ i x, items[i]? = some x → ∀ acc G (N : List D → Sto → Prop), I (k + i) acc G → (∀ a G', I (k + i + 1) a G' → N a G') → keep G ∧ g x ρ0 G (fun ρ1 G1 => tt ρ1 G1 (fun b G2 => if b = true then te ρ1 G2 (fun d G3 => acc.length < sizeLine ∧ N (acc ++ [d]) G3) (fun _ _ => False) else N acc G2) (fun _ _ => False)) (fun _ _ _ => False)) →
    (∀ a G, I (k + items.length) a G → keep G ∧ fin a G) → lcL g tt te ρ0 keep fin items acc G
  | [], acc, G, k, h0, _, f => f acc G h0
  | x :: xs, acc, G, k, h0, step, f => by
    exact step 0 x rfl acc G (fun a G' => lcL g tt te ρ0 keep fin xs a G') h0 fun a G' i => lc_ix I (k + 1) i (fun j y hy acc G N a b => step (j + 1) y (by simpa using hy) acc G N (by rw [show k + (j + 1) = k + 1 + j by omega]; exact a) (fun ρ' G' z => b ρ' G' (by rw [show k + 1 + j + 1 = k + (j + 1) + 1 by omega]; exact z))) (fun ρ G z => f ρ G (by rw [show k + (x :: xs).length = k + 1 + xs.length by rw [List.length_cons]; omega]; exact z))
theorem mem_range {x : D} {lo : Int} {n : Nat} (h : x ∈ rangeD lo n) : ∃ i : Nat, i < n ∧ x = .int (lo + i) := by
  unfold rangeD at h
  obtain ⟨i, hi, e⟩ := List.mem_map.mp h
  exact ⟨i, List.mem_range.mp hi, e.symm⟩
theorem get_range {x : D} {lo : Int} {n i : Nat} (h : (rangeD lo n)[i]? = some x) : i < n ∧ x = .int (lo + i) := by
  unfold rangeD at h
  rw [List.getElem?_map] at h
  by_cases hi : i < n
  · rw [List.getElem?_range hi] at h
    exact ⟨hi, (Option.some.inj h).symm⟩
  · rw [List.getElem?_eq_none (by simpa using hi)] at h
    cases h
/-! the pen: a list of the script's numbers, a place, a rest -/
def PenAt (G : Sto) (p c : Addr) (a r : Int) (cells : List Int) : Prop := G p = some (.lst [.ref c, .int a, .int r]) ∧ G c = some (.lst (cells.map D.int)) ∧ c ≠ p ∧ 0 ≤ a ∧ 0 ≤ r
/-- a pen at p, its numbers at c -/
def Pen (G : Sto) (p c : Addr) : Prop := ∃ a r cells, PenAt G p c a r cells
/-- what stood stands, but for the pen -/
def Keeps (p : Addr) (G G' : Sto) : Prop := ∀ b c, b ≠ p → G b = some c → G' b = some c
/-- all is as it was, but for the pen -/
def Off (p : Addr) (G G' : Sto) : Prop := ∀ b, b ≠ p → G' b = G b
/-- what stood stands -/
def Grow (G G' : Sto) : Prop := ∀ b c, G b = some c → G' b = some c
theorem ne_new {q b : Addr} {G : Sto} {c : Cl} (h : G q = none) (e : G b = some c) : b ≠ q := fun z => by
  subst z
  rw [h] at e
  cases e
theorem Grow.refl {G : Sto} : Grow G G := fun _ _ h => h
theorem Grow.trans {G G1 G2 : Sto} (a : Grow G G1) (b : Grow G1 G2) : Grow G G2 := fun x c h => b x c (a x c h)
theorem Grow.new {q : Addr} {G : Sto} {c : Cl} (h : G q = none) : Grow G (put G q c) := fun b c' e => by
  rw [put_ne (ne_new h e)]
  exact e
theorem Grow.keeps {p : Addr} {G G' : Sto} (g : Grow G G') : Keeps p G G' := fun b c _ e => g b c e
theorem Grow.back {G G' : Sto} (g : Grow G G') {a : Addr} (h : G' a = none) : G a = none := by
  cases e : G a with
  | none => rfl
  | some c => rw [g a c e] at h; cases h
theorem Off.keeps {p : Addr} {G G' : Sto} (o : Off p G G') : Keeps p G G' := fun b c n e => by rw [o b n]; exact e
theorem Off.put {p : Addr} {G : Sto} {c : Cl} : Off p G (put G p c) := fun b n => put_ne n
theorem Off.trans {p : Addr} {G G1 G2 : Sto} (a : Off p G G1) (b : Off p G1 G2) : Off p G G2 := fun x n => (b x n).trans (a x n)
theorem Keeps.refl {p : Addr} {G : Sto} : Keeps p G G := fun _ _ _ h => h
theorem Keeps.trans {p : Addr} {G G1 G2 : Sto} (a : Keeps p G G1) (b : Keeps p G1 G2) : Keeps p G G2 := fun x c n h => b x c n (a x c n h)
theorem Keeps.new {p q : Addr} {G : Sto} {c : Cl} (h : G q = none) : Keeps p G (put G q c) := (Grow.new h).keeps
theorem Pen.grow {p c : Addr} {G G' : Sto} (h : Pen G p c) (g : Grow G G') : Pen G' p c := by
  obtain ⟨a, r, cells, h1, h2, h3, h4, h5⟩ := h
  exact ⟨a, r, cells, g _ _ h1, g _ _ h2, h3, h4, h5⟩
theorem Pen.new {p c q : Addr} {G : Sto} {x : Cl} (h : Pen G p c) (hq : G q = none) : Pen (put G q x) p c := h.grow (Grow.new hq)
theorem Pen.put {p c q : Addr} {G : Sto} {x : Cl} (h : Pen G p c) (h1 : q ≠ p) (h2 : q ≠ c) : Pen (put G q x) p c := by
  obtain ⟨a, r, cells, e1, e2, e3⟩ := h
  exact ⟨a, r, cells, by rw [put_ne h1.symm]; exact e1, by rw [put_ne h2.symm]; exact e2, e3⟩
theorem Pen.ne {p c q : Addr} {G : Sto} (h : Pen G p c) (hq : G q = none) : q ≠ p ∧ q ≠ c := by
  obtain ⟨a, r, cells, e1, e2, e3⟩ := h
  exact ⟨(ne_new hq e1).symm, (ne_new hq e2).symm⟩
def spDraw : DSp := fun ds G Q _ => ∃ p c m, ds = [.ref p, .int m] ∧ 1 ≤ m ∧ m < 2 ^ 200 ∧ Pen G p c ∧ ∀ r G', 0 ≤ r → r < m → Pen G' p c → Off p G G' → Q (.int r) G'
theorem PenAt.set {G : Sto} {p c : Addr} {a r a' r' : Int} {cells : List Int} (h : PenAt G p c a r cells) (ha : 0 ≤ a') (hr : 0 ≤ r') : PenAt (DL.put G p (.lst [.ref c, .int a', .int r'])) p c a' r' cells :=
  ⟨put_same, by rw [put_ne h.2.2.1]; exact h.2.1, h.2.2.1, ha, hr⟩
theorem divok {i m : Int} (h : 1 ≤ m) (h2 : m < 2 ^ 200) : CDiv i m ∨ CDivW i m := .inr (wide_div (b := 200) (by omega) (by omega) (by decide) (by decide))
theorem mulL {i j : Int} (h : -(2 ^ 64) < i) (h2 : i < 2 ^ 64) : CMul i j ∨ CMulW i j := .inl (.inl ⟨h, h2⟩)
theorem mulR {i j : Int} (h : -(2 ^ 64) < j) (h2 : j < 2 ^ 64) : CMul i j ∨ CMulW i j := .inl (.inr ⟨h, h2⟩)
def drawC : CB := (.cons (.ifs (.cmp .Gt (.ix (.var 0) (.int 2)) (.int 0)) (.cons (.asg (.name 5) (.bin .Mod (.ix (.var 0) (.int 2)) (.var 1))) (.cons (.asg (.sub (.var 0) (.int 2)) (.bin .FloorDiv (.ix (.var 0) (.int 2)) (.var 1))) (.cons (.ret (.var 5)) .nil))) .nil) (.cons (.asg (.name 2) (.ix (.var 0) (.int 1))) (.cons (.asg (.sub (.var 0) (.int 1)) (.bin .Add (.var 2) (.int 1))) (.cons (.asg (.name 3) (.int 11)) (.cons (.ifs (.cmp .Gt (.blt .len (.cons (.ix (.var 0) (.int 0)) .nil)) (.int 0)) (.cons (.asg (.name 3) (.ix (.ix (.var 0) (.int 0)) (.bin .Mod (.var 2) (.blt .len (.cons (.ix (.var 0) (.int 0)) .nil))))) .nil) .nil) (.cons (.ifs (.and (.cmp .Lt (.var 2) (.blt .len (.cons (.ix (.var 0) (.int 0)) .nil))) (.cmp .GtE (.blt .abs (.cons (.var 3) .nil)) (.bin .Pow (.int 10) (.int 18)))) (.cons (.asg (.sub (.var 0) (.int 2)) (.bin .FloorDiv (.blt .abs (.cons (.var 3) .nil)) (.var 1))) (.cons (.ret (.bin .Mod (.blt .abs (.cons (.var 3) .nil)) (.var 1))) .nil)) .nil) (.cons (.asg (.name 4) (.bin .Mod (.bin .Mult (.bin .Add (.bin .Add (.bin .Mod (.var 3) (.int 2147483647)) (.bin .Mult (.int 69621) (.var 2))) (.int 13)) (.int 48271)) (.int 2147483629))) (.cons (.asg (.name 4) (.bin .Mod (.bin .Mult (.bin .Mod (.bin .Mult (.var 4) (.var 4)) (.int 2147483587)) (.bin .Add (.bin .Add (.bin .Mod (.var 4) (.int 65521)) (.bin .Mult (.int 7) (.var 2))) (.int 1))) (.int 2147483563))) (.cons (.ret (.bin .Mod (.bin .FloorDiv (.var 4) (.int 32)) (.var 1))) .nil)))))))))
def penC : CB := (.cons (.ret (.lst (.cons (.lc [("_law_cell", 1)] (.name 1) (.it (.sl (.var 0) .no (.part (.int 63)))) .no (.var 1)) (.cons (.int 0) (.cons (.int 0) .nil))))) .nil)
theorem body_draw : Bod [] [] drawC 6 spDraw := by
  rintro ds G Q xq ⟨p, c, m, rfl, hm, hm2, ⟨a, r, cells, hpen⟩, q⟩
  obtain ⟨hp, hc, hne, ha, hr⟩ := id hpen
  have hm0 : 0 < m := by omega
  refine ⟨_, _, hp, rfl, ?_⟩
  refine ite2 (fun h => ?_) (fun h => ?_)
  · refine ⟨_, _, hp, rfl, hm0, ?_⟩
    refine ⟨_, _, hp, rfl, divok hm hm2, ?_⟩
    refine ⟨_, _, hp, rfl, ?_⟩
    exact q _ _ (Int.emod_nonneg _ (by omega)) (Int.emod_lt_of_pos _ hm0) ⟨a, _, cells, hpen.set ha (Int.ediv_nonneg hr (by omega))⟩ Off.put
  · refine ⟨_, _, hp, rfl, ?_⟩
    refine ⟨_, _, hp, rfl, ?_⟩
    have tail : ∀ (cell : Int) G2, PenAt G2 p c (a + 1) r cells → Off p G G2 → denB [] [] (drawC.drop 5) (Fin0 Q xq) [some (.ref p), some (.int m), some (.int a), some (.int cell), none, none] G2 := by
      intro cell G2 hp3 kp
      refine ⟨_, _, hp3.1, rfl, _, hp3.2.1, ?_⟩
      have fin : denB [] [] (drawC.drop 6) (Fin0 Q xq) [some (.ref p), some (.int m), some (.int a), some (.int cell), none, none] G2 := by
        refine ⟨show (0 : Int) < 2147483647 by decide, mulL (by decide) (by decide), mulR (by decide) (by decide), show (0 : Int) < 2147483629 by decide, ?_⟩
        have hx1 := Int.emod_nonneg ((cell % 2147483647 + 69621 * a + 13) * 48271) (show (2147483629 : Int) ≠ 0 by decide)
        have hx2 := Int.emod_lt_of_pos ((cell % 2147483647 + 69621 * a + 13) * 48271) (show (0 : Int) < 2147483629 by decide)
        refine ⟨mulL (by omega) (by omega), show (0 : Int) < 2147483587 by decide, show (0 : Int) < 65521 by decide, mulL (by decide) (by decide), mulL ?_ ?_, show (0 : Int) < 2147483563 by decide, ?_⟩
        · exact Int.lt_of_lt_of_le (by decide) (Int.emod_nonneg _ (show (2147483587 : Int) ≠ 0 by decide))
        · exact Int.lt_trans (Int.emod_lt_of_pos _ (show (0 : Int) < 2147483587 by decide)) (by decide)
        refine ⟨.inl ⟨by decide, by decide⟩, hm0, ?_⟩
        exact q _ _ (Int.emod_nonneg _ (by omega)) (Int.emod_lt_of_pos _ hm0) ⟨_, _, cells, hp3⟩ kp
      refine ite2 (fun h1 => ?_) (fun h1 => ?_)
      · refine ⟨⟨by decide, by decide, by decide⟩, ?_⟩
        refine ite2 (fun h2 => ?_) (fun h2 => ?_)
        · have hab : 0 ≤ (if cell < 0 then -cell else cell) := by split <;> omega
          refine ⟨divok hm hm2, ?_⟩
          refine ⟨_, _, hp3.1, rfl, hm0, ?_⟩
          exact q _ _ (Int.emod_nonneg _ (by omega)) (Int.emod_lt_of_pos _ hm0) ⟨_, _, cells, hp3.set hp3.2.2.2.1 (Int.ediv_nonneg hab (by omega))⟩ (kp.trans Off.put)
        · exact fin
      · exact fin
    have hp2 : PenAt (put G p (.lst [.ref c, .int (a + 1), .int r])) p c (a + 1) r cells := hpen.set (by omega) hr
    have kp2 : Off p G (put G p (.lst [.ref c, .int (a + 1), .int r])) := Off.put
    refine ⟨_, _, hp2.1, rfl, _, hp2.2.1, ?_⟩
    refine ite2 (fun h1 => ?_) (fun h1 => ?_)
    · have hl : 0 < (cells.length : Int) := by
        have := of_decide_eq_true h1
        rw [List.length_map] at this
        exact this
      have hr1 := Int.emod_nonneg a (show (cells.length : Int) ≠ 0 by omega)
      have hr2 := Int.emod_lt_of_pos a hl
      obtain ⟨cell, hcell⟩ : ∃ cell, atI (cells.map D.int) (a % ((cells.map D.int).length : Int)) = some (.int cell) := by
        rw [List.length_map]
        obtain ⟨j, hj⟩ : ∃ j : Nat, a % (cells.length : Int) = j := ⟨(a % (cells.length : Int)).toNat, by omega⟩
        have hjl : j < cells.length := by omega
        rw [hj]
        exact ⟨cells[j], atI_nat (by rw [List.getElem?_map, List.getElem?_eq_getElem hjl]; rfl)⟩
      refine ⟨_, _, hp2.1, rfl, _, _, hp2.1, rfl, _, hp2.2.1, ?_⟩
      refine ⟨by rw [List.length_map]; exact hl, ?_⟩
      exact ⟨_, _, hp2.2.1, hcell, tail cell _ hp2 kp2⟩
    · exact tail 11 _ hp2 kp2
/-- the pen of a script -/
def spPen : DSp := fun ds G Q _ => ∃ ns : List Int, ds = [.rl (ns.map D.int)] ∧ ∀ p c G', Pen G' p c → Grow G G' → G p = none → G c = none → Q (.ref p) G'
theorem cut63 (ns : List Int) : cutD (ns.map D.int) none (some 63) = (ns.take 63).map D.int := by
  unfold cutD
  rw [HT.sIx_none, show HT.sIx (ns.map D.int).length (ns.map D.int).length (some 63) = min 63 (ns.map D.int).length from HT.sIx_nat _ _ 63, List.drop_zero, Nat.sub_zero, List.map_take]
  rw [List.take_eq_take_iff]
  simp
theorem take_snoc {α : Type} {l : List α} {i : Nat} {x : α} (h : l[i]? = some x) : l.take i ++ [x] = l.take (i + 1) := by
  rw [List.take_add_one, h]
  rfl
theorem body_pen : Bod [] [] penC 2 spPen := by
  rintro ds G Q xq ⟨ns, rfl, q⟩
  intro p hp
  refine ⟨_, put_same, ?_⟩
  rw [cut63]
  refine lc_ix (I := fun k acc G1 => acc = ((ns.take 63).map D.int).take k ∧ G1 = put G p (.lst ((ns.take 63).map D.int))) 0 ⟨rfl, rfl⟩ ?_ ?_
  · rintro i x hx acc G1 N ⟨rfl, rfl⟩ hN
    have hx2 : ∃ n, x = .int n := by
      rw [List.getElem?_map] at hx
      cases e : (ns.take 63)[i]? with
      | none => rw [e] at hx; cases hx
      | some n => rw [e] at hx; exact ⟨n, (Option.some.inj hx).symm⟩
    refine ⟨put_same, ?_, hN _ _ ⟨?_, rfl⟩⟩
    · exact Nat.lt_of_le_of_lt (List.length_take_le _ _) (by
        obtain ⟨hi, _⟩ := List.getElem?_eq_some_iff.mp hx
        rw [List.length_map, List.length_take] at hi
        exact small1000 (by omega))
    · rw [Nat.zero_add]
      exact take_snoc hx
  · rintro acc G1 ⟨rfl, rfl⟩
    refine ⟨put_same, fun c hc => ⟨show 3 ≤ sizeLine by decide, fun p2 hp2 => ?_⟩⟩
    rw [Nat.zero_add, List.take_length] at hp2 ⊢
    have n2 : c ≠ p2 := fun z => by
      subst z
      rw [put_same] at hp2
      cases hp2
    have g1 : Grow G (put G p (.lst ((ns.take 63).map D.int))) := Grow.new hp
    have g2 := g1.trans (Grow.new (c := .lst ((ns.take 63).map D.int)) hc)
    exact q p2 c _ ⟨0, 0, ns.take 63, put_same, by rw [put_ne n2]; exact put_same, n2, by decide, by decide⟩ (g2.trans (Grow.new hp2)) (g2.back hp2) (g1.back hc)
end DL

namespace DL
open PySem PySem.Spec PyProof.Rows L2
/-! deeds -/
def doneF (d : Str) (a b : Int) : Int :=
  if (d == "add") = true then (a + b) % 65536 else if (d == "less") = true then (a - b) % 65536 else if (d == "times") = true then a * b % 65536
  else if (d == "both") = true then Builtin.bitAnd a b else if (d == "odd") = true then Builtin.bitXor a b else if (d == "same") = true then (if a == b then 1 else 0) else (if decide (a < b) then 1 else 0)
def Worth (a : Int) : Prop := 0 ≤ a ∧ a < 65536
def spDone : DSp := fun ds G Q _ => ∃ d a b, ds = [.str d, .int a, .int b] ∧ Worth a ∧ Worth b ∧ Q (.int (doneF d a b)) G
def doneC : CB := (.cons (.ifs (.cmp .Eq (.var 0) (.str "add")) (.cons (.ret (.bin .Mod (.bin .Add (.var 1) (.var 2)) (.glb 0))) .nil) .nil) (.cons (.ifs (.cmp .Eq (.var 0) (.str "less")) (.cons (.ret (.bin .Mod (.bin .Sub (.var 1) (.var 2)) (.glb 0))) .nil) .nil) (.cons (.ifs (.cmp .Eq (.var 0) (.str "times")) (.cons (.ret (.bin .Mod (.bin .Mult (.var 1) (.var 2)) (.glb 0))) .nil) .nil) (.cons (.ifs (.cmp .Eq (.var 0) (.str "both")) (.cons (.ret (.bin .BitAnd (.var 1) (.var 2))) .nil) .nil) (.cons (.ifs (.cmp .Eq (.var 0) (.str "odd")) (.cons (.ret (.bin .BitXor (.var 1) (.var 2))) .nil) .nil) (.cons (.ifs (.cmp .Eq (.var 0) (.str "same")) (.cons (.ret (.blt .int (.cons (.cmp .Eq (.var 1) (.var 2)) .nil))) .nil) .nil) (.cons (.ret (.blt .int (.cons (.cmp .Lt (.var 1) (.var 2)) .nil))) .nil)))))))
theorem body_done : Bod [] [.int 65536] doneC 3 spDone := by
  rintro ds G Q xq ⟨d, a, b, rfl, ha, hb, q⟩
  unfold doneF at q
  have M : (0 : Int) < 65536 := by decide
  refine ite2 (fun h => ?_) (fun h => ?_)
  · rw [if_pos h] at q; exact ⟨M, q⟩
  rw [if_neg h] at q
  refine ite2 (fun h => ?_) (fun h => ?_)
  · rw [if_pos h] at q; exact ⟨M, q⟩
  rw [if_neg h] at q
  refine ite2 (fun h => ?_) (fun h => ?_)
  · rw [if_pos h] at q; exact ⟨mulL (by have := ha.1; omega) (by have := ha.2; omega), M, q⟩
  rw [if_neg h] at q
  refine ite2 (fun h => ?_) (fun h => ?_)
  · rw [if_pos h] at q; exact q
  rw [if_neg h] at q
  refine ite2 (fun h => ?_) (fun h => ?_)
  · rw [if_pos h] at q; exact q
  rw [if_neg h] at q
  refine ite2 (fun h => ?_) (fun h => ?_)
  · rw [if_pos h] at q; exact q
  rw [if_neg h] at q
  exact q
theorem done_add (a b : Int) : doneF "add" a b = (a + b) % 65536 := rfl
theorem done_less (a b : Int) : doneF "less" a b = (a - b) % 65536 := rfl
theorem done_times (a b : Int) : doneF "times" a b = a * b % 65536 := rfl
theorem done_both (a b : Int) : doneF "both" a b = Builtin.bitAnd a b := rfl
theorem done_odd (a b : Int) : doneF "odd" a b = Builtin.bitXor a b := rfl
theorem done_same (a b : Int) : doneF "same" a b = (if a == b then 1 else 0) := rfl
theorem done_under (a b : Int) : doneF "under" a b = (if decide (a < b) then 1 else 0) := rfl
theorem bitAnd_nn {x y : Int} (hx : 0 ≤ x) (hy : 0 ≤ y) : Builtin.bitAnd x y = ((x.toNat &&& y.toNat : Nat) : Int) := by
  unfold Builtin.bitAnd
  rw [decide_eq_true hx, decide_eq_true hy]
theorem mod_worth (a : Int) : Worth (a % 65536) := ⟨Int.emod_nonneg _ (by decide), Int.emod_lt_of_pos _ (by decide)⟩
theorem both_worth {a b : Int} (ha : Worth a) (hb : Worth b) : Worth (Builtin.bitAnd a b) := by
  rw [bitAnd_nn ha.1 hb.1]
  refine ⟨Int.natCast_nonneg _, ?_⟩
  have h := Nat.and_lt_two_pow (x := a.toNat) (y := b.toNat) (n := 16) (by have := hb.1; have := hb.2; omega)
  have h2 : (2 : Nat) ^ 16 = 65536 := by decide
  omega
theorem odd_worth {a b : Int} (ha : Worth a) (hb : Worth b) : Worth (Builtin.bitXor a b) := by
  rw [Bits.bitXor_pp ha.1 hb.1]
  refine ⟨Int.natCast_nonneg _, ?_⟩
  have h := Nat.xor_lt_two_pow (x := a.toNat) (y := b.toNat) (n := 16) (by have := ha.1; have := ha.2; omega) (by have := hb.1; have := hb.2; omega)
  have h2 : (2 : Nat) ^ 16 = 65536 := by decide
  omega
theorem odd_both {a b : Int} (ha : Worth a) (hb : Worth b) : Builtin.bitXor a b + 2 * Builtin.bitAnd a b = a + b := by
  rw [Bits.bitXor_pp ha.1 hb.1, bitAnd_nn ha.1 hb.1]
  have h := Bits.nat_xor_add_and a.toNat b.toNat
  have := ha.1
  have := hb.1
  omega
theorem odd_self {a : Int} (ha : Worth a) : Builtin.bitXor a a = 0 := by
  rw [Bits.bitXor_pp ha.1 ha.1, Nat.xor_self]
  rfl
theorem both_self {a : Int} (ha : Worth a) : Builtin.bitAnd a a = a := by
  rw [bitAnd_nn ha.1 ha.1, Nat.and_self]
  have := ha.1
  omega
theorem odd_back {a b : Int} (ha : Worth a) (hb : Worth b) : Builtin.bitXor (Builtin.bitXor a b) b = a := by
  rw [Bits.bitXor_pp ha.1 hb.1, Bits.bitXor_pp (Int.natCast_nonneg _) hb.1, Int.toNat_natCast, Nat.xor_assoc, Nat.xor_self, Nat.xor_zero]
  have := ha.1
  omega
/-! a worth drawn -/
def worthC : CB := (.cons (.asg (.name 1) (.fn 0 (.cons (.var 0) (.cons (.int 6) .nil)))) (.cons (.ifs (.cmp .Lt (.var 1) (.int 3)) (.cons (.ret (.ix (.lst (.cons (.int 0) (.cons (.int 1) (.cons (.int 65535) .nil)))) (.var 1))) .nil) .nil) (.cons (.ifs (.cmp .Eq (.var 1) (.int 3)) (.cons (.ret (.fn 0 (.cons (.var 0) (.cons (.int 9) .nil)))) .nil) .nil) (.cons (.ret (.fn 0 (.cons (.var 0) (.cons (.int 65536) .nil)))) .nil))))
def spWorth : DSp := fun ds G Q _ => ∃ p c, ds = [.ref p] ∧ Pen G p c ∧ ∀ a G', Worth a → Pen G' p c → Keeps p G G' → Q (.int a) G'
theorem body_worth : Bod [spDraw] [] worthC 2 spWorth := by
  rintro ds G Q xq ⟨p, c, rfl, hp, q⟩
  refine ⟨p, c, 6, rfl, by decide, by decide, hp, fun w G1 h0 h6 hp1 k1 => ?_⟩
  refine ite2 (fun h => ?_) (fun h => ?_)
  · have h3 := of_decide_eq_true h
    refine ⟨show 3 ≤ sizeLine by decide, fun l hl => ?_⟩
    obtain ⟨j, rfl⟩ : ∃ j : Nat, w = j := ⟨w.toNat, by omega⟩
    have hj : j < 3 := by omega
    have fin : ∀ a, Worth a → Q (.int a) (put G1 l (.lst [.int 0, .int 1, .int 65535])) := fun a ha => q a _ ha (hp1.new hl) (k1.keeps.trans (Keeps.new hl))
    match j, hj with
    | 0, _ => exact ⟨_, _, put_same, rfl, fin 0 ⟨by decide, by decide⟩⟩
    | 1, _ => exact ⟨_, _, put_same, rfl, fin 1 ⟨by decide, by decide⟩⟩
    | 2, _ => exact ⟨_, _, put_same, rfl, fin 65535 ⟨by decide, by decide⟩⟩
  · refine ite2 (fun h => ?_) (fun h => ?_)
    · exact ⟨p, c, 9, rfl, by decide, by decide, hp1, fun r G2 a1 a2 a3 a4 => q r G2 ⟨a1, by omega⟩ a3 (k1.keeps.trans a4.keeps)⟩
    · exact ⟨p, c, 65536, rfl, by decide, by decide, hp1, fun r G2 a1 a2 a3 a4 => q r G2 ⟨a1, by omega⟩ a3 (k1.keeps.trans a4.keeps)⟩
end DL

namespace DL
open PySem PySem.Spec PyProof.Rows L2
/-! the module's constants, read off the heap -/
mutual
def cstB (K : PySem.W.Frag) : D → Value → Bool
  | .non, u => He.relB .non u
  | .bl b, u => He.relB (.bl b) u
  | .int i, u => He.relB (.int i) u
  | .str x, u => He.relB (.str x) u
  | .tup ds, u => match u with
    | .ref a => (match K.lookup a with
      | some ⟨.type c, _, .seq its _, _⟩ => decide (c = "tuple") && (decide (its.size ≤ sizeLine) && cstsB K ds its.toList)
      | _ => false)
    | _ => false
  | _, _ => false
def cstsB (K : PySem.W.Frag) : List D → List Value → Bool
  | [], us => us.isEmpty
  | d :: ds, us => match us with
    | u :: us => cstB K d u && cstsB K ds us
    | [] => false
end
mutual
theorem cstB_ok {K : PySem.W.Frag} : ∀ {d : D} {u : Value}, cstB K d u = true → ∃ v, RelV v u ∧ ∀ H, Rep K H v d
  | .non, u, h => ⟨.non, He.relB_ok (by unfold cstB at h; exact h), fun _ => .non⟩
  | .bl b, u, h => ⟨.bl b, He.relB_ok (by unfold cstB at h; exact h), fun _ => .bl b⟩
  | .int b, u, h => ⟨.int b, He.relB_ok (by unfold cstB at h; exact h), fun _ => .int b⟩
  | .str b, u, h => ⟨.str b, He.relB_ok (by unfold cstB at h; exact h), fun _ => .str b⟩
  | .tup ds, u, h => by
    unfold cstB at h
    split at h
    · rename_i a
      split at h
      · rename_i c od its n osl q
        rw [Bool.and_eq_true, Bool.and_eq_true] at h
        obtain ⟨vs, h1, h2⟩ := cstsB_ok h.2.2
        exact ⟨.ref a, rfl, fun H => .tup (.inr ⟨_, its, n, q, congrArg Value.type (of_decide_eq_true h.1), rfl, of_decide_eq_true h.2.1, h1⟩) (h2 H)⟩
      · cases h
    · cases h
  | .ref _, u, h => by simp [cstB] at h
  | .ty _, u, h => by simp [cstB] at h
  | .rl _, u, h => by simp [cstB] at h
theorem cstsB_ok {K : PySem.W.Frag} : ∀ {ds : List D} {us : List Value}, cstsB K ds us = true → ∃ vs, Vals vs us ∧ ∀ H, Reps K H vs ds
  | [], us, h => by
    unfold cstsB at h
    rw [List.isEmpty_iff] at h
    subst h
    exact ⟨[], .nil, fun _ => .nil⟩
  | d :: ds, us, h => by
    unfold cstsB at h
    split at h
    · rw [Bool.and_eq_true] at h
      obtain ⟨v, a1, a2⟩ := cstB_ok h.1
      obtain ⟨vs, b1, b2⟩ := cstsB_ok h.2
      exact ⟨v :: vs, .cons a1 b1, fun H => .cons (a2 H) (b2 H)⟩
    · cases h
end
def cstOk (K : PySem.W.Frag) (p : Str × D) : Bool := match PySem.W.nsIn K mainGlobals p.1 with
  | some (some u) => cstB K p.2 u
  | _ => false
theorem cst_ok {K : PySem.W.Frag} {h : Heap} {mg : Str → Option Value} (X : K.In h) (G : h.Ns mainGlobals mg) {p : Str × D} (c : cstOk K p = true) : ∃ v u, mg p.1 = some u ∧ RelV v u ∧ ∀ H, Rep K H v p.2 := by
  unfold cstOk at c
  split at c
  · rename_i u e
    obtain ⟨v, a, b⟩ := cstB_ok c
    exact ⟨v, u, PySem.W.mg_of X G e, a, b⟩
  · cases c
/-- the head's facts: names, defs, constants -/
def obsC (fa : List He.Fa) (fn : List He.DefD) (cs : List (Str × D)) (K : PySem.W.Frag) : He.AlD := (((fa.all fun f => f.ok K) && fn.all fun d => d.ok K) && cs.all (cstOk K), fn.map fun d => He.fnW K d.at_)
def SaysC (fa : List He.Fa) (fn : List He.DefD) (cs : List (Str × D)) (K : PySem.W.Frag) : Prop := obsC fa fn cs K = He.valD fn
def obsCG (n : Nat) (fa : List He.Fa) (fn : List He.DefD) (cs : List (Str × D)) (g : Addr → Option Obj) : He.AlD := obsC fa fn cs (He.frG g (He.asD g n))
def hookC (n : Nat) (fa : List He.Fa) (fn : List He.DefD) (cs : List (Str × D)) : PySem.W.Hook where
  α := He.AlD
  obs := fun s => obsCG n fa fn cs s.heap.get?
  val := fun _ => He.valD fn
  says := fun _ h => ∃ K : PySem.W.Frag, K.In h ∧ SaysC fa fn cs K
  of := fun _ _ e => ⟨_, He.frG_in, e⟩
  keeps := fun _ _ _ ⟨K, hK, c⟩ k => ⟨K, PySem.W.Frag.In.keeps hK k, c⟩
theorem obsCG_eq {n : Nat} {fa : List He.Fa} {fn : List He.DefD} {cs : List (Str × D)} {g : Addr → Option Obj} {s : Shared} (h : ∀ a, g a = s.heap.get? a) : obsCG n fa fn cs g = (hookC n fa fn cs).obs s := by
  have e : g = s.heap.get? := funext h
  rw [e]
  rfl
section
variable {fa : List He.Fa} {fn : List He.DefD} {cs : List (Str × D)} {K : PySem.W.Frag}
theorem SaysC.says (c : SaysC fa fn cs K) : He.SaysD fa fn K := by
  have c1 := (He.ba (congrArg (fun z : He.AlD => z.1) c)).1
  have c2 : (fn.map fun d => He.fnW K d.at_) = fn.map He.DefD.val := congrArg (fun z : He.AlD => z.2) c
  exact Prod.ext c1 c2
theorem SaysC.cst (c : SaysC fa fn cs K) (i : Nat) {p : Str × D} (h : cs[i]? = some p) : cstOk K p = true := by
  have c1 := (He.ba (congrArg (fun z : He.AlD => z.1) c)).2
  exact List.all_eq_true.mp c1 p (List.mem_of_getElem? h)
end
theorem Cals.none {P : Program} {w : World} {K : PySem.W.Frag} {mg : Str → Option Value} {base : Heap} {k : Nat} {fns : List Str} : Cals P w K mg base k fns [] := fun j y s _ h => by simp at h
/-- every argument row that a promise takes has n members -/
def LenS (sp : DSp) (n : Nat) : Prop := ∀ ds G Q xq, sp ds G Q xq → ds.length = n
theorem iteN {c : Bool} {A B : Prop} (h : c = false) (b : B) : if c = true then A else B := by
  rw [h]
  exact iteF b
abbrev sp_l_draw := spDraw
theorem body_l_draw : Bod [] [] drawC 6 sp_l_draw := body_draw
theorem len_l_draw : LenS sp_l_draw 2 := by rintro ds G Q xq ⟨p, c, m, rfl, _⟩; rfl
abbrev sp_l_pen_by := spPen
theorem body_l_pen_by : Bod [] [] penC 2 sp_l_pen_by := body_pen
theorem len_l_pen_by : LenS sp_l_pen_by 1 := by rintro ds G Q xq ⟨ns, rfl, _⟩; rfl
abbrev sp_l_worth := spWorth
theorem body_l_worth : Bod [spDraw] [] worthC 2 sp_l_worth := body_worth
theorem len_l_worth : LenS sp_l_worth 1 := by rintro ds G Q xq ⟨p, c, rfl, _⟩; rfl
abbrev sp_p_done := spDone
theorem body_p_done : Bod [] [.int 65536] doneC 3 sp_p_done := body_done
theorem len_p_done : LenS sp_p_done 3 := by rintro ds G Q xq ⟨d, a, b, rfl, _⟩; rfl
/-- a thing is a whole number -/
def wholeD : D → Bool
  | .int _ => true
  | _ => false
abbrev sp_law := lawSp
theorem len_law : LenS sp_law 1 := by rintro ds G Q xq ⟨ns, rfl, _⟩; rfl
end DL

namespace DL
open PySem PySem.Spec PyProof.Rows L2
/-- a thing's type is known, and it is a whole number or not -/
def sp_l_whole : DSp := fun ds G Q _ => ∃ d, ds = [d] ∧ tyD d G fun t => Q (.bl (t == "int")) G
theorem len_l_whole : LenS sp_l_whole 1 := by rintro ds G Q xq ⟨d, rfl, _⟩; rfl
def wholeC : CB := (.cons (.ret (.and (.blt .isi (.cons (.var 0) (.cons (.tn .int) .nil))) (.not (.blt .isi (.cons (.var 0) (.cons (.tn .bool) .nil)))))) .nil)
theorem whole_den {F : List DSp} {Gm : List D} {d : D} {G : Sto} {Q : DQ} {xq : XQ} (q : tyD d G fun t => Q (.bl (t == "int")) G) : denB F Gm wholeC (Fin0 Q xq) [some d] G := by
  cases d with
  | non => exact ⟨false, rfl, q⟩
  | bl b => exact ⟨true, rfl, true, rfl, q⟩
  | int i => exact ⟨true, rfl, false, rfl, q⟩
  | str s => exact ⟨false, rfl, q⟩
  | tup s => exact ⟨false, rfl, q⟩
  | ref a =>
    rcases q with ⟨h, q⟩ | ⟨h, q⟩ | ⟨h, q⟩
    · exact .inl ⟨h, false, rfl, q⟩
    · exact .inr (.inl ⟨h, false, rfl, q⟩)
    · exact .inr (.inr ⟨h, false, rfl, q⟩)
  | ty _ => exact q.elim
  | rl _ => exact q.elim
theorem body_l_whole : Bod [] [] wholeC 1 sp_l_whole := by
  rintro ds G Q xq ⟨d, rfl, q⟩
  exact whole_den q
/-- an index that is in the list -/
theorem at_nat {α : Type} {xs : List α} {i : Int} (h0 : 0 ≤ i) (h1 : i < xs.length) : ∃ (j : Nat) (x : α), i = j ∧ xs[j]? = some x ∧ atI xs i = some x := by
  obtain ⟨j, rfl⟩ : ∃ j : Nat, i = j := ⟨i.toNat, by omega⟩
  have hj : j < xs.length := by omega
  exact ⟨j, xs[j], rfl, List.getElem?_eq_getElem hj, atI_nat (List.getElem?_eq_getElem hj)⟩
theorem sz {n m : Nat} (h : n ≤ m) (h2 : m ≤ 16777216 := by decide) : n ≤ sizeLine := by
  have : sizeLine = 16777216 := by decide
  omega
theorem szl {n m : Nat} (h : n ≤ m) (h2 : m < 16777216 := by decide) : n < sizeLine := by
  have : sizeLine = 16777216 := by decide
  omega
theorem ixN_nat {α : Type} {xs : List α} {j : Nat} {v : α} (h : xs[j]? = some v) : ixN xs.length (j : Int) = some j := by
  have hj : j < xs.length := (List.getElem?_eq_some_iff.mp h).1
  unfold ixN
  rw [if_pos (by omega), if_pos (by omega), Int.toNat_natCast]
end DL

namespace DL
open PySem PySem.Spec PyProof.Rows L2
/-- _law_some: slots 0 _law_pen 1 _law_things 2 _law_bits 3 _law_more 4 _law_begin 5 _law_found 6 _law_thing; calls _law_draw; names  -/
def l_someC : CB := (.cons (.asg (.name 2) (.fn 0 (.cons (.var 0) (.cons (.bin .Pow (.int 2) (.int 24)) .nil)))) (.cons (.asg (.name 3) (.bin .Mult (.fn 0 (.cons (.var 0) (.cons (.bin .Pow (.int 2) (.int 24)) .nil))) (.fn 0 (.cons (.var 0) (.cons (.int 2) .nil))))) (.cons (.asg (.name 4) (.fn 0 (.cons (.var 0) (.cons (.blt .len (.cons (.var 1) .nil)) .nil)))) (.cons (.asg (.name 5) (.lst .nil)) (.cons (.fors (.name 6) (.it (.var 1)) (.cons (.ifs (.cmp .Gt (.bin .Add (.bin .Mod (.var 2) (.int 2)) (.bin .Mod (.var 3) (.int 2))) (.int 0)) (.cons (.expr (.mt .append (.var 5) (.cons (.var 6) .nil))) .nil) .nil) (.cons (.asg (.name 2) (.bin .FloorDiv (.var 2) (.int 2))) (.cons (.asg (.name 3) (.bin .FloorDiv (.var 3) (.int 2))) .nil)))) (.cons (.ifs (.cmp .Eq (.var 5) (.lst .nil)) (.cons (.asg (.name 5) (.lst (.cons (.ix (.var 1) (.var 4)) .nil))) .nil) .nil) (.cons (.asg (.name 4) (.bin .Mod (.var 4) (.blt .len (.cons (.var 5) .nil)))) (.cons (.ret (.blt .tuple (.cons (.bin .Add (.sl (.var 5) (.part (.var 4)) .no) (.sl (.var 5) .no (.part (.var 4)))) .nil))) .nil))))))))
/-- _law_deeds: slots ; calls ; names  -/
def l_deedsC : CB := (.cons (.ret (.lst (.cons (.str "add") (.cons (.str "less") (.cons (.str "times") (.cons (.str "both") (.cons (.str "odd") (.cons (.str "same") (.cons (.str "under") .nil))))))))) .nil)
/-- _law_froms_by: slots 0 _law_boxes 1 _law_doers 2 _law_k; calls ; names  -/
def l_froms_byC : CB := (.cons (.ret (.bin .Add (.bin .Add (.lst (.cons (.str "num") .nil)) (.lc [("_law_k", 2)] (.name 2) (.rng1 (.var 0)) .no (.bin .Add (.str "box") (.blt .str (.cons (.var 2) .nil))))) (.lc [("_law_k", 2)] (.name 2) (.rng1 (.var 1)) .no (.bin .Add (.str "out") (.blt .str (.cons (.var 2) .nil)))))) .nil)
/-- _law_tos_by: slots 0 _law_boxes 1 _law_doers 2 _law_found 3 _law_k; calls ; names  -/
def l_tos_byC : CB := (.cons (.setLc 2 [("_law_k", 3)] (.name 3) (.rng1 (.var 0)) .no (.bin .Add (.str "box") (.blt .str (.cons (.var 3) .nil)))) (.cons (.fors (.name 3) (.rng1 (.var 1)) (.cons (.asg (.name 2) (.bin .Add (.var 2) (.lst (.cons (.bin .Add (.str "in") (.blt .str (.cons (.var 3) .nil))) (.cons (.bin .Add (.str "start") (.blt .str (.cons (.var 3) .nil))) .nil))))) .nil)) (.cons (.ret (.bin .Add (.var 2) (.lst (.cons (.str "tell") (.cons (.str "go") (.cons (.str "end") .nil)))))) .nil)))
/-- _law_machine_by: slots 0 _law_pen 1 _law_boxes 2 _law_whole 3 _law_lag 4 _law_doers 5 _law_ways 6 _law_froms 7 _law_tos 8 _law_part 9 _law_rest 10 _law_k 11 _law_port; calls _law_draw _law_some _law_tos_by _law_froms_by _law_deeds; names  -/
def l_machine_byC : CB := (.cons (.asg (.name 3) (.fn 0 (.cons (.var 0) (.cons (.int 4) .nil)))) (.cons (.asg (.name 1) (.bin .Add (.int 1) (.fn 0 (.cons (.var 0) (.cons (.var 1) .nil))))) (.cons (.ifs (.val (.var 2)) (.cons (.asg (.name 1) (.blt .max (.cons (.var 1) (.cons (.int 4) .nil)))) .nil) .nil) (.cons (.asg (.name 4) (.blt .tuple (.cons (.lc [("_law_k", 10)] (.name 10) (.rng1 (.bin .Add (.int 1) (.fn 0 (.cons (.var 0) (.cons (.int 4) .nil))))) .no (.tup (.cons (.bin .Add (.int 1) (.fn 0 (.cons (.var 0) (.cons (.int 4) .nil)))) (.cons (.fn 1 (.cons (.var 0) (.cons (.fn 4 .nil) .nil))) .nil)))) .nil))) (.cons (.asgT (.tup 2 (.cons (.name 6) (.cons (.name 7) .nil))) (.tup (.cons (.fn 3 (.cons (.var 1) (.cons (.blt .len (.cons (.var 4) .nil)) .nil))) (.cons (.fn 2 (.cons (.var 1) (.cons (.blt .len (.cons (.var 4) .nil)) .nil))) .nil)))) (.cons (.setLc 5 [("_law_k", 10)] (.name 10) (.rng1 (.bin .Add (.int 1) (.fn 0 (.cons (.var 0) (.cons (.int 6) .nil))))) .no (.tup (.cons (.fn 1 (.cons (.var 0) (.cons (.var 6) .nil))) (.cons (.fn 1 (.cons (.var 0) (.cons (.var 7) .nil))) .nil)))) (.cons (.ifs (.val (.var 2)) (.cons (.asg (.name 8) (.fn 1 (.cons (.var 0) (.cons (.var 7) .nil)))) (.cons (.setLc 9 [("_law_port", 11)] (.name 11) (.it (.var 7)) (.one (.cmp .NotIn (.var 11) (.var 8))) (.var 11)) (.cons (.asg (.sub (.var 5) (.int 0)) (.tup (.cons (.blt .tuple (.cons (.var 6) .nil)) (.cons (.blt .tuple (.cons (.var 7) .nil)) .nil)))) (.cons (.ifs (.and (.cmp .NotEq (.var 9) (.lst .nil)) (.and (.cmp .Lt (.blt .len (.cons (.var 5) .nil)) (.int 6)) (.cmp .Eq (.fn 0 (.cons (.var 0) (.cons (.int 2) .nil))) (.int 0)))) (.cons (.asg (.sub (.var 5) (.int 0)) (.tup (.cons (.blt .tuple (.cons (.var 6) .nil)) (.cons (.var 8) .nil)))) (.cons (.expr (.mt .append (.var 5) (.cons (.tup (.cons (.blt .tuple (.cons (.rev (.var 6)) .nil)) (.cons (.blt .tuple (.cons (.var 9) .nil)) .nil))) .nil))) .nil)) .nil) .nil)))) .nil) (.cons (.ret (.tup (.cons (.var 3) (.cons (.var 1) (.cons (.var 4) (.cons (.blt .tuple (.cons (.var 5) .nil)) .nil)))))) .nil))))))))
/-- _law_same: slots 0 _law_found 1 _law_due 2 _law_one 3 _law_other; calls _law_same; names  -/
def l_sameC : CB := (.cons (.ifs (.val (.isiT [.list, .tuple] (.var 1))) (.cons (.ifs (.or (.not (.val (.isiT [.list, .tuple] (.var 0)))) (.cmp .NotEq (.blt .isi (.cons (.var 0) (.cons (.tn .list) .nil))) (.blt .isi (.cons (.var 1) (.cons (.tn .list) .nil))))) (.cons (.ret (.bl false)) .nil) .nil) (.cons (.ifs (.cmp .NotEq (.blt .len (.cons (.var 0) .nil)) (.blt .len (.cons (.var 1) .nil))) (.cons (.ret (.bl false)) .nil) .nil) (.cons (.ret (.blt .all (.cons (.lc [("_law_one", 2), ("_law_other", 3)] (.tup 2 (.cons (.name 2) (.cons (.name 3) .nil))) (.zip (.var 0) (.var 1)) .no (.fn 0 (.cons (.var 2) (.cons (.var 3) .nil)))) .nil))) .nil))) .nil) (.cons (.ifs (.or (.cmp .NotEq (.blt .isi (.cons (.var 0) (.cons (.tn .bool) .nil))) (.blt .isi (.cons (.var 1) (.cons (.tn .bool) .nil)))) (.cmp .NotEq (.blt .isi (.cons (.var 0) (.cons (.tn .str) .nil))) (.blt .isi (.cons (.var 1) (.cons (.tn .str) .nil))))) (.cons (.ret (.bl false)) .nil) .nil) (.cons (.ret (.and (.cmp .Eq (.blt .isi (.cons (.var 0) (.cons (.tn .int) .nil))) (.blt .isi (.cons (.var 1) (.cons (.tn .int) .nil)))) (.cmp .Eq (.var 0) (.var 1)))) .nil)))
end DL

namespace DL
open PySem PySem.Spec PyProof.Rows L2
/-! comprehensions -/
section
variable {g : DG} {tt : DT} {te : DE} {ρ0 : Ev} {keep : Sto → Prop} {fin : List D → Sto → Prop}
theorem lc_map (f : Nat → D) {items : List D} {G : Sto} (hl : items.length < sizeLine) (hk : keep G)
    (step : ∀ i x (R : DQ), items[i]? = some x → R (f i) G → g x ρ0 G (fun ρ1 G1 => te ρ1 G1 R (fun _ _ => False)) (fun _ _ _ => False)) (q : fin ((List.range items.length).map f) G) : lcL g dYes te ρ0 keep fin items [] G := by
  refine lc_ix (I := fun k acc G1 => acc = (List.range k).map f ∧ G1 = G) 0 ⟨rfl, rfl⟩ ?_ ?_
  · rintro i x hx acc G1 N ⟨rfl, rfl⟩ hN
    refine ⟨hk, step i x _ hx ⟨?_, hN _ _ ⟨?_, rfl⟩⟩⟩
    · have := (List.getElem?_eq_some_iff.mp hx).1
      simp only [List.length_map, List.length_range]
      omega
    · rw [Nat.zero_add, List.range_succ, List.map_append]
      rfl
  · rintro acc G1 ⟨rfl, rfl⟩
    rw [Nat.zero_add]
    exact ⟨hk, q⟩
theorem lc_filt (b : D → Bool) (f : D → D) {items : List D} {G : Sto} (hl : items.length < sizeLine) (hk : keep G)
    (step : ∀ x (A : DQ) (B : Sto → Prop), x ∈ items → (b x = true → A (f x) G) → (b x = false → B G) → g x ρ0 G (fun ρ1 G1 => tt ρ1 G1 (fun c G2 => if c = true then te ρ1 G2 A (fun _ _ => False) else B G2) (fun _ _ => False)) (fun _ _ _ => False))
    (q : fin ((items.filter b).map f) G) : lcL g tt te ρ0 keep fin items [] G := by
  refine lc_ix (I := fun k acc G1 => acc = ((items.take k).filter b).map f ∧ G1 = G) 0 ⟨rfl, rfl⟩ ?_ ?_
  · rintro i x hx acc G1 N ⟨rfl, rfl⟩ hN
    have ht : items.take (0 + i + 1) = items.take (0 + i) ++ [x] := by
      rw [Nat.zero_add]
      exact (take_snoc hx).symm
    refine ⟨hk, step x _ _ (List.mem_of_getElem? hx) (fun hb => ⟨?_, hN _ _ ⟨?_, rfl⟩⟩) (fun hb => hN _ _ ⟨?_, rfl⟩)⟩
    · have h1 := List.length_filter_le b (items.take (0 + i))
      have h2 := List.length_take_le (0 + i) items
      have := (List.getElem?_eq_some_iff.mp hx).1
      rw [List.length_map]
      omega
    · rw [ht, List.filter_append, List.map_append, List.filter_cons, hb]
      rfl
    · rw [ht, List.filter_append, List.map_append, List.filter_cons, hb]
      simp
  · rintro acc G1 ⟨rfl, rfl⟩
    rw [Nat.zero_add, List.take_length]
    exact ⟨hk, q⟩
end
theorem rangeD_at {lo : Int} {n i : Nat} {x : D} (h : (rangeD lo n)[i]? = some x) : x = .int (lo + i) := (get_range h).2
/-! texts -/
theorem strOk_of (s : String) : PyData.strOk (Str.ofString s) = true := by
  unfold PyData.strOk
  rw [Array.all_eq_true]
  intro i hi
  have e : (Str.ofString s).cps.toList = s.toList.map Char.toNat := cpsOfBytes_string s
  have : (Str.ofString s).cps[i] ∈ (Str.ofString s).cps.toList := by simp
  rw [e, List.mem_map] at this
  obtain ⟨c, _, hc⟩ := this
  rw [← hc]
  have h := c.valid
  simp only [UInt32.isValidChar, Nat.isValidChar] at h
  have h2 : c.toNat = c.val.toNat := rfl
  apply decide_eq_true
  omega
theorem strOk_cat {a b : Str} (ha : PyData.strOk a = true) (hb : PyData.strOk b = true) : PyData.strOk (a ++ b) = true := by
  unfold PyData.strOk at *
  rw [show (a ++ b).cps = a.cps ++ b.cps from rfl, Array.all_append, ha, hb]
  rfl
/-! data by value -/
mutual
def okD : Nat → D → Bool
  | _, .non => true
  | _, .bl _ => true
  | _, .int _ => true
  | _, .str x => PyData.strOk x
  | n, .tup ds => (match n with
    | 0 => false
    | n + 1 => okDs n ds)
  | _, _ => false
def okDs : Nat → List D → Bool
  | _, [] => true
  | n, d :: ds => okD n d && okDs n ds
end
mutual
def pyD : D → PyData
  | .bl b => .bool b
  | .int i => .int i
  | .str x => .str x
  | .tup ds => .tuple (pyDs ds)
  | _ => .none
def pyDs : List D → List PyData
  | [] => []
  | d :: ds => pyD d :: pyDs ds
end
mutual
theorem okD_dd {G : Sto} : ∀ {d : D} {n : Nat}, okD n d = true → Dd G d (pyD d) ∧ PyData.canLay0 (pyD d) = true ∧ (pyD d).depth ≤ n
  | .non, n, _ => ⟨.non, rfl, Nat.zero_le _⟩
  | .bl b, n, _ => ⟨.bl b, rfl, Nat.zero_le _⟩
  | .int b, n, _ => ⟨.int b, rfl, Nat.zero_le _⟩
  | .str b, n, h => ⟨.str b, by unfold okD at h; exact h, Nat.zero_le _⟩
  | .tup ds, 0, h => by unfold okD at h; cases h
  | .tup ds, n + 1, h => by
    unfold okD at h
    obtain ⟨h1, h2, h3⟩ := okDs_dd (G := G) h
    unfold pyD
    exact ⟨.tup h1, h2, by unfold PyData.depth; omega⟩
  | .ref _, n, h => by unfold okD at h; cases h
  | .ty _, n, h => by unfold okD at h; cases h
  | .rl _, n, h => by unfold okD at h; cases h
theorem okDs_dd {G : Sto} : ∀ {ds : List D} {n : Nat}, okDs n ds = true → Dds G ds (pyDs ds) ∧ PyData.canLayAll0 (pyDs ds) = true ∧ PyData.depthAll (pyDs ds) ≤ n
  | [], n, _ => ⟨.nil, rfl, Nat.zero_le _⟩
  | d :: ds, n, h => by
    unfold okDs at h
    rw [Bool.and_eq_true] at h
    obtain ⟨a1, a2, a3⟩ := okD_dd (G := G) h.1
    obtain ⟨b1, b2, b3⟩ := okDs_dd (G := G) h.2
    unfold pyDs
    refine ⟨.cons a1 b1, ?_, ?_⟩
    · unfold PyData.canLayAll0
      rw [a2, b2]
      rfl
    · unfold PyData.depthAll
      omega
end
mutual
theorem eqv_refl : ∀ d : D, PyData.eqv (pyD d) (pyD d) = true
  | .non => rfl
  | .bl b => by simp [pyD, PyData.eqv]
  | .int b => by simp [pyD, PyData.eqv]
  | .str b => by simp [pyD, PyData.eqv]
  | .tup ds => by
    unfold pyD PyData.eqv
    exact eqvs_refl ds
  | .ref _ => rfl
  | .ty _ => rfl
  | .rl _ => rfl
theorem eqvs_refl : ∀ ds : List D, PyData.eqvAll (pyDs ds) (pyDs ds) = true
  | [] => rfl
  | d :: ds => by
    unfold pyDs PyData.eqvAll
    rw [eqv_refl d, eqvs_refl ds]
    rfl
end
theorem okDs_mem {n : Nat} : ∀ {ds : List D}, okDs n ds = true ↔ ∀ d ∈ ds, okD n d = true
  | [] => ⟨fun _ d h => (List.not_mem_nil h).elim, fun _ => rfl⟩
  | d :: ds => by
    unfold okDs
    rw [Bool.and_eq_true, okDs_mem (ds := ds)]
    constructor
    · rintro ⟨h1, h2⟩ x hx
      rcases List.mem_cons.mp hx with rfl | hx
      · exact h1
      · exact h2 x hx
    · exact fun h => ⟨h d (by simp), fun x hx => h x (by simp [hx])⟩
theorem shaped_of {d : D} {n : Nat} (h : okD n d = true) (hn : n ≤ 64) : SeqAt.shaped (pyD d) = true := by
  obtain ⟨_, h2, h3⟩ := okD_dd (G := fun _ => none) h
  unfold SeqAt.shaped
  rw [h2, decide_eq_true (by omega)]
  rfl
theorem shaped_lst {ds : List D} {n : Nat} (h : okDs n ds = true) (hn : n ≤ 63) : SeqAt.shaped (.list (pyDs ds)) = true := by
  obtain ⟨_, h2, h3⟩ := okDs_dd (G := fun _ => none) h
  unfold SeqAt.shaped
  rw [show PyData.canLay0 (.list (pyDs ds)) = PyData.canLayAll0 (pyDs ds) from rfl, h2, decide_eq_true (show (PyData.list (pyDs ds)).depth ≤ 64 by unfold PyData.depth; omega)]
  rfl
/-- == of two lists of plain data -/
theorem eq_lst {a b : Addr} {xs ys : List D} {G : Sto} {Q : DQ} {n : Nat} (ha : G a = some (.lst xs)) (hb : G b = some (.lst ys)) (hx : okDs n xs = true) (hy : okDs n ys = true) (hn : n ≤ 63) (q : Q (.bl (PyData.eqvAll (pyDs xs) (pyDs ys))) G) : eqD (.ref a) (.ref b) G Q :=
  ⟨_, _, .lst ha (okDs_dd hx).1, .lst hb (okDs_dd hy).1, shaped_lst hx hn, shaped_lst hy hn, q⟩
theorem ne_lst {a b : Addr} {xs ys : List D} {G : Sto} {Q : DQ} {n : Nat} (ha : G a = some (.lst xs)) (hb : G b = some (.lst ys)) (hx : okDs n xs = true) (hy : okDs n ys = true) (hn : n ≤ 63) (q : Q (.bl (!PyData.eqvAll (pyDs xs) (pyDs ys))) G) : neD (.ref a) (.ref b) G Q :=
  ⟨_, _, .lst ha (okDs_dd hx).1, .lst hb (okDs_dd hy).1, shaped_lst hx hn, shaped_lst hy hn, q⟩
theorem eqvAll_nil {xs : List D} : PyData.eqvAll (pyDs xs) (pyDs []) = xs.isEmpty := by cases xs <;> rfl
theorem eq_tup {xs ys : List D} {G : Sto} {Q : DQ} {n : Nat} (hx : okDs n xs = true) (hy : okDs n ys = true) (hn : n ≤ 63) (q : Q (.bl (PyData.eqvAll (pyDs xs) (pyDs ys))) G) : eqD (.tup xs) (.tup ys) G Q := by
  cases ys with
  | nil =>
    rw [eqvAll_nil] at q
    exact q
  | cons y ys => exact ⟨_, _, .tup (okDs_dd hx).1, .tup (okDs_dd hy).1, shaped_of (d := .tup xs) (n := n + 1) hx (by omega), shaped_of (d := .tup (y :: ys)) (n := n + 1) hy (by omega), q⟩
theorem ne_tup {xs ys : List D} {G : Sto} {Q : DQ} {n : Nat} (hx : okDs n xs = true) (hy : okDs n ys = true) (hn : n ≤ 63) (q : Q (.bl (!PyData.eqvAll (pyDs xs) (pyDs ys))) G) : neD (.tup xs) (.tup ys) G Q := by
  cases ys with
  | nil =>
    rw [eqvAll_nil] at q
    exact q
  | cons y ys => exact ⟨_, _, .tup (okDs_dd hx).1, .tup (okDs_dd hy).1, shaped_of (d := .tup xs) (n := n + 1) hx (by omega), shaped_of (d := .tup (y :: ys)) (n := n + 1) hy (by omega), q⟩
theorem strs_ok {ts : List Str} (n : Nat) (h : ∀ t ∈ ts, PyData.strOk t = true) : okDs n (ts.map D.str) = true := by
  rw [okDs_mem]
  intro d hd
  obtain ⟨t, ht, rfl⟩ := List.mem_map.mp hd
  unfold okD
  exact h t ht
/-! same: two data alike -/
def Alike : Nat → Sto → D → D → Prop
  | 0, _, _, _ => False
  | n + 1, G, x, y => (x = y ∧ okD 0 x = true) ∨ (∃ xs ys, x = .tup xs ∧ y = .tup ys ∧ xs.length = ys.length ∧ xs.length ≤ 10000 ∧ ∀ (i : Nat) a b, xs[i]? = some a → ys[i]? = some b → Alike n G a b) ∨
      ∃ a b xs ys, x = .ref a ∧ y = .ref b ∧ G a = some (.lst xs) ∧ G b = some (.lst ys) ∧ xs.length = ys.length ∧ xs.length ≤ 10000 ∧ ∀ (i : Nat) a b, xs[i]? = some a → ys[i]? = some b → Alike n G a b
theorem Alike.grow {G G' : Sto} (g : Grow G G') : ∀ {n : Nat} {x y : D}, Alike n G x y → Alike n G' x y
  | 0, _, _, h => h
  | n + 1, x, y, h => by
    rcases h with h | ⟨xs, ys, h1, h2, h3, h4, h5⟩ | ⟨a, b, xs, ys, h1, h2, ha, hb, h3, h4, h5⟩
    · exact .inl h
    · exact .inr (.inl ⟨xs, ys, h1, h2, h3, h4, fun i a b e1 e2 => (h5 i a b e1 e2).grow g⟩)
    · exact .inr (.inr ⟨a, b, xs, ys, h1, h2, g _ _ ha, g _ _ hb, h3, h4, fun i a b e1 e2 => (h5 i a b e1 e2).grow g⟩)
theorem Alike.self {G : Sto} : ∀ {n : Nat} {ds : List D}, (∀ d ∈ ds, okD 0 d = true) → ds.length ≤ 10000 → Alike (n + 2) G (.tup ds) (.tup ds) := fun {n ds} h hl =>
  .inr (.inl ⟨ds, ds, rfl, rfl, rfl, hl, fun i a b e1 e2 => .inl ⟨by rw [e1] at e2; exact Option.some.inj e2, h a (List.mem_of_getElem? e1)⟩⟩)
def sp_l_same (n : Nat) : DSp := fun ds G Q _ => ∃ x y, ds = [x, y] ∧ Alike n G x y ∧ ∀ G', Grow G G' → Q (.bl true) G'
theorem len_l_same (n : Nat) : LenS (sp_l_same n) 2 := by rintro ds G Q xq ⟨x, y, rfl, _⟩; rfl
theorem sp_l_same_0 {ds : List D} {G : Sto} {Q : DQ} {xq : XQ} (h : sp_l_same 0 ds G Q xq) : False := by
  obtain ⟨x, y, _, h, _⟩ := h
  exact h
theorem zipD_get {xs ys : List D} {i : Nat} {x : D} (h : (zipD xs ys)[i]? = some x) : ∃ a b, xs[i]? = some a ∧ ys[i]? = some b ∧ x = .tup [a, b] := by
  unfold zipD at h
  rw [List.getElem?_zipWith] at h
  split at h
  · rename_i a b e1 e2
    exact ⟨a, b, e1, e2, (Option.some.inj h).symm⟩
  · cases h
theorem zipD_len2 {xs ys : List D} (h : xs.length = ys.length) : (zipD xs ys).length = xs.length := by
  rw [zipD_len]
  omega
theorem body_l_same (n : Nat) : Bod [sp_l_same n] [] l_sameC 4 (sp_l_same (n + 1)) := by
  rintro ds G Q xq ⟨x, y, rfl, h, q⟩
  rcases h with ⟨rfl, h⟩ | ⟨xs, ys, rfl, rfl, h3, h4, h5⟩ | ⟨a, b, xs, ys, rfl, rfl, ha, hb, h3, h4, h5⟩
  · cases x with
    | non => exact ⟨false, rfl, false, rfl, false, rfl, false, rfl, false, rfl, false, rfl, false, rfl, _, _, .non, .non, rfl, rfl, q G .refl⟩
    | bl b => exact ⟨false, rfl, true, rfl, true, rfl, false, rfl, false, rfl, true, rfl, true, rfl, (show Q (.bl (b == b)) G by rw [show (b == b) = true by simp]; exact q G .refl)⟩
    | int i => exact ⟨false, rfl, false, rfl, false, rfl, false, rfl, false, rfl, true, rfl, true, rfl, (show Q (.bl (i == i)) G by rw [show (i == i) = true by simp]; exact q G .refl)⟩
    | str s => exact ⟨false, rfl, false, rfl, false, rfl, true, rfl, true, rfl, false, rfl, false, rfl, (show Q (.bl (s == s)) G by rw [show (s == s) = true by simp]; exact q G .refl)⟩
    | tup _ => unfold okD at h; cases h
    | ref _ => unfold okD at h; cases h
    | ty _ => unfold okD at h; cases h
    | rl _ => unfold okD at h; cases h
  · refine ⟨true, rfl, true, rfl, false, rfl, false, rfl, ?_⟩
    refine iteN (by simp [h3]) ?_
    refine lc_ix (I := fun k acc G1 => acc = List.replicate k (.bl true) ∧ Grow G G1) 0 ⟨rfl, .refl⟩ ?_ ?_
    · rintro i x hx acc G1 N ⟨rfl, g1⟩ hN
      obtain ⟨a, b, e1, e2, rfl⟩ := zipD_get hx
      have hi := (List.getElem?_eq_some_iff.mp e1).1
      refine ⟨trivial, rfl, a, b, rfl, (h5 i a b e1 e2).grow g1, fun G2 g2 => ?_⟩
      exact ⟨szl (m := 10000) (by simp; omega), hN _ _ ⟨by rw [Nat.zero_add, List.replicate_succ'], g1.trans g2⟩⟩
    · rintro acc G1 ⟨rfl, g1⟩
      refine ⟨trivial, fun a fa => ⟨_, put_same, List.replicate xs.length true, ?_, ?_⟩⟩
      · rw [Nat.zero_add, zipD_len2 h3, List.map_replicate]
      · rw [show (List.replicate xs.length true).all id = true by simp]
        exact q _ (g1.trans (.new fa))
  · refine .inl ⟨⟨_, hb⟩, true, rfl, .inl ⟨⟨_, ha⟩, true, rfl, .inl ⟨⟨_, ha⟩, true, rfl, .inl ⟨⟨_, hb⟩, true, rfl, _, ha, _, hb, ?_⟩⟩⟩⟩
    refine iteN (by simp [h3]) ?_
    refine ⟨_, _, ha, hb, ?_⟩
    refine lc_ix (I := fun k acc G1 => acc = List.replicate k (.bl true) ∧ Grow G G1) 0 ⟨rfl, .refl⟩ ?_ ?_
    · rintro i x hx acc G1 N ⟨rfl, g1⟩ hN
      obtain ⟨a, b, e1, e2, rfl⟩ := zipD_get hx
      have hi := (List.getElem?_eq_some_iff.mp e1).1
      refine ⟨⟨g1 _ _ ha, g1 _ _ hb⟩, rfl, a, b, rfl, (h5 i a b e1 e2).grow g1, fun G2 g2 => ?_⟩
      exact ⟨szl (m := 10000) (by simp; omega), hN _ _ ⟨by rw [Nat.zero_add, List.replicate_succ'], g1.trans g2⟩⟩
    · rintro acc G1 ⟨rfl, g1⟩
      refine ⟨⟨g1 _ _ ha, g1 _ _ hb⟩, fun a fa => ⟨_, put_same, List.replicate xs.length true, ?_, ?_⟩⟩
      · rw [Nat.zero_add, zipD_len2 h3, List.map_replicate]
      · rw [show (List.replicate xs.length true).all id = true by simp]
        exact q _ (g1.trans (.new fa))
end DL

namespace DL
open PySem PySem.Spec PyProof.Rows L2
theorem cut_lo {α : Type} (xs : List D) {j : Nat} (h : j ≤ xs.length) : cutD xs (some (j : Int)) none = xs.drop j := by
  unfold cutD
  rw [HT.sIx_none, HT.sIx_nat, Nat.min_eq_left h, List.take_of_length_le (by simp)]
theorem cut_hi (xs : List D) {j : Nat} (h : j ≤ xs.length) : cutD xs none (some (j : Int)) = xs.take j := by
  unfold cutD
  rw [HT.sIx_none, HT.sIx_nat, Nat.min_eq_left h, List.drop_zero, Nat.sub_zero]
/-! names of ports -/
def numS (k : Nat) : Str := Str.ofString (toString (k : Int))
def boxS (k : Nat) : Str := "box" ++ numS k
def outS (k : Nat) : Str := "out" ++ numS k
def inS (k : Nat) : Str := "in" ++ numS k
def startS (k : Nat) : Str := "start" ++ numS k
def fromsL (b d : Nat) : List Str := ([("num" : Str)] ++ (List.range b).map boxS) ++ (List.range d).map outS
def insL (d : Nat) : List Str := (List.range d).flatMap fun k => [inS k, startS k]
def tosL (b d : Nat) : List Str := ((List.range b).map boxS ++ insL d) ++ [("tell" : Str), "go", "end"]
def deedsL : List Str := ["add", "less", "times", "both", "odd", "same", "under"]
theorem numS_tab : (List.range 200).all (fun k => decide ((numS k).length ≤ 3)) = true := by decide +kernel
theorem numS_len {k : Nat} (h : k < 200) : (numS k).length ≤ 3 := of_decide_eq_true (List.all_eq_true.mp numS_tab k (List.mem_range.mpr h))
theorem log_small {k : Nat} (h : k < 200) : (k : Int).natAbs.log2 < 1920 := by
  rw [Int.natAbs_natCast]
  exact Nat.lt_of_le_of_lt (Nat.log2_le_self k) (by omega)
theorem cat_sz {a : Str} {k : Nat} (h : k < 200) (ha : a.length ≤ 100) : a.length + (Str.ofString (toString (k : Int))).length ≤ sizeLine := by
  have := numS_len h
  unfold numS at this
  exact sz (m := 200) (by omega)
/-- 'x' + str(k) for k in range(n) -/
theorem lc_nums {g : DG} {te : DE} {ρ0 : Ev} {fin : List D → Sto → Prop} {G : Sto} {n : Nat} {j : Int} (pre : Str) (hj : j = n) (h : n ≤ 200)
    (step : ∀ i (R : DQ), i < 200 → R (.str (pre ++ numS i)) G → g (.int (i : Nat)) ρ0 G (fun ρ1 G1 => te ρ1 G1 R (fun _ _ => False)) (fun _ _ _ => False)) (q : fin (((List.range n).map fun i => pre ++ numS i).map D.str) G) :
    lcL g dYes te ρ0 (fun _ => True) fin (rangeD 0 j.toNat) [] G := by
  subst hj
  refine lc_map (fun i => .str (pre ++ numS i)) (by rw [rangeD_len]; exact szl (m := 200) (by omega)) trivial (fun i x R hx r => ?_) ?_
  · obtain ⟨hi, rfl⟩ := get_range hx
    rw [Int.zero_add]
    exact step i R (by omega) r
  · rw [rangeD_len, show ((n : Int)).toNat = n by omega]
    rw [List.map_map] at q
    exact q
def sp_l_deeds : DSp := fun ds G Q _ => ds = [] ∧ ∀ a, G a = none → Q (.ref a) (put G a (.lst (deedsL.map D.str)))
theorem len_l_deeds : LenS sp_l_deeds 0 := by rintro ds G Q xq ⟨rfl, _⟩; rfl
theorem body_l_deeds : Bod [] [] l_deedsC 0 sp_l_deeds := by
  rintro ds G Q xq ⟨rfl, q⟩
  exact ⟨sz (m := 7) (by simp), fun a fa => q a fa⟩
def sp_l_froms_by : DSp := fun ds G Q _ => ∃ b d : Nat, ds = [.int b, .int d] ∧ b ≤ 100 ∧ d ≤ 100 ∧ ∀ a G', G a = none → Grow G G' → G' a = some (.lst ((fromsL b d).map D.str)) → Q (.ref a) G'
theorem len_l_froms_by : LenS sp_l_froms_by 2 := by rintro ds G Q xq ⟨b, d, rfl, _⟩; rfl
theorem body_l_froms_by : Bod [] [] l_froms_byC 3 sp_l_froms_by := by
  rintro ds G Q xq ⟨b, d, rfl, hb, hd, q⟩
  refine ⟨sz (m := 7) (by simp), fun a0 f0 => ?_⟩
  refine ⟨by omega, by omega, ?_⟩
  refine lc_nums "box" rfl (by omega) (fun i R hi r => ?_) ?_
  · exact ⟨log_small hi, cat_sz hi (by decide), r⟩
  intro a1 f1
  have g1 := (Grow.new (c := .lst [.str "num"]) f0).trans (Grow.new (c := .lst (((List.range b).map fun i => ("box" : Str) ++ numS i).map D.str)) f1)
  refine ⟨_, _, Grow.new f1 _ _ put_same, put_same, sz (m := 300) (by simp; omega), fun a2 f2 => ?_⟩
  refine ⟨by omega, by omega, ?_⟩
  refine lc_nums "out" rfl (by omega) (fun i R hi r => ?_) ?_
  · exact ⟨log_small hi, cat_sz hi (by decide), r⟩
  intro a3 f3
  refine ⟨_, _, Grow.new f3 _ _ put_same, put_same, sz (m := 300) (by simp; omega), fun a4 f4 => ?_⟩
  refine q a4 _ (((g1.trans (.new f2)).trans (.new f3)).back f4) (((g1.trans (.new f2)).trans (.new f3)).trans (.new f4)) ?_
  rw [put_same]
  unfold fromsL
  simp only [List.map_append, List.map_cons, List.map_nil]
  rfl
def sp_l_tos_by : DSp := fun ds G Q _ => ∃ b d : Nat, ds = [.int b, .int d] ∧ b ≤ 100 ∧ d ≤ 100 ∧ ∀ a G', G a = none → Grow G G' → G' a = some (.lst ((tosL b d).map D.str)) → Q (.ref a) G'
theorem len_l_tos_by : LenS sp_l_tos_by 2 := by rintro ds G Q xq ⟨b, d, rfl, _⟩; rfl
theorem insL_succ (i : Nat) : insL (i + 1) = insL i ++ [inS i, startS i] := by
  unfold insL
  rw [List.range_succ, List.flatMap_append]
  simp
theorem insL_len (i : Nat) : (insL i).length = 2 * i := by
  induction i with
  | zero => rfl
  | succ i ih => rw [insL_succ, List.length_append, ih]; simp; omega
theorem body_l_tos_by : Bod [] [] l_tos_byC 4 sp_l_tos_by := by
  rintro ds G Q xq ⟨b, d, rfl, hb, hd, q⟩
  refine ⟨by omega, by omega, ?_⟩
  refine lc_nums "box" rfl (by omega) (fun i R hi r => ?_) ?_
  · exact ⟨log_small hi, cat_sz hi (by decide), r⟩
  intro a1 f1
  refine ⟨by omega, by omega, ?_⟩
  refine for_ix (I := fun k ρ G1 => Grow G G1 ∧ ∃ a x3, G a = none ∧ G1 a = some (.lst (((List.range b).map boxS ++ insL k).map D.str)) ∧ ρ = [some (.int b), some (.int d), some (.ref a), x3]) 0 ⟨.new f1, a1, none, f1, ?_, rfl⟩ ?_ ?_
  · rw [put_same]
    simp [insL]
    exact fun _ _ => rfl
  · rintro i x hx ρ G1 N ⟨g1, a, x3, fa, ea, rfl⟩ hN
    obtain ⟨hi, rfl⟩ := get_range hx
    rw [Int.zero_add] at *
    rw [Nat.zero_add] at *
    have hi2 : i < 200 := by omega
    refine ⟨trivial, log_small hi2, cat_sz hi2 (by decide), log_small hi2, cat_sz hi2 (by decide), sz (m := 7) (by simp), fun a2 f2 => ?_⟩
    refine ⟨_, _, Grow.new f2 _ _ ea, put_same, sz (m := 1000) (by simp [insL_len]; omega), fun a3 f3 => ?_⟩
    refine hN _ _ ⟨(g1.trans (.new f2)).trans (.new f3), a3, _, (g1.trans (.new f2)).back f3, ?_, rfl⟩
    rw [put_same, insL_succ]
    simp only [List.map_append, List.map_cons, List.map_nil, List.append_assoc]
    rfl
  · rintro ρ G1 ⟨g1, a, x3, fa, ea, rfl⟩
    rw [rangeD_len, Nat.zero_add, show ((d : Int)).toNat = d by omega] at ea
    refine ⟨trivial, sz (m := 7) (by simp), fun a2 f2 => ?_⟩
    refine ⟨_, _, Grow.new f2 _ _ ea, put_same, sz (m := 1000) (by simp [insL_len]; omega), fun a3 f3 => ?_⟩
    refine q a3 _ ((g1.trans (.new f2)).back f3) ((g1.trans (.new f2)).trans (.new f3)) ?_
    rw [put_same]
    unfold tosL
    simp only [List.map_append, List.map_cons, List.map_nil]
/-! some of a list -/
def SomeOf (ts xs : List Str) : Prop := xs ≠ [] ∧ ∃ ys, ys.Sublist ts ∧ xs.Perm ys
theorem SomeOf.mem {ts xs : List Str} (h : SomeOf ts xs) : ∀ x ∈ xs, x ∈ ts := fun x hx => by
  obtain ⟨_, ys, h1, h2⟩ := h
  exact h1.subset (h2.mem_iff.mp hx)
theorem SomeOf.len {ts xs : List Str} (h : SomeOf ts xs) : xs.length ≤ ts.length := by
  obtain ⟨_, ys, h1, h2⟩ := h
  rw [h2.length_eq]
  exact h1.length_le
def StrsOk (ts : List Str) : Prop := ∀ t ∈ ts, PyData.strOk t = true
def sp_l_some : DSp := fun ds G Q _ => ∃ p c t ts, ds = [.ref p, .ref t] ∧ Pen G p c ∧ G t = some (.lst (ts.map D.str)) ∧ t ≠ p ∧ ts ≠ [] ∧ ts.length ≤ 100 ∧ StrsOk ts ∧ ∀ xs G', SomeOf ts xs → Pen G' p c → Keeps p G G' → Q (.tup (xs.map D.str)) G'
theorem len_l_some : LenS sp_l_some 2 := by rintro ds G Q xq ⟨p, c, t, ts, rfl, _⟩; rfl
theorem rot_perm {α : Type} (xs : List α) (j : Nat) : (xs.drop j ++ xs.take j).Perm xs := by
  have := (List.perm_append_comm (l₁ := xs.drop j) (l₂ := xs.take j))
  rwa [List.take_append_drop] at this
theorem sub_snoc {α : Type} {ys ts : List α} {i : Nat} {x : α} (h : ys.Sublist (ts.take i)) (e : ts[i]? = some x) : (ys ++ [x]).Sublist (ts.take (i + 1)) := by
  rw [← take_snoc e]
  exact h.append (List.Sublist.refl _)
theorem sub_step {α : Type} {ys ts : List α} {i : Nat} (h : ys.Sublist (ts.take i)) : ys.Sublist (ts.take (i + 1)) := h.trans (List.take_sublist_take_left (Nat.le_succ i))
theorem body_l_some : Bod [spDraw] [] l_someC 7 sp_l_some := by
  rintro ds G Q xq ⟨p, c, t, ts, rfl, hp, ht, hne, hts, hlen, hok, q⟩
  have pw : 0 ≤ (24 : Int) := by decide
  refine ⟨⟨by decide, by decide, by decide⟩, p, c, 2 ^ 24, rfl, by decide, by decide, hp, fun r1 G1 _ _ hp1 o1 => ?_⟩
  refine ⟨⟨by decide, by decide, by decide⟩, p, c, 2 ^ 24, rfl, by decide, by decide, hp1, fun r2 G2 h20 h21 hp2 o2 => ?_⟩
  refine ⟨p, c, 2, rfl, by decide, by decide, hp2, fun r3 G3 h30 h31 hp3 o3 => ?_⟩
  have o13 := (o1.trans o2).trans o3
  have ht3 : G3 t = some (.lst (ts.map D.str)) := by rw [o13 t hne]; exact ht
  refine ⟨mulL (by omega) (by omega), _, ht3, ?_⟩
  have hl0 : 1 ≤ ts.length := by
    cases ts with
    | nil => exact (hts rfl).elim
    | cons _ _ => simp
  refine ⟨p, c, _, rfl, by rw [List.length_map]; omega, by rw [List.length_map]; omega, hp3, fun r4 G4 h40 h41 hp4 o4 => ?_⟩
  have o14 := o13.trans o4
  have ht4 : G4 t = some (.lst (ts.map D.str)) := by rw [o14 t hne]; exact ht
  refine ⟨sz (m := 0) (by simp), fun f ff => ?_⟩
  obtain ⟨nfp, nfc⟩ := hp4.ne ff
  have nft : t ≠ f := ne_new ff ht4
  rw [List.length_map] at h41
  -- the end, from the list that was found
  have fin : ∀ (ys : List Str) (G5 : Sto) (a : Addr) (x2 x3 x6 : Option D), ys ≠ [] → ys.Sublist ts → G5 a = some (.lst (ys.map D.str)) → Pen G5 p c → Keeps p G G5 →
      denB [spDraw] [] (l_someC.drop 6) (Fin0 Q xq) [some (.ref p), some (.ref t), x2, x3, some (.int r4), some (.ref a), x6] G5 := by
    intro ys G5 a x2 x3 x6 hy hsub e5 hp5 k5
    refine ⟨_, e5, ?_⟩
    have hyl : 0 < ys.length := by
      cases ys with
      | nil => exact (hy rfl).elim
      | cons _ _ => simp
    have hle := hsub.length_le
    refine ⟨by rw [List.length_map]; omega, ?_⟩
    rw [List.length_map]
    have b0 := Int.emod_nonneg r4 (show (ys.length : Int) ≠ 0 by omega)
    have b1 := Int.emod_lt_of_pos r4 (show (0 : Int) < ys.length by omega)
    obtain ⟨j, hj⟩ : ∃ j : Nat, r4 % (ys.length : Int) = j := ⟨(r4 % (ys.length : Int)).toNat, by omega⟩
    have hjl : j ≤ ys.length := by omega
    have ec : cutD (ys.map D.str) (some (r4 % (ys.length : Int))) none ++ cutD (ys.map D.str) none (some (r4 % (ys.length : Int))) = (ys.drop j ++ ys.take j).map D.str := by
      rw [hj, cut_lo (α := D) _ (by rw [List.length_map]; exact hjl), cut_hi _ (by rw [List.length_map]; exact hjl), ← List.map_drop, ← List.map_take, ← List.map_append]
    refine ⟨_, e5, fun a1 f1 => ?_⟩
    refine ⟨_, Grow.new f1 _ _ e5, fun a2 f2 => ?_⟩
    refine ⟨_, _, Grow.new f2 _ _ put_same, put_same, ?_, fun a3 f3 => ?_⟩
    · rw [← List.length_append, ec, List.length_map, List.length_append, List.length_drop, List.length_take]
      exact sz (m := 1000) (by omega)
    refine ⟨_, put_same, ?_⟩
    refine Eq.mp (congrArg (fun z => Q (.tup z) _) ec.symm) (q _ _ ⟨?_, ys, hsub, rot_perm ys j⟩ (((hp5.new f1).new f2).new f3) (((k5.trans (.new f1)).trans (.new f2)).trans (.new f3)))
    intro z
    have := (rot_perm ys j).length_eq
    rw [z, List.length_nil] at this
    omega
  have ht5 : put G4 f (.lst []) t = some (.lst (ts.map D.str)) := by rw [put_ne nft]; exact ht4
  refine ⟨_, ht5, ?_⟩
  refine for_ix (I := fun k ρ G5 => ∃ ys b m x6, ys.Sublist (ts.take k) ∧ G5 = put G4 f (.lst (ys.map D.str)) ∧ ρ = [some (.ref p), some (.ref t), some (.int b), some (.int m), some (.int r4), some (.ref f), x6]) 0 ⟨[], _, _, _, by simp, rfl, rfl⟩ ?_ ?_
  · rintro i x hx ρ G5 N ⟨ys, b, m, x6, hs, rfl, rfl⟩ hN
    rw [Nat.zero_add] at *
    rw [List.getElem?_map] at hx
    cases e : ts[i]? with
    | none => rw [e] at hx; cases hx
    | some z =>
      rw [e] at hx
      obtain rfl := Option.some.inj hx
      refine ⟨by show put G4 f _ t = _; rw [put_ne nft]; exact ht4, show (0 : Int) < 2 by decide, show (0 : Int) < 2 by decide, ?_⟩
      have hyl : ys.length ≤ ts.length := Nat.le_trans hs.length_le (List.length_take_le' _ _)
      refine ite2 (fun h => ?_) (fun h => ?_)
      · refine ⟨⟨rfl, _, put_same⟩, _, put_same, szl (m := 1000) (by rw [List.length_map]; omega), .inl ⟨by decide, by decide⟩, .inl ⟨by decide, by decide⟩, ?_⟩
        refine hN _ _ ⟨ys ++ [z], _, _, _, sub_snoc hs e, ?_, rfl⟩
        rw [put_put, List.map_append]
        rfl
      · refine ⟨.inl ⟨by decide, by decide⟩, .inl ⟨by decide, by decide⟩, ?_⟩
        exact hN _ _ ⟨ys, _, _, _, sub_step hs, rfl, rfl⟩
  · rintro ρ G5 ⟨ys, b, m, x6, hs, rfl, rfl⟩
    rw [Nat.zero_add, List.length_map, List.take_length] at hs
    refine ⟨by show put G4 f _ t = _; rw [put_ne nft]; exact ht4, sz (m := 0) (by simp), fun a1 f1 => ?_⟩
    have kk : Keeps p G (put G4 f (.lst (ys.map D.str))) := o14.keeps.trans (Keeps.new ff)
    refine eq_lst (n := 0) (Grow.new f1 _ _ put_same) put_same (strs_ok 0 fun t ht => hok t (hs.subset ht)) rfl (by decide) ?_
    rw [eqvAll_nil]
    refine ite2 (fun h => ?_) (fun h => ?_)
    · obtain ⟨j, z, rfl, h1, h2⟩ := at_nat (xs := ts) h40 (by omega)
      have h3 : atI (ts.map D.str) (j : Int) = some (.str z) := atI_nat (by rw [List.getElem?_map, h1]; rfl)
      refine ⟨_, _, ?_, h3, sz (m := 7) (by simp), fun a2 f2 => ?_⟩
      · exact Grow.new f1 _ _ (by rw [put_ne nft]; exact ht4)
      · exact fin [z] _ a2 _ _ _ (by simp) (by simpa using List.mem_of_getElem? h1) put_same (((hp4.new ff).new f1).new f2) ((kk.trans (.new f1)).trans (.new f2))
    · refine fin ys _ f _ _ _ (fun z => ?_) hs (Grow.new f1 _ _ put_same) ((hp4.new ff).new f1) (kk.trans (.new f1))
      subst z
      exact h rfl
end DL

namespace DL
open PySem PySem.Spec PyProof.Rows L2
/-! machines -/
structure Mach where
  lag : Nat
  boxes : Nat
  doers : List (Nat × List Str)
  ways : List (List Str × List Str)
def strsD (xs : List Str) : D := .tup (xs.map D.str)
def doerD (d : Nat × List Str) : D := .tup [.int d.1, strsD d.2]
def wayD (w : List Str × List Str) : D := .tup [strsD w.1, strsD w.2]
def Mach.d (m : Mach) : D := .tup [.int m.lag, .int m.boxes, .tup (m.doers.map doerD), .tup (m.ways.map wayD)]
def DoerOk (d : Nat × List Str) : Prop := 1 ≤ d.1 ∧ d.1 ≤ 4 ∧ SomeOf deedsL d.2
def WayOk (b n : Nat) (w : List Str × List Str) : Prop := SomeOf (fromsL b n) w.1 ∧ SomeOf (tosL b n) w.2
structure Mach.Ok (m : Mach) : Prop where
  lag : m.lag ≤ 3
  b1 : 1 ≤ m.boxes
  b2 : m.boxes ≤ 12
  d1 : 1 ≤ m.doers.length
  d2 : m.doers.length ≤ 4
  dk : ∀ d ∈ m.doers, DoerOk d
  w1 : 1 ≤ m.ways.length
  w2 : m.ways.length ≤ 6
  wk : ∀ w ∈ m.ways, WayOk m.boxes m.doers.length w
theorem port_ok (a : String) (k : Nat) : PyData.strOk (Str.ofString a ++ numS k) = true := strOk_cat (strOk_of a) (strOk_of _)
theorem froms_ok (b d : Nat) : StrsOk (fromsL b d) := by
  intro t ht
  unfold fromsL at ht
  rcases List.mem_append.mp ht with ht | ht
  · rcases List.mem_append.mp ht with ht | ht
    · rw [List.mem_singleton] at ht
      rw [ht]
      exact strOk_of "num"
    · obtain ⟨k, _, rfl⟩ := List.mem_map.mp ht
      exact port_ok _ k
  · obtain ⟨k, _, rfl⟩ := List.mem_map.mp ht
    exact port_ok _ k
theorem tos_ok (b d : Nat) : StrsOk (tosL b d) := by
  intro t ht
  unfold tosL at ht
  rcases List.mem_append.mp ht with ht | ht
  · rcases List.mem_append.mp ht with ht | ht
    · obtain ⟨k, _, rfl⟩ := List.mem_map.mp ht
      exact port_ok _ k
    · unfold insL at ht
      obtain ⟨k, _, ht⟩ := List.mem_flatMap.mp ht
      simp only [List.mem_cons, List.not_mem_nil, or_false] at ht
      rcases ht with rfl | rfl
      · exact port_ok _ k
      · exact port_ok _ k
  · simp only [List.mem_cons, List.not_mem_nil, or_false] at ht
    rcases ht with rfl | rfl | rfl
    · exact strOk_of "tell"
    · exact strOk_of "go"
    · exact strOk_of "end"
theorem deeds_ok : StrsOk deedsL := by
  intro t ht
  unfold deedsL at ht
  simp only [List.mem_cons, List.not_mem_nil, or_false] at ht
  rcases ht with rfl | rfl | rfl | rfl | rfl | rfl | rfl <;> exact strOk_of _
theorem froms_len (b d : Nat) : (fromsL b d).length = 1 + b + d := by
  unfold fromsL
  simp
  omega
theorem tos_len (b d : Nat) : (tosL b d).length = b + 2 * d + 3 := by
  unfold tosL
  simp [insL_len]
  omega
theorem SomeOf.all {ts : List Str} (h : ts ≠ []) : SomeOf ts ts := ⟨h, ts, List.Sublist.refl _, List.Perm.refl _⟩
theorem SomeOf.rev {ts : List Str} (h : ts ≠ []) : SomeOf ts ts.reverse := ⟨by simpa using h, ts, List.Sublist.refl _, List.reverse_perm ts⟩
theorem ne_of_len {α : Type} {xs : List α} (h : 1 ≤ xs.length) : xs ≠ [] := fun z => by
  subst z
  simp at h
def sp_l_machine_by : DSp := fun ds G Q _ => ∃ p c n wh, ds = [.ref p, .int n, .bl wh] ∧ 1 ≤ n ∧ n ≤ 12 ∧ Pen G p c ∧ ∀ (m : Mach) G', m.Ok → Pen G' p c → Keeps p G G' → Q m.d G'
theorem len_l_machine_by : LenS sp_l_machine_by 3 := by rintro ds G Q xq ⟨p, c, n, wh, rfl, _⟩; rfl
abbrev FM : List DSp := [spDraw, sp_l_some, sp_l_tos_by, sp_l_froms_by, sp_l_deeds]
theorem pen_not_lst {G : Sto} {p c a : Addr} {ts : List Str} (h : Pen G p c) (e : G a = some (.lst (ts.map D.str))) : a ≠ p := fun z => by
  subst z
  obtain ⟨x, r, cells, h1, _⟩ := h
  rw [e] at h1
  injection h1 with h1
  injection h1 with h1
  cases ts with
  | nil => cases h1
  | cons t ts =>
    injection h1 with h1
    cases h1
theorem body_l_machine_by : Bod FM [] l_machine_byC 12 sp_l_machine_by := by
  rintro ds G Q xq ⟨p, c, n, wh, rfl, hn1, hn2, hp, q⟩
  refine ⟨p, c, 4, rfl, by decide, by decide, hp, fun lag G1 hl0 hl1 hp1 o1 => ?_⟩
  refine ⟨p, c, n, rfl, hn1, by omega, hp1, fun r2 G2 h20 h21 hp2 o2 => ?_⟩
  have o12 := o1.trans o2
  obtain ⟨lag, rfl⟩ : ∃ j : Nat, lag = j := ⟨lag.toNat, by omega⟩
  -- from the number of boxes on
  have tail : ∀ b : Nat, 1 ≤ b → b ≤ 12 → denB FM [] (l_machine_byC.drop 3) (Fin0 Q xq) [some (.ref p), some (.int b), some (.bl wh), some (.int lag), none, none, none, none, none, none, none, none] G2 := by
    intro b hb1 hb2
    refine ⟨p, c, 4, rfl, by decide, by decide, hp2, fun r3 G3 h30 h31 hp3 o3 => ?_⟩
    refine ⟨by omega, by omega, ?_⟩
    refine lc_ix (I := fun k acc G1 => ∃ ds : List (Nat × List Str), acc = ds.map doerD ∧ ds.length = k ∧ (∀ d ∈ ds, DoerOk d) ∧ Pen G1 p c ∧ Keeps p G G1) 0 ⟨[], rfl, rfl, by simp, hp3, (o12.trans o3).keeps⟩ ?_ ?_
    · rintro i x hx acc G4 N ⟨ds, rfl, hl, hd, hp4, k4⟩ hN
      obtain ⟨hi, rfl⟩ := get_range hx
      refine ⟨trivial, ?_⟩
      refine ⟨p, c, 4, rfl, by decide, by decide, hp4, fun r5 G5 h50 h51 hp5 o5 => ?_⟩
      refine ⟨rfl, fun a fa => ?_⟩
      obtain ⟨n1, n2⟩ := hp5.ne fa
      refine ⟨p, c, a, deedsL, rfl, hp5.new fa, put_same, n1, by decide, by decide, deeds_ok, fun xs G6 hxs hp6 k6 => ?_⟩
      obtain ⟨j, rfl⟩ : ∃ j : Nat, r5 = j := ⟨r5.toNat, by omega⟩
      refine ⟨sz (m := 2) (by simp), szl (m := 100) (by rw [List.length_map]; omega), hN _ _ ⟨ds ++ [(1 + j, xs)], ?_, by simp [hl], ?_, hp6, ((k4.trans o5.keeps).trans (.new fa)).trans k6⟩⟩
      · rw [List.map_append]
        rfl
      · intro d hd'
        rcases List.mem_append.mp hd' with hd' | hd'
        · exact hd d hd'
        · rw [List.mem_singleton] at hd'
          subst hd'
          exact ⟨by show 1 ≤ 1 + j; omega, by show 1 + j ≤ 4; omega, hxs⟩
    · rintro acc G4 ⟨ds, rfl, hl, hd, hp4, k4⟩
      rw [rangeD_len, Nat.zero_add] at hl
      refine ⟨trivial, fun a5 f5 => ⟨_, put_same, ?_⟩⟩
      have hdl : ds.length ≤ 4 := by omega
      have hdl1 : 1 ≤ ds.length := by omega
      refine ⟨b, ds.length, by rw [List.length_map], by omega, by omega, fun a6 G6 f6 g6 e6 => ?_⟩
      refine ⟨b, ds.length, by rw [List.length_map], by omega, by omega, fun a7 G7 f7 g7 e7 => ?_⟩
      refine ⟨sz (m := 2) (by simp), rfl, ?_⟩
      have hp7 : Pen G7 p c := ((hp4.new f5).grow g6).grow g7
      have k7 : Keeps p G G7 := ((k4.trans (.new f5)).trans g6.keeps).trans g7.keeps
      have n6 : a6 ≠ p := pen_not_lst hp7 (g7 _ _ e6)
      have n7 : a7 ≠ p := pen_not_lst hp7 e7
      have hfl : fromsL b ds.length ≠ [] := ne_of_len (by rw [froms_len]; omega)
      have htl : tosL b ds.length ≠ [] := ne_of_len (by rw [tos_len]; omega)
      have sf : ∀ {Gx : Sto}, Keeps p G7 Gx → Gx a6 = some (.lst ((fromsL b ds.length).map D.str)) := fun k => k _ _ n6 (g7 _ _ e6)
      have st : ∀ {Gx : Sto}, Keeps p G7 Gx → Gx a7 = some (.lst ((tosL b ds.length).map D.str)) := fun k => k _ _ n7 e7
      refine ⟨p, c, 6, rfl, by decide, by decide, hp7, fun r8 G8 h80 h81 hp8 o8 => ?_⟩
      refine ⟨by omega, by omega, ?_⟩
      refine lc_ix (I := fun k acc G1 => ∃ ws : List (List Str × List Str), acc = ws.map wayD ∧ ws.length = k ∧ (∀ w ∈ ws, WayOk b ds.length w) ∧ Pen G1 p c ∧ Keeps p G7 G1) 0 ⟨[], rfl, rfl, by simp, hp8, o8.keeps⟩ ?_ ?_
      · rintro i x hx acc G9 N ⟨ws, rfl, hlw, hw, hp9, k9⟩ hN
        obtain ⟨hi, rfl⟩ := get_range hx
        refine ⟨trivial, ?_⟩
        refine ⟨p, c, a6, _, rfl, hp9, sf k9, n6, hfl, by rw [froms_len]; omega, froms_ok _ _, fun xs G10 hxs hp10 k10 => ?_⟩
        refine ⟨p, c, a7, _, rfl, hp10, st (k9.trans k10), n7, htl, by rw [tos_len]; omega, tos_ok _ _, fun ys G11 hys hp11 k11 => ?_⟩
        refine ⟨sz (m := 2) (by simp), szl (m := 100) (by rw [List.length_map]; omega), hN _ _ ⟨ws ++ [(xs, ys)], ?_, by simp [hlw], ?_, hp11, (k9.trans k10).trans k11⟩⟩
        · rw [List.map_append]
          rfl
        · intro d hd'
          rcases List.mem_append.mp hd' with hd' | hd'
          · exact hw d hd'
          · rw [List.mem_singleton] at hd'
            subst hd'
            exact ⟨hxs, hys⟩
      · rintro acc G9 ⟨ws, rfl, hlw, hw, hp9, k9⟩
        rw [rangeD_len, Nat.zero_add] at hlw
        refine ⟨trivial, fun a10 f10 => ?_⟩
        have hp10 : Pen (put G9 a10 (.lst (ws.map wayD))) p c := hp9.new f10
        obtain ⟨nw1, nw2⟩ := hp9.ne f10
        have k10 : Keeps p G7 (put G9 a10 (.lst (ws.map wayD))) := k9.trans (.new f10)
        -- the end
        have fin : ∀ (ws : List (List Str × List Str)) (Gx : Sto) x8 x9, 1 ≤ ws.length → ws.length ≤ 6 → (∀ w ∈ ws, WayOk b ds.length w) → Gx a10 = some (.lst (ws.map wayD)) → Pen Gx p c → Keeps p G7 Gx →
            denB FM [] (l_machine_byC.drop 7) (Fin0 Q xq) [some (.ref p), some (.int b), some (.bl wh), some (.int lag), some (.tup (ds.map doerD)), some (.ref a10), some (.ref a6), some (.ref a7), x8, x9, none, none] Gx := by
          intro ws Gx x8 x9 w1 w2 wk ew hpx kx
          refine ⟨_, ew, sz (m := 4) (by simp), ?_⟩
          exact q ⟨lag, b, ds, ws⟩ Gx ⟨by show lag ≤ 3; omega, hb1, hb2, hdl1, hdl, hd, w1, w2, wk⟩ hpx (k7.trans kx)
        cases wh with
        | false => exact fin ws _ none none (by omega) (by omega) hw put_same hp10 k10
        | true =>
          refine ⟨p, c, a7, _, rfl, hp10, st k10, n7, htl, by rw [tos_len]; omega, tos_ok _ _, fun part G11 hpart hp11 k11 => ?_⟩
          have k711 := k10.trans k11
          refine ⟨_, st k711, ?_⟩
          refine lc_filt (b := fun x => !memF x (part.map D.str)) (f := id) (by rw [List.length_map, tos_len]; exact szl (m := 100) (by omega)) (st k711) (fun x A B hx ha hb => ?_) ?_
          · obtain ⟨t, _, rfl⟩ := List.mem_map.mp hx
            refine ⟨rfl, List.all_eq_true.mpr fun d hd => ?_, ?_⟩
            · obtain ⟨z, _, rfl⟩ := List.mem_map.mp hd
              rfl
            · cases e : !memF (.str t) (part.map D.str) with
              | true => exact ha e
              | false => exact hb e
          have erest : (((tosL b ds.length).map D.str).filter fun x => !memF x (part.map D.str)).map id = ((tosL b ds.length).filter fun t => !memF (.str t) (part.map D.str)).map D.str := by
            rw [List.map_id, List.filter_map]
            rfl
          rw [erest]
          intro a12 f12
          have ew11 : G11 a10 = some (.lst (ws.map wayD)) := k11 _ _ nw1 put_same
          have ew12 := Grow.new (c := .lst (((tosL b ds.length).filter fun t => !memF (.str t) (part.map D.str)).map D.str)) f12 _ _ ew11
          have k712 := k711.trans (Keeps.new (c := .lst (((tosL b ds.length).filter fun t => !memF (.str t) (part.map D.str)).map D.str)) f12)
          have hp12 := hp11.new (x := .lst (((tosL b ds.length).filter fun t => !memF (.str t) (part.map D.str)).map D.str)) f12
          have er : put G11 a12 (.lst (((tosL b ds.length).filter fun t => !memF (.str t) (part.map D.str)).map D.str)) a12 = _ := put_same
          have hrs : ((tosL b ds.length).filter fun t => !memF (.str t) (part.map D.str)).Sublist (tosL b ds.length) := List.filter_sublist
          revert ew12 k712 hp12 er hrs
          generalize ((tosL b ds.length).filter fun t => !memF (.str t) (part.map D.str)) = rest
          generalize hG12 : put G11 a12 (.lst (rest.map D.str)) = G12
          intro ew12 k712 hp12 er hrs
          have nr : a12 ≠ a10 := (ne_new f12 ew11).symm
          have n6w : a6 ≠ a10 := fun z => by
            have h9 : G9 a6 = _ := sf k9
            rw [z, f10] at h9
            cases h9
          have n7w : a7 ≠ a10 := fun z => by
            have h9 : G9 a7 = _ := st k9
            rw [z, f10] at h9
            cases h9
          refine ⟨_, sf k712, _, st k712, sz (m := 2) (by simp), ?_⟩
          have hlw0 : (ws.map wayD)[0]? = some ((ws.map wayD)[0]'(by rw [List.length_map]; omega)) := List.getElem?_eq_getElem _
          refine ⟨_, _, ew12, ixN_nat (j := 0) hlw0, ?_⟩
          obtain ⟨w0, ws', rfl⟩ : ∃ w0 ws', ws = w0 :: ws' := by
            cases ws with
            | nil => rw [List.length_nil] at hlw; omega
            | cons a b => exact ⟨a, b, rfl⟩
          have hset : ((w0 :: ws').map wayD).set 0 (.tup [strsD (fromsL b ds.length), strsD (tosL b ds.length)]) = ((fromsL b ds.length, tosL b ds.length) :: ws').map wayD := rfl
          -- a cell of the ways changed
          have kset : ∀ {cl : Cl} {Gx : Sto}, (∀ x, x ≠ a10 → ∀ cl, G12 x = some cl → Gx x = some cl) → Keeps p G9 Gx := fun {cl Gx} h x cl' nx ex => by
            have nxw : x ≠ a10 := ne_new f10 ex
            have e10 : put G9 a10 (.lst ((w0 :: ws').map wayD)) x = some cl' := by rw [put_ne nxw]; exact ex
            have e11 := k11 _ _ nx e10
            have e12 : G12 x = some cl' := by
              rw [← hG12]
              exact Grow.new f12 _ _ e11
            exact h x nxw _ e12
          have W1 : ∀ w ∈ ((fromsL b ds.length, tosL b ds.length) :: ws'), WayOk b ds.length w := by
            intro w hw'
            rcases List.mem_cons.mp hw' with rfl | hw'
            · exact ⟨.all hfl, .all htl⟩
            · exact hw w (by simp [hw'])
          rw [List.length_cons] at hlw
          have k13 : Keeps p G7 (put G12 a10 (.lst (((fromsL b ds.length, tosL b ds.length) :: ws').map wayD))) := k9.trans (kset (cl := .lst []) fun x nx cl e => by rw [put_ne nx]; exact e)
          have hp13 := hp12.put (x := .lst (((fromsL b ds.length, tosL b ds.length) :: ws').map wayD)) nw1.symm.symm nw2
          have er13 : put G12 a10 (.lst (((fromsL b ds.length, tosL b ds.length) :: ws').map wayD)) a12 = some (.lst (rest.map D.str)) := by rw [put_ne nr]; exact er
          refine ⟨sz (m := 0) (by simp), fun a14 f14 => ?_⟩
          refine ne_lst (n := 0) (Grow.new f14 _ _ er13) put_same (strs_ok 0 fun t ht => tos_ok _ _ t (hrs.subset ht)) rfl (by decide) ?_
          rw [eqvAll_nil]
          have ew13 : put (put G12 a10 (.lst (((fromsL b ds.length, tosL b ds.length) :: ws').map wayD))) a14 (.lst []) a10 = some (.lst (((fromsL b ds.length, tosL b ds.length) :: ws').map wayD)) := Grow.new f14 _ _ put_same
          have stop := fin ((fromsL b ds.length, tosL b ds.length) :: ws') (put (put G12 a10 (.lst (((fromsL b ds.length, tosL b ds.length) :: ws').map wayD))) a14 (.lst [])) (some (strsD part)) (some (.ref a12)) (by simp) (by rw [List.length_cons]; omega) W1 ew13 (hp13.new f14) (k13.trans (.new f14))
          refine ite2 (fun h1 => ?_) (fun h1 => stop)
          refine ⟨_, ew13, ?_⟩
          refine ite2 (fun h2 => ?_) (fun h2 => stop)
          have h2' := of_decide_eq_true h2
          rw [List.length_map, List.length_cons] at h2'
          refine ⟨p, c, 2, rfl, by decide, by decide, hp13.new f14, fun r15 G15 _ _ hp15 o15 => ?_⟩
          have ew15 : G15 a10 = some (.lst (((fromsL b ds.length, tosL b ds.length) :: ws').map wayD)) := by rw [o15 _ nw1]; exact ew13
          have k15 : Keeps p G7 G15 := (k13.trans (.new f14)).trans o15.keeps
          refine ite2 (fun h3 => ?_) (fun h3 => fin _ _ _ _ (by simp) (by rw [List.length_cons]; omega) W1 ew15 hp15 k15)
          refine ⟨_, sf k15, sz (m := 2) (by simp), ?_⟩
          refine ⟨_, _, ew15, ixN_nat (j := 0) rfl, ?_⟩
          have W2 : ∀ w ∈ ((fromsL b ds.length, part) :: ws'), WayOk b ds.length w := by
            intro w hw'
            rcases List.mem_cons.mp hw' with rfl | hw'
            · exact ⟨.all hfl, hpart⟩
            · exact hw w (by simp [hw'])
          have h15 : ∀ x, x ≠ a10 → ∀ cl, G12 x = some cl → x ≠ p → G15 x = some cl := fun x nx cl e np => by
            rw [o15 x np]
            exact Grow.new f14 _ _ (by rw [put_ne nx]; exact e)
          have hs2 : (put G15 a10 (.lst (((fromsL b ds.length, part) :: ws').map wayD))) a10 = some (.lst (((fromsL b ds.length, part) :: ws').map wayD)) := put_same
          have hp16 := hp15.put (x := .lst (((fromsL b ds.length, part) :: ws').map wayD)) nw1 nw2
          have ef16 : (put G15 a10 (.lst (((fromsL b ds.length, part) :: ws').map wayD))) a6 = some (.lst ((fromsL b ds.length).map D.str)) := by rw [put_ne n6w]; exact sf k15
          have er16 : (put G15 a10 (.lst (((fromsL b ds.length, part) :: ws').map wayD))) a12 = some (.lst (rest.map D.str)) := by
            have hne12 : a12 ≠ p := pen_not_lst hp12 er
            rw [put_ne nr]
            exact h15 _ nr _ er hne12
          refine ⟨⟨rfl, _, hs2⟩, _, ef16, fun a17 f17 => ?_⟩
          refine ⟨_, put_same, _, Grow.new f17 _ _ er16, sz (m := 2) (by simp), _, Grow.new f17 _ _ hs2, szl (m := 10) (by rw [List.length_map, List.length_cons]; omega), ?_⟩
          have hne : rest ≠ [] := fun z => by
            subst z
            exact Bool.noConfusion h1
          refine fin (((fromsL b ds.length, part) :: ws') ++ [((fromsL b ds.length).reverse, rest)]) _ _ _ (by simp) (by simp; omega) ?_ ?_ ?_ ?_
          · intro w hw'
            rcases List.mem_append.mp hw' with hw' | hw'
            · exact W2 w hw'
            · rw [List.mem_singleton] at hw'
              subst hw'
              exact ⟨.rev hfl, hne, rest, hrs, List.Perm.refl _⟩
          · rw [put_same, List.map_append, ← List.map_reverse]
            rfl
          · exact (hp16.new f17).put nw1 nw2
          · refine k9.trans ?_
            intro x cl nx ex
            have nxw : x ≠ a10 := ne_new f10 ex
            have e12 : G12 x = some cl := by
              rw [← hG12]
              refine Grow.new f12 _ _ (k11 _ _ nx ?_)
              rw [put_ne nxw]
              exact ex
            rw [put_ne nxw]
            refine Grow.new f17 _ _ ?_
            rw [put_ne nxw]
            exact h15 x nxw _ e12 nx
  cases wh with
  | false =>
    have e : (1 : Int) + r2 = ((1 + r2.toNat : Nat) : Int) := by omega
    have := tail (1 + r2.toNat) (by omega) (by omega)
    rw [← e] at this
    exact this
  | true =>
    by_cases h : (4 : Int) > 1 + r2
    · have := tail 4 (by omega) (by omega)
      have e : (if (4 : Int) > 1 + r2 then (4 : Int) else 1 + r2) = ((4 : Nat) : Int) := by rw [if_pos h]; rfl
      rw [← e] at this
      exact this
    · have e : (if (4 : Int) > 1 + r2 then (4 : Int) else 1 + r2) = ((1 + r2.toNat : Nat) : Int) := by rw [if_neg h]; omega
      have := tail (1 + r2.toNat) (by omega) (by omega)
      rw [← e] at this
      exact this
end DL

namespace DL
open PySem PySem.Spec PyProof.Rows L2
theorem strs_alike {G : Sto} {ts : List Str} {n : Nat} (h : StrsOk ts) (hl : ts.length ≤ 10000) : Alike (n + 2) G (strsD ts) (strsD ts) := by
  refine Alike.self (fun d hd => ?_) (by rw [List.length_map]; exact hl)
  obtain ⟨t, ht, rfl⟩ := List.mem_map.mp hd
  unfold okD
  exact h t ht
theorem strs_flat (ts : List Str) : (ts.map D.str).all flatD = true := List.all_eq_true.mpr fun d hd => by
  obtain ⟨t, _, rfl⟩ := List.mem_map.mp hd
  rfl
theorem memF_str {t : Str} {ts : List Str} : memF (.str t) (ts.map D.str) = decide (t ∈ ts) := by
  unfold memF
  rw [List.any_map]
  induction ts with
  | nil => rfl
  | cons a r ih =>
    rw [List.any_cons, ih]
    by_cases e : a = t
    · subst e
      simp [eqF]
    · have : (eqF (.str a) (.str t)) = false := by
        show (a == t) = false
        exact beq_eq_false_iff_ne.mpr e
      simp [this, Ne.symm e]
/-! ways that join -/
def jB (b e : Str) (x : D) : Bool := match x with
  | .tup [_, .tup [.tup fs, .tup ts]] => memF (.str b) fs && memF (.str e) ts
  | _ => false
def jF (x : D) : D := match x with
  | .tup [k, _] => k
  | _ => .non
def jN (b e : Str) (ds : List D) : List D := ((enumD ds).filter (jB b e)).map jF
theorem enumD_get {ds : List D} {i : Nat} {d : D} (h : ds[i]? = some d) : (enumD ds)[i]? = some (.tup [.int (i : Nat), d]) := by
  unfold enumD
  rw [List.getElem?_mapIdx, h]
  rfl
theorem enumD_mem {ds : List D} {x : D} (h : x ∈ enumD ds) : ∃ (i : Nat) (d : D), ds[i]? = some d ∧ x = .tup [.int (i : Nat), d] := by
  obtain ⟨i, hi⟩ := List.getElem?_of_mem h
  unfold enumD at hi
  rw [List.getElem?_mapIdx] at hi
  cases e : ds[i]? with
  | none => rw [e] at hi; cases hi
  | some d =>
    rw [e] at hi
    exact ⟨i, d, e, (Option.some.inj hi).symm⟩
theorem ways_get {ws : List (List Str × List Str)} {i : Nat} {x : D} (h : (ws.map wayD)[i]? = some x) : ∃ w, ws[i]? = some w ∧ x = wayD w := by
  rw [List.getElem?_map] at h
  cases e : ws[i]? with
  | none => rw [e] at h; cases h
  | some w =>
    rw [e] at h
    exact ⟨w, rfl, (Option.some.inj h).symm⟩
theorem jN_ok {b e : Str} {ws : List (List Str × List Str)} : ∀ d ∈ jN b e (ws.map wayD), ∃ i : Nat, d = .int i := by
  intro d hd
  unfold jN at hd
  obtain ⟨x, hx, rfl⟩ := List.mem_map.mp hd
  obtain ⟨i, w, _, rfl⟩ := enumD_mem (List.mem_filter.mp hx).1
  exact ⟨i, rfl⟩
theorem jN_len {b e : Str} {ds : List D} : (jN b e ds).length ≤ ds.length := by
  unfold jN
  rw [List.length_map]
  exact Nat.le_trans (List.length_filter_le _ _) (by rw [enumD_len]; exact Nat.le_refl _)
def joinedC : CB := (.cons (.ret (.blt .tuple (.cons (.lc [("k", 3), ("way", 4)] (.tup 2 (.cons (.name 3) (.cons (.name 4) .nil))) (.enum (.ix (.var 0) (.int 3))) (.one (.and (.cmp .In (.var 1) (.ix (.var 4) (.int 0))) (.cmp .In (.var 2) (.ix (.var 4) (.int 1))))) (.var 3)) .nil))) .nil)
def sp_p_joined : DSp := fun ds G Q _ => ∃ (x0 x1 x2 : D) (ws : List (List Str × List Str)) (b e : Str), ds = [.tup [x0, x1, x2, .tup (ws.map wayD)], .str b, .str e] ∧ ws.length ≤ 1000 ∧ ∀ G', Grow G G' → Q (.tup (jN b e (ws.map wayD))) G'
theorem len_p_joined : LenS sp_p_joined 3 := by rintro ds G Q xq ⟨x0, x1, x2, ws, b, e, rfl, _⟩; rfl
theorem body_p_joined : Bod [] [] joinedC 5 sp_p_joined := by
  rintro ds G Q xq ⟨x0, x1, x2, ws, b, e, rfl, hl, q⟩
  refine ⟨_, rfl, ?_⟩
  refine lc_filt (b := jB b e) (f := jF) (by rw [enumD_len, List.length_map]; exact szl (m := 1000) (by omega)) trivial (fun x A B hx ha hb => ?_) ?_
  · obtain ⟨i, d, hd, rfl⟩ := enumD_mem hx
    obtain ⟨w, hw, rfl⟩ := ways_get hd
    refine ⟨rfl, _, rfl, rfl, strs_flat _, ?_⟩
    cases e1 : memF (.str b) (w.1.map D.str) with
    | false => exact hb (show (memF (.str b) (w.1.map D.str) && memF (.str e) (w.2.map D.str)) = false by rw [e1]; rfl)
    | true =>
      refine ⟨_, rfl, rfl, strs_flat _, ?_⟩
      cases e2 : memF (.str e) (w.2.map D.str) with
      | false => exact hb (show (memF (.str b) (w.1.map D.str) && memF (.str e) (w.2.map D.str)) = false by rw [e1, e2]; rfl)
      | true => exact ha (show (memF (.str b) (w.1.map D.str) && memF (.str e) (w.2.map D.str)) = true by rw [e1, e2]; rfl)
  · intro a fa
    exact ⟨_, put_same, q _ (.new fa)⟩
end DL

namespace DL
open PySem PySem.Spec PyProof.Rows L2
/-- all_froms: slots 0 boxes 1 doers 2 k; calls ; names  -/
def p_all_fromsC : CB := (.cons (.ret (.bin .Add (.bin .Add (.tup (.cons (.str "num") .nil)) (.blt .tuple (.cons (.lc [("k", 2)] (.name 2) (.rng1 (.var 0)) .no (.bin .Add (.str "box") (.blt .str (.cons (.var 2) .nil)))) .nil))) (.blt .tuple (.cons (.lc [("k", 2)] (.name 2) (.rng1 (.var 1)) .no (.bin .Add (.str "out") (.blt .str (.cons (.var 2) .nil)))) .nil)))) .nil)
/-- all_tos: slots 0 boxes 1 doers 2 found 3 k; calls ; names  -/
def p_all_tosC : CB := (.cons (.setLc 2 [("k", 3)] (.name 3) (.rng1 (.var 0)) .no (.bin .Add (.str "box") (.blt .str (.cons (.var 3) .nil)))) (.cons (.fors (.name 3) (.rng1 (.var 1)) (.cons (.expr (.mt .extend (.var 2) (.cons (.lst (.cons (.bin .Add (.str "in") (.blt .str (.cons (.var 3) .nil))) (.cons (.bin .Add (.str "start") (.blt .str (.cons (.var 3) .nil))) .nil))) .nil))) .nil)) (.cons (.ret (.blt .tuple (.cons (.bin .Add (.var 2) (.lst (.cons (.str "tell") (.cons (.str "go") (.cons (.str "end") .nil))))) .nil))) .nil)))
/-- froms_of: slots 0 machine; calls all_froms; names  -/
def p_froms_ofC : CB := (.cons (.ret (.fn 0 (.cons (.ix (.var 0) (.int 1)) (.cons (.blt .len (.cons (.ix (.var 0) (.int 2)) .nil)) .nil)))) .nil)
/-- tos_of: slots 0 machine; calls all_tos; names  -/
def p_tos_ofC : CB := (.cons (.ret (.fn 0 (.cons (.ix (.var 0) (.int 1)) (.cons (.blt .len (.cons (.ix (.var 0) (.int 2)) .nil)) .nil)))) .nil)
/-- lacking: slots 0 machine 1 begin 2 end; calls froms_of tos_of joined; names  -/
def p_lackingC : CB := (.cons (.fors (.name 1) (.it (.fn 0 (.cons (.var 0) .nil))) (.cons (.fors (.name 2) (.it (.fn 1 (.cons (.var 0) .nil))) (.cons (.ifs (.cmp .Eq (.fn 2 (.cons (.var 0) (.cons (.var 1) (.cons (.var 2) .nil)))) (.tup .nil)) (.cons (.ret (.tup (.cons (.var 1) (.cons (.var 2) .nil)))) .nil) .nil) .nil)) .nil)) (.cons (.ret .non) .nil))
end DL

namespace DL
open PySem PySem.Spec PyProof.Rows L2
/-! the program's ports -/
def sp_p_all_froms : DSp := fun ds G Q _ => ∃ b d : Nat, ds = [.int b, .int d] ∧ b ≤ 100 ∧ d ≤ 100 ∧ ∀ G', Grow G G' → Q (strsD (fromsL b d)) G'
theorem len_p_all_froms : LenS sp_p_all_froms 2 := by rintro ds G Q xq ⟨b, d, rfl, _⟩; rfl
theorem body_p_all_froms : Bod [] [] p_all_fromsC 3 sp_p_all_froms := by
  rintro ds G Q xq ⟨b, d, rfl, hb, hd, q⟩
  refine ⟨sz (m := 7) (by simp), ?_⟩
  refine ⟨by omega, by omega, ?_⟩
  refine lc_nums "box" rfl (by omega) (fun i R hi r => ⟨log_small hi, cat_sz hi (by decide), r⟩) ?_
  intro a1 f1
  refine ⟨_, put_same, sz (m := 300) (by simp; omega), ?_⟩
  refine ⟨by omega, by omega, ?_⟩
  refine lc_nums "out" rfl (by omega) (fun i R hi r => ⟨log_small hi, cat_sz hi (by decide), r⟩) ?_
  intro a3 f3
  refine ⟨_, put_same, sz (m := 300) (by simp; omega), ?_⟩
  refine Eq.mp (congrArg (fun z => Q z _) (show strsD (fromsL b d) = _ from ?_)) (q _ ((Grow.new f1).trans (Grow.new f3)))
  unfold strsD fromsL
  simp only [List.map_append, List.map_cons, List.map_nil]
  rfl
def sp_p_all_tos : DSp := fun ds G Q _ => ∃ b d : Nat, ds = [.int b, .int d] ∧ b ≤ 100 ∧ d ≤ 100 ∧ ∀ G', Grow G G' → Q (strsD (tosL b d)) G'
theorem len_p_all_tos : LenS sp_p_all_tos 2 := by rintro ds G Q xq ⟨b, d, rfl, _⟩; rfl
theorem body_p_all_tos : Bod [] [] p_all_tosC 4 sp_p_all_tos := by
  rintro ds G Q xq ⟨b, d, rfl, hb, hd, q⟩
  refine ⟨by omega, by omega, ?_⟩
  refine lc_nums "box" rfl (by omega) (fun i R hi r => ⟨log_small hi, cat_sz hi (by decide), r⟩) ?_
  intro a1 f1
  refine ⟨by omega, by omega, ?_⟩
  refine for_ix (I := fun k ρ G1 => Grow G G1 ∧ ∃ x3, G1 a1 = some (.lst (((List.range b).map boxS ++ insL k).map D.str)) ∧ ρ = [some (.int b), some (.int d), some (.ref a1), x3]) 0 ⟨.new f1, none, ?_, rfl⟩ ?_ ?_
  · rw [put_same]
    simp [insL]
    exact fun _ _ => rfl
  · rintro i x hx ρ G1 N ⟨g1, x3, ea, rfl⟩ hN
    obtain ⟨hi, rfl⟩ := get_range hx
    rw [Int.zero_add] at *
    rw [Nat.zero_add] at *
    have hi2 : i < 200 := by omega
    refine ⟨trivial, ⟨rfl, _, ea⟩, log_small hi2, cat_sz hi2 (by decide), log_small hi2, cat_sz hi2 (by decide), sz (m := 7) (by simp), fun a2 f2 => ?_⟩
    refine ⟨_, _, Grow.new f2 _ _ ea, put_same, sz (m := 1000) (by simp [insL_len]; omega), ?_⟩
    refine hN _ _ ⟨?_, _, ?_, rfl⟩
    · intro x cl e
      rw [put_ne (ne_new f1 e)]
      exact Grow.new f2 _ _ (g1 _ _ e)
    · rw [put_same, insL_succ]
      simp only [List.map_append, List.map_cons, List.map_nil, List.append_assoc]
      rfl
  · rintro ρ G1 ⟨g1, x3, ea, rfl⟩
    rw [rangeD_len, Nat.zero_add, show ((d : Int)).toNat = d by omega] at ea
    refine ⟨trivial, sz (m := 7) (by simp), fun a2 f2 => ?_⟩
    refine ⟨_, _, Grow.new f2 _ _ ea, put_same, sz (m := 1000) (by simp [insL_len]; omega), fun a3 f3 => ?_⟩
    refine ⟨_, put_same, ?_⟩
    refine Eq.mp (congrArg (fun z => Q z _) (show strsD (tosL b d) = _ from ?_)) (q _ ((g1.trans (.new f2)).trans (.new f3)))
    unfold strsD tosL
    simp only [List.map_append, List.map_cons, List.map_nil]
def sp_p_froms_of : DSp := fun ds G Q _ => ∃ (x0 x3 : D) (b : Nat) (dl : List D), ds = [.tup [x0, .int b, .tup dl, x3]] ∧ b ≤ 100 ∧ dl.length ≤ 100 ∧ ∀ G', Grow G G' → Q (strsD (fromsL b dl.length)) G'
theorem len_p_froms_of : LenS sp_p_froms_of 1 := by rintro ds G Q xq ⟨x0, x3, b, dl, rfl, _⟩; rfl
theorem body_p_froms_of : Bod [sp_p_all_froms] [] p_froms_ofC 1 sp_p_froms_of := by
  rintro ds G Q xq ⟨x0, x3, b, dl, rfl, hb, hd, q⟩
  exact ⟨_, rfl, _, rfl, b, dl.length, rfl, hb, hd, q⟩
def sp_p_tos_of : DSp := fun ds G Q _ => ∃ (x0 x3 : D) (b : Nat) (dl : List D), ds = [.tup [x0, .int b, .tup dl, x3]] ∧ b ≤ 100 ∧ dl.length ≤ 100 ∧ ∀ G', Grow G G' → Q (strsD (tosL b dl.length)) G'
theorem len_p_tos_of : LenS sp_p_tos_of 1 := by rintro ds G Q xq ⟨x0, x3, b, dl, rfl, _⟩; rfl
theorem body_p_tos_of : Bod [sp_p_all_tos] [] p_tos_ofC 1 sp_p_tos_of := by
  rintro ds G Q xq ⟨x0, x3, b, dl, rfl, hb, hd, q⟩
  exact ⟨_, rfl, _, rfl, b, dl.length, rfl, hb, hd, q⟩
/-! what is not joined -/
abbrev WayL := List (List Str × List Str)
def joinB (b e : Str) (w : List Str × List Str) : Bool := memF (.str b) (w.1.map D.str) && memF (.str e) (w.2.map D.str)
def noJoin (ws : WayL) (b e : Str) : Bool := ws.all fun w => !joinB b e w
def LackIs (ws : WayL) (fs ts : List Str) (d : D) : Prop := (d = .non ∧ ∀ b ∈ fs, ∀ e ∈ ts, noJoin ws b e = false) ∨
  ∃ i j b e, fs[i]? = some b ∧ ts[j]? = some e ∧ noJoin ws b e = true ∧ d = .tup [.str b, .str e] ∧ (∀ b' ∈ fs.take i, ∀ e' ∈ ts, noJoin ws b' e' = false) ∧ ∀ e' ∈ ts.take j, noJoin ws b e' = false
theorem mem_take {α : Type} {xs : List α} {i j : Nat} {x : α} (h : xs[i]? = some x) (l : i < j) : x ∈ xs.take j := by
  have : (xs.take j)[i]? = some x := by rw [List.getElem?_take, if_pos l]; exact h
  exact List.mem_of_getElem? this
theorem LackIs.uniq {ws : WayL} {fs ts : List Str} {d d' : D} (h : LackIs ws fs ts d) (h' : LackIs ws fs ts d') : d = d' := by
  rcases h with ⟨rfl, h⟩ | ⟨i, j, b, e, h1, h2, h3, rfl, h5, h6⟩
  · rcases h' with ⟨rfl, _⟩ | ⟨i, j, b, e, h1, h2, h3, rfl, h5, h6⟩
    · rfl
    · rw [h b (List.mem_of_getElem? h1) e (List.mem_of_getElem? h2)] at h3
      cases h3
  · rcases h' with ⟨rfl, h⟩ | ⟨i', j', b', e', k1, k2, k3, rfl, k5, k6⟩
    · rw [h b (List.mem_of_getElem? h1) e (List.mem_of_getElem? h2)] at h3
      cases h3
    · rcases Nat.lt_trichotomy i i' with l | l | l
      · rw [k5 b (mem_take h1 l) e (List.mem_of_getElem? h2)] at h3
        cases h3
      · subst l
        rw [h1] at k1
        obtain rfl := Option.some.inj k1
        rcases Nat.lt_trichotomy j j' with l | l | l
        · rw [k6 e (mem_take h2 l)] at h3
          cases h3
        · subst l
          rw [h2] at k2
          obtain rfl := Option.some.inj k2
          rfl
        · rw [h6 e' (mem_take k2 l)] at k3
          cases k3
      · rw [h5 b' (mem_take k1 l) e' (List.mem_of_getElem? k2)] at k3
        cases k3
theorem jN_empty {b e : Str} (ws : WayL) : (jN b e (ws.map wayD)).isEmpty = noJoin ws b e := by
  unfold jN noJoin
  rw [List.isEmpty_map]
  cases h : ws.all fun w => !joinB b e w with
  | true =>
    rw [List.isEmpty_iff, List.filter_eq_nil_iff]
    intro x hx
    obtain ⟨i, d, hd, rfl⟩ := enumD_mem hx
    obtain ⟨w, hw, rfl⟩ := ways_get hd
    have := List.all_eq_true.mp h w (List.mem_of_getElem? hw)
    intro z
    have z' : joinB b e w = true := z
    rw [z'] at this
    cases this
  | false =>
    rw [List.isEmpty_eq_false_iff]
    intro z
    rw [List.filter_eq_nil_iff] at z
    have h2 : ¬ ∀ w ∈ ws, (!joinB b e w) = true := fun k => by
      rw [List.all_eq_true.mpr k] at h
      cases h
    apply h2
    intro w hw
    obtain ⟨i, hi⟩ := List.getElem?_of_mem hw
    have hw2 : (ws.map wayD)[i]? = some (wayD w) := by rw [List.getElem?_map, hi]; rfl
    have := z _ (List.mem_of_getElem? (enumD_get hw2))
    have t : ¬ joinB b e w = true := this
    cases q : joinB b e w with
    | true => exact (t q).elim
    | false => rfl
theorem str_get {ts : List Str} {i : Nat} {x : D} (h : (ts.map D.str)[i]? = some x) : ∃ t, ts[i]? = some t ∧ x = .str t := by
  rw [List.getElem?_map] at h
  cases e : ts[i]? with
  | none => rw [e] at h; cases h
  | some t =>
    rw [e] at h
    exact ⟨t, rfl, (Option.some.inj h).symm⟩
theorem take_all {α : Type} {p : α → Prop} {xs : List α} {i : Nat} {x : α} (e : xs[i]? = some x) (h : ∀ y ∈ xs.take i, p y) (hx : p x) : ∀ y ∈ xs.take (i + 1), p y := by
  intro y hy
  rw [← take_snoc e] at hy
  rcases List.mem_append.mp hy with hy | hy
  · exact h y hy
  · rw [List.mem_singleton] at hy
    rw [hy]
    exact hx
def sp_p_lacking : DSp := fun ds G Q _ => ∃ (x0 : D) (b : Nat) (dl : List D) (ws : WayL), ds = [.tup [x0, .int b, .tup dl, .tup (ws.map wayD)]] ∧ b ≤ 100 ∧ dl.length ≤ 100 ∧ ws.length ≤ 1000 ∧
  ∀ d G', LackIs ws (fromsL b dl.length) (tosL b dl.length) d → Grow G G' → Q d G'
theorem len_p_lacking : LenS sp_p_lacking 1 := by rintro ds G Q xq ⟨x0, b, dl, ws, rfl, _⟩; rfl
theorem body_p_lacking : Bod [sp_p_froms_of, sp_p_tos_of, sp_p_joined] [] p_lackingC 3 sp_p_lacking := by
  rintro ds G Q xq ⟨x0, b, dl, ws, rfl, hb, hd, hw, q⟩
  refine ⟨_, _, b, dl, rfl, hb, hd, fun G1 g1 => ?_⟩
  refine for_ix (I := fun k ρ G2 => Grow G G2 ∧ (∀ b' ∈ (fromsL b dl.length).take k, ∀ e' ∈ tosL b dl.length, noJoin ws b' e' = false) ∧ ∃ x1 x2, ρ = [some (.tup [x0, .int b, .tup dl, .tup (ws.map wayD)]), x1, x2]) 0 ⟨g1, by simp, none, none, rfl⟩ ?_ ?_
  · rintro i x hx ρ G2 N ⟨g2, h2, x1, x2, rfl⟩ hN
    obtain ⟨f, hf, rfl⟩ := str_get hx
    rw [Nat.zero_add] at *
    refine ⟨trivial, ?_⟩
    refine ⟨_, _, b, dl, rfl, hb, hd, fun G3 g3 => ?_⟩
    refine for_ix (I := fun k ρ G4 => Grow G G4 ∧ (∀ e' ∈ (tosL b dl.length).take k, noJoin ws f e' = false) ∧ ∃ x2, ρ = [some (.tup [x0, .int b, .tup dl, .tup (ws.map wayD)]), some (.str f), x2]) 0 ⟨g2.trans g3, by simp, x2, rfl⟩ ?_ ?_
    · rintro j y hy ρ G4 N ⟨g4, h4, x2, rfl⟩ hN
      obtain ⟨t, ht, rfl⟩ := str_get hy
      rw [Nat.zero_add] at *
      refine ⟨trivial, ?_⟩
      refine ⟨_, _, _, ws, f, t, rfl, hw, fun G5 g5 => ?_⟩
      refine ⟨sz (m := 0) (by simp), ?_⟩
      refine ite2 (fun h0 => ?_) (fun h0 => ?_)
      · have h : noJoin ws f t = true := by rw [← jN_empty]; exact h0
        exact ⟨sz (m := 2) (by simp), q _ _ (.inr ⟨i, j, f, t, hf, ht, h, rfl, h2, h4⟩) (g4.trans g5)⟩
      · have h : noJoin ws f t = false := by
          rw [← jN_empty]
          exact Bool.not_eq_true _ ▸ h0
        exact hN _ _ ⟨g4.trans g5, take_all ht h4 h, _, rfl⟩
    · rintro ρ G4 ⟨g4, h4, x2, rfl⟩
      rw [List.length_map, Nat.zero_add, List.take_length] at h4
      exact ⟨trivial, hN _ _ ⟨g4, take_all hf h2 h4, _, _, rfl⟩⟩
  · rintro ρ G2 ⟨g2, h2, x1, x2, rfl⟩
    rw [List.length_map, Nat.zero_add, List.take_length] at h2
    exact ⟨trivial, q _ _ (.inl ⟨rfl, h2⟩) g2⟩
end DL

namespace DL
open PySem PySem.Spec PyProof.Rows L2
/-- from_port: slots 0 source; calls ; names  -/
def p_from_portC : CB := (.cons (.ifs (.cmp .Eq (.ix (.var 0) (.int 0)) (.str "num")) (.cons (.ret (.str "num")) .nil) .nil) (.cons (.ret (.bin .Add (.ix (.var 0) (.int 0)) (.blt .str (.cons (.ix (.var 0) (.int 1)) .nil)))) .nil))
/-- to_port: slots 0 goal; calls ; names  -/
def p_to_portC : CB := (.cons (.ifs (.cmp .In (.ix (.var 0) (.int 0)) (.tup (.cons (.str "tell") (.cons (.str "go") (.cons (.str "end") .nil))))) (.cons (.ret (.ix (.var 0) (.int 0))) .nil) .nil) (.cons (.ret (.bin .Add (.ix (.var 0) (.int 0)) (.blt .str (.cons (.ix (.var 0) (.int 1)) .nil)))) .nil))
/-- ports_of: slots 0 move; calls to_port from_port; names  -/
def p_ports_ofC : CB := (.cons (.ret (.tup (.cons (.fn 1 (.cons (.ix (.var 0) (.int 0)) .nil)) (.cons (.fn 0 (.cons (.ix (.var 0) (.int 1)) .nil)) .nil)))) .nil)
/-- _law_move_by: slots 0 _law_pen 1 _law_machine 2 _law_stretches 3 _law_way 4 _law_source 5 _law_skills 6 _law_goals 7 _law_box 8 _law_doer; calls _law_draw _law_worth; names  -/
def l_move_byC : CB := (.cons (.asg (.name 3) (.fn 0 (.cons (.var 0) (.cons (.int 5) .nil)))) (.cons (.par2 7 8 (.cons (.fn 0 (.cons (.var 0) (.cons (.ix (.var 1) (.int 1)) .nil))) (.cons (.fn 0 (.cons (.var 0) (.cons (.blt .len (.cons (.ix (.var 1) (.int 2)) .nil)) .nil))) .nil))) (.cons (.asg (.name 4) (.ix (.lst (.cons (.tup (.cons (.str "num") (.cons (.fn 1 (.cons (.var 0) .nil)) .nil))) (.cons (.tup (.cons (.str "box") (.cons (.var 7) .nil))) (.cons (.tup (.cons (.str "out") (.cons (.var 8) .nil))) .nil)))) (.ix (.lst (.cons (.int 0) (.cons (.int 1) (.cons (.int 1) (.cons (.int 2) (.cons (.int 2) .nil)))))) (.var 3)))) (.cons (.asg (.name 3) (.fn 0 (.cons (.var 0) (.cons (.int 12) .nil)))) (.cons (.par2 7 8 (.cons (.fn 0 (.cons (.var 0) (.cons (.ix (.var 1) (.int 1)) .nil))) (.cons (.fn 0 (.cons (.var 0) (.cons (.blt .len (.cons (.ix (.var 1) (.int 2)) .nil)) .nil))) .nil))) (.cons (.asg (.name 5) (.ix (.ix (.ix (.var 1) (.int 2)) (.var 8)) (.int 1))) (.cons (.asg (.name 6) (.lst (.cons (.tup (.cons (.str "box") (.cons (.var 7) .nil))) (.cons (.tup (.cons (.str "in") (.cons (.var 8) .nil))) (.cons (.tup (.cons (.str "start") (.cons (.var 8) (.cons (.ix (.var 5) (.fn 0 (.cons (.var 0) (.cons (.blt .len (.cons (.var 5) .nil)) .nil)))) .nil)))) (.cons (.tup (.cons (.str "tell") .nil)) .nil)))))) (.cons (.asg (.name 6) (.bin .Add (.var 6) (.lst (.cons (.tup (.cons (.str "go") (.cons (.fn 0 (.cons (.var 0) (.cons (.var 2) .nil))) .nil))) (.cons (.tup (.cons (.str "end") .nil)) .nil))))) (.cons (.ret (.tup (.cons (.var 4) (.cons (.ix (.var 6) (.ix (.lst (.cons (.int 0) (.cons (.int 0) (.cons (.int 0) (.cons (.int 1) (.cons (.int 1) (.cons (.int 1) (.cons (.int 2) (.cons (.int 2) (.cons (.int 2) (.cons (.int 3) (.cons (.int 4) (.cons (.int 5) .nil))))))))))))) (.var 3))) .nil)))) .nil)))))))))
/-- _law_ports: slots 0 _law_move 1 _law_source 2 _law_goal 3 _law_begin 4 _law_end; calls ; names  -/
def l_portsC : CB := (.cons (.asg (.tup 2 (.cons (.name 1) (.cons (.name 2) .nil))) (.var 0)) (.cons (.par2 3 4 (.cons (.ix (.var 1) (.int 0)) (.cons (.ix (.var 2) (.int 0)) .nil))) (.cons (.ifs (.cmp .NotEq (.var 3) (.str "num")) (.cons (.asg (.name 3) (.bin .Add (.var 3) (.blt .str (.cons (.ix (.var 1) (.int 1)) .nil)))) .nil) .nil) (.cons (.ifs (.cmp .In (.var 4) (.tup (.cons (.str "box") (.cons (.str "in") (.cons (.str "start") .nil))))) (.cons (.asg (.name 4) (.bin .Add (.var 4) (.blt .str (.cons (.ix (.var 2) (.int 1)) .nil)))) .nil) .nil) (.cons (.ret (.tup (.cons (.var 3) (.cons (.var 4) .nil)))) .nil)))))
end DL

namespace DL
open PySem PySem.Spec PyProof.Rows L2
/-! moves -/
inductive Src where
  | num (w : Int) | box (k : Nat) | out (k : Nat)
inductive Goal where
  | box (k : Nat) | inn (k : Nat) | start (k : Nat) (s : Str) | tell | go (k : Nat) | fin
def Src.d : Src → D
  | .num w => .tup [.str "num", .int w]
  | .box k => .tup [.str "box", .int k]
  | .out k => .tup [.str "out", .int k]
def Goal.d : Goal → D
  | .box k => .tup [.str "box", .int k]
  | .inn k => .tup [.str "in", .int k]
  | .start k s => .tup [.str "start", .int k, .str s]
  | .tell => .tup [.str "tell"]
  | .go k => .tup [.str "go", .int k]
  | .fin => .tup [.str "end"]
def Src.port : Src → Str
  | .num _ => "num"
  | .box k => boxS k
  | .out k => outS k
def Goal.port : Goal → Str
  | .box k => boxS k
  | .inn k => inS k
  | .start k _ => startS k
  | .tell => "tell"
  | .go _ => "go"
  | .fin => "end"
def Src.Ok (m : Mach) : Src → Prop
  | .num w => Worth w
  | .box k => k < m.boxes
  | .out k => k < m.doers.length
def Goal.Ok (m : Mach) (st : Nat) : Goal → Prop
  | .box k => k < m.boxes
  | .inn k => k < m.doers.length
  | .start k s => ∃ d, m.doers[k]? = some d ∧ s ∈ d.2
  | .tell => True
  | .go k => k < st
  | .fin => True
def moveD (s : Src) (g : Goal) : D := .tup [s.d, g.d]
theorem Src.port_mem {m : Mach} {s : Src} (h : s.Ok m) : s.port ∈ fromsL m.boxes m.doers.length := by
  unfold fromsL
  cases s with
  | num w => simp [Src.port]
  | box k => exact List.mem_append_left _ (List.mem_append_right _ (List.mem_map.mpr ⟨k, List.mem_range.mpr h, rfl⟩))
  | out k => exact List.mem_append_right _ (List.mem_map.mpr ⟨k, List.mem_range.mpr h, rfl⟩)
theorem Goal.port_mem {m : Mach} {st : Nat} {g : Goal} (h : g.Ok m st) : g.port ∈ tosL m.boxes m.doers.length := by
  unfold tosL
  cases g with
  | box k => exact List.mem_append_left _ (List.mem_append_left _ (List.mem_map.mpr ⟨k, List.mem_range.mpr h, rfl⟩))
  | inn k => exact List.mem_append_left _ (List.mem_append_right _ (List.mem_flatMap.mpr ⟨k, List.mem_range.mpr h, by simp [Goal.port]⟩))
  | start k s =>
    obtain ⟨d, hd, _⟩ := h
    exact List.mem_append_left _ (List.mem_append_right _ (List.mem_flatMap.mpr ⟨k, List.mem_range.mpr (List.getElem?_eq_some_iff.mp hd).1, by simp [Goal.port]⟩))
  | tell => simp [Goal.port]
  | go k => simp [Goal.port]
  | fin => simp [Goal.port]
/-- numbers small enough to be told -/
def Src.Few : Src → Prop
  | .num _ => True
  | .box k => k < 200
  | .out k => k < 200
def Goal.Few : Goal → Prop
  | .box k => k < 200
  | .inn k => k < 200
  | .start k _ => k < 200
  | _ => True
theorem Src.Ok.few {m : Mach} (hm : m.Ok) {s : Src} (h : s.Ok m) : s.Few := by
  have := hm.b2
  have := hm.d2
  cases s with
  | num w => trivial
  | box k => have h' : k < m.boxes := h; show k < 200; omega
  | out k => have h' : k < m.doers.length := h; show k < 200; omega
theorem Goal.Ok.few {m : Mach} (hm : m.Ok) {st : Nat} {g : Goal} (h : g.Ok m st) : g.Few := by
  have := hm.b2
  have := hm.d2
  cases g with
  | box k => have h' : k < m.boxes := h; show k < 200; omega
  | inn k => have h' : k < m.doers.length := h; show k < 200; omega
  | start k s =>
    obtain ⟨d, hd, _⟩ := h
    have h' := (List.getElem?_eq_some_iff.mp hd).1
    show k < 200
    omega
  | tell => trivial
  | go k => trivial
  | fin => trivial
def sp_p_from_port : DSp := fun ds G Q _ => ∃ s : Src, ds = [s.d] ∧ s.Few ∧ Q (.str s.port) G
theorem len_p_from_port : LenS sp_p_from_port 1 := by rintro ds G Q xq ⟨s, rfl, _⟩; rfl
theorem body_p_from_port : Bod [] [] p_from_portC 1 sp_p_from_port := by
  rintro ds G Q xq ⟨s, rfl, h, q⟩
  cases s with
  | num w => exact ⟨_, rfl, q⟩
  | box k => exact ⟨_, rfl, _, rfl, _, rfl, log_small h, cat_sz h (by decide), q⟩
  | out k => exact ⟨_, rfl, _, rfl, _, rfl, log_small h, cat_sz h (by decide), q⟩
def sp_p_to_port : DSp := fun ds G Q _ => ∃ g : Goal, ds = [g.d] ∧ g.Few ∧ Q (.str g.port) G
theorem len_p_to_port : LenS sp_p_to_port 1 := by rintro ds G Q xq ⟨s, rfl, _⟩; rfl
theorem body_p_to_port : Bod [] [] p_to_portC 1 sp_p_to_port := by
  rintro ds G Q xq ⟨g, rfl, h, q⟩
  cases g with
  | box k => exact ⟨_, rfl, sz (m := 3) (by simp), rfl, rfl, _, rfl, _, rfl, log_small h, cat_sz h (by decide), q⟩
  | inn k => exact ⟨_, rfl, sz (m := 3) (by simp), rfl, rfl, _, rfl, _, rfl, log_small h, cat_sz h (by decide), q⟩
  | start k s => exact ⟨_, rfl, sz (m := 3) (by simp), rfl, rfl, _, rfl, _, rfl, log_small h, cat_sz h (by decide), q⟩
  | tell => exact ⟨_, rfl, sz (m := 3) (by simp), rfl, rfl, _, rfl, q⟩
  | go k => exact ⟨_, rfl, sz (m := 3) (by simp), rfl, rfl, _, rfl, q⟩
  | fin => exact ⟨_, rfl, sz (m := 3) (by simp), rfl, rfl, _, rfl, q⟩
def sp_p_ports_of : DSp := fun ds G Q _ => ∃ (s : Src) (g : Goal), ds = [moveD s g] ∧ s.Few ∧ g.Few ∧ Q (.tup [.str s.port, .str g.port]) G
theorem len_p_ports_of : LenS sp_p_ports_of 1 := by rintro ds G Q xq ⟨s, g, rfl, _⟩; rfl
theorem body_p_ports_of : Bod [sp_p_to_port, sp_p_from_port] [] p_ports_ofC 1 sp_p_ports_of := by
  rintro ds G Q xq ⟨s, g, rfl, hs, hg, q⟩
  exact ⟨_, rfl, s, rfl, hs, _, rfl, g, rfl, hg, sz (m := 2) (by simp), q⟩
def sp_l_ports : DSp := fun ds G Q _ => ∃ (s : Src) (g : Goal), ds = [moveD s g] ∧ s.Few ∧ g.Few ∧ Q (.tup [.str s.port, .str g.port]) G
theorem len_l_ports : LenS sp_l_ports 1 := by rintro ds G Q xq ⟨s, g, rfl, _⟩; rfl
theorem body_l_ports : Bod [] [] l_portsC 5 sp_l_ports := by
  rintro ds G Q xq ⟨s, g, rfl, hs, hg, q⟩
  refine ⟨rfl, ?_⟩
  have tail : denB [] [] (l_portsC.drop 3) (Fin0 Q xq) [some (moveD s g), some s.d, some g.d, some (.str s.port), some (match g.d with | .tup (x :: _) => x | _ => .non)] G := by
    cases g with
    | box k => exact ⟨sz (m := 3) (by simp), rfl, rfl, _, rfl, log_small hg, cat_sz hg (by decide), sz (m := 2) (by simp), q⟩
    | inn k => exact ⟨sz (m := 3) (by simp), rfl, rfl, _, rfl, log_small hg, cat_sz hg (by decide), sz (m := 2) (by simp), q⟩
    | start k s => exact ⟨sz (m := 3) (by simp), rfl, rfl, _, rfl, log_small hg, cat_sz hg (by decide), sz (m := 2) (by simp), q⟩
    | tell => exact ⟨sz (m := 3) (by simp), rfl, rfl, sz (m := 2) (by simp), q⟩
    | go k => exact ⟨sz (m := 3) (by simp), rfl, rfl, sz (m := 2) (by simp), q⟩
    | fin => exact ⟨sz (m := 3) (by simp), rfl, rfl, sz (m := 2) (by simp), q⟩
  have hg0 : ∃ x r, g.d = .tup (x :: r) := by cases g <;> exact ⟨_, _, rfl⟩
  obtain ⟨x, r, hgd⟩ := hg0
  have hat : atI (x :: r) 0 = some x := atI_nat (j := 0) rfl
  cases s with
  | num w =>
    refine ⟨_, rfl, ?_⟩
    cases g <;> exact ⟨_, rfl, tail⟩
  | box k =>
    refine ⟨_, rfl, ?_⟩
    cases g <;> exact ⟨_, rfl, _, rfl, log_small hs, cat_sz hs (by decide), tail⟩
  | out k =>
    refine ⟨_, rfl, ?_⟩
    cases g <;> exact ⟨_, rfl, _, rfl, log_small hs, cat_sz hs (by decide), tail⟩
/-! a move drawn -/
def sp_l_move_by : DSp := fun ds G Q _ => ∃ (p c : Addr) (m : Mach) (st : Nat), ds = [.ref p, m.d, .int st] ∧ m.Ok ∧ 1 ≤ st ∧ st ≤ 100 ∧ Pen G p c ∧ ∀ s g G', s.Ok m → g.Ok m st → Pen G' p c → Keeps p G G' → Q (moveD s g) G'
theorem len_l_move_by : LenS sp_l_move_by 3 := by rintro ds G Q xq ⟨p, c, m, st, rfl, _⟩; rfl
theorem body_l_move_by : Bod [spDraw, spWorth] [] l_move_byC 9 sp_l_move_by := by
  rintro ds G Q xq ⟨p, c, m, st, rfl, hm, hst, hst2, hp, q⟩
  have hb1 := hm.b1
  have hb2 := hm.b2
  have hd1 := hm.d1
  have hd2 := hm.d2
  refine ⟨p, c, 5, rfl, by decide, by decide, hp, fun r1 G1 h10 h11 hp1 o1 => ?_⟩
  refine ⟨_, rfl, p, c, _, rfl, by omega, by omega, hp1, fun bx G2 h20 h21 hp2 o2 => ?_⟩
  refine ⟨_, rfl, p, c, _, rfl, by rw [List.length_map]; omega, by rw [List.length_map]; omega, hp2, fun dr G3 h30 h31 hp3 o3 => ?_⟩
  rw [List.length_map] at h31
  refine ⟨p, c, rfl, hp3, fun w G4 hw hp4 k4 => ?_⟩
  refine ⟨sz (m := 2) (by simp), sz (m := 2) (by simp), sz (m := 2) (by simp), sz (m := 3) (by simp), fun a5 f5 => ?_⟩
  refine ⟨sz (m := 5) (by simp), fun a6 f6 => ?_⟩
  have k6 : ∀ {c5 c6 : Cl}, Keeps p G (put (put G4 a5 c5) a6 c6) := fun {c5 c6} => ((((o1.trans o2).trans o3).keeps.trans k4).trans (.new f5)).trans (Grow.new (c := c6) (by
    have h := f6
    have n : a6 ≠ a5 := fun z => by
      subst z
      rw [put_same] at h
      cases h
    rw [put_ne n] at h ⊢
    exact h)).keeps
  obtain ⟨bx, rfl⟩ : ∃ j : Nat, bx = j := ⟨bx.toNat, by omega⟩
  obtain ⟨dr, rfl⟩ : ∃ j : Nat, dr = j := ⟨dr.toNat, by omega⟩
  obtain ⟨r1, rfl⟩ : ∃ j : Nat, r1 = j := ⟨r1.toNat, by omega⟩
  have h11' : r1 < 5 := by omega
  -- behind the source
  have tail : ∀ (s : Src) (x3 : Option D) (G6 : Sto), s.Ok m → Pen G6 p c → Keeps p G G6 → denB [spDraw, spWorth] [] (l_move_byC.drop 3) (Fin0 Q xq) [some (.ref p), some m.d, some (.int st), x3, some s.d, none, none, some (.int bx), some (.int dr)] G6 := by
    intro s x3 G6 hs hp6 k6
    refine ⟨p, c, 12, rfl, by decide, by decide, hp6, fun r7 G7 h70 h71 hp7 o7 => ?_⟩
    refine ⟨_, rfl, p, c, _, rfl, by omega, by omega, hp7, fun b2 G8 h80 h81 hp8 o8 => ?_⟩
    refine ⟨_, rfl, p, c, _, rfl, by rw [List.length_map]; omega, by rw [List.length_map]; omega, hp8, fun d2 G9 h90 h91 hp9 o9 => ?_⟩
    rw [List.length_map] at h91
    obtain ⟨d2, dd, rfl, hdd, _⟩ := at_nat (xs := m.doers) h90 h91
    obtain ⟨b2, rfl⟩ : ∃ j : Nat, b2 = j := ⟨b2.toNat, by omega⟩
    have hat : atI (m.doers.map doerD) (d2 : Int) = some (doerD dd) := atI_nat (by rw [List.getElem?_map, hdd]; rfl)
    refine ⟨_, rfl, ?_⟩
    refine ⟨_, hat, ?_⟩
    refine ⟨_, rfl, ?_⟩
    obtain ⟨hk1, hk2, hsome⟩ := hm.dk dd (List.mem_of_getElem? hdd)
    have hlen : 1 ≤ dd.2.length := by
      cases e : dd.2 with
      | nil => exact (hsome.1 e).elim
      | cons _ _ => simp
    have hlen2 : dd.2.length ≤ 7 := hsome.len
    refine ⟨sz (m := 2) (by simp), sz (m := 2) (by simp), ?_⟩
    refine ⟨p, c, _, rfl, by rw [List.length_map]; omega, by rw [List.length_map]; omega, hp9, fun r10 G10 h100 h101 hp10 o10 => ?_⟩
    rw [List.length_map] at h101
    obtain ⟨j10, sk, rfl, hsk, _⟩ := at_nat (xs := dd.2) h100 h101
    have hat2 : atI (dd.2.map D.str) (j10 : Int) = some (.str sk) := atI_nat (by rw [List.getElem?_map, hsk]; rfl)
    refine ⟨_, hat2, sz (m := 3) (by simp), sz (m := 1) (by simp), sz (m := 4) (by simp), fun a11 f11 => ?_⟩
    have n11 := hp10.ne f11
    refine ⟨p, c, _, rfl, by omega, by omega, hp10.new f11, fun g12 G12 h120 h121 hp12 o12 => ?_⟩
    obtain ⟨g12, rfl⟩ : ∃ j : Nat, g12 = j := ⟨g12.toNat, by omega⟩
    refine ⟨sz (m := 2) (by simp), sz (m := 1) (by simp), sz (m := 2) (by simp), fun a13 f13 => ?_⟩
    have e12 : G12 a11 = _ := (o12 _ n11.1).trans put_same
    refine ⟨_, _, Grow.new f13 _ _ e12, put_same, sz (m := 6) (by simp), fun a14 f14 => ?_⟩
    refine ⟨sz (m := 12) (by simp), fun a15 f15 => ?_⟩
    have kk : Keeps p G G12 := ((((((k6.trans o7.keeps).trans o8.keeps).trans o9.keeps).trans o10.keeps).trans (.new f11))).trans o12.keeps
    obtain ⟨r7, rfl⟩ : ∃ j : Nat, r7 = j := ⟨r7.toNat, by omega⟩
    have h7 : r7 < 12 := by omega
    have ob : Goal.Ok m st (.box b2) := by show b2 < m.boxes; omega
    have oi : Goal.Ok m st (.inn d2) := by show d2 < m.doers.length; omega
    have os : Goal.Ok m st (.start d2 sk) := ⟨dd, hdd, List.mem_of_getElem? hsk⟩
    have og : Goal.Ok m st (.go g12) := by show g12 < st; omega
    have fin : ∀ {c13 c14 c15 : Cl} (g : Goal), G12 a13 = none → put G12 a13 c13 a14 = none → put (put G12 a13 c13) a14 c14 a15 = none → g.Ok m st → Q (moveD s g) (put (put (put G12 a13 c13) a14 c14) a15 c15) := fun {c13 c14 c15} g f13 f14 f15 hg =>
      q s g _ hs hg (((hp12.new f13).new f14).new f15) (((kk.trans (.new f13)).trans (.new f14)).trans (.new f15))
    match r7, h7 with
    | 0, _ => exact ⟨_, _, put_same, rfl, _, _, Grow.new f15 _ _ put_same, rfl, sz (m := 2) (by simp), fin (.box b2) f13 f14 f15 ob⟩
    | 1, _ => exact ⟨_, _, put_same, rfl, _, _, Grow.new f15 _ _ put_same, rfl, sz (m := 2) (by simp), fin (.box b2) f13 f14 f15 ob⟩
    | 2, _ => exact ⟨_, _, put_same, rfl, _, _, Grow.new f15 _ _ put_same, rfl, sz (m := 2) (by simp), fin (.box b2) f13 f14 f15 ob⟩
    | 3, _ => exact ⟨_, _, put_same, rfl, _, _, Grow.new f15 _ _ put_same, rfl, sz (m := 2) (by simp), fin (.inn d2) f13 f14 f15 oi⟩
    | 4, _ => exact ⟨_, _, put_same, rfl, _, _, Grow.new f15 _ _ put_same, rfl, sz (m := 2) (by simp), fin (.inn d2) f13 f14 f15 oi⟩
    | 5, _ => exact ⟨_, _, put_same, rfl, _, _, Grow.new f15 _ _ put_same, rfl, sz (m := 2) (by simp), fin (.inn d2) f13 f14 f15 oi⟩
    | 6, _ => exact ⟨_, _, put_same, rfl, _, _, Grow.new f15 _ _ put_same, rfl, sz (m := 2) (by simp), fin (.start d2 sk) f13 f14 f15 os⟩
    | 7, _ => exact ⟨_, _, put_same, rfl, _, _, Grow.new f15 _ _ put_same, rfl, sz (m := 2) (by simp), fin (.start d2 sk) f13 f14 f15 os⟩
    | 8, _ => exact ⟨_, _, put_same, rfl, _, _, Grow.new f15 _ _ put_same, rfl, sz (m := 2) (by simp), fin (.start d2 sk) f13 f14 f15 os⟩
    | 9, _ => exact ⟨_, _, put_same, rfl, _, _, Grow.new f15 _ _ put_same, rfl, sz (m := 2) (by simp), fin .tell f13 f14 f15 trivial⟩
    | 10, _ => exact ⟨_, _, put_same, rfl, _, _, Grow.new f15 _ _ put_same, rfl, sz (m := 2) (by simp), fin (.go g12) f13 f14 f15 og⟩
    | 11, _ => exact ⟨_, _, put_same, rfl, _, _, Grow.new f15 _ _ put_same, rfl, sz (m := 2) (by simp), fin .fin f13 f14 f15 trivial⟩
  have hpx : ∀ {c5 c6 : Cl}, put G4 a5 c5 a6 = none → Pen (put (put G4 a5 c5) a6 c6) p c := fun f6 => (hp4.new f5).new f6
  have o1' : Src.Ok m (.num w) := hw
  have o2' : Src.Ok m (.box bx) := by show bx < m.boxes; omega
  have o3' : Src.Ok m (.out dr) := by show dr < m.doers.length; omega
  match r1, h11' with
  | 0, _ => exact ⟨_, _, put_same, rfl, _, _, Grow.new f6 _ _ put_same, rfl, tail (.num w) _ _ o1' (hpx f6) k6⟩
  | 1, _ => exact ⟨_, _, put_same, rfl, _, _, Grow.new f6 _ _ put_same, rfl, tail (.box bx) _ _ o2' (hpx f6) k6⟩
  | 2, _ => exact ⟨_, _, put_same, rfl, _, _, Grow.new f6 _ _ put_same, rfl, tail (.box bx) _ _ o2' (hpx f6) k6⟩
  | 3, _ => exact ⟨_, _, put_same, rfl, _, _, Grow.new f6 _ _ put_same, rfl, tail (.out dr) _ _ o3' (hpx f6) k6⟩
  | 4, _ => exact ⟨_, _, put_same, rfl, _, _, Grow.new f6 _ _ put_same, rfl, tail (.out dr) _ _ o3' (hpx f6) k6⟩
end DL

namespace DL
open PySem PySem.Spec PyProof.Rows L2
/-- _law_odd: slots 0 _law_pen 1 _law_far 2 _law_some; calls _law_draw; names  -/
def l_oddC : CB := (.cons (.asg (.name 1) (.fn 0 (.cons (.var 0) (.cons (.bin .Pow (.int 10) (.int 30)) .nil)))) (.cons (.asg (.name 2) (.lst (.cons .non (.cons (.bl true) (.cons (.bl false) (.cons (.bin .Sub (.neg (.int 1)) (.var 1)) (.cons (.var 1) (.cons (.str "") (.cons (.str "num") (.cons (.str "0") (.cons (.lst .nil) (.cons (.tup .nil) (.cons (.dct .nil) (.cons (.tup (.cons (.int 0) .nil)) (.cons (.lst (.cons (.int 1) .nil)) (.cons (.tup (.cons (.str "num") (.cons (.int 5) .nil))) (.cons (.dct (.cons (.str "a") (.lst (.cons (.int 1) .nil)) .nil)) (.cons (.lst (.cons (.lst (.cons (.lst .nil) .nil)) .nil)) .nil)))))))))))))))))) (.cons (.asg (.name 2) (.bin .Add (.var 2) (.lst (.cons (.int 65536) (.cons (.int 65535) (.cons (.tup (.cons (.tup .nil) (.cons (.tup .nil) .nil))) (.cons (.tup (.cons (.tup (.cons (.str "num") (.cons (.int 1) .nil))) (.cons (.tup (.cons (.str "tell") .nil)) .nil))) (.cons (.tup (.cons (.str "box") (.cons (.bl true) .nil))) (.cons (.tup (.cons (.str "end") .nil)) (.cons (.str "box0") (.cons (.tup (.cons (.str "go") (.cons (.int 0) .nil))) .nil))))))))))) (.cons (.ret (.ix (.var 2) (.fn 0 (.cons (.var 0) (.cons (.blt .len (.cons (.var 2) .nil)) .nil))))) .nil))))
/-- _law_deeds_by: slots ; calls ; names  -/
def l_deeds_byC : CB := (.cons (.ret (.lst (.cons (.str "add") (.cons (.str "less") (.cons (.str "times") (.cons (.str "both") (.cons (.str "odd") (.cons (.str "same") (.cons (.str "under") .nil))))))))) .nil)
end DL

namespace DL
open PySem PySem.Spec PyProof.Rows L2
/-! data of any kind, as the laws bend it -/
def asc (s : Str) : Prop := ∀ c ∈ s.cps.toList, c < 128
instance (s : Str) : Decidable (asc s) := List.decidableBAll (fun c => c < 128) s.cps.toList
/-- plain signs; texts and tuples of at most n; lists and dicts stand in the store, but not at o -/
inductive KD (n : Nat) (o : Addr) (G : Sto) : D → Prop
  | non : KD n o G .non
  | bl (b : Bool) : KD n o G (.bl b)
  | int (i : Int) : KD n o G (.int i)
  | str {s : Str} : asc s → s.length ≤ n → KD n o G (.str s)
  | tup {ds : List D} : (∀ d, d ∈ ds → KD n o G d) → ds.length ≤ n → KD n o G (.tup ds)
  | lst {a : Addr} {ds : List D} : G a = some (.lst ds) → a ≠ o → KD n o G (.ref a)
  | dic {a : Addr} {kvs : List (Key × D)} : G a = some (.dK kvs) → a ≠ o → KD n o G (.ref a)
theorem KD.keep {n m : Nat} {o : Addr} {G G' : Sto} (g : Keeps o G G') (l : n ≤ m) {d : D} (h : KD n o G d) : KD m o G' d := by
  induction h with
  | non => exact .non
  | bl b => exact .bl b
  | int i => exact .int i
  | str h1 h2 => exact .str h1 (Nat.le_trans h2 l)
  | tup _ hl ih => exact .tup ih (Nat.le_trans hl l)
  | lst h n => exact .lst (g _ _ n h) n
  | dic h n => exact .dic (g _ _ n h) n
/-- what type a datum has -/
inductive TyOf (G : Sto) : D → String → Prop
  | non : TyOf G .non "NoneType"
  | bl (b : Bool) : TyOf G (.bl b) "bool"
  | int (i : Int) : TyOf G (.int i) "int"
  | str (s : Str) : TyOf G (.str s) "str"
  | tup (ds : List D) : TyOf G (.tup ds) "tuple"
  | lst {a : Addr} {ds : List D} : G a = some (.lst ds) → TyOf G (.ref a) "list"
  | dic {a : Addr} {kvs : List (Key × D)} : G a = some (.dK kvs) → TyOf G (.ref a) "dict"
theorem TyOf.tyD {G : Sto} {d : D} {t : String} (h : TyOf G d t) {k : String → Prop} (q : k t) : DL.tyD d G k := by
  cases h with
  | lst h => exact .inl ⟨⟨_, h⟩, q⟩
  | dic h => exact .inr (.inl ⟨⟨_, h⟩, q⟩)
  | _ => exact q
theorem KD.ty {n : Nat} {o : Addr} {G : Sto} {d : D} (h : KD n o G d) : ∃ t, TyOf G d t := by
  cases h with
  | non => exact ⟨_, .non⟩
  | bl b => exact ⟨_, .bl b⟩
  | int i => exact ⟨_, .int i⟩
  | str h1 h2 => exact ⟨_, .str _⟩
  | tup _ _ => exact ⟨_, .tup _⟩
  | lst h _ => exact ⟨_, .lst h⟩
  | dic h _ => exact ⟨_, .dic h⟩
theorem Grow.step {G G1 : Sto} {a : Addr} {c : Cl} (g : Grow G G1) (h : G1 a = none) : Grow G (put G1 a c) := g.trans (.new h)
/-- a datum of any kind, drawn -/
def sp_l_odd : DSp := fun ds G Q _ => ∃ p c, ds = [.ref p] ∧ Pen G p c ∧ ∀ d G', KD 24 p G' d → Pen G' p c → Keeps p G G' → Q d G'
theorem len_l_odd : LenS sp_l_odd 1 := by rintro ds G Q xq ⟨p, c, rfl, _⟩; rfl
theorem kstr {n : Nat} {o : Addr} {G : Sto} (s : String) (h1 : asc (Str.ofString s)) (h2 : (Str.ofString s).length ≤ n) : KD n o G (.str (Str.ofString s)) := .str h1 h2
set_option maxHeartbeats 0 in
theorem body_l_odd : Bod [spDraw] [] l_oddC 3 sp_l_odd := by
  rintro ds G Q xq ⟨p, c, rfl, hp, q⟩
  refine ⟨⟨by decide, by decide, by decide⟩, p, c, 10 ^ 30, rfl, by decide, by decide, hp, fun far G1 _ _ hp1 o1 => ?_⟩
  refine ⟨sz (m := 0) (by simp), fun a2 f2 => ?_⟩
  generalize h2 : put G1 a2 (.lst []) = G2
  have g2 : Grow G1 G2 := by rw [← h2]; exact .new f2
  have e2 : G2 a2 = some (.lst []) := by rw [← h2]; exact put_same
  refine ⟨sz (m := 0) (by simp), fun a3 f3 => ⟨put_same, [], rfl, by simp, ?_⟩⟩
  rw [put_put]
  generalize h3 : put G2 a3 (.dK (mergeD [] [])) = G3
  have g3 : Grow G2 G3 := by rw [← h3]; exact .new f3
  have e3 : G3 a3 = some (.dK (mergeD [] [])) := by rw [← h3]; exact put_same
  refine ⟨sz (m := 1) (by simp), sz (m := 1) (by simp), fun a4 f4 => ?_⟩
  generalize h4 : put G3 a4 (.lst [.int 1]) = G4
  have g4 : Grow G3 G4 := by rw [← h4]; exact .new f4
  have e4 : G4 a4 = some (.lst [.int 1]) := by rw [← h4]; exact put_same
  refine ⟨sz (m := 2) (by simp), fun a5 f5 => ⟨sz (m := 1) (by simp), fun a6 f6 => ⟨?_, [(.inr "a", .ref a6)], rfl, by simp, ?_⟩⟩⟩
  · exact Grow.new f6 _ _ put_same
  generalize h5 : put (put (put G4 a5 (.dK [])) a6 (.lst [.int 1])) a5 (.dK (mergeD [] [(.inr "a", .ref a6)])) = G5
  have g5 : Grow G4 G5 := by
    rw [← h5]
    intro b cl e
    rw [put_ne (ne_new f5 e)]
    exact Grow.new f6 _ _ (Grow.new f5 _ _ e)
  have e5 : G5 a5 = some (.dK (mergeD [] [(.inr "a", .ref a6)])) := by rw [← h5]; exact put_same
  refine ⟨sz (m := 0) (by simp), fun a7 f7 => ⟨sz (m := 1) (by simp), fun a8 f8 => ⟨sz (m := 1) (by simp), fun a9 f9 => ?_⟩⟩⟩
  generalize h6 : put (put (put G5 a7 (.lst [])) a8 (.lst [.ref a7])) a9 (.lst [.ref a8]) = G6
  have g6 : Grow G5 G6 := by
    rw [← h6]
    exact ((Grow.new f7).step f8).step f9
  have e6 : G6 a9 = some (.lst [.ref a8]) := by rw [← h6]; exact put_same
  refine ⟨sz (m := 16) (by simp), fun a10 f10 => ?_⟩
  refine ⟨sz (m := 0) (by simp), sz (m := 0) (by simp), sz (m := 2) (by simp), sz (m := 2) (by simp), sz (m := 1) (by simp), sz (m := 2) (by simp), sz (m := 2) (by simp), sz (m := 1) (by simp), sz (m := 2) (by simp), sz (m := 8) (by simp), fun a11 f11 => ?_⟩
  refine ⟨_, _, Grow.new f11 _ _ put_same, put_same, sz (m := 24) (by simp), fun a12 f12 => ?_⟩
  generalize hL : ([D.non, .bl true, .bl false, .int (-1 - far), .int far, .str "", .str "num", .str "0", .ref a2, .tup [], .ref a3, .tup [.int 0], .ref a4, .tup [.str "num", .int 5], .ref a5, .ref a9] ++
    [D.int 65536, .int 65535, .tup [.tup [], .tup []], .tup [.tup [.str "num", .int 1], .tup [.str "tell"]], .tup [.str "box", .bl true], .tup [.str "end"], .str "box0", .tup [.str "go", .int 0]]) = L
  have hlen : L.length = 24 := by rw [← hL]; rfl
  have g10 : Grow G6 (put G6 a10 (.lst [D.non, .bl true, .bl false, .int (-1 - far), .int far, .str "", .str "num", .str "0", .ref a2, .tup [], .ref a3, .tup [.int 0], .ref a4, .tup [.str "num", .int 5], .ref a5, .ref a9])) := .new f10
  have g12 : Grow G6 (put (put (put G6 a10 (.lst [D.non, .bl true, .bl false, .int (-1 - far), .int far, .str "", .str "num", .str "0", .ref a2, .tup [], .ref a3, .tup [.int 0], .ref a4, .tup [.str "num", .int 5], .ref a5, .ref a9])) a11 (.lst [D.int 65536, .int 65535, .tup [.tup [], .tup []], .tup [.tup [.str "num", .int 1], .tup [.str "tell"]], .tup [.str "box", .bl true], .tup [.str "end"], .str "box0", .tup [.str "go", .int 0]])) a12 (.lst L)) := (g10.step f11).step f12
  have hp12 := (((((hp1.grow g2).grow g3).grow g4).grow g5).grow g6).grow g12
  have k12 : Keeps p G _ := ((((((o1.keeps.trans g2.keeps).trans g3.keeps).trans g4.keeps).trans g5.keeps).trans g6.keeps).trans g12.keeps)
  have hnp : a12 ≠ p := by
    have := hp12.ne (q := a12)
    intro z
    subst z
    obtain ⟨x, r, cells, e, _⟩ := hp12
    rw [put_same] at e
    injection e with e
    injection e with e
    rw [e] at hlen
    cases hlen
  refine ⟨_, put_same, ?_⟩
  refine ⟨p, c, _, rfl, by rw [hlen]; decide, by rw [hlen]; decide, hp12, fun r G13 h0 h1 hp13 o13 => ?_⟩
  obtain ⟨j, d, rfl, hj, hx⟩ := at_nat h0 h1
  have k13 : Keeps p G6 G13 := g12.keeps.trans o13.keeps
  refine ⟨_, _, (o13 _ hnp).trans put_same, hx, q d G13 ?_ hp13 (k12.trans o13.keeps)⟩
  have hmem := List.mem_of_getElem? hj
  have npl : ∀ {a : Addr} {ds : List D}, G6 a = some (.lst ds) → ds.length < 3 → a ≠ p := fun {a ds} e hl z => by
    subst z
    have hp6 := ((((hp1.grow g2).grow g3).grow g4).grow g5).grow g6
    obtain ⟨x, r, cells, e', _⟩ := hp6
    rw [e] at e'
    injection e' with e'
    injection e' with e'
    rw [e'] at hl
    exact absurd hl (by simp)
  have npd : ∀ {a : Addr} {kvs : List (Key × D)}, G6 a = some (.dK kvs) → a ≠ p := fun {a kvs} e z => by
    subst z
    have hp6 := ((((hp1.grow g2).grow g3).grow g4).grow g5).grow g6
    obtain ⟨x, r, cells, e', _⟩ := hp6
    rw [e] at e'
    cases e'
  have E2 : G6 a2 = some (.lst []) := g6 _ _ (g5 _ _ (g4 _ _ (g3 _ _ e2)))
  have E3 : G6 a3 = _ := g6 _ _ (g5 _ _ (g4 _ _ e3))
  have E4 : G6 a4 = some (.lst [.int 1]) := g6 _ _ (g5 _ _ e4)
  have E5 : G6 a5 = _ := g6 _ _ e5
  have K2 : KD 24 p G13 (.ref a2) := .lst (k13 _ _ (npl E2 (by decide)) E2) (npl E2 (by decide))
  have K3 : KD 24 p G13 (.ref a3) := .dic (k13 _ _ (npd E3) E3) (npd E3)
  have K4 : KD 24 p G13 (.ref a4) := .lst (k13 _ _ (npl E4 (by simp)) E4) (npl E4 (by simp))
  have K5 : KD 24 p G13 (.ref a5) := .dic (k13 _ _ (npd E5) E5) (npd E5)
  have K9 : KD 24 p G13 (.ref a9) := .lst (k13 _ _ (npl e6 (by simp)) e6) (npl e6 (by simp))
  have KT0 : KD 24 p G13 (.tup []) := .tup (fun d hd => by cases hd) (by simp)
  have one : ∀ {x : D}, KD 24 p G13 x → KD 24 p G13 (.tup [x]) := fun hx => .tup (fun d hd => by
    rw [List.mem_singleton] at hd
    rw [hd]
    exact hx) (by simp)
  have two : ∀ {x y : D}, KD 24 p G13 x → KD 24 p G13 y → KD 24 p G13 (.tup [x, y]) := fun hx hy => .tup (fun d hd => by
    simp only [List.mem_cons, List.not_mem_nil, or_false] at hd
    rcases hd with rfl | rfl
    · exact hx
    · exact hy) (by simp)
  rw [← hL] at hmem
  simp only [List.cons_append, List.nil_append, List.mem_cons, List.not_mem_nil, or_false] at hmem
  rcases hmem with rfl | rfl | rfl | rfl | rfl | rfl | rfl | rfl | rfl | rfl | rfl | rfl | rfl | rfl | rfl | rfl | rfl | rfl | rfl | rfl | rfl | rfl | rfl | rfl
  · exact .non
  · exact .bl _
  · exact .bl _
  · exact .int _
  · exact .int _
  · exact kstr "" (by decide +kernel) (by decide +kernel)
  · exact kstr "num" (by decide +kernel) (by decide +kernel)
  · exact kstr "0" (by decide +kernel) (by decide +kernel)
  · exact K2
  · exact KT0
  · exact K3
  · exact one (.int _)
  · exact K4
  · exact two (kstr "num" (by decide +kernel) (by decide +kernel)) (.int _)
  · exact K5
  · exact K9
  · exact .int _
  · exact .int _
  · exact two KT0 KT0
  · exact two (two (kstr "num" (by decide +kernel) (by decide +kernel)) (.int _)) (one (kstr "tell" (by decide +kernel) (by decide +kernel)))
  · exact two (kstr "box" (by decide +kernel) (by decide +kernel)) (.bl _)
  · exact one (kstr "end" (by decide +kernel) (by decide +kernel))
  · exact kstr "box0" (by decide +kernel) (by decide +kernel)
  · exact two (kstr "go" (by decide +kernel) (by decide +kernel)) (.int _)
end DL

namespace DL
open PySem PySem.Spec PyProof.Rows L2
/-! texts cut and joined -/
theorem len_cps (z : Str) : z.cps.toList.length = z.length := by simp [Str.length]
theorem cutS_len (z : Str) (lo hi : Option Int) : (cutS z lo hi).length ≤ z.length := by
  have h : (cutS z lo hi).length = ((z.cps.toList.drop (HT.sIx z.length 0 lo)).take (HT.sIx z.length z.length hi - HT.sIx z.length 0 lo)).length := by
    unfold cutS Str.length
    simp
  rw [h, List.length_take, List.length_drop, len_cps]
  omega
theorem strOk_iff {z : Str} : PyData.strOk z = true ↔ ∀ c ∈ z.cps.toList, c < 0x110000 := by
  unfold PyData.strOk
  rw [Array.all_eq_true]
  constructor
  · intro h c hc
    obtain ⟨i, hi, rfl⟩ := List.getElem_of_mem hc
    have := h i (by simpa using hi)
    simpa using this
  · intro h i hi
    have := h (z.cps[i]) (by simp)
    simpa using this
theorem asc_ok {z : Str} (h : asc z) : PyData.strOk z = true := strOk_iff.mpr fun c hc => Nat.lt_trans (h c hc) (by decide)
theorem asc_cat {y z : Str} (hy : asc y) (hz : asc z) : asc (y ++ z) := by
  intro c hc
  have e : (y ++ z).cps.toList = y.cps.toList ++ z.cps.toList := by
    rw [show (y ++ z).cps = y.cps ++ z.cps from rfl, Array.toList_append]
  rw [e] at hc
  rcases List.mem_append.mp hc with hc | hc
  · exact hy c hc
  · exact hz c hc
theorem cutS_ok {z : Str} (h : asc z) (lo hi : Option Int) : asc (cutS z lo hi) := by
  intro c hc
  apply h
  unfold cutS at hc
  have hc' : c ∈ (z.cps.toList.drop (HT.sIx z.length 0 lo)).take (HT.sIx z.length z.length hi - HT.sIx z.length 0 lo) := by simpa using hc
  exact List.mem_of_mem_drop (List.mem_of_mem_take hc')
theorem one_ok {z : Str} {c : Nat} (h : asc z) (hc : c ∈ z.cps.toList) : asc ⟨#[c]⟩ := by
  intro d hd
  have : d = c := by simpa using hd
  rw [this]
  exact h c hc
/-- texts of a known size -/
def TxtOk (n : Nat) (z : Str) : Prop := asc z ∧ z.length ≤ n
theorem TxtOk.cat {n m : Nat} {y z : Str} (hy : TxtOk n y) (hz : TxtOk m z) : TxtOk (n + m) (y ++ z) := ⟨asc_cat hy.1 hz.1, by rw [size_cat]; have := hy.2; have := hz.2; omega⟩
theorem TxtOk.cut {n : Nat} {z : Str} (hz : TxtOk n z) (lo hi : Option Int) : TxtOk n (cutS z lo hi) := ⟨cutS_ok hz.1 lo hi, Nat.le_trans (cutS_len z lo hi) hz.2⟩
theorem TxtOk.mono {n m : Nat} {z : Str} (h : TxtOk n z) (l : n ≤ m) : TxtOk m z := ⟨h.1, Nat.le_trans h.2 l⟩
theorem TxtOk.kd {n m : Nat} {z : Str} {o : Addr} {G : Sto} (h : TxtOk n z) (l : n ≤ m) : KD m o G (.str z) := .str h.1 (Nat.le_trans h.2 l)
/-! what is within, what is a worth, a deed -/
def withinB (lo hi : Int) : D → Bool
  | .int i => decide (lo ≤ i) && decide (i ≤ hi)
  | _ => false
def deedB : D → Bool
  | .str s => memF (.str s) (deedsL.map D.str)
  | _ => false
abbrev sp_p_is_whole := sp_l_whole
theorem body_p_is_whole : Bod [] [] wholeC 1 sp_p_is_whole := body_l_whole
theorem len_p_is_whole : LenS sp_p_is_whole 1 := len_l_whole
def withinC : CB := (.cons (.ret (.and (.fn 0 (.cons (.var 0) .nil)) (.chn .LtE .LtE (.var 1) (.var 0) (.var 2)))) .nil)
def sp_p_is_within : DSp := fun ds G Q _ => ∃ (d : D) (lo hi : Int) (t : String), ds = [d, .int lo, .int hi] ∧ TyOf G d t ∧ Q (.bl (withinB lo hi d)) G
theorem len_p_is_within : LenS sp_p_is_within 3 := by rintro ds G Q xq ⟨d, lo, hi, t, rfl, _⟩; rfl
theorem body_p_is_within : Bod [sp_p_is_whole] [] withinC 3 sp_p_is_within := by
  rintro ds G Q xq ⟨d, lo, hi, t, rfl, ht, q⟩
  refine ⟨d, rfl, ?_⟩
  cases ht with
  | non => exact q
  | bl b => exact q
  | int i =>
    refine ite2 (fun h => ?_) (fun h => ?_)
    · have q : Q (.bl (decide (lo ≤ i) && decide (i ≤ hi))) G := q
      have h2 : decide (lo ≤ i) = true := h
      rw [h2, Bool.true_and] at q
      exact q
    · have q : Q (.bl (decide (lo ≤ i) && decide (i ≤ hi))) G := q
      have h2 : decide (lo ≤ i) = false := Bool.not_eq_true _ ▸ h
      rw [h2, Bool.false_and] at q
      exact q
  | str s => exact q
  | tup s => exact q
  | lst h => exact .inl ⟨⟨_, h⟩, q⟩
  | dic h => exact .inr (.inl ⟨⟨_, h⟩, q⟩)
def worthTC : CB := (.cons (.ret (.fn 0 (.cons (.var 0) (.cons (.int 0) (.cons (.bin .Sub (.glb 0) (.int 1)) .nil))))) .nil)
def sp_p_is_worth : DSp := fun ds G Q _ => ∃ (d : D) (t : String), ds = [d] ∧ TyOf G d t ∧ Q (.bl (withinB 0 65535 d)) G
theorem len_p_is_worth : LenS sp_p_is_worth 1 := by rintro ds G Q xq ⟨d, t, rfl, _⟩; rfl
theorem body_p_is_worth : Bod [sp_p_is_within] [.int 65536] worthTC 1 sp_p_is_worth := by
  rintro ds G Q xq ⟨d, t, rfl, ht, q⟩
  exact ⟨d, 0, 65535, t, rfl, ht, q⟩
def deedTC : CB := (.cons (.ret (.and (.blt .isi (.cons (.var 0) (.cons (.tn .str) .nil))) (.cmp .In (.var 0) (.glb 0)))) .nil)
def sp_p_is_deed : DSp := fun ds G Q _ => ∃ (d : D) (t : String), ds = [d] ∧ TyOf G d t ∧ Q (.bl (deedB d)) G
theorem len_p_is_deed : LenS sp_p_is_deed 1 := by rintro ds G Q xq ⟨d, t, rfl, _⟩; rfl
theorem body_p_is_deed : Bod [] [strsD deedsL] deedTC 1 sp_p_is_deed := by
  rintro ds G Q xq ⟨d, t, rfl, ht, q⟩
  cases ht with
  | non => exact ⟨false, rfl, q⟩
  | bl b => exact ⟨false, rfl, q⟩
  | int i => exact ⟨false, rfl, q⟩
  | str s => exact ⟨true, rfl, rfl, strs_flat_deeds, q⟩
  | tup s => exact ⟨false, rfl, q⟩
  | lst h => exact .inl ⟨⟨_, h⟩, false, rfl, q⟩
  | dic h => exact .inr (.inl ⟨⟨_, h⟩, false, rfl, q⟩)
where strs_flat_deeds : (deedsL.map D.str).all flatD = true := rfl
end DL

namespace DL
open PySem PySem.Spec PyProof.Rows L2
/-- _law_bent: slots 0 _law_pen 1 _law_thing 2 _law_deep 3 _law_way 4 _law_at 5 _law_more 6 _law_some 7 _law_letter 8 _law_word; calls _law_odd _law_draw _law_bent; names  -/
def l_bentC : CB := (.cons (.ifs (.and (.val (.blt .isi (.cons (.var 1) (.cons (.tn .tuple) .nil)))) (.and (.cmp .NotEq (.var 1) (.tup .nil)) (.and (.cmp .Gt (.var 2) (.int 0)) (.cmp .Gt (.fn 1 (.cons (.var 0) (.cons (.int 4) .nil))) (.int 0))))) (.cons (.asg (.name 4) (.fn 1 (.cons (.var 0) (.cons (.blt .len (.cons (.var 1) .nil)) .nil)))) (.cons (.ret (.bin .Add (.bin .Add (.sl (.var 1) .no (.part (.var 4))) (.tup (.cons (.fn 2 (.cons (.var 0) (.cons (.ix (.var 1) (.var 4)) (.cons (.bin .Sub (.var 2) (.int 1)) .nil)))) .nil))) (.sl (.var 1) (.part (.bin .Add (.var 4) (.int 1))) .no))) .nil)) .nil) (.cons (.asg (.name 3) (.fn 1 (.cons (.var 0) (.cons (.int 7) .nil)))) (.cons (.ifs (.and (.val (.blt .isi (.cons (.var 1) (.cons (.tn .tuple) .nil)))) (.cmp .Lt (.var 3) (.int 5))) (.cons (.asg (.name 4) (.fn 1 (.cons (.var 0) (.cons (.bin .Add (.blt .len (.cons (.var 1) .nil)) (.int 1)) .nil)))) (.cons (.asg (.name 5) (.sl (.var 1) (.part (.var 4)) (.part (.bin .Add (.var 4) (.int 1))))) (.cons (.asg (.name 6) (.lst (.cons (.bin .Add (.sl (.var 1) .no (.part (.var 4))) (.sl (.var 1) (.part (.bin .Add (.var 4) (.int 1))) .no)) (.cons (.bin .Add (.bin .Add (.sl (.var 1) .no (.part (.var 4))) (.var 5)) (.sl (.var 1) (.part (.var 4)) .no)) (.cons (.blt .list (.cons (.var 1) .nil)) (.cons (.rev (.var 1)) .nil)))))) (.cons (.ret (.ix (.bin .Add (.var 6) (.lst (.cons (.bin .Add (.bin .Add (.sl (.var 1) .no (.part (.var 4))) (.tup (.cons (.fn 0 (.cons (.var 0) .nil)) .nil))) (.sl (.var 1) (.part (.var 4)) .no)) .nil))) (.var 3))) .nil)))) .nil) (.cons (.ifs (.and (.val (.blt .isi (.cons (.var 1) (.cons (.tn .int) .nil)))) (.cmp .Lt (.var 3) (.int 4))) (.cons (.ret (.ix (.lst (.cons (.bin .Add (.var 1) (.int 1)) (.cons (.bin .Sub (.var 1) (.int 1)) (.cons (.bin .Sub (.int 0) (.var 1)) (.cons (.bin .Add (.var 1) (.fn 1 (.cons (.var 0) (.cons (.bin .Pow (.int 10) (.int 20)) .nil)))) .nil))))) (.var 3))) .nil) .nil) (.cons (.ifs (.and (.val (.blt .isi (.cons (.var 1) (.cons (.tn .str) .nil)))) (.cmp .Lt (.var 3) (.int 5))) (.cons (.asg (.name 4) (.fn 1 (.cons (.var 0) (.cons (.bin .Add (.blt .len (.cons (.var 1) .nil)) (.int 1)) .nil)))) (.cons (.asg (.name 7) (.ix (.str "abcdefghijklmnopqrstuvwxyz0123456789 ") (.fn 1 (.cons (.var 0) (.cons (.int 37) .nil))))) (.cons (.asg (.name 8) (.ix (.lst (.cons (.str "add") (.cons (.str "less") (.cons (.str "times") (.cons (.str "both") (.cons (.str "odd") (.cons (.str "same") (.cons (.str "under") (.cons (.str "num") (.cons (.str "box0") (.cons (.str "box1") (.cons (.str "out0") (.cons (.str "in0") (.cons (.str "start0") (.cons (.str "tell") (.cons (.str "go") (.cons (.str "end") (.cons (.str "box11") (.cons (.str "out3") (.cons (.str "in3") (.cons (.str "start3") .nil))))))))))))))))))))) (.fn 1 (.cons (.var 0) (.cons (.int 20) .nil))))) (.cons (.ret (.ix (.lst (.cons (.bin .Add (.bin .Add (.sl (.var 1) .no (.part (.var 4))) (.var 7)) (.sl (.var 1) (.part (.var 4)) .no)) (.cons (.bin .Add (.sl (.var 1) .no (.part (.var 4))) (.sl (.var 1) (.part (.bin .Add (.var 4) (.int 1))) .no)) (.cons (.bin .Add (.var 1) (.str "0")) (.cons (.var 8) (.cons (.mt .upper (.var 1) .nil) .nil)))))) (.var 3))) .nil)))) .nil) (.cons (.ret (.fn 0 (.cons (.var 0) .nil))) .nil))))))
end DL

namespace DL
open PySem PySem.Spec PyProof.Rows L2
theorem cutD_mem {ds : List D} {lo hi : Option Int} {d : D} (h : d ∈ cutD ds lo hi) : d ∈ ds := by
  unfold cutD at h
  exact List.mem_of_mem_drop (List.mem_of_mem_take h)
theorem cutD_len (ds : List D) (lo hi : Option Int) : (cutD ds lo hi).length ≤ ds.length := by
  unfold cutD
  rw [List.length_take, List.length_drop]
  omega
theorem cutD_one {ds : List D} {j : Nat} : (cutD ds (some (j : Int)) (some ((j : Int) + 1))).length ≤ 1 := by
  unfold cutD
  rw [show (j : Int) + 1 = ((j + 1 : Nat) : Int) by omega, HT.sIx_nat, HT.sIx_nat, List.length_take]
  omega
/-! upper letters -/
theorem up_tab : (List.range 128).all (fun c => match Unicode.upperOf c with | [d] => decide (d < 128) | _ => false) = true := by decide +kernel
theorem up_one {c : Nat} (h : c < 128) : ∃ d, Unicode.upperOf c = [d] ∧ d < 128 := by
  have := List.all_eq_true.mp up_tab c (List.mem_range.mpr h)
  revert this
  split
  · rename_i d e
    exact fun h => ⟨d, e, of_decide_eq_true h⟩
  · intro h
    cases h
theorem up_list : ∀ (l : List Nat) (k : Nat), (∀ c ∈ l, c < 128) → ∃ m : List Nat, ((l.mapIdx fun i c => (Unicode.upperOf c).toArray).map Array.toList).flatten = m ∧ m.length = l.length ∧ ∀ c ∈ m, c < 128
  | [], _, _ => ⟨[], rfl, rfl, by simp⟩
  | c :: l, k, h => by
    obtain ⟨d, hd, hd2⟩ := up_one (h c (by simp))
    obtain ⟨m, h1, h2, h3⟩ := up_list l k fun x hx => h x (by simp [hx])
    refine ⟨d :: m, ?_, by simp [h2], ?_⟩
    · rw [List.mapIdx_cons, List.map_cons, List.flatten_cons, hd]
      show d :: (List.map Array.toList (List.mapIdx (fun i c => (Unicode.upperOf c).toArray) l)).flatten = d :: m
      rw [h1]
    · intro x hx
      rcases List.mem_cons.mp hx with rfl | hx
      · exact hd2
      · exact h3 x hx
theorem upper_ok {z : Str} {n : Nat} (h : TxtOk n z) : TxtOk n (Txt.upper z) := by
  obtain ⟨m, h1, h2, h3⟩ := up_list z.cps.toList 0 h.1
  have e : (Txt.upper z).cps.toList = m := by
    unfold Txt.upper placed
    rw [← h1]
    simp [Array.toList_flatten, Array.toList_mapIdx]
  refine ⟨fun c hc => ?_, ?_⟩
  · rw [e] at hc
    exact h3 c hc
  · rw [← len_cps, e, h2, len_cps]
    exact h.2
/-! a datum bent -/
def sp_l_bent (i : Nat) : DSp := fun ds G Q _ => ∃ (p c : Addr) (thing : D) (deep : Int) (n : Nat), ds = [.ref p, thing, .int deep] ∧ 0 ≤ deep ∧ deep < i ∧ 24 ≤ n ∧ n ≤ 1000 ∧ KD n p G thing ∧ Pen G p c ∧
  ∀ d G', KD (n + 1) p G' d → Pen G' p c → Keeps p G G' → Q d G'
theorem len_l_bent (i : Nat) : LenS (sp_l_bent i) 3 := by rintro ds G Q xq ⟨p, c, t, d, n, rfl, _⟩; rfl
theorem sp_l_bent_0 {ds : List D} {G : Sto} {Q : DQ} {xq : XQ} (h : sp_l_bent 0 ds G Q xq) : False := by
  obtain ⟨p, c, t, d, n, _, h1, h2, _⟩ := h
  have h2 : d < 0 := h2
  omega
abbrev FB (i : Nat) : List DSp := [sp_l_odd, spDraw, sp_l_bent i]
def letters : Str := "abcdefghijklmnopqrstuvwxyz0123456789 "
theorem letters_len : letters.length = 37 := by decide +kernel
theorem letters_asc : asc letters := by decide +kernel
def wordsB : List Str := ["add", "less", "times", "both", "odd", "same", "under", "num", "box0", "box1", "out0", "in0", "start0", "tell", "go", "end", "box11", "out3", "in3", "start3"]
theorem wordsB_ok : wordsB.all (fun w => decide (asc w) && decide (w.length ≤ 6)) = true := by decide +kernel
theorem KD.cutT {n m : Nat} {p : Addr} {G G' : Sto} {ds : List D} (h : ∀ d ∈ ds, KD n p G d) (k : Keeps p G G') (l : n ≤ m) {lo hi : Option Int} : ∀ d ∈ cutD ds lo hi, KD m p G' d := fun d hd => (h d (cutD_mem hd)).keep k l
theorem all_app {α : Type} {P : α → Prop} {xs ys : List α} (h1 : ∀ x ∈ xs, P x) (h2 : ∀ x ∈ ys, P x) : ∀ x ∈ xs ++ ys, P x := fun x hx => by
  rcases List.mem_append.mp hx with hx | hx
  · exact h1 x hx
  · exact h2 x hx
set_option maxHeartbeats 0 in
theorem body_l_bent (i : Nat) : Bod (FB i) [] l_bentC 9 (sp_l_bent (i + 1)) := by
  rintro ds G Q xq ⟨p, c, thing, deep, n, rfl, hd0, hd1, hn1, hn2, hk, hp, q⟩
  -- the odd end
  have tOdd : ∀ (ρ : Ev) (G1 : Sto), ρ[0]? = some (some (.ref p)) → Pen G1 p c → Keeps p G G1 → denB (FB i) [] (l_bentC.drop 5) (Fin0 Q xq) ρ G1 := by
    intro ρ G1 hρ hp1 k1
    cases ρ with
    | nil => cases hρ
    | cons x xs =>
      have hx : x = some (.ref p) := by simpa using hρ
      subst hx
      exact ⟨p, c, rfl, hp1, fun d G2 hd hp2 k2 => q d G2 (hd.keep .refl (by omega)) hp2 (k1.trans k2)⟩
  -- from the way on
  have tWay : ∀ (G1 : Sto), Pen G1 p c → Keeps p G G1 → denB (FB i) [] (l_bentC.drop 1) (Fin0 Q xq) [some (.ref p), some thing, some (.int deep), none, none, none, none, none, none] G1 := by
    intro G1 hp1 k1
    refine ⟨p, c, 7, rfl, by decide, by decide, hp1, fun r2 G2 h20 h21 hp2 o2 => ?_⟩
    have k2 : Keeps p G G2 := k1.trans o2.keeps
    obtain ⟨w, rfl⟩ : ∃ w : Nat, r2 = w := ⟨r2.toNat, by omega⟩
    have o0 := tOdd [some (.ref p), some thing, some (.int deep), some (.int w), none, none, none, none, none] G2 rfl hp2 k2
    cases hk with
    | non => exact ⟨false, rfl, false, rfl, false, rfl, o0⟩
    | lst h hn => exact .inl ⟨⟨_, k2 _ _ hn h⟩, false, rfl, .inl ⟨⟨_, k2 _ _ hn h⟩, false, rfl, .inl ⟨⟨_, k2 _ _ hn h⟩, false, rfl, o0⟩⟩⟩
    | dic h hn => exact .inr (.inl ⟨⟨_, k2 _ _ hn h⟩, false, rfl, .inr (.inl ⟨⟨_, k2 _ _ hn h⟩, false, rfl, .inr (.inl ⟨⟨_, k2 _ _ hn h⟩, false, rfl, o0⟩)⟩)⟩)
    | bl b =>
      refine ⟨false, rfl, true, rfl, ?_⟩
      refine ite2 (fun h => ?_) (fun h => ⟨false, rfl, o0⟩)
      have hw : w < 4 := by have := of_decide_eq_true h; omega
      refine ⟨⟨by decide, by decide, by decide⟩, p, c, _, rfl, by decide, by decide, hp2, fun r3 G3 _ _ hp3 o3 => ?_⟩
      refine ⟨sz (m := 4) (by simp), fun l hl => ?_⟩
      have fin : ∀ {cl : Cl} (z : Int), Q (.int z) (put G3 l cl) := fun {cl} z => q _ _ (.int z) (hp3.new hl) ((k2.trans o3.keeps).trans (.new hl))
      match w, hw with
      | 0, _ => exact ⟨_, _, put_same, rfl, fin _⟩
      | 1, _ => exact ⟨_, _, put_same, rfl, fin _⟩
      | 2, _ => exact ⟨_, _, put_same, rfl, fin _⟩
      | 3, _ => exact ⟨_, _, put_same, rfl, fin _⟩
    | int z0 =>
      refine ⟨false, rfl, true, rfl, ?_⟩
      refine ite2 (fun h => ?_) (fun h => ⟨false, rfl, o0⟩)
      have hw : w < 4 := by have := of_decide_eq_true h; omega
      refine ⟨⟨by decide, by decide, by decide⟩, p, c, _, rfl, by decide, by decide, hp2, fun r3 G3 _ _ hp3 o3 => ?_⟩
      refine ⟨sz (m := 4) (by simp), fun l hl => ?_⟩
      have fin : ∀ {cl : Cl} (z : Int), Q (.int z) (put G3 l cl) := fun {cl} z => q _ _ (.int z) (hp3.new hl) ((k2.trans o3.keeps).trans (.new hl))
      match w, hw with
      | 0, _ => exact ⟨_, _, put_same, rfl, fin _⟩
      | 1, _ => exact ⟨_, _, put_same, rfl, fin _⟩
      | 2, _ => exact ⟨_, _, put_same, rfl, fin _⟩
      | 3, _ => exact ⟨_, _, put_same, rfl, fin _⟩
    | @str s ha hl =>
      refine ⟨false, rfl, false, rfl, true, rfl, ?_⟩
      refine ite2 (fun h => ?_) (fun h => o0)
      have hw : w < 5 := by have := of_decide_eq_true h; omega
      have ok : TxtOk n s := ⟨ha, hl⟩
      have szs : s.length ≤ sizeLine := sz (m := 1000) (by omega)
      refine ⟨szs, p, c, _, rfl, by omega, by omega, hp2, fun at_ G3 h30 h31 hp3 o3 => ?_⟩
      refine ⟨p, c, 37, rfl, by decide, by decide, hp3, fun r4 G4 h40 h41 hp4 o4 => ?_⟩
      obtain ⟨j4, c4, rfl, hj4, hx4⟩ := at_nat (xs := letters.cps.toList) h40 (by rw [len_cps, letters_len]; exact h41)
      refine ⟨c4, by show letters.length ≤ sizeLine; rw [letters_len]; decide, hx4, ?_⟩
      have okL : TxtOk 1 ⟨#[c4]⟩ := ⟨one_ok letters_asc (List.mem_of_getElem? hj4), Nat.le_refl _⟩
      refine ⟨sz (m := 20) (by simp), fun l5 f5 => ?_⟩
      have n5 := hp4.ne f5
      refine ⟨p, c, 20, rfl, by decide, by decide, hp4.new f5, fun r6 G6 h60 h61 hp6 o6 => ?_⟩
      obtain ⟨j6, d6, rfl, hj6, hx6⟩ := at_nat (xs := wordsB.map D.str) h60 h61
      obtain ⟨wd, hwd, rfl⟩ : ∃ wd, wordsB[j6]? = some wd ∧ d6 = .str wd := by
        rw [List.getElem?_map] at hj6
        cases e : wordsB[j6]? with
        | none => rw [e] at hj6; cases hj6
        | some t => rw [e] at hj6; exact ⟨t, rfl, (Option.some.inj hj6).symm⟩
      have hwo := List.all_eq_true.mp wordsB_ok wd (List.mem_of_getElem? hwd)
      simp only [Bool.and_eq_true, decide_eq_true_eq] at hwo
      refine ⟨_, _, (o6 _ n5.1).trans put_same, hx6, ?_⟩
      have kk : Keeps p G G6 := (((k2.trans o3.keeps).trans o4.keeps).trans (.new f5)).trans o6.keeps
      have lc1 := cutS_len s none (some at_)
      have t1 := (ok.cut none (some at_)).cat okL
      -- lengths of the two parts
      obtain ⟨j, rfl⟩ : ∃ j : Nat, at_ = j := ⟨at_.toNat, by omega⟩
      have hj : j ≤ s.length := by omega
      have cl1 : (cutS s none (some (j : Int))).length = j := by
        unfold cutS Str.length
        rw [HT.sIx_none, HT.sIx_nat]
        simp
        have hj2 : j ≤ s.cps.size := hj
        omega
      have cl2 : (cutS s (some (j : Int)) none).length = s.length - j := by
        unfold cutS Str.length
        rw [HT.sIx_none, HT.sIx_nat]
        simp
        have hj2 : j ≤ s.cps.size := hj
        omega
      have cl3 : (cutS s (some ((j : Int) + 1)) none).length ≤ s.length - j := by
        rw [show (j : Int) + 1 = ((j + 1 : Nat) : Int) by omega]
        unfold cutS Str.length
        rw [HT.sIx_none, HT.sIx_nat]
        simp
        have hj2 : j ≤ s.cps.size := hj
        omega
      have b1 : (cutS s none (some (j : Int)) ++ (⟨#[c4]⟩ : Str)).length = j + 1 := by
        rw [size_cat, cl1]
        rfl
      have A1 : TxtOk (n + 1) (cutS s none (some (j : Int)) ++ (⟨#[c4]⟩ : Str) ++ cutS s (some (j : Int)) none) := ⟨asc_cat t1.1 (ok.cut (some (j : Int)) none).1, by rw [size_cat, b1, cl2]; omega⟩
      have A2 : TxtOk (n + 1) (cutS s none (some (j : Int)) ++ cutS s (some ((j : Int) + 1)) none) := ⟨asc_cat (ok.cut none (some (j : Int))).1 (ok.cut (some ((j : Int) + 1)) none).1, by rw [size_cat, cl1]; omega⟩
      have z0 : asc (Str.ofString "0") ∧ (Str.ofString "0").length = 1 := by decide +kernel
      have A3 : TxtOk (n + 1) (s ++ Str.ofString "0") := ⟨asc_cat ha z0.1, by rw [size_cat, z0.2]; omega⟩
      have A4 : TxtOk (n + 1) wd := ⟨hwo.1, by omega⟩
      have A5 : TxtOk (n + 1) (Txt.upper s) := (upper_ok ok).mono (by omega)
      refine ⟨szs, by rw [cl1]; exact sz (m := 2000) (show j + 1 ≤ 2000 by omega), szs, by rw [b1, cl2]; exact sz (m := 2000) (by omega), szs, szs, by rw [cl1]; exact sz (m := 2000) (by omega), by rw [z0.2]; exact sz (m := 2000) (by omega), rfl, by omega, sz (m := 5) (by simp), fun l7 f7 => ?_⟩
      have fin : ∀ {cl : Cl} {t : Str}, TxtOk (n + 1) t → Q (.str t) (put G6 l7 cl) := fun {cl t} ht => q _ _ (.str ht.1 ht.2) (hp6.new f7) (kk.trans (.new f7))
      match w, hw with
      | 0, _ => exact ⟨_, _, put_same, rfl, fin A1⟩
      | 1, _ => exact ⟨_, _, put_same, rfl, fin A2⟩
      | 2, _ => exact ⟨_, _, put_same, rfl, fin A3⟩
      | 3, _ => exact ⟨_, _, put_same, rfl, fin A4⟩
      | 4, _ => exact ⟨_, _, put_same, rfl, fin A5⟩
    | @tup ds hds hl =>
      refine ⟨true, rfl, ?_⟩
      refine ite2 (fun h => ?_) (fun h => ⟨false, rfl, false, rfl, o0⟩)
      have hw : w < 5 := by have := of_decide_eq_true h; omega
      refine ⟨p, c, _, rfl, by omega, by omega, hp2, fun at_ G3 h30 h31 hp3 o3 => ?_⟩
      have k3 : Keeps p G G3 := k2.trans o3.keeps
      obtain ⟨j, rfl⟩ : ∃ j : Nat, at_ = j := ⟨at_.toNat, by omega⟩
      have hj : j ≤ ds.length := by omega
      have c1 : cutD ds none (some (j : Int)) = ds.take j := cut_hi _ hj
      have c2 : cutD ds (some (j : Int)) none = ds.drop j := cut_lo (α := D) _ hj
      have c3 : (cutD ds (some ((j : Int) + 1)) none).length ≤ ds.length - j := by
        rw [show (j : Int) + 1 = ((j + 1 : Nat) : Int) by omega]
        unfold cutD
        rw [HT.sIx_none, HT.sIx_nat, List.length_take, List.length_drop]
        omega
      have c4 : (cutD ds (some (j : Int)) (some ((j : Int) + 1))).length ≤ 1 := cutD_one
      have l1 : (ds.take j).length = j := by rw [List.length_take]; omega
      have l2 : (ds.drop j).length = ds.length - j := List.length_drop
      have l1' : (cutD ds none (some (j : Int))).length = j := by rw [c1, l1]
      have l2' : (cutD ds (some (j : Int)) none).length = ds.length - j := by rw [c2, l2]
      refine ⟨by rw [l1']; exact sz (m := 2000) (by omega), by rw [l1']; exact sz (m := 2000) (by omega), by rw [List.length_append, l1', l2']; exact sz (m := 3000) (by omega), fun l4 f4 => ?_⟩
      refine ⟨sz (m := 4) (by simp), fun l5 f5 => ?_⟩
      have hp5 := (hp3.new (x := .lst ds) f4).new (x := .lst [.tup (cutD ds none (some (j : Int)) ++ cutD ds (some ((j : Int) + 1)) none), .tup (cutD ds none (some (j : Int)) ++ cutD ds (some (j : Int)) (some ((j : Int) + 1)) ++ cutD ds (some (j : Int)) none), .ref l4, .tup ds.reverse]) f5
      have n4 := hp3.ne f4
      have n5 := (hp3.new (x := .lst ds) f4).ne f5
      refine ⟨p, c, rfl, hp5, fun d6 G6 hd6 hp6 k6 => ?_⟩
      have k5 : Keeps p G3 G6 := ((Keeps.new f4).trans (.new f5)).trans k6
      have e5 : G6 l5 = _ := k6 _ _ n5.1 put_same
      have e4 : G6 l4 = some (.lst ds) := k6 _ _ n4.1 (Grow.new f5 _ _ put_same)
      refine ⟨sz (m := 1) (by simp), by rw [l1']; exact sz (m := 2000) (by simp; omega), by rw [List.length_append, l1', l2']; exact sz (m := 3000) (by simp; omega), sz (m := 1) (by simp), fun l7 f7 => ?_⟩
      refine ⟨_, _, Grow.new f7 _ _ e5, put_same, sz (m := 5) (by simp), fun l8 f8 => ?_⟩
      have kk : ∀ {c7 c8 : Cl}, put G6 l7 c7 l8 = none → Keeps p G (put (put G6 l7 c7) l8 c8) := fun {c7 c8} f8 => ((k3.trans k5).trans (.new f7)).trans (.new f8)
      have kd : ∀ {c7 c8 : Cl}, put G6 l7 c7 l8 = none → ∀ {lo hi : Option Int}, ∀ d ∈ cutD ds lo hi, KD (n + 1) p (put (put G6 l7 c7) l8 c8) d := fun {c7 c8} f8 {lo hi} => KD.cutT hds (kk f8) (by omega)
      have hpf : ∀ {c7 c8 : Cl}, put G6 l7 c7 l8 = none → Pen (put (put G6 l7 c7) l8 c8) p c := fun {c7 c8} f8 => (hp6.new f7).new f8
      match w, hw with
      | 0, _ => exact ⟨_, _, put_same, rfl, q _ _ (.tup (all_app (kd f8) (kd f8)) (by rw [List.length_append, l1']; omega)) (hpf f8) (kk f8)⟩
      | 1, _ => exact ⟨_, _, put_same, rfl, q _ _ (.tup (all_app (all_app (kd f8) (kd f8)) (kd f8)) (by rw [List.length_append, List.length_append, l1', l2']; omega)) (hpf f8) (kk f8)⟩
      | 2, _ => exact ⟨_, _, put_same, rfl, q _ _ (.lst (Grow.new f8 _ _ (Grow.new f7 _ _ e4)) n4.1) (hpf f8) (kk f8)⟩
      | 3, _ => exact ⟨_, _, put_same, rfl, q _ _ (.tup (fun d hd => (hds d (List.mem_reverse.mp hd)).keep (kk f8) (by omega)) (by rw [List.length_reverse]; omega)) (hpf f8) (kk f8)⟩
      | 4, _ => exact ⟨_, _, put_same, rfl, q _ _ (.tup (all_app (all_app (kd f8) (fun d hd => by
          rw [List.mem_singleton] at hd
          subst hd
          exact hd6.keep ((Keeps.new f7).trans (.new f8)) (by omega))) (kd f8)) (by rw [List.length_append, List.length_append, l1', l2']; simp; omega)) (hpf f8) (kk f8)⟩
  have h0 := tWay G hp .refl
  cases hk with
  | non => exact ⟨false, rfl, h0⟩
  | bl b => exact ⟨false, rfl, h0⟩
  | int z => exact ⟨false, rfl, h0⟩
  | str h1 h2 => exact ⟨false, rfl, h0⟩
  | lst h hn => exact .inl ⟨⟨_, h⟩, false, rfl, h0⟩
  | dic h hn => exact .inr (.inl ⟨⟨_, h⟩, false, rfl, h0⟩)
  | @tup ds hds hl =>
    refine ⟨true, rfl, sz (m := 0) (by simp), ?_⟩
    refine ite2 (fun h => ?_) (fun h => h0)
    have hne : ds ≠ [] := fun z => by
      subst z
      cases h
    have hlen : 1 ≤ ds.length := by
      cases ds with
      | nil => exact (hne rfl).elim
      | cons _ _ => simp
    refine ite2 (fun h => ?_) (fun h => h0)
    have hdeep : 0 < deep := by have := of_decide_eq_true h; omega
    refine ⟨p, c, 4, rfl, by decide, by decide, hp, fun r1 G1 _ _ hp1 o1 => ?_⟩
    refine ite2 (fun h => ?_) (fun h => tWay G1 hp1 o1.keeps)
    refine ⟨p, c, _, rfl, by omega, by omega, hp1, fun at_ G2 h20 h21 hp2 o2 => ?_⟩
    obtain ⟨j, x, rfl, hj, hx⟩ := at_nat (xs := ds) h20 h21
    have hjl : j < ds.length := by omega
    have k2 : Keeps p G G2 := o1.keeps.trans o2.keeps
    refine ⟨_, hx, ?_⟩
    refine ⟨p, c, x, deep - 1, n, rfl, by omega, by omega, hn1, hn2, (hds x (List.mem_of_getElem? hj)).keep k2 (Nat.le_refl _), hp2, fun d G3 hd hp3 k3 => ?_⟩
    have c1 : cutD ds none (some (j : Int)) = ds.take j := cut_hi _ (by omega)
    have c2 : cutD ds (some ((j : Int) + 1)) none = ds.drop (j + 1) := by
      rw [show (j : Int) + 1 = ((j + 1 : Nat) : Int) by omega]
      exact cut_lo (α := D) _ (by omega)
    have l1 : (cutD ds none (some (j : Int))).length = j := by rw [c1, List.length_take]; omega
    have l2 : (cutD ds (some ((j : Int) + 1)) none).length = ds.length - (j + 1) := by rw [c2, List.length_drop]
    refine ⟨sz (m := 1) (by simp), by rw [l1]; exact sz (m := 2000) (by simp; omega), by rw [List.length_append, l1, l2]; exact sz (m := 2000) (by simp; omega), ?_⟩
    refine q _ _ (.tup (all_app (all_app (KD.cutT hds (k2.trans k3) (by omega)) (fun e he => by
      rw [List.mem_singleton] at he
      subst he
      exact hd)) (KD.cutT hds (k2.trans k3) (by omega))) ?_) hp3 (k2.trans k3)
    rw [List.length_append, List.length_append, l1, l2]
    simp
    omega
end DL

namespace DL
open PySem PySem.Spec PyProof.Rows L2
/-- is_source: slots 0 machine 1 thing; calls is_within is_worth; names  -/
def p_is_sourceC : CB := (.cons (.ifs (.or (.not (.val (.blt .isi (.cons (.var 1) (.cons (.tn .tuple) .nil))))) (.or (.cmp .NotEq (.blt .len (.cons (.var 1) .nil)) (.int 2)) (.not (.val (.blt .isi (.cons (.ix (.var 1) (.int 0)) (.cons (.tn .str) .nil))))))) (.cons (.ret (.bl false)) .nil) .nil) (.cons (.ifs (.cmp .Eq (.ix (.var 1) (.int 0)) (.str "num")) (.cons (.ret (.fn 1 (.cons (.ix (.var 1) (.int 1)) .nil))) .nil) .nil) (.cons (.ifs (.cmp .Eq (.ix (.var 1) (.int 0)) (.str "box")) (.cons (.ret (.fn 0 (.cons (.ix (.var 1) (.int 1)) (.cons (.int 0) (.cons (.bin .Sub (.ix (.var 0) (.int 1)) (.int 1)) .nil))))) .nil) .nil) (.cons (.ret (.and (.cmp .Eq (.ix (.var 1) (.int 0)) (.str "out")) (.fn 0 (.cons (.ix (.var 1) (.int 1)) (.cons (.int 0) (.cons (.bin .Sub (.blt .len (.cons (.ix (.var 0) (.int 2)) .nil)) (.int 1)) .nil)))))) .nil))))
/-- is_start: slots 0 machine 1 thing; calls is_within; names  -/
def p_is_startC : CB := (.cons (.ifs (.or (.cmp .NotEq (.ix (.var 1) (.int 0)) (.str "start")) (.not (.val (.fn 0 (.cons (.ix (.var 1) (.int 1)) (.cons (.int 0) (.cons (.bin .Sub (.blt .len (.cons (.ix (.var 0) (.int 2)) .nil)) (.int 1)) .nil))))))) (.cons (.ret (.bl false)) .nil) .nil) (.cons (.ret (.and (.blt .isi (.cons (.ix (.var 1) (.int 2)) (.cons (.tn .str) .nil))) (.cmp .In (.ix (.var 1) (.int 2)) (.ix (.ix (.ix (.var 0) (.int 2)) (.ix (.var 1) (.int 1))) (.int 1))))) .nil))
/-- is_goal: slots 0 machine 1 thing; calls is_within is_start; names MOST_STRETCHES LONE -/
def p_is_goalC : CB := (.cons (.ifs (.or (.not (.val (.blt .isi (.cons (.var 1) (.cons (.tn .tuple) .nil))))) (.or (.cmp .Eq (.blt .len (.cons (.var 1) .nil)) (.int 0)) (.not (.val (.blt .isi (.cons (.ix (.var 1) (.int 0)) (.cons (.tn .str) .nil))))))) (.cons (.ret (.bl false)) .nil) .nil) (.cons (.ifs (.cmp .Eq (.blt .len (.cons (.var 1) .nil)) (.int 1)) (.cons (.ret (.cmp .In (.ix (.var 1) (.int 0)) (.glb 1))) .nil) .nil) (.cons (.ifs (.cmp .Eq (.blt .len (.cons (.var 1) .nil)) (.int 3)) (.cons (.ret (.fn 1 (.cons (.var 0) (.cons (.var 1) .nil)))) .nil) .nil) (.cons (.ifs (.cmp .NotEq (.blt .len (.cons (.var 1) .nil)) (.int 2)) (.cons (.ret (.bl false)) .nil) .nil) (.cons (.ifs (.cmp .Eq (.ix (.var 1) (.int 0)) (.str "box")) (.cons (.ret (.fn 0 (.cons (.ix (.var 1) (.int 1)) (.cons (.int 0) (.cons (.bin .Sub (.ix (.var 0) (.int 1)) (.int 1)) .nil))))) .nil) .nil) (.cons (.ifs (.cmp .Eq (.ix (.var 1) (.int 0)) (.str "in")) (.cons (.ret (.fn 0 (.cons (.ix (.var 1) (.int 1)) (.cons (.int 0) (.cons (.bin .Sub (.blt .len (.cons (.ix (.var 0) (.int 2)) .nil)) (.int 1)) .nil))))) .nil) .nil) (.cons (.ret (.and (.cmp .Eq (.ix (.var 1) (.int 0)) (.str "go")) (.fn 0 (.cons (.ix (.var 1) (.int 1)) (.cons (.int 0) (.cons (.bin .Sub (.glb 0) (.int 1)) .nil)))))) .nil)))))))
/-- is_move: slots 0 machine 1 thing; calls is_goal is_source; names  -/
def p_is_moveC : CB := (.cons (.ifs (.or (.not (.val (.blt .isi (.cons (.var 1) (.cons (.tn .tuple) .nil))))) (.cmp .NotEq (.blt .len (.cons (.var 1) .nil)) (.int 2))) (.cons (.ret (.bl false)) .nil) .nil) (.cons (.ret (.and (.fn 1 (.cons (.var 0) (.cons (.ix (.var 1) (.int 0)) .nil))) (.fn 0 (.cons (.var 0) (.cons (.ix (.var 1) (.int 1)) .nil))))) .nil))
end DL

namespace DL
open PySem PySem.Spec PyProof.Rows L2
/-! moves known -/
def srcB (m : Mach) (k : Str) (x : D) : Bool := if (k == "num") = true then withinB 0 65535 x else if (k == "box") = true then withinB 0 ((m.boxes : Int) - 1) x else (k == "out") && withinB 0 ((m.doers.length : Int) - 1) x
def isSrcB (m : Mach) : D → Bool
  | .tup [a, x] => (match a with
    | .str k => srcB m k x
    | _ => false)
  | _ => false
def skillB (m : Mach) (x y : D) : Bool := match x with
  | .int i => (match y with
    | .str s => (match m.doers[i.toNat]? with
      | some d => memF (.str s) (d.2.map D.str)
      | none => false)
    | _ => false)
  | _ => false
def startB (m : Mach) (k : Str) (x y : D) : Bool := (k == "start") && (withinB 0 ((m.doers.length : Int) - 1) x && skillB m x y)
def goal2B (m : Mach) (k : Str) (x : D) : Bool := if (k == "box") = true then withinB 0 ((m.boxes : Int) - 1) x else if (k == "in") = true then withinB 0 ((m.doers.length : Int) - 1) x else (k == "go") && withinB 0 5 x
def isGoalB (m : Mach) : D → Bool
  | .tup [a] => (match a with
    | .str k => memF (.str k) [.str "tell", .str "end"]
    | _ => false)
  | .tup [a, x] => (match a with
    | .str k => goal2B m k x
    | _ => false)
  | .tup [a, x, y] => (match a with
    | .str k => startB m k x y
    | _ => false)
  | _ => false
def isMoveB (m : Mach) : D → Bool
  | .tup [s, g] => isSrcB m s && isGoalB m g
  | _ => false
theorem KD.tyN {n : Nat} {o : Addr} {G : Sto} {d : D} (h : KD n o G d) : (∃ s, d = .str s) ∨ ∃ t, TyOf G d t ∧ kitB t "str" = some false := by
  cases h with
  | non => exact .inr ⟨_, .non, rfl⟩
  | bl b => exact .inr ⟨_, .bl b, rfl⟩
  | int i => exact .inr ⟨_, .int i, rfl⟩
  | str h1 h2 => exact .inl ⟨_, rfl⟩
  | tup _ _ => exact .inr ⟨_, .tup _, rfl⟩
  | lst h _ => exact .inr ⟨_, .lst h, rfl⟩
  | dic h _ => exact .inr ⟨_, .dic h, rfl⟩
theorem KD.tyT {n : Nat} {o : Addr} {G : Sto} {d : D} (h : KD n o G d) : (∃ ds, d = .tup ds ∧ ∀ x ∈ ds, KD n o G x) ∨ ((∀ ds, d ≠ .tup ds) ∧ ∃ t, TyOf G d t ∧ kitB t "tuple" = some false) := by
  cases h with
  | non => exact .inr ⟨(fun _ z => by cases z), _, .non, rfl⟩
  | bl b => exact .inr ⟨(fun _ z => by cases z), _, .bl b, rfl⟩
  | int i => exact .inr ⟨(fun _ z => by cases z), _, .int i, rfl⟩
  | str h1 h2 => exact .inr ⟨(fun _ z => by cases z), _, .str _, rfl⟩
  | tup h _ => exact .inl ⟨_, rfl, h⟩
  | lst h _ => exact .inr ⟨(fun _ z => by cases z), _, .lst h, rfl⟩
  | dic h _ => exact .inr ⟨(fun _ z => by cases z), _, .dic h, rfl⟩
theorem not_src {m : Mach} {d : D} (h : ∀ ds, d ≠ .tup ds) : isSrcB m d = false := by
  cases d with
  | tup ds => exact (h ds rfl).elim
  | _ => rfl
theorem not_goal {m : Mach} {d : D} (h : ∀ ds, d ≠ .tup ds) : isGoalB m d = false := by
  cases d with
  | tup ds => exact (h ds rfl).elim
  | _ => rfl
theorem not_move {m : Mach} {d : D} (h : ∀ ds, d ≠ .tup ds) : isMoveB m d = false := by
  cases d with
  | tup ds => exact (h ds rfl).elim
  | _ => rfl
theorem not_str {d : D} {t : String} {G : Sto} (ht : TyOf G d t) (hk : kitB t "str" = some false) : ∀ s, d ≠ .str s := fun s z => by
  subst z
  cases ht
  cases hk
theorem src_no {m : Mach} {a x : D} (h : ∀ s, a ≠ .str s) : isSrcB m (.tup [a, x]) = false := by
  cases a with
  | str s => exact (h s rfl).elim
  | _ => rfl
theorem src_len {m : Mach} {ds : List D} (h : ds.length ≠ 2) : isSrcB m (.tup ds) = false := by
  match ds with
  | [] => rfl
  | [_] => rfl
  | [_, _] => exact (h rfl).elim
  | _ :: _ :: _ :: _ => rfl
theorem two_of {ds : List D} (h : ds.length = 2) : ∃ x y, ds = [x, y] := by
  match ds, h with
  | [x, y], _ => exact ⟨x, y, rfl⟩
def sp_p_is_source : DSp := fun ds G Q _ => ∃ (m : Mach) (d : D) (n : Nat) (o : Addr), ds = [m.d, d] ∧ KD n o G d ∧ Q (.bl (isSrcB m d)) G
theorem len_p_is_source : LenS sp_p_is_source 2 := by rintro ds G Q xq ⟨m, d, n, o, rfl, _⟩; rfl
theorem body_p_is_source : Bod [sp_p_is_within, sp_p_is_worth] [] p_is_sourceC 2 sp_p_is_source := by
  rintro ds G Q xq ⟨m, d, n, o, rfl, hk, q⟩
  rcases hk.tyT with ⟨ds, rfl, hds⟩ | ⟨hn, t, ht, hb⟩
  · refine ⟨true, rfl, ?_⟩
    refine ite2 (fun h => ?_) (fun h => ?_)
    · rw [src_len (fun z => by rw [z] at h; revert h; decide)] at q
      exact q
    have hl : ds.length = 2 := by
      have : ¬ (!(((ds.length : Nat) : Int) == 2)) = true := h
      simp at this
      omega
    obtain ⟨a, x, rfl⟩ := two_of hl
    refine ⟨_, rfl, ?_⟩
    rcases (hds a (by simp)).tyN with ⟨k, rfl⟩ | ⟨t, ht, hb⟩
    · refine ⟨true, rfl, ?_⟩
      obtain ⟨tx, htx⟩ := (hds x (by simp)).ty
      have q : Q (.bl (srcB m k x)) G := q
      unfold srcB at q
      refine ⟨_, rfl, ?_⟩
      refine ite2 (fun h => ?_) (fun h => ?_)
      · rw [if_pos h] at q
        exact ⟨_, rfl, x, tx, rfl, htx, q⟩
      rw [if_neg h] at q
      refine ⟨_, rfl, ?_⟩
      refine ite2 (fun h => ?_) (fun h => ?_)
      · rw [if_pos h] at q
        exact ⟨_, rfl, _, rfl, x, _, _, tx, rfl, htx, q⟩
      rw [if_neg h] at q
      refine ⟨_, rfl, ?_⟩
      refine ite2 (fun h => ?_) (fun h => ?_)
      · have h2 : (k == Str.ofString "out") = true := h
        rw [h2, Bool.true_and] at q
        refine ⟨_, rfl, _, rfl, x, 0, (m.doers.length : Int) - 1, tx, ?_, htx, q⟩
        rw [List.length_map]
      · have h2 : (k == Str.ofString "out") = false := Bool.not_eq_true _ ▸ h
        rw [h2, Bool.false_and] at q
        show Q (.bl (k == Str.ofString "out")) G
        rw [h2]
        exact q
    · rw [src_no (not_str ht hb)] at q
      cases ht <;> first | exact ⟨false, rfl, q⟩ | exact .inl ⟨⟨_, by assumption⟩, false, rfl, q⟩ | exact .inr (.inl ⟨⟨_, by assumption⟩, false, rfl, q⟩) | cases hb
  · rw [not_src hn] at q
    cases ht <;> first | exact ⟨false, rfl, q⟩ | exact .inl ⟨⟨_, by assumption⟩, false, rfl, q⟩ | exact .inr (.inl ⟨⟨_, by assumption⟩, false, rfl, q⟩) | cases hb
theorem within_int {lo hi : Int} {d : D} (h : withinB lo hi d = true) : ∃ i, d = .int i ∧ lo ≤ i ∧ i ≤ hi := by
  cases d with
  | int i =>
    have h : (decide (lo ≤ i) && decide (i ≤ hi)) = true := h
    rw [Bool.and_eq_true, decide_eq_true_eq, decide_eq_true_eq] at h
    exact ⟨i, rfl, h.1, h.2⟩
  | _ => cases h
/-- the skills of a doer -/
theorem skills_at {m : Mach} {i : Int} (h0 : 0 ≤ i) (h1 : i ≤ (m.doers.length : Int) - 1) : ∃ dd, m.doers[i.toNat]? = some dd ∧ atI (m.doers.map doerD) i = some (doerD dd) := by
  obtain ⟨j, dd, rfl, hj, _⟩ := at_nat (xs := m.doers) h0 (by omega)
  exact ⟨dd, by rw [Int.toNat_natCast]; exact hj, atI_nat (by rw [List.getElem?_map, hj]; rfl)⟩
def sp_p_is_start : DSp := fun ds G Q _ => ∃ (m : Mach) (k : Str) (x y : D) (n : Nat) (o : Addr), ds = [m.d, .tup [.str k, x, y]] ∧ KD n o G x ∧ KD n o G y ∧ Q (.bl (startB m k x y)) G
theorem len_p_is_start : LenS sp_p_is_start 2 := by rintro ds G Q xq ⟨m, k, x, y, n, o, rfl, _⟩; rfl
theorem skill_no {m : Mach} {x y : D} (h : ∀ s, y ≠ .str s) : skillB m x y = false := by
  cases x with
  | int i =>
    cases y with
    | str s => exact (h s rfl).elim
    | _ => rfl
  | _ => rfl
theorem body_p_is_start : Bod [sp_p_is_within] [] p_is_startC 2 sp_p_is_start := by
  rintro ds G Q xq ⟨m, k, x, y, n, o, rfl, hx, hy, q⟩
  unfold startB at q
  obtain ⟨tx, htx⟩ := hx.ty
  refine ⟨_, rfl, ?_⟩
  refine ite2 (fun h => ?_) (fun h => ?_)
  · have h2 : (k == Str.ofString "start") = false := by
      have : (!(k == Str.ofString "start")) = true := h
      simpa using this
    rw [h2, Bool.false_and] at q
    exact q
  have h2 : (k == Str.ofString "start") = true := by
    have : ¬ (!(k == Str.ofString "start")) = true := h
    simpa using this
  rw [h2, Bool.true_and] at q
  refine ⟨_, rfl, _, rfl, x, 0, (m.doers.length : Int) - 1, tx, by rw [List.length_map], htx, ?_⟩
  cases e : withinB 0 ((m.doers.length : Int) - 1) x with
  | false =>
    rw [e, Bool.false_and] at q
    exact q
  | true =>
    rw [e, Bool.true_and] at q
    obtain ⟨i, rfl, h0, h1⟩ := within_int e
    obtain ⟨dd, hd1, hd2⟩ := skills_at h0 h1
    refine ⟨_, rfl, ?_⟩
    rcases hy.tyN with ⟨s, rfl⟩ | ⟨t, ht, hb⟩
    · refine ⟨true, rfl, _, rfl, _, rfl, _, rfl, ?_⟩
      refine ⟨_, hd2, ?_⟩
      refine ⟨_, rfl, rfl, strs_flat _, ?_⟩
      have q : Q (.bl (match m.doers[i.toNat]? with | some d => memF (.str s) (d.2.map D.str) | none => false)) G := q
      rw [hd1] at q
      exact q
    · rw [skill_no (not_str ht hb)] at q
      cases ht <;> first | exact ⟨false, rfl, q⟩ | exact .inl ⟨⟨_, by assumption⟩, false, rfl, q⟩ | exact .inr (.inl ⟨⟨_, by assumption⟩, false, rfl, q⟩) | cases hb
def sp_p_is_goal : DSp := fun ds G Q _ => ∃ (m : Mach) (d : D) (n : Nat) (o : Addr), ds = [m.d, d] ∧ KD n o G d ∧ Q (.bl (isGoalB m d)) G
theorem len_p_is_goal : LenS sp_p_is_goal 2 := by rintro ds G Q xq ⟨m, d, n, o, rfl, _⟩; rfl
theorem goal_no {m : Mach} {a : D} {r : List D} (h : ∀ s, a ≠ .str s) : isGoalB m (.tup (a :: r)) = false := by
  match r with
  | [] =>
    cases a with
    | str s => exact (h s rfl).elim
    | _ => rfl
  | [x] =>
    cases a with
    | str s => exact (h s rfl).elim
    | _ => rfl
  | [x, y] =>
    cases a with
    | str s => exact (h s rfl).elim
    | _ => rfl
  | _ :: _ :: _ :: _ => rfl
theorem body_p_is_goal : Bod [sp_p_is_within, sp_p_is_start] [.int 6, .tup [.str "tell", .str "end"]] p_is_goalC 2 sp_p_is_goal := by
  rintro ds G Q xq ⟨m, d, n, o, rfl, hk, q⟩
  rcases hk.tyT with ⟨ds, rfl, hds⟩ | ⟨hn, t, ht, hb⟩
  · refine ⟨true, rfl, ?_⟩
    match ds with
    | [] => exact q
    | a :: r =>
      refine ⟨a, atI_nat (j := 0) rfl, ?_⟩
      rcases (hds a (by simp)).tyN with ⟨k, rfl⟩ | ⟨t, ht, hb⟩
      · refine ⟨true, rfl, ?_⟩
        match r with
        | [] => exact ⟨_, rfl, rfl, rfl, q⟩
        | [x] =>
          obtain ⟨tx, htx⟩ := (hds x (by simp)).ty
          have q : Q (.bl (goal2B m k x)) G := q
          unfold goal2B at q
          refine ⟨_, rfl, ?_⟩
          refine ite2 (fun h => ?_) (fun h => ?_)
          · rw [if_pos h] at q
            exact ⟨_, rfl, _, rfl, x, _, _, tx, rfl, htx, q⟩
          rw [if_neg h] at q
          refine ⟨_, rfl, ?_⟩
          refine ite2 (fun h => ?_) (fun h => ?_)
          · rw [if_pos h] at q
            refine ⟨_, rfl, _, rfl, x, 0, (m.doers.length : Int) - 1, tx, by rw [List.length_map], htx, q⟩
          rw [if_neg h] at q
          refine ⟨_, rfl, ?_⟩
          refine ite2 (fun h => ?_) (fun h => ?_)
          · have h2 : (k == Str.ofString "go") = true := h
            rw [h2, Bool.true_and] at q
            exact ⟨_, rfl, x, 0, 5, tx, rfl, htx, q⟩
          · have h2 : (k == Str.ofString "go") = false := Bool.not_eq_true _ ▸ h
            rw [h2, Bool.false_and] at q
            show Q (.bl (k == Str.ofString "go")) G
            rw [h2]
            exact q
        | [x, y] => exact ⟨m, k, x, y, n, o, rfl, hds x (by simp), hds y (by simp), q⟩
        | x :: y :: z :: r => exact q
      · rw [goal_no (not_str ht hb)] at q
        cases ht <;> first | exact ⟨false, rfl, q⟩ | exact .inl ⟨⟨_, by assumption⟩, false, rfl, q⟩ | exact .inr (.inl ⟨⟨_, by assumption⟩, false, rfl, q⟩) | cases hb
  · rw [not_goal hn] at q
    cases ht <;> first | exact ⟨false, rfl, q⟩ | exact .inl ⟨⟨_, by assumption⟩, false, rfl, q⟩ | exact .inr (.inl ⟨⟨_, by assumption⟩, false, rfl, q⟩) | cases hb
def sp_p_is_move : DSp := fun ds G Q _ => ∃ (m : Mach) (d : D) (n : Nat) (o : Addr), ds = [m.d, d] ∧ KD n o G d ∧ Q (.bl (isMoveB m d)) G
theorem len_p_is_move : LenS sp_p_is_move 2 := by rintro ds G Q xq ⟨m, d, n, o, rfl, _⟩; rfl
theorem move_len {m : Mach} {ds : List D} (h : ds.length ≠ 2) : isMoveB m (.tup ds) = false := by
  match ds with
  | [] => rfl
  | [_] => rfl
  | [_, _] => exact (h rfl).elim
  | _ :: _ :: _ :: _ => rfl
theorem body_p_is_move : Bod [sp_p_is_goal, sp_p_is_source] [] p_is_moveC 2 sp_p_is_move := by
  rintro ds G Q xq ⟨m, d, n, o, rfl, hk, q⟩
  rcases hk.tyT with ⟨ds, rfl, hds⟩ | ⟨hn, t, ht, hb⟩
  · refine ⟨true, rfl, ?_⟩
    refine ite2 (fun h => ?_) (fun h => ?_)
    · rw [move_len (fun z => by rw [z] at h; revert h; decide)] at q
      exact q
    have hl : ds.length = 2 := by
      have : ¬ (!(((ds.length : Nat) : Int) == 2)) = true := h
      simp at this
      omega
    obtain ⟨s, g, rfl⟩ := two_of hl
    have q : Q (.bl (isSrcB m s && isGoalB m g)) G := q
    refine ⟨_, rfl, m, s, n, o, rfl, hds s (by simp), ?_⟩
    cases e : isSrcB m s with
    | false =>
      rw [e, Bool.false_and] at q
      exact q
    | true =>
      rw [e, Bool.true_and] at q
      exact ⟨_, rfl, m, g, n, o, rfl, hds g (by simp), q⟩
  · rw [not_move hn] at q
    cases ht <;> first | exact ⟨false, rfl, q⟩ | exact .inl ⟨⟨_, by assumption⟩, false, rfl, q⟩ | exact .inr (.inl ⟨⟨_, by assumption⟩, false, rfl, q⟩) | cases hb
end DL

namespace K13
open PySem PySem.Spec PyProof.Rows L2 DL
def top (i : Nat) : Stmt := PySem.Challenge.pw_movebeats_k13_moves_known.main.body.getD i (.Pass ⟨0, 0, 0, 0⟩)
abbrev s_p_is_whole : Stmt := top 2
abbrev n_p_is_whole : List Str := ["thing"]
theorem sc_p_is_whole : FnScope n_p_is_whole ["thing"] (defScope s_p_is_whole) := ⟨rfl, rfl, rfl, by decide +kernel, rfl, by decide +kernel, by decide +kernel⟩
def c_p_is_whole : CB := (.cons (.ret (.and (.blt .isi (.cons (.var 0) (.cons (.tn .int) .nil))) (.not (.blt .isi (.cons (.var 0) (.cons (.tn .bool) .nil)))))) .nil)
abbrev f_p_is_whole : List Str := []
abbrev g_p_is_whole : List Str := []
abbrev b_p_is_whole : List Str := ["isinstance", "bool", "int"]
theorem ch_p_is_whole : chkB ⟨n_p_is_whole, defScope s_p_is_whole, none, f_p_is_whole, g_p_is_whole, b_p_is_whole⟩ c_p_is_whole (defBody s_p_is_whole) = true := by decide +kernel
abbrev s_p_is_within : Stmt := top 3
abbrev n_p_is_within : List Str := ["thing", "least", "most"]
theorem sc_p_is_within : FnScope n_p_is_within ["thing", "least", "most"] (defScope s_p_is_within) := ⟨rfl, rfl, rfl, by decide +kernel, rfl, by decide +kernel, by decide +kernel⟩
def c_p_is_within : CB := (.cons (.ret (.and (.fn 0 (.cons (.var 0) .nil)) (.chn .LtE .LtE (.var 1) (.var 0) (.var 2)))) .nil)
abbrev f_p_is_within : List Str := ["is_whole"]
abbrev g_p_is_within : List Str := []
abbrev b_p_is_within : List Str := []
theorem ch_p_is_within : chkB ⟨n_p_is_within, defScope s_p_is_within, none, f_p_is_within, g_p_is_within, b_p_is_within⟩ c_p_is_within (defBody s_p_is_within) = true := by decide +kernel
abbrev s_p_is_worth : Stmt := top 4
abbrev n_p_is_worth : List Str := ["thing"]
theorem sc_p_is_worth : FnScope n_p_is_worth ["thing"] (defScope s_p_is_worth) := ⟨rfl, rfl, rfl, by decide +kernel, rfl, by decide +kernel, by decide +kernel⟩
def c_p_is_worth : CB := (.cons (.ret (.fn 0 (.cons (.var 0) (.cons (.int 0) (.cons (.bin .Sub (.glb 0) (.int 1)) .nil))))) .nil)
abbrev f_p_is_worth : List Str := ["is_within"]
abbrev g_p_is_worth : List Str := ["MOST"]
abbrev b_p_is_worth : List Str := []
theorem ch_p_is_worth : chkB ⟨n_p_is_worth, defScope s_p_is_worth, none, f_p_is_worth, g_p_is_worth, b_p_is_worth⟩ c_p_is_worth (defBody s_p_is_worth) = true := by decide +kernel
abbrev s_p_is_source : Stmt := top 8
abbrev n_p_is_source : List Str := ["machine", "thing"]
theorem sc_p_is_source : FnScope n_p_is_source ["machine", "thing"] (defScope s_p_is_source) := ⟨rfl, rfl, rfl, by decide +kernel, rfl, by decide +kernel, by decide +kernel⟩
def c_p_is_source : CB := (.cons (.ifs (.or (.not (.val (.blt .isi (.cons (.var 1) (.cons (.tn .tuple) .nil))))) (.or (.cmp .NotEq (.blt .len (.cons (.var 1) .nil)) (.int 2)) (.not (.val (.blt .isi (.cons (.ix (.var 1) (.int 0)) (.cons (.tn .str) .nil))))))) (.cons (.ret (.bl false)) .nil) .nil) (.cons (.ifs (.cmp .Eq (.ix (.var 1) (.int 0)) (.str "num")) (.cons (.ret (.fn 1 (.cons (.ix (.var 1) (.int 1)) .nil))) .nil) .nil) (.cons (.ifs (.cmp .Eq (.ix (.var 1) (.int 0)) (.str "box")) (.cons (.ret (.fn 0 (.cons (.ix (.var 1) (.int 1)) (.cons (.int 0) (.cons (.bin .Sub (.ix (.var 0) (.int 1)) (.int 1)) .nil))))) .nil) .nil) (.cons (.ret (.and (.cmp .Eq (.ix (.var 1) (.int 0)) (.str "out")) (.fn 0 (.cons (.ix (.var 1) (.int 1)) (.cons (.int 0) (.cons (.bin .Sub (.blt .len (.cons (.ix (.var 0) (.int 2)) .nil)) (.int 1)) .nil)))))) .nil))))
abbrev f_p_is_source : List Str := ["is_within", "is_worth"]
abbrev g_p_is_source : List Str := []
abbrev b_p_is_source : List Str := ["len", "isinstance", "str", "tuple"]
theorem ch_p_is_source : chkB ⟨n_p_is_source, defScope s_p_is_source, none, f_p_is_source, g_p_is_source, b_p_is_source⟩ c_p_is_source (defBody s_p_is_source) = true := by decide +kernel
abbrev s_p_is_start : Stmt := top 9
abbrev n_p_is_start : List Str := ["machine", "thing"]
theorem sc_p_is_start : FnScope n_p_is_start ["machine", "thing"] (defScope s_p_is_start) := ⟨rfl, rfl, rfl, by decide +kernel, rfl, by decide +kernel, by decide +kernel⟩
def c_p_is_start : CB := (.cons (.ifs (.or (.cmp .NotEq (.ix (.var 1) (.int 0)) (.str "start")) (.not (.val (.fn 0 (.cons (.ix (.var 1) (.int 1)) (.cons (.int 0) (.cons (.bin .Sub (.blt .len (.cons (.ix (.var 0) (.int 2)) .nil)) (.int 1)) .nil))))))) (.cons (.ret (.bl false)) .nil) .nil) (.cons (.ret (.and (.blt .isi (.cons (.ix (.var 1) (.int 2)) (.cons (.tn .str) .nil))) (.cmp .In (.ix (.var 1) (.int 2)) (.ix (.ix (.ix (.var 0) (.int 2)) (.ix (.var 1) (.int 1))) (.int 1))))) .nil))
abbrev f_p_is_start : List Str := ["is_within"]
abbrev g_p_is_start : List Str := []
abbrev b_p_is_start : List Str := ["isinstance", "str", "len"]
theorem ch_p_is_start : chkB ⟨n_p_is_start, defScope s_p_is_start, none, f_p_is_start, g_p_is_start, b_p_is_start⟩ c_p_is_start (defBody s_p_is_start) = true := by decide +kernel
abbrev s_p_is_goal : Stmt := top 10
abbrev n_p_is_goal : List Str := ["machine", "thing"]
theorem sc_p_is_goal : FnScope n_p_is_goal ["machine", "thing"] (defScope s_p_is_goal) := ⟨rfl, rfl, rfl, by decide +kernel, rfl, by decide +kernel, by decide +kernel⟩
def c_p_is_goal : CB := (.cons (.ifs (.or (.not (.val (.blt .isi (.cons (.var 1) (.cons (.tn .tuple) .nil))))) (.or (.cmp .Eq (.blt .len (.cons (.var 1) .nil)) (.int 0)) (.not (.val (.blt .isi (.cons (.ix (.var 1) (.int 0)) (.cons (.tn .str) .nil))))))) (.cons (.ret (.bl false)) .nil) .nil) (.cons (.ifs (.cmp .Eq (.blt .len (.cons (.var 1) .nil)) (.int 1)) (.cons (.ret (.cmp .In (.ix (.var 1) (.int 0)) (.glb 1))) .nil) .nil) (.cons (.ifs (.cmp .Eq (.blt .len (.cons (.var 1) .nil)) (.int 3)) (.cons (.ret (.fn 1 (.cons (.var 0) (.cons (.var 1) .nil)))) .nil) .nil) (.cons (.ifs (.cmp .NotEq (.blt .len (.cons (.var 1) .nil)) (.int 2)) (.cons (.ret (.bl false)) .nil) .nil) (.cons (.ifs (.cmp .Eq (.ix (.var 1) (.int 0)) (.str "box")) (.cons (.ret (.fn 0 (.cons (.ix (.var 1) (.int 1)) (.cons (.int 0) (.cons (.bin .Sub (.ix (.var 0) (.int 1)) (.int 1)) .nil))))) .nil) .nil) (.cons (.ifs (.cmp .Eq (.ix (.var 1) (.int 0)) (.str "in")) (.cons (.ret (.fn 0 (.cons (.ix (.var 1) (.int 1)) (.cons (.int 0) (.cons (.bin .Sub (.blt .len (.cons (.ix (.var 0) (.int 2)) .nil)) (.int 1)) .nil))))) .nil) .nil) (.cons (.ret (.and (.cmp .Eq (.ix (.var 1) (.int 0)) (.str "go")) (.fn 0 (.cons (.ix (.var 1) (.int 1)) (.cons (.int 0) (.cons (.bin .Sub (.glb 0) (.int 1)) .nil)))))) .nil)))))))
abbrev f_p_is_goal : List Str := ["is_within", "is_start"]
abbrev g_p_is_goal : List Str := ["MOST_STRETCHES", "LONE"]
abbrev b_p_is_goal : List Str := ["len", "isinstance", "str", "tuple"]
theorem ch_p_is_goal : chkB ⟨n_p_is_goal, defScope s_p_is_goal, none, f_p_is_goal, g_p_is_goal, b_p_is_goal⟩ c_p_is_goal (defBody s_p_is_goal) = true := by decide +kernel
abbrev s_p_is_move : Stmt := top 11
abbrev n_p_is_move : List Str := ["machine", "thing"]
theorem sc_p_is_move : FnScope n_p_is_move ["machine", "thing"] (defScope s_p_is_move) := ⟨rfl, rfl, rfl, by decide +kernel, rfl, by decide +kernel, by decide +kernel⟩
def c_p_is_move : CB := (.cons (.ifs (.or (.not (.val (.blt .isi (.cons (.var 1) (.cons (.tn .tuple) .nil))))) (.cmp .NotEq (.blt .len (.cons (.var 1) .nil)) (.int 2))) (.cons (.ret (.bl false)) .nil) .nil) (.cons (.ret (.and (.fn 1 (.cons (.var 0) (.cons (.ix (.var 1) (.int 0)) .nil))) (.fn 0 (.cons (.var 0) (.cons (.ix (.var 1) (.int 1)) .nil))))) .nil))
abbrev f_p_is_move : List Str := ["is_goal", "is_source"]
abbrev g_p_is_move : List Str := []
abbrev b_p_is_move : List Str := ["len", "isinstance", "tuple"]
theorem ch_p_is_move : chkB ⟨n_p_is_move, defScope s_p_is_move, none, f_p_is_move, g_p_is_move, b_p_is_move⟩ c_p_is_move (defBody s_p_is_move) = true := by decide +kernel
abbrev s_l_pen_by : Stmt := top 13
abbrev n_l_pen_by : List Str := ["_law_script", "_law_cell"]
theorem sc_l_pen_by : FnScope n_l_pen_by ["_law_script"] (defScope s_l_pen_by) := ⟨rfl, rfl, rfl, by decide +kernel, rfl, by decide +kernel, by decide +kernel⟩
def c_l_pen_by : CB := (.cons (.ret (.lst (.cons (.lc [("_law_cell", 1)] (.name 1) (.it (.sl (.var 0) .no (.part (.int 63)))) .no (.var 1)) (.cons (.int 0) (.cons (.int 0) .nil))))) .nil)
abbrev f_l_pen_by : List Str := []
abbrev g_l_pen_by : List Str := []
abbrev b_l_pen_by : List Str := []
theorem ch_l_pen_by : chkB ⟨n_l_pen_by, defScope s_l_pen_by, none, f_l_pen_by, g_l_pen_by, b_l_pen_by⟩ c_l_pen_by (defBody s_l_pen_by) = true := by decide +kernel
abbrev s_l_draw : Stmt := top 14
abbrev n_l_draw : List Str := ["_law_pen", "_law_many", "_law_at", "_law_cell", "_law_number", "_law_digit"]
theorem sc_l_draw : FnScope n_l_draw ["_law_pen", "_law_many"] (defScope s_l_draw) := ⟨rfl, rfl, rfl, by decide +kernel, rfl, by decide +kernel, by decide +kernel⟩
def c_l_draw : CB := (.cons (.ifs (.cmp .Gt (.ix (.var 0) (.int 2)) (.int 0)) (.cons (.asg (.name 5) (.bin .Mod (.ix (.var 0) (.int 2)) (.var 1))) (.cons (.asg (.sub (.var 0) (.int 2)) (.bin .FloorDiv (.ix (.var 0) (.int 2)) (.var 1))) (.cons (.ret (.var 5)) .nil))) .nil) (.cons (.asg (.name 2) (.ix (.var 0) (.int 1))) (.cons (.asg (.sub (.var 0) (.int 1)) (.bin .Add (.var 2) (.int 1))) (.cons (.asg (.name 3) (.int 11)) (.cons (.ifs (.cmp .Gt (.blt .len (.cons (.ix (.var 0) (.int 0)) .nil)) (.int 0)) (.cons (.asg (.name 3) (.ix (.ix (.var 0) (.int 0)) (.bin .Mod (.var 2) (.blt .len (.cons (.ix (.var 0) (.int 0)) .nil))))) .nil) .nil) (.cons (.ifs (.and (.cmp .Lt (.var 2) (.blt .len (.cons (.ix (.var 0) (.int 0)) .nil))) (.cmp .GtE (.blt .abs (.cons (.var 3) .nil)) (.bin .Pow (.int 10) (.int 18)))) (.cons (.asg (.sub (.var 0) (.int 2)) (.bin .FloorDiv (.blt .abs (.cons (.var 3) .nil)) (.var 1))) (.cons (.ret (.bin .Mod (.blt .abs (.cons (.var 3) .nil)) (.var 1))) .nil)) .nil) (.cons (.asg (.name 4) (.bin .Mod (.bin .Mult (.bin .Add (.bin .Add (.bin .Mod (.var 3) (.int 2147483647)) (.bin .Mult (.int 69621) (.var 2))) (.int 13)) (.int 48271)) (.int 2147483629))) (.cons (.asg (.name 4) (.bin .Mod (.bin .Mult (.bin .Mod (.bin .Mult (.var 4) (.var 4)) (.int 2147483587)) (.bin .Add (.bin .Add (.bin .Mod (.var 4) (.int 65521)) (.bin .Mult (.int 7) (.var 2))) (.int 1))) (.int 2147483563))) (.cons (.ret (.bin .Mod (.bin .FloorDiv (.var 4) (.int 32)) (.var 1))) .nil)))))))))
abbrev f_l_draw : List Str := []
abbrev g_l_draw : List Str := []
abbrev b_l_draw : List Str := ["abs", "len"]
theorem ch_l_draw : chkB ⟨n_l_draw, defScope s_l_draw, none, f_l_draw, g_l_draw, b_l_draw⟩ c_l_draw (defBody s_l_draw) = true := by decide +kernel
abbrev s_l_some_by : Stmt := top 15
abbrev n_l_some_by : List Str := ["_law_pen", "_law_things", "_law_bits", "_law_more", "_law_begin", "_law_found", "_law_thing"]
theorem sc_l_some_by : FnScope n_l_some_by ["_law_pen", "_law_things"] (defScope s_l_some_by) := ⟨rfl, rfl, rfl, by decide +kernel, rfl, by decide +kernel, by decide +kernel⟩
def c_l_some_by : CB := (.cons (.asg (.name 2) (.fn 0 (.cons (.var 0) (.cons (.bin .Pow (.int 2) (.int 24)) .nil)))) (.cons (.asg (.name 3) (.bin .Mult (.fn 0 (.cons (.var 0) (.cons (.bin .Pow (.int 2) (.int 24)) .nil))) (.fn 0 (.cons (.var 0) (.cons (.int 2) .nil))))) (.cons (.asg (.name 4) (.fn 0 (.cons (.var 0) (.cons (.blt .len (.cons (.var 1) .nil)) .nil)))) (.cons (.asg (.name 5) (.lst .nil)) (.cons (.fors (.name 6) (.it (.var 1)) (.cons (.ifs (.cmp .Gt (.bin .Add (.bin .Mod (.var 2) (.int 2)) (.bin .Mod (.var 3) (.int 2))) (.int 0)) (.cons (.expr (.mt .append (.var 5) (.cons (.var 6) .nil))) .nil) .nil) (.cons (.asg (.name 2) (.bin .FloorDiv (.var 2) (.int 2))) (.cons (.asg (.name 3) (.bin .FloorDiv (.var 3) (.int 2))) .nil)))) (.cons (.ifs (.cmp .Eq (.var 5) (.lst .nil)) (.cons (.asg (.name 5) (.lst (.cons (.ix (.var 1) (.var 4)) .nil))) .nil) .nil) (.cons (.asg (.name 4) (.bin .Mod (.var 4) (.blt .len (.cons (.var 5) .nil)))) (.cons (.ret (.blt .tuple (.cons (.bin .Add (.sl (.var 5) (.part (.var 4)) .no) (.sl (.var 5) .no (.part (.var 4)))) .nil))) .nil))))))))
abbrev f_l_some_by : List Str := ["_law_draw"]
abbrev g_l_some_by : List Str := []
abbrev b_l_some_by : List Str := ["tuple", "len"]
theorem ch_l_some_by : chkB ⟨n_l_some_by, defScope s_l_some_by, none, f_l_some_by, g_l_some_by, b_l_some_by⟩ c_l_some_by (defBody s_l_some_by) = true := by decide +kernel
abbrev s_l_deeds : Stmt := top 16
abbrev n_l_deeds : List Str := []
theorem sc_l_deeds : FnScope n_l_deeds [] (defScope s_l_deeds) := ⟨rfl, rfl, rfl, by decide +kernel, rfl, by decide +kernel, by decide +kernel⟩
def c_l_deeds : CB := (.cons (.ret (.lst (.cons (.str "add") (.cons (.str "less") (.cons (.str "times") (.cons (.str "both") (.cons (.str "odd") (.cons (.str "same") (.cons (.str "under") .nil))))))))) .nil)
abbrev f_l_deeds : List Str := []
abbrev g_l_deeds : List Str := []
abbrev b_l_deeds : List Str := []
theorem ch_l_deeds : chkB ⟨n_l_deeds, defScope s_l_deeds, none, f_l_deeds, g_l_deeds, b_l_deeds⟩ c_l_deeds (defBody s_l_deeds) = true := by decide +kernel
abbrev s_l_froms_by : Stmt := top 17
abbrev n_l_froms_by : List Str := ["_law_boxes", "_law_doers", "_law_k"]
theorem sc_l_froms_by : FnScope n_l_froms_by ["_law_boxes", "_law_doers"] (defScope s_l_froms_by) := ⟨rfl, rfl, rfl, by decide +kernel, rfl, by decide +kernel, by decide +kernel⟩
def c_l_froms_by : CB := (.cons (.ret (.bin .Add (.bin .Add (.lst (.cons (.str "num") .nil)) (.lc [("_law_k", 2)] (.name 2) (.rng1 (.var 0)) .no (.bin .Add (.str "box") (.blt .str (.cons (.var 2) .nil))))) (.lc [("_law_k", 2)] (.name 2) (.rng1 (.var 1)) .no (.bin .Add (.str "out") (.blt .str (.cons (.var 2) .nil)))))) .nil)
abbrev f_l_froms_by : List Str := []
abbrev g_l_froms_by : List Str := []
abbrev b_l_froms_by : List Str := ["range", "str"]
theorem ch_l_froms_by : chkB ⟨n_l_froms_by, defScope s_l_froms_by, none, f_l_froms_by, g_l_froms_by, b_l_froms_by⟩ c_l_froms_by (defBody s_l_froms_by) = true := by decide +kernel
abbrev s_l_tos_by : Stmt := top 18
abbrev n_l_tos_by : List Str := ["_law_boxes", "_law_doers", "_law_found", "_law_k"]
theorem sc_l_tos_by : FnScope n_l_tos_by ["_law_boxes", "_law_doers"] (defScope s_l_tos_by) := ⟨rfl, rfl, rfl, by decide +kernel, rfl, by decide +kernel, by decide +kernel⟩
def c_l_tos_by : CB := (.cons (.setLc 2 [("_law_k", 3)] (.name 3) (.rng1 (.var 0)) .no (.bin .Add (.str "box") (.blt .str (.cons (.var 3) .nil)))) (.cons (.fors (.name 3) (.rng1 (.var 1)) (.cons (.asg (.name 2) (.bin .Add (.var 2) (.lst (.cons (.bin .Add (.str "in") (.blt .str (.cons (.var 3) .nil))) (.cons (.bin .Add (.str "start") (.blt .str (.cons (.var 3) .nil))) .nil))))) .nil)) (.cons (.ret (.bin .Add (.var 2) (.lst (.cons (.str "tell") (.cons (.str "go") (.cons (.str "end") .nil)))))) .nil)))
abbrev f_l_tos_by : List Str := []
abbrev g_l_tos_by : List Str := []
abbrev b_l_tos_by : List Str := ["range", "str"]
theorem ch_l_tos_by : chkB ⟨n_l_tos_by, defScope s_l_tos_by, none, f_l_tos_by, g_l_tos_by, b_l_tos_by⟩ c_l_tos_by (defBody s_l_tos_by) = true := by decide +kernel
abbrev s_l_worth : Stmt := top 19
abbrev n_l_worth : List Str := ["_law_pen", "_law_way"]
theorem sc_l_worth : FnScope n_l_worth ["_law_pen"] (defScope s_l_worth) := ⟨rfl, rfl, rfl, by decide +kernel, rfl, by decide +kernel, by decide +kernel⟩
def c_l_worth : CB := (.cons (.asg (.name 1) (.fn 0 (.cons (.var 0) (.cons (.int 6) .nil)))) (.cons (.ifs (.cmp .Lt (.var 1) (.int 3)) (.cons (.ret (.ix (.lst (.cons (.int 0) (.cons (.int 1) (.cons (.int 65535) .nil)))) (.var 1))) .nil) .nil) (.cons (.ifs (.cmp .Eq (.var 1) (.int 3)) (.cons (.ret (.fn 0 (.cons (.var 0) (.cons (.int 9) .nil)))) .nil) .nil) (.cons (.ret (.fn 0 (.cons (.var 0) (.cons (.int 65536) .nil)))) .nil))))
abbrev f_l_worth : List Str := ["_law_draw"]
abbrev g_l_worth : List Str := []
abbrev b_l_worth : List Str := []
theorem ch_l_worth : chkB ⟨n_l_worth, defScope s_l_worth, none, f_l_worth, g_l_worth, b_l_worth⟩ c_l_worth (defBody s_l_worth) = true := by decide +kernel
abbrev s_l_odd : Stmt := top 20
abbrev n_l_odd : List Str := ["_law_pen", "_law_far", "_law_some"]
theorem sc_l_odd : FnScope n_l_odd ["_law_pen"] (defScope s_l_odd) := ⟨rfl, rfl, rfl, by decide +kernel, rfl, by decide +kernel, by decide +kernel⟩
def c_l_odd : CB := (.cons (.asg (.name 1) (.fn 0 (.cons (.var 0) (.cons (.bin .Pow (.int 10) (.int 30)) .nil)))) (.cons (.asg (.name 2) (.lst (.cons .non (.cons (.bl true) (.cons (.bl false) (.cons (.bin .Sub (.neg (.int 1)) (.var 1)) (.cons (.var 1) (.cons (.str "") (.cons (.str "num") (.cons (.str "0") (.cons (.lst .nil) (.cons (.tup .nil) (.cons (.dct .nil) (.cons (.tup (.cons (.int 0) .nil)) (.cons (.lst (.cons (.int 1) .nil)) (.cons (.tup (.cons (.str "num") (.cons (.int 5) .nil))) (.cons (.dct (.cons (.str "a") (.lst (.cons (.int 1) .nil)) .nil)) (.cons (.lst (.cons (.lst (.cons (.lst .nil) .nil)) .nil)) .nil)))))))))))))))))) (.cons (.asg (.name 2) (.bin .Add (.var 2) (.lst (.cons (.int 65536) (.cons (.int 65535) (.cons (.tup (.cons (.tup .nil) (.cons (.tup .nil) .nil))) (.cons (.tup (.cons (.tup (.cons (.str "num") (.cons (.int 1) .nil))) (.cons (.tup (.cons (.str "tell") .nil)) .nil))) (.cons (.tup (.cons (.str "box") (.cons (.bl true) .nil))) (.cons (.tup (.cons (.str "end") .nil)) (.cons (.str "box0") (.cons (.tup (.cons (.str "go") (.cons (.int 0) .nil))) .nil))))))))))) (.cons (.ret (.ix (.var 2) (.fn 0 (.cons (.var 0) (.cons (.blt .len (.cons (.var 2) .nil)) .nil))))) .nil))))
abbrev f_l_odd : List Str := ["_law_draw"]
abbrev g_l_odd : List Str := []
abbrev b_l_odd : List Str := ["len"]
theorem ch_l_odd : chkB ⟨n_l_odd, defScope s_l_odd, none, f_l_odd, g_l_odd, b_l_odd⟩ c_l_odd (defBody s_l_odd) = true := by decide +kernel
abbrev s_l_machine_by : Stmt := top 21
abbrev n_l_machine_by : List Str := ["_law_pen", "_law_boxes", "_law_whole", "_law_lag", "_law_doers", "_law_ways", "_law_froms", "_law_tos", "_law_part", "_law_rest", "_law_k", "_law_port"]
theorem sc_l_machine_by : FnScope n_l_machine_by ["_law_pen", "_law_boxes", "_law_whole"] (defScope s_l_machine_by) := ⟨rfl, rfl, rfl, by decide +kernel, rfl, by decide +kernel, by decide +kernel⟩
def c_l_machine_by : CB := (.cons (.asg (.name 3) (.fn 0 (.cons (.var 0) (.cons (.int 4) .nil)))) (.cons (.asg (.name 1) (.bin .Add (.int 1) (.fn 0 (.cons (.var 0) (.cons (.var 1) .nil))))) (.cons (.ifs (.val (.var 2)) (.cons (.asg (.name 1) (.blt .max (.cons (.var 1) (.cons (.int 4) .nil)))) .nil) .nil) (.cons (.asg (.name 4) (.blt .tuple (.cons (.lc [("_law_k", 10)] (.name 10) (.rng1 (.bin .Add (.int 1) (.fn 0 (.cons (.var 0) (.cons (.int 4) .nil))))) .no (.tup (.cons (.bin .Add (.int 1) (.fn 0 (.cons (.var 0) (.cons (.int 4) .nil)))) (.cons (.fn 1 (.cons (.var 0) (.cons (.fn 4 .nil) .nil))) .nil)))) .nil))) (.cons (.asgT (.tup 2 (.cons (.name 6) (.cons (.name 7) .nil))) (.tup (.cons (.fn 3 (.cons (.var 1) (.cons (.blt .len (.cons (.var 4) .nil)) .nil))) (.cons (.fn 2 (.cons (.var 1) (.cons (.blt .len (.cons (.var 4) .nil)) .nil))) .nil)))) (.cons (.setLc 5 [("_law_k", 10)] (.name 10) (.rng1 (.bin .Add (.int 1) (.fn 0 (.cons (.var 0) (.cons (.int 6) .nil))))) .no (.tup (.cons (.fn 1 (.cons (.var 0) (.cons (.var 6) .nil))) (.cons (.fn 1 (.cons (.var 0) (.cons (.var 7) .nil))) .nil)))) (.cons (.ifs (.val (.var 2)) (.cons (.asg (.name 8) (.fn 1 (.cons (.var 0) (.cons (.var 7) .nil)))) (.cons (.setLc 9 [("_law_port", 11)] (.name 11) (.it (.var 7)) (.one (.cmp .NotIn (.var 11) (.var 8))) (.var 11)) (.cons (.asg (.sub (.var 5) (.int 0)) (.tup (.cons (.blt .tuple (.cons (.var 6) .nil)) (.cons (.blt .tuple (.cons (.var 7) .nil)) .nil)))) (.cons (.ifs (.and (.cmp .NotEq (.var 9) (.lst .nil)) (.and (.cmp .Lt (.blt .len (.cons (.var 5) .nil)) (.int 6)) (.cmp .Eq (.fn 0 (.cons (.var 0) (.cons (.int 2) .nil))) (.int 0)))) (.cons (.asg (.sub (.var 5) (.int 0)) (.tup (.cons (.blt .tuple (.cons (.var 6) .nil)) (.cons (.var 8) .nil)))) (.cons (.expr (.mt .append (.var 5) (.cons (.tup (.cons (.blt .tuple (.cons (.rev (.var 6)) .nil)) (.cons (.blt .tuple (.cons (.var 9) .nil)) .nil))) .nil))) .nil)) .nil) .nil)))) .nil) (.cons (.ret (.tup (.cons (.var 3) (.cons (.var 1) (.cons (.var 4) (.cons (.blt .tuple (.cons (.var 5) .nil)) .nil)))))) .nil))))))))
abbrev f_l_machine_by : List Str := ["_law_draw", "_law_some_by", "_law_tos_by", "_law_froms_by", "_law_deeds"]
abbrev g_l_machine_by : List Str := []
abbrev b_l_machine_by : List Str := ["tuple", "len", "range", "max"]
theorem ch_l_machine_by : chkB ⟨n_l_machine_by, defScope s_l_machine_by, none, f_l_machine_by, g_l_machine_by, b_l_machine_by⟩ c_l_machine_by (defBody s_l_machine_by) = true := by decide +kernel
abbrev s_l_move : Stmt := top 22
abbrev n_l_move : List Str := ["_law_pen", "_law_machine", "_law_stretches", "_law_way", "_law_source", "_law_skills", "_law_goals", "_law_box", "_law_doer"]
theorem sc_l_move : FnScope n_l_move ["_law_pen", "_law_machine", "_law_stretches"] (defScope s_l_move) := ⟨rfl, rfl, rfl, by decide +kernel, rfl, by decide +kernel, by decide +kernel⟩
def c_l_move : CB := (.cons (.asg (.name 3) (.fn 0 (.cons (.var 0) (.cons (.int 5) .nil)))) (.cons (.par2 7 8 (.cons (.fn 0 (.cons (.var 0) (.cons (.ix (.var 1) (.int 1)) .nil))) (.cons (.fn 0 (.cons (.var 0) (.cons (.blt .len (.cons (.ix (.var 1) (.int 2)) .nil)) .nil))) .nil))) (.cons (.asg (.name 4) (.ix (.lst (.cons (.tup (.cons (.str "num") (.cons (.fn 1 (.cons (.var 0) .nil)) .nil))) (.cons (.tup (.cons (.str "box") (.cons (.var 7) .nil))) (.cons (.tup (.cons (.str "out") (.cons (.var 8) .nil))) .nil)))) (.ix (.lst (.cons (.int 0) (.cons (.int 1) (.cons (.int 1) (.cons (.int 2) (.cons (.int 2) .nil)))))) (.var 3)))) (.cons (.asg (.name 3) (.fn 0 (.cons (.var 0) (.cons (.int 12) .nil)))) (.cons (.par2 7 8 (.cons (.fn 0 (.cons (.var 0) (.cons (.ix (.var 1) (.int 1)) .nil))) (.cons (.fn 0 (.cons (.var 0) (.cons (.blt .len (.cons (.ix (.var 1) (.int 2)) .nil)) .nil))) .nil))) (.cons (.asg (.name 5) (.ix (.ix (.ix (.var 1) (.int 2)) (.var 8)) (.int 1))) (.cons (.asg (.name 6) (.lst (.cons (.tup (.cons (.str "box") (.cons (.var 7) .nil))) (.cons (.tup (.cons (.str "in") (.cons (.var 8) .nil))) (.cons (.tup (.cons (.str "start") (.cons (.var 8) (.cons (.ix (.var 5) (.fn 0 (.cons (.var 0) (.cons (.blt .len (.cons (.var 5) .nil)) .nil)))) .nil)))) (.cons (.tup (.cons (.str "tell") .nil)) .nil)))))) (.cons (.asg (.name 6) (.bin .Add (.var 6) (.lst (.cons (.tup (.cons (.str "go") (.cons (.fn 0 (.cons (.var 0) (.cons (.var 2) .nil))) .nil))) (.cons (.tup (.cons (.str "end") .nil)) .nil))))) (.cons (.ret (.tup (.cons (.var 4) (.cons (.ix (.var 6) (.ix (.lst (.cons (.int 0) (.cons (.int 0) (.cons (.int 0) (.cons (.int 1) (.cons (.int 1) (.cons (.int 1) (.cons (.int 2) (.cons (.int 2) (.cons (.int 2) (.cons (.int 3) (.cons (.int 4) (.cons (.int 5) .nil))))))))))))) (.var 3))) .nil)))) .nil)))))))))
abbrev f_l_move : List Str := ["_law_draw", "_law_worth"]
abbrev g_l_move : List Str := []
abbrev b_l_move : List Str := ["len"]
theorem ch_l_move : chkB ⟨n_l_move, defScope s_l_move, none, f_l_move, g_l_move, b_l_move⟩ c_l_move (defBody s_l_move) = true := by decide +kernel
abbrev s_l_bent : Stmt := top 23
abbrev n_l_bent : List Str := ["_law_pen", "_law_thing", "_law_deep", "_law_way", "_law_at", "_law_more", "_law_some", "_law_letter", "_law_word"]
theorem sc_l_bent : FnScope n_l_bent ["_law_pen", "_law_thing", "_law_deep"] (defScope s_l_bent) := ⟨rfl, rfl, rfl, by decide +kernel, rfl, by decide +kernel, by decide +kernel⟩
def c_l_bent : CB := (.cons (.ifs (.and (.val (.blt .isi (.cons (.var 1) (.cons (.tn .tuple) .nil)))) (.and (.cmp .NotEq (.var 1) (.tup .nil)) (.and (.cmp .Gt (.var 2) (.int 0)) (.cmp .Gt (.fn 1 (.cons (.var 0) (.cons (.int 4) .nil))) (.int 0))))) (.cons (.asg (.name 4) (.fn 1 (.cons (.var 0) (.cons (.blt .len (.cons (.var 1) .nil)) .nil)))) (.cons (.ret (.bin .Add (.bin .Add (.sl (.var 1) .no (.part (.var 4))) (.tup (.cons (.fn 2 (.cons (.var 0) (.cons (.ix (.var 1) (.var 4)) (.cons (.bin .Sub (.var 2) (.int 1)) .nil)))) .nil))) (.sl (.var 1) (.part (.bin .Add (.var 4) (.int 1))) .no))) .nil)) .nil) (.cons (.asg (.name 3) (.fn 1 (.cons (.var 0) (.cons (.int 7) .nil)))) (.cons (.ifs (.and (.val (.blt .isi (.cons (.var 1) (.cons (.tn .tuple) .nil)))) (.cmp .Lt (.var 3) (.int 5))) (.cons (.asg (.name 4) (.fn 1 (.cons (.var 0) (.cons (.bin .Add (.blt .len (.cons (.var 1) .nil)) (.int 1)) .nil)))) (.cons (.asg (.name 5) (.sl (.var 1) (.part (.var 4)) (.part (.bin .Add (.var 4) (.int 1))))) (.cons (.asg (.name 6) (.lst (.cons (.bin .Add (.sl (.var 1) .no (.part (.var 4))) (.sl (.var 1) (.part (.bin .Add (.var 4) (.int 1))) .no)) (.cons (.bin .Add (.bin .Add (.sl (.var 1) .no (.part (.var 4))) (.var 5)) (.sl (.var 1) (.part (.var 4)) .no)) (.cons (.blt .list (.cons (.var 1) .nil)) (.cons (.rev (.var 1)) .nil)))))) (.cons (.ret (.ix (.bin .Add (.var 6) (.lst (.cons (.bin .Add (.bin .Add (.sl (.var 1) .no (.part (.var 4))) (.tup (.cons (.fn 0 (.cons (.var 0) .nil)) .nil))) (.sl (.var 1) (.part (.var 4)) .no)) .nil))) (.var 3))) .nil)))) .nil) (.cons (.ifs (.and (.val (.blt .isi (.cons (.var 1) (.cons (.tn .int) .nil)))) (.cmp .Lt (.var 3) (.int 4))) (.cons (.ret (.ix (.lst (.cons (.bin .Add (.var 1) (.int 1)) (.cons (.bin .Sub (.var 1) (.int 1)) (.cons (.bin .Sub (.int 0) (.var 1)) (.cons (.bin .Add (.var 1) (.fn 1 (.cons (.var 0) (.cons (.bin .Pow (.int 10) (.int 20)) .nil)))) .nil))))) (.var 3))) .nil) .nil) (.cons (.ifs (.and (.val (.blt .isi (.cons (.var 1) (.cons (.tn .str) .nil)))) (.cmp .Lt (.var 3) (.int 5))) (.cons (.asg (.name 4) (.fn 1 (.cons (.var 0) (.cons (.bin .Add (.blt .len (.cons (.var 1) .nil)) (.int 1)) .nil)))) (.cons (.asg (.name 7) (.ix (.str "abcdefghijklmnopqrstuvwxyz0123456789 ") (.fn 1 (.cons (.var 0) (.cons (.int 37) .nil))))) (.cons (.asg (.name 8) (.ix (.lst (.cons (.str "add") (.cons (.str "less") (.cons (.str "times") (.cons (.str "both") (.cons (.str "odd") (.cons (.str "same") (.cons (.str "under") (.cons (.str "num") (.cons (.str "box0") (.cons (.str "box1") (.cons (.str "out0") (.cons (.str "in0") (.cons (.str "start0") (.cons (.str "tell") (.cons (.str "go") (.cons (.str "end") (.cons (.str "box11") (.cons (.str "out3") (.cons (.str "in3") (.cons (.str "start3") .nil))))))))))))))))))))) (.fn 1 (.cons (.var 0) (.cons (.int 20) .nil))))) (.cons (.ret (.ix (.lst (.cons (.bin .Add (.bin .Add (.sl (.var 1) .no (.part (.var 4))) (.var 7)) (.sl (.var 1) (.part (.var 4)) .no)) (.cons (.bin .Add (.sl (.var 1) .no (.part (.var 4))) (.sl (.var 1) (.part (.bin .Add (.var 4) (.int 1))) .no)) (.cons (.bin .Add (.var 1) (.str "0")) (.cons (.var 8) (.cons (.mt .upper (.var 1) .nil) .nil)))))) (.var 3))) .nil)))) .nil) (.cons (.ret (.fn 0 (.cons (.var 0) .nil))) .nil))))))
abbrev f_l_bent : List Str := ["_law_odd", "_law_draw", "_law_bent"]
abbrev g_l_bent : List Str := []
abbrev b_l_bent : List Str := ["isinstance", "str", "len", "int", "tuple", "list"]
theorem ch_l_bent : chkB ⟨n_l_bent, defScope s_l_bent, none, f_l_bent, g_l_bent, b_l_bent⟩ c_l_bent (defBody s_l_bent) = true := by decide +kernel
abbrev s_l_number_by : Stmt := top 24
abbrev n_l_number_by : List Str := ["_law_thing", "_law_least", "_law_most"]
theorem sc_l_number_by : FnScope n_l_number_by ["_law_thing", "_law_least", "_law_most"] (defScope s_l_number_by) := ⟨rfl, rfl, rfl, by decide +kernel, rfl, by decide +kernel, by decide +kernel⟩
def c_l_number_by : CB := (.cons (.ret (.and (.blt .isi (.cons (.var 0) (.cons (.tn .int) .nil))) (.and (.not (.blt .isi (.cons (.var 0) (.cons (.tn .bool) .nil)))) (.chn .LtE .LtE (.var 1) (.var 0) (.var 2))))) .nil)
abbrev f_l_number_by : List Str := []
abbrev g_l_number_by : List Str := []
abbrev b_l_number_by : List Str := ["isinstance", "bool", "int"]
theorem ch_l_number_by : chkB ⟨n_l_number_by, defScope s_l_number_by, none, f_l_number_by, g_l_number_by, b_l_number_by⟩ c_l_number_by (defBody s_l_number_by) = true := by decide +kernel
abbrev s_l_is_goal : Stmt := top 25
abbrev n_l_is_goal : List Str := ["_law_machine", "_law_goal"]
theorem sc_l_is_goal : FnScope n_l_is_goal ["_law_machine", "_law_goal"] (defScope s_l_is_goal) := ⟨rfl, rfl, rfl, by decide +kernel, rfl, by decide +kernel, by decide +kernel⟩
def c_l_is_goal : CB := (.cons (.ifs (.or (.not (.val (.blt .isi (.cons (.var 1) (.cons (.tn .tuple) .nil))))) (.or (.cmp .Eq (.blt .len (.cons (.var 1) .nil)) (.int 0)) (.not (.val (.blt .isi (.cons (.ix (.var 1) (.int 0)) (.cons (.tn .str) .nil))))))) (.cons (.ret (.bl false)) .nil) .nil) (.cons (.ifs (.cmp .In (.ix (.var 1) (.int 0)) (.tup (.cons (.str "tell") (.cons (.str "end") .nil)))) (.cons (.ret (.cmp .Eq (.blt .len (.cons (.var 1) .nil)) (.int 1))) .nil) .nil) (.cons (.ifs (.cmp .Eq (.ix (.var 1) (.int 0)) (.str "go")) (.cons (.ret (.and (.cmp .Eq (.blt .len (.cons (.var 1) .nil)) (.int 2)) (.fn 0 (.cons (.ix (.var 1) (.int 1)) (.cons (.int 0) (.cons (.int 5) .nil)))))) .nil) .nil) (.cons (.ifs (.cmp .Eq (.ix (.var 1) (.int 0)) (.str "box")) (.cons (.ret (.and (.cmp .Eq (.blt .len (.cons (.var 1) .nil)) (.int 2)) (.fn 0 (.cons (.ix (.var 1) (.int 1)) (.cons (.int 0) (.cons (.bin .Sub (.ix (.var 0) (.int 1)) (.int 1)) .nil)))))) .nil) .nil) (.cons (.ifs (.or (.cmp .NotIn (.ix (.var 1) (.int 0)) (.tup (.cons (.str "in") (.cons (.str "start") .nil)))) (.or (.cmp .Lt (.blt .len (.cons (.var 1) .nil)) (.int 2)) (.not (.val (.fn 0 (.cons (.ix (.var 1) (.int 1)) (.cons (.int 0) (.cons (.bin .Sub (.blt .len (.cons (.ix (.var 0) (.int 2)) .nil)) (.int 1)) .nil)))))))) (.cons (.ret (.bl false)) .nil) .nil) (.cons (.ifs (.cmp .Eq (.ix (.var 1) (.int 0)) (.str "in")) (.cons (.ret (.cmp .Eq (.blt .len (.cons (.var 1) .nil)) (.int 2))) .nil) .nil) (.cons (.ret (.and (.cmp .Eq (.blt .len (.cons (.var 1) .nil)) (.int 3)) (.and (.blt .isi (.cons (.ix (.var 1) (.int 2)) (.cons (.tn .str) .nil))) (.cmp .In (.ix (.var 1) (.int 2)) (.ix (.ix (.ix (.var 0) (.int 2)) (.ix (.var 1) (.int 1))) (.int 1)))))) .nil)))))))
abbrev f_l_is_goal : List Str := ["_law_number_by"]
abbrev g_l_is_goal : List Str := []
abbrev b_l_is_goal : List Str := ["isinstance", "str", "len", "tuple"]
theorem ch_l_is_goal : chkB ⟨n_l_is_goal, defScope s_l_is_goal, none, f_l_is_goal, g_l_is_goal, b_l_is_goal⟩ c_l_is_goal (defBody s_l_is_goal) = true := by decide +kernel
abbrev s_l_is_move_by : Stmt := top 26
abbrev n_l_is_move_by : List Str := ["_law_machine", "_law_thing", "_law_source", "_law_most"]
theorem sc_l_is_move_by : FnScope n_l_is_move_by ["_law_machine", "_law_thing"] (defScope s_l_is_move_by) := ⟨rfl, rfl, rfl, by decide +kernel, rfl, by decide +kernel, by decide +kernel⟩
def c_l_is_move_by : CB := (.cons (.ifs (.or (.not (.val (.blt .isi (.cons (.var 1) (.cons (.tn .tuple) .nil))))) (.or (.cmp .NotEq (.blt .len (.cons (.var 1) .nil)) (.int 2)) (.not (.val (.blt .isi (.cons (.ix (.var 1) (.int 0)) (.cons (.tn .tuple) .nil))))))) (.cons (.ret (.bl false)) .nil) .nil) (.cons (.asg (.name 2) (.ix (.var 1) (.int 0))) (.cons (.ifs (.or (.cmp .NotEq (.blt .len (.cons (.var 2) .nil)) (.int 2)) (.or (.not (.val (.blt .isi (.cons (.ix (.var 2) (.int 0)) (.cons (.tn .str) .nil))))) (.cmp .NotIn (.ix (.var 2) (.int 0)) (.tup (.cons (.str "num") (.cons (.str "box") (.cons (.str "out") .nil))))))) (.cons (.ret (.bl false)) .nil) .nil) (.cons (.asg (.name 3) (.ix (.dct (.cons (.str "num") (.int 65535) (.cons (.str "box") (.bin .Sub (.ix (.var 0) (.int 1)) (.int 1)) (.cons (.str "out") (.bin .Sub (.blt .len (.cons (.ix (.var 0) (.int 2)) .nil)) (.int 1)) .nil)))) (.ix (.var 2) (.int 0)))) (.cons (.ret (.and (.fn 1 (.cons (.ix (.var 2) (.int 1)) (.cons (.int 0) (.cons (.var 3) .nil)))) (.fn 0 (.cons (.var 0) (.cons (.ix (.var 1) (.int 1)) .nil))))) .nil)))))
abbrev f_l_is_move_by : List Str := ["_law_is_goal", "_law_number_by"]
abbrev g_l_is_move_by : List Str := []
abbrev b_l_is_move_by : List Str := ["len", "isinstance", "str", "tuple"]
theorem ch_l_is_move_by : chkB ⟨n_l_is_move_by, defScope s_l_is_move_by, none, f_l_is_move_by, g_l_is_move_by, b_l_is_move_by⟩ c_l_is_move_by (defBody s_l_is_move_by) = true := by decide +kernel
abbrev s_law : Stmt := top 27
abbrev n_law : List Str := ["_law_script", "_law_pen", "_law_machine", "_law_k", "_law_thing", "_law_again", "_law_found"]
theorem sc_law : FnScope n_law ["_law_script"] (defScope s_law) := ⟨rfl, rfl, rfl, by decide +kernel, rfl, by decide +kernel, by decide +kernel⟩
def c_law : CB := (.cons (.asg (.name 1) (.fn 7 (.cons (.var 0) .nil))) (.cons (.asg (.name 2) (.fn 6 (.cons (.var 1) (.cons (.int 12) (.cons (.bl false) .nil))))) (.cons (.fors (.name 3) (.rng1 (.bin .Add (.int 1) (.fn 0 (.cons (.var 1) (.cons (.int 24) .nil))))) (.cons (.asg (.name 4) (.fn 5 (.cons (.var 1) (.cons (.var 2) (.cons (.int 6) .nil))))) (.cons (.ifs (.cmp .Eq (.fn 0 (.cons (.var 1) (.cons (.int 2) .nil))) (.int 0)) (.cons (.asg (.name 4) (.fn 4 (.cons (.var 1) (.cons (.var 4) (.cons (.int 3) .nil))))) .nil) .nil) (.cons (.ifs (.cmp .Eq (.fn 0 (.cons (.var 1) (.cons (.int 4) .nil))) (.int 0)) (.cons (.asg (.name 4) (.fn 4 (.cons (.var 1) (.cons (.var 4) (.cons (.int 3) .nil))))) .nil) .nil) (.cons (.ifs (.cmp .Eq (.fn 0 (.cons (.var 1) (.cons (.int 9) .nil))) (.int 0)) (.cons (.asg (.name 4) (.fn 3 (.cons (.var 1) .nil))) .nil) .nil) (.cons (.fors (.name 5) (.rng1 (.int 2)) (.cons (.asg (.name 6) (.fn 2 (.cons (.var 2) (.cons (.var 4) .nil)))) (.cons (.ifs (.or (.not (.val (.blt .isi (.cons (.var 6) (.cons (.tn .bool) .nil))))) (.cmp .NotEq (.var 6) (.fn 1 (.cons (.var 2) (.cons (.var 4) .nil))))) (.cons (.ret (.bl false)) .nil) .nil) .nil))) .nil)))))) (.cons (.ret (.bl true)) .nil))))
abbrev f_law : List Str := ["_law_draw", "_law_is_move_by", "is_move", "_law_odd", "_law_bent", "_law_move", "_law_machine_by", "_law_pen_by"]
abbrev g_law : List Str := []
abbrev b_law : List Str := ["range", "isinstance", "bool"]
theorem ch_law : chkB ⟨n_law, defScope s_law, none, f_law, g_law, b_law⟩ c_law (defBody s_law) = true := by decide +kernel
end K13

namespace K13
open PySem PySem.Spec PyProof.Rows L2 DL
abbrev sp_l_some_by := sp_l_some
theorem body_l_some_by : Bod [spDraw] [] l_someC 7 sp_l_some_by := body_l_some
theorem len_l_some_by : LenS sp_l_some_by 2 := len_l_some
abbrev sp_l_move := sp_l_move_by
theorem body_l_move : Bod [spDraw, spWorth] [] l_move_byC 9 sp_l_move := body_l_move_by
theorem len_l_move : LenS sp_l_move 3 := len_l_move_by
def sp_l_number_by : DSp := fun ds G Q _ => ∃ (d : D) (lo hi : Int) (t : String), ds = [d, .int lo, .int hi] ∧ TyOf G d t ∧ Q (.bl (withinB lo hi d)) G
theorem len_l_number_by : LenS sp_l_number_by 3 := by rintro ds G Q xq ⟨d, lo, hi, t, rfl, _⟩; rfl
theorem body_l_number_by : Bod [] [] c_l_number_by 3 sp_l_number_by := by
  rintro ds G Q xq ⟨d, lo, hi, t, rfl, ht, q⟩
  cases ht with
  | non => exact ⟨false, rfl, q⟩
  | bl b => exact ⟨true, rfl, true, rfl, q⟩
  | int i =>
    have q : Q (.bl (decide (lo ≤ i) && decide (i ≤ hi))) G := q
    refine ⟨true, rfl, false, rfl, ?_⟩
    refine ite2 (fun h => ?_) (fun h => ?_)
    · have h2 : decide (lo ≤ i) = true := h
      rw [h2, Bool.true_and] at q
      exact q
    · have h2 : decide (lo ≤ i) = false := Bool.not_eq_true _ ▸ h
      rw [h2, Bool.false_and] at q
      exact q
  | str s => exact ⟨false, rfl, q⟩
  | tup s => exact ⟨false, rfl, q⟩
  | lst h => exact .inl ⟨⟨_, h⟩, false, rfl, q⟩
  | dic h => exact .inr (.inl ⟨⟨_, h⟩, false, rfl, q⟩)
def sp_l_is_goal : DSp := fun ds G Q _ => ∃ (m : Mach) (d : D) (n : Nat) (o : Addr), ds = [m.d, d] ∧ KD n o G d ∧ Q (.bl (isGoalB m d)) G
theorem len_l_is_goal : LenS sp_l_is_goal 2 := by rintro ds G Q xq ⟨m, d, n, o, rfl, _⟩; rfl
/-- by the word: what the two ways of asking agree on -/
theorem goal1 {m : Mach} {k : Str} (h : memF (.str k) [.str "tell", .str "end"] = false) : isGoalB m (.tup [.str k]) = false := h
theorem seq_ne {k : Str} {a b : String} (h : (k == Str.ofString a) = true) (ne : (Str.ofString a == Str.ofString b) = false) : (k == Str.ofString b) = false := by
  rw [eq_of_beq h]
  exact ne
theorem goal2_te {m : Mach} {k : Str} {x : D} (h : memF (.str k) [.str "tell", .str "end"] = true) : goal2B m k x = false := by
  have : (Str.ofString "tell" == k) = true ∨ (Str.ofString "end" == k) = true := by
    have h2 : ((Str.ofString "tell" == k) || ((Str.ofString "end" == k) || false)) = true := h
    simpa using h2
  rcases this with h | h <;> rw [← eq_of_beq h] <;> rfl
theorem goal3_te {m : Mach} {k : Str} {x y : D} (h : memF (.str k) [.str "tell", .str "end"] = true) : DL.startB m k x y = false := by
  have : (Str.ofString "tell" == k) = true ∨ (Str.ofString "end" == k) = true := by
    have h2 : ((Str.ofString "tell" == k) || ((Str.ofString "end" == k) || false)) = true := h
    simpa using h2
  rcases this with h | h <;> rw [← eq_of_beq h] <;> rfl
theorem long_no {m : Mach} {a x y z : D} {r : List D} : isGoalB m (.tup (a :: x :: y :: z :: r)) = false := rfl
theorem len4 {a x y z : D} {r : List D} {c : Int} (h : c < 4) : (((a :: x :: y :: z :: r).length : Int) == c) = false := beq_eq_false_iff_ne.mpr (by simp; omega)
theorem in2 {k : Str} : memF (.str k) [.str "in", .str "start"] = ((k == Str.ofString "in") || (k == Str.ofString "start")) := by
  show ((Str.ofString "in" == k) || ((Str.ofString "start" == k) || false)) = _
  rw [Bool.or_false, Bool.beq_comm, Bool.beq_comm (a := Str.ofString "start")]
set_option maxHeartbeats 0 in
theorem body_l_is_goal : Bod [sp_l_number_by] [] c_l_is_goal 2 sp_l_is_goal := by
  rintro ds G Q xq ⟨m, d, n, o, rfl, hk, q⟩
  rcases hk.tyT with ⟨ds, rfl, hds⟩ | ⟨hn, t, ht, hb⟩
  · refine ⟨true, rfl, ?_⟩
    match ds with
    | [] => exact q
    | a :: r =>
      refine ⟨a, atI_nat (j := 0) rfl, ?_⟩
      rcases (hds a (by simp)).tyN with ⟨k, rfl⟩ | ⟨t, ht, hb⟩
      · have at0 : atI (D.str k :: r) 0 = some (.str k) := atI_nat (j := 0) rfl
        refine ⟨true, rfl, ?_⟩
        refine ⟨_, at0, sz (m := 2) (by simp), rfl, rfl, ?_⟩
        refine ite2 (fun h => ?_) (fun h => ?_)
        · -- tell, end
          have hm : memF (.str k) [.str "tell", .str "end"] = true := h
          match r with
          | [] =>
            have q : Q (.bl (memF (.str k) [.str "tell", .str "end"])) G := q
            rw [hm] at q
            exact q
          | [x] =>
            have q : Q (.bl (goal2B m k x)) G := q
            rw [goal2_te hm] at q
            exact q
          | [x, y] =>
            have q : Q (.bl (DL.startB m k x y)) G := q
            rw [goal3_te hm] at q
            exact q
          | x :: y :: z :: r =>
            exact q
        have hm : memF (.str k) [.str "tell", .str "end"] = false := Bool.not_eq_true _ ▸ h
        refine ⟨_, at0, ?_⟩
        refine ite2 (fun h => ?_) (fun h => ?_)
        · -- go
          have hg : k = Str.ofString "go" := eq_of_beq h
          subst hg
          match r with
          | [] => exact q
          | [x] =>
            obtain ⟨tx, htx⟩ := (hds x (by simp)).ty
            exact ⟨_, rfl, x, 0, 5, tx, rfl, htx, q⟩
          | [x, y] => exact q
          | x :: y :: z :: r =>
            exact q
        have hgo : (k == Str.ofString "go") = false := Bool.not_eq_true _ ▸ h
        refine ⟨_, at0, ?_⟩
        refine ite2 (fun h => ?_) (fun h => ?_)
        · -- box
          have hg : k = Str.ofString "box" := eq_of_beq h
          subst hg
          match r with
          | [] => exact q
          | [x] =>
            obtain ⟨tx, htx⟩ := (hds x (by simp)).ty
            exact ⟨_, rfl, _, rfl, x, 0, _, tx, rfl, htx, q⟩
          | [x, y] => exact q
          | x :: y :: z :: r =>
            exact q
        have hbx : (k == Str.ofString "box") = false := Bool.not_eq_true _ ▸ h
        refine ⟨_, at0, sz (m := 2) (by simp), rfl, rfl, ?_⟩
        refine ite2 (fun h => ?_) (fun h => ?_)
        · -- neither in nor start
          have hno : (!memF (.str k) [.str "in", .str "start"]) = true := h
          rw [in2] at hno
          simp only [Bool.not_or, Bool.and_eq_true, Bool.not_eq_true'] at hno
          match r with
          | [] =>
            have q : Q (.bl (memF (.str k) [.str "tell", .str "end"])) G := q
            rw [hm] at q
            exact q
          | [x] =>
            have q : Q (.bl (goal2B m k x)) G := q
            unfold goal2B at q
            rw [hbx, hno.1, hgo] at q
            exact q
          | [x, y] =>
            have q : Q (.bl (DL.startB m k x y)) G := q
            unfold DL.startB at q
            rw [hno.2] at q
            exact q
          | x :: y :: z :: r => exact q
        have hyes : memF (.str k) [.str "in", .str "start"] = true := by
          have : ¬ (!memF (.str k) [.str "in", .str "start"]) = true := h
          simpa using this
        rw [in2] at hyes
        match r with
        | [] =>
          have q : Q (.bl (memF (.str k) [.str "tell", .str "end"])) G := q
          rw [hm] at q
          exact q
        | x :: r =>
          have at1 : atI (D.str k :: x :: r) 1 = some x := atI_nat (j := 1) rfl
          obtain ⟨tx, htx⟩ := (hds x (by simp)).ty
          refine ⟨_, at1, _, rfl, x, 0, (m.doers.length : Int) - 1, tx, by rw [List.length_map], htx, ?_⟩
          cases e : withinB 0 ((m.doers.length : Int) - 1) x with
          | false =>
            match r with
            | [] =>
              have q : Q (.bl (goal2B m k x)) G := q
              unfold goal2B at q
              rw [hbx, hgo, e] at q
              simp only [Bool.false_eq_true, if_false, ite_self, Bool.false_and] at q
              exact q
            | [y] =>
              have q : Q (.bl (DL.startB m k x y)) G := q
              unfold DL.startB at q
              rw [e, Bool.false_and, Bool.and_false] at q
              exact q
            | y :: z :: r => exact q
          | true =>
            refine ⟨_, at0, ?_⟩
            refine ite2 (fun h => ?_) (fun h => ?_)
            · have hg : k = Str.ofString "in" := eq_of_beq h
              subst hg
              match r with
              | [] =>
                have q : Q (.bl (withinB 0 ((m.doers.length : Int) - 1) x)) G := q
                rw [e] at q
                exact q
              | [y] => exact q
              | y :: z :: r =>
                exact q
            · have hin : (k == Str.ofString "in") = false := Bool.not_eq_true _ ▸ h
              have hst : (k == Str.ofString "start") = true := by
                rw [hin, Bool.false_or] at hyes
                exact hyes
              match r with
              | [] =>
                have q : Q (.bl (goal2B m k x)) G := q
                unfold goal2B at q
                rw [hbx, hin, hgo] at q
                exact q
              | [y] =>
                have q2 : Q (.bl (DL.startB m k x y)) G := q
                unfold DL.startB at q2
                rw [hst, e, Bool.true_and, Bool.true_and] at q2
                obtain ⟨i, rfl, h0, h1⟩ := within_int e
                obtain ⟨dd, hd1, hd2⟩ := skills_at h0 h1
                refine ⟨_, rfl, ?_⟩
                rcases (hds y (by simp)).tyN with ⟨s, rfl⟩ | ⟨t, ht, hb⟩
                · refine ⟨true, rfl, _, rfl, _, rfl, _, rfl, ?_⟩
                  refine ⟨_, hd2, ?_⟩
                  refine ⟨_, rfl, rfl, strs_flat _, ?_⟩
                  have q3 : Q (.bl (match m.doers[i.toNat]? with | some d => memF (.str s) (d.2.map D.str) | none => false)) G := q2
                  rw [hd1] at q3
                  exact q3
                · rw [skill_no (not_str ht hb)] at q2
                  cases ht with
                  | non => exact ⟨false, rfl, q2⟩
                  | bl b => exact ⟨false, rfl, q2⟩
                  | int b => exact ⟨false, rfl, q2⟩
                  | tup b => exact ⟨false, rfl, q2⟩
                  | str s => cases hb
                  | lst h => exact .inl ⟨⟨_, h⟩, false, rfl, q2⟩
                  | dic h => exact .inr (.inl ⟨⟨_, h⟩, false, rfl, q2⟩)
              | y :: z :: r =>
                exact q
      · rw [goal_no (not_str ht hb)] at q
        cases ht <;> first | exact ⟨false, rfl, q⟩ | exact .inl ⟨⟨_, by assumption⟩, false, rfl, q⟩ | exact .inr (.inl ⟨⟨_, by assumption⟩, false, rfl, q⟩) | cases hb
  · rw [not_goal hn] at q
    cases ht <;> first | exact ⟨false, rfl, q⟩ | exact .inl ⟨⟨_, by assumption⟩, false, rfl, q⟩ | exact .inr (.inl ⟨⟨_, by assumption⟩, false, rfl, q⟩) | cases hb
def sp_l_is_move_by : DSp := fun ds G Q _ => ∃ (m : Mach) (d : D) (n : Nat) (o : Addr), ds = [m.d, d] ∧ KD n o G d ∧ ∀ G', Grow G G' → Q (.bl (isMoveB m d)) G'
theorem len_l_is_move_by : LenS sp_l_is_move_by 2 := by rintro ds G Q xq ⟨m, d, n, o, rfl, _⟩; rfl
theorem in3 {k : Str} : memF (.str k) [.str "num", .str "box", .str "out"] = ((k == Str.ofString "num") || ((k == Str.ofString "box") || (k == Str.ofString "out"))) := by
  show ((Str.ofString "num" == k) || ((Str.ofString "box" == k) || ((Str.ofString "out" == k) || false))) = _
  rw [Bool.or_false, Bool.beq_comm, Bool.beq_comm (a := Str.ofString "box"), Bool.beq_comm (a := Str.ofString "out")]
theorem KD.growK {n : Nat} {o : Addr} {G G' : Sto} {d : D} (g : Grow G G') (h : KD n o G d) : KD n o G' d := h.keep g.keeps (Nat.le_refl _)
theorem TyOf.grow {G G' : Sto} {d : D} {t : String} (g : Grow G G') (h : DL.TyOf G d t) : DL.TyOf G' d t := by
  cases h with
  | non => exact .non
  | bl b => exact .bl b
  | int i => exact .int i
  | str s => exact .str s
  | tup ds => exact .tup ds
  | lst h => exact .lst (g _ _ h)
  | dic h => exact .dic (g _ _ h)
set_option maxHeartbeats 0 in
theorem body_l_is_move_by : Bod [sp_l_is_goal, sp_l_number_by] [] c_l_is_move_by 4 sp_l_is_move_by := by
  rintro ds G Q xq ⟨m, d, n, o, rfl, hk, q⟩
  have q0 := q G .refl
  rcases hk.tyT with ⟨ds, rfl, hds⟩ | ⟨hn, t, ht, hb⟩
  · refine ⟨true, rfl, ?_⟩
    refine ite2 (fun h => ?_) (fun h => ?_)
    · rw [move_len (fun z => by rw [z] at h; revert h; decide)] at q0
      exact q0
    have hl : ds.length = 2 := by
      have : ¬ (!(((ds.length : Nat) : Int) == 2)) = true := h
      simp at this
      omega
    obtain ⟨s, g, rfl⟩ := two_of hl
    have qq : ∀ G', Grow G G' → Q (.bl (isSrcB m s && isGoalB m g)) G' := q
    refine ⟨_, rfl, ?_⟩
    rcases (hds s (by simp)).tyT with ⟨sd, rfl, hsd⟩ | ⟨hn, t, ht, hb⟩
    · refine ⟨true, rfl, _, rfl, ?_⟩
      refine ite2 (fun h => ?_) (fun h => ?_)
      · have q1 := qq G .refl
        rw [src_len (fun z => by rw [z] at h; revert h; decide), Bool.false_and] at q1
        exact q1
      have hl : sd.length = 2 := by
        have : ¬ (!(((sd.length : Nat) : Int) == 2)) = true := h
        simp at this
        omega
      obtain ⟨a, x, rfl⟩ := two_of hl
      refine ⟨_, rfl, ?_⟩
      rcases (hsd a (by simp)).tyN with ⟨k, rfl⟩ | ⟨t, ht, hb⟩
      · have q3 : ∀ G', Grow G G' → Q (.bl (srcB m k x && isGoalB m g)) G' := qq
        unfold srcB at q3
        refine ⟨true, rfl, _, rfl, sz (m := 3) (by simp), rfl, rfl, ?_⟩
        refine ite2 (fun h => ?_) (fun h => ?_)
        · have hno : (!memF (.str k) [.str "num", .str "box", .str "out"]) = true := h
          rw [in3] at hno
          simp only [Bool.not_or, Bool.and_eq_true, Bool.not_eq_true'] at hno
          have q1 := q3 G .refl
          rw [hno.1, hno.2.1, hno.2.2] at q1
          exact q1
        have hyes : memF (.str k) [.str "num", .str "box", .str "out"] = true := by
          have : ¬ (!memF (.str k) [.str "num", .str "box", .str "out"]) = true := h
          simpa using this
        rw [in3] at hyes
        obtain ⟨tx, htx⟩ := (hsd x (by simp)).ty
        refine fun p fp => ?_
        -- the most, from the dict
        have tail : ∀ (most : Int) (G1 : Sto), Grow G G1 → (∀ G', Grow G G' → Q (.bl (withinB 0 most x && isGoalB m g)) G') → denB [sp_l_is_goal, sp_l_number_by] [] (c_l_is_move_by.drop 4) (Fin0 Q xq) [some m.d, some (.tup [.tup [.str k, x], g]), some (.tup [.str k, x]), some (.int most)] G1 := by
          intro most G1 g1 q4
          refine ⟨_, rfl, x, 0, most, tx, rfl, TyOf.grow g1 htx, ?_⟩
          have q5 := q4 G1 g1
          cases e : withinB 0 most x with
          | false =>
            rw [e, Bool.false_and] at q5
            exact q5
          | true =>
            rw [e, Bool.true_and] at q5
            exact ⟨_, rfl, m, g, n, o, rfl, KD.growK g1 (hds g (by simp)), q5⟩
        refine ⟨_, rfl, _, rfl, put_same, [(.inr "num", .int 65535), (.inr "box", .int ((m.boxes : Int) - 1)), (.inr "out", .int (((m.doers.map doerD).length : Int) - 1))], rfl, by simp, ?_⟩
        have gd : ∀ {cl : Cl}, Grow G (put (put G p (.dK [])) p cl) := fun {cl} => by rw [put_put]; exact .new fp
        by_cases k1 : k = Str.ofString "num"
        · subst k1
          exact ⟨_, rfl, _, .int 65535, put_same, rfl, tail 65535 _ gd q3⟩
        have h1 : (k == Str.ofString "num") = false := beq_eq_false_iff_ne.mpr k1
        by_cases k2 : k = Str.ofString "box"
        · subst k2
          exact ⟨_, rfl, _, .int ((m.boxes : Int) - 1), put_same, rfl, tail _ _ gd q3⟩
        have h2 : (k == Str.ofString "box") = false := beq_eq_false_iff_ne.mpr k2
        rw [h1, h2, Bool.false_or, Bool.false_or] at hyes
        have k3 : k = Str.ofString "out" := eq_of_beq hyes
        subst k3
        refine ⟨_, rfl, _, .int (((m.doers.map doerD).length : Int) - 1), put_same, rfl, tail _ _ gd ?_⟩
        rw [List.length_map]
        exact q3
      · have q1 := qq G .refl
        rw [src_no (not_str ht hb), Bool.false_and] at q1
        cases ht <;> first | exact ⟨false, rfl, q1⟩ | exact .inl ⟨⟨_, by assumption⟩, false, rfl, q1⟩ | exact .inr (.inl ⟨⟨_, by assumption⟩, false, rfl, q1⟩) | cases hb
    · have q1 := qq G .refl
      rw [not_src hn, Bool.false_and] at q1
      cases ht <;> first | exact ⟨false, rfl, q1⟩ | exact .inl ⟨⟨_, by assumption⟩, false, rfl, q1⟩ | exact .inr (.inl ⟨⟨_, by assumption⟩, false, rfl, q1⟩) | cases hb
  · rw [not_move hn] at q0
    cases ht <;> first | exact ⟨false, rfl, q0⟩ | exact .inl ⟨⟨_, by assumption⟩, false, rfl, q0⟩ | exact .inr (.inl ⟨⟨_, by assumption⟩, false, rfl, q0⟩) | cases hb
/-- a drawn move is a datum -/
theorem deeds_asc : deedsL.all (fun w => decide (asc w) && decide (w.length ≤ 24)) = true := by decide +kernel
theorem kd_two {n : Nat} {o : Addr} {G : Sto} {x y : D} (hn : 2 ≤ n) (hx : KD n o G x) (hy : KD n o G y) : KD n o G (.tup [x, y]) := .tup (fun d hd => by
  simp only [List.mem_cons, List.not_mem_nil, or_false] at hd
  rcases hd with rfl | rfl
  · exact hx
  · exact hy) hn
theorem kd_one {n : Nat} {o : Addr} {G : Sto} {x : D} (hn : 1 ≤ n) (hx : KD n o G x) : KD n o G (.tup [x]) := .tup (fun d hd => by
  rw [List.mem_singleton] at hd
  rw [hd]
  exact hx) hn
theorem src_kd {o : Addr} {G : Sto} (s : Src) : KD 24 o G s.d := by
  cases s
  · exact kd_two (by decide) (kstr "num" (by decide +kernel) (by decide +kernel)) (.int _)
  · exact kd_two (by decide) (kstr "box" (by decide +kernel) (by decide +kernel)) (.int _)
  · exact kd_two (by decide) (kstr "out" (by decide +kernel) (by decide +kernel)) (.int _)
theorem goal_kd {o : Addr} {G : Sto} {m : Mach} {st : Nat} (hm : m.Ok) {g : Goal} (h : g.Ok m st) : KD 24 o G g.d := by
  cases g with
  | box k => exact kd_two (by decide) (kstr "box" (by decide +kernel) (by decide +kernel)) (.int _)
  | inn k => exact kd_two (by decide) (kstr "in" (by decide +kernel) (by decide +kernel)) (.int _)
  | start k s =>
    obtain ⟨d, hd, hs⟩ := h
    have h1 := (hm.dk d (List.mem_of_getElem? hd)).2.2.mem s hs
    have h2 := List.all_eq_true.mp deeds_asc s h1
    simp only [Bool.and_eq_true, decide_eq_true_eq] at h2
    refine .tup (fun d hd => ?_) (by simp)
    simp only [List.mem_cons, List.not_mem_nil, or_false] at hd
    rcases hd with rfl | rfl | rfl
    · exact kstr "start" (by decide +kernel) (by decide +kernel)
    · exact .int _
    · exact .str h2.1 h2.2
  | tell => exact kd_one (by decide) (kstr "tell" (by decide +kernel) (by decide +kernel))
  | go k => exact kd_two (by decide) (kstr "go" (by decide +kernel) (by decide +kernel)) (.int _)
  | fin => exact kd_one (by decide) (kstr "end" (by decide +kernel) (by decide +kernel))
abbrev F0 : List DSp := [spDraw, sp_l_is_move_by, sp_p_is_move, sp_l_odd, sp_l_bent 4, sp_l_move, sp_l_machine_by, spPen]
set_option maxHeartbeats 0 in
theorem body_law : Bod F0 [] c_law 7 lawSp := by
  rintro ds G Q xq ⟨ns, rfl, hl, _, q⟩
  refine ⟨ns, rfl, fun p pc G1 hp1 _ _ _ => ?_⟩
  refine ⟨p, pc, 12, _, rfl, by decide, by decide, hp1, fun m G2 hm hp2 _ => ?_⟩
  refine ⟨p, pc, 24, rfl, by decide, by decide, hp2, fun r G3 h0 h4 hp3 _ => ?_⟩
  refine ⟨by omega, by omega, ?_⟩
  refine for_inv (I := fun ρ G => Pen G p pc ∧ ∃ x3 x4 x5 x6, ρ = [some (.rl (ns.map D.int)), some (.ref p), some m.d, x3, x4, x5, x6]) ⟨hp3, none, none, none, none, rfl⟩ ?_ ?_
  · rintro x hx ρ G4 N ⟨hp4, x3, x4, x5, x6, rfl⟩ hN
    refine ⟨trivial, ?_⟩
    refine ⟨p, pc, m, 6, rfl, hm, by decide, by decide, hp4, fun s g G5 hs hg hp5 _ => ?_⟩
    have kd5 : KD 24 p G5 (moveD s g) := kd_two (by decide) (src_kd s) (goal_kd hm hg)
    -- the thing in hand
    have t3 : ∀ (d : D) (n : Nat) (G6 : Sto), KD n p G6 d → Pen G6 p pc → denB F0 [] (.cons (.fors (.name 5) (.rng1 (.int 2)) (.cons (.asg (.name 6) (.fn 2 (.cons (.var 2) (.cons (.var 4) .nil)))) (.cons (.ifs (.or (.not (.val (.blt .isi (.cons (.var 6) (.cons (.tn .bool) .nil))))) (.cmp .NotEq (.var 6) (.fn 1 (.cons (.var 2) (.cons (.var 4) .nil))))) (.cons (.ret (.bl false)) .nil) .nil) .nil))) .nil)
        { nx := N, ct := N, bk := fun _ G' => Q (.bl true) G', rt := Q, ex := fun z _ G' => xq z G' } [some (.rl (ns.map D.int)), some (.ref p), some m.d, some x, some d, x5, x6] G6 := by
      intro d n G6 hd hp6
      refine ⟨by decide, by decide, ?_⟩
      refine for_inv (I := fun ρ G => Grow G6 G ∧ ∃ x5 x6, ρ = [some (.rl (ns.map D.int)), some (.ref p), some m.d, some x, some d, x5, x6]) ⟨.refl, x5, x6, rfl⟩ ?_ ?_
      · rintro y hy ρ G7 N ⟨g7, x5, x6, rfl⟩ hN
        refine ⟨trivial, ?_⟩
        refine ⟨m, d, n, p, rfl, KD.growK g7 hd, ?_⟩
        refine ⟨true, rfl, m, d, n, p, rfl, KD.growK g7 hd, fun G8 g8 => ?_⟩
        refine iteN (by simp) ?_
        exact hN _ _ ⟨g7.trans g8, _, _, rfl⟩
      · rintro ρ G7 ⟨g7, x5, x6, rfl⟩
        exact ⟨trivial, hN _ _ ⟨hp6.grow g7, _, _, _, _, rfl⟩⟩
    have t2 : ∀ (d : D) (n : Nat) (G6 : Sto), KD n p G6 d → Pen G6 p pc → denB F0 [] (.cons (.ifs (.cmp .Eq (.fn 0 (.cons (.var 1) (.cons (.int 9) .nil))) (.int 0)) (.cons (.asg (.name 4) (.fn 3 (.cons (.var 1) .nil))) .nil) .nil) (.cons (.fors (.name 5) (.rng1 (.int 2)) (.cons (.asg (.name 6) (.fn 2 (.cons (.var 2) (.cons (.var 4) .nil)))) (.cons (.ifs (.or (.not (.val (.blt .isi (.cons (.var 6) (.cons (.tn .bool) .nil))))) (.cmp .NotEq (.var 6) (.fn 1 (.cons (.var 2) (.cons (.var 4) .nil))))) (.cons (.ret (.bl false)) .nil) .nil) .nil))) .nil))
        { nx := N, ct := N, bk := fun _ G' => Q (.bl true) G', rt := Q, ex := fun z _ G' => xq z G' } [some (.rl (ns.map D.int)), some (.ref p), some m.d, some x, some d, x5, x6] G6 := by
      intro d n G6 hd hp6
      refine ⟨p, pc, 9, rfl, by decide, by decide, hp6, fun r G7 _ _ hp7 o7 => ?_⟩
      refine ite2 (fun h => ?_) (fun h => ?_)
      · exact ⟨p, pc, rfl, hp7, fun d' G8 hd' hp8 _ => t3 d' 24 G8 hd' hp8⟩
      · exact t3 d n G7 (hd.keep o7.keeps (Nat.le_refl _)) hp7
    have t1 : ∀ (d : D) (n : Nat) (G6 : Sto), 24 ≤ n → n ≤ 1000 → KD n p G6 d → Pen G6 p pc → denB F0 [] (.cons (.ifs (.cmp .Eq (.fn 0 (.cons (.var 1) (.cons (.int 4) .nil))) (.int 0)) (.cons (.asg (.name 4) (.fn 4 (.cons (.var 1) (.cons (.var 4) (.cons (.int 3) .nil))))) .nil) .nil) (.cons (.ifs (.cmp .Eq (.fn 0 (.cons (.var 1) (.cons (.int 9) .nil))) (.int 0)) (.cons (.asg (.name 4) (.fn 3 (.cons (.var 1) .nil))) .nil) .nil) (.cons (.fors (.name 5) (.rng1 (.int 2)) (.cons (.asg (.name 6) (.fn 2 (.cons (.var 2) (.cons (.var 4) .nil)))) (.cons (.ifs (.or (.not (.val (.blt .isi (.cons (.var 6) (.cons (.tn .bool) .nil))))) (.cmp .NotEq (.var 6) (.fn 1 (.cons (.var 2) (.cons (.var 4) .nil))))) (.cons (.ret (.bl false)) .nil) .nil) .nil))) .nil)))
        { nx := N, ct := N, bk := fun _ G' => Q (.bl true) G', rt := Q, ex := fun z _ G' => xq z G' } [some (.rl (ns.map D.int)), some (.ref p), some m.d, some x, some d, x5, x6] G6 := by
      intro d n G6 hn1 hn2 hd hp6
      refine ⟨p, pc, 4, rfl, by decide, by decide, hp6, fun r G7 _ _ hp7 o7 => ?_⟩
      refine ite2 (fun h => ?_) (fun h => ?_)
      · exact ⟨p, pc, d, 3, n, rfl, by decide, by decide, hn1, hn2, hd.keep o7.keeps (Nat.le_refl _), hp7, fun d' G8 hd' hp8 _ => t2 d' (n + 1) G8 hd' hp8⟩
      · exact t2 d n G7 (hd.keep o7.keeps (Nat.le_refl _)) hp7
    refine ⟨p, pc, 2, rfl, by decide, by decide, hp5, fun r G6 _ _ hp6 o6 => ?_⟩
    refine ite2 (fun h => ?_) (fun h => ?_)
    · exact ⟨p, pc, moveD s g, 3, 24, rfl, by decide, by decide, by decide, by decide, kd5.keep o6.keeps (Nat.le_refl _), hp6, fun d' G8 hd' hp8 _ => t1 d' 25 G8 (by decide) (by decide) hd' hp8⟩
    · exact t1 _ 24 G6 (by decide) (by decide) (kd5.keep o6.keeps (Nat.le_refl _)) hp6
  · rintro ρ G4 ⟨hp4, x3, x4, x5, x6, rfl⟩
    exact ⟨trivial, q _⟩
end K13

namespace K13
open PySem PySem.Spec PyProof.Rows L2 DL
def fn : List He.DefD := [⟨("is_whole", none), "is_whole", "is_whole", defArgs s_p_is_whole, defBody s_p_is_whole, defScope s_p_is_whole, [], []⟩, ⟨("is_within", none), "is_within", "is_within", defArgs s_p_is_within, defBody s_p_is_within, defScope s_p_is_within, [], []⟩, ⟨("is_worth", none), "is_worth", "is_worth", defArgs s_p_is_worth, defBody s_p_is_worth, defScope s_p_is_worth, [], []⟩, ⟨("is_source", none), "is_source", "is_source", defArgs s_p_is_source, defBody s_p_is_source, defScope s_p_is_source, [], []⟩, ⟨("is_start", none), "is_start", "is_start", defArgs s_p_is_start, defBody s_p_is_start, defScope s_p_is_start, [], []⟩, ⟨("is_goal", none), "is_goal", "is_goal", defArgs s_p_is_goal, defBody s_p_is_goal, defScope s_p_is_goal, [], []⟩, ⟨("is_move", none), "is_move", "is_move", defArgs s_p_is_move, defBody s_p_is_move, defScope s_p_is_move, [], []⟩, ⟨("_law_pen_by", none), "_law_pen_by", "_law_pen_by", defArgs s_l_pen_by, defBody s_l_pen_by, defScope s_l_pen_by, [], []⟩, ⟨("_law_draw", none), "_law_draw", "_law_draw", defArgs s_l_draw, defBody s_l_draw, defScope s_l_draw, [], []⟩, ⟨("_law_some_by", none), "_law_some_by", "_law_some_by", defArgs s_l_some_by, defBody s_l_some_by, defScope s_l_some_by, [], []⟩, ⟨("_law_deeds", none), "_law_deeds", "_law_deeds", defArgs s_l_deeds, defBody s_l_deeds, defScope s_l_deeds, [], []⟩, ⟨("_law_froms_by", none), "_law_froms_by", "_law_froms_by", defArgs s_l_froms_by, defBody s_l_froms_by, defScope s_l_froms_by, [], []⟩, ⟨("_law_tos_by", none), "_law_tos_by", "_law_tos_by", defArgs s_l_tos_by, defBody s_l_tos_by, defScope s_l_tos_by, [], []⟩, ⟨("_law_worth", none), "_law_worth", "_law_worth", defArgs s_l_worth, defBody s_l_worth, defScope s_l_worth, [], []⟩, ⟨("_law_odd", none), "_law_odd", "_law_odd", defArgs s_l_odd, defBody s_l_odd, defScope s_l_odd, [], []⟩, ⟨("_law_machine_by", none), "_law_machine_by", "_law_machine_by", defArgs s_l_machine_by, defBody s_l_machine_by, defScope s_l_machine_by, [], []⟩, ⟨("_law_move", none), "_law_move", "_law_move", defArgs s_l_move, defBody s_l_move, defScope s_l_move, [], []⟩, ⟨("_law_bent", none), "_law_bent", "_law_bent", defArgs s_l_bent, defBody s_l_bent, defScope s_l_bent, [], []⟩, ⟨("_law_number_by", none), "_law_number_by", "_law_number_by", defArgs s_l_number_by, defBody s_l_number_by, defScope s_l_number_by, [], []⟩, ⟨("_law_is_goal", none), "_law_is_goal", "_law_is_goal", defArgs s_l_is_goal, defBody s_l_is_goal, defScope s_l_is_goal, [], []⟩, ⟨("_law_is_move_by", none), "_law_is_move_by", "_law_is_move_by", defArgs s_l_is_move_by, defBody s_l_is_move_by, defScope s_l_is_move_by, [], []⟩, ⟨("law", none), "law", "law", defArgs s_law, defBody s_law, defScope s_law, [], []⟩]
def fa : List He.Fa := [.glo "is_whole", .glo "is_within", .glo "is_worth", .glo "is_source", .glo "is_start", .glo "is_goal", .glo "is_move", .glo "_law_pen_by", .glo "_law_draw", .glo "_law_some_by", .glo "_law_deeds", .glo "_law_froms_by", .glo "_law_tos_by", .glo "_law_worth", .glo "_law_odd", .glo "_law_machine_by", .glo "_law_move", .glo "_law_bent", .glo "_law_number_by", .glo "_law_is_goal", .glo "_law_is_move_by", .glo "law", .free "isinstance", .free "bool", .free "int", .free "len", .free "str", .free "tuple", .free "abs", .free "range", .free "max", .free "list"]
def cs : List (Str × D) := [("MOST", .int (65536)), ("MOST_STRETCHES", .int (6)), ("LONE", .tup [.str "tell", .str "end"])]
abbrev R : PySem.W.OpenRow := PySem.W.OpenLaw.row PySem.Challenge.rw_movebeats_k13_moves_known
abbrev hk : PySem.W.Hook := hookC 4 fa fn cs
def ob (s : PySem.W.SharedT) : He.AlD := obsCG 4 fa fn cs (HandSHeadRun.getT s)
theorem ob_eq (s : PySem.W.SharedT) : ob s = hk.obs s.abs := obsCG_eq (HandSHeadRun.getT_eq s)
def loose : List Str := ["MOST", "is_whole", "is_within", "is_worth", "MOST_STRETCHES", "LONE", "is_source", "is_start", "is_goal", "is_move", "_law_pen_by", "_law_draw", "_law_some_by", "_law_deeds", "_law_froms_by", "_law_tos_by", "_law_worth", "_law_odd", "_law_machine_by", "_law_move", "_law_bent", "_law_number_by", "_law_is_goal", "_law_is_move_by"]
theorem run (w : World) : HandSHeadRun.RunEq R (PySem.W.view R.prog [27]) hk ob 2000 loose w := by
  intro os
  kernel_rfl
set_option maxHeartbeats 0 in
theorem facts {P : Program} {w : World} {K : PySem.W.Frag} {h : Heap} {mg : Str → Option Value} {f : Addr} (X : K.In h) (G : h.Ns mainGlobals mg) (hfa : mg ("law" : Str) = some (.ref f)) (c : SaysC fa fn cs K) :
    ∃ fd : FuncData, (∀ (s : Shared) (v : Value), BindsTo s fd ⟨[v], []⟩ [("_law_script", v)]) ∧ ∀ base : Heap, K.In base → base.Ns mainGlobals mg → FnOk P w K mg base (L2.CX P w) 8 f fd ["_law_script"] (liftSp K sp_law) := by
  have c0 := c.says
  obtain ⟨fd_p_is_whole, F_p_is_whole⟩ := c0.def_ 0 rfl
  have g_p_is_whole := He.glo_ok X G (c0.fact 0 (f := .glo "is_whole") rfl)
  obtain ⟨fd_p_is_within, F_p_is_within⟩ := c0.def_ 1 rfl
  have g_p_is_within := He.glo_ok X G (c0.fact 1 (f := .glo "is_within") rfl)
  obtain ⟨fd_p_is_worth, F_p_is_worth⟩ := c0.def_ 2 rfl
  have g_p_is_worth := He.glo_ok X G (c0.fact 2 (f := .glo "is_worth") rfl)
  obtain ⟨fd_p_is_source, F_p_is_source⟩ := c0.def_ 3 rfl
  have g_p_is_source := He.glo_ok X G (c0.fact 3 (f := .glo "is_source") rfl)
  obtain ⟨fd_p_is_start, F_p_is_start⟩ := c0.def_ 4 rfl
  have g_p_is_start := He.glo_ok X G (c0.fact 4 (f := .glo "is_start") rfl)
  obtain ⟨fd_p_is_goal, F_p_is_goal⟩ := c0.def_ 5 rfl
  have g_p_is_goal := He.glo_ok X G (c0.fact 5 (f := .glo "is_goal") rfl)
  obtain ⟨fd_p_is_move, F_p_is_move⟩ := c0.def_ 6 rfl
  have g_p_is_move := He.glo_ok X G (c0.fact 6 (f := .glo "is_move") rfl)
  obtain ⟨fd_l_pen_by, F_l_pen_by⟩ := c0.def_ 7 rfl
  have g_l_pen_by := He.glo_ok X G (c0.fact 7 (f := .glo "_law_pen_by") rfl)
  obtain ⟨fd_l_draw, F_l_draw⟩ := c0.def_ 8 rfl
  have g_l_draw := He.glo_ok X G (c0.fact 8 (f := .glo "_law_draw") rfl)
  obtain ⟨fd_l_some_by, F_l_some_by⟩ := c0.def_ 9 rfl
  have g_l_some_by := He.glo_ok X G (c0.fact 9 (f := .glo "_law_some_by") rfl)
  obtain ⟨fd_l_deeds, F_l_deeds⟩ := c0.def_ 10 rfl
  have g_l_deeds := He.glo_ok X G (c0.fact 10 (f := .glo "_law_deeds") rfl)
  obtain ⟨fd_l_froms_by, F_l_froms_by⟩ := c0.def_ 11 rfl
  have g_l_froms_by := He.glo_ok X G (c0.fact 11 (f := .glo "_law_froms_by") rfl)
  obtain ⟨fd_l_tos_by, F_l_tos_by⟩ := c0.def_ 12 rfl
  have g_l_tos_by := He.glo_ok X G (c0.fact 12 (f := .glo "_law_tos_by") rfl)
  obtain ⟨fd_l_worth, F_l_worth⟩ := c0.def_ 13 rfl
  have g_l_worth := He.glo_ok X G (c0.fact 13 (f := .glo "_law_worth") rfl)
  obtain ⟨fd_l_odd, F_l_odd⟩ := c0.def_ 14 rfl
  have g_l_odd := He.glo_ok X G (c0.fact 14 (f := .glo "_law_odd") rfl)
  obtain ⟨fd_l_machine_by, F_l_machine_by⟩ := c0.def_ 15 rfl
  have g_l_machine_by := He.glo_ok X G (c0.fact 15 (f := .glo "_law_machine_by") rfl)
  obtain ⟨fd_l_move, F_l_move⟩ := c0.def_ 16 rfl
  have g_l_move := He.glo_ok X G (c0.fact 16 (f := .glo "_law_move") rfl)
  obtain ⟨fd_l_bent, F_l_bent⟩ := c0.def_ 17 rfl
  have g_l_bent := He.glo_ok X G (c0.fact 17 (f := .glo "_law_bent") rfl)
  obtain ⟨fd_l_number_by, F_l_number_by⟩ := c0.def_ 18 rfl
  have g_l_number_by := He.glo_ok X G (c0.fact 18 (f := .glo "_law_number_by") rfl)
  obtain ⟨fd_l_is_goal, F_l_is_goal⟩ := c0.def_ 19 rfl
  have g_l_is_goal := He.glo_ok X G (c0.fact 19 (f := .glo "_law_is_goal") rfl)
  obtain ⟨fd_l_is_move_by, F_l_is_move_by⟩ := c0.def_ 20 rfl
  have g_l_is_move_by := He.glo_ok X G (c0.fact 20 (f := .glo "_law_is_move_by") rfl)
  obtain ⟨fd_law, F_law⟩ := c0.def_ 21 rfl
  have g_law := He.glo_ok X G (c0.fact 21 (f := .glo "law") rfl)
  have z_isinstance := He.free_ok X G (c0.fact 22 (f := .free "isinstance") rfl)
  have z_bool := He.free_ok X G (c0.fact 23 (f := .free "bool") rfl)
  have z_int := He.free_ok X G (c0.fact 24 (f := .free "int") rfl)
  have z_len := He.free_ok X G (c0.fact 25 (f := .free "len") rfl)
  have z_str := He.free_ok X G (c0.fact 26 (f := .free "str") rfl)
  have z_tuple := He.free_ok X G (c0.fact 27 (f := .free "tuple") rfl)
  have z_abs := He.free_ok X G (c0.fact 28 (f := .free "abs") rfl)
  have z_range := He.free_ok X G (c0.fact 29 (f := .free "range") rfl)
  have z_max := He.free_ok X G (c0.fact 30 (f := .free "max") rfl)
  have z_list := He.free_ok X G (c0.fact 31 (f := .free "list") rfl)
  have i_MOST := cst_ok X G (c.cst 0 (p := ("MOST", .int (65536))) rfl)
  have i_MOST_STRETCHES := cst_ok X G (c.cst 1 (p := ("MOST_STRETCHES", .int (6))) rfl)
  have i_LONE := cst_ok X G (c.cst 2 (p := ("LONE", .tup [.str "tell", .str "end"])) rfl)
  have e := hfa.symm.trans g_law
  cases e
  have bl := FunD.bindsA (ps := ["_law_script"]) F_law fun _ _ _ _ _ _ us hl => match us, hl with | [_], _ => rfl
  refine ⟨fd_law, fun s v => bl s [v] rfl, fun base _ _ => ?_⟩
  have d_p_is_whole : DefOk P w K mg base 1 "is_whole" sp_p_is_whole := mk_def F_p_is_whole g_p_is_whole (FunD.bindsN F_p_is_whole fun _ _ _ _ _ _ us hl => match us, hl with | [_], _ => rfl) sc_p_is_whole len_p_is_whole Cals.nil Glbs.nil (by simp [b_p_is_whole, z_isinstance, z_bool, z_int]) ch_p_is_whole body_p_is_whole
  have d_l_pen_by : DefOk P w K mg base 1 "_law_pen_by" sp_l_pen_by := mk_def F_l_pen_by g_l_pen_by (FunD.bindsN F_l_pen_by fun _ _ _ _ _ _ us hl => match us, hl with | [_], _ => rfl) sc_l_pen_by len_l_pen_by Cals.nil Glbs.nil (by simp [b_l_pen_by]) ch_l_pen_by body_l_pen_by
  have d_l_draw : DefOk P w K mg base 1 "_law_draw" sp_l_draw := mk_def F_l_draw g_l_draw (FunD.bindsN F_l_draw fun _ _ _ _ _ _ us hl => match us, hl with | [_, _], _ => rfl) sc_l_draw len_l_draw Cals.nil Glbs.nil (by simp [b_l_draw, z_abs, z_len]) ch_l_draw body_l_draw
  have d_l_deeds : DefOk P w K mg base 1 "_law_deeds" sp_l_deeds := mk_def F_l_deeds g_l_deeds (FunD.bindsN F_l_deeds fun _ _ _ _ _ _ us hl => match us, hl with | [], _ => rfl) sc_l_deeds len_l_deeds Cals.nil Glbs.nil (by simp [b_l_deeds]) ch_l_deeds body_l_deeds
  have d_l_froms_by : DefOk P w K mg base 1 "_law_froms_by" sp_l_froms_by := mk_def F_l_froms_by g_l_froms_by (FunD.bindsN F_l_froms_by fun _ _ _ _ _ _ us hl => match us, hl with | [_, _], _ => rfl) sc_l_froms_by len_l_froms_by Cals.nil Glbs.nil (by simp [b_l_froms_by, z_range, z_str]) ch_l_froms_by body_l_froms_by
  have d_l_tos_by : DefOk P w K mg base 1 "_law_tos_by" sp_l_tos_by := mk_def F_l_tos_by g_l_tos_by (FunD.bindsN F_l_tos_by fun _ _ _ _ _ _ us hl => match us, hl with | [_, _], _ => rfl) sc_l_tos_by len_l_tos_by Cals.nil Glbs.nil (by simp [b_l_tos_by, z_range, z_str]) ch_l_tos_by body_l_tos_by
  have d_l_number_by : DefOk P w K mg base 1 "_law_number_by" sp_l_number_by := mk_def F_l_number_by g_l_number_by (FunD.bindsN F_l_number_by fun _ _ _ _ _ _ us hl => match us, hl with | [_, _, _], _ => rfl) sc_l_number_by len_l_number_by Cals.nil Glbs.nil (by simp [b_l_number_by, z_isinstance, z_bool, z_int]) ch_l_number_by body_l_number_by
  have d_p_is_within : DefOk P w K mg base 2 "is_within" sp_p_is_within := mk_def F_p_is_within g_p_is_within (FunD.bindsN F_p_is_within fun _ _ _ _ _ _ us hl => match us, hl with | [_, _, _], _ => rfl) sc_p_is_within len_p_is_within (Cals.cons (d_p_is_whole.mono (by decide)) Cals.nil) Glbs.nil (by simp [b_p_is_within]) ch_p_is_within body_p_is_within
  have d_l_some_by : DefOk P w K mg base 2 "_law_some_by" sp_l_some_by := mk_def F_l_some_by g_l_some_by (FunD.bindsN F_l_some_by fun _ _ _ _ _ _ us hl => match us, hl with | [_, _], _ => rfl) sc_l_some_by len_l_some_by (Cals.cons (d_l_draw.mono (by decide)) Cals.nil) Glbs.nil (by simp [b_l_some_by, z_tuple, z_len]) ch_l_some_by body_l_some_by
  have d_l_worth : DefOk P w K mg base 2 "_law_worth" sp_l_worth := mk_def F_l_worth g_l_worth (FunD.bindsN F_l_worth fun _ _ _ _ _ _ us hl => match us, hl with | [_], _ => rfl) sc_l_worth len_l_worth (Cals.cons (d_l_draw.mono (by decide)) Cals.nil) Glbs.nil (by simp [b_l_worth]) ch_l_worth body_l_worth
  have d_l_odd : DefOk P w K mg base 2 "_law_odd" sp_l_odd := mk_def F_l_odd g_l_odd (FunD.bindsN F_l_odd fun _ _ _ _ _ _ us hl => match us, hl with | [_], _ => rfl) sc_l_odd len_l_odd (Cals.cons (d_l_draw.mono (by decide)) Cals.nil) Glbs.nil (by simp [b_l_odd, z_len]) ch_l_odd body_l_odd
  have d_l_is_goal : DefOk P w K mg base 2 "_law_is_goal" sp_l_is_goal := mk_def F_l_is_goal g_l_is_goal (FunD.bindsN F_l_is_goal fun _ _ _ _ _ _ us hl => match us, hl with | [_, _], _ => rfl) sc_l_is_goal len_l_is_goal (Cals.cons (d_l_number_by.mono (by decide)) Cals.nil) Glbs.nil (by simp [b_l_is_goal, z_isinstance, z_str, z_len, z_tuple]) ch_l_is_goal body_l_is_goal
  have d_p_is_worth : DefOk P w K mg base 3 "is_worth" sp_p_is_worth := mk_def F_p_is_worth g_p_is_worth (FunD.bindsN F_p_is_worth fun _ _ _ _ _ _ us hl => match us, hl with | [_], _ => rfl) sc_p_is_worth len_p_is_worth (Cals.cons (d_p_is_within.mono (by decide)) Cals.nil) (Glbs.cons i_MOST Glbs.nil) (by simp [b_p_is_worth]) ch_p_is_worth body_p_is_worth
  have d_p_is_start : DefOk P w K mg base 3 "is_start" sp_p_is_start := mk_def F_p_is_start g_p_is_start (FunD.bindsN F_p_is_start fun _ _ _ _ _ _ us hl => match us, hl with | [_, _], _ => rfl) sc_p_is_start len_p_is_start (Cals.cons (d_p_is_within.mono (by decide)) Cals.nil) Glbs.nil (by simp [b_p_is_start, z_isinstance, z_str, z_len]) ch_p_is_start body_p_is_start
  have d_l_machine_by : DefOk P w K mg base 3 "_law_machine_by" sp_l_machine_by := mk_def F_l_machine_by g_l_machine_by (FunD.bindsN F_l_machine_by fun _ _ _ _ _ _ us hl => match us, hl with | [_, _, _], _ => rfl) sc_l_machine_by len_l_machine_by (Cals.cons (d_l_draw.mono (by decide)) (Cals.cons (d_l_some_by.mono (by decide)) (Cals.cons (d_l_tos_by.mono (by decide)) (Cals.cons (d_l_froms_by.mono (by decide)) (Cals.cons (d_l_deeds.mono (by decide)) Cals.nil))))) Glbs.nil (by simp [b_l_machine_by, z_tuple, z_len, z_range, z_max]) ch_l_machine_by body_l_machine_by
  have d_l_move : DefOk P w K mg base 3 "_law_move" sp_l_move := mk_def F_l_move g_l_move (FunD.bindsN F_l_move fun _ _ _ _ _ _ us hl => match us, hl with | [_, _, _], _ => rfl) sc_l_move len_l_move (Cals.cons (d_l_draw.mono (by decide)) (Cals.cons (d_l_worth.mono (by decide)) Cals.nil)) Glbs.nil (by simp [b_l_move, z_len]) ch_l_move body_l_move
  have d_l_is_move_by : DefOk P w K mg base 3 "_law_is_move_by" sp_l_is_move_by := mk_def F_l_is_move_by g_l_is_move_by (FunD.bindsN F_l_is_move_by fun _ _ _ _ _ _ us hl => match us, hl with | [_, _], _ => rfl) sc_l_is_move_by len_l_is_move_by (Cals.cons (d_l_is_goal.mono (by decide)) (Cals.cons (d_l_number_by.mono (by decide)) Cals.nil)) Glbs.nil (by simp [b_l_is_move_by, z_len, z_isinstance, z_str, z_tuple]) ch_l_is_move_by body_l_is_move_by
  have d_p_is_source : DefOk P w K mg base 4 "is_source" sp_p_is_source := mk_def F_p_is_source g_p_is_source (FunD.bindsN F_p_is_source fun _ _ _ _ _ _ us hl => match us, hl with | [_, _], _ => rfl) sc_p_is_source len_p_is_source (Cals.cons (d_p_is_within.mono (by decide)) (Cals.cons (d_p_is_worth.mono (by decide)) Cals.nil)) Glbs.nil (by simp [b_p_is_source, z_len, z_isinstance, z_str, z_tuple]) ch_p_is_source body_p_is_source
  have d_p_is_goal : DefOk P w K mg base 4 "is_goal" sp_p_is_goal := mk_def F_p_is_goal g_p_is_goal (FunD.bindsN F_p_is_goal fun _ _ _ _ _ _ us hl => match us, hl with | [_, _], _ => rfl) sc_p_is_goal len_p_is_goal (Cals.cons (d_p_is_within.mono (by decide)) (Cals.cons (d_p_is_start.mono (by decide)) Cals.nil)) (Glbs.cons i_MOST_STRETCHES (Glbs.cons i_LONE Glbs.nil)) (by simp [b_p_is_goal, z_len, z_isinstance, z_str, z_tuple]) ch_p_is_goal body_p_is_goal
  have d_p_is_move : DefOk P w K mg base 5 "is_move" sp_p_is_move := mk_def F_p_is_move g_p_is_move (FunD.bindsN F_p_is_move fun _ _ _ _ _ _ us hl => match us, hl with | [_, _], _ => rfl) sc_p_is_move len_p_is_move (Cals.cons (d_p_is_goal.mono (by decide)) (Cals.cons (d_p_is_source.mono (by decide)) Cals.nil)) Glbs.nil (by simp [b_p_is_move, z_len, z_isinstance, z_tuple]) ch_p_is_move body_p_is_move
  have dd_l_bent : ∀ i, DefOk P w K mg base (2 + i + 1) "_law_bent" (sp_l_bent i) := by
    intro i
    induction i with
    | zero => exact mk_def F_l_bent g_l_bent (FunD.bindsN F_l_bent fun _ _ _ _ _ _ us hl => match us, hl with | [_, _, _], _ => rfl) sc_l_bent (len_l_bent 0) Cals.none Glbs.nil (by simp [b_l_bent, z_isinstance, z_str, z_len, z_int, z_tuple, z_list]) ch_l_bent (fun ds G Q xq h => (sp_l_bent_0 h).elim)
    | succ i ih => exact mk_def F_l_bent g_l_bent (FunD.bindsN F_l_bent fun _ _ _ _ _ _ us hl => match us, hl with | [_, _, _], _ => rfl) sc_l_bent (len_l_bent _) (Cals.cons (d_l_odd.mono (by omega)) (Cals.cons (d_l_draw.mono (by omega)) (Cals.cons ih Cals.nil))) Glbs.nil (by simp [b_l_bent, z_isinstance, z_str, z_len, z_int, z_tuple, z_list]) ch_l_bent (body_l_bent i)
  have d_l_bent : DefOk P w K mg base 7 "_law_bent" (sp_l_bent 4) := dd_l_bent 4
  exact mk_fn F_law sc_law len_law (Cals.cons (d_l_draw.mono (by decide)) (Cals.cons (d_l_is_move_by.mono (by decide)) (Cals.cons (d_p_is_move.mono (by decide)) (Cals.cons (d_l_odd.mono (by decide)) (Cals.cons (d_l_bent.mono (by decide)) (Cals.cons (d_l_move.mono (by decide)) (Cals.cons (d_l_machine_by.mono (by decide)) (Cals.cons (d_l_pen_by.mono (by decide)) Cals.nil)))))))) Glbs.nil (by simp [b_law, z_range, z_isinstance, z_bool]) ch_law body_law
end K13
open PySem PySem.W PySem.Calls PyProof.Rows
set_option maxHeartbeats 0 in
theorem PySem.Challenge.cw_movebeats_k13_moves_known_holds : PySem.Challenge.rw_movebeats_k13_moves_known.Holds := by
  w_on; o_law
  refine HandSHeadRun.head_any (r := OpenLaw.row PySem.Challenge.rw_movebeats_k13_moves_known) (q := view (OpenLaw.row PySem.Challenge.rw_movebeats_k13_moves_known).prog [27]) (H := K13.hk) (ob := K13.ob) (M := 2000) (loose := K13.loose) (d := HandSHeadRun.topDef (OpenLaw.row PySem.Challenge.rw_movebeats_k13_moves_known).prog 27) (kwd := []) K13.ob_eq
    (by kernel_rfl) (fun s => by kernel_rfl) K13.run (by kernel_rfl) (by kernel_rfl) (by kernel_rfl) (by rfl) (by first | assumption | decide +kernel) (by decide +kernel) ⟨rfl, rfl, rfl, rfl, rfl, by decide +kernel⟩ ?hw ?hc
  case hw => w_witness2
  case hc =>
    refine DL.walk_end (l := PySem.Challenge.rw_movebeats_k13_moves_known) (n := 63) (k := 8) (x := "_law_script") rfl (by decide) (by kernel_rfl) ⟨rfl, by decide, by decide⟩ ?F
    intro w mg fa h Y G hmg0
    obtain ⟨K, KX, c⟩ := Y
    have hmg : mg ("law" : PySem.Str) = some (.ref fa) := by
      have e : (HandSHeadRun.topDef (OpenLaw.row PySem.Challenge.rw_movebeats_k13_moves_known).prog 27).name = ("law" : PySem.Str) := by kernel_rfl
      rw [← e]
      exact hmg0
    obtain ⟨fd, hb, hF⟩ := K13.facts (P := (PySem.Challenge.rw_movebeats_k13_moves_known).prog) (w := w) KX G hmg c
    exact ⟨K, fd, KX, hb, hF⟩

