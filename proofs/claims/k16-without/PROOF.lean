import PyProof.Rows.All
import Wide.All
import OpenK.AllK
import Wide.FinOn
import KE.KStateDown
import HandS.ForMost
import HandS.ForSpec
import HandS.CallSlots
import HandS.Wide
import HandS.Walk
import HandS.WordsExc
import HandS.Defaults
import HandS.HeadHook2
import HandS.Deep
import HandS.Style
import HandS.Strs
import HandS.Text
import HandS.Dict
import HandS.List
import HandS.HeadEnd
import HandS.Head0
import HandS.Head1
import HandS.Head2
import HandS.HeadHook1
import HandS.Iter
import HandS.Property
import HandS.OwnEq
import OpenK.KOps
import HandS.MakeKw
import HandS.IsInst
import KE.KIndexWalk
import HandS.Conv
import HandS.SetFor
import KE.SortData
import HandS.DictTup
import HandS.DictComp
import PyProof.InstNe
import PyProof.TupleOfSeq
import PySem.Challenge.RW_anycut_k16_rules_without_a_call
set_option Elab.async false
set_option linter.all false
set_option maxRecDepth 100000
/-! TL1: results, labels, codecs, slots, the typed state; the canonical readings. -/
namespace AC
open PySem L2

structure Exn where
  cls : Str
  val : PyData
inductive Res (α : Type) where
  | ok (a : α) | exc (e : Exn) | bad
def Res.bind {α β : Type} : Res α → (α → Res β) → Res β
  | .ok a, f => f a
  | .exc e, _ => .exc e
  | .bad, _ => .bad
def Res.noexc {α : Type} : Res α → Res α
  | .exc _ => .bad
  | r => r
def Res.guard {α : Type} (b : Bool) (r : Res α) : Res α := if b then r else .bad
instance : Monad Res where
  pure := .ok
  bind := Res.bind
theorem Res.bind_ok {α β : Type} (a : α) (f : α → Res β) : Res.bind (.ok a) f = f a := rfl
theorem Res.bind_assoc {α β γ : Type} (m : Res α) (f : α → Res β) (g : β → Res γ) : Res.bind (Res.bind m f) g = Res.bind m fun x => Res.bind (f x) g := by
  cases m <;> rfl
theorem Res.bind_ok_right {α : Type} (m : Res α) : Res.bind m .ok = m := by cases m <;> rfl

abbrev Frag := PySem.W.Frag
/-- who owns an address: 0 what may be read, i + 1 the i-th slot -/
abbrev Lab := Addr → Option (Nat × List Nat)
def rd (L : Lab) (H : Hp) : Hp := fun a => match L a with
  | some (0, _) => H a
  | _ => none
def sub (L : Lab) (k : Nat) : Addr → Option (List Nat) := fun a => match L a with
  | some (j, l) => if j = k then some l else none
  | none => none
/-- what may change: lists, dicts, sets -/
def SoftO : HO → Prop
  | .lst _ => True
  | .dK _ => True
  | .dT _ => True
  | .set _ _ => True
  | .ext _ => True
  | _ => False
/-- a path that stands for an instance under way, or its dict -/
def insL (l : List Nat) : Bool := l.head? == some 999
def NonTup (l : List Nat) : Option HO → Prop
  | some o => if insL l then (∀ xs, o ≠ .tup xs) else SoftO o
  | none => False
structure Wf (L : Lab) (H : Hp) : Prop where
  dom : ∀ a, L a ≠ none → H a ≠ none
  soft : ∀ a k l, L a = some (k + 1, l) → NonTup l (H a)
/-- not to be touched: known to nobody here, or only to be read -/
def Frm (L : Lab) (H : Hp) (a : Addr) : Prop := H a ≠ none ∧ (L a = none ∨ ∃ l, L a = some (0, l))
def Stp (L : Lab) (H : Hp) (L' : Lab) (H' : Hp) : Prop := ∀ a, Frm L H a → L' a = L a ∧ H' a = H a
/-- nothing at all is touched -/
def Ext (L : Lab) (H : Hp) (L' : Lab) (H' : Hp) : Prop := ∀ a, H a ≠ none → L' a = L a ∧ H' a = H a
theorem Stp.refl {L : Lab} {H : Hp} : Stp L H L H := fun _ _ => ⟨rfl, rfl⟩
theorem Ext.refl {L : Lab} {H : Hp} : Ext L H L H := fun _ _ => ⟨rfl, rfl⟩
theorem Ext.stp {L L' : Lab} {H H' : Hp} (e : Ext L H L' H') : Stp L H L' H' := fun a f => e a f.1
theorem Stp.frm {L L' : Lab} {H H' : Hp} (s : Stp L H L' H') {a : Addr} (f : Frm L H a) : Frm L' H' a := by
  obtain ⟨e1, e2⟩ := s a f
  exact ⟨by rw [e2]; exact f.1, by rw [e1]; exact f.2⟩
theorem Stp.trans {L L1 L2 : Lab} {H H1 H2 : Hp} (s : Stp L H L1 H1) (t : Stp L1 H1 L2 H2) : Stp L H L2 H2 := fun a f => by
  obtain ⟨e1, e2⟩ := s a f
  obtain ⟨e3, e4⟩ := t a (s.frm f)
  exact ⟨e3.trans e1, e4.trans e2⟩
theorem Ext.trans {L L1 L2 : Lab} {H H1 H2 : Hp} (s : Ext L H L1 H1) (t : Ext L1 H1 L2 H2) : Ext L H L2 H2 := fun a f => by
  obtain ⟨e1, e2⟩ := s a f
  obtain ⟨e3, e4⟩ := t a (by rw [e2]; exact f)
  exact ⟨e3.trans e1, e4.trans e2⟩
theorem rd_of {L : Lab} {H : Hp} {a : Addr} {o : HO} (h : rd L H a = some o) : (∃ l, L a = some (0, l)) ∧ H a = some o := by
  unfold rd at h
  split at h
  · rename_i l e
    exact ⟨⟨l, e⟩, h⟩
  · cases h
theorem rd_mk {L : Lab} {H : Hp} {a : Addr} {o : HO} {l : List Nat} (h1 : L a = some (0, l)) (h2 : H a = some o) : rd L H a = some o := by
  unfold rd; rw [h1]; exact h2
theorem Stp.rd {L L' : Lab} {H H' : Hp} (s : Stp L H L' H') : Same (rd L H) (rd L' H') := fun a o h => by
  obtain ⟨⟨l, e⟩, h2⟩ := rd_of h
  obtain ⟨e1, e2⟩ := s a ⟨by rw [h2]; simp, .inr ⟨l, e⟩⟩
  exact rd_mk (e1.trans e) (e2.trans h2)
theorem rd_sub {L : Lab} {H : Hp} : Same (rd L H) H := fun _ _ h => (rd_of h).2
theorem sub_of {L : Lab} {k : Nat} {a : Addr} {l : List Nat} (h : sub L k a = some l) : L a = some (k, l) := by
  unfold sub at h
  split at h
  · rename_i j l' e
    split at h
    · rename_i ej; cases h; rw [e, ej]
    · cases h
  · cases h
theorem sub_mk {L : Lab} {k : Nat} {a : Addr} {l : List Nat} (h : L a = some (k, l)) : sub L k a = some l := by
  unfold sub; rw [h]; simp

/-! ### codecs -/
structure Cod (α : Type) where
  see : Frag → Hp → V → α → Prop
  mono : ∀ (K : Frag) (R R' : Hp) (v : V) (x : α), Same R R' → see K R v x → see K R' v x
structure OCod (α : Type) where
  own : Frag → Hp → (Addr → Option (List Nat)) → Hp → List Nat → V → α → Prop
  mono : ∀ (K : Frag) (R R' : Hp) (M M' : Addr → Option (List Nat)) (H H' : Hp) (l : List Nat) (v : V) (x : α), Same R R' → (∀ a m, M a = some m → M' a = some m ∧ H' a = H a) → own K R M H l v x → own K R' M' H' l v x

/-- what a slot is known to hold -/
structure Slot where
  T : Type
  rel : Frag → Nat → T → Lab → Hp → Option (Option V) → Prop
  keep : ∀ (K : Frag) (k : Nat) (x : T) (L : Lab) (H : Hp) (L' : Lab) (H' : Hp) (o : Option (Option V)), Same (rd L H) (rd L' H') → (∀ a l, L a = some (k + 1, l) → L' a = L a ∧ H' a = H a) → rel K k x L H o → rel K k x L' H' o
abbrev sAny : Slot := ⟨Unit, fun _ _ _ _ _ _ => True, fun _ _ _ _ _ _ _ _ _ _ h => h⟩
abbrev sVal {α : Type} (c : Cod α) : Slot := ⟨α, fun K _ x L H o => ∃ v, o = some (some v) ∧ c.see K (rd L H) v x, fun K _ x L H L' H' o s _ ⟨v, e, h⟩ => ⟨v, e, c.mono K _ _ v x s h⟩⟩
abbrev sOwn {α : Type} (P : V → Prop) (c : OCod α) : Slot := ⟨α, fun K k x L H o => ∃ v, P v ∧ o = some (some v) ∧ c.own K (rd L H) (sub L (k + 1)) H [] v x, fun K k x L H L' H' o s t ⟨v, p, e, h⟩ =>
  ⟨v, p, e, c.mono K _ _ _ _ _ _ _ v x s (fun a m hm => ⟨sub_mk ((t a m (sub_of hm)).1.trans (sub_of hm)), (t a m (sub_of hm)).2⟩) h⟩⟩
abbrev PAny : V → Prop := fun _ => True

abbrev Ctx := List Slot
@[reducible] def CT : Ctx → Type
  | [] => Unit
  | s :: G => s.T × CT G
def CR (K : Frag) : Nat → (G : Ctx) → CT G → Lab → Hp → St → Prop
  | k, [], _, _, _, o => k ≤ o.length
  | k, s :: G, r, L, H, o => s.rel K k r.1 L H o[k]? ∧ CR K (k + 1) G r.2 L H o
theorem CR.keep {K : Frag} {L L' : Lab} {H H' : Hp} {o : St} (s : Same (rd L H) (rd L' H')) : ∀ {k : Nat} {G : Ctx} {r : CT G}, (∀ a j l, k ≤ j → L a = some (j + 1, l) → L' a = L a ∧ H' a = H a) → CR K k G r L H o → CR K k G r L' H' o
  | _, [], _, _, c => c
  | k, t :: G, r, h, c => ⟨t.keep K k r.1 L H L' H' _ s (fun a l e => h a k l (Nat.le_refl _) e) c.1, CR.keep s (fun a j l hj e => h a j l (Nat.le_of_succ_le hj) e) c.2⟩
theorem CR.ext {K : Frag} {L L' : Lab} {H H' : Hp} {o : St} {k : Nat} {G : Ctx} {r : CT G} (w : Wf L H) (e : Ext L H L' H') (c : CR K k G r L H o) : CR K k G r L' H' o :=
  c.keep e.stp.rd fun a j l _ ea => e a (w.dom a (by rw [ea]; simp))

/-! ### what an expression gives -/
structure Rt (α : Type) where
  rel : Frag → Lab → Hp → Lab → Hp → V → α → Prop
  post : ∀ (K : Frag) (L : Lab) (H : Hp) (L1 : Lab) (H1 : Hp) (L2 : Lab) (H2 : Hp) (v : V) (x : α), Stp L1 H1 L2 H2 → rel K L H L1 H1 v x → rel K L H L2 H2 v x
  pre : ∀ (K : Frag) (L : Lab) (H : Hp) (L1 : Lab) (H1 : Hp) (L2 : Lab) (H2 : Hp) (v : V) (x : α), Stp L H L1 H1 → rel K L1 H1 L2 H2 v x → rel K L H L2 H2 v x
def rV {α : Type} (c : Cod α) : Rt α := ⟨fun K _ _ L' H' v x => c.see K (rd L' H') v x, fun K _ _ _ _ _ _ v x s h => c.mono K _ _ v x s.rd h, fun _ _ _ _ _ _ _ _ _ _ h => h⟩
def OwnAt {α : Type} (c : OCod α) (K : Frag) (L : Lab) (H : Hp) (L' : Lab) (H' : Hp) (v : V) (x : α) : Prop :=
  ∃ M : Addr → Option (List Nat), (∀ a m, M a = some m → L' a = none ∧ NonTup m (H' a) ∧ ¬ Frm L H a) ∧ c.own K (rd L' H') M H' [] v x
theorem NonTup.ne {l : List Nat} {o : Option HO} (h : NonTup l o) : o ≠ none := by
  cases o with
  | none => exact h.elim
  | some _ => simp
def rO {α : Type} (c : OCod α) : Rt α := ⟨fun K L H L' H' v x => OwnAt c K L H L' H' v x, fun K L H L1 H1 L2 H2 v x s ⟨M, hM, h⟩ => ⟨M, fun a m e => by
    obtain ⟨h1, h2, h3⟩ := hM a m e
    obtain ⟨e1, e2⟩ := s a ⟨h2.ne, .inl h1⟩
    exact ⟨e1.trans h1, by rw [e2]; exact h2, h3⟩,
  c.mono K _ _ _ _ _ _ _ v x s.rd (fun a m e => ⟨e, (s a ⟨(hM a m e).2.1.ne, .inl (hM a m e).1⟩).2⟩) h⟩, fun K L H L1 H1 L2 H2 v x s ⟨M, hM, h⟩ => ⟨M, fun a m e => by
    obtain ⟨h1, h2, h3⟩ := hM a m e
    exact ⟨h1, h2, fun f => h3 (s.frm f)⟩, h⟩⟩

/-! ### the surroundings -/
structure Amb where
  X : Cx
  W : WX
  tk : Takes X W
  calm : X.calm = true
  hp : PassesOwn (model X.prog X.w) X.A X.env X.xe
  nd : X.N.Nodup
  ca : Str → Addr
  S : Nat → Prop
  lv : Nat
  room : Room lv X.A
  gd : X.A.guards = some []
/-- an exception as it leaves: nothing that is to stay was touched -/
def RzK (K : Frag) (ca : Str → Addr) (L : Lab) (H : Hp) (e : Exn) (cls : Value) (d : Addr) (H' : Hp) : Prop :=
  cls = .ref (ca e.cls) ∧ (∀ a, Frm L H a → H' a = H a) ∧ ¬ Frm L H d ∧ ∃ v, H' d = some (.xd [("value", v)]) ∧ ∃ R : Hp, Same R H' ∧ Same (rd L H) R ∧ (∀ a o, R a = some o → rd L H a = some o ∨ ¬ Frm L H a) ∧ Dp K R v e.val
abbrev Rz (A : Amb) (L : Lab) (H : Hp) (e : Exn) (cls : Value) (d : Addr) (H' : Hp) : Prop := RzK A.X.K A.ca L H e cls d H'
def Amb.raises (A : Amb) (e : Exn) (L : Lab) (H : Hp) (o : St) : Prop := ∀ cls d H', Rz A L H e cls d H' → ∀ o', (∀ i, ¬ A.S i → o'[i]? = o[i]?) → A.W cls (some d) o' H'
theorem Amb.raises.mono {A : Amb} {e : Exn} {L L1 : Lab} {H H1 : Hp} {o o1 : St} (s : Stp L H L1 H1) (ho : ∀ i, ¬ A.S i → o1[i]? = o[i]?) (r : A.raises e L H o) : A.raises e L1 H1 o1 := fun cls d H' ⟨h1, h2, h3, v, h4, R, h5, h6, h7, h8⟩ o' h' =>
  r cls d H' ⟨h1, fun a f => (h2 a (s.frm f)).trans (s a f).2, fun f => h3 (s.frm f), v, h4, R, h5, fun a o q => h6 a o (s.rd a o q), fun a o q => by
    rcases h7 a o q with z | z
    · by_cases f : Frm L H a
      · refine .inl ?_
        obtain ⟨e1, e2⟩ := s a f
        obtain ⟨⟨l, z1⟩, z2⟩ := rd_of z
        exact rd_mk (e1.symm.trans z1) (e2.symm.trans z2)
      · exact .inr f
    · exact .inr fun f => z (s.frm f), h8⟩ o' fun i hi => (h' i hi).trans (ho i hi)
def Good (A : Amb) {α : Type} (m : Res α) (L : Lab) (H : Hp) (o : St) (P : α → Prop) : Prop := match m with
  | .ok a => P a
  | .exc e => A.raises e L H o
  | .bad => False
theorem Good.imp {A : Amb} {α : Type} {m : Res α} {L : Lab} {H : Hp} {o : St} {P Q : α → Prop} (h : Good A m L H o P) (i : ∀ a, m = .ok a → P a → Q a) : Good A m L H o Q := by
  cases m with
  | ok a => exact i a rfl h
  | exc e => exact h
  | bad => exact h
theorem Good.step {A : Amb} {α : Type} {m : Res α} {L L1 : Lab} {H H1 : Hp} {o : St} {P : α → Prop} (s : Stp L H L1 H1) (h : Good A m L H o P) : Good A m L1 H1 o P := by
  cases m with
  | ok a => exact h
  | exc e => exact Amb.raises.mono s (fun _ _ => rfl) h
  | bad => exact h
theorem Good.bind {A : Amb} {α β : Type} {m : Res α} {f : α → Res β} {L : Lab} {H : Hp} {o : St} {P : β → Prop} (h : Good A (Res.bind m f) L H o P) : Good A m L H o fun a => Good A (f a) L H o P := by
  cases m with
  | ok a => exact h
  | exc e => exact h
  | bad => exact h

section
variable (A : Amb)
/-- the canonical reading of an expression -/
def tE {α : Type} (G : Ctx) (r : Rt α) (f : CT G → Res (α × CT G)) : L2.TE := fun o H Q =>
  ∃ (p : CT G) (L : Lab), Wf L H ∧ CR A.X.K 0 G p L H o ∧ Good A (f p) L H o fun y => ∀ (v : V) (L' : Lab) (H' : Hp), Stp L H L' H' → Wf L' H' → CR A.X.K 0 G y.2 L' H' o → r.rel A.X.K L H L' H' v y.1 → Q v H'
def tT (G : Ctx) (f : CT G → Res (Bool × CT G)) : L2.TT := fun o H Q =>
  ∃ (p : CT G) (L : Lab), Wf L H ∧ CR A.X.K 0 G p L H o ∧ Good A (f p) L H o fun y => ∀ (L' : Lab) (H' : Hp), Stp L H L' H' → Wf L' H' → CR A.X.K 0 G y.2 L' H' o → Q y.1 H'
end
/-- an expression: e gives what f says -/
def EX (A : Amb) (G : Ctx) (e : Expr) {α : Type} (r : Rt α) (f : CT G → Res (α × CT G)) : Prop := PE A.X e (tE A G r f)
def TX (A : Amb) (G : Ctx) (e : Expr) (f : CT G → Res (Bool × CT G)) : Prop := PT A.X e (tT A G f)
theorem pe_weak {X : Cx} {e : Expr} {t t' : L2.TE} (h : PE X e t) (i : ∀ o H Q, t' o H Q → t o H Q) : PE X e t' := ⟨fun pins s o H Q I q => h.run pins s o H Q I (i _ _ _ q)⟩
theorem pt_weak {X : Cx} {e : Expr} {t t' : L2.TT} (h : PT X e t) (i : ∀ o H Q, t' o H Q → t o H Q) : PT X e t' := ⟨fun pins s o H Q I q => h.run pins s o H Q I (i _ _ _ q)⟩

/-- one part -/
theorem run1 {A : Amb} {G : Ctx} {α β : Type} {r : Rt α} {f : CT G → Res (α × CT G)} {g : α × CT G → Res β} {o : St} {H : Hp} {Q : VK} {p : CT G} {L : Lab} {P : β → Prop} (w : Wf L H) (c : CR A.X.K 0 G p L H o) (h : Good A (Res.bind (f p) g) L H o P)
    (k : ∀ x p' v L' H', Stp L H L' H' → Wf L' H' → CR A.X.K 0 G p' L' H' o → r.rel A.X.K L H L' H' v x → Good A (g (x, p')) L' H' o P → Q v H') : tE A G r f o H Q :=
  ⟨p, L, w, c, h.bind.imp fun y _ hy v L' H' s w' c' rl => k y.1 y.2 v L' H' s w' c' rl (hy.step s)⟩
end AC
set_option Elab.async false
set_option linter.all false
set_option maxRecDepth 100000
/-! TL2: codecs; expressions: names, constants, operators, comparisons, tests. -/
namespace AC
open PySem L2 PyProof

/-! ### codecs -/
def SeeT (K : Frag) (R : Hp) (a : Addr) (xs : List V) : Prop :=
  R a = some (.tup xs) ∨ (∃ o, R a = some (.frz o (.tup xs))) ∨ ∃ (o : Obj) (its : Array Value) (n : Nat), K.lookup a = some o ∧ o.cls = .type "tuple" ∧ o.data = .seq its n ∧ its.size ≤ sizeLine ∧ Vals xs its.toList
theorem SeeT.same {K : Frag} {R R' : Hp} {a : Addr} {xs : List V} (s : Same R R') : SeeT K R a xs → SeeT K R' a xs
  | .inl h => .inl (s _ _ h)
  | .inr (.inl ⟨o, h⟩) => .inr (.inl ⟨o, s _ _ h⟩)
  | .inr (.inr h) => .inr (.inr h)
theorem SeeT.sq {K : Frag} {R : Hp} {a : Addr} {xs : List V} : SeeT K R a xs → SqT K R a xs
  | .inl h => .inl (.inl h)
  | .inr (.inl h) => .inl (.inr h)
  | .inr (.inr h) => .inr h
theorem paired_mono {α β : Type} {F G : α → β → Prop} (i : ∀ a b, F a b → G a b) : ∀ {l : List α} {m : List β}, Paired F l m → Paired G l m
  | _, _, .nil => .nil
  | _, _, .cons r t => .cons (i _ _ r) (paired_mono i t)
theorem paired_len {α β : Type} {F : α → β → Prop} : ∀ {l : List α} {m : List β}, Paired F l m → l.length = m.length
  | _, _, .nil => rfl
  | _, _, .cons _ t => by rw [List.length_cons, List.length_cons, paired_len t]
theorem paired_get {α β : Type} {F : α → β → Prop} : ∀ {l : List α} {m : List β} {i : Nat} {y : β}, Paired F l m → m[i]? = some y → ∃ x, l[i]? = some x ∧ F x y
  | _, _, _, _, .nil, h => by simp at h
  | _, _, 0, y, .cons r t, h => by simp at h; subst h; exact ⟨_, rfl, r⟩
  | _, _, i + 1, y, .cons r t, h => by
    obtain ⟨x, h1, h2⟩ := paired_get (i := i) t (by simpa using h)
    exact ⟨x, by simpa using h1, h2⟩
theorem paired_getL {α β : Type} {F : α → β → Prop} : ∀ {l : List α} {m : List β} {i : Nat} {x : α}, Paired F l m → l[i]? = some x → ∃ y, m[i]? = some y ∧ F x y
  | _, _, _, _, .nil, h => by simp at h
  | _, _, 0, y, .cons r t, h => by simp at h; subst h; exact ⟨_, rfl, r⟩
  | _, _, i + 1, y, .cons r t, h => by
    obtain ⟨x, h1, h2⟩ := paired_getL (i := i) t (by simpa using h)
    exact ⟨x, by simpa using h1, h2⟩
theorem paired_append {α β : Type} {F : α → β → Prop} : ∀ {l l' : List α} {m m' : List β}, Paired F l m → Paired F l' m' → Paired F (l ++ l') (m ++ m')
  | _, _, _, _, .nil, q => q
  | _, _, _, _, .cons r t, q => .cons r (paired_append t q)
theorem paired_drop {α β : Type} {F : α → β → Prop} : ∀ {l : List α} {m : List β} (n : Nat), Paired F l m → Paired F (l.drop n) (m.drop n)
  | _, _, 0, p => p
  | _, _, _ + 1, .nil => .nil
  | _, _, n + 1, .cons _ t => paired_drop n t
theorem paired_take {α β : Type} {F : α → β → Prop} : ∀ {l : List α} {m : List β} (n : Nat), Paired F l m → Paired F (l.take n) (m.take n)
  | _, _, 0, p => .nil
  | _, _, _ + 1, .nil => .nil
  | _, _, n + 1, .cons r t => .cons r (paired_take n t)
theorem paired_at {α β : Type} {F : α → β → Prop} {l : List α} {m : List β} {i : Int} {y : β} (p : Paired F l m) (h : atI m i = some y) : ∃ x, atI l i = some x ∧ F x y := by
  unfold atI at h ⊢
  rw [paired_len p]
  cases e : ixN m.length i with
  | none => rw [e] at h; cases h
  | some j =>
    rw [e] at h
    exact paired_get p h
theorem paired_iff_map {α β γ : Type} {F : α → β → Prop} {g : β → γ} {G : α → γ → Prop} (i : ∀ a b, F a b → G a (g b)) : ∀ {l : List α} {m : List β}, Paired F l m → Paired G l (m.map g)
  | _, _, .nil => .nil
  | _, _, .cons r t => .cons (i _ _ r) (paired_iff_map i t)

def cI : Cod Int := ⟨fun _ _ v x => v = .int x, fun _ _ _ _ _ _ h => h⟩
def cB : Cod Bool := ⟨fun _ _ v x => v = .bl x, fun _ _ _ _ _ _ h => h⟩
def cN : Cod Unit := ⟨fun _ _ v _ => v = .non, fun _ _ _ _ _ _ h => h⟩
def cS : Cod Str := ⟨fun _ _ v x => v = .str x ∧ PyData.strOk x = true ∧ x.length ≤ sizeLine, fun _ _ _ _ _ _ h => h⟩
def oSee {α : Type} (c : Cod α) (K : Frag) (R : Hp) (v : V) : Option α → Prop
  | none => v = .non
  | some x => c.see K R v x
def cO {α : Type} (c : Cod α) : Cod (Option α) := ⟨fun K R v x => oSee c K R v x, fun K R R' v x s h => by
  cases x with
  | none => exact h
  | some x => exact c.mono K R R' v x s h⟩
/-- some values in a row -/
structure ArgC (α : Type) where
  n : Nat
  see : Frag → Hp → List V → α → Prop
  mono : ∀ (K : Frag) (R R' : Hp) (vs : List V) (x : α), Same R R' → see K R vs x → see K R' vs x
  len : ∀ (K : Frag) (R : Hp) (vs : List V) (x : α), see K R vs x → vs.length = n
def aNil : ArgC Unit := ⟨0, fun _ _ vs _ => vs = [], fun _ _ _ _ _ _ h => h, fun _ _ _ _ h => by rw [h]; rfl⟩
def aOne {α : Type} (c : Cod α) : ArgC α := ⟨1, fun K R vs x => ∃ v, vs = [v] ∧ c.see K R v x, fun K R R' vs x s ⟨v, e, h⟩ => ⟨v, e, c.mono K R R' v x s h⟩, fun _ _ _ _ ⟨_, e, _⟩ => by rw [e]; rfl⟩
def aCons {α β : Type} (c : Cod α) (as : ArgC β) : ArgC (α × β) := ⟨as.n + 1, fun K R vs x => ∃ v ws, vs = v :: ws ∧ c.see K R v x.1 ∧ as.see K R ws x.2, fun K R R' vs x s ⟨v, ws, e, h, h'⟩ => ⟨v, ws, e, c.mono K R R' v _ s h, as.mono K R R' ws _ s h'⟩,
  fun K R vs x ⟨v, ws, e, _, h⟩ => by rw [e, List.length_cons, as.len K R ws _ h]⟩
/-- so many values of one kind -/
def aAll {α : Type} (c : Cod α) (n : Nat) : ArgC (List α) := ⟨n, fun K R vs xs => vs.length = n ∧ Paired (fun v x => c.see K R v x) vs xs, fun K R R' vs xs s ⟨h1, h2⟩ => ⟨h1, paired_mono (fun _ _ q => c.mono K R R' _ _ s q) h2⟩, fun _ _ _ _ h => h.1⟩
/-- a tuple of so many places -/
def cT {α : Type} (as : ArgC α) : Cod α := ⟨fun K R v x => ∃ a vs, v = .ref a ∧ SeeT K R a vs ∧ as.see K R vs x, fun K R R' v x s ⟨a, vs, e, h, h'⟩ => ⟨a, vs, e, h.same s, as.mono K R R' vs x s h'⟩⟩
/-- a tuple of any length, of one kind -/
def cTV {α : Type} (c : Cod α) : Cod (List α) := ⟨fun K R v xs => ∃ a vs, v = .ref a ∧ SeeT K R a vs ∧ vs.length ≤ sizeLine ∧ Paired (fun v x => c.see K R v x) vs xs, fun K R R' v x s ⟨a, vs, e, h, hl, h'⟩ => ⟨a, vs, e, h.same s, hl, paired_mono (fun _ _ q => c.mono K R R' _ _ s q) h'⟩⟩
/-- a list that stays as it is -/
def cL {α : Type} (c : Cod α) : Cod (List α) := ⟨fun K R v xs => ∃ a vs, v = .ref a ∧ R a = some (.lst vs) ∧ vs.length ≤ sizeLine ∧ Paired (fun v x => c.see K R v x) vs xs, fun K R R' v x s ⟨a, vs, e, h, hl, h'⟩ => ⟨a, vs, e, s _ _ h, hl, paired_mono (fun _ _ q => c.mono K R R' _ _ s q) h'⟩⟩
/-- a list that came from without -/
def cLK {α : Type} (c : Cod α) : Cod (List α) := ⟨fun K R v xs => ∃ a vs, v = .ref a ∧ SqL K R a vs ∧ vs.length ≤ sizeLine ∧ Paired (fun v x => c.see K R v x) vs xs, fun K R R' v x s ⟨a, vs, e, h, hl, h'⟩ => ⟨a, vs, e, s.seq h, hl, paired_mono (fun _ _ q => c.mono K R R' _ _ s q) h'⟩⟩
/-- a list of one's own -/
def oL {α : Type} (c : Cod α) : OCod (List α) := ⟨fun K R M H l v xs => ∃ p vs, v = .ref p ∧ M p = some l ∧ H p = some (.lst vs) ∧ vs.length ≤ sizeLine ∧ Paired (fun v x => c.see K R v x) vs xs,
  fun K R R' M M' H H' l v x s t ⟨p, vs, e, hm, hp, hl, h'⟩ => ⟨p, vs, e, (t p l hm).1, (t p l hm).2.trans hp, hl, paired_mono (fun _ _ q => c.mono K R R' _ _ s q) h'⟩⟩

/-! ### data -/
/-- what a value is as data, how deep -/
def DC {α : Type} (c : Cod α) (t : α → PyData) (n : Nat) : Prop := ∀ K R v x, c.see K R v x → Dp K R v (t x) ∧ (t x).canLay0 = true ∧ (t x).depth ≤ n
theorem dc_i : DC cI .int 0 := fun K R v x h => by cases h; exact ⟨.int x, by simp [PyData.canLay0], by simp [PyData.depth]⟩
theorem dc_b : DC cB .bool 0 := fun K R v x h => by cases h; exact ⟨.bl x, by simp [PyData.canLay0], by simp [PyData.depth]⟩
theorem dc_n : DC cN (fun _ => .none) 0 := fun K R v x h => by cases h; exact ⟨.non, by simp [PyData.canLay0], by simp [PyData.depth]⟩
theorem dc_s : DC cS .str 0 := fun K R v x h => by obtain ⟨rfl, h, _⟩ := h; exact ⟨.str x, by simpa [PyData.canLay0] using h, by simp [PyData.depth]⟩
def tO {α : Type} (t : α → PyData) : Option α → PyData
  | none => .none
  | some x => t x
theorem dc_o {α : Type} {c : Cod α} {t : α → PyData} {n : Nat} (h : DC c t n) : DC (cO c) (tO t) n := fun K R v x q => by
  cases x with
  | none => cases q; exact ⟨.non, by simp [tO, PyData.canLay0], by simp [tO, PyData.depth]⟩
  | some x => exact h K R v x q
def DA {α : Type} (c : ArgC α) (t : α → List PyData) (n : Nat) : Prop := ∀ K R vs x, c.see K R vs x → DpAll K R vs (t x) ∧ PyData.canLayAll0 (t x) = true ∧ PyData.depthAll (t x) ≤ n
theorem da_nil : DA aNil (fun _ => []) 0 := fun K R v x h => by cases h; exact ⟨.nil, by simp [PyData.canLayAll0], by simp [PyData.depthAll]⟩
theorem da_one {α : Type} {c : Cod α} {t : α → PyData} {n : Nat} (h : DC c t n) : DA (aOne c) (fun x => [t x]) n := fun K R vs x ⟨v, e, q⟩ => by
  subst e
  obtain ⟨h1, h2, h3⟩ := h K R v x q
  exact ⟨.cons h1 .nil, by simp [PyData.canLayAll0, h2], by simp [PyData.depthAll]; omega⟩
theorem da_cons {α β : Type} {c : Cod α} {as : ArgC β} {t : α → PyData} {u : β → List PyData} {n m : Nat} (h : DC c t n) (h' : DA as u m) : DA (aCons c as) (fun x => t x.1 :: u x.2) (max n m) := fun K R vs x ⟨v, ws, e, q, q'⟩ => by
  subst e
  obtain ⟨h1, h2, h3⟩ := h K R v x.1 q
  obtain ⟨g1, g2, g3⟩ := h' K R ws x.2 q'
  exact ⟨.cons h1 g1, by simp [PyData.canLayAll0, h2, g2], by simp only [PyData.depthAll]; omega⟩
theorem dc_t {α : Type} {as : ArgC α} {t : α → List PyData} {n : Nat} (h : DA as t n) : DC (cT as) (fun x => .tuple (t x)) (n + 1) := fun K R v x ⟨a, vs, e, q, q'⟩ => by
  subst e
  obtain ⟨h1, h2, h3⟩ := h K R vs x q'
  exact ⟨.tup q.sq h1, by simp [PyData.canLay0, h2], by simp only [PyData.depth]; omega⟩
theorem dc_all {α : Type} {c : Cod α} {t : α → PyData} {n : Nat} (h : DC c t n) {K : Frag} {R : Hp} : ∀ {vs : List V} {xs : List α}, Paired (fun v x => c.see K R v x) vs xs → DpAll K R vs (xs.map t) ∧ PyData.canLayAll0 (xs.map t) = true ∧ PyData.depthAll (xs.map t) ≤ n
  | _, _, .nil => ⟨.nil, by simp [PyData.canLayAll0], by simp [PyData.depthAll]⟩
  | _, _, .cons r p => by
    obtain ⟨h1, h2, h3⟩ := h K R _ _ r
    obtain ⟨g1, g2, g3⟩ := dc_all h p
    exact ⟨.cons h1 g1, by simp only [List.map_cons, PyData.canLayAll0, h2, g2, Bool.and_self], by simp only [List.map_cons, PyData.depthAll]; omega⟩
theorem dc_l {α : Type} {c : Cod α} {t : α → PyData} {n : Nat} (h : DC c t n) : DC (cL c) (fun xs => .list (xs.map t)) (n + 1) := fun K R v x ⟨a, vs, e, q, _, q'⟩ => by
  subst e
  obtain ⟨h1, h2, h3⟩ := dc_all h q'
  exact ⟨.lst (.inl (.inl q)) h1, by simp [PyData.canLay0, h2], by simp only [PyData.depth]; omega⟩
theorem dc_tv {α : Type} {c : Cod α} {t : α → PyData} {n : Nat} (h : DC c t n) : DC (cTV c) (fun xs => .tuple (xs.map t)) (n + 1) := fun K R v x ⟨a, vs, e, q, _, q'⟩ => by
  subst e
  obtain ⟨h1, h2, h3⟩ := dc_all h q'
  exact ⟨.tup q.sq h1, by simp [PyData.canLay0, h2], by simp only [PyData.depth]; omega⟩

/-! ### slots -/
structure At (G : Ctx) (i : Nat) (s : Slot) (g : CT G → s.T) : Prop where
  ok : ∀ (K : Frag) (k : Nat) (p : CT G) (L : Lab) (H : Hp) (o : St), CR K k G p L H o → s.rel K (k + i) (g p) L H o[k + i]?
theorem at_z {G : Ctx} {s : Slot} : At (s :: G) 0 s (fun p => p.1) := ⟨fun _ _ _ _ _ _ c => c.1⟩
theorem at_s {G : Ctx} {i : Nat} {s t : Slot} {g : CT G → s.T} (h : At G i s g) : At (t :: G) (i + 1) s (fun p => g p.2) := ⟨fun K k p L H o c => by
  have q := h.ok K (k + 1) p.2 L H o c.2
  rw [show k + (i + 1) = k + 1 + i by omega]
  exact q⟩

section
variable {A : Amb} {G : Ctx}
/-- a name -/
theorem ex_var {α : Type} {c : Cod α} {i : Nat} {x : Str} {pos : Pos} {g : CT G → α} (h : At G i (sVal c) g) (hN : A.X.N[i]? = some x) (hv : Vis A.X.env.scope x) (hd : (x == ("__debug__" : Str)) = false := by decide) (hcd : (x == ("__classdict__" : Str)) = false := by decide) :
    EX A G (.Name x pos) (rV c) (fun p => .ok (g p, p)) := pe_weak (pe_var hN hv hd hcd) fun o H Q ⟨p, L, w, cr, k⟩ => by
  obtain ⟨v, e, q⟩ := h.ok _ _ _ _ _ _ cr
  rw [Nat.zero_add] at e
  exact ⟨v, e, k v L H Stp.refl w cr q⟩
theorem ex_c {α : Type} {c : Cod α} {e : Expr} {v : V} {x : α} (h : PE A.X e (tC v)) (hs : ∀ K R, c.see K R v x) : EX A G e (rV c) (fun p => .ok (x, p)) := pe_weak h fun o H Q ⟨p, L, w, cr, k⟩ => k v L H Stp.refl w cr (hs _ _)
theorem ex_int {i j pos} : EX A G (.Constant (.int i) j pos) (rV cI) (fun p => .ok (i, p)) := ex_c pe_int fun _ _ => rfl
theorem ex_bool {b j pos} : EX A G (.Constant (.bool b) j pos) (rV cB) (fun p => .ok (b, p)) := ex_c pe_bl fun _ _ => rfl
theorem ex_none {j pos} : EX A G (.Constant .none j pos) (rV cN) (fun p => .ok ((), p)) := ex_c pe_non fun _ _ => rfl
theorem ex_str {x j pos} (h1 : PyData.strOk x = true) (h2 : x.length ≤ sizeLine) : EX A G (.Constant (.str x) j pos) (rV cS) (fun p => .ok (x, p)) := ex_c pe_str fun _ _ => ⟨rfl, h1, h2⟩
/-- the same value read otherwise -/
def Sub {α β : Type} (c : Cod α) (d : Cod β) (g : α → β) : Prop := ∀ K R v x, c.see K R v x → d.see K R v (g x)
theorem ex_sub {α β : Type} {c : Cod α} {d : Cod β} {g : α → β} {e : Expr} {f : CT G → Res (α × CT G)} (s : Sub c d g) (h : EX A G e (rV c) f) : EX A G e (rV d) (fun p => Res.bind (f p) fun y => .ok (g y.1, y.2)) :=
  pe_weak h fun o H Q ⟨p, L, w, cr, k⟩ => run1 w cr k fun x p' v L' H' st w' c' rl gd => gd v L' H' st w' c' (s _ _ _ _ rl)
theorem sub_none {α : Type} {c : Cod α} : Sub cN (cO c) (fun _ => none) := fun _ _ _ _ h => h
theorem sub_some {α : Type} {c : Cod α} : Sub c (cO c) some := fun _ _ _ _ h => h
theorem sub_refl {α : Type} {c : Cod α} : Sub c c id := fun _ _ _ _ h => h
theorem sub_o {α β : Type} {c : Cod α} {d : Cod β} {g : α → β} (s : Sub c d g) : Sub (cO c) (cO d) (Option.map g) := fun K R v x h => by
  cases x with
  | none => exact h
  | some x => exact s K R v x h
theorem sub_lk {α : Type} {c : Cod α} : Sub (cL c) (cLK c) id := fun K R v x ⟨a, vs, e, h, hl, h'⟩ => ⟨a, vs, e, .inl (.inl h), hl, h'⟩
theorem sub_l {α β : Type} {c : Cod α} {d : Cod β} {g : α → β} (s : Sub c d g) : Sub (cL c) (cL d) (List.map g) := fun K R v x ⟨a, vs, e, h1, h2, h3⟩ => ⟨a, vs, e, h1, h2, paired_iff_map (fun _ _ q => s K R _ _ q) h3⟩

def ofO {α : Type} : Option α → Res α
  | some x => .ok x
  | none => .bad
theorem good_ofO {α β : Type} {z : Option α} {f : α → Res β} {L : Lab} {H : Hp} {o : St} {P : β → Prop} (h : Good A (Res.bind (ofO z) f) L H o P) : ∃ x, z = some x ∧ Good A (f x) L H o P := by
  cases z with
  | none => exact h.elim
  | some x => exact ⟨x, rfl, h⟩

/-! ### operators by values -/
/-- a place in a list of values that one reads, at the state L, H -/
structure Opd (α : Type) where
  at_ : Frag → Lab → Hp → V → α → Prop
def OpT (A : Amb) (F : Value → Value → Sem Value) {α β γ : Type} (c : Cod α) (d : Cod β) (k : α → β → Option γ) (r : Rt γ) : Prop :=
  ∃ r2 : R2, OpR A.X F r2 ∧ ∀ (L : Lab) (H : Hp) (vx vy : V) (x : α) (y : β) (z : γ) (Q : VK), Wf L H → c.see A.X.K (rd L H) vx x → d.see A.X.K (rd L H) vy y → k x y = some z →
    (∀ v L' H', Ext L H L' H' → Wf L' H' → r.rel A.X.K L H L' H' v z → Q v H') → r2 vx vy H Q
/-- two parts, then an operation by values -/
theorem bin_core {α β γ : Type} {c : Cod α} {d : Cod β} {k : α → β → Option γ} {r : Rt γ} {r2 : V → V → Hp → VK → Prop} {f : CT G → Res (α × CT G)} {g : CT G → Res (β × CT G)} {o : St} {H : Hp} {Q : VK}
    (pr : ∀ (L : Lab) (H : Hp) (vx vy : V) (x : α) (y : β) (z : γ) (Q : VK), Wf L H → c.see A.X.K (rd L H) vx x → d.see A.X.K (rd L H) vy y → k x y = some z →
      (∀ v L' H', Ext L H L' H' → Wf L' H' → r.rel A.X.K L H L' H' v z → Q v H') → r2 vx vy H Q)
    (h : tE A G r (fun p => Res.bind (f p) fun y => Res.bind (g y.2) fun z => Res.bind (ofO (k y.1 z.1)) fun w => .ok (w, z.2)) o H Q) :
    tE A G (rV c) f o H fun x H1 => tE A G (rV d) g o H1 fun y H2 => r2 x y H2 Q := by
  obtain ⟨p, L, w, cr, kk⟩ := h
  refine run1 w cr kk fun x p1 vx L1 H1 s1 w1 c1 r1 g1 => ?_
  refine run1 w1 c1 g1 fun y p2 vy L2 H2 s2 w2 c2 r2' g2 => ?_
  obtain ⟨z, e, g3⟩ := good_ofO g2
  exact pr L2 H2 vx vy x y z Q w2 (c.mono _ _ _ _ _ s2.rd r1) r2' e fun v L' H' ex w' rl => g3 v L' H' ((s1.trans s2).trans ex.stp) w' (c2.ext w2 ex) (r.pre _ _ _ _ _ _ _ _ _ (s1.trans s2) rl)
theorem ex_op {α β γ : Type} {c : Cod α} {d : Cod β} {k : α → β → Option γ} {r : Rt γ} {op : Operator} {a b : Expr} {pos : Pos} {f : CT G → Res (α × CT G)} {g : CT G → Res (β × CT G)} (h : OpT A (binaryOp op) c d k r) (ha : EX A G a (rV c) f) (hb : EX A G b (rV d) g) :
    EX A G (.BinOp a op b pos) r (fun p => Res.bind (f p) fun y => Res.bind (g y.2) fun z => Res.bind (ofO (k y.1 z.1)) fun w => .ok (w, z.2)) := by
  obtain ⟨r2, ho, pr⟩ := h
  exact pe_weak (pe_op ho ha hb) fun o H Q q => bin_core pr q
theorem ex_cmp {α β γ : Type} {c : Cod α} {d : Cod β} {k : α → β → Option γ} {r : Rt γ} {op : CmpOp} {a b : Expr} {pos : Pos} {f : CT G → Res (α × CT G)} {g : CT G → Res (β × CT G)} (h : OpT A (compareOp op) c d k r) (ha : EX A G a (rV c) f) (hb : EX A G b (rV d) g)
    (hm : behindInMarks op b = false) :
    EX A G (.Compare a [op] [b] pos) r (fun p => Res.bind (f p) fun y => Res.bind (g y.2) fun z => Res.bind (ofO (k y.1 z.1)) fun w => .ok (w, z.2)) := by
  obtain ⟨r2, ho, pr⟩ := h
  exact pe_weak (pe_cmpR ho ha hb hm) fun o H Q q => bin_core pr q
/-- from a value's reading to a test's -/
theorem tT_of {f : CT G → Res (Bool × CT G)} {o : St} {H : Hp} {Q : Bool → Hp → Prop} (h : tT A G f o H Q) : tE A G (rV cB) f o H fun x H1 => ∃ k, x = .bl k ∧ Q k H1 := by
  obtain ⟨p, L, w, cr, kk⟩ := h
  exact ⟨p, L, w, cr, kk.imp fun y _ q v L' H' s w' c' rl => ⟨y.1, rl, q L' H' s w' c'⟩⟩
theorem tx_cmp {α β : Type} {c : Cod α} {d : Cod β} {k : α → β → Option Bool} {op : CmpOp} {a b : Expr} {pos : Pos} {f : CT G → Res (α × CT G)} {g : CT G → Res (β × CT G)} (h : OpT A (compareOp op) c d k (rV cB)) (ha : EX A G a (rV c) f) (hb : EX A G b (rV d) g)
    (hm : behindInMarks op b = false) :
    TX A G (.Compare a [op] [b] pos) (fun p => Res.bind (f p) fun y => Res.bind (g y.2) fun z => Res.bind (ofO (k y.1 z.1)) fun w => .ok (w, z.2)) := by
  obtain ⟨r2, ho, pr⟩ := h
  exact pt_weak (pt_cmpR ho ha hb hm) fun o H Q q => bin_core pr (tT_of q)
/-- a bool's expression as a test -/
theorem tx_val {e : Expr} {f : CT G → Res (Bool × CT G)} (h : EX A G e (rV cB) f) (he : ∀ whole, isTrue e A.X.env whole = (do let v ← whole; standAt e.pos; holding [v] (truthy v)) := by intro _; rfl) : TX A G e f :=
  pt_weak (pt_val h he) fun o H Q q => tT_of q
theorem tx_not {a : Expr} {pos : Pos} {f : CT G → Res (Bool × CT G)} (h : TX A G a f) : TX A G (.UnaryOp .Not a pos) (fun p => Res.bind (f p) fun y => .ok (!y.1, y.2)) :=
  pt_weak (pt_not h) fun o H Q ⟨p, L, w, cr, kk⟩ => ⟨p, L, w, cr, kk.bind.imp fun y _ q L' H' s w' c' => q L' H' s w' c'⟩

/-! ints -/
theorem op_of {F : Value → Value → Sem Value} {α β γ : Type} {c : Cod α} {d : Cod β} {e : Cod γ} {k : α → β → Option γ} {r2 : R2} (h : OpR A.X F r2)
    (pr : ∀ (L : Lab) (H : Hp) (vx vy : V) (x : α) (y : β) (z : γ) (Q : VK), Wf L H → c.see A.X.K (rd L H) vx x → d.see A.X.K (rd L H) vy y → k x y = some z → (∀ v, e.see A.X.K (rd L H) v z → Q v H) → r2 vx vy H Q) : OpT A F c d k (rV e) :=
  ⟨r2, h, fun L H vx vy x y z Q w h1 h2 h3 q => pr L H vx vy x y z Q w h1 h2 h3 fun v hv => q v L H Ext.refl w hv⟩
theorem ot_add : OpT A (binaryOp .Add) cI cI (fun x y => some (x + y)) (rV cI) := op_of op_add fun L H vx vy x y z Q w h1 h2 h3 q => by
  cases h1; cases h2; cases h3; exact ⟨_, _, rfl, rfl, q _ rfl⟩
theorem ot_sub : OpT A (binaryOp .Sub) cI cI (fun x y => some (x - y)) (rV cI) := op_of op_sub fun L H vx vy x y z Q w h1 h2 h3 q => by
  cases h1; cases h2; cases h3; exact ⟨_, _, rfl, rfl, q _ rfl⟩
def mulO (x y : Int) : Option Int := if Builtin.Int.intBits x ≤ 64 ∨ Builtin.Int.intBits y ≤ 64 ∨ x.natAbs.log2 + y.natAbs.log2 < 1000000 then some (x * y) else none
theorem op_mulZ {X : Cx} : OpR X (binaryOp .Mult) (rI IntMulOk fun i j => .int (i * j)) := opI fun _ _ _ _ _ _ _ hc q => PyProof.Rows.mul_int q hc
theorem ot_mul : OpT A (binaryOp .Mult) cI cI mulO (rV cI) := op_of op_mulZ fun L H vx vy x y z Q w h1 h2 h3 q => by
  cases h1; cases h2
  unfold mulO at h3
  split at h3
  · rename_i hc
    cases h3
    refine ⟨_, _, rfl, rfl, ?_, q _ rfl⟩
    rcases hc with hc | hc | hc
    · exact .of_left hc
    · exact .of_right hc
    · exact CMulW.ok hc
  · cases h3
def modO (x y : Int) : Option Int := if 0 < y then some (x % y) else none
theorem ot_mod : OpT A (binaryOp .Mod) cI cI modO (rV cI) := op_of op_mod fun L H vx vy x y z Q w h1 h2 h3 q => by
  cases h1; cases h2
  unfold modO at h3
  split at h3
  · rename_i hc; cases h3; exact ⟨_, _, rfl, rfl, hc, q _ rfl⟩
  · cases h3
def divO (x y : Int) : Option Int := if 0 < y ∧ y.natAbs.log2 < 9000 then some (x / y) else none
theorem ot_div : OpT A (binaryOp .FloorDiv) cI cI divO (rV cI) := op_of op_fdivW fun L H vx vy x y z Q w h1 h2 h3 q => by
  cases h1; cases h2
  unfold divO at h3
  split at h3
  · rename_i hc; cases h3; exact ⟨_, _, rfl, rfl, hc, q _ rfl⟩
  · cases h3
def powO (x y : Int) : Option Int := if 0 ≤ y ∧ (Builtin.Int.intBits x : Int) * y ≤ 2 ^ 27 then some (x ^ y.toNat) else none
theorem op_powW {X : Cx} : OpR X (binaryOp .Pow) (rI (fun i j => 0 ≤ j ∧ (Builtin.Int.intBits i : Int) * j ≤ 2 ^ 27) fun i j => .int (i ^ j.toNat)) := opI fun _ _ _ _ _ _ _ hc q => PyProof.Rows.pow_int hc.1 hc.2 q
theorem ot_pow : OpT A (binaryOp .Pow) cI cI powO (rV cI) := op_of op_powW fun L H vx vy x y z Q w h1 h2 h3 q => by
  cases h1; cases h2
  unfold powO at h3
  split at h3
  · rename_i hc; cases h3; exact ⟨_, _, rfl, rfl, hc, q _ rfl⟩
  · cases h3
def andO (x y : Int) : Option Int := some (Builtin.bitAnd x y)
theorem ot_and : OpT A (binaryOp .BitAnd) cI cI (fun x y => some (Builtin.bitAnd x y)) (rV cI) := op_of op_and fun L H vx vy x y z Q w h1 h2 h3 q => by
  cases h1; cases h2; cases h3; exact ⟨_, _, rfl, rfl, q _ rfl⟩
theorem ot_or : OpT A (binaryOp .BitOr) cI cI (fun x y => some (Builtin.bitOr x y)) (rV cI) := op_of op_or fun L H vx vy x y z Q w h1 h2 h3 q => by
  cases h1; cases h2; cases h3; exact ⟨_, _, rfl, rfl, q _ rfl⟩
theorem ot_lt : OpT A (compareOp .Lt) cI cI (fun x y => some (decide (x < y))) (rV cB) := op_of op_lt fun L H vx vy x y z Q w h1 h2 h3 q => by
  cases h1; cases h2; cases h3; exact ⟨_, _, rfl, rfl, q _ rfl⟩
theorem ot_le : OpT A (compareOp .LtE) cI cI (fun x y => some (decide (x ≤ y))) (rV cB) := op_of op_le fun L H vx vy x y z Q w h1 h2 h3 q => by
  cases h1; cases h2; cases h3; exact ⟨_, _, rfl, rfl, q _ rfl⟩
theorem ot_gt : OpT A (compareOp .Gt) cI cI (fun x y => some (decide (y < x))) (rV cB) := op_of op_gt fun L H vx vy x y z Q w h1 h2 h3 q => by
  cases h1; cases h2; cases h3; exact ⟨_, _, rfl, rfl, q _ rfl⟩
theorem ot_ge : OpT A (compareOp .GtE) cI cI (fun x y => some (decide (y ≤ x))) (rV cB) := op_of op_ge fun L H vx vy x y z Q w h1 h2 h3 q => by
  cases h1; cases h2; cases h3; exact ⟨_, _, rfl, rfl, q _ rfl⟩
theorem ot_eq : OpT A (compareOp .Eq) cI cI (fun x y => some (decide (x = y))) (rV cB) := op_of op_eq fun L H vx vy x y z Q w h1 h2 h3 q => by
  cases h1; cases h2; cases h3; exact ⟨rfl, q _ (by show V.bl _ = V.bl _; simp)⟩
theorem ot_ne : OpT A (compareOp .NotEq) cI cI (fun x y => some (!decide (x = y))) (rV cB) := op_of op_ne fun L H vx vy x y z Q w h1 h2 h3 q => by
  cases h1; cases h2; cases h3; exact ⟨rfl, q _ (by show V.bl _ = V.bl _; simp)⟩
theorem ot_eqS : OpT A (compareOp .Eq) cS cS (fun x y => some (decide (x = y))) (rV cB) := op_of op_eq fun L H vx vy x y z Q w h1 h2 h3 q => by
  obtain ⟨rfl, _⟩ := h1; obtain ⟨rfl, _⟩ := h2; cases h3; exact ⟨rfl, q _ (by show V.bl _ = V.bl _; simp)⟩
theorem ot_neS : OpT A (compareOp .NotEq) cS cS (fun x y => some (!decide (x = y))) (rV cB) := op_of op_ne fun L H vx vy x y z Q w h1 h2 h3 q => by
  obtain ⟨rfl, _⟩ := h1; obtain ⟨rfl, _⟩ := h2; cases h3; exact ⟨rfl, q _ (by show V.bl _ = V.bl _; simp)⟩
end
end AC
set_option Elab.async false
set_option linter.all false
set_option maxRecDepth 100000
/-! TL3: argument lists, displays, built-ins by values, subscripts, and / or, conditional expressions, chains. -/
namespace AC
open PySem L2 PyProof

section
variable {A : Amb} {G : Ctx}
/-! ### argument lists -/
def tA (A : Amb) {α : Type} (G : Ctx) (as : ArgC α) (f : CT G → Res (α × CT G)) : L2.TA := fun o H Q =>
  ∃ (p : CT G) (L : Lab), Wf L H ∧ CR A.X.K 0 G p L H o ∧ Good A (f p) L H o fun y => ∀ (vs : List V) (L' : Lab) (H' : Hp), Stp L H L' H' → Wf L' H' → CR A.X.K 0 G y.2 L' H' o → as.see A.X.K (rd L' H') vs y.1 → Q vs H'
def AX (A : Amb) (G : Ctx) (es : List Expr) {α : Type} (as : ArgC α) (f : CT G → Res (α × CT G)) : Prop := PA A.X es (tA A G as f)
theorem pa_weak {X : Cx} {es : List Expr} {t t' : L2.TA} (h : PA X es t) (i : ∀ o H Q, t' o H Q → t o H Q) : PA X es t' := ⟨fun pos pins s o H Q I q => h.run pos pins s o H Q I (i _ _ _ q)⟩
theorem ax_nil : AX A G [] aNil (fun p => .ok ((), p)) := pa_weak pa_nil fun o H Q ⟨p, L, w, cr, k⟩ => k [] L H Stp.refl w cr rfl
theorem ax_nilA {α : Type} {c : Cod α} : AX A G [] (aAll c 0) (fun p => .ok ([], p)) := pa_weak pa_nil fun o H Q ⟨p, L, w, cr, k⟩ => k [] L H Stp.refl w cr ⟨rfl, .nil⟩
theorem ax_core {α β γ : Type} {c : Cod α} {as : ArgC β} {bs : ArgC γ} {m : α → β → γ} {f : CT G → Res (α × CT G)} {g : CT G → Res (β × CT G)} (hm : ∀ K R v vs x y, c.see K R v x → as.see K R vs y → bs.see K R (v :: vs) (m x y)) {o : St} {H : Hp} {Q : List V → Hp → Prop}
    (h : tA A G bs (fun p => Res.bind (f p) fun y => Res.bind (g y.2) fun z => .ok (m y.1 z.1, z.2)) o H Q) : tE A G (rV c) f o H fun x H1 => tA A G as g o H1 fun xs H2 => Q (x :: xs) H2 := by
  obtain ⟨p, L, w, cr, kk⟩ := h
  refine run1 w cr kk fun x p1 v L1 H1 s1 w1 c1 r1 g1 => ?_
  exact ⟨p1, L1, w1, c1, g1.bind.imp fun z _ gz vs L2 H2 s2 w2 c2 r2 => gz (v :: vs) L2 H2 (s1.trans s2) w2 c2 (hm _ _ _ _ _ _ (c.mono _ _ _ _ _ s2.rd r1) r2)⟩
theorem ax_cons {α β : Type} {c : Cod α} {as : ArgC β} {e : Expr} {es : List Expr} {f : CT G → Res (α × CT G)} {g : CT G → Res (β × CT G)} (h : EX A G e (rV c) f) (hr : AX A G es as g) (hs : starEach (e :: es) A.X.env = (false, eval e A.X.env) :: starEach es A.X.env := by rfl) :
    AX A G (e :: es) (aCons c as) (fun p => Res.bind (f p) fun y => Res.bind (g y.2) fun z => .ok ((y.1, z.1), z.2)) :=
  pa_weak (pa_cons h hr hs) fun o H Q q => ax_core (as := as) (bs := aCons c as) (m := Prod.mk) (fun K R v vs x y h1 h2 => ⟨v, vs, rfl, h1, h2⟩) q
theorem ax_one {α : Type} {c : Cod α} {e : Expr} {f : CT G → Res (α × CT G)} (h : EX A G e (rV c) f) (hs : starEach [e] A.X.env = (false, eval e A.X.env) :: starEach [] A.X.env := by rfl) : AX A G [e] (aOne c) f :=
  pa_weak (pa_cons h pa_nil hs) fun o H Q ⟨p, L, w, cr, kk⟩ => ⟨p, L, w, cr, kk.imp fun y _ q v L' H' s w' c' rl => q [v] L' H' s w' c' ⟨v, rfl, rl⟩⟩
theorem ax_consA {α : Type} {c : Cod α} {n : Nat} {e : Expr} {es : List Expr} {f : CT G → Res (α × CT G)} {g : CT G → Res (List α × CT G)} (h : EX A G e (rV c) f) (hr : AX A G es (aAll c n) g) (hs : starEach (e :: es) A.X.env = (false, eval e A.X.env) :: starEach es A.X.env := by rfl) :
    AX A G (e :: es) (aAll c (n + 1)) (fun p => Res.bind (f p) fun y => Res.bind (g y.2) fun z => .ok (y.1 :: z.1, z.2)) :=
  pa_weak (pa_cons h hr hs) fun o H Q q => ax_core (as := aAll c n) (bs := aAll c (n + 1)) (m := List.cons) (fun K R v vs x y h1 h2 => ⟨by rw [List.length_cons, h2.1], .cons h1 h2.2⟩) q

/-! ### new objects -/
def setL (L : Lab) (p : Addr) (x : Nat × List Nat) : Lab := fun a => if a = p then some x else L a
theorem setL_same {L : Lab} {p : Addr} {x : Nat × List Nat} : setL L p x p = some x := by unfold setL; rw [if_pos rfl]
theorem setL_ne {L : Lab} {p a : Addr} {x : Nat × List Nat} (h : a ≠ p) : setL L p x a = L a := by unfold setL; rw [if_neg h]
theorem Wf.none {L : Lab} {H : Hp} (w : Wf L H) {p : Addr} (h : H p = none) : L p = none := by
  cases e : L p with
  | none => rfl
  | some x => exact absurd h (w.dom p (by rw [e]; simp))
theorem ext_new {L : Lab} {H : Hp} (w : Wf L H) {p : Addr} {o : HO} (h : H p = none) : Ext L H L (upd H p o) ∧ Wf L (upd H p o) := by
  refine ⟨fun a ha => ⟨rfl, upd_ne fun e => ha (by rw [e]; exact h)⟩, fun a ha => ?_, fun a k l e => ?_⟩
  · rw [upd_ne fun e => ha (by rw [e]; exact w.none h)]
    exact w.dom a ha
  · rw [upd_ne fun e' => by rw [e', w.none h] at e; cases e]
    exact w.soft a k l e
theorem ext_val {L : Lab} {H : Hp} (w : Wf L H) {p : Addr} {o : HO} (h : H p = none) : Ext L H (setL L p (0, [])) (upd H p o) ∧ Wf (setL L p (0, [])) (upd H p o) := by
  refine ⟨fun a ha => ?_, fun a ha => ?_, fun a k l e => ?_⟩
  · have ne : a ≠ p := fun e => ha (by rw [e]; exact h)
    exact ⟨setL_ne ne, upd_ne ne⟩
  · by_cases e : a = p
    · rw [e, upd_same]; simp
    · rw [upd_ne e]
      rw [setL_ne e] at ha
      exact w.dom a ha
  · by_cases e' : a = p
    · rw [e', setL_same] at e
      cases e
    · rw [setL_ne e'] at e
      rw [upd_ne e']
      exact w.soft a k l e
theorem own_new {α : Type} {c : Cod α} {K : Frag} {L : Lab} {H : Hp} (w : Wf L H) {p : Addr} {vs : List V} {xs : List α} (h : H p = none) (hl : vs.length ≤ sizeLine) (hp : Paired (fun v x => c.see K (rd L H) v x) vs xs) : OwnAt (oL c) K L H L (upd H p (.lst vs)) (.ref p) xs := by
  refine ⟨fun a => if a = p then some [] else none, fun a m e => ?_, p, vs, rfl, if_pos rfl, upd_same, hl, paired_mono (fun _ _ q => c.mono _ _ _ _ _ (ext_new w h).1.stp.rd q) hp⟩
  have e : (if a = p then some ([] : List Nat) else none) = some m := e
  by_cases ea : a = p
  · rw [if_pos ea] at e; cases e
    rw [ea, upd_same]
    exact ⟨w.none h, trivial, fun f => f.1 h⟩
  · rw [if_neg ea] at e; cases e
/-- a tuple's display -/
theorem ex_tup {α : Type} {as : ArgC α} {es : List Expr} {x1 pos} {f : CT G → Res (α × CT G)} (h : AX A G es as f) (hn : as.n ≤ sizeLine := by decide) : EX A G (.Tuple es x1 pos) (rV (cT as)) f :=
  pe_weak (pe_tup h) fun o H Q ⟨p, L, w, cr, kk⟩ => ⟨p, L, w, cr, kk.imp fun y _ q vs L' H' s w' c' rl => ⟨by rw [as.len _ _ _ _ rl]; exact hn, fun a ha => by
    obtain ⟨e1, e2⟩ := ext_val (o := .tup vs) w' ha
    exact q _ _ _ (s.trans e1.stp) e2 (c'.ext w' e1) ⟨a, vs, rfl, .inl (rd_mk setL_same upd_same), as.mono _ _ _ _ _ e1.stp.rd rl⟩⟩⟩
/-- a list's display -/
theorem ex_list {α : Type} {c : Cod α} {n : Nat} {es : List Expr} {pos} {f : CT G → Res (List α × CT G)} (h : AX A G es (aAll c n) f) (hn : n ≤ sizeLine := by decide) : EX A G (.List es pos) (rO (oL c)) f :=
  pe_weak (pe_lst h) fun o H Q ⟨p, L, w, cr, kk⟩ => ⟨p, L, w, cr, kk.imp fun y _ q vs L' H' s w' c' rl => ⟨by rw [rl.1]; exact hn, fun a ha => by
    obtain ⟨e1, e2⟩ := ext_new (o := .lst vs) w' ha
    exact q _ _ _ (s.trans e1.stp) e2 (c'.ext w' e1) ((rO (oL c)).pre _ _ _ _ _ _ _ _ _ s (own_new w' ha (by rw [rl.1]; exact hn) rl.2))⟩⟩
/-- a list of unlike things, that stays -/
def cH {α : Type} (as : ArgC α) : Cod α := ⟨fun K R v x => ∃ a vs, v = .ref a ∧ SqL K R a vs ∧ as.see K R vs x, fun K R R' v x s ⟨a, vs, e, h, h'⟩ => ⟨a, vs, e, s.seq h, as.mono K R R' vs x s h'⟩⟩
theorem ex_hlist {α : Type} {as : ArgC α} {es : List Expr} {pos} {f : CT G → Res (α × CT G)} (h : AX A G es as f) (hn : as.n ≤ sizeLine := by decide) : EX A G (.List es pos) (rV (cH as)) f :=
  pe_weak (pe_lst h) fun o H Q ⟨p, L, w, cr, kk⟩ => ⟨p, L, w, cr, kk.imp fun y _ q vs L' H' s w' c' rl => ⟨by rw [as.len _ _ _ _ rl]; exact hn, fun a ha => by
    obtain ⟨e1, e2⟩ := ext_val (o := .lst vs) w' ha
    exact q _ _ _ (s.trans e1.stp) e2 (c'.ext w' e1) ⟨a, vs, rfl, .inl (.inl (rd_mk setL_same upd_same)), as.mono _ _ _ _ _ e1.stp.rd rl⟩⟩⟩
theorem dc_h {α : Type} {as : ArgC α} {t : α → List PyData} {n : Nat} (h : DA as t n) : DC (cH as) (fun x => .list (t x)) (n + 1) := fun K R v x ⟨a, vs, e, q, q'⟩ => by
  subst e
  obtain ⟨h1, h2, h3⟩ := h K R vs x q'
  exact ⟨.lst q h1, by simp [PyData.canLay0, h2], by simp only [PyData.depth]; omega⟩

/-- what is one's own is left as it is from now on -/
def Frz {α : Type} (o : OCod α) (c : Cod α) : Prop := ∀ K R R' M H v x, Same R R' → (∀ a m, M a = some m → insL m = false → R' a = H a) → o.own K R M H [] v x → c.see K R' v x
theorem frz_l {α : Type} {c : Cod α} : Frz (oL c) (cL c) := fun K R R' M H v x s t ⟨p, vs, e, hm, hp, hl, h'⟩ => ⟨p, vs, e, (t p _ hm rfl).trans hp, hl, paired_mono (fun _ _ q => c.mono _ _ _ _ _ s q) h'⟩
theorem frz_own {α : Type} {oc : OCod α} {c : Cod α} (fz : Frz oc c) {K : Frag} {L : Lab} {H : Hp} {L' : Lab} {H' : Hp} {v : V} {x : α} (w : Wf L' H') (h : OwnAt oc K L H L' H' v x) :
    ∃ L'', (∀ a, L'' a = L' a ∨ (L' a = none ∧ L'' a = some (0, []) ∧ ¬ Frm L H a)) ∧ Wf L'' H' ∧ Same (rd L' H') (rd L'' H') ∧ c.see K (rd L'' H') v x := by
  classical
  obtain ⟨M, hM, ho⟩ := h
  refine ⟨fun a => match M a with | some _ => some (0, []) | none => L' a, fun a => ?_, ⟨fun a ha => ?_, fun a k l e => ?_⟩, fun a o q => ?_, ?_⟩
  · show (match M a with | some _ => some (0, []) | none => L' a) = _ ∨ _
    cases e : M a with
    | none => exact .inl rfl
    | some m => exact .inr ⟨(hM a m e).1, by simp only [e], (hM a m e).2.2⟩
  · cases e : M a with
    | none => simp only [e] at ha; exact w.dom a ha
    | some m => exact (hM a m e).2.1.ne
  · cases e' : M a with
    | none => simp only [e'] at e; exact w.soft a k l e
    | some m => simp only [e'] at e; cases e
  · obtain ⟨⟨l, e1⟩, e2⟩ := rd_of q
    have e3 : M a = none := by
      cases e : M a with
      | none => rfl
      | some m => rw [(hM a m e).1] at e1; cases e1
    exact rd_mk (l := l) (by simp only [e3]; exact e1) e2
  · refine fz K _ _ M H' v x (fun a o q => ?_) (fun a m e _ => ?_) ho
    · obtain ⟨⟨l, e1⟩, e2⟩ := rd_of q
      have e3 : M a = none := by
        cases e : M a with
        | none => rfl
        | some m => rw [(hM a m e).1] at e1; cases e1
      exact rd_mk (l := l) (by simp only [e3]; exact e1) e2
    · unfold rd
      simp only [e]
theorem ex_frz {α : Type} {oc : OCod α} {c : Cod α} {e : Expr} {f : CT G → Res (α × CT G)} (fz : Frz oc c) (h : EX A G e (rO oc) f) : EX A G e (rV c) f :=
  pe_weak h fun o H Q ⟨p, L, w, cr, kk⟩ => ⟨p, L, w, cr, kk.imp fun y _ q v L' H' s w' c' rl => by
    obtain ⟨L'', h1, h2, h3, h4⟩ := frz_own fz w' rl
    refine q v L'' H' (fun a f => ?_) h2 (c'.keep h3 fun a j l _ e => ?_) h4
    · rcases h1 a with z | z
      · exact ⟨z.trans (s a f).1, (s a f).2⟩
      · exact absurd f z.2.2
    · rcases h1 a with z | z
      · exact ⟨z, rfl⟩
      · rw [z.1] at e; cases e⟩

/-! ### calls of built-ins by values -/
def CalT (A : Amb) (F : Value) {α β : Type} (as : ArgC α) (k : α → Option β) (r : Rt β) : Prop :=
  ∃ t : List V → Hp → VK → Prop, CallR A.X F t ∧ ∀ (L : Lab) (H : Hp) (vs : List V) (x : α) (z : β) (Q : VK), Wf L H → as.see A.X.K (rd L H) vs x → k x = some z → (∀ v L' H', Ext L H L' H' → Wf L' H' → r.rel A.X.K L H L' H' v z → Q v H') → t vs H Q
theorem call_core {α β : Type} {as : ArgC α} {k : α → Option β} {r : Rt β} {t : List V → Hp → VK → Prop} {f : CT G → Res (α × CT G)} {o : St} {H : Hp} {Q : VK}
    (pr : ∀ (L : Lab) (H : Hp) (vs : List V) (x : α) (z : β) (Q : VK), Wf L H → as.see A.X.K (rd L H) vs x → k x = some z → (∀ v L' H', Ext L H L' H' → Wf L' H' → r.rel A.X.K L H L' H' v z → Q v H') → t vs H Q)
    (h : tE A G r (fun p => Res.bind (f p) fun y => Res.bind (ofO (k y.1)) fun w => .ok (w, y.2)) o H Q) : tA A G as f o H fun vs H1 => t vs H1 Q := by
  obtain ⟨p, L, w, cr, kk⟩ := h
  refine ⟨p, L, w, cr, kk.bind.imp fun y _ g vs L' H' s w' c' rl => ?_⟩
  obtain ⟨z, e, g3⟩ := good_ofO g
  exact pr L' H' vs y.1 z Q w' rl e fun v L2 H2 ex w2 rl2 => g3 v L2 H2 (s.trans ex.stp) w2 (c'.ext w' ex) (r.pre _ _ _ _ _ _ _ _ _ s rl2)
theorem ex_callB {α β : Type} {as : ArgC α} {k : α → Option β} {r : Rt β} {id : String} {x : Str} {p pos : Pos} {e : Expr} {es : List Expr} {f : CT G → Res (α × CT G)} (h : CalT A (.builtin id) as k r) (hg : Gl A.X x) (hm : A.X.mg x = none) (hv : bootBuiltins x = some (.builtin id)) (ha : AX A G (e :: es) as f)
    (hn : x ≠ "__name__" := by decide) (hd : (x == ("__debug__" : Str)) = false := by decide) (he : starEach (e :: es) A.X.env = (false, eval e A.X.env) :: starEach es A.X.env := by rfl) (hpl : (backTo pos (starEach es A.X.env)).any (·.1) = false := by rfl) :
    EX A G (.Call (.Name x p) (e :: es) [] pos) r (fun p => Res.bind (f p) fun y => Res.bind (ofO (k y.1)) fun w => .ok (w, y.2)) := by
  obtain ⟨t, ho, pr⟩ := h
  exact pe_weak (pe_callB ho hg hm hv ha (hn := hn) (hdb := hd) (he := he) (hpl := hpl)) fun o H Q q => call_core pr q
theorem ex_callTy {α β : Type} {as : ArgC α} {k : α → Option β} {r : Rt β} {T : String} {x : Str} {p pos : Pos} {e : Expr} {es : List Expr} {f : CT G → Res (α × CT G)} (h : CalT A (.type T) as k r) (hg : Gl A.X x) (hm : A.X.mg x = none) (hv : bootBuiltins x = some (.type T)) (ha : AX A G (e :: es) as f)
    (hn : x ≠ "__name__" := by decide) (hd : (x == ("__debug__" : Str)) = false := by decide) (he : starEach (e :: es) A.X.env = (false, eval e A.X.env) :: starEach es A.X.env := by rfl) (hpl : (backTo pos (starEach es A.X.env)).any (·.1) = false := by rfl) :
    EX A G (.Call (.Name x p) (e :: es) [] pos) r (fun p => Res.bind (f p) fun y => Res.bind (ofO (k y.1)) fun w => .ok (w, y.2)) := by
  obtain ⟨t, ho, pr⟩ := h
  exact pe_weak (pe_callTy ho hg hm hv ha (hn := hn) (hdb := hd) (he := he) (hpl := hpl)) fun o H Q q => call_core pr q
theorem cal_of {F : Value} {α β : Type} {as : ArgC α} {k : α → Option β} {c : Cod β} {t : List V → Hp → VK → Prop} (h : CallR A.X F t)
    (pr : ∀ (L : Lab) (H : Hp) (vs : List V) (x : α) (z : β) (Q : VK), Wf L H → as.see A.X.K (rd L H) vs x → k x = some z → (∀ v, c.see A.X.K (rd L H) v z → Q v H) → t vs H Q) : CalT A F as k (rV c) :=
  ⟨t, h, fun L H vs x z Q w h1 h2 q => pr L H vs x z Q w h1 h2 fun v hv => q v L H Ext.refl w hv⟩
theorem ct_lenK {α : Type} {c : Cod α} : CalT A (.builtin "len") (aOne (cLK c)) (fun x => some ((x.length : Nat) : Int)) (rV cI) := cal_of call_len_seq fun L H vs x z Q w h1 h2 q => by
  obtain ⟨v, rfl, a, ws, rfl, hs, hl, hp⟩ := h1
  cases h2
  exact ⟨a, ws, rfl, .inl (rd_sub.seq hs), q _ (by show V.int _ = V.int _; rw [paired_len hp])⟩
theorem ct_lenL {α : Type} {c : Cod α} : CalT A (.builtin "len") (aOne (cL c)) (fun x => some ((x.length : Nat) : Int)) (rV cI) := cal_of call_len_seq fun L H vs x z Q w h1 h2 q => by
  obtain ⟨v, rfl, a, ws, rfl, hs, hl, hp⟩ := h1
  cases h2
  exact ⟨a, ws, rfl, .inl (SqL.of (rd_sub _ _ hs)), q _ (by show V.int _ = V.int _; rw [paired_len hp])⟩
theorem ct_lenT {α : Type} {c : Cod α} : CalT A (.builtin "len") (aOne (cTV c)) (fun x => some ((x.length : Nat) : Int)) (rV cI) := cal_of call_len_seq fun L H vs x z Q w h1 h2 q => by
  obtain ⟨v, rfl, a, ws, rfl, hs, hl, hp⟩ := h1
  cases h2
  exact ⟨a, ws, rfl, .inr (hs.same rd_sub).sq, q _ (by show V.int _ = V.int _; rw [paired_len hp])⟩
theorem ct_lenS : CalT A (.builtin "len") (aOne cS) (fun x => some ((x.length : Nat) : Int)) (rV cI) := cal_of call_len fun L H vs x z Q w h1 h2 q => by
  obtain ⟨v, rfl, rfl, h3, h4⟩ := h1
  cases h2
  exact ⟨_, _, rfl, ⟨h4, rfl⟩, q _ rfl⟩
theorem ct_intI : CalT A (.type "int") (aOne cI) (fun x => some x) (rV cI) := cal_of call_int1 fun L H vs x z Q w h1 h2 q => by
  obtain ⟨v, rfl, rfl⟩ := h1
  cases h2
  exact .inl ⟨_, rfl, q _ rfl⟩
theorem ct_intB : CalT A (.type "int") (aOne cB) (fun x => some (if x then (1 : Int) else 0)) (rV cI) := cal_of call_int1 fun L H vs x z Q w h1 h2 q => by
  obtain ⟨v, rfl, rfl⟩ := h1
  cases h2
  exact .inr ⟨_, rfl, q _ rfl⟩
theorem ct_abs : CalT A (.builtin "abs") (aOne cI) (fun x => some (if x < 0 then -x else x)) (rV cI) := cal_of call_abs fun L H vs x z Q w h1 h2 q => by
  obtain ⟨v, rfl, rfl⟩ := h1
  cases h2
  exact ⟨_, rfl, q _ rfl⟩
theorem ct_max2 : CalT A (.builtin "max") (aCons cI (aOne cI)) (fun x => some (if x.2 > x.1 then x.2 else x.1)) (rV cI) := cal_of (call_max2 A.calm) fun L H vs x z Q w h1 h2 q => by
  obtain ⟨v, _, rfl, rfl, v', rfl, rfl⟩ := h1
  cases h2
  exact ⟨_, _, rfl, q _ rfl⟩
theorem ct_min2 : CalT A (.builtin "min") (aCons cI (aOne cI)) (fun x => some (if x.2 < x.1 then x.2 else x.1)) (rV cI) := cal_of (call_min2 A.calm) fun L H vs x z Q w h1 h2 q => by
  obtain ⟨v, _, rfl, rfl, v', rfl, rfl⟩ := h1
  cases h2
  exact ⟨_, _, rfl, q _ rfl⟩
theorem bls_of {A : Amb} {K : Frag} {R : Hp} : ∀ {vs : List V} {xs : List Bool}, Paired (fun v x => cB.see K R v x) vs xs → vs = xs.map V.bl
  | _, _, .nil => rfl
  | _, _, .cons r t => by cases r; rw [bls_of (A := A) t]; rfl
theorem ct_any : CalT A (.builtin "any") (aOne (cL cB)) (fun x => some (x.any id)) (rV cB) := cal_of (cr_any A.calm) fun L H vs x z Q w h1 h2 q => by
  obtain ⟨v, rfl, a, ws, rfl, hs, hl, hp⟩ := h1
  cases h2
  exact ⟨a, x, rfl, by rw [← bls_of (A := A) hp]; exact SqL.of (rd_sub _ _ hs), q _ rfl⟩
theorem ct_all : CalT A (.builtin "all") (aOne (cL cB)) (fun x => some (x.all id)) (rV cB) := cal_of (cr_all A.calm) fun L H vs x z Q w h1 h2 q => by
  obtain ⟨v, rfl, a, ws, rfl, hs, hl, hp⟩ := h1
  cases h2
  exact ⟨a, x, rfl, by rw [← bls_of (A := A) hp]; exact SqL.of (rd_sub _ _ hs), q _ rfl⟩

/-! ### subscripts -/
theorem ex_ixK {α : Type} {c : Cod α} {a b : Expr} {pos : Pos} {f : CT G → Res (List α × CT G)} {g : CT G → Res (Int × CT G)} (ha : EX A G a (rV (cLK c)) f) (hb : EX A G b (rV cI) g) (hs : PlainIx b) :
    EX A G (.Subscript a b pos) (rV c) (fun p => Res.bind (f p) fun y => Res.bind (g y.2) fun z => Res.bind (ofO (atI y.1 z.1)) fun w => .ok (w, z.2)) :=
  pe_weak (pe_ix ix_list ha hb hs) fun o H Q q => bin_core (r := rV c) (fun L H vx vy x y z Q w h1 h2 h3 q => by
    obtain ⟨a, vs, rfl, hq, hl, hp⟩ := h1
    cases h2
    obtain ⟨v, e, hv⟩ := paired_at hp h3
    exact ⟨a, vs, _, v, rfl, rfl, rd_sub.seq hq, e, q v L H Ext.refl w hv⟩) q
theorem ex_ixL {α : Type} {c : Cod α} {a b : Expr} {pos : Pos} {f : CT G → Res (List α × CT G)} {g : CT G → Res (Int × CT G)} (ha : EX A G a (rV (cL c)) f) (hb : EX A G b (rV cI) g) (hs : PlainIx b) :
    EX A G (.Subscript a b pos) (rV c) (fun p => Res.bind (f p) fun y => Res.bind (g y.2) fun z => Res.bind (ofO (atI y.1 z.1)) fun w => .ok (w, z.2)) :=
  pe_weak (pe_ix ix_list ha hb hs) fun o H Q q => bin_core (r := rV c) (fun L H vx vy x y z Q w h1 h2 h3 q => by
    obtain ⟨a, vs, rfl, hq, hl, hp⟩ := h1
    cases h2
    obtain ⟨v, e, hv⟩ := paired_at hp h3
    exact ⟨a, vs, _, v, rfl, rfl, SqL.of (rd_sub _ _ hq), e, q v L H Ext.refl w hv⟩) q
theorem ex_ixT {α : Type} {c : Cod α} {a b : Expr} {pos : Pos} {f : CT G → Res (List α × CT G)} {g : CT G → Res (Int × CT G)} (ha : EX A G a (rV (cTV c)) f) (hb : EX A G b (rV cI) g) (hs : PlainIx b) :
    EX A G (.Subscript a b pos) (rV c) (fun p => Res.bind (f p) fun y => Res.bind (g y.2) fun z => Res.bind (ofO (atI y.1 z.1)) fun w => .ok (w, z.2)) :=
  pe_weak (pe_ix ix_tup ha hb hs) fun o H Q q => bin_core (r := rV c) (fun L H vx vy x y z Q w h1 h2 h3 q => by
    obtain ⟨a, vs, rfl, hq, hl, hp⟩ := h1
    cases h2
    obtain ⟨v, e, hv⟩ := paired_at hp h3
    exact ⟨a, vs, _, v, rfl, rfl, (hq.same rd_sub).sq, e, q v L H Ext.refl w hv⟩) q
def sAt (z : Str) (i : Int) : Option Str := (atI z.cps.toList i).map fun c => ⟨#[c]⟩
theorem ex_ixS {a b : Expr} {pos : Pos} {f : CT G → Res (Str × CT G)} {g : CT G → Res (Int × CT G)} (ha : EX A G a (rV cS) f) (hb : EX A G b (rV cI) g) (hs : PlainIx b) :
    EX A G (.Subscript a b pos) (rV cS) (fun p => Res.bind (f p) fun y => Res.bind (g y.2) fun z => Res.bind (ofO (sAt y.1 z.1)) fun w => .ok (w, z.2)) :=
  pe_weak (pe_ix ix_str ha hb hs) fun o H Q q => bin_core (r := rV cS) (fun L H vx vy x y z Q w h1 h2 h3 q => by
    obtain ⟨rfl, hk, hl⟩ := h1
    cases h2
    unfold sAt at h3
    cases e : atI x.cps.toList y with
    | none => rw [e] at h3; cases h3
    | some c =>
      rw [e] at h3; cases h3
      refine ⟨x, y, c, rfl, rfl, hl, e, q _ L H Ext.refl w ⟨rfl, ?_, show 1 ≤ sizeLine by decide⟩⟩
      obtain ⟨j, _, hj, _⟩ := atI_get e
      have hm : c ∈ x.cps := by simpa using List.mem_of_getElem? hj
      have := Array.all_eq_true_iff_forall_mem.mp hk c hm
      simpa [PyData.strOk] using this) q
/-- a place of a tuple or list with written places -/
def Pj {α β : Type} (as : ArgC α) (j : Nat) (c : Cod β) (g : α → β) : Prop := ∀ K R vs x, as.see K R vs x → ∃ v, vs[j]? = some v ∧ c.see K R v (g x)
theorem pj_one {α : Type} {c : Cod α} : Pj (aOne c) 0 c id := fun K R vs x ⟨v, e, h⟩ => ⟨v, by rw [e]; rfl, h⟩
theorem pj_z {α β : Type} {c : Cod α} {as : ArgC β} : Pj (aCons c as) 0 c Prod.fst := fun K R vs x ⟨v, ws, e, h, _⟩ => ⟨v, by rw [e]; rfl, h⟩
theorem pj_s {α β γ : Type} {c : Cod α} {as : ArgC β} {j : Nat} {d : Cod γ} {g : β → γ} (h : Pj as j d g) : Pj (aCons c as) (j + 1) d (fun x => g x.2) := fun K R vs x ⟨v, ws, e, _, q⟩ => by
  obtain ⟨u, h1, h2⟩ := h K R ws x.2 q
  exact ⟨u, by rw [e]; simpa using h1, h2⟩
theorem ex_pj {α β : Type} {as : ArgC α} {c : Cod β} {j : Nat} {i : Int} {gj : α → β} {a : Expr} {kk p2 pos} {f : CT G → Res (α × CT G)} (hj : Pj as j c gj) (hi : i = (j : Int)) (ha : EX A G a (rV (cT as)) f) :
    EX A G (.Subscript a (.Constant (.int i) kk p2) pos) (rV c) (fun p => Res.bind (f p) fun y => .ok (gj y.1, y.2)) :=
  pe_weak (pe_ix ix_tup ha pe_int (fun _ _ => rfl)) fun o H Q ⟨p, L, w, cr, k⟩ => run1 w cr k fun x p' v L' H' st w' c' rl gd => by
    obtain ⟨a, vs, rfl, hq, hs⟩ := rl
    obtain ⟨u, e, hu⟩ := hj _ _ _ _ hs
    exact ⟨a, vs, _, u, rfl, rfl, (hq.same rd_sub).sq, by rw [hi]; exact atI_nat e, gd u L' H' st w' c' hu⟩
theorem ex_pjH {α β : Type} {as : ArgC α} {c : Cod β} {j : Nat} {i : Int} {gj : α → β} {a : Expr} {kk p2 pos} {f : CT G → Res (α × CT G)} (hj : Pj as j c gj) (hi : i = (j : Int)) (ha : EX A G a (rV (cH as)) f) :
    EX A G (.Subscript a (.Constant (.int i) kk p2) pos) (rV c) (fun p => Res.bind (f p) fun y => .ok (gj y.1, y.2)) :=
  pe_weak (pe_ix ix_list ha pe_int (fun _ _ => rfl)) fun o H Q ⟨p, L, w, cr, k⟩ => run1 w cr k fun x p' v L' H' st w' c' rl gd => by
    obtain ⟨a, vs, rfl, hq, hs⟩ := rl
    obtain ⟨u, e, hu⟩ := hj _ _ _ _ hs
    exact ⟨a, vs, _, u, rfl, rfl, rd_sub.seq hq, by rw [hi]; exact atI_nat e, gd u L' H' st w' c' hu⟩

/-! ### and, or, conditional -/
def WXj (A : Amb) (G : Ctx) (e : Expr) (f : CT G → Res (Bool × CT G)) : Prop := PW A.X e (tT A G f)
theorem tx_w {e : Expr} {f : CT G → Res (Bool × CT G)} (h : WXj A G e f) : TX A G e f := PW.pt h
theorem pw_weak {X : Cx} {e : Expr} {t t' : L2.TT} (h : PW X e t) (i : ∀ o H Q, t' o H Q → t o H Q) : PW X e t' := ⟨fun wh pins s o H Q I q => h.run wh pins s o H Q I (i _ _ _ q)⟩
theorem wx_and1 {a : Expr} {pos : Pos} {f : CT G → Res (Bool × CT G)} (h : TX A G a f) : WXj A G (.BoolOp .And [a] pos) f := pw_and1 h
theorem wx_or1 {a : Expr} {pos : Pos} {f : CT G → Res (Bool × CT G)} (h : TX A G a f) : WXj A G (.BoolOp .Or [a] pos) f := pw_or1 h
theorem wx_and {a b : Expr} {rest : List Expr} {pos : Pos} {f g : CT G → Res (Bool × CT G)} (ha : TX A G a f) (hb : WXj A G (.BoolOp .And (b :: rest) pos) g) :
    WXj A G (.BoolOp .And (a :: b :: rest) pos) (fun p => Res.bind (f p) fun y => if y.1 = true then g y.2 else .ok (false, y.2)) :=
  pw_weak (pw_and ha hb) fun o H Q ⟨p, L, w, cr, kk⟩ => ⟨p, L, w, cr, kk.bind.imp fun y _ gd L' H' s w' c' => by
    obtain ⟨b, p'⟩ := y
    cases b with
    | true => exact iteT ⟨p', L', w', c', (gd.step s).imp fun z _ q L2 H2 s2 w2 c2 => q L2 H2 (s.trans s2) w2 c2⟩
    | false => exact iteF (gd L' H' s w' c')⟩
theorem wx_or {a b : Expr} {rest : List Expr} {pos : Pos} {f g : CT G → Res (Bool × CT G)} (ha : TX A G a f) (hb : WXj A G (.BoolOp .Or (b :: rest) pos) g) :
    WXj A G (.BoolOp .Or (a :: b :: rest) pos) (fun p => Res.bind (f p) fun y => if y.1 = true then .ok (true, y.2) else g y.2) :=
  pw_weak (pw_or ha hb) fun o H Q ⟨p, L, w, cr, kk⟩ => ⟨p, L, w, cr, kk.bind.imp fun y _ gd L' H' s w' c' => by
    obtain ⟨b, p'⟩ := y
    cases b with
    | true => exact iteT (gd L' H' s w' c')
    | false => exact iteF ⟨p', L', w', c', (gd.step s).imp fun z _ q L2 H2 s2 w2 c2 => q L2 H2 (s.trans s2) w2 c2⟩⟩
theorem ex_if {α : Type} {r : Rt α} {t a b : Expr} {pos : Pos} {ft : CT G → Res (Bool × CT G)} {f g : CT G → Res (α × CT G)} (ht : TX A G t ft) (ha : EX A G a r f) (hb : EX A G b r g) :
    EX A G (.IfExp t a b pos) r (fun p => Res.bind (ft p) fun y => if y.1 = true then f y.2 else g y.2) :=
  pe_weak (pe_ifExp ht ha hb) fun o H Q ⟨p, L, w, cr, kk⟩ => ⟨p, L, w, cr, kk.bind.imp fun y _ gd L' H' s w' c' => by
    obtain ⟨b, p'⟩ := y
    cases b with
    | true => exact iteT ⟨p', L', w', c', (gd.step s).imp fun z _ q v L2 H2 s2 w2 c2 rl => q v L2 H2 (s.trans s2) w2 c2 (r.pre _ _ _ _ _ _ _ _ _ s rl)⟩
    | false => exact iteF ⟨p', L', w', c', (gd.step s).imp fun z _ q v L2 H2 s2 w2 c2 rl => q v L2 H2 (s.trans s2) w2 c2 (r.pre _ _ _ _ _ _ _ _ _ s rl)⟩⟩
theorem ex_and1 {op} {α : Type} {r : Rt α} {a : Expr} {pos : Pos} {f : CT G → Res (α × CT G)} (h : EX A G a r f) : EX A G (.BoolOp op [a] pos) r f := pe_one h
theorem ex_and {a b : Expr} {rest : List Expr} {pos : Pos} {f g : CT G → Res (Bool × CT G)} (ha : EX A G a (rV cB) f) (hb : EX A G (.BoolOp .And (b :: rest) pos) (rV cB) g) :
    EX A G (.BoolOp .And (a :: b :: rest) pos) (rV cB) (fun p => Res.bind (f p) fun y => if y.1 = true then g y.2 else .ok (false, y.2)) :=
  pe_weak (pe_and ha hb) fun o H Q ⟨p, L, w, cr, kk⟩ => run1 w cr kk fun x p' v L' H' s w' c' rl gd => by
    cases rl
    refine ⟨x, rfl, ?_⟩
    cases x with
    | true => exact iteT ⟨p', L', w', c', (show Good A (g p') L' H' o _ from gd).imp fun z _ q v L2 H2 s2 w2 c2 rl => q v L2 H2 (s.trans s2) w2 c2 rl⟩
    | false => exact iteF ((show ∀ v L' H', _ from gd) _ L' H' s w' c' rfl)
theorem ex_or {a b : Expr} {rest : List Expr} {pos : Pos} {f g : CT G → Res (Bool × CT G)} (ha : EX A G a (rV cB) f) (hb : EX A G (.BoolOp .Or (b :: rest) pos) (rV cB) g) :
    EX A G (.BoolOp .Or (a :: b :: rest) pos) (rV cB) (fun p => Res.bind (f p) fun y => if y.1 = true then .ok (true, y.2) else g y.2) :=
  pe_weak (pe_or ha hb) fun o H Q ⟨p, L, w, cr, kk⟩ => run1 w cr kk fun x p' v L' H' s w' c' rl gd => by
    cases rl
    refine ⟨x, rfl, ?_⟩
    cases x with
    | true => exact iteT ((show ∀ v L' H', _ from gd) _ L' H' s w' c' rfl)
    | false => exact iteF ⟨p', L', w', c', (show Good A (g p') L' H' o _ from gd).imp fun z _ q v L2 H2 s2 w2 c2 rl => q v L2 H2 (s.trans s2) w2 c2 rl⟩
theorem ex_not {a : Expr} {pos : Pos} {f : CT G → Res (Bool × CT G)} (h : EX A G a (rV cB) f) : EX A G (.UnaryOp .Not a pos) (rV cB) (fun p => Res.bind (f p) fun y => .ok (!y.1, y.2)) :=
  pe_weak (pe_not h) fun o H Q ⟨p, L, w, cr, kk⟩ => run1 w cr kk fun x p' v L' H' s w' c' rl gd => by
    cases rl
    exact ⟨x, rfl, gd _ L' H' s w' c' rfl⟩
/-- a < b < c -/
theorem chain_core {α β γ : Type} {c : Cod α} {d : Cod β} {d' : Cod γ} {k1 : α → β → Option Bool} {k2 : β → γ → Option Bool} {r1 r2 : R2} {f : CT G → Res (α × CT G)} {g : CT G → Res (β × CT G)} {h : CT G → Res (γ × CT G)} {o : St} {H : Hp} {Q : VK}
    (p1 : ∀ (L : Lab) (H : Hp) (vx vy : V) (x : α) (y : β) (z : Bool) (Q : VK), Wf L H → c.see A.X.K (rd L H) vx x → d.see A.X.K (rd L H) vy y → k1 x y = some z → (∀ v L' H', Ext L H L' H' → Wf L' H' → (rV cB).rel A.X.K L H L' H' v z → Q v H') → r1 vx vy H Q)
    (p2 : ∀ (L : Lab) (H : Hp) (vx vy : V) (x : β) (y : γ) (z : Bool) (Q : VK), Wf L H → d.see A.X.K (rd L H) vx x → d'.see A.X.K (rd L H) vy y → k2 x y = some z → (∀ v L' H', Ext L H L' H' → Wf L' H' → (rV cB).rel A.X.K L H L' H' v z → Q v H') → r2 vx vy H Q)
    (q : tE A G (rV cB) (fun p => Res.bind (f p) fun y => Res.bind (g y.2) fun z => Res.bind (ofO (k1 y.1 z.1)) fun w => if w = true then Res.bind (h z.2) fun u => Res.bind (ofO (k2 z.1 u.1)) fun w' => .ok (w', u.2) else .ok (false, z.2)) o H Q) :
    tChain r1 r2 (tE A G (rV c) f) (tE A G (rV d) g) (tE A G (rV d') h) o H Q := by
  obtain ⟨p, L, w, cr, kk⟩ := q
  refine run1 w cr kk fun x p1' vx L1 H1 s1 w1 c1 rl1 g1 => ?_
  refine run1 w1 c1 g1 fun y p2' vy L2 H2 s2 w2 c2 rl2 g2 => ?_
  obtain ⟨z, e, g3⟩ := good_ofO g2
  refine p1 L2 H2 vx vy x y z _ w2 (c.mono _ _ _ _ _ s2.rd rl1) rl2 e fun v L3 H3 ex w3 rl => ?_
  cases rl
  refine ⟨z, rfl, ?_⟩
  have c3 := c2.ext w2 ex
  have s3 := (s1.trans s2).trans ex.stp
  cases z with
  | false => exact iteF ((show ∀ v L' H', _ from g3) _ L3 H3 s3 w3 c3 rfl)
  | true =>
    refine iteT (run1 w3 c3 ((show Good A (Res.bind (h p2') _) L2 H2 o _ from g3).step ex.stp) fun u p4 vu L4 H4 s4 w4 c4 rl4 g4 => ?_)
    obtain ⟨z', e', g5⟩ := good_ofO g4
    exact p2 L4 H4 vy vu y u z' Q w4 (d.mono _ _ _ _ _ (ex.stp.trans s4).rd rl2) rl4 e' fun v L5 H5 ex' w5 rl5 => g5 v L5 H5 ((s3.trans s4).trans ex'.stp) w5 (c4.ext w4 ex') rl5
theorem ex_chain {α β γ : Type} {c : Cod α} {d : Cod β} {d' : Cod γ} {k1 : α → β → Option Bool} {k2 : β → γ → Option Bool} {op op' : CmpOp} {ea eb ec : Expr} {pos : Pos} {f : CT G → Res (α × CT G)} {g : CT G → Res (β × CT G)} {h : CT G → Res (γ × CT G)}
    (h1 : OpT A (compareOp op) c d k1 (rV cB)) (h2 : OpT A (compareOp op') d d' k2 (rV cB)) (ha : EX A G ea (rV c) f) (hb : EX A G eb (rV d) g) (hc : EX A G ec (rV d') h) (hm : lastMarks [op, op'] [eb, ec] = false) :
    EX A G (.Compare ea [op, op'] [eb, ec] pos) (rV cB) (fun p => Res.bind (f p) fun y => Res.bind (g y.2) fun z => Res.bind (ofO (k1 y.1 z.1)) fun w => if w = true then Res.bind (h z.2) fun u => Res.bind (ofO (k2 z.1 u.1)) fun w' => .ok (w', u.2) else .ok (false, z.2)) := by
  obtain ⟨r1, o1, p1⟩ := h1
  obtain ⟨r2, o2, p2⟩ := h2
  exact pe_weak (pe_chain o1 o2 ha hb hc (hm := hm)) fun o H Q q => chain_core p1 p2 q
theorem tx_chain {α β γ : Type} {c : Cod α} {d : Cod β} {d' : Cod γ} {k1 : α → β → Option Bool} {k2 : β → γ → Option Bool} {op op' : CmpOp} {ea eb ec : Expr} {pos : Pos} {f : CT G → Res (α × CT G)} {g : CT G → Res (β × CT G)} {h : CT G → Res (γ × CT G)}
    (h1 : OpT A (compareOp op) c d k1 (rV cB)) (h2 : OpT A (compareOp op') d d' k2 (rV cB)) (ha : EX A G ea (rV c) f) (hb : EX A G eb (rV d) g) (hc : EX A G ec (rV d') h) (hm : lastMarks [op, op'] [eb, ec] = false) :
    TX A G (.Compare ea [op, op'] [eb, ec] pos) (fun p => Res.bind (f p) fun y => Res.bind (g y.2) fun z => Res.bind (ofO (k1 y.1 z.1)) fun w => if w = true then Res.bind (h z.2) fun u => Res.bind (ofO (k2 z.1 u.1)) fun w' => .ok (w', u.2) else .ok (false, z.2)) := by
  obtain ⟨r1, o1, p1⟩ := h1
  obtain ⟨r2, o2, p2⟩ := h2
  exact pt_weak (pt_chain o1 o2 ha hb hc (hm := hm)) fun o H Q q => chain_core p1 p2 (tT_of q)
end
end AC
set_option Elab.async false
set_option linter.all false
set_option maxRecDepth 100000
/-! TL4: what is walked, targets, comprehensions, statements, loops. -/
namespace AC
open PySem L2 PyProof

inductive Out (β ρ : Type) where
  | nx (b : β) | rt (r : ρ)
def Out.seq {β β' ρ : Type} (g : β → Res (Out β' ρ)) : Out β ρ → Res (Out β' ρ)
  | .nx q => g q
  | .rt r => .ok (.rt r)
/-- what a def gives back -/
structure Rr (ρ : Type) where
  rel : Frag → Lab → Hp → Lab → Hp → V → ρ → Prop
  pre : ∀ (K : Frag) (L : Lab) (H : Hp) (L1 : Lab) (H1 : Hp) (L2 : Lab) (H2 : Hp) (v : V) (x : ρ), Stp L H L1 H1 → rel K L1 H1 L2 H2 v x → rel K L H L2 H2 v x
def rrP {α : Type} (r : Rt α) : Rr α := ⟨r.rel, r.pre⟩
/-- with a list (or the like) that is changed: the first argument -/
def rrI {α κ : Type} (r : Rt α) (oc : OCod κ) (v0 : V) : Rr (α × κ) := ⟨fun K L H L' H' v x => r.rel K L H L' H' v x.1 ∧ oc.own K (rd L' H') (sub L' 1) H' [] v0 x.2, fun K L H L1 H1 L2 H2 v x s h => ⟨r.pre _ _ _ _ _ _ _ _ _ s h.1, h.2⟩⟩

/-! ### slots that change -/
structure Upd (G : Ctx) (i : Nat) (s : Slot) (G' : Ctx) (put : CT G → s.T → CT G') : Prop where
  ok : ∀ (K : Frag) (k : Nat) (p : CT G) (x : s.T) (v : V) (L : Lab) (H : Hp) (o : St), CR K k G p L H o → s.rel K (k + i) x L H (some (some v)) → CR K k G' (put p x) L H (o.set (k + i) (some v))
theorem CR.len {K : Frag} {L : Lab} {H : Hp} {o : St} : ∀ {k : Nat} {G : Ctx} {p : CT G}, CR K k G p L H o → k + G.length ≤ o.length
  | k, [], _, c => c
  | k, s :: G, p, c => by
    have := CR.len c.2
    rw [List.length_cons]
    omega
theorem CR.off {K : Frag} {L : Lab} {H : Hp} {o : St} {j : Nat} {v : Option V} : ∀ {k : Nat} {G : Ctx} {p : CT G}, j < k → CR K k G p L H o → CR K k G p L H (o.set j v)
  | k, [], _, h, c => by
    show k ≤ (o.set j v).length
    rw [List.length_set]
    exact c
  | k, s :: G, p, h, c => ⟨by rw [List.getElem?_set_ne (by omega)]; exact c.1, CR.off (by omega) c.2⟩
theorem up_z {G : Ctx} {s t : Slot} : Upd (t :: G) 0 s (s :: G) (fun p x => (x, p.2)) := ⟨fun K k p x v L H o c r => by
  have hl := CR.len c
  rw [List.length_cons] at hl
  exact ⟨by rw [Nat.add_zero, List.getElem?_set_self (by omega)]; exact r, CR.off (by omega) c.2⟩⟩
theorem up_s {G G' : Ctx} {i : Nat} {s t : Slot} {put : CT G → s.T → CT G'} (h : Upd G i s G' put) : Upd (t :: G) (i + 1) s (t :: G') (fun p x => (p.1, put p.2 x)) := ⟨fun K k p x v L H o c r => by
  rw [show k + (i + 1) = k + 1 + i by omega] at r ⊢
  exact ⟨by rw [List.getElem?_set_ne (by omega)]; exact c.1, h.ok K (k + 1) p.2 x v L H o c.2 r⟩⟩
/-- knowing less -/
structure SubC (G G' : Ctx) (g : CT G → CT G') : Prop where
  ok : ∀ (K : Frag) (k : Nat) (p : CT G) (L : Lab) (H : Hp) (o : St), Wf L H → CR K k G p L H o → ∃ L', (∀ a, L' a = L a ∨ ((∃ j l, k ≤ j ∧ L a = some (j + 1, l)) ∧ L' a = some (0, []))) ∧ CR K k G' (g p) L' H o
theorem sc_id {G : Ctx} : SubC G G id := ⟨fun K k p L H o w c => ⟨L, fun _ => .inl rfl, c⟩⟩
theorem same_of_frz {L L' : Lab} {H : Hp} {k : Nat} (h : ∀ a, L' a = L a ∨ ((∃ j l, k ≤ j ∧ L a = some (j + 1, l)) ∧ L' a = some (0, []))) : Same (rd L H) (rd L' H) := fun a o q => by
  obtain ⟨⟨l, e1⟩, e2⟩ := rd_of q
  rcases h a with z | ⟨⟨j, l', _, z⟩, _⟩
  · exact rd_mk (z.trans e1) e2
  · rw [z] at e1; cases e1
theorem wf_of_frz {L L' : Lab} {H : Hp} {k : Nat} (w : Wf L H) (h : ∀ a, L' a = L a ∨ ((∃ j l, k ≤ j ∧ L a = some (j + 1, l)) ∧ L' a = some (0, []))) : Wf L' H := ⟨fun a ha => by
  rcases h a with z | ⟨⟨j, l', _, z⟩, _⟩
  · exact w.dom a (by rw [← z]; exact ha)
  · exact w.dom a (by rw [z]; simp), fun a j l e => by
  rcases h a with z | ⟨_, z⟩
  · exact w.soft a j l (z.symm.trans e)
  · rw [z] at e; cases e⟩
theorem stp_of_frz {L L' : Lab} {H : Hp} {k : Nat} (h : ∀ a, L' a = L a ∨ ((∃ j l, k ≤ j ∧ L a = some (j + 1, l)) ∧ L' a = some (0, []))) : Stp L H L' H := fun a f => by
  rcases h a with z | ⟨⟨j, l', _, z⟩, _⟩
  · exact ⟨z, rfl⟩
  · rcases f.2 with q | ⟨l, q⟩
    · rw [q] at z; cases z
    · rw [q] at z; cases z
theorem sc_same {s : Slot} {G G' : Ctx} {g : CT G → CT G'} (h : SubC G G' g) : SubC (s :: G) (s :: G') (fun p => (p.1, g p.2)) := ⟨fun K k p L H o w c => by
  obtain ⟨L', h1, h2⟩ := h.ok K (k + 1) p.2 L H o w c.2
  have h1' : ∀ a, L' a = L a ∨ ((∃ j l, k ≤ j ∧ L a = some (j + 1, l)) ∧ L' a = some (0, [])) := fun a => (h1 a).imp id fun ⟨⟨j, l, hj, z⟩, q⟩ => ⟨⟨j, l, by omega, z⟩, q⟩
  refine ⟨L', h1', s.keep K k p.1 L H L' H _ (same_of_frz h1') (fun a l e => ?_) c.1, h2⟩
  rcases h1 a with z | ⟨⟨j, l', hj, z⟩, _⟩
  · exact ⟨z, rfl⟩
  · rw [e] at z; cases z; omega⟩
theorem sc_any {s : Slot} {G G' : Ctx} {g : CT G → CT G'} (h : SubC G G' g) : SubC (s :: G) (sAny :: G') (fun p => ((), g p.2)) := ⟨fun K k p L H o w c => by
  obtain ⟨L', h1, h2⟩ := h.ok K (k + 1) p.2 L H o w c.2
  exact ⟨L', fun a => (h1 a).imp id fun ⟨⟨j, l, hj, z⟩, q⟩ => ⟨⟨j, l, by omega, z⟩, q⟩, trivial, h2⟩⟩
theorem sc_val {α β : Type} {c : Cod α} {d : Cod β} {f : α → β} {G G' : Ctx} {g : CT G → CT G'} (s : Sub c d f) (h : SubC G G' g) : SubC (sVal c :: G) (sVal d :: G') (fun p => (f p.1, g p.2)) := ⟨fun K k p L H o w c => by
  obtain ⟨L', h1, h2⟩ := (sc_same (s := sVal _) h).ok K k p L H o w c
  obtain ⟨⟨v, e, q⟩, h4⟩ := h2
  exact ⟨L', h1, ⟨v, e, s _ _ _ _ q⟩, h4⟩⟩
/-- a list of one's own stays as it is from now on -/
theorem sc_frz {α : Type} {P : V → Prop} {oc : OCod α} {c : Cod α} {G G' : Ctx} {g : CT G → CT G'} (fz : Frz oc c) (h : SubC G G' g) : SubC (sOwn P oc :: G) (sVal c :: G') (fun p => (p.1, g p.2)) := ⟨fun K k p L H o w cr => by
  obtain ⟨⟨v, _, e, q⟩, c2⟩ := cr
  obtain ⟨L', h1, h2⟩ := h.ok K (k + 1) p.2 L H o w c2
  have hk : ∀ a l, L a = some (k + 1, l) → L' a = some (k + 1, l) := fun a l ea => by
    rcases h1 a with z | ⟨⟨j, l', hj, z⟩, _⟩
    · exact z.trans ea
    · rw [ea] at z; cases z; omega
  have hs : Same (rd L H) (rd L' H) := same_of_frz (k := k + 1) h1
  refine ⟨fun a => match L' a with | some (j, l) => if j = k + 1 then some (0, []) else some (j, l) | none => none, fun a => ?_, ⟨v, e, ?_⟩, ?_⟩
  · show (match L' a with | some (j, l) => if j = k + 1 then some (0, []) else some (j, l) | none => none) = _ ∨ (_ ∧ (match L' a with | some (j, l) => if j = k + 1 then some (0, []) else some (j, l) | none => none) = _)
    rcases h1 a with z | ⟨⟨j, l', hj, z⟩, q0⟩
    · cases ea : L' a with
      | none => left; simp only; rw [← z, ea]
      | some x =>
        obtain ⟨j, l⟩ := x
        by_cases ej : j = k + 1
        · right
          simp only [ej, if_true]
          exact ⟨⟨k, l, Nat.le_refl _, by rw [← z, ea, ej]⟩, trivial⟩
        · left
          simp only [if_neg ej]
          rw [← z, ea]
    · right
      rw [q0]
      exact ⟨⟨j, l', by omega, z⟩, by simp⟩
  · refine fz K _ _ _ H v p.1 (fun a ob qa => ?_) (fun a m em _ => ?_) q
    · obtain ⟨⟨l, e1⟩, e2⟩ := rd_of (hs a ob qa)
      refine rd_mk (l := l) ?_ e2
      simp only [e1]
      rw [if_neg (by omega)]
    · have e1 := hk a m (sub_of em)
      unfold rd
      simp only [e1, if_true]
  · refine h2.keep (fun a ob qa => ?_) fun a j l hj ea => ?_
    · obtain ⟨⟨l, e1⟩, e2⟩ := rd_of qa
      refine rd_mk (l := l) ?_ e2
      simp only [e1]
      rw [if_neg (by omega)]
    · refine ⟨?_, rfl⟩
      show (match L' a with | some (j, l) => if j = k + 1 then some (0, []) else some (j, l) | none => none) = L' a
      simp only [ea]
      rw [if_neg (by omega)]⟩
theorem SubC.comp {G G1 G2 : Ctx} {g : CT G → CT G1} {h : CT G1 → CT G2} (a : SubC G G1 g) (b : SubC G1 G2 h) : SubC G G2 (fun p => h (g p)) := ⟨fun K k p L H o w c => by
  obtain ⟨L1, h1, h2⟩ := a.ok K k p L H o w c
  obtain ⟨L2, h3, h4⟩ := b.ok K k _ L1 H o (wf_of_frz w h1) h2
  refine ⟨L2, fun x => ?_, h4⟩
  rcases h3 x with z | ⟨⟨j, l, hj, z⟩, q⟩
  · rcases h1 x with y | ⟨y, y'⟩
    · exact .inl (z.trans y)
    · exact .inr ⟨y, z.trans y'⟩
  · rcases h1 x with y | ⟨_, y'⟩
    · exact .inr ⟨⟨j, l, hj, y.symm.trans z⟩, q⟩
    · rw [y'] at z; cases z⟩

section
variable {A : Amb} {G G' : Ctx} {ρ : Type} {R : Rr ρ}
/-! ### statements -/
structure Keeps (S : Nat → Prop) (o o' : St) : Prop where
  at_ : ∀ i, ¬ S i → o'[i]? = o[i]?
  len : o'.length = o.length
theorem Keeps.refl {S : Nat → Prop} {o : St} : Keeps S o o := ⟨fun _ _ => rfl, rfl⟩
theorem Keeps.trans {S : Nat → Prop} {o o1 o2 : St} (a : Keeps S o o1) (b : Keeps S o1 o2) : Keeps S o o2 := ⟨fun i h => (b.at_ i h).trans (a.at_ i h), b.len.trans a.len⟩
theorem Keeps.set {S : Nat → Prop} {o : St} {i : Nat} {v : Option V} (hS : S i) : Keeps S o (o.set i v) := ⟨fun j hj => List.getElem?_set_ne fun (e : i = j) => hj (e ▸ hS), List.length_set⟩
def nxP (A : Amb) (G' : Ctx) (R : Rr ρ) (L : Lab) (H : Hp) (o : St) (D : Ends) : Out (CT G') ρ → Prop
  | .nx p' => ∀ o' L' H', Stp L H L' H' → Wf L' H' → CR A.X.K 0 G' p' L' H' o' → Keeps A.S o o' → D.nx o' H'
  | .rt r => ∀ v L' H', Stp L H L' H' → Wf L' H' → R.rel A.X.K L H L' H' v r → D.rt v H'
def tS (A : Amb) (G G' : Ctx) (R : Rr ρ) (f : CT G → Res (Out (CT G') ρ)) : L2.TS := fun D o H =>
  ∃ (p : CT G) (L : Lab), Wf L H ∧ CR A.X.K 0 G p L H o ∧ Good A (f p) L H o (nxP A G' R L H o D)
def SX (A : Amb) (G : Ctx) (st : Stmt) (G' : Ctx) (R : Rr ρ) (f : CT G → Res (Out (CT G') ρ)) : Prop := PS A.X st (tS A G G' R f)
def BX (A : Amb) (G : Ctx) (sts : List Stmt) (G' : Ctx) (R : Rr ρ) (f : CT G → Res (Out (CT G') ρ)) : Prop := PSs A.X sts (tS A G G' R f)
theorem ps_weak {X : Cx} {st : Stmt} {t t' : L2.TS} (h : PS X st t) (i : ∀ D o H, t' D o H → t D o H) : PS X st t' := ⟨fun pins s o H D I q => h.run pins s o H D I (i _ _ _ q)⟩
theorem pss_weak {X : Cx} {sts : List Stmt} {t t' : L2.TS} (h : PSs X sts t) (i : ∀ D o H, t' D o H → t D o H) : PSs X sts t' := ⟨fun pins s o H D I q => h.run pins s o H D I (i _ _ _ q)⟩
/-- going on from a later state -/
theorem nxP.from_ {L L1 : Lab} {H H1 : Hp} {o o1 : St} {D : Ends} {y : Out (CT G') ρ} (s : Stp L H L1 H1) (k : Keeps A.S o o1) (h : nxP A G' R L H o D y) : nxP A G' R L1 H1 o1 D y := by
  cases y with
  | nx p' => exact fun o' L' H' s' w' c' k' => h o' L' H' (s.trans s') w' c' (k.trans k')
  | rt r => exact fun v L' H' s' w' rl => h v L' H' (s.trans s') w' (R.pre _ _ _ _ _ _ _ _ _ s rl)
theorem Good.from_ {α : Type} {m : Res α} {L L1 : Lab} {H H1 : Hp} {o o1 : St} {P : α → Prop} (s : Stp L H L1 H1) (k : Keeps A.S o o1) (h : Good A m L H o P) : Good A m L1 H1 o1 P := by
  cases m with
  | ok a => exact h
  | exc e => exact Amb.raises.mono s k.at_ h
  | bad => exact h
theorem bx_nil : BX A G [] G R (fun p => .ok (.nx p)) := pss_weak pss_nil fun D o H ⟨p, L, w, cr, k⟩ => k o L H Stp.refl w cr Keeps.refl
theorem bx_cons {st : Stmt} {sts : List Stmt} {G1 : Ctx} {f : CT G → Res (Out (CT G1) ρ)} {g : CT G1 → Res (Out (CT G') ρ)} (h : SX A G st G1 R f) (hr : BX A G1 sts G' R g) : BX A G (st :: sts) G' R (fun p => Res.bind (f p) (Out.seq g)) :=
  pss_weak (pss_cons h hr) fun D o H ⟨p, L, w, cr, k⟩ => ⟨p, L, w, cr, k.bind.imp fun y _ q => by
    cases y with
    | nx p' => exact fun o' L' H' s w' c' kp => ⟨p', L', w', c', (Good.from_ s kp (show Good A (g p') L H o _ from q)).imp fun z _ n => nxP.from_ s kp n⟩
    | rt r => exact q⟩
theorem bx_one {st : Stmt} {f : CT G → Res (Out (CT G') ρ)} (h : SX A G st G' R f) : BX A G [st] G' R f := pss_one h
/-- a block seen with less -/
theorem bx_sub {G1 : Ctx} {sts : List Stmt} {g : CT G → CT G1} {f : CT G1 → Res (Out (CT G') ρ)} (s : SubC G G1 g) (h : BX A G1 sts G' R f) : BX A G sts G' R (fun p => f (g p)) :=
  pss_weak h fun D o H ⟨p, L, w, cr, k⟩ => by
    obtain ⟨L', h1, h2⟩ := s.ok _ _ _ _ _ _ w cr
    exact ⟨g p, L', wf_of_frz w h1, h2, (Good.from_ (stp_of_frz h1) Keeps.refl k).imp fun y _ n => nxP.from_ (stp_of_frz h1) Keeps.refl n⟩
theorem sx_sub {G1 : Ctx} {st : Stmt} {g : CT G → CT G1} {f : CT G1 → Res (Out (CT G') ρ)} (s : SubC G G1 g) (h : SX A G1 st G' R f) : SX A G st G' R (fun p => f (g p)) :=
  ps_weak h fun D o H ⟨p, L, w, cr, k⟩ => by
    obtain ⟨L', h1, h2⟩ := s.ok _ _ _ _ _ _ w cr
    exact ⟨g p, L', wf_of_frz w h1, h2, (Good.from_ (stp_of_frz h1) Keeps.refl k).imp fun y _ n => nxP.from_ (stp_of_frz h1) Keeps.refl n⟩
def Out.map {β β' ρ : Type} (g : β → β') : Out β ρ → Out β' ρ
  | .nx q => .nx (g q)
  | .rt r => .rt r
theorem nxP.sub {G1 : Ctx} {g : CT G1 → CT G'} (s : SubC G1 G' g) {L : Lab} {H : Hp} {o : St} {D : Ends} {y : Out (CT G1) ρ} (h : nxP A G' R L H o D (y.map g)) : nxP A G1 R L H o D y := by
  cases y with
  | nx p' =>
    intro o' L' H' s' w' c' k'
    obtain ⟨L2, h1, h2⟩ := s.ok _ _ _ _ _ _ w' c'
    exact h o' L2 H' (s'.trans (stp_of_frz h1)) (wf_of_frz w' h1) h2 k'
  | rt r => exact h
theorem bx_post {G1 : Ctx} {sts : List Stmt} {g : CT G1 → CT G'} {f : CT G → Res (Out (CT G1) ρ)} (h : BX A G sts G1 R f) (s : SubC G1 G' g) : BX A G sts G' R (fun p => Res.bind (f p) fun y => .ok (y.map g)) :=
  pss_weak h fun D o H ⟨p, L, w, cr, k⟩ => ⟨p, L, w, cr, k.bind.imp fun y _ q => nxP.sub s q⟩
theorem sx_post {G1 : Ctx} {st : Stmt} {g : CT G1 → CT G'} {f : CT G → Res (Out (CT G1) ρ)} (h : SX A G st G1 R f) (s : SubC G1 G' g) : SX A G st G' R (fun p => Res.bind (f p) fun y => .ok (y.map g)) :=
  ps_weak h fun D o H ⟨p, L, w, cr, k⟩ => ⟨p, L, w, cr, k.bind.imp fun y _ q => nxP.sub s q⟩
/-- return e -/
theorem sx_ret {α : Type} {r : Rt α} {e : Expr} {pos : Pos} {f : CT G → Res (α × CT G)} (h : EX A G e r f) : SX A G (.Return (some e) pos) G' (rrP r) (fun p => Res.bind (f p) fun y => .ok (.rt y.1)) :=
  ps_weak (ps_ret h) fun D o H ⟨p, L, w, cr, k⟩ => ⟨p, L, w, cr, k.bind.imp fun y _ q v L' H' s w' c' rl => q v L' H' s w' rl⟩
theorem sx_retI {α κ : Type} {r : Rt α} {oc : OCod κ} {v0 : V} {e : Expr} {pos : Pos} {f : CT G → Res (α × CT G)} {g0 : CT G → κ} (a0 : At G 0 (sOwn (fun v => v = v0) oc) g0) (h : EX A G e r f) :
    SX A G (.Return (some e) pos) G' (rrI r oc v0) (fun p => Res.bind (f p) fun y => .ok (.rt (y.1, g0 y.2))) :=
  ps_weak (ps_ret h) fun D o H ⟨p, L, w, cr, k⟩ => ⟨p, L, w, cr, k.bind.imp fun y _ q v L' H' s w' c' rl => q v L' H' s w' ⟨rl, by
    obtain ⟨v1, rfl, _, h⟩ := a0.ok _ _ _ _ _ _ c'
    exact h⟩⟩
/-- return x, x one's own -/
theorem sx_retO {α : Type} {P : V → Prop} {oc : OCod α} {i : Nat} {x : Str} {pos pos' : Pos} {g : CT G → α} (h : At G i (sOwn P oc) g) (hN : A.X.N[i]? = some x) (hv : Vis A.X.env.scope x) (hd : (x == ("__debug__" : Str)) = false := by decide) (hcd : (x == ("__classdict__" : Str)) = false := by decide) :
    SX A G (.Return (some (.Name x pos')) pos) G' (rrP (rO oc)) (fun p => .ok (.rt (g p))) :=
  ps_weak (ps_ret (pe_var hN hv hd hcd)) fun D o H ⟨p, L, w, cr, k⟩ => by
    obtain ⟨v, _, e, q⟩ := h.ok _ _ _ _ _ _ cr
    rw [Nat.zero_add] at e q
    have ne : ∀ a, (match L a with | some (j, l) => if j = i + 1 then none else some (j, l) | none => none) ≠ none → L a ≠ none ∧ (match L a with | some (j, l) => if j = i + 1 then none else some (j, l) | none => none) = L a := fun a => by
      cases ea : L a with
      | none => simp
      | some y =>
        obtain ⟨j, l⟩ := y
        by_cases ej : j = i + 1
        · simp [ej]
        · simp [ej]
    refine ⟨v, e, k v (fun a => match L a with | some (j, l) => if j = i + 1 then none else some (j, l) | none => none) H (fun a f => ⟨?_, rfl⟩) ⟨fun a ha => w.dom a (ne a ha).1, fun a j l ea => ?_⟩ ?_⟩
    · rcases f.2 with z | ⟨l, z⟩
      · simp only [z]
      · simp only [z]
        rw [if_neg (by omega)]
    · exact w.soft a j l (by rw [← (ne a (by rw [ea]; simp)).2]; exact ea)
    · refine ⟨sub L (i + 1), fun a m em => ?_, oc.mono _ _ _ _ _ _ _ _ _ _ (fun a ob qa => ?_) (fun a m em => ⟨em, rfl⟩) q⟩
      · have e1 := sub_of em
        refine ⟨by simp [e1], w.soft a i m e1, fun f => ?_⟩
        rcases f.2 with z | ⟨l, z⟩
        · rw [e1] at z; cases z
        · rw [e1] at z; cases z
      · obtain ⟨⟨l, e1⟩, e2⟩ := rd_of qa
        refine rd_mk (l := l) ?_ e2
        simp only [e1]
        rw [if_neg (by omega)]
/-- x = e, a value -/
theorem sx_set {α : Type} {c : Cod α} {i : Nat} {x : Str} {e : Expr} {pos pos' : Pos} {f : CT G → Res (α × CT G)} {put : CT G → α → CT G'} (u : Upd G i (sVal c) G' put) (hi : A.X.N[i]? = some x) (hx : Loc A.X.env.scope x) (h : EX A G e (rV c) f) (hS : A.S i)
    (hs : swapsWith e (some (.Name x pos')) pos.line A.X.env = pure false) (hf : A.X.fn x = true ∨ A.X.env.scope.names.lookup x = some .local) :
    SX A G (.Assign [.Name x pos'] e pos) G' R (fun p => Res.bind (f p) fun y => .ok (.nx (put y.2 y.1))) :=
  ps_weak (ps_set A.nd hi hx h hs hf) fun D o H ⟨p, L, w, cr, k⟩ => ⟨p, L, w, cr, k.bind.imp fun y _ q v L' H' s w' c' rl => q _ L' H' s w' (by
    have := u.ok _ _ _ y.1 v _ _ _ c' ⟨v, rfl, rl⟩
    rwa [Nat.zero_add] at this) (Keeps.set hS)⟩
theorem lab_own {α : Type} {oc : OCod α} {K : Frag} {L : Lab} {H : Hp} {L' : Lab} {H' : Hp} {v : V} {x : α} (i : Nat) (w : Wf L' H') (h : OwnAt oc K L H L' H' v x) :
    ∃ L'', (∀ a, L'' a = L' a ∨ (L' a = none ∧ ¬ Frm L H a)) ∧ (∀ a, L' a ≠ none → L'' a = L' a) ∧ Wf L'' H' ∧ oc.own K (rd L'' H') (sub L'' (i + 1)) H' [] v x := by
  obtain ⟨M, hM, ho⟩ := h
  have hk : ∀ a, L' a ≠ none → M a = none := fun a ha => by
    cases e : M a with
    | none => rfl
    | some m => exact absurd (hM a m e).1 ha
  refine ⟨fun a => match M a with | some m => some (i + 1, m) | none => L' a, fun a => ?_, fun a ha => ?_, ⟨fun a ha => ?_, fun a k l e => ?_⟩, ?_⟩
  · show (match M a with | some m => some (i + 1, m) | none => L' a) = _ ∨ _
    cases e : M a with
    | none => exact .inl rfl
    | some m => exact .inr ⟨(hM a m e).1, (hM a m e).2.2⟩
  · simp only [hk a ha]
  · cases e : M a with
    | none => simp only [e] at ha; exact w.dom a ha
    | some m => exact (hM a m e).2.1.ne
  · cases e' : M a with
    | none => simp only [e'] at e; exact w.soft a k l e
    | some m1 =>
      simp only [e', Option.some.injEq, Prod.mk.injEq] at e
      rw [← e.2]
      exact (hM a m1 e').2.1
  · refine oc.mono K _ _ _ _ _ _ _ _ _ (fun a ob qa => ?_) (fun a m e => ⟨sub_mk (by simp only [e]), rfl⟩) ho
    obtain ⟨⟨l, e1⟩, e2⟩ := rd_of qa
    exact rd_mk (l := l) (by simp only [hk a (by rw [e1]; simp)]; exact e1) e2
/-- x = e, one's own from now on -/
theorem sx_setO {α : Type} {oc : OCod α} {i : Nat} {x : Str} {e : Expr} {pos pos' : Pos} {f : CT G → Res (α × CT G)} {put : CT G → α → CT G'} (u : Upd G i (sOwn PAny oc) G' put) (hi : A.X.N[i]? = some x) (hx : Loc A.X.env.scope x) (h : EX A G e (rO oc) f) (hS : A.S i)
    (hs : swapsWith e (some (.Name x pos')) pos.line A.X.env = pure false) (hf : A.X.fn x = true ∨ A.X.env.scope.names.lookup x = some .local) :
    SX A G (.Assign [.Name x pos'] e pos) G' R (fun p => Res.bind (f p) fun y => .ok (.nx (put y.2 y.1))) :=
  ps_weak (ps_set A.nd hi hx h hs hf) fun D o H ⟨p, L, w, cr, k⟩ => ⟨p, L, w, cr, k.bind.imp fun y _ q v L' H' s w' c' rl => by
    obtain ⟨L2, h1, h2, h3, h4⟩ := lab_own i w' rl
    have hs2 : Same (rd L' H') (rd L2 H') := fun a ob qa => by
      obtain ⟨⟨l, e1⟩, e2⟩ := rd_of qa
      exact rd_mk ((h2 a (by rw [e1]; simp)).trans e1) e2
    have c2 : CR A.X.K 0 G y.2 L2 H' o := c'.keep hs2 fun a j l _ ea => ⟨h2 a (by rw [ea]; simp), rfl⟩
    refine q _ L2 H' (fun a fr => ?_) h3 (by
      have := u.ok _ _ _ y.1 v _ _ _ c2 ⟨v, trivial, rfl, by rw [Nat.zero_add]; exact h4⟩
      rwa [Nat.zero_add] at this) (Keeps.set hS)
    rcases h1 a with z | z
    · exact ⟨z.trans (s a fr).1, (s a fr).2⟩
    · exact absurd fr z.2⟩
/-- an expression alone -/
theorem sx_expr {α : Type} {r : Rt α} {e : Expr} {pos : Pos} {f : CT G → Res (α × CT G)} (h : EX A G e r f) (hs : swapsWith e none pos.line A.X.env = pure false := by rfl) : SX A G (.Expr e pos) G R (fun p => Res.bind (f p) fun y => .ok (.nx y.2)) :=
  ps_weak (ps_expr h hs) fun D o H ⟨p, L, w, cr, k⟩ => ⟨p, L, w, cr, k.bind.imp fun y _ q v L' H' s w' c' _ => q o L' H' s w' c' Keeps.refl⟩
theorem sx_pass {pos : Pos} : SX A G (.Pass pos) G R (fun p => .ok (.nx p)) := ps_weak ps_pass fun D o H ⟨p, L, w, cr, k⟩ => k o L H Stp.refl w cr Keeps.refl
theorem sx_if {t : Expr} {a b : List Stmt} {pos : Pos} {ft : CT G → Res (Bool × CT G)} {f g : CT G → Res (Out (CT G') ρ)} (ht : TX A G t ft) (ha : BX A G a G' R f) (hb : BX A G b G' R g) :
    SX A G (.If t a b pos) G' R (fun p => Res.bind (ft p) fun y => if y.1 = true then f y.2 else g y.2) :=
  ps_weak (ps_if ht ha hb) fun D o H ⟨p, L, w, cr, k⟩ => ⟨p, L, w, cr, k.bind.imp fun y _ q L' H' s w' c' => by
    obtain ⟨b, p'⟩ := y
    cases b with
    | true => exact iteT ⟨p', L', w', c', (Good.from_ s Keeps.refl (show Good A (f p') L H o _ from q)).imp fun z _ n => nxP.from_ s Keeps.refl n⟩
    | false => exact iteF ⟨p', L', w', c', (Good.from_ s Keeps.refl (show Good A (g p') L H o _ from q)).imp fun z _ n => nxP.from_ s Keeps.refl n⟩⟩
end
end AC
set_option Elab.async false
set_option linter.all false
set_option maxRecDepth 100000
/-! TL5: what is walked, targets, loops, comprehensions. -/
namespace AC
open PySem L2 PyProof

section
variable {A : Amb} {G G' : Ctx} {ρ : Type} {R : Rr ρ}
/-! ### what is walked -/
structure WalkT (A : Amb) {α : Type} (c : Cod α) (L : Lab) (H : Hp) (xs : List α) (J : It) (Gd : Hp → Prop) (Y : Nat → Hp → V → Hp → Prop) : Prop where
  walk : Walk J xs.length Gd Y
  line : xs.length ≤ sizeLine
  stays : ∀ L2 H2, Stp L H L2 H2 → Gd H2
  gives : ∀ i L2 H2 v H3, i < xs.length → Stp L H L2 H2 → Wf L2 H2 → Y i H2 v H3 → ∃ L3 x, Ext L2 H2 L3 H3 ∧ Wf L3 H3 ∧ xs[i]? = some x ∧ c.see A.X.K (rd L3 H3) v x
def tI (A : Amb) {α : Type} (G : Ctx) (c : Cod α) (f : CT G → Res (List α × CT G)) : L2.TI := fun o H Q =>
  ∃ (p : CT G) (L : Lab), Wf L H ∧ CR A.X.K 0 G p L H o ∧ Good A (f p) L H o fun y => ∀ L' H' J Gd Y, Stp L H L' H' → Wf L' H' → CR A.X.K 0 G y.2 L' H' o → WalkT A c L' H' y.1 J Gd Y → Q J H'
def IX (A : Amb) (G : Ctx) (tg iter : Expr) {α : Type} (c : Cod α) (f : CT G → Res (List α × CT G)) : Prop := PI A.X tg iter (tI A G c f)
theorem pi_weak {X : Cx} {tg e : Expr} {t t' : L2.TI} (h : PI X tg e t) (i : ∀ o H Q, t' o H Q → t o H Q) : PI X tg e t' := ⟨fun pins s o H Q I q => h.run pins s o H Q I (i _ _ _ q)⟩
theorem ix_l {α : Type} {c : Cod α} {tg e : Expr} {f : CT G → Res (List α × CT G)} (h : EX A G e (rV (cL c)) f) : IX A G tg e c f :=
  pi_weak (pi_list h) fun o H Q ⟨p, L, w, cr, k⟩ => ⟨p, L, w, cr, k.imp fun y _ q v L' H' s w' c' ⟨a, vs, e, hs, hl, hp⟩ => ⟨a, e, ⟨vs, SqL.of (rd_sub _ _ hs)⟩, q L' H' _ (fun H => SqL A.X.K H a vs) (YAt vs) s w' c'
    ⟨by rw [← paired_len hp]; exact walk_list (xs := vs), by rw [← paired_len hp]; exact hl, fun L2 H2 s2 => SqL.of (rd_sub _ _ (s2.rd _ _ hs)), fun i L2 H2 v H3 hi s2 w2 ⟨e3, hv⟩ => by
      subst e3
      obtain ⟨x, hx, hc⟩ := paired_getL hp hv
      exact ⟨L2, x, Ext.refl, w2, hx, c.mono _ _ _ _ _ s2.rd hc⟩⟩⟩⟩
theorem ix_k {α : Type} {c : Cod α} {tg e : Expr} {f : CT G → Res (List α × CT G)} (h : EX A G e (rV (cLK c)) f) : IX A G tg e c f :=
  pi_weak (pi_list h) fun o H Q ⟨p, L, w, cr, k⟩ => ⟨p, L, w, cr, k.imp fun y _ q v L' H' s w' c' ⟨a, vs, e, hs, hl, hp⟩ => ⟨a, e, ⟨vs, rd_sub.seq hs⟩, q L' H' _ (fun H => SqL A.X.K H a vs) (YAt vs) s w' c'
    ⟨by rw [← paired_len hp]; exact walk_list (xs := vs), by rw [← paired_len hp]; exact hl, fun L2 H2 s2 => Same.seq (H := rd L' H') (fun b o q => rd_sub _ _ (s2.rd b o q)) hs, fun i L2 H2 v H3 hi s2 w2 ⟨e3, hv⟩ => by
      subst e3
      obtain ⟨x, hx, hc⟩ := paired_getL hp hv
      exact ⟨L2, x, Ext.refl, w2, hx, c.mono _ _ _ _ _ s2.rd hc⟩⟩⟩⟩
theorem ix_t {α : Type} {c : Cod α} {tg e : Expr} {f : CT G → Res (List α × CT G)} (h : EX A G e (rV (cTV c)) f) : IX A G tg e c f :=
  pi_weak (pi_tup h) fun o H Q ⟨p, L, w, cr, k⟩ => ⟨p, L, w, cr, k.imp fun y _ q v L' H' s w' c' ⟨a, vs, e, hs, hl, hp⟩ => ⟨a, e, ⟨vs, (hs.same rd_sub).sq⟩, q L' H' _ (fun H => SqT A.X.K H a vs) (YAt vs) s w' c'
    ⟨by rw [← paired_len hp]; exact walk_tup (xs := vs), by rw [← paired_len hp]; exact hl, fun L2 H2 s2 => ((hs.same s2.rd).same rd_sub).sq, fun i L2 H2 v H3 hi s2 w2 ⟨e3, hv⟩ => by
      subst e3
      obtain ⟨x, hx, hc⟩ := paired_getL hp hv
      exact ⟨L2, x, Ext.refl, w2, hx, c.mono _ _ _ _ _ s2.rd hc⟩⟩⟩⟩
/-- m, m + 1, .. so many -/
def intsFrom (m : Int) (n : Nat) : List Int := (List.range n).map fun (i : Nat) => m + (i : Int)
theorem intsFrom_len (m : Int) (n : Nat) : (intsFrom m n).length = n := by unfold intsFrom; rw [List.length_map, List.length_range]
theorem intsFrom_get {m : Int} {n i : Nat} (h : i < n) : (intsFrom m n)[i]? = some (m + (i : Int)) := by unfold intsFrom; rw [List.getElem?_map, List.getElem?_range h]; rfl
def rng1O (n : Int) : Res (List Int) := if -(2 ^ 61) ≤ n ∧ n ≤ 16777216 then .ok (intsFrom 0 n.toNat) else .bad
def rng2O (m n : Int) : Res (List Int) := if n - m ≤ 16777216 ∧ -(2 ^ 61) ≤ m ∧ m < 2 ^ 61 ∧ -(2 ^ 61) ≤ n ∧ n < 2 ^ 61 then .ok (intsFrom m (n - m).toNat) else .bad
theorem line_eq : sizeLine = 16777216 := by decide
theorem good_if {α β : Type} {c : Prop} [Decidable c] {x : α} {f : α → Res β} {L : Lab} {H : Hp} {o : St} {P : β → Prop} (h : Good A (Res.bind (if c then Res.ok x else .bad) f) L H o P) : c ∧ Good A (f x) L H o P := by
  by_cases hc : c
  · rw [if_pos hc] at h; exact ⟨hc, h⟩
  · rw [if_neg hc] at h; exact h.elim
theorem walk_rng {L : Lab} {H : Hp} {lo : Int} {n : Nat} (hn : n ≤ sizeLine) : WalkT A cI L H (intsFrom lo n) (Itr lo n) (fun _ => True) (YFn fun i => .int (lo + i)) :=
  ⟨by rw [intsFrom_len]; exact walk_range, by rw [intsFrom_len]; exact hn, fun _ _ _ => trivial, fun i L2 H2 v H3 hi s2 w2 ⟨e3, hv⟩ => by
    subst e3
    rw [intsFrom_len] at hi
    exact ⟨L2, _, Ext.refl, w2, intsFrom_get hi, hv⟩⟩
theorem ix_r1 {tg a : Expr} {p pos : Pos} {f : CT G → Res (Int × CT G)} (hg : Gl A.X "range") (hm : A.X.mg "range" = none) (h : EX A G a (rV cI) f) (hs : starEach [a] A.X.env = [(false, eval a A.X.env)] := by rfl) :
    IX A G tg (.Call (.Name "range" p) [a] [] pos) cI (fun p => Res.bind (f p) fun y => Res.bind (rng1O y.1) fun z => .ok (z, y.2)) :=
  pi_weak (pi_range1 hg hm (ax_one h (by rw [hs]; rfl)) hs) fun o H Q ⟨p, L, w, cr, k⟩ => ⟨p, L, w, cr, k.bind.imp fun y _ q vs L' H' s w' c' ⟨v, e, hv⟩ => by
    have hv : v = .int y.1 := hv
    subst hv
    obtain ⟨⟨hb0, hb⟩, q⟩ := good_if q
    have hl := line_eq
    exact ⟨y.1, e, by omega, by omega, q L' H' (Itr 0 y.1.toNat) (fun _ => True) (YFn fun i => .int (0 + i)) s w' c' (walk_rng (by omega))⟩⟩
theorem ix_r2 {tg a b : Expr} {p pos : Pos} {f g : CT G → Res (Int × CT G)} (hg : Gl A.X "range") (hm : A.X.mg "range" = none) (ha : EX A G a (rV cI) f) (hb : EX A G b (rV cI) g) (hs : starEach [a, b] A.X.env = [(false, eval a A.X.env), (false, eval b A.X.env)] := by rfl)
    (hs2 : starEach [b] A.X.env = [(false, eval b A.X.env)] := by rfl) :
    IX A G tg (.Call (.Name "range" p) [a, b] [] pos) cI (fun p => Res.bind (f p) fun y => Res.bind (g y.2) fun z => Res.bind (rng2O y.1 z.1) fun u => .ok (u, z.2)) :=
  pi_weak (pi_range2 hg hm (ax_cons ha (ax_one hb (by rw [hs2]; rfl)) (by rw [hs, hs2])) hs hs2) fun o H Q ⟨p, L, w, cr, k⟩ => ⟨p, L, w, cr, (show Good A (Res.bind (Res.bind (f p) fun y => Res.bind (g y.2) fun z => Res.ok ((y.1, z.1), z.2)) fun y => Res.bind (rng2O y.1.1 y.1.2) fun u => Res.ok (u, y.2)) L H o _ by
      rw [Res.bind_assoc]
      simp only [Res.bind_assoc, Res.bind_ok]
      exact k).bind.imp fun y _ q vs L' H' s w' c' ⟨v, _, e, hv, v2, e2, hv2⟩ => by
    have hv : v = .int y.1.1 := hv
    have hv2 : v2 = .int y.1.2 := hv2
    subst hv hv2 e2
    obtain ⟨⟨b1, b2, b3, b4, b5⟩, q⟩ := good_if q
    have hl := line_eq
    exact ⟨y.1.1, y.1.2, e, ⟨by omega, by omega, by omega, by omega⟩, q L' H' (Itr y.1.1 (y.1.2 - y.1.1).toNat) (fun _ => True) (YFn fun i => .int (y.1.1 + i)) s w' c' (walk_rng (by omega))⟩⟩
def strL (z : Str) : List Str := z.cps.toList.map fun c => ⟨#[c]⟩
theorem ix_s {tg e : Expr} {f : CT G → Res (Str × CT G)} (h : EX A G e (rV cS) f) : IX A G tg e cS (fun p => Res.bind (f p) fun y => .ok (strL y.1, y.2)) :=
  pi_weak (pi_str h) fun o H Q ⟨p, L, w, cr, k⟩ => ⟨p, L, w, cr, k.bind.imp fun y _ q v L' H' s w' c' ⟨e, h1, h2⟩ => ⟨y.1, e, q L' H' (Its y.1) (fun _ => True) (fun i H v H' => H' = H ∧ ∃ c, y.1.cps[i]? = some c ∧ v = .str ⟨#[c]⟩) s w' c' ⟨by unfold strL; rw [List.length_map, Array.length_toList]; exact walk_str, by unfold strL; rw [List.length_map, Array.length_toList]; exact h2, fun _ _ _ => trivial, fun i L2 H2 v H3 hi s2 w2 ⟨e3, c, hc, hv⟩ => by
      subst e3 hv
      refine ⟨L2, ⟨#[c]⟩, Ext.refl, w2, ?_, rfl, ?_, show 1 ≤ sizeLine by decide⟩
      · unfold strL
        rw [List.getElem?_map, Array.getElem?_toList, hc]; rfl
      · have hm : c ∈ y.1.cps := Array.mem_of_getElem? hc
        have := Array.all_eq_true_iff_forall_mem.mp h1 c hm
        simpa [PyData.strOk] using this⟩⟩⟩

/-! ### targets -/
def tG (A : Amb) {α : Type} (c : Cod α) (G G' : Ctx) (put : CT G → α → CT G') : L2.TG := fun v o H Q =>
  ∃ (p : CT G) (L : Lab) (x : α), Wf L H ∧ CR A.X.K 0 G p L H o ∧ c.see A.X.K (rd L H) v x ∧ ∀ o', CR A.X.K 0 G' (put p x) L H o' → Keeps A.S o o' → Q o' H
def GX (A : Amb) (G : Ctx) (tg : Expr) {α : Type} (c : Cod α) (G' : Ctx) (put : CT G → α → CT G') : Prop := PG A.X tg (tG A c G G' put)
theorem pg_weak {X : Cx} {e : Expr} {t t' : L2.TG} (h : PG X e t) (i : ∀ v o H Q, t' v o H Q → t v o H Q) : PG X e t' := ⟨fun pins s o H v u Q I r q => h.run pins s o H v u Q I r (i _ _ _ _ q)⟩
theorem gx_name {α : Type} {c : Cod α} {i : Nat} {x : Str} {pos : Pos} {put : CT G → α → CT G'} (u : Upd G i (sVal c) G' put) (hi : A.X.N[i]? = some x) (hx : Loc A.X.env.scope x) (hS : A.S i) (hf : A.X.fn x = true ∨ A.X.env.scope.names.lookup x = some .local) : GX A G (.Name x pos) c G' put :=
  pg_weak (pg_name A.nd hi hx hf) fun v o H Q ⟨p, L, x, w, cr, h, q⟩ => q _ (by
    have := u.ok _ _ _ x v _ _ _ cr ⟨v, rfl, h⟩
    rwa [Nat.zero_add] at this) (Keeps.set hS)
def tGs (A : Amb) {α : Type} (as : ArgC α) (G G' : Ctx) (put : CT G → α → CT G') : L2.TGs := fun vs o H Q =>
  ∃ (p : CT G) (L : Lab) (x : α), Wf L H ∧ CR A.X.K 0 G p L H o ∧ as.see A.X.K (rd L H) vs x ∧ ∀ o', CR A.X.K 0 G' (put p x) L H o' → Keeps A.S o o' → Q o' H
def GXs (A : Amb) (G : Ctx) (tgs : List Expr) {α : Type} (as : ArgC α) (G' : Ctx) (put : CT G → α → CT G') : Prop := PGs A.X tgs (tGs A as G G' put)
theorem pgs_weak {X : Cx} {e : List Expr} {t t' : L2.TGs} (h : PGs X e t) (i : ∀ v o H Q, t' v o H Q → t v o H Q) : PGs X e t' := ⟨fun pins s o H v u Q I r q => h.run pins s o H v u Q I r (i _ _ _ _ q)⟩
theorem gxs_one {α : Type} {c : Cod α} {e : Expr} {put : CT G → α → CT G'} (h : GX A G e c G' put) (hs : (assignEach [e] A.X.env).map (·.2) = assign e A.X.env :: (assignEach [] A.X.env).map (·.2) := by rfl) : GXs A G [e] (aOne c) G' put :=
  pgs_weak (pgs_cons h pgs_nil hs) fun vs o H Q ⟨p, L, x, w, cr, ⟨v, e, h⟩, q⟩ => ⟨v, [], e, p, L, x, w, cr, h, fun o' c' k' => ⟨rfl, q o' c' k'⟩⟩
theorem gxs_cons {α β : Type} {c : Cod α} {as : ArgC β} {e : Expr} {es : List Expr} {G1 : Ctx} {put : CT G → α → CT G1} {put2 : CT G1 → β → CT G'} (h : GX A G e c G1 put) (hr : GXs A G1 es as G' put2) (hs : (assignEach (e :: es) A.X.env).map (·.2) = assign e A.X.env :: (assignEach es A.X.env).map (·.2) := by rfl) :
    GXs A G (e :: es) (aCons c as) G' (fun p x => put2 (put p x.1) x.2) :=
  pgs_weak (pgs_cons h hr hs) fun vs o H Q ⟨p, L, x, w, cr, ⟨v, ws, e, h1, h2⟩, q⟩ => ⟨v, ws, e, p, L, x.1, w, cr, h1, fun o' c' k' => ⟨_, L, x.2, w, c', h2, fun o2 c2 k2 => q o2 c2 (k'.trans k2)⟩⟩
theorem gx_tup {α : Type} {as : ArgC α} {es : List Expr} {kk : Nat} {pos : Pos} {put : CT G → α → CT G'} (h : GXs A G es as G' put) (hn : (assignEach es A.X.env).length = as.n := by rfl) (hst : (assignEach es A.X.env).findIdx? (·.1) = none := by rfl) : GX A G (.Tuple es kk pos) (cT as) G' put :=
  pg_weak (pg_tup A.calm h hn hst) fun v o H Q ⟨p, L, x, w, cr, ⟨a, vs, e, h1, h2⟩, q⟩ => ⟨a, vs, e, (h1.same rd_sub).sq, as.len _ _ _ _ h2, p, L, x, w, cr, h2, q⟩
/-- target = e, by values -/
theorem sx_asg {α : Type} {c : Cod α} {tg e : Expr} {pos : Pos} {f : CT G → Res (α × CT G)} {put : CT G → α → CT G'} (h : EX A G e (rV c) f) (hg : GX A G tg c G' put) (hs : swapsWithSole [tg] e pos.line A.X.env = pure false := by rfl) (hw : swappedStores [tg] e A.X.env = pure none := by rfl)
    (h1 : (assignEach [tg] A.X.env).map (·.2) = [assign tg A.X.env] := by rfl) : SX A G (.Assign [tg] e pos) G' R (fun p => Res.bind (f p) fun y => .ok (.nx (put y.2 y.1))) :=
  ps_weak (ps_asg h hg hs hw h1) fun D o H ⟨p, L, w, cr, k⟩ => ⟨p, L, w, cr, k.bind.imp fun y _ q v L' H' s w' c' rl => ⟨y.2, L', y.1, w', c', rl, fun o' c2 k2 => q o' L' H' s w' c2 k2⟩⟩

/-! ### for -/
def forL {α β ρ : Type} : List α → (α → β → Res (Out β ρ)) → β → Res (Out β ρ)
  | [], _, b => .ok (.nx b)
  | x :: xs, f, b => Res.bind (f x b) (Out.seq (forL xs f))
theorem sx_for {α : Type} {c : Cod α} {tg iter : Expr} {body : List Stmt} {pos : Pos} {fi : CT G → Res (List α × CT G)} {G1 G2 : Ctx} {put : CT G → α → CT G1} {fb : CT G1 → Res (Out (CT G2) ρ)} {back : CT G2 → CT G}
    (hi : IX A G tg iter c fi) (hg : GX A G tg c G1 put) (hb : BX A G1 body G2 R fb) (sb : SubC G2 G back) (hs : ∀ x, foldedSetIterable iter A.X.env x = pure x := by intro _; rfl) :
    SX A G (.For tg iter body [] pos) G R (fun p => Res.bind (fi p) fun y => forL y.1 (fun x q => Res.bind (fb (put q x)) fun z => .ok (z.map back)) y.2) := by
  refine ps_weak (ps_for A.hp A.calm hi hg hb hs) fun D o H ⟨p, L, w, cr, k⟩ => ⟨p, L, w, cr, k.bind.imp fun y _ q L' H' J Gd Y s w' c' wt => ?_⟩
  generalize hbody : (fun (x : α) (q : CT G) => Res.bind (fb (put q x)) fun z => Res.ok (z.map back)) = body' at q
  refine for_it wt.walk (fun i o1 H1 => ∃ (q1 : CT G) (L1 : Lab), Wf L1 H1 ∧ CR A.X.K 0 G q1 L1 H1 o1 ∧ Stp L' H' L1 H1 ∧ Keeps A.S o o1 ∧ Good A (forL (y.1.drop i) body' q1) L H o (nxP A G R L H o D)) ?_ ?_ ?_ ?_
  · exact ⟨y.2, L', w', c', Stp.refl, Keeps.refl, by rw [List.drop_zero]; exact q⟩
  · rintro i o1 H1 _ ⟨q1, L1, w1, c1, s1, _, _⟩
    exact wt.stays L1 H1 s1
  · rintro i v o1 H1 H2 hi ⟨q1, L1, w1, c1, s1, k1, g1⟩ hy
    obtain ⟨L2, x, ex, w2, hx, hc⟩ := wt.gives i L1 H1 v H2 hi s1 w1 hy
    have hd : y.1.drop i = x :: y.1.drop (i + 1) := by
      obtain ⟨h1, h2⟩ := List.getElem?_eq_some_iff.mp hx
      rw [List.drop_eq_getElem_cons h1, h2]
    rw [hd] at g1
    have g2 : Good A (Res.bind (body' x q1) (Out.seq (forL (y.1.drop (i + 1)) body'))) L H o (nxP A G R L H o D) := g1
    rw [← hbody] at g2
    rw [hbody] at g2
    have g3 := g2.bind
    rw [← hbody, hbody] at g3
    refine ⟨q1, L2, x, w2, c1.ext w1 ex, hc, fun o2 c2 k2 => ⟨put q1 x, L2, w2, c2, ?_⟩⟩
    have st : Stp L H L2 H2 := (s.trans s1).trans ex.stp
    have g4 : Good A (Res.bind (fb (put q1 x)) fun z => Res.ok (z.map back)) L H o fun a => Good A (Out.seq (forL (y.1.drop (i + 1)) body') a) L H o (nxP A G R L H o D) := by
      have : body' x q1 = Res.bind (fb (put q1 x)) fun z => Res.ok (z.map back) := by rw [← hbody]
      rw [this] at g3
      exact g3
    refine (Good.from_ st (k1.trans k2) g4.bind).imp fun z _ gz => ?_
    cases z with
    | nx p3 =>
      intro o3 L3 H3 s3 w3 c3 k3
      obtain ⟨L4, h41, h42⟩ := sb.ok _ _ _ _ _ _ w3 c3
      exact ⟨back p3, L4, wf_of_frz w3 h41, h42, ((s1.trans ex.stp).trans s3).trans (stp_of_frz h41), (k1.trans k2).trans k3, gz⟩
    | rt r =>
      intro v L3 H3 s3 w3 rl
      exact (show nxP A G R L H o D (.rt r) from gz) v L3 H3 (st.trans s3) w3 (R.pre _ _ _ _ _ _ _ _ _ st rl)
  · rintro o1 H1 ⟨q1, L1, w1, c1, s1, k1, g1⟩
    rw [List.drop_length] at g1
    exact (show nxP A G R L H o D (.nx q1) from g1) o1 L1 H1 (s.trans s1) w1 c1 k1
/-! ### while -/
def whileN {β ρ : Type} (c : β → Res (Bool × β)) (b : β → Res (Out β ρ)) : Nat → β → Res (Out β ρ)
  | 0, _ => .bad
  | n + 1, s => Res.bind (c s) fun t => if t.1 = true then Res.bind (b t.2) (Out.seq (whileN c b n)) else .ok (.nx t.2)
/-- more turns than any loop here has -/
def wfuel : Nat := 2 ^ 40
@[irreducible] def whileR {β ρ : Type} (c : β → Res (Bool × β)) (b : β → Res (Out β ρ)) (s : β) : Res (Out β ρ) := whileN c b wfuel s
theorem sx_while {t : Expr} {body : List Stmt} {pos : Pos} {ft : CT G → Res (Bool × CT G)} {G2 : Ctx} {fb : CT G → Res (Out (CT G2) ρ)} {back : CT G2 → CT G} (ht : TX A G t ft) (hb : BX A G body G2 R fb) (sb : SubC G2 G back) :
    SX A G (.While t body [] pos) G R (whileR ft fun p => Res.bind (fb p) fun z => .ok (z.map back)) := by
  refine ps_weak (ps_while A.hp ht hb) fun D o H ⟨p, L, w, cr, k⟩ => ?_
  unfold whileR at k
  refine ⟨fun m o1 H1 => ∃ (q1 : CT G) (L1 : Lab), Wf L1 H1 ∧ CR A.X.K 0 G q1 L1 H1 o1 ∧ Stp L H L1 H1 ∧ Keeps A.S o o1 ∧ Good A (whileN ft (fun p => Res.bind (fb p) fun z => .ok (z.map back)) m q1) L H o (nxP A G R L H o D), ⟨wfuel, p, L, w, cr, Stp.refl, Keeps.refl, k⟩, ?_⟩
  rintro m o1 H1 ⟨q1, L1, w1, c1, s1, k1, g1⟩
  cases m with
  | zero => exact g1.elim
  | succ m =>
    refine ⟨q1, L1, w1, c1, (Good.from_ s1 k1 (show Good A (Res.bind (ft q1) _) L H o _ from g1).bind).imp fun y _ gy L2 H2 s2 w2 c2 => ?_⟩
    obtain ⟨b, q2⟩ := y
    cases b with
    | false => exact iteF ((show nxP A G R L H o D (.nx q2) from gy) o1 L2 H2 (s1.trans s2) w2 c2 k1)
    | true =>
      refine iteT ⟨fun o' H' => ∃ (q1 : CT G) (L1 : Lab), Wf L1 H' ∧ CR A.X.K 0 G q1 L1 H' o' ∧ Stp L H L1 H' ∧ Keeps A.S o o' ∧ Good A (whileN ft (fun p => Res.bind (fb p) fun z => .ok (z.map back)) m q1) L H o (nxP A G R L H o D), fun o' H' h => ⟨m, Nat.lt_succ_self m, h⟩, q2, L2, w2, c2, ?_⟩
      refine (Good.from_ (s1.trans s2) k1 (show Good A (Res.bind (Res.bind (fb q2) fun z => Res.ok (z.map back)) (Out.seq (whileN ft _ m))) L H o _ from gy).bind.bind).imp fun z _ gz => ?_
      cases z with
      | nx p3 =>
        intro o3 L3 H3 s3 w3 c3 k3
        obtain ⟨L4, h41, h42⟩ := sb.ok _ _ _ _ _ _ w3 c3
        exact ⟨back p3, L4, wf_of_frz w3 h41, h42, ((s1.trans s2).trans s3).trans (stp_of_frz h41), k1.trans k3, gz⟩
      | rt r =>
        intro v L3 H3 s3 w3 rl
        exact (show nxP A G R L H o D (.rt r) from gz) v L3 H3 ((s1.trans s2).trans s3) w3 (R.pre _ _ _ _ _ _ _ _ _ (s1.trans s2) rl)
end
end AC
set_option Elab.async false
set_option linter.all false
set_option maxRecDepth 100000
/-! TL6: comprehensions. -/
namespace AC
open PySem L2 PyProof

theorem wipe_ne {o : St} {k : Nat} : ∀ {vs : List Nat}, k ∉ vs → (wipe o vs)[k]? = o[k]?
  | [], _ => rfl
  | v :: vs, h => by
    unfold wipe
    rw [List.getElem?_set_ne (fun e => h (by rw [e]; exact List.mem_cons_self))]
    exact wipe_ne fun m => h (List.mem_cons_of_mem _ m)
theorem wipe_in {o : St} {k : Nat} : ∀ {vs : List Nat}, k ∈ vs → (wipe o vs)[k]? = if k < o.length then some none else none
  | v :: vs, h => by
    unfold wipe
    by_cases e : v = k
    · subst e
      by_cases hl : v < o.length
      · rw [if_pos hl, List.getElem?_set_self (by rw [wipe_length]; exact hl)]
      · rw [if_neg hl, List.getElem?_eq_none (by rw [List.length_set, wipe_length]; omega)]
    · rw [List.getElem?_set_ne e]
      exact wipe_in ((List.mem_cons.mp h).resolve_left fun q => e q.symm)
theorem wipe_eq {o o' : St} {vs : List Nat} (hl : o'.length = o.length) (h : ∀ i, i ∉ vs → o'[i]? = o[i]?) : wipe o' vs = wipe o vs := by
  apply List.ext_getElem?
  intro i
  by_cases hi : i ∈ vs
  · rw [wipe_in hi, wipe_in hi, hl]
  · rw [wipe_ne hi, wipe_ne hi]
    exact h i hi
/-- the names of a comprehension are hidden -/
structure WipeC (k : Nat) (vs : List Nat) (G G0 : Ctx) (dn : CT G → CT G0) (bk : CT G → CT G0 → CT G) : Prop where
  dn_ok : ∀ (K : Frag) (p : CT G) (L : Lab) (H : Hp) (o : St), CR K k G p L H o → CR K k G0 (dn p) L H (wipe o vs)
  bk_ok : ∀ (K : Frag) (p : CT G) (q : CT G0) (L : Lab) (H : Hp) (L' : Lab) (H' : Hp) (o : St), Same (rd L H) (rd L' H') → CR K k G p L H o → CR K k G0 q L' H' (wipe o vs) → CR K k G (bk p q) L' H' o
theorem wc_nil {k : Nat} {vs : List Nat} : WipeC k vs [] [] (fun p => p) (fun p _ => p) := ⟨fun K p L H o c => by
  show k ≤ (wipe o vs).length
  rw [wipe_length]; exact c, fun K p q L H L' H' o s c c' => c⟩
theorem wc_keep {k : Nat} {vs : List Nat} {s : Slot} {G G0 : Ctx} {dn : CT G → CT G0} {bk : CT G → CT G0 → CT G} (hk : k ∉ vs) (h : WipeC (k + 1) vs G G0 dn bk) : WipeC k vs (s :: G) (s :: G0) (fun p => (p.1, dn p.2)) (fun p q => (q.1, bk p.2 q.2)) :=
  ⟨fun K p L H o c => ⟨by rw [wipe_ne hk]; exact c.1, h.dn_ok K p.2 L H o c.2⟩, fun K p q L H L' H' o s c c' => ⟨by have := c'.1; rw [wipe_ne hk] at this; exact this, h.bk_ok K p.2 q.2 L H L' H' o s c.2 c'.2⟩⟩
theorem wc_any {k : Nat} {vs : List Nat} {G G0 : Ctx} {dn : CT G → CT G0} {bk : CT G → CT G0 → CT G} (h : WipeC (k + 1) vs G G0 dn bk) : WipeC k vs (sAny :: G) (sAny :: G0) (fun p => ((), dn p.2)) (fun p q => ((), bk p.2 q.2)) :=
  ⟨fun K p L H o c => ⟨trivial, h.dn_ok K p.2 L H o c.2⟩, fun K p q L H L' H' o s c c' => ⟨trivial, h.bk_ok K p.2 q.2 L H L' H' o s c.2 c'.2⟩⟩
theorem wc_val {k : Nat} {vs : List Nat} {α : Type} {c : Cod α} {G G0 : Ctx} {dn : CT G → CT G0} {bk : CT G → CT G0 → CT G} (h : WipeC (k + 1) vs G G0 dn bk) : WipeC k vs (sVal c :: G) (sAny :: G0) (fun p => ((), dn p.2)) (fun p q => (p.1, bk p.2 q.2)) :=
  ⟨fun K p L H o c => ⟨trivial, h.dn_ok K p.2 L H o c.2⟩, fun K p q L H L' H' o s c c' => ⟨let ⟨v, e, hv⟩ := c.1; ⟨v, e, Cod.mono _ K _ _ v _ s hv⟩, h.bk_ok K p.2 q.2 L H L' H' o s c.2 c'.2⟩⟩

/-- [.. for ..]: an item or none each turn -/
def lcL {α β γ : Type} : List α → (α → β → Res (Option γ × β)) → β → Res (List γ × β)
  | [], _, b => .ok ([], b)
  | x :: xs, f, b => Res.bind (Res.noexc (f x b)) fun r => Res.bind (lcL xs f r.2) fun z => .ok (match r.1 with | some y => y :: z.1 | none => z.1, z.2)
def mapR {α β γ : Type} : List α → (α → β → Res (γ × β)) → β → Res (List γ × β)
  | [], _, b => .ok ([], b)
  | x :: xs, f, b => Res.bind (Res.noexc (f x b)) fun r => Res.bind (mapR xs f r.2) fun z => .ok (r.1 :: z.1, z.2)
theorem lcL_some {α β γ : Type} {f : α → β → Res (γ × β)} : ∀ {xs : List α} {b : β}, lcL xs (fun x b => Res.bind (f x b) fun r => .ok (some r.1, r.2)) b = mapR xs f b
  | [], _ => rfl
  | x :: xs, b => by
    show Res.bind (Res.noexc (Res.bind (f x b) fun r => .ok (some r.1, r.2))) _ = Res.bind (Res.noexc (f x b)) _
    cases f x b with
    | ok r =>
      show Res.bind (lcL xs (fun x b => Res.bind (f x b) fun r => .ok (some r.1, r.2)) r.2) (fun z => .ok (r.1 :: z.1, z.2)) = Res.bind (mapR xs f r.2) fun z => .ok (r.1 :: z.1, z.2)
      rw [lcL_some]
    | exc e => rfl
    | bad => rfl

/-- the surroundings of a comprehension's block -/
def Amb.blk (A : Amb) (vs : List Nat) (s : Shared) (H : Hp) (scope : Scope) (C : Addr) (cl : List (Str × Addr)) (fp : List Addr) : Amb where
  X := A.X.blk s H scope (compEnvC scope cl C A.X.env) fp
  W := fun _ _ _ _ => False
  tk := takes0
  calm := A.calm
  hp := PassesOwn.never
  nd := A.nd
  ca := A.ca
  S := fun i => i ∈ vs
  lv := A.lv
  room := A.room
  gd := A.gd

section
variable {A : Amb} {G : Ctx}
/-- what one turn of a comprehension is to do, in the block's surroundings -/
theorem lc_reads {α β : Type} {ci : Cod α} {ce : Cod β} {G0 G1 : Ctx} {vs : List Nat} {fi : CT G → Res (List α × CT G)} {dn : CT G → CT G0} {bk : CT G → CT G0 → CT G} {put : CT G0 → α → CT G1} {ft : CT G1 → Res (Bool × CT G1)} {fe : CT G1 → Res (β × CT G1)} {dn1 : CT G1 → CT G0} {bk1 : CT G1 → CT G0 → CT G1}
    (B : Amb) (hB : B.X.K = A.X.K) (hBS : ∀ i, ¬ i ∈ vs → ¬ B.S i)
    (wc : WipeC 0 vs G G0 dn bk) (wc1 : WipeC 0 vs G1 G0 dn1 bk1) {o : St} {H : Hp} {Q : VK}
    (q : tE A G (rO (oL ce)) (fun p => Res.bind (fi p) fun y => Res.bind (lcL y.1 (fun x q => Res.bind (ft (put q x)) fun t => if t.1 = true then Res.bind (fe t.2) fun z => .ok (some z.1, dn1 z.2) else .ok (none, dn1 t.2)) (dn y.2)) fun z => .ok (z.1, bk y.2 z.2)) o H Q) :
    tLc (tI A G ci fi) (tG B ci G0 G1 put) (tT B G1 ft) (tE B G1 (rV ce) fe) vs o H Q := by
  obtain ⟨p, L, w, cr, k⟩ := q
  refine ⟨p, L, w, cr, k.bind.imp fun y _ gy L1 H1 J Gd Y s1 w1 c1 wt D hD => ?_⟩
  generalize hbody : (fun (x : α) (q : CT G0) => Res.bind (ft (put q x)) fun t => if t.1 = true then Res.bind (fe t.2) fun z => Res.ok (some z.1, dn1 z.2) else Res.ok ((none : Option β), dn1 t.2)) = body at gy
  have hnb : L1 D = none := w1.none hD
  -- the state with the list so far
  refine lc_it wt.walk (fun i H2 => ∃ (q2 : CT G0) (L2 : Lab) (acc : List V) (ys : List β), Wf L2 H2 ∧ CR A.X.K 0 G0 q2 L2 H2 (wipe o vs) ∧ Stp L1 H1 L2 H2 ∧ L2 D = none ∧ H2 D = some (.lst acc) ∧ acc.length ≤ i ∧ Paired (fun v x => ce.see A.X.K (rd L2 H2) v x) acc ys ∧
      Good A (Res.bind (lcL (y.1.drop i) body q2) fun z => .ok (ys ++ z.1, bk y.2 z.2)) L H o fun y => ∀ (v : V) (L' : Lab) (H' : Hp), Stp L H L' H' → Wf L' H' → CR A.X.K 0 G y.2 L' H' o → (rO (oL ce)).rel A.X.K L H L' H' v y.1 → Q v H') ?_ ?_ ?_ ?_
  · obtain ⟨e1, e2⟩ := ext_new (o := .lst []) w1 hD
    refine ⟨dn y.2, L1, [], [], e2, (wc.dn_ok _ _ _ _ _ c1).ext w1 e1, e1.stp, hnb, upd_same, Nat.zero_le _, .nil, ?_⟩
    rw [List.drop_zero]
    exact gy
  · rintro i H2 _ ⟨q2, L2, acc, ys, w2, c2, s2, _⟩
    exact wt.stays L2 H2 s2
  · rintro i v H2 H3 hi ⟨q2, L2, acc, ys, w2, c2, s2, n2, d2, l2, pp, g2⟩ hy
    obtain ⟨L3, x, ex, w3, hx, hc⟩ := wt.gives i L2 H2 v H3 hi s2 w2 hy
    have hd : y.1.drop i = x :: y.1.drop (i + 1) := by
      obtain ⟨h1, h2⟩ := List.getElem?_eq_some_iff.mp hx
      rw [List.drop_eq_getElem_cons h1, h2]
    have fD : Frm L2 H2 D := ⟨by rw [d2]; simp, .inl n2⟩
    have n3 : L3 D = none := (ex.stp D fD).1.trans n2
    have d3 : H3 D = some (.lst acc) := (ex.stp D fD).2.trans d2
    have fD3 : Frm L3 H3 D := ex.stp.frm fD
    -- the turn's value
    have gturn : ∃ r, body x q2 = .ok r ∧ Good A (Res.bind (lcL (y.1.drop (i + 1)) body r.2) fun z => .ok (ys ++ (match r.1 with | some y => y :: z.1 | none => z.1), bk y.2 z.2)) L H o fun y => ∀ (v : V) (L' : Lab) (H' : Hp), Stp L H L' H' → Wf L' H' → CR A.X.K 0 G y.2 L' H' o → (rO (oL ce)).rel A.X.K L H L' H' v y.1 → Q v H' := by
      rw [hd] at g2
      unfold lcL at g2
      cases e : body x q2 with
      | ok r =>
        rw [e] at g2
        refine ⟨r, rfl, ?_⟩
        simp only [Res.noexc, Res.bind_ok, Res.bind_assoc] at g2
        exact g2
      | exc e' => rw [e] at g2; exact g2.elim
      | bad => rw [e] at g2; exact g2.elim
    obtain ⟨r, er, g3⟩ := gturn
    have er2 : (Res.bind (ft (put q2 x)) fun t => if t.1 = true then Res.bind (fe t.2) fun z => Res.ok (some z.1, dn1 z.2) else Res.ok ((none : Option β), dn1 t.2)) = .ok r := by rw [← er, ← hbody]
    refine ⟨q2, L3, x, w3, by rw [hB]; exact c2.ext w2 ex, by rw [hB]; exact hc, fun o3 c3 k3 => ?_⟩
    have hw : wipe o3 vs = wipe o vs := by
      have h1 : wipe o3 vs = wipe (wipe o vs) vs := wipe_eq k3.len fun i hi => k3.at_ i (hBS i hi)
      rw [h1]
      exact wipe_eq (wipe_length _ _) fun i hi => wipe_ne hi
    refine ⟨hw, ?_⟩
    rw [hB] at c3
    cases et : ft (put q2 x) with
    | bad => rw [et] at er2; cases er2
    | exc e => rw [et] at er2; cases er2
    | ok t =>
      rw [et, Res.bind_ok] at er2
      obtain ⟨tb, t2⟩ := t
      refine ⟨put q2 x, L3, w3, by rw [hB]; exact c3, ?_⟩
      rw [et]
      intro L4 H4 s4 w4 c4
      rw [hB] at c4
      cases tb with
      | false =>
        rw [if_neg Bool.false_ne_true] at er2
        cases er2
        refine (iteF ?_ : if false = true then _ else _)
        refine ⟨dn1 t2, L4, acc, ys, w4, ?_, (s2.trans ex.stp).trans s4, (s4 D fD3).1.trans n3, (s4 D fD3).2.trans d3, by omega, paired_mono (fun _ _ q => ce.mono _ _ _ _ _ (ex.stp.trans s4).rd q) pp, g3⟩
        rw [← hw]
        exact wc1.dn_ok _ _ _ _ _ c4
      | true =>
        rw [if_pos rfl] at er2
        cases ee : fe t2 with
        | bad => rw [ee] at er2; cases er2
        | exc e => rw [ee] at er2; cases er2
        | ok z =>
          rw [ee, Res.bind_ok] at er2
          cases er2
          refine (iteT ?_ : if true = true then _ else _)
          refine ⟨t2, L4, w4, by rw [hB]; exact c4, ?_⟩
          rw [ee]
          intro u L5 H5 s5 w5 c5 r5
          have r5 : ce.see B.X.K (rd L5 H5) u z.1 := r5
          rw [hB] at c5 r5
          have s45 := s4.trans s5
          have n5 : L5 D = none := (s45 D fD3).1.trans n3
          have d5 : H5 D = some (.lst acc) := (s45 D fD3).2.trans d3
          have lx : y.1.length ≤ sizeLine := wt.line
          have sm : Same (rd L5 H5) (rd L5 (upd H5 D (.lst (acc ++ [u])))) := fun a ob qa => by
            obtain ⟨⟨l, e1⟩, e2⟩ := rd_of qa
            refine rd_mk e1 ?_
            rw [upd_ne fun e => by rw [e, n5] at e1; cases e1]
            exact e2
          refine ⟨acc, d5, by omega, dn1 z.2, L5, acc ++ [u], ys ++ [z.1], ⟨fun a ha => ?_, fun a k l e => ?_⟩, ?_, fun a fa => ?_, n5, upd_same, by rw [List.length_append, List.length_singleton]; omega, ?_, ?_⟩
          · rw [upd_ne fun e => ha (by rw [e]; exact n5)]
            exact w5.dom a ha
          · rw [upd_ne fun e' => by rw [e', n5] at e; cases e]
            exact w5.soft a k l e
          · rw [← hw]
            exact (wc1.dn_ok _ _ _ _ _ c5).keep sm fun a j l _ e => ⟨rfl, upd_ne fun e' => by rw [e', n5] at e; cases e⟩
          · obtain ⟨e1, e2⟩ := ((s2.trans ex.stp).trans s45) a fa
            exact ⟨e1, by rw [upd_ne fun e => fa.1 (by rw [e]; exact hD)]; exact e2⟩
          · exact paired_append (paired_mono (fun _ _ q => ce.mono _ _ _ _ _ (fun a ob h => sm a ob ((ex.stp.trans s45).rd a ob h)) q) pp) (.cons (ce.mono _ _ _ _ _ sm r5) .nil)
          · simp only [List.append_assoc, List.singleton_append]
            exact g3
  · rintro H2 ⟨q2, L2, acc, ys, w2, c2, s2, n2, d2, l2, pp, g2⟩
    rw [List.drop_length] at g2
    have g3 : ∀ (v : V) (L' : Lab) (H' : Hp), Stp L H L' H' → Wf L' H' → CR A.X.K 0 G (bk y.2 q2) L' H' o → (rO (oL ce)).rel A.X.K L H L' H' v (ys ++ []) → Q v H' := g2
    rw [List.append_nil] at g3
    refine g3 (.ref D) L2 H2 (s1.trans s2) w2 (wc.bk_ok _ _ _ _ _ _ _ _ s2.rd c1 c2) ⟨fun a => if a = D then some [] else none, fun a m e => ?_, D, acc, rfl, if_pos rfl, d2, ?_, pp⟩
    · have e : (if a = D then some ([] : List Nat) else none) = some m := e
      by_cases ea : a = D
      · rw [if_pos ea] at e; cases e
        rw [ea, d2]
        exact ⟨n2, trivial, fun f => (s1.frm f).1 hD⟩
      · rw [if_neg ea] at e; cases e
    · have := wt.line
      omega
theorem pts_weak {X : Cx} {es : List Expr} {t t' : L2.TT} (h : PTs X es t) (i : ∀ o H Q, t' o H Q → t o H Q) : PTs X es t' := ⟨fun pins s o H Q I q => h.run pins s o H Q I (i _ _ _ q)⟩
theorem blk_S {vs : List Nat} {s : Shared} {H : Hp} {scope : Scope} {C : Addr} {cl : List (Str × Addr)} {fp : List Addr} : ∀ i, ¬ i ∈ vs → ¬ (A.blk vs s H scope C cl fp).S i := fun _ h => h
/-- [e for t in xs if c] -/
theorem ex_lcIf {α β : Type} {ci : Cod α} {ce : Cod β} {G0 G1 : Ctx} {elt tg iter c : Expr} {scope : Scope} {own : List (Str × Nat)} {pos : Pos} {fi : CT G → Res (List α × CT G)} {dn : CT G → CT G0} {bk : CT G → CT G0 → CT G} {put : CT G0 → α → CT G1} {ft : CT G1 → Res (Bool × CT G1)} {fe : CT G1 → Res (β × CT G1)} {dn1 : CT G1 → CT G0} {bk1 : CT G1 → CT G0 → CT G1}
    (hi : IX A G tg iter ci fi) (ok : BlkOk A.X.N A.X.env.scope scope own) (wc : WipeC 0 (own.map (fun x : Str × Nat => x.2)) G G0 dn bk)
    (hg : ∀ s H C cl fp, GX (A.blk (own.map (fun x : Str × Nat => x.2)) s H scope C cl fp) G0 tg ci G1 put) (ht : ∀ s H C cl fp, TX (A.blk (own.map (fun x : Str × Nat => x.2)) s H scope C cl fp) G1 c ft) (he : ∀ s H C cl fp, EX (A.blk (own.map (fun x : Str × Nat => x.2)) s H scope C cl fp) G1 elt (rV ce) fe)
    (wc1 : WipeC 0 (own.map (fun x : Str × Nat => x.2)) G1 G0 dn1 bk1) (hs : ∀ x, foldedSetIterable iter A.X.env x = pure x := by intro _; rfl) :
    EX A G (.ListComp elt [⟨tg, iter, [c], 0⟩] scope pos) (rO (oL ce)) (fun p => Res.bind (fi p) fun y => Res.bind (lcL y.1 (fun x q => Res.bind (ft (put q x)) fun t => if t.1 = true then Res.bind (fe t.2) fun z => .ok (some z.1, dn1 z.2) else .ok (none, dn1 t.2)) (dn y.2)) fun z => .ok (z.1, bk y.2 z.2)) :=
  pe_weak (pe_lc A.calm A.nd hi ok (g := tG (A.blk (own.map (fun x : Str × Nat => x.2)) A.X.s_0 A.X.H_0 scope 0 [] []) ci G0 G1 put) (tt := tT (A.blk (own.map (fun x : Str × Nat => x.2)) A.X.s_0 A.X.H_0 scope 0 [] []) G1 ft) (te := tE (A.blk (own.map (fun x : Str × Nat => x.2)) A.X.s_0 A.X.H_0 scope 0 [] []) G1 (rV ce) fe)
    (fun s H C cl fp => hg s H C cl fp) (fun s H C cl fp => pts_one (ht s H C cl fp)) (fun s H C cl fp => he s H C cl fp) hs) fun o H Q q => lc_reads (A := A) (A.blk (own.map (fun x : Str × Nat => x.2)) A.X.s_0 A.X.H_0 scope 0 [] []) rfl blk_S wc wc1 q
/-- [e for t in xs] -/
theorem ex_lc {α β : Type} {ci : Cod α} {ce : Cod β} {G0 G1 : Ctx} {elt tg iter : Expr} {scope : Scope} {own : List (Str × Nat)} {pos : Pos} {fi : CT G → Res (List α × CT G)} {dn : CT G → CT G0} {bk : CT G → CT G0 → CT G} {put : CT G0 → α → CT G1} {fe : CT G1 → Res (β × CT G1)} {dn1 : CT G1 → CT G0} {bk1 : CT G1 → CT G0 → CT G1}
    (hi : IX A G tg iter ci fi) (ok : BlkOk A.X.N A.X.env.scope scope own) (wc : WipeC 0 (own.map (fun x : Str × Nat => x.2)) G G0 dn bk)
    (hg : ∀ s H C cl fp, GX (A.blk (own.map (fun x : Str × Nat => x.2)) s H scope C cl fp) G0 tg ci G1 put) (he : ∀ s H C cl fp, EX (A.blk (own.map (fun x : Str × Nat => x.2)) s H scope C cl fp) G1 elt (rV ce) fe)
    (wc1 : WipeC 0 (own.map (fun x : Str × Nat => x.2)) G1 G0 dn1 bk1) (hs : ∀ x, foldedSetIterable iter A.X.env x = pure x := by intro _; rfl) :
    EX A G (.ListComp elt [⟨tg, iter, [], 0⟩] scope pos) (rO (oL ce)) (fun p => Res.bind (fi p) fun y => Res.bind (mapR y.1 (fun x q => Res.bind (fe (put q x)) fun z => .ok (z.1, dn1 z.2)) (dn y.2)) fun z => .ok (z.1, bk y.2 z.2)) := by
  refine pe_weak (pe_lc A.calm A.nd hi ok (g := tG (A.blk (own.map (fun x : Str × Nat => x.2)) A.X.s_0 A.X.H_0 scope 0 [] []) ci G0 G1 put) (tt := tT (A.blk (own.map (fun x : Str × Nat => x.2)) A.X.s_0 A.X.H_0 scope 0 [] []) G1 (fun q => .ok (true, q))) (te := tE (A.blk (own.map (fun x : Str × Nat => x.2)) A.X.s_0 A.X.H_0 scope 0 [] []) G1 (rV ce) fe)
    (fun s H C cl fp => hg s H C cl fp) (fun s H C cl fp => pts_weak pts_nil fun o H Q ⟨p, L, w, cr, k⟩ => k L H Stp.refl w cr) (fun s H C cl fp => he s H C cl fp) hs) fun o H Q q => lc_reads (A := A) (A.blk (own.map (fun x : Str × Nat => x.2)) A.X.s_0 A.X.H_0 scope 0 [] []) rfl blk_S wc wc1 ?_
  have e : ∀ (y : List α) (b : CT G0), lcL y (fun x q => Res.bind ((fun q => Res.ok (true, q)) (put q x)) fun t => if t.1 = true then Res.bind (fe t.2) fun z => .ok (some z.1, dn1 z.2) else .ok (none, dn1 t.2)) b = mapR y (fun x q => Res.bind (fe (put q x)) fun z => .ok (z.1, dn1 z.2)) b := fun y b => by
    rw [← lcL_some]
    simp only [Res.bind_ok, Res.bind_assoc, if_true]
  simp only [e]
  exact q
end
end AC
set_option Elab.async false
set_option linter.all false
set_option maxRecDepth 100000
/-! TL7: defs: what they promise, how they are called. -/
namespace AC
open PySem L2 PyProof

/-! ### promises -/
def EndF {α : Type} (K : Frag) (ca : Str → Addr) (L : Lab) (H : Hp) (E : XK) (m : Res α) (P : α → Prop) : Prop := match m with
  | .ok y => P y
  | .exc e => ∀ cls d H', RzK K ca L H e cls d H' → E cls (some d) H'
  | .bad => False
/-- values in, a value out -/
def spP (K : Frag) (ca : Str → Addr) {α β : Type} (as : ArgC α) (r : Rt β) (F : α → Res β) : Sp := fun vs H Q E =>
  ∃ (x : α) (L : Lab), Wf L H ∧ as.see K (rd L H) vs x ∧ EndF K ca L H E (F x) fun y => ∀ (v : V) (L' : Lab) (H' : Hp), Stp L H L' H' → Wf L' H' → r.rel K L H L' H' v y → Q v H'
/-- the first argument is one's own, and is changed -/
def spI (K : Frag) (ca : Str → Addr) {κ α β : Type} (oc : OCod κ) (as : ArgC α) (r : Rt β) (F : κ → α → Res (β × κ)) : Sp := fun vs H Q E =>
  ∃ (v0 : V) (ws : List V) (k : κ) (x : α) (L : Lab), vs = v0 :: ws ∧ Wf L H ∧ oc.own K (rd L H) (sub L 1) H [] v0 k ∧ as.see K (rd L H) ws x ∧
    EndF K ca L H E (F k x) fun y => ∀ (v : V) (L' : Lab) (H' : Hp), Stp L H L' H' → Wf L' H' → r.rel K L H L' H' v y.1 → oc.own K (rd L' H') (sub L' 1) H' [] v0 y.2 → Q v H'

/-- nothing is one's own -/
def strip (L : Lab) : Lab := fun a => match L a with
  | some (0, l) => some (0, l)
  | _ => none
theorem strip_0 {L : Lab} {a : Addr} {l : List Nat} (h : L a = some (0, l)) : strip L a = some (0, l) := by unfold strip; rw [h]; rfl
theorem strip_s {L : Lab} {a : Addr} {k : Nat} {l : List Nat} (h : L a = some (k + 1, l)) : strip L a = none := by unfold strip; rw [h]; rfl
theorem strip_n {L : Lab} {a : Addr} (h : L a = none) : strip L a = none := by unfold strip; rw [h]
theorem strip_of {L : Lab} {a : Addr} {k : Nat} {l : List Nat} (h : strip L a = some (k, l)) : k = 0 ∧ L a = some (0, l) := by
  cases e : L a with
  | none => rw [strip_n e] at h; cases h
  | some x =>
    obtain ⟨j, m⟩ := x
    cases j with
    | zero => rw [strip_0 e] at h; cases h; exact ⟨rfl, rfl⟩
    | succ j => rw [strip_s e] at h; cases h
theorem rd_strip {L : Lab} {H : Hp} : rd (strip L) H = rd L H := by
  funext a
  unfold rd
  cases e : L a with
  | none => rw [strip_n e]
  | some x =>
    obtain ⟨j, m⟩ := x
    cases j with
    | zero => rw [strip_0 e]
    | succ j => rw [strip_s e]; rfl
theorem wf_strip {L : Lab} {H : Hp} (w : Wf L H) : Wf (strip L) H := ⟨fun a ha => by
  cases e : strip L a with
  | none => exact absurd e ha
  | some x =>
    obtain ⟨j, m⟩ := x
    exact w.dom a (by rw [(strip_of e).2]; simp), fun a k l e => absurd (strip_of e).1 (by omega)⟩
theorem frm_strip {L : Lab} {H : Hp} {a : Addr} (h : H a ≠ none) : Frm (strip L) H a := ⟨h, by
  cases e : strip L a with
  | none => exact .inl rfl
  | some x =>
    obtain ⟨j, m⟩ := x
    obtain ⟨rfl, _⟩ := strip_of e
    exact .inr ⟨m, rfl⟩⟩
theorem frm_to_strip {L : Lab} {H : Hp} {a : Addr} (h : Frm L H a) : Frm (strip L) H a := frm_strip h.1
theorem rz_strip {K : Frag} {ca : Str → Addr} {L : Lab} {H : Hp} {e : Exn} {cls : Value} {d : Addr} {H' : Hp} (h : RzK K ca (strip L) H e cls d H') : RzK K ca L H e cls d H' := by
  obtain ⟨h1, h2, h3, v, h4, R, h5, h6, h7, h8⟩ := h
  rw [rd_strip] at h6 h7
  exact ⟨h1, fun a f => h2 a (frm_to_strip f), fun f => h3 (frm_to_strip f), v, h4, R, h5, h6, fun a o q => (h7 a o q).imp id fun z f => z (frm_to_strip f), h8⟩
/-- behind a call: what was one's own is so again -/
def unstrip (L L' : Lab) : Lab := fun a => match L a with
  | some (k + 1, l) => some (k + 1, l)
  | _ => strip L' a
theorem un_s {L L' : Lab} {a : Addr} {k : Nat} {l : List Nat} (h : L a = some (k + 1, l)) : unstrip L L' a = some (k + 1, l) := by unfold unstrip; rw [h]
theorem un_0 {L L' : Lab} {a : Addr} {l : List Nat} (h : L a = some (0, l)) : unstrip L L' a = strip L' a := by unfold unstrip; rw [h]
theorem un_n {L L' : Lab} {a : Addr} (h : L a = none) : unstrip L L' a = strip L' a := by unfold unstrip; rw [h]
section
variable {L L' : Lab} {H H' : Hp}
theorem un_ext (w : Wf L H) (s : Stp (strip L) H L' H') : Ext L H (unstrip L L') H' := fun a ha => by
  obtain ⟨e1, e2⟩ := s a (frm_strip ha)
  refine ⟨?_, e2⟩
  cases e : L a with
  | none => rw [un_n e, strip_n (e1.trans (strip_n e))]
  | some x =>
    obtain ⟨j, m⟩ := x
    cases j with
    | zero => rw [un_0 e, strip_0 (e1.trans (strip_0 e))]
    | succ j => rw [un_s e]
theorem un_rd (w : Wf L H) (s : Stp (strip L) H L' H') : rd (unstrip L L') H' = rd L' H' := by
  funext a
  by_cases ha : H a = none
  · unfold rd
    rw [un_n (w.none ha)]
    cases e : L' a with
    | none => rw [strip_n e]
    | some x =>
      obtain ⟨j, m⟩ := x
      cases j with
      | zero => rw [strip_0 e]
      | succ j => rw [strip_s e]; rfl
  · obtain ⟨e1, e2⟩ := s a (frm_strip ha)
    unfold rd
    rw [e1, (un_ext w s a ha).1]
    cases e : L a with
    | none => rw [strip_n e]
    | some x =>
      obtain ⟨j, m⟩ := x
      cases j with
      | zero => rw [strip_0 e]
      | succ j => rw [strip_s e]; rfl
theorem un_wf (w : Wf L H) (w' : Wf L' H') (s : Stp (strip L) H L' H') : Wf (unstrip L L') H' := by
  have key : ∀ a k l, unstrip L L' a = some (k, l) → (∃ k', k = k' + 1 ∧ L a = some (k, l)) ∨ (k = 0 ∧ L' a = some (0, l)) := fun a k l e => by
    cases e' : L a with
    | none => rw [un_n e'] at e; exact .inr ⟨(strip_of e).1, (strip_of e).2⟩
    | some x =>
      obtain ⟨j, m⟩ := x
      cases j with
      | zero => rw [un_0 e'] at e; exact .inr ⟨(strip_of e).1, (strip_of e).2⟩
      | succ j => rw [un_s e'] at e; cases e; exact .inl ⟨j, rfl, rfl⟩
  refine ⟨fun a ha => ?_, fun a k l e => ?_⟩
  · cases e : unstrip L L' a with
    | none => exact absurd e ha
    | some x =>
      obtain ⟨k, l⟩ := x
      rcases key a k l e with ⟨_, _, z⟩ | ⟨_, z⟩
      · have h := w.dom a (by rw [z]; simp)
        rw [(s a (frm_strip h)).2]
        exact h
      · exact w'.dom a (by rw [z]; simp)
  · rcases key a _ l e with ⟨_, _, z⟩ | ⟨h, _⟩
    · have h := w.dom a (by rw [z]; simp)
      rw [(s a (frm_strip h)).2]
      exact w.soft a k l z
    · omega
end
/-- a result, seen from the caller -/
theorem un_rel {β : Type} {c : Cod β} {K : Frag} {L L' : Lab} {H H' : Hp} {v : V} {y : β} (w : Wf L H) (s : Stp (strip L) H L' H') (h : (rV c).rel K (strip L) H L' H' v y) : (rV c).rel K L H (unstrip L L') H' v y := by
  show c.see K (rd (unstrip L L') H') v y
  rw [un_rd w s]
  exact h
theorem un_relO {β : Type} {c : OCod β} {K : Frag} {L L' : Lab} {H H' : Hp} {v : V} {y : β} (w : Wf L H) (s : Stp (strip L) H L' H') (h : (rO c).rel K (strip L) H L' H' v y) : (rO c).rel K L H (unstrip L L') H' v y := by
  obtain ⟨M, hM, ho⟩ := h
  refine ⟨M, fun a m e => ?_, by rw [un_rd w s]; exact ho⟩
  obtain ⟨h1, h2, h3⟩ := hM a m e
  have hn : H a = none := by
    cases q : H a with
    | none => rfl
    | some o => exact absurd (frm_strip (by rw [q]; simp)) h3
  exact ⟨by rw [un_n (w.none hn), strip_n h1], h2, fun f => f.1 hn⟩
/-- results that may be handed over -/
structure RtOk {β : Type} (r : Rt β) : Prop where
  un : ∀ {K : Frag} {L L' : Lab} {H H' : Hp} {v : V} {y : β}, Wf L H → Stp (strip L) H L' H' → r.rel K (strip L) H L' H' v y → r.rel K L H (unstrip L L') H' v y
theorem rtv {β : Type} {c : Cod β} : RtOk (rV c) := ⟨un_rel⟩
theorem rto {β : Type} {c : OCod β} : RtOk (rO c) := ⟨un_relO⟩

/-! ### calls -/
/-- f may be called here -/
def CallAt (A : Amb) (f : Addr) (sp : Sp) : Prop := ∀ (pins : List (Addr × Obj)) (o : St) (H : Hp) (s : Shared) (Q : VK) (us : List Value) (vs : List V), Inv A.X pins o H s → Vals vs us → sp vs H Q (WE A.W o) →
  wpAny (model A.X.prog A.X.w) A.X.A (call (.ref f) us) (EP A.X pins o Q) A.X.xe s
/-- a def's promise where no repr is under way -/
structure FnG (P : Program) (w : World) (K : Frag) (mg : Str → Option Value) (base : Heap) (k : Nat) (f : Addr) (fd : FuncData) (ps : List Str) (sp : Sp) : Prop where
  len : ∀ vs H Q E, sp vs H Q E → vs.length = ps.length
  go : ∀ (B : Around) (up : List Env) (s : Shared) (H : Hp) (args : Args) (us : List Value) (vs : List V) (Q : VK) (E : XK), B.guards = some [] → Room k B → Env0 P w K mg base B up s H → BindsTo s fd args (ps.zip us) → Vals vs us → sp vs H Q E →
    codeAny (model P w) B (.call (.ref f) args) (L2.CR (L2.CX P w) up P w H s Q E) s
theorem FnG.mono {P : Program} {w : World} {K : Frag} {mg : Str → Option Value} {base : Heap} {j k : Nat} {f : Addr} {fd : FuncData} {ps : List Str} {sp : Sp} (F : FnG P w K mg base j f fd ps sp) (h : j ≤ k) : FnG P w K mg base k f fd ps sp :=
  ⟨F.len, fun B up s H args us vs Q E hg hr => F.go B up s H args us vs Q E hg (hr.mono h)⟩
theorem callAtK {A : Amb} {k : Nat} {f : Addr} {fd : FuncData} {ps : List Str} {sp : Sp} (F : FnG A.X.prog A.X.w A.X.K A.X.mg A.X.base k f fd ps sp) (hk : k ≤ A.lv) {pins : List (Addr × Obj)} {o : St} {H : Hp} {s : Shared} {Q : VK} {us ws : List Value} {vs : List V} {kw : List (Str × Value)}
    (I : Inv A.X pins o H s) (hb : BindsTo s fd ⟨us, kw⟩ (ps.zip ws)) (r : Vals vs ws) (h : sp vs H Q (WE A.W o)) : wpAny (model A.X.prog A.X.w) A.X.A (call (.ref f) us kw) (EP A.X pins o Q) A.X.xe s := by
  refine wpAny_call (codeAny_mono (F.go A.X.A A.X.stack s H ⟨us, kw⟩ ws vs Q _ A.gd (A.room.mono hk) I.env0 hb r h) fun y s' hq => ?_)
  rcases y with e | fl
  · exact passAt A.tk o pins H s e s' I hq
  · rcases fl with _ | _ | _ | u
    · exact False.elim hq
    · exact False.elim hq
    · exact False.elim hq
    · exact I.after hq
theorem callAt {A : Amb} {k : Nat} {f : Addr} {fd : FuncData} {ps : List Str} {sp : Sp} (F : FnG A.X.prog A.X.w A.X.K A.X.mg A.X.base k f fd ps sp) (hb : Binds A.X.K fd ps []) (hk : k ≤ A.lv) : CallAt A f sp :=
  fun pins o H s Q us vs I r h => by
    have hl : us.length = ps.length := r.length.symm.trans (F.len _ _ _ _ h)
    have b := hb s us I.kIn ((congrArg List.length (List.append_nil us)).trans hl)
    rw [List.append_nil] at b
    exact callAtK F hk I b r h
theorem callAtD {A : Amb} {k : Nat} {f : Addr} {fd : FuncData} {ps : List Str} {sp : Sp} {dvs : List V} {ds : List Value} (F : FnG A.X.prog A.X.w A.X.K A.X.mg A.X.base k f fd ps sp) (hb : Binds A.X.K fd ps ds) (hd : Vals dvs ds) (hk : k ≤ A.lv) : CallAt A f (fun vs H Q E => sp (vs ++ dvs) H Q E) :=
  fun pins o H s Q us vs I r h => by
    have r2 := r.append hd
    exact callAtK F hk I (hb s us I.kIn (r2.length.symm.trans (F.len _ _ _ _ h))) r2 h
/-- a global name that stands for a def -/
structure GlobF (A : Amb) (x : Str) (f : Addr) : Prop where
  gl : Gl A.X x
  mg : A.X.mg x = some (.ref f)
  kp : PySem.W.keepIn A.X.K (.ref f) = true
section
variable {A : Amb} {G : Ctx}
theorem call_reads {α β : Type} {as : ArgC α} {r : Rt β} {F : α → Res β} {fa : CT G → Res (α × CT G)} {o : St} {H : Hp} {Q : VK} (hr : RtOk r)
    (q : tE A G r (fun p => Res.bind (fa p) fun y => Res.bind (F y.1) fun z => .ok (z, y.2)) o H Q) : tA A G as fa o H fun vs H1 => spP A.X.K A.ca as r F vs H1 Q (WE A.W o) := by
  obtain ⟨p, L, w, cr, k⟩ := q
  refine ⟨p, L, w, cr, k.bind.imp fun y _ gy vs L1 H1 s1 w1 c1 h1 => ⟨y.1, strip L1, wf_strip w1, by rw [rd_strip]; exact h1, ?_⟩⟩
  have gy := gy.step s1
  cases e : F y.1 with
  | bad => rw [e] at gy; exact gy.elim
  | exc ex =>
    rw [e] at gy
    exact fun cls d H' hz => (show A.raises ex L1 H1 o from gy) cls d H' (rz_strip hz) o fun _ _ => rfl
  | ok z =>
    rw [e] at gy
    exact fun v L2 H2 s2 w2 rl => (show ∀ v L' H', _ from gy) v (unstrip L1 L2) H2 (s1.trans (un_ext w1 s2).stp) (un_wf w1 w2 s2) (c1.ext w1 (un_ext w1 s2)) (r.pre _ _ _ _ _ _ _ _ _ s1 (hr.un w1 s2 rl))
theorem ex_call {α β : Type} {as : ArgC α} {r : Rt β} {F : α → Res β} {f : Addr} {x : Str} {p pos : Pos} {e : Expr} {es : List Expr} {fa : CT G → Res (α × CT G)} (hg : GlobF A x f) (hc : CallAt A f (spP A.X.K A.ca as r F)) (hr : RtOk r) (ha : AX A G (e :: es) as fa)
    (hdb : (x == ("__debug__" : Str)) = false := by decide) (he : starEach (e :: es) A.X.env = (false, eval e A.X.env) :: starEach es A.X.env := by rfl) (hpl : (backTo pos (starEach es A.X.env)).any (·.1) = false := by rfl) :
    EX A G (.Call (.Name x p) (e :: es) [] pos) r (fun p => Res.bind (fa p) fun y => Res.bind (F y.1) fun z => .ok (z, y.2)) := by
  refine ⟨fun pins s o H Q I q => wpAny_Call_Name_kw (ld_glob I hg.gl hg.mg (PySem.W.callWith_K (h₀ := A.X.base) I.ok.mod.kin hg.kp ?_ he hpl) hdb)⟩
  exact thn (ha.run pos pins s o H _ I (call_reads hr q)) fun us s1 hu => by
    obtain ⟨vs, H1, I1, hv, hsp⟩ := hu
    exact ⟨I1.kIn, hc pins o H1 s1 Q us vs I1 hv hsp⟩
theorem ex_call0 {β : Type} {r : Rt β} {F : Unit → Res β} {f : Addr} {x : Str} {p pos : Pos} (hg : GlobF A x f) (hc : CallAt A f (spP A.X.K A.ca aNil r F)) (hr : RtOk r) (hdb : (x == ("__debug__" : Str)) = false := by decide) :
    EX A G (.Call (.Name x p) [] [] pos) r (fun p => Res.bind (F ()) fun z => .ok (z, p)) := by
  refine ⟨fun pins s o H Q I q => wpAny_Call_Name_kw (ld_glob I hg.gl hg.mg (PySem.W.callWith_K0 I.kIn hg.kp ?_) hdb)⟩
  refine hc pins o H s Q [] [] I .nil ?_
  have := call_reads (as := aNil) (fa := fun p => .ok ((), p)) hr q
  obtain ⟨p, L, w, cr, k⟩ := this
  exact k [] L H Stp.refl w cr rfl

/-! ### the first argument is one's own -/
/-- the i-th slot's own things become the first argument's -/
def lend1 (i : Nat) (L : Lab) : Lab := fun a => match L a with
  | none => none
  | some (k, l) => if k = 0 then some (0, l) else if k = i + 1 then some (1, l) else none
def tr1 (i : Nat) : Option (Nat × List Nat) → Option (Nat × List Nat)
  | none => none
  | some (k, l) => if k = 0 then some (0, l) else if k = 1 then some (i + 1, l) else none
def back1 (i : Nat) (L L' : Lab) : Lab := fun a => match L a with
  | none => tr1 i (L' a)
  | some (k, l) => if k = 0 ∨ k = i + 1 then tr1 i (L' a) else some (k, l)
section
variable {i : Nat} {L L' : Lab} {H H' : Hp}
theorem lend1_n {a : Addr} (h : L a = none) : lend1 i L a = none := by unfold lend1; rw [h]
theorem lend1_0 {a : Addr} {l : List Nat} (h : L a = some (0, l)) : lend1 i L a = some (0, l) := by unfold lend1; rw [h]; exact if_pos rfl
theorem lend1_i {a : Addr} {l : List Nat} (h : L a = some (i + 1, l)) : lend1 i L a = some (1, l) := by
  unfold lend1
  rw [h]
  show (if i + 1 = 0 then _ else if i + 1 = i + 1 then some (1, l) else none) = _
  rw [if_neg (by omega), if_pos rfl]
theorem lend1_o {a : Addr} {k : Nat} {l : List Nat} (h : L a = some (k, l)) (h0 : k ≠ 0) (hi : k ≠ i + 1) : lend1 i L a = none := by
  unfold lend1
  rw [h]
  show (if k = 0 then _ else if k = i + 1 then some (1, l) else none) = _
  rw [if_neg h0, if_neg hi]
/-- the four cases -/
theorem lend1_cases (a : Addr) : (L a = none ∧ lend1 i L a = none) ∨ (∃ l, L a = some (0, l) ∧ lend1 i L a = some (0, l)) ∨ (∃ l, L a = some (i + 1, l) ∧ lend1 i L a = some (1, l)) ∨ (∃ k l, k ≠ 0 ∧ k ≠ i + 1 ∧ L a = some (k, l) ∧ lend1 i L a = none) := by
  cases e : L a with
  | none => exact .inl ⟨rfl, lend1_n e⟩
  | some x =>
    obtain ⟨k, l⟩ := x
    by_cases h0 : k = 0
    · subst h0; exact .inr (.inl ⟨l, rfl, lend1_0 e⟩)
    · by_cases hi : k = i + 1
      · subst hi; exact .inr (.inr (.inl ⟨l, rfl, lend1_i e⟩))
      · exact .inr (.inr (.inr ⟨k, l, h0, hi, rfl, lend1_o e h0 hi⟩))
theorem rd_lend1 : rd (lend1 i L) H = rd L H := by
  funext a
  unfold rd
  rcases lend1_cases (i := i) (L := L) a with ⟨e1, e2⟩ | ⟨l, e1, e2⟩ | ⟨l, e1, e2⟩ | ⟨k, l, h0, hi, e1, e2⟩
  · rw [e1, e2]
  · rw [e1, e2]
  · rw [e1, e2]; rfl
  · rw [e1, e2]
    cases k with
    | zero => exact absurd rfl h0
    | succ k => rfl
theorem wf_lend1 (w : Wf L H) : Wf (lend1 i L) H := by
  refine ⟨fun a ha => ?_, fun a k l e => ?_⟩
  · rcases lend1_cases (i := i) (L := L) a with ⟨e1, e2⟩ | ⟨l, e1, e2⟩ | ⟨l, e1, e2⟩ | ⟨k, l, h0, hi, e1, e2⟩
    · exact absurd e2 ha
    · exact w.dom a (by rw [e1]; simp)
    · exact w.dom a (by rw [e1]; simp)
    · exact absurd e2 ha
  · rcases lend1_cases (i := i) (L := L) a with ⟨e1, e2⟩ | ⟨l', e1, e2⟩ | ⟨l', e1, e2⟩ | ⟨k', l', h0, hi, e1, e2⟩
    · rw [e2] at e; cases e
    · rw [e2] at e; cases e
    · rw [e2] at e; cases e; exact w.soft a i l e1
    · rw [e2] at e; cases e
theorem sub_lend1 : sub (lend1 i L) 1 = sub L (i + 1) := by
  funext a
  unfold sub
  rcases lend1_cases (i := i) (L := L) a with ⟨e1, e2⟩ | ⟨l, e1, e2⟩ | ⟨l, e1, e2⟩ | ⟨k, l, h0, hi, e1, e2⟩
  · rw [e1, e2]
  · rw [e1, e2]; simp
  · rw [e1, e2]; simp
  · rw [e1, e2]; simp [hi]
theorem frm_lend1 {a : Addr} (f : Frm L H a) : Frm (lend1 i L) H a ∧ lend1 i L a = L a := by
  rcases lend1_cases (i := i) (L := L) a with ⟨e1, e2⟩ | ⟨l, e1, e2⟩ | ⟨l, e1, e2⟩ | ⟨k, l, h0, hi, e1, e2⟩
  · exact ⟨⟨f.1, .inl e2⟩, e2.trans e1.symm⟩
  · exact ⟨⟨f.1, .inr ⟨l, e2⟩⟩, e2.trans e1.symm⟩
  · rcases f.2 with z | ⟨l', z⟩
    · rw [e1] at z; cases z
    · rw [e1] at z; cases z
  · rcases f.2 with z | ⟨l', z⟩
    · rw [e1] at z; cases z
    · rw [e1] at z; cases z; exact absurd rfl h0
theorem frm_lend1o (w : Wf L H) {a : Addr} {k : Nat} {l : List Nat} (h : L a = some (k, l)) (h0 : k ≠ 0) (hi : k ≠ i + 1) : Frm (lend1 i L) H a := ⟨w.dom a (by rw [h]; simp), .inl (lend1_o h h0 hi)⟩
theorem back1_o {a : Addr} {k : Nat} {l : List Nat} (h : L a = some (k, l)) (h0 : k ≠ 0) (hi : k ≠ i + 1) : back1 i L L' a = some (k, l) := by
  unfold back1
  rw [h]
  show (if k = 0 ∨ k = i + 1 then _ else some (k, l)) = _
  rw [if_neg (by omega)]
theorem back1_t {a : Addr} (h : ∀ k l, L a = some (k, l) → k = 0 ∨ k = i + 1) : back1 i L L' a = tr1 i (L' a) := by
  unfold back1
  cases e : L a with
  | none => rfl
  | some x =>
    obtain ⟨k, l⟩ := x
    exact if_pos (h k l e)
theorem tr1_0 {l : List Nat} : tr1 i (some (0, l)) = some (0, l) := by simp [tr1]
theorem tr1_1 {l : List Nat} : tr1 i (some (1, l)) = some (i + 1, l) := by simp [tr1]
theorem tr1_some {y : Option (Nat × List Nat)} {k : Nat} {l : List Nat} (h : tr1 i y = some (k, l)) : (k = 0 ∧ y = some (0, l)) ∨ (k = i + 1 ∧ y = some (1, l)) := by
  cases y with
  | none => cases h
  | some x =>
    obtain ⟨j, m⟩ := x
    have h : (if j = 0 then some (0, m) else if j = 1 then some (i + 1, m) else none) = some (k, l) := h
    by_cases h0 : j = 0
    · rw [if_pos h0] at h; cases h; exact .inl ⟨rfl, by rw [h0]⟩
    · rw [if_neg h0] at h
      by_cases h1 : j = 1
      · rw [if_pos h1] at h; cases h; exact .inr ⟨rfl, by rw [h1]⟩
      · rw [if_neg h1] at h; cases h
/-- either another slot's own, as it was; or as the callee left it -/
theorem back1_cases (w : Wf L H) (s : Stp (lend1 i L) H L' H') (a : Addr) : (∃ k l, k ≠ 0 ∧ k ≠ i + 1 ∧ L a = some (k, l) ∧ back1 i L L' a = some (k, l) ∧ L' a = none ∧ H' a = H a) ∨ ((∀ k l, L a = some (k, l) → k = 0 ∨ k = i + 1) ∧ back1 i L L' a = tr1 i (L' a)) := by
  by_cases h : ∀ k l, L a = some (k, l) → k = 0 ∨ k = i + 1
  · exact .inr ⟨h, back1_t h⟩
  · have : ∃ k l, L a = some (k, l) ∧ ¬ (k = 0 ∨ k = i + 1) := by
      cases e : L a with
      | none => exact absurd (fun k l z => by rw [e] at z; cases z) h
      | some x =>
        obtain ⟨k, l⟩ := x
        refine ⟨k, l, rfl, fun q => h fun k' l' z => ?_⟩
        rw [e] at z; cases z; exact q
    obtain ⟨k, l, e, hk⟩ := this
    have f := frm_lend1o (i := i) w e (by omega) (by omega)
    exact .inl ⟨k, l, by omega, by omega, e, back1_o e (by omega) (by omega), (s a f).1.trans (lend1_o e (by omega) (by omega)), (s a f).2⟩
theorem rd_back1 (w : Wf L H) (s : Stp (lend1 i L) H L' H') : rd (back1 i L L') H' = rd L' H' := by
  funext a
  unfold rd
  rcases back1_cases w s a with ⟨k, l, h0, hi, e1, e2, e3, e4⟩ | ⟨h, e2⟩
  · rw [e2, e3]
    cases k with
    | zero => exact absurd rfl h0
    | succ k => rfl
  · rw [e2]
    cases e : L' a with
    | none => rfl
    | some x =>
      obtain ⟨j, m⟩ := x
      cases j with
      | zero => rw [tr1_0]
      | succ j =>
        cases q : tr1 i (some (j + 1, m)) with
        | none => rfl
        | some y =>
          obtain ⟨k, l⟩ := y
          rcases tr1_some q with ⟨rfl, z⟩ | ⟨rfl, z⟩
          · cases z
          · rfl
theorem wf_back1 (w : Wf L H) (w' : Wf L' H') (s : Stp (lend1 i L) H L' H') : Wf (back1 i L L') H' := by
  refine ⟨fun a ha => ?_, fun a k l e => ?_⟩
  · rcases back1_cases w s a with ⟨k, l, h0, hi, e1, e2, e3, e4⟩ | ⟨h, e2⟩
    · rw [e4]; exact w.dom a (by rw [e1]; simp)
    · refine w'.dom a fun z => ha ?_
      rw [e2, z]; rfl
  · rcases back1_cases w s a with ⟨k', l', h0, hi, e1, e2, e3, e4⟩ | ⟨h, e2⟩
    · rw [e2] at e; cases e; rw [e4]; exact w.soft a k l e1
    · rw [e2] at e
      rcases tr1_some e with ⟨z, _⟩ | ⟨_, z⟩
      · omega
      · exact w'.soft a 0 l z
theorem stp_back1 (w : Wf L H) (s : Stp (lend1 i L) H L' H') : Stp L H (back1 i L L') H' := fun a f => by
  obtain ⟨f1, e1⟩ := frm_lend1 (i := i) f
  obtain ⟨e2, e3⟩ := s a f1
  refine ⟨?_, e3⟩
  rw [back1_t fun k l e => ?_, e2, e1]
  · rcases f.2 with z | ⟨l, z⟩
    · rw [z]; rfl
    · rw [z, tr1_0]
  · rcases f.2 with z | ⟨l, z⟩
    · rw [z] at e; cases e
    · rw [z] at e; cases e; exact .inl rfl
theorem sub_back1 (w : Wf L H) (s : Stp (lend1 i L) H L' H') {a : Addr} {m : List Nat} (h : sub L' 1 a = some m) : sub (back1 i L L') (i + 1) a = some m := by
  have e := sub_of h
  rcases back1_cases w s a with ⟨k', l', h0, hi, e1, e2, e3, e4⟩ | ⟨_, e2⟩
  · rw [e3] at e; cases e
  · exact sub_mk (by rw [e2, e, tr1_1])
end
theorem rel_back1 {β : Type} {c : Cod β} {K : Frag} {i : Nat} {L L' : Lab} {H H' : Hp} {v : V} {y : β} (w : Wf L H) (s : Stp (lend1 i L) H L' H') (h : (rV c).rel K (lend1 i L) H L' H' v y) : (rV c).rel K L H (back1 i L L') H' v y := by
  show c.see K (rd (back1 i L L') H') v y
  rw [rd_back1 w s]
  exact h
theorem rel_back1O {β : Type} {c : OCod β} {K : Frag} {i : Nat} {L L' : Lab} {H H' : Hp} {v : V} {y : β} (w : Wf L H) (s : Stp (lend1 i L) H L' H') (h : (rO c).rel K (lend1 i L) H L' H' v y) : (rO c).rel K L H (back1 i L L') H' v y := by
  obtain ⟨M, hM, ho⟩ := h
  refine ⟨M, fun a m e => ?_, by rw [rd_back1 w s]; exact ho⟩
  obtain ⟨h1, h2, h3⟩ := hM a m e
  refine ⟨?_, h2, fun f => h3 (frm_lend1 f).1⟩
  rcases back1_cases w s a with ⟨k', l', h0, hi, e1, e2, e3, e4⟩ | ⟨_, e2⟩
  · exact absurd (frm_lend1o w e1 h0 hi) h3
  · rw [e2, h1]; rfl
structure RtOkI {β : Type} (r : Rt β) : Prop where
  un : ∀ {K : Frag} {i : Nat} {L L' : Lab} {H H' : Hp} {v : V} {y : β}, Wf L H → Stp (lend1 i L) H L' H' → r.rel K (lend1 i L) H L' H' v y → r.rel K L H (back1 i L L') H' v y
theorem rtvI {β : Type} {c : Cod β} : RtOkI (rV c) := ⟨rel_back1⟩
theorem rtoI {β : Type} {c : OCod β} : RtOkI (rO c) := ⟨rel_back1O⟩
theorem rz_lend1 {K : Frag} {ca : Str → Addr} {i : Nat} {L : Lab} {H : Hp} {e : Exn} {cls : Value} {d : Addr} {H' : Hp} (h : RzK K ca (lend1 i L) H e cls d H') : RzK K ca L H e cls d H' := by
  obtain ⟨h1, h2, h3, v, h4, R, h5, h6, h7, h8⟩ := h
  rw [rd_lend1] at h6 h7
  exact ⟨h1, fun a f => h2 a (frm_lend1 f).1, fun f => h3 (frm_lend1 f).1, v, h4, R, h5, h6, fun a o q => (h7 a o q).imp id fun z f => z (frm_lend1 f).1, h8⟩
structure Mod (G : Ctx) (i : Nat) (s : Slot) (put : CT G → s.T → CT G) : Prop where
  ok : ∀ (K : Frag) (k : Nat) (p : CT G) (x : s.T) (L : Lab) (H : Hp) (L' : Lab) (H' : Hp) (o : St), CR K k G p L H o → Same (rd L H) (rd L' H') → (∀ a j l, k ≤ j → j ≠ k + i → L a = some (j + 1, l) → L' a = L a ∧ H' a = H a) → s.rel K (k + i) x L' H' o[k + i]? → CR K k G (put p x) L' H' o
theorem md_z {G : Ctx} {s : Slot} : Mod (s :: G) 0 s (fun p x => (x, p.2)) := ⟨fun K k p x L H L' H' o c sm h r => ⟨r, c.2.keep sm fun a j l hj e => h a j l (by omega) (by omega) e⟩⟩
theorem md_s {G : Ctx} {i : Nat} {s t : Slot} {put : CT G → s.T → CT G} (h : Mod G i s put) : Mod (t :: G) (i + 1) s (fun p x => (p.1, put p.2 x)) := ⟨fun K k p x L H L' H' o c sm hk r => by
  rw [show k + (i + 1) = k + 1 + i by omega] at r hk
  exact ⟨t.keep K k p.1 L H L' H' _ sm (fun a l e => hk a k l (Nat.le_refl _) (by omega) e) c.1, h.ok K (k + 1) p.2 x L H L' H' o c.2 sm (fun a j l hj hn e => hk a j l (by omega) hn e) r⟩⟩
theorem callI_reads {α β κ : Type} {as : ArgC α} {oc : OCod κ} {P : V → Prop} {r : Rt β} {F : κ → α → Res (β × κ)} {i : Nat} {g : CT G → κ} {put : CT G → κ → CT G} {fa : CT G → Res (α × CT G)} {o : St} {H : Hp} {Q : VK} (a : At G i (sOwn P oc) g) (m : Mod G i (sOwn P oc) put) (hr : RtOkI r)
    (q : tE A G r (fun p => Res.bind (fa p) fun y => Res.bind (F (g y.2) y.1) fun z => .ok (z.1, put y.2 z.2)) o H Q) : tCons (tVar i) (tA A G as fa) o H fun vs H1 => spI A.X.K A.ca oc as r F vs H1 Q (WE A.W o) := by
  obtain ⟨p, L, w, cr, k⟩ := q
  obtain ⟨v0, _, ev, _⟩ := a.ok _ _ _ _ _ _ cr
  rw [Nat.zero_add] at ev
  refine ⟨v0, ev, p, L, w, cr, k.bind.imp fun y _ gy vs L1 H1 s1 w1 c1 h1 => ?_⟩
  obtain ⟨v1, hP, ev1, ho⟩ := a.ok _ _ _ _ _ _ c1
  rw [Nat.zero_add] at ev1 ho
  rw [ev] at ev1
  cases ev1
  refine ⟨v0, vs, g y.2, y.1, lend1 i L1, rfl, wf_lend1 w1, by rw [rd_lend1, sub_lend1]; exact ho, by rw [rd_lend1]; exact h1, ?_⟩
  have gy := gy.step s1
  cases e : F (g y.2) y.1 with
  | bad => rw [e] at gy; exact gy.elim
  | exc ex =>
    rw [e] at gy
    exact fun cls d H' hz => (show A.raises ex L1 H1 o from gy) cls d H' (rz_lend1 hz) o fun _ _ => rfl
  | ok z =>
    rw [e] at gy
    intro v L2 H2 s2 w2 rl oc2
    have sb := stp_back1 w1 s2
    refine (show ∀ v L' H', _ from gy) v (back1 i L1 L2) H2 (s1.trans sb) (wf_back1 w1 w2 s2) (m.ok _ _ _ _ _ _ _ _ _ c1 sb.rd (fun x j l hj hn ex => ?_) ⟨v0, hP, by rw [Nat.zero_add]; exact ev, ?_⟩) (r.pre _ _ _ _ _ _ _ _ _ s1 (hr.un w1 s2 rl))
    · rcases back1_cases w1 s2 x with ⟨k', l', h0, hi, e1, e2, e3, e4⟩ | ⟨h, _⟩
      · rw [ex] at e1; cases e1; exact ⟨e2.trans ex.symm, e4⟩
      · have := h _ _ ex
        omega
    · rw [Nat.zero_add]
      exact oc.mono _ _ _ _ _ _ _ _ _ _ (by rw [rd_back1 w1 s2]; exact fun _ _ z => z) (fun x m' hm => ⟨sub_back1 w1 s2 hm, rfl⟩) oc2
theorem ex_callI {α β κ : Type} {as : ArgC α} {oc : OCod κ} {P : V → Prop} {r : Rt β} {F : κ → α → Res (β × κ)} {i : Nat} {g : CT G → κ} {put : CT G → κ → CT G} {f : Addr} {x y : Str} {p p1 pos : Pos} {es : List Expr} {fa : CT G → Res (α × CT G)} (a : At G i (sOwn P oc) g) (m : Mod G i (sOwn P oc) put)
    (hg : GlobF A x f) (hc : CallAt A f (spI A.X.K A.ca oc as r F)) (hr : RtOkI r) (hN : A.X.N[i]? = some y) (hv : Vis A.X.env.scope y) (ha : AX A G es as fa)
    (hd : (y == ("__debug__" : Str)) = false := by decide) (hcd : (y == ("__classdict__" : Str)) = false := by decide) (hdb : (x == ("__debug__" : Str)) = false := by decide) (he : starEach (.Name y p1 :: es) A.X.env = (false, eval (.Name y p1) A.X.env) :: starEach es A.X.env := by rfl) (hpl : (backTo pos (starEach es A.X.env)).any (·.1) = false := by rfl) :
    EX A G (.Call (.Name x p) (.Name y p1 :: es) [] pos) r (fun p => Res.bind (fa p) fun y => Res.bind (F (g y.2) y.1) fun z => .ok (z.1, put y.2 z.2)) := by
  refine ⟨fun pins s o H Q I q => wpAny_Call_Name_kw (ld_glob I hg.gl hg.mg (PySem.W.callWith_K (h₀ := A.X.base) I.ok.mod.kin hg.kp ?_ he hpl) hdb)⟩
  exact thn ((pa_cons (pe_var hN hv hd hcd) ha he).run pos pins s o H _ I (callI_reads a m hr q)) fun us s1 hu => by
    obtain ⟨vs, H1, I1, hvs, hsp⟩ := hu
    exact ⟨I1.kIn, hc pins o H1 s1 Q us vs I1 hvs hsp⟩
end
end AC
set_option Elab.async false
set_option linter.all false
set_option maxRecDepth 100000
/-! TL8: a def keeps its promise, by its body. -/
namespace AC
open PySem L2 PyProof PyProof.Rows

section
variable {P : Program} {w : World} {K : Frag} {mg : Str → Option Value} {base : Heap}
/-- the surroundings of a def's body -/
def ambOf (P : Program) (w : World) (K : Frag) (mg : Str → Option Value) (base : Heap) (ca : Str → Addr) (N : List Str) (nd : N.Nodup) (lv : Nat) (qual : Str) (scope : Scope) (f : Addr) (cd : Value) (A : Around) (outer : List Env) (s : Shared) (H : Hp) (E : XK)
    (hr : Room lv (A.deeper (envOfC qual scope s.heap.objs.size f cd))) (hgd : A.guards = some []) : Amb where
  X := cxOf (L2.CX P w) P w K mg base N qual scope f cd A outer s H E
  W := fun cls d _ H => E cls d H
  tk := takes_of rfl rfl rfl rfl
  calm := rfl
  hp := passes_of rfl
  nd := nd
  ca := ca
  S := fun _ => True
  lv := lv
  room := hr
  gd := hgd
def endV {β ρ : Type} : Out β ρ → Res ρ
  | .rt r => .ok r
  | .nx _ => .bad
def endU {β : Type} : Out β Unit → Res Unit
  | .rt r => .ok r
  | .nx _ => .ok ()
variable {x qual : Str} {params : Arguments} {body : List Stmt} {scope : Scope} {dvs : List V} {kws : List (Str × V)} {f : Addr} {fd : FuncData} {N ps : List Str} {k : Nat} {ca : Str → Addr}
/-- a def keeps its promise, by its body, where no repr is under way -/
theorem fn_G {sp : Sp} (F0 : FunD K x qual params body scope dvs kws f fd) (S : FnScope N ps scope) (hlen : ∀ vs H Q E, sp vs H Q E → vs.length = ps.length)
    (hbody : ∀ (cd : Value) (B : Around) (up : List Env) (s : Shared) (H : Hp) (vs : List V) (Q : VK) (E : XK), B.guards = some [] → Room k (B.deeper (envOfC qual scope s.heap.objs.size f cd)) → sp vs H Q E →
      ∃ t, PSs (cxOf (L2.CX P w) P w K mg base N qual scope f cd B up s H E) body t ∧ t ⟨fun _ H' => Q .non H', Q, fun _ _ => False, fun _ _ => False⟩ (start N vs) H) : FnG P w K mg base (k + 1) f fd ps sp := by
  obtain ⟨oc, od, dV, kV, doc, pm, an, cd, ct, osl, e0, lk, hcd, _, _⟩ := F0.ex
  subst e0
  refine ⟨hlen, fun B up s H args us vs Q E hgd hr e0 hb rv hsp => ?_⟩
  have kin : K.In s.heap := e0.mod.kin.keeps fun b o e => (e0.bs b o e).1
  have nol : s.heap.NoLimit := e0.mod.nolimit.keeps fun b o e => (e0.bs b o e).1
  have kinds : ∀ z ∈ ps.zip us, scope.names.lookup z.1 = some .local ∨ (scope.names.lookup z.1 = some .cell ∧ ((cellsFrom (s.heap.objs.size + 1) scope.names []).lookup z.1).isSome = true) := fun z hz =>
    (S.par z.1 (List.of_mem_zip (show (z.1, z.2) ∈ _ from hz)).1).imp id fun q => ⟨q, PySem.W.cellsFrom_some _ _ _ (Or.inl q)⟩
  refine codeAny_call_function hr.depth (kin _ _ lk) rfl S.co S.gen rfl (PySem.W.codeRec_of kin hcd) (hb _ _ _ _ ?_)
  refine wpAny_newFunctionEnv_cells S.kind kinds fun env he s1 x => ?_
  subst he
  refine ⟨nol.keeps x.toInCall.keep, codeAny_func ?_⟩
  obtain ⟨t, ht, hq⟩ := hbody cd B up s H vs Q E hgd (hr.deeper _) hsp
  refine wpAny_mono (ht.run [] s1 (start N vs) H _ (inv_start S hr.hd e0 (hlen _ _ _ _ hsp) rv x) hq) (fun fl s' hs => ?_) fun e s' hs => hs
  have done : ∀ (o' : L2.St) (H' : Hp) (v : V) (u : Value), Inv (cxOf (L2.CX P w) P w K mg base N qual scope f cd B up s H E) [] o' H' s' → RelV v u → Q v H' → CE up P w H s Q u s' := fun o' H' v u J r q => ⟨v, H', J.os, J.bare, J.base, J.hok, r, q⟩
  rcases fl with _ | _ | _ | u
  · obtain ⟨o', H', J, q⟩ := hs
    exact done o' H' .non .none J rfl q
  · obtain ⟨_, _, _, q⟩ := hs
    exact q.elim
  · obtain ⟨_, _, _, q⟩ := hs
    exact q.elim
  · obtain ⟨v, o', H', J, r, q⟩ := hs
    exact done o' H' v u J r q
theorem fn_P {α β : Type} {as : ArgC α} {r : Rt β} {G0 G' : Ctx} {ini : α → CT G0} {fb : CT G0 → Res (Out (CT G') β)} {F : α → Res β} (F0 : FunD K x qual params body scope dvs kws f fd) (S : FnScope N ps scope) (hn : as.n = ps.length)
    (h0 : ∀ L H vs y, Wf L H → as.see K (rd L H) vs y → CR K 0 G0 (ini y) L H (start N vs))
    (hB : ∀ nd cd A outer s H E hr hgd, BX (ambOf P w K mg base ca N nd k qual scope f cd A outer s H E hr hgd) G0 body G' (rrP r) fb) (hF : ∀ y, F y = Res.bind (fb (ini y)) endV) : FnG P w K mg base (k + 1) f fd ps (spP K ca as r F) := by
  refine fn_G F0 S (fun vs H Q E ⟨y, L, _, h, _⟩ => by rw [as.len _ _ _ _ h, hn]) fun cd A outer s H vs Q E hgd hr ⟨y, L, wf, h, q⟩ => ⟨_, hB S.nd cd A outer s H E hr hgd, ini y, L, wf, h0 L H vs y wf h, ?_⟩
  rw [hF y] at q
  cases e : fb (ini y) with
  | bad => rw [e] at q; exact q.elim
  | exc ex =>
    rw [e] at q
    exact fun cls d H' hz o' _ => (show ∀ cls d H', _ from q) cls d H' hz
  | ok z =>
    rw [e] at q
    cases z with
    | rt y' => exact fun v L' H' st w' rl => (show ∀ v L' H', _ from q) v L' H' st w' rl
    | nx p' => exact q.elim
theorem fn_U {α : Type} {as : ArgC α} {G0 G' : Ctx} {ini : α → CT G0} {fb : CT G0 → Res (Out (CT G') Unit)} {F : α → Res Unit} (F0 : FunD K x qual params body scope dvs kws f fd) (S : FnScope N ps scope) (hn : as.n = ps.length)
    (h0 : ∀ L H vs y, Wf L H → as.see K (rd L H) vs y → CR K 0 G0 (ini y) L H (start N vs))
    (hB : ∀ nd cd A outer s H E hr hgd, BX (ambOf P w K mg base ca N nd k qual scope f cd A outer s H E hr hgd) G0 body G' (rrP (rV cN)) fb) (hF : ∀ y, F y = Res.bind (fb (ini y)) endU) : FnG P w K mg base (k + 1) f fd ps (spP K ca as (rV cN) F) := by
  refine fn_G F0 S (fun vs H Q E ⟨y, L, _, h, _⟩ => by rw [as.len _ _ _ _ h, hn]) fun cd A outer s H vs Q E hgd hr ⟨y, L, wf, h, q⟩ => ⟨_, hB S.nd cd A outer s H E hr hgd, ini y, L, wf, h0 L H vs y wf h, ?_⟩
  rw [hF y] at q
  cases e : fb (ini y) with
  | bad => rw [e] at q; exact q.elim
  | exc ex =>
    rw [e] at q
    exact fun cls d H' hz o' _ => (show ∀ cls d H', _ from q) cls d H' hz
  | ok z =>
    rw [e] at q
    cases z with
    | rt y' => exact fun v L' H' st w' rl => (show ∀ v L' H', _ from q) v L' H' st w' rl
    | nx p' => exact fun o' L' H' st w' _ _ => (show ∀ v L' H', _ from q) .non L' H' st w' rfl
theorem fn_I {α β κ : Type} {oc : OCod κ} {as : ArgC α} {r : Rt β} {G1 : Ctx} {G' : V → Ctx} {ini : α → CT G1} {fb : (v0 : V) → κ × CT G1 → Res (Out (CT (G' v0)) (β × κ))} {F : κ → α → Res (β × κ)} (F0 : FunD K x qual params body scope dvs kws f fd) (S : FnScope N ps scope) (hn : as.n + 1 = ps.length)
    (h0 : ∀ L H v0 ws y, Wf L H → as.see K (rd L H) ws y → CR K 1 G1 (ini y) L H (start N (v0 :: ws)))
    (hB : ∀ v0 nd cd A outer s H E hr hgd, BX (ambOf P w K mg base ca N nd k qual scope f cd A outer s H E hr hgd) (sOwn (fun v => v = v0) oc :: G1) body (G' v0) (rrI r oc v0) (fb v0)) (hF : ∀ v0 k y, F k y = Res.bind (fb v0 (k, ini y)) endV) : FnG P w K mg base (k + 1) f fd ps (spI K ca oc as r F) := by
  refine fn_G F0 S (fun vs H Q E ⟨v0, ws, kk, y, L, e, _, _, h, _⟩ => by rw [e, List.length_cons, as.len _ _ _ _ h, hn]) fun cd A outer s H vs Q E hgd hr ⟨v0, ws, kk, y, L, e, wf, ho, h, q⟩ => ?_
  subst e
  refine ⟨_, hB v0 S.nd cd A outer s H E hr hgd, (kk, ini y), L, wf, ⟨⟨v0, rfl, rfl, ho⟩, h0 L H v0 ws y wf h⟩, ?_⟩
  rw [hF v0 kk y] at q
  cases e : fb v0 (kk, ini y) with
  | bad => rw [e] at q; exact q.elim
  | exc ex =>
    rw [e] at q
    exact fun cls d H' hz o' _ => (show ∀ cls d H', _ from q) cls d H' hz
  | ok z =>
    rw [e] at q
    cases z with
    | rt y' => exact fun v L' H' st w' rl => (show ∀ v L' H', _ from q) v L' H' st w' rl.1 rl.2
    | nx p' => exact q.elim
end
end AC
set_option Elab.async false
set_option linter.all false
set_option maxRecDepth 100000
/-! TL9: one's own things are read for a while (lent). -/
namespace AC
open PySem L2 PyProof

/-- known whatever lists and dicts are forgotten -/
def HardC {α : Type} (c : Cod α) : Prop := ∀ K R1 R2 v x, (∀ a o, R1 a = some o → ¬ SoftO o → R2 a = some o) → c.see K R1 v x → c.see K R2 v x
def HardA {α : Type} (c : ArgC α) : Prop := ∀ K R1 R2 v x, (∀ a o, R1 a = some o → ¬ SoftO o → R2 a = some o) → c.see K R1 v x → c.see K R2 v x
def HardO {α : Type} (c : OCod α) : Prop := ∀ K R1 R2 M H l v x, (∀ a o, R1 a = some o → ¬ SoftO o → R2 a = some o) → c.own K R1 M H l v x → c.own K R2 M H l v x
theorem hd_i : HardC cI := fun _ _ _ _ _ _ h => h
theorem hd_b : HardC cB := fun _ _ _ _ _ _ h => h
theorem hd_n : HardC cN := fun _ _ _ _ _ _ h => h
theorem hd_s : HardC cS := fun _ _ _ _ _ _ h => h
theorem hd_o {α : Type} {c : Cod α} (h : HardC c) : HardC (cO c) := fun K R1 R2 v x s q => by
  cases x with
  | none => exact q
  | some x => exact h K R1 R2 v x s q
theorem ha_nil : HardA aNil := fun _ _ _ _ _ _ h => h
theorem ha_one {α : Type} {c : Cod α} (h : HardC c) : HardA (aOne c) := fun K R1 R2 vs x s ⟨v, e, q⟩ => ⟨v, e, h K R1 R2 v x s q⟩
theorem ha_cons {α β : Type} {c : Cod α} {as : ArgC β} (h : HardC c) (h' : HardA as) : HardA (aCons c as) := fun K R1 R2 vs x s ⟨v, ws, e, q, q'⟩ => ⟨v, ws, e, h K R1 R2 v _ s q, h' K R1 R2 ws _ s q'⟩
theorem hd_t {α : Type} {as : ArgC α} (h : HardA as) : HardC (cT as) := fun K R1 R2 v x s ⟨a, vs, e, q, q'⟩ => ⟨a, vs, e, q.imp (fun z => s a _ z fun h => h) (Or.imp (fun ⟨o, z⟩ => ⟨o, s a _ z fun h => h⟩) id), h K R1 R2 vs x s q'⟩
theorem hd_tv {α : Type} {c : Cod α} (h : HardC c) : HardC (cTV c) := fun K R1 R2 v x s ⟨a, vs, e, q, hl, q'⟩ => ⟨a, vs, e, q.imp (fun z => s a _ z fun h => h) (Or.imp (fun ⟨o, z⟩ => ⟨o, s a _ z fun h => h⟩) id), hl, paired_mono (fun _ _ z => h K R1 R2 _ _ s z) q'⟩
theorem ho_l {α : Type} {c : Cod α} (h : HardC c) : HardO (oL c) := fun K R1 R2 M H l v x s ⟨p, vs, e, hm, hp, hl, q⟩ => ⟨p, vs, e, hm, hp, hl, paired_mono (fun _ _ z => h K R1 R2 _ _ s z) q⟩

/-- S: lent; T: hidden -/
def lendL (S T : List Nat) (L : Lab) : Lab := fun a => match L a with
  | none => none
  | some (k, l) => if k = 0 then some (0, l) else if k - 1 ∈ S then (if insL l = true then none else some (0, [])) else if k - 1 ∈ T then none else some (k, l)
def backL (S T : List Nat) (L L' : Lab) : Lab := fun a => match L a with
  | none => L' a
  | some (k, l) => if k ≠ 0 ∧ (k - 1 ∈ S ∨ k - 1 ∈ T) then some (k, l) else L' a
section
variable {S T : List Nat} {L L' : Lab} {H H' : Hp}
theorem lendL_cases (a : Addr) : (L a = none ∧ lendL S T L a = none) ∨ (∃ l, L a = some (0, l) ∧ lendL S T L a = some (0, l)) ∨ (∃ k l, L a = some (k + 1, l) ∧ k ∈ S ∧ insL l = true ∧ lendL S T L a = none) ∨ (∃ k l, L a = some (k + 1, l) ∧ k ∈ S ∧ insL l = false ∧ lendL S T L a = some (0, [])) ∨
    (∃ k l, L a = some (k + 1, l) ∧ k ∉ S ∧ k ∈ T ∧ lendL S T L a = none) ∨ (∃ k l, L a = some (k + 1, l) ∧ k ∉ S ∧ k ∉ T ∧ lendL S T L a = some (k + 1, l)) := by
  cases e : L a with
  | none => exact .inl ⟨rfl, by unfold lendL; rw [e]⟩
  | some x =>
    obtain ⟨k, l⟩ := x
    cases k with
    | zero => exact .inr (.inl ⟨l, rfl, by unfold lendL; rw [e]; exact if_pos rfl⟩)
    | succ k =>
      have red : lendL S T L a = if k ∈ S then (if insL l = true then none else some (0, [])) else if k ∈ T then none else some (k + 1, l) := by
        unfold lendL
        rw [e]
        show (if k + 1 = 0 then _ else if k + 1 - 1 ∈ S then _ else if k + 1 - 1 ∈ T then none else some (k + 1, l)) = _
        rw [if_neg (by omega)]
        rfl
      by_cases hS : k ∈ S
      · by_cases hl : insL l = true
        · exact .inr (.inr (.inl ⟨k, l, rfl, hS, hl, by rw [red, if_pos hS, if_pos hl]⟩))
        · exact .inr (.inr (.inr (.inl ⟨k, l, rfl, hS, by simpa using hl, by rw [red, if_pos hS, if_neg hl]⟩)))
      · by_cases hT : k ∈ T
        · exact .inr (.inr (.inr (.inr (.inl ⟨k, l, rfl, hS, hT, by rw [red, if_neg hS, if_pos hT]⟩))))
        · exact .inr (.inr (.inr (.inr (.inr ⟨k, l, rfl, hS, hT, by rw [red, if_neg hS, if_neg hT]⟩))))
theorem wf_lendL (w : Wf L H) : Wf (lendL S T L) H := by
  refine ⟨fun a ha => ?_, fun a k l e => ?_⟩
  · rcases lendL_cases (S := S) (T := T) (L := L) a with ⟨e1, e2⟩ | ⟨l, e1, e2⟩ | ⟨k, l, e1, _, _, e2⟩ | ⟨k, l, e1, _, _, e2⟩ | ⟨k, l, e1, _, _, e2⟩ | ⟨k, l, e1, _, _, e2⟩
    · exact absurd e2 ha
    all_goals exact w.dom a (by rw [e1]; simp)
  · rcases lendL_cases (S := S) (T := T) (L := L) a with ⟨e1, e2⟩ | ⟨l, e1, e2⟩ | ⟨k', l', e1, _, _, e2⟩ | ⟨k', l', e1, _, _, e2⟩ | ⟨k', l', e1, _, _, e2⟩ | ⟨k', l', e1, _, _, e2⟩
    · rw [e2] at e; cases e
    · rw [e2] at e; cases e
    · rw [e2] at e; cases e
    · rw [e2] at e; cases e
    · rw [e2] at e; cases e
    · rw [e2] at e; cases e; exact w.soft a k l e1
theorem rd_lendL : Same (rd L H) (rd (lendL S T L) H) := fun a o q => by
  obtain ⟨⟨l, e1⟩, e2⟩ := rd_of q
  rcases lendL_cases (S := S) (T := T) (L := L) a with ⟨e, _⟩ | ⟨l', e, e'⟩ | ⟨k, l', e, _⟩ | ⟨k, l', e, _⟩ | ⟨k, l', e, _⟩ | ⟨k, l', e, _⟩
  · rw [e] at e1; cases e1
  · exact rd_mk e' e2
  all_goals (rw [e] at e1; cases e1)
theorem frm_lendL {a : Addr} (f : Frm L H a) : Frm (lendL S T L) H a ∧ lendL S T L a = L a := by
  rcases lendL_cases (S := S) (T := T) (L := L) a with ⟨e, e'⟩ | ⟨l', e, e'⟩ | ⟨k, l', e, _⟩ | ⟨k, l', e, _⟩ | ⟨k, l', e, _⟩ | ⟨k, l', e, _⟩
  · exact ⟨⟨f.1, .inl e'⟩, e'.trans e.symm⟩
  · exact ⟨⟨f.1, .inr ⟨l', e'⟩⟩, e'.trans e.symm⟩
  all_goals
    rcases f.2 with z | ⟨l, z⟩
    · rw [e] at z; cases z
    · rw [e] at z; cases z
/-- of the lent and the hidden nothing is touched -/
theorem lent_stay (w : Wf L H) (s : Stp (lendL S T L) H L' H') {a : Addr} {k : Nat} {l : List Nat} (e : L a = some (k + 1, l)) (hk : k ∈ S ∨ k ∈ T) : backL S T L L' a = some (k + 1, l) ∧ H' a = H a := by
  refine ⟨?_, (s a ⟨w.dom a (by rw [e]; simp), ?_⟩).2⟩
  · unfold backL
    rw [e]
    show (if k + 1 ≠ 0 ∧ (k + 1 - 1 ∈ S ∨ k + 1 - 1 ∈ T) then some (k + 1, l) else _) = _
    rw [if_pos ⟨by omega, hk⟩]
  · rcases lendL_cases (S := S) (T := T) (L := L) a with ⟨e1, _⟩ | ⟨l', e1, e'⟩ | ⟨k', l', e1, _, _, e'⟩ | ⟨k', l', e1, _, _, e'⟩ | ⟨k', l', e1, _, _, e'⟩ | ⟨k', l', e1, h1, h2, e'⟩
    · rw [e] at e1; cases e1
    · rw [e] at e1; cases e1
    · exact .inl e'
    · exact .inr ⟨_, e'⟩
    · exact .inl e'
    · rw [e] at e1; cases e1
      rcases hk with z | z
      · exact absurd z h1
      · exact absurd z h2
theorem backL_other {a : Addr} (h : ∀ k l, L a = some (k + 1, l) → k ∉ S ∧ k ∉ T) : backL S T L L' a = L' a := by
  unfold backL
  cases e : L a with
  | none => rfl
  | some x =>
    obtain ⟨k, l⟩ := x
    cases k with
    | zero => exact if_neg fun z => z.1 rfl
    | succ k =>
      show (if k + 1 ≠ 0 ∧ (k + 1 - 1 ∈ S ∨ k + 1 - 1 ∈ T) then some (k + 1, l) else _) = _
      rw [if_neg fun z => z.2.elim (h k l e).1 (h k l e).2]
theorem backL_cases (w : Wf L H) (s : Stp (lendL S T L) H L' H') (a : Addr) : (∃ k l, L a = some (k + 1, l) ∧ (k ∈ S ∨ k ∈ T) ∧ backL S T L L' a = some (k + 1, l) ∧ H' a = H a) ∨ ((∀ k l, L a = some (k + 1, l) → k ∉ S ∧ k ∉ T) ∧ backL S T L L' a = L' a) := by
  by_cases h : ∀ k l, L a = some (k + 1, l) → k ∉ S ∧ k ∉ T
  · exact .inr ⟨h, backL_other h⟩
  · have : ∃ k l, L a = some (k + 1, l) ∧ (k ∈ S ∨ k ∈ T) := by
      cases e : L a with
      | none => exact absurd (fun k l z => by rw [e] at z; cases z) h
      | some x =>
        obtain ⟨k, l⟩ := x
        cases k with
        | zero => exact absurd (fun k l z => by rw [e] at z; cases z) h
        | succ k =>
          refine ⟨k, l, rfl, ?_⟩
          by_cases q : k ∈ S ∨ k ∈ T
          · exact q
          · refine absurd (fun k' l' z => ?_) h
            rw [e] at z; cases z
            exact ⟨fun z => q (.inl z), fun z => q (.inr z)⟩
    obtain ⟨k, l, e, hk⟩ := this
    obtain ⟨e1, e2⟩ := lent_stay w s e hk
    exact .inl ⟨k, l, e, hk, e1, e2⟩
theorem wf_backL (w : Wf L H) (w' : Wf L' H') (s : Stp (lendL S T L) H L' H') : Wf (backL S T L L') H' := by
  refine ⟨fun a ha => ?_, fun a k l e => ?_⟩
  · rcases backL_cases w s a with ⟨k, l, e1, _, e2, e3⟩ | ⟨_, e2⟩
    · rw [e3]; exact w.dom a (by rw [e1]; simp)
    · exact w'.dom a (by rw [← e2]; exact ha)
  · rcases backL_cases w s a with ⟨k', l', e1, _, e2, e3⟩ | ⟨_, e2⟩
    · rw [e2] at e; cases e; rw [e3]; exact w.soft a k l e1
    · rw [e2] at e; exact w'.soft a k l e
theorem stp_backL (w : Wf L H) (s : Stp (lendL S T L) H L' H') : Stp L H (backL S T L L') H' := fun a f => by
  obtain ⟨f1, e1⟩ := frm_lendL (S := S) (T := T) f
  obtain ⟨e2, e3⟩ := s a f1
  refine ⟨?_, e3⟩
  rw [backL_other fun k l e => ?_, e2, e1]
  rcases f.2 with z | ⟨l', z⟩
  · rw [z] at e; cases e
  · rw [z] at e; cases e
theorem rd_backL (w : Wf L H) (s : Stp (lendL S T L) H L' H') : ∀ a o, rd L' H' a = some o → ¬ SoftO o → rd (backL S T L L') H' a = some o := fun a o q ns => by
  obtain ⟨⟨l, e1⟩, e2⟩ := rd_of q
  rcases backL_cases w s a with ⟨k, l', e3, hk, e4, e5⟩ | ⟨_, e3⟩
  · -- it was lent
    rcases lendL_cases (S := S) (T := T) (L := L) a with ⟨z, _⟩ | ⟨_, z, _⟩ | ⟨k', l2, z, h1, h2, h3⟩ | ⟨k', l2, z, h1, h2, h3⟩ | ⟨k', l2, z, h1, h2, h3⟩ | ⟨k', l2, z, h1, h2, h3⟩
    · rw [e3] at z; cases z
    · rw [e3] at z; cases z
    · have f : Frm (lendL S T L) H a := ⟨w.dom a (by rw [e3]; simp), .inl h3⟩
      rw [(s a f).1, h3] at e1; cases e1
    · rw [e3] at z; cases z
      have := w.soft a k l' e3
      rw [← e5, e2] at this
      unfold NonTup at this
      rw [h2] at this
      exact absurd this ns
    · have f : Frm (lendL S T L) H a := ⟨w.dom a (by rw [e3]; simp), .inl h3⟩
      rw [(s a f).1, h3] at e1; cases e1
    · rw [e3] at z; cases z
      rcases hk with y | y
      · exact absurd y h1
      · exact absurd y h2
  · exact rd_mk (e3.trans e1) e2
end

structure LendC (S T : List Nat) (k : Nat) (G G1 : Ctx) (to : CT G → CT G1) (bk : CT G → CT G1 → CT G) : Prop where
  to_ok : ∀ (K : Frag) (p : CT G) (L : Lab) (H : Hp) (o : St), Wf L H → CR K k G p L H o → CR K k G1 (to p) (lendL S T L) H o
  bk_ok : ∀ (K : Frag) (p : CT G) (q : CT G1) (L : Lab) (H : Hp) (L' : Lab) (H' : Hp) (o : St), Wf L H → Stp (lendL S T L) H L' H' → CR K k G p L H o → CR K k G1 q L' H' o → CR K k G (bk p q) (backL S T L L') H' o
section
variable {S T : List Nat} {k : Nat} {G G1 : Ctx} {to : CT G → CT G1} {bk : CT G → CT G1 → CT G}
theorem ln_nil : LendC S T k [] [] (fun p => p) (fun p _ => p) := ⟨fun K p L H o w c => c, fun K p q L H L' H' o w s c c' => c⟩
theorem ln_any (h : LendC S T (k + 1) G G1 to bk) : LendC S T k (sAny :: G) (sAny :: G1) (fun p => ((), to p.2)) (fun p q => ((), bk p.2 q.2)) :=
  ⟨fun K p L H o w c => ⟨trivial, h.to_ok K p.2 L H o w c.2⟩, fun K p q L H L' H' o w s c c' => ⟨trivial, h.bk_ok K p.2 q.2 L H L' H' o w s c.2 c'.2⟩⟩
theorem ln_val {α : Type} {c : Cod α} (h : LendC S T (k + 1) G G1 to bk) : LendC S T k (sVal c :: G) (sVal c :: G1) (fun p => (p.1, to p.2)) (fun p q => (p.1, bk p.2 q.2)) :=
  ⟨fun K p L H o w cr => ⟨let ⟨v, e, hv⟩ := cr.1; ⟨v, e, c.mono _ _ _ _ _ rd_lendL hv⟩, h.to_ok K p.2 L H o w cr.2⟩, fun K p q L H L' H' o w s cr c' => ⟨let ⟨v, e, hv⟩ := cr.1; ⟨v, e, c.mono _ _ _ _ _ (stp_backL w s).rd hv⟩, h.bk_ok K p.2 q.2 L H L' H' o w s cr.2 c'.2⟩⟩
theorem ln_own {α : Type} {P : V → Prop} {oc : OCod α} {c : Cod α} (fz : Frz oc c) (hk : k ∈ S) (h : LendC S T (k + 1) G G1 to bk) : LendC S T k (sOwn P oc :: G) (sVal c :: G1) (fun p => (p.1, to p.2)) (fun p q => (p.1, bk p.2 q.2)) :=
  ⟨fun K p L H o w cr => ⟨let ⟨v, _, e, hv⟩ := cr.1; ⟨v, e, fz K _ _ _ H v p.1 rd_lendL (fun a m em hm => by
      have e1 := sub_of em
      rcases lendL_cases (S := S) (T := T) (L := L) a with ⟨z, _⟩ | ⟨_, z, _⟩ | ⟨k', l2, z, h1, h2, h3⟩ | ⟨k', l2, z, h1, h2, h3⟩ | ⟨k', l2, z, h1, h2, h3⟩ | ⟨k', l2, z, h1, h2, h3⟩
      · rw [e1] at z; cases z
      · rw [e1] at z; cases z
      · rw [e1] at z; cases z; rw [hm] at h2; cases h2
      · unfold rd; rw [h3]; rfl
      · rw [e1] at z; cases z; exact absurd hk h1
      · rw [e1] at z; cases z; exact absurd hk h1) hv⟩, h.to_ok K p.2 L H o w cr.2⟩,
   fun K p q L H L' H' o w s cr c' => ⟨let ⟨v, hp, e, hv⟩ := cr.1; ⟨v, hp, e, oc.mono _ _ _ _ _ _ _ _ _ _ (stp_backL w s).rd (fun a m em => by
      obtain ⟨e1, e2⟩ := lent_stay w s (sub_of em) (.inl hk)
      exact ⟨sub_mk e1, e2⟩) hv⟩, h.bk_ok K p.2 q.2 L H L' H' o w s cr.2 c'.2⟩⟩
theorem ln_hide {α : Type} {P : V → Prop} {oc : OCod α} (hk : k ∈ T) (h : LendC S T (k + 1) G G1 to bk) : LendC S T k (sOwn P oc :: G) (sAny :: G1) (fun p => ((), to p.2)) (fun p q => (p.1, bk p.2 q.2)) :=
  ⟨fun K p L H o w cr => ⟨trivial, h.to_ok K p.2 L H o w cr.2⟩,
   fun K p q L H L' H' o w s cr c' => ⟨let ⟨v, hp, e, hv⟩ := cr.1; ⟨v, hp, e, oc.mono _ _ _ _ _ _ _ _ _ _ (stp_backL w s).rd (fun a m em => by
      obtain ⟨e1, e2⟩ := lent_stay w s (sub_of em) (.inr hk)
      exact ⟨sub_mk e1, e2⟩) hv⟩, h.bk_ok K p.2 q.2 L H L' H' o w s cr.2 c'.2⟩⟩
theorem ln_hold {α : Type} {P : V → Prop} {oc : OCod α} (hd : HardO oc) (hS : k ∉ S) (hT : k ∉ T) (h : LendC S T (k + 1) G G1 to bk) : LendC S T k (sOwn P oc :: G) (sOwn P oc :: G1) (fun p => (p.1, to p.2)) (fun p q => (q.1, bk p.2 q.2)) :=
  ⟨fun K p L H o w cr => ⟨let ⟨v, hp, e, hv⟩ := cr.1; ⟨v, hp, e, oc.mono _ _ _ _ _ _ _ _ _ _ rd_lendL (fun a m em => by
      have e1 := sub_of em
      rcases lendL_cases (S := S) (T := T) (L := L) a with ⟨z, _⟩ | ⟨_, z, _⟩ | ⟨k', l2, z, h1, h2, h3⟩ | ⟨k', l2, z, h1, h2, h3⟩ | ⟨k', l2, z, h1, h2, h3⟩ | ⟨k', l2, z, h1, h2, h3⟩
      · rw [e1] at z; cases z
      · rw [e1] at z; cases z
      · rw [e1] at z; cases z; exact absurd h1 hS
      · rw [e1] at z; cases z; exact absurd h1 hS
      · rw [e1] at z; cases z; exact absurd h2 hT
      · rw [e1] at z; cases z; exact ⟨sub_mk h3, rfl⟩) hv⟩, h.to_ok K p.2 L H o w cr.2⟩,
   fun K p q L H L' H' o w s cr c' => ⟨let ⟨v, hp, e, hv⟩ := c'.1; ⟨v, hp, e, oc.mono _ _ _ _ _ _ _ _ _ _ (fun _ _ z => z) (fun a m em => ⟨sub_mk (by
      have e1 := sub_of em
      rcases backL_cases w s a with ⟨k', l', e3, hk, e4, e5⟩ | ⟨_, e3⟩
      · -- a lent or hidden thing is not labelled so
        rcases lendL_cases (S := S) (T := T) (L := L) a with ⟨z, _⟩ | ⟨_, z, _⟩ | ⟨k2, l2, z, h1, h2, h3⟩ | ⟨k2, l2, z, h1, h2, h3⟩ | ⟨k2, l2, z, h1, h2, h3⟩ | ⟨k2, l2, z, h1, h2, h3⟩
        · rw [e3] at z; cases z
        · rw [e3] at z; cases z
        · rw [(s a ⟨w.dom a (by rw [e3]; simp), .inl h3⟩).1, h3] at e1; cases e1
        · rw [(s a ⟨w.dom a (by rw [e3]; simp), .inr ⟨_, h3⟩⟩).1, h3] at e1; cases e1
        · rw [(s a ⟨w.dom a (by rw [e3]; simp), .inl h3⟩).1, h3] at e1; cases e1
        · rw [e3] at z; cases z
          rcases hk with y | y
          · exact absurd y h1
          · exact absurd y h2
      · exact e3.trans e1), rfl⟩) (hd _ _ _ _ _ _ _ _ (rd_backL w s) hv)⟩, h.bk_ok K p.2 q.2 L H L' H' o w s cr.2 c'.2⟩⟩
end
/-- results that outlive the lending -/
structure RtHard {β : Type} (r : Rt β) : Prop where
  bk : ∀ {K : Frag} {S T : List Nat} {L L' : Lab} {H H' : Hp} {v : V} {y : β}, Wf L H → Stp (lendL S T L) H L' H' → r.rel K (lendL S T L) H L' H' v y → r.rel K L H (backL S T L L') H' v y
theorem rh_v {β : Type} {c : Cod β} (h : HardC c) : RtHard (rV c) := ⟨fun w s q => h _ _ _ _ _ (rd_backL w s) q⟩
theorem rh_o {β : Type} {c : OCod β} (h : HardO c) : RtHard (rO c) := ⟨fun {K S T L L' H H' v y} w s ⟨M, hM, ho⟩ => ⟨M, fun a m e => by
    obtain ⟨h1, h2, h3⟩ := hM a m e
    refine ⟨?_, h2, fun f => h3 (frm_lendL f).1⟩
    rcases backL_cases w s a with ⟨k, l, e1, hk, e2, e3⟩ | ⟨_, e2⟩
    · refine absurd ⟨w.dom a (by rw [e1]; simp), ?_⟩ h3
      rcases lendL_cases (S := S) (T := T) (L := L) a with ⟨z, _⟩ | ⟨_, z, _⟩ | ⟨k2, l2, z, q1, q2, q3⟩ | ⟨k2, l2, z, q1, q2, q3⟩ | ⟨k2, l2, z, q1, q2, q3⟩ | ⟨k2, l2, z, q1, q2, q3⟩
      · rw [e1] at z; cases z
      · rw [e1] at z; cases z
      · exact .inl q3
      · exact .inr ⟨_, q3⟩
      · exact .inl q3
      · rw [e1] at z; cases z
        rcases hk with y | y
        · exact absurd y q1
        · exact absurd y q2
    · exact e2.trans h1, h _ _ _ _ _ _ _ _ (rd_backL w s) ho⟩⟩
section
variable {A : Amb} {G G1 : Ctx} {S T : List Nat} {to : CT G → CT G1} {bk : CT G → CT G1 → CT G}
theorem raises_lend {e : Exn} {L : Lab} {H : Hp} {o : St} (w : Wf L H) (r : A.raises e L H o) : A.raises e (lendL S T L) H o := fun cls d H' ⟨h1, h2, h3, v, h4, R, h5, h6, h7, h8⟩ o' ho =>
  r cls d H' ⟨h1, fun a f => h2 a (frm_lendL f).1, fun f => h3 (frm_lendL f).1, v, h4, R, h5, fun a ob q => h6 a ob (rd_lendL a ob q), fun a ob q => by
    rcases h7 a ob q with z | z
    · obtain ⟨⟨l, e1⟩, e2⟩ := rd_of z
      by_cases f : Frm L H a
      · refine .inl ?_
        rw [(frm_lendL (S := S) (T := T) f).2] at e1
        exact rd_mk e1 e2
      · exact .inr f
    · exact .inr fun f => z (frm_lendL f).1, h8⟩ o' ho
theorem Good.lend {α : Type} {m : Res α} {L : Lab} {H : Hp} {o : St} {P : α → Prop} (w : Wf L H) (h : Good A m L H o P) : Good A m (lendL S T L) H o P := by
  cases m with
  | ok a => exact h
  | exc e => exact raises_lend w h
  | bad => exact h
theorem ex_lend {α : Type} {r : Rt α} {e : Expr} {f : CT G1 → Res (α × CT G1)} (ln : LendC S T 0 G G1 to bk) (hr : RtHard r) (h : EX A G1 e r f) : EX A G e r (fun p => Res.bind (f (to p)) fun y => .ok (y.1, bk p y.2)) :=
  pe_weak h fun o H Q ⟨p, L, w, cr, k⟩ => ⟨to p, lendL S T L, wf_lendL w, ln.to_ok _ _ _ _ _ w cr, (Good.lend w k.bind).imp fun y _ q v L' H' s w' c' rl => q v (backL S T L L') H' (stp_backL w s) (wf_backL w w' s) (ln.bk_ok _ _ _ _ _ _ _ _ w s cr c') (hr.bk w s rl)⟩
theorem tx_lend {e : Expr} {f : CT G1 → Res (Bool × CT G1)} (ln : LendC S T 0 G G1 to bk) (h : TX A G1 e f) : TX A G e (fun p => Res.bind (f (to p)) fun y => .ok (y.1, bk p y.2)) :=
  pt_weak h fun o H Q ⟨p, L, w, cr, k⟩ => ⟨to p, lendL S T L, wf_lendL w, ln.to_ok _ _ _ _ _ w cr, (Good.lend w k.bind).imp fun y _ q L' H' s w' c' => q (backL S T L L') H' (stp_backL w s) (wf_backL w w' s) (ln.bk_ok _ _ _ _ _ _ _ _ w s cr c')⟩
end
end AC
set_option Elab.async false
set_option linter.all false
set_option maxRecDepth 100000
/-! TL10: lists: one's own changed, joined, cut; in, ==; texts. -/
namespace AC
open PySem L2 PyProof

section
variable {A : Amb} {G G' : Ctx} {ρ : Type} {R : Rr ρ}
/-! ### a list of one's own is changed -/
theorem own_set {α : Type} {c : Cod α} {P : V → Prop} {i : Nat} {g : CT G → List α} {put : CT G → List α → CT G} {p : CT G} {L : Lab} {H : Hp} {o : St} {l : Addr} {vs' : List V} {xs' : List α} (m : Mod G i (sOwn P (oL c)) put) (w : Wf L H) (cr : CR A.X.K 0 G p L H o)
    (hP : P (.ref l)) (ho : o[i]? = some (some (.ref l))) (hl : L l = some (i + 1, [])) (hn : vs'.length ≤ sizeLine) (hp : Paired (fun v x => c.see A.X.K (rd L H) v x) vs' xs') :
    Stp L H L (upd H l (.lst vs')) ∧ Wf L (upd H l (.lst vs')) ∧ CR A.X.K 0 G (put p xs') L (upd H l (.lst vs')) o ∧ Same (rd L H) (rd L (upd H l (.lst vs'))) := by
  have sm : Same (rd L H) (rd L (upd H l (.lst vs'))) := fun a ob qa => by
    obtain ⟨⟨l', e1⟩, e2⟩ := rd_of qa
    refine rd_mk e1 ?_
    rw [upd_ne fun e => by rw [e, hl] at e1; cases e1]
    exact e2
  refine ⟨fun a f => ⟨rfl, upd_ne fun e => ?_⟩, ⟨fun a ha => ?_, fun a k l' e => ?_⟩, m.ok _ _ _ _ _ _ _ _ _ cr sm (fun a j l' _ hj e => ⟨rfl, upd_ne fun e' => ?_⟩) ⟨.ref l, hP, by rw [Nat.zero_add]; exact ho, l, vs', rfl, sub_mk (by rw [Nat.zero_add]; exact hl), upd_same, hn, paired_mono (fun _ _ q => c.mono _ _ _ _ _ sm q) hp⟩, sm⟩
  · rcases f.2 with z | ⟨l', z⟩
    · rw [e, hl] at z; cases z
    · rw [e, hl] at z; cases z
  · by_cases ea : a = l
    · rw [ea, upd_same]; simp
    · rw [upd_ne ea]; exact w.dom a ha
  · by_cases ea : a = l
    · rw [ea, hl] at e; cases e
      rw [ea, upd_same]
      trivial
    · rw [upd_ne ea]; exact w.soft a k l' e
  · rw [e', hl] at e
    have := (Prod.mk.inj (Option.some.inj e)).1
    omega
/-- a method of a list of one's own, with arguments -/
def MtT (A : Amb) (id : String) {α β γ : Type} (c : Cod α) (as : ArgC β) (k : List α → β → Option (γ × List α)) (rc : Cod γ) : Prop :=
  ∃ r, MtR A.X id r ∧ ∀ (L : Lab) (H : Hp) (l : Addr) (vs ws : List V) (xs xs' : List α) (y : β) (z : γ) (Q : VK), Wf L H → H l = some (.lst vs) → vs.length ≤ sizeLine → Paired (fun v x => c.see A.X.K (rd L H) v x) vs xs → as.see A.X.K (rd L H) ws y → k xs y = some (z, xs') →
    (∀ v vs', vs'.length ≤ sizeLine → Paired (fun v x => c.see A.X.K (rd L H) v x) vs' xs' → rc.see A.X.K (rd L H) v z → Q v (upd H l (.lst vs'))) → r (.ref l) ws H Q
theorem own_reads {α β γ : Type} {c : Cod α} {as : ArgC β} {k : List α → β → Option (γ × List α)} {rc : Cod γ} {P : V → Prop} {i : Nat} {g : CT G → List α} {put : CT G → List α → CT G} {fa : CT G → Res (β × CT G)} {r : V → List V → Hp → VK → Prop} (a : At G i (sOwn P (oL c)) g) (m : Mod G i (sOwn P (oL c)) put)
    (pr : ∀ (L : Lab) (H : Hp) (l : Addr) (vs ws : List V) (xs xs' : List α) (y : β) (z : γ) (Q : VK), Wf L H → H l = some (.lst vs) → vs.length ≤ sizeLine → Paired (fun v x => c.see A.X.K (rd L H) v x) vs xs → as.see A.X.K (rd L H) ws y → k xs y = some (z, xs') →
      (∀ v vs', vs'.length ≤ sizeLine → Paired (fun v x => c.see A.X.K (rd L H) v x) vs' xs' → rc.see A.X.K (rd L H) v z → Q v (upd H l (.lst vs'))) → r (.ref l) ws H Q) {o : St} {H : Hp} {Q : VK}
    (q : tE A G (rV rc) (fun p => Res.bind (fa p) fun y => Res.bind (ofO (k (g y.2) y.1)) fun z => .ok (z.1, put y.2 z.2)) o H Q) : ∃ v, o[i]? = some (some v) ∧ tyV A.X.K "list" v H ∧ tA A G as fa o H fun ws H1 => r v ws H1 Q := by
  obtain ⟨p, L, w, cr, kk⟩ := q
  obtain ⟨v0, _, ev, l0, vs0, e0, hm0, hp0, _⟩ := a.ok _ _ _ _ _ _ cr
  rw [Nat.zero_add] at ev
  subst e0
  refine ⟨.ref l0, ev, .inl ⟨rfl, _, SqL.of hp0⟩, p, L, w, cr, kk.bind.imp fun y _ gy ws L1 H1 s1 w1 c1 h1 => ?_⟩
  obtain ⟨v1, hP, ev1, l, vs, e1, hm, hp, hl, hpp⟩ := a.ok _ _ _ _ _ _ c1
  rw [Nat.zero_add] at ev1 hm
  subst e1
  rw [ev] at ev1
  cases ev1
  obtain ⟨z, ez, gz⟩ := good_ofO gy
  refine pr L1 H1 l0 vs ws (g y.2) z.2 y.1 z.1 Q w1 hp hl hpp h1 ez fun v vs' hn hp' hz => ?_
  obtain ⟨t1, t2, t3, t4⟩ := own_set (g := g) m w1 c1 hP ev (sub_of hm) hn hp'
  exact (show ∀ v L' H', _ from gz) v L1 _ (s1.trans t1) t2 t3 (rc.mono _ _ _ _ _ t4 hz)
theorem ex_ownM {α β γ : Type} {id : String} {name x : Str} {p1 ap cp : Pos} {e : Expr} {es : List Expr} {c : Cod α} {as : ArgC β} {k : List α → β → Option (γ × List α)} {rc : Cod γ} {P : V → Prop} {i : Nat} {g : CT G → List α} {put : CT G → List α → CT G} {fa : CT G → Res (β × CT G)} (h : MtT A id c as k rc)
    (slot : PySem.Slot "list" name id) (hty : typeOf (.builtin id) = pure (.type "method_descriptor")) (a : At G i (sOwn P (oL c)) g) (m : Mod G i (sOwn P (oL c)) put) (hN : A.X.N[i]? = some x) (hv : Vis A.X.env.scope x) (ha : AX A G (e :: es) as fa)
    (hd : (x == ("__debug__" : Str)) = false := by decide) (hcd : (x == ("__classdict__" : Str)) = false := by decide)
    (hbase : attributeBase (.Name x p1) name A.X.env (eval (.Name x p1) A.X.env) = eval (.Name x p1) A.X.env := by rfl)
    (hfew : ((backTo cp (starEach (e :: es) A.X.env)).all (fun x => !x.1) && (backToKw cp (keywordEach [] A.X.env)).all (fun x => x.1.isSome) && decide ((e :: es).length + ([] : List Keyword).length + (if ([] : List Keyword).isEmpty then 0 else 1) < 30)) = true := by rfl)
    (hline : (ap.endLine == cp.line) = true := by rfl) (hs : starEach (e :: es) A.X.env = (false, eval e A.X.env) :: starEach es A.X.env := by rfl) (hplain : (backTo cp (starEach es A.X.env)).any (·.1) = false := by rfl) :
    EX A G (.Call (.Attribute (.Name x p1) name ap) (e :: es) [] cp) (rV rc) (fun p => Res.bind (fa p) fun y => Res.bind (ofO (k (g y.2) y.1)) fun z => .ok (z.1, put y.2 z.2)) := by
  obtain ⟨r, hr, pr⟩ := h
  refine pe_weak (pe_bm PySem.F.plainAttrs_list slot hty hr (pe_var hN hv hd hcd) ha hbase hfew hline hs hplain) fun o H Q q => ?_
  obtain ⟨v, ev, ty, t⟩ := own_reads a m pr q
  exact ⟨v, ev, ty, t⟩
theorem ex_ownM0 {α γ : Type} {id : String} {name x : Str} {p1 ap cp : Pos} {c : Cod α} {k : List α → Unit → Option (γ × List α)} {rc : Cod γ} {P : V → Prop} {i : Nat} {g : CT G → List α} {put : CT G → List α → CT G} (h : MtT A id c aNil k rc)
    (slot : PySem.Slot "list" name id) (hty : typeOf (.builtin id) = pure (.type "method_descriptor")) (a : At G i (sOwn P (oL c)) g) (m : Mod G i (sOwn P (oL c)) put) (hN : A.X.N[i]? = some x) (hv : Vis A.X.env.scope x)
    (hd : (x == ("__debug__" : Str)) = false := by decide) (hcd : (x == ("__classdict__" : Str)) = false := by decide)
    (hbase : attributeBase (.Name x p1) name A.X.env (eval (.Name x p1) A.X.env) = eval (.Name x p1) A.X.env := by rfl) (hline : (ap.endLine == cp.line) = true := by rfl) :
    EX A G (.Call (.Attribute (.Name x p1) name ap) [] [] cp) (rV rc) (fun p => Res.bind (ofO (k (g p) ())) fun z => .ok (z.1, put p z.2)) := by
  obtain ⟨r, hr, pr⟩ := h
  refine pe_weak (pe_bm0 PySem.F.plainAttrs_list slot hty hr (pe_var hN hv hd hcd) hbase hline) fun o H Q q => ?_
  obtain ⟨v, ev, ty, p, L, w, cr, t⟩ := own_reads (fa := fun p => .ok ((), p)) a m pr q
  exact ⟨v, ev, ty, t [] L H Stp.refl w cr rfl⟩
def appO {α : Type} (xs : List α) (y : α) : Option (Unit × List α) := if xs.length < 16777216 then some ((), xs ++ [y]) else none
theorem mt_app {α : Type} {c : Cod α} : MtT A "list.append" c (aOne c) appO cN := ⟨_, mt_append, fun L H l vs ws xs xs' y z Q w h1 h2 h3 ⟨v, ew, hv⟩ hk q => by
  subst ew
  unfold appO at hk
  have hl := line_eq
  have hn := paired_len h3
  split at hk
  · rename_i hc
    cases hk
    exact ⟨l, vs, v, rfl, rfl, h1, by omega, q _ _ (by rw [List.length_append, List.length_singleton]; omega) (paired_append h3 (.cons hv .nil)) rfl⟩
  · cases hk⟩
def popO {α : Type} (xs : List α) (_ : Unit) : Option (α × List α) := match xs.getLast? with
  | some y => some (y, xs.dropLast)
  | none => none
theorem paired_dropLast {α β : Type} {F : α → β → Prop} : ∀ {l : List α} {m : List β}, Paired F l m → Paired F l.dropLast m.dropLast
  | _, _, .nil => .nil
  | _, _, .cons r .nil => .nil
  | _, _, .cons r (.cons r' t) => .cons r (paired_dropLast (.cons r' t))
theorem mt_popT {α : Type} {c : Cod α} : MtT A "list.pop" c aNil popO c := ⟨_, mt_pop, fun L H l vs ws xs xs' y z Q w h1 h2 h3 ew hk q => by
  have ew : ws = [] := ew
  subst ew
  unfold popO at hk
  split at hk
  · rename_i z' ez
    cases hk
    rw [List.getLast?_eq_getElem?] at ez
    obtain ⟨v, hv, hc⟩ := paired_get h3 ez
    rw [← paired_len h3] at hv
    exact ⟨l, vs, v, rfl, rfl, h1, hv, q _ _ (by rw [List.length_dropLast]; omega) (paired_dropLast h3) hc⟩
  · cases hk⟩
theorem paired_rev {α β : Type} {F : α → β → Prop} : ∀ {l : List α} {m : List β}, Paired F l m → Paired F l.reverse m.reverse
  | _, _, .nil => .nil
  | _, _, .cons r t => by rw [List.reverse_cons, List.reverse_cons]; exact paired_append (paired_rev t) (.cons r .nil)
theorem mt_revT {α : Type} {c : Cod α} : MtT A "list.reverse" c aNil (fun xs _ => some ((), xs.reverse)) cN := ⟨_, mt_reverse, fun L H l vs ws xs xs' y z Q w h1 h2 h3 ew hk q => by
  have ew : ws = [] := ew
  subst ew
  cases hk
  exact ⟨l, vs, rfl, rfl, h1, q _ _ (by rw [List.length_reverse]; exact h2) (paired_rev h3) rfl⟩⟩
theorem mt_clearT {α : Type} {c : Cod α} : MtT A "list.clear" c aNil (fun _ _ => some ((), [])) cN := ⟨_, mt_clear, fun L H l vs ws xs xs' y z Q w h1 h2 h3 ew hk q => by
  have ew : ws = [] := ew
  subst ew
  cases hk
  exact ⟨l, vs, rfl, rfl, h1, q _ _ (Nat.zero_le _) .nil rfl⟩⟩
/-- xs[i] = e, xs one's own -/
def setI {α : Type} (xs : List α) (i : Int) (v : α) : Option (List α) := (ixN xs.length i).map fun j => xs.set j v
theorem paired_set {α β : Type} {F : α → β → Prop} {x : α} {y : β} (h : F x y) : ∀ {l : List α} {m : List β} (j : Nat), Paired F l m → Paired F (l.set j x) (m.set j y)
  | _, _, _, .nil => .nil
  | _, _, 0, .cons r t => .cons h t
  | _, _, j + 1, .cons r t => .cons r (paired_set h j t)
theorem sx_setI {α : Type} {c : Cod α} {P : V → Prop} {i : Nat} {x : Str} {ei e : Expr} {p1 p2 pos : Pos} {g : CT G → List α} {put : CT G → List α → CT G} {fe : CT G → Res (α × CT G)} {fi : CT G → Res (Int × CT G)} (a : At G i (sOwn P (oL c)) g) (m : Mod G i (sOwn P (oL c)) put) (hN : A.X.N[i]? = some x) (hv : Vis A.X.env.scope x)
    (he : EX A G e (rV c) fe) (hi : EX A G ei (rV cI) fi) (hd : (x == ("__debug__" : Str)) = false := by decide) (hcd : (x == ("__classdict__" : Str)) = false := by decide)
    (hsub : ∀ v, assign (.Subscript (.Name x p1) ei p2) A.X.env v = (do
      let ov ← holding [v] (eval (.Name x p1) A.X.env)
      let iv ← holding [v, ov] (eval ei A.X.env)
      standAt p2
      holding [v, ov, iv] (setItem ov iv v)
      release [v, ov, iv] []) := by intro _; rfl)
    (hs : swapsWithSole [.Subscript (.Name x p1) ei p2] e pos.line A.X.env = pure false := by rfl) (hw : swappedStores [.Subscript (.Name x p1) ei p2] e A.X.env = pure none := by rfl)
    (h1 : (assignEach [.Subscript (.Name x p1) ei p2] A.X.env).map (·.2) = [assign (.Subscript (.Name x p1) ei p2) A.X.env] := by rfl) :
    SX A G (.Assign [.Subscript (.Name x p1) ei p2] e pos) G R (fun p => Res.bind (fe p) fun y => Res.bind (fi y.2) fun z => Res.bind (ofO (setI (g z.2) z.1 y.1)) fun xs => .ok (.nx (put z.2 xs))) := by
  refine ps_weak (ps_asg he (pg_sub (pe_var hN hv hd hcd) hi set_list hsub) hs hw h1) fun D o H ⟨p, L, w, cr, k⟩ => ⟨p, L, w, cr, k.bind.imp fun y _ gy v L1 H1 s1 w1 c1 r1 => ?_⟩
  obtain ⟨v0, _, ev, l0, vs0, e0, hm0, hp0, _⟩ := a.ok _ _ _ _ _ _ c1
  rw [Nat.zero_add] at ev
  subst e0
  refine ⟨.ref l0, ev, y.2, L1, w1, c1, (gy.bind.step s1).imp fun z _ gz vi L2 H2 s2 w2 c2 r2 => ?_⟩
  have r2 : vi = .int z.1 := r2
  subst r2
  obtain ⟨xs, ex, gx⟩ := good_ofO gz
  obtain ⟨v1, hP, ev1, l, vs, e1, hm, hp, hl, hpp⟩ := a.ok _ _ _ _ _ _ c2
  rw [Nat.zero_add] at ev1 hm
  subst e1
  rw [ev] at ev1
  cases ev1
  unfold setI at ex
  cases ej : ixN (g z.2).length z.1 with
  | none => rw [ej] at ex; cases ex
  | some j =>
    rw [ej] at ex; cases ex
    refine ⟨l0, vs, z.1, j, rfl, rfl, hp, by rw [paired_len hpp]; exact ej, ?_⟩
    obtain ⟨t1, t2, t3, t4⟩ := own_set (g := g) (vs' := vs.set j v) m w2 c2 hP ev (sub_of hm) (by rw [List.length_set]; exact hl) (paired_set (F := fun v x => c.see A.X.K (rd L2 H2) v x) (c.mono _ _ _ _ _ s2.rd r1) j hpp)
    exact (show nxP A G R L H o D (.nx (put z.2 ((g z.2).set j y.1))) from gx) o L2 _ ((s1.trans s2).trans t1) t2 t3 Keeps.refl

/-! ### new lists of old ones -/
def catO {α : Type} (xs ys : List α) : Option (List α) := if xs.length + ys.length ≤ 16777216 then some (xs ++ ys) else none
theorem ot_cat {α : Type} {c : Cod α} : OpT A (binaryOp .Add) (cL c) (cL c) catO (rO (oL c)) := ⟨_, op_cat, fun L H vx vy x y z Q w ⟨a, vs, e1, h1, l1, p1⟩ ⟨b, ws, e2, h2, l2, p2⟩ h3 q => by
  subst e1 e2
  unfold catO at h3
  have hl := line_eq
  have n1 := paired_len p1
  have n2 := paired_len p2
  split at h3
  · rename_i hc
    cases h3
    refine ⟨a, b, vs, ws, rfl, rfl, rd_sub _ _ h1, rd_sub _ _ h2, by omega, fun p hp => ?_⟩
    obtain ⟨t1, t2⟩ := ext_new (o := .lst (vs ++ ws)) w hp
    exact q _ _ _ t1 t2 (own_new w hp (by rw [List.length_append]; omega) (paired_append p1 p2))
  · cases h3⟩
theorem ct_listL {α : Type} {c : Cod α} : CalT A (.type "list") (aOne (cL c)) (fun xs => some xs) (rO (oL c)) := ⟨_, call_list_of, fun L H vs x z Q w ⟨v, e, a, ws, e1, h1, l1, p1⟩ h2 q => by
  subst e e1
  cases h2
  refine ⟨a, ws, rfl, .inl (SqL.of (rd_sub _ _ h1)), fun p hp => ?_⟩
  obtain ⟨t1, t2⟩ := ext_new (o := .lst ws) w hp
  exact q _ _ _ t1 t2 (own_new w hp l1 p1)⟩
theorem ct_listT {α : Type} {c : Cod α} : CalT A (.type "list") (aOne (cTV c)) (fun xs => some xs) (rO (oL c)) := ⟨_, call_list_of, fun L H vs x z Q w ⟨v, e, a, ws, e1, h1, l1, p1⟩ h2 q => by
  subst e e1
  cases h2
  refine ⟨a, ws, rfl, .inr (h1.same rd_sub).sq, fun p hp => ?_⟩
  obtain ⟨t1, t2⟩ := ext_new (o := .lst ws) w hp
  exact q _ _ _ t1 t2 (own_new w hp l1 p1)⟩
theorem ct_tupleL {α : Type} {c : Cod α} : CalT A (.type "tuple") (aOne (cL c)) (fun xs => some xs) (rV (cTV c)) := ⟨_, call_tuple_of, fun L H vs x z Q w ⟨v, e, a, ws, e1, h1, l1, p1⟩ h2 q => by
  subst e e1
  cases h2
  refine ⟨a, ws, rfl, .inl ⟨SqL.of (rd_sub _ _ h1), fun p hp => ?_⟩⟩
  obtain ⟨t1, t2⟩ := ext_val (o := .tup ws) w hp
  exact q _ _ _ t1 t2 ⟨p, ws, rfl, .inl (rd_mk setL_same upd_same), l1, paired_mono (fun _ _ q => c.mono _ _ _ _ _ t1.stp.rd q) p1⟩⟩
/-- parts of slices -/
def tP (A : Amb) (G : Ctx) (f : CT G → Res (Option Int × CT G)) : L2.TO := fun o H Q =>
  ∃ (p : CT G) (L : Lab), Wf L H ∧ CR A.X.K 0 G p L H o ∧ Good A (f p) L H o fun y => ∀ (L' : Lab) (H' : Hp), Stp L H L' H' → Wf L' H' → CR A.X.K 0 G y.2 L' H' o → Q y.1 H'
def OX (A : Amb) (G : Ctx) (e : Option Expr) (f : CT G → Res (Option Int × CT G)) : Prop := PO A.X e (tP A G f)
theorem po_weak {X : Cx} {e : Option Expr} {t t' : L2.TO} (h : PO X e t) (i : ∀ o H Q, t' o H Q → t o H Q) : PO X e t' := ⟨fun pins s o H Q I q => h.run pins s o H Q I (i _ _ _ q)⟩
theorem ox_none : OX A G none (fun p => .ok (none, p)) := po_weak po_none fun o H Q ⟨p, L, w, cr, k⟩ => k L H Stp.refl w cr
theorem ox_some {e : Expr} {f : CT G → Res (Int × CT G)} (h : EX A G e (rV cI) f) : OX A G (some e) (fun p => Res.bind (f p) fun y => .ok (some y.1, y.2)) :=
  po_weak (po_some h) fun o H Q ⟨p, L, w, cr, k⟩ => ⟨p, L, w, cr, k.bind.imp fun y _ q v L' H' s w' c' rl => ⟨y.1, rl, q L' H' s w' c'⟩⟩
def cutL {α : Type} (xs : List α) (lo hi : Option Int) : List α := (xs.drop (HT.sIx xs.length 0 lo)).take (HT.sIx xs.length xs.length hi - HT.sIx xs.length 0 lo)
theorem paired_cut {α : Type} {F : V → α → Prop} {l : List V} {m : List α} (p : Paired F l m) (lo hi : Option Int) : Paired F (cutV l lo hi) (cutL m lo hi) := by
  unfold cutV cutL
  rw [paired_len p]
  exact paired_take _ (paired_drop _ p)
theorem ex_cutL {α : Type} {c : Cod α} {e : Expr} {lo hi : Option Expr} {p2 pos : Pos} {f : CT G → Res (List α × CT G)} {fl fh : CT G → Res (Option Int × CT G)} (h : EX A G e (rV (cL c)) f) (hl : OX A G lo fl) (hh : OX A G hi fh) :
    EX A G (.Subscript e (.Slice lo hi none p2) pos) (rO (oL c)) (fun p => Res.bind (f p) fun y => Res.bind (fl y.2) fun z => Res.bind (fh z.2) fun u => .ok (cutL y.1 z.1 u.1, u.2)) :=
  pe_weak (pe_slice sl_list h hl hh) fun o H Q ⟨p, L, w, cr, k⟩ => ⟨p, L, w, cr, k.bind.imp fun y _ gy v L1 H1 s1 w1 c1 ⟨a, vs, e1, h1, l1, p1⟩ => ⟨y.2, L1, w1, c1, (gy.bind.step s1).imp fun z _ gz L2 H2 s2 w2 c2 => ⟨z.2, L2, w2, c2, (gz.bind.step (s1.trans s2)).imp fun u _ gu L3 H3 s3 w3 c3 => by
    subst e1
    have s23 := s2.trans s3
    refine ⟨a, vs, rfl, SqL.of (rd_sub _ _ (s23.rd _ _ h1)), fun q hq => ?_⟩
    obtain ⟨t1, t2⟩ := ext_new (o := .lst (cutV vs z.1 u.1)) w3 hq
    exact (show ∀ v L' H', _ from gu) _ _ _ ((s1.trans s23).trans t1.stp) t2 (c3.ext w3 t1) ((rO (oL c)).pre _ _ _ _ _ _ _ _ _ (s1.trans s23) (own_new w3 hq (Nat.le_trans (cutV_length _ _ _) l1) (paired_cut (paired_mono (fun _ _ q => c.mono _ _ _ _ _ s23.rd q) p1) _ _)))⟩⟩⟩
/-- xs[::-1] -/
theorem ex_revL {α : Type} {c : Cod α} {e : Expr} {kk : Nat} {p1 p2 p3 pos : Pos} {f : CT G → Res (List α × CT G)} (h : EX A G e (rV (cL c)) f) : EX A G (.Subscript e (.Slice none none (some (.UnaryOp .USub (.Constant (.int 1) kk p1) p2)) p3) pos) (rO (oL c)) (fun p => Res.bind (f p) fun y => .ok (y.1.reverse, y.2)) :=
  pe_weak (pe_revL h) fun o H Q ⟨p, L, w, cr, k⟩ => ⟨p, L, w, cr, k.bind.imp fun y _ q v L1 H1 s1 w1 c1 ⟨a, vs, e1, h1, l1, p1⟩ => ⟨a, vs, e1, SqL.of (rd_sub _ _ h1), fun p hp => by
    obtain ⟨t1, t2⟩ := ext_new (o := .lst vs.reverse) w1 hp
    exact (show ∀ v L' H', _ from q) _ _ _ (s1.trans t1.stp) t2 (c1.ext w1 t1) ((rO (oL c)).pre _ _ _ _ _ _ _ _ _ s1 (own_new w1 hp (by rw [List.length_reverse]; exact l1) (paired_rev p1)))⟩⟩

/-! ### data: ==, in, index, repr -/
theorem shaped_of {α : Type} {c : Cod α} {t : α → PyData} {n : Nat} (h : DC c t n) (hn : n ≤ 64) {K : Frag} {R : Hp} {v : V} {x : α} (q : c.see K R v x) : SeqAt.shaped (t x) = true := by
  obtain ⟨_, h2, h3⟩ := h K R v x q
  unfold SeqAt.shaped
  rw [h2, Bool.true_and, decide_eq_true_eq]
  omega
theorem dp_same {K : Frag} {R R' : Hp} (s : Same R R') : (∀ {v : V} {d : PyData}, Dp K R v d → Dp K R' v d) := fun {v d} h => by
  refine Dp.rec (motive_1 := fun v d _ => Dp K R' v d) (motive_2 := fun vs ds _ => DpAll K R' vs ds) .non (fun b => .bl b) (fun i => .int i) (fun x => .str x) (fun hq _ ih => .lst (s.seq hq) ih) (fun hq _ ih => .tup ?_ ih) .nil (fun _ _ h1 h2 => .cons h1 h2) h
  rcases hq with (z | ⟨o, z⟩) | z
  · exact .inl (.inl (s _ _ z))
  · exact .inl (.inr ⟨o, s _ _ z⟩)
  · exact .inr z
def eqO {α β : Type} (t : α → PyData) (u : β → PyData) (x : α) (y : β) : Bool := PyData.eqv (t x) (u y)
theorem ot_eqD {α β : Type} {c : Cod α} {d : Cod β} {t : α → PyData} {u : β → PyData} {n m : Nat} (h1 : DC c t n) (h2 : DC d u m) (hn : n ≤ 64) (hm : m ≤ 64) : OpT A (compareOp .Eq) c d (fun x y => some (eqO t u x y)) (rV cB) :=
  ⟨_, op_eqD A.room.units, fun L H vx vy x y z Q w q1 q2 q3 q => by
    cases q3
    exact ⟨t x, u y, dp_same rd_sub (h1 _ _ _ _ q1).1, dp_same rd_sub (h2 _ _ _ _ q2).1, shaped_of h1 hn q1, shaped_of h2 hm q2, q _ L H Ext.refl w rfl⟩⟩
theorem ot_neD {α β : Type} {c : Cod α} {d : Cod β} {t : α → PyData} {u : β → PyData} {n m : Nat} (h1 : DC c t n) (h2 : DC d u m) (hn : n ≤ 64) (hm : m ≤ 64) : OpT A (compareOp .NotEq) c d (fun x y => some (!eqO t u x y)) (rV cB) :=
  ⟨_, op_neD A.room.units, fun L H vx vy x y z Q w q1 q2 q3 q => by
    cases q3
    exact ⟨t x, u y, dp_same rd_sub (h1 _ _ _ _ q1).1, dp_same rd_sub (h2 _ _ _ _ q2).1, shaped_of h1 hn q1, shaped_of h2 hm q2, q _ L H Ext.refl w rfl⟩⟩
def inO {α β : Type} (t : α → PyData) (u : β → PyData) (x : α) (ys : List β) : Bool := ys.any fun y => PyData.eqv (u y) (t x)
theorem room65 : A.X.A.units + 65 < cLine := by have := A.room.un; omega
theorem any_map_eqv {β : Type} {u : β → PyData} {d : PyData} {ys : List β} : (ys.map u).any (fun z => PyData.eqv z d) = ys.any fun y => PyData.eqv (u y) d := by
  rw [List.any_map]; rfl
theorem ot_inL {α β : Type} {c : Cod α} {d : Cod β} {t : α → PyData} {u : β → PyData} {n m : Nat} (h1 : DC c t n) (h2 : DC d u m) (hn : n ≤ 64) (hm : m + 1 ≤ 64) : OpT A (compareOp .In) c (cL d) (fun x y => some (inO t u x y)) (rV cB) :=
  ⟨_, op_inD room65, fun L H vx vy x y z Q w q1 q2 q3 q => by
    cases q3
    exact ⟨t x, y.map u, dp_same rd_sub (h1 _ _ _ _ q1).1, dp_same rd_sub (dc_l h2 _ _ _ _ q2).1, shaped_of h1 hn q1, shaped_of (dc_l h2) hm q2, q _ L H Ext.refl w (by rw [any_map_eqv]; rfl)⟩⟩
theorem ot_notInL {α β : Type} {c : Cod α} {d : Cod β} {t : α → PyData} {u : β → PyData} {n m : Nat} (h1 : DC c t n) (h2 : DC d u m) (hn : n ≤ 64) (hm : m + 1 ≤ 64) : OpT A (compareOp .NotIn) c (cL d) (fun x y => some (!inO t u x y)) (rV cB) :=
  ⟨_, op_notInD room65, fun L H vx vy x y z Q w q1 q2 q3 q => by
    cases q3
    exact ⟨t x, y.map u, dp_same rd_sub (h1 _ _ _ _ q1).1, dp_same rd_sub (dc_l h2 _ _ _ _ q2).1, shaped_of h1 hn q1, shaped_of (dc_l h2) hm q2, q _ L H Ext.refl w (by rw [any_map_eqv]; rfl)⟩⟩
/-- .. is None -/
theorem ot_isN {α : Type} {c : Cod α} (h : ∀ K R v x, c.see K R v x → v ≠ .non) : OpT A (compareOp .Is) (cO c) cN (fun x _ => some x.isNone) (rV cB) :=
  ⟨_, op_isN, fun L H vx vy x y z Q w q1 q2 q3 q => by
    cases q3
    cases q2
    refine ⟨rfl, q _ L H Ext.refl w ?_⟩
    cases x with
    | none => cases q1; rfl
    | some x => show V.bl _ = V.bl _; rw [decide_eq_false (h _ _ _ _ q1)]; rfl⟩
theorem ot_notN {α : Type} {c : Cod α} (h : ∀ K R v x, c.see K R v x → v ≠ .non) : OpT A (compareOp .IsNot) (cO c) cN (fun x _ => some x.isSome) (rV cB) :=
  ⟨_, op_notN, fun L H vx vy x y z Q w q1 q2 q3 q => by
    cases q3
    cases q2
    refine ⟨rfl, q _ L H Ext.refl w ?_⟩
    cases x with
    | none => cases q1; rfl
    | some x => show V.bl _ = V.bl _; rw [decide_eq_false (h _ _ _ _ q1)]; rfl⟩
end
end AC
set_option Elab.async false
set_option linter.all false
set_option maxRecDepth 100000
/-! TL11: texts; several targets. -/
namespace AC
open PySem L2 PyProof

section
variable {A : Amb} {G G' : Ctx} {ρ : Type} {R : Rr ρ}
/-- one sign in a text -/
def sgnIn (x y : Str) : Option Bool := match x.cps.toList with
  | [c] => some (decide (c ∈ y.cps.toList))
  | _ => none
theorem one_sign {x : Str} {c : Nat} (h : x.cps.toList = [c]) : x = ⟨#[c]⟩ := by
  obtain ⟨⟨l⟩⟩ := x
  have h : l = [c] := h
  rw [h]
theorem ot_sgnIn : OpT A (compareOp .In) cS cS sgnIn (rV cB) := op_of op_in_sign fun L H vx vy x y z Q w h1 h2 h3 q => by
  obtain ⟨rfl, _⟩ := h1; obtain ⟨rfl, _⟩ := h2
  unfold sgnIn at h3
  split at h3
  · rename_i c e
    cases h3
    rw [one_sign e]
    exact ⟨c, y, rfl, rfl, q _ rfl⟩
  · cases h3
theorem ex_gstr {x z : Str} {t : Tok} {pos : Pos} (hg : Gl A.X x) (hm : A.X.mg x = some (.str z t)) (h1 : PyData.strOk z = true) (h2 : z.length ≤ sizeLine) (hd : (x == ("__debug__" : Str)) = false := by decide) : EX A G (.Name x pos) (rV cS) (fun p => .ok (z, p)) :=
  ex_c (pe_glob hg hm (v := .str z) ⟨t, rfl⟩ hd) fun _ _ => ⟨rfl, h1, h2⟩
end
end AC
set_option Elab.async false
set_option linter.all false
set_option maxRecDepth 100000
/-! TL12: defs by name; several targets; comprehensions stored; enumerate; index; in. -/
namespace AC
open PySem L2 PyProof

/-- a def by its name -/
structure DefG (P : Program) (w : World) (K : Frag) (mg : Str → Option Value) (base : Heap) (k : Nat) (x : Str) (ps : List Str) (sp : Sp) : Prop where
  ex : ∃ f fd, FnG P w K mg base k f fd ps sp ∧ mg x = some (.ref f) ∧ PySem.W.keepIn K (.ref f) = true ∧ Binds K fd ps [] ∧ ∀ (s : Shared) (us : List Value), us.length = ps.length → BindsTo s fd ⟨[], ps.zip us⟩ (ps.zip us)
section
variable {A : Amb} {G G' : Ctx} {ρ : Type} {R : Rr ρ}
abbrev DefA (A : Amb) (k : Nat) (x : Str) (ps : List Str) (sp : Sp) : Prop := DefG A.X.prog A.X.w A.X.K A.X.mg A.X.base k x ps sp
theorem ex_cal {α β : Type} {as : ArgC α} {r : Rt β} {F : α → Res β} {k : Nat} {ps : List Str} {x : Str} {p pos : Pos} {e : Expr} {es : List Expr} {fa : CT G → Res (α × CT G)} (D : DefA A k x ps (spP A.X.K A.ca as r F)) (hk : k ≤ A.lv) (gl : Gl A.X x) (hr : RtOk r) (ha : AX A G (e :: es) as fa)
    (hdb : (x == ("__debug__" : Str)) = false := by decide) (he : starEach (e :: es) A.X.env = (false, eval e A.X.env) :: starEach es A.X.env := by rfl) (hpl : (backTo pos (starEach es A.X.env)).any (·.1) = false := by rfl) :
    EX A G (.Call (.Name x p) (e :: es) [] pos) r (fun p => Res.bind (fa p) fun y => Res.bind (F y.1) fun z => .ok (z, y.2)) := by
  obtain ⟨f, fd, F1, h2, h3, h4, _⟩ := D.ex
  exact ex_call ⟨gl, h2, h3⟩ (callAt F1 h4 hk) hr ha hdb he hpl
theorem ex_cal0 {β : Type} {r : Rt β} {F : Unit → Res β} {k : Nat} {ps : List Str} {x : Str} {p pos : Pos} (D : DefA A k x ps (spP A.X.K A.ca aNil r F)) (hk : k ≤ A.lv) (gl : Gl A.X x) (hr : RtOk r) (hdb : (x == ("__debug__" : Str)) = false := by decide) :
    EX A G (.Call (.Name x p) [] [] pos) r (fun p => Res.bind (F ()) fun z => .ok (z, p)) := by
  obtain ⟨f, fd, F1, h2, h3, h4, _⟩ := D.ex
  exact ex_call0 ⟨gl, h2, h3⟩ (callAt F1 h4 hk) hr hdb
theorem ex_calI {α β κ : Type} {as : ArgC α} {oc : OCod κ} {P : V → Prop} {r : Rt β} {F : κ → α → Res (β × κ)} {i : Nat} {g : CT G → κ} {put : CT G → κ → CT G} {k : Nat} {ps : List Str} {x y : Str} {p p1 pos : Pos} {es : List Expr} {fa : CT G → Res (α × CT G)} (a : At G i (sOwn P oc) g) (m : Mod G i (sOwn P oc) put)
    (D : DefA A k x ps (spI A.X.K A.ca oc as r F)) (hk : k ≤ A.lv) (gl : Gl A.X x) (hr : RtOkI r) (hN : A.X.N[i]? = some y) (hv : Vis A.X.env.scope y) (ha : AX A G es as fa)
    (hd : (y == ("__debug__" : Str)) = false := by decide) (hcd : (y == ("__classdict__" : Str)) = false := by decide) (hdb : (x == ("__debug__" : Str)) = false := by decide) (he : starEach (.Name y p1 :: es) A.X.env = (false, eval (.Name y p1) A.X.env) :: starEach es A.X.env := by rfl) (hpl : (backTo pos (starEach es A.X.env)).any (·.1) = false := by rfl) :
    EX A G (.Call (.Name x p) (.Name y p1 :: es) [] pos) r (fun p => Res.bind (fa p) fun y => Res.bind (F (g y.2) y.1) fun z => .ok (z.1, put y.2 z.2)) := by
  obtain ⟨f, fd, F1, h2, h3, h4, _⟩ := D.ex
  exact ex_callI a m ⟨gl, h2, h3⟩ (callAt F1 h4 hk) hr hN hv ha hd hcd hdb he hpl
/-- f(k = e, ..) with keywords alone -/
theorem sx_bad {st : Stmt} : SX A G st G' R (fun _ => .bad) := ⟨fun pins s o H D I ⟨p, L, w, cr, k⟩ => k.elim⟩
theorem ex_bad {α : Type} {r : Rt α} {e : Expr} : EX A G e r (fun _ => .bad) := ⟨fun pins s o H Q I ⟨p, L, w, cr, k⟩ => k.elim⟩

/-! ### storing -/
structure StR (s : Slot) (r : Rt s.T) : Prop where
  ok : ∀ (K : Frag) (i : Nat) (L : Lab) (H : Hp) (L1 : Lab) (H1 : Hp) (v : V) (x : s.T), Wf L1 H1 → r.rel K L H L1 H1 v x → ∃ L2, (∀ a, L2 a = L1 a ∨ (L1 a = none ∧ ¬ Frm L H a)) ∧ (∀ a, L1 a ≠ none → L2 a = L1 a) ∧ Wf L2 H1 ∧ s.rel K i x L2 H1 (some (some v))
theorem st_v {α : Type} {c : Cod α} : StR (sVal c) (rV c) := ⟨fun K i L H L1 H1 v x w h => ⟨L1, fun _ => .inl rfl, fun _ _ => rfl, w, v, rfl, h⟩⟩
theorem st_o {α : Type} {c : OCod α} : StR (sOwn PAny c) (rO c) := ⟨fun K i L H L1 H1 v x w h => by
  obtain ⟨L2, h1, h2, h3, h4⟩ := lab_own i w h
  exact ⟨L2, h1, h2, h3, v, trivial, rfl, h4⟩⟩
theorem rd_more {L1 L2 : Lab} {H : Hp} (h : ∀ a, L1 a ≠ none → L2 a = L1 a) : Same (rd L1 H) (rd L2 H) := fun a ob qa => by
  obtain ⟨⟨l, e1⟩, e2⟩ := rd_of qa
  exact rd_mk ((h a (by rw [e1]; simp)).trans e1) e2
theorem cr_more {K : Frag} {p : CT G} {L1 L2 : Lab} {H : Hp} {o : St} (h : ∀ a, L1 a ≠ none → L2 a = L1 a) (c : CR K 0 G p L1 H o) : CR K 0 G p L2 H o := c.keep (rd_more h) fun a j l _ ea => ⟨h a (by rw [ea]; simp), rfl⟩
theorem stp_more {L0 L1 L2 : Lab} {H0 H1 : Hp} (s : Stp L0 H0 L1 H1) (h : ∀ a, L2 a = L1 a ∨ (L1 a = none ∧ ¬ Frm L0 H0 a)) : Stp L0 H0 L2 H1 := fun a fr => by
  rcases h a with z | z
  · exact ⟨z.trans (s a fr).1, (s a fr).2⟩
  · exact absurd fr z.2
/-- a, b = e1, e2 -/
theorem par_core {s1 s2 : Slot} {r1 : Rt s1.T} {r2 : Rt s2.T} {G1 : Ctx} {i j : Nat} {f1 : CT G → Res (s1.T × CT G)} {f2 : CT G → Res (s2.T × CT G)} {put2 : CT G → s2.T → CT G1} {put1 : CT G1 → s1.T → CT G'} (q1 : StR s1 r1) (q2 : StR s2 r2) (u2 : Upd G j s2 G1 put2) (u1 : Upd G1 i s1 G' put1) (hij : i ≠ j) (hS : A.S i ∧ A.S j)
    {o : St} {H : Hp} {D : Ends} (h : tS A G G' R (fun p => Res.bind (f1 p) fun y => Res.bind (f2 y.2) fun z => .ok (.nx (put1 (put2 z.2 z.1) y.1))) D o H) :
    tE A G r1 f1 o H fun v H1 => tE A G r2 f2 o H1 fun w H2 => D.nx ((o.set i (some v)).set j (some w)) H2 := by
  obtain ⟨p, L, w, cr, k⟩ := h
  refine ⟨p, L, w, cr, k.bind.imp fun y _ gy v L1 H1 s1' w1 c1 rl1 => ⟨y.2, L1, w1, c1, (gy.bind.step s1').imp fun z _ gz v2 L2 H2 s2' w2 c2 rl2 => ?_⟩⟩
  obtain ⟨L3, a1, a2, a3, a4⟩ := q2.ok A.X.K (0 + j) L1 H1 L2 H2 v2 z.1 w2 rl2
  have s13 : Stp L1 H1 L3 H2 := stp_more s2' a1
  have c3 := u2.ok _ _ _ z.1 v2 _ _ _ (cr_more a2 c2) a4
  obtain ⟨L4, b1, b2, b3, b4⟩ := q1.ok A.X.K (0 + i) L H L3 H2 v y.1 a3 (r1.post _ _ _ _ _ _ _ _ _ s13 rl1)
  have c4 := u1.ok _ _ _ y.1 v _ _ _ (cr_more b2 c3) b4
  rw [Nat.zero_add, Nat.zero_add, List.set_comm _ _ hij.symm] at c4
  exact (show nxP A G' R L H o D (.nx _) from gz) _ L4 H2 (stp_more (s1'.trans s13) b1) b3 c4 ((Keeps.set hS.1).trans (Keeps.set hS.2))
theorem sx_par {s1 s2 : Slot} {r1 : Rt s1.T} {r2 : Rt s2.T} {G1 : Ctx} {i j : Nat} {f1 : CT G → Res (s1.T × CT G)} {f2 : CT G → Res (s2.T × CT G)} {put2 : CT G → s2.T → CT G1} {put1 : CT G1 → s1.T → CT G'} {x y : Str} {a b : Expr} {px py pt pos : Pos} {kt k2 pt2} (q1 : StR s1 r1) (q2 : StR s2 r2) (u2 : Upd G j s2 G1 put2) (u1 : Upd G1 i s1 G' put1) (hij : i ≠ j) (hS : A.S i ∧ A.S j)
    (hi : A.X.N[i]? = some x) (hj : A.X.N[j]? = some y) (hx : A.X.env.scope.names.lookup x = some .local) (hy : A.X.env.scope.names.lookup y = some .local) (h1 : EX A G a r1 f1) (h2 : EX A G b r2 f2)
    (hw : swappedStores [.Tuple [.Name x px, .Name y py] kt pt] (.Tuple [a, b] k2 pt2) A.X.env = pure (some [x, y]))
    (hs : swapsWithSole [.Tuple [.Name x px, .Name y py] kt pt] (.Tuple [a, b] k2 pt2) pos.line A.X.env = pure false := by rfl)
    (sa : starEach [a, b] A.X.env = (false, eval a A.X.env) :: starEach [b] A.X.env := by rfl) (sb : starEach [b] A.X.env = (false, eval b A.X.env) :: starEach [] A.X.env := by rfl) :
    SX A G (.Assign [.Tuple [.Name x px, .Name y py] kt pt] (.Tuple [a, b] k2 pt2) pos) G' R (fun p => Res.bind (f1 p) fun y => Res.bind (f2 y.2) fun z => .ok (.nx (put1 (put2 z.2 z.1) y.1))) :=
  ps_weak (ps_par A.calm A.nd hi hj hij hx hy (pa_cons h1 (pa_cons h2 pa_nil sb) sa) hw hs) fun D o H q => by
    have := par_core q1 q2 u2 u1 hij hS q
    obtain ⟨p, L, w, cr, k⟩ := this
    exact ⟨p, L, w, cr, k.imp fun y _ g v L' H' s' w' c' rl => by
      obtain ⟨p2, L2, w2, c2, k2⟩ := g v L' H' s' w' c' rl
      exact ⟨p2, L2, w2, c2, k2.imp fun z _ g2 v2 L3 H3 s3 w3 c3 rl3 => ⟨v, v2, rfl, g2 v2 L3 H3 s3 w3 c3 rl3⟩⟩⟩
theorem par3_core {s1 s2 s3 : Slot} {r1 : Rt s1.T} {r2 : Rt s2.T} {r3 : Rt s3.T} {G1 G2 : Ctx} {i j l : Nat} {f1 : CT G → Res (s1.T × CT G)} {f2 : CT G → Res (s2.T × CT G)} {f3 : CT G → Res (s3.T × CT G)} {put3 : CT G → s3.T → CT G1} {put2 : CT G1 → s2.T → CT G2} {put1 : CT G2 → s1.T → CT G'}
    (q1 : StR s1 r1) (q2 : StR s2 r2) (q3 : StR s3 r3) (u3 : Upd G l s3 G1 put3) (u2 : Upd G1 j s2 G2 put2) (u1 : Upd G2 i s1 G' put1) (hij : i ≠ j ∧ i ≠ l ∧ j ≠ l) (hS : A.S i ∧ A.S j ∧ A.S l)
    {o : St} {H : Hp} {D : Ends} (h : tS A G G' R (fun p => Res.bind (f1 p) fun y => Res.bind (f2 y.2) fun z => Res.bind (f3 z.2) fun u => .ok (.nx (put1 (put2 (put3 u.2 u.1) z.1) y.1))) D o H) :
    tE A G r1 f1 o H fun v H1 => tE A G r2 f2 o H1 fun w H2 => tE A G r3 f3 o H2 fun u H3 => D.nx (((o.set i (some v)).set j (some w)).set l (some u)) H3 := by
  obtain ⟨p, L, w, cr, k⟩ := h
  refine ⟨p, L, w, cr, k.bind.imp fun y _ gy v L1 H1 s1' w1 c1 rl1 => ⟨y.2, L1, w1, c1, (gy.bind.step s1').imp fun z _ gz v2 L2 H2 s2' w2 c2 rl2 => ⟨z.2, L2, w2, c2, (gz.bind.step (s1'.trans s2')).imp fun u _ gu v3 L3 H3 s3' w3 c3 rl3 => ?_⟩⟩⟩
  obtain ⟨L4, a1, a2, a3, a4⟩ := q3.ok A.X.K (0 + l) L2 H2 L3 H3 v3 u.1 w3 rl3
  have t24 : Stp L2 H2 L4 H3 := stp_more s3' a1
  have c4 := u3.ok _ _ _ u.1 v3 _ _ _ (cr_more a2 c3) a4
  obtain ⟨L5, b1, b2, b3, b4⟩ := q2.ok A.X.K (0 + j) L1 H1 L4 H3 v2 z.1 a3 (r2.post _ _ _ _ _ _ _ _ _ t24 rl2)
  have t15 : Stp L1 H1 L5 H3 := stp_more (s2'.trans t24) b1
  have c5 := u2.ok _ _ _ z.1 v2 _ _ _ (cr_more b2 c4) b4
  obtain ⟨L6, d1, d2, d3, d4⟩ := q1.ok A.X.K (0 + i) L H L5 H3 v y.1 b3 (r1.post _ _ _ _ _ _ _ _ _ t15 rl1)
  have c6 := u1.ok _ _ _ y.1 v _ _ _ (cr_more d2 c5) d4
  rw [Nat.zero_add, Nat.zero_add, Nat.zero_add, List.set_comm _ _ hij.2.2.symm, List.set_comm _ _ hij.2.1.symm, List.set_comm _ _ hij.1.symm] at c6
  exact (show nxP A G' R L H o D (.nx _) from gu) _ L6 H3 (stp_more (s1'.trans t15) d1) d3 c6 (((Keeps.set hS.1).trans (Keeps.set hS.2.1)).trans (Keeps.set hS.2.2))
theorem sx_par3 {s1 s2 s3 : Slot} {r1 : Rt s1.T} {r2 : Rt s2.T} {r3 : Rt s3.T} {G1 G2 : Ctx} {i j l : Nat} {f1 : CT G → Res (s1.T × CT G)} {f2 : CT G → Res (s2.T × CT G)} {f3 : CT G → Res (s3.T × CT G)} {put3 : CT G → s3.T → CT G1} {put2 : CT G1 → s2.T → CT G2} {put1 : CT G2 → s1.T → CT G'} {x y z : Str} {a b c : Expr} {px py pz pt pos : Pos} {kt k2 pt2}
    (q1 : StR s1 r1) (q2 : StR s2 r2) (q3 : StR s3 r3) (u3 : Upd G l s3 G1 put3) (u2 : Upd G1 j s2 G2 put2) (u1 : Upd G2 i s1 G' put1) (hij : i ≠ j ∧ i ≠ l ∧ j ≠ l) (hS : A.S i ∧ A.S j ∧ A.S l)
    (hi : A.X.N[i]? = some x) (hj : A.X.N[j]? = some y) (hl : A.X.N[l]? = some z) (hx : A.X.env.scope.names.lookup x = some .local) (hy : A.X.env.scope.names.lookup y = some .local) (hz : A.X.env.scope.names.lookup z = some .local) (h1 : EX A G a r1 f1) (h2 : EX A G b r2 f2) (h3 : EX A G c r3 f3)
    (hw : swappedStores [.Tuple [.Name x px, .Name y py, .Name z pz] kt pt] (.Tuple [a, b, c] k2 pt2) A.X.env = pure (some [x, y, z]))
    (hs : swapsWithSole [.Tuple [.Name x px, .Name y py, .Name z pz] kt pt] (.Tuple [a, b, c] k2 pt2) pos.line A.X.env = pure false := by rfl)
    (sa : starEach [a, b, c] A.X.env = (false, eval a A.X.env) :: starEach [b, c] A.X.env := by rfl) (sb : starEach [b, c] A.X.env = (false, eval b A.X.env) :: starEach [c] A.X.env := by rfl) (sc : starEach [c] A.X.env = (false, eval c A.X.env) :: starEach [] A.X.env := by rfl) :
    SX A G (.Assign [.Tuple [.Name x px, .Name y py, .Name z pz] kt pt] (.Tuple [a, b, c] k2 pt2) pos) G' R (fun p => Res.bind (f1 p) fun y => Res.bind (f2 y.2) fun z => Res.bind (f3 z.2) fun u => .ok (.nx (put1 (put2 (put3 u.2 u.1) z.1) y.1))) :=
  ps_weak (ps_par3 A.calm A.nd hi hj hl hij.1 hij.2.1 hij.2.2 hx hy hz (pa_cons h1 (pa_cons h2 (pa_cons h3 pa_nil sc) sb) sa) hw hs) fun D o H q => by
    obtain ⟨p, L, w, cr, k⟩ := par3_core q1 q2 q3 u3 u2 u1 hij hS q
    exact ⟨p, L, w, cr, k.imp fun y _ g v L' H' s' w' c' rl => by
      obtain ⟨p2, L2, w2, c2, k2⟩ := g v L' H' s' w' c' rl
      refine ⟨p2, L2, w2, c2, k2.imp fun z _ g2 v2 L3 H3 s3 w3 c3 rl3 => ?_⟩
      obtain ⟨p3, L4, w4, c4, k4⟩ := g2 v2 L3 H3 s3 w3 c3 rl3
      exact ⟨p3, L4, w4, c4, k4.imp fun u _ g4 v3 L5 H5 s5 w5 c5 rl5 => ⟨v, v2, v3, rfl, g4 v3 L5 H5 s5 w5 c5 rl5⟩⟩⟩
/-- x = [.. for ..] on one line -/
theorem st_reads {s : Slot} {r : Rt s.T} {te : TE} {i : Nat} {f : CT G → Res (s.T × CT G)} {put : CT G → s.T → CT G'} (q1 : StR s r) (u : Upd G i s G' put) (hS : A.S i) (ht : ∀ o H Q, tE A G r f o H Q → te o H Q) {D : Ends} {o : St} {H : Hp}
    (h : tS A G G' R (fun p => Res.bind (f p) fun y => .ok (.nx (put y.2 y.1))) D o H) : tAsg te (gName i) D o H := by
  obtain ⟨p, L, w, cr, k⟩ := h
  refine ht o H _ ⟨p, L, w, cr, k.bind.imp fun y _ g v L1 H1 s1 w1 c1 rl => ?_⟩
  obtain ⟨L2, a1, a2, a3, a4⟩ := q1.ok A.X.K (0 + i) L H L1 H1 v y.1 w1 rl
  have c2 := u.ok _ _ _ y.1 v _ _ _ (cr_more a2 c1) a4
  rw [Nat.zero_add] at c2
  exact (show nxP A G' R L H o D (.nx _) from g) _ L2 H1 (stp_more s1 a1) a3 c2 (Keeps.set hS)
theorem sx_setLc {α β : Type} {ci : Cod α} {ce : Cod β} {G0 G1 : Ctx} {i : Nat} {x : Str} {px spos : Pos} {elt tg iter : Expr} {scope : Scope} {own : List (Str × Nat)} {pos : Pos} {fi : CT G → Res (List α × CT G)} {dn : CT G → CT G0} {bk : CT G → CT G0 → CT G} {pu : CT G0 → α → CT G1} {fe : CT G1 → Res (β × CT G1)} {dn1 : CT G1 → CT G0} {bk1 : CT G1 → CT G0 → CT G1} {put : CT G → List β → CT G'}
    (u : Upd G i (sOwn PAny (oL ce)) G' put) (hx : A.X.N[i]? = some x) (hxl : A.X.env.scope.names.lookup x = some .local) (hS : A.S i)
    (hi : IX A G tg iter ci fi) (ok : BlkOk A.X.N A.X.env.scope scope own) (wc : WipeC 0 (own.map (fun x : Str × Nat => x.2)) G G0 dn bk)
    (hg : ∀ s H C cl fp, GX (A.blk (own.map (fun x : Str × Nat => x.2)) s H scope C cl fp) G0 tg ci G1 pu) (he : ∀ s H C cl fp, EX (A.blk (own.map (fun x : Str × Nat => x.2)) s H scope C cl fp) G1 elt (rV ce) fe)
    (wc1 : WipeC 0 (own.map (fun x : Str × Nat => x.2)) G1 G0 dn1 bk1) (hsw : swapsWith (.ListComp elt [⟨tg, iter, [], 0⟩] scope pos) (some (.Name x px)) spos.line A.X.env = pure true) (hs : ∀ x, foldedSetIterable iter A.X.env x = pure x := by intro _; rfl) :
    SX A G (.Assign [.Name x px] (.ListComp elt [⟨tg, iter, [], 0⟩] scope pos) spos) G' R (fun p => Res.bind (Res.bind (fi p) fun y => Res.bind (mapR y.1 (fun x q => Res.bind (fe (pu q x)) fun z => .ok (z.1, dn1 z.2)) (dn y.2)) fun z => .ok (z.1, bk y.2 z.2)) fun y => .ok (.nx (put y.2 y.1))) := by
  refine ps_weak (ps_setLc A.calm A.nd hx hxl hsw hi ok (g := tG (A.blk (own.map (fun x : Str × Nat => x.2)) A.X.s_0 A.X.H_0 scope 0 [] []) ci G0 G1 pu) (tt := tT (A.blk (own.map (fun x : Str × Nat => x.2)) A.X.s_0 A.X.H_0 scope 0 [] []) G1 (fun q => .ok (true, q))) (te := tE (A.blk (own.map (fun x : Str × Nat => x.2)) A.X.s_0 A.X.H_0 scope 0 [] []) G1 (rV ce) fe)
    (fun s H C cl fp => hg s H C cl fp) (fun s H C cl fp => pts_weak pts_nil fun o H Q ⟨p, L, w, cr, k⟩ => k L H Stp.refl w cr) (fun s H C cl fp => he s H C cl fp) hs) fun D o H q => st_reads st_o u hS (fun o H Q q => lc_reads (A := A) (A.blk (own.map (fun x : Str × Nat => x.2)) A.X.s_0 A.X.H_0 scope 0 [] []) rfl blk_S wc wc1 ?_) q
  have e : ∀ (y : List α) (b : CT G0), lcL y (fun x q => Res.bind ((fun q => Res.ok (true, q)) (pu q x)) fun t => if t.1 = true then Res.bind (fe t.2) fun z => .ok (some z.1, dn1 z.2) else .ok (none, dn1 t.2)) b = mapR y (fun x q => Res.bind (fe (pu q x)) fun z => .ok (z.1, dn1 z.2)) b := fun y b => by
    rw [← lcL_some]
    simp only [Res.bind_ok, Res.bind_assoc, if_true]
  simp only [e]
  exact q
theorem sx_setLcIf {α β : Type} {ci : Cod α} {ce : Cod β} {G0 G1 : Ctx} {i : Nat} {x : Str} {px spos : Pos} {elt tg iter c : Expr} {scope : Scope} {own : List (Str × Nat)} {pos : Pos} {fi : CT G → Res (List α × CT G)} {dn : CT G → CT G0} {bk : CT G → CT G0 → CT G} {pu : CT G0 → α → CT G1} {ft : CT G1 → Res (Bool × CT G1)} {fe : CT G1 → Res (β × CT G1)} {dn1 : CT G1 → CT G0} {bk1 : CT G1 → CT G0 → CT G1} {put : CT G → List β → CT G'}
    (u : Upd G i (sOwn PAny (oL ce)) G' put) (hx : A.X.N[i]? = some x) (hxl : A.X.env.scope.names.lookup x = some .local) (hS : A.S i)
    (hi : IX A G tg iter ci fi) (ok : BlkOk A.X.N A.X.env.scope scope own) (wc : WipeC 0 (own.map (fun x : Str × Nat => x.2)) G G0 dn bk)
    (hg : ∀ s H C cl fp, GX (A.blk (own.map (fun x : Str × Nat => x.2)) s H scope C cl fp) G0 tg ci G1 pu) (ht : ∀ s H C cl fp, TX (A.blk (own.map (fun x : Str × Nat => x.2)) s H scope C cl fp) G1 c ft) (he : ∀ s H C cl fp, EX (A.blk (own.map (fun x : Str × Nat => x.2)) s H scope C cl fp) G1 elt (rV ce) fe)
    (wc1 : WipeC 0 (own.map (fun x : Str × Nat => x.2)) G1 G0 dn1 bk1) (hsw : swapsWith (.ListComp elt [⟨tg, iter, [c], 0⟩] scope pos) (some (.Name x px)) spos.line A.X.env = pure true) (hs : ∀ x, foldedSetIterable iter A.X.env x = pure x := by intro _; rfl) :
    SX A G (.Assign [.Name x px] (.ListComp elt [⟨tg, iter, [c], 0⟩] scope pos) spos) G' R (fun p => Res.bind (Res.bind (fi p) fun y => Res.bind (lcL y.1 (fun x q => Res.bind (ft (pu q x)) fun t => if t.1 = true then Res.bind (fe t.2) fun z => .ok (some z.1, dn1 z.2) else .ok (none, dn1 t.2)) (dn y.2)) fun z => .ok (z.1, bk y.2 z.2)) fun y => .ok (.nx (put y.2 y.1))) :=
  ps_weak (ps_setLc A.calm A.nd hx hxl hsw hi ok (g := tG (A.blk (own.map (fun x : Str × Nat => x.2)) A.X.s_0 A.X.H_0 scope 0 [] []) ci G0 G1 pu) (tt := tT (A.blk (own.map (fun x : Str × Nat => x.2)) A.X.s_0 A.X.H_0 scope 0 [] []) G1 ft) (te := tE (A.blk (own.map (fun x : Str × Nat => x.2)) A.X.s_0 A.X.H_0 scope 0 [] []) G1 (rV ce) fe)
    (fun s H C cl fp => hg s H C cl fp) (fun s H C cl fp => pts_one (ht s H C cl fp)) (fun s H C cl fp => he s H C cl fp) hs) fun D o H q => st_reads st_o u hS (fun o H Q q => lc_reads (A := A) (A.blk (own.map (fun x : Str × Nat => x.2)) A.X.s_0 A.X.H_0 scope 0 [] []) rfl blk_S wc wc1 q) q

/-! ### enumerate -/
def enumL {α : Type} (xs : List α) : List (Int × α) := xs.zipIdx.map fun z => ((z.2 : Int), z.1)
theorem enumL_len {α : Type} {xs : List α} : (enumL xs).length = xs.length := by unfold enumL; rw [List.length_map, List.length_zipIdx]
theorem enumL_get {α : Type} {xs : List α} {i : Nat} {x : α} (h : xs[i]? = some x) : (enumL xs)[i]? = some ((i : Int), x) := by
  unfold enumL
  rw [List.getElem?_map, List.getElem?_zipIdx, h]
  simp
theorem ix_enum {α : Type} {c : Cod α} {a : Expr} {elts : List Expr} {kk : Nat} {tpos p pos : Pos} {f : CT G → Res (List α × CT G)} (hg : Gl A.X "enumerate") (hm : A.X.mg "enumerate" = none) (h : EX A G a (rV (cL c)) f) (hs : starEach [a] A.X.env = [(false, eval a A.X.env)] := by rfl) :
    IX A G (.Tuple elts kk tpos) (.Call (.Name "enumerate" p) [a] [] pos) (cT (aCons cI (aOne c))) (fun p => Res.bind (f p) fun y => .ok (enumL y.1, y.2)) :=
  pi_weak (pi_enum hg hm (ax_one h (by rw [hs]; rfl)) hs) fun o H Q ⟨p, L, w, cr, k⟩ => ⟨p, L, w, cr, k.bind.imp fun y _ q vs L' H' s w' c' ⟨v, e, a, ws, e2, h1, hl, hp⟩ => by
    subst e e2
    refine ⟨a, ws, rfl, SqL.of (rd_sub _ _ h1), q L' H' _ (fun H => SqL A.X.K H a ws) (YPair (fun i => some (.int (i : Nat))) (fun i => ws[i]?)) s w' c' ⟨?_, ?_, fun L2 H2 s2 => SqL.of (rd_sub _ _ (s2.rd _ _ h1)), fun i L2 H2 v H3 hi s2 w2 hy => ?_⟩⟩
    · rw [enumL_len, ← paired_len hp]; exact walk_enum
    · rw [enumL_len, ← paired_len hp]; exact hl
    · obtain ⟨T, x, z, rfl, hT, rfl, hx, hz⟩ := hy
      cases hx
      obtain ⟨u, hu, hc⟩ := paired_getL hp hz
      obtain ⟨t1, t2⟩ := ext_val (o := .tup [V.int (i : Nat), z]) w2 hT
      exact ⟨_, _, t1, t2, enumL_get hu, T, _, rfl, .inl (rd_mk setL_same upd_same), .int (i : Nat), [z], rfl, rfl, z, rfl, c.mono _ _ _ _ _ (t1.stp.rd) (c.mono _ _ _ _ _ s2.rd hc)⟩⟩

/-! ### methods of values -/
/-- a method that changes nothing -/
def MtV (A : Amb) (T id : String) {α β γ : Type} (c : Cod α) (as : ArgC β) (k : α → β → Option γ) (r : Rt γ) : Prop :=
  ∃ t, MtR A.X id t ∧ (∀ L H v x, c.see A.X.K (rd L H) v x → tyV A.X.K T v H) ∧ ∀ (L : Lab) (H : Hp) (v : V) (ws : List V) (x : α) (y : β) (z : γ) (Q : VK), Wf L H → c.see A.X.K (rd L H) v x → as.see A.X.K (rd L H) ws y → k x y = some z →
    (∀ v L' H', Ext L H L' H' → Wf L' H' → r.rel A.X.K L H L' H' v z → Q v H') → t v ws H Q
theorem mtv_core {α β γ : Type} {c : Cod α} {as : ArgC β} {k : α → β → Option γ} {r : Rt γ} {T : String} {t : V → List V → Hp → VK → Prop} {f : CT G → Res (α × CT G)} {fa : CT G → Res (β × CT G)} (ty : ∀ L H v x, c.see A.X.K (rd L H) v x → tyV A.X.K T v H)
    (pr : ∀ (L : Lab) (H : Hp) (v : V) (ws : List V) (x : α) (y : β) (z : γ) (Q : VK), Wf L H → c.see A.X.K (rd L H) v x → as.see A.X.K (rd L H) ws y → k x y = some z → (∀ v L' H', Ext L H L' H' → Wf L' H' → r.rel A.X.K L H L' H' v z → Q v H') → t v ws H Q) {o : St} {H : Hp} {Q : VK}
    (q : tE A G r (fun p => Res.bind (f p) fun y => Res.bind (fa y.2) fun z => Res.bind (ofO (k y.1 z.1)) fun w => .ok (w, z.2)) o H Q) : tE A G (rV c) f o H fun x H1 => tyV A.X.K T x H1 ∧ tA A G as fa o H1 fun xs H2 => t x xs H2 Q := by
  obtain ⟨p, L, w, cr, kk⟩ := q
  refine run1 w cr kk fun x p1 v L1 H1 s1 w1 c1 r1 g1 => ⟨ty _ _ _ _ r1, p1, L1, w1, c1, g1.bind.imp fun y _ gy ws L2 H2 s2 w2 c2 r2 => ?_⟩
  obtain ⟨z, e, g3⟩ := good_ofO gy
  exact pr L2 H2 v ws x y.1 z Q w2 (c.mono _ _ _ _ _ s2.rd r1) r2 e fun v L' H' ex w' rl => g3 v L' H' ((s1.trans s2).trans ex.stp) w' (c2.ext w2 ex) (r.pre _ _ _ _ _ _ _ _ _ (s1.trans s2) rl)
theorem ex_mv {α β γ : Type} {T id : String} {name : Str} {a e : Expr} {es : List Expr} {ap cp : Pos} {c : Cod α} {as : ArgC β} {k : α → β → Option γ} {r : Rt γ} {f : CT G → Res (α × CT G)} {fa : CT G → Res (β × CT G)} (h : MtV A T id c as k r)
    (pa : PlainAttrs T) (slot : PySem.Slot T name id) (hty : typeOf (.builtin id) = pure (.type "method_descriptor")) (ho : EX A G a (rV c) f) (ha : AX A G (e :: es) as fa)
    (hbase : attributeBase a name A.X.env (eval a A.X.env) = eval a A.X.env := by rfl)
    (hfew : ((backTo cp (starEach (e :: es) A.X.env)).all (fun x => !x.1) && (backToKw cp (keywordEach [] A.X.env)).all (fun x => x.1.isSome) && decide ((e :: es).length + ([] : List Keyword).length + (if ([] : List Keyword).isEmpty then 0 else 1) < 30)) = true := by rfl)
    (hline : (ap.endLine == cp.line) = true := by rfl) (hs : starEach (e :: es) A.X.env = (false, eval e A.X.env) :: starEach es A.X.env := by rfl) (hplain : (backTo cp (starEach es A.X.env)).any (·.1) = false := by rfl) :
    EX A G (.Call (.Attribute a name ap) (e :: es) [] cp) r (fun p => Res.bind (f p) fun y => Res.bind (fa y.2) fun z => Res.bind (ofO (k y.1 z.1)) fun w => .ok (w, z.2)) := by
  obtain ⟨t, hr, ty, pr⟩ := h
  exact pe_weak (pe_bm pa slot hty hr ho ha hbase hfew hline hs hplain) fun o H Q q => mtv_core ty pr q
/-- the first place of an equal one -/
def idxO {α β : Type} (t : α → PyData) (u : β → PyData) (xs : List α) (y : β) : Option Int := (xs.findIdx? fun x => PyData.eqv (t x) (u y)).map fun j => (j : Int)
theorem mv_index {α β : Type} {c : Cod α} {d : Cod β} {t : α → PyData} {u : β → PyData} {n m : Nat} (h1 : DC c t n) (h2 : DC d u m) (hn : n + 1 ≤ 64) (hm : m ≤ 64) : MtV A "list" "list.index" (cL c) (aOne d) (idxO t u) (rV cI) :=
  ⟨_, mt_indexD room65, fun L H v x ⟨a, vs, e, hq, _⟩ => by subst e; exact .inl ⟨rfl, _, SqL.of (rd_sub _ _ hq)⟩, fun L H v ws x y z Q w q1 ⟨v2, e2, q2⟩ hk q => by
    subst e2
    unfold idxO at hk
    cases ej : x.findIdx? fun z => PyData.eqv (t z) (u y) with
    | none => rw [ej] at hk; cases hk
    | some j =>
      rw [ej] at hk
      cases hk
      obtain ⟨hj, hp, hno⟩ := List.findIdx?_eq_some_iff_getElem.mp ej
      have D1 := dc_l h1 _ _ _ _ q1
      have Z1 := shaped_of (dc_l h1) hn q1
      obtain ⟨a, vs, rfl, _⟩ := q1
      exact ⟨a, v2, u y, x.map t, j, t x[j], rfl, rfl, dp_same rd_sub D1.1, dp_same rd_sub (h2 _ _ _ _ q2).1, Z1, shaped_of h2 hm q2, by rw [List.getElem?_map, List.getElem?_eq_getElem hj]; rfl, by simpa using hp, fun i z' hi hz => by
        have hil : i < x.length := by omega
        rw [List.getElem?_map, List.getElem?_eq_getElem hil] at hz
        cases hz
        simpa using hno i hi, q _ L H Ext.refl w rfl⟩⟩

/-! ### in, for tuples of flat things -/
def FlatQ {α : Type} [DecidableEq α] (c : Cod α) : Prop := ∀ K R v w x y, c.see K R v x → c.see K R w y → flatV v = true ∧ eqV w v = decide (x = y)
theorem fq_i : FlatQ cI := fun K R v w x y h1 h2 => by
  cases h1; cases h2
  refine ⟨rfl, ?_⟩
  show decide (y = x) = _
  exact decide_eq_decide.mpr eq_comm
theorem fq_s : FlatQ cS := fun K R v w x y h1 h2 => by
  obtain ⟨rfl, _⟩ := h1; obtain ⟨rfl, _⟩ := h2
  refine ⟨rfl, ?_⟩
  show (y == x) = _
  by_cases h : x = y
  · rw [decide_eq_true h, h]; exact beq_self_eq_true y
  · rw [decide_eq_false h]; exact beq_false_of_ne fun e => h e.symm
theorem flat_all {α : Type} [DecidableEq α] {c : Cod α} (h : FlatQ c) {K : Frag} {R : Hp} {v : V} {x : α} (hv : c.see K R v x) : ∀ {vs : List V} {xs : List α}, Paired (fun v x => c.see K R v x) vs xs → vs.all flatV = true ∧ inV v vs = decide (x ∈ xs)
  | _, _, .nil => ⟨rfl, by simp [inV]⟩
  | _, _, .cons r t => by
    obtain ⟨h1, h2⟩ := flat_all h hv t
    obtain ⟨h3, _⟩ := h K R _ _ _ _ r r
    obtain ⟨_, h4⟩ := h K R _ _ _ _ hv r
    refine ⟨by rw [List.all_cons, h3, h1]; rfl, ?_⟩
    show (eqV _ v || inV v _) = _
    rw [h2, h4, ← Bool.decide_or]
    exact decide_eq_decide.mpr List.mem_cons.symm
theorem ot_inTV {α : Type} [DecidableEq α] {c : Cod α} (h : FlatQ c) : OpT A (compareOp .In) c (cTV c) (fun x ys => some (decide (x ∈ ys))) (rV cB) := ⟨_, op_in_seq, fun L H vx vy x y z Q w q1 ⟨a, vs, e, hs, hl, hp⟩ h3 q => by
  subst e
  cases h3
  obtain ⟨t1, t2⟩ := flat_all h q1 hp
  exact ⟨a, vs, rfl, .inr (hs.same rd_sub).sq, (h _ _ _ _ _ _ q1 q1).1, t1, q _ L H Ext.refl w (by show V.bl _ = V.bl _; rw [if_neg Bool.false_ne_true, t2])⟩⟩
theorem ot_notInTV {α : Type} [DecidableEq α] {c : Cod α} (h : FlatQ c) : OpT A (compareOp .NotIn) c (cTV c) (fun x ys => some (!decide (x ∈ ys))) (rV cB) := ⟨_, op_notIn_seq, fun L H vx vy x y z Q w q1 ⟨a, vs, e, hs, hl, hp⟩ h3 q => by
  subst e
  cases h3
  obtain ⟨t1, t2⟩ := flat_all h q1 hp
  exact ⟨a, vs, rfl, .inr (hs.same rd_sub).sq, (h _ _ _ _ _ _ q1 q1).1, t1, q _ L H Ext.refl w (by show V.bl _ = V.bl _; rw [if_pos rfl, t2])⟩⟩
theorem ot_inLF {α : Type} [DecidableEq α] {c : Cod α} (h : FlatQ c) : OpT A (compareOp .In) c (cL c) (fun x ys => some (decide (x ∈ ys))) (rV cB) := ⟨_, op_in_seq, fun L H vx vy x y z Q w q1 ⟨a, vs, e, hs, hl, hp⟩ h3 q => by
  subst e
  cases h3
  obtain ⟨t1, t2⟩ := flat_all h q1 hp
  exact ⟨a, vs, rfl, .inl (SqL.of (rd_sub _ _ hs)), (h _ _ _ _ _ _ q1 q1).1, t1, q _ L H Ext.refl w (by show V.bl _ = V.bl _; rw [if_neg Bool.false_ne_true, t2])⟩⟩
theorem ot_notInLF {α : Type} [DecidableEq α] {c : Cod α} (h : FlatQ c) : OpT A (compareOp .NotIn) c (cL c) (fun x ys => some (!decide (x ∈ ys))) (rV cB) := ⟨_, op_notIn_seq, fun L H vx vy x y z Q w q1 ⟨a, vs, e, hs, hl, hp⟩ h3 q => by
  subst e
  cases h3
  obtain ⟨t1, t2⟩ := flat_all h q1 hp
  exact ⟨a, vs, rfl, .inl (SqL.of (rd_sub _ _ hs)), (h _ _ _ _ _ _ q1 q1).1, t1, q _ L H Ext.refl w (by show V.bl _ = V.bl _; rw [if_pos rfl, t2])⟩⟩
theorem sub_ttv {α : Type} {c : Cod α} {n : Nat} (hn : n ≤ sizeLine) : Sub (cT (aAll c n)) (cTV c) id := fun K R v x ⟨a, vs, e, h, h1, h2⟩ => ⟨a, vs, e, h, by rw [h1]; exact hn, h2⟩
end
end AC
set_option Elab.async false
set_option linter.all false
set_option maxRecDepth 100000
/-! TL13: dicts, instances, repr. -/
namespace AC
open PySem L2 PyProof

/-! ### dicts -/
/-- keys: ints or texts -/
structure KeyC (κ : Type) where
  c : Cod κ
  key : κ → Key
  inj : ∀ a b, key a = key b → a = b
  is : ∀ K R v x, c.see K R v x → v = kV (key x)
  fixed : ∀ K R R' v x, c.see K R v x → c.see K R' v x
def kI : KeyC Int := ⟨cI, .inl, fun _ _ h => Sum.inl.inj h, fun _ _ _ _ h => h, fun _ _ _ _ _ h => h⟩
def kS : KeyC Str := ⟨cS, .inr, fun _ _ h => Sum.inr.inj h, fun _ _ _ _ h => h.1, fun _ _ _ _ _ h => h⟩
def EntR {κ α : Type} (kc : KeyC κ) (c : Cod α) (K : Frag) (R : Hp) (e : Key × V) (x : κ × α) : Prop := e.1 = kc.key x.1 ∧ kc.c.see K R (kV e.1) x.1 ∧ c.see K R e.2 x.2
theorem EntR.mono {κ α : Type} {kc : KeyC κ} {c : Cod α} {K : Frag} {R R' : Hp} (s : Same R R') {e : Key × V} {x : κ × α} (h : EntR kc c K R e x) : EntR kc c K R' e x := ⟨h.1, kc.fixed _ _ _ _ _ h.2.1, c.mono _ _ _ _ _ s h.2.2⟩
/-- a dict that stays as it is -/
def cD {κ α : Type} (kc : KeyC κ) (c : Cod α) : Cod (List (κ × α)) := ⟨fun K R v xs => ∃ a kvs, v = .ref a ∧ R a = some (.dK kvs) ∧ kvs.length ≤ sizeLine ∧ Paired (EntR kc c K R) kvs xs, fun K R R' v x s ⟨a, kvs, e, h, hl, h'⟩ => ⟨a, kvs, e, s _ _ h, hl, paired_mono (fun _ _ q => q.mono s) h'⟩⟩
def oD {κ α : Type} (kc : KeyC κ) (c : Cod α) : OCod (List (κ × α)) := ⟨fun K R M H l v xs => ∃ p kvs, v = .ref p ∧ M p = some l ∧ H p = some (.dK kvs) ∧ kvs.length ≤ sizeLine ∧ Paired (EntR kc c K R) kvs xs,
  fun K R R' M M' H H' l v x s t ⟨p, kvs, e, hm, hp, hl, h'⟩ => ⟨p, kvs, e, (t p l hm).1, (t p l hm).2.trans hp, hl, paired_mono (fun _ _ q => q.mono s) h'⟩⟩
theorem frz_d {κ α : Type} {kc : KeyC κ} {c : Cod α} : Frz (oD kc c) (cD kc c) := fun K R R' M H v x s t ⟨p, kvs, e, hm, hp, hl, h'⟩ => ⟨p, kvs, e, (t p _ hm rfl).trans hp, hl, paired_mono (fun _ _ q => q.mono s) h'⟩
theorem ho_d {κ α : Type} {kc : KeyC κ} {c : Cod α} (h : HardC c) : HardO (oD kc c) := fun K R1 R2 M H l v x s ⟨p, kvs, e, hm, hp, hl, q⟩ => ⟨p, kvs, e, hm, hp, hl, paired_mono (fun _ _ z => ⟨z.1, kc.fixed _ _ _ _ _ z.2.1, h K R1 R2 _ _ s z.2.2⟩) q⟩
def getD {κ α : Type} [DecidableEq κ] (xs : List (κ × α)) (k : κ) : Option α := (xs.find? fun e => decide (e.1 = k)).map (·.2)
def putD {κ α : Type} [DecidableEq κ] (xs : List (κ × α)) (k : κ) (v : α) : List (κ × α) := if (xs.any fun e => decide (e.1 = k)) = true then xs.map (fun e => if e.1 = k then (e.1, v) else e) else xs ++ [(k, v)]
section
variable {κ α : Type} [DecidableEq κ] {kc : KeyC κ} {c : Cod α} {K : Frag} {R : Hp}
theorem key_dec {e : Key × V} {x : κ × α} (h : EntR kc c K R e x) (k : κ) : decide (e.1 = kc.key k) = decide (x.1 = k) := by
  rw [h.1]
  exact decide_eq_decide.mpr ⟨fun z => kc.inj _ _ z, fun z => by rw [z]⟩
theorem ent_get (k : κ) : ∀ {kvs : List (Key × V)} {xs : List (κ × α)}, Paired (EntR kc c K R) kvs xs → match getD xs k with | some x => ∃ v, valV kvs (kc.key k) = some v ∧ c.see K R v x | none => valV kvs (kc.key k) = none
  | _, _, .nil => rfl
  | e :: kvs, x :: xs, .cons r t => by
    have ih := ent_get k t
    have hd := key_dec r k
    by_cases hx : x.1 = k
    · have e1 : getD (x :: xs) k = some x.2 := by unfold getD; rw [List.find?_cons_of_pos (by simpa using hx)]; rfl
      rw [e1]
      exact ⟨e.2, valV_pos (by rw [r.1, hx]), r.2.2⟩
    · have e1 : getD (x :: xs) k = getD xs k := by unfold getD; rw [List.find?_cons_of_neg (by simpa using hx)]
      rw [e1, valV_neg (fun z => hx (kc.inj _ _ (r.1.symm.trans z)))]
      exact ih
theorem ent_any (k : κ) : ∀ {kvs : List (Key × V)} {xs : List (κ × α)}, Paired (EntR kc c K R) kvs xs → (kvs.any fun e => decide (e.1 = kc.key k)) = xs.any fun e => decide (e.1 = k)
  | _, _, .nil => rfl
  | e :: kvs, x :: xs, .cons r t => by rw [List.any_cons, List.any_cons, ent_any k t, key_dec r k]
theorem ent_map {k : κ} {v : V} {y : α} (hv : c.see K R v y) : ∀ {kvs : List (Key × V)} {xs : List (κ × α)}, Paired (EntR kc c K R) kvs xs → Paired (EntR kc c K R) (kvs.map fun e => if e.1 = kc.key k then (e.1, v) else e) (xs.map fun e => if e.1 = k then (e.1, y) else e)
  | _, _, .nil => .nil
  | e :: kvs, x :: xs, .cons r t => by
    refine .cons ?_ (ent_map hv t)
    show EntR kc c K R (if e.1 = kc.key k then (e.1, v) else e) (if x.1 = k then (x.1, y) else x)
    by_cases hx : x.1 = k
    · rw [if_pos hx, if_pos (by rw [r.1, hx])]
      exact ⟨r.1, r.2.1, hv⟩
    · rw [if_neg hx, if_neg (fun z => hx (kc.inj _ _ (r.1.symm.trans z)))]
      exact r
theorem ent_put {k : κ} {w v : V} {y : α} (hk : kc.c.see K R w k) (hv : c.see K R v y) {kvs : List (Key × V)} {xs : List (κ × α)} (h : Paired (EntR kc c K R) kvs xs) : Paired (EntR kc c K R) (putK kvs (kc.key k) v) (putD xs k y) := by
  unfold putK putD
  rw [ent_any k h]
  split
  · exact ent_map hv h
  · exact paired_append h (.cons ⟨rfl, by rw [← kc.is _ _ _ _ hk]; exact hk, hv⟩ .nil)
theorem ent_merge : ∀ {kvs : List (Key × V)} {xs : List (κ × α)} {kvs0 : List (Key × V)} {xs0 : List (κ × α)}, Paired (EntR kc c K R) kvs xs → Paired (EntR kc c K R) kvs0 xs0 → Paired (EntR kc c K R) (mergeK kvs0 kvs) (xs.foldl (fun acc e => putD acc e.1 e.2) xs0)
  | _, _, _, _, .nil, h => h
  | e :: kvs, x :: xs, _, _, .cons r t, h => by
    show Paired _ (mergeK (putK _ e.1 e.2) kvs) (xs.foldl (fun acc e => putD acc e.1 e.2) (putD _ x.1 x.2))
    refine ent_merge t ?_
    have := ent_put (k := x.1) r.2.1 r.2.2 h
    rw [← r.1] at this
    exact this
end
section
variable {A : Amb} {G G' : Ctx} {ρ : Type} {R : Rr ρ}
theorem room1 : A.X.A.units + 1 < cLine := by have := A.room.un; omega
/-- d[k] -/
theorem ex_ixD {κ α : Type} [DecidableEq κ] {kc : KeyC κ} {c : Cod α} {a b : Expr} {pos : Pos} {f : CT G → Res (List (κ × α) × CT G)} {g : CT G → Res (κ × CT G)} (ha : EX A G a (rV (cD kc c)) f) (hb : EX A G b (rV kc.c) g) (hs : NoSl b) :
    EX A G (.Subscript a b pos) (rV c) (fun p => Res.bind (f p) fun y => Res.bind (g y.2) fun z => Res.bind (ofO (getD y.1 z.1)) fun w => .ok (w, z.2)) :=
  pe_weak (pe_dget room1 ha hb hs) fun o H Q q => bin_core (r := rV c) (r2 := fun x y H2 Q => ∃ a v, x = .ref a ∧ DGet H2 a y (some v) ∧ Q v H2) (fun L H vx vy x y z Q w h1 h2 h3 q => by
    obtain ⟨a, kvs, rfl, hq, hl, hp⟩ := h1
    have := ent_get y hp
    rw [h3] at this
    obtain ⟨v, e1, e2⟩ := this
    refine ⟨a, v, rfl, ?_, q v L H Ext.refl w e2⟩
    rw [kc.is _ _ _ _ h2, ← e1]
    exact DGet.k (rd_sub _ _ hq)) q
theorem ot_inD {κ α : Type} [DecidableEq κ] {kc : KeyC κ} {c : Cod α} : OpT A (compareOp .In) kc.c (cD kc c) (fun k xs => some (getD xs k).isSome) (rV cB) :=
  ⟨fun y x H Q => ∃ a o, x = .ref a ∧ DGet H a y o ∧ Q (.bl o.isSome) H, fun pins s o H x y v u Q I rx ry ⟨a, ov, ex, g, q⟩ => by
    subst ex
    obtain rfl : u = Value.ref a := ry
    exact d_in room1 I g rx fun s3 I3 => ⟨.bl ov.isSome, H, I3, rfl, q⟩, fun L H vx vy x y z Q w h1 h2 h3 q => by
    obtain ⟨a, kvs, rfl, hq, hl, hp⟩ := h2
    cases h3
    refine ⟨a, _, rfl, by rw [kc.is _ _ _ _ h1]; exact DGet.k (rd_sub _ _ hq), q _ L H Ext.refl w ?_⟩
    have := ent_get x hp
    cases e : getD y x with
    | none => rw [e] at this; show V.bl _ = V.bl _; rw [this]; rfl
    | some z => rw [e] at this; obtain ⟨v, e1, _⟩ := this; show V.bl _ = V.bl _; rw [e1]; rfl⟩
theorem ot_notInD {κ α : Type} [DecidableEq κ] {kc : KeyC κ} {c : Cod α} : OpT A (compareOp .NotIn) kc.c (cD kc c) (fun k xs => some (getD xs k).isNone) (rV cB) :=
  ⟨fun y x H Q => ∃ a o, x = .ref a ∧ DGet H a y o ∧ Q (.bl (!o.isSome)) H, fun pins s o H x y v u Q I rx ry ⟨a, ov, ex, g, q⟩ => by
    subst ex
    obtain rfl : u = Value.ref a := ry
    exact d_notIn room1 I g rx fun s3 I3 => ⟨.bl (!ov.isSome), H, I3, rfl, q⟩, fun L H vx vy x y z Q w h1 h2 h3 q => by
    obtain ⟨a, kvs, rfl, hq, hl, hp⟩ := h2
    cases h3
    refine ⟨a, _, rfl, by rw [kc.is _ _ _ _ h1]; exact DGet.k (rd_sub _ _ hq), q _ L H Ext.refl w ?_⟩
    have := ent_get x hp
    cases e : getD y x with
    | none => rw [e] at this; show V.bl _ = V.bl _; rw [this]; rfl
    | some z => rw [e] at this; obtain ⟨v, e1, _⟩ := this; show V.bl _ = V.bl _; rw [e1]; rfl⟩
/-- displays of dicts -/
def tK {κ α : Type} (A : Amb) (G : Ctx) (kc : KeyC κ) (c : Cod α) (f : CT G → Res (List (κ × α) × CT G)) (o : St) (H : Hp) (Q : List (V × V) → Hp → Prop) : Prop :=
  ∃ (p : CT G) (L : Lab), Wf L H ∧ CR A.X.K 0 G p L H o ∧ Good A (f p) L H o fun y => ∀ (ps : List (V × V)) (L' : Lab) (H' : Hp), Stp L H L' H' → Wf L' H' → CR A.X.K 0 G y.2 L' H' o → Paired (fun (q : V × V) x => kc.c.see A.X.K (rd L' H') q.1 x.1 ∧ c.see A.X.K (rd L' H') q.2 x.2) ps y.1 → Q ps H'
def KX {κ α : Type} (A : Amb) (G : Ctx) (pos : Pos) (keys : List (Option Expr)) (vals : List Expr) (kc : KeyC κ) (c : Cod α) (f : CT G → Res (List (κ × α) × CT G)) : Prop := ∃ trs, PPs A.X pos keys vals trs ∧ ∀ o H Q, tK A G kc c f o H Q → tPairs trs o H Q
theorem kx_nil {κ α : Type} {kc : KeyC κ} {c : Cod α} {pos : Pos} : KX A G pos [] [] kc c (fun p => .ok ([], p)) := ⟨[], pps_nil, fun o H Q ⟨p, L, w, cr, k⟩ => k [] L H Stp.refl w cr .nil⟩
theorem kx_cons {κ α : Type} {kc : KeyC κ} {c : Cod α} {pos : Pos} {a b : Expr} {keys : List (Option Expr)} {vals : List Expr} {f : CT G → Res (κ × CT G)} {g : CT G → Res (α × CT G)} {h : CT G → Res (List (κ × α) × CT G)} (ha : EX A G a (rV kc.c) f) (hb : EX A G b (rV c) g) (hr : KX A G pos keys vals kc c h) :
    KX A G pos (some a :: keys) (b :: vals) kc c (fun p => Res.bind (f p) fun y => Res.bind (g y.2) fun z => Res.bind (h z.2) fun u => .ok ((y.1, z.1) :: u.1, u.2)) := by
  obtain ⟨trs, h1, h2⟩ := hr
  refine ⟨_, pps_cons ha hb h1, fun o H Q ⟨p, L, w, cr, k⟩ => ?_⟩
  refine run1 w cr k fun x p1 v L1 H1 s1 w1 c1 r1 g1 => run1 w1 c1 g1 fun y p2 u L2 H2 s2 w2 c2 r2 g2 => ?_
  exact h2 _ _ _ ⟨p2, L2, w2, c2, g2.bind.imp fun z _ gz ps L3 H3 s3 w3 c3 r3 => gz ((v, u) :: ps) L3 H3 ((s1.trans s2).trans s3) w3 c3 (.cons ⟨kc.fixed _ _ _ _ _ r1, c.mono _ _ _ _ _ s3.rd r2⟩ r3)⟩
theorem ent_of {κ α : Type} {kc : KeyC κ} {c : Cod α} {K : Frag} {R : Hp} : ∀ {ps : List (V × V)} {xs : List (κ × α)}, Paired (fun (q : V × V) x => kc.c.see K R q.1 x.1 ∧ c.see K R q.2 x.2) ps xs → ∃ kvs : List (Key × V), ps = kvs.map (fun kv => (kV kv.1, kv.2)) ∧ Paired (EntR kc c K R) kvs xs
  | _, _, .nil => ⟨[], rfl, .nil⟩
  | q :: ps, x :: xs, .cons r t => by
    obtain ⟨kvs, e1, e2⟩ := ent_of t
    have hk := kc.is _ _ _ _ r.1
    refine ⟨(kc.key x.1, q.2) :: kvs, ?_, .cons ⟨rfl, by rw [← hk]; exact r.1, r.2⟩ e2⟩
    rw [List.map_cons, ← e1, ← hk]
theorem own_newD {κ α : Type} {kc : KeyC κ} {c : Cod α} {K : Frag} {L0 L : Lab} {H0 H : Hp} (w : Wf L H) {p : Addr} {kvs : List (Key × V)} {xs : List (κ × α)} (hL : L p = none) (hf : ¬ Frm L0 H0 p) (hl : kvs.length ≤ sizeLine) (hp : Paired (EntR kc c K (rd L H)) kvs xs) : OwnAt (oD kc c) K L0 H0 L (upd H p (.dK kvs)) (.ref p) xs := by
  have sm : Same (rd L H) (rd L (upd H p (.dK kvs))) := fun a ob qa => by
    obtain ⟨⟨l', e1⟩, e2⟩ := rd_of qa
    exact rd_mk e1 (by rw [upd_ne fun e => by rw [e, hL] at e1; cases e1]; exact e2)
  refine ⟨fun a => if a = p then some [] else none, fun a m e => ?_, p, kvs, rfl, if_pos rfl, upd_same, hl, paired_mono (fun _ _ q => q.mono sm) hp⟩
  have e : (if a = p then some ([] : List Nat) else none) = some m := e
  by_cases ea : a = p
  · rw [if_pos ea] at e; cases e
    rw [ea, upd_same]
    exact ⟨hL, trivial, hf⟩
  · rw [if_neg ea] at e; cases e
theorem ex_disp {κ α : Type} [DecidableEq κ] {kc : KeyC κ} {c : Cod α} {keys : List (Option Expr)} {vals : List Expr} {pos : Pos} {f : CT G → Res (List (κ × α) × CT G)} (h : KX A G pos keys vals kc c f) (hall : keys.all (·.isSome) = true := by rfl) (hl : keys.length = vals.length := by rfl) (h0 : keys ≠ [] := by exact fun e => nomatch e) (h15 : keys.length ≤ 15 := by decide) :
    EX A G (.Dict keys vals pos) (rO (oD kc c)) (fun p => Res.bind (f p) fun y => if y.1.length ≤ 15 then .ok (y.1.foldl (fun acc e => putD acc e.1 e.2) [], y.2) else .bad) := by
  obtain ⟨trs, h1, h2⟩ := h
  refine pe_weak (pe_disp h1 hall hl h0 h15) fun o H Q ⟨p, L, w, cr, k⟩ q hq => ?_
  obtain ⟨t1, t2⟩ := ext_new (o := .dK []) w hq
  refine h2 _ _ _ ⟨p, L, t2, cr.ext w t1, (k.bind.step t1.stp).imp fun y _ gy ps L' H' s' w' c' hp => ?_⟩
  have fq : Frm L (upd H q (.dK [])) q := ⟨by rw [upd_same]; simp, .inl (w.none hq)⟩
  obtain ⟨e1, e2⟩ := s' q fq
  rw [upd_same] at e2
  have e1 : L' q = none := e1.trans (w.none hq)
  obtain ⟨kvs, ek, he⟩ := ent_of hp
  have hlen := paired_len he
  by_cases hc : y.1.length ≤ 15
  · rw [if_pos hc] at gy
    refine ⟨e2, kvs, ek, by omega, ?_⟩
    have s2 : Stp L H L' (upd H' q (.dK (mergeK [] kvs))) := fun a f => by
      have ne : a ≠ q := fun e => f.1 (by rw [e]; exact hq)
      obtain ⟨z1, z2⟩ := s' a (t1.stp.frm f)
      exact ⟨z1, by rw [upd_ne ne, z2, upd_ne ne]⟩
    have w2 : Wf L' (upd H' q (.dK (mergeK [] kvs))) := ⟨fun a ha => by
      rw [upd_ne fun e => ha (by rw [e]; exact e1)]; exact w'.dom a ha, fun a k' l e => by
      rw [upd_ne fun e' => by rw [e', e1] at e; cases e]; exact w'.soft a k' l e⟩
    have sm : Same (rd L' H') (rd L' (upd H' q (.dK (mergeK [] kvs)))) := fun a ob qa => by
      obtain ⟨⟨l', z1⟩, z2⟩ := rd_of qa
      exact rd_mk z1 (by rw [upd_ne fun e => by rw [e, e1] at z1; cases z1]; exact z2)
    refine (show ∀ v L' H', _ from gy) (.ref q) L' _ s2 w2 (c'.keep sm fun a j l _ e => ⟨rfl, upd_ne fun e' => by rw [e', e1] at e; cases e⟩) ?_
    refine own_newD (L0 := L) (H0 := H) w' e1 (fun f => f.1 hq) ?_ (ent_merge he .nil)
    have := length_mergeK kvs []
    rw [List.length_nil] at this
    rw [line_eq]; omega
  · rw [if_neg hc] at gy; exact gy.elim
theorem ex_dnew {κ α : Type} {kc : KeyC κ} {c : Cod α} {pos : Pos} : EX A G (.Dict [] [] pos) (rO (oD kc c)) (fun p => .ok ([], p)) := pe_weak pe_dnewK fun o H Q ⟨p, L, w, cr, k⟩ q hq => by
  obtain ⟨t1, t2⟩ := ext_new (o := .dK []) w hq
  exact k (.ref q) L _ t1.stp t2 (cr.ext w t1) (own_newD (L0 := L) (H0 := H) w (w.none hq) (fun f => f.1 hq) (Nat.zero_le _) .nil)
/-- x[k] = e, x a dict of one's own -/
def putO {κ α : Type} [DecidableEq κ] (xs : List (κ × α)) (k : κ) (v : α) : Option (List (κ × α)) := if xs.length < 16777216 then some (putD xs k v) else none
theorem sx_setD {κ α : Type} [DecidableEq κ] {kc : KeyC κ} {c : Cod α} {P : V → Prop} {i : Nat} {x : Str} {ek e : Expr} {p1 p2 pos : Pos} {g : CT G → List (κ × α)} {put : CT G → List (κ × α) → CT G} {fe : CT G → Res (α × CT G)} {fk : CT G → Res (κ × CT G)} (a : At G i (sOwn P (oD kc c)) g) (m : Mod G i (sOwn P (oD kc c)) put) (hN : A.X.N[i]? = some x) (hv : Vis A.X.env.scope x)
    (he : EX A G e (rV c) fe) (hk : EX A G ek (rV kc.c) fk) (hs : swapsWith e (some (.Subscript (.Name x p1) ek p2)) pos.line A.X.env = pure false) (hd : (x == ("__debug__" : Str)) = false := by decide) (hcd : (x == ("__classdict__" : Str)) = false := by decide) :
    SX A G (.Assign [.Subscript (.Name x p1) ek p2] e pos) G R (fun p => Res.bind (fe p) fun y => Res.bind (fk y.2) fun z => Res.bind (ofO (putO (g z.2) z.1 y.1)) fun xs => .ok (.nx (put z.2 xs))) := by
  refine ps_weak (ps_dput room1 (pe_var hN hv hd hcd) hk he hs) fun D o H ⟨p, L, w, cr, k⟩ => ⟨p, L, w, cr, k.bind.imp fun y _ gy v L1 H1 s1 w1 c1 r1 => ?_⟩
  obtain ⟨v0, _, ev, l0, vs0, e0, hm0, hp0, _⟩ := a.ok _ _ _ _ _ _ c1
  rw [Nat.zero_add] at ev
  subst e0
  refine ⟨.ref l0, ev, y.2, L1, w1, c1, (gy.bind.step s1).imp fun z _ gz vi L2 H2 s2 w2 c2 r2 => ?_⟩
  obtain ⟨xs, ex, gx⟩ := good_ofO gz
  obtain ⟨v1, hP, ev1, l, vs, e1, hm, hp, hl, hpp⟩ := a.ok _ _ _ _ _ _ c2
  rw [Nat.zero_add] at ev1 hm
  subst e1
  rw [ev] at ev1
  cases ev1
  unfold putO at ex
  have hlen := paired_len hpp
  have hll := line_eq
  have hL := sub_of hm
  by_cases hc : (g z.2).length < 16777216
  · rw [if_pos hc] at ex
    cases ex
    have hn : (putK vs (kc.key z.1) v).length ≤ sizeLine := by have := length_putK vs (kc.key z.1) v; omega
    refine ⟨l0, _, rfl, by rw [kc.is _ _ _ _ r2]; exact DPut.k (v := v) hp (by omega), ?_⟩
    have sm : Same (rd L2 H2) (rd L2 (upd H2 l0 (.dK (putK vs (kc.key z.1) v)))) := fun a ob qa => by
      obtain ⟨⟨l', z1⟩, z2⟩ := rd_of qa
      exact rd_mk z1 (by rw [upd_ne fun e => by rw [e, hL] at z1; cases z1]; exact z2)
    refine (show nxP A G R L H o D (.nx _) from gx) o L2 _ ((s1.trans s2).trans fun a f => ⟨rfl, upd_ne fun e => ?_⟩) ⟨fun a ha => ?_, fun a k' l' e => ?_⟩ (m.ok _ _ _ _ _ _ _ _ _ c2 sm (fun a j l' _ hj e => ⟨rfl, upd_ne fun e' => ?_⟩) ⟨.ref l0, hP, by rw [Nat.zero_add]; exact ev, l0, _, rfl, sub_mk (by rw [Nat.zero_add]; exact hL), upd_same, hn, ?_⟩) Keeps.refl
    · rcases f.2 with z | ⟨l', z⟩
      · rw [e, hL] at z; cases z
      · rw [e, hL] at z; cases z
    · by_cases ea : a = l0
      · rw [ea, upd_same]; simp
      · rw [upd_ne ea]; exact w2.dom a ha
    · by_cases ea : a = l0
      · rw [ea, hL] at e; cases e
        rw [ea, upd_same]
        trivial
      · rw [upd_ne ea]; exact w2.soft a k' l' e
    · rw [e', hL] at e
      have := (Prod.mk.inj (Option.some.inj e)).1
      omega
    · exact paired_mono (fun _ _ q => q.mono sm) (ent_put r2 (c.mono _ _ _ _ _ s2.rd r1) hpp)
  · rw [if_neg hc] at ex; cases ex

/-! ### instances -/
structure FldC (α : Type) where
  see : Frag → Hp → List (Str × V) → α → Prop
  mono : ∀ (K : Frag) (R R' : Hp) (fs : List (Str × V)) (x : α), Same R R' → see K R fs x → see K R' fs x
def fNil : FldC Unit := ⟨fun _ _ fs _ => fs = [], fun _ _ _ _ _ _ h => h⟩
def fSnoc {α β : Type} (fc : FldC α) (n : Str) (c : Cod β) : FldC (α × β) := ⟨fun K R fs x => ∃ fs' v, fs = fs' ++ [(n, v)] ∧ fc.see K R fs' x.1 ∧ c.see K R v x.2, fun K R R' fs x s ⟨fs', v, e, h1, h2⟩ => ⟨fs', v, e, fc.mono K R R' fs' _ s h1, c.mono K R R' v _ s h2⟩⟩
/-- an instance of the class at C that stays as it is -/
def cIns (C : Addr) {α : Type} (fc : FldC α) : Cod α := ⟨fun K R v x => ∃ a dx fs, v = .ref a ∧ R a = some (.ins C dx fs) ∧ fc.see K R fs x, fun K R R' v x s ⟨a, dx, fs, e, h1, h2⟩ => ⟨a, dx, fs, e, s _ _ h1, fc.mono K R R' fs x s h2⟩⟩
/-- the name is none of them -/
def NoKey {α : Type} (fc : FldC α) (n : Str) : Prop := ∀ K R fs x, fc.see K R fs x → (∀ e ∈ fs, e.1 ≠ n)
theorem nk_nil {n : Str} : NoKey fNil n := fun K R fs x h e he => by
  have h : fs = [] := h
  subst h
  cases he
theorem nk_snoc {α β : Type} {fc : FldC α} {n m : Str} {c : Cod β} (h : NoKey fc n) (hn : m ≠ n) : NoKey (fSnoc fc m c) n := fun K R fs x ⟨fs', v, e, h1, h2⟩ z hz => by
  subst e
  rcases List.mem_append.mp hz with q | q
  · exact h K R fs' _ h1 z q
  · have : z = (m, v) := by simpa using q
    rw [this]; exact hn
theorem look_none {n : Str} : ∀ {fs : List (Str × V)}, (∀ e ∈ fs, e.1 ≠ n) → fs.lookup n = none
  | [], _ => rfl
  | (k, v) :: fs, h => by
    have hk : (n == k) = false := beq_eq_false_iff_ne.mpr fun e => h (k, v) List.mem_cons_self e.symm
    simp only [List.lookup, hk]
    exact look_none fun e he => h e (List.mem_cons_of_mem _ he)
theorem look_snoc {n : Str} {v : V} : ∀ {fs : List (Str × V)}, (∀ e ∈ fs, e.1 ≠ n) → (fs ++ [(n, v)]).lookup n = some v
  | [], _ => by simp [List.lookup]
  | (k, w) :: fs, h => by
    have hk : (n == k) = false := beq_eq_false_iff_ne.mpr fun e => h (k, w) List.mem_cons_self e.symm
    rw [List.cons_append]
    simp only [List.lookup, hk]
    exact look_snoc fun e he => h e (List.mem_cons_of_mem _ he)
theorem look_app {n m : Str} {v : V} (hn : m ≠ n) : ∀ {fs : List (Str × V)}, (fs ++ [(m, v)]).lookup n = fs.lookup n
  | [] => by
    have hk : (n == m) = false := beq_eq_false_iff_ne.mpr fun e => hn e.symm
    show List.lookup n [(m, v)] = _
    simp only [List.lookup, hk]
  | (k, w) :: fs => by
    rw [List.cons_append]
    by_cases e : n = k
    · have hk : (n == k) = true := beq_iff_eq.mpr e
      simp only [List.lookup, hk]
    · have hk : (n == k) = false := beq_eq_false_iff_ne.mpr e
      simp only [List.lookup, hk]
      exact look_app hn
theorem put_snoc {n : Str} {v : V} : ∀ {fs : List (Str × V)}, (∀ e ∈ fs, e.1 ≠ n) → putF n v fs = fs ++ [(n, v)]
  | [], _ => rfl
  | (k, w) :: fs, h => by
    show (if k = n then (k, v) :: fs else (k, w) :: putF n v fs) = _
    rw [if_neg (h (k, w) List.mem_cons_self), put_snoc fun e he => h e (List.mem_cons_of_mem _ he)]
    rfl
/-- an attribute -/
def FPj {α β : Type} (fc : FldC α) (n : Str) (c : Cod β) (g : α → β) : Prop := ∀ K R fs x, fc.see K R fs x → ∃ v, fs.lookup n = some v ∧ c.see K R v (g x)
theorem fp_z {α β : Type} {fc : FldC α} {n : Str} {c : Cod β} (h : NoKey fc n) : FPj (fSnoc fc n c) n c Prod.snd := fun K R fs x ⟨fs', v, e, h1, h2⟩ => ⟨v, by rw [e]; exact look_snoc (h K R fs' _ h1), h2⟩
theorem fp_s {α β γ : Type} {fc : FldC α} {n m : Str} {c : Cod β} {d : Cod γ} {g : α → β} (h : FPj fc n c g) (hn : m ≠ n) : FPj (fSnoc fc m d) n c (fun x => g x.1) := fun K R fs x ⟨fs', v, e, h1, h2⟩ => by
  obtain ⟨u, e1, e2⟩ := h K R fs' _ h1
  exact ⟨u, by rw [e, look_app hn]; exact e1, e2⟩
theorem ex_fld {α β : Type} {C : Addr} {fc : FldC α} {n : Str} {c : Cod β} {gj : α → β} {e : Expr} {pos : Pos} {f : CT G → Res (α × CT G)} (cl : Cls A.X.K C) (na : NoAttr A.X.K C n) (hj : FPj fc n c gj) (h : EX A G e (rV (cIns C fc)) f) (hb : attributeBase e n A.X.env (eval e A.X.env) = eval e A.X.env := by rfl) :
    EX A G (.Attribute e n pos) (rV c) (fun p => Res.bind (f p) fun y => .ok (gj y.1, y.2)) :=
  pe_weak (pe_fld h hb) fun o H Q ⟨p, L, w, cr, k⟩ => run1 w cr k fun x p' v L' H' st w' c' rl gd => by
    obtain ⟨a, dx, fs, rfl, h1, h2⟩ := rl
    obtain ⟨u, e1, e2⟩ := hj _ _ _ _ h2
    exact ⟨a, C, dx, fs, u, rfl, rd_sub _ _ h1, cl, na, e1, (show ∀ v L' H', _ from gd) u L' H' st w' c' e2⟩
/-- the instance under way -/
abbrev sSelf (C : Addr) {α : Type} (P : V → Prop) (fc : FldC α) : Slot := ⟨α, fun K k x L H o => ∃ a dx fs, P (.ref a) ∧ o = some (some (.ref a)) ∧ L a = some (k + 1, [999]) ∧ H a = some (.ins C dx fs) ∧ fs.length < 900 ∧ fc.see K (rd L H) fs x,
  fun K k x L H L' H' o s t ⟨a, dx, fs, p, e, h1, h2, h3, h4⟩ => ⟨a, dx, fs, p, e, (t a _ h1).1.trans h1, (t a _ h1).2.trans h2, h3, fc.mono _ _ _ _ _ s h4⟩⟩
/-- self.n = e, e a value; a new attribute -/
theorem sx_fld {α β : Type} {C : Addr} {fc : FldC α} {n : Str} {c : Cod β} {i : Nat} {P : V → Prop} {x : Str} {e : Expr} {p1 p2 pos : Pos} {g : CT G → α} {put : CT G → α × β → CT G'} {fe : CT G → Res (β × CT G)} (a : At G i (sSelf C P fc) g) (hN : A.X.N[i]? = some x) (hv : Vis A.X.env.scope x) (cl : Cls A.X.K C) (na : NoAttr A.X.K C n) (nk : NoKey fc n)
    (mo : ∀ (K : Frag) (p : CT G) (y : α × β) (L : Lab) (H H' : Hp) (o : St), CR K 0 G p L H o → Same (rd L H) (rd L H') → (∀ a j l, j ≠ i → L a = some (j + 1, l) → H' a = H a) → (sSelf C P (fSnoc fc n c)).rel K i y L H' o[i]? → CR K 0 G' (put p y) L H' o)
    (hlen : ∀ K R fs x, fc.see K R fs x → fs.length < 800) (he : EX A G e (rV c) fe) (hs : swapsWith e (some (.Attribute (.Name x p1) n p2)) pos.line A.X.env = pure false) (hd : (x == ("__debug__" : Str)) = false := by decide) (hcd : (x == ("__classdict__" : Str)) = false := by decide) :
    SX A G (.Assign [.Attribute (.Name x p1) n p2] e pos) G' R (fun p => Res.bind (fe p) fun y => .ok (.nx (put y.2 (g y.2, y.1)))) :=
  ps_weak (ps_fld (pe_var hN hv hd hcd) he hs) fun D o H ⟨p, L, w, cr, k⟩ => ⟨p, L, w, cr, k.bind.imp fun y _ gy v L1 H1 s1 w1 c1 r1 => by
    obtain ⟨b, dx, fs, hP, eo, h1, h2, h3, h4⟩ := a.ok _ _ _ _ _ _ c1
    rw [Nat.zero_add] at eo h1
    refine ⟨.ref b, eo, b, C, dx, fs, rfl, h2, cl, na, by omega, ?_⟩
    have ep := put_snoc (v := v) (nk _ _ _ _ h4)
    rw [ep]
    have sm : Same (rd L1 H1) (rd L1 (upd H1 b (.ins C dx (fs ++ [(n, v)])))) := fun a ob qa => by
      obtain ⟨⟨l', z1⟩, z2⟩ := rd_of qa
      exact rd_mk z1 (by rw [upd_ne fun e => by rw [e, h1] at z1; cases z1]; exact z2)
    refine (show nxP A G' R L H o D (.nx _) from gy) o L1 _ (s1.trans fun a f => ⟨rfl, upd_ne fun e => ?_⟩) ⟨fun a ha => ?_, fun a k' l' e => ?_⟩ (mo _ _ _ _ _ _ _ c1 sm (fun a j l' hj e => upd_ne fun e' => ?_) ⟨b, dx, fs ++ [(n, v)], hP, eo, h1, upd_same, ?_, fs, v, rfl, fc.mono _ _ _ _ _ sm h4, c.mono _ _ _ _ _ sm r1⟩) Keeps.refl
    · rcases f.2 with z | ⟨l', z⟩
      · rw [e, h1] at z; cases z
      · rw [e, h1] at z; cases z
    · by_cases ea : a = b
      · rw [ea, upd_same]; simp
      · rw [upd_ne ea]; exact w1.dom a ha
    · by_cases ea : a = b
      · rw [ea, h1] at e; cases e
        rw [ea, upd_same]
        exact fun xs e => nomatch e
      · rw [upd_ne ea]; exact w1.soft a k' l' e
    · rw [e', h1] at e
      have := (Prod.mk.inj (Option.some.inj e)).1
      omega
    · have := hlen _ _ _ _ h4
      rw [List.length_append, List.length_singleton]
      omega⟩
end
end AC
set_option Elab.async false
set_option linter.all false
set_option maxRecDepth 100000
/-! TL14: instances made; repr; calls by keywords; lists of lists of one's own. -/
namespace AC
open PySem L2 PyProof

section
theorem mo_self {C : Addr} {α β : Type} {P : V → Prop} {fc : FldC α} {n : Str} {c : Cod β} {G : Ctx} (K : Frag) (p : CT (sSelf C P fc :: G)) (y : α × β) (L : Lab) (H H' : Hp) (o : St) (cr : CR K 0 (sSelf C P fc :: G) p L H o) (sm : Same (rd L H) (rd L H')) (h : ∀ a j l, j ≠ 0 → L a = some (j + 1, l) → H' a = H a)
    (r : (sSelf C P (fSnoc fc n c)).rel K 0 y L H' o[0]?) : CR K 0 (sSelf C P (fSnoc fc n c) :: G) ((fun p y => (y, p.2)) p y) L H' o :=
  ⟨r, cr.2.keep sm fun a j l hj e => ⟨rfl, h a j l (by omega) e⟩⟩
end

/-! ### __init__ -/
/-- what __init__ promises -/
def spN (K : Frag) (ca : Str → Addr) (C : Addr) {α β : Type} (as : ArgC α) (fc : FldC β) (F : α → Res β) : Sp := fun vs H Q E =>
  ∃ (a dx : Addr) (ws : List V) (x : α) (L : Lab), vs = .ref a :: ws ∧ Wf L H ∧ L a = some (1, [999]) ∧ H a = some (.ins C dx []) ∧ as.see K (rd L H) ws x ∧
    EndF K ca L H E (F x) fun y => ∀ (L' : Lab) (H' : Hp) (dx' : Addr) (fs : List (Str × V)), Stp L H L' H' → Wf L' H' → L' a = some (1, [999]) → H' a = some (.ins C dx' fs) → fc.see K (rd L' H') fs y → Q .non H'
def endX {β γ : Type} : Out (β × γ) Unit → Res β
  | .nx p => .ok p.1
  | .rt _ => .bad
abbrev endN {C : Addr} {β : Type} {P : V → Prop} {fc : FldC β} {G : Ctx} (x : Out (CT (sSelf C P fc :: G)) Unit) : Res β := endX (β := β) (γ := CT G) x
section
variable {P : Program} {w : World} {K : Frag} {mg : Str → Option Value} {base : Heap}
variable {x qual : Str} {params : Arguments} {body : List Stmt} {scope : Scope} {dvs : List V} {kws : List (Str × V)} {f : Addr} {fd : FuncData} {N ps : List Str} {k : Nat} {ca : Str → Addr}
theorem fn_N {α β : Type} {C : Addr} {as : ArgC α} {fc : FldC β} {G1 G' : Ctx} {ini : α → CT G1} {fb : ∀ v0 : V, Unit × CT G1 → Res (Out (CT (sSelf C (fun v => v = v0) fc :: G')) Unit)} {F : α → Res β} (F0 : FunD K x qual params body scope dvs kws f fd) (S : FnScope N ps scope) (hn : as.n + 1 = ps.length)
    (h0 : ∀ L H v0 ws y, Wf L H → as.see K (rd L H) ws y → CR K 1 G1 (ini y) L H (start N (v0 :: ws)))
    (hB : ∀ v0 nd cd A outer s H E hr hgd, BX (ambOf P w K mg base ca N nd k qual scope f cd A outer s H E hr hgd) (sSelf C (fun v => v = v0) fNil :: G1) body (sSelf C (fun v => v = v0) fc :: G') (rrP (rV cN)) (fb v0)) (hF : ∀ v0 y, F y = Res.bind (fb v0 ((), ini y)) endN) : FnG P w K mg base (k + 1) f fd ps (spN K ca C as fc F) := by
  refine fn_G F0 S (fun vs H Q E ⟨a, dx, ws, y, L, e, _, _, _, h, _⟩ => by rw [e, List.length_cons, as.len _ _ _ _ h, hn]) fun cd A outer s H vs Q E hgd hr ⟨a, dx, ws, y, L, e, wf, hL, hH, h, q⟩ => ?_
  subst e
  refine ⟨_, hB (.ref a) S.nd cd A outer s H E hr hgd, ((), ini y), L, wf, ⟨⟨a, dx, [], rfl, rfl, hL, hH, by decide, rfl⟩, h0 L H _ ws y wf h⟩, ?_⟩
  rw [hF (.ref a) y] at q
  cases e : fb (.ref a) ((), ini y) with
  | bad => rw [e] at q; exact q
  | exc ex =>
    rw [e] at q
    exact fun cls d H' hz o' _ => (show ∀ cls d H', _ from q) cls d H' hz
  | ok z =>
    rw [e] at q
    cases z with
    | rt y' => exact q.elim
    | nx p' =>
      intro o' L' H' st w' cr _
      obtain ⟨b, dx', fs, hb, _, h1, h2, _, h4⟩ := cr.1
      cases hb
      exact (show ∀ L' H' dx' fs, _ from q) L' H' dx' fs st w' h1 h2 h4
end
/-- a class by its name -/
structure ClsG (K : Frag) (mg : Str → Option Value) (x : Str) (C : Addr) : Prop where
  mg : mg x = some (.ref C)
  cls : Cls K C
/-- a class that is made by its __init__ -/
structure MakG (P : Program) (w : World) (K : Frag) (mg : Str → Option Value) (base : Heap) (k : Nat) (x : Str) (C : Addr) (ps : List Str) (sp : Sp) : Prop where
  ex : ∃ f fd, FnG P w K mg base k f fd ps sp ∧ Binds K fd ps [] ∧ Mk K C f
  mg : mg x = some (.ref C)
section
variable {A : Amb} {G G' : Ctx} {ρ : Type} {R : Rr ρ}
abbrev MakA (A : Amb) (k : Nat) (x : Str) (C : Addr) (ps : List Str) (sp : Sp) : Prop := MakG A.X.prog A.X.w A.X.K A.X.mg A.X.base k x C ps sp
/-- the instance is made and given to its __init__ -/
theorem run_mk {k : Nat} {C : Addr} {f : Addr} {fd : FuncData} {ps : List Str} {sp : Sp} (M : Mk A.X.K C f) (F : FnG A.X.prog A.X.w A.X.K A.X.mg A.X.base k f fd ps sp) (hk : k + 1 ≤ A.lv) {pins : List (Addr × Obj)} {o : St} {H : Hp} {s : Shared} {Q : VK} {us us' : List Value} {vs' : List V} {kw : List (Str × Value)} (I : Inv A.X pins o H s)
    (h : ∀ x dx, H x = none → H dx = none → dx ≠ x → sp (.ref x :: vs') (upd (upd H dx (.own x)) x (.ins C dx [])) (fun v H2 => v = .non ∧ Q (.ref x) H2) (WE A.W o)) (hv : Vals vs' us')
    (hb : ∀ (s2 : Shared) (z : Value), A.X.K.In s2.heap → (z :: us').length = ps.length → BindsTo s2 fd ⟨z :: us, kw⟩ (ps.zip (z :: us'))) :
    wpAny (model A.X.prog A.X.w) A.X.A (call (.ref C) us kw) (EP A.X pins o Q) A.X.xe s := by
  have h1 := h (s.heap.objs.size + 1) s.heap.objs.size (I.hok.fresh (Nat.le_succ _)) (I.hok.fresh (Nat.le_refl _)) (Nat.ne_of_lt (Nat.lt_succ_self _))
  have J := Inv.made (C := C) I
  have rv : Vals (V.ref (s.heap.objs.size + 1) :: vs') (Value.ref (s.heap.objs.size + 1) :: us') := .cons rfl hv
  have hgu : (A.X.A.under (.builtin "type.__call__" ⟨.ref C :: us, kw⟩)).guards = some [] := by
    first
      | (simp [Around.under, A.gd, pushGuards, Code.guards, Code.isGuard, guardIds])
      | (unfold Around.under; simp only; rw [A.gd]; decide)
  refine wpAny_call (make_map (f := f) I.kIn M.makes M.init (beq_iff_eq.mp M.fn) (codeAny_mono (F.go _ A.X.stack _ _ ⟨Value.ref (s.heap.objs.size + 1) :: us, kw⟩ (Value.ref (s.heap.objs.size + 1) :: us') _ _ (WE A.W o) hgu ((A.room.mono hk).make C us kw)
    (J.env0.make C us kw) (hb _ _ J.kIn (rv.length.symm.trans (F.len _ _ _ _ h1))) rv h1) fun y s' hq => ?_))
  rcases y with e | fl
  · exact passAt A.tk o pins _ _ e s' J hq
  · rcases fl with _ | _ | _ | u
    · exact False.elim hq
    · exact False.elim hq
    · exact False.elim hq
    · obtain ⟨v, H', J', ru, ev, q3⟩ := J.after hq
      subst ev
      exact ⟨ru, V.ref (s.heap.objs.size + 1), H', J', rfl, q3⟩
theorem make_reads {α β : Type} {C : Addr} {as : ArgC α} {fc : FldC β} {F : α → Res β} {L : Lab} {H : Hp} {o : St} {vs : List V} {y : α} {p : CT G} {Q : VK} {Pg : β → Prop} (w : Wf L H) (cr : CR A.X.K 0 G p L H o) (h1 : as.see A.X.K (rd L H) vs y)
    (gy : Good A (F y) L H o fun z => ∀ v L' H', Stp L H L' H' → Wf L' H' → CR A.X.K 0 G p L' H' o → (cIns C fc).see A.X.K (rd L' H') v z → Q v H') (x dx : Addr) (hx : H x = none) (hdx : H dx = none) (hne : dx ≠ x) :
    spN A.X.K A.ca C as fc F (.ref x :: vs) (upd (upd H dx (.own x)) x (.ins C dx [])) (fun v H2 => v = .non ∧ Q (.ref x) H2) (WE A.W o) := by
  generalize hH2 : upd (upd H dx (.own x)) x (.ins C dx []) = H2
  have k2 : ∀ a, H a ≠ none → H2 a = H a := fun a ha => by
    rw [← hH2, upd_ne fun e => ha (by rw [e]; exact hx), upd_ne fun e => ha (by rw [e]; exact hdx)]
  have kx : H2 x = some (.ins C dx []) := by rw [← hH2, upd_same]
  have lx := w.none hx
  have ws : Wf (strip L) H := wf_strip w
  have w2 : Wf (setL (strip L) x (1, [999])) H2 := ⟨fun a ha => by
    by_cases e : a = x
    · rw [e, kx]; simp
    · rw [setL_ne e] at ha
      rw [k2 a (ws.dom a ha)]; exact ws.dom a ha, fun a k l e => by
    by_cases ea : a = x
    · rw [ea, setL_same] at e
      cases e
      rw [ea, kx]
      exact fun xs e => nomatch e
    · rw [setL_ne ea] at e
      exact absurd (strip_of e).1 (by omega)⟩
  have r2 : Same (rd L H) (rd (setL (strip L) x (1, [999])) H2) := fun a ob q => by
    rw [← rd_strip] at q
    obtain ⟨⟨l, e1⟩, e2⟩ := rd_of q
    have ha : H a ≠ none := by rw [e2]; simp
    exact rd_mk ((setL_ne fun e => ha (by rw [e]; exact hx)).trans e1) ((k2 a ha).trans e2)
  have fr : ∀ a, H a ≠ none → Frm (setL (strip L) x (1, [999])) H2 a ∧ setL (strip L) x (1, [999]) a = strip L a := fun a ha => by
    have ne : a ≠ x := fun e => ha (by rw [e]; exact hx)
    have := frm_strip (L := L) ha
    exact ⟨⟨by rw [k2 a ha]; exact ha, by rw [setL_ne ne]; exact this.2⟩, setL_ne ne⟩
  refine ⟨x, dx, vs, y, _, rfl, w2, setL_same, kx, as.mono _ _ _ _ _ r2 h1, ?_⟩
  cases e : F y with
  | bad => rw [e] at gy; exact gy.elim
  | exc ex =>
    rw [e] at gy
    intro cls d H' hz
    obtain ⟨z1, z2, z3, v, z4, R', z5, z6, z7, z8⟩ := hz
    refine (show A.raises ex L H o from gy) cls d H' ⟨z1, fun a f => (z2 a (fr a f.1).1).trans (k2 a f.1), fun f => z3 (fr d f.1).1, v, z4, R', z5, fun a ob q => z6 a ob (r2 a ob q), fun a ob q => ?_, z8⟩ o fun _ _ => rfl
    rcases z7 a ob q with u | u
    · by_cases f : Frm L H a
      · left
        obtain ⟨⟨l, e1⟩, e2⟩ := rd_of u
        rw [(fr a f.1).2] at e1
        rw [k2 a f.1] at e2
        exact rd_mk (strip_of e1).2 e2
      · exact .inr f
    · exact .inr fun f => u (fr a f.1).1
  | ok z =>
    rw [e] at gy
    intro L' H' dx' fs s' w' l1 h2 h4
    refine ⟨rfl, ?_⟩
    generalize hLn : (fun a => if a = x then some ((0, []) : Nat × List Nat) else unstrip L L' a) = Ln
    have lnx : Ln x = some (0, []) := by rw [← hLn]; exact if_pos rfl
    have lno : ∀ a, a ≠ x → Ln a = unstrip L L' a := fun a e => by rw [← hLn]; exact if_neg e
    have old : ∀ a, H a ≠ none → a ≠ x ∧ L' a = strip L a ∧ H' a = H a := fun a ha => by
      obtain ⟨f1, f2⟩ := fr a ha
      obtain ⟨g1, g2⟩ := s' a f1
      exact ⟨fun e => ha (by rw [e]; exact hx), g1.trans f2, g2.trans (k2 a ha)⟩
    have ex : Ext L H Ln H' := fun a ha => by
      obtain ⟨g0, g1, g2⟩ := old a ha
      refine ⟨?_, g2⟩
      rw [lno a g0]
      cases e : L a with
      | none => rw [un_n e, strip_n (g1.trans (strip_n e))]
      | some z =>
        obtain ⟨j, m⟩ := z
        cases j with
        | zero => rw [un_0 e, strip_0 (g1.trans (strip_0 e))]
        | succ j => rw [un_s e]
    have key : ∀ a k l, a ≠ x → Ln a = some (k, l) → (∃ k', k = k' + 1 ∧ L a = some (k, l)) ∨ (k = 0 ∧ L' a = some (0, l)) := fun a k l ne e => by
      rw [lno a ne] at e
      cases e' : L a with
      | none => rw [un_n e'] at e; exact .inr (strip_of e)
      | some z =>
        obtain ⟨j, m⟩ := z
        cases j with
        | zero => rw [un_0 e'] at e; exact .inr (strip_of e)
        | succ j => rw [un_s e'] at e; cases e; exact .inl ⟨j, rfl, rfl⟩
    have wn : Wf Ln H' := ⟨fun a ha => by
      by_cases ea : a = x
      · rw [ea, h2]; simp
      · cases e : Ln a with
        | none => exact absurd e ha
        | some z =>
          obtain ⟨k, l⟩ := z
          rcases key a k l ea e with ⟨_, _, u⟩ | ⟨_, u⟩
          · have hh := w.dom a (by rw [u]; simp)
            rw [(old a hh).2.2]; exact hh
          · exact w'.dom a (by rw [u]; simp), fun a k l e => by
      by_cases ea : a = x
      · rw [ea, lnx] at e; cases e
      · rcases key a _ l ea e with ⟨_, _, u⟩ | ⟨u, _⟩
        · have hh := w.dom a (by rw [u]; simp)
          rw [(old a hh).2.2]; exact w.soft a k l u
        · omega⟩
    have rn : Same (rd L' H') (rd Ln H') := fun a ob q => by
      obtain ⟨⟨l, e1⟩, e2⟩ := rd_of q
      have ne : a ≠ x := fun e => by rw [e, l1] at e1; cases e1
      by_cases ha : H a = none
      · refine rd_mk (l := l) ?_ e2
        rw [lno a ne, un_n (w.none ha), strip_0 e1]
      · obtain ⟨g0, g1, g2⟩ := old a ha
        refine rd_mk (l := l) ?_ e2
        rw [(ex a ha).1]
        exact (strip_of (g1.symm.trans e1)).2
    exact (show ∀ v L' H', _ from gy) (.ref x) Ln H' ex.stp wn (cr.ext w ex) ⟨x, dx', fs, rfl, rd_mk lnx h2, fc.mono _ _ _ _ _ rn h4⟩
theorem ex_make {α β : Type} {C : Addr} {as : ArgC α} {fc : FldC β} {F : α → Res β} {k : Nat} {ps : List Str} {x : Str} {p pos : Pos} {e : Expr} {es : List Expr} {fa : CT G → Res (α × CT G)} (D : MakA A k x C ps (spN A.X.K A.ca C as fc F)) (hk : k + 1 ≤ A.lv) (gl : Gl A.X x) (ha : AX A G (e :: es) as fa)
    (hdb : (x == ("__debug__" : Str)) = false := by decide) (he : starEach (e :: es) A.X.env = (false, eval e A.X.env) :: starEach es A.X.env := by rfl) (hpl : (backTo pos (starEach es A.X.env)).any (·.1) = false := by rfl) :
    EX A G (.Call (.Name x p) (e :: es) [] pos) (rV (cIns C fc)) (fun p => Res.bind (fa p) fun y => Res.bind (F y.1) fun z => .ok (z, y.2)) := by
  obtain ⟨f, fd, F1, hb, M⟩ := D.ex
  refine ⟨fun pins s o H Q I ⟨p, L, w, cr, q⟩ => wpAny_Call_Name_kw (ld_glob I gl D.mg (PySem.W.callWith_K (h₀ := A.X.base) I.ok.mod.kin M.kp ?_ he hpl) hdb)⟩
  have hA : tA A G as fa o H fun vs H1 => ∀ x dx, H1 x = none → H1 dx = none → dx ≠ x → spN A.X.K A.ca C as fc F (.ref x :: vs) (upd (upd H1 dx (.own x)) x (.ins C dx [])) (fun v H2 => v = .non ∧ Q (.ref x) H2) (WE A.W o) :=
    ⟨p, L, w, cr, q.bind.imp fun y _ gy vs L1 H1 s1 w1 c1 h1 => make_reads (F := F) (Pg := fun _ => True) w1 c1 h1 ((gy.bind.step s1).imp fun z _ gz v L2 H2 s2 w2 c2 r2 => gz v L2 H2 (s1.trans s2) w2 c2 r2)⟩
  refine thn (ha.run pos pins s o H _ I hA) fun us s1 ⟨vs, H1, I1, rv, hsp⟩ => ⟨I1.kIn, ?_⟩
  exact run_mk (us' := us) M F1 hk I1 hsp rv fun s2 z kin hl => by
    have b := hb s2 (z :: us) kin (by rw [List.append_nil]; exact hl)
    rw [List.append_nil] at b
    exact b

/-! ### repr -/
/-- a text of which only its signs count -/
def cW : Cod Str := ⟨fun _ _ v x => v = .str x, fun _ _ _ _ _ _ h => h⟩
theorem ot_eqW : OpT A (compareOp .Eq) cW cW (fun x y => some (decide (x = y))) (rV cB) := op_of op_eq fun L H vx vy x y z Q w h1 h2 h3 q => by
  cases h1; cases h2; cases h3; exact ⟨rfl, q _ (by show V.bl _ = V.bl _; simp)⟩
theorem ot_neW : OpT A (compareOp .NotEq) cW cW (fun x y => some (!decide (x = y))) (rV cB) := op_of op_ne fun L H vx vy x y z Q w h1 h2 h3 q => by
  cases h1; cases h2; cases h3; exact ⟨rfl, q _ (by show V.bl _ = V.bl _; simp)⟩
def reprO (d : PyData) : Option Str := if d.showable = true ∧ d.hasDict = false ∧ d.shown.length ≤ sizeLine then some d.shown else none
theorem call_reprD : CallR A.X (.builtin "repr") (fun xs H Q => ∃ a d, xs = [.ref a] ∧ Dp A.X.K H (.ref a) d ∧ d.showable = true ∧ d.hasDict = false ∧ d.shown.length ≤ sizeLine ∧ d.depth ≤ 64 ∧ Q (.str d.shown) H) := by
  intro pins s o H xs us Q I rx ⟨a, d, ex, hd, h1, h2, h3, h4, q⟩
  subst ex
  cases rx with
  | cons r t =>
    cases t
    cases r
    obtain ⟨as, rr⟩ := Dp.reads I d _ _ hd rfl
    refine repr_of_reads' rr h1 (fun e => by rw [h2] at e; cases e) A.gd (by have := A.room.un; omega) (fun b ob e => e) (fun h' u tk hk => ?_) h3
    exact ⟨.str d.shown, H, I.kept (h' := h') (t' := tk) hk, ⟨_, rfl⟩, q⟩
theorem ct_repr {α : Type} {c : Cod α} {t : α → PyData} {n : Nat} (h : DC c t n) (hn : n ≤ 64) (hr : ∀ K R v x, c.see K R v x → ∃ a, v = .ref a) : CalT A (.builtin "repr") (aOne c) (fun x => reprO (t x)) (rV cW) := cal_of call_reprD fun L H vs x z Q w ⟨v, e, h1⟩ h2 q => by
  subst e
  obtain ⟨a, rfl⟩ := hr _ _ _ _ h1
  obtain ⟨d1, d2, d3⟩ := h _ _ _ _ h1
  unfold reprO at h2
  split at h2
  · rename_i hc
    cases h2
    exact ⟨a, t x, rfl, dp_same rd_sub d1, hc.1, hc.2.1, hc.2.2, by omega, q _ rfl⟩
  · cases h2
theorem rf_l {α : Type} {c : Cod α} : ∀ K R v x, (cL c).see K R v x → ∃ a, v = .ref a := fun K R v x ⟨a, vs, e, _⟩ => ⟨a, e⟩
theorem rf_h {α : Type} {as : ArgC α} : ∀ K R v x, (cH as).see K R v x → ∃ a, v = .ref a := fun K R v x ⟨a, vs, e, _⟩ => ⟨a, e⟩
theorem rf_t {α : Type} {as : ArgC α} : ∀ K R v x, (cT as).see K R v x → ∃ a, v = .ref a := fun K R v x ⟨a, vs, e, _⟩ => ⟨a, e⟩
theorem rf_tv {α : Type} {c : Cod α} : ∀ K R v x, (cTV c).see K R v x → ∃ a, v = .ref a := fun K R v x ⟨a, vs, e, _⟩ => ⟨a, e⟩

/-! ### calls by keywords alone -/
theorem tk_run {kws : List Keyword} {α : Type} {as : ArgC α} {f : CT G → Res (α × CT G)} : True := trivial
/-- the keywords' values -/
def KWX (A : Amb) (G : Ctx) (kws : List Keyword) {α : Type} (as : ArgC α) (f : CT G → Res (α × CT G)) : Prop := PK A.X kws (tA A G as f)
theorem pk_weak {X : Cx} {kws : List Keyword} {t t' : L2.TA} (h : PK X kws t) (i : ∀ o H Q, t' o H Q → t o H Q) : PK X kws t' := ⟨fun pos pins s o H Q I q => h.run pos pins s o H Q I (i _ _ _ q)⟩
theorem kw_one {α : Type} {c : Cod α} {e : Expr} {nm : Option Str} {kp : Pos} {f : CT G → Res (α × CT G)} (h : EX A G e (rV c) f) : KWX A G [⟨nm, e, kp⟩] (aOne c) f :=
  pk_weak (pk_cons h pk_nil) fun o H Q ⟨p, L, w, cr, kk⟩ => ⟨p, L, w, cr, kk.imp fun y _ q v L' H' s w' c' rl => q [v] L' H' s w' c' ⟨v, rfl, rl⟩⟩
theorem kw_cons {α β : Type} {c : Cod α} {as : ArgC β} {e : Expr} {nm : Option Str} {kp : Pos} {kws : List Keyword} {f : CT G → Res (α × CT G)} {g : CT G → Res (β × CT G)} (h : EX A G e (rV c) f) (hr : KWX A G kws as g) : KWX A G (⟨nm, e, kp⟩ :: kws) (aCons c as) (fun p => Res.bind (f p) fun y => Res.bind (g y.2) fun z => .ok ((y.1, z.1), z.2)) :=
  pk_weak (pk_cons h hr) fun o H Q q => ax_core (as := as) (bs := aCons c as) (m := Prod.mk) (fun K R v vs x y h1 h2 => ⟨v, vs, rfl, h1, h2⟩) q
/-- f(k = e, ..): bindings as the def's text has them -/
theorem ex_calK0 {α β : Type} {as : ArgC α} {r : Rt β} {F : α → Res β} {k : Nat} {f : Addr} {fd : FuncData} {ps ks : List Str} {x : Str} {p pos : Pos} {kws : List Keyword} {fa : CT G → Res (α × CT G)} (F1 : FnG A.X.prog A.X.w A.X.K A.X.mg A.X.base k f fd ps (spP A.X.K A.ca as r F)) (hk : k ≤ A.lv) (gl : Gl A.X x) (hm : A.X.mg x = some (.ref f)) (kp : PySem.W.keepIn A.X.K (.ref f) = true)
    (hb : ∀ (s : Shared) (us : List Value), A.X.K.In s.heap → us.length = ks.length → BindsTo s fd ⟨[], ks.zip us⟩ (ps.zip us)) (hr : RtOk r) (ha : KWX A G kws as fa) (hl : as.n = ks.length) (hall : (backToKw pos (keywordEach kws A.X.env)).all (·.1.isSome) = true := by rfl) (hks : (backToKw pos (keywordEach kws A.X.env)).filterMap (·.1) = ks := by rfl)
    (hdb : (x == ("__debug__" : Str)) = false := by decide) (hpl : (backToKw pos (keywordEach kws A.X.env)).any (·.1.isNone) = false := by rfl) :
    EX A G (.Call (.Name x p) [] kws pos) r (fun p => Res.bind (fa p) fun y => Res.bind (F y.1) fun z => .ok (z, y.2)) := by
  refine ⟨fun pins s o H Q I q => wpAny_Call_Name_kw (ld_glob I gl hm (PySem.W.callWith_KW0 (h₀ := A.X.base) I.ok.mod.kin kp hall ?_ hpl) hdb)⟩
  have hA := call_reads (as := as) hr q
  obtain ⟨p0, L, w, cr, kk⟩ := hA
  have hB : tA A G as fa o H fun vs H1 => vs.length = ks.length ∧ spP A.X.K A.ca as r F vs H1 Q (WE A.W o) := ⟨p0, L, w, cr, kk.imp fun y _ g vs L' H' s' w' c' hv => ⟨(as.len _ _ _ _ hv).trans hl, g vs L' H' s' w' c' hv⟩⟩
  refine thn (ha.run pos pins s o H _ I hB) fun ws s1 ⟨vs, H1, I1, rv, hn, hsp⟩ => ⟨I1.kIn, ?_⟩
  rw [hks]
  exact callAtK F1 hk I1 (hb s1 ws I1.kIn (rv.length.symm.trans hn)) rv hsp
end
end AC
set_option Elab.async false
set_option linter.all false
set_option maxRecDepth 100000
/-! TL15: data; lists of lists of one's own. -/
namespace AC
open PySem L2 PyProof

/-- any data of bounded depth -/
def cDat (n : Nat) : Cod PyData := ⟨fun K R v d => Dp K R v d ∧ d.canLay0 = true ∧ d.depth ≤ n, fun K R R' v d s h => ⟨dp_same s h.1, h.2⟩⟩
theorem dc_dat {n : Nat} : DC (cDat n) id n := fun K R v x h => h
theorem sub_dat {α : Type} {c : Cod α} {t : α → PyData} {n : Nat} (h : DC c t n) : Sub c (cDat n) t := fun K R v x q => h K R v x q
def SubO {α β : Type} (c : OCod α) (d : OCod β) (g : α → β) : Prop := ∀ K R M H l v x, c.own K R M H l v x → d.own K R M H l v (g x)
theorem subo_l {α β : Type} {c : Cod α} {d : Cod β} {g : α → β} (s : Sub c d g) : SubO (oL c) (oL d) (List.map g) := fun K R M H l v x ⟨p, vs, e, h1, h2, h3, h4⟩ => ⟨p, vs, e, h1, h2, h3, paired_iff_map (fun _ _ q => s K R _ _ q) h4⟩
section
variable {A : Amb} {G G' : Ctx} {ρ : Type} {R : Rr ρ}
theorem ex_subO {α β : Type} {c : OCod α} {d : OCod β} {g : α → β} {e : Expr} {f : CT G → Res (α × CT G)} (s : SubO c d g) (h : EX A G e (rO c) f) : EX A G e (rO d) (fun p => Res.bind (f p) fun y => .ok (g y.1, y.2)) :=
  pe_weak h fun o H Q ⟨p, L, w, cr, k⟩ => run1 w cr k fun x p' v L' H' st w' c' ⟨M, h1, h2⟩ gd => gd v L' H' st w' c' ⟨M, h1, s _ _ _ _ _ _ _ h2⟩
end

/-- a list of things of one's own -/
def oLL {α : Type} (oc : OCod α) : OCod (List α) := ⟨fun K R M H l v xs => ∃ p vs, v = .ref p ∧ M p = some l ∧ H p = some (.lst vs) ∧ vs.length ≤ sizeLine ∧ vs.length = xs.length ∧ ∀ i v x, vs[i]? = some v → xs[i]? = some x → oc.own K R M H (0 :: i :: l) v x,
  fun K R R' M M' H H' l v x s t ⟨p, vs, e, hm, hp, hl, hn, h'⟩ => ⟨p, vs, e, (t p l hm).1, (t p l hm).2.trans hp, hl, hn, fun i v x h1 h2 => oc.mono _ _ _ _ _ _ _ _ _ _ s t (h' i v x h1 h2)⟩⟩
/-- paths may be longer -/
def ShO {α : Type} (oc : OCod α) : Prop := ∀ K R M H m v x l, oc.own K R M H m v x → oc.own K R (fun a => (M a).map (· ++ l)) H (m ++ l) v x
theorem sh_l {α : Type} {c : Cod α} : ShO (oL c) := fun K R M H m v x l ⟨p, vs, e, h1, h2, h3, h4⟩ => ⟨p, vs, e, by show (M p).map (· ++ l) = _; rw [h1]; rfl, h2, h3, h4⟩
theorem sh_d {κ α : Type} {kc : KeyC κ} {c : Cod α} : ShO (oD kc c) := fun K R M H m v x l ⟨p, vs, e, h1, h2, h3, h4⟩ => ⟨p, vs, e, by show (M p).map (· ++ l) = _; rw [h1]; rfl, h2, h3, h4⟩
theorem sh_ll {α : Type} {oc : OCod α} (h : ShO oc) : ShO (oLL oc) := fun K R M H m v x l ⟨p, vs, e, h1, h2, h3, h4, h5⟩ => ⟨p, vs, e, by show (M p).map (· ++ l) = _; rw [h1]; rfl, h2, h3, h4, fun i v x q1 q2 => h K R M H _ v x l (h5 i v x q1 q2)⟩
theorem paired_of_get {α β : Type} {F : α → β → Prop} : ∀ {l : List α} {m : List β}, l.length = m.length → (∀ (i : Nat) (x : α) (y : β), l[i]? = some x → m[i]? = some y → F x y) → Paired F l m
  | [], [], _, _ => .nil
  | x :: l, y :: m, hl, h => .cons (h 0 x y rfl rfl) (paired_of_get (by simpa using hl) fun i x y h1 h2 => h (i + 1) x y (by simpa using h1) (by simpa using h2))
/-- frozen at any path -/
def FrzP {α : Type} (o : OCod α) (c : Cod α) : Prop := ∀ K R R' M H l v x, insL l = false → Same R R' → (∀ a m, M a = some m → insL m = false → R' a = H a) → o.own K R M H l v x → c.see K R' v x
theorem frzp_l {α : Type} {c : Cod α} : FrzP (oL c) (cL c) := fun K R R' M H l v x hl s t ⟨p, vs, e, hm, hp, hz, h'⟩ => ⟨p, vs, e, (t p _ hm hl).trans hp, hz, paired_mono (fun _ _ q => c.mono _ _ _ _ _ s q) h'⟩
theorem frzp_d {κ α : Type} {kc : KeyC κ} {c : Cod α} : FrzP (oD kc c) (cD kc c) := fun K R R' M H l v x hl s t ⟨p, vs, e, hm, hp, hz, h'⟩ => ⟨p, vs, e, (t p _ hm hl).trans hp, hz, paired_mono (fun _ _ q => q.mono s) h'⟩
theorem frzp_ll {α : Type} {oc : OCod α} {c : Cod α} (h : FrzP oc c) : FrzP (oLL oc) (cL c) := fun K R R' M H l v x hl s t ⟨p, vs, e, hm, hp, hz, hn, h'⟩ => ⟨p, vs, e, (t p _ hm hl).trans hp, hz, paired_of_get hn fun i v y q1 q2 => h K R R' M H _ v y rfl s t (h' i v y q1 q2)⟩
theorem frz_p {α : Type} {oc : OCod α} {c : Cod α} (h : FrzP oc c) : Frz oc c := fun K R R' M H v x s t q => h K R R' M H [] v x rfl s t q
theorem frz_ll {α : Type} {oc : OCod α} {c : Cod α} (h : FrzP oc c) : Frz (oLL oc) (cL c) := frz_p (frzp_ll h)
theorem ho_ll {α : Type} {oc : OCod α} (h : HardO oc) : HardO (oLL oc) := fun K R1 R2 M H l v x s ⟨p, vs, e, hm, hp, hl, hn, q⟩ => ⟨p, vs, e, hm, hp, hl, hn, fun i v x h1 h2 => h _ _ _ _ _ _ _ _ s (q i v x h1 h2)⟩

section
variable {A : Amb} {G G' : Ctx} {ρ : Type} {R : Rr ρ}
/-- some results of one's own in a row, paths from k on -/
def ROs {α : Type} (oc : OCod α) (k : Nat) (K : Frag) (L : Lab) (H : Hp) (L' : Lab) (H' : Hp) (vs : List V) (xs : List α) : Prop :=
  ∃ M : Addr → Option (List Nat), (∀ a m, M a = some m → L' a = none ∧ NonTup m (H' a) ∧ ¬ Frm L H a ∧ m.length ≥ 2) ∧ vs.length = xs.length ∧ ∀ i v x, vs[i]? = some v → xs[i]? = some x → oc.own K (rd L' H') M H' [0, k + i] v x
def tAO (A : Amb) {α : Type} (G : Ctx) (oc : OCod α) (k n : Nat) (f : CT G → Res (List α × CT G)) : L2.TA := fun o H Q =>
  ∃ (p : CT G) (L : Lab), Wf L H ∧ CR A.X.K 0 G p L H o ∧ Good A (f p) L H o fun y => ∀ (vs : List V) (L' : Lab) (H' : Hp), Stp L H L' H' → Wf L' H' → CR A.X.K 0 G y.2 L' H' o → vs.length = n → ROs oc k A.X.K L H L' H' vs y.1 → Q vs H'
def AXO (A : Amb) (G : Ctx) (es : List Expr) {α : Type} (oc : OCod α) (k n : Nat) (f : CT G → Res (List α × CT G)) : Prop := PA A.X es (tAO A G oc k n f)
theorem axo_nil {α : Type} {oc : OCod α} {k : Nat} : AXO A G [] oc k 0 (fun p => .ok ([], p)) := pa_weak pa_nil fun o H Q ⟨p, L, w, cr, kk⟩ => kk [] L H Stp.refl w cr rfl ⟨fun _ => none, fun a m e => absurd (show (none : Option (List Nat)) = some m from e) (by simp), rfl, fun i v x e => by simp at e⟩
theorem axo_cons {α : Type} {oc : OCod α} {k n : Nat} {e : Expr} {es : List Expr} {f : CT G → Res (α × CT G)} {g : CT G → Res (List α × CT G)} (sh : ShO oc) (h : EX A G e (rO oc) f) (hr : AXO A G es oc (k + 1) n g) (hs : starEach (e :: es) A.X.env = (false, eval e A.X.env) :: starEach es A.X.env := by rfl) :
    AXO A G (e :: es) oc k (n + 1) (fun p => Res.bind (f p) fun y => Res.bind (g y.2) fun z => .ok (y.1 :: z.1, z.2)) :=
  pa_weak (pa_cons h hr hs) fun o H Q ⟨p, L, w, cr, kk⟩ => by
    refine run1 w cr kk fun x p1 v L1 H1 s1 w1 c1 r1 g1 => ⟨p1, L1, w1, c1, g1.bind.imp fun z _ gz vs L2 H2 s2 w2 c2 hn r2 => ?_⟩
    obtain ⟨M1, m1, o1⟩ := r1
    obtain ⟨M2, m2, l2, o2⟩ := r2
    have f1 : ∀ a m, M1 a = some m → L2 a = none ∧ H2 a = H1 a ∧ Frm L1 H1 a := fun a m em => by
      obtain ⟨q1, q2, q3⟩ := m1 a m em
      have f : Frm L1 H1 a := ⟨q2.ne, .inl q1⟩
      exact ⟨(s2 a f).1.trans q1, (s2 a f).2, f⟩
    have n2 : ∀ a m, M2 a = some m → M1 a = none := fun a m em => by
      cases e : M1 a with
      | none => rfl
      | some m' => exact absurd (f1 a m' e).2.2 (m2 a m em).2.2.1
    refine gz (v :: vs) L2 H2 (s1.trans s2) w2 c2 (by rw [List.length_cons, hn]) ⟨fun a => match M1 a with | some m => some (m ++ [0, k]) | none => M2 a, fun a m em => ?_, by rw [List.length_cons, List.length_cons, l2], fun i u y hu hy => ?_⟩
    · cases e : M1 a with
      | none =>
        simp only [e] at em
        obtain ⟨q1, q2, q3, q4⟩ := m2 a m em
        exact ⟨q1, q2, fun f => q3 (s1.frm f), q4⟩
      | some m' =>
        simp only [e, Option.some.injEq] at em
        obtain ⟨q1, q2, q3⟩ := f1 a m' e
        obtain ⟨_, t2, t3⟩ := m1 a m' e
        subst em
        refine ⟨q1, ?_, t3, by simp⟩
        rw [q2]
        cases m' with
        | nil => exact t2
        | cons b bs => exact t2
    · cases i with
      | zero =>
        have hu : v = u := by simpa using hu
        have hy : x = y := by simpa using hy
        subst hu hy
        have := sh _ _ _ _ _ _ _ [0, k] o1
        exact oc.mono _ _ _ _ _ _ _ _ _ _ s2.rd (fun a m em => by
          cases e : M1 a with
          | none => rw [e] at em; cases em
          | some m' => rw [e] at em; exact ⟨by simp only [e]; exact em, (f1 a m' e).2.1⟩) this
      | succ i =>
        have := o2 i u y (by simpa using hu) (by simpa using hy)
        rw [show k + 1 + i = k + (i + 1) by omega] at this
        exact oc.mono _ _ _ _ _ _ _ _ _ _ (fun _ _ q => q) (fun a m em => ⟨by simp only [n2 a m em]; exact em, rfl⟩) this
/-- a display of things of one's own -/
theorem ex_listO {α : Type} {oc : OCod α} {n : Nat} {es : List Expr} {pos : Pos} {f : CT G → Res (List α × CT G)} (h : AXO A G es oc 0 n f) (hn : n ≤ sizeLine := by decide) : EX A G (.List es pos) (rO (oLL oc)) f :=
  pe_weak (pe_lst h) fun o H Q ⟨p, L, w, cr, kk⟩ => ⟨p, L, w, cr, kk.imp fun y _ q vs L' H' s w' c' hl ⟨M, m1, m2, m3⟩ => ⟨by rw [hl]; exact hn, fun a ha => by
    obtain ⟨e1, e2⟩ := ext_new (o := .lst vs) w' ha
    have na : M a = none := by
      cases e : M a with
      | none => rfl
      | some m => exact absurd ha (m1 a m e).2.1.ne
    have hb : ∀ b m, M b = some m → b ≠ a := fun b m em e => by rw [e, na] at em; cases em
    refine q _ _ _ (s.trans e1.stp) e2 (c'.ext w' e1) ⟨fun b => if b = a then some [] else M b, fun b m em => ?_, a, vs, rfl, if_pos rfl, upd_same, by rw [hl]; exact hn, m2, fun i v x q1 q2 => oc.mono _ _ _ _ _ _ _ _ _ _ e1.stp.rd (fun b m em => ⟨(if_neg (hb b m em)).trans em, upd_ne (hb b m em)⟩) (by
      have := m3 i v x q1 q2
      rw [Nat.zero_add] at this
      exact this)⟩
    have em : (if b = a then some ([] : List Nat) else M b) = some m := em
    by_cases eb : b = a
    · rw [if_pos eb] at em; cases em
      rw [eb, upd_same]
      exact ⟨w'.none ha, trivial, fun f => (s.frm f).1 ha⟩
    · rw [if_neg eb] at em
      obtain ⟨q1, q2, q3, _⟩ := m1 b m em
      exact ⟨q1, by rw [upd_ne eb]; exact q2, q3⟩⟩⟩
/-- a heap where one's own thing at an inner path is changed -/
theorem own_inner {α : Type} {c : Cod α} {P : V → Prop} {i : Nat} {g : CT G → List (List α)} {put : CT G → List (List α) → CT G} {p : CT G} {L : Lab} {H : Hp} {o : St} {l q : Addr} {vs ws' : List V} {ys : List α} {j : Nat} (m : Mod G i (sOwn P (oLL (oL c))) put) (w : Wf L H) (cr : CR A.X.K 0 G p L H o) (hP : P (.ref l)) (ho : o[i]? = some (some (.ref l)))
    (hl : L l = some (i + 1, [])) (hH : H l = some (.lst vs)) (hz : vs.length ≤ sizeLine) (hn : vs.length = (g p).length) (hin : ∀ i' v x, vs[i']? = some v → (g p)[i']? = some x → (oL c).own A.X.K (rd L H) (sub L (i + 1)) H (0 :: i' :: []) v x)
    (hq : vs[j]? = some (.ref q)) (hw : ws'.length ≤ sizeLine) (hp : Paired (fun v x => c.see A.X.K (rd L H) v x) ws' ys) :
    Stp L H L (upd H q (.lst ws')) ∧ Wf L (upd H q (.lst ws')) ∧ CR A.X.K 0 G (put p ((g p).set j ys)) L (upd H q (.lst ws')) o := by
  have hj : j < vs.length := (List.getElem?_eq_some_iff.mp hq).1
  obtain ⟨x0, hx0⟩ : ∃ x, (g p)[j]? = some x := ⟨_, List.getElem?_eq_getElem (by omega)⟩
  obtain ⟨q', us, eq, mq, hq', _⟩ := hin j _ _ hq hx0
  cases eq
  have lq : L q = some (i + 1, [0, j]) := sub_of mq
  have nq : q ≠ l := fun e => by rw [e, hl] at lq; cases lq
  have sm : Same (rd L H) (rd L (upd H q (.lst ws'))) := fun a ob qa => by
    obtain ⟨⟨l', e1⟩, e2⟩ := rd_of qa
    exact rd_mk e1 (by rw [upd_ne fun e => by rw [e, lq] at e1; cases e1]; exact e2)
  refine ⟨fun a f => ⟨rfl, upd_ne fun e => ?_⟩, ⟨fun a ha => ?_, fun a k l' e => ?_⟩, m.ok _ _ _ _ _ _ _ _ _ cr sm (fun a j' l' _ hj' e => ⟨rfl, upd_ne fun e' => ?_⟩) ⟨.ref l, hP, by rw [Nat.zero_add]; exact ho, l, vs, rfl, sub_mk (by rw [Nat.zero_add]; exact hl), by rw [upd_ne nq.symm]; exact hH, hz, by rw [List.length_set, hn], fun i' v x h1 h2 => ?_⟩⟩
  · rcases f.2 with z | ⟨l', z⟩
    · rw [e, lq] at z; cases z
    · rw [e, lq] at z; cases z
  · by_cases ea : a = q
    · rw [ea, upd_same]; simp
    · rw [upd_ne ea]; exact w.dom a ha
  · by_cases ea : a = q
    · rw [ea, lq] at e; cases e
      rw [ea, upd_same]; trivial
    · rw [upd_ne ea]; exact w.soft a k l' e
  · rw [e', lq] at e
    have := (Prod.mk.inj (Option.some.inj e)).1
    omega
  · rw [Nat.zero_add]
    by_cases ej : i' = j
    · subst ej
      rw [hq] at h1; cases h1
      rw [List.getElem?_set_self (by omega)] at h2; cases h2
      exact ⟨q, ws', rfl, mq, upd_same, hw, paired_mono (fun _ _ z => c.mono _ _ _ _ _ sm z) hp⟩
    · rw [List.getElem?_set_ne (fun e => ej e.symm)] at h2
      obtain ⟨q2, us2, e2, mq2, hq2, z1, z2⟩ := hin i' v x h1 h2
      refine ⟨q2, us2, e2, mq2, ?_, z1, paired_mono (fun _ _ z => c.mono _ _ _ _ _ sm z) z2⟩
      rw [upd_ne fun e => ?_]
      · exact hq2
      · have := sub_of mq2
        rw [e, lq] at this
        cases this
        exact ej rfl
/-- x[j].m(k), x one's own, j and k constants -/
theorem ex_nest1 {α β γ : Type} {id : String} {name x : Str} {p1 p2 p3 ap cp : Pos} {kk : Nat} {ji : Int} {j : Nat} {e : Expr} {c : Cod α} {d : Cod β} {k : List α → β → Option (γ × List α)} {rc : Cod γ} {P : V → Prop} {i : Nat} {g : CT G → List (List α)} {put : CT G → List (List α) → CT G} {w0 : V} {y : β} (h : MtT A id c (aOne d) k rc)
    (slot : PySem.Slot "list" name id) (hty : typeOf (.builtin id) = pure (.type "method_descriptor")) (a : At G i (sOwn P (oLL (oL c))) g) (m : Mod G i (sOwn P (oLL (oL c))) put) (hN : A.X.N[i]? = some x) (hv : Vis A.X.env.scope x) (hj : ji = (j : Int)) (he : PE A.X e (tC w0)) (hd0 : ∀ K R, d.see K R w0 y)
    (hd : (x == ("__debug__" : Str)) = false := by decide) (hcd : (x == ("__classdict__" : Str)) = false := by decide)
    (hbase : attributeBase (.Subscript (.Name x p1) (.Constant (.int ji) kk p2) p3) name A.X.env (eval (.Subscript (.Name x p1) (.Constant (.int ji) kk p2) p3) A.X.env) = eval (.Subscript (.Name x p1) (.Constant (.int ji) kk p2) p3) A.X.env := by rfl)
    (hfew : ((backTo cp (starEach [e] A.X.env)).all (fun x => !x.1) && (backToKw cp (keywordEach [] A.X.env)).all (fun x => x.1.isSome) && decide ([e].length + ([] : List Keyword).length + (if ([] : List Keyword).isEmpty then 0 else 1) < 30)) = true := by rfl)
    (hline : (ap.endLine == cp.line) = true := by rfl) (hs : starEach [e] A.X.env = (false, eval e A.X.env) :: starEach [] A.X.env := by rfl) (hplain : (backTo cp (starEach [] A.X.env)).any (·.1) = false := by rfl) :
    EX A G (.Call (.Attribute (.Subscript (.Name x p1) (.Constant (.int ji) kk p2) p3) name ap) [e] [] cp) (rV rc) (fun p => Res.bind (ofO (g p)[j]?) fun ys => Res.bind (ofO (k ys y)) fun z => .ok (z.1, put p ((g p).set j z.2))) := by
  obtain ⟨r, hr, pr⟩ := h
  refine pe_weak (pe_bm PySem.F.plainAttrs_list slot hty hr (pe_ix ix_list (pe_var hN hv hd hcd) pe_int (fun _ _ => rfl)) (pa_cons he pa_nil hs) hbase hfew hline hs hplain) fun o H Q ⟨p, L, w, cr, kq⟩ => ?_
  obtain ⟨v1, hP, ev, l, vs, e1, hm, hp, hz, hn, hin⟩ := a.ok _ _ _ _ _ _ cr
  rw [Nat.zero_add] at ev hm
  subst e1
  obtain ⟨ys, ey, k2⟩ := good_ofO kq
  obtain ⟨z, ez, k3⟩ := good_ofO k2
  have hlt : j < vs.length := by rw [hn]; exact (List.getElem?_eq_some_iff.mp ey).1
  obtain ⟨u, hu⟩ : ∃ u, vs[j]? = some u := ⟨_, List.getElem?_eq_getElem hlt⟩
  rw [Nat.zero_add] at hin
  obtain ⟨q, us, eu, mq, hq, lq, pq⟩ := hin j u ys hu ey
  subst eu
  refine ⟨.ref l, ev, l, vs, ji, .ref q, rfl, rfl, SqL.of hp, by rw [hj]; exact atI_nat hu, .inl ⟨rfl, _, SqL.of hq⟩, ?_⟩
  refine pr L H q us [w0] ys z.2 y z.1 Q w hq lq pq ⟨w0, rfl, hd0 _ _⟩ ez fun v vs' hn' hp' hz' => ?_
  obtain ⟨t1, t2, t3⟩ := own_inner (g := g) (j := j) m w cr hP ev (sub_of hm) hp hz hn hin hu hn' hp'
  exact (show ∀ v L' H', _ from k3) v L _ t1 t2 t3 (rc.mono _ _ _ _ _ t1.rd hz')
end
end AC
set_option Elab.async false
set_option linter.all false
set_option maxRecDepth 100000
/-! TL16: what the printed derivations ask for besides. -/
namespace AC
open PySem L2 PyProof

theorem sub_datm {α : Type} {c : Cod α} {t : α → PyData} {n m : Nat} (h : DC c t n) (hm : n ≤ m) : Sub c (cDat m) t := fun K R v x q => by
  obtain ⟨h1, h2, h3⟩ := h K R v x q
  exact ⟨h1, h2, by omega⟩
theorem hd_w : HardC cW := fun _ _ _ _ _ _ h => h
abbrev NNon {α : Type} (c : Cod α) : Prop := ∀ K R v x, c.see K R v x → v ≠ .non
theorem nn_i : NNon cI := fun K R v x h e => by cases h; cases e
theorem nn_b : NNon cB := fun K R v x h e => by cases h; cases e
theorem nn_s : NNon cS := fun K R v x h e => by obtain ⟨rfl, _⟩ := h; cases e
theorem nn_l {α : Type} {c : Cod α} : NNon (cL c) := fun K R v x ⟨a, vs, e, _⟩ e' => by subst e; cases e'
theorem nn_tv {α : Type} {c : Cod α} : NNon (cTV c) := fun K R v x ⟨a, vs, e, _⟩ e' => by subst e; cases e'
theorem nn_t {α : Type} {c : ArgC α} : NNon (cT c) := fun K R v x ⟨a, vs, e, _⟩ e' => by subst e; cases e'
theorem nn_h {α : Type} {c : ArgC α} : NNon (cH c) := fun K R v x ⟨a, vs, e, _⟩ e' => by subst e; cases e'
theorem nn_d {κ α : Type} {kc : KeyC κ} {c : Cod α} : NNon (cD kc c) := fun K R v x ⟨a, vs, e, _⟩ e' => by subst e; cases e'
theorem nn_ins {α : Type} {C : Addr} {fc : FldC α} : NNon (cIns C fc) := fun K R v x ⟨a, dx, fs, e, _⟩ e' => by subst e; cases e'
def FLen {α : Type} (fc : FldC α) (n : Nat) : Prop := ∀ K R fs x, fc.see K R fs x → fs.length = n
theorem len_nil : FLen fNil 0 := fun K R fs x h => by have h : fs = [] := h; rw [h]; rfl
theorem len_snoc {α β : Type} {fc : FldC α} {n : Nat} {m : Str} {c : Cod β} (h : FLen fc n) : FLen (fSnoc fc m c) (n + 1) := fun K R fs x ⟨fs', v, e, h1, h2⟩ => by rw [e, List.length_append, h K R fs' _ h1]; rfl
theorem len_ok {α : Type} {fc : FldC α} {n : Nat} (h : FLen fc n) (hn : n < 800) : ∀ K R fs x, fc.see K R fs x → fs.length < 800 := fun K R fs x q => by rw [h K R fs x q]; exact hn
section
variable {A : Amb} {G G' : Ctx} {ρ : Type} {R : Rr ρ}
theorem bx_bad {sts : List Stmt} : BX A G sts G' R (fun _ => .bad) := ⟨fun pins s o H D I ⟨p, L, w, cr, k⟩ => k.elim⟩
theorem mt_appS {α β : Type} {c : Cod α} {d : Cod β} {g : β → α} (s : Sub d c g) : MtT A "list.append" c (aOne d) (fun xs y => appO xs (g y)) cN := by
  obtain ⟨r, h1, h2⟩ := mt_app (A := A) (c := c)
  exact ⟨r, h1, fun L H l vs ws xs xs' y z Q w q1 q2 q3 ⟨v, ew, hv⟩ hk q => h2 L H l vs ws xs xs' (g y) z Q w q1 q2 q3 ⟨v, ew, s _ _ _ _ hv⟩ hk q⟩
theorem ex_kwG {α β : Type} {as : ArgC α} {r : Rt β} {F : α → Res β} {k : Nat} {ps : List Str} {x : Str} {p pos : Pos} {kws : List Keyword} {fa : CT G → Res (α × CT G)} (D : DefA A k x ps (spP A.X.K A.ca as r F)) (hk : k ≤ A.lv) (gl : Gl A.X x) (hr : RtOk r) (ha : KWX A G kws as fa) (hl : as.n = ps.length)
    (hall : (backToKw pos (keywordEach kws A.X.env)).all (·.1.isSome) = true := by rfl) (hks : (backToKw pos (keywordEach kws A.X.env)).filterMap (·.1) = ps := by rfl) (hdb : (x == ("__debug__" : Str)) = false := by decide) (hpl : (backToKw pos (keywordEach kws A.X.env)).any (·.1.isNone) = false := by rfl) :
    EX A G (.Call (.Name x p) [] kws pos) r (fun p => Res.bind (fa p) fun y => Res.bind (F y.1) fun z => .ok (z, y.2)) := by
  obtain ⟨f, fd, F1, h2, h3, _, h5⟩ := D.ex
  exact ex_calK0 F1 hk gl h2 h3 (fun s us _ hu => h5 s us hu) hr ha hl hall hks hdb hpl
/-- a, b = e1, e2 by a tuple of its own (a name of them is a cell) -/
theorem sx_parC {s1 s2 : Slot} {r1 : Rt s1.T} {r2 : Rt s2.T} {G1 : Ctx} {i j : Nat} {f1 : CT G → Res (s1.T × CT G)} {f2 : CT G → Res (s2.T × CT G)} {put2 : CT G → s2.T → CT G1} {put1 : CT G1 → s1.T → CT G'} {x y : Str} {a b : Expr} {px py pt pos : Pos} {kt k2 pt2} (q1 : StR s1 r1) (q2 : StR s2 r2) (u2 : Upd G j s2 G1 put2) (u1 : Upd G1 i s1 G' put1) (hij : i ≠ j) (hS : A.S i ∧ A.S j)
    (hi : A.X.N[i]? = some x) (hj : A.X.N[j]? = some y) (hx : Loc A.X.env.scope x) (hy : Loc A.X.env.scope y) (h1 : EX A G a r1 f1) (h2 : EX A G b r2 f2)
    (hw : swappedStores [.Tuple [.Name x px, .Name y py] kt pt] (.Tuple [a, b] k2 pt2) A.X.env = pure none) (fx : A.X.fn x = true) (fy : A.X.fn y = true)
    (hs : swapsWithSole [.Tuple [.Name x px, .Name y py] kt pt] (.Tuple [a, b] k2 pt2) pos.line A.X.env = pure false := by rfl)
    (sa : starEach [a, b] A.X.env = (false, eval a A.X.env) :: starEach [b] A.X.env := by rfl) (sb : starEach [b] A.X.env = (false, eval b A.X.env) :: starEach [] A.X.env := by rfl) :
    SX A G (.Assign [.Tuple [.Name x px, .Name y py] kt pt] (.Tuple [a, b] k2 pt2) pos) G' R (fun p => Res.bind (f1 p) fun y => Res.bind (f2 y.2) fun z => .ok (.nx (put1 (put2 z.2 z.1) y.1))) :=
  ps_weak (ps_asg (pe_tup (pa_cons h1 (pa_cons h2 pa_nil sb) sa)) (pg_tup A.calm (pgs_cons (pg_name A.nd hi hx (.inl fx)) (pgs_cons (pg_name A.nd hj hy (.inl fy)) pgs_nil))) hs hw) fun D o H ⟨p, L, w, cr, k⟩ => ⟨p, L, w, cr, k.bind.imp fun y _ gy v L1 H1 s1' w1 c1 rl1 => ⟨y.2, L1, w1, c1, (gy.bind.step s1').imp fun z _ gz v2 L2 H2 s2' w2 c2 rl2 => ⟨by show 2 ≤ sizeLine; decide, fun ad ha => by
    obtain ⟨e1, e2⟩ := ext_new (o := .tup [v, v2]) w2 ha
    refine ⟨ad, [v, v2], rfl, .inl (.inl upd_same), rfl, v, [v2], rfl, v2, [], rfl, rfl, ?_⟩
    obtain ⟨L3, a1, a2, a3, a4⟩ := q2.ok A.X.K (0 + j) L1 H1 L2 _ v2 z.1 e2 (r2.post _ _ _ _ _ _ _ _ _ e1.stp rl2)
    have s13 : Stp L1 H1 L3 _ := stp_more (s2'.trans e1.stp) a1
    have c3 := u2.ok _ _ _ z.1 v2 _ _ _ (cr_more a2 (c2.ext w2 e1)) a4
    obtain ⟨L4, b1, b2, b3, b4⟩ := q1.ok A.X.K (0 + i) L H L3 _ v y.1 a3 (r1.post _ _ _ _ _ _ _ _ _ s13 rl1)
    have c4 := u1.ok _ _ _ y.1 v _ _ _ (cr_more b2 c3) b4
    rw [Nat.zero_add, Nat.zero_add, List.set_comm _ _ hij.symm] at c4
    exact (show nxP A G' R L H o D (.nx _) from gz) _ L4 _ (stp_more (s1'.trans s13) b1) b3 c4 ((Keeps.set hS.1).trans (Keeps.set hS.2))⟩⟩⟩
end
end AC
set_option Elab.async false
set_option linter.all false
set_option maxRecDepth 100000
/-! TL17: a law's end. -/
namespace AC
open PySem L2 PyProof PyProof.Rows PySem.Spec

/-- keywords alone, in the parameters' order -/
theorem kw_binds {K : Frag} {x qual : Str} {params : Arguments} {body : List Stmt} {scope : Scope} {kws : List (Str × V)} {f : Addr} {fd : FuncData} {ps : List Str} (F : FunD K x qual params body scope [] kws f fd)
    (h : ∀ (kV doc pm : Value) (an : Option Addr) (cd ct : Value) (us : List Value), us.length = ps.length → bindArgs (PySem.W.fnOf x qual params body scope .none kV doc pm an cd ct) ⟨[], ps.zip us⟩ = pure (ps.zip us)) : ∀ (s : Shared) (us : List Value), us.length = ps.length → BindsTo s fd ⟨[], ps.zip us⟩ (ps.zip us) := fun s us hl => by
  obtain ⟨oc, od, dV, kV, doc, pm, an, cd, ct, osl, e0, lk, hcd, hD, hK⟩ := F.ex
  subst e0
  rcases hD with ⟨_, e1⟩ | ⟨e1, _⟩
  · subst e1
    exact .of_eq (h kV doc pm an cd ct us hl)
  · exact absurd rfl e1
theorem ints_paired {K : Frag} {R : Hp} : ∀ ns : List Int, Paired (fun v x => cI.see K R v x) (ns.map V.int) ns
  | [] => .nil
  | _ :: ns => .cons rfl (ints_paired ns)
/-- the law's promise where nothing but the script is known -/
theorem sp_law {K : Frag} {ca : Str → Addr} {n : Nat} {F : List Int → Res Bool} (hF : ∀ ns : List Int, ns.length ≤ n → F ns = .ok true) (hn : n ≤ sizeLine) (H : Hp) (a : Addr) (ns : List Int) (hl : ns.length ≤ n) (hS : SqL K H a (ns.map V.int)) :
    spP K ca (aOne (cLK cI)) (rV cB) F [.ref a] H (fun v _ => v = .bl true) fun _ _ _ => False := by
  classical
  have rdH : rd (fun b => if H b = none then none else some (0, [])) H = H := by
    funext b
    unfold rd
    by_cases e : H b = none
    · simp only [e, if_true]
    · simp only [if_neg e]
  refine ⟨ns, fun b => if H b = none then none else some (0, []), ⟨fun b hb e => hb (if_pos e), fun b k l e => ?_⟩, ⟨.ref a, rfl, a, ns.map V.int, rfl, by rw [rdH]; exact hS, by rw [List.length_map]; omega, ?_⟩, ?_⟩
  · have e : (if H b = none then none else some (0, ([] : List Nat))) = some (k + 1, l) := e
    by_cases eb : H b = none
    · rw [if_pos eb] at e; cases e
    · rw [if_neg eb] at e; cases e
  · exact ints_paired ns
  · rw [hF ns hl]
    exact fun v L' H' _ _ h => h
/-- the law is called behind the top -/
theorem law_G {P : Program} {w : World} {K : Frag} {gm bm : Str → Option Value} {k : Nat} {fa a : Addr} {fd : FuncData} {x : Str} {sp : Sp} {st : Shared} {us : List Value} {ns : List Int}
    (kin : K.In st.heap) (gns : st.heap.Ns mainGlobals gm) (bns : st.heap.Ns builtinsNs bm) (bbt : ∀ x : Str, x ≠ "__name__" → bm x = bootBuiltins x) (nol : st.heap.NoLimit) (gen0 : st.gens = #[])
    (ga : st.heap.get? a = some { cls := .type "list", data := .seq us.toArray }) (ia : IntsAre us ns) (ln : ns.length ≤ sizeLine) (rm : Room k callerA)
    (F : ∀ base : Heap, K.In base → base.Ns mainGlobals gm → FnG P w K gm base k fa fd [x] sp) (bnd : ∀ (s : Shared) (u : Value), BindsTo s fd ⟨[u], []⟩ [(x, u)])
    (prm : ∀ H : Hp, Only H → SqL K H a (ns.map V.int) → sp [.ref a] H (fun v _ => v = .bl true) fun _ _ _ => False) :
    codeAny (model P w) callerA (.call (.ref fa) ⟨[.ref a], []⟩) (fun r s' => r = .ok (.ret (.bool true)) ∧ OldK st.heap s'.heap ∧ s'.os = st.os ∧ AllBare s'.gens) st := by
  have rvals := vals_ints ia
  have lens := ia.length
  have main_ : ∀ H : Hp, Only H → SqL K H a (ns.map V.int) → HOk P w H st.heap → (∀ b, H b ≠ none → b = a) → (H a ≠ none → K.lookup a = none) →
      codeAny (model P w) callerA (.call (.ref fa) ⟨[.ref a], []⟩) (fun r s' => r = .ok (.ret (.bool true)) ∧ OldK st.heap s'.heap ∧ s'.os = st.os ∧ AllBare s'.gens) st := by
    intro H only seen hokH atA notK
    have keepB : ∀ {b : Addr} {o : Obj}, st.heap.get? b = some o → H b = none → (hidT st.heap H).get? b = some o := fun e n => hidT_get e n
    have noDict : ∀ {b : Addr} {o : Obj} {es : Array DictEntry} {ep : Nat}, st.heap.get? b = some o → o.data = .dict es ep → H b = none := fun {b o es ep} e d => by
      cases q : H b with
      | none => rfl
      | some z =>
        obtain rfl : b = a := atA b (by rw [q]; simp)
        rw [ga] at e
        cases e
        exact Data.noConfusion (show Data.seq us.toArray _ = Data.dict es ep from d)
    have nsB : ∀ {b : Addr} {m : Str → Option Value}, st.heap.Ns b m → (hidT st.heap H).Ns b m := fun {b m} ⟨o, es, ep, e, d, r⟩ => ⟨o, es, ep, keepB e (noDict e d), d, r⟩
    have kinB : K.In (hidT st.heap H) := fun b o e => keepB (kin b o e) (by
      cases q : H b with
      | none => rfl
      | some z =>
        obtain rfl : b = a := atA b (by rw [q]; simp)
        have := notK (by rw [q]; simp)
        rw [this] at e
        cases e)
    have modB : L2.Mod K gm (hidT st.heap H) := ⟨kinB, nsB gns, ⟨bm, nsB bns, bbt⟩, let ⟨mc, h1, h2⟩ := nol; ⟨mc, nsB h1, h2⟩⟩
    have envB : Env0 P w K gm (hidT st.heap H) callerA [] st H := ⟨rfl, modB, fun b o e => of_hidT e, Nat.le_of_eq (hidT_size _ _), trivial, fun b z => absurd (show b ∈ ([] : List Addr) from z) (by simp), hokH, .of_eq gen0⟩
    refine codeAny_mono ((F _ kinB (nsB gns)).go callerA [] st H ⟨[.ref a], []⟩ [.ref a] [.ref a] _ _ rfl rm envB (bnd st (.ref a)) (.cons rfl .nil) (prm H only seen)) fun r s' h => ?_
    rcases r with e | fl
    · obtain ⟨_, _, _, _, _, _, _, _, _, _, _, _, z⟩ := (show L2.CX P w [] H st (fun _ _ _ => False) e s' from h)
      exact z.elim
    · rcases fl with _ | _ | _ | u
      · exact False.elim h
      · exact False.elim h
      · exact False.elim h
      · obtain ⟨v, H', osE, bareE, unE, hokE, rE, qE⟩ := h
        obtain rfl : v = V.bl true := qE
        obtain rfl : u = Value.bool true := rE
        refine ⟨rfl, OldK.of_keep fun b o e => ?_, osE, bareE⟩
        cases q : H b with
        | none => exact unE.keep b o e q (fun z => absurd (show b ∈ ([] : List Addr) from z) (by simp)) (by simp)
        | some z =>
          rcases only b with y | ⟨ob, xs, y⟩
          · rw [q] at y; cases y
          · obtain ⟨t1, _⟩ := hokH b _ y
            obtain ⟨t2, _⟩ := hokE b _ (unE.frzs b ob _ y)
            rw [e] at t1
            cases t1
            exact t2
  cases inK : K.lookup a with
  | some o =>
    have e := kin a o inK
    rw [ga] at e
    cases e
    exact main_ (fun _ => none) (fun _ => Or.inl rfl) (Or.inr ⟨_, us.toArray, _, inK, rfl, rfl, rfl, by rw [List.size_toArray, lens]; exact ln, by simpa using rvals⟩) (fun b u z => absurd (show (none : Option HO) = some u from z) (by simp)) (fun b z => absurd rfl z) fun z => absurd rfl z
  | none =>
    refine main_ (fun b => if b = a then some (.frz { cls := .type "list", data := .seq us.toArray } (.lst (ns.map V.int))) else none) (fun b => ?_) (Or.inl (Or.inr ⟨{ cls := .type "list", data := .seq us.toArray }, if_pos rfl⟩)) (fun b u z => ?_) (fun b z => ?_) fun _ => inK
    · by_cases e : b = a
      · exact Or.inr ⟨_, _, if_pos e⟩
      · exact Or.inl (if_neg e)
    · by_cases e : b = a
      · have y := (if_pos e).symm.trans z
        cases y
        subst e
        exact ⟨ga, by rw [List.length_map]; exact ln, us, _, rvals, ga⟩
      · have y := (if_neg e).symm.trans z
        cases y
    · by_cases e : b = a
      · exact e
      · exact absurd (if_neg e) z
/-- a law over a head by facts -/
theorem walk_G {l : PySem.W.OpenLaw} {n k : Nat} {q : Program} {loose : List Str} {XP : (Str → Option Value) → Heap → Prop} {YP : World → Heap → Prop} {d : DefRec} {x : Str}
    (most : l.most = some n) (small : n ≤ sizeLine) (nodf : d.params.defaults = []) (rm : Room k callerA)
    (F : ∀ (w : World) (gm : Str → Option Value) (fa : Addr) (h : Heap), YP w h → h.Ns mainGlobals gm → gm d.name = some (.ref fa) →
      ∃ (K : Frag) (fd : FuncData) (sp : Sp), K.In h ∧ (∀ (s : Shared) (u : Value), BindsTo s fd ⟨[u], []⟩ [(x, u)]) ∧
        (∀ (H : Hp) (a : Addr) (ns : List Int), ns.length ≤ n → Only H → SqL K H a (ns.map V.int) → sp [.ref a] H (fun v _ => v = .bl true) fun _ _ _ => False) ∧
        ∀ base : Heap, K.In base → base.Ns mainGlobals gm → FnG l.prog w K gm base k fa fd [x] sp) :
    PySem.W.WalkO q loose XP YP l.row.toRowW d [] (fun f vs => PySem.call f vs) := by
  refine Att.attach_call most nodf fun w s₀ st gm bm fa o pm cd doc a us ns G Y ho hd hcd hgm hobj hints hlen hg => ?_
  obtain ⟨K, fd, sp, kin, bnd, prm, hF⟩ := F w gm fa _ Y G.T.g hgm
  exact law_G kin G.T.g G.T.b G.T.builtins G.T.nolimit hg hobj hints (Nat.le_trans hlen small) rm hF bnd fun H hO hS => prm H a ns hlen hO hS
end AC
set_option Elab.async false
set_option linter.all false
set_option maxRecDepth 100000
/-! TL18: texts; unary minus; zip. -/
namespace AC
open PySem L2 PyProof

section
variable {A : Amb} {G G' : Ctx} {ρ : Type} {R : Rr ρ}
theorem ex_neg {a : Expr} {pos : Pos} {f : CT G → Res (Int × CT G)} (h : EX A G a (rV cI) f) : EX A G (.UnaryOp .USub a pos) (rV cI) (fun p => Res.bind (f p) fun y => .ok (-y.1, y.2)) :=
  pe_weak (pe_un un_neg h) fun o H Q ⟨p, L, w, cr, kk⟩ => run1 w cr kk fun x p' v L' H' s w' c' rl gd => by
    cases rl
    exact ⟨x, rfl, (show ∀ v L' H', _ from gd) _ L' H' s w' c' rfl⟩
/-- a text as a result: of allowed signs, not too long -/
def okS (z : Str) : Option Str := if PyData.strOk z = true ∧ z.length ≤ 16777216 then some z else none
theorem okS_see {z x : Str} (h : okS z = some x) {K : Frag} {R : Hp} : x = z ∧ cS.see K R (.str z) x ∧ z.length ≤ sizeLine := by
  unfold okS at h
  split at h
  · rename_i hc
    cases h
    have hl := line_eq
    exact ⟨rfl, ⟨rfl, hc.1, by omega⟩, by omega⟩
  · cases h
def addSO (x y : Str) : Option Str := if x.length + y.length ≤ 16777216 then okS (x ++ y) else none
theorem ot_addS : OpT A (binaryOp .Add) cS cS addSO (rV cS) := op_of op_add_str fun L H vx vy x y z Q w h1 h2 h3 q => by
  obtain ⟨rfl, _⟩ := h1; obtain ⟨rfl, _⟩ := h2
  unfold addSO at h3
  split at h3
  · rename_i hc
    have hl := line_eq
    obtain ⟨rfl, h4, h5⟩ := okS_see (K := A.X.K) (R := rd L H) h3
    exact ⟨x, y, rfl, rfl, by omega, q _ h4⟩
  · cases h3
def repS (x : Str) (n : Int) : Str := if n < 1 then Str.empty else if (n == 1 || x.length == 0) = true then x else ⟨(List.replicate n.toNat x.cps).foldl (· ++ ·) #[]⟩
def mulSO (x : Str) (n : Int) : Option Str := if -(2 ^ 63) ≤ n ∧ n < 2 ^ 63 ∧ (x.length : Int) * n ≤ 16777216 then okS (repS x n) else none
theorem op_mulS {X : Cx} : OpR X (binaryOp .Mult) (fun x y H Q => ∃ (z : Str) (n : Int), x = .str z ∧ y = .int n ∧ -(2 ^ 63) ≤ n ∧ n < 2 ^ 63 ∧ (z.length : Int) * n ≤ 16777216 ∧ (repS z n).length ≤ sizeLine ∧ Q (.str (repS z n)) H) := by
  intro pins s o H x y v u Q I rx ry ⟨z, n, ex, ey, h1, h2, h3, h4, q⟩
  subst ex ey
  obtain ⟨t, rfl⟩ := (show ∃ t, v = Value.str z t from rx)
  obtain ⟨t', rfl⟩ := (show ∃ t, u = Value.int n t from ry)
  have hl := line_eq
  have pos_ : ¬ n < 1 → (n == 1 || z.length == 0) = false → 1 ≤ z.length ∧ n ≤ 16777216 := fun a b => by
    rw [Bool.or_eq_false_iff] at b
    have hz : z.length ≠ 0 := fun e => by have := b.2; rw [e] at this; simp at this
    refine ⟨by omega, ?_⟩
    have : (1 : Int) * n ≤ (z.length : Int) * n := Int.mul_le_mul_of_nonneg_right (by omega) (by omega)
    omega
  refine PySem.P.mul_str (by rw [decide_eq_false (by omega), decide_eq_false (by omega)]; rfl) (fun a b => ?_) (fun a b => ?_) ?_
  · obtain ⟨c, d⟩ := pos_ a b
    have e1 : (z.length : Int) ≤ 16777216 := by
      have : (z.length : Int) * 1 ≤ (z.length : Int) * n := Int.mul_le_mul_of_nonneg_left (by omega) (by omega)
      omega
    have : (2 ^ 63 - 1) / 16777216 ≤ (2 ^ 63 - 1) / n := by
      rw [Int.le_ediv_iff_mul_le (by omega)]
      calc (2 ^ 63 - 1) / 16777216 * n ≤ (2 ^ 63 - 1) / 16777216 * 16777216 := Int.mul_le_mul_of_nonneg_left d (by decide)
        _ ≤ 2 ^ 63 - 1 := by decide
    omega
  · obtain ⟨c, d⟩ := pos_ a b
    have e1 : z.length * n.toNat ≤ 16777216 := by
      obtain ⟨k, rfl⟩ := Int.eq_ofNat_of_zero_le (show 0 ≤ n by omega)
      have e : (Int.toNat (k : Int)) = k := rfl
      rw [e]
      have h3' : ((z.length * k : Nat) : Int) ≤ 16777216 := by rw [Int.natCast_mul]; exact h3
      omega
    unfold Builtin.Str.tooLong
    rw [decide_eq_false (by omega)]
  · unfold repS at h4 q
    split
    · rename_i hn
      rw [if_pos hn] at q h4
      exact ⟨by decide, .str Str.empty, H, I.tok _, ⟨_, rfl⟩, q⟩
    · rename_i hn
      rw [if_neg hn] at q h4
      split
      · rename_i hm
        rw [if_pos hm] at q
        exact ⟨.str z, H, I, ⟨_, rfl⟩, q⟩
      · rename_i hm
        rw [if_neg hm] at q h4
        exact ⟨h4, .str _, H, I.tok _, ⟨_, rfl⟩, q⟩
theorem ot_mulS : OpT A (binaryOp .Mult) cS cI mulSO (rV cS) := op_of op_mulS fun L H vx vy x y z Q w h1 h2 h3 q => by
  obtain ⟨rfl, _⟩ := h1; cases h2
  unfold mulSO at h3
  split at h3
  · rename_i hc
    obtain ⟨rfl, h4, h5⟩ := okS_see (K := A.X.K) (R := rd L H) h3
    exact ⟨x, y, rfl, rfl, hc.1, hc.2.1, hc.2.2, h5, q _ h4⟩
  · cases h3
/-- z[lo:hi] -/
theorem ex_cutS {e : Expr} {lo hi : Option Expr} {p2 pos : Pos} {f : CT G → Res (Str × CT G)} {fl fh : CT G → Res (Option Int × CT G)} (h : EX A G e (rV cS) f) (hl : OX A G lo fl) (hh : OX A G hi fh) :
    EX A G (.Subscript e (.Slice lo hi none p2) pos) (rV cS) (fun p => Res.bind (f p) fun y => Res.bind (fl y.2) fun z => Res.bind (fh z.2) fun u => Res.bind (ofO (okS (cutS y.1 z.1 u.1))) fun w => .ok (w, u.2)) :=
  pe_weak (pe_slice sl_str h hl hh) fun o H Q ⟨p, L, w, cr, k⟩ => ⟨p, L, w, cr, k.bind.imp fun y _ gy v L1 H1 s1 w1 c1 ⟨e1, h1, l1⟩ => ⟨y.2, L1, w1, c1, (gy.bind.step s1).imp fun z _ gz L2 H2 s2 w2 c2 => ⟨z.2, L2, w2, c2, (gz.bind.step (s1.trans s2)).imp fun u _ gu L3 H3 s3 w3 c3 => by
    subst e1
    obtain ⟨x, ex, gx⟩ := good_ofO gu
    obtain ⟨rfl, h4, h5⟩ := okS_see (K := A.X.K) (R := rd L3 H3) ex
    exact ⟨y.1, rfl, l1, (show ∀ v L' H', _ from gx) _ L3 H3 ((s1.trans s2).trans s3) w3 c3 h4⟩⟩⟩⟩
theorem strs_of {K : Frag} {R : Hp} : ∀ {vs : List V} {xs : List Str}, Paired (fun v x => cS.see K R v x) vs xs → vs = xs.map V.str
  | _, _, .nil => rfl
  | _, _, .cons r t => by obtain ⟨rfl, _⟩ := r; rw [strs_of t]; rfl
def joinO (a : Str) (ys : List Str) : Option Str := if (ys.map (·.length)).sum + ys.length * a.length ≤ 16777216 then okS (Txt.join a ys) else none
theorem mv_join : MtV A "str" "str.join" cS (aOne (cL cS)) joinO (rV cS) := ⟨_, mt_join, fun L H v x ⟨e, _⟩ => by subst e; exact rfl, fun L H v ws x y z Q w ⟨e, _⟩ ⟨v2, e2, a, vs, e3, hq, hl, hp⟩ hk q => by
  subst e e2 e3
  unfold joinO at hk
  split at hk
  · rename_i hc
    obtain ⟨rfl, h4, h5⟩ := okS_see (K := A.X.K) (R := rd L H) hk
    have := strs_of hp
    subst this
    exact ⟨x, a, y, rfl, rfl, .inl (SqL.of (rd_sub _ _ hq)), hc, q _ L H Ext.refl w h4⟩
  · cases hk⟩
/-- zip of two lists -/
theorem paired_zip_get {α β : Type} {xs : List α} {ys : List β} {i : Nat} {x : α} {y : β} (h1 : xs[i]? = some x) (h2 : ys[i]? = some y) : (xs.zip ys)[i]? = some (x, y) := by
  rw [List.getElem?_zip_eq_some]
  exact ⟨h1, h2⟩
theorem ix_zip {α β : Type} {c : Cod α} {d : Cod β} {a b : Expr} {elts : List Expr} {kk : Nat} {tpos p pos : Pos} {f : CT G → Res (List α × CT G)} {g : CT G → Res (List β × CT G)} (hg : Gl A.X "zip") (hm : A.X.mg "zip" = none) (ha : EX A G a (rV (cL c)) f) (hb : EX A G b (rV (cL d)) g)
    (hs : starEach [a, b] A.X.env = (false, eval a A.X.env) :: starEach [b] A.X.env := by rfl) (hs2 : starEach [b] A.X.env = (false, eval b A.X.env) :: starEach [] A.X.env := by rfl) (hpl : (backTo pos (starEach [b] A.X.env)).any (·.1) = false := by rfl) :
    IX A G (.Tuple elts kk tpos) (.Call (.Name "zip" p) [a, b] [] pos) (cT (aCons c (aOne d))) (fun p => Res.bind (f p) fun y => Res.bind (g y.2) fun z => .ok (y.1.zip z.1, z.2)) :=
  pi_weak (pi_zip hg hm (ax_cons ha (ax_one hb hs2) hs) hs hpl) fun o H Q ⟨p, L, w, cr, k⟩ => ⟨p, L, w, cr, (show Good A (Res.bind (Res.bind (f p) fun y => Res.bind (g y.2) fun z => Res.ok ((y.1, z.1), z.2)) fun y => Res.ok (y.1.1.zip y.1.2, y.2)) L H o _ by
      rw [Res.bind_assoc]
      simp only [Res.bind_assoc, Res.bind_ok]
      exact k).bind.imp fun y _ q vs L' H' s w' c' ⟨v, _, e, ⟨a1, ws1, e1, h1, l1, p1⟩, v2, e2, a2, ws2, e3, h2, l2, p2⟩ => by
    subst e e1 e2 e3
    have n1 := paired_len p1
    have n2 := paired_len p2
    refine ⟨a1, a2, ws1, ws2, rfl, SqL.of (rd_sub _ _ h1), SqL.of (rd_sub _ _ h2), q L' H' _ (fun H => SqL A.X.K H a1 ws1 ∧ SqL A.X.K H a2 ws2) (YPair (fun i => ws1[i]?) (fun i => ws2[i]?)) s w' c' ⟨?_, ?_, fun L2 H2 s2 => ⟨SqL.of (rd_sub _ _ (s2.rd _ _ h1)), SqL.of (rd_sub _ _ (s2.rd _ _ h2))⟩, fun i L2 H2 v H3 hi s2 w2 hy => ?_⟩⟩
    · exact walk_zip (by rw [List.length_zip, n1, n2])
    · rw [List.length_zip]; omega
    · obtain ⟨T, x, z, rfl, hT, rfl, hx, hz⟩ := hy
      obtain ⟨u1, hu1, hc1⟩ := paired_getL p1 hx
      obtain ⟨u2, hu2, hc2⟩ := paired_getL p2 hz
      obtain ⟨t1, t2⟩ := ext_val (o := .tup [x, z]) w2 hT
      exact ⟨_, _, t1, t2, paired_zip_get hu1 hu2, T, _, rfl, .inl (rd_mk setL_same upd_same), x, [z], rfl, c.mono _ _ _ _ _ t1.stp.rd (c.mono _ _ _ _ _ s2.rd hc1), z, rfl, d.mono _ _ _ _ _ t1.stp.rd (d.mono _ _ _ _ _ s2.rd hc2)⟩⟩
theorem sx_parC3 {s1 s2 s3 : Slot} {r1 : Rt s1.T} {r2 : Rt s2.T} {r3 : Rt s3.T} {G1 G2 : Ctx} {i j l : Nat} {f1 : CT G → Res (s1.T × CT G)} {f2 : CT G → Res (s2.T × CT G)} {f3 : CT G → Res (s3.T × CT G)} {put3 : CT G → s3.T → CT G1} {put2 : CT G1 → s2.T → CT G2} {put1 : CT G2 → s1.T → CT G'} {x y z : Str} {a b c : Expr} {px py pz pt pos : Pos} {kt k2 pt2}
    (q1 : StR s1 r1) (q2 : StR s2 r2) (q3 : StR s3 r3) (u3 : Upd G l s3 G1 put3) (u2 : Upd G1 j s2 G2 put2) (u1 : Upd G2 i s1 G' put1) (hij : i ≠ j ∧ i ≠ l ∧ j ≠ l) (hS : A.S i ∧ A.S j ∧ A.S l)
    (hi : A.X.N[i]? = some x) (hj : A.X.N[j]? = some y) (hl : A.X.N[l]? = some z) (hx : Loc A.X.env.scope x) (hy : Loc A.X.env.scope y) (hz : Loc A.X.env.scope z) (h1 : EX A G a r1 f1) (h2 : EX A G b r2 f2) (h3 : EX A G c r3 f3)
    (hw : swappedStores [.Tuple [.Name x px, .Name y py, .Name z pz] kt pt] (.Tuple [a, b, c] k2 pt2) A.X.env = pure none) (fx : A.X.fn x = true) (fy : A.X.fn y = true) (fz : A.X.fn z = true)
    (hs : swapsWithSole [.Tuple [.Name x px, .Name y py, .Name z pz] kt pt] (.Tuple [a, b, c] k2 pt2) pos.line A.X.env = pure false := by rfl)
    (sa : starEach [a, b, c] A.X.env = (false, eval a A.X.env) :: starEach [b, c] A.X.env := by rfl) (sb : starEach [b, c] A.X.env = (false, eval b A.X.env) :: starEach [c] A.X.env := by rfl) (sc : starEach [c] A.X.env = (false, eval c A.X.env) :: starEach [] A.X.env := by rfl) :
    SX A G (.Assign [.Tuple [.Name x px, .Name y py, .Name z pz] kt pt] (.Tuple [a, b, c] k2 pt2) pos) G' R (fun p => Res.bind (f1 p) fun y => Res.bind (f2 y.2) fun z => Res.bind (f3 z.2) fun u => .ok (.nx (put1 (put2 (put3 u.2 u.1) z.1) y.1))) :=
  ps_weak (ps_asg (pe_tup (pa_cons h1 (pa_cons h2 (pa_cons h3 pa_nil sc) sb) sa)) (pg_tup A.calm (pgs_cons (pg_name A.nd hi hx (.inl fx)) (pgs_cons (pg_name A.nd hj hy (.inl fy)) (pgs_cons (pg_name A.nd hl hz (.inl fz)) pgs_nil)))) hs hw) fun D o H ⟨p, L, w, cr, k⟩ => ⟨p, L, w, cr, k.bind.imp fun y _ gy v L1 H1 s1' w1 c1 rl1 => ⟨y.2, L1, w1, c1, (gy.bind.step s1').imp fun z _ gz v2 L2 H2 s2' w2 c2 rl2 => ⟨z.2, L2, w2, c2, (gz.bind.step (s1'.trans s2')).imp fun u _ gu v3 L3 H3 s3' w3 c3 rl3 => ⟨by show 3 ≤ sizeLine; decide, fun ad ha => by
    obtain ⟨e1, e2⟩ := ext_new (o := .tup [v, v2, v3]) w3 ha
    refine ⟨ad, [v, v2, v3], rfl, .inl (.inl upd_same), rfl, v, [v2, v3], rfl, v2, [v3], rfl, v3, [], rfl, rfl, ?_⟩
    obtain ⟨L4, a1, a2, a3, a4⟩ := q3.ok A.X.K (0 + l) L2 H2 L3 _ v3 u.1 e2 (r3.post _ _ _ _ _ _ _ _ _ e1.stp rl3)
    have t24 : Stp L2 H2 L4 _ := stp_more (s3'.trans e1.stp) a1
    have c4 := u3.ok _ _ _ u.1 v3 _ _ _ (cr_more a2 (c3.ext w3 e1)) a4
    obtain ⟨L5, b1, b2, b3, b4⟩ := q2.ok A.X.K (0 + j) L1 H1 L4 _ v2 z.1 a3 (r2.post _ _ _ _ _ _ _ _ _ t24 rl2)
    have t15 : Stp L1 H1 L5 _ := stp_more (s2'.trans t24) b1
    have c5 := u2.ok _ _ _ z.1 v2 _ _ _ (cr_more b2 c4) b4
    obtain ⟨L6, d1, d2, d3, d4⟩ := q1.ok A.X.K (0 + i) L H L5 _ v y.1 b3 (r1.post _ _ _ _ _ _ _ _ _ t15 rl1)
    have c6 := u1.ok _ _ _ y.1 v _ _ _ (cr_more d2 c5) d4
    rw [Nat.zero_add, Nat.zero_add, Nat.zero_add, List.set_comm _ _ hij.2.2.symm, List.set_comm _ _ hij.2.1.symm, List.set_comm _ _ hij.1.symm] at c6
    exact (show nxP A G' R L H o D (.nx _) from gu) _ L6 _ (stp_more (s1'.trans t15) d1) d3 c6 (((Keeps.set hS.1).trans (Keeps.set hS.2.1)).trans (Keeps.set hS.2.2))⟩⟩⟩⟩
end
end AC
set_option Elab.async false
set_option linter.all false
set_option maxRecDepth 100000
/-! TL19: methods and properties of instances. -/
namespace AC
open PySem L2 PyProof

/-- a method of the class at C -/
structure MetG (P : Program) (w : World) (K : Frag) (mg : Str → Option Value) (base : Heap) (k : Nat) (C : Addr) (m : Str) (ps : List Str) (sp : Sp) : Prop where
  ex : ∃ f fd, FnG P w K mg base k f fd ps sp ∧ Meth K C m f ∧ Binds K fd ps []
/-- a property of the class at C -/
structure ProG (P : Program) (w : World) (K : Frag) (mg : Str → Option Value) (base : Heap) (k : Nat) (C : Addr) (m : Str) (ps : List Str) (sp : Sp) : Prop where
  ex : ∃ p f fd, FnG P w K mg base k f fd ps sp ∧ PropOf K C m p f ∧ Binds K fd ps []
section
variable {A : Amb} {G G' : Ctx} {ρ : Type} {R : Rr ρ}
abbrev MetA (A : Amb) (k : Nat) (C : Addr) (m : Str) (ps : List Str) (sp : Sp) : Prop := MetG A.X.prog A.X.w A.X.K A.X.mg A.X.base k C m ps sp
abbrev ProA (A : Amb) (k : Nat) (C : Addr) (m : Str) (ps : List Str) (sp : Sp) : Prop := ProG A.X.prog A.X.w A.X.K A.X.mg A.X.base k C m ps sp
/-- from the arguments' values on -/
theorem sp_end {α β : Type} {as : ArgC α} {r : Rt β} {F : α → Res β} (hr : RtOk r) {p : CT G} {y : α} {vs : List V} {L0 L L1 : Lab} {H0 H H1 : Hp} {o : St} {Q : VK} (s0 : Stp L0 H0 L1 H1) (s1 : Stp L H L1 H1) (w1 : Wf L1 H1) (c1 : CR A.X.K 0 G p L1 H1 o) (h1 : as.see A.X.K (rd L1 H1) vs y)
    (gy : Good A (Res.bind (F y) fun z => Res.ok (z, p)) L0 H0 o fun y => ∀ (v : V) (L' : Lab) (H' : Hp), Stp L H L' H' → Wf L' H' → CR A.X.K 0 G y.2 L' H' o → r.rel A.X.K L H L' H' v y.1 → Q v H') : spP A.X.K A.ca as r F vs H1 Q (WE A.W o) := by
  refine ⟨y, strip L1, wf_strip w1, by rw [rd_strip]; exact h1, ?_⟩
  have gy := gy.step s0
  cases e : F y with
  | bad => rw [e] at gy; exact gy.elim
  | exc ex =>
    rw [e] at gy
    exact fun cls d H' hz => (show A.raises ex L1 H1 o from gy) cls d H' (rz_strip hz) o fun _ _ => rfl
  | ok z =>
    rw [e] at gy
    exact fun v L2 H2 s2 w2 rl => (show ∀ v L' H', _ from gy) v (unstrip L1 L2) H2 (s1.trans (un_ext w1 s2).stp) (un_wf w1 w2 s2) (c1.ext w1 (un_ext w1 s2)) (r.pre _ _ _ _ _ _ _ _ _ s1 (hr.un w1 s2 rl))
theorem ex_met {α β γ : Type} {as : ArgC α} {fc : FldC γ} {r : Rt β} {F : γ × α → Res β} {k : Nat} {C : Addr} {m : Str} {ps : List Str} {ap pos : Pos} {ob e : Expr} {es : List Expr} {f : CT G → Res (γ × CT G)} {fa : CT G → Res (α × CT G)} {pl : Sem Bool} (D : MetA A k C m ps (spP A.X.K A.ca (aCons (cIns C fc) as) r F)) (hk : k ≤ A.lv) (cl : Cls A.X.K C) (nk : NoKey fc m) (hr : RtOk r)
    (ho : EX A G ob (rV (cIns C fc)) f) (ha : AX A G (e :: es) as fa) (hst : starEach (e :: es) A.X.env = (false, eval e A.X.env) :: starEach es A.X.env := by rfl) (hpl : (backTo pos (starEach es A.X.env)).any (·.1) = false := by rfl)
    (ht : eval (.Call (.Attribute ob m ap) (e :: es) [] pos) A.X.env = (do
      let recv ← eval ob A.X.env
      standAt ap.atName
      let (fn, first) ← holding [recv] (getMethod recv m pl)
      callWith pos fn first (backTo pos (starEach (e :: es) A.X.env)) (backToKw pos (keywordEach [] A.X.env))) := by rfl) :
    EX A G (.Call (.Attribute ob m ap) (e :: es) [] pos) r (fun p => Res.bind (f p) fun y => Res.bind (fa y.2) fun z => Res.bind (F (y.1, z.1)) fun u => .ok (u, z.2)) := by
  obtain ⟨g, fd, F1, hm, hb⟩ := D.ex
  refine ⟨fun pins s o H Q I ⟨p, L, w, cr, q⟩ => ?_⟩
  have hR : tE A G (rV (cIns C fc)) f o H fun x H1 => ∃ a dx fs, x = .ref a ∧ H1 a = some (.ins C dx fs) ∧ fs.lookup m = none ∧ tA A G as fa o H1 fun vs H2 => spP A.X.K A.ca (aCons (cIns C fc) as) r F (x :: vs) H2 Q (WE A.W o) :=
    run1 w cr q fun x p1 v L1 H1 s1 w1 c1 r1 g1 => by
      have r0 := r1
      obtain ⟨a, dx, fs, e1, h1, h2⟩ := r1
      subst e1
      refine ⟨a, dx, fs, rfl, rd_sub _ _ h1, look_none (nk _ _ _ _ h2), p1, L1, w1, c1, g1.bind.imp fun z _ gz vs L2 H2 s2 w2 c2 h3 => ?_⟩
      exact sp_end (as := aCons (cIns C fc) as) (F := F) (y := (x, z.1)) hr s2 (s1.trans s2) w2 c2 ⟨.ref a, vs, rfl, (cIns C fc).mono _ _ _ _ _ s2.rd r0, h3⟩ gz
  refine PySem.W.methodCall_KW (pl := pl) (thn (ho.run pins s o H _ I hR) fun u s1 ⟨x, H1, I1, rx, a, dx, fs, ex, ea, l, q⟩ => ?_) ht
  subst ex
  obtain rfl : u = Value.ref a := rx
  refine getmeth_ok I1 ea cl hm l ?_
  refine PySem.W.callWith_K (first := [.ref a]) (h₀ := A.X.base) I1.ok.mod.kin hm.kp (thn (ha.run pos pins s1 o H1 _ I1 q) fun us s2 ⟨vs, H2, I2, rv, q2⟩ => ⟨I2.kIn, ?_⟩) hst hpl
  exact callAt F1 hb hk pins o H2 s2 Q (.ref a :: us) (.ref a :: vs) I2 (.cons rfl rv) q2
theorem ex_met0 {β γ : Type} {fc : FldC γ} {r : Rt β} {F : γ → Res β} {k : Nat} {C : Addr} {m : Str} {ps : List Str} {ap pos : Pos} {ob : Expr} {f : CT G → Res (γ × CT G)} {pl : Sem Bool} (D : MetA A k C m ps (spP A.X.K A.ca (aOne (cIns C fc)) r F)) (hk : k ≤ A.lv) (cl : Cls A.X.K C) (nk : NoKey fc m) (hr : RtOk r)
    (ho : EX A G ob (rV (cIns C fc)) f)
    (ht : eval (.Call (.Attribute ob m ap) [] [] pos) A.X.env = (do
      let recv ← eval ob A.X.env
      standAt ap.atName
      let (fn, first) ← holding [recv] (getMethod recv m pl)
      callWith pos fn first (backTo pos (starEach [] A.X.env)) (backToKw pos (keywordEach [] A.X.env))) := by rfl) :
    EX A G (.Call (.Attribute ob m ap) [] [] pos) r (fun p => Res.bind (f p) fun y => Res.bind (F y.1) fun u => .ok (u, y.2)) := by
  obtain ⟨g, fd, F1, hm, hb⟩ := D.ex
  refine ⟨fun pins s o H Q I ⟨p, L, w, cr, q⟩ => ?_⟩
  have hR : tE A G (rV (cIns C fc)) f o H fun x H1 => ∃ a dx fs, x = .ref a ∧ H1 a = some (.ins C dx fs) ∧ fs.lookup m = none ∧ spP A.X.K A.ca (aOne (cIns C fc)) r F [x] H1 Q (WE A.W o) :=
    run1 w cr q fun x p1 v L1 H1 s1 w1 c1 r1 g1 => by
      have r0 := r1
      obtain ⟨a, dx, fs, e1, h1, h2⟩ := r1
      subst e1
      exact ⟨a, dx, fs, rfl, rd_sub _ _ h1, look_none (nk _ _ _ _ h2), sp_end (as := aOne (cIns C fc)) (F := F) (y := x) hr Stp.refl s1 w1 c1 ⟨.ref a, rfl, r0⟩ g1⟩
  refine PySem.W.methodCall_KW (pl := pl) (thn (ho.run pins s o H _ I hR) fun u s1 ⟨x, H1, I1, rx, a, dx, fs, ex, ea, l, q⟩ => ?_) ht
  subst ex
  obtain rfl : u = Value.ref a := rx
  refine getmeth_ok I1 ea cl hm l ?_
  exact PySem.W.callWith_K0 (first := [.ref a]) I1.kIn hm.kp (callAt F1 hb hk pins o H1 s1 Q [.ref a] [.ref a] I1 (.cons rfl .nil) q)
/-- the getter is called -/
theorem get_prop {k : Nat} {C a dx g pr : Addr} {fs : List (Str × V)} {n : Str} {fd : FuncData} {ps : List Str} {sp : Sp} {pins : List (Addr × Obj)} {o : St} {H : Hp} {s : Shared} {Q : VK} {b : Bool} {E' : Value → Shared → Prop} (I : Inv A.X pins o H s) (ea : H a = some (.ins C dx fs)) (cl : Cls A.X.K C) (hp : PropOf A.X.K C n pr g)
    (F : FnG A.X.prog A.X.w A.X.K A.X.mg A.X.base k g fd ps sp) (hk : k + 1 ≤ A.lv) (hb : Binds A.X.K fd ps []) (h : sp [.ref a] H Q fun _ _ _ => False) : wpAny (model A.X.prog A.X.w) A.X.A (getAttr (.ref a) n b) (EP A.X pins o Q) E' s := by
  obtain ⟨mA, O, _, _, _, _⟩ := ins_get I.hok ea
  obtain ⟨od, J, _⟩ := O.look
  obtain ⟨rest, hrec⟩ := hp.rec_
  have I1 := I.tok (s.toks + 1)
  have hl : [Value.ref a].length = ps.length := F.len _ _ _ _ h
  have isC : (PySem.W.clsIn A.X.K C).isSome = true := by
    obtain ⟨cd, hc, _⟩ := PySem.W.any_some cl.hd
    rw [hc]; rfl
  have bd := hb { s with toks := s.toks + 1 } [.ref a] I1.kIn (by rw [List.append_nil]; exact hl)
  rw [List.append_nil] at bd
  refine PySem.W.get_bind I.kIn J (PySem.W.plainGet_of (cl.get n)).1 (PySem.W.findObj_data isC hp.at_ hp.get hp.tak) (PySem.W.plainGet_of (cl.get n)).2 (wpAny_call (PySem.W.prop_get (s := { s with toks := s.toks + 1 }) I.kIn hrec ?_))
  refine codeAny_mono (F.go A.X.A.in1 A.X.stack { s with toks := s.toks + 1 } H ⟨[.ref a], []⟩ [.ref a] [.ref a] Q _ A.gd (A.room.mono hk).in1 I1.env0.in1 bd (.cons rfl .nil) h) fun y s' hq => ?_
  rcases y with e | fl
  · obtain ⟨_, _, _, _, _, _, _, _, _, _, _, _, z⟩ := (show L2.CX A.X.prog A.X.w A.X.stack H { s with toks := s.toks + 1 } (fun _ _ _ => False) e s' from hq)
    exact z.elim
  · rcases fl with _ | _ | _ | u
    · exact False.elim hq
    · exact False.elim hq
    · exact False.elim hq
    · obtain ⟨v, H', I3, rv, q3⟩ := I1.after hq
      show wpAny _ _ (handedOut u) _ _ _
      rw [PySem.W.handedOut_of (handed_of rv)]
      exact wpAny_pure ⟨v, H', I3, rv, q3⟩
/-- e.n, a property -/
theorem ex_prop {β γ : Type} {fc : FldC γ} {r : Rt β} {F : γ → Res β} {k : Nat} {C : Addr} {n : Str} {ps : List Str} {pos : Pos} {ob : Expr} {f : CT G → Res (γ × CT G)} (D : ProA A k C n ps (spP A.X.K A.ca (aOne (cIns C fc)) r F)) (hk : k + 1 ≤ A.lv) (cl : Cls A.X.K C) (hr : RtOk r) (ho : EX A G ob (rV (cIns C fc)) f)
    (hab : attributeBase ob n A.X.env (eval ob A.X.env) = eval ob A.X.env := by rfl) : EX A G (.Attribute ob n pos) r (fun p => Res.bind (f p) fun y => Res.bind (Res.noexc (F y.1)) fun u => .ok (u, y.2)) := by
  obtain ⟨pr, g, fd, F1, hm, hb⟩ := D.ex
  refine ⟨fun pins s o H Q I ⟨p, L, w, cr, q⟩ => ?_⟩
  have hR : tE A G (rV (cIns C fc)) f o H fun x H1 => ∃ a dx fs, x = .ref a ∧ H1 a = some (.ins C dx fs) ∧ spP A.X.K A.ca (aOne (cIns C fc)) r F [.ref a] H1 Q (fun _ _ _ => False) :=
    run1 w cr q fun x p1 v L1 H1 s1 w1 c1 r1 g1 => by
      have r0 := r1
      obtain ⟨a, dx, fs, e1, h1, h2⟩ := r1
      subst e1
      refine ⟨a, dx, fs, rfl, rd_sub _ _ h1, x, strip L1, wf_strip w1, by rw [rd_strip]; exact ⟨.ref a, rfl, r0⟩, ?_⟩
      have g1 : Good A (Res.bind (Res.noexc (F x)) fun u => Res.ok (u, p1)) L1 H1 o fun y => ∀ (v : V) (L' : Lab) (H' : Hp), Stp L H L' H' → Wf L' H' → CR A.X.K 0 G y.2 L' H' o → r.rel A.X.K L H L' H' v y.1 → Q v H' := g1
      cases e : F x with
      | bad => rw [e] at g1; exact g1.elim
      | exc ex => rw [e] at g1; exact g1.elim
      | ok z =>
        rw [e] at g1
        exact fun v L2 H2 s2 w2 rl => (show ∀ v L' H', _ from g1) v (unstrip L1 L2) H2 (s1.trans (un_ext w1 s2).stp) (un_wf w1 w2 s2) (c1.ext w1 (un_ext w1 s2)) (r.pre _ _ _ _ _ _ _ _ _ s1 (hr.un w1 s2 rl))
  refine attr_of hab (thn (ho.run pins s o H _ I hR) fun u s1 ⟨x, H1, I1, rx, a, dx, fs, ex, ea, q⟩ => ?_)
  subst ex
  obtain rfl : u = Value.ref a := rx
  exact get_prop I1 ea cl hm F1 hk hb q
end
end AC
set_option Elab.async false
set_option linter.all false
set_option maxRecDepth 100000
/-! TL20: len and == of instances by their own methods. -/
namespace AC
open PySem L2 PyProof

section
variable {A : Amb} {G G' : Ctx} {ρ : Type} {R : Rr ρ}
def okO {α : Type} : Res α → Option α
  | .ok x => some x
  | _ => none
/-- a promise by values, from within an operation -/
theorem sp_op {α β : Type} {as : ArgC α} {r : Rt β} {F : α → Res β} (hr : RtOk r) {y : α} {z : β} {vs : List V} {L : Lab} {H : Hp} {Q : VK} (w : Wf L H) (h1 : as.see A.X.K (rd L H) vs y) (e : okO (F y) = some z)
    (q : ∀ v L' H', Ext L H L' H' → Wf L' H' → r.rel A.X.K L H L' H' v z → Q v H') : spP A.X.K A.ca as r F vs H Q (fun _ _ _ => False) := by
  refine ⟨y, strip L, wf_strip w, by rw [rd_strip]; exact h1, ?_⟩
  cases e1 : F y with
  | bad => rw [e1] at e; cases e
  | exc ex => rw [e1] at e; cases e
  | ok z' =>
    rw [e1] at e
    cases e
    exact fun v L2 H2 s2 w2 rl => q v (unstrip L L2) H2 (un_ext w s2) (un_wf w w2 s2) (hr.un w s2 rl)
/-- a special method is called -/
theorem run_sp {k : Nat} {g : Addr} {fd : FuncData} {ps : List Str} {sp : Sp} {pins : List (Addr × Obj)} {o : St} {H : Hp} {s : Shared} {Q : VK} {us : List Value} {vs : List V} {B : Around} {E' : Value → Shared → Prop} (I : Inv A.X pins o H s) (F : FnG A.X.prog A.X.w A.X.K A.X.mg A.X.base k g fd ps sp) (hg : B.guards = some []) (rm : Room k B) (e0 : B.frames = A.X.A.frames) (hb : Binds A.X.K fd ps []) (rv : Vals vs us) (h : sp vs H Q fun _ _ _ => False) :
    wpAny (model A.X.prog A.X.w) B (call (.ref g) us) (EP A.X pins o Q) E' s := by
  have hl : us.length = ps.length := rv.length.symm.trans (F.len _ _ _ _ h)
  have bd := hb s us I.kIn (by rw [List.append_nil]; exact hl)
  rw [List.append_nil] at bd
  have en : Env0 A.X.prog A.X.w A.X.K A.X.mg A.X.base B A.X.stack s H := by
    have e := I.env0
    exact ⟨by rw [e0]; exact e.frames, e.mod, e.bs, e.bsz, e.funs, e.frf, e.hok, e.bare⟩
  refine wpAny_call (codeAny_mono (F.go B A.X.stack s H ⟨us, []⟩ us vs Q _ hg rm en bd rv h) fun y s' hq => ?_)
  rcases y with e | fl
  · obtain ⟨_, _, _, _, _, _, _, _, _, _, _, _, z⟩ := (show L2.CX A.X.prog A.X.w A.X.stack H s (fun _ _ _ => False) e s' from hq)
    exact z.elim
  · rcases fl with _ | _ | _ | u
    · exact False.elim hq
    · exact False.elim hq
    · exact False.elim hq
    · exact I.after hq
/-- x == y by the class's own __eq__ -/
theorem ot_eqOwn {α : Type} {C : Addr} {fc : FldC α} {F : α × α → Res Bool} {k : Nat} {ps : List Str} (D : MetA A k C "__eq__" ps (spP A.X.K A.ca (aCons (cIns C fc) (aOne (cIns C fc))) (rV cB) F)) (hk : k ≤ A.lv) : OpT A (compareOp .Eq) (cIns C fc) (cIns C fc) (fun x y => okO (F (x, y))) (rV cB) := by
  obtain ⟨g, fd, F1, hm, hb⟩ := D.ex
  refine ⟨fun x y H Q => ∃ a b dx dy fs gs, x = .ref a ∧ y = .ref b ∧ H a = some (.ins C dx fs) ∧ H b = some (.ins C dy gs) ∧ spP A.X.K A.ca (aCons (cIns C fc) (aOne (cIns C fc))) (rV cB) F [.ref a, .ref b] H (fun v H' => (∃ t, v = .bl t) ∧ Q v H') (fun _ _ _ => False), ?_, ?_⟩
  · intro pins s o H x y u v Q I rx ry ⟨a, b, dx, dy, fs, gs, ex, ey, ha, hb', hsp⟩
    subst ex ey
    obtain rfl : u = Value.ref a := rx
    obtain rfl : v = Value.ref b := ry
    obtain ⟨mA, J, _⟩ := ins_get I.hok ha
    obtain ⟨mB, J', _⟩ := ins_get I.hok hb'
    obtain ⟨od, J, _⟩ := J.look
    obtain ⟨od', J', _⟩ := J'.look
    obtain ⟨m, hF⟩ := I.fr
    refine PySem.W.cmp_K (op := .Eq) (tb := .ref C) A.room.units0 hF I.ok.mod.kin J J'.type (by simp [PySem.W.notFirst]) hm.at_ hm.fn ?_
    refine wpAny_mono (run_sp (B := A.X.A) I F1 A.gd (A.room.mono hk) rfl hb (us := [.ref a, .ref b]) (vs := [.ref a, .ref b]) (.cons rfl (.cons rfl .nil)) hsp) (fun r s' hq => ?_) fun _ _ e => e
    obtain ⟨v, H', I', rv, ⟨t, rfl⟩, q⟩ := hq
    cases rv
    exact ⟨.bl t, H', I', rfl, q⟩
  · intro L H vx vy x y z Q w h1 h2 e q
    have r1 := h1
    have r2 := h2
    obtain ⟨a, dx, fs, rfl, ha, _⟩ := h1
    obtain ⟨b, dy, gs, rfl, hb', _⟩ := h2
    exact ⟨a, b, dx, dy, fs, gs, rfl, rfl, rd_sub _ _ ha, rd_sub _ _ hb', sp_op (as := aCons (cIns C fc) (aOne (cIns C fc))) (y := (x, y)) rtv w ⟨.ref a, [.ref b], rfl, r1, .ref b, rfl, r2⟩ e fun v L' H' ex w' rl => ⟨⟨z, rl⟩, q v L' H' ex w' rl⟩⟩
/-- len(x) by the class's own __len__ -/
theorem ct_lenOwn {α : Type} {C : Addr} {fc : FldC α} {F : α → Res Int} {k : Nat} {ps : List Str} (D : MetA A k C "__len__" ps (spP A.X.K A.ca (aOne (cIns C fc)) (rV cI) F)) (hk : k + 1 ≤ A.lv) : CalT A (.builtin "len") (aOne (cIns C fc)) (fun x => (okO (F x)).bind fun n => if 0 ≤ n ∧ n < 2 ^ 63 then some n else none) (rV cI) := by
  obtain ⟨g, fd, F1, hm, hb⟩ := D.ex
  refine ⟨fun xs H Q => ∃ a dx fs, xs = [.ref a] ∧ H a = some (.ins C dx fs) ∧ spP A.X.K A.ca (aOne (cIns C fc)) (rV cI) F [.ref a] H (fun v H' => (∃ n, v = .int n ∧ 0 ≤ n ∧ n < 2 ^ 63) ∧ Q v H') (fun _ _ _ => False), ?_, ?_⟩
  · intro pins s o H xs us Q I rx ⟨a, dx, fs, ex, ha, hsp⟩
    subst ex
    cases rx with
    | cons r t =>
      cases t
      cases r
      obtain ⟨mA, J, _⟩ := ins_get I.hok ha
      obtain ⟨od, J, _⟩ := J.look
      obtain ⟨m, hF⟩ := I.fr
      refine PySem.W.len_K hF I.ok.mod.kin J hm.at_ hm.fn ?_
      refine wpAny_mono (run_sp (B := A.X.A.in1) I F1 A.gd ((A.room.mono hk).in1) rfl hb (us := [.ref a]) (vs := [.ref a]) (.cons rfl .nil) hsp) (fun r s' hq => ?_) fun _ _ e => e
      obtain ⟨v, H', I', rv, ⟨n, rfl, h0, h1⟩, q⟩ := hq
      obtain ⟨t, rfl⟩ := (show ∃ t, r = Value.int n t from rv)
      exact ⟨⟨h0, h1⟩, .int n, H', I'.tok _, ⟨_, rfl⟩, q⟩
  · intro L H vs x z Q w ⟨v, e, h1⟩ e2 q
    subst e
    have r1 := h1
    obtain ⟨a, dx, fs, rfl, ha, _⟩ := h1
    have e2 : ((okO (F x)).bind fun n => if 0 ≤ n ∧ n < 2 ^ 63 then some n else none) = some z := e2
    cases e1 : okO (F x) with
    | none => rw [e1] at e2; cases e2
    | some n =>
      rw [e1] at e2
      have e2 : (if 0 ≤ n ∧ n < 2 ^ 63 then some n else none) = some z := e2
      split at e2
      · rename_i hn
        cases e2
        exact ⟨a, dx, fs, rfl, rd_sub _ _ ha, sp_op (as := aOne (cIns C fc)) (y := x) rtv w ⟨.ref a, rfl, r1⟩ e1 fun v L' H' ex w' rl => ⟨⟨z, rl, hn.1, hn.2⟩, q v L' H' ex w' rl⟩⟩
      · cases e2
end
end AC
set_option Elab.async false
set_option linter.all false
set_option maxRecDepth 100000
/-! TL21: calls by position, by name, with defaults: of defs, methods, classes. -/
namespace AC
open PySem L2 PyProof

/-- what comes to a parameter: a positional value, one by name, a default -/
inductive Sel where
  | p (i : Nat) | k (i : Nat) | d (i : Nat)
def Sel.at_ {α : Type} (us ds ws : List α) : Sel → Option α
  | .p i => us[i]?
  | .k i => ws[i]?
  | .d i => ds[i]?
def selL {α : Type} (ss : List Sel) (us ds ws : List α) : List α := ss.filterMap (Sel.at_ us ds ws)
theorem vals_get {vs : List V} {us : List Value} (h : Vals vs us) : ∀ i : Nat, (vs[i]? = none ∧ us[i]? = none) ∨ ∃ v u, vs[i]? = some v ∧ us[i]? = some u ∧ RelV v u := by
  induction h with
  | nil => exact fun i => .inl ⟨rfl, rfl⟩
  | cons r t ih =>
    intro i
    cases i with
    | zero => exact .inr ⟨_, _, rfl, rfl, r⟩
    | succ i => exact ih i
theorem selL_rel {vs ds zs : List V} {us its ws : List Value} (h1 : Vals vs us) (h2 : Vals ds its) (h3 : Vals zs ws) : ∀ ss : List Sel, Vals (selL ss vs ds zs) (selL ss us its ws)
  | [] => .nil
  | s :: ss => by
    have hs : (Sel.at_ vs ds zs s = none ∧ Sel.at_ us its ws s = none) ∨ ∃ v u, Sel.at_ vs ds zs s = some v ∧ Sel.at_ us its ws s = some u ∧ RelV v u := by
      cases s with
      | p i => exact vals_get h1 i
      | k i => exact vals_get h3 i
      | d i => exact vals_get h2 i
    have ih := selL_rel h1 h2 h3 ss
    unfold selL at ih ⊢
    rcases hs with ⟨e1, e2⟩ | ⟨v, u, e1, e2, r⟩
    · rw [List.filterMap_cons, List.filterMap_cons, e1, e2]; exact ih
    · rw [List.filterMap_cons, List.filterMap_cons, e1, e2]; exact .cons r ih
/-- a way to call a def -/
abbrev PatG (K : Frag) (fd : FuncData) (ps : List Str) (n : Nat) (ks : List Str) (gV : List V → List V → List V) : Prop := ∃ g, KBn K fd ps n ks g gV
theorem pat_d {K : Frag} {x qual : Str} {params : Arguments} {body : List Stmt} {scope : Scope} {dvs : List V} {kws : List (Str × V)} {f : Addr} {fd : FuncData} {ps : List Str} (F : FunD K x qual params body scope dvs kws f fd) (n : Nat) (ks : List Str) (ss : List Sel) (hd : dvs ≠ [])
    (h : ∀ (T : Addr) (kV doc pm : Value) (an : Option Addr) (cdv ct : Value) (us its ws : List Value), us.length = n → its.length = dvs.length → ws.length = ks.length →
      ∃ k, bindArgs (PySem.W.fnOf x qual params body scope (.ref T) kV doc pm an cdv ct) ⟨us, ks.zip ws⟩ = seqItems? (.ref T) >>= k ∧ k (some its.toArray) = pure (ps.zip (selL ss us its ws))) : PatG K fd ps n ks (fun vs zs => selL ss vs dvs zs) := by
  obtain ⟨its, q⟩ := FunD.kbindsD F n ks (fun us ds ws => selL ss us ds ws) hd (fun h1 h2 h3 => selL_rel h1 h2 h3 ss) h
  exact ⟨_, q⟩
theorem pat_0 {K : Frag} {x qual : Str} {params : Arguments} {body : List Stmt} {scope : Scope} {kws : List (Str × V)} {f : Addr} {fd : FuncData} {ps : List Str} (F : FunD K x qual params body scope [] kws f fd) (n : Nat) (ks : List Str) (ss : List Sel)
    (h : ∀ (kV doc pm : Value) (an : Option Addr) (cdv ct : Value) (us ws : List Value), us.length = n → ws.length = ks.length →
      bindArgs (PySem.W.fnOf x qual params body scope .none kV doc pm an cdv ct) ⟨us, ks.zip ws⟩ = pure (ps.zip (selL ss us [] ws))) : PatG K fd ps n ks (fun vs zs => selL ss vs [] zs) := by
  obtain ⟨oc, od, dV, kV, doc, pm, an, cdv, ct, osl, rfl, lk, hcd, hD, hK⟩ := F.ex
  rcases hD with ⟨_, rfl⟩ | ⟨e, _⟩
  · exact ⟨fun us ws => selL ss us [] ws, ⟨fun s us ws X l1 l2 => .of_eq (h kV doc pm an cdv ct us ws l1 l2), fun r1 r2 => selL_rel r1 .nil r2 ss⟩⟩
  · exact absurd rfl e
/-! ### arguments as written -/
section
variable {A : Amb} {G G' : Ctx} {ρ : Type} {R : Rr ρ}
def tAB (A : Amb) {α β : Type} (G : Ctx) (as : ArgC α) (bs : ArgC β) (f : CT G → Res ((α × β) × CT G)) (o : St) (H : Hp) (Q : List V → List V → Hp → Prop) : Prop :=
  ∃ (p : CT G) (L : Lab), Wf L H ∧ CR A.X.K 0 G p L H o ∧ Good A (f p) L H o fun y => ∀ (vs zs : List V) (L' : Lab) (H' : Hp), Stp L H L' H' → Wf L' H' → CR A.X.K 0 G y.2 L' H' o → as.see A.X.K (rd L' H') vs y.1.1 → bs.see A.X.K (rd L' H') zs y.1.2 → Q vs zs H'
structure CAX (A : Amb) (G : Ctx) (pos : Pos) (es : List Expr) (kws : List Keyword) (ks : List Str) {α β : Type} (as : ArgC α) (bs : ArgC β) (f : CT G → Res ((α × β) × CT G)) : Prop where
  run : ∀ (pins : List (Addr × Obj)) (s : Shared) (o : St) (H : Hp) (Rk : List V → List V → Hp → Prop) (fv : Value) (first : List Value) (Qf : Value → Shared → Prop), Inv A.X pins o H s → PySem.W.keepIn A.X.K fv = true → tAB A G as bs f o H Rk →
    (∀ (us ws : List Value) (vs zs : List V) (H1 : Hp) (s1 : Shared), Inv A.X pins o H1 s1 → Vals vs us → Vals zs ws → vs.length = as.n → zs.length = bs.n → Rk vs zs H1 → wpAny (model A.X.prog A.X.w) A.X.A (call fv (first ++ us) (ks.zip ws)) Qf A.X.xe s1) →
    wpAny (model A.X.prog A.X.w) A.X.A (callWith pos fv first (backTo pos (starEach es A.X.env)) (backToKw pos (keywordEach kws A.X.env))) Qf A.X.xe s
theorem ca_pos {α : Type} {as : ArgC α} {pos : Pos} {e : Expr} {es : List Expr} {fa : CT G → Res (α × CT G)} (ha : AX A G (e :: es) as fa) (he : starEach (e :: es) A.X.env = (false, eval e A.X.env) :: starEach es A.X.env := by rfl) (hpl : (backTo pos (starEach es A.X.env)).any (·.1) = false := by rfl) :
    CAX A G pos (e :: es) [] [] as aNil (fun p => Res.bind (fa p) fun y => .ok ((y.1, ()), y.2)) := by
  refine ⟨fun pins s o H Rk fv first Qf I kp ⟨p, L, w, cr, g⟩ hk => ?_⟩
  refine PySem.W.callWith_K (h₀ := A.X.base) I.ok.mod.kin kp ?_ he hpl
  refine thn (ha.run pos pins s o H (fun vs H1 => vs.length = as.n ∧ Rk vs [] H1) I ⟨p, L, w, cr, g.bind.imp fun y _ gy vs L' H' s' w' c' hv => ⟨as.len _ _ _ _ hv, gy vs [] L' H' s' w' c' hv rfl⟩⟩) fun us s1 ⟨vs, H1, I1, rv, hl, q⟩ => ⟨I1.kIn, ?_⟩
  exact hk us [] vs [] H1 s1 I1 rv .nil hl rfl q
theorem ca_none {pos : Pos} : CAX A G pos [] [] [] aNil aNil (fun p => .ok (((), ()), p)) := by
  refine ⟨fun pins s o H Rk fv first Qf I kp ⟨p, L, w, cr, g⟩ hk => ?_⟩
  refine PySem.W.callWith_K0 I.kIn kp ?_
  exact hk [] [] [] [] H s I .nil .nil rfl rfl (g [] [] L H Stp.refl w cr rfl rfl)
theorem ca_kw {β : Type} {bs : ArgC β} {pos : Pos} {kws : List Keyword} {ks : List Str} {fb : CT G → Res (β × CT G)} (hb : KWX A G kws bs fb) (hall : (backToKw pos (keywordEach kws A.X.env)).all (·.1.isSome) = true := by rfl) (hks : (backToKw pos (keywordEach kws A.X.env)).filterMap (·.1) = ks := by rfl) (hpl : (backToKw pos (keywordEach kws A.X.env)).any (·.1.isNone) = false := by rfl) :
    CAX A G pos [] kws ks aNil bs (fun p => Res.bind (fb p) fun y => .ok (((), y.1), y.2)) := by
  refine ⟨fun pins s o H Rk fv first Qf I kp ⟨p, L, w, cr, g⟩ hk => ?_⟩
  refine PySem.W.callWith_KW0 (h₀ := A.X.base) I.ok.mod.kin kp hall ?_ hpl
  refine thn (hb.run pos pins s o H (fun zs H1 => zs.length = bs.n ∧ Rk [] zs H1) I ⟨p, L, w, cr, g.bind.imp fun y _ gy zs L' H' s' w' c' hv => ⟨bs.len _ _ _ _ hv, gy [] zs L' H' s' w' c' rfl hv⟩⟩) fun ws s1 ⟨zs, H1, I1, rz, hl, q⟩ => ⟨I1.kIn, ?_⟩
  rw [hks]
  exact hk [] ws [] zs H1 s1 I1 .nil rz rfl hl q
theorem ca_both {α β : Type} {as : ArgC α} {bs : ArgC β} {pos : Pos} {e : Expr} {es : List Expr} {kws : List Keyword} {ks : List Str} {fa : CT G → Res (α × CT G)} {fb : CT G → Res (β × CT G)} (ha : AX A G (e :: es) as fa) (hb : KWX A G kws bs fb) (he : starEach (e :: es) A.X.env = (false, eval e A.X.env) :: starEach es A.X.env := by rfl)
    (hall : (backToKw pos (keywordEach kws A.X.env)).all (·.1.isSome) = true := by rfl) (hks : (backToKw pos (keywordEach kws A.X.env)).filterMap (·.1) = ks := by rfl) (hpl : ((backTo pos (starEach (e :: es) A.X.env)).any (·.1) || (backToKw pos (keywordEach kws A.X.env)).any (·.1.isNone)) = false := by rfl) :
    CAX A G pos (e :: es) kws ks as bs (fun p => Res.bind (fa p) fun y => Res.bind (fb y.2) fun z => .ok ((y.1, z.1), z.2)) := by
  refine ⟨fun pins s o H Rk fv first Qf I kp ⟨p, L, w, cr, g⟩ hk => ?_⟩
  refine PySem.W.callWith_KW (h₀ := A.X.base) I.ok.mod.kin kp hall ?_ hpl he
  refine thn (ha.run pos pins s o H (fun vs H1 => vs.length = as.n ∧ tA A G bs fb o H1 fun zs H2 => zs.length = bs.n ∧ Rk vs zs H2) I ⟨p, L, w, cr, g.bind.imp fun y _ gy vs L1 H1 s1 w1 c1 hv => ⟨as.len _ _ _ _ hv, y.2, L1, w1, c1, (gy.bind.step s1).imp fun z _ gz zs L2 H2 s2 w2 c2 hz => ⟨bs.len _ _ _ _ hz, gz vs zs L2 H2 (s1.trans s2) w2 c2 (as.mono _ _ _ _ _ s2.rd hv) hz⟩⟩⟩) fun us s1 ⟨vs, H1, I1, rv, hl, q⟩ => ?_
  refine thn (hb.run pos pins s1 o H1 _ I1 q) fun ws s2 ⟨zs, H2, I2, rz, hl2, q2⟩ => ⟨I2.kIn, ?_⟩
  rw [hks]
  exact hk us ws vs zs H2 s2 I2 rv rz hl hl2 q2

/-! ### the calls -/
/-- a def by its name, called so -/
structure DefP (P : Program) (w : World) (K : Frag) (mg : Str → Option Value) (base : Heap) (k : Nat) (x : Str) (n : Nat) (ks : List Str) (gV : List V → List V → List V) (sp : Sp) : Prop where
  ex : ∃ f fd ps, FnG P w K mg base k f fd ps sp ∧ mg x = some (.ref f) ∧ PySem.W.keepIn K (.ref f) = true ∧ PatG K fd ps n ks gV
/-- a method, called so (n: self counts) -/
structure MetP (P : Program) (w : World) (K : Frag) (mg : Str → Option Value) (base : Heap) (k : Nat) (C : Addr) (m : Str) (n : Nat) (ks : List Str) (gV : List V → List V → List V) (sp : Sp) : Prop where
  ex : ∃ f fd ps, FnG P w K mg base k f fd ps sp ∧ Meth K C m f ∧ PatG K fd ps n ks gV
/-- a class, called so (n: self counts) -/
structure MakP (P : Program) (w : World) (K : Frag) (mg : Str → Option Value) (base : Heap) (k : Nat) (x : Str) (C : Addr) (n : Nat) (ks : List Str) (gV : List V → List V → List V) (sp : Sp) : Prop where
  ex : ∃ f fd ps, FnG P w K mg base k f fd ps sp ∧ Mk K C f ∧ PatG K fd ps n ks gV
  mg : mg x = some (.ref C)
abbrev DefQ (A : Amb) (k : Nat) (x : Str) (n : Nat) (ks : List Str) (gV : List V → List V → List V) (sp : Sp) : Prop := DefP A.X.prog A.X.w A.X.K A.X.mg A.X.base k x n ks gV sp
abbrev MetQ (A : Amb) (k : Nat) (C : Addr) (m : Str) (n : Nat) (ks : List Str) (gV : List V → List V → List V) (sp : Sp) : Prop := MetP A.X.prog A.X.w A.X.K A.X.mg A.X.base k C m n ks gV sp
abbrev MakQ (A : Amb) (k : Nat) (x : Str) (C : Addr) (n : Nat) (ks : List Str) (gV : List V → List V → List V) (sp : Sp) : Prop := MakP A.X.prog A.X.w A.X.K A.X.mg A.X.base k x C n ks gV sp
theorem ex_calP {α β γ δ : Type} {as : ArgC α} {bs : ArgC β} {cs : ArgC γ} {r : Rt δ} {F : γ → Res δ} {k n : Nat} {x : Str} {ks : List Str} {gV : List V → List V → List V} {es : List Expr} {kws : List Keyword} {p pos : Pos} {fa : CT G → Res ((α × β) × CT G)} (mp : α → β → γ) (D : DefQ A k x n ks gV (spP A.X.K A.ca cs r F)) (hk : k ≤ A.lv) (gl : Gl A.X x) (hr : RtOk r) (ha : CAX A G pos es kws ks as bs fa) (hn : as.n = n) (hm : bs.n = ks.length)
    (see : ∀ K R vs zs x y, as.see K R vs x → bs.see K R zs y → cs.see K R (gV vs zs) (mp x y)) (hdb : (x == ("__debug__" : Str)) = false := by decide) :
    EX A G (.Call (.Name x p) es kws pos) r (fun p => Res.bind (fa p) fun y => Res.bind (F (mp y.1.1 y.1.2)) fun z => .ok (z, y.2)) := by
  obtain ⟨f, fd, ps, F1, hmg, kp, g, hb⟩ := D.ex
  refine ⟨fun pins s o H Q I ⟨p, L, w, cr, q⟩ => wpAny_Call_Name_kw (ld_glob I gl hmg ?_ hdb)⟩
  refine ha.run pins s o H (fun vs zs H1 => spP A.X.K A.ca cs r F (gV vs zs) H1 Q (WE A.W o)) (.ref f) [] _ I kp ⟨p, L, w, cr, q.bind.imp fun y _ gy vs zs L1 H1 s1 w1 c1 h1 h2 => sp_end (F := F) hr s1 s1 w1 c1 (see _ _ _ _ _ _ h1 h2) gy⟩ ?_
  intro us ws vs zs H1 s1 I1 rv rz l1 l2 hsp
  exact callAtK F1 hk I1 (hb.to s1 us ws I1.kIn (rv.length.symm.trans (l1.trans hn)) (rz.length.symm.trans (l2.trans hm))) (hb.rel rv rz) hsp
theorem ex_metP {α β γ δ ε : Type} {as : ArgC α} {bs : ArgC β} {cs : ArgC γ} {fc : FldC ε} {r : Rt δ} {F : γ → Res δ} {k n : Nat} {C : Addr} {m : Str} {ks : List Str} {gV : List V → List V → List V} {ob : Expr} {es : List Expr} {kws : List Keyword} {ap pos : Pos} {f : CT G → Res (ε × CT G)} {fa : CT G → Res ((α × β) × CT G)} {pl : Sem Bool} (mp : ε → α → β → γ) (D : MetQ A k C m n ks gV (spP A.X.K A.ca cs r F)) (hk : k ≤ A.lv) (cl : Cls A.X.K C) (nk : NoKey fc m) (hr : RtOk r) (ho : EX A G ob (rV (cIns C fc)) f) (ha : CAX A G pos es kws ks as bs fa) (hn : as.n + 1 = n) (hm : bs.n = ks.length)
    (see : ∀ K R v vs zs u x y, (cIns C fc).see K R v u → as.see K R vs x → bs.see K R zs y → cs.see K R (gV (v :: vs) zs) (mp u x y))
    (ht : eval (.Call (.Attribute ob m ap) es kws pos) A.X.env = (do
      let recv ← eval ob A.X.env
      standAt ap.atName
      let (fn, first) ← holding [recv] (getMethod recv m pl)
      callWith pos fn first (backTo pos (starEach es A.X.env)) (backToKw pos (keywordEach kws A.X.env))) := by rfl) :
    EX A G (.Call (.Attribute ob m ap) es kws pos) r (fun p => Res.bind (f p) fun y => Res.bind (fa y.2) fun z => Res.bind (F (mp y.1 z.1.1 z.1.2)) fun u => .ok (u, z.2)) := by
  obtain ⟨g, fd, ps, F1, hmt, g', hb⟩ := D.ex
  refine ⟨fun pins s o H Q I ⟨p, L, w, cr, q⟩ => ?_⟩
  have hR : tE A G (rV (cIns C fc)) f o H fun x H1 => ∃ a dx fs, x = .ref a ∧ H1 a = some (.ins C dx fs) ∧ fs.lookup m = none ∧ tAB A G as bs fa o H1 fun vs zs H2 => spP A.X.K A.ca cs r F (gV (x :: vs) zs) H2 Q (WE A.W o) :=
    run1 w cr q fun x p1 v L1 H1 s1 w1 c1 r1 g1 => by
      have r0 := r1
      obtain ⟨a, dx, fs, e1, h1, h2⟩ := r1
      subst e1
      refine ⟨a, dx, fs, rfl, rd_sub _ _ h1, look_none (nk _ _ _ _ h2), p1, L1, w1, c1, g1.bind.imp fun z _ gz vs zs L2 H2 s2 w2 c2 h3 h4 => ?_⟩
      exact sp_end (F := F) hr s2 (s1.trans s2) w2 c2 (see _ _ _ _ _ _ _ _ ((cIns C fc).mono _ _ _ _ _ s2.rd r0) h3 h4) gz
  refine PySem.W.methodCall_KW (pl := pl) (thn (ho.run pins s o H _ I hR) fun u s1 ⟨x, H1, I1, rx, a, dx, fs, ex, ea, l, q⟩ => ?_) ht
  subst ex
  obtain rfl : u = Value.ref a := rx
  refine getmeth_ok I1 ea cl hmt l ?_
  refine ha.run pins s1 o H1 _ (.ref g) [.ref a] _ I1 hmt.kp q ?_
  intro us ws vs zs H2 s2 I2 rv rz l1 l2 hsp
  have rv' : Vals (V.ref a :: vs) (Value.ref a :: us) := .cons rfl rv
  exact callAtK F1 hk I2 (hb.to s2 (.ref a :: us) ws I2.kIn (by rw [← hn, ← l1, List.length_cons, rv.length]) (rz.length.symm.trans (l2.trans hm))) (hb.rel rv' rz) hsp
theorem run_mkN {k n : Nat} {C : Addr} {f : Addr} {fd : FuncData} {ps ks : List Str} {sp : Sp} {g : List Value → List Value → List Value} {gV : List V → List V → List V} (M : Mk A.X.K C f) (F : FnG A.X.prog A.X.w A.X.K A.X.mg A.X.base k f fd ps sp) (hk : k + 1 ≤ A.lv) (hb : KBn A.X.K fd ps n ks g gV) {pins : List (Addr × Obj)} {o : St} {H : Hp} {s : Shared} {Q : VK} {us ws : List Value} {vs zs : List V} (I : Inv A.X pins o H s)
    (h : ∀ x dx, H x = none → H dx = none → dx ≠ x → sp (gV (.ref x :: vs) zs) (upd (upd H dx (.own x)) x (.ins C dx [])) (fun v H2 => v = .non ∧ Q (.ref x) H2) (WE A.W o)) (rv : Vals vs us) (rz : Vals zs ws) (l1 : vs.length + 1 = n) (l2 : zs.length = ks.length) :
    wpAny (model A.X.prog A.X.w) A.X.A (call (.ref C) us (ks.zip ws)) (EP A.X pins o Q) A.X.xe s := by
  have h1 := h (s.heap.objs.size + 1) s.heap.objs.size (I.hok.fresh (Nat.le_succ _)) (I.hok.fresh (Nat.le_refl _)) (Nat.ne_of_lt (Nat.lt_succ_self _))
  have J := Inv.made (C := C) I
  have rv1 : Vals (V.ref (s.heap.objs.size + 1) :: vs) (Value.ref (s.heap.objs.size + 1) :: us) := .cons rfl rv
  have hgu : (A.X.A.under (.builtin "type.__call__" ⟨.ref C :: us, ks.zip ws⟩)).guards = some [] := by
    first
      | (simp [Around.under, A.gd, pushGuards, Code.guards, Code.isGuard, guardIds])
      | (unfold Around.under; simp only; rw [A.gd]; decide)
  refine wpAny_call (make_map (f := f) I.kIn M.makes M.init (beq_iff_eq.mp M.fn) (codeAny_mono (F.go _ A.X.stack _ _ ⟨Value.ref (s.heap.objs.size + 1) :: us, ks.zip ws⟩ (g (Value.ref (s.heap.objs.size + 1) :: us) ws) _ _ (WE A.W o) hgu ((A.room.mono hk).make C us (ks.zip ws))
    (J.env0.make C us (ks.zip ws)) (hb.to _ (Value.ref (s.heap.objs.size + 1) :: us) ws J.kIn (by rw [← l1, List.length_cons, rv.length]) (rz.length.symm.trans l2)) (hb.rel rv1 rz) h1) fun y s' hq => ?_))
  rcases y with e | fl
  · exact passAt A.tk o pins _ _ e s' J hq
  · rcases fl with _ | _ | _ | u
    · exact False.elim hq
    · exact False.elim hq
    · exact False.elim hq
    · obtain ⟨v, H', J', ru, ev, q3⟩ := J.after hq
      subst ev
      exact ⟨ru, V.ref (s.heap.objs.size + 1), H', J', rfl, q3⟩
theorem ex_makP {α β γ δ : Type} {as : ArgC α} {bs : ArgC β} {cs : ArgC γ} {C : Addr} {fc : FldC δ} {F : γ → Res δ} {k n : Nat} {x : Str} {ks : List Str} {gV : List V → List V → List V} {es : List Expr} {kws : List Keyword} {p pos : Pos} {fa : CT G → Res ((α × β) × CT G)} (mp : α → β → γ) (D : MakQ A k x C n ks gV (spN A.X.K A.ca C cs fc F)) (hk : k + 1 ≤ A.lv) (gl : Gl A.X x) (ha : CAX A G pos es kws ks as bs fa) (hn : as.n + 1 = n) (hm : bs.n = ks.length)
    (see : ∀ K R vs zs x y, as.see K R vs x → bs.see K R zs y → ∃ ws, (∀ v, gV (v :: vs) zs = v :: ws) ∧ cs.see K R ws (mp x y)) (hdb : (x == ("__debug__" : Str)) = false := by decide) :
    EX A G (.Call (.Name x p) es kws pos) (rV (cIns C fc)) (fun p => Res.bind (fa p) fun y => Res.bind (F (mp y.1.1 y.1.2)) fun z => .ok (z, y.2)) := by
  obtain ⟨f, fd, ps, F1, M, g, hb⟩ := D.ex
  refine ⟨fun pins s o H Q I ⟨p, L, w, cr, q⟩ => wpAny_Call_Name_kw (ld_glob I gl D.mg ?_ hdb)⟩
  refine ha.run pins s o H (fun vs zs H1 => ∀ x dx, H1 x = none → H1 dx = none → dx ≠ x → spN A.X.K A.ca C cs fc F (gV (.ref x :: vs) zs) (upd (upd H1 dx (.own x)) x (.ins C dx [])) (fun v H2 => v = .non ∧ Q (.ref x) H2) (WE A.W o)) (.ref C) [] _ I M.kp ⟨p, L, w, cr, q.bind.imp fun y _ gy vs zs L1 H1 s1 w1 c1 h1 h2 x dx q1 q2 q3 => ?_⟩ ?_
  · obtain ⟨ws, e1, e2⟩ := see _ _ _ _ _ _ h1 h2
    rw [e1]
    exact make_reads (F := F) (Pg := fun _ => True) w1 c1 e2 ((gy.bind.step s1).imp fun z _ gz v L2 H2 s2 w2 c2 r2 => gz v L2 H2 (s1.trans s2) w2 c2 r2) x dx q1 q2 q3
  · intro us ws vs zs H1 s1 I1 rv rz l1 l2 hsp
    exact run_mkN M F1 hk hb I1 hsp rv rz (by rw [l1]; exact hn) (l2.trans hm)
end
end AC
set_option Elab.async false
set_option linter.all false
set_option maxRecDepth 100000
/-! TL22: isinstance. -/
namespace AC
open PySem L2 PyProof

/-- a built-in type as a value -/
def cTy (n : String) : Cod Unit := ⟨fun _ _ v _ => v = .ty n, fun _ _ _ _ _ _ h => h⟩
/-- a class as a value -/
def cCls (C : Addr) : Cod Unit := ⟨fun _ _ v _ => v = .ref C, fun _ _ _ _ _ _ h => h⟩
/-- of this type in any case -/
def TyC {α : Type} (c : Cod α) (n : String) : Prop := ∀ K R H v x, Same R H → c.see K R v x → TyX K H v (.type n)
theorem ty_i : TyC cI "int" := fun K R H v x s h => by cases h; exact .base (.int _)
theorem ty_b : TyC cB "bool" := fun K R H v x s h => by cases h; exact .base (.bl _)
theorem ty_n : TyC cN "NoneType" := fun K R H v x s h => by cases h; exact .base .non
theorem ty_s : TyC cS "str" := fun K R H v x s h => by obtain ⟨rfl, _⟩ := h; exact .base (.str _)
theorem ty_l {α : Type} {c : Cod α} : TyC (cL c) "list" := fun K R H v x s ⟨a, vs, e, h, _⟩ => by subst e; exact .base (.lst (s _ _ h))
theorem ty_sl {K : Frag} {H : Hp} {a : Addr} {vs : List V} (h : SqL K H a vs) : TyX K H (.ref a) (.type "list") := by
  rcases h with h | ⟨o, its, n, h1, h2, _⟩
  · rcases h with h | ⟨o, h⟩
    · exact .base (.lst h)
    · exact .base (.frz h)
  · exact .kList h1 h2
theorem ty_h {α : Type} {as : ArgC α} : TyC (cH as) "list" := fun K R H v x s ⟨a, vs, e, h, _⟩ => by subst e; exact ty_sl (s.seq h)
theorem ty_st {K : Frag} {R H : Hp} {a : Addr} {vs : List V} (s : Same R H) (h : SeeT K R a vs) : TyX K H (.ref a) (.type "tuple") := by
  rcases h with h | ⟨o, h⟩ | ⟨o, its, n, h1, h2, _⟩
  · exact .base (.tup (s _ _ h))
  · exact .fTuple (s _ _ h)
  · exact .kTuple h1 h2
theorem ty_t {α : Type} {as : ArgC α} : TyC (cT as) "tuple" := fun K R H v x s ⟨a, vs, e, h, _⟩ => by subst e; exact ty_st s h
theorem ty_tv {α : Type} {c : Cod α} : TyC (cTV c) "tuple" := fun K R H v x s ⟨a, vs, e, h, _⟩ => by subst e; exact ty_st s h
/-- what isinstance asks of an own class -/
structure IsiC (K : Frag) (C : Addr) : Prop where
  cl : Cls K C
  ha : PySem.W.findIn K (.ref C) "__class__" = some (some (.builtin "object.__class__"))
  hn : PySem.W.specialIn K (.builtin "object.__class__") "__get__" = some (some (.builtin "getset_descriptor.__get__"))
  htk : PySem.W.takesIn K (.builtin "object.__class__") = some true
  hm : PySem.W.mroIn K C (.type "object") = some true
theorem ty_ins {α : Type} {C : Addr} {fc : FldC α} {K : Frag} (q : IsiC K C) : ∀ R H v x, Same R H → (cIns C fc).see K R v x → TyX K H v (.ref C) := fun R H v x s ⟨a, dx, fs, e, h, _⟩ => by
  subst e
  exact .base (.ins (s _ _ h) q.cl q.ha q.hn q.htk q.hm)
section
variable {A : Amb} {G G' : Ctx} {ρ : Type} {R : Rr ρ}
theorem ex_ty {x : Str} {n : String} {pos : Pos} (hg : Gl A.X x) (hm : A.X.mg x = none) (hv : bootBuiltins x = some (.type n) := by decide +kernel) (hn : x ≠ "__name__" := by decide) (hd : (x == ("__debug__" : Str)) = false := by decide) : EX A G (.Name x pos) (rV (cTy n)) (fun p => .ok ((), p)) :=
  ex_c (pe_bltn hg hm hv (v := .ty n) rfl hn hd) fun _ _ => rfl
theorem ex_cls {x : Str} {C : Addr} {pos : Pos} (hg : Gl A.X x) (D : ClsG A.X.K A.X.mg x C) (hd : (x == ("__debug__" : Str)) = false := by decide) : EX A G (.Name x pos) (rV (cCls C)) (fun p => .ok ((), p)) :=
  ex_c (pe_glob hg D.mg (v := .ref C) rfl hd) fun _ _ => rfl
/-- isinstance(x, T), both built-in -/
theorem ct_isi {α : Type} {c : Cod α} {n m : String} {b : Bool} (h : TyC c n) (hk : kitB n m = some b := by decide +kernel) : CalT A (.builtin "isinstance") (aCons c (aOne (cTy m))) (fun _ => some b) (rV cB) := cal_of call_isi fun L H vs x z Q w ⟨v, ws, e, h1, v2, e2, h2⟩ hz q => by
  subst e e2
  cases h2
  cases hz
  exact ⟨v, .ty m, .type n, .type m, b, rfl, .ty m, h _ _ _ _ _ rd_sub h1, kit_ty hk, q _ rfl⟩
/-- isinstance(x, C) of a value of a built-in type -/
theorem ct_isiC {α : Type} {c : Cod α} {n : String} {C : Addr} {b : Bool} (h : TyC c n) (hk : PySem.W.kitOne A.X.K (.type n) (.ref C) = some b) : CalT A (.builtin "isinstance") (aCons c (aOne (cCls C))) (fun _ => some b) (rV cB) := cal_of call_isi fun L H vs x z Q w ⟨v, ws, e, h1, v2, e2, h2⟩ hz q => by
  subst e e2
  cases h2
  cases hz
  exact ⟨v, .ref C, .type n, .ref C, b, rfl, .own C, h _ _ _ _ _ rd_sub h1, hk, q _ rfl⟩
/-- isinstance(x, C) of an instance of an own class -/
theorem ct_isiI {α : Type} {C D : Addr} {fc : FldC α} {b : Bool} (h : IsiC A.X.K C) (hk : PySem.W.kitOne A.X.K (.ref C) (.ref D) = some b) : CalT A (.builtin "isinstance") (aCons (cIns C fc) (aOne (cCls D))) (fun _ => some b) (rV cB) := cal_of call_isi fun L H vs x z Q w ⟨v, ws, e, h1, v2, e2, h2⟩ hz q => by
  subst e e2
  cases h2
  cases hz
  exact ⟨v, .ref D, .ref C, .ref D, b, rfl, .own D, ty_ins h _ _ _ _ rd_sub h1, hk, q _ rfl⟩
end
end AC
set_option Elab.async false
set_option linter.all false
set_option maxRecDepth 100000
/-! TL23: a head's facts, widened: getters, isinstance. -/
namespace AC
open PySem L2 PyProof PyProof.Rows PySem.Spec

/-- where a def stands: a name of the module's, a method, a property's getter -/
inductive Ad where
  | glo (x : Str) | met (x m : Str) | gtr (x m : Str)
def gtrA (K : Frag) (x m : Str) : Addr := match PySem.W.recIn K (He.ma K (He.ga K x) m) "property" with
  | some (.ref g :: _) => g
  | _ => 0
def Ad.ad (K : Frag) : Ad → Addr
  | .glo x => He.ga K x
  | .met x m => He.ma K (He.ga K x) m
  | .gtr x m => gtrA K x m
structure DfE where
  at_ : Ad
  name : Str
  qual : Str
  params : Arguments
  body : List Stmt
  scope : Scope
  dfl : List He.Dv
def fdE (K : Frag) (a : Addr) : Option FuncData := match K.lookup a with
  | some ⟨_, _, .func fd, _⟩ => some fd
  | _ => none
def DfE.dvs (K : Frag) (d : DfE) : List V := d.dfl.map (He.Dv.v K)
def fwE (K : Frag) (p : Ad) : He.FnW := (fdE K (p.ad K)).map fun q => (q.name, q.qualname, q.params, q.body, q.scope, q.globals, q.closure, q.builtins)
def DfE.val (d : DfE) : He.FnW := some (d.name, d.qual, d.params, .stmts d.body, d.scope, mainGlobals, [], builtinsNs)
def DfE.ok (K : Frag) (d : DfE) : Bool := PySem.W.keepIn K (.ref (d.at_.ad K)) && match fdE K (d.at_.ad K) with
  | some q => PySem.W.codeIn K q.code d.qual && He.dflB K q.defaults (d.dvs K)
  | none => false
theorem DfE.fun_ {K : Frag} {d : DfE} (e : fwE K d.at_ = d.val) (c : d.ok K = true) : ∃ fd, FunD K d.name d.qual d.params d.body d.scope (d.dvs K) [] (d.at_.ad K) fd := by
  obtain ⟨kp, c2⟩ := He.ba c
  unfold fwE at e
  cases q : fdE K (d.at_.ad K) with
  | none => rw [q] at c2; cases c2
  | some fd =>
    rw [q] at c2 e
    have hl : ∃ oc od osl, K.lookup (d.at_.ad K) = some ⟨oc, od, .func fd, osl⟩ := by
      unfold fdE at q
      split at q
      · rename_i oc od fd' osl e'
        cases q
        exact ⟨_, _, _, e'⟩
      · cases q
    obtain ⟨oc, od, osl, hl⟩ := hl
    obtain ⟨m1, m2, m3, m4, m5, m6, m7, m8, m9, m10, m11, m12, m13, m14, m15⟩ := fd
    have e2 : (some (m1, m2, m3, m4, m5, m6, m7, m15) : He.FnW) = some (d.name, d.qual, d.params, .stmts d.body, d.scope, mainGlobals, [], builtinsNs) := e
    simp only [Option.some.injEq, Prod.mk.injEq] at e2
    obtain ⟨h1, h2, h3, h4, h5, h6, h7, h8⟩ := e2
    subst h1 h2 h3 h4 h5 h6 h7 h8
    obtain ⟨k1, k2⟩ := He.ba (show (PySem.W.codeIn K m13 d.qual && He.dflB K m8 (d.dvs K)) = true from c2)
    exact ⟨_, ⟨⟨oc, od, m8, m9, m10, m11, m12, m13, m14, osl, rfl, hl, k1, He.dflB_ok k2, .inl rfl⟩, kp⟩⟩
def hdR : Option (List Value) → Bool
  | some (.ref _ :: _) => true
  | _ => false
theorem hdR_ok {K : Frag} {x m : Str} (h : hdR (PySem.W.recIn K (He.ma K (He.ga K x) m) "property") = true) : ∃ rest, PySem.W.recIn K (He.ma K (He.ga K x) m) "property" = some (.ref (gtrA K x m) :: rest) := by
  unfold gtrA
  cases e : PySem.W.recIn K (He.ma K (He.ga K x) m) "property" with
  | none => rw [e] at h; cases h
  | some l =>
    rw [e] at h
    cases l with
    | nil => cases h
    | cons v r =>
      cases v with
      | ref g => exact ⟨r, rfl⟩
      | _ => cases h
/-- an empty tuple -/
def tzB (K : Frag) (a : Addr) : Bool := match K.lookup a with
  | some ⟨.type c, _, .seq its _, _⟩ => decide (c = "tuple") && decide (its.toList = [])
  | _ => false
structure TupZ (K : Frag) (a : Addr) : Prop where
  ex : ∃ (o : Obj) (its : Array Value) (n : Nat), K.lookup a = some o ∧ o.cls = .type "tuple" ∧ o.data = .seq its n ∧ its.toList = []
theorem tzB_ok {K : Frag} {a : Addr} (h : tzB K a = true) : TupZ K a := by
  unfold tzB at h
  split at h
  · rename_i e
    obtain ⟨h1, h2⟩ := He.ba h
    have h1 := of_decide_eq_true h1
    subst h1
    exact ⟨_, _, _, e, rfl, rfl, of_decide_eq_true h2⟩
  · cases h
theorem tz_see {α : Type} {c : Cod α} {K : Frag} {R : Hp} {a : Addr} (t : TupZ K a) : (cTV c).see K R (.ref a) [] := by
  obtain ⟨o, its, n, h1, h2, h3, h4⟩ := t.ex
  refine ⟨a, [], rfl, .inr (.inr ⟨o, its, n, h1, h2, h3, ?_, ?_⟩), Nat.zero_le _, .nil⟩
  · have : its.size = 0 := by rw [← Array.length_toList, h4]; rfl
    omega
  · rw [h4]; exact .nil
/-- more facts -/
inductive Fe where
  | prop (x m : Str) | isi (x : Str) | kit (x y : Str) (b : Bool) | kty (n : String) (y : Str) (b : Bool) | nee (x : Str) | tz (p : Frag → Addr)
def Fe.ok (K : Frag) : Fe → Bool
  | .prop x m => He.eqO (PySem.W.findIn K (.ref (He.ga K x)) m) (some (some (.ref (He.ma K (He.ga K x) m)))) && (He.eqO (PySem.W.specialIn K (.ref (He.ma K (He.ga K x) m)) "__get__") (some (some (.builtin "property.__get__"))) && (decide (PySem.W.takesIn K (.ref (He.ma K (He.ga K x) m)) = some true) && hdR (PySem.W.recIn K (He.ma K (He.ga K x) m) "property")))
  | .isi x => He.eqO (PySem.W.findIn K (.ref (He.ga K x)) "__class__") (some (some (.builtin "object.__class__"))) && (He.eqO (PySem.W.specialIn K (.builtin "object.__class__") "__get__") (some (some (.builtin "getset_descriptor.__get__"))) && (decide (PySem.W.takesIn K (.builtin "object.__class__") = some true) && decide (PySem.W.mroIn K (He.ga K x) (.type "object") = some true)))
  | .kit x y b => decide (PySem.W.kitOne K (.ref (He.ga K x)) (.ref (He.ga K y)) = some b)
  | .kty n y b => decide (PySem.W.kitOne K (.type n) (.ref (He.ga K y)) = some b)
  | .nee x => He.eqO (PySem.W.findIn K (.ref (He.ga K x)) "__ne__") (some (some (.builtin "object.__ne__"))) && decide (PySem.W.mroIn K (He.ga K x) (.type "object") = some true)
  | .tz p => tzB K (p K)

section
variable {K : Frag}
theorem prop_ok {x m : Str} (c : (Fe.prop x m).ok K = true) : PropOf K (He.ga K x) m (He.ma K (He.ga K x) m) (gtrA K x m) := by
  obtain ⟨c1, c⟩ := He.ba c
  obtain ⟨c2, c⟩ := He.ba c
  obtain ⟨c3, c4⟩ := He.ba c
  exact ⟨He.eqO_ok c1, He.eqO_ok c2, of_decide_eq_true c3, hdR_ok c4⟩
theorem isi_ok {x : Str} (cl : Cls K (He.ga K x)) (c : (Fe.isi x).ok K = true) : IsiC K (He.ga K x) := by
  obtain ⟨c1, c⟩ := He.ba c
  obtain ⟨c2, c⟩ := He.ba c
  obtain ⟨c3, c4⟩ := He.ba c
  exact ⟨cl, He.eqO_ok c1, He.eqO_ok c2, of_decide_eq_true c3, of_decide_eq_true c4⟩
/-- the class leaves != to object -/
structure NeC (K : Frag) (C : Addr) : Prop where
  hm : PySem.W.mroIn K C (.type "object") = some true
  ne : PySem.W.findIn K (.ref C) "__ne__" = some (some (.builtin "object.__ne__"))
theorem nee_ok {x : Str} (c : (Fe.nee x).ok K = true) : NeC K (He.ga K x) := by
  obtain ⟨c1, c2⟩ := He.ba c
  exact ⟨of_decide_eq_true c2, He.eqO_ok c1⟩
theorem tz_ok {p : Frag → Addr} (c : (Fe.tz p).ok K = true) : TupZ K (p K) := tzB_ok c
theorem kit_ok {x y : Str} {b : Bool} (c : (Fe.kit x y b).ok K = true) : PySem.W.kitOne K (.ref (He.ga K x)) (.ref (He.ga K y)) = some b := of_decide_eq_true c
theorem kty_ok {n : String} {y : Str} {b : Bool} (c : (Fe.kty n y b).ok K = true) : PySem.W.kitOne K (.type n) (.ref (He.ga K y)) = some b := of_decide_eq_true c
end
/-! ### the hook -/
abbrev AlE : Type := Bool × List He.FnW
def obsF (fa : List He.Fa) (fe : List Fe) (fn : List DfE) (K : Frag) : AlE := ((fa.all (·.ok K)) && ((fe.all (·.ok K)) && fn.all (·.ok K)), fn.map fun d => fwE K d.at_)
def valE (fn : List DfE) : AlE := (true, fn.map DfE.val)
def obsE (n : Nat) (fa : List He.Fa) (fe : List Fe) (fn : List DfE) (g : Addr → Option Obj) : AlE := obsF fa fe fn (He.frG g (He.asD g n))
def SaysE (fa : List He.Fa) (fe : List Fe) (fn : List DfE) (K : Frag) : Prop := obsF fa fe fn K = valE fn
def hookE (n : Nat) (fa : List He.Fa) (fe : List Fe) (fn : List DfE) : PySem.W.Hook :=
  { α := AlE, obs := fun st => obsE n fa fe fn st.heap.get?, val := fun _ => valE fn, says := fun _ hp => ∃ K : Frag, K.In hp ∧ SaysE fa fe fn K, of := fun _ _ q => ⟨_, He.frG_in, q⟩, keeps := fun _ _ _ ⟨K, hK, c⟩ kk => ⟨K, PySem.W.Frag.In.keeps hK kk, c⟩ }
theorem obsE_eq {n : Nat} {fa : List He.Fa} {fe : List Fe} {fn : List DfE} {g : Addr → Option Obj} {st : Shared} (h : ∀ a, g a = st.heap.get? a) : obsE n fa fe fn g = (hookE n fa fe fn).obs st := by
  obtain rfl : g = st.heap.get? := funext h
  rfl
section
variable {fa : List He.Fa} {fe : List Fe} {fn : List DfE} {K : Frag}
theorem SaysE.bits (c : SaysE fa fe fn K) : fa.all (·.ok K) = true ∧ fe.all (·.ok K) = true ∧ fn.all (·.ok K) = true := by
  obtain ⟨h1, h2⟩ := He.ba (show (fa.all (·.ok K) && (fe.all (·.ok K) && fn.all (·.ok K))) = true from congrArg (fun z : AlE => z.1) c)
  exact ⟨h1, He.ba h2⟩
theorem SaysE.fact (c : SaysE fa fe fn K) (i : Nat) {f : He.Fa} (h : fa[i]? = some f) : f.ok K = true := List.all_eq_true.mp c.bits.1 f (List.mem_of_getElem? h)
theorem SaysE.more (c : SaysE fa fe fn K) (i : Nat) {f : Fe} (h : fe[i]? = some f) : f.ok K = true := List.all_eq_true.mp c.bits.2.1 f (List.mem_of_getElem? h)
theorem SaysE.def_ (c : SaysE fa fe fn K) (i : Nat) {d : DfE} (h : fn[i]? = some d) : ∃ fd, FunD K d.name d.qual d.params d.body d.scope (d.dvs K) [] (d.at_.ad K) fd := by
  have e : (fn.map fun d => fwE K d.at_)[i]? = (fn.map DfE.val)[i]? := congrArg (fun z : AlE => z.2[i]?) c
  rw [List.getElem?_map, List.getElem?_map, h] at e
  exact DfE.fun_ (Option.some.inj e) (List.all_eq_true.mp c.bits.2.2 d (List.mem_of_getElem? h))
end
end AC
set_option Elab.async false
set_option linter.all false
set_option maxRecDepth 100000
/-! TL24: tuples made by tuple(..), that are known to have no dict: their methods. -/
namespace AC
open PySem L2 PyProof PyProof.Rows PySem.Spec
/-- a tuple without a dict -/
def cTN {α : Type} (c : Cod α) : Cod (List α) := ⟨fun K R v xs => ∃ a o vs, v = .ref a ∧ R a = some (.frz o (.tup vs)) ∧ o.dict = none ∧ vs.length ≤ sizeLine ∧ Paired (fun v x => c.see K R v x) vs xs, fun K R R' v x s ⟨a, o, vs, e, h, hd, hl, h'⟩ => ⟨a, o, vs, e, s _ _ h, hd, hl, paired_mono (fun _ _ q => c.mono K R R' _ _ s q) h'⟩⟩
theorem sub_tn {α : Type} {c : Cod α} : Sub (cTN c) (cTV c) id := fun K R v x ⟨a, o, vs, e, h, hd, hl, h'⟩ => ⟨a, vs, e, .inr (.inl ⟨o, h⟩), hl, h'⟩
theorem hd_tn {α : Type} {c : Cod α} (h : HardC c) : HardC (cTN c) := fun K R1 R2 v x s ⟨a, o, vs, e, q, hd, hl, q'⟩ => ⟨a, o, vs, e, s a _ q fun h => h, hd, hl, paired_mono (fun _ _ z => h K R1 R2 _ _ s z) q'⟩
section
variable {A : Amb} {G G' : Ctx}
theorem call_tupleN {X : Cx} : CallR X (.type "tuple") (fun xs H Q => ∃ p ys, xs = [.ref p] ∧ SqL X.K H p ys ∧ ∀ l o, o.dict = none → H l = none → Q (.ref l) (upd H l (.frz o (.tup ys)))) := by
  intro pins s σ H xs us Q I r ⟨p, ys, ex, hq, q⟩
  subst ex
  obtain ⟨u, rfl, rx⟩ := vals1 r
  cases rx
  obtain ⟨its, r', pl, hz⟩ := I.list hq
  have hlen := r'.length
  refine call_tuple_list pl.isList (fun h' kp => ?_) (by simp only [List.size_toArray]; omega)
  have I1 : Inv X pins σ H { s with heap := h' } := I.kept (t' := s.toks) kp
  have I2 : Inv X pins σ (upd H h'.objs.size (.frz { cls := .type "tuple", data := .seq its.toArray } (.tup ys))) { s with heap := h'.push { cls := .type "tuple", data := .seq its.toArray } } :=
    I1.laid (t' := s.toks) (fun b o e => Heap.get?_push_of_some _ e) (Nat.le_refl _) (show ObjOk X.prog X.w _ _ _ (.frz _ (.tup ys)) from ⟨Heap.get?_push_size _ rfl, hz, its, r', IsTup.new _ _⟩)
  exact ⟨.ref h'.objs.size, _, I2, rfl, q _ _ rfl (I1.hok.fresh (Nat.le_refl _))⟩
theorem ct_tupleN {α : Type} {c : Cod α} : CalT A (.type "tuple") (aOne (cL c)) (fun xs => some xs) (rV (cTN c)) := ⟨_, call_tupleN, fun L H vs x z Q w ⟨v, e, a, ws, e1, h1, l1, p1⟩ h2 q => by
  subst e e1
  cases h2
  refine ⟨a, ws, rfl, SqL.of (rd_sub _ _ h1), fun p o hd hp => ?_⟩
  obtain ⟨t1, t2⟩ := ext_val (o := .frz o (.tup ws)) w hp
  exact q _ _ _ t1 t2 ⟨p, o, ws, rfl, rd_mk setL_same upd_same, hd, l1, paired_mono (fun _ _ q => c.mono _ _ _ _ _ t1.stp.rd q) p1⟩⟩
/-- a tuple of H without a dict -/
def tyN (x : V) (H : Hp) : Prop := ∃ a o vs, x = .ref a ∧ H a = some (.frz o (.tup vs)) ∧ o.dict = none
theorem tyN_is {X : Cx} {pins : List (Addr × Obj)} {o : L2.St} {H : Hp} {s : Shared} {x : V} {v : Value} (I : Inv X pins o H s) (r : RelV x v) (ty : tyN x H) : s.TypeIs v "tuple" ∧ ∀ a, v = .ref a → ∃ ob, s.heap.get? a = some ob ∧ ob.dict = none := by
  obtain ⟨a, ob, vs, rfl, ha, hd⟩ := ty
  obtain rfl : v = Value.ref a := r
  obtain ⟨h0, _, its, _, o2, h1, h2, _⟩ := (show ObjOk X.prog X.w H s.heap a (.frz ob (.tup vs)) from I.hok a _ ha)
  exact ⟨⟨o2, h1, h2⟩, fun b e => by cases e; exact ⟨ob, h0, hd⟩⟩
def idxS (xs : List Str) (y : Str) : Option Int := (xs.findIdx? fun x => decide (x = y)).map fun j => (j : Int)
/-- t.index(z) -/
theorem ex_indexN {a e : Expr} {ap cp : Pos} {f : CT G → Res (List Str × CT G)} {fa : CT G → Res (Str × CT G)} (ho : EX A G a (rV (cTN cS)) f) (ha : EX A G e (rV cS) fa)
    (hbase : attributeBase a "index" A.X.env (eval a A.X.env) = eval a A.X.env := by rfl)
    (hfew : ((backTo cp (starEach [e] A.X.env)).all (fun x => !x.1) && (backToKw cp (keywordEach [] A.X.env)).all (fun x => x.1.isSome) && decide ([e].length + ([] : List Keyword).length + (if ([] : List Keyword).isEmpty then 0 else 1) < 30)) = true := by rfl)
    (hline : (ap.endLine == cp.line) = true := by rfl) (hs : starEach [e] A.X.env = (false, eval e A.X.env) :: starEach [] A.X.env := by rfl) (hplain : (backTo cp (starEach [] A.X.env)).any (·.1) = false := by rfl) :
    EX A G (.Call (.Attribute a "index" ap) [e] [] cp) (rV cI) (fun p => Res.bind (f p) fun y => Res.bind (fa y.2) fun z => Res.bind (ofO (idxS y.1 z.1)) fun w => .ok (w, z.2)) := by
  refine ⟨fun pins s o H Q I ⟨p, L, w, cr, kk⟩ => ?_⟩
  have hR : tE A G (rV (cTN cS)) f o H fun x H1 => tyN x H1 ∧ tA A G (aOne cS) (fun p => fa p) o H1 fun xs H2 => ∃ p, ∃ ys : List Str, ∃ z j, x = .ref p ∧ xs = [.str z] ∧ SqT A.X.K H2 p (ys.map V.str) ∧ ys[j]? = some z ∧ (∀ m, m < j → ys[m]? ≠ some z) ∧ Q (.int (j : Nat)) H2 :=
    run1 w cr kk fun x p1 v L1 H1 s1 w1 c1 r1 g1 => by
      obtain ⟨b, ob, vs, e1, h1, hd, hl, hp⟩ := r1
      subst e1
      refine ⟨⟨b, ob, vs, rfl, rd_sub _ _ h1, hd⟩, p1, L1, w1, c1, g1.bind.imp fun y _ gy ws L2 H2 s2 w2 c2 ⟨v2, e2, r2⟩ => ?_⟩
      subst e2
      obtain ⟨z, ez, g3⟩ := good_ofO gy
      unfold idxS at ez
      cases ej : x.findIdx? fun z => decide (z = y.1) with
      | none => rw [ej] at ez; cases ez
      | some j =>
        rw [ej] at ez
        cases ez
        obtain ⟨hj, hpj, hno⟩ := List.findIdx?_eq_some_iff_getElem.mp ej
        have e := strs_of hp
        subst e
        obtain ⟨rfl, _⟩ := r2
        refine ⟨b, x, y.1, j, rfl, rfl, .inl (.inr ⟨ob, rd_sub _ _ (s2.rd _ _ h1)⟩), ?_, fun m hm he => ?_, g3 (.int (j : Nat)) L2 H2 (s1.trans s2) w2 c2 rfl⟩
        · rw [List.getElem?_eq_getElem hj]
          exact congrArg some (of_decide_eq_true hpj)
        · have hl : m < x.length := by omega
          rw [List.getElem?_eq_getElem hl] at he
          have := hno m hm
          simp [Option.some.inj he] at this
  refine wpAny_Call_method_late hbase hfew hline rfl (thn (ho.run pins s o H _ I hR) fun v s1 ⟨x, H1, I1, r1, ty, q1⟩ => ?_)
  obtain ⟨h1, h2⟩ := tyN_is I1 r1 ty
  refine ⟨"tuple", "tuple.index", PySem.F.plainAttrs_tuple, PySem.F.slot_tuple_index, rfl, h1, h2, ?_⟩
  have hA := (ax_one (c := cS) ha hs).run cp pins s1 o H1 _ I1 (by exact q1)
  rw [hs] at hA ⊢
  refine Calls.callWith_builtin (by show (false || (backTo cp (starEach [] A.X.env)).any (·.1)) = false; rw [hplain] <;> rfl) (Calls.evalArgs_plain ?_)
  exact thn hA fun us s2 ⟨vs, H2, I2, r2, q2⟩ => mt_tup_index pins s2 o H2 x vs v us Q I2 r1 r2 q2
end
end AC
set_option Elab.async false
set_option linter.all false
set_option maxRecDepth 100000
/-! TL25: trees of one's own: tuples with own parts, places within. -/
namespace AC
open PySem L2 PyProof

/-- of a thing at path l only what lies under l counts -/
def LocO {α : Type} (oc : OCod α) : Prop := ∀ K R R' M M' H H' l v x, Same R R' → (∀ a m, l <:+ m → M a = some m → M' a = some m ∧ H' a = H a) → oc.own K R M H l v x → oc.own K R' M' H' l v x
theorem suf_item {l m : List Nat} {i : Nat} (h : (0 :: i :: l) <:+ m) : l <:+ m := by
  obtain ⟨t, e⟩ := h
  exact ⟨t ++ [0, i], by rw [← e]; simp⟩
theorem suf_ne {l : List Nat} {i : Nat} (h : (0 :: i :: l) <:+ l) : False := by
  have := h.length_le
  simp at this
  omega
theorem suf_two {l m : List Nat} {i j : Nat} (h : (0 :: i :: l) <:+ m) (h' : (0 :: j :: l) <:+ m) : i = j := by
  obtain ⟨t, e⟩ := h
  obtain ⟨t', e'⟩ := h'
  have := (List.append_inj' (e.trans e'.symm) (by simp)).2
  simpa using this
theorem lo_l {α : Type} {c : Cod α} : LocO (oL c) := fun K R R' M M' H H' l v x s t ⟨p, vs, e, hm, hp, hl, h'⟩ => ⟨p, vs, e, (t p l (List.suffix_refl _) hm).1, (t p l (List.suffix_refl _) hm).2.trans hp, hl, paired_mono (fun _ _ q => c.mono K R R' _ _ s q) h'⟩
theorem lo_d {κ α : Type} {kc : KeyC κ} {c : Cod α} : LocO (oD kc c) := fun K R R' M M' H H' l v x s t ⟨p, vs, e, hm, hp, hl, h'⟩ => ⟨p, vs, e, (t p l (List.suffix_refl _) hm).1, (t p l (List.suffix_refl _) hm).2.trans hp, hl, paired_mono (fun _ _ q => q.mono s) h'⟩
theorem lo_ll {α : Type} {oc : OCod α} (h : LocO oc) : LocO (oLL oc) := fun K R R' M M' H H' l v x s t ⟨p, vs, e, hm, hp, hl, hn, h'⟩ => ⟨p, vs, e, (t p l (List.suffix_refl _) hm).1, (t p l (List.suffix_refl _) hm).2.trans hp, hl, hn, fun i v x h1 h2 => h _ _ _ _ _ _ _ _ _ _ s (fun a m q => t a m (suf_item q)) (h' i v x h1 h2)⟩

theorem soft_nt {l : List Nat} {o : HO} (h : SoftO o) : NonTup l (some o) := by
  show if insL l then (∀ xs, o ≠ .tup xs) else SoftO o
  split
  · intro xs e
    subst e
    exact h
  · exact h
/-! ### some things in a row, of which some are one's own -/
structure OArg (α : Type) where
  own : Frag → Hp → (Addr → Option (List Nat)) → Hp → List Nat → Nat → List V → α → Prop
  mono : ∀ (K : Frag) (R R' : Hp) (M M' : Addr → Option (List Nat)) (H H' : Hp) (l : List Nat) (k : Nat) (vs : List V) (x : α), Same R R' → (∀ a m, M a = some m → M' a = some m ∧ H' a = H a) → own K R M H l k vs x → own K R' M' H' l k vs x
  n : Nat
  len : ∀ K R M H l k vs x, own K R M H l k vs x → vs.length = n
def oV1 {α : Type} (c : Cod α) : OArg α := ⟨fun K R _ _ _ _ vs x => ∃ v, vs = [v] ∧ c.see K R v x, fun K R R' _ _ _ _ _ _ vs x s _ ⟨v, e, h⟩ => ⟨v, e, c.mono _ _ _ _ _ s h⟩, 1, fun _ _ _ _ _ _ _ _ ⟨_, e, _⟩ => by rw [e]; rfl⟩
def oO1 {α : Type} (oc : OCod α) : OArg α := ⟨fun K R M H l k vs x => ∃ v, vs = [v] ∧ oc.own K R M H (0 :: k :: l) v x, fun K R R' _ _ _ _ _ _ vs x s t ⟨v, e, h⟩ => ⟨v, e, oc.mono _ _ _ _ _ _ _ _ _ _ s t h⟩, 1, fun _ _ _ _ _ _ _ _ ⟨_, e, _⟩ => by rw [e]; rfl⟩
def oVc {α β : Type} (c : Cod α) (as : OArg β) : OArg (α × β) := ⟨fun K R M H l k vs x => ∃ v ws, vs = v :: ws ∧ c.see K R v x.1 ∧ as.own K R M H l (k + 1) ws x.2, fun K R R' _ _ _ _ _ _ vs x s t ⟨v, ws, e, h, h'⟩ => ⟨v, ws, e, c.mono _ _ _ _ _ s h, as.mono _ _ _ _ _ _ _ _ _ _ _ s t h'⟩, as.n + 1,
  fun _ _ _ _ _ _ _ _ ⟨_, _, e, _, h⟩ => by rw [e, List.length_cons, as.len _ _ _ _ _ _ _ _ h]⟩
def oOc {α β : Type} (oc : OCod α) (as : OArg β) : OArg (α × β) := ⟨fun K R M H l k vs x => ∃ v ws, vs = v :: ws ∧ oc.own K R M H (0 :: k :: l) v x.1 ∧ as.own K R M H l (k + 1) ws x.2, fun K R R' _ _ _ _ _ _ vs x s t ⟨v, ws, e, h, h'⟩ => ⟨v, ws, e, oc.mono _ _ _ _ _ _ _ _ _ _ s t h, as.mono _ _ _ _ _ _ _ _ _ _ _ s t h'⟩, as.n + 1,
  fun _ _ _ _ _ _ _ _ ⟨_, _, e, _, h⟩ => by rw [e, List.length_cons, as.len _ _ _ _ _ _ _ _ h]⟩
/-- a tuple with parts of one's own: the tuple itself may be read -/
def oT {α : Type} (as : OArg α) : OCod α := ⟨fun K R M H l v x => ∃ a vs, v = .ref a ∧ SeeT K R a vs ∧ as.own K R M H l 0 vs x, fun K R R' M M' H H' l v x s t ⟨a, vs, e, h, h'⟩ => ⟨a, vs, e, h.same s, as.mono _ _ _ _ _ _ _ _ _ _ _ s t h'⟩⟩
def LocA {α : Type} (as : OArg α) : Prop := ∀ K R R' M M' H H' l k vs x, Same R R' → (∀ a m i, k ≤ i → (0 :: i :: l) <:+ m → M a = some m → M' a = some m ∧ H' a = H a) → as.own K R M H l k vs x → as.own K R' M' H' l k vs x
theorem la_v1 {α : Type} {c : Cod α} : LocA (oV1 c) := fun K R R' M M' H H' l k vs x s t ⟨v, e, h⟩ => ⟨v, e, c.mono _ _ _ _ _ s h⟩
theorem la_o1 {α : Type} {oc : OCod α} (h : LocO oc) : LocA (oO1 oc) := fun K R R' M M' H H' l k vs x s t ⟨v, e, q⟩ => ⟨v, e, h _ _ _ _ _ _ _ _ _ _ s (fun a m z => t a m k (Nat.le_refl _) z) q⟩
theorem la_vc {α β : Type} {c : Cod α} {as : OArg β} (h : LocA as) : LocA (oVc c as) := fun K R R' M M' H H' l k vs x s t ⟨v, ws, e, q, q'⟩ => ⟨v, ws, e, c.mono _ _ _ _ _ s q, h _ _ _ _ _ _ _ _ _ _ _ s (fun a m i hi z => t a m i (by omega) z) q'⟩
theorem la_oc {α β : Type} {oc : OCod α} {as : OArg β} (h0 : LocO oc) (h : LocA as) : LocA (oOc oc as) := fun K R R' M M' H H' l k vs x s t ⟨v, ws, e, q, q'⟩ => ⟨v, ws, e, h0 _ _ _ _ _ _ _ _ _ _ s (fun a m z => t a m k (Nat.le_refl _) z) q, h _ _ _ _ _ _ _ _ _ _ _ s (fun a m i hi z => t a m i (by omega) z) q'⟩
theorem lo_t {α : Type} {as : OArg α} (h : LocA as) : LocO (oT as) := fun K R R' M M' H H' l v x s t ⟨a, vs, e, q, q'⟩ => ⟨a, vs, e, q.same s, h _ _ _ _ _ _ _ _ _ _ _ s (fun a m i _ z => t a m (suf_item z)) q'⟩
def FrzA {α : Type} (as : OArg α) (cs : ArgC α) : Prop := ∀ K R R' M H l k vs x, Same R R' → (∀ a m, M a = some m → insL m = false → R' a = H a) → as.own K R M H l k vs x → cs.see K R' vs x
theorem fa_v1 {α : Type} {c : Cod α} : FrzA (oV1 c) (aOne c) := fun K R R' M H l k vs x s t ⟨v, e, q⟩ => ⟨v, e, c.mono _ _ _ _ _ s q⟩
theorem fa_o1 {α : Type} {oc : OCod α} {c : Cod α} (h : FrzP oc c) : FrzA (oO1 oc) (aOne c) := fun K R R' M H l k vs x s t ⟨v, e, q⟩ => ⟨v, e, h _ _ _ _ _ _ _ _ rfl s t q⟩
theorem fa_vc {α β : Type} {c : Cod α} {as : OArg β} {cs : ArgC β} (h : FrzA as cs) : FrzA (oVc c as) (aCons c cs) := fun K R R' M H l k vs x s t ⟨v, ws, e, q, q'⟩ => ⟨v, ws, e, c.mono _ _ _ _ _ s q, h _ _ _ _ _ _ _ _ _ s t q'⟩
theorem fa_oc {α β : Type} {oc : OCod α} {c : Cod α} {as : OArg β} {cs : ArgC β} (h0 : FrzP oc c) (h : FrzA as cs) : FrzA (oOc oc as) (aCons c cs) := fun K R R' M H l k vs x s t ⟨v, ws, e, q, q'⟩ => ⟨v, ws, e, h0 _ _ _ _ _ _ _ _ rfl s t q, h _ _ _ _ _ _ _ _ _ s t q'⟩
theorem frzp_t {α : Type} {as : OArg α} {cs : ArgC α} (h : FrzA as cs) : FrzP (oT as) (cT cs) := fun K R R' M H l v x hl s t ⟨a, vs, e, q, q'⟩ => ⟨a, vs, e, q.same s, h _ _ _ _ _ _ _ _ _ s t q'⟩
theorem frz_t {α : Type} {as : OArg α} {cs : ArgC α} (h : FrzA as cs) : Frz (oT as) (cT cs) := frz_p (frzp_t h)
def HardOA {α : Type} (as : OArg α) : Prop := ∀ K R1 R2 M H l k vs x, (∀ a o, R1 a = some o → ¬ SoftO o → R2 a = some o) → as.own K R1 M H l k vs x → as.own K R2 M H l k vs x
theorem hoa_v1 {α : Type} {c : Cod α} (h : HardC c) : HardOA (oV1 c) := fun K R1 R2 M H l k vs x s ⟨v, e, q⟩ => ⟨v, e, h _ _ _ _ _ s q⟩
theorem hoa_o1 {α : Type} {oc : OCod α} (h : HardO oc) : HardOA (oO1 oc) := fun K R1 R2 M H l k vs x s ⟨v, e, q⟩ => ⟨v, e, h _ _ _ _ _ _ _ _ s q⟩
theorem hoa_vc {α β : Type} {c : Cod α} {as : OArg β} (h0 : HardC c) (h : HardOA as) : HardOA (oVc c as) := fun K R1 R2 M H l k vs x s ⟨v, ws, e, q, q'⟩ => ⟨v, ws, e, h0 _ _ _ _ _ s q, h _ _ _ _ _ _ _ _ _ s q'⟩
theorem hoa_oc {α β : Type} {oc : OCod α} {as : OArg β} (h0 : HardO oc) (h : HardOA as) : HardOA (oOc oc as) := fun K R1 R2 M H l k vs x s ⟨v, ws, e, q, q'⟩ => ⟨v, ws, e, h0 _ _ _ _ _ _ _ _ s q, h _ _ _ _ _ _ _ _ _ s q'⟩
theorem ho_t {α : Type} {as : OArg α} (h : HardOA as) : HardO (oT as) := fun K R1 R2 M H l v x s ⟨a, vs, e, q, q'⟩ => ⟨a, vs, e, q.imp (fun z => s a _ z fun h => h) (Or.imp (fun ⟨o, z⟩ => ⟨o, s a _ z fun h => h⟩) id), h _ _ _ _ _ _ _ _ _ s q'⟩
def ShA {α : Type} (as : OArg α) : Prop := ∀ K R M H m k vs x l, as.own K R M H m k vs x → as.own K R (fun a => (M a).map (· ++ l)) H (m ++ l) k vs x
theorem sha_v1 {α : Type} {c : Cod α} : ShA (oV1 c) := fun K R M H m k vs x l h => h
theorem sha_o1 {α : Type} {oc : OCod α} (h : ShO oc) : ShA (oO1 oc) := fun K R M H m k vs x l ⟨v, e, q⟩ => ⟨v, e, h _ _ _ _ _ _ _ l q⟩
theorem sha_vc {α β : Type} {c : Cod α} {as : OArg β} (h : ShA as) : ShA (oVc c as) := fun K R M H m k vs x l ⟨v, ws, e, q, q'⟩ => ⟨v, ws, e, q, h _ _ _ _ _ _ _ _ l q'⟩
theorem sha_oc {α β : Type} {oc : OCod α} {as : OArg β} (h0 : ShO oc) (h : ShA as) : ShA (oOc oc as) := fun K R M H m k vs x l ⟨v, ws, e, q, q'⟩ => ⟨v, ws, e, h0 _ _ _ _ _ _ _ l q, h _ _ _ _ _ _ _ _ l q'⟩
theorem sh_t {α : Type} {as : OArg α} (h : ShA as) : ShO (oT as) := fun K R M H m v x l ⟨a, vs, e, q, q'⟩ => ⟨a, vs, e, q, h _ _ _ _ _ _ _ _ l q'⟩

/-! ### displays -/
section
variable {A : Amb} {G G' : Ctx} {ρ : Type} {R : Rr ρ}
def ROa {α : Type} (as : OArg α) (k : Nat) (K : Frag) (L : Lab) (H : Hp) (L' : Lab) (H' : Hp) (vs : List V) (x : α) : Prop :=
  ∃ M : Addr → Option (List Nat), (∀ a m, M a = some m → L' a = none ∧ NonTup m (H' a) ∧ ¬ Frm L H a ∧ m.length ≥ 2) ∧ as.own K (rd L' H') M H' [] k vs x
def tAT (A : Amb) {α : Type} (G : Ctx) (as : OArg α) (k : Nat) (f : CT G → Res (α × CT G)) : L2.TA := fun o H Q =>
  ∃ (p : CT G) (L : Lab), Wf L H ∧ CR A.X.K 0 G p L H o ∧ Good A (f p) L H o fun y => ∀ (vs : List V) (L' : Lab) (H' : Hp), Stp L H L' H' → Wf L' H' → CR A.X.K 0 G y.2 L' H' o → ROa as k A.X.K L H L' H' vs y.1 → Q vs H'
def AXT (A : Amb) (G : Ctx) (es : List Expr) {α : Type} (as : OArg α) (k : Nat) (f : CT G → Res (α × CT G)) : Prop := PA A.X es (tAT A G as k f)
theorem roa_own {α : Type} {oc : OCod α} {K : Frag} {L : Lab} {H : Hp} {L' : Lab} {H' : Hp} {v : V} {x : α} (sh : ShO oc) (k : Nat) (h : OwnAt oc K L H L' H' v x) :
    ∃ M : Addr → Option (List Nat), (∀ a m, M a = some m → L' a = none ∧ NonTup m (H' a) ∧ ¬ Frm L H a ∧ m.length ≥ 2) ∧ oc.own K (rd L' H') M H' [0, k] v x := by
  obtain ⟨M, h1, h2⟩ := h
  refine ⟨fun a => (M a).map (· ++ [0, k]), fun a m em => ?_, sh _ _ _ _ _ _ _ [0, k] h2⟩
  have em : (M a).map (· ++ [0, k]) = some m := em
  cases e : M a with
  | none => rw [e] at em; cases em
  | some m' =>
    rw [e] at em
    have em : some (m' ++ [0, k]) = some m := em
    cases em
    obtain ⟨q1, q2, q3⟩ := h1 a m' e
    refine ⟨q1, ?_, q3, by simp⟩
    cases m' with
    | nil => exact q2
    | cons b bs => exact q2
theorem axt_o1 {α : Type} {oc : OCod α} {k : Nat} {e : Expr} {f : CT G → Res (α × CT G)} (sh : ShO oc) (h : EX A G e (rO oc) f) (hs : starEach [e] A.X.env = (false, eval e A.X.env) :: starEach [] A.X.env := by rfl) : AXT A G [e] (oO1 oc) k f :=
  pa_weak (pa_cons h pa_nil hs) fun o H Q ⟨p, L, w, cr, kk⟩ => ⟨p, L, w, cr, kk.imp fun y _ q v L' H' s w' c' rl => by
    obtain ⟨M, h1, h2⟩ := roa_own sh k rl
    exact q [v] L' H' s w' c' ⟨M, h1, v, rfl, h2⟩⟩
theorem axt_v1 {α : Type} {c : Cod α} {k : Nat} {e : Expr} {f : CT G → Res (α × CT G)} (h : EX A G e (rV c) f) (hs : starEach [e] A.X.env = (false, eval e A.X.env) :: starEach [] A.X.env := by rfl) : AXT A G [e] (oV1 c) k f :=
  pa_weak (pa_cons h pa_nil hs) fun o H Q ⟨p, L, w, cr, kk⟩ => ⟨p, L, w, cr, kk.imp fun y _ q v L' H' s w' c' rl => q [v] L' H' s w' c' ⟨fun _ => none, fun a m e => absurd (show (none : Option (List Nat)) = some m from e) (by simp), v, rfl, rl⟩⟩
theorem axt_vc {α β : Type} {c : Cod α} {as : OArg β} {k : Nat} {e : Expr} {es : List Expr} {f : CT G → Res (α × CT G)} {g : CT G → Res (β × CT G)} (h : EX A G e (rV c) f) (hr : AXT A G es as (k + 1) g) (hs : starEach (e :: es) A.X.env = (false, eval e A.X.env) :: starEach es A.X.env := by rfl) :
    AXT A G (e :: es) (oVc c as) k (fun p => Res.bind (f p) fun y => Res.bind (g y.2) fun z => .ok ((y.1, z.1), z.2)) :=
  pa_weak (pa_cons h hr hs) fun o H Q ⟨p, L, w, cr, kk⟩ => run1 w cr kk fun x p1 v L1 H1 s1 w1 c1 r1 g1 => ⟨p1, L1, w1, c1, g1.bind.imp fun z _ gz vs L2 H2 s2 w2 c2 ⟨M, m1, m2⟩ => gz (v :: vs) L2 H2 (s1.trans s2) w2 c2 ⟨M, fun a m em => by
    obtain ⟨q1, q2, q3, q4⟩ := m1 a m em
    exact ⟨q1, q2, fun f => q3 (s1.frm f), q4⟩, v, vs, rfl, c.mono _ _ _ _ _ s2.rd r1, m2⟩⟩
theorem axt_oc {α β : Type} {oc : OCod α} {as : OArg β} {k : Nat} {e : Expr} {es : List Expr} {f : CT G → Res (α × CT G)} {g : CT G → Res (β × CT G)} (sh : ShO oc) (h : EX A G e (rO oc) f) (hr : AXT A G es as (k + 1) g) (hs : starEach (e :: es) A.X.env = (false, eval e A.X.env) :: starEach es A.X.env := by rfl) :
    AXT A G (e :: es) (oOc oc as) k (fun p => Res.bind (f p) fun y => Res.bind (g y.2) fun z => .ok ((y.1, z.1), z.2)) :=
  pa_weak (pa_cons h hr hs) fun o H Q ⟨p, L, w, cr, kk⟩ => run1 w cr kk fun x p1 v L1 H1 s1 w1 c1 r1 g1 => ⟨p1, L1, w1, c1, g1.bind.imp fun z _ gz vs L2 H2 s2 w2 c2 ⟨M2, m2, o2⟩ => by
    obtain ⟨M1, m1, o1⟩ := roa_own sh k r1
    have f1 : ∀ a m, M1 a = some m → L2 a = none ∧ H2 a = H1 a ∧ Frm L1 H1 a := fun a m em => by
      obtain ⟨q1, q2, q3, _⟩ := m1 a m em
      have f : Frm L1 H1 a := ⟨q2.ne, .inl q1⟩
      exact ⟨(s2 a f).1.trans q1, (s2 a f).2, f⟩
    have n2 : ∀ a m, M2 a = some m → M1 a = none := fun a m em => by
      cases e : M1 a with
      | none => rfl
      | some m' => exact absurd (f1 a m' e).2.2 (m2 a m em).2.2.1
    refine gz (v :: vs) L2 H2 (s1.trans s2) w2 c2 ⟨fun a => match M1 a with | some m => some m | none => M2 a, fun a m em => ?_, v, vs, rfl, ?_, ?_⟩
    · cases e : M1 a with
      | none =>
        simp only [e] at em
        obtain ⟨q1, q2, q3, q4⟩ := m2 a m em
        exact ⟨q1, q2, fun f => q3 (s1.frm f), q4⟩
      | some m' =>
        simp only [e, Option.some.injEq] at em
        subst em
        obtain ⟨q1, q2, q3⟩ := f1 a m' e
        obtain ⟨_, t2, t3, t4⟩ := m1 a m' e
        exact ⟨q1, by rw [q2]; exact t2, t3, t4⟩
    · exact oc.mono _ _ _ _ _ _ _ _ _ _ s2.rd (fun a m em => ⟨by simp only [em], (f1 a m em).2.1⟩) o1
    · exact as.mono _ _ _ _ _ _ _ _ _ _ _ (fun _ _ q => q) (fun a m em => ⟨by simp only [n2 a m em]; exact em, rfl⟩) o2⟩
/-- a tuple's display, with parts of one's own -/
theorem ex_tupO {α : Type} {as : OArg α} {es : List Expr} {x1 pos} {f : CT G → Res (α × CT G)} (h : AXT A G es as 0 f) (hn : as.n ≤ sizeLine := by decide) : EX A G (.Tuple es x1 pos) (rO (oT as)) f :=
  pe_weak (pe_tup h) fun o H Q ⟨p, L, w, cr, kk⟩ => ⟨p, L, w, cr, kk.imp fun y _ q vs L' H' s w' c' ⟨M, m1, m2⟩ => ⟨by rw [as.len _ _ _ _ _ _ _ _ m2]; exact hn, fun a ha => by
    obtain ⟨e1, e2⟩ := ext_val (o := .tup vs) w' ha
    have na : ∀ b m, M b = some m → b ≠ a := fun b m em e => by
      subst e
      exact (m1 b m em).2.1.ne ha
    refine q _ _ _ (s.trans e1.stp) e2 (c'.ext w' e1) ⟨M, fun b m em => ?_, a, vs, rfl, .inl (rd_mk setL_same upd_same), as.mono _ _ _ _ _ _ _ _ _ _ _ e1.stp.rd (fun b m em => ⟨em, upd_ne (na b m em)⟩) m2⟩
    obtain ⟨q1, q2, q3, _⟩ := m1 b m em
    exact ⟨(setL_ne (na b m em)).trans q1, by rw [upd_ne (na b m em)]; exact q2, q3⟩⟩⟩

/-! ### places -/
/-- y (at v', under the path π) is a part of what the slot holds; pt puts another one there -/
def Plc {α β : Type} (oc : OCod α) (oc' : OCod β) (K : Frag) (R : Hp) (M : Addr → Option (List Nat)) (H : Hp) (v : V) (π : List Nat) (v' : V) (y : β) (pt : β → α) : Prop :=
  oc'.own K R M H π v' y ∧ ∀ R' M' H' y', Same R R' → (∀ a m, ¬ (π <:+ m) → M a = some m → M' a = some m ∧ H' a = H a) → oc'.own K R' M' H' π v' y' → oc.own K R' M' H' [] v (pt y')
theorem plc_refl {α : Type} {oc : OCod α} {K : Frag} {R : Hp} {M : Addr → Option (List Nat)} {H : Hp} {v : V} {x : α} (h : oc.own K R M H [] v x) : Plc oc oc K R M H v [] v x id := ⟨h, fun _ _ _ _ _ _ h => h⟩
theorem Plc.mono {α β : Type} {oc : OCod α} {oc' : OCod β} {K : Frag} {R R' : Hp} {M M' : Addr → Option (List Nat)} {H H' : Hp} {v : V} {π : List Nat} {v' : V} {y : β} {pt : β → α} (s : Same R R') (t : ∀ a m, M a = some m → M' a = some m ∧ H' a = H a) (h : Plc oc oc' K R M H v π v' y pt) : Plc oc oc' K R' M' H' v π v' y pt :=
  ⟨oc'.mono _ _ _ _ _ _ _ _ _ _ s t h.1, fun R2 M2 H2 y' s2 t2 q => h.2 R2 M2 H2 y' (fun a o z => s2 a o (s a o z)) (fun a m hm em => by
    obtain ⟨e1, e2⟩ := t a m em
    obtain ⟨e3, e4⟩ := t2 a m hm e1
    exact ⟨e3, e4.trans e2⟩) q⟩
theorem plc_item {α β : Type} {oc : OCod α} {oc1 : OCod β} {K : Frag} {R : Hp} {M : Addr → Option (List Nat)} {H : Hp} {v : V} {π : List Nat} {q : Addr} {vs : List V} {ys : List β} {pt : List β → α} {j : Nat} {v1 : V} {y1 : β} (lo : LocO oc1)
    (h : Plc oc (oLL oc1) K R M H v π (.ref q) ys pt) (hH : H q = some (.lst vs)) (h1 : vs[j]? = some v1) (h2 : ys[j]? = some y1) : Plc oc oc1 K R M H v (0 :: j :: π) v1 y1 (fun b => pt (ys.set j b)) := by
  obtain ⟨⟨p, vs', e, hm, hp, hl, hn, hi⟩, up⟩ := h
  cases e
  rw [hH] at hp
  cases hp
  refine ⟨hi j v1 y1 h1 h2, fun R' M' H' y' s t q' => up R' M' H' _ s (fun a m hm' em => t a m (fun z => hm' (suf_item z)) em) ?_⟩
  obtain ⟨t1, t2⟩ := t q π suf_ne hm
  refine ⟨q, vs, rfl, t1, t2.trans hH, hl, by rw [List.length_set]; exact hn, fun i u x e1 e2 => ?_⟩
  by_cases ej : i = j
  · subst ej
    rw [h1] at e1; cases e1
    have hlt : i < ys.length := (List.getElem?_eq_some_iff.mp h2).1
    rw [List.getElem?_set_self hlt] at e2; cases e2
    exact q'
  · rw [List.getElem?_set_ne (fun e => ej e.symm)] at e2
    exact lo _ _ _ _ _ _ _ _ _ _ s (fun a m z em => t a m (fun z' => ej (suf_two z z')) em) (hi i u x e1 e2)
/-- a part of a tuple -/
structure OPj {α β : Type} (as : OArg α) (j : Nat) (oc1 : OCod β) (g : α → β) (pt : α → β → α) : Prop where
  ok : ∀ K R M H l k vs x, as.own K R M H l k vs x → ∃ v1, vs[j]? = some v1 ∧ oc1.own K R M H (0 :: (k + j) :: l) v1 (g x) ∧ ∀ R' M' H' y', Same R R' → (∀ a m, ¬ ((0 :: (k + j) :: l) <:+ m) → M a = some m → M' a = some m ∧ H' a = H a) → oc1.own K R' M' H' (0 :: (k + j) :: l) v1 y' → as.own K R' M' H' l k vs (pt x y')
theorem opj_1 {α : Type} {oc : OCod α} : OPj (oO1 oc) 0 oc id (fun _ y => y) := ⟨fun K R M H l k vs x ⟨v, e, h⟩ => ⟨v, by rw [e]; rfl, h, fun R' M' H' y' s t q => ⟨v, e, q⟩⟩⟩
theorem opj_z {α β : Type} {oc : OCod α} {as : OArg β} (la : LocA as) : OPj (oOc oc as) 0 oc Prod.fst (fun x y => (y, x.2)) := ⟨fun K R M H l k vs x ⟨v, ws, e, h, h'⟩ => ⟨v, by rw [e]; rfl, h, fun R' M' H' y' s t q => ⟨v, ws, e, q, la _ _ _ _ _ _ _ _ _ _ _ s (fun a m i hi z em => t a m (fun z' => by have := suf_two z z'; omega) em) h'⟩⟩⟩
theorem opj_sv {α β γ : Type} {c : Cod α} {as : OArg β} {j : Nat} {oc1 : OCod γ} {g : β → γ} {pt : β → γ → β} (h : OPj as j oc1 g pt) : OPj (oVc c as) (j + 1) oc1 (fun x => g x.2) (fun x y => (x.1, pt x.2 y)) := ⟨fun K R M H l k vs x ⟨v, ws, e, q, q'⟩ => by
  obtain ⟨v1, e1, o1, up⟩ := h.ok K R M H l (k + 1) ws x.2 q'
  rw [show k + 1 + j = k + (j + 1) by omega] at o1 up
  exact ⟨v1, by rw [e]; simpa using e1, o1, fun R' M' H' y' s t q2 => ⟨v, ws, e, c.mono _ _ _ _ _ s q, up R' M' H' y' s t q2⟩⟩⟩
theorem opj_so {α β γ : Type} {oc : OCod α} {as : OArg β} {j : Nat} {oc1 : OCod γ} {g : β → γ} {pt : β → γ → β} (lo : LocO oc) (h : OPj as j oc1 g pt) : OPj (oOc oc as) (j + 1) oc1 (fun x => g x.2) (fun x y => (x.1, pt x.2 y)) := ⟨fun K R M H l k vs x ⟨v, ws, e, q, q'⟩ => by
  obtain ⟨v1, e1, o1, up⟩ := h.ok K R M H l (k + 1) ws x.2 q'
  rw [show k + 1 + j = k + (j + 1) by omega] at o1 up
  exact ⟨v1, by rw [e]; simpa using e1, o1, fun R' M' H' y' s t q2 => ⟨v, ws, e, lo _ _ _ _ _ _ _ _ _ _ s (fun a m z em => t a m (fun z' => by have := suf_two z z'; omega) em) q, up R' M' H' y' s t q2⟩⟩⟩
theorem plc_part {α β γ : Type} {oc : OCod α} {as : OArg β} {oc1 : OCod γ} {j : Nat} {g : β → γ} {pt1 : β → γ → β} {K : Frag} {R : Hp} {M : Addr → Option (List Nat)} {H : Hp} {v : V} {π : List Nat} {q : Addr} {y : β} {pt : β → α} (pj : OPj as j oc1 g pt1) (h : Plc oc (oT as) K R M H v π (.ref q) y pt) :
    ∃ vs v1, SeeT K R q vs ∧ vs[j]? = some v1 ∧ Plc oc oc1 K R M H v (0 :: j :: π) v1 (g y) (fun b => pt (pt1 y b)) := by
  obtain ⟨⟨a, vs, e, hs, ho⟩, up⟩ := h
  cases e
  obtain ⟨v1, e1, o1, u1⟩ := pj.ok _ _ _ _ _ _ _ _ ho
  rw [Nat.zero_add] at o1 u1
  exact ⟨vs, v1, hs, e1, o1, fun R' M' H' y' s t q' => up R' M' H' _ s (fun a m hm em => t a m (fun z => hm (suf_item z)) em) ⟨q, vs, rfl, hs.same s, u1 R' M' H' y' s t q'⟩⟩
/-- the thing at a place is changed -/
theorem plc_set {α β : Type} {oc : OCod α} {oc' : OCod β} {P : V → Prop} {i : Nat} {put : CT G → α → CT G} {p : CT G} {L : Lab} {H : Hp} {o : St} {v v' : V} {π : List Nat} {y y' : β} {pt : β → α} {q : Addr} {new : HO} (m : Mod G i (sOwn P oc) put) (w : Wf L H) (cr : CR A.X.K 0 G p L H o) (hP : P v) (ho : o[i]? = some (some v))
    (pl : Plc oc oc' A.X.K (rd L H) (sub L (i + 1)) H v π v' y pt) (hq : sub L (i + 1) q = some π) (hs : SoftO new) (hn : oc'.own A.X.K (rd L (upd H q new)) (sub L (i + 1)) (upd H q new) π v' y') :
    Stp L H L (upd H q new) ∧ Wf L (upd H q new) ∧ CR A.X.K 0 G (put p (pt y')) L (upd H q new) o := by
  have hL := sub_of hq
  have sm : Same (rd L H) (rd L (upd H q new)) := fun a ob qa => by
    obtain ⟨⟨l', e1⟩, e2⟩ := rd_of qa
    exact rd_mk e1 (by rw [upd_ne fun e => by rw [e, hL] at e1; cases e1]; exact e2)
  refine ⟨fun a f => ⟨rfl, upd_ne fun e => ?_⟩, ⟨fun a ha => ?_, fun a k l' e => ?_⟩, m.ok _ _ _ _ _ _ _ _ _ cr sm (fun a j' l' _ hj' e => ⟨rfl, upd_ne fun e' => ?_⟩) ⟨v, hP, by rw [Nat.zero_add]; exact ho, ?_⟩⟩
  · rcases f.2 with z | ⟨l', z⟩
    · rw [e, hL] at z; cases z
    · rw [e, hL] at z; cases z
  · by_cases ea : a = q
    · rw [ea, upd_same]; simp
    · rw [upd_ne ea]; exact w.dom a ha
  · by_cases ea : a = q
    · rw [ea, upd_same]
      exact soft_nt hs
    · rw [upd_ne ea]; exact w.soft a k l' e
  · rw [e', hL] at e
    have := (Prod.mk.inj (Option.some.inj e)).1
    omega
  · rw [Nat.zero_add]
    exact pl.2 _ _ _ y' sm (fun a m hm em => ⟨em, upd_ne fun e => hm (by rw [e, hq] at em; cases em; exact List.suffix_refl _)⟩) hn
/-- the thing at a place is changed, and holds something new of one's own -/
theorem plc_grow {α β γ : Type} {oc : OCod α} {oc' : OCod β} {oc1 : OCod γ} {P : V → Prop} {i : Nat} {put : CT G → α → CT G} {p : CT G} {L0 L : Lab} {H0 H : Hp} {o : St} {v v' v1 : V} {π : List Nat} {y y' : β} {pt : β → α} {q : Addr} {new : HO} {x1 : γ} {n : Nat} (m : Mod G i (sOwn P oc) put) (w : Wf L H) (s0 : Stp L0 H0 L H) (cr : CR A.X.K 0 G p L H o) (hP : P v) (ho : o[i]? = some (some v))
    (pl : Plc oc oc' A.X.K (rd L H) (sub L (i + 1)) H v π v' y pt) (hq : sub L (i + 1) q = some π) (hs : SoftO new) (sh : ShO oc1) (h1 : OwnAt oc1 A.X.K L0 H0 L H v1 x1)
    (hn : ∀ L2, (∀ a m, sub L (i + 1) a = some m → sub L2 (i + 1) a = some m) → Same (rd L H) (rd L2 (upd H q new)) → oc1.own A.X.K (rd L2 (upd H q new)) (sub L2 (i + 1)) (upd H q new) (0 :: n :: π) v1 x1 → oc'.own A.X.K (rd L2 (upd H q new)) (sub L2 (i + 1)) (upd H q new) π v' y') :
    ∃ L2, Stp L0 H0 L2 (upd H q new) ∧ Wf L2 (upd H q new) ∧ CR A.X.K 0 G (put p (pt y')) L2 (upd H q new) o := by
  have hL := sub_of hq
  obtain ⟨M, m1, o1⟩ := h1
  have hk : ∀ a, L a ≠ none → M a = none := fun a ha => by
    cases e : M a with
    | none => rfl
    | some m => exact absurd (m1 a m e).1 ha
  have nq : ∀ a m, M a = some m → a ≠ q := fun a m em e => by
    rw [e, hk q (by rw [hL]; simp)] at em; cases em
  generalize hL2 : (fun a => match M a with | some m => some (i + 1, m ++ (0 :: n :: π)) | none => L a) = L2
  have l2n : ∀ a, M a = none → L2 a = L a := fun a e => by rw [← hL2]; simp only [e]
  have l2s : ∀ a m, M a = some m → L2 a = some (i + 1, m ++ (0 :: n :: π)) := fun a m e => by rw [← hL2]; simp only [e]
  have l2k : ∀ a, L a ≠ none → L2 a = L a := fun a ha => l2n a (hk a ha)
  have sm : Same (rd L H) (rd L2 (upd H q new)) := fun a ob qa => by
    obtain ⟨⟨l', e1⟩, e2⟩ := rd_of qa
    exact rd_mk ((l2k a (by rw [e1]; simp)).trans e1) (by rw [upd_ne fun e => by rw [e, hL] at e1; cases e1]; exact e2)
  have smm : ∀ a m, sub L (i + 1) a = some m → sub L2 (i + 1) a = some m := fun a m em => sub_mk ((l2k a (by rw [sub_of em]; simp)).trans (sub_of em))
  refine ⟨L2, fun a f => ?_, ⟨fun a ha => ?_, fun a k l' e => ?_⟩, m.ok _ _ _ _ _ _ _ _ _ cr sm (fun a j' l' _ hj' e => ⟨l2k a (by rw [e]; simp), upd_ne fun e' => ?_⟩) ⟨v, hP, by rw [Nat.zero_add]; exact ho, ?_⟩⟩
  · obtain ⟨e1, e2⟩ := s0 a f
    have ma : M a = none := by
      cases e : M a with
      | none => rfl
      | some m => exact absurd f (m1 a m e).2.2
    refine ⟨(l2n a ma).trans e1, (upd_ne fun e => ?_).trans e2⟩
    rcases f.2 with z | ⟨l', z⟩
    · rw [← e1, e, hL] at z; cases z
    · rw [← e1, e, hL] at z; cases z
  · by_cases ea : a = q
    · rw [ea, upd_same]; simp
    · rw [upd_ne ea]
      cases e : M a with
      | none => rw [l2n a e] at ha; exact w.dom a ha
      | some m => exact (m1 a m e).2.1.ne
  · by_cases ea : a = q
    · rw [ea, upd_same]
      exact soft_nt hs
    · rw [upd_ne ea]
      cases em : M a with
      | none => rw [l2n a em] at e; exact w.soft a k l' e
      | some m' =>
        rw [l2s a m' em] at e
        cases e
        have q2 := (m1 a m' em).2.1
        cases m' with
        | nil => exact q2
        | cons b bs => exact q2
  · rw [e', hL] at e
    have := (Prod.mk.inj (Option.some.inj e)).1
    omega
  · rw [Nat.zero_add]
    refine pl.2 _ _ _ y' sm (fun a m hm em => ⟨smm a m em, upd_ne fun e => hm (by rw [e, hq] at em; cases em; exact List.suffix_refl _)⟩) (hn L2 smm sm ?_)
    have z := sh _ _ _ _ _ _ _ (0 :: n :: π) o1
    exact oc1.mono _ _ _ _ _ _ _ _ _ _ sm (fun a m em => by
      have em : (M a).map (· ++ (0 :: n :: π)) = some m := em
      cases e : M a with
      | none => rw [e] at em; cases em
      | some m' =>
        rw [e] at em
        have em : some (m' ++ (0 :: n :: π)) = some m := em
        cases em
        exact ⟨sub_mk (l2s a m' e), upd_ne (nq a m' e)⟩) z
end
end AC
set_option Elab.async false
set_option linter.all false
set_option maxRecDepth 100000
/-! TL26: places are found and changed. -/
namespace AC
open PySem L2 PyProof

section
variable {A : Amb} {G G' G1 G2 : Ctx} {ρ : Type} {R : Rr ρ} {S T S2 T2 : List Nat} {to : CT G → CT G1} {bk : CT G → CT G1 → CT G} {to2 : CT G → CT G2} {bk2 : CT G → CT G2 → CT G}
def tPl (A : Amb) (G : Ctx) (i : Nat) {α β : Type} (oc : OCod α) (oc' : OCod β) (f : CT G → Res ((β × (β → α)) × CT G)) : L2.TE := fun o H Q =>
  ∃ (p : CT G) (L : Lab), Wf L H ∧ CR A.X.K 0 G p L H o ∧ Good A (f p) L H o fun y => ∀ (v' : V) (L' : Lab) (H' : Hp), Stp L H L' H' → Wf L' H' → CR A.X.K 0 G y.2 L' H' o → (∃ π v, insL π = false ∧ o[i]? = some (some v) ∧ Plc oc oc' A.X.K (rd L' H') (sub L' (i + 1)) H' v π v' y.1.1 y.1.2) → Q v' H'
def PX (A : Amb) (G : Ctx) (i : Nat) {α β : Type} (oc : OCod α) (oc' : OCod β) (e : Expr) (f : CT G → Res ((β × (β → α)) × CT G)) : Prop := PE A.X e (tPl A G i oc oc' f)
theorem px_name {α : Type} {oc : OCod α} {P : V → Prop} {i : Nat} {x : Str} {pos : Pos} {g : CT G → α} (a : At G i (sOwn P oc) g) (hN : A.X.N[i]? = some x) (hv : Vis A.X.env.scope x) (hd : (x == ("__debug__" : Str)) = false := by decide) (hcd : (x == ("__classdict__" : Str)) = false := by decide) :
    PX A G i oc oc (.Name x pos) (fun p => .ok ((g p, id), p)) := pe_weak (pe_var hN hv hd hcd) fun o H Q ⟨p, L, w, cr, k⟩ => by
  obtain ⟨v, _, e, q⟩ := a.ok _ _ _ _ _ _ cr
  rw [Nat.zero_add] at e q
  exact ⟨v, e, k v L H Stp.refl w cr ⟨[], v, rfl, e, plc_refl q⟩⟩
/-- behind a lending: places stay -/
theorem plc_lent {α β : Type} {oc : OCod α} {oc' : OCod β} {i : Nat} {L1 L2 : Lab} {H1 H2 : Hp} {v v' : V} {π : List Nat} {y : β} {pt : β → α} (hi : i ∈ S ∨ i ∈ T) (w1 : Wf L1 H1) (s2 : Stp (lendL S T L1) H1 L2 H2) (h : Plc oc oc' A.X.K (rd L1 H1) (sub L1 (i + 1)) H1 v π v' y pt) :
    Plc oc oc' A.X.K (rd (backL S T L1 L2) H2) (sub (backL S T L1 L2) (i + 1)) H2 v π v' y pt := by
  refine h.mono (stp_backL w1 s2).rd fun a m em => ?_
  obtain ⟨e1, e2⟩ := lent_stay w1 s2 (sub_of em) hi
  exact ⟨sub_mk e1, e2⟩
theorem rd_hid {L L' : Lab} {H H' : Hp} (w : Wf L H) (s : Stp (lendL [] T L) H L' H') : Same (rd L' H') (rd (backL [] T L L') H') := fun a o q => by
  obtain ⟨⟨l, e1⟩, e2⟩ := rd_of q
  rcases backL_cases w s a with ⟨k, l', e3, hk, e4, e5⟩ | ⟨_, e3⟩
  · rcases lendL_cases (S := []) (T := T) (L := L) a with ⟨z, _⟩ | ⟨_, z, _⟩ | ⟨k', l2, z, h1, _⟩ | ⟨k', l2, z, h1, _⟩ | ⟨k', l2, z, h1, h2, h3⟩ | ⟨k', l2, z, h1, h2, h3⟩
    · rw [e3] at z; cases z
    · rw [e3] at z; cases z
    · cases h1
    · cases h1
    · rw [(s a ⟨w.dom a (by rw [e3]; simp), .inl h3⟩).1, h3] at e1; cases e1
    · rw [e3] at z; cases z
      rcases hk with y | y
      · cases y
      · exact absurd y h2
  · exact rd_mk (e3.trans e1) e2
def nthI {β : Type} (xs : List β) (i : Int) : Option (β × Nat) := (ixN xs.length i).bind fun j => (xs[j]?).map fun y => (y, j)
theorem px_ix {α β : Type} {oc : OCod α} {oc1 : OCod β} {i : Nat} {e b : Expr} {pos : Pos} {f : CT G → Res ((List β × (List β → α)) × CT G)} {fi : CT G1 → Res (Int × CT G1)} (lo : LocO oc1) (h : PX A G i oc (oLL oc1) e f) (ln : LendC S T 0 G G1 to bk) (hi : i ∈ S ∨ i ∈ T) (hb : EX A G1 b (rV cI) fi) (hs : PlainIx b) :
    PX A G i oc oc1 (.Subscript e b pos) (fun p => Res.bind (f p) fun y => Res.bind (fi (to y.2)) fun z => Res.bind (ofO (nthI y.1.1 z.1)) fun w => .ok ((w.1, fun b => y.1.2 (y.1.1.set w.2 b)), bk y.2 z.2)) :=
  pe_weak (pe_ix ix_list h hb hs) fun o H Q ⟨p, L, w, cr, k⟩ => ⟨p, L, w, cr, k.bind.imp fun y _ gy v' L1 H1 s1 w1 c1 ⟨π, v, _, ev, pl⟩ => ⟨to y.2, lendL S T L1, wf_lendL w1, ln.to_ok _ _ _ _ _ w1 c1, (Good.lend w1 (gy.step s1).bind).imp fun z _ gz vi L2 H2 s2 w2 c2 r2 => by
    have r2 : vi = .int z.1 := r2
    subst r2
    obtain ⟨u, eu, gu⟩ := good_ofO gz
    have pl2 := plc_lent hi w1 s2 pl
    unfold nthI at eu
    cases ej : ixN y.1.1.length z.1 with
    | none => rw [ej] at eu; cases eu
    | some j =>
      rw [ej] at eu
      have eu : ((y.1.1)[j]?).map (fun y => (y, j)) = some u := eu
      cases ey : (y.1.1)[j]? with
      | none => rw [ey] at eu; cases eu
      | some y1 =>
        rw [ey] at eu
        have eu : some (y1, j) = some u := eu
        cases eu
        obtain ⟨q, vs, e', hm, hp, hl, hn, hin⟩ := pl2.1
        subst e'
        have hlt : j < vs.length := by rw [hn]; exact (List.getElem?_eq_some_iff.mp ey).1
        obtain ⟨v1, hv1⟩ : ∃ u, vs[j]? = some u := ⟨_, List.getElem?_eq_getElem hlt⟩
        refine ⟨q, vs, z.1, v1, rfl, rfl, SqL.of hp, ?_, ?_⟩
        · unfold atI
          rw [hn, ej]
          exact hv1
        · exact gu v1 _ H2 (s1.trans (stp_backL w1 s2)) (wf_backL w1 w2 s2) (ln.bk_ok _ _ _ _ _ _ _ _ w1 s2 c1 c2) ⟨0 :: j :: π, v, rfl, ev, plc_item lo pl2 hp hv1 ey⟩⟩⟩
theorem px_part {α β γ : Type} {oc : OCod α} {as : OArg β} {oc1 : OCod γ} {i : Nat} {j : Nat} {ji : Int} {gj : β → γ} {pt1 : β → γ → β} {e : Expr} {kk p2 pos} {f : CT G → Res ((β × (β → α)) × CT G)} (pj : OPj as j oc1 gj pt1) (hj : ji = (j : Int)) (h : PX A G i oc (oT as) e f) :
    PX A G i oc oc1 (.Subscript e (.Constant (.int ji) kk p2) pos) (fun p => Res.bind (f p) fun y => .ok ((gj y.1.1, fun b => y.1.2 (pt1 y.1.1 b)), y.2)) :=
  pe_weak (pe_ix ix_tup h pe_int (fun _ _ => rfl)) fun o H Q ⟨p, L, w, cr, k⟩ => ⟨p, L, w, cr, k.bind.imp fun y _ gy v' L1 H1 s1 w1 c1 ⟨π, v, _, ev, pl⟩ => by
    obtain ⟨a, vs, e', hs, ho⟩ := pl.1
    subst e'
    obtain ⟨vs', v1, h1, h2, h3⟩ := plc_part pj pl
    exact ⟨a, vs', ji, v1, rfl, rfl, (h1.same rd_sub).sq, by rw [hj]; exact atI_nat h2, gy v1 L1 H1 s1 w1 c1 ⟨_, v, rfl, ev, h3⟩⟩⟩

/-! ### methods of a list at a place -/
theorem ex_plM {α β γ δ : Type} {oc : OCod α} {c : Cod δ} {as : ArgC β} {k : List δ → β → Option (γ × List δ)} {rc : Cod γ} {P : V → Prop} {i : Nat} {g : CT G → α} {put : CT G → α → CT G} {id : String} {name : Str} {ap cp : Pos} {ob e : Expr} {es : List Expr} {f : CT G → Res ((List δ × (List δ → α)) × CT G)} {fa : CT G1 → Res (β × CT G1)} (h : MtT A id c as k rc)
    (slot : PySem.Slot "list" name id) (hty : typeOf (.builtin id) = pure (.type "method_descriptor")) (a : At G i (sOwn P oc) g) (m : Mod G i (sOwn P oc) put) (pl : PX A G i oc (oL c) ob f) (ln : LendC S T 0 G G1 to bk) (hi : i ∈ S ∨ i ∈ T) (hh : HardA as ∨ S = []) (ha : AX A G1 (e :: es) as fa)
    (hbase : attributeBase ob name A.X.env (eval ob A.X.env) = eval ob A.X.env := by rfl)
    (hfew : ((backTo cp (starEach (e :: es) A.X.env)).all (fun x => !x.1) && (backToKw cp (keywordEach [] A.X.env)).all (fun x => x.1.isSome) && decide ((e :: es).length + ([] : List Keyword).length + (if ([] : List Keyword).isEmpty then 0 else 1) < 30)) = true := by rfl)
    (hline : (ap.endLine == cp.line) = true := by rfl) (hs : starEach (e :: es) A.X.env = (false, eval e A.X.env) :: starEach es A.X.env := by rfl) (hplain : (backTo cp (starEach es A.X.env)).any (·.1) = false := by rfl) :
    EX A G (.Call (.Attribute ob name ap) (e :: es) [] cp) (rV rc) (fun p => Res.bind (f p) fun y => Res.bind (fa (to y.2)) fun z => Res.bind (ofO (k y.1.1 z.1)) fun w => .ok (w.1, put (bk y.2 z.2) (y.1.2 w.2))) := by
  obtain ⟨r, hr, pr⟩ := h
  refine pe_weak (pe_bm PySem.F.plainAttrs_list slot hty hr pl ha hbase hfew hline hs hplain) fun o H Q ⟨p, L, w, cr, kk⟩ => ⟨p, L, w, cr, kk.bind.imp fun y _ gy v' L1 H1 s1 w1 c1 ⟨π, v, _, ev, pc⟩ => ⟨?_, to y.2, lendL S T L1, wf_lendL w1, ln.to_ok _ _ _ _ _ w1 c1, (Good.lend w1 (gy.step s1).bind).imp fun z _ gz ws L2 H2 s2 w2 c2 h2 => ?_⟩⟩
  · obtain ⟨q, vs, e', hm, hp, _⟩ := pc.1
    subst e'
    exact .inl ⟨rfl, _, SqL.of hp⟩
  · obtain ⟨u, eu, gu⟩ := good_ofO gz
    have pl2 := plc_lent hi w1 s2 pc
    have w3 := wf_backL w1 w2 s2
    have c3 := ln.bk_ok _ _ _ _ _ _ _ _ w1 s2 c1 c2
    obtain ⟨q, vs, e', hm, hp, hl, hpp⟩ := pl2.1
    subst e'
    have h3 : as.see A.X.K (rd (backL S T L1 L2) H2) ws z.1 := by
      rcases hh with hh | hh
      · exact hh _ _ _ _ _ (rd_backL w1 s2) h2
      · subst hh
        exact as.mono _ _ _ _ _ (rd_hid w1 s2) h2
    refine pr _ H2 q vs ws y.1.1 u.2 z.1 u.1 Q w3 hp hl hpp h3 eu fun vr vs' hn hp' hz => ?_
    obtain ⟨v1, hP, ev1, _⟩ := a.ok _ _ _ _ _ _ c3
    rw [Nat.zero_add, ev] at ev1
    cases ev1
    have hq := hm
    have sm : Same (rd (backL S T L1 L2) H2) (rd (backL S T L1 L2) (upd H2 q (.lst vs'))) := fun b ob qa => by
      obtain ⟨⟨l', e1⟩, e2⟩ := rd_of qa
      exact rd_mk e1 (by rw [upd_ne fun e => by rw [e, sub_of hm] at e1; cases e1]; exact e2)
    obtain ⟨t1, t2, t3⟩ := plc_set (new := .lst vs') (y' := u.2) m w3 c3 hP ev pl2 hm trivial ⟨q, vs', rfl, hm, upd_same, hn, paired_mono (fun _ _ z => c.mono _ _ _ _ _ sm z) hp'⟩
    exact gu vr _ _ ((s1.trans (stp_backL w1 s2)).trans t1) t2 t3 (rc.mono _ _ _ _ _ sm hz)
theorem ex_plM0 {α γ δ : Type} {oc : OCod α} {c : Cod δ} {k : List δ → Unit → Option (γ × List δ)} {rc : Cod γ} {P : V → Prop} {i : Nat} {g : CT G → α} {put : CT G → α → CT G} {id : String} {name : Str} {ap cp : Pos} {ob : Expr} {f : CT G → Res ((List δ × (List δ → α)) × CT G)} (h : MtT A id c aNil k rc)
    (slot : PySem.Slot "list" name id) (hty : typeOf (.builtin id) = pure (.type "method_descriptor")) (a : At G i (sOwn P oc) g) (m : Mod G i (sOwn P oc) put) (pl : PX A G i oc (oL c) ob f)
    (hbase : attributeBase ob name A.X.env (eval ob A.X.env) = eval ob A.X.env := by rfl) (hline : (ap.endLine == cp.line) = true := by rfl) :
    EX A G (.Call (.Attribute ob name ap) [] [] cp) (rV rc) (fun p => Res.bind (f p) fun y => Res.bind (ofO (k y.1.1 ())) fun w => .ok (w.1, put y.2 (y.1.2 w.2))) := by
  obtain ⟨r, hr, pr⟩ := h
  refine pe_weak (pe_bm0 PySem.F.plainAttrs_list slot hty hr pl hbase hline) fun o H Q ⟨p, L, w, cr, kk⟩ => ⟨p, L, w, cr, kk.bind.imp fun y _ gy v' L1 H1 s1 w1 c1 ⟨π, v, _, ev, pl2⟩ => ?_⟩
  obtain ⟨q, vs, e', hm, hp, hl, hpp⟩ := pl2.1
  subst e'
  refine ⟨.inl ⟨rfl, _, SqL.of hp⟩, ?_⟩
  obtain ⟨u, eu, gu⟩ := good_ofO gy
  refine pr _ H1 q vs [] y.1.1 u.2 () u.1 Q w1 hp hl hpp rfl eu fun vr vs' hn hp' hz => ?_
  obtain ⟨v1, hP, ev1, _⟩ := a.ok _ _ _ _ _ _ c1
  rw [Nat.zero_add, ev] at ev1
  cases ev1
  have sm : Same (rd L1 H1) (rd L1 (upd H1 q (.lst vs'))) := fun b ob qa => by
    obtain ⟨⟨l', e1⟩, e2⟩ := rd_of qa
    exact rd_mk e1 (by rw [upd_ne fun e => by rw [e, sub_of hm] at e1; cases e1]; exact e2)
  obtain ⟨t1, t2, t3⟩ := plc_set (new := .lst vs') (y' := u.2) m w1 c1 hP ev pl2 hm trivial ⟨q, vs', rfl, hm, upd_same, hn, paired_mono (fun _ _ z => c.mono _ _ _ _ _ sm z) hp'⟩
  exact gu vr _ _ (s1.trans t1) t2 t3 (rc.mono _ _ _ _ _ sm hz)
/-- methods that keep the items: a list of things of one's own -/
def MtO0 (A : Amb) (id : String) (k : {δ : Type} → List δ → List δ) : Prop := ∃ r, MtR A.X id r ∧ ∀ (H : Hp) (l : Addr) (vs : List V) (Q : VK), H l = some (.lst vs) → vs.length ≤ sizeLine → Q .non (upd H l (.lst (k vs))) → r (.ref l) [] H Q

/-- .append(e), the item one's own -/
theorem ex_plApp {α δ : Type} {oc : OCod α} {oc1 : OCod δ} {P : V → Prop} {i : Nat} {g : CT G → α} {put : CT G → α → CT G} {ap cp : Pos} {ob e : Expr} {f : CT G → Res ((List δ × (List δ → α)) × CT G)} {fa : CT G1 → Res (δ × CT G1)} (lo : LocO oc1) (sh : ShO oc1)
    (a : At G i (sOwn P oc) g) (m : Mod G i (sOwn P oc) put) (pl : PX A G i oc (oLL oc1) ob f) (ln : LendC S T 0 G G1 to bk) (hi : i ∈ S ∨ i ∈ T) (hh : RtHard (rO oc1)) (ha : EX A G1 e (rO oc1) fa)
    (hbase : attributeBase ob "append" A.X.env (eval ob A.X.env) = eval ob A.X.env := by rfl)
    (hfew : ((backTo cp (starEach [e] A.X.env)).all (fun x => !x.1) && (backToKw cp (keywordEach [] A.X.env)).all (fun x => x.1.isSome) && decide ([e].length + ([] : List Keyword).length + (if ([] : List Keyword).isEmpty then 0 else 1) < 30)) = true := by rfl)
    (hline : (ap.endLine == cp.line) = true := by rfl) (hs : starEach [e] A.X.env = (false, eval e A.X.env) :: starEach [] A.X.env := by rfl) (hplain : (backTo cp (starEach [] A.X.env)).any (·.1) = false := by rfl) :
    EX A G (.Call (.Attribute ob "append" ap) [e] [] cp) (rV cN) (fun p => Res.bind (f p) fun y => Res.bind (fa (to y.2)) fun z => Res.bind (ofO (appO y.1.1 z.1)) fun w => .ok (w.1, put (bk y.2 z.2) (y.1.2 w.2))) := by
  refine pe_weak (pe_bm PySem.F.plainAttrs_list PySem.F.slot_list_append (by rfl) mt_append pl (pa_cons ha pa_nil hs) hbase hfew hline hs hplain) fun o H Q ⟨p, L, w, cr, kk⟩ => ⟨p, L, w, cr, kk.bind.imp fun y _ gy v' L1 H1 s1 w1 c1 ⟨π, v, _, ev, pc⟩ => ⟨?_, to y.2, lendL S T L1, wf_lendL w1, ln.to_ok _ _ _ _ _ w1 c1, (Good.lend w1 (gy.step s1).bind).imp fun z _ gz va L2 H2 s2 w2 c2 h2 => ?_⟩⟩
  · obtain ⟨q, vs, e', hm, hp, _⟩ := pc.1
    subst e'
    exact .inl ⟨rfl, _, SqL.of hp⟩
  · obtain ⟨u, eu, gu⟩ := good_ofO gz
    have pl2 := plc_lent hi w1 s2 pc
    have w3 := wf_backL w1 w2 s2
    have c3 := ln.bk_ok _ _ _ _ _ _ _ _ w1 s2 c1 c2
    have st := stp_backL w1 s2
    have h3 := hh.bk w1 s2 h2
    obtain ⟨q, vs, e', hm, hp, hl, hn, hin⟩ := pl2.1
    subst e'
    unfold appO at eu
    have hz := line_eq
    split at eu
    · rename_i hc
      cases eu
      obtain ⟨v1, hP, ev1, _⟩ := a.ok _ _ _ _ _ _ c3
      rw [Nat.zero_add, ev] at ev1
      cases ev1
      refine ⟨q, vs, va, rfl, rfl, hp, by omega, ?_⟩
      obtain ⟨L4, t1, t2, t3⟩ := plc_grow (n := vs.length) (new := .lst (vs ++ [va])) (y' := y.1.1 ++ [z.1]) m w3 st c3 hP ev pl2 hm trivial sh h3 fun L4 k4 sm o4 => ⟨q, vs ++ [va], rfl, k4 q _ hm, upd_same, by rw [List.length_append, List.length_singleton]; omega, by rw [List.length_append, List.length_append, hn]; rfl, fun i' u x e1 e2 => by
        by_cases ei : i' < vs.length
        · rw [List.getElem?_append_left ei] at e1
          rw [List.getElem?_append_left (by omega)] at e2
          exact lo _ _ _ _ _ _ _ _ _ _ sm (fun a m z em => ⟨k4 a m em, upd_ne fun e => by
            rw [e, hm] at em; cases em
            exact suf_ne z⟩) (hin i' u x e1 e2)
        · by_cases e3 : i' = vs.length
          · subst e3
            rw [List.getElem?_append_right (Nat.le_refl _), Nat.sub_self] at e1
            rw [hn, List.getElem?_append_right (Nat.le_refl _), Nat.sub_self] at e2
            have e1 : some va = some u := e1
            have e2 : some z.1 = some x := e2
            cases e1; cases e2
            exact o4
          · rw [List.getElem?_eq_none (by rw [List.length_append, List.length_singleton]; omega)] at e1; cases e1⟩
      exact gu .non L4 _ (s1.trans t1) t2 t3 rfl
    · cases eu

/-! ### storing at a place -/
theorem sx_plSet {α δ : Type} {oc : OCod α} {c : Cod δ} {P : V → Prop} {i : Nat} {g : CT G → α} {put : CT G → α → CT G} {p2 pos : Pos} {ob ei e : Expr} {fe : CT G → Res (δ × CT G)} {f : CT G → Res ((List δ × (List δ → α)) × CT G)} {fi : CT G1 → Res (Int × CT G1)} (a : At G i (sOwn P oc) g) (m : Mod G i (sOwn P oc) put)
    (he : EX A G e (rV c) fe) (pl : PX A G i oc (oL c) ob f) (ln : LendC S T 0 G G1 to bk) (hT : i ∈ S ∨ i ∈ T) (hi : EX A G1 ei (rV cI) fi)
    (hsub : ∀ v, assign (.Subscript ob ei p2) A.X.env v = (do
      let ov ← holding [v] (eval ob A.X.env)
      let iv ← holding [v, ov] (eval ei A.X.env)
      standAt p2
      holding [v, ov, iv] (setItem ov iv v)
      release [v, ov, iv] []) := by intro _; rfl)
    (hs : swapsWithSole [.Subscript ob ei p2] e pos.line A.X.env = pure false := by rfl) (hw : swappedStores [.Subscript ob ei p2] e A.X.env = pure none := by rfl)
    (h1 : (assignEach [.Subscript ob ei p2] A.X.env).map (·.2) = [assign (.Subscript ob ei p2) A.X.env] := by rfl) :
    SX A G (.Assign [.Subscript ob ei p2] e pos) G R (fun p => Res.bind (fe p) fun y => Res.bind (f y.2) fun u => Res.bind (fi (to u.2)) fun z => Res.bind (ofO (setI u.1.1 z.1 y.1)) fun xs => .ok (.nx (put (bk u.2 z.2) (u.1.2 xs)))) := by
  refine ps_weak (ps_asg he (pg_sub pl hi set_list hsub) hs hw h1) fun D o H ⟨p, L, w, cr, k⟩ => ⟨p, L, w, cr, k.bind.imp fun y _ gy v L1 H1 s1 w1 c1 r1 => ⟨y.2, L1, w1, c1, (gy.bind.step s1).imp fun u _ gu v' L2 H2 s2 w2 c2 ⟨π, v0, _, ev, pc⟩ => ⟨to u.2, lendL S T L2, wf_lendL w2, ln.to_ok _ _ _ _ _ w2 c2, (Good.lend w2 (gu.bind.step (s1.trans s2))).imp fun z _ gz vi L3 H3 s3 w3 c3 r3 => ?_⟩⟩⟩
  have r3 : vi = .int z.1 := r3
  subst r3
  obtain ⟨xs, ex, gx⟩ := good_ofO gz
  have pl2 := plc_lent hT w2 s3 pc
  have w4 := wf_backL w2 w3 s3
  have c4 := ln.bk_ok _ _ _ _ _ _ _ _ w2 s3 c2 c3
  have st := stp_backL w2 s3
  obtain ⟨q, vs, e', hm, hp, hl, hpp⟩ := pl2.1
  subst e'
  unfold setI at ex
  cases ej : ixN u.1.1.length z.1 with
  | none => rw [ej] at ex; cases ex
  | some j =>
    rw [ej] at ex; cases ex
    obtain ⟨v1, hP, ev1, _⟩ := a.ok _ _ _ _ _ _ c4
    rw [Nat.zero_add, ev] at ev1
    cases ev1
    refine ⟨q, vs, z.1, j, rfl, rfl, hp, by rw [paired_len hpp]; exact ej, ?_⟩
    have sm : Same (rd (backL S T L2 L3) H3) (rd (backL S T L2 L3) (upd H3 q (.lst (vs.set j v)))) := fun b ob qa => by
      obtain ⟨⟨l', e1⟩, e2⟩ := rd_of qa
      exact rd_mk e1 (by rw [upd_ne fun e => by rw [e, sub_of hm] at e1; cases e1]; exact e2)
    have st2 := s2.trans st
    obtain ⟨t1, t2, t3⟩ := plc_set (new := .lst (vs.set j v)) (y' := u.1.1.set j y.1) m w4 c4 hP ev pl2 hm trivial ⟨q, vs.set j v, rfl, hm, upd_same, by rw [List.length_set]; exact hl, paired_set (F := fun v9 x => c.see A.X.K (rd (backL S T L2 L3) (upd H3 q (.lst (vs.set j v)))) v9 x) (c.mono _ _ _ _ _ sm (c.mono _ _ _ _ _ st2.rd r1)) j (paired_mono (fun _ _ z => c.mono _ _ _ _ _ sm z) hpp)⟩
    exact (show nxP A G R L H o D (.nx _) from gx) o _ _ ((s1.trans st2).trans t1) t2 t3 Keeps.refl
/-- an item of one's own is put in -/
theorem sx_plSetO {α δ : Type} {oc : OCod α} {oc1 : OCod δ} {P : V → Prop} {i : Nat} {g : CT G → α} {put : CT G → α → CT G} {p2 pos : Pos} {ob ei e : Expr} {fe : CT G → Res (δ × CT G)} {f : CT G → Res ((List δ × (List δ → α)) × CT G)} {fi : CT G1 → Res (Int × CT G1)} (lo : LocO oc1) (sh : ShO oc1) (a : At G i (sOwn P oc) g) (m : Mod G i (sOwn P oc) put)
    (he : EX A G e (rO oc1) fe) (pl : PX A G i oc (oLL oc1) ob f) (ln : LendC S T 0 G G1 to bk) (hT : i ∈ S ∨ i ∈ T) (hi : EX A G1 ei (rV cI) fi)
    (hsub : ∀ v, assign (.Subscript ob ei p2) A.X.env v = (do
      let ov ← holding [v] (eval ob A.X.env)
      let iv ← holding [v, ov] (eval ei A.X.env)
      standAt p2
      holding [v, ov, iv] (setItem ov iv v)
      release [v, ov, iv] []) := by intro _; rfl)
    (hs : swapsWithSole [.Subscript ob ei p2] e pos.line A.X.env = pure false := by rfl) (hw : swappedStores [.Subscript ob ei p2] e A.X.env = pure none := by rfl)
    (h1 : (assignEach [.Subscript ob ei p2] A.X.env).map (·.2) = [assign (.Subscript ob ei p2) A.X.env] := by rfl) :
    SX A G (.Assign [.Subscript ob ei p2] e pos) G R (fun p => Res.bind (fe p) fun y => Res.bind (f y.2) fun u => Res.bind (fi (to u.2)) fun z => Res.bind (ofO (setI u.1.1 z.1 y.1)) fun xs => .ok (.nx (put (bk u.2 z.2) (u.1.2 xs)))) := by
  refine ps_weak (ps_asg he (pg_sub pl hi set_list hsub) hs hw h1) fun D o H ⟨p, L, w, cr, k⟩ => ⟨p, L, w, cr, k.bind.imp fun y _ gy v L1 H1 s1 w1 c1 r1 => ⟨y.2, L1, w1, c1, (gy.bind.step s1).imp fun u _ gu v' L2 H2 s2 w2 c2 ⟨π, v0, _, ev, pc⟩ => ⟨to u.2, lendL S T L2, wf_lendL w2, ln.to_ok _ _ _ _ _ w2 c2, (Good.lend w2 (gu.bind.step (s1.trans s2))).imp fun z _ gz vi L3 H3 s3 w3 c3 r3 => ?_⟩⟩⟩
  have r3 : vi = .int z.1 := r3
  subst r3
  obtain ⟨xs, ex, gx⟩ := good_ofO gz
  have pl2 := plc_lent hT w2 s3 pc
  have w4 := wf_backL w2 w3 s3
  have c4 := ln.bk_ok _ _ _ _ _ _ _ _ w2 s3 c2 c3
  have st := stp_backL w2 s3
  have st2 := s2.trans st
  have h3 := (rO oc1).post _ _ _ _ _ _ _ _ _ st2 r1
  obtain ⟨q, vs, e', hm, hp, hl, hn, hin⟩ := pl2.1
  subst e'
  unfold setI at ex
  cases ej : ixN u.1.1.length z.1 with
  | none => rw [ej] at ex; cases ex
  | some j =>
    rw [ej] at ex; cases ex
    obtain ⟨v1, hP, ev1, _⟩ := a.ok _ _ _ _ _ _ c4
    rw [Nat.zero_add, ev] at ev1
    cases ev1
    refine ⟨q, vs, z.1, j, rfl, rfl, hp, by rw [hn]; exact ej, ?_⟩
    obtain ⟨L4, t1, t2, t3⟩ := plc_grow (n := j) (new := .lst (vs.set j v)) (y' := u.1.1.set j y.1) m w4 (s1.trans st2) c4 hP ev pl2 hm trivial sh h3 fun L4 k4 sm o4 => ⟨q, vs.set j v, rfl, k4 q _ hm, upd_same, by rw [List.length_set]; exact hl, by rw [List.length_set, List.length_set, hn], fun i' u x e1 e2 => by
      by_cases ei : i' = j
      · subst ei
        have hlt : i' < vs.length := by
          have := (List.getElem?_eq_some_iff.mp e1).1
          rwa [List.length_set] at this
        rw [List.getElem?_set_self hlt] at e1
        rw [List.getElem?_set_self (by omega)] at e2
        cases e1; cases e2
        exact o4
      · rw [List.getElem?_set_ne (fun e => ei e.symm)] at e1 e2
        exact lo _ _ _ _ _ _ _ _ _ _ sm (fun a m z em => ⟨k4 a m em, upd_ne fun e => by
          rw [e, hm] at em; cases em
          exact suf_ne z⟩) (hin i' u x e1 e2)⟩
    exact (show nxP A G R L H o D (.nx _) from gx) o L4 _ t1 t2 t3 Keeps.refl
end
end AC
set_option Elab.async false
set_option linter.all false
set_option maxRecDepth 100000
/-! TL27: what is moved; loops over things of one's own. -/
namespace AC
open PySem L2 PyProof

def cutP (l m : List Nat) : Option (List Nat) := if l <:+ m then some (m.take (m.length - l.length)) else none
theorem cut_app {l t : List Nat} : cutP l (t ++ l) = some t := by
  unfold cutP
  rw [if_pos (List.suffix_append t l), List.length_append, Nat.add_sub_cancel, List.take_left]
theorem cut_of {l m t : List Nat} (h : cutP l m = some t) : m = t ++ l := by
  unfold cutP at h
  split at h
  · rename_i hc
    obtain ⟨u, rfl⟩ := hc
    rw [List.length_append, Nat.add_sub_cancel, List.take_left] at h
    cases h
    rfl
  · cases h
theorem cut_none {l m : List Nat} (h : cutP l m = none) : ¬ (l <:+ m) := fun z => by
  unfold cutP at h
  rw [if_pos z] at h
  cases h
/-- paths may be shorter -/
def UnO {α : Type} (oc : OCod α) : Prop := ∀ K R M H m l v x, oc.own K R M H (m ++ l) v x → oc.own K R (fun a => (M a).bind (cutP l)) H m v x
theorem un_at {M : Addr → Option (List Nat)} {p : Addr} {m l : List Nat} (h : M p = some (m ++ l)) : (fun a => (M a).bind (cutP l)) p = some m := by
  show (M p).bind (cutP l) = some m
  rw [h]
  exact cut_app
theorem uo_l {α : Type} {c : Cod α} : UnO (oL c) := fun K R M H m l v x ⟨p, vs, e, h1, h2, h3, h4⟩ => ⟨p, vs, e, un_at h1, h2, h3, h4⟩
theorem uo_d {κ α : Type} {kc : KeyC κ} {c : Cod α} : UnO (oD kc c) := fun K R M H m l v x ⟨p, vs, e, h1, h2, h3, h4⟩ => ⟨p, vs, e, un_at h1, h2, h3, h4⟩
theorem uo_ll {α : Type} {oc : OCod α} (h : UnO oc) : UnO (oLL oc) := fun K R M H m l v x ⟨p, vs, e, h1, h2, h3, h4, h5⟩ => ⟨p, vs, e, un_at h1, h2, h3, h4, fun i v x q1 q2 => h K R M H (0 :: i :: m) l v x (h5 i v x q1 q2)⟩
def UnA {α : Type} (as : OArg α) : Prop := ∀ K R M H m k vs x l, as.own K R M H (m ++ l) k vs x → as.own K R (fun a => (M a).bind (cutP l)) H m k vs x
theorem ua_v1 {α : Type} {c : Cod α} : UnA (oV1 c) := fun K R M H m k vs x l h => h
theorem ua_o1 {α : Type} {oc : OCod α} (h : UnO oc) : UnA (oO1 oc) := fun K R M H m k vs x l ⟨v, e, q⟩ => ⟨v, e, h K R M H (0 :: k :: m) l v x q⟩
theorem ua_vc {α β : Type} {c : Cod α} {as : OArg β} (h : UnA as) : UnA (oVc c as) := fun K R M H m k vs x l ⟨v, ws, e, q, q'⟩ => ⟨v, ws, e, q, h _ _ _ _ _ _ _ _ l q'⟩
theorem ua_oc {α β : Type} {oc : OCod α} {as : OArg β} (h0 : UnO oc) (h : UnA as) : UnA (oOc oc as) := fun K R M H m k vs x l ⟨v, ws, e, q, q'⟩ => ⟨v, ws, e, h0 K R M H (0 :: k :: m) l v _ q, h _ _ _ _ _ _ _ _ l q'⟩
theorem uo_t {α : Type} {as : OArg α} (h : UnA as) : UnO (oT as) := fun K R M H m l v x ⟨a, vs, e, q, q'⟩ => ⟨a, vs, e, q, h _ _ _ _ _ _ _ _ l q'⟩

/-! ### moves -/
def optRel {α : Type} (oc : OCod α) (K : Frag) (k : Nat) (x : Option α) (L : Lab) (H : Hp) (o : Option (Option V)) : Prop := match x with
  | none => True
  | some x => (sOwn PAny oc).rel K k x L H o
abbrev sOpt {α : Type} (oc : OCod α) : Slot := ⟨Option α, fun K k x L H o => optRel oc K k x L H o, fun K k x L H L' H' o s t h => by
  cases x with
  | none => trivial
  | some x => exact (sOwn PAny oc).keep K k x L H L' H' o s t h⟩
theorem sc_opt {α : Type} {oc : OCod α} {P : V → Prop} {G G' : Ctx} {g : CT G → CT G'} (h : SubC G G' g) : SubC (sOwn P oc :: G) (sOpt oc :: G') (fun p => (some p.1, g p.2)) := ⟨fun K k p L H o w c => by
  obtain ⟨L', h1, h2⟩ := (sc_same (s := sOwn P oc) h).ok K k p L H o w c
  obtain ⟨v, _, e, q⟩ := h2.1
  exact ⟨L', h1, ⟨v, trivial, e, q⟩, h2.2⟩⟩
def dropL (i : Nat) (L : Lab) : Lab := fun a => match L a with
  | some (k, l) => if k = i + 1 then none else some (k, l)
  | none => none
section
variable {i : Nat} {L : Lab} {H : Hp}
theorem dropL_cases (a : Addr) : (∃ l, L a = some (i + 1, l) ∧ dropL i L a = none) ∨ ((∀ l, L a ≠ some (i + 1, l)) ∧ dropL i L a = L a) := by
  cases e : L a with
  | none => exact .inr ⟨fun l z => (nomatch z), by unfold dropL; rw [e]⟩
  | some x =>
    obtain ⟨k, l⟩ := x
    by_cases hk : k = i + 1
    · subst hk
      exact .inl ⟨l, rfl, by unfold dropL; rw [e]; exact if_pos rfl⟩
    · exact .inr ⟨fun l' z => hk (Prod.mk.inj (Option.some.inj z)).1, by unfold dropL; rw [e]; exact if_neg hk⟩
theorem dropL_k {a : Addr} {j : Nat} {l : List Nat} (e : L a = some (j, l)) (h : j ≠ i + 1) : dropL i L a = L a := by
  rcases dropL_cases (i := i) (L := L) a with ⟨l', z, _⟩ | ⟨_, z⟩
  · rw [e] at z; cases z; exact absurd rfl h
  · exact z
theorem stp_drop : Stp L H (dropL i L) H := fun a f => ⟨by
  rcases dropL_cases (i := i) (L := L) a with ⟨l, z, _⟩ | ⟨_, z⟩
  · rcases f.2 with y | ⟨l', y⟩
    · rw [z] at y; cases y
    · rw [z] at y; cases y
  · exact z, rfl⟩
theorem wf_drop (w : Wf L H) : Wf (dropL i L) H := ⟨fun a ha => by
  rcases dropL_cases (i := i) (L := L) a with ⟨l, _, z⟩ | ⟨_, z⟩
  · exact absurd z ha
  · rw [z] at ha; exact w.dom a ha, fun a k l e => by
  rcases dropL_cases (i := i) (L := L) a with ⟨l', _, z⟩ | ⟨_, z⟩
  · rw [z] at e; cases e
  · rw [z] at e; exact w.soft a k l e⟩
end
section
variable {A : Amb} {G G' G1 G2 : Ctx} {ρ : Type} {R : Rr ρ} {S T : List Nat} {to : CT G → CT G1} {bk : CT G → CT G1 → CT G}
theorem mv_core {α : Type} {oc : OCod α} {i : Nat} {put : CT G → Option α → CT G} (m : Mod G i (sOpt oc) put) {p : CT G} {L : Lab} {H : Hp} {o : St} (cr : CR A.X.K 0 G p L H o) : CR A.X.K 0 G (put p none) (dropL i L) H o :=
  m.ok _ _ _ none _ _ _ _ _ cr stp_drop.rd (fun a j l _ hj e => ⟨dropL_k e (by omega), rfl⟩) trivial
theorem mv_own {β : Type} {oc : OCod β} {K : Frag} {i : Nat} {L : Lab} {H : Hp} {π : List Nat} {v : V} {y : β} (hπ : insL π = false) (un : UnO oc) (w : Wf L H) (h : oc.own K (rd L H) (sub L (i + 1)) H π v y) : OwnAt oc K L H (dropL i L) H v y := by
  have h2 := un K _ _ _ [] π v y h
  refine ⟨_, fun a m em => ?_, oc.mono _ _ _ _ _ _ _ _ _ _ (stp_drop (i := i)).rd (fun a m em => ⟨em, rfl⟩) h2⟩
  have em : (sub L (i + 1) a).bind (cutP π) = some m := em
  cases e : sub L (i + 1) a with
  | none => rw [e] at em; cases em
  | some m' =>
    rw [e] at em
    have hm := cut_of (show cutP π m' = some m from em)
    have eL := sub_of e
    refine ⟨?_, ?_, fun f => ?_⟩
    · rcases dropL_cases (i := i) (L := L) a with ⟨l', _, z⟩ | ⟨z, _⟩
      · exact z
      · exact absurd eL (z _)
    · have := w.soft a i m' eL
      subst hm
      cases m with
      | cons b bs => exact this
      | nil =>
        cases ho : H a with
        | none => rw [ho] at this; exact this.elim
        | some ob =>
          rw [ho] at this
          have this : if insL π = true then (∀ xs, ob ≠ .tup xs) else SoftO ob := this
          rw [hπ] at this
          exact this
    · rcases f.2 with y | ⟨l', y⟩
      · rw [eL] at y; cases y
      · rw [eL] at y; cases y
/-- a place within what may be moved -/
theorem px_nameO {α : Type} {oc : OCod α} {i : Nat} {x : Str} {pos : Pos} {g : CT G → Option α} (a : At G i (sOpt oc) g) (hN : A.X.N[i]? = some x) (hv : Vis A.X.env.scope x) (hd : (x == ("__debug__" : Str)) = false := by decide) (hcd : (x == ("__classdict__" : Str)) = false := by decide) :
    PX A G i oc oc (.Name x pos) (fun p => Res.bind (ofO (g p)) fun y => .ok ((y, id), p)) := pe_weak (pe_var hN hv hd hcd) fun o H Q ⟨p, L, w, cr, k⟩ => by
  obtain ⟨y, ey, gy⟩ := good_ofO k
  have h := a.ok _ _ _ _ _ _ cr
  rw [ey] at h
  obtain ⟨v, _, e, q⟩ := h
  rw [Nat.zero_add] at e q
  exact ⟨v, e, (show ∀ v L' H', _ from gy) v L H Stp.refl w cr ⟨[], v, rfl, e, plc_refl q⟩⟩
/-- a part of one's own is moved out; the rest is lost -/
theorem ex_mvPl {α β : Type} {oc : OCod α} {oc' : OCod β} {i : Nat} {e : Expr} {put : CT G → Option α → CT G} {f : CT G → Res ((β × (β → α)) × CT G)} (un : UnO oc') (m : Mod G i (sOpt oc) put) (pl : PX A G i oc oc' e f) :
    EX A G e (rO oc') (fun p => Res.bind (f p) fun y => .ok (y.1.1, put y.2 none)) :=
  pe_weak pl fun o H Q ⟨p, L, w, cr, k⟩ => ⟨p, L, w, cr, k.bind.imp fun y _ gy v' L1 H1 s1 w1 c1 ⟨π, v, hπ, ev, pc⟩ =>
    gy v' (dropL i L1) H1 (s1.trans stp_drop) (wf_drop w1) (mv_core m c1) ((rO oc').pre _ _ _ _ _ _ _ _ _ s1 (mv_own hπ un w1 pc.1))⟩
end
end AC
set_option Elab.async false
set_option linter.all false
set_option maxRecDepth 100000
/-! TL28: loops over things of one's own. -/
namespace AC
open PySem L2 PyProof

/-! ### parts of a slot's things become other slots' for a while -/
def findC (cs : List (Nat × List Nat)) (l : List Nat) : Option (Nat × List Nat) := cs.findSome? fun c => (cutP c.2 l).map fun t => (c.1 + 1, t)
theorem findC_some {cs : List (Nat × List Nat)} {l : List Nat} {y : Nat × List Nat} (h : findC cs l = some y) : ∃ c, c ∈ cs ∧ ∃ t, l = t ++ c.2 ∧ y = (c.1 + 1, t) := by
  unfold findC at h
  obtain ⟨c, hc, e⟩ := List.exists_of_findSome?_eq_some h
  cases e1 : cutP c.2 l with
  | none => rw [e1] at e; cases e
  | some t => rw [e1] at e; exact ⟨c, hc, t, cut_of e1, (Option.some.inj e).symm⟩
theorem findC_none {cs : List (Nat × List Nat)} {l : List Nat} (h : ∀ c, c ∈ cs → ¬ (c.2 <:+ l)) : findC cs l = none := by
  unfold findC
  rw [List.findSome?_eq_none_iff]
  intro c hc
  unfold cutP
  rw [if_neg (h c hc)]
  rfl
def openL (i : Nat) (cs : List (Nat × List Nat)) (L : Lab) : Lab := fun a => match L a with
  | none => none
  | some (k, l) => if k = 0 then some (0, l) else if k = i + 1 then findC cs l else if k - 1 ∈ cs.map (·.1) then none else some (k, l)
def backC (i : Nat) (cs : List (Nat × List Nat)) : Option (Nat × List Nat) → Option (Nat × List Nat)
  | none => none
  | some (k, t) => if k = 0 then some (0, t) else match cs.find? (fun c => c.1 == k - 1) with | some c => some (i + 1, t ++ c.2) | none => some (k, t)
def shutL (i : Nat) (cs : List (Nat × List Nat)) (L L2 : Lab) : Lab := fun a => match L a with
  | some (k, l) => if k = i + 1 ∧ findC cs l = none then some (k, l) else backC i cs (L2 a)
  | none => backC i cs (L2 a)
section
variable {i : Nat} {cs : List (Nat × List Nat)} {L L2 : Lab} {H H2 : Hp}
theorem openL_cases (a : Addr) : (L a = none ∧ openL i cs L a = none) ∨ (∃ l, L a = some (0, l) ∧ openL i cs L a = some (0, l)) ∨ (∃ l, L a = some (i + 1, l) ∧ openL i cs L a = findC cs l) ∨
    (∃ k l, L a = some (k + 1, l) ∧ k ≠ i ∧ k ∈ cs.map (·.1) ∧ openL i cs L a = none) ∨ (∃ k l, L a = some (k + 1, l) ∧ k ≠ i ∧ k ∉ cs.map (·.1) ∧ openL i cs L a = some (k + 1, l)) := by
  cases e : L a with
  | none => exact .inl ⟨rfl, by unfold openL; rw [e]⟩
  | some x =>
    obtain ⟨k, l⟩ := x
    have red : openL i cs L a = if k = 0 then some (0, l) else if k = i + 1 then findC cs l else if k - 1 ∈ cs.map (·.1) then none else some (k, l) := by unfold openL; rw [e]
    cases k with
    | zero => exact .inr (.inl ⟨l, rfl, by rw [red]; exact if_pos rfl⟩)
    | succ k =>
      rw [if_neg (by omega)] at red
      by_cases hk : k = i
      · subst hk
        exact .inr (.inr (.inl ⟨l, rfl, by rw [red, if_pos rfl]⟩))
      · rw [if_neg (by omega)] at red
        by_cases hj : k ∈ cs.map (·.1)
        · exact .inr (.inr (.inr (.inl ⟨k, l, rfl, hk, hj, by rw [red]; exact if_pos hj⟩)))
        · exact .inr (.inr (.inr (.inr ⟨k, l, rfl, hk, hj, by rw [red]; exact if_neg hj⟩)))
theorem rd_open : rd (openL i cs L) H = rd L H := by
  funext a
  unfold rd
  rcases openL_cases (i := i) (cs := cs) (L := L) a with ⟨e, e'⟩ | ⟨l, e, e'⟩ | ⟨l, e, e'⟩ | ⟨k, l, e, _, _, e'⟩ | ⟨k, l, e, _, _, e'⟩
  · rw [e, e']
  · rw [e, e']
  · rw [e, e']
    cases ef : findC cs l with
    | none => rfl
    | some y =>
      obtain ⟨c, _, t, _, rfl⟩ := findC_some ef
      rfl
  · rw [e, e']; rfl
  · rw [e, e']
theorem frm_open {a : Addr} (f : Frm L H a) : Frm (openL i cs L) H a ∧ openL i cs L a = L a := by
  rcases openL_cases (i := i) (cs := cs) (L := L) a with ⟨e, e'⟩ | ⟨l, e, e'⟩ | ⟨l, e, e'⟩ | ⟨k, l, e, _, _, e'⟩ | ⟨k, l, e, _, _, e'⟩
  · exact ⟨⟨f.1, .inl e'⟩, e'.trans e.symm⟩
  · exact ⟨⟨f.1, .inr ⟨l, e'⟩⟩, e'.trans e.symm⟩
  all_goals
    rcases f.2 with z | ⟨l, z⟩
    · rw [e] at z; cases z
    · rw [e] at z; cases z
theorem stp_open : Stp L H (openL i cs L) H := fun a f => ⟨(frm_open f).2, rfl⟩
theorem nt_cut {t σ : List Nat} {o : Option HO} (hσ : insL σ = false) (h : NonTup (t ++ σ) o) : NonTup t o := by
  cases o with
  | none => exact h.elim
  | some ob =>
    cases t with
    | cons b bs => exact h
    | nil =>
      have h : if insL σ = true then (∀ xs, ob ≠ .tup xs) else SoftO ob := h
      rw [hσ] at h
      exact h
theorem nt_app {t σ : List Nat} {o : Option HO} (h : NonTup t o) : NonTup (t ++ σ) o := by
  cases o with
  | none => exact h.elim
  | some ob =>
    cases t with
    | cons b bs => exact h
    | nil => exact soft_nt h
theorem wf_open (hc : ∀ c, c ∈ cs → insL c.2 = false) (w : Wf L H) : Wf (openL i cs L) H := ⟨fun a ha => by
  rcases openL_cases (i := i) (cs := cs) (L := L) a with ⟨e, e'⟩ | ⟨l, e, e'⟩ | ⟨l, e, e'⟩ | ⟨k, l, e, _, _, e'⟩ | ⟨k, l, e, _, _, e'⟩
  · exact absurd e' ha
  all_goals exact w.dom a (by rw [e]; simp), fun a k l e0 => by
  rcases openL_cases (i := i) (cs := cs) (L := L) a with ⟨e, e'⟩ | ⟨l, e, e'⟩ | ⟨l, e, e'⟩ | ⟨k, l, e, _, _, e'⟩ | ⟨k, l, e, _, _, e'⟩
  · rw [e'] at e0; cases e0
  · rw [e'] at e0; cases e0
  · rw [e'] at e0
    obtain ⟨c, hm, t, hl, hy⟩ := findC_some e0
    cases hy
    have := w.soft a _ _ e
    rw [hl] at this
    exact nt_cut (hc c hm) this
  · rw [e'] at e0; cases e0
  · rw [e'] at e0; cases e0; exact w.soft a _ _ e⟩
theorem shut_cases (w : Wf L H) (s : Stp (openL i cs L) H L2 H2) (a : Addr) : (∃ l, L a = some (i + 1, l) ∧ findC cs l = none ∧ shutL i cs L L2 a = some (i + 1, l) ∧ H2 a = H a ∧ L2 a = none) ∨ (shutL i cs L L2 a = backC i cs (L2 a) ∧ ∀ l, L a = some (i + 1, l) → findC cs l ≠ none) := by
  cases e : L a with
  | none => exact .inr ⟨by unfold shutL; rw [e], fun l z => nomatch z⟩
  | some x =>
    obtain ⟨k, l⟩ := x
    by_cases h : k = i + 1 ∧ findC cs l = none
    · obtain ⟨rfl, hf⟩ := h
      have e' : openL i cs L a = none := by
        rcases openL_cases (i := i) (cs := cs) (L := L) a with ⟨z, z'⟩ | ⟨l', z, z'⟩ | ⟨l', z, z'⟩ | ⟨k, l', z, q, _, z'⟩ | ⟨k, l', z, q, _, z'⟩
        · exact z'
        · rw [e] at z; cases z
        · rw [e] at z; cases z; rw [z', hf]
        · exact z'
        · rw [e] at z; cases z; exact absurd rfl q
      obtain ⟨s1, s2⟩ := s a ⟨w.dom a (by rw [e]; simp), .inl e'⟩
      exact .inl ⟨l, rfl, hf, by unfold shutL; rw [e]; exact if_pos ⟨rfl, hf⟩, s2, s1.trans e'⟩
    · exact .inr ⟨by unfold shutL; rw [e]; exact if_neg h, fun l' z => by cases z; exact fun z => h ⟨rfl, z⟩⟩
theorem backC_0 {t : List Nat} : backC i cs (some (0, t)) = some (0, t) := rfl
theorem backC_c {c : Nat × List Nat} {t : List Nat} (h : cs.find? (fun d => d.1 == c.1) = some c) : backC i cs (some (c.1 + 1, t)) = some (i + 1, t ++ c.2) := by
  show (if c.1 + 1 = 0 then some (0, t) else match cs.find? (fun d => d.1 == c.1 + 1 - 1) with | some c => some (i + 1, t ++ c.2) | none => some (c.1 + 1, t)) = _
  rw [if_neg (by omega), Nat.add_sub_cancel, h]
theorem backC_n {k : Nat} {t : List Nat} (h : k ∉ cs.map (·.1)) : backC i cs (some (k + 1, t)) = some (k + 1, t) := by
  show (if k + 1 = 0 then some (0, t) else match cs.find? (fun d => d.1 == k + 1 - 1) with | some c => some (i + 1, t ++ c.2) | none => some (k + 1, t)) = _
  have : cs.find? (fun d => d.1 == k) = none := by
    rw [List.find?_eq_none]
    intro c hc z
    exact h (List.mem_map.mpr ⟨c, hc, by simpa using z⟩)
  rw [if_neg (by omega), Nat.add_sub_cancel, this]
theorem backC_some {y : Option (Nat × List Nat)} {k : Nat} {l : List Nat} (h : backC i cs y = some (k, l)) : (k = 0 ∧ y = some (0, l)) ∨ ∃ k' t, y = some (k' + 1, t) ∧ ((∃ c, c ∈ cs ∧ c.1 = k' ∧ k = i + 1 ∧ l = t ++ c.2) ∨ (k = k' + 1 ∧ l = t)) := by
  cases y with
  | none => cases h
  | some x =>
    obtain ⟨k', t⟩ := x
    cases k' with
    | zero => cases h; exact .inl ⟨rfl, rfl⟩
    | succ k' =>
      right
      refine ⟨k', t, rfl, ?_⟩
      have h : (match cs.find? (fun d => d.1 == k') with | some c => some (i + 1, t ++ c.2) | none => some (k' + 1, t)) = some (k, l) := h
      cases ef : cs.find? (fun d => d.1 == k') with
      | none => rw [ef] at h; cases h; exact .inr ⟨rfl, rfl⟩
      | some c =>
        rw [ef] at h; cases h
        exact .inl ⟨c, List.mem_of_find?_eq_some ef, by simpa using List.find?_some ef, rfl, rfl⟩
theorem wf_shut (w : Wf L H) (w2 : Wf L2 H2) (s : Stp (openL i cs L) H L2 H2) : Wf (shutL i cs L L2) H2 := ⟨fun a ha => by
  rcases shut_cases w s a with ⟨l, e, _, _, eh, _⟩ | ⟨e, _⟩
  · rw [eh]; exact w.dom a (by rw [e]; simp)
  · refine w2.dom a fun z => ha ?_
    rw [e, z]; rfl, fun a k l e0 => by
  rcases shut_cases w s a with ⟨l', e, _, e', eh, _⟩ | ⟨e, _⟩
  · rw [e'] at e0; cases e0; rw [eh]; exact w.soft a _ _ e
  · rw [e] at e0
    rcases backC_some e0 with ⟨z, _⟩ | ⟨k', t, ey, ⟨c, _, _, _, rfl⟩ | ⟨_, rfl⟩⟩
    · cases z
    · exact nt_app (w2.soft a _ _ ey)
    · exact w2.soft a _ _ ey⟩
theorem stp_shut (w : Wf L H) (s : Stp (openL i cs L) H L2 H2) : Stp L H (shutL i cs L L2) H2 := fun a f => by
  obtain ⟨f1, e1⟩ := frm_open (i := i) (cs := cs) f
  obtain ⟨e2, e3⟩ := s a f1
  refine ⟨?_, e3⟩
  rcases shut_cases w s a with ⟨l, e, _⟩ | ⟨e, _⟩
  · rcases f.2 with z | ⟨l', z⟩
    · rw [e] at z; cases z
    · rw [e] at z; cases z
  · rw [e, e2, e1]
    rcases f.2 with z | ⟨l', z⟩
    · rw [z]; rfl
    · rw [z]; rfl
theorem rd_shut (w : Wf L H) (s : Stp (openL i cs L) H L2 H2) : Same (rd L2 H2) (rd (shutL i cs L L2) H2) := fun a o q => by
  obtain ⟨⟨l, e1⟩, e2⟩ := rd_of q
  rcases shut_cases w s a with ⟨l', _, _, _, _, z⟩ | ⟨e, _⟩
  · rw [z] at e1; cases e1
  · exact rd_mk (l := l) (by rw [e, e1]; rfl) e2
theorem shut_keep (w : Wf L H) (s : Stp (openL i cs L) H L2 H2) {a : Addr} {k : Nat} {l : List Nat} (e : L2 a = some (k + 1, l)) (hk : k ∉ cs.map (·.1)) : shutL i cs L L2 a = L2 a := by
  rcases shut_cases w s a with ⟨l', _, _, _, _, z⟩ | ⟨e', _⟩
  · rw [z] at e; cases e
  · rw [e', e, backC_n hk]
theorem sub_shut (w : Wf L H) (s : Stp (openL i cs L) H L2 H2) {c : Nat × List Nat} (hc : cs.find? (fun d => d.1 == c.1) = some c) {a : Addr} {t : List Nat} (e : sub L2 (c.1 + 1) a = some t) : sub (shutL i cs L L2) (i + 1) a = some (t ++ c.2) := by
  have e := sub_of e
  rcases shut_cases w s a with ⟨l', _, _, _, _, z⟩ | ⟨e', _⟩
  · rw [z] at e; cases e
  · exact sub_mk (by rw [e', e, backC_c hc])
theorem sub_hid (w : Wf L H) (s : Stp (openL i cs L) H L2 H2) {a : Addr} {m : List Nat} (e : sub L (i + 1) a = some m) (hf : findC cs m = none) : sub (shutL i cs L L2) (i + 1) a = some m ∧ H2 a = H a := by
  have e := sub_of e
  rcases shut_cases w s a with ⟨l', e1, _, e2, e3, _⟩ | ⟨_, h⟩
  · rw [e1] at e; cases e
    exact ⟨sub_mk e2, e3⟩
  · exact absurd hf (h m e)
theorem open_keep {a : Addr} {k : Nat} {l : List Nat} (e : L a = some (k + 1, l)) (hi : k ≠ i) (hk : k ∉ cs.map (·.1)) : openL i cs L a = L a := by
  rcases openL_cases (i := i) (cs := cs) (L := L) a with ⟨z, z'⟩ | ⟨l', z, z'⟩ | ⟨l', z, z'⟩ | ⟨k', l', z, _, q, z'⟩ | ⟨k', l', z, _, _, z'⟩
  · exact z'.trans z.symm
  · exact z'.trans z.symm
  · rw [e] at z; cases z; exact absurd rfl hi
  · rw [e] at z; cases z; exact absurd q hk
  · exact z'.trans z.symm
theorem sub_open {c : Nat × List Nat} (hu : ∀ t, findC cs (t ++ c.2) = some (c.1 + 1, t)) {a : Addr} {t : List Nat} (e : sub L (i + 1) a = some (t ++ c.2)) : sub (openL i cs L) (c.1 + 1) a = some t := by
  have e := sub_of e
  rcases openL_cases (i := i) (cs := cs) (L := L) a with ⟨z, z'⟩ | ⟨l', z, z'⟩ | ⟨l', z, z'⟩ | ⟨k', l', z, q, _, z'⟩ | ⟨k', l', z, q, _, z'⟩
  · rw [e] at z; cases z
  · rw [e] at z; cases z
  · rw [e] at z; cases z
    exact sub_mk (by rw [z', hu])
  · rw [e] at z; cases z; exact absurd rfl q
  · rw [e] at z; cases z; exact absurd rfl q
end

/-! ### contexts -/
structure FrgC (ks : List Nat) (k : Nat) (G G0 : Ctx) (low : CT G → CT G0) : Prop where
  ok : ∀ (K : Frag) (p : CT G) (L : Lab) (H : Hp) (L' : Lab) (H' : Hp) (o : St), Same (rd L H) (rd L' H') → (∀ a j l, k ≤ j → j ∉ ks → L a = some (j + 1, l) → L' a = L a ∧ H' a = H a) → CR K k G p L H o → CR K k G0 (low p) L' H' o
theorem fg_nil {ks : List Nat} {k : Nat} : FrgC ks k [] [] (fun p => p) := ⟨fun _ _ _ _ _ _ _ _ _ c => c⟩
theorem fg_any {ks : List Nat} {k : Nat} {s : Slot} {G G0 : Ctx} {low : CT G → CT G0} (h : FrgC ks (k + 1) G G0 low) : FrgC ks k (s :: G) (sAny :: G0) (fun p => ((), low p.2)) := ⟨fun K p L H L' H' o sm t c => ⟨trivial, h.ok K p.2 L H L' H' o sm (fun a j l hj => t a j l (by omega)) c.2⟩⟩
theorem fg_keep {ks : List Nat} {k : Nat} {s : Slot} {G G0 : Ctx} {low : CT G → CT G0} (hk : k ∉ ks) (h : FrgC ks (k + 1) G G0 low) : FrgC ks k (s :: G) (s :: G0) (fun p => (p.1, low p.2)) := ⟨fun K p L H L' H' o sm t c => ⟨s.keep K k p.1 L H L' H' _ sm (fun a l e => t a k l (Nat.le_refl _) hk e) c.1, h.ok K p.2 L H L' H' o sm (fun a j l hj => t a j l (by omega)) c.2⟩⟩
/-- of these slots nothing is known -/
structure AnyAt (ks : List Nat) (k : Nat) (G : Ctx) : Prop where
  ok : ∀ (K : Frag) (p : CT G) (L : Lab) (H : Hp) (L' : Lab) (H' : Hp) (o : St), Same (rd L H) (rd L' H') → (∀ a j l, k ≤ j → j ∉ ks → L a = some (j + 1, l) → L' a = L a ∧ H' a = H a) → CR K k G p L H o → CR K k G p L' H' o
theorem aa_nil {ks : List Nat} {k : Nat} : AnyAt ks k [] := ⟨fun _ _ _ _ _ _ _ _ _ c => c⟩
theorem aa_any {ks : List Nat} {k : Nat} {G : Ctx} (h : AnyAt ks (k + 1) G) : AnyAt ks k (sAny :: G) := ⟨fun K p L H L' H' o sm t c => ⟨trivial, h.ok K p.2 L H L' H' o sm (fun a j l hj => t a j l (by omega)) c.2⟩⟩
theorem aa_keep {ks : List Nat} {k : Nat} {s : Slot} {G : Ctx} (hk : k ∉ ks) (h : AnyAt ks (k + 1) G) : AnyAt ks k (s :: G) := ⟨fun K p L H L' H' o sm t c => ⟨s.keep K k p.1 L H L' H' _ sm (fun a l e => t a k l (Nat.le_refl _) hk e) c.1, h.ok K p.2 L H L' H' o sm (fun a j l hj => t a j l (by omega)) c.2⟩⟩
structure UpR (G0 : Ctx) (i : Nat) (s : Slot) (G : Ctx) (put : CT G0 → s.T → CT G) : Prop where
  ok : ∀ (K : Frag) (k : Nat) (c : CT G0) (x : s.T) (L : Lab) (H : Hp) (o : St), CR K k G0 c L H o → s.rel K (k + i) x L H o[k + i]? → CR K k G (put c x) L H o
theorem ur_z {G : Ctx} {s t : Slot} : UpR (t :: G) 0 s (s :: G) (fun c x => (x, c.2)) := ⟨fun K k c x L H o cr h => ⟨h, cr.2⟩⟩
theorem ur_s {G G' : Ctx} {i : Nat} {s t : Slot} {put : CT G → s.T → CT G'} (h : UpR G i s G' put) : UpR (t :: G) (i + 1) s (t :: G') (fun c x => (c.1, put c.2 x)) := ⟨fun K k c x L H o cr q => by
  rw [show k + (i + 1) = k + 1 + i by omega] at q
  exact ⟨cr.1, h.ok K (k + 1) c.2 x L H o cr.2 q⟩⟩
def Amb.keep (A : Amb) (js : List Nat) : Amb := { A with S := fun i => A.S i ∧ i ∉ js }
section
variable {A : Amb} {G G' G0 G1 G2 : Ctx} {ρ : Type} {R : Rr ρ}
theorem good_keep {js : List Nat} {α : Type} {m : Res α} {L : Lab} {H : Hp} {o : St} {P : α → Prop} (h : Good A m L H o P) : Good (A.keep js) m L H o P := by
  cases m with
  | ok a => exact h
  | exc e => exact fun cls d H' hz o' ho => (show A.raises e L H o from h) cls d H' hz o' fun i hi => ho i fun z => hi z.1
  | bad => exact h
theorem keeps_keep {js : List Nat} {o o' : St} (k : Keeps (A.keep js).S o o') : Keeps A.S o o' ∧ ∀ i, i ∈ js → o'[i]? = o[i]? := ⟨⟨fun i hi => k.at_ i fun z => hi z.1, k.len⟩, fun i hi => k.at_ i fun z => z.2 hi⟩
/-- each turn has an item of its own, and leaves it changed -/
def forO {β γ ρ : Type} (F : β → γ → Res (Out (β × γ) ρ)) : List β → γ → Res (Out (List β × γ) ρ)
  | [], c => .ok (.nx ([], c))
  | y :: ys, c => Res.bind (F y c) (Out.seq fun z => Res.bind (forO F ys z.2) fun w => .ok (w.map fun u => (z.1 :: u.1, u.2)))
theorem sx_forO {α β : Type} {oc : OCod α} {oc1 : OCod β} {P : V → Prop} {i j : Nat} {x : Str} {px pos : Pos} {iter : Expr} {body : List Stmt} {g : CT G → α} {f : CT G → Res ((List β × (List β → α)) × CT G)} {lo0 : CT G → CT G0} {op : CT G0 → β → CT G1} {fb : CT G1 → Res (Out (CT G2) ρ)} {back : CT G2 → CT G1} {gj : CT G1 → β} {lo1 : CT G1 → CT G0} {put : CT G0 → α → CT G}
    (lo : LocO oc1) (sh : ShO oc1) (un : UnO oc1) (hij : i ≠ j) (a : At G i (sOwn P oc) g) (pl : PX A G i oc (oLL oc1) iter f) (f0 : FrgC [i, j] 0 G G0 lo0) (an : AnyAt [i, j] 0 G0) (u : Upd G0 j (sOwn PAny oc1) G1 op) (hN : A.X.N[j]? = some x) (hx : Loc A.X.env.scope x) (hS : A.S j) (hf : A.X.fn x = true ∨ A.X.env.scope.names.lookup x = some .local)
    (hb : BX (A.keep [i, j]) G1 body G2 R fb) (sb : SubC G2 G1 back) (aj : At G1 j (sOwn PAny oc1) gj) (f1 : FrgC [j] 0 G1 G0 lo1) (ur : UpR G0 i (sOwn P oc) G put) (hs : ∀ x, foldedSetIterable iter A.X.env x = pure x := by intro _; rfl) :
    SX A G (.For (.Name x px) iter body [] pos) G R (fun p => Res.bind (f p) fun y => Res.bind (forO (fun b c => Res.bind (fb (op c b)) fun z => .ok (z.map fun q => (gj (back q), lo1 (back q)))) y.1.1 (lo0 y.2)) fun w => .ok (w.map fun u => put u.2 (y.1.2 u.1))) := by
  refine ps_weak (ps_for A.hp A.calm (pi_list pl) (pg_name A.nd hN hx hf) hb hs) fun D o H ⟨p, L, w, cr, k⟩ => ⟨p, L, w, cr, k.bind.imp fun y _ q v' L' H' s w' c' ⟨π, v, hπ, ev, pc⟩ => ?_⟩
  obtain ⟨v9, hP, ev9, _⟩ := a.ok _ _ _ _ _ _ c'
  rw [Nat.zero_add, ev] at ev9
  cases ev9
  obtain ⟨⟨q0, vs, e0, hm, hp, hl, hn, hin⟩, _⟩ := pc
  subst e0
  rename_i up
  refine ⟨q0, rfl, ⟨vs, SqL.of hp⟩, ?_⟩
  generalize hF : (fun (b : β) (c : CT G0) => Res.bind (fb (op c b)) fun z => Res.ok (z.map fun q => (gj (back q), lo1 (back q)))) = F at q
  have pc : Plc oc (oLL oc1) A.X.K (rd L' H') (sub L' (i + 1)) H' v π (.ref q0) y.1.1 y.1.2 := ⟨⟨q0, vs, rfl, hm, hp, hl, hn, hin⟩, up⟩
  refine for_it (walk_list (K := A.X.K) (a := q0) (xs := vs)) (fun n o1 H1 => ∃ (c : CT G0) (L1 : Lab) (ys1 : List β), Wf L1 H1 ∧ CR A.X.K 0 G0 c L1 H1 o1 ∧ Stp L' H' L1 H1 ∧ Keeps A.S o o1 ∧ o1[i]? = some (some v) ∧ H1 q0 = some (.lst vs) ∧ Plc oc (oLL oc1) A.X.K (rd L1 H1) (sub L1 (i + 1)) H1 v π (.ref q0) ys1 y.1.2 ∧ ys1.length = y.1.1.length ∧ ys1.drop n = y.1.1.drop n ∧
      Good A (Res.bind (forO F (ys1.drop n) c) fun w => Res.ok (w.map fun u => put u.2 (y.1.2 (ys1.take n ++ u.1)))) L H o (nxP A G R L H o D)) ?_ ?_ ?_ ?_
  · refine ⟨lo0 y.2, L', y.1.1, w', f0.ok _ _ _ _ _ _ _ (fun _ _ q => q) (fun _ _ _ _ _ _ => ⟨rfl, rfl⟩) c', Stp.refl, Keeps.refl, ev, hp, pc, rfl, rfl, ?_⟩
    rw [List.drop_zero, List.take_zero]
    exact q
  · rintro n o1 H1 _ ⟨c, L1, ys1, w1, c1, s1, k1, e1, hq, _⟩
    exact SqL.of hq
  · rintro n v1 o1 H1 H2 hlt ⟨c, L1, ys1, w1, c1, s1, k1, ei, hq, p1, hlen, hdrop, g1⟩ ⟨e3, hv⟩
    have e3 := e3.symm
    subst e3
    obtain ⟨⟨q', vs', e', hm1, hp1, hl1, hn1, hin1⟩, up1⟩ := p1
    cases e'
    rw [hq] at hp1
    cases hp1
    have hny : n < ys1.length := by omega
    obtain ⟨y1, hy1⟩ : ∃ y1, ys1[n]? = some y1 := ⟨_, List.getElem?_eq_getElem hny⟩
    have hd : ys1.drop n = y1 :: ys1.drop (n + 1) := by
      obtain ⟨h1, h2⟩ := List.getElem?_eq_some_iff.mp hy1
      rw [List.drop_eq_getElem_cons h1, h2]
    rw [hd] at g1
    have own1 := hin1 n v1 y1 hv hy1
    -- the item is taken over
    let cs : List (Nat × List Nat) := [(j, 0 :: n :: π)]
    have hcs : ∀ c, c ∈ cs → insL c.2 = false := fun c hc => by
      have hc : c = (j, 0 :: n :: π) := List.mem_singleton.mp hc
      subst hc; rfl
    have hfind : ∀ t, findC cs (t ++ (0 :: n :: π)) = some (j + 1, t) := fun t => by
      simp [findC, cs, cut_app]
    have hjs : ∀ k, k ∉ cs.map (·.1) ↔ k ≠ j := fun k => by
      show k ∉ [j] ↔ _
      simp
    have wo := wf_open (i := i) (cs := cs) hcs w1
    have io : oc1.own A.X.K (rd (openL i cs L1) H1) (sub (openL i cs L1) (j + 1)) H1 [] v1 y1 := by
      have z := un A.X.K _ _ _ [] (0 :: n :: π) v1 y1 own1
      refine oc1.mono _ _ _ _ _ _ _ _ _ _ (by rw [rd_open]; exact fun _ _ q => q) (fun b m em => ⟨?_, rfl⟩) z
      have em : (sub L1 (i + 1) b).bind (cutP (0 :: n :: π)) = some m := em
      cases eb : sub L1 (i + 1) b with
      | none => rw [eb] at em; cases em
      | some m' =>
        rw [eb] at em
        have := cut_of (show cutP (0 :: n :: π) m' = some m from em)
        exact sub_open (c := (j, 0 :: n :: π)) hfind (by rw [eb, this])
    have co : CR A.X.K 0 G0 c (openL i cs L1) H1 o1 := an.ok _ _ _ _ _ _ _ (by rw [rd_open]; exact fun _ _ q => q) (fun b k l _ hk e => ⟨open_keep e (fun z => hk (by rw [z]; simp)) ((hjs k).mpr fun z => hk (by rw [z]; simp)), rfl⟩) c1
    have cj : CR A.X.K 0 G1 (op c y1) (openL i cs L1) H1 (o1.set j (some v1)) := by
      have := u.ok _ 0 c y1 v1 _ _ _ co ⟨v1, trivial, rfl, by rw [Nat.zero_add]; exact io⟩
      rwa [Nat.zero_add] at this
    have ej : (o1.set j (some v1))[j]? = some (some v1) := by
      obtain ⟨va, _, ea, _⟩ := aj.ok _ _ _ _ _ _ cj
      rw [Nat.zero_add] at ea
      rw [List.getElem?_set] at ea ⊢
      rw [if_pos rfl] at ea ⊢
      split at ea
      · rename_i hh; rw [if_pos hh]
      · cases ea
    have st : Stp L H (openL i cs L1) H1 := (s.trans s1).trans stp_open
    have kst : Keeps A.S o (o1.set j (some v1)) := k1.trans (Keeps.set hS)
    have eF : F y1 c = Res.bind (fb (op c y1)) fun z => Res.ok (z.map fun q => (gj (back q), lo1 (back q))) := by rw [← hF]
    have g2 : Good A (Res.bind (Res.bind (F y1 c) (Out.seq fun z => Res.bind (forO F (ys1.drop (n + 1)) z.2) fun w => .ok (w.map fun u => (z.1 :: u.1, u.2)))) fun w => Res.ok (w.map fun u => put u.2 (y.1.2 (ys1.take n ++ u.1)))) L H o (nxP A G R L H o D) := g1
    rw [eF] at g2
    refine ⟨op c y1, openL i cs L1, wo, cj, good_keep ?_⟩
    cases e : fb (op c y1) with
    | bad => rw [e] at g2; exact g2.elim
    | exc ex => rw [e] at g2; exact Amb.raises.mono st kst.at_ g2
    | ok z =>
      rw [e] at g2
      cases z with
      | rt r =>
        intro vr L3 H3 s3 w3 rl
        exact (show nxP A G R L H o D (.rt r) from g2) vr L3 H3 (st.trans s3) w3 (R.pre _ _ _ _ _ _ _ _ _ st rl)
      | nx q3 =>
        intro o3 L3 H3 s3 w3 c3 k3
        obtain ⟨L4, h41, h42⟩ := sb.ok _ _ _ _ _ _ w3 c3
        have s4 : Stp (openL i cs L1) H1 L4 H3 := s3.trans (stp_of_frz h41)
        have w4 := wf_of_frz w3 h41
        have w5 := wf_shut w1 w4 s4
        have s5 := stp_shut w1 s4
        obtain ⟨kk, kj⟩ := keeps_keep k3
        obtain ⟨v2, _, e2, o2⟩ := aj.ok _ _ _ _ _ _ h42
        rw [Nat.zero_add] at e2 o2
        rw [kj j (by simp), ej] at e2
        cases e2
        have ei3 : o3[i]? = some (some v) := by rw [kj i (by simp), List.getElem?_set_ne hij.symm]; exact ei
        have hno : ∀ m, ¬ ((0 :: n :: π) <:+ m) → findC cs m = none := fun m hm => findC_none fun c hc => by
          have hc : c = (j, 0 :: n :: π) := List.mem_singleton.mp hc
          subst hc; exact hm
        have hq5 := sub_hid w1 s4 hm1 (hno π suf_ne)
        have hq3 : H3 q0 = some (.lst vs) := hq5.2.trans hq
        refine ⟨lo1 (back q3), shutL i cs L1 L4, ys1.set n (gj (back q3)), w5, f1.ok _ _ _ _ _ _ _ (rd_shut w1 s4) (fun b k l _ hk eb => ⟨shut_keep w1 s4 eb ((hjs k).mpr fun z => hk (by rw [z]; simp)), rfl⟩) h42, s1.trans s5, (k1.trans (Keeps.set hS)).trans kk, ei3, hq3, ⟨⟨q0, vs, rfl, hq5.1, hq3, hl1, by rw [List.length_set]; exact hn1, fun i' u' x' h1 h2 => ?_⟩, fun R2 M2 H2' y2 sm2 t2 q2 => ?_⟩, by rw [List.length_set]; exact hlen, ?_, ?_⟩
        · by_cases ei' : i' = n
          · subst ei'
            rw [hv] at h1; cases h1
            rw [List.getElem?_set_self hny] at h2; cases h2
            have z := sh _ _ _ _ _ _ _ (0 :: i' :: π) o2
            exact oc1.mono _ _ _ _ _ _ _ _ _ _ (rd_shut w1 s4) (fun b m em => by
              have em : (sub L4 (j + 1) b).map (· ++ (0 :: i' :: π)) = some m := em
              cases eb : sub L4 (j + 1) b with
              | none => rw [eb] at em; cases em
              | some m' =>
                rw [eb] at em
                have em : some (m' ++ (0 :: i' :: π)) = some m := em
                cases em
                exact ⟨sub_shut (c := (j, 0 :: i' :: π)) w1 s4 (by simp [cs]) eb, rfl⟩) z
          · rw [List.getElem?_set_ne (fun e => ei' e.symm)] at h2
            exact lo _ _ _ _ _ _ _ _ _ _ s5.rd (fun b m hz em => sub_hid w1 s4 em (hno m fun z => ei' (suf_two hz z))) (hin1 i' u' x' h1 h2)
        · exact up1 R2 M2 H2' y2 (fun b o z => sm2 b o (s5.rd b o z)) (fun b m hm' em => by
            obtain ⟨z1, z2⟩ := sub_hid w1 s4 em (hno m fun z => hm' (suf_item z))
            obtain ⟨z3, z4⟩ := t2 b m hm' z1
            exact ⟨z3, z4.trans z2⟩) q2
        · rw [List.drop_set_of_lt (by omega)]
          have : ys1.drop (n + 1) = (ys1.drop n).drop 1 := by rw [List.drop_drop]
          rw [this, hdrop, List.drop_drop]
        · rw [List.drop_set_of_lt (by omega)]
          have et : (ys1.set n (gj (back q3))).take (n + 1) = ys1.take n ++ [gj (back q3)] := by
            rw [List.take_add_one, List.take_set_of_le (by omega), List.getElem?_set_self hny]; rfl
          rw [et]
          have g3 : Good A (Res.bind (Res.bind (forO F (ys1.drop (n + 1)) (lo1 (back q3))) fun w => .ok (w.map fun u => (gj (back q3) :: u.1, u.2))) fun w => Res.ok (w.map fun u => put u.2 (y.1.2 (ys1.take n ++ u.1)))) L H o (nxP A G R L H o D) := g2
          rw [Res.bind_assoc] at g3
          refine cast (congrArg (fun m => Good A m L H o (nxP A G R L H o D)) ?_) g3
          congr 1
          funext w
          cases w with
          | nx u => simp [Out.map, Res.bind_ok]
          | rt r => rfl
  · rintro o1 H1 ⟨c, L1, ys1, w1, c1, s1, k1, ei, hq, p1, hlen, hdrop, g1⟩
    have e : ys1.drop vs.length = [] := List.drop_eq_nil_of_le (by omega)
    rw [e] at g1
    have et : ys1.take vs.length = ys1 := List.take_of_length_le (by omega)
    rw [et] at g1
    have g2 : nxP A G R L H o D (.nx (put c (y.1.2 (ys1 ++ [])))) := g1
    rw [List.append_nil] at g2
    refine g2 o1 L1 H1 (s.trans s1) w1 (ur.ok _ _ _ _ _ _ _ c1 ⟨v, hP, by rw [Nat.zero_add]; exact ei, ?_⟩) k1
    rw [Nat.zero_add]
    exact p1.2 _ _ _ ys1 (fun _ _ q => q) (fun _ _ _ em => ⟨em, rfl⟩) p1.1
end
end AC
set_option Elab.async false
set_option linter.all false
set_option maxRecDepth 100000
/-! TL29: lists and tuples of ranges; how many unlike ints; lists of things of one's own cleared, turned. -/
namespace AC
open PySem L2 PyProof PyProof.Rows PySem.Spec

section
variable {A : Amb} {G G' : Ctx} {ρ : Type} {R : Rr ρ}
def rgO (a b : Int) : Option (List Int) := if -(2 ^ 62) ≤ a ∧ a < 2 ^ 62 ∧ -(2 ^ 62) ≤ b ∧ b < 2 ^ 62 ∧ (b - a).toNat ≤ 16777216 then some (intsFrom a (b - a).toNat) else none
theorem rgO_ok {a b : Int} {xs : List Int} (h : rgO a b = some xs) : RgOk a b ∧ xs = intsFrom a (b - a).toNat ∧ xs.length ≤ sizeLine := by
  unfold rgO at h
  have hl := line_eq
  split at h
  · rename_i hc
    cases h
    refine ⟨⟨hc.1, hc.2.1, hc.2.2.1, hc.2.2.2.1, by omega⟩, rfl, by rw [intsFrom_len]; omega⟩
  · cases h
theorem rgV_ints (a b : Int) : rgV a b = (intsFrom a (b - a).toNat).map V.int := by
  unfold rgV intsFrom
  rw [List.map_map]
  rfl
theorem ints_see {K : Frag} {R : Hp} : ∀ xs : List Int, Paired (fun v x => cI.see K R v x) (xs.map V.int) xs
  | [] => .nil
  | x :: xs => .cons rfl (ints_see xs)
theorem ex_listRg1 {a : Expr} {p1 p2 q1 q2 : Pos} {f : CT G → Res (Int × CT G)} (hg : Gl A.X "list") (hm : A.X.mg "list" = none) (hg2 : Gl A.X "range") (hm2 : A.X.mg "range" = none) (h : EX A G a (rV cI) f) (hs : starEach [a] A.X.env = (false, eval a A.X.env) :: starEach [] A.X.env := by rfl)
    (hs2 : starEach [.Call (.Name "range" p2) [a] [] q2] A.X.env = (false, eval (.Call (.Name "range" p2) [a] [] q2) A.X.env) :: starEach [] A.X.env := by rfl) :
    EX A G (.Call (.Name "list" p1) [.Call (.Name "range" p2) [a] [] q2] [] q1) (rO (oL cI)) (fun p => Res.bind (f p) fun y => Res.bind (ofO (rgO 0 y.1)) fun z => .ok (z, y.2)) :=
  pe_weak (pe_listRg A.calm hg hm (prg_1 hg2 hm2 h hs) hs2) fun o H Q ⟨p, L, w, cr, k⟩ => run1 w cr k fun x p' v L' H' st w' c' rl gd => by
    have rl : v = .int x := rl
    obtain ⟨z, e, g⟩ := good_ofO gd
    obtain ⟨h1, h2, h3⟩ := rgO_ok e
    refine ⟨x, rl, h1, fun q hq => ?_⟩
    obtain ⟨e1, e2⟩ := ext_new (o := .lst (rgV 0 x)) w' hq
    refine (show ∀ v L' H', _ from g) (.ref q) L' _ (st.trans e1.stp) e2 (c'.ext w' e1) ((rO (oL cI)).pre _ _ _ _ _ _ _ _ _ st (own_new w' hq ?_ ?_))
    · rw [rgV_ints, List.length_map, ← h2]; exact h3
    · rw [rgV_ints, h2]; exact ints_see _
theorem ex_listRg2 {a b : Expr} {p1 p2 q1 q2 : Pos} {f g : CT G → Res (Int × CT G)} (hg : Gl A.X "list") (hm : A.X.mg "list" = none) (hg2 : Gl A.X "range") (hm2 : A.X.mg "range" = none) (ha : EX A G a (rV cI) f) (hb : EX A G b (rV cI) g) (hs : starEach [a, b] A.X.env = (false, eval a A.X.env) :: starEach [b] A.X.env := by rfl) (hsb : starEach [b] A.X.env = (false, eval b A.X.env) :: starEach [] A.X.env := by rfl)
    (hp : (backTo q2 (starEach [b] A.X.env)).any (·.1) = false := by rfl)
    (hs2 : starEach [.Call (.Name "range" p2) [a, b] [] q2] A.X.env = (false, eval (.Call (.Name "range" p2) [a, b] [] q2) A.X.env) :: starEach [] A.X.env := by rfl) :
    EX A G (.Call (.Name "list" p1) [.Call (.Name "range" p2) [a, b] [] q2] [] q1) (rO (oL cI)) (fun p => Res.bind (f p) fun y => Res.bind (g y.2) fun u => Res.bind (ofO (rgO y.1 u.1)) fun z => .ok (z, u.2)) :=
  pe_weak (pe_listRg A.calm hg hm (prg_2 hg2 hm2 ha hb hs hsb hp) hs2) fun o H Q ⟨p, L, w, cr, k⟩ => run1 w cr k fun x p1 v L1 H1 s1 w1 c1 r1 g1 => run1 w1 c1 g1 fun y p2 u L2 H2 s2 w2 c2 r2 g2 => by
    have r1 : v = .int x := r1
    have r2 : u = .int y := r2
    obtain ⟨z, e, g⟩ := good_ofO g2
    obtain ⟨h1, h2, h3⟩ := rgO_ok e
    refine ⟨x, y, r1, r2, h1, fun q hq => ?_⟩
    obtain ⟨e1, e2⟩ := ext_new (o := .lst (rgV x y)) w2 hq
    have st := s1.trans s2
    refine (show ∀ v L' H', _ from g) (.ref q) L2 _ (st.trans e1.stp) e2 (c2.ext w2 e1) ((rO (oL cI)).pre _ _ _ _ _ _ _ _ _ st (own_new w2 hq ?_ ?_))
    · rw [rgV_ints, List.length_map, ← h2]; exact h3
    · rw [rgV_ints, h2]; exact ints_see _
theorem ex_tupRg1 {a : Expr} {p1 p2 q1 q2 : Pos} {f : CT G → Res (Int × CT G)} (hg : Gl A.X "tuple") (hm : A.X.mg "tuple" = none) (hg2 : Gl A.X "range") (hm2 : A.X.mg "range" = none) (h : EX A G a (rV cI) f) (hs : starEach [a] A.X.env = (false, eval a A.X.env) :: starEach [] A.X.env := by rfl)
    (hs2 : starEach [.Call (.Name "range" p2) [a] [] q2] A.X.env = (false, eval (.Call (.Name "range" p2) [a] [] q2) A.X.env) :: starEach [] A.X.env := by rfl) :
    EX A G (.Call (.Name "tuple" p1) [.Call (.Name "range" p2) [a] [] q2] [] q1) (rV (cTV cI)) (fun p => Res.bind (f p) fun y => Res.bind (ofO (rgO 0 y.1)) fun z => .ok (z, y.2)) :=
  pe_weak (pe_tupRg A.calm hg hm (prg_1 hg2 hm2 h hs) hs2) fun o H Q ⟨p, L, w, cr, k⟩ => run1 w cr k fun x p' v L' H' st w' c' rl gd => by
    have rl : v = .int x := rl
    obtain ⟨z, e, g⟩ := good_ofO gd
    obtain ⟨h1, h2, h3⟩ := rgO_ok e
    refine ⟨x, rl, h1, fun q hq => ?_⟩
    obtain ⟨e1, e2⟩ := ext_val (o := .tup (rgV 0 x)) w' hq
    refine (show ∀ v L' H', _ from g) (.ref q) _ _ (st.trans e1.stp) e2 (c'.ext w' e1) ⟨q, rgV 0 x, rfl, .inl (rd_mk setL_same upd_same), ?_, ?_⟩
    · rw [rgV_ints, List.length_map, ← h2]; exact h3
    · rw [rgV_ints, h2]; exact ints_see _

/-! ### how many unlike ones -/
def dd {α : Type} [DecidableEq α] : List α → List α
  | [] => []
  | x :: xs => if x ∈ xs then dd xs else x :: dd xs
theorem dd_mem {α : Type} [DecidableEq α] {x : α} : ∀ {xs : List α}, x ∈ dd xs ↔ x ∈ xs
  | [] => Iff.rfl
  | y :: ys => by
    unfold dd
    split
    · rename_i h
      rw [dd_mem, List.mem_cons]
      exact ⟨.inr, fun z => z.elim (fun e => by rw [e]; exact h) id⟩
    · rw [List.mem_cons, List.mem_cons, dd_mem]
theorem dd_nodup {α : Type} [DecidableEq α] : ∀ (xs : List α), (dd xs).Nodup
  | [] => List.nodup_nil
  | y :: ys => by
    unfold dd
    split
    · exact dd_nodup ys
    · rename_i h
      exact List.nodup_cons.mpr ⟨fun z => h (dd_mem.mp z), dd_nodup ys⟩
theorem ints_of {K : Frag} {R : Hp} : ∀ {vs : List V} {xs : List Int}, Paired (fun v x => cI.see K R v x) vs xs → vs = xs.map V.int
  | _, _, .nil => rfl
  | _, _, .cons r t => by cases r; rw [ints_of t]; rfl
theorem intsAre_of : ∀ {ns : List Int} {us : List Value}, Vals (ns.map V.int) us → PyProof.Rows.IntsAre us ns
  | [], _, .nil => .nil
  | n :: ns, _, .cons r t => by
    obtain ⟨k, rfl⟩ := r
    exact .cons n k (intsAre_of t)
def nUnlike (xs : List Int) : Option Int := if xs.length < 4000 then some ((dd xs).length : Int) else none
/-- len(set(e)), e a tuple of ints -/
theorem ex_lenSetT {a : Expr} {p1 p2 q1 q2 : Pos} {f : CT G → Res (List Int × CT G)} (hg : Gl A.X "len") (hm : A.X.mg "len" = none) (hg2 : Gl A.X "set") (hm2 : A.X.mg "set" = none) (h : EX A G a (rV (cTV cI)) f) (na : starEach [a] A.X.env = (false, eval a A.X.env) :: starEach [] A.X.env := by rfl) :
    EX A G (.Call (.Name "len" p1) [.Call (.Name "set" p2) [a] [] q2] [] q1) (rV cI) (fun p => Res.bind (f p) fun y => Res.bind (ofO (nUnlike y.1)) fun z => .ok (z, y.2)) := by
  refine ⟨fun pins s o H Q I ⟨p, L, w, cr, k⟩ => ?_⟩
  have hR : tE A G (rV (cTV cI)) f o H fun x H1 => ∃ (l : Addr) (ns : List Int), x = .ref l ∧ SqT A.X.K H1 l (ns.map V.int) ∧ ns.length < 4000 ∧ Q (.int ((dd ns).length : Nat)) H1 := run1 w cr k fun x p' v L' H' st w' c' ⟨l, vs, e1, h1, hl, hp⟩ gd => by
    obtain ⟨z, e, g⟩ := good_ofO gd
    unfold nUnlike at e
    split at e
    · rename_i hc
      cases e
      have := ints_of hp
      subst this
      exact ⟨l, x, e1, (h1.same rd_sub).sq, hc, (show ∀ v L' H', _ from g) _ L' H' st w' c' rfl⟩
    · cases e
  refine Call_ (ld_blt I hg hm boot_len ?_)
  refine PyProof.Rows.callWith_builtin1 (PyProof.Rows.args_cons ?_ rfl) rfl rfl
  refine Call_ (ld_blt I hg2 hm2 boot_set ?_)
  refine PyProof.Rows.callWith_type1 (PyProof.Rows.args_cons (thn (h.run pins s o H _ I hR) fun v s1 ⟨x, H1, I1, r1, q1⟩ => PyProof.Rows.args_nil ?_) na) na rfl
  obtain ⟨l, ns, rfl, hq, hlt, q1⟩ := q1
  cases r1
  obtain ⟨its, r, pl, hz⟩ := I1.tuple hq
  refine call_set_tupI ns (I1.ok.hd A.calm) pl (intsAre_of r) (by unfold scanBound; omega) fun h' tk c R1 hcn kp => ?_
  refine PyProof.Rows.args_nil ?_
  obtain ⟨ob, es, ep, t, ho, hx, hd, g, nd, hmm, hb, hf, hn, _⟩ := R1
  have ec : c = (dd ns).length := by
    rw [← hn]
    have e1 : es.size = (es.toList.map keyOf).length := by rw [List.length_map, Array.length_toList]
    rw [e1]
    refine List.Perm.length_eq ((List.perm_ext_iff_of_nodup nd (dd_nodup ns)).mpr fun k => ?_)
    rw [← hmm k, decide_eq_true_eq, dd_mem]
  have I2 : Inv A.X pins o H1 { s1 with heap := h', toks := tk } := I1.kept kp
  exact call_len_set ho hx hd hf (by rw [hn]; omega) ⟨.int ((dd ns).length : Nat), H1, I2.tok _, ⟨_, by rw [hn, ec]⟩, q1⟩

/-! ### lists of things of one's own -/
theorem ex_plClrO {α δ : Type} {oc : OCod α} {oc1 : OCod δ} {P : V → Prop} {i : Nat} {g : CT G → α} {put : CT G → α → CT G} {ap cp : Pos} {ob : Expr} {f : CT G → Res ((List δ × (List δ → α)) × CT G)}
    (a : At G i (sOwn P oc) g) (m : Mod G i (sOwn P oc) put) (pl : PX A G i oc (oLL oc1) ob f)
    (hbase : attributeBase ob "clear" A.X.env (eval ob A.X.env) = eval ob A.X.env := by rfl) (hline : (ap.endLine == cp.line) = true := by rfl) :
    EX A G (.Call (.Attribute ob "clear" ap) [] [] cp) (rV cN) (fun p => Res.bind (f p) fun y => .ok ((), put y.2 (y.1.2 []))) := by
  refine pe_weak (pe_bm0 PySem.F.plainAttrs_list PySem.F.slot_list_clear (by rfl) mt_clear pl hbase hline) fun o H Q ⟨p, L, w, cr, kk⟩ => ⟨p, L, w, cr, kk.bind.imp fun y _ gy v' L1 H1 s1 w1 c1 ⟨π, v, _, ev, pl2⟩ => ?_⟩
  obtain ⟨q, vs, e', hm, hp, hl, hn, hin⟩ := pl2.1
  subst e'
  refine ⟨.inl ⟨rfl, _, SqL.of hp⟩, q, vs, rfl, rfl, hp, ?_⟩
  obtain ⟨v1, hP, ev1, _⟩ := a.ok _ _ _ _ _ _ c1
  rw [Nat.zero_add, ev] at ev1
  cases ev1
  obtain ⟨t1, t2, t3⟩ := plc_set (new := .lst []) (y' := []) m w1 c1 hP ev pl2 hm trivial ⟨q, [], rfl, hm, upd_same, Nat.zero_le _, rfl, fun i v x h => by simp at h⟩
  exact (show ∀ v L' H', _ from gy) .non _ _ (s1.trans t1) t2 t3 rfl
/-- paths under π, the items turned -/
def revP (π : List Nat) (n : Nat) (m : List Nat) : List Nat := match cutP π m with
  | some t => match t.reverse with
    | j :: 0 :: r => if j < n then r.reverse ++ (0 :: (n - 1 - j) :: π) else m
    | _ => m
  | none => m
theorem revP_in {π t : List Nat} {n j : Nat} (h : j < n) : revP π n (t ++ (0 :: j :: π)) = t ++ (0 :: (n - 1 - j) :: π) := by
  have e : t ++ (0 :: j :: π) = (t ++ [0, j]) ++ π := by simp
  unfold revP
  rw [e, cut_app]
  have e2 : (t ++ [0, j]).reverse = j :: 0 :: t.reverse := by simp
  simp only [e2, List.reverse_reverse]
  rw [if_pos h]
theorem revP_out {π m : List Nat} {n : Nat} (h : ¬ (π <:+ m)) : revP π n m = m := by
  unfold revP
  unfold cutP
  rw [if_neg h]
theorem revP_root {π : List Nat} {n : Nat} : revP π n π = π := by
  unfold revP
  have : cutP π π = some [] := cut_app (l := π) (t := [])
  rw [this]
  rfl
theorem revP_nt {π : List Nat} {n : Nat} (hπ : insL π = false) (m : List Nat) {o : Option HO} (h : NonTup m o) : NonTup (revP π n m) o := by
  unfold revP
  cases e : cutP π m with
  | none => exact h
  | some t =>
    show NonTup (match t.reverse with | j :: 0 :: r => if j < n then r.reverse ++ (0 :: (n - 1 - j) :: π) else m | _ => m) o
    split
    · rename_i j r er
      split
      · have et : t = r.reverse ++ [0, j] := by rw [← List.reverse_reverse t, er]; simp
        have em := cut_of e
        subst em
        rw [et] at h
        exact nt_app (nt_cut (σ := [0, j] ++ π) rfl (by simpa using h))
      · exact h
    · exact h
def turnL (i : Nat) (π : List Nat) (n : Nat) (L : Lab) : Lab := fun a => match L a with
  | some (k, m) => if k = i + 1 then some (k, revP π n m) else some (k, m)
  | none => none
theorem ex_plRevO {α δ : Type} {oc : OCod α} {oc1 : OCod δ} {P : V → Prop} {i : Nat} {g : CT G → α} {put : CT G → α → CT G} {ap cp : Pos} {ob : Expr} {f : CT G → Res ((List δ × (List δ → α)) × CT G)} (sh : ShO oc1) (un : UnO oc1)
    (a : At G i (sOwn P oc) g) (m : Mod G i (sOwn P oc) put) (pl : PX A G i oc (oLL oc1) ob f)
    (hbase : attributeBase ob "reverse" A.X.env (eval ob A.X.env) = eval ob A.X.env := by rfl) (hline : (ap.endLine == cp.line) = true := by rfl) :
    EX A G (.Call (.Attribute ob "reverse" ap) [] [] cp) (rV cN) (fun p => Res.bind (f p) fun y => .ok ((), put y.2 (y.1.2 y.1.1.reverse))) := by
  refine pe_weak (pe_bm0 PySem.F.plainAttrs_list PySem.F.slot_list_reverse (by rfl) mt_reverse pl hbase hline) fun o H Q ⟨p, L, w, cr, kk⟩ => ⟨p, L, w, cr, kk.bind.imp fun y _ gy v' L1 H1 s1 w1 c1 ⟨π, v, hπ, ev, pl2⟩ => ?_⟩
  obtain ⟨⟨q, vs, e', hm, hp, hl, hn, hin⟩, up⟩ := pl2
  subst e'
  refine ⟨.inl ⟨rfl, _, SqL.of hp⟩, q, vs, rfl, rfl, hp, ?_⟩
  obtain ⟨v1, hP, ev1, _⟩ := a.ok _ _ _ _ _ _ c1
  rw [Nat.zero_add, ev] at ev1
  cases ev1
  generalize hL2 : turnL i π vs.length L1 = L2
  have hq := sub_of hm
  have cs : ∀ b, (∃ m, L1 b = some (i + 1, m) ∧ L2 b = some (i + 1, revP π vs.length m)) ∨ ((∀ m, L1 b ≠ some (i + 1, m)) ∧ L2 b = L1 b) := fun b => by
    rw [← hL2]
    unfold turnL
    cases e : L1 b with
    | none => exact .inr ⟨fun m z => (nomatch z), rfl⟩
    | some x =>
      obtain ⟨k, m⟩ := x
      by_cases hk : k = i + 1
      · subst hk; exact .inl ⟨m, rfl, by simp⟩
      · exact .inr ⟨fun m z => hk (Prod.mk.inj (Option.some.inj z)).1, by simp [hk]⟩
  have kp : ∀ b k l, k ≠ i → L1 b = some (k + 1, l) → L2 b = L1 b := fun b k l hk e => by
    rcases cs b with ⟨m, z, _⟩ | ⟨_, z⟩
    · rw [e] at z; cases z; exact absurd rfl hk
    · exact z
  have k0 : ∀ b, (L1 b = none ∨ ∃ l, L1 b = some (0, l)) → L2 b = L1 b := fun b h => by
    rcases cs b with ⟨m, z, _⟩ | ⟨_, z⟩
    · rcases h with h | ⟨l, h⟩
      · rw [h] at z; cases z
      · rw [h] at z; cases z
    · exact z
  have ne : ∀ b, (L1 b = none ∨ ∃ l, L1 b = some (0, l)) → b ≠ q := fun b h e => by
    subst e
    rcases h with h | ⟨l, h⟩
    · rw [hq] at h; cases h
    · rw [hq] at h; cases h
  have sm : Same (rd L1 H1) (rd L2 (upd H1 q (.lst vs.reverse))) := fun b ob qa => by
    obtain ⟨⟨l', e1⟩, e2⟩ := rd_of qa
    exact rd_mk ((k0 b (.inr ⟨l', e1⟩)).trans e1) (by rw [upd_ne (ne b (.inr ⟨l', e1⟩))]; exact e2)
  have sb : ∀ b m, sub L1 (i + 1) b = some m → sub L2 (i + 1) b = some (revP π vs.length m) := fun b m em => by
    rcases cs b with ⟨m', z, z'⟩ | ⟨z, _⟩
    · have := sub_of em
      rw [z] at this; cases this
      exact sub_mk z'
    · exact absurd (sub_of em) (z m)
  refine (show ∀ v L' H', _ from gy) .non L2 _ (s1.trans fun b f => ⟨k0 b f.2, upd_ne (ne b f.2)⟩) ⟨fun b hb => ?_, fun b k l' e => ?_⟩ (m.ok _ _ _ _ _ _ _ _ _ c1 sm (fun b j' l' _ hj' e => ⟨kp b j' l' (by omega) e, upd_ne fun e' => by
      rw [e', hq] at e
      have := (Prod.mk.inj (Option.some.inj e)).1
      omega⟩) ⟨v, hP, by rw [Nat.zero_add]; exact ev, ?_⟩) rfl
  · by_cases eb : b = q
    · rw [eb, upd_same]; simp
    · rw [upd_ne eb]
      rcases cs b with ⟨m', z, _⟩ | ⟨_, z⟩
      · exact w1.dom b (by rw [z]; simp)
      · rw [z] at hb; exact w1.dom b hb
  · by_cases eb : b = q
    · rw [eb, upd_same]; exact soft_nt trivial
    · rw [upd_ne eb]
      rcases cs b with ⟨m', z, z'⟩ | ⟨_, z⟩
      · rw [z'] at e; cases e
        exact revP_nt hπ m' (w1.soft b _ _ z)
      · rw [z] at e; exact w1.soft b _ _ e
  · rw [Nat.zero_add]
    refine up _ _ _ _ sm (fun b m hm' em => ?_) ⟨q, vs.reverse, rfl, ?_, upd_same, by rw [List.length_reverse]; exact hl, by rw [List.length_reverse, List.length_reverse, hn], fun i' u x h1 h2 => ?_⟩
    · have := sb b m em
      rw [revP_out hm'] at this
      exact ⟨this, upd_ne fun e => hm' (by rw [e, hm] at em; cases em; exact List.suffix_refl _)⟩
    · have := sb q π hm
      rw [revP_root] at this
      exact this
    · have hlt : i' < vs.length := by
        have := (List.getElem?_eq_some_iff.mp h1).1
        rwa [List.length_reverse] at this
      rw [List.getElem?_reverse hlt] at h1
      rw [List.getElem?_reverse (by omega), ← hn] at h2
      have own1 := hin _ u x h1 h2
      have z1 := un A.X.K _ _ _ [] (0 :: (vs.length - 1 - i') :: π) u x own1
      have z2 := sh _ _ _ _ _ _ _ (0 :: i' :: π) z1
      refine oc1.mono _ _ _ _ _ _ _ _ _ _ sm (fun b m em => ?_) z2
      have em : ((sub L1 (i + 1) b).bind (cutP (0 :: (vs.length - 1 - i') :: π))).map (· ++ (0 :: i' :: π)) = some m := em
      cases eb : sub L1 (i + 1) b with
      | none => rw [eb] at em; cases em
      | some m' =>
        rw [eb] at em
        have em : (cutP (0 :: (vs.length - 1 - i') :: π) m').map (· ++ (0 :: i' :: π)) = some m := em
        cases ec : cutP (0 :: (vs.length - 1 - i') :: π) m' with
        | none => rw [ec] at em; cases em
        | some t =>
          rw [ec] at em
          have em : some (t ++ (0 :: i' :: π)) = some m := em
          cases em
          have := cut_of ec
          subst this
          have hs := sb b _ eb
          rw [revP_in (by omega), show vs.length - 1 - (vs.length - 1 - i') = i' by omega] at hs
          exact ⟨hs, upd_ne fun e => by
            rw [e, hm] at eb
            have hlen := congrArg List.length (Option.some.inj eb)
            simp at hlen
            omega⟩
end
end AC
set_option Elab.async false
set_option linter.all false
set_option maxRecDepth 100000
/-! TL30: more of lending; tuples without a dict as data; own things read otherwise. -/
namespace AC
open PySem L2 PyProof

section
variable {S T : List Nat} {k : Nat} {G G1 : Ctx} {to : CT G → CT G1} {bk : CT G → CT G1 → CT G}
/-- nothing is lent, some is hidden: the rest stays one's own -/
theorem hold0 {α : Type} {P : V → Prop} {oc : OCod α} {K : Frag} {L L' : Lab} {H H' : Hp} {o : St} {x : α} (hT : k ∉ T) (w : Wf L H) (s : Stp (lendL [] T L) H L' H') (h : (sOwn P oc).rel K k x L' H' o[k]?) : (sOwn P oc).rel K k x (backL [] T L L') H' o[k]? := by
  obtain ⟨v, hp, e, hv⟩ := h
  refine ⟨v, hp, e, oc.mono _ _ _ _ _ _ _ _ _ _ (rd_hid w s) (fun a m em => ⟨sub_mk ?_, rfl⟩) hv⟩
  have e1 := sub_of em
  rcases backL_cases w s a with ⟨k', l', e3, hk, e4, e5⟩ | ⟨_, e3⟩
  · rcases lendL_cases (S := []) (T := T) (L := L) a with ⟨z, _⟩ | ⟨_, z, _⟩ | ⟨k2, l2, z, h1, h2, h3⟩ | ⟨k2, l2, z, h1, h2, h3⟩ | ⟨k2, l2, z, h1, h2, h3⟩ | ⟨k2, l2, z, h1, h2, h3⟩
    · rw [e3] at z; cases z
    · rw [e3] at z; cases z
    · cases h1
    · cases h1
    · rw [(s a ⟨w.dom a (by rw [e3]; simp), .inl h3⟩).1, h3] at e1; cases e1
    · rw [e3] at z; cases z
      rcases hk with y | y
      · cases y
      · exact absurd y h2
  · exact e3.trans e1
theorem hold1 {α : Type} {P : V → Prop} {oc : OCod α} {K : Frag} {L : Lab} {H : Hp} {o : St} {x : α} (hS : k ∉ S) (hT : k ∉ T) (h : (sOwn P oc).rel K k x L H o[k]?) : (sOwn P oc).rel K k x (lendL S T L) H o[k]? := by
  obtain ⟨v, hp, e, hv⟩ := h
  exact ⟨v, hp, e, oc.mono _ _ _ _ _ _ _ _ _ _ rd_lendL (fun a m em => by
      have e1 := sub_of em
      rcases lendL_cases (S := S) (T := T) (L := L) a with ⟨z, _⟩ | ⟨_, z, _⟩ | ⟨k', l2, z, h1, h2, h3⟩ | ⟨k', l2, z, h1, h2, h3⟩ | ⟨k', l2, z, h1, h2, h3⟩ | ⟨k', l2, z, h1, h2, h3⟩
      · rw [e1] at z; cases z
      · rw [e1] at z; cases z
      · rw [e1] at z; cases z; exact absurd h1 hS
      · rw [e1] at z; cases z; exact absurd h1 hS
      · rw [e1] at z; cases z; exact absurd h2 hT
      · rw [e1] at z; cases z; exact ⟨sub_mk h3, rfl⟩) hv⟩
theorem ln_hold0 {α : Type} {P : V → Prop} {oc : OCod α} (hT : k ∉ T) (h : LendC [] T (k + 1) G G1 to bk) : LendC [] T k (sOwn P oc :: G) (sOwn P oc :: G1) (fun p => (p.1, to p.2)) (fun p q => (q.1, bk p.2 q.2)) :=
  ⟨fun K p L H o w cr => ⟨hold1 (by simp) hT cr.1, h.to_ok K p.2 L H o w cr.2⟩, fun K p q L H L' H' o w s cr c' => ⟨hold0 hT w s c'.1, h.bk_ok K p.2 q.2 L H L' H' o w s cr.2 c'.2⟩⟩
theorem ln_opt0 {α : Type} {oc : OCod α} (hT : k ∉ T) (h : LendC [] T (k + 1) G G1 to bk) : LendC [] T k (sOpt oc :: G) (sOpt oc :: G1) (fun p => (p.1, to p.2)) (fun p q => (q.1, bk p.2 q.2)) :=
  ⟨fun K p L H o w cr => ⟨by
    obtain ⟨p1, p2⟩ := p
    cases p1 with
    | none => exact trivial
    | some x => exact hold1 (P := PAny) (by simp) hT (show (sOwn PAny oc).rel K k x L H o[k]? from cr.1), h.to_ok K p.2 L H o w cr.2⟩, fun K p q L H L' H' o w s cr c' => ⟨by
    obtain ⟨q1, q2⟩ := q
    cases q1 with
    | none => exact trivial
    | some x => exact hold0 (P := PAny) hT w s (show (sOwn PAny oc).rel K k x L' H' o[k]? from c'.1), h.bk_ok K p.2 q.2 L H L' H' o w s cr.2 c'.2⟩⟩
/-- held though others are lent: what it holds holds no list -/
theorem hold2 {α : Type} {P : V → Prop} {oc : OCod α} (hd : HardO oc) {K : Frag} {L L' : Lab} {H H' : Hp} {o : St} {x : α} (hS : k ∉ S) (hT : k ∉ T) (w : Wf L H) (s : Stp (lendL S T L) H L' H') (h : (sOwn P oc).rel K k x L' H' o[k]?) : (sOwn P oc).rel K k x (backL S T L L') H' o[k]? := by
  obtain ⟨v, hp, e, hv⟩ := h
  refine ⟨v, hp, e, oc.mono _ _ _ _ _ _ _ _ _ _ (fun _ _ z => z) (fun a m em => ⟨sub_mk ?_, rfl⟩) (hd _ _ _ _ _ _ _ _ (rd_backL w s) hv)⟩
  have e1 := sub_of em
  rcases backL_cases w s a with ⟨k', l', e3, hk, e4, e5⟩ | ⟨_, e3⟩
  · rcases lendL_cases (S := S) (T := T) (L := L) a with ⟨z, _⟩ | ⟨_, z, _⟩ | ⟨k2, l2, z, h1, h2, h3⟩ | ⟨k2, l2, z, h1, h2, h3⟩ | ⟨k2, l2, z, h1, h2, h3⟩ | ⟨k2, l2, z, h1, h2, h3⟩
    · rw [e3] at z; cases z
    · rw [e3] at z; cases z
    · rw [(s a ⟨w.dom a (by rw [e3]; simp), .inl h3⟩).1, h3] at e1; cases e1
    · rw [(s a ⟨w.dom a (by rw [e3]; simp), .inr ⟨_, h3⟩⟩).1, h3] at e1; cases e1
    · rw [(s a ⟨w.dom a (by rw [e3]; simp), .inl h3⟩).1, h3] at e1; cases e1
    · rw [e3] at z; cases z
      rcases hk with y | y
      · exact absurd y h1
      · exact absurd y h2
  · exact e3.trans e1
theorem ln_optH {α : Type} {oc : OCod α} (hd : HardO oc) (hS : k ∉ S) (hT : k ∉ T) (h : LendC S T (k + 1) G G1 to bk) : LendC S T k (sOpt oc :: G) (sOpt oc :: G1) (fun p => (p.1, to p.2)) (fun p q => (q.1, bk p.2 q.2)) :=
  ⟨fun K p L H o w cr => ⟨by
    obtain ⟨p1, p2⟩ := p
    cases p1 with
    | none => exact trivial
    | some x => exact hold1 (P := PAny) hS hT (show (sOwn PAny oc).rel K k x L H o[k]? from cr.1), h.to_ok K p.2 L H o w cr.2⟩, fun K p q L H L' H' o w s cr c' => ⟨by
    obtain ⟨q1, q2⟩ := q
    cases q1 with
    | none => exact trivial
    | some x => exact hold2 (P := PAny) hd hS hT w s (show (sOwn PAny oc).rel K k x L' H' o[k]? from c'.1), h.bk_ok K p.2 q.2 L H L' H' o w s cr.2 c'.2⟩⟩
theorem ln_optHide {α : Type} {oc : OCod α} (hk : k ∈ T) (h : LendC S T (k + 1) G G1 to bk) : LendC S T k (sOpt oc :: G) (sAny :: G1) (fun p => ((), to p.2)) (fun p q => (p.1, bk p.2 q.2)) :=
  ⟨fun K p L H o w cr => ⟨trivial, h.to_ok K p.2 L H o w cr.2⟩, fun K p q L H L' H' o w s cr c' => ⟨by
    obtain ⟨p1, p2⟩ := p
    cases p1 with
    | none => exact trivial
    | some x =>
      obtain ⟨v, hp, e, hv⟩ := (show (sOwn PAny oc).rel K k x L H o[k]? from cr.1)
      exact ⟨v, hp, e, oc.mono _ _ _ _ _ _ _ _ _ _ (stp_backL w s).rd (fun a m em => by
        obtain ⟨e1, e2⟩ := lent_stay w s (sub_of em) (.inr hk)
        exact ⟨sub_mk e1, e2⟩) hv⟩, h.bk_ok K p.2 q.2 L H L' H' o w s cr.2 c'.2⟩⟩
end
theorem rh_0 {β : Type} {c : OCod β} {K : Frag} {T : List Nat} {L L' : Lab} {H H' : Hp} {v : V} {y : β} (w : Wf L H) (s : Stp (lendL [] T L) H L' H') (h : (rO c).rel K (lendL [] T L) H L' H' v y) : (rO c).rel K L H (backL [] T L L') H' v y := by
  obtain ⟨M, hM, ho⟩ := h
  refine ⟨M, fun a m e => ?_, c.mono _ _ _ _ _ _ _ _ _ _ (rd_hid w s) (fun a m e => ⟨e, rfl⟩) ho⟩
  obtain ⟨h1, h2, h3⟩ := hM a m e
  refine ⟨?_, h2, fun f => h3 (frm_lendL f).1⟩
  rcases backL_cases w s a with ⟨k, l, e1, hk, e2, e3⟩ | ⟨_, e2⟩
  · refine absurd ⟨w.dom a (by rw [e1]; simp), ?_⟩ h3
    rcases lendL_cases (S := []) (T := T) (L := L) a with ⟨z, _⟩ | ⟨_, z, _⟩ | ⟨k2, l2, z, q1, q2, q3⟩ | ⟨k2, l2, z, q1, q2, q3⟩ | ⟨k2, l2, z, q1, q2, q3⟩ | ⟨k2, l2, z, q1, q2, q3⟩
    · rw [e1] at z; cases z
    · rw [e1] at z; cases z
    · cases q1
    · cases q1
    · exact .inl q3
    · rw [e1] at z; cases z
      rcases hk with y | y
      · cases y
      · exact absurd y q2
  · exact e2.trans h1
theorem dc_tn {α : Type} {c : Cod α} {t : α → PyData} {n : Nat} (h : DC c t n) : DC (cTN c) (fun xs => .tuple (xs.map t)) (n + 1) := fun K R v x q => dc_tv h K R v x (sub_tn _ _ _ _ q)
/-! own things read otherwise -/
theorem subo_refl {α : Type} {c : OCod α} : SubO c c id := fun _ _ _ _ _ _ _ h => h
theorem subo_ll {α β : Type} {c : OCod α} {d : OCod β} {g : α → β} (s : SubO c d g) : SubO (oLL c) (oLL d) (List.map g) := fun K R M H l v x ⟨p, vs, e, h1, h2, h3, h4, h5⟩ => ⟨p, vs, e, h1, h2, h3, by rw [List.length_map]; exact h4, fun i v x e1 e2 => by
  rw [List.getElem?_map] at e2
  cases ex : (show List _ from ‹List α›)[i]? with
  | none => rw [ex] at e2; cases e2
  | some y => rw [ex] at e2; cases e2; exact s _ _ _ _ _ _ _ (h5 i v y e1 ex)⟩
def SubA {α β : Type} (c : OArg α) (d : OArg β) (g : α → β) : Prop := ∀ K R M H l k vs x, c.own K R M H l k vs x → d.own K R M H l k vs (g x)
theorem suba_v1 {α β : Type} {c : Cod α} {d : Cod β} {g : α → β} (s : Sub c d g) : SubA (oV1 c) (oV1 d) g := fun K R M H l k vs x ⟨v, e, h⟩ => ⟨v, e, s _ _ _ _ h⟩
theorem suba_o1 {α β : Type} {c : OCod α} {d : OCod β} {g : α → β} (s : SubO c d g) : SubA (oO1 c) (oO1 d) g := fun K R M H l k vs x ⟨v, e, h⟩ => ⟨v, e, s _ _ _ _ _ _ _ h⟩
theorem suba_vc {α β γ δ : Type} {c : Cod α} {d : Cod β} {g : α → β} {as : OArg γ} {bs : OArg δ} {f : γ → δ} (s : Sub c d g) (t : SubA as bs f) : SubA (oVc c as) (oVc d bs) (fun x => (g x.1, f x.2)) := fun K R M H l k vs x ⟨v, ws, e, h, h'⟩ => ⟨v, ws, e, s _ _ _ _ h, t _ _ _ _ _ _ _ _ h'⟩
theorem suba_oc {α β γ δ : Type} {c : OCod α} {d : OCod β} {g : α → β} {as : OArg γ} {bs : OArg δ} {f : γ → δ} (s : SubO c d g) (t : SubA as bs f) : SubA (oOc c as) (oOc d bs) (fun x => (g x.1, f x.2)) := fun K R M H l k vs x ⟨v, ws, e, h, h'⟩ => ⟨v, ws, e, s _ _ _ _ _ _ _ h, t _ _ _ _ _ _ _ _ h'⟩
theorem subo_t {α β : Type} {c : OArg α} {d : OArg β} {g : α → β} (s : SubA c d g) : SubO (oT c) (oT d) g := fun K R M H l v x ⟨a, vs, e, h, h'⟩ => ⟨a, vs, e, h, s _ _ _ _ _ _ _ _ h'⟩
end AC
set_option Elab.async false
set_option linter.all false
set_option maxRecDepth 100000
/-! TL31: pop(i); instances hold no list. -/
namespace AC
open PySem L2 PyProof

section
variable {A : Amb} {G G' : Ctx} {ρ : Type} {R : Rr ρ}
def popAtO {α : Type} (xs : List α) (i : Int) : Option (α × List α) := if -(2 ^ 63) ≤ i ∧ i < 2 ^ 63 then (ixN xs.length i).bind fun j => (xs[j]?).map fun y => (y, xs.eraseIdx j) else none
theorem paired_erase {α β : Type} {F : α → β → Prop} : ∀ {l : List α} {m : List β} (j : Nat), Paired F l m → Paired F (l.eraseIdx j) (m.eraseIdx j)
  | _, _, _, .nil => .nil
  | _, _, 0, .cons r t => t
  | _, _, j + 1, .cons r t => .cons r (paired_erase j t)
theorem mt_popAtT {α : Type} {c : Cod α} : MtT A "list.pop" c (aOne cI) popAtO c := ⟨_, mt_popAt, fun L H l vs ws xs xs' y z Q w h1 h2 h3 ⟨v, ew, hv⟩ hk q => by
  have hv : v = .int y := hv
  subst ew hv
  unfold popAtO at hk
  split at hk
  · rename_i hc
    cases ej : ixN xs.length y with
    | none => rw [ej] at hk; cases hk
    | some j =>
      rw [ej] at hk
      have hk : (xs[j]?).map (fun y => (y, xs.eraseIdx j)) = some (z, xs') := hk
      cases ey : xs[j]? with
      | none => rw [ey] at hk; cases hk
      | some x1 =>
        rw [ey] at hk
        cases hk
        have hl := paired_len h3
        obtain ⟨v1, hv1, hc1⟩ := paired_get h3 ey
        obtain ⟨g1, _⟩ := ixN_seq ej
        refine ⟨l, vs, y, j, v1, rfl, rfl, h1, hc.1, hc.2, by rw [hl]; exact g1, hv1, q _ _ ?_ (paired_erase j h3) hc1⟩
        have := List.length_eraseIdx_le vs j
        omega
  · cases hk⟩
end
def HardF {α : Type} (fc : FldC α) : Prop := ∀ K R1 R2 fs x, (∀ a o, R1 a = some o → ¬ SoftO o → R2 a = some o) → fc.see K R1 fs x → fc.see K R2 fs x
theorem hf_nil : HardF fNil := fun _ _ _ _ _ _ h => h
theorem hf_snoc {α β : Type} {fc : FldC α} {n : Str} {c : Cod β} (h : HardF fc) (h' : HardC c) : HardF (fSnoc fc n c) := fun K R1 R2 fs x s ⟨fs', v, e, q1, q2⟩ => ⟨fs', v, e, h K R1 R2 fs' _ s q1, h' K R1 R2 v _ s q2⟩
theorem hd_ins {α : Type} {C : Addr} {fc : FldC α} (h : HardF fc) : HardC (cIns C fc) := fun K R1 R2 v x s ⟨a, dx, fs, e, q, q'⟩ => ⟨a, dx, fs, e, s a _ q fun h => h, h K R1 R2 fs x s q'⟩
end AC
set_option Elab.async false
set_option linter.all false
set_option maxRecDepth 100000
/-! TL32: parts that only read (printed by gen/mkrx.py). -/
namespace AC
open PySem L2 PyProof PyProof.Rows PySem.Spec

theorem rbok {α β : Type} (a : α) (f : α → Res β) : Res.bind (.ok a) f = f a := Eq.trans rfl rfl
theorem bind_ite {α β : Type} {c : Prop} [Decidable c] {x y : Res α} {k : α → Res β} : Res.bind (if c then x else y) k = if c then Res.bind x k else Res.bind y k := by
  split <;> rfl
theorem bind_bad {α β : Type} {k : α → Res β} : Res.bind .bad k = .bad := rfl
theorem bind_bok {α : Type} {m : Res α} : Res.bind m (fun x => .ok x) = m := by cases m <;> rfl
section
variable {A : Amb} {G G' : Ctx} {ρ : Type} {R : Rr ρ}
theorem ex_eq {α : Type} {r : Rt α} {e : Expr} {f g : CT G → Res (α × CT G)} (h : ∀ p, f p = g p) (x : EX A G e r f) : EX A G e r g := (funext h : f = g) ▸ x
theorem tx_eq {e : Expr} {f g : CT G → Res (Bool × CT G)} (h : ∀ p, f p = g p) (x : TX A G e f) : TX A G e g := (funext h : f = g) ▸ x
theorem wx_eq {e : Expr} {f g : CT G → Res (Bool × CT G)} (h : ∀ p, f p = g p) (x : WXj A G e f) : WXj A G e g := (funext h : f = g) ▸ x
theorem ax_eq {α : Type} {as : ArgC α} {es : List Expr} {f g : CT G → Res (α × CT G)} (h : ∀ p, f p = g p) (x : AX A G es as f) : AX A G es as g := (funext h : f = g) ▸ x
theorem ix_eq {α : Type} {c : Cod α} {tg e : Expr} {f g : CT G → Res (List α × CT G)} (h : ∀ p, f p = g p) (x : IX A G tg e c f) : IX A G tg e c g := (funext h : f = g) ▸ x
theorem ox_eq {e : Option Expr} {f g : CT G → Res (Option Int × CT G)} (h : ∀ p, f p = g p) (x : OX A G e f) : OX A G e g := (funext h : f = g) ▸ x
theorem kx_eq {κ α : Type} {pos : Pos} {keys : List (Option Expr)} {vals : List Expr} {kc : KeyC κ} {c : Cod α} {f g : CT G → Res (List (κ × α) × CT G)} (h : ∀ p, f p = g p) (x : KX A G pos keys vals kc c f) : KX A G pos keys vals kc c g := (funext h : f = g) ▸ x
theorem kw_eq {α : Type} {as : ArgC α} {kws : List Keyword} {f g : CT G → Res (α × CT G)} (h : ∀ p, f p = g p) (x : KWX A G kws as f) : KWX A G kws as g := (funext h : f = g) ▸ x
theorem ca_eq {α β : Type} {as : ArgC α} {bs : ArgC β} {pos : Pos} {es : List Expr} {kws : List Keyword} {ks : List Str} {f g : CT G → Res ((α × β) × CT G)} (h : ∀ p, f p = g p) (x : CAX A G pos es kws ks as bs f) : CAX A G pos es kws ks as bs g := (funext h : f = g) ▸ x
theorem axo_eq {α : Type} {oc : OCod α} {k n : Nat} {es : List Expr} {f g : CT G → Res (List α × CT G)} (h : ∀ p, f p = g p) (x : AXO A G es oc k n f) : AXO A G es oc k n g := (funext h : f = g) ▸ x
theorem axt_eq {α : Type} {as : OArg α} {k : Nat} {es : List Expr} {f g : CT G → Res (α × CT G)} (h : ∀ p, f p = g p) (x : AXT A G es as k f) : AXT A G es as k g := (funext h : f = g) ▸ x
abbrev rdr {G : Ctx} {α : Type} (h : CT G → Res α) : CT G → Res (α × CT G) := fun p => Res.bind (h p) fun x => .ok (x, p)
abbrev RX (A : Amb) (G : Ctx) (e : Expr) {α : Type} (r : Rt α) (h : CT G → Res α) : Prop := EX A G e r (fun p => Res.bind (h p) fun x => .ok (x, p))
abbrev RTX (A : Amb) (G : Ctx) (e : Expr) (h : CT G → Res Bool) : Prop := TX A G e (fun p => Res.bind (h p) fun x => .ok (x, p))
abbrev RWX (A : Amb) (G : Ctx) (e : Expr) (h : CT G → Res Bool) : Prop := WXj A G e (fun p => Res.bind (h p) fun x => .ok (x, p))
abbrev RAX (A : Amb) (G : Ctx) (es : List Expr) {α : Type} (as : ArgC α) (h : CT G → Res α) : Prop := AX A G es as (fun p => Res.bind (h p) fun x => .ok (x, p))
abbrev RIX (A : Amb) (G : Ctx) (tg e : Expr) {α : Type} (c : Cod α) (h : CT G → Res (List α)) : Prop := IX A G tg e c (fun p => Res.bind (h p) fun x => .ok (x, p))
abbrev ROX (A : Amb) (G : Ctx) (e : Option Expr) (h : CT G → Res (Option Int)) : Prop := OX A G e (fun p => Res.bind (h p) fun x => .ok (x, p))
abbrev RKX {κ α : Type} (A : Amb) (G : Ctx) (pos : Pos) (keys : List (Option Expr)) (vals : List Expr) (kc : KeyC κ) (c : Cod α) (h : CT G → Res (List (κ × α))) : Prop := KX A G pos keys vals kc c (fun p => Res.bind (h p) fun x => .ok (x, p))
abbrev RKW (A : Amb) (G : Ctx) (kws : List Keyword) {α : Type} (as : ArgC α) (h : CT G → Res α) : Prop := KWX A G kws as (fun p => Res.bind (h p) fun x => .ok (x, p))
abbrev RCA (A : Amb) (G : Ctx) (pos : Pos) (es : List Expr) (kws : List Keyword) (ks : List Str) {α β : Type} (as : ArgC α) (bs : ArgC β) (h : CT G → Res (α × β)) : Prop := CAX A G pos es kws ks as bs (fun p => Res.bind (h p) fun x => .ok (x, p))
abbrev RAO (A : Amb) (G : Ctx) (es : List Expr) {α : Type} (oc : OCod α) (k n : Nat) (h : CT G → Res (List α)) : Prop := AXO A G es oc k n (fun p => Res.bind (h p) fun x => .ok (x, p))
abbrev RAT (A : Amb) (G : Ctx) (es : List Expr) {α : Type} (as : OArg α) (k : Nat) (h : CT G → Res α) : Prop := AXT A G es as k (fun p => Res.bind (h p) fun x => .ok (x, p))
theorem rex_var {α : Type} {c : Cod α} {i : Nat} {x : Str} {pos : Pos} {g : CT G → α} (h : At G i (sVal c) g) (hN : A.X.N[i]? = some x) (hv : Vis A.X.env.scope x) (hd : (x == ("__debug__" : Str)) = false := by decide) (hcd : (x == ("__classdict__" : Str)) = false := by decide) : RX A G (.Name x pos) (rV c) (fun p => .ok (g p)) := ex_eq (fun p => by first | simp only [rbok, Res.bind_assoc, bind_ite, bind_bad] | rfl) (ex_var (h := h) (hN := hN) (hv := hv) (hd := hd) (hcd := hcd))
theorem rex_int {i j pos} : RX A G (.Constant (.int i) j pos) (rV cI) (fun _ => .ok i) := ex_eq (fun p => by first | simp only [rbok, Res.bind_assoc, bind_ite, bind_bad] | rfl) (ex_int )
theorem rex_bool {b j pos} : RX A G (.Constant (.bool b) j pos) (rV cB) (fun _ => .ok b) := ex_eq (fun p => by first | simp only [rbok, Res.bind_assoc, bind_ite, bind_bad] | rfl) (ex_bool )
theorem rex_none {j pos} : RX A G (.Constant .none j pos) (rV cN) (fun _ => .ok ()) := ex_eq (fun p => by first | simp only [rbok, Res.bind_assoc, bind_ite, bind_bad] | rfl) (ex_none )
theorem rex_str {x j pos} (h1 : PyData.strOk x = true) (h2 : x.length ≤ sizeLine) : RX A G (.Constant (.str x) j pos) (rV cS) (fun _ => .ok x) := ex_eq (fun p => by first | simp only [rbok, Res.bind_assoc, bind_ite, bind_bad] | rfl) (ex_str (h1 := h1) (h2 := h2))
theorem rex_gstr {x z : Str} {t : Tok} {pos : Pos} (hg : Gl A.X x) (hm : A.X.mg x = some (.str z t)) (h1 : PyData.strOk z = true) (h2 : z.length ≤ sizeLine) (hd : (x == ("__debug__" : Str)) = false := by decide) : RX A G (.Name x pos) (rV cS) (fun _ => .ok z) := ex_eq (fun p => by first | simp only [rbok, Res.bind_assoc, bind_ite, bind_bad] | rfl) (ex_gstr (hg := hg) (hm := hm) (h1 := h1) (h2 := h2) (hd := hd))
theorem rex_sub {α β : Type} {c : Cod α} {d : Cod β} {g : α → β} {e : Expr} {f : CT G → Res (α)} (s : Sub c d g) (h : RX A G e (rV c) f) : RX A G e (rV d) (fun p => Res.bind (f p) fun x => .ok (g x)) := ex_eq (fun p => by first | simp only [rbok, Res.bind_assoc, bind_ite, bind_bad] | rfl) (ex_sub (s := s) (h := h))
theorem rex_frz {α : Type} {oc : OCod α} {c : Cod α} {e : Expr} {f : CT G → Res (α)} (fz : Frz oc c) (h : RX A G e (rO oc) f) : RX A G e (rV c) (f) := ex_eq (fun p => by first | simp only [rbok, Res.bind_assoc, bind_ite, bind_bad] | rfl) (ex_frz (fz := fz) (h := h))
theorem rex_subO {α β : Type} {c : OCod α} {d : OCod β} {g : α → β} {e : Expr} {f : CT G → Res (α)} (s : SubO c d g) (h : RX A G e (rO c) f) : RX A G e (rO d) (fun p => Res.bind (f p) fun x => .ok (g x)) := ex_eq (fun p => by first | simp only [rbok, Res.bind_assoc, bind_ite, bind_bad] | rfl) (ex_subO (s := s) (h := h))
theorem rex_op {α β γ : Type} {c : Cod α} {d : Cod β} {k : α → β → Option γ} {r : Rt γ} {op : Operator} {a b : Expr} {pos : Pos} {f : CT G → Res (α)} {g : CT G → Res (β)} (h : OpT A (binaryOp op) c d k r) (ha : RX A G a (rV c) f) (hb : RX A G b (rV d) g) : RX A G (.BinOp a op b pos) r (fun p => Res.bind (f p) fun x => Res.bind (g p) fun y => ofO (k x y)) := ex_eq (fun p => by first | simp only [rbok, Res.bind_assoc, bind_ite, bind_bad] | rfl) (ex_op (h := h) (ha := ha) (hb := hb))
theorem rex_cmp {α β γ : Type} {c : Cod α} {d : Cod β} {k : α → β → Option γ} {r : Rt γ} {op : CmpOp} {a b : Expr} {pos : Pos} {f : CT G → Res (α)} {g : CT G → Res (β)} (h : OpT A (compareOp op) c d k r) (ha : RX A G a (rV c) f) (hb : RX A G b (rV d) g) (hm : behindInMarks op b = false) : RX A G (.Compare a [op] [b] pos) r (fun p => Res.bind (f p) fun x => Res.bind (g p) fun y => ofO (k x y)) := ex_eq (fun p => by first | simp only [rbok, Res.bind_assoc, bind_ite, bind_bad] | rfl) (ex_cmp (h := h) (ha := ha) (hb := hb) (hm := hm))
theorem rex_chain {α β γ : Type} {c : Cod α} {d : Cod β} {d' : Cod γ} {k1 : α → β → Option Bool} {k2 : β → γ → Option Bool} {op op' : CmpOp} {ea eb ec : Expr} {pos : Pos} {f : CT G → Res (α)} {g : CT G → Res (β)} {h : CT G → Res (γ)} (h1 : OpT A (compareOp op) c d k1 (rV cB)) (h2 : OpT A (compareOp op') d d' k2 (rV cB)) (ha : RX A G ea (rV c) f) (hb : RX A G eb (rV d) g) (hc : RX A G ec (rV d') h) (hm : lastMarks [op, op'] [eb, ec] = false) : RX A G (.Compare ea [op, op'] [eb, ec] pos) (rV cB) (fun p => Res.bind (f p) fun x => Res.bind (g p) fun y => Res.bind (ofO (k1 x y)) fun w => if w = true then Res.bind (h p) fun u => ofO (k2 y u) else .ok false) := ex_eq (fun p => by first | simp only [rbok, Res.bind_assoc, bind_ite, bind_bad] | rfl) (ex_chain (h1 := h1) (h2 := h2) (ha := ha) (hb := hb) (hc := hc) (hm := hm))
theorem rex_not {a : Expr} {pos : Pos} {f : CT G → Res (Bool)} (h : RX A G a (rV cB) f) : RX A G (.UnaryOp .Not a pos) (rV cB) (fun p => Res.bind (f p) fun x => .ok (!x)) := ex_eq (fun p => by first | simp only [rbok, Res.bind_assoc, bind_ite, bind_bad] | rfl) (ex_not (h := h))
theorem rex_and1 {op} {α : Type} {r : Rt α} {a : Expr} {pos : Pos} {f : CT G → Res (α)} (h : RX A G a r f) : RX A G (.BoolOp op [a] pos) r (f) := ex_eq (fun p => by first | simp only [rbok, Res.bind_assoc, bind_ite, bind_bad] | rfl) (ex_and1 (h := h))
theorem rex_and {a b : Expr} {rest : List Expr} {pos : Pos} {f g : CT G → Res (Bool)} (ha : RX A G a (rV cB) f) (hb : RX A G (.BoolOp .And (b :: rest) pos) (rV cB) g) : RX A G (.BoolOp .And (a :: b :: rest) pos) (rV cB) (fun p => Res.bind (f p) fun x => if x = true then g p else .ok false) := ex_eq (fun p => by first | simp only [rbok, Res.bind_assoc, bind_ite, bind_bad] | rfl) (ex_and (ha := ha) (hb := hb))
theorem rex_or {a b : Expr} {rest : List Expr} {pos : Pos} {f g : CT G → Res (Bool)} (ha : RX A G a (rV cB) f) (hb : RX A G (.BoolOp .Or (b :: rest) pos) (rV cB) g) : RX A G (.BoolOp .Or (a :: b :: rest) pos) (rV cB) (fun p => Res.bind (f p) fun x => if x = true then .ok true else g p) := ex_eq (fun p => by first | simp only [rbok, Res.bind_assoc, bind_ite, bind_bad] | rfl) (ex_or (ha := ha) (hb := hb))
theorem rex_if {α : Type} {r : Rt α} {t a b : Expr} {pos : Pos} {ft : CT G → Res (Bool)} {f g : CT G → Res (α)} (ht : RTX A G t ft) (ha : RX A G a r f) (hb : RX A G b r g) : RX A G (.IfExp t a b pos) r (fun p => Res.bind (ft p) fun t => if t = true then f p else g p) := ex_eq (fun p => by first | simp only [rbok, Res.bind_assoc, bind_ite, bind_bad] | rfl) (ex_if (ht := ht) (ha := ha) (hb := hb))
theorem rex_neg {a : Expr} {pos : Pos} {f : CT G → Res (Int)} (h : RX A G a (rV cI) f) : RX A G (.UnaryOp .USub a pos) (rV cI) (fun p => Res.bind (f p) fun x => .ok (-x)) := ex_eq (fun p => by first | simp only [rbok, Res.bind_assoc, bind_ite, bind_bad] | rfl) (ex_neg (h := h))
theorem rex_tup {α : Type} {as : ArgC α} {es : List Expr} {x1 pos} {f : CT G → Res (α)} (h : RAX A G es as f) (hn : as.n ≤ sizeLine := by decide) : RX A G (.Tuple es x1 pos) (rV (cT as)) (f) := ex_eq (fun p => by first | simp only [rbok, Res.bind_assoc, bind_ite, bind_bad] | rfl) (ex_tup (h := h) (hn := hn))
theorem rex_list {α : Type} {c : Cod α} {n : Nat} {es : List Expr} {pos} {f : CT G → Res (List α)} (h : RAX A G es (aAll c n) f) (hn : n ≤ sizeLine := by decide) : RX A G (.List es pos) (rO (oL c)) (f) := ex_eq (fun p => by first | simp only [rbok, Res.bind_assoc, bind_ite, bind_bad] | rfl) (ex_list (h := h) (hn := hn))
theorem rex_hlist {α : Type} {as : ArgC α} {es : List Expr} {pos} {f : CT G → Res (α)} (h : RAX A G es as f) (hn : as.n ≤ sizeLine := by decide) : RX A G (.List es pos) (rV (cH as)) (f) := ex_eq (fun p => by first | simp only [rbok, Res.bind_assoc, bind_ite, bind_bad] | rfl) (ex_hlist (h := h) (hn := hn))
theorem rex_listO {α : Type} {oc : OCod α} {n : Nat} {es : List Expr} {pos : Pos} {f : CT G → Res (List α)} (h : RAO A G es oc 0 n f) (hn : n ≤ sizeLine := by decide) : RX A G (.List es pos) (rO (oLL oc)) (f) := ex_eq (fun p => by first | simp only [rbok, Res.bind_assoc, bind_ite, bind_bad] | rfl) (ex_listO (h := h) (hn := hn))
theorem rex_tupO {α : Type} {as : OArg α} {es : List Expr} {x1 pos} {f : CT G → Res (α)} (h : RAT A G es as 0 f) (hn : as.n ≤ sizeLine := by decide) : RX A G (.Tuple es x1 pos) (rO (oT as)) (f) := ex_eq (fun p => by first | simp only [rbok, Res.bind_assoc, bind_ite, bind_bad] | rfl) (ex_tupO (h := h) (hn := hn))
theorem rex_ixK {α : Type} {c : Cod α} {a b : Expr} {pos : Pos} {f : CT G → Res (List α)} {g : CT G → Res (Int)} (ha : RX A G a (rV (cLK c)) f) (hb : RX A G b (rV cI) g) (hs : PlainIx b) : RX A G (.Subscript a b pos) (rV c) (fun p => Res.bind (f p) fun x => Res.bind (g p) fun i => ofO (atI x i)) := ex_eq (fun p => by first | simp only [rbok, Res.bind_assoc, bind_ite, bind_bad] | rfl) (ex_ixK (ha := ha) (hb := hb) (hs := hs))
theorem rex_ixL {α : Type} {c : Cod α} {a b : Expr} {pos : Pos} {f : CT G → Res (List α)} {g : CT G → Res (Int)} (ha : RX A G a (rV (cL c)) f) (hb : RX A G b (rV cI) g) (hs : PlainIx b) : RX A G (.Subscript a b pos) (rV c) (fun p => Res.bind (f p) fun x => Res.bind (g p) fun i => ofO (atI x i)) := ex_eq (fun p => by first | simp only [rbok, Res.bind_assoc, bind_ite, bind_bad] | rfl) (ex_ixL (ha := ha) (hb := hb) (hs := hs))
theorem rex_ixT {α : Type} {c : Cod α} {a b : Expr} {pos : Pos} {f : CT G → Res (List α)} {g : CT G → Res (Int)} (ha : RX A G a (rV (cTV c)) f) (hb : RX A G b (rV cI) g) (hs : PlainIx b) : RX A G (.Subscript a b pos) (rV c) (fun p => Res.bind (f p) fun x => Res.bind (g p) fun i => ofO (atI x i)) := ex_eq (fun p => by first | simp only [rbok, Res.bind_assoc, bind_ite, bind_bad] | rfl) (ex_ixT (ha := ha) (hb := hb) (hs := hs))
theorem rex_ixS {a b : Expr} {pos : Pos} {f : CT G → Res (Str)} {g : CT G → Res (Int)} (ha : RX A G a (rV cS) f) (hb : RX A G b (rV cI) g) (hs : PlainIx b) : RX A G (.Subscript a b pos) (rV cS) (fun p => Res.bind (f p) fun x => Res.bind (g p) fun i => ofO (sAt x i)) := ex_eq (fun p => by first | simp only [rbok, Res.bind_assoc, bind_ite, bind_bad] | rfl) (ex_ixS (ha := ha) (hb := hb) (hs := hs))
theorem rex_ixD {κ α : Type} [DecidableEq κ] {kc : KeyC κ} {c : Cod α} {a b : Expr} {pos : Pos} {f : CT G → Res (List (κ × α))} {g : CT G → Res (κ)} (ha : RX A G a (rV (cD kc c)) f) (hb : RX A G b (rV kc.c) g) (hs : NoSl b) : RX A G (.Subscript a b pos) (rV c) (fun p => Res.bind (f p) fun x => Res.bind (g p) fun i => ofO (getD x i)) := ex_eq (fun p => by first | simp only [rbok, Res.bind_assoc, bind_ite, bind_bad] | rfl) (ex_ixD (ha := ha) (hb := hb) (hs := hs))
theorem rex_pj {α β : Type} {as : ArgC α} {c : Cod β} {j : Nat} {i : Int} {gj : α → β} {a : Expr} {kk p2 pos} {f : CT G → Res (α)} (hj : Pj as j c gj) (hi : i = (j : Int)) (ha : RX A G a (rV (cT as)) f) : RX A G (.Subscript a (.Constant (.int i) kk p2) pos) (rV c) (fun p => Res.bind (f p) fun x => .ok (gj x)) := ex_eq (fun p => by first | simp only [rbok, Res.bind_assoc, bind_ite, bind_bad] | rfl) (ex_pj (hj := hj) (hi := hi) (ha := ha))
theorem rex_pjH {α β : Type} {as : ArgC α} {c : Cod β} {j : Nat} {i : Int} {gj : α → β} {a : Expr} {kk p2 pos} {f : CT G → Res (α)} (hj : Pj as j c gj) (hi : i = (j : Int)) (ha : RX A G a (rV (cH as)) f) : RX A G (.Subscript a (.Constant (.int i) kk p2) pos) (rV c) (fun p => Res.bind (f p) fun x => .ok (gj x)) := ex_eq (fun p => by first | simp only [rbok, Res.bind_assoc, bind_ite, bind_bad] | rfl) (ex_pjH (hj := hj) (hi := hi) (ha := ha))
theorem rex_cutL {α : Type} {c : Cod α} {e : Expr} {lo hi : Option Expr} {p2 pos : Pos} {f : CT G → Res (List α)} {fl fh : CT G → Res (Option Int)} (h : RX A G e (rV (cL c)) f) (hl : ROX A G lo fl) (hh : ROX A G hi fh) : RX A G (.Subscript e (.Slice lo hi none p2) pos) (rO (oL c)) (fun p => Res.bind (f p) fun x => Res.bind (fl p) fun lo => Res.bind (fh p) fun hi => .ok (cutL x lo hi)) := ex_eq (fun p => by first | simp only [rbok, Res.bind_assoc, bind_ite, bind_bad] | rfl) (ex_cutL (h := h) (hl := hl) (hh := hh))
theorem rex_cutS {e : Expr} {lo hi : Option Expr} {p2 pos : Pos} {f : CT G → Res (Str)} {fl fh : CT G → Res (Option Int)} (h : RX A G e (rV cS) f) (hl : ROX A G lo fl) (hh : ROX A G hi fh) : RX A G (.Subscript e (.Slice lo hi none p2) pos) (rV cS) (fun p => Res.bind (f p) fun x => Res.bind (fl p) fun lo => Res.bind (fh p) fun hi => ofO (okS (cutS x lo hi))) := ex_eq (fun p => by first | simp only [rbok, Res.bind_assoc, bind_ite, bind_bad] | rfl) (ex_cutS (h := h) (hl := hl) (hh := hh))
theorem rex_revL {α : Type} {c : Cod α} {e : Expr} {kk : Nat} {p1 p2 p3 pos : Pos} {f : CT G → Res (List α)} (h : RX A G e (rV (cL c)) f) : RX A G (.Subscript e (.Slice none none (some (.UnaryOp .USub (.Constant (.int 1) kk p1) p2)) p3) pos) (rO (oL c)) (fun p => Res.bind (f p) fun x => .ok x.reverse) := ex_eq (fun p => by first | simp only [rbok, Res.bind_assoc, bind_ite, bind_bad] | rfl) (ex_revL (h := h))
theorem rex_fld {α β : Type} {C : Addr} {fc : FldC α} {n : Str} {c : Cod β} {gj : α → β} {e : Expr} {pos : Pos} {f : CT G → Res (α)} (cl : Cls A.X.K C) (na : NoAttr A.X.K C n) (hj : FPj fc n c gj) (h : RX A G e (rV (cIns C fc)) f) (hb : attributeBase e n A.X.env (eval e A.X.env) = eval e A.X.env := by rfl) : RX A G (.Attribute e n pos) (rV c) (fun p => Res.bind (f p) fun x => .ok (gj x)) := ex_eq (fun p => by first | simp only [rbok, Res.bind_assoc, bind_ite, bind_bad] | rfl) (ex_fld (cl := cl) (na := na) (hj := hj) (h := h) (hb := hb))
theorem rex_prop {β γ : Type} {fc : FldC γ} {r : Rt β} {F : γ → Res β} {k : Nat} {C : Addr} {n : Str} {ps : List Str} {pos : Pos} {ob : Expr} {f : CT G → Res (γ)} (D : ProA A k C n ps (spP A.X.K A.ca (aOne (cIns C fc)) r F)) (hk : k + 1 ≤ A.lv) (cl : Cls A.X.K C) (hr : RtOk r) (ho : RX A G ob (rV (cIns C fc)) f) (hab : attributeBase ob n A.X.env (eval ob A.X.env) = eval ob A.X.env := by rfl) : RX A G (.Attribute ob n pos) r (fun p => Res.bind (f p) fun x => Res.noexc (F x)) := ex_eq (fun p => by first | simp only [rbok, Res.bind_assoc, bind_ite, bind_bad] | rfl) (ex_prop (D := D) (hk := hk) (cl := cl) (hr := hr) (ho := ho) (hab := hab))
theorem rex_callB {α β : Type} {as : ArgC α} {k : α → Option β} {r : Rt β} {id : String} {x : Str} {p pos : Pos} {e : Expr} {es : List Expr} {f : CT G → Res (α)} (h : CalT A (.builtin id) as k r) (hg : Gl A.X x) (hm : A.X.mg x = none) (hv : bootBuiltins x = some (.builtin id)) (ha : RAX A G (e :: es) as f) (hn : x ≠ "__name__" := by decide) (hd : (x == ("__debug__" : Str)) = false := by decide) (he : starEach (e :: es) A.X.env = (false, eval e A.X.env) :: starEach es A.X.env := by rfl) (hpl : (backTo pos (starEach es A.X.env)).any (·.1) = false := by rfl) : RX A G (.Call (.Name x p) (e :: es) [] pos) r (fun p => Res.bind (f p) fun x => ofO (k x)) := ex_eq (fun p => by first | simp only [rbok, Res.bind_assoc, bind_ite, bind_bad] | rfl) (ex_callB (h := h) (hg := hg) (hm := hm) (hv := hv) (ha := ha) (hn := hn) (hd := hd) (he := he) (hpl := hpl))
theorem rex_callTy {α β : Type} {as : ArgC α} {k : α → Option β} {r : Rt β} {T : String} {x : Str} {p pos : Pos} {e : Expr} {es : List Expr} {f : CT G → Res (α)} (h : CalT A (.type T) as k r) (hg : Gl A.X x) (hm : A.X.mg x = none) (hv : bootBuiltins x = some (.type T)) (ha : RAX A G (e :: es) as f) (hn : x ≠ "__name__" := by decide) (hd : (x == ("__debug__" : Str)) = false := by decide) (he : starEach (e :: es) A.X.env = (false, eval e A.X.env) :: starEach es A.X.env := by rfl) (hpl : (backTo pos (starEach es A.X.env)).any (·.1) = false := by rfl) : RX A G (.Call (.Name x p) (e :: es) [] pos) r (fun p => Res.bind (f p) fun x => ofO (k x)) := ex_eq (fun p => by first | simp only [rbok, Res.bind_assoc, bind_ite, bind_bad] | rfl) (ex_callTy (h := h) (hg := hg) (hm := hm) (hv := hv) (ha := ha) (hn := hn) (hd := hd) (he := he) (hpl := hpl))
theorem rex_cal {α β : Type} {as : ArgC α} {r : Rt β} {F : α → Res β} {k : Nat} {ps : List Str} {x : Str} {p pos : Pos} {e : Expr} {es : List Expr} {fa : CT G → Res (α)} (D : DefA A k x ps (spP A.X.K A.ca as r F)) (hk : k ≤ A.lv) (gl : Gl A.X x) (hr : RtOk r) (ha : RAX A G (e :: es) as fa) (hdb : (x == ("__debug__" : Str)) = false := by decide) (he : starEach (e :: es) A.X.env = (false, eval e A.X.env) :: starEach es A.X.env := by rfl) (hpl : (backTo pos (starEach es A.X.env)).any (·.1) = false := by rfl) : RX A G (.Call (.Name x p) (e :: es) [] pos) r (fun p => Res.bind (fa p) fun x => F x) := ex_eq (fun p => by first | simp only [rbok, Res.bind_assoc, bind_ite, bind_bad] | rfl) (ex_cal (D := D) (hk := hk) (gl := gl) (hr := hr) (ha := ha) (hdb := hdb) (he := he) (hpl := hpl))
theorem rex_cal0 {β : Type} {r : Rt β} {F : Unit → Res β} {k : Nat} {ps : List Str} {x : Str} {p pos : Pos} (D : DefA A k x ps (spP A.X.K A.ca aNil r F)) (hk : k ≤ A.lv) (gl : Gl A.X x) (hr : RtOk r) (hdb : (x == ("__debug__" : Str)) = false := by decide) : RX A G (.Call (.Name x p) [] [] pos) r (fun _ => F ()) := ex_eq (fun p => by first | simp only [rbok, Res.bind_assoc, bind_ite, bind_bad] | rfl) (ex_cal0 (D := D) (hk := hk) (gl := gl) (hr := hr) (hdb := hdb))
theorem rex_kwG {α β : Type} {as : ArgC α} {r : Rt β} {F : α → Res β} {k : Nat} {ps : List Str} {x : Str} {p pos : Pos} {kws : List Keyword} {fa : CT G → Res (α)} (D : DefA A k x ps (spP A.X.K A.ca as r F)) (hk : k ≤ A.lv) (gl : Gl A.X x) (hr : RtOk r) (ha : RKW A G kws as fa) (hl : as.n = ps.length) (hall : (backToKw pos (keywordEach kws A.X.env)).all (·.1.isSome) = true := by rfl) (hks : (backToKw pos (keywordEach kws A.X.env)).filterMap (·.1) = ps := by rfl) (hdb : (x == ("__debug__" : Str)) = false := by decide) (hpl : (backToKw pos (keywordEach kws A.X.env)).any (·.1.isNone) = false := by rfl) : RX A G (.Call (.Name x p) [] kws pos) r (fun p => Res.bind (fa p) fun x => F x) := ex_eq (fun p => by first | simp only [rbok, Res.bind_assoc, bind_ite, bind_bad] | rfl) (ex_kwG (D := D) (hk := hk) (gl := gl) (hr := hr) (ha := ha) (hl := hl) (hall := hall) (hks := hks) (hdb := hdb) (hpl := hpl))
theorem rex_calP {α β γ δ : Type} {as : ArgC α} {bs : ArgC β} {cs : ArgC γ} {r : Rt δ} {F : γ → Res δ} {k n : Nat} {x : Str} {ks : List Str} {gV : List V → List V → List V} {es : List Expr} {kws : List Keyword} {p pos : Pos} {fa : CT G → Res ((α × β))} (mp : α → β → γ) (D : DefQ A k x n ks gV (spP A.X.K A.ca cs r F)) (hk : k ≤ A.lv) (gl : Gl A.X x) (hr : RtOk r) (ha : RCA A G pos es kws ks as bs fa) (hn : as.n = n) (hm : bs.n = ks.length) (see : ∀ K R vs zs x y, as.see K R vs x → bs.see K R zs y → cs.see K R (gV vs zs) (mp x y)) (hdb : (x == ("__debug__" : Str)) = false := by decide) : RX A G (.Call (.Name x p) es kws pos) r (fun p => Res.bind (fa p) fun x => F (mp x.1 x.2)) := ex_eq (fun p => by first | simp only [rbok, Res.bind_assoc, bind_ite, bind_bad] | rfl) (ex_calP (mp := mp) (D := D) (hk := hk) (gl := gl) (hr := hr) (ha := ha) (hn := hn) (hm := hm) (see := see) (hdb := hdb))
theorem rex_metP {α β γ δ ε : Type} {as : ArgC α} {bs : ArgC β} {cs : ArgC γ} {fc : FldC ε} {r : Rt δ} {F : γ → Res δ} {k n : Nat} {C : Addr} {m : Str} {ks : List Str} {gV : List V → List V → List V} {ob : Expr} {es : List Expr} {kws : List Keyword} {ap pos : Pos} {f : CT G → Res (ε)} {fa : CT G → Res ((α × β))} {pl : Sem Bool} (mp : ε → α → β → γ) (D : MetQ A k C m n ks gV (spP A.X.K A.ca cs r F)) (hk : k ≤ A.lv) (cl : Cls A.X.K C) (nk : NoKey fc m) (hr : RtOk r) (ho : RX A G ob (rV (cIns C fc)) f) (ha : RCA A G pos es kws ks as bs fa) (hn : as.n + 1 = n) (hm : bs.n = ks.length) (see : ∀ K R v vs zs u x y, (cIns C fc).see K R v u → as.see K R vs x → bs.see K R zs y → cs.see K R (gV (v :: vs) zs) (mp u x y)) (ht : eval (.Call (.Attribute ob m ap) es kws pos) A.X.env = (do
      let recv ← eval ob A.X.env
      standAt ap.atName
      let (fn, first) ← holding [recv] (getMethod recv m pl)
      callWith pos fn first (backTo pos (starEach es A.X.env)) (backToKw pos (keywordEach kws A.X.env))) := by rfl) : RX A G (.Call (.Attribute ob m ap) es kws pos) r (fun p => Res.bind (f p) fun u => Res.bind (fa p) fun x => F (mp u x.1 x.2)) := ex_eq (fun p => by first | simp only [rbok, Res.bind_assoc, bind_ite, bind_bad] | rfl) (ex_metP (mp := mp) (D := D) (hk := hk) (cl := cl) (nk := nk) (hr := hr) (ho := ho) (ha := ha) (hn := hn) (hm := hm) (see := see) (ht := ht))
theorem rex_makP {α β γ δ : Type} {as : ArgC α} {bs : ArgC β} {cs : ArgC γ} {C : Addr} {fc : FldC δ} {F : γ → Res δ} {k n : Nat} {x : Str} {ks : List Str} {gV : List V → List V → List V} {es : List Expr} {kws : List Keyword} {p pos : Pos} {fa : CT G → Res ((α × β))} (mp : α → β → γ) (D : MakQ A k x C n ks gV (spN A.X.K A.ca C cs fc F)) (hk : k + 1 ≤ A.lv) (gl : Gl A.X x) (ha : RCA A G pos es kws ks as bs fa) (hn : as.n + 1 = n) (hm : bs.n = ks.length) (see : ∀ K R vs zs x y, as.see K R vs x → bs.see K R zs y → ∃ ws, (∀ v, gV (v :: vs) zs = v :: ws) ∧ cs.see K R ws (mp x y)) (hdb : (x == ("__debug__" : Str)) = false := by decide) : RX A G (.Call (.Name x p) es kws pos) (rV (cIns C fc)) (fun p => Res.bind (fa p) fun x => F (mp x.1 x.2)) := ex_eq (fun p => by first | simp only [rbok, Res.bind_assoc, bind_ite, bind_bad] | rfl) (ex_makP (mp := mp) (D := D) (hk := hk) (gl := gl) (ha := ha) (hn := hn) (hm := hm) (see := see) (hdb := hdb))
theorem rex_make {α β : Type} {C : Addr} {as : ArgC α} {fc : FldC β} {F : α → Res β} {k : Nat} {ps : List Str} {x : Str} {p pos : Pos} {e : Expr} {es : List Expr} {fa : CT G → Res (α)} (D : MakA A k x C ps (spN A.X.K A.ca C as fc F)) (hk : k + 1 ≤ A.lv) (gl : Gl A.X x) (ha : RAX A G (e :: es) as fa) (hdb : (x == ("__debug__" : Str)) = false := by decide) (he : starEach (e :: es) A.X.env = (false, eval e A.X.env) :: starEach es A.X.env := by rfl) (hpl : (backTo pos (starEach es A.X.env)).any (·.1) = false := by rfl) : RX A G (.Call (.Name x p) (e :: es) [] pos) (rV (cIns C fc)) (fun p => Res.bind (fa p) fun x => F x) := ex_eq (fun p => by first | simp only [rbok, Res.bind_assoc, bind_ite, bind_bad] | rfl) (ex_make (D := D) (hk := hk) (gl := gl) (ha := ha) (hdb := hdb) (he := he) (hpl := hpl))
theorem rex_mv {α β γ : Type} {T id : String} {name : Str} {a e : Expr} {es : List Expr} {ap cp : Pos} {c : Cod α} {as : ArgC β} {k : α → β → Option γ} {r : Rt γ} {f : CT G → Res (α)} {fa : CT G → Res (β)} (h : MtV A T id c as k r) (pa : PlainAttrs T) (slot : PySem.Slot T name id) (hty : typeOf (.builtin id) = pure (.type "method_descriptor")) (ho : RX A G a (rV c) f) (ha : RAX A G (e :: es) as fa) (hbase : attributeBase a name A.X.env (eval a A.X.env) = eval a A.X.env := by rfl) (hfew : ((backTo cp (starEach (e :: es) A.X.env)).all (fun x => !x.1) && (backToKw cp (keywordEach [] A.X.env)).all (fun x => x.1.isSome) && decide ((e :: es).length + ([] : List Keyword).length + (if ([] : List Keyword).isEmpty then 0 else 1) < 30)) = true := by rfl) (hline : (ap.endLine == cp.line) = true := by rfl) (hs : starEach (e :: es) A.X.env = (false, eval e A.X.env) :: starEach es A.X.env := by rfl) (hplain : (backTo cp (starEach es A.X.env)).any (·.1) = false := by rfl) : RX A G (.Call (.Attribute a name ap) (e :: es) [] cp) r (fun p => Res.bind (f p) fun x => Res.bind (fa p) fun y => ofO (k x y)) := ex_eq (fun p => by first | simp only [rbok, Res.bind_assoc, bind_ite, bind_bad] | rfl) (ex_mv (h := h) (pa := pa) (slot := slot) (hty := hty) (ho := ho) (ha := ha) (hbase := hbase) (hfew := hfew) (hline := hline) (hs := hs) (hplain := hplain))
theorem rex_indexN {a e : Expr} {ap cp : Pos} {f : CT G → Res (List Str)} {fa : CT G → Res (Str)} (ho : RX A G a (rV (cTN cS)) f) (ha : RX A G e (rV cS) fa) (hbase : attributeBase a "index" A.X.env (eval a A.X.env) = eval a A.X.env := by rfl) (hfew : ((backTo cp (starEach [e] A.X.env)).all (fun x => !x.1) && (backToKw cp (keywordEach [] A.X.env)).all (fun x => x.1.isSome) && decide ([e].length + ([] : List Keyword).length + (if ([] : List Keyword).isEmpty then 0 else 1) < 30)) = true := by rfl) (hline : (ap.endLine == cp.line) = true := by rfl) (hs : starEach [e] A.X.env = (false, eval e A.X.env) :: starEach [] A.X.env := by rfl) (hplain : (backTo cp (starEach [] A.X.env)).any (·.1) = false := by rfl) : RX A G (.Call (.Attribute a "index" ap) [e] [] cp) (rV cI) (fun p => Res.bind (f p) fun x => Res.bind (fa p) fun y => ofO (idxS x y)) := ex_eq (fun p => by first | simp only [rbok, Res.bind_assoc, bind_ite, bind_bad] | rfl) (ex_indexN (ho := ho) (ha := ha) (hbase := hbase) (hfew := hfew) (hline := hline) (hs := hs) (hplain := hplain))
theorem rex_ty {x : Str} {n : String} {pos : Pos} (hg : Gl A.X x) (hm : A.X.mg x = none) (hv : bootBuiltins x = some (.type n) := by decide +kernel) (hn : x ≠ "__name__" := by decide) (hd : (x == ("__debug__" : Str)) = false := by decide) : RX A G (.Name x pos) (rV (cTy n)) (fun _ => .ok ()) := ex_eq (fun p => by first | simp only [rbok, Res.bind_assoc, bind_ite, bind_bad] | rfl) (ex_ty (hg := hg) (hm := hm) (hv := hv) (hn := hn) (hd := hd))
theorem rex_cls {x : Str} {C : Addr} {pos : Pos} (hg : Gl A.X x) (D : ClsG A.X.K A.X.mg x C) (hd : (x == ("__debug__" : Str)) = false := by decide) : RX A G (.Name x pos) (rV (cCls C)) (fun _ => .ok ()) := ex_eq (fun p => by first | simp only [rbok, Res.bind_assoc, bind_ite, bind_bad] | rfl) (ex_cls (hg := hg) (D := D) (hd := hd))
theorem rex_lenSetT {a : Expr} {p1 p2 q1 q2 : Pos} {f : CT G → Res (List Int)} (hg : Gl A.X "len") (hm : A.X.mg "len" = none) (hg2 : Gl A.X "set") (hm2 : A.X.mg "set" = none) (h : RX A G a (rV (cTV cI)) f) (na : starEach [a] A.X.env = (false, eval a A.X.env) :: starEach [] A.X.env := by rfl) : RX A G (.Call (.Name "len" p1) [.Call (.Name "set" p2) [a] [] q2] [] q1) (rV cI) (fun p => Res.bind (f p) fun x => ofO (nUnlike x)) := ex_eq (fun p => by first | simp only [rbok, Res.bind_assoc, bind_ite, bind_bad] | rfl) (ex_lenSetT (hg := hg) (hm := hm) (hg2 := hg2) (hm2 := hm2) (h := h) (na := na))
theorem rex_listRg1 {a : Expr} {p1 p2 q1 q2 : Pos} {f : CT G → Res (Int)} (hg : Gl A.X "list") (hm : A.X.mg "list" = none) (hg2 : Gl A.X "range") (hm2 : A.X.mg "range" = none) (h : RX A G a (rV cI) f) (hs : starEach [a] A.X.env = (false, eval a A.X.env) :: starEach [] A.X.env := by rfl) (hs2 : starEach [.Call (.Name "range" p2) [a] [] q2] A.X.env = (false, eval (.Call (.Name "range" p2) [a] [] q2) A.X.env) :: starEach [] A.X.env := by rfl) : RX A G (.Call (.Name "list" p1) [.Call (.Name "range" p2) [a] [] q2] [] q1) (rO (oL cI)) (fun p => Res.bind (f p) fun x => ofO (rgO 0 x)) := ex_eq (fun p => by first | simp only [rbok, Res.bind_assoc, bind_ite, bind_bad] | rfl) (ex_listRg1 (hg := hg) (hm := hm) (hg2 := hg2) (hm2 := hm2) (h := h) (hs := hs) (hs2 := hs2))
theorem rex_listRg2 {a b : Expr} {p1 p2 q1 q2 : Pos} {f g : CT G → Res (Int)} (hg : Gl A.X "list") (hm : A.X.mg "list" = none) (hg2 : Gl A.X "range") (hm2 : A.X.mg "range" = none) (ha : RX A G a (rV cI) f) (hb : RX A G b (rV cI) g) (hs : starEach [a, b] A.X.env = (false, eval a A.X.env) :: starEach [b] A.X.env := by rfl) (hsb : starEach [b] A.X.env = (false, eval b A.X.env) :: starEach [] A.X.env := by rfl) (hp : (backTo q2 (starEach [b] A.X.env)).any (·.1) = false := by rfl) (hs2 : starEach [.Call (.Name "range" p2) [a, b] [] q2] A.X.env = (false, eval (.Call (.Name "range" p2) [a, b] [] q2) A.X.env) :: starEach [] A.X.env := by rfl) : RX A G (.Call (.Name "list" p1) [.Call (.Name "range" p2) [a, b] [] q2] [] q1) (rO (oL cI)) (fun p => Res.bind (f p) fun x => Res.bind (g p) fun y => ofO (rgO x y)) := ex_eq (fun p => by first | simp only [rbok, Res.bind_assoc, bind_ite, bind_bad] | rfl) (ex_listRg2 (hg := hg) (hm := hm) (hg2 := hg2) (hm2 := hm2) (ha := ha) (hb := hb) (hs := hs) (hsb := hsb) (hp := hp) (hs2 := hs2))
theorem rex_tupRg1 {a : Expr} {p1 p2 q1 q2 : Pos} {f : CT G → Res (Int)} (hg : Gl A.X "tuple") (hm : A.X.mg "tuple" = none) (hg2 : Gl A.X "range") (hm2 : A.X.mg "range" = none) (h : RX A G a (rV cI) f) (hs : starEach [a] A.X.env = (false, eval a A.X.env) :: starEach [] A.X.env := by rfl) (hs2 : starEach [.Call (.Name "range" p2) [a] [] q2] A.X.env = (false, eval (.Call (.Name "range" p2) [a] [] q2) A.X.env) :: starEach [] A.X.env := by rfl) : RX A G (.Call (.Name "tuple" p1) [.Call (.Name "range" p2) [a] [] q2] [] q1) (rV (cTV cI)) (fun p => Res.bind (f p) fun x => ofO (rgO 0 x)) := ex_eq (fun p => by first | simp only [rbok, Res.bind_assoc, bind_ite, bind_bad] | rfl) (ex_tupRg1 (hg := hg) (hm := hm) (hg2 := hg2) (hm2 := hm2) (h := h) (hs := hs) (hs2 := hs2))
theorem rex_dnew {κ α : Type} {kc : KeyC κ} {c : Cod α} {pos : Pos} : RX A G (.Dict [] [] pos) (rO (oD kc c)) (fun _ => .ok []) := ex_eq (fun p => by first | simp only [rbok, Res.bind_assoc, bind_ite, bind_bad] | rfl) (ex_dnew )
theorem rex_disp {κ α : Type} [DecidableEq κ] {kc : KeyC κ} {c : Cod α} {keys : List (Option Expr)} {vals : List Expr} {pos : Pos} {f : CT G → Res (List (κ × α))} (h : RKX A G pos keys vals kc c f) (hall : keys.all (·.isSome) = true := by rfl) (hl : keys.length = vals.length := by rfl) (h0 : keys ≠ [] := by exact fun e => nomatch e) (h15 : keys.length ≤ 15 := by decide) : RX A G (.Dict keys vals pos) (rO (oD kc c)) (fun p => Res.bind (f p) fun x => if x.length ≤ 15 then .ok (x.foldl (fun acc e => putD acc e.1 e.2) []) else .bad) := ex_eq (fun p => by first | simp only [rbok, Res.bind_assoc, bind_ite, bind_bad] | rfl) (ex_disp (h := h) (hall := hall) (hl := hl) (h0 := h0) (h15 := h15))
theorem rtx_val {e : Expr} {f : CT G → Res (Bool)} (h : RX A G e (rV cB) f) (he : ∀ whole, isTrue e A.X.env whole = (do let v ← whole; standAt e.pos; holding [v] (truthy v)) := by intro _; rfl) : RTX A G e (f) := tx_eq (fun p => by first | simp only [rbok, Res.bind_assoc, bind_ite, bind_bad] | rfl) (tx_val (h := h) (he := he))
theorem rtx_cmp {α β : Type} {c : Cod α} {d : Cod β} {k : α → β → Option Bool} {op : CmpOp} {a b : Expr} {pos : Pos} {f : CT G → Res (α)} {g : CT G → Res (β)} (h : OpT A (compareOp op) c d k (rV cB)) (ha : RX A G a (rV c) f) (hb : RX A G b (rV d) g) (hm : behindInMarks op b = false) : RTX A G (.Compare a [op] [b] pos) (fun p => Res.bind (f p) fun x => Res.bind (g p) fun y => ofO (k x y)) := tx_eq (fun p => by first | simp only [rbok, Res.bind_assoc, bind_ite, bind_bad] | rfl) (tx_cmp (h := h) (ha := ha) (hb := hb) (hm := hm))
theorem rtx_chain {α β γ : Type} {c : Cod α} {d : Cod β} {d' : Cod γ} {k1 : α → β → Option Bool} {k2 : β → γ → Option Bool} {op op' : CmpOp} {ea eb ec : Expr} {pos : Pos} {f : CT G → Res (α)} {g : CT G → Res (β)} {h : CT G → Res (γ)} (h1 : OpT A (compareOp op) c d k1 (rV cB)) (h2 : OpT A (compareOp op') d d' k2 (rV cB)) (ha : RX A G ea (rV c) f) (hb : RX A G eb (rV d) g) (hc : RX A G ec (rV d') h) (hm : lastMarks [op, op'] [eb, ec] = false) : RTX A G (.Compare ea [op, op'] [eb, ec] pos) (fun p => Res.bind (f p) fun x => Res.bind (g p) fun y => Res.bind (ofO (k1 x y)) fun w => if w = true then Res.bind (h p) fun u => ofO (k2 y u) else .ok false) := tx_eq (fun p => by first | simp only [rbok, Res.bind_assoc, bind_ite, bind_bad] | rfl) (tx_chain (h1 := h1) (h2 := h2) (ha := ha) (hb := hb) (hc := hc) (hm := hm))
theorem rtx_not {a : Expr} {pos : Pos} {f : CT G → Res (Bool)} (h : RTX A G a f) : RTX A G (.UnaryOp .Not a pos) (fun p => Res.bind (f p) fun x => .ok (!x)) := tx_eq (fun p => by first | simp only [rbok, Res.bind_assoc, bind_ite, bind_bad] | rfl) (tx_not (h := h))
theorem rtx_w {e : Expr} {f : CT G → Res (Bool)} (h : RWX A G e f) : RTX A G e (f) := tx_eq (fun p => by first | simp only [rbok, Res.bind_assoc, bind_ite, bind_bad] | rfl) (tx_w (h := h))
theorem rwx_and1 {a : Expr} {pos : Pos} {f : CT G → Res (Bool)} (h : RTX A G a f) : RWX A G (.BoolOp .And [a] pos) (f) := wx_eq (fun p => by first | simp only [rbok, Res.bind_assoc, bind_ite, bind_bad] | rfl) (wx_and1 (h := h))
theorem rwx_or1 {a : Expr} {pos : Pos} {f : CT G → Res (Bool)} (h : RTX A G a f) : RWX A G (.BoolOp .Or [a] pos) (f) := wx_eq (fun p => by first | simp only [rbok, Res.bind_assoc, bind_ite, bind_bad] | rfl) (wx_or1 (h := h))
theorem rwx_and {a b : Expr} {rest : List Expr} {pos : Pos} {f g : CT G → Res (Bool)} (ha : RTX A G a f) (hb : RWX A G (.BoolOp .And (b :: rest) pos) g) : RWX A G (.BoolOp .And (a :: b :: rest) pos) (fun p => Res.bind (f p) fun x => if x = true then g p else .ok false) := wx_eq (fun p => by first | simp only [rbok, Res.bind_assoc, bind_ite, bind_bad] | rfl) (wx_and (ha := ha) (hb := hb))
theorem rwx_or {a b : Expr} {rest : List Expr} {pos : Pos} {f g : CT G → Res (Bool)} (ha : RTX A G a f) (hb : RWX A G (.BoolOp .Or (b :: rest) pos) g) : RWX A G (.BoolOp .Or (a :: b :: rest) pos) (fun p => Res.bind (f p) fun x => if x = true then .ok true else g p) := wx_eq (fun p => by first | simp only [rbok, Res.bind_assoc, bind_ite, bind_bad] | rfl) (wx_or (ha := ha) (hb := hb))
theorem rax_nil  : RAX A G [] aNil (fun _ => .ok ()) := ax_eq (fun p => by first | simp only [rbok, Res.bind_assoc, bind_ite, bind_bad] | rfl) (ax_nil )
theorem rax_one {α : Type} {c : Cod α} {e : Expr} {f : CT G → Res (α)} (h : RX A G e (rV c) f) (hs : starEach [e] A.X.env = (false, eval e A.X.env) :: starEach [] A.X.env := by rfl) : RAX A G [e] (aOne c) (f) := ax_eq (fun p => by first | simp only [rbok, Res.bind_assoc, bind_ite, bind_bad] | rfl) (ax_one (h := h) (hs := hs))
theorem rax_cons {α β : Type} {c : Cod α} {as : ArgC β} {e : Expr} {es : List Expr} {f : CT G → Res (α)} {g : CT G → Res (β)} (h : RX A G e (rV c) f) (hr : RAX A G es as g) (hs : starEach (e :: es) A.X.env = (false, eval e A.X.env) :: starEach es A.X.env := by rfl) : RAX A G (e :: es) (aCons c as) (fun p => Res.bind (f p) fun x => Res.bind (g p) fun y => .ok (x, y)) := ax_eq (fun p => by first | simp only [rbok, Res.bind_assoc, bind_ite, bind_bad] | rfl) (ax_cons (h := h) (hr := hr) (hs := hs))
theorem rax_nilA {α : Type} {c : Cod α} : RAX A G [] (aAll c 0) (fun _ => .ok []) := ax_eq (fun p => by first | simp only [rbok, Res.bind_assoc, bind_ite, bind_bad] | rfl) (ax_nilA )
theorem rax_consA {α : Type} {c : Cod α} {n : Nat} {e : Expr} {es : List Expr} {f : CT G → Res (α)} {g : CT G → Res (List α)} (h : RX A G e (rV c) f) (hr : RAX A G es (aAll c n) g) (hs : starEach (e :: es) A.X.env = (false, eval e A.X.env) :: starEach es A.X.env := by rfl) : RAX A G (e :: es) (aAll c (n + 1)) (fun p => Res.bind (f p) fun x => Res.bind (g p) fun y => .ok (x :: y)) := ax_eq (fun p => by first | simp only [rbok, Res.bind_assoc, bind_ite, bind_bad] | rfl) (ax_consA (h := h) (hr := hr) (hs := hs))
theorem raxo_nil {α : Type} {oc : OCod α} {k : Nat} : RAO A G [] oc k 0 (fun _ => .ok []) := axo_eq (fun p => by first | simp only [rbok, Res.bind_assoc, bind_ite, bind_bad] | rfl) (axo_nil )
theorem raxo_cons {α : Type} {oc : OCod α} {k n : Nat} {e : Expr} {es : List Expr} {f : CT G → Res (α)} {g : CT G → Res (List α)} (sh : ShO oc) (h : RX A G e (rO oc) f) (hr : RAO A G es oc (k + 1) n g) (hs : starEach (e :: es) A.X.env = (false, eval e A.X.env) :: starEach es A.X.env := by rfl) : RAO A G (e :: es) oc k (n + 1) (fun p => Res.bind (f p) fun x => Res.bind (g p) fun y => .ok (x :: y)) := axo_eq (fun p => by first | simp only [rbok, Res.bind_assoc, bind_ite, bind_bad] | rfl) (axo_cons (sh := sh) (h := h) (hr := hr) (hs := hs))
theorem raxt_o1 {α : Type} {oc : OCod α} {k : Nat} {e : Expr} {f : CT G → Res (α)} (sh : ShO oc) (h : RX A G e (rO oc) f) (hs : starEach [e] A.X.env = (false, eval e A.X.env) :: starEach [] A.X.env := by rfl) : RAT A G [e] (oO1 oc) k (f) := axt_eq (fun p => by first | simp only [rbok, Res.bind_assoc, bind_ite, bind_bad] | rfl) (axt_o1 (sh := sh) (h := h) (hs := hs))
theorem raxt_v1 {α : Type} {c : Cod α} {k : Nat} {e : Expr} {f : CT G → Res (α)} (h : RX A G e (rV c) f) (hs : starEach [e] A.X.env = (false, eval e A.X.env) :: starEach [] A.X.env := by rfl) : RAT A G [e] (oV1 c) k (f) := axt_eq (fun p => by first | simp only [rbok, Res.bind_assoc, bind_ite, bind_bad] | rfl) (axt_v1 (h := h) (hs := hs))
theorem raxt_vc {α β : Type} {c : Cod α} {as : OArg β} {k : Nat} {e : Expr} {es : List Expr} {f : CT G → Res (α)} {g : CT G → Res (β)} (h : RX A G e (rV c) f) (hr : RAT A G es as (k + 1) g) (hs : starEach (e :: es) A.X.env = (false, eval e A.X.env) :: starEach es A.X.env := by rfl) : RAT A G (e :: es) (oVc c as) k (fun p => Res.bind (f p) fun x => Res.bind (g p) fun y => .ok (x, y)) := axt_eq (fun p => by first | simp only [rbok, Res.bind_assoc, bind_ite, bind_bad] | rfl) (axt_vc (h := h) (hr := hr) (hs := hs))
theorem raxt_oc {α β : Type} {oc : OCod α} {as : OArg β} {k : Nat} {e : Expr} {es : List Expr} {f : CT G → Res (α)} {g : CT G → Res (β)} (sh : ShO oc) (h : RX A G e (rO oc) f) (hr : RAT A G es as (k + 1) g) (hs : starEach (e :: es) A.X.env = (false, eval e A.X.env) :: starEach es A.X.env := by rfl) : RAT A G (e :: es) (oOc oc as) k (fun p => Res.bind (f p) fun x => Res.bind (g p) fun y => .ok (x, y)) := axt_eq (fun p => by first | simp only [rbok, Res.bind_assoc, bind_ite, bind_bad] | rfl) (axt_oc (sh := sh) (h := h) (hr := hr) (hs := hs))
theorem rkw_one {α : Type} {c : Cod α} {e : Expr} {nm : Option Str} {kp : Pos} {f : CT G → Res (α)} (h : RX A G e (rV c) f) : RKW A G [⟨nm, e, kp⟩] (aOne c) (f) := kw_eq (fun p => by first | simp only [rbok, Res.bind_assoc, bind_ite, bind_bad] | rfl) (kw_one (h := h))
theorem rkw_cons {α β : Type} {c : Cod α} {as : ArgC β} {e : Expr} {nm : Option Str} {kp : Pos} {kws : List Keyword} {f : CT G → Res (α)} {g : CT G → Res (β)} (h : RX A G e (rV c) f) (hr : RKW A G kws as g) : RKW A G (⟨nm, e, kp⟩ :: kws) (aCons c as) (fun p => Res.bind (f p) fun x => Res.bind (g p) fun y => .ok (x, y)) := kw_eq (fun p => by first | simp only [rbok, Res.bind_assoc, bind_ite, bind_bad] | rfl) (kw_cons (h := h) (hr := hr))
theorem rca_pos {α : Type} {as : ArgC α} {pos : Pos} {e : Expr} {es : List Expr} {fa : CT G → Res (α)} (ha : RAX A G (e :: es) as fa) (he : starEach (e :: es) A.X.env = (false, eval e A.X.env) :: starEach es A.X.env := by rfl) (hpl : (backTo pos (starEach es A.X.env)).any (·.1) = false := by rfl) : RCA A G pos (e :: es) [] [] as aNil (fun p => Res.bind (fa p) fun x => .ok (x, ())) := ca_eq (fun p => by first | simp only [rbok, Res.bind_assoc, bind_ite, bind_bad] | rfl) (ca_pos (ha := ha) (he := he) (hpl := hpl))
theorem rca_kw {β : Type} {bs : ArgC β} {pos : Pos} {kws : List Keyword} {ks : List Str} {fb : CT G → Res (β)} (hb : RKW A G kws bs fb) (hall : (backToKw pos (keywordEach kws A.X.env)).all (·.1.isSome) = true := by rfl) (hks : (backToKw pos (keywordEach kws A.X.env)).filterMap (·.1) = ks := by rfl) (hpl : (backToKw pos (keywordEach kws A.X.env)).any (·.1.isNone) = false := by rfl) : RCA A G pos [] kws ks aNil bs (fun p => Res.bind (fb p) fun x => .ok ((), x)) := ca_eq (fun p => by first | simp only [rbok, Res.bind_assoc, bind_ite, bind_bad] | rfl) (ca_kw (hb := hb) (hall := hall) (hks := hks) (hpl := hpl))
theorem rca_both {α β : Type} {as : ArgC α} {bs : ArgC β} {pos : Pos} {e : Expr} {es : List Expr} {kws : List Keyword} {ks : List Str} {fa : CT G → Res (α)} {fb : CT G → Res (β)} (ha : RAX A G (e :: es) as fa) (hb : RKW A G kws bs fb) (he : starEach (e :: es) A.X.env = (false, eval e A.X.env) :: starEach es A.X.env := by rfl) (hall : (backToKw pos (keywordEach kws A.X.env)).all (·.1.isSome) = true := by rfl) (hks : (backToKw pos (keywordEach kws A.X.env)).filterMap (·.1) = ks := by rfl) (hpl : ((backTo pos (starEach (e :: es) A.X.env)).any (·.1) || (backToKw pos (keywordEach kws A.X.env)).any (·.1.isNone)) = false := by rfl) : RCA A G pos (e :: es) kws ks as bs (fun p => Res.bind (fa p) fun x => Res.bind (fb p) fun y => .ok (x, y)) := ca_eq (fun p => by first | simp only [rbok, Res.bind_assoc, bind_ite, bind_bad] | rfl) (ca_both (ha := ha) (hb := hb) (he := he) (hall := hall) (hks := hks) (hpl := hpl))
theorem rca_none {pos : Pos} : RCA A G pos [] [] [] aNil aNil (fun _ => .ok ((), ())) := ca_eq (fun p => by first | simp only [rbok, Res.bind_assoc, bind_ite, bind_bad] | rfl) (ca_none )
theorem rix_l {α : Type} {c : Cod α} {tg e : Expr} {f : CT G → Res (List α)} (h : RX A G e (rV (cL c)) f) : RIX A G tg e c (f) := ix_eq (fun p => by first | simp only [rbok, Res.bind_assoc, bind_ite, bind_bad] | rfl) (ix_l (h := h))
theorem rix_k {α : Type} {c : Cod α} {tg e : Expr} {f : CT G → Res (List α)} (h : RX A G e (rV (cLK c)) f) : RIX A G tg e c (f) := ix_eq (fun p => by first | simp only [rbok, Res.bind_assoc, bind_ite, bind_bad] | rfl) (ix_k (h := h))
theorem rix_t {α : Type} {c : Cod α} {tg e : Expr} {f : CT G → Res (List α)} (h : RX A G e (rV (cTV c)) f) : RIX A G tg e c (f) := ix_eq (fun p => by first | simp only [rbok, Res.bind_assoc, bind_ite, bind_bad] | rfl) (ix_t (h := h))
theorem rix_s {tg e : Expr} {f : CT G → Res (Str)} (h : RX A G e (rV cS) f) : RIX A G tg e cS (fun p => Res.bind (f p) fun x => .ok (strL x)) := ix_eq (fun p => by first | simp only [rbok, Res.bind_assoc, bind_ite, bind_bad] | rfl) (ix_s (h := h))
theorem rix_r1 {tg a : Expr} {p pos : Pos} {f : CT G → Res (Int)} (hg : Gl A.X "range") (hm : A.X.mg "range" = none) (h : RX A G a (rV cI) f) (hs : starEach [a] A.X.env = [(false, eval a A.X.env)] := by rfl) : RIX A G tg (.Call (.Name "range" p) [a] [] pos) cI (fun p => Res.bind (f p) fun x => rng1O x) := ix_eq (fun p => by first | simp only [rbok, Res.bind_assoc, bind_ite, bind_bad] | rfl) (ix_r1 (hg := hg) (hm := hm) (h := h) (hs := hs))
theorem rix_r2 {tg a b : Expr} {p pos : Pos} {f g : CT G → Res (Int)} (hg : Gl A.X "range") (hm : A.X.mg "range" = none) (ha : RX A G a (rV cI) f) (hb : RX A G b (rV cI) g) (hs : starEach [a, b] A.X.env = [(false, eval a A.X.env), (false, eval b A.X.env)] := by rfl) (hs2 : starEach [b] A.X.env = [(false, eval b A.X.env)] := by rfl) : RIX A G tg (.Call (.Name "range" p) [a, b] [] pos) cI (fun p => Res.bind (f p) fun x => Res.bind (g p) fun y => rng2O x y) := ix_eq (fun p => by first | simp only [rbok, Res.bind_assoc, bind_ite, bind_bad] | rfl) (ix_r2 (hg := hg) (hm := hm) (ha := ha) (hb := hb) (hs := hs) (hs2 := hs2))
theorem rix_enum {α : Type} {c : Cod α} {a : Expr} {elts : List Expr} {kk : Nat} {tpos p pos : Pos} {f : CT G → Res (List α)} (hg : Gl A.X "enumerate") (hm : A.X.mg "enumerate" = none) (h : RX A G a (rV (cL c)) f) (hs : starEach [a] A.X.env = [(false, eval a A.X.env)] := by rfl) : RIX A G (.Tuple elts kk tpos) (.Call (.Name "enumerate" p) [a] [] pos) (cT (aCons cI (aOne c))) (fun p => Res.bind (f p) fun x => .ok (enumL x)) := ix_eq (fun p => by first | simp only [rbok, Res.bind_assoc, bind_ite, bind_bad] | rfl) (ix_enum (hg := hg) (hm := hm) (h := h) (hs := hs))
theorem rix_zip {α β : Type} {c : Cod α} {d : Cod β} {a b : Expr} {elts : List Expr} {kk : Nat} {tpos p pos : Pos} {f : CT G → Res (List α)} {g : CT G → Res (List β)} (hg : Gl A.X "zip") (hm : A.X.mg "zip" = none) (ha : RX A G a (rV (cL c)) f) (hb : RX A G b (rV (cL d)) g) (hs : starEach [a, b] A.X.env = (false, eval a A.X.env) :: starEach [b] A.X.env := by rfl) (hs2 : starEach [b] A.X.env = (false, eval b A.X.env) :: starEach [] A.X.env := by rfl) (hpl : (backTo pos (starEach [b] A.X.env)).any (·.1) = false := by rfl) : RIX A G (.Tuple elts kk tpos) (.Call (.Name "zip" p) [a, b] [] pos) (cT (aCons c (aOne d))) (fun p => Res.bind (f p) fun x => Res.bind (g p) fun y => .ok (x.zip y)) := ix_eq (fun p => by first | simp only [rbok, Res.bind_assoc, bind_ite, bind_bad] | rfl) (ix_zip (hg := hg) (hm := hm) (ha := ha) (hb := hb) (hs := hs) (hs2 := hs2) (hpl := hpl))
theorem rox_none  : ROX A G none (fun _ => .ok none) := ox_eq (fun p => by first | simp only [rbok, Res.bind_assoc, bind_ite, bind_bad] | rfl) (ox_none )
theorem rox_some {e : Expr} {f : CT G → Res (Int)} (h : RX A G e (rV cI) f) : ROX A G (some e) (fun p => Res.bind (f p) fun x => .ok (some x)) := ox_eq (fun p => by first | simp only [rbok, Res.bind_assoc, bind_ite, bind_bad] | rfl) (ox_some (h := h))
theorem rkx_nil {κ α : Type} {kc : KeyC κ} {c : Cod α} {pos : Pos} : RKX A G pos [] [] kc c (fun _ => .ok []) := kx_eq (fun p => by first | simp only [rbok, Res.bind_assoc, bind_ite, bind_bad] | rfl) (kx_nil )
theorem rkx_cons {κ α : Type} {kc : KeyC κ} {c : Cod α} {pos : Pos} {a b : Expr} {keys : List (Option Expr)} {vals : List Expr} {f : CT G → Res (κ)} {g : CT G → Res (α)} {h : CT G → Res (List (κ × α))} (ha : RX A G a (rV kc.c) f) (hb : RX A G b (rV c) g) (hr : RKX A G pos keys vals kc c h) : RKX A G pos (some a :: keys) (b :: vals) kc c (fun p => Res.bind (f p) fun x => Res.bind (g p) fun y => Res.bind (h p) fun z => .ok ((x, y) :: z)) := kx_eq (fun p => by first | simp only [rbok, Res.bind_assoc, bind_ite, bind_bad] | rfl) (kx_cons (ha := ha) (hb := hb) (hr := hr))
/-! lending, and comprehensions of what only reads -/
theorem rex_lend {G1 : Ctx} {S T : List Nat} {to : CT G → CT G1} {bk : CT G → CT G1 → CT G} {α : Type} {r : Rt α} {e : Expr} {f : CT G1 → Res α} (ln : LendC S T 0 G G1 to bk) (hr : RtHard r) (h : RX A G1 e r f) (hb : ∀ p, bk p (to p) = p := by intro _; rfl) : RX A G e r (fun p => f (to p)) :=
  ex_eq (fun p => by simp only [rbok, Res.bind_assoc, hb]) (ex_lend ln hr h)
theorem rtx_lend {G1 : Ctx} {S T : List Nat} {to : CT G → CT G1} {bk : CT G → CT G1 → CT G} {e : Expr} {f : CT G1 → Res Bool} (ln : LendC S T 0 G G1 to bk) (h : RTX A G1 e f) (hb : ∀ p, bk p (to p) = p := by intro _; rfl) : RTX A G e (fun p => f (to p)) :=
  tx_eq (fun p => by simp only [rbok, Res.bind_assoc, hb]) (tx_lend ln h)
def mapP {α γ : Type} (f : α → Res γ) : List α → Res (List γ)
  | [] => .ok []
  | x :: xs => Res.bind (Res.noexc (f x)) fun y => Res.bind (mapP f xs) fun ys => .ok (y :: ys)
def lcP {α γ : Type} (t : α → Res Bool) (f : α → Res γ) : List α → Res (List γ)
  | [] => .ok []
  | x :: xs => Res.bind (Res.noexc (t x)) fun b => if b = true then Res.bind (Res.noexc (f x)) fun y => Res.bind (lcP t f xs) fun ys => .ok (y :: ys) else lcP t f xs
theorem noexc_bind {α β : Type} {m : Res α} {k : α → Res β} : Res.noexc (Res.bind m k) = Res.bind (Res.noexc m) fun x => Res.noexc (k x) := by cases m <;> rfl
theorem noexc_ok {α : Type} {x : α} : Res.noexc (.ok x) = .ok x := rfl
theorem mapR_P {α β γ : Type} {f : α → β → Res (γ × β)} {g : α → Res γ} {b : β} (h : ∀ x, f x b = Res.bind (g x) fun z => .ok (z, b)) : ∀ xs : List α, mapR xs f b = Res.bind (mapP g xs) fun ys => .ok (ys, b)
  | [] => rfl
  | x :: xs => by
    unfold mapR mapP
    rw [h x, noexc_bind]
    simp only [noexc_ok, rbok, Res.bind_assoc]
    congr 1
    funext z
    rw [mapR_P h xs]
    simp only [rbok, Res.bind_assoc]
theorem lcL_P {α β γ : Type} {f : α → β → Res (Option γ × β)} {t : α → Res Bool} {g : α → Res γ} {b : β} (h : ∀ x, f x b = Res.bind (t x) fun c => if c = true then Res.bind (g x) fun z => .ok (some z, b) else .ok (none, b)) : ∀ xs : List α, lcL xs f b = Res.bind (lcP t g xs) fun ys => .ok (ys, b)
  | [] => rfl
  | x :: xs => by
    unfold lcL lcP
    rw [h x, noexc_bind]
    simp only [Res.bind_assoc]
    congr 1
    funext c
    cases c with
    | false =>
      simp only [Bool.false_eq_true, if_false, noexc_ok, rbok]
      rw [lcL_P h xs]
      simp only [rbok, Res.bind_assoc]
    | true =>
      simp only [if_true, noexc_bind, noexc_ok, rbok, Res.bind_assoc]
      congr 1
      funext z
      rw [lcL_P h xs]
      simp only [rbok, Res.bind_assoc]
theorem rex_lc {α β : Type} {ci : Cod α} {ce : Cod β} {G0 G1 : Ctx} {elt tg iter : Expr} {scope : Scope} {own : List (Str × Nat)} {pos : Pos} {fi : CT G → Res (List α)} {dn : CT G → CT G0} {bk : CT G → CT G0 → CT G} {put : CT G0 → α → CT G1} {fe : CT G1 → Res β} {dn1 : CT G1 → CT G0} {bk1 : CT G1 → CT G0 → CT G1}
    (hi : RIX A G tg iter ci fi) (ok : BlkOk A.X.N A.X.env.scope scope own) (wc : WipeC 0 (own.map (fun x : Str × Nat => x.2)) G G0 dn bk)
    (hg : ∀ s H C cl fp, GX (A.blk (own.map (fun x : Str × Nat => x.2)) s H scope C cl fp) G0 tg ci G1 put) (he : ∀ s H C cl fp, RX (A.blk (own.map (fun x : Str × Nat => x.2)) s H scope C cl fp) G1 elt (rV ce) fe)
    (wc1 : WipeC 0 (own.map (fun x : Str × Nat => x.2)) G1 G0 dn1 bk1) (h1 : ∀ q x, dn1 (put q x) = q := by intros; rfl) (h2 : ∀ p, bk p (dn p) = p := by intros; rfl) (hs : ∀ x, foldedSetIterable iter A.X.env x = pure x := by intro _; rfl) :
    RX A G (.ListComp elt [⟨tg, iter, [], 0⟩] scope pos) (rO (oL ce)) (fun p => Res.bind (fi p) fun xs => mapP (fun x => fe (put (dn p) x)) xs) :=
  ex_eq (fun p => by
    simp only [rbok, Res.bind_assoc, h1]
    congr 1
    funext xs
    rw [mapR_P (g := fun x => fe (put (dn p) x)) (fun x => rfl)]
    simp only [rbok, Res.bind_assoc, h2]) (ex_lc hi ok wc hg he wc1 hs)
theorem rex_lcIf {α β : Type} {ci : Cod α} {ce : Cod β} {G0 G1 : Ctx} {elt tg iter c : Expr} {scope : Scope} {own : List (Str × Nat)} {pos : Pos} {fi : CT G → Res (List α)} {dn : CT G → CT G0} {bk : CT G → CT G0 → CT G} {put : CT G0 → α → CT G1} {ft : CT G1 → Res Bool} {fe : CT G1 → Res β} {dn1 : CT G1 → CT G0} {bk1 : CT G1 → CT G0 → CT G1}
    (hi : RIX A G tg iter ci fi) (ok : BlkOk A.X.N A.X.env.scope scope own) (wc : WipeC 0 (own.map (fun x : Str × Nat => x.2)) G G0 dn bk)
    (hg : ∀ s H C cl fp, GX (A.blk (own.map (fun x : Str × Nat => x.2)) s H scope C cl fp) G0 tg ci G1 put) (ht : ∀ s H C cl fp, RTX (A.blk (own.map (fun x : Str × Nat => x.2)) s H scope C cl fp) G1 c ft) (he : ∀ s H C cl fp, RX (A.blk (own.map (fun x : Str × Nat => x.2)) s H scope C cl fp) G1 elt (rV ce) fe)
    (wc1 : WipeC 0 (own.map (fun x : Str × Nat => x.2)) G1 G0 dn1 bk1) (h1 : ∀ q x, dn1 (put q x) = q := by intros; rfl) (h2 : ∀ p, bk p (dn p) = p := by intros; rfl) (hs : ∀ x, foldedSetIterable iter A.X.env x = pure x := by intro _; rfl) :
    RX A G (.ListComp elt [⟨tg, iter, [c], 0⟩] scope pos) (rO (oL ce)) (fun p => Res.bind (fi p) fun xs => lcP (fun x => ft (put (dn p) x)) (fun x => fe (put (dn p) x)) xs) :=
  ex_eq (fun p => by
    simp only [rbok, Res.bind_assoc, h1]
    congr 1
    funext xs
    rw [lcL_P (t := fun x => ft (put (dn p) x)) (g := fun x => fe (put (dn p) x)) (fun x => rfl)]
    simp only [rbok, Res.bind_assoc, h2]) (ex_lcIf hi ok wc hg ht he wc1 hs)
theorem sx_eq {st : Stmt} {f g : CT G → Res (Out (CT G') ρ)} (h : ∀ p, f p = g p) (x : SX A G st G' R f) : SX A G st G' R g := (funext h : f = g) ▸ x
theorem rsx_setLc {α β : Type} {ci : Cod α} {ce : Cod β} {G0 G1 : Ctx} {i : Nat} {x : Str} {px spos : Pos} {elt tg iter : Expr} {scope : Scope} {own : List (Str × Nat)} {pos : Pos} {fi : CT G → Res (List α)} {dn : CT G → CT G0} {bk : CT G → CT G0 → CT G} {pu : CT G0 → α → CT G1} {fe : CT G1 → Res β} {dn1 : CT G1 → CT G0} {bk1 : CT G1 → CT G0 → CT G1} {put : CT G → List β → CT G'}
    (u : Upd G i (sOwn PAny (oL ce)) G' put) (hx : A.X.N[i]? = some x) (hxl : A.X.env.scope.names.lookup x = some .local) (hS : A.S i)
    (hi : RIX A G tg iter ci fi) (ok : BlkOk A.X.N A.X.env.scope scope own) (wc : WipeC 0 (own.map (fun x : Str × Nat => x.2)) G G0 dn bk)
    (hg : ∀ s H C cl fp, GX (A.blk (own.map (fun x : Str × Nat => x.2)) s H scope C cl fp) G0 tg ci G1 pu) (he : ∀ s H C cl fp, RX (A.blk (own.map (fun x : Str × Nat => x.2)) s H scope C cl fp) G1 elt (rV ce) fe)
    (wc1 : WipeC 0 (own.map (fun x : Str × Nat => x.2)) G1 G0 dn1 bk1) (hsw : swapsWith (.ListComp elt [⟨tg, iter, [], 0⟩] scope pos) (some (.Name x px)) spos.line A.X.env = pure true) (h1 : ∀ q x, dn1 (pu q x) = q := by intros; rfl) (h2 : ∀ p, bk p (dn p) = p := by intros; rfl) (hs : ∀ x, foldedSetIterable iter A.X.env x = pure x := by intro _; rfl) :
    SX A G (.Assign [.Name x px] (.ListComp elt [⟨tg, iter, [], 0⟩] scope pos) spos) G' R (fun p => Res.bind (Res.bind (Res.bind (fi p) fun xs => mapP (fun x => fe (pu (dn p) x)) xs) fun x => .ok (x, p)) fun y => .ok (.nx (put y.2 y.1))) :=
  sx_eq (fun p => by
    simp only [rbok, Res.bind_assoc, h1]
    congr 1
    funext xs
    rw [mapR_P (g := fun x => fe (pu (dn p) x)) (fun x => rfl)]
    simp only [rbok, Res.bind_assoc, h2]) (sx_setLc u hx hxl hS hi ok wc hg he wc1 hsw hs)
theorem rsx_setLcIf {α β : Type} {ci : Cod α} {ce : Cod β} {G0 G1 : Ctx} {i : Nat} {x : Str} {px spos : Pos} {elt tg iter c : Expr} {scope : Scope} {own : List (Str × Nat)} {pos : Pos} {fi : CT G → Res (List α)} {dn : CT G → CT G0} {bk : CT G → CT G0 → CT G} {pu : CT G0 → α → CT G1} {ft : CT G1 → Res Bool} {fe : CT G1 → Res β} {dn1 : CT G1 → CT G0} {bk1 : CT G1 → CT G0 → CT G1} {put : CT G → List β → CT G'}
    (u : Upd G i (sOwn PAny (oL ce)) G' put) (hx : A.X.N[i]? = some x) (hxl : A.X.env.scope.names.lookup x = some .local) (hS : A.S i)
    (hi : RIX A G tg iter ci fi) (ok : BlkOk A.X.N A.X.env.scope scope own) (wc : WipeC 0 (own.map (fun x : Str × Nat => x.2)) G G0 dn bk)
    (hg : ∀ s H C cl fp, GX (A.blk (own.map (fun x : Str × Nat => x.2)) s H scope C cl fp) G0 tg ci G1 pu) (ht : ∀ s H C cl fp, RTX (A.blk (own.map (fun x : Str × Nat => x.2)) s H scope C cl fp) G1 c ft) (he : ∀ s H C cl fp, RX (A.blk (own.map (fun x : Str × Nat => x.2)) s H scope C cl fp) G1 elt (rV ce) fe)
    (wc1 : WipeC 0 (own.map (fun x : Str × Nat => x.2)) G1 G0 dn1 bk1) (hsw : swapsWith (.ListComp elt [⟨tg, iter, [c], 0⟩] scope pos) (some (.Name x px)) spos.line A.X.env = pure true) (h1 : ∀ q x, dn1 (pu q x) = q := by intros; rfl) (h2 : ∀ p, bk p (dn p) = p := by intros; rfl) (hs : ∀ x, foldedSetIterable iter A.X.env x = pure x := by intro _; rfl) :
    SX A G (.Assign [.Name x px] (.ListComp elt [⟨tg, iter, [c], 0⟩] scope pos) spos) G' R (fun p => Res.bind (Res.bind (Res.bind (fi p) fun xs => lcP (fun x => ft (pu (dn p) x)) (fun x => fe (pu (dn p) x)) xs) fun x => .ok (x, p)) fun y => .ok (.nx (put y.2 y.1))) :=
  sx_eq (fun p => by
    simp only [rbok, Res.bind_assoc, h1]
    congr 1
    funext xs
    rw [lcL_P (t := fun x => ft (pu (dn p) x)) (g := fun x => fe (pu (dn p) x)) (fun x => rfl)]
    simp only [rbok, Res.bind_assoc, h2]) (sx_setLcIf u hx hxl hS hi ok wc hg ht he wc1 hsw hs)
end
end AC
set_option Elab.async false
set_option linter.all false
set_option maxRecDepth 100000
/-! TL33: loops over own tuples, one part of which is changed in the body. -/
namespace AC
open PySem L2 PyProof
def setAll : St → List Nat → List V → St
  | o, j :: js, v :: vs => setAll (o.set j (some v)) js vs
  | o, _, _ => o
theorem setAll_len : ∀ {js : List Nat} {vs : List V} {o : St}, (setAll o js vs).length = o.length
  | [], _, _ => by unfold setAll; rfl
  | _ :: _, [], _ => by unfold setAll; rfl
  | j :: js, v :: vs, o => by
    show (setAll (o.set j (some v)) js vs).length = _
    rw [setAll_len, List.length_set]
theorem setAll_ne {i : Nat} : ∀ {js : List Nat} {vs : List V} {o : St}, i ∉ js → (setAll o js vs)[i]? = o[i]?
  | [], _, _, _ => by unfold setAll; rfl
  | _ :: _, [], _, _ => by unfold setAll; rfl
  | j :: js, v :: vs, o, h => by
    show (setAll (o.set j (some v)) js vs)[i]? = _
    rw [setAll_ne fun z => h (List.mem_cons_of_mem _ z), List.getElem?_set_ne fun e => h (by rw [← e]; exact List.mem_cons_self)]
theorem setAll_at {j : Nat} {v : V} : ∀ {js : List Nat} {vs : List V} {o : St} {m : Nat}, js.Nodup → js[m]? = some j → vs[m]? = some v → j < o.length → (setAll o js vs)[j]? = some (some v)
  | [], _, _, _, _, h, _, _ => by simp at h
  | _ :: _, [], _, _, _, _, h, _ => by simp at h
  | k :: js, w :: vs, o, 0, nd, h1, h2, h3 => by
    have h1 : k = j := by simpa using h1
    have h2 : w = v := by simpa using h2
    subst h1 h2
    show (setAll (o.set k (some w)) js vs)[k]? = _
    rw [setAll_ne (List.nodup_cons.mp nd).1, List.getElem?_set_self h3]
  | k :: js, w :: vs, o, m + 1, nd, h1, h2, h3 => by
    show (setAll (o.set k (some w)) js vs)[j]? = _
    exact setAll_at (m := m) (List.nodup_cons.mp nd).2 (by simpa using h1) (by simpa using h2) (by rw [List.length_set]; exact h3)
theorem keeps_setAll {S : Nat → Prop} : ∀ {js : List Nat} {vs : List V} {o : St}, (∀ j, j ∈ js → S j) → Keeps S o (setAll o js vs)
  | [], _, _, _ => by unfold setAll; exact Keeps.refl
  | _ :: _, [], _, _ => by unfold setAll; exact Keeps.refl
  | j :: js, v :: vs, o, h => by
    show Keeps S o (setAll (o.set j (some v)) js vs)
    exact (Keeps.set (h j List.mem_cons_self)).trans (keeps_setAll fun k hk => h k (List.mem_cons_of_mem _ hk))
def gAll (js : List Nat) : L2.TGs := fun vs o H Q => vs.length = js.length ∧ Q (setAll o js vs) H
section
variable {A : Amb} {G G' G0 G1 G2 : Ctx} {ρ : Type} {R : Rr ρ}
theorem nm_one {i : Nat} {x : Str} {pos : Pos} (hi : A.X.N[i]? = some x) (hx : Loc A.X.env.scope x) (hf : A.X.fn x = true ∨ A.X.env.scope.names.lookup x = some .local) (hs : (assignEach [.Name x pos] A.X.env).map (·.2) = assign (.Name x pos) A.X.env :: (assignEach [] A.X.env).map (·.2) := by rfl) : PGs A.X [.Name x pos] (gAll [i]) :=
  pgs_weak (pgs_cons (pg_name A.nd hi hx hf) pgs_nil hs) fun vs o H Q ⟨hl, q⟩ => by
    match vs, hl, q with
    | [v], _, q => exact ⟨v, [], rfl, rfl, q⟩
theorem nm_cons {i : Nat} {x : Str} {pos : Pos} {es : List Expr} {js : List Nat} (hi : A.X.N[i]? = some x) (hx : Loc A.X.env.scope x) (hf : A.X.fn x = true ∨ A.X.env.scope.names.lookup x = some .local) (h : PGs A.X es (gAll js)) (hs : (assignEach (.Name x pos :: es) A.X.env).map (·.2) = assign (.Name x pos) A.X.env :: (assignEach es A.X.env).map (·.2) := by rfl) : PGs A.X (.Name x pos :: es) (gAll (i :: js)) :=
  pgs_weak (pgs_cons (pg_name A.nd hi hx hf) h hs) fun vs o H Q ⟨hl, q⟩ => by
    match vs, hl, q with
    | v :: ws, hl, q => exact ⟨v, ws, rfl, by simpa using hl, q⟩
theorem nm_tup {es : List Expr} {js : List Nat} {kk : Nat} {pos : Pos} (h : PGs A.X es (gAll js)) (hn : (assignEach es A.X.env).length = js.length := by rfl) (hst : (assignEach es A.X.env).findIdx? (·.1) = none := by rfl) : PG A.X (.Tuple es kk pos) (gTup A.X.K js.length (gAll js)) := pg_tup A.calm h hn hst
end
/-! ### the tuple's parts, one of which is a slot's -/
def oJ1 {α : Type} (oc : OCod α) : OArg α := ⟨fun K R M H l k vs x => ∃ v, vs = [v] ∧ oc.own K R M H [] v x, fun K R R' _ _ _ _ _ _ vs x s t ⟨v, e, h⟩ => ⟨v, e, oc.mono _ _ _ _ _ _ _ _ _ _ s t h⟩, 1, fun _ _ _ _ _ _ _ _ ⟨_, e, _⟩ => by rw [e]; rfl⟩
def oJc {α β : Type} (oc : OCod α) (as : OArg β) : OArg (α × β) := ⟨fun K R M H l k vs x => ∃ v ws, vs = v :: ws ∧ oc.own K R M H [] v x.1 ∧ as.own K R M H l (k + 1) ws x.2, fun K R R' _ _ _ _ _ _ vs x s t ⟨v, ws, e, h, h'⟩ => ⟨v, ws, e, oc.mono _ _ _ _ _ _ _ _ _ _ s t h, as.mono _ _ _ _ _ _ _ _ _ _ _ s t h'⟩, as.n + 1,
  fun _ _ _ _ _ _ _ _ ⟨_, _, e, _, h⟩ => by rw [e, List.length_cons, as.len _ _ _ _ _ _ _ _ h]⟩
def ValA {α : Type} (as : OArg α) : Prop := ∀ K R M M' H l k vs x, as.own K R M H l k vs x → as.own K R M' H l k vs x
theorem va_v1 {α : Type} {c : Cod α} : ValA (oV1 c) := fun _ _ _ _ _ _ _ _ _ h => h
theorem va_vc {α β : Type} {c : Cod α} {as : OArg β} (h : ValA as) : ValA (oVc c as) := fun K R M M' H l k vs x ⟨v, ws, e, q, q'⟩ => ⟨v, ws, e, q, h _ _ _ _ _ _ _ _ _ q'⟩
def OSpl {β : Type} (as asj : OArg β) (m : Nat) : Prop := ∀ K R M H l k vs x, as.own K R M H l k vs x → asj.own K R (fun a => (M a).bind (cutP (0 :: (k + m) :: l))) H l k vs x
theorem os_o1 {α : Type} {oc : OCod α} (un : UnO oc) : OSpl (oO1 oc) (oJ1 oc) 0 := fun K R M H l k vs x ⟨v, e, q⟩ => ⟨v, e, un K R M H [] (0 :: k :: l) v x q⟩
theorem os_oc {α β : Type} {oc : OCod α} {as : OArg β} (un : UnO oc) (va : ValA as) : OSpl (oOc oc as) (oJc oc as) 0 := fun K R M H l k vs x ⟨v, ws, e, q, q'⟩ => ⟨v, ws, e, un K R M H [] (0 :: k :: l) v x.1 q, va _ _ _ _ _ _ _ _ _ q'⟩
theorem os_vc {α β : Type} {c : Cod α} {as asj : OArg β} {m : Nat} (h : OSpl as asj m) : OSpl (oVc c as) (oVc c asj) (m + 1) := fun K R M H l k vs x ⟨v, ws, e, q, q'⟩ => ⟨v, ws, e, q, by
  have := h K R M H l (k + 1) ws x.2 q'
  rwa [show k + 1 + m = k + (m + 1) by omega] at this⟩
structure OPut (G0 : Ctx) {β : Type} (as : OArg β) (js : List Nat) (j : Nat) (G1 : Ctx) (op : CT G0 → β → CT G1) : Prop where
  ok : ∀ (K : Frag) (c : CT G0) (x : β) (vs : List V) (L : Lab) (H : Hp) (o : St) (l : List Nat) (k : Nat), CR K 0 G0 c L H o → as.own K (rd L H) (sub L (j + 1)) H l k vs x → vs.length = js.length ∧ CR K 0 G1 (op c x) L H (setAll o js vs)
theorem op_v1 {G0 G1 : Ctx} {α : Type} {c : Cod α} {i j : Nat} {put : CT G0 → α → CT G1} (u : Upd G0 i (sVal c) G1 put) : OPut G0 (oV1 c) [i] j G1 put := ⟨fun K c x vs L H o l k cr ⟨v, e, h⟩ => by
  subst e
  have := u.ok _ 0 _ x v _ _ _ cr ⟨v, rfl, h⟩
  rw [Nat.zero_add] at this
  exact ⟨rfl, this⟩⟩
theorem op_j1 {G0 G1 : Ctx} {α : Type} {oc : OCod α} {j : Nat} {put : CT G0 → α → CT G1} (u : Upd G0 j (sOwn PAny oc) G1 put) : OPut G0 (oJ1 oc) [j] j G1 put := ⟨fun K c x vs L H o l k cr ⟨v, e, h⟩ => by
  subst e
  have := u.ok K 0 c x v _ _ _ cr ⟨v, trivial, rfl, by rw [Nat.zero_add]; exact h⟩
  rw [Nat.zero_add] at this
  exact ⟨rfl, this⟩⟩
theorem op_vc {G0 Ga G1 : Ctx} {α β : Type} {c : Cod α} {as : OArg β} {i j : Nat} {js : List Nat} {put : CT G0 → α → CT Ga} {put2 : CT Ga → β → CT G1} (u : Upd G0 i (sVal c) Ga put) (h : OPut Ga as js j G1 put2) : OPut G0 (oVc c as) (i :: js) j G1 (fun p x => put2 (put p x.1) x.2) := ⟨fun K p x vs L H o l k cr ⟨v, ws, e, q, q'⟩ => by
  subst e
  have := u.ok _ 0 _ x.1 v _ _ _ cr ⟨v, rfl, q⟩
  rw [Nat.zero_add] at this
  obtain ⟨h1, h2⟩ := h.ok _ _ x.2 ws _ _ _ _ _ this q'
  exact ⟨by rw [List.length_cons, List.length_cons, h1], h2⟩⟩
theorem op_jc {G0 Ga G1 : Ctx} {α β : Type} {oc : OCod α} {as : OArg β} {j : Nat} {js : List Nat} {put : CT G0 → α → CT Ga} {put2 : CT Ga → β → CT G1} (u : Upd G0 j (sOwn PAny oc) Ga put) (h : OPut Ga as js j G1 put2) : OPut G0 (oJc oc as) (j :: js) j G1 (fun p x => put2 (put p x.1) x.2) := ⟨fun K p x vs L H o l k cr ⟨v, ws, e, q, q'⟩ => by
  subst e
  have := u.ok K 0 p x.1 v _ _ _ cr ⟨v, trivial, rfl, by rw [Nat.zero_add]; exact q⟩
  rw [Nat.zero_add] at this
  obtain ⟨h1, h2⟩ := h.ok _ _ x.2 ws _ _ _ _ _ this q'
  exact ⟨by rw [List.length_cons, List.length_cons, h1], h2⟩⟩
section
variable {A : Amb} {G G' G0 G1 G2 : Ctx} {ρ : Type} {R : Rr ρ}
theorem sx_forOT {α β δ : Type} {oc : OCod α} {as asj : OArg β} {ocj : OCod δ} {P : V → Prop} {i j m : Nat} {js : List Nat} {es : List Expr} {kk : Nat} {px pos : Pos} {iter : Expr} {body : List Stmt} {g : CT G → α} {f : CT G → Res ((List β × (List β → α)) × CT G)} {lo0 : CT G → CT G0} {op : CT G0 → β → CT G1} {fb : CT G1 → Res (Out (CT G2) ρ)} {back : CT G2 → CT G1} {gj : CT G1 → δ} {gd : β → δ} {pd : β → δ → β} {lo1 : CT G1 → CT G0} {put : CT G0 → α → CT G}
    (lo : LocO (oT as)) (sh : ShO ocj) (pj : OPj as m ocj gd pd) (spl : OSpl as asj m) (nd : js.Nodup) (hm : js[m]? = some j) (hij : i ∉ js) (a : At G i (sOwn P oc) g) (pl : PX A G i oc (oLL (oT as)) iter f) (f0 : FrgC (i :: js) 0 G G0 lo0) (an : AnyAt (i :: js) 0 G0) (u : OPut G0 asj js j G1 op) (hS : ∀ k, k ∈ js → A.S k) (nm : PGs A.X es (gAll js)) (hn : (assignEach es A.X.env).length = js.length) (hst : (assignEach es A.X.env).findIdx? (·.1) = none)
    (hb : BX (A.keep [i, j]) G1 body G2 R fb) (sb : SubC G2 G1 back) (aj : At G1 j (sOwn PAny ocj) gj) (f1 : FrgC [j] 0 G1 G0 lo1) (ur : UpR G0 i (sOwn P oc) G put) (hs : ∀ x, foldedSetIterable iter A.X.env x = pure x := by intro _; rfl) :
    SX A G (.For (.Tuple es kk px) iter body [] pos) G R (fun p => Res.bind (f p) fun y => Res.bind (forO (fun b c => Res.bind (fb (op c b)) fun z => .ok (z.map fun q => (pd b (gj (back q)), lo1 (back q)))) y.1.1 (lo0 y.2)) fun w => .ok (w.map fun u => put u.2 (y.1.2 u.1))) := by
  have hji : j ∈ js := List.mem_of_getElem? hm
  have hne : i ≠ j := fun e => hij (e ▸ hji)
  refine ps_weak (ps_for A.hp A.calm (pi_list pl) (nm_tup nm hn hst) hb hs) fun D o H ⟨p, L, w, cr, k⟩ => ⟨p, L, w, cr, k.bind.imp fun y _ q v' L' H' s w' c' ⟨π, v, hπ, ev, pc⟩ => ?_⟩
  obtain ⟨v9, hP, ev9, _⟩ := a.ok _ _ _ _ _ _ c'
  rw [Nat.zero_add, ev] at ev9
  cases ev9
  obtain ⟨⟨q0, vs, e0, hm0, hp, hl, hn0, hin⟩, _⟩ := pc
  subst e0
  rename_i up
  refine ⟨q0, rfl, ⟨vs, SqL.of hp⟩, ?_⟩
  generalize hF : (fun (b : β) (c : CT G0) => Res.bind (fb (op c b)) fun z => Res.ok (z.map fun q => (pd b (gj (back q)), lo1 (back q)))) = F at q
  have pc : Plc oc (oLL (oT as)) A.X.K (rd L' H') (sub L' (i + 1)) H' v π (.ref q0) y.1.1 y.1.2 := ⟨⟨q0, vs, rfl, hm0, hp, hl, hn0, hin⟩, up⟩
  refine for_it (walk_list (K := A.X.K) (a := q0) (xs := vs)) (fun n o1 H1 => ∃ (c : CT G0) (L1 : Lab) (ys1 : List β), Wf L1 H1 ∧ CR A.X.K 0 G0 c L1 H1 o1 ∧ Stp L' H' L1 H1 ∧ Keeps A.S o o1 ∧ o1[i]? = some (some v) ∧ H1 q0 = some (.lst vs) ∧ Plc oc (oLL (oT as)) A.X.K (rd L1 H1) (sub L1 (i + 1)) H1 v π (.ref q0) ys1 y.1.2 ∧ ys1.length = y.1.1.length ∧ ys1.drop n = y.1.1.drop n ∧
      Good A (Res.bind (forO F (ys1.drop n) c) fun w => Res.ok (w.map fun u => put u.2 (y.1.2 (ys1.take n ++ u.1)))) L H o (nxP A G R L H o D)) ?_ ?_ ?_ ?_
  · refine ⟨lo0 y.2, L', y.1.1, w', f0.ok _ _ _ _ _ _ _ (fun _ _ q => q) (fun _ _ _ _ _ _ => ⟨rfl, rfl⟩) c', Stp.refl, Keeps.refl, ev, hp, pc, rfl, rfl, ?_⟩
    rw [List.drop_zero, List.take_zero]
    exact q
  · rintro n o1 H1 _ ⟨c, L1, ys1, w1, c1, s1, k1, e1, hq, _⟩
    exact SqL.of hq
  · rintro n v1 o1 H1 H2 hlt ⟨c, L1, ys1, w1, c1, s1, k1, ei, hq, p1, hlen, hdrop, g1⟩ ⟨e3, hv⟩
    have e3 := e3.symm
    subst e3
    have p1' := p1
    obtain ⟨⟨q', vs', e', hm1, hp1, hl1, hn1, hin1⟩, up1⟩ := p1
    cases e'
    rw [hq] at hp1
    cases hp1
    have hny : n < ys1.length := by omega
    obtain ⟨y1, hy1⟩ : ∃ y1, ys1[n]? = some y1 := ⟨_, List.getElem?_eq_getElem hny⟩
    have hd : ys1.drop n = y1 :: ys1.drop (n + 1) := by
      obtain ⟨h1, h2⟩ := List.getElem?_eq_some_iff.mp hy1
      rw [List.drop_eq_getElem_cons h1, h2]
    rw [hd] at g1
    obtain ⟨a1, us, ea1, hs1, own1⟩ := hin1 n v1 y1 hv hy1
    subst ea1
    obtain ⟨vm, hvm, ownm, upm⟩ := pj.ok _ _ _ _ _ _ _ _ own1
    rw [Nat.zero_add] at ownm upm
    have ownj := spl _ _ _ _ _ _ _ _ own1
    rw [Nat.zero_add] at ownj
    -- the item's part is taken over
    let cs : List (Nat × List Nat) := [(j, 0 :: m :: 0 :: n :: π)]
    have hcs : ∀ c, c ∈ cs → insL c.2 = false := fun c hc => by
      have hc : c = (j, 0 :: m :: 0 :: n :: π) := List.mem_singleton.mp hc
      subst hc; rfl
    have hfind : ∀ t, findC cs (t ++ (0 :: m :: 0 :: n :: π)) = some (j + 1, t) := fun t => by
      simp [findC, cs, cut_app]
    have hjs : ∀ k, k ∉ cs.map (·.1) ↔ k ≠ j := fun k => by
      show k ∉ [j] ↔ _
      simp
    have wo := wf_open (i := i) (cs := cs) hcs w1
    have io : asj.own A.X.K (rd (openL i cs L1) H1) (sub (openL i cs L1) (j + 1)) H1 (0 :: n :: π) 0 us y1 := by
      refine asj.mono _ _ _ _ _ _ _ _ _ _ _ (by rw [rd_open]; exact fun _ _ q => q) (fun b mm em => ⟨?_, rfl⟩) ownj
      have em : (sub L1 (i + 1) b).bind (cutP (0 :: m :: 0 :: n :: π)) = some mm := em
      cases eb : sub L1 (i + 1) b with
      | none => rw [eb] at em; cases em
      | some m' =>
        rw [eb] at em
        have := cut_of (show cutP (0 :: m :: 0 :: n :: π) m' = some mm from em)
        exact sub_open (c := (j, 0 :: m :: 0 :: n :: π)) hfind (by rw [eb, this])
    have co : CR A.X.K 0 G0 c (openL i cs L1) H1 o1 := an.ok _ _ _ _ _ _ _ (by rw [rd_open]; exact fun _ _ q => q) (fun b k l _ hk e => ⟨open_keep e (fun z => hk (by rw [z]; exact List.mem_cons_self)) ((hjs k).mpr fun z => hk (by rw [z]; exact List.mem_cons_of_mem _ hji)), rfl⟩) c1
    obtain ⟨hul, cj⟩ := u.ok _ _ y1 us _ _ _ _ _ co io
    have hjl : j < o1.length := by
      obtain ⟨va, _, ea, _⟩ := aj.ok _ _ _ _ _ _ cj
      rw [Nat.zero_add] at ea
      have := (List.getElem?_eq_some_iff.mp ea).1
      rwa [setAll_len] at this
    have ej : (setAll o1 js us)[j]? = some (some vm) := setAll_at nd hm hvm hjl
    have st : Stp L H (openL i cs L1) H1 := (s.trans s1).trans stp_open
    have kst : Keeps A.S o (setAll o1 js us) := k1.trans (keeps_setAll hS)
    have eF : F y1 c = Res.bind (fb (op c y1)) fun z => Res.ok (z.map fun q => (pd y1 (gj (back q)), lo1 (back q))) := by rw [← hF]
    have g2 : Good A (Res.bind (Res.bind (F y1 c) (Out.seq fun z => Res.bind (forO F (ys1.drop (n + 1)) z.2) fun w => .ok (w.map fun u => (z.1 :: u.1, u.2)))) fun w => Res.ok (w.map fun u => put u.2 (y.1.2 (ys1.take n ++ u.1)))) L H o (nxP A G R L H o D) := g1
    rw [eF] at g2
    refine ⟨a1, us, rfl, (hs1.same rd_sub).sq, hul, hul, op c y1, openL i cs L1, wo, cj, good_keep ?_⟩
    cases e : fb (op c y1) with
    | bad => rw [e] at g2; exact g2.elim
    | exc ex => rw [e] at g2; exact Amb.raises.mono st kst.at_ g2
    | ok z =>
      rw [e] at g2
      cases z with
      | rt r =>
        intro vr L3 H3 s3 w3 rl
        exact (show nxP A G R L H o D (.rt r) from g2) vr L3 H3 (st.trans s3) w3 (R.pre _ _ _ _ _ _ _ _ _ st rl)
      | nx q3 =>
        intro o3 L3 H3 s3 w3 c3 k3
        obtain ⟨L4, h41, h42⟩ := sb.ok _ _ _ _ _ _ w3 c3
        have s4 : Stp (openL i cs L1) H1 L4 H3 := s3.trans (stp_of_frz h41)
        have w4 := wf_of_frz w3 h41
        have w5 := wf_shut w1 w4 s4
        have s5 := stp_shut w1 s4
        obtain ⟨kk, kj⟩ := keeps_keep k3
        obtain ⟨v2, _, e2, o2⟩ := aj.ok _ _ _ _ _ _ h42
        rw [Nat.zero_add] at e2 o2
        rw [kj j (by simp), ej] at e2
        cases e2
        have ei3 : o3[i]? = some (some v) := by rw [kj i (by simp), setAll_ne hij]; exact ei
        have hno : ∀ mm, ¬ ((0 :: m :: 0 :: n :: π) <:+ mm) → findC cs mm = none := fun mm hmm => findC_none fun c hc => by
          have hc : c = (j, 0 :: m :: 0 :: n :: π) := List.mem_singleton.mp hc
          subst hc; exact hmm
        have hq5 := sub_hid w1 s4 hm1 (hno π fun z => suf_ne (suf_item z))
        have hq3 : H3 q0 = some (.lst vs) := hq5.2.trans hq
        refine ⟨lo1 (back q3), shutL i cs L1 L4, ys1.set n (pd y1 (gj (back q3))), w5, f1.ok _ _ _ _ _ _ _ (rd_shut w1 s4) (fun b k l _ hk eb => ⟨shut_keep w1 s4 eb ((hjs k).mpr fun z => hk (by rw [z]; simp)), rfl⟩) h42, s1.trans s5, (k1.trans (keeps_setAll hS)).trans kk, ei3, hq3, ⟨⟨q0, vs, rfl, hq5.1, hq3, hl1, by rw [List.length_set]; exact hn1, fun i' u' x' h1 h2 => ?_⟩, fun R2 M2 H2' y2 sm2 t2 q2 => ?_⟩, by rw [List.length_set]; exact hlen, ?_, ?_⟩
        · by_cases ei' : i' = n
          · subst ei'
            rw [hv] at h1; cases h1
            rw [List.getElem?_set_self hny] at h2; cases h2
            refine ⟨a1, us, rfl, hs1.same s5.rd, upm _ _ _ _ s5.rd (fun b mm hmm em => sub_hid w1 s4 em (hno mm hmm)) ?_⟩
            have z := sh _ _ _ _ _ _ _ (0 :: m :: 0 :: i' :: π) o2
            exact ocj.mono _ _ _ _ _ _ _ _ _ _ (rd_shut w1 s4) (fun b mm em => by
              have em : (sub L4 (j + 1) b).map (· ++ (0 :: m :: 0 :: i' :: π)) = some mm := em
              cases eb : sub L4 (j + 1) b with
              | none => rw [eb] at em; cases em
              | some m' =>
                rw [eb] at em
                have em : some (m' ++ (0 :: m :: 0 :: i' :: π)) = some mm := em
                cases em
                exact ⟨sub_shut (c := (j, 0 :: m :: 0 :: i' :: π)) w1 s4 (by simp [cs]) eb, rfl⟩) z
          · rw [List.getElem?_set_ne (fun e => ei' e.symm)] at h2
            exact lo _ _ _ _ _ _ _ _ _ _ s5.rd (fun b mm hz em => sub_hid w1 s4 em (hno mm fun z => ei' (suf_two hz (suf_item z)))) (hin1 i' u' x' h1 h2)
        · exact up1 R2 M2 H2' y2 (fun b o z => sm2 b o (s5.rd b o z)) (fun b mm hm' em => by
            obtain ⟨z1, z2⟩ := sub_hid w1 s4 em (hno mm fun z => hm' (suf_item (suf_item z)))
            obtain ⟨z3, z4⟩ := t2 b mm hm' z1
            exact ⟨z3, z4.trans z2⟩) q2
        · rw [List.drop_set_of_lt (by omega)]
          have : ys1.drop (n + 1) = (ys1.drop n).drop 1 := by rw [List.drop_drop]
          rw [this, hdrop, List.drop_drop]
        · rw [List.drop_set_of_lt (by omega)]
          have et : (ys1.set n (pd y1 (gj (back q3)))).take (n + 1) = ys1.take n ++ [pd y1 (gj (back q3))] := by
            rw [List.take_add_one, List.take_set_of_le (by omega), List.getElem?_set_self hny]; rfl
          rw [et]
          have g3 : Good A (Res.bind (Res.bind (forO F (ys1.drop (n + 1)) (lo1 (back q3))) fun w => .ok (w.map fun u => (pd y1 (gj (back q3)) :: u.1, u.2))) fun w => Res.ok (w.map fun u => put u.2 (y.1.2 (ys1.take n ++ u.1)))) L H o (nxP A G R L H o D) := g2
          rw [Res.bind_assoc] at g3
          refine cast (congrArg (fun m => Good A m L H o (nxP A G R L H o D)) ?_) g3
          congr 1
          funext w
          cases w with
          | nx u => simp [Out.map, Res.bind_ok]
          | rt r => rfl
  · rintro o1 H1 ⟨c, L1, ys1, w1, c1, s1, k1, ei, hq, p1, hlen, hdrop, g1⟩
    have e : ys1.drop vs.length = [] := List.drop_eq_nil_of_le (by omega)
    rw [e] at g1
    have et : ys1.take vs.length = ys1 := List.take_of_length_le (by omega)
    rw [et] at g1
    have g2 : nxP A G R L H o D (.nx (put c (y.1.2 (ys1 ++ [])))) := g1
    rw [List.append_nil] at g2
    refine g2 o1 L1 H1 (s.trans s1) w1 (ur.ok _ _ _ _ _ _ _ c1 ⟨v, hP, by rw [Nat.zero_add]; exact ei, ?_⟩) k1
    rw [Nat.zero_add]
    exact p1.2 _ _ _ ys1 (fun _ _ q => q) (fun _ _ _ em => ⟨em, rfl⟩) p1.1
end
section
variable {A : Amb} {G G' G1 G2 : Ctx} {ρ : Type} {R : Rr ρ} {S T S2 T2 : List Nat} {to : CT G → CT G1} {bk : CT G → CT G1 → CT G} {to2 : CT G → CT G2} {bk2 : CT G → CT G2 → CT G}
theorem ex_plApp0 {α δ : Type} {oc : OCod α} {oc1 : OCod δ} {P : V → Prop} {i : Nat} {g : CT G → α} {put : CT G → α → CT G} {ap cp : Pos} {ob e : Expr} {f : CT G → Res ((List δ × (List δ → α)) × CT G)} {fa : CT G1 → Res (δ × CT G1)} (lo : LocO oc1) (sh : ShO oc1)
    (a : At G i (sOwn P oc) g) (m : Mod G i (sOwn P oc) put) (pl : PX A G i oc (oLL oc1) ob f) (ln : LendC [] T 0 G G1 to bk) (hi : i ∈ ([] : List Nat) ∨ i ∈ T) (ha : EX A G1 e (rO oc1) fa)
    (hbase : attributeBase ob "append" A.X.env (eval ob A.X.env) = eval ob A.X.env := by rfl)
    (hfew : ((backTo cp (starEach [e] A.X.env)).all (fun x => !x.1) && (backToKw cp (keywordEach [] A.X.env)).all (fun x => x.1.isSome) && decide ([e].length + ([] : List Keyword).length + (if ([] : List Keyword).isEmpty then 0 else 1) < 30)) = true := by rfl)
    (hline : (ap.endLine == cp.line) = true := by rfl) (hs : starEach [e] A.X.env = (false, eval e A.X.env) :: starEach [] A.X.env := by rfl) (hplain : (backTo cp (starEach [] A.X.env)).any (·.1) = false := by rfl) :
    EX A G (.Call (.Attribute ob "append" ap) [e] [] cp) (rV cN) (fun p => Res.bind (f p) fun y => Res.bind (fa (to y.2)) fun z => Res.bind (ofO (appO y.1.1 z.1)) fun w => .ok (w.1, put (bk y.2 z.2) (y.1.2 w.2))) := by
  refine pe_weak (pe_bm PySem.F.plainAttrs_list PySem.F.slot_list_append (by rfl) mt_append pl (pa_cons ha pa_nil hs) hbase hfew hline hs hplain) fun o H Q ⟨p, L, w, cr, kk⟩ => ⟨p, L, w, cr, kk.bind.imp fun y _ gy v' L1 H1 s1 w1 c1 ⟨π, v, _, ev, pc⟩ => ⟨?_, to y.2, lendL [] T L1, wf_lendL w1, ln.to_ok _ _ _ _ _ w1 c1, (Good.lend w1 (gy.step s1).bind).imp fun z _ gz va L2 H2 s2 w2 c2 h2 => ?_⟩⟩
  · obtain ⟨q, vs, e', hm, hp, _⟩ := pc.1
    subst e'
    exact .inl ⟨rfl, _, SqL.of hp⟩
  · obtain ⟨u, eu, gu⟩ := good_ofO gz
    have pl2 := plc_lent hi w1 s2 pc
    have w3 := wf_backL w1 w2 s2
    have c3 := ln.bk_ok _ _ _ _ _ _ _ _ w1 s2 c1 c2
    have st := stp_backL w1 s2
    have h3 := rh_0 w1 s2 h2
    obtain ⟨q, vs, e', hm, hp, hl, hn, hin⟩ := pl2.1
    subst e'
    unfold appO at eu
    have hz := line_eq
    split at eu
    · rename_i hc
      cases eu
      obtain ⟨v1, hP, ev1, _⟩ := a.ok _ _ _ _ _ _ c3
      rw [Nat.zero_add, ev] at ev1
      cases ev1
      refine ⟨q, vs, va, rfl, rfl, hp, by omega, ?_⟩
      obtain ⟨L4, t1, t2, t3⟩ := plc_grow (n := vs.length) (new := .lst (vs ++ [va])) (y' := y.1.1 ++ [z.1]) m w3 st c3 hP ev pl2 hm trivial sh h3 fun L4 k4 sm o4 => ⟨q, vs ++ [va], rfl, k4 q _ hm, upd_same, by rw [List.length_append, List.length_singleton]; omega, by rw [List.length_append, List.length_append, hn]; rfl, fun i' u x e1 e2 => by
        by_cases ei : i' < vs.length
        · rw [List.getElem?_append_left ei] at e1
          rw [List.getElem?_append_left (by omega)] at e2
          exact lo _ _ _ _ _ _ _ _ _ _ sm (fun a m z em => ⟨k4 a m em, upd_ne fun e => by
            rw [e, hm] at em; cases em
            exact suf_ne z⟩) (hin i' u x e1 e2)
        · by_cases e3 : i' = vs.length
          · subst e3
            rw [List.getElem?_append_right (Nat.le_refl _), Nat.sub_self] at e1
            rw [hn, List.getElem?_append_right (Nat.le_refl _), Nat.sub_self] at e2
            have e1 : some va = some u := e1
            have e2 : some z.1 = some x := e2
            cases e1; cases e2
            exact o4
          · rw [List.getElem?_eq_none (by rw [List.length_append, List.length_singleton]; omega)] at e1; cases e1⟩
      exact gu .non L4 _ (s1.trans t1) t2 t3 rfl
    · cases eu

/-! ### storing at a place -/
end
end AC
set_option Elab.async false
set_option linter.all false
set_option maxRecDepth 100000
/-! TL34: sorted. -/
namespace L2
open PySem PySem.Spec PySem.W PyProof.Rows
section
variable {X : Cx}
theorem vals_each {β : Type} {R : V → β → Prop} : ∀ {xs : List V} {its : List Value} {bs : List β}, Vals xs its → Paired R xs bs → EachIs (fun u b => ∃ x, RelV x u ∧ R x b) its bs
  | [], _, _, rv, hp => by cases rv; cases hp; exact .nil
  | x :: xs, _, _, rv, hp => by
    cases rv with
    | cons r1 r2 =>
      cases hp with
      | cons h1 h2 => exact .cons ⟨x, r1, h1⟩ (vals_each r2 h2)
theorem each_vals {β : Type} {R : V → β → Prop} : ∀ {its : List Value} {bs : List β}, EachIs (fun u b => ∃ x, RelV x u ∧ R x b) its bs → ∃ xs, Vals xs its ∧ Paired R xs bs
  | _, _, .nil => ⟨[], .nil, .nil⟩
  | _, _, .cons ⟨x, r, h⟩ t => by
    obtain ⟨xs, h1, h2⟩ := each_vals t
    exact ⟨x :: xs, .cons r h1, .cons h h2⟩
/-- sorted(xs), the items alike data -/
def rSortedA (X : Cx) {β : Type} (enc : β → PyData) : List V → Hp → VK → Prop := fun vs H Q => ∃ (a : Addr) (xs : List V) (bs : List β) (R : V → β → Prop), vs = [.ref a] ∧ SqL X.K H a xs ∧ Paired R xs bs ∧ (∀ x b, R x b → Dp X.K H x (enc b)) ∧ AllAlike (bs.map enc) ∧ Sortable (bs.map enc) ∧ (∀ b ∈ bs, X.A.units + 2 + (enc b).depth < cLine) ∧
  ∀ ys p, Paired R ys (bs.mergeSort (dataLe false enc)) → H p = none → Q (.ref p) (upd H p (.lst ys))
theorem cr_sortedA {β : Type} {enc : β → PyData} : CallR X (.builtin "sorted") (rSortedA X enc) := by
  intro pins s σ H vs us Q I r h
  obtain ⟨a, xs, bs, R, rfl, hs, hp, hd, hal, hk, hu, q⟩ := h
  obtain ⟨its, rv, hl, hz⟩ := I.list hs
  rw [Vals.ref1 r]
  have e := vals_each rv hp
  have lb : its.length = bs.length := e.length
  have er : EachIs (fun v b => ∃ as, Reads s.heap v (enc b) as) its bs := e.mono fun u b ⟨x, r1, r2⟩ => Dp.reads I _ _ _ (hd x b r2) r1
  refine sorted_data hl.isList e er hal hk (by rw [← lb, ← rv.length]; exact hz) hu fun out ho eo => ?_
  obtain ⟨ys, v1, v2⟩ := each_vals eo
  obtain ⟨ep, he'⟩ := PyProof.Rows.sortedAll_at s.heap its out.toArray
  have hlen : ys.length ≤ sizeLine := by rw [v1.length, ho, ← lb, ← rv.length]; exact hz
  exact ⟨.ref _, upd H (s.heap.objs.size + 1) (.lst ys), I.laid (t' := s.toks) (fun _ _ => PyProof.Rows.sortedAll_old) (Nat.le_succ _) ⟨hlen, out, ep, v1, he'⟩, rfl, q _ _ v2 (I.hok.fresh (Nat.le_succ _))⟩
end
end L2
namespace AC
open PySem L2 PyProof PySem.W
def tupB : PyData → Bool
  | .tuple (_ :: _) => true
  | _ => false
def othB : PyData → Bool
  | .none => false
  | .tuple _ => false
  | _ => true
def sortB (ds : List PyData) : Bool := (ds.all fun d => ds.all fun e => alike d e) && (ds.all tupB || ds.all othB)
theorem sortB_of {ds : List PyData} (h : sortB ds = true) : AllAlike ds ∧ Sortable ds := by
  unfold sortB at h
  rw [Bool.and_eq_true, Bool.or_eq_true] at h
  refine ⟨fun d hd e he => List.all_eq_true.mp (List.all_eq_true.mp h.1 d hd) e he, h.2.imp (fun q d hd => ?_) fun q d hd => ?_⟩
  · have := List.all_eq_true.mp q d hd
    cases d with
    | tuple xs =>
      cases xs with
      | nil => cases this
      | cons x r => exact ⟨x, r, rfl⟩
    | _ => cases this
  · have := List.all_eq_true.mp q d hd
    cases d with
    | none => cases this
    | tuple xs => cases this
    | _ => exact ⟨by simp, by simp⟩
/-- sorted as Python does -/
def srt {α : Type} (t : α → PyData) (xs : List α) : List α := xs.mergeSort (dataLe false t)
def sortO {α : Type} (t : α → PyData) (xs : List α) : Option (List α) := if sortB (xs.map t) = true then some (srt t xs) else none
theorem srt_len {α : Type} {t : α → PyData} {xs : List α} : (srt t xs).length = xs.length := List.length_mergeSort xs
section
variable {A : Amb}
theorem ct_sortedL {α : Type} {c : Cod α} {t : α → PyData} {n : Nat} (h : DC c t n) (hn : n ≤ 60) : CalT A (.builtin "sorted") (aOne (cL c)) (sortO t) (rO (oL c)) := ⟨_, cr_sortedA (enc := t), fun L H vs x z Q w ⟨v, e, a, ws, e1, h1, l1, p1⟩ h2 q => by
  subst e e1
  unfold sortO at h2
  split at h2
  · rename_i hb
    cases h2
    obtain ⟨b1, b2⟩ := sortB_of hb
    refine ⟨a, ws, x, fun v b => c.see A.X.K (rd L H) v b, rfl, SqL.of (rd_sub _ _ h1), p1, fun v b hv => dp_same rd_sub (h _ _ _ _ hv).1, b1, b2, fun b hb => ?_, fun ys p hp hH => ?_⟩
    · obtain ⟨i, hi⟩ := List.mem_iff_getElem?.mp hb
      obtain ⟨v, _, hv⟩ := paired_get p1 hi
      have := (h _ _ _ _ hv).2.2
      have := room65 (A := A)
      omega
    · obtain ⟨t1, t2⟩ := ext_new (o := .lst ys) w hH
      have hy : ys.length ≤ sizeLine := by
        rw [paired_len hp, List.length_mergeSort, ← paired_len p1]; exact l1
      exact q _ _ _ t1 t2 (own_new w hH hy hp)
  · cases h2⟩
end
end AC
set_option Elab.async false
set_option linter.all false
set_option maxRecDepth 100000
set_option maxHeartbeats 1000000
/-! TL35: sorted(d.items()), d with keys that are texts or ints. -/
namespace L2
open PySem PySem.Spec PySem.W PyProof.Rows
def kD : Key → PyData
  | .inl i => .int i
  | .inr s => .str s
theorem kD_reads {h : Heap} {k : Key} {u : Value} (r : RelV (kV k) u) : Reads h u (kD k) [] := by
  cases k with
  | inl i => obtain ⟨t, rfl⟩ := r; exact .int i t
  | inr x => obtain ⟨t, rfl⟩ := r; exact .str x t
theorem pairs_at {P : Program} {w : World} : ∀ {es : List DictEntry} {kvs : List (Key × Value)} {j : Nat} {e : DictEntry}, Pairs (mixKind P w) es kvs → es[j]? = some e → ∃ q, kvs[j]? = some q ∧ RelV (kV q.1) e.key ∧ e.val = q.2
  | _, _, j, e, .nil, h => by simp at h
  | _, _, 0, e, .cons h1 h2 _, h => by
    have h := Option.some.inj h
    subst h
    exact ⟨_, rfl, keyIs_rel h1, h2⟩
  | _, _, j + 1, e, .cons _ _ t, h => pairs_at (j := j) t (by simpa using h)
section
variable {X : Cx}
def rItemsK : V → List V → Hp → VK → Prop := fun x xs H Q => ∃ (a : Addr) (kvs : List (Key × V)), x = .ref a ∧ xs = [] ∧ Rd H a (.dK kvs) ∧ ∀ p, H p = none → Q (.ref p) (upd H p (DX.itemsO p a))
theorem mt_itemsK : MtR X "dict.items" rItemsK := by
  intro pins s σ H x xs v us Q I rx rxs h
  obtain ⟨a, kvs, rfl, rfl, ha, q⟩ := h
  cases rx
  cases rxs
  obtain ⟨z, hd, vs, rel, o, es, ep, ho, hx, hdat, _⟩ := dk_rd I.hok ha
  refine DT.callItems (es := es) (ep := ep) hd ⟨o, ho, hx, hdat⟩ ?_
  have hf : H s.heap.objs.size = none := I.hok.fresh (Nat.le_refl _)
  exact ⟨.ref s.heap.objs.size, upd H s.heap.objs.size (DX.itemsO s.heap.objs.size a), I.laid (t' := s.toks) (fun b u e => Heap.get?_push_of_some _ e) (Nat.le_refl _) (DX.itemsO_ok (Heap.get?_push_size _ rfl)), rfl, q _ hf⟩
def rSortItK (X : Cx) {β : Type} (enc : β → PyData) : List V → Hp → VK → Prop := fun vs H Q => ∃ (p a : Addr) (kvs : List (Key × V)) (bs : List β) (R : Key × V → β → Prop), vs = [.ref p] ∧ H p = some (DX.itemsO p a) ∧ Rd H a (.dK kvs) ∧ Paired R kvs bs ∧ (∀ e b, R e b → ∃ d, enc b = .tuple [kD e.1, d] ∧ Dp X.K H e.2 d) ∧ AllAlike (bs.map enc) ∧ Sortable (bs.map enc) ∧ (∀ b ∈ bs, X.A.units + 2 + (enc b).depth < cLine) ∧
  ∀ (H' : Hp) (l : Addr) (ys : List Addr), (∀ b o, H b = some o → H' b = some o) → H l = none → (∀ q ∈ ys, H q = none) → H' l = some (.lst (ys.map V.ref)) → Paired (fun q b => ∃ e, R e b ∧ H' q = some (.tup [kV e.1, e.2])) ys (bs.mergeSort (dataLe false enc)) → Q (.ref l) H'
theorem each_get {α β : Type} {R : α → β → Prop} : ∀ {l : List α} {m : List β}, l.length = m.length → (∀ (j : Nat) (x : α) (y : β), l[j]? = some x → m[j]? = some y → R x y) → EachIs R l m
  | [], [], _, _ => .nil
  | [], _ :: _, h, _ => by simp at h
  | _ :: _, [], h, _ => by simp at h
  | x :: l, y :: m, h, q => .cons (q 0 x y rfl rfl) (each_get (by simpa using h) fun j a b ha hb => q (j + 1) a b (by simpa using ha) (by simpa using hb))
theorem cr_sortedItK {β : Type} {enc : β → PyData} (hc : X.calm = true) : CallR X (.builtin "sorted") (rSortItK X enc) := by
  intro pins s σ H xs us Q I r h
  obtain ⟨p, a, kvs, bs, R, rfl, hp, ha, hR, hd, hal, hk, hu, q⟩ := h
  obtain rfl := Vals.ref1 r
  have view : s.heap.IsItemsView p a := (show ObjOk X.prog X.w H s.heap p (DX.itemsO p a) from I.hok p _ hp).1
  obtain ⟨z, hsm, vs, rel, o, es, ep, ho, hx, hdat, hkeys, hprs, nd⟩ := dk_rd I.hok ha
  have l1 : kvs.length = vs.length := Paired.length rel
  have l2 : es.size = vs.length := by have := hprs.length; rwa [Array.length_toList] at this
  have l3 : kvs.length = bs.length := Paired.length hR
  refine DT.sortedI (es := es) (ep := ep) (I.ok.hd hc) view ⟨o, ho, hx, hdat⟩ (by omega) fun h' tk as hkp hlt hl hG => ?_
  have hob : (h'.push { cls := .type "list", data := .seq (as.map Value.ref).toArray }).get? h'.objs.size = some (seqObj "list" (as.map Value.ref).toArray 0) := Heap.get?_push_size _ rfl
  have kb : ∀ b o, s.heap.get? b = some o → (h'.push { cls := .type "list", data := .seq (as.map Value.ref).toArray }).get? b = some o := fun b o e => Heap.get?_push_of_some _ (hkp b o e)
  have ne0 : ∀ b o, h'.get? b = some o → b ≠ h'.objs.size := fun b o e => Nat.ne_of_lt (Heap.lt_size e)
  have ka : ∀ b o, h'.get? b = some o → (h'.push { cls := .type "list", data := .seq (as.map Value.ref).toArray }).get? b = some o := fun b o e => Heap.get?_push_of_some _ e
  generalize hh2 : h'.push { cls := .type "list", data := .seq (as.map Value.ref).toArray } = h2 at hob kb ka ⊢
  have ndas : as.Nodup := List.Pairwise.imp (fun h => Nat.ne_of_lt h) hG.rise
  have lab : as.length = bs.length := by omega
  -- the pairs
  have pr : ∀ (j : Nat) (b : Addr) (x : β), as[j]? = some b → bs[j]? = some x → ∃ (e : Key × V) (u1 u2 : Value), R e x ∧ RelV (kV e.1) u1 ∧ RelV e.2 u2 ∧ h'.get? b = some { cls := .type "tuple", data := .seq #[u1, u2] } := by
    intro j b x hj hx'
    obtain ⟨en, he, hg⟩ := hG.pairs j b hj
    obtain ⟨qq, hq1, hq2, hq3⟩ := pairs_at (j := j) hprs (by rw [Array.getElem?_toList]; exact he)
    obtain ⟨e, he1, he2⟩ := AC.paired_get hR hx'
    obtain ⟨q2, hq4, hq5, hq6⟩ := AC.paired_getL rel he1
    rw [hq1] at hq4
    cases hq4
    exact ⟨e, en.key, en.val, he2, by rw [hq5]; exact hq2, by rw [hq3]; exact hq6, hg⟩
  have zm1 : (bs.zip as).map (·.1) = bs := List.map_fst_zip (by omega)
  have zm2 : (bs.zip as).map (·.2) = as := List.map_snd_zip (by omega)
  have e : EachIs (fun (u : Value) (z : β × Addr) => u = Value.ref z.2 ∧ ∃ j : Nat, as[j]? = some z.2 ∧ bs[j]? = some z.1) (as.map Value.ref) (bs.zip as) := each_get (by rw [List.length_map, List.length_zip]; omega) fun j u zz hj hz => by
    obtain ⟨hz1, hz2⟩ := List.getElem?_zip_eq_some.mp hz
    rw [List.getElem?_map, hz2] at hj
    exact ⟨(Option.some.inj hj).symm, j, hz2, hz1⟩
  have kS : ∀ b o, s.heap.get? b = some o → (sortingHeap h2 h'.objs.size (as.map Value.ref)).get? b = some o := fun b o q => sortingHeap_old (ne0 b o (hkp b o q)) (kb b o q)
  have kS2 : ∀ b o, h'.get? b = some o → (sortingHeap h2 h'.objs.size (as.map Value.ref)).get? b = some o := fun b o q => sortingHeap_old (ne0 b o q) (ka b o q)
  have er : EachIs (fun (v : Value) (z : β × Addr) => ∃ ws, Reads (sortingHeap h2 h'.objs.size (as.map Value.ref)) v (enc z.1) ws) (as.map Value.ref) (bs.zip as) := e.mono fun u zz ⟨eu, j, hj1, hj2⟩ => by
    obtain ⟨ek, u1, u2, hR1, r1, r2, hg⟩ := pr j zz.2 zz.1 hj1 hj2
    obtain ⟨d, hd1, hd2⟩ := hd ek zz.1 hR1
    obtain ⟨ws, hw⟩ := Dp.reads I d _ _ hd2 r2
    subst eu
    rw [hd1]
    exact ⟨_, .tuple (kS2 _ _ hg) rfl rfl (.cons (kD_reads r1) (.cons (PyProof.Rows.Reads.keeps (fun b o q => kS b o q) hw) .nil))⟩
  have hal' : AllAlike ((bs.zip as).map fun z : β × Addr => enc z.1) := by
    have : ((bs.zip as).map fun z : β × Addr => enc z.1) = bs.map enc := by
      rw [← zm1, List.map_map, zm1]; rfl
    rw [this]; exact hal
  have hk' : Sortable ((bs.zip as).map fun z : β × Addr => enc z.1) := by
    have : ((bs.zip as).map fun z : β × Addr => enc z.1) = bs.map enc := by
      rw [← zm1, List.map_map, zm1]; rfl
    rw [this]; exact hk
  have hu' : ∀ z ∈ bs.zip as, X.A.in1.units + 1 + (enc z.1).depth < cLine := fun zz hz => by
    have := hu zz.1 (by rw [← zm1]; exact List.mem_map.mpr ⟨zz, hz, rfl⟩)
    show X.A.units + 1 + 1 + _ < _
    omega
  refine wpAny_call_entry slot_list_sort ⟨_, hob, rfl⟩ entry_list_sort (list_sort_vals (κ := dataKind (sortingHeap h2 h'.objs.size (as.map Value.ref)) ((bs.zip as).map fun z : β × Addr => enc z.1)) (s := { s with heap := h2, toks := tk }) hob (SortsAt.data (s := { s with heap := sortingHeap h2 h'.objs.size (as.map Value.ref), toks := tk }) (each_map (R := fun v d => ∃ ws, Reads (sortingHeap h2 h'.objs.size (as.map Value.ref)) v d ws) (fun z : β × Addr => enc z.1) er) hal' hk' (bound_map hu')) (by rw [List.length_map]; omega) ⟨.none, rfl, ?_⟩) (args_list_sort _)
  have eo := sortVals_data (h' := sortingHeap h2 h'.objs.size (as.map Value.ref)) false e er hal'
  have lo := sortVals_length (κ := dataKind (sortingHeap h2 h'.objs.size (as.map Value.ref)) ((bs.zip as).map fun z : β × Addr => enc z.1)) (vs := as.map Value.ref) (ks := as.map Value.ref) false rfl
  generalize sortVals (dataKind (sortingHeap h2 h'.objs.size (as.map Value.ref)) ((bs.zip as).map fun z : β × Addr => enc z.1)) false (as.map Value.ref) (as.map Value.ref) = out at eo lo ⊢
  show EP X pins σ Q (.ref h'.objs.size) { s with heap := sortedHeap h2 h'.objs.size (as.map Value.ref) out.toArray, toks := tk }
  generalize hzs : (bs.zip as).mergeSort (dataLe false fun z : β × Addr => enc z.1) = zs at eo
  have pz : zs.Perm (bs.zip as) := by rw [← hzs]; exact List.mergeSort_perm _ _
  have ez : zs.map (·.1) = bs.mergeSort (dataLe false enc) := by
    rw [← hzs]
    have := List.map_mergeSort (r := dataLe false fun z : β × Addr => enc z.1) (s := dataLe false enc) (f := fun z : β × Addr => z.1) (l := bs.zip as) (fun _ _ _ _ => rfl)
    refine Eq.trans ?_ (Eq.trans this ?_)
    · rfl
    · rw [zm1]
  have p2 : (zs.map (·.2)).Perm as := by
    have := pz.map (·.2)
    rwa [zm2] at this
  have ndz : (zs.map (·.2)).Nodup := p2.nodup_iff.mpr ndas
  have hout : out = zs.map fun z => Value.ref z.2 := by
    clear hzs pz ez p2 ndz lo
    induction eo with
    | nil => rfl
    | cons h _ ih => rw [List.map_cons, ← ih, h.1]
  have hzi : ∀ z ∈ zs, ∃ j : Nat, as[j]? = some z.2 ∧ bs[j]? = some z.1 := fun zz hz => by
    obtain ⟨j, hj⟩ := List.mem_iff_getElem?.mp (pz.mem_iff.mp hz)
    obtain ⟨hz1, hz2⟩ := List.getElem?_zip_eq_some.mp hj
    exact ⟨j, hz2, hz1⟩
  have kF : ∀ b o, b ≠ h'.objs.size → h2.get? b = some o → (sortedHeap h2 h'.objs.size (as.map Value.ref) out.toArray).get? b = some o := fun b o hb e => (PyProof.Rows.sortedHeap_old hb (Heap.lt_size e)).trans e
  have kSo : ∀ b o, s.heap.get? b = some o → (sortedHeap h2 h'.objs.size (as.map Value.ref) out.toArray).get? b = some o := fun b o e => kF b o (ne0 _ _ (hkp b o e)) (kb b o e)
  obtain ⟨eF, heF⟩ := PyProof.Rows.sortedHeap_at (vs := as.map Value.ref) (out := out.toArray) hob
  have I1 : Inv X pins σ H { s with heap := sortedHeap h2 h'.objs.size (as.map Value.ref) out.toArray, toks := tk } := I.kept (t' := tk) kSo
  have hn0 : H h'.objs.size = none := I.hok.fresh (Nat.le_of_lt hlt)
  have hlz : zs.length = as.length := by
    have := p2.length_eq
    rwa [List.length_map] at this
  have hlen : ((zs.map (·.2)).map V.ref).length ≤ sizeLine := by
    rw [List.length_map, List.length_map]; omega
  have rv : Vals ((zs.map (·.2)).map V.ref) out.toArray.toList := by
    rw [List.toList_toArray, hout, List.map_map]
    exact vals_maps (fun z : β × Addr => V.ref z.2) (fun z => Value.ref z.2) zs fun _ _ => rfl
  have I2 : Inv X pins σ (upd H h'.objs.size (.lst ((zs.map (·.2)).map V.ref))) { s with heap := sortedHeap h2 h'.objs.size (as.map Value.ref) out.toArray, toks := tk } :=
    I1.take (h' := sortedHeap h2 h'.objs.size (as.map Value.ref) out.toArray) (t' := tk) (fun b ob _ e => e) (I.fpOk (Nat.le_of_lt hlt) hn0) ⟨hlen, out.toArray.toList, eF, rv, heF⟩
  obtain ⟨H2, I3, g, qt⟩ := DX.takeT (P := fun b us => ∃ z : β × Addr, z ∈ zs ∧ b = z.2 ∧ ∃ e, R e z.1 ∧ us = [kV e.1, e.2]) I (zs.map (·.2)) _ I2 ndz fun b hb => by
    obtain ⟨zz, hz, rfl⟩ := List.mem_map.mp hb
    obtain ⟨j, hj1, hj2⟩ := hzi zz hz
    obtain ⟨ek, u1, u2, hR1, r1, r2, hg⟩ := pr j zz.2 zz.1 hj1 hj2
    have hbl : s.heap.objs.size ≤ zz.2 := Nat.le_of_lt (hG.above zz.2 (List.mem_of_getElem? hj1))
    refine ⟨hbl, ?_, [kV ek.1, ek.2], ⟨zz, hz, rfl, ek, hR1, rfl⟩, fun H3 => ⟨(by rw [sizeLine_eq]; show 2 ≤ 16777216; omega), [u1, u2], .cons r1 (.cons r2 .nil), ⟨_, kF _ _ (ne0 _ _ hg) (ka _ _ hg), rfl, 0, rfl⟩⟩⟩
    rw [upd_ne (ne0 _ _ hg)]
    exact I.hok.fresh hbl
  have gr : ∀ b o, H b = some o → H2 b = some o := fun b o e => g b o (by rw [upd_ne fun z => by rw [z, hn0] at e; cases e]; exact e)
  refine ⟨.ref h'.objs.size, H2, I3, rfl, q H2 h'.objs.size (zs.map (·.2)) gr hn0 (fun b hb => ?_) (g _ _ upd_same) ?_⟩
  · have hb2 : b ∈ as := p2.mem_iff.mp hb
    exact I.hok.fresh (Nat.le_of_lt (hG.above b hb2))
  · rw [← ez]
    have key : ∀ l : List (β × Addr), (∀ z ∈ l, z ∈ zs) → Paired (fun q b => ∃ e, R e b ∧ H2 q = some (.tup [kV e.1, e.2])) (l.map (·.2)) (l.map (·.1)) := by
      intro l
      induction l with
      | nil => exact fun _ => .nil
      | cons zz l ih =>
        intro hl
        refine .cons ?_ (ih fun w hw => hl w (List.mem_cons_of_mem _ hw))
        have hz := hl zz List.mem_cons_self
        obtain ⟨us, ⟨z2, hz2, e2, ek, hR2, rfl⟩, hH⟩ := qt zz.2 (List.mem_map.mpr ⟨zz, hz, rfl⟩)
        have : z2 = zz := by
          obtain ⟨j, hj⟩ := List.mem_iff_getElem?.mp hz
          obtain ⟨k, hk⟩ := List.mem_iff_getElem?.mp hz2
          have h1 : (zs.map (·.2))[j]? = some zz.2 := by rw [List.getElem?_map, hj]; rfl
          have h2 : (zs.map (·.2))[k]? = some zz.2 := by rw [List.getElem?_map, hk, e2]; rfl
          have : j = k := (List.getElem?_inj (List.getElem?_eq_some_iff.mp h1).1 ndz).mp (h1.trans h2.symm)
          subst this
          exact Option.some.inj (hk.symm.trans hj)
        subst this
        exact ⟨ek, hR2, hH⟩
    exact key zs fun _ h => h
end
end L2
set_option Elab.async false
set_option linter.all false
set_option maxRecDepth 100000
set_option maxHeartbeats 1000000
/-! TL36: dicts: sorted, items, dict(pairs), get with a default. -/
namespace L2
open PySem PySem.Spec PySem.W PyProof.Rows
section
variable {X : Cx}
/-- sorted(d): the keys -/
def rSortKs (X : Cx) : List V → Hp → VK → Prop := fun vs H Q => ∃ (a : Addr) (kvs : List (Key × V)), vs = [.ref a] ∧ Rd H a (.dK kvs) ∧ AllAlike ((kvs.map (·.1)).map kD) ∧ Sortable ((kvs.map (·.1)).map kD) ∧
  ∀ p, H p = none → Q (.ref p) (upd H p (.lst (((kvs.map (·.1)).mergeSort (dataLe false kD)).map kV)))
theorem kD_depth (k : Key) : (kD k).depth = 0 := by cases k <;> simp [kD, PyData.depth]
theorem cr_sortedKs (hc : X.calm = true) (hu : X.A.units + 2 < cLine) : CallR X (.builtin "sorted") (rSortKs X) := by
  intro pins s σ H xs us Q I r q
  obtain ⟨a, kvs, ex, hd, hal, hk, q⟩ := q
  subst ex
  obtain ⟨u, eu, rx⟩ := vals1 r
  subst eu
  cases rx
  obtain ⟨z, lo, vs, rel, dd⟩ := dk_rd I.hok hd
  obtain ⟨ep, hat⟩ := dd.dictAt
  have hkeys : vs.map (·.1) = kvs.map (·.1) := rel.keys.symm
  have hl : vs.length = kvs.length := by
    have e := congrArg List.length hkeys
    rwa [List.length_map, List.length_map] at e
  have h16 : vs.length ≤ sizeLine := by omega
  refine Calls.call_function_entry PyProof.Rows.kind_sorted PyProof.Rows.plain_sorted PyProof.Rows.entry_sorted (PyProof.Rows.args_sorted1 _) ?_
  unfold Builtin.«sorted»
  refine wpAny_bind (m := checkCount "sorted" 1 1 _) (wpAny_pure ?_)
  refine wpAny_bind (PySem.W.kdu_collect (A := X.A.in1) (PySem.W.kdl_dict (knd := mixKind X.prog X.w) (kvs := vs) (ep := ep) lo) (I.ok.hd hc) hat h16 fun h' tk acc hkp hacc => ?_)
  have hal' : acc.toList.length = vs.length := by rw [Array.length_toList, hacc.1]
  have hv : Vals (vs.map fun p => kV p.1) acc.toList := keys_at hal' fun j v e => hacc.2 j v (by rw [← Array.getElem?_toList]; exact e)
  have I1 : Inv X pins σ H { s with heap := h', toks := tk } := I.kept hkp
  refine wpAny_bind (wpAny_newList ?_ (by rw [hal']; exact h16))
  have hoL : (h'.push (seqObj "list" acc.toList.toArray 0)).get? h'.objs.size = some (seqObj "list" acc.toList.toArray 0) := Heap.get?_push_size _ rfl
  show wpAny _ _ _ _ _ { s with heap := h'.push (seqObj "list" acc.toList.toArray 0), toks := tk }
  have e : EachIs (fun u (k : Key) => RelV (kV k) u) acc.toList (kvs.map (·.1)) := by
    rw [← hkeys]
    have : ∀ {ws : List (Key × Value)} {l : List Value}, Vals (ws.map fun p => kV p.1) l → EachIs (fun u (k : Key) => RelV (kV k) u) l (ws.map (·.1)) := by
      intro ws
      induction ws with
      | nil => intro l h; cases h; exact .nil
      | cons w ws ih =>
        intro l h
        cases h with
        | cons h1 h2 => exact .cons h1 (ih h2)
    exact this hv
  have er : EachIs (fun v (k : Key) => ∃ ws, Reads (h'.push (seqObj "list" acc.toList.toArray 0)) v (kD k) ws ∧ h'.objs.size ∉ ws) acc.toList (kvs.map (·.1)) := e.mono fun u k r => ⟨[], kD_reads r, by simp⟩
  refine wpAny_bind (wpAny_holding (list_sort_data (s := { s with heap := h'.push (seqObj "list" acc.toList.toArray 0), toks := tk }) hoL e er hal hk (by rw [List.length_map, ← hl]; exact h16) (fun k _ => by
    rw [kD_depth]
    show X.A.units + 1 + 1 + 0 < _
    omega) fun out ho eo => ?_))
  obtain ⟨e', he'⟩ := PyProof.Rows.sortedHeap_at (vs := acc.toList) (out := out.toArray) hoL
  have hv2 : Vals (((kvs.map (·.1)).mergeSort (dataLe false kD)).map kV) out := by
    have : ∀ {ks : List Key} {l : List Value}, EachIs (fun u (k : Key) => RelV (kV k) u) l ks → Vals (ks.map kV) l := by
      intro ks
      induction ks with
      | nil => intro l h; cases h; exact .nil
      | cons w ws ih =>
        intro l h
        cases h with
        | cons h1 h2 => exact .cons h1 (ih h2)
    exact this eo
  have hlen : (((kvs.map (·.1)).mergeSort (dataLe false kD)).map kV).length ≤ sizeLine := by
    rw [List.length_map, List.length_mergeSort, List.length_map, ← hl]; exact h16
  refine wpAny_pure ⟨_, rfl, .ref h'.objs.size, upd H h'.objs.size (.lst (((kvs.map (·.1)).mergeSort (dataLe false kD)).map kV)), I1.laid (t' := tk) (fun b u e => ?_) (Nat.le_refl _)
    (show ObjOk X.prog X.w _ _ _ (.lst _) from ⟨hlen, out, e', hv2, he'⟩), rfl, q _ (I1.hok.fresh (Nat.le_refl _))⟩
  have hb : b < h'.objs.size := Heap.lt_size e
  rw [PyProof.Rows.sortedHeap_old (Nat.ne_of_lt hb) (by rw [size_push']; exact Nat.lt_succ_of_lt hb)]
  exact Heap.get?_push_of_some _ e
end
end L2
namespace AC
open PySem L2 PyProof PySem.W
def keyD {κ : Type} (kc : KeyC κ) (k : κ) : PyData := kD (kc.key k)
def itD {κ α : Type} (kc : KeyC κ) (t : α → PyData) (x : κ × α) : PyData := .tuple [keyD kc x.1, t x.2]
section
variable {A : Amb} {G G' : Ctx} {ρ : Type} {R : Rr ρ}
theorem ent_keys {κ α : Type} {kc : KeyC κ} {c : Cod α} {K : Frag} {R : Hp} : ∀ {kvs : List (Key × V)} {xs : List (κ × α)}, Paired (EntR kc c K R) kvs xs → kvs.map (·.1) = (xs.map (·.1)).map kc.key
  | _, _, .nil => rfl
  | _, _, .cons h t => by rw [List.map_cons, List.map_cons, List.map_cons, ent_keys t, h.1]
theorem sort_keys {κ : Type} {kc : KeyC κ} {ks : List κ} : (ks.map kc.key).mergeSort (dataLe false kD) = (srt (keyD kc) ks).map kc.key := by
  have := List.map_mergeSort (r := dataLe false (keyD kc)) (s := dataLe false kD) (f := kc.key) (l := ks) (fun _ _ _ _ => rfl)
  exact this.symm
theorem ct_sortedD {κ α : Type} {kc : KeyC κ} {c : Cod α} : CalT A (.builtin "sorted") (aOne (cD kc c)) (fun xs => sortO (keyD kc) (xs.map (·.1))) (rO (oL kc.c)) := ⟨_, cr_sortedKs A.calm (by have := room65 (A := A); omega), fun L H vs x z Q w ⟨v, e, a, kvs, e1, h1, l1, p1⟩ h2 q => by
  subst e e1
  have h2 : sortO (keyD kc) (x.map (·.1)) = some z := h2
  unfold sortO at h2
  split at h2
  · rename_i hb
    cases h2
    obtain ⟨b1, b2⟩ := sortB_of hb
    have ek := ent_keys p1
    have ek2 : (kvs.map (·.1)).map kD = (x.map (·.1)).map (keyD kc) := by rw [ek, List.map_map]; rfl
    refine ⟨a, kvs, rfl, .inl (rd_sub _ _ h1), by rw [ek2]; exact b1, by rw [ek2]; exact b2, fun p hp => ?_⟩
    rw [ek, sort_keys]
    obtain ⟨t1, t2⟩ := ext_new (o := .lst (((srt (keyD kc) (x.map (·.1))).map kc.key).map kV)) w hp
    refine q _ _ _ t1 t2 (own_new w hp ?_ ?_)
    · rw [List.length_map, List.length_map, srt_len, List.length_map, ← paired_len p1]; exact l1
    · have hm : ∀ k ∈ srt (keyD kc) (x.map (·.1)), k ∈ x.map (·.1) := fun k hk => (List.mergeSort_perm _ _).mem_iff.mp hk
      have hs : ∀ k ∈ x.map (·.1), kc.c.see A.X.K (rd L H) (kV (kc.key k)) k := fun k hk => by
        obtain ⟨e, he, rfl⟩ := List.mem_map.mp hk
        obtain ⟨i, hi⟩ := List.mem_iff_getElem?.mp he
        obtain ⟨y, _, hy⟩ := paired_get p1 hi
        have := hy.2.1
        rw [hy.1] at this
        exact this
      generalize srt (keyD kc) (x.map (·.1)) = l at hm
      rw [List.map_map]
      have : ∀ {l : List κ}, (∀ k ∈ l, k ∈ x.map (·.1)) → Paired (fun v y => kc.c.see A.X.K (rd L H) v y) (l.map (kV ∘ kc.key)) l := by
        intro l
        induction l with
        | nil => exact fun _ => .nil
        | cons k l ih => exact fun h => .cons (hs k (h k List.mem_cons_self)) (ih fun j hj => h j (List.mem_cons_of_mem _ hj))
      exact this hm
  · cases h2⟩
/-- many new things -/
theorem ext_tups {L : Lab} {H H' : Hp} (w : Wf L H) (hk : ∀ b o, H b = some o → H' b = some o) (ys : List Addr) (hn : ∀ q ∈ ys, H q = none) (ht : ∀ q ∈ ys, ∃ vs, H' q = some (.tup vs)) : Ext L H (fun a => if a ∈ ys then some (0, []) else L a) H' ∧ Wf (fun a => if a ∈ ys then some (0, []) else L a) H' := by
  refine ⟨fun a ha => ?_, fun a ha => ?_, fun a k l e => ?_⟩
  · have ne : a ∉ ys := fun h => ha (hn a h)
    refine ⟨if_neg ne, ?_⟩
    cases e : H a with
    | none => exact absurd e ha
    | some o => exact hk a o e
  · by_cases h : a ∈ ys
    · obtain ⟨vs, e⟩ := ht a h
      rw [e]; simp
    · have ha : L a ≠ none := by
        have ha : (if a ∈ ys then some (0, []) else L a) ≠ none := ha
        rwa [if_neg h] at ha
      have := w.dom a ha
      cases e : H a with
      | none => exact absurd e this
      | some o => rw [hk a o e]; simp
  · have e : (if a ∈ ys then some (0, []) else L a) = some (k + 1, l) := e
    by_cases h : a ∈ ys
    · rw [if_pos h] at e; cases e
    · rw [if_neg h] at e
      have d := w.dom a (by rw [e]; simp)
      have := w.soft a k l e
      cases eh : H a with
      | none => exact absurd eh d
      | some o =>
        rw [eh] at this
        rw [hk a o eh]
        exact this
/-- sorted(d.items()) -/
theorem ex_sortedIt {κ α : Type} {kc : KeyC κ} {c : Cod α} {t : α → PyData} {n : Nat} {ob : Expr} {p1 ap cp pos : Pos} {f : CT G → Res (List (κ × α) × CT G)} (h : DC c t n) (hg : Gl A.X "sorted") (hm : A.X.mg "sorted" = none) (ho : EX A G ob (rV (cD kc c)) f) (hn : n ≤ 50 := by decide)
    (hbase : attributeBase ob "items" A.X.env (eval ob A.X.env) = eval ob A.X.env := by rfl) (hline : (ap.endLine == cp.line) = true := by rfl)
    (hs : starEach [.Call (.Attribute ob "items" ap) [] [] cp] A.X.env = (false, eval (.Call (.Attribute ob "items" ap) [] [] cp) A.X.env) :: starEach [] A.X.env := by rfl) (hpl : (backTo pos (starEach [] A.X.env)).any (·.1) = false := by rfl) :
    EX A G (.Call (.Name "sorted" p1) [.Call (.Attribute ob "items" ap) [] [] cp] [] pos) (rO (oL (cT (aCons kc.c (aOne c))))) (fun p => Res.bind (f p) fun y => Res.bind (ofO (sortO (itD kc t) y.1)) fun z => .ok (z, y.2)) :=
  pe_weak (pe_callB (cr_sortedItK (enc := itD kc t) A.calm) hg hm (by decide +kernel) (pa_cons (pe_bm0 PySem.F.plainAttrs_dict PySem.F.slot_dict_items (by rfl) mt_itemsK ho hbase hline) pa_nil hs) (he := hs) (hpl := hpl)) fun o H Q ⟨p, L, w, cr, kk⟩ => ⟨p, L, w, cr, kk.bind.imp fun y _ gy v L1 H1 s1 w1 c1 ⟨a, kvs, e1, h1, l1, pp⟩ => by
    subst e1
    obtain ⟨z, ez, gz⟩ := good_ofO gy
    unfold sortO at ez
    split at ez
    · rename_i hb
      cases ez
      obtain ⟨b1, b2⟩ := sortB_of hb
      have ha := rd_sub _ _ h1
      refine ⟨.inr (.inr (.inl ⟨rfl, .inl ⟨kvs, ha⟩⟩)), a, kvs, rfl, rfl, .inl ha, fun q hq => ?_⟩
      have hne : a ≠ q := fun e => by rw [e, hq] at ha; cases ha
      refine ⟨q, a, kvs, y.1, EntR kc c A.X.K (rd L1 H1), rfl, upd_same, .inl (by rw [upd_ne hne]; exact ha), pp, fun e b he => ⟨t b.2, ?_, ?_⟩, b1, b2, fun b hb => ?_, fun H2 l ys g hl hys hlst hp => ?_⟩
      · show PyData.tuple [kD (kc.key b.1), t b.2] = _
        rw [he.1]
      · refine dp_same (fun b o q1 => ?_) (h _ _ _ _ he.2.2).1
        have := rd_sub _ _ q1
        rw [upd_ne fun e => by rw [e, hq] at this; cases this]
        exact this
      · obtain ⟨i, hi⟩ := List.mem_iff_getElem?.mp hb
        obtain ⟨e, _, he⟩ := paired_get pp hi
        have d1 := (h _ _ _ _ he.2.2).2.2
        have : (itD kc t b).depth ≤ n + 1 := by
          show (PyData.tuple [kD (kc.key b.1), t b.2]).depth ≤ _
          have k0 := kD_depth (kc.key b.1)
          simp only [PyData.depth, PyData.depthAll]
          omega
        have := room65 (A := A)
        omega
      · have g0 : ∀ b o, H1 b = some o → H2 b = some o := fun b o e => g b o (by rw [upd_ne fun z => by rw [z, hq] at e; cases e]; exact e)
        have hl0 : H1 l = none := by
          cases e : H1 l with
          | none => rfl
          | some ob => rw [upd_ne fun z => by rw [z, hq] at e; cases e] at hl; rw [e] at hl; cases hl
        have hys0 : ∀ q ∈ ys, H1 q = none := fun b hb => by
          cases e : H1 b with
          | none => rfl
          | some ob =>
            have := hys b hb
            rw [upd_ne fun z => by rw [z, hq] at e; cases e] at this
            rw [e] at this; cases this
        have hty : ∀ q ∈ ys, ∃ vs, H2 q = some (.tup vs) := fun b hb => by
          obtain ⟨i, hi⟩ := List.mem_iff_getElem?.mp hb
          obtain ⟨_, _, e, _, he⟩ := paired_getL hp hi
          exact ⟨_, he⟩
        obtain ⟨t1, t2⟩ := ext_tups w1 g0 ys hys0 hty
        refine gz (.ref l) _ H2 (s1.trans t1.stp) t2 (c1.ext w1 t1) ⟨fun b => if b = l then some [] else none, fun b m em => ?_, l, ys.map V.ref, rfl, if_pos rfl, hlst, ?_, ?_⟩
        · have em : (if b = l then some ([] : List Nat) else none) = some m := em
          by_cases eb : b = l
          · rw [if_pos eb] at em; cases em
            subst eb
            have hny : b ∉ ys := fun hb => by
              obtain ⟨vs, e⟩ := hty b hb
              rw [hlst] at e; cases e
            refine ⟨?_, by rw [hlst]; trivial, fun fr => (s1.frm fr).1 hl0⟩
            show (if b ∈ ys then some (0, []) else L1 b) = none
            rw [if_neg hny]
            exact w1.none hl0
          · rw [if_neg eb] at em; cases em
        · rw [List.length_map, paired_len hp, List.length_mergeSort, ← paired_len pp]; exact l1
        · have key : ∀ {ys' : List Addr} {xs : List (κ × α)}, (∀ q ∈ ys', q ∈ ys) → Paired (fun q b => ∃ e, EntR kc c A.X.K (rd L1 H1) e b ∧ H2 q = some (.tup [kV e.1, e.2])) ys' xs → Paired (fun v x => (cT (aCons kc.c (aOne c))).see A.X.K (rd (fun a => if a ∈ ys then some (0, []) else L1 a) H2) v x) (ys'.map V.ref) xs := by
            intro ys' xs hsub pq
            induction pq with
            | nil => exact .nil
            | @cons b x _ _ hh _ ih =>
              obtain ⟨e, he, hb⟩ := hh
              have hbm := hsub b List.mem_cons_self
              refine .cons ⟨b, [kV e.1, e.2], rfl, .inl (rd_mk (l := []) (if_pos hbm) hb), kV e.1, [e.2], rfl, kc.c.mono _ _ _ _ _ t1.stp.rd he.2.1, e.2, rfl, c.mono _ _ _ _ _ t1.stp.rd he.2.2⟩ (ih fun q hq => hsub q (List.mem_cons_of_mem _ hq))
          exact key (fun _ h => h) hp
    · cases ez⟩
end
end AC
set_option Elab.async false
set_option linter.all false
set_option maxRecDepth 100000
set_option maxHeartbeats 1000000
/-! TL37: dict(pairs), d.get, dict comprehensions, narrowing. -/
namespace AC
open PySem L2 PyProof PySem.W
section
variable {A : Amb} {G G' : Ctx} {ρ : Type} {R : Rr ρ}
def mkD {κ α : Type} [DecidableEq κ] (xs : List (κ × α)) : List (κ × α) := xs.foldl (fun acc e => putD acc e.1 e.2) []
theorem tup_ents {κ α : Type} {kc : KeyC κ} {c : Cod α} {K : Frag} {R : Hp} : ∀ {vs : List V} {xs : List (κ × α)}, Paired (fun v x => (cT (aCons kc.c (aOne c))).see K R v x) vs xs → ∃ (ps : List Addr) (kvs : List (Key × V)), vs = ps.map V.ref ∧ Paired (EntR kc c K R) kvs xs ∧ Paired (fun p kv => SeeT K R p [kV kv.1, kv.2]) ps kvs
  | _, _, .nil => ⟨[], [], rfl, .nil, .nil⟩
  | _, _, .cons (a := v) (b := x) ⟨a, us, e, h1, v1, ws, e1, h2, v2, e2, h3⟩ t => by
    obtain ⟨ps, kvs, q1, q2, q3⟩ := tup_ents t
    subst e e1 e2 q1
    have hk := kc.is _ _ _ _ h2
    refine ⟨a :: ps, (kc.key x.1, v2) :: kvs, rfl, .cons ⟨rfl, by rw [← hk]; exact h2, h3⟩ q2, .cons ?_ q3⟩
    show SeeT K R a [kV (kc.key x.1), v2]
    rw [← hk]; exact h1
theorem ct_dictL {κ α : Type} [DecidableEq κ] {kc : KeyC κ} {c : Cod α} : CalT A (.type "dict") (aOne (cL (cT (aCons kc.c (aOne c))))) (fun xs => some (mkD xs)) (rO (oD kc c)) := ⟨_, call_dictP A.calm, fun L H vs x z Q w ⟨v, e, a, ws, e1, h1, l1, p1⟩ h2 q => by
  subst e e1
  cases h2
  obtain ⟨ps, kvs, q1, q2, q3⟩ := tup_ents p1
  subst q1
  refine ⟨a, ps, kvs, rfl, SqL.of (rd_sub _ _ h1), paired_mono (fun _ _ h => (SeeT.same rd_sub h).sq) q3, fun p hp => ?_⟩
  obtain ⟨t1, t2⟩ := ext_new (o := .dK (mergeK [] kvs)) w hp
  refine q _ _ _ t1 t2 (own_newD w (w.none hp) (fun f => f.1 hp) ?_ (ent_merge q2 .nil))
  have := length_mergeK kvs []
  rw [List.length_map] at l1
  have l3 := paired_len q3
  simp only [List.length_nil] at this
  omega⟩
theorem ex_get2 {κ α : Type} [DecidableEq κ] {kc : KeyC κ} {c : Cod α} {ob e d : Expr} {ap cp : Pos} {f : CT G → Res (List (κ × α) × CT G)} {g : CT G → Res (κ × CT G)} {h : CT G → Res (α × CT G)} (ho : EX A G ob (rV (cD kc c)) f) (he : EX A G e (rV kc.c) g) (hd : EX A G d (rV c) h)
    (hbase : attributeBase ob "get" A.X.env (eval ob A.X.env) = eval ob A.X.env := by rfl)
    (hfew : ((backTo cp (starEach [e, d] A.X.env)).all (fun x => !x.1) && (backToKw cp (keywordEach [] A.X.env)).all (fun x => x.1.isSome)
    && decide (([e, d] : List Expr).length + ([] : List Keyword).length + (if ([] : List Keyword).isEmpty then 0 else 1) < 30)) = true := by rfl)
    (hline : (ap.endLine == cp.line) = true := by rfl) (htr : backTo cp (starEach [e, d] A.X.env) = [(false, eval e A.X.env), (false, eval d A.X.env)] := by rfl) :
    EX A G (.Call (.Attribute ob "get" ap) [e, d] [] cp) (rV c) (fun p => Res.bind (f p) fun y => Res.bind (g y.2) fun z => Res.bind (h z.2) fun u => .ok ((getD y.1 z.1).getD u.1, u.2)) :=
  pe_weak (pe_dget2 room1 ho he hd ⟨hbase, hfew, hline, htr⟩) fun o H Q ⟨p, L, w, cr, kk⟩ => run1 w cr kk fun x p1 v L1 H1 s1 w1 c1 r1 g1 => by
    obtain ⟨a, kvs, e1, h1, l1, pp⟩ := r1
    refine ⟨a, e1, .inl ⟨kvs, .inl (rd_sub _ _ h1)⟩, p1, L1, w1, c1, g1.bind.imp fun z _ gz vk L2 H2 s2 w2 c2 r2 => ⟨z.2, L2, w2, c2, (gz.bind.step s2).imp fun u _ gu vd L3 H3 s3 w3 c3 r3 => ?_⟩⟩
    have s23 := s2.trans s3
    have hk := kc.is _ _ _ _ r2
    have pp3 := paired_mono (fun _ _ q => EntR.mono s23.rd q) pp
    have hg := ent_get z.1 pp3
    have ha : H3 a = some (.dK kvs) := rd_sub _ _ (s23.rd _ _ h1)
    refine ⟨valV kvs (kc.key z.1), by rw [hk]; exact DGet.k ha, ?_⟩
    cases e : getD x z.1 with
    | none =>
      rw [e] at hg gu
      have hg : valV kvs (kc.key z.1) = none := hg
      rw [hg]
      exact gu vd L3 H3 (s1.trans s23) w3 c3 r3
    | some y =>
      rw [e] at hg gu
      obtain ⟨v', h1', h2'⟩ := hg
      rw [h1']
      exact gu v' L3 H3 (s1.trans s23) w3 c3 h2'
/-- a value that is not None -/
theorem ex_un {α : Type} {c : Cod α} {e : Expr} {f : CT G → Res (Option α × CT G)} (h : EX A G e (rV (cO c)) f) : EX A G e (rV c) (fun p => Res.bind (f p) fun y => match y.1 with | some z => .ok (z, y.2) | none => .bad) :=
  pe_weak h fun o H Q ⟨p, L, w, cr, kk⟩ => ⟨p, L, w, cr, kk.bind.imp fun y _ gy v L' H' s' w' c' rl => by
    obtain ⟨y1, y2⟩ := y
    cases y1 with
    | none => exact gy.elim
    | some z => exact gy v L' H' s' w' c' rl⟩
theorem dc_it {J : It} {n : Nat} {Gd : Hp → Prop} {Y : Nat → Hp → V → Hp → Prop} (w : Walk J n Gd Y) {g : TG} {tt : TT} {tk tv : TE} {vs : List Nat} {σ : St} {H1 : Hp} {D : Addr} {Qd : Hp → Prop} (Pv : Nat → Hp → Prop) (h0 : Pv 0 (upd H1 D (.dK []))) (hG : ∀ i H, i ≤ n → Pv i H → Gd H)
    (hs : ∀ i x H H', i < n → Pv i H → Y i H x H' → g x (wipe σ vs) H' fun σ2 H2 => wipe σ2 vs = wipe σ vs ∧ tt σ2 H2 fun b H3 =>
      if b = true then tk σ2 H3 fun y H4 => tv σ2 H4 fun z H5 => ∃ kvs k, y = kV k ∧ H5 D = some (.dK kvs) ∧ kvs.length < sizeLine ∧ Pv (i + 1) (upd H5 D (.dK (putK kvs k z))) else Pv (i + 1) H3) (hd : ∀ H, Pv n H → Qd H) :
    ∃ W : Nat → Nat → Hp → Prop, (∃ m, W 0 m (upd H1 D (.dK []))) ∧ ∀ i m H, W i m H →
      (J.stop i H ∧ Qd H) ∨ (J.go i H ∧ ∃ Nx : Hp → Prop, (∀ H', Nx H' → ∃ m', m' < m ∧ W (i + 1) m' H') ∧ ∀ x H', J.yld i H x H' → g x (wipe σ vs) H' fun σ2 H2 => wipe σ2 vs = wipe σ vs ∧ tt σ2 H2 fun b H3 =>
        if b = true then tk σ2 H3 fun y H4 => tv σ2 H4 fun z H5 => ∃ kvs k, y = kV k ∧ H5 D = some (.dK kvs) ∧ kvs.length < sizeLine ∧ Nx (upd H5 D (.dK (putK kvs k z))) else Nx H3) := by
  refine ⟨fun i m H => m = n - i ∧ i ≤ n ∧ Pv i H, ⟨n, by simp, Nat.zero_le _, h0⟩, ?_⟩
  rintro i m H ⟨rfl, hi, p⟩
  have q := hG i H hi p
  by_cases hlt : i < n
  · refine .inr ⟨w.goes i H hlt q, Pv (i + 1), fun H' p' => ⟨n - (i + 1), by omega, rfl, hlt, p'⟩, fun x H' y => hs i x H H' hlt p (w.yields i H x H' hlt q y)⟩
  · have e : i = n := by omega
    subst e
    exact .inl ⟨w.stops H q, hd H p⟩
theorem dc_reads {α κ β : Type} [DecidableEq κ] {ci : Cod α} {kc : KeyC κ} {ce : Cod β} {G0 G1 : Ctx} {vs : List Nat} {fi : CT G → Res (List α × CT G)} {dn : CT G → CT G0} {bk : CT G → CT G0 → CT G} {put : CT G0 → α → CT G1} {ft : CT G1 → Res (Bool × CT G1)} {fk : CT G1 → Res (κ × CT G1)} {fe : CT G1 → Res (β × CT G1)} {dn1 : CT G1 → CT G0} {bk1 : CT G1 → CT G0 → CT G1}
    (B : Amb) (hB : B.X.K = A.X.K) (hBS : ∀ i, ¬ i ∈ vs → ¬ B.S i)
    (wc : WipeC 0 vs G G0 dn bk) (wc1 : WipeC 0 vs G1 G0 dn1 bk1) {o : St} {H : Hp} {Q : VK}
    (q : tE A G (rO (oD kc ce)) (fun p => Res.bind (fi p) fun y => Res.bind (lcL y.1 (fun x q => Res.bind (ft (put q x)) fun t => if t.1 = true then Res.bind (fk t.2) fun k => Res.bind (fe k.2) fun z => .ok (some (k.1, z.1), dn1 z.2) else .ok (none, dn1 t.2)) (dn y.2)) fun z => .ok (mkD z.1, bk y.2 z.2)) o H Q) :
    tDc (tI A G ci fi) (tG B ci G0 G1 put) (tT B G1 ft) (tE B G1 (rV kc.c) fk) (tE B G1 (rV ce) fe) vs o H Q := by
  obtain ⟨p, L, w, cr, k⟩ := q
  refine ⟨p, L, w, cr, k.bind.imp fun y _ gy L1 H1 J Gd Y s1 w1 c1 wt D hD => ?_⟩
  generalize hbody : (fun (x : α) (q : CT G0) => Res.bind (ft (put q x)) fun t => if t.1 = true then Res.bind (fk t.2) fun k => Res.bind (fe k.2) fun z => Res.ok (some (k.1, z.1), dn1 z.2) else Res.ok ((none : Option (κ × β)), dn1 t.2)) = body at gy
  have hnb : L1 D = none := w1.none hD
  -- the state with the list so far
  refine dc_it wt.walk (fun i H2 => ∃ (q2 : CT G0) (L2 : Lab) (acc : List (Key × V)) (ys : List (κ × β)), Wf L2 H2 ∧ CR A.X.K 0 G0 q2 L2 H2 (wipe o vs) ∧ Stp L1 H1 L2 H2 ∧ L2 D = none ∧ H2 D = some (.dK acc) ∧ acc.length ≤ i ∧ Paired (EntR kc ce A.X.K (rd L2 H2)) acc (mkD ys) ∧
      Good A (Res.bind (lcL (y.1.drop i) body q2) fun z => .ok (mkD (ys ++ z.1), bk y.2 z.2)) L H o fun y => ∀ (v : V) (L' : Lab) (H' : Hp), Stp L H L' H' → Wf L' H' → CR A.X.K 0 G y.2 L' H' o → (rO (oD kc ce)).rel A.X.K L H L' H' v y.1 → Q v H') ?_ ?_ ?_ ?_
  · obtain ⟨e1, e2⟩ := ext_new (o := .dK []) w1 hD
    refine ⟨dn y.2, L1, [], [], e2, (wc.dn_ok _ _ _ _ _ c1).ext w1 e1, e1.stp, hnb, upd_same, Nat.zero_le _, .nil, ?_⟩
    rw [List.drop_zero]
    exact gy
  · rintro i H2 _ ⟨q2, L2, acc, ys, w2, c2, s2, _⟩
    exact wt.stays L2 H2 s2
  · rintro i v H2 H3 hi ⟨q2, L2, acc, ys, w2, c2, s2, n2, d2, l2, pp, g2⟩ hy
    obtain ⟨L3, x, ex, w3, hx, hc⟩ := wt.gives i L2 H2 v H3 hi s2 w2 hy
    have hd : y.1.drop i = x :: y.1.drop (i + 1) := by
      obtain ⟨h1, h2⟩ := List.getElem?_eq_some_iff.mp hx
      rw [List.drop_eq_getElem_cons h1, h2]
    have fD : Frm L2 H2 D := ⟨by rw [d2]; simp, .inl n2⟩
    have n3 : L3 D = none := (ex.stp D fD).1.trans n2
    have d3 : H3 D = some (.dK acc) := (ex.stp D fD).2.trans d2
    have fD3 : Frm L3 H3 D := ex.stp.frm fD
    -- the turn's value
    have gturn : ∃ r, body x q2 = .ok r ∧ (∀ e, r.1 = some e → Good A (Res.bind (lcL (y.1.drop (i + 1)) body r.2) fun z => .ok (mkD (ys ++ (e :: z.1)), bk y.2 z.2)) L H o fun y => ∀ (v : V) (L' : Lab) (H' : Hp), Stp L H L' H' → Wf L' H' → CR A.X.K 0 G y.2 L' H' o → (rO (oD kc ce)).rel A.X.K L H L' H' v y.1 → Q v H') ∧ (r.1 = none → Good A (Res.bind (lcL (y.1.drop (i + 1)) body r.2) fun z => .ok (mkD (ys ++ z.1), bk y.2 z.2)) L H o fun y => ∀ (v : V) (L' : Lab) (H' : Hp), Stp L H L' H' → Wf L' H' → CR A.X.K 0 G y.2 L' H' o → (rO (oD kc ce)).rel A.X.K L H L' H' v y.1 → Q v H') := by
      rw [hd] at g2
      unfold lcL at g2
      cases e : body x q2 with
      | ok r =>
        rw [e] at g2
        simp only [Res.noexc, Res.bind_ok, Res.bind_assoc] at g2
        exact ⟨r, rfl, fun e' he => by rw [he] at g2; exact g2, fun he => by rw [he] at g2; exact g2⟩
      | exc e' => rw [e] at g2; exact g2.elim
      | bad => rw [e] at g2; exact g2.elim
    obtain ⟨r, er, g3⟩ := gturn
    have er2 : (Res.bind (ft (put q2 x)) fun t => if t.1 = true then Res.bind (fk t.2) fun k => Res.bind (fe k.2) fun z => Res.ok (some (k.1, z.1), dn1 z.2) else Res.ok ((none : Option (κ × β)), dn1 t.2)) = .ok r := by rw [← er, ← hbody]
    refine ⟨q2, L3, x, w3, by rw [hB]; exact c2.ext w2 ex, by rw [hB]; exact hc, fun o3 c3 k3 => ?_⟩
    have hw : wipe o3 vs = wipe o vs := by
      have h1 : wipe o3 vs = wipe (wipe o vs) vs := wipe_eq k3.len fun i hi => k3.at_ i (hBS i hi)
      rw [h1]
      exact wipe_eq (wipe_length _ _) fun i hi => wipe_ne hi
    refine ⟨hw, ?_⟩
    rw [hB] at c3
    cases et : ft (put q2 x) with
    | bad => rw [et] at er2; cases er2
    | exc e => rw [et] at er2; cases er2
    | ok t =>
      rw [et, Res.bind_ok] at er2
      obtain ⟨tb, t2⟩ := t
      refine ⟨put q2 x, L3, w3, by rw [hB]; exact c3, ?_⟩
      rw [et]
      intro L4 H4 s4 w4 c4
      rw [hB] at c4
      cases tb with
      | false =>
        rw [if_neg Bool.false_ne_true] at er2
        cases er2
        refine (iteF ?_ : if false = true then _ else _)
        refine ⟨dn1 t2, L4, acc, ys, w4, ?_, (s2.trans ex.stp).trans s4, (s4 D fD3).1.trans n3, (s4 D fD3).2.trans d3, by omega, paired_mono (fun _ _ q => EntR.mono (ex.stp.trans s4).rd q) pp, g3.2 rfl⟩
        rw [← hw]
        exact wc1.dn_ok _ _ _ _ _ c4
      | true =>
        rw [if_pos rfl] at er2
        cases ek : fk t2 with
        | bad => rw [ek] at er2; cases er2
        | exc e => rw [ek] at er2; cases er2
        | ok kz =>
        rw [ek, Res.bind_ok] at er2
        cases ee : fe kz.2 with
        | bad => rw [ee] at er2; cases er2
        | exc e => rw [ee] at er2; cases er2
        | ok z =>
          rw [ee, Res.bind_ok] at er2
          cases er2
          refine (iteT ?_ : if true = true then _ else _)
          refine ⟨t2, L4, w4, by rw [hB]; exact c4, ?_⟩
          rw [ek]
          intro uk L5 H5 s5 w5 c5 r5
          have r5 : kc.c.see B.X.K (rd L5 H5) uk kz.1 := r5
          rw [hB] at c5 r5
          refine ⟨kz.2, L5, w5, by rw [hB]; exact c5, ?_⟩
          rw [ee]
          intro u L6 H6 s6 w6 c6 r6
          have r6 : ce.see B.X.K (rd L6 H6) u z.1 := r6
          rw [hB] at c6 r6
          have hk := kc.is _ _ _ _ r5
          have r5' := kc.fixed _ _ (rd L6 H6) _ _ r5
          have s46 := (s4.trans s5).trans s6
          have n6 : L6 D = none := (s46 D fD3).1.trans n3
          have d6 : H6 D = some (.dK acc) := (s46 D fD3).2.trans d3
          have lx : y.1.length ≤ sizeLine := wt.line
          have sm : Same (rd L6 H6) (rd L6 (upd H6 D (.dK (putK acc (kc.key kz.1) u)))) := fun a ob qa => by
            obtain ⟨⟨l, e1⟩, e2⟩ := rd_of qa
            refine rd_mk e1 ?_
            rw [upd_ne fun e => by rw [e, n6] at e1; cases e1]
            exact e2
          refine ⟨acc, kc.key kz.1, hk, d6, by omega, dn1 z.2, L6, putK acc (kc.key kz.1) u, ys ++ [(kz.1, z.1)], ⟨fun a ha => ?_, fun a k l e => ?_⟩, ?_, fun a fa => ?_, n6, upd_same, by have := length_putK acc (kc.key kz.1) u; omega, ?_, ?_⟩
          · rw [upd_ne fun e => ha (by rw [e]; exact n6)]
            exact w6.dom a ha
          · rw [upd_ne fun e' => by rw [e', n6] at e; cases e]
            exact w6.soft a k l e
          · rw [← hw]
            exact (wc1.dn_ok _ _ _ _ _ c6).keep sm fun a j l _ e => ⟨rfl, upd_ne fun e' => by rw [e', n6] at e; cases e⟩
          · obtain ⟨e1, e2⟩ := ((s2.trans ex.stp).trans s46) a fa
            exact ⟨e1, by rw [upd_ne fun e => fa.1 (by rw [e]; exact hD)]; exact e2⟩
          · have : mkD (ys ++ [(kz.1, z.1)]) = putD (mkD ys) kz.1 z.1 := by
              unfold mkD
              rw [List.foldl_append]; rfl
            rw [this]
            exact paired_mono (fun _ _ q => EntR.mono sm q) (ent_put r5' r6 (paired_mono (fun _ _ q => EntR.mono (ex.stp.trans s46).rd q) pp))
          · simp only [List.append_assoc, List.singleton_append]
            exact g3.1 _ rfl
  · rintro H2 ⟨q2, L2, acc, ys, w2, c2, s2, n2, d2, l2, pp, g2⟩
    rw [List.drop_length] at g2
    have g3 : ∀ (v : V) (L' : Lab) (H' : Hp), Stp L H L' H' → Wf L' H' → CR A.X.K 0 G (bk y.2 q2) L' H' o → (rO (oD kc ce)).rel A.X.K L H L' H' v (mkD (ys ++ [])) → Q v H' := g2
    rw [List.append_nil] at g3
    refine g3 (.ref D) L2 H2 (s1.trans s2) w2 (wc.bk_ok _ _ _ _ _ _ _ _ s2.rd c1 c2) ⟨fun a => if a = D then some [] else none, fun a m e => ?_, D, acc, rfl, if_pos rfl, d2, ?_, pp⟩
    · have e : (if a = D then some ([] : List Nat) else none) = some m := e
      by_cases ea : a = D
      · rw [if_pos ea] at e; cases e
        rw [ea, d2]
        exact ⟨n2, trivial, fun f => (s1.frm f).1 hD⟩
      · rw [if_neg ea] at e; cases e
    · have := wt.line
      omega
/-- {k: v for t in xs if c} -/
theorem ex_dcIf {α κ β : Type} [DecidableEq κ] {ci : Cod α} {kc : KeyC κ} {ce : Cod β} {G0 G1 : Ctx} {kx elt tg iter c : Expr} {scope : Scope} {own : List (Str × Nat)} {pos : Pos} {fi : CT G → Res (List α × CT G)} {dn : CT G → CT G0} {bk : CT G → CT G0 → CT G} {put : CT G0 → α → CT G1} {ft : CT G1 → Res (Bool × CT G1)} {fk : CT G1 → Res (κ × CT G1)} {fe : CT G1 → Res (β × CT G1)} {dn1 : CT G1 → CT G0} {bk1 : CT G1 → CT G0 → CT G1}
    (hi : IX A G tg iter ci fi) (ok : BlkOk A.X.N A.X.env.scope scope own) (wc : WipeC 0 (own.map (fun x : Str × Nat => x.2)) G G0 dn bk)
    (hg : ∀ s H C cl fp, GX (A.blk (own.map (fun x : Str × Nat => x.2)) s H scope C cl fp) G0 tg ci G1 put) (ht : ∀ s H C cl fp, TX (A.blk (own.map (fun x : Str × Nat => x.2)) s H scope C cl fp) G1 c ft) (hk : ∀ s H C cl fp, EX (A.blk (own.map (fun x : Str × Nat => x.2)) s H scope C cl fp) G1 kx (rV kc.c) fk) (he : ∀ s H C cl fp, EX (A.blk (own.map (fun x : Str × Nat => x.2)) s H scope C cl fp) G1 elt (rV ce) fe)
    (wc1 : WipeC 0 (own.map (fun x : Str × Nat => x.2)) G1 G0 dn1 bk1) (hs : ∀ x, foldedSetIterable iter A.X.env x = pure x := by intro _; rfl) :
    EX A G (.DictComp kx elt [⟨tg, iter, [c], 0⟩] scope pos) (rO (oD kc ce)) (fun p => Res.bind (fi p) fun y => Res.bind (lcL y.1 (fun x q => Res.bind (ft (put q x)) fun t => if t.1 = true then Res.bind (fk t.2) fun k => Res.bind (fe k.2) fun z => .ok (some (k.1, z.1), dn1 z.2) else .ok (none, dn1 t.2)) (dn y.2)) fun z => .ok (mkD z.1, bk y.2 z.2)) :=
  pe_weak (pe_dc A.calm A.nd hi ok (g := tG (A.blk (own.map (fun x : Str × Nat => x.2)) A.X.s_0 A.X.H_0 scope 0 [] []) ci G0 G1 put) (tt := tT (A.blk (own.map (fun x : Str × Nat => x.2)) A.X.s_0 A.X.H_0 scope 0 [] []) G1 ft) (tk := tE (A.blk (own.map (fun x : Str × Nat => x.2)) A.X.s_0 A.X.H_0 scope 0 [] []) G1 (rV kc.c) fk) (tv := tE (A.blk (own.map (fun x : Str × Nat => x.2)) A.X.s_0 A.X.H_0 scope 0 [] []) G1 (rV ce) fe)
    (fun s H C cl fp => hg s H C cl fp) (fun s H C cl fp => pts_one (ht s H C cl fp)) (fun s H C cl fp => hk s H C cl fp) (fun s H C cl fp => he s H C cl fp) hs) fun o H Q q => dc_reads (A := A) (A.blk (own.map (fun x : Str × Nat => x.2)) A.X.s_0 A.X.H_0 scope 0 [] []) rfl blk_S wc wc1 q
end
end AC
set_option Elab.async false
set_option linter.all false
set_option maxRecDepth 100000
set_option maxHeartbeats 1000000
/-! TL38: x != y by the class's own __eq__. -/
namespace L2
open PySem PySem.Spec PySem.W PyProof.Rows
section
variable {prog : Program} {w : World} {A : Around} {E : Value → Shared → Prop} {s : Shared} {K : Frag} {x C f : Addr} {ox : Obj} {od : Option Obj} {b : Value}
theorem entry_objNe (X : K.In s.heap) (I : InstAt s.heap x ox C od) (hs : findIn K (.ref C) "__eq__" = some (some (.ref f))) (hf : isFn K (.ref f) = true) (hu : A.units < cLine) {Q : PySem.Fin → Shared → Prop}
    (hcall : wpAny (model prog w) A (call (.ref f) [.ref x, b]) (fun v s' => ∃ t, v = .bool t ∧ Q (.done (.ret (.bool (!t)))) s') E s) :
    wpAny (model prog w) A (Builtin.«object.__ne__» ⟨[.ref x, b], []⟩) Q E s := by
  unfold Builtin.«object.__ne__»
  repeat (first
    | with_reducible refine wpAny_cRoomFor hu ?_
    | (refine wpAny_bind (m := callSpecialIfBound? (.ref x) (Str.ofString "__eq__") [b])
        (ifBound_K X I hs hf (wpAny_mono hcall (fun r s' hr => by
          obtain ⟨b, rfl, hq⟩ := hr
          repeat (first | exact hq | exact wpAny_pure hq | exact wpAny_truthy_bool hq | (refine wpAny_bind (m := truthy (.bool _)) (wpAny_truthy_bool ?_)) | wp_step)) fun _ _ e => e)))
    | wp_step)
theorem ifBound_objNe {M : Model} {args : List Value} {Q : Option Value → Shared → Prop} (X : K.In s.heap) (I : InstAt s.heap x ox C od) (hs : findIn K (.ref C) "__ne__" = some (some (.builtin "object.__ne__")))
    (h : wpAny M A (call (.builtin "object.__ne__") (.ref x :: args)) (fun v => Q (some v)) E s) : wpAny M A (callSpecialIfBound? (.ref x) "__ne__" args) Q E s := by
  simp only [callSpecialIfBound?, bindSpecialIfBound?]
  refine wpAny_holding (wpAny_bind (wpAny_bind (wpAny_bind (I.type.here ((looks_findIn X hs).here ?_)))))
  refine wpAny_bind (wpAny_askSetting (wpAny_ite ?_))
  have fin : wpAny M A (call (.builtin "object.__ne__") ([.ref x] ++ args) >>= fun v => pure (some v)) Q E s := wpAny_bind (wpAny_mono h (fun v s' h' => wpAny_pure h') fun _ _ h' => h')
  split
  · exact wpAny_bind (wpAny_of_eq (F.cmp_object.ne.bind _) (wpAny_pure (by exact fin)))
  · exact wpAny_tryCatch (wpAny_bind (wpAny_of_eq (F.cmp_object.ne.bind _) (wpAny_pure (by exact fin))))
theorem ne_K {L h₀} {m : Str → Option Value} {Q : Value → Shared → Prop} (hu : A.units + 1 < cLine) (F' : Fr h₀ L s.heap m) (X₀ : K.In h₀) (I : InstAt s.heap x ox C od) (hb : Looks (model prog w) s.heap (typeOf b) (.ref C)) (hm : mroIn K C (.type "object") = some true)
    (hne : findIn K (.ref C) "__ne__" = some (some (.builtin "object.__ne__"))) (hs : findIn K (.ref C) "__eq__" = some (some (.ref f))) (hf : isFn K (.ref f) = true)
    (hcall : wpAny (model prog w) A.in1 (call (.ref f) [.ref x, b]) (fun v s' => ∃ t, v = .bool t ∧ Q (.bool (!t)) s') E s) : wpAny (model prog w) A (richCompare .NotEq (.ref x) b) Q E s := by
  have X := X₀.keeps F'.keep
  have one : wpAny (model prog w) A (tryCompare (.ref x) (cmpInfo .NotEq).2.1 b) (fun r s' => ∃ v, r = some v ∧ Q v s') E s := by
    unfold tryCompare
    refine wpAny_bind (ifBound_objNe X I hne (wpAny_call (codeAny_call_builtin F.cmp_object.ne.plain F.cmpEntry_ne (check_slot F.cmpKind_ne F.cmpSplit_ne (I.type.andThen (looks_mroIn X hm)) (F.cmpArgs_ne _ _)
      (entry_objNe X I hs hf (by show A.units + 1 < cLine; exact hu) (wpAny_mono hcall (fun v s' hv => ?_) fun _ _ e => e))))))
    obtain ⟨t, rfl, hq⟩ := hv
    exact ⟨t, rfl, wpAny_pure ⟨_, rfl, hq⟩⟩
  unfold richCompare
  simp only [oneThing_ref]
  refine wpAny_holding (wpAny_bind (wpAny_cRoomFor (Nat.lt_of_succ_lt hu) ?_))
  refine wpAny_bind (I.type.here (wpAny_bind (hb.here ?_)))
  rw [show (Value.ref C != Value.ref C) = false from by simp]
  simp only [Bool.false_eq_true, if_false]
  refine wpAny_bind (wpAny_pure ?_)
  simp only [Bool.false_eq_true, if_false]
  refine wpAny_bind (wpAny_mono one (fun r s' z => ?_) fun _ _ e => e)
  obtain ⟨v, rfl, hq⟩ := z
  exact wpAny_pure hq
end
end L2
namespace AC
open PySem L2 PyProof
section
variable {A : Amb}
theorem ot_neOwn {α : Type} {C : Addr} {fc : FldC α} {F : α × α → Res Bool} {k : Nat} {ps : List Str} (N : NeC A.X.K C) (D : MetA A k C "__eq__" ps (spP A.X.K A.ca (aCons (cIns C fc) (aOne (cIns C fc))) (rV cB) F)) (hk : k + 1 ≤ A.lv) : OpT A (compareOp .NotEq) (cIns C fc) (cIns C fc) (fun x y => (okO (F (x, y))).map (!·)) (rV cB) := by
  obtain ⟨g, fd, F1, hm, hb⟩ := D.ex
  refine ⟨fun x y H Q => ∃ a b dx dy fs gs, x = .ref a ∧ y = .ref b ∧ H a = some (.ins C dx fs) ∧ H b = some (.ins C dy gs) ∧ spP A.X.K A.ca (aCons (cIns C fc) (aOne (cIns C fc))) (rV cB) F [.ref a, .ref b] H (fun v H' => ∃ t, v = .bl t ∧ Q (.bl (!t)) H') (fun _ _ _ => False), ?_, ?_⟩
  · intro pins s o H x y u v Q I rx ry ⟨a, b, dx, dy, fs, gs, ex, ey, ha, hb', hsp⟩
    subst ex ey
    obtain rfl : u = Value.ref a := rx
    obtain rfl : v = Value.ref b := ry
    obtain ⟨mA, J, _⟩ := ins_get I.hok ha
    obtain ⟨mB, J', _⟩ := ins_get I.hok hb'
    obtain ⟨od, J, _⟩ := J.look
    obtain ⟨od', J', _⟩ := J'.look
    obtain ⟨m, hF⟩ := I.fr
    refine L2.ne_K (by have := room65 (A := A); omega) hF I.ok.mod.kin J J'.type N.hm N.ne hm.at_ hm.fn ?_
    refine wpAny_mono (run_sp (B := A.X.A.in1) I F1 A.gd ((A.room.mono hk).in1) rfl hb (us := [.ref a, .ref b]) (vs := [.ref a, .ref b]) (.cons rfl (.cons rfl .nil)) hsp) (fun r s' hq => ?_) fun _ _ e => e
    obtain ⟨v, H', I', rv, t, rfl, q⟩ := hq
    cases rv
    exact ⟨t, rfl, .bl (!t), H', I', rfl, q⟩
  · intro L H vx vy x y z Q w h1 h2 e q
    have r1 := h1
    have r2 := h2
    obtain ⟨a, dx, fs, rfl, ha, _⟩ := h1
    obtain ⟨b, dy, gs, rfl, hb', _⟩ := h2
    have e : (okO (F (x, y))).map (!·) = some z := e
    cases e1 : okO (F (x, y)) with
    | none => rw [e1] at e; cases e
    | some b1 =>
      rw [e1] at e
      cases e
      refine ⟨a, b, dx, dy, fs, gs, rfl, rfl, rd_sub _ _ ha, rd_sub _ _ hb', sp_op (as := aCons (cIns C fc) (aOne (cIns C fc))) (y := (x, y)) rtv w ⟨.ref a, [.ref b], rfl, r1, .ref b, rfl, r2⟩ e1 fun v L' H' ex w' rl => ?_⟩
      have rl : v = .bl b1 := rl
      exact ⟨b1, rl, q _ L' H' ex w' rfl⟩
end
end AC
set_option Elab.async false
set_option linter.all false
set_option maxRecDepth 100000
/-! TL39: reading forms of the rules on dicts. -/
namespace AC
open PySem L2 PyProof
section
variable {A : Amb} {G G' : Ctx} {ρ : Type} {R : Rr ρ}
theorem rex_sortedIt {κ α : Type} {kc : KeyC κ} {c : Cod α} {t : α → PyData} {n : Nat} {ob : Expr} {p1 ap cp pos : Pos} {f : CT G → Res (List (κ × α))} (h : DC c t n) (hg : Gl A.X "sorted") (hm : A.X.mg "sorted" = none) (ho : RX A G ob (rV (cD kc c)) f) (hn : n ≤ 50 := by decide)
    (hbase : attributeBase ob "items" A.X.env (eval ob A.X.env) = eval ob A.X.env := by rfl) (hline : (ap.endLine == cp.line) = true := by rfl)
    (hs : starEach [.Call (.Attribute ob "items" ap) [] [] cp] A.X.env = (false, eval (.Call (.Attribute ob "items" ap) [] [] cp) A.X.env) :: starEach [] A.X.env := by rfl) (hpl : (backTo pos (starEach [] A.X.env)).any (·.1) = false := by rfl) :
    RX A G (.Call (.Name "sorted" p1) [.Call (.Attribute ob "items" ap) [] [] cp] [] pos) (rO (oL (cT (aCons kc.c (aOne c))))) (fun p => Res.bind (f p) fun y => ofO (sortO (itD kc t) y)) :=
  ex_eq (fun p => by simp only [rbok, Res.bind_assoc]) (ex_sortedIt h hg hm ho hn hbase hline hs hpl)
theorem rex_get2 {κ α : Type} [DecidableEq κ] {kc : KeyC κ} {c : Cod α} {ob e d : Expr} {ap cp : Pos} {f : CT G → Res (List (κ × α))} {g : CT G → Res κ} {h : CT G → Res α} (ho : RX A G ob (rV (cD kc c)) f) (he : RX A G e (rV kc.c) g) (hd : RX A G d (rV c) h)
    (hbase : attributeBase ob "get" A.X.env (eval ob A.X.env) = eval ob A.X.env := by rfl)
    (hfew : ((backTo cp (starEach [e, d] A.X.env)).all (fun x => !x.1) && (backToKw cp (keywordEach [] A.X.env)).all (fun x => x.1.isSome)
    && decide (([e, d] : List Expr).length + ([] : List Keyword).length + (if ([] : List Keyword).isEmpty then 0 else 1) < 30)) = true := by rfl)
    (hline : (ap.endLine == cp.line) = true := by rfl) (htr : backTo cp (starEach [e, d] A.X.env) = [(false, eval e A.X.env), (false, eval d A.X.env)] := by rfl) :
    RX A G (.Call (.Attribute ob "get" ap) [e, d] [] cp) (rV c) (fun p => Res.bind (f p) fun y => Res.bind (g p) fun z => Res.bind (h p) fun u => .ok ((getD y z).getD u)) :=
  ex_eq (fun p => by simp only [rbok, Res.bind_assoc]) (ex_get2 ho he hd hbase hfew hline htr)
def unO {α : Type} : Option α → Res α
  | some z => .ok z
  | none => .bad
theorem rex_un {α : Type} {c : Cod α} {e : Expr} {f : CT G → Res (Option α)} (h : RX A G e (rV (cO c)) f) : RX A G e (rV c) (fun p => Res.bind (f p) unO) :=
  ex_eq (fun p => by
    simp only [rbok, Res.bind_assoc]
    congr 1
    funext y
    cases y <;> rfl) (ex_un h)
theorem rex_dcIf {α κ β : Type} [DecidableEq κ] {ci : Cod α} {kc : KeyC κ} {ce : Cod β} {G0 G1 : Ctx} {kx elt tg iter c : Expr} {scope : Scope} {own : List (Str × Nat)} {pos : Pos} {fi : CT G → Res (List α)} {dn : CT G → CT G0} {bk : CT G → CT G0 → CT G} {put : CT G0 → α → CT G1} {ft : CT G1 → Res Bool} {fk : CT G1 → Res κ} {fe : CT G1 → Res β} {dn1 : CT G1 → CT G0} {bk1 : CT G1 → CT G0 → CT G1}
    (hi : RIX A G tg iter ci fi) (ok : BlkOk A.X.N A.X.env.scope scope own) (wc : WipeC 0 (own.map (fun x : Str × Nat => x.2)) G G0 dn bk)
    (hg : ∀ s H C cl fp, GX (A.blk (own.map (fun x : Str × Nat => x.2)) s H scope C cl fp) G0 tg ci G1 put) (ht : ∀ s H C cl fp, RTX (A.blk (own.map (fun x : Str × Nat => x.2)) s H scope C cl fp) G1 c ft) (hk : ∀ s H C cl fp, RX (A.blk (own.map (fun x : Str × Nat => x.2)) s H scope C cl fp) G1 kx (rV kc.c) fk) (he : ∀ s H C cl fp, RX (A.blk (own.map (fun x : Str × Nat => x.2)) s H scope C cl fp) G1 elt (rV ce) fe)
    (wc1 : WipeC 0 (own.map (fun x : Str × Nat => x.2)) G1 G0 dn1 bk1) (h1 : ∀ q x, dn1 (put q x) = q := by intros; rfl) (h2 : ∀ p, bk p (dn p) = p := by intros; rfl) (hs : ∀ x, foldedSetIterable iter A.X.env x = pure x := by intro _; rfl) :
    RX A G (.DictComp kx elt [⟨tg, iter, [c], 0⟩] scope pos) (rO (oD kc ce)) (fun p => Res.bind (fi p) fun xs => Res.bind (lcP (fun x => ft (put (dn p) x)) (fun x => Res.bind (fk (put (dn p) x)) fun k => Res.bind (fe (put (dn p) x)) fun z => .ok (k, z)) xs) fun es => .ok (mkD es)) :=
  ex_eq (fun p => by
    simp only [rbok, Res.bind_assoc, h1]
    congr 1
    funext xs
    rw [lcL_P (t := fun x => ft (put (dn p) x)) (g := fun x => Res.bind (fk (put (dn p) x)) fun k => Res.bind (fe (put (dn p) x)) fun z => .ok (k, z)) (fun x => by simp only [rbok, Res.bind_assoc])]
    simp only [rbok, Res.bind_assoc, h2]) (ex_dcIf hi ok wc hg ht hk he wc1 hs)
end
end AC
set_option Elab.async false
set_option linter.all false
set_option maxRecDepth 100000
set_option maxHeartbeats 1000000
/-! TL40: sorted of a tuple; an empty tuple as a default. -/
namespace L2
open PySem PySem.Spec PySem.W PyProof.Rows
section
variable {X : Cx}
def rSortedAT (X : Cx) {β : Type} (enc : β → PyData) : List V → Hp → VK → Prop := fun vs H Q => ∃ (a : Addr) (xs : List V) (bs : List β) (R : V → β → Prop), vs = [.ref a] ∧ SqT X.K H a xs ∧ Paired R xs bs ∧ (∀ x b, R x b → Dp X.K H x (enc b)) ∧ AllAlike (bs.map enc) ∧ Sortable (bs.map enc) ∧ (∀ b ∈ bs, X.A.units + 2 + (enc b).depth < cLine) ∧
  ∀ ys p, Paired R ys (bs.mergeSort (dataLe false enc)) → H p = none → Q (.ref p) (upd H p (.lst ys))
theorem cr_sortedAT {β : Type} {enc : β → PyData} : CallR X (.builtin "sorted") (rSortedAT X enc) := by
  intro pins s σ H vs us Q I r h
  obtain ⟨a, xs, bs, R, rfl, hs, hp, hd, hal, hk, hu, q⟩ := h
  obtain ⟨its, rv, ⟨o, ho, hc, n, hdat⟩, hz⟩ := I.tuple hs
  rw [Vals.ref1 r]
  have e := vals_each rv hp
  have lb : its.length = bs.length := e.length
  have lv := rv.length
  refine Calls.call_function_entry PyProof.Rows.kind_sorted PyProof.Rows.plain_sorted PyProof.Rows.entry_sorted (PyProof.Rows.args_sorted1 _) ?_
  unfold Builtin.«sorted»
  refine wpAny_bind (m := checkCount "sorted" 1 1 _) (wpAny_pure ?_)
  refine wpAny_bind (wpAny_collect_seq (A := X.A.in1) a (.inr rfl) ho hc hdat (fun h' hkp => ?_) (by rw [List.size_toArray]; omega))
  refine wpAny_bind (wpAny_newList ?_ (by simp only [List.toList_toArray]; omega))
  have hoL : (h'.push (seqObj "list" its.toArray 0)).get? h'.objs.size = some (seqObj "list" its.toArray 0) := Heap.get?_push_size _ rfl
  show wpAny _ _ _ _ _ { s with heap := h'.push (seqObj "list" its.toArray 0) }
  have er : EachIs (fun v (b : β) => ∃ ws, Reads (sortingHeap (h'.push (seqObj "list" its.toArray 0)) h'.objs.size its) v (enc b) ws) its bs := e.mono fun u b ⟨x, r1, r2⟩ => by
    obtain ⟨ws, hw⟩ := Dp.reads I _ _ _ (hd x b r2) r1
    exact ⟨ws, PyProof.Rows.Reads.keeps (fun b' o' q => sortingHeap_old (Nat.ne_of_lt (Heap.lt_size (hkp b' o' q))) (Heap.get?_push_of_some _ (hkp b' o' q))) hw⟩
  refine wpAny_bind (wpAny_holding (wpAny_call_entry slot_list_sort ⟨_, hoL, rfl⟩ entry_list_sort (list_sort_vals (κ := dataKind (sortingHeap (h'.push (seqObj "list" its.toArray 0)) h'.objs.size its) (bs.map enc)) (s := { s with heap := h'.push (seqObj "list" its.toArray 0) }) hoL (SortsAt.data (s := { s with heap := sortingHeap (h'.push (seqObj "list" its.toArray 0)) h'.objs.size its }) (each_map (R := fun v d => ∃ ws, Reads (sortingHeap (h'.push (seqObj "list" its.toArray 0)) h'.objs.size its) v d ws) enc er) hal hk (bound_map fun b hb => by
    have := hu b hb
    show X.A.units + 1 + 1 + _ < _
    omega)) (by omega) ⟨.none, rfl, ?_⟩) (args_list_sort _)))
  have eo := sortVals_data (h' := sortingHeap (h'.push (seqObj "list" its.toArray 0)) h'.objs.size its) false e er hal
  have lo := sortVals_length (κ := dataKind (sortingHeap (h'.push (seqObj "list" its.toArray 0)) h'.objs.size its) (bs.map enc)) (vs := its) (ks := its) false rfl
  generalize sortVals (dataKind (sortingHeap (h'.push (seqObj "list" its.toArray 0)) h'.objs.size its) (bs.map enc)) false its its = out at eo lo ⊢
  obtain ⟨ys, v1, v2⟩ := each_vals eo
  obtain ⟨ep, he'⟩ := PyProof.Rows.sortedHeap_at (vs := its) (out := out.toArray) hoL
  have hlen : ys.length ≤ sizeLine := by rw [v1.length, lo, ← lv]; exact hz
  have I1 : Inv X pins σ H { s with heap := h', toks := s.toks } := I.kept (t' := s.toks) hkp
  refine wpAny_pure ⟨_, rfl, .ref h'.objs.size, upd H h'.objs.size (.lst ys), I1.laid (t' := s.toks) (fun b u e => ?_) (Nat.le_refl _)
    (show ObjOk X.prog X.w _ _ _ (.lst _) from ⟨hlen, out, ep, v1, he'⟩), rfl, q _ _ v2 (I1.hok.fresh (Nat.le_refl _))⟩
  have hb : b < h'.objs.size := Heap.lt_size e
  rw [PyProof.Rows.sortedHeap_old (Nat.ne_of_lt hb) (by rw [size_push']; exact Nat.lt_succ_of_lt hb)]
  exact Heap.get?_push_of_some _ e
end
end L2
namespace AC
open PySem L2 PyProof PySem.W
section
variable {A : Amb}
theorem ct_sortedT {α : Type} {c : Cod α} {t : α → PyData} {n : Nat} (h : DC c t n) (hn : n ≤ 60) : CalT A (.builtin "sorted") (aOne (cTV c)) (sortO t) (rO (oL c)) := ⟨_, cr_sortedAT (enc := t), fun L H vs x z Q w ⟨v, e, a, ws, e1, h1, l1, p1⟩ h2 q => by
  subst e e1
  unfold sortO at h2
  split at h2
  · rename_i hb
    cases h2
    obtain ⟨b1, b2⟩ := sortB_of hb
    refine ⟨a, ws, x, fun v b => c.see A.X.K (rd L H) v b, rfl, (SeeT.same rd_sub h1).sq, p1, fun v b hv => dp_same rd_sub (h _ _ _ _ hv).1, b1, b2, fun b hb => ?_, fun ys p hp hH => ?_⟩
    · obtain ⟨i, hi⟩ := List.mem_iff_getElem?.mp hb
      obtain ⟨v, _, hv⟩ := paired_get p1 hi
      have := (h _ _ _ _ hv).2.2
      have := room65 (A := A)
      omega
    · obtain ⟨t1, t2⟩ := ext_new (o := .lst ys) w hH
      have hy : ys.length ≤ sizeLine := by
        rw [paired_len hp, List.length_mergeSort, ← paired_len p1]; exact l1
      exact q _ _ _ t1 t2 (own_new w hH hy hp)
  · cases h2⟩
end
end AC
set_option Elab.async false
set_option linter.all false
set_option maxRecDepth 100000
set_option maxHeartbeats 1000000
/-! TL41: a display of several things taken apart into names; slices of tuples. -/
namespace AC
open PySem L2 PyProof
/-- an own tuple's parts become slots -/
structure OAsg (G0 : Ctx) {β : Type} (as : OArg β) (js : List Nat) (G1 : Ctx) (op : CT G0 → β → CT G1) : Prop where
  ok : ∀ (K : Frag) (c : CT G0) (x : β) (vs : List V) (L : Lab) (H : Hp) (o : St) (M : Addr → Option (List Nat)) (k : Nat), CR K 0 G0 c L H o → as.own K (rd L H) M H [] k vs x → (∀ i j, js[i]? = some j → ∀ a t, M a = some (t ++ [0, k + i]) → sub L (j + 1) a = some t) → vs.length = js.length ∧ CR K 0 G1 (op c x) L H (setAll o js vs)
theorem oa_v1 {G0 G1 : Ctx} {α : Type} {c : Cod α} {i : Nat} {put : CT G0 → α → CT G1} (u : Upd G0 i (sVal c) G1 put) : OAsg G0 (oV1 c) [i] G1 put := ⟨fun K p x vs L H o M k cr ⟨v, e, h⟩ _ => by
  subst e
  have := u.ok _ 0 _ x v _ _ _ cr ⟨v, rfl, h⟩
  rw [Nat.zero_add] at this
  exact ⟨rfl, this⟩⟩
theorem own_slot {α : Type} {oc : OCod α} (un : UnO oc) {K : Frag} {L : Lab} {H : Hp} {M : Addr → Option (List Nat)} {k j : Nat} {v : V} {x : α} (h : oc.own K (rd L H) M H (0 :: k :: []) v x) (hm : ∀ a t, M a = some (t ++ [0, k]) → sub L (j + 1) a = some t) : oc.own K (rd L H) (sub L (j + 1)) H [] v x := by
  have z := un K _ M H [] [0, k] v x h
  refine oc.mono _ _ _ _ _ _ _ _ _ _ (fun _ _ q => q) (fun a m em => ⟨?_, rfl⟩) z
  have em : (M a).bind (cutP [0, k]) = some m := em
  cases e : M a with
  | none => rw [e] at em; cases em
  | some m' =>
    rw [e] at em
    have := cut_of (show cutP [0, k] m' = some m from em)
    exact hm a m (by rw [e, this])
theorem oa_o1 {G0 G1 : Ctx} {α : Type} {oc : OCod α} {j : Nat} {put : CT G0 → α → CT G1} (un : UnO oc) (u : Upd G0 j (sOwn PAny oc) G1 put) : OAsg G0 (oO1 oc) [j] G1 put := ⟨fun K p x vs L H o M k cr ⟨v, e, h⟩ hm => by
  subst e
  have := u.ok K 0 p x v _ _ _ cr ⟨v, trivial, rfl, by rw [Nat.zero_add]; exact own_slot un h fun a t q => hm 0 j rfl a t q⟩
  rw [Nat.zero_add] at this
  exact ⟨rfl, this⟩⟩
theorem oa_vc {G0 Ga G1 : Ctx} {α β : Type} {c : Cod α} {as : OArg β} {i : Nat} {js : List Nat} {put : CT G0 → α → CT Ga} {put2 : CT Ga → β → CT G1} (u : Upd G0 i (sVal c) Ga put) (h : OAsg Ga as js G1 put2) : OAsg G0 (oVc c as) (i :: js) G1 (fun p x => put2 (put p x.1) x.2) := ⟨fun K p x vs L H o M k cr ⟨v, ws, e, q, q'⟩ hm => by
  subst e
  have := u.ok _ 0 _ x.1 v _ _ _ cr ⟨v, rfl, q⟩
  rw [Nat.zero_add] at this
  obtain ⟨h1, h2⟩ := h.ok _ _ x.2 ws _ _ _ M (k + 1) this q' fun i j hj a t e => hm (i + 1) j (by simpa using hj) a t (by rw [show k + (i + 1) = k + 1 + i by omega]; exact e)
  exact ⟨by rw [List.length_cons, List.length_cons, h1], h2⟩⟩
theorem oa_oc {G0 Ga G1 : Ctx} {α β : Type} {oc : OCod α} {as : OArg β} {j : Nat} {js : List Nat} {put : CT G0 → α → CT Ga} {put2 : CT Ga → β → CT G1} (un : UnO oc) (u : Upd G0 j (sOwn PAny oc) Ga put) (h : OAsg Ga as js G1 put2) : OAsg G0 (oOc oc as) (j :: js) G1 (fun p x => put2 (put p x.1) x.2) := ⟨fun K p x vs L H o M k cr ⟨v, ws, e, q, q'⟩ hm => by
  subst e
  have := u.ok K 0 p x.1 v _ _ _ cr ⟨v, trivial, rfl, by rw [Nat.zero_add]; exact own_slot un q fun a t z => hm 0 j rfl a t z⟩
  rw [Nat.zero_add] at this
  obtain ⟨h1, h2⟩ := h.ok _ _ x.2 ws _ _ _ M (k + 1) this q' fun i j hj a t e => hm (i + 1) j (by simpa using hj) a t (by rw [show k + (i + 1) = k + 1 + i by omega]; exact e)
  exact ⟨by rw [List.length_cons, List.length_cons, h1], h2⟩⟩
/-- the parts' new labels -/
def cutJ (js : List Nat) (m : List Nat) : Option (Nat × List Nat) := (js.zipIdx).findSome? fun z => (cutP [0, z.2] m).map fun t => (z.1 + 1, t)
theorem cutJ_some {js m : List Nat} {y : Nat × List Nat} (h : cutJ js m = some y) : ∃ (i j : Nat) (t : List Nat), js[i]? = some j ∧ m = t ++ [0, i] ∧ y = (j + 1, t) := by
  unfold cutJ at h
  obtain ⟨z, hz, e⟩ := List.exists_of_findSome?_eq_some h
  cases e1 : cutP [0, z.2] m with
  | none => rw [e1] at e; cases e
  | some t =>
    rw [e1] at e
    refine ⟨z.2, z.1, t, ?_, cut_of e1, (Option.some.inj e).symm⟩
    exact List.mem_zipIdx_iff_getElem?.mp hz
theorem cutJ_at {js t : List Nat} {i j : Nat} (h : js[i]? = some j) : cutJ js (t ++ [0, i]) = some (j + 1, t) := by
  cases e : cutJ js (t ++ [0, i]) with
  | none =>
    unfold cutJ at e
    rw [List.findSome?_eq_none_iff] at e
    have := e (j, i) (List.mem_zipIdx_iff_getElem?.mpr h)
    rw [cut_app] at this
    cases this
  | some y =>
    obtain ⟨i', j', t', h1, h2, rfl⟩ := cutJ_some e
    have := List.append_inj' h2 rfl
    have h3 : i = i' := by simpa using this.2
    subst h3
    rw [h] at h1
    cases h1
    rw [this.1]
section
variable {A : Amb} {G G' : Ctx} {ρ : Type} {R : Rr ρ}
/-- x, y, z = .., .., .. (a tuple is made and taken apart) -/
theorem sx_asgOT {β : Type} {as : OArg β} {js : List Nat} {es : List Expr} {kk : Nat} {px pos : Pos} {e : Expr} {f : CT G → Res (β × CT G)} {op : CT G → β → CT G'} (h : EX A G e (rO (oT as)) f) (oa : OAsg G as js G' op) (hS : ∀ k, k ∈ js → A.S k) (nm : PGs A.X es (gAll js)) (hn : (assignEach es A.X.env).length = js.length) (hst : (assignEach es A.X.env).findIdx? (·.1) = none)
    (hs : swapsWithSole [.Tuple es kk px] e pos.line A.X.env = pure false := by rfl) (hw : swappedStores [.Tuple es kk px] e A.X.env = pure none := by rfl) (h1 : (assignEach [.Tuple es kk px] A.X.env).map (·.2) = [assign (.Tuple es kk px) A.X.env] := by rfl) :
    SX A G (.Assign [.Tuple es kk px] e pos) G' R (fun p => Res.bind (f p) fun y => .ok (.nx (op y.2 y.1))) :=
  ps_weak (ps_asg h (nm_tup nm hn hst) hs hw h1) fun D o H ⟨p, L, w, cr, k⟩ => ⟨p, L, w, cr, k.bind.imp fun y _ q v L' H' s' w' c' ⟨M, m1, a, vs, e1, h2, h3⟩ => by
    subst e1
    let L2 : Lab := fun b => match M b with | some m => cutJ js m | none => L' b
    have l2n : ∀ b, M b = none → L2 b = L' b := fun b hb => by show (match M b with | some m => cutJ js m | none => L' b) = _; rw [hb]
    have l2s : ∀ b m, M b = some m → L2 b = cutJ js m := fun b m hb => by show (match M b with | some m => cutJ js m | none => L' b) = _; rw [hb]
    have hk : ∀ b, L' b ≠ none → M b = none := fun b hb => by
      cases em : M b with
      | none => rfl
      | some m => exact absurd (m1 b m em).1 hb
    have more : ∀ b, L' b ≠ none → L2 b = L' b := fun b hb => l2n b (hk b hb)
    have c2 := cr_more more c'
    have w2 : Wf L2 H' := ⟨fun b hb => by
      cases em : M b with
      | none => rw [l2n b em] at hb; exact w'.dom b hb
      | some m => exact (m1 b m em).2.1.ne, fun b k' l eb => by
      cases em : M b with
      | none => rw [l2n b em] at eb; exact w'.soft b k' l eb
      | some m =>
        rw [l2s b m em] at eb
        obtain ⟨i, j, t, hj, hm, hy⟩ := cutJ_some eb
        cases hy
        have := (m1 b m em).2.1
        rw [hm] at this
        exact nt_cut rfl this⟩
    have st : Stp L H L2 H' := stp_more s' fun b => by
      cases em : M b with
      | none => exact .inl (l2n b em)
      | some m => exact .inr ⟨(m1 b m em).1, (m1 b m em).2.2⟩
    have own2 : as.own A.X.K (rd L2 H') M H' [] 0 vs y.1 := as.mono _ _ _ _ _ _ _ _ _ _ _ (rd_more more) (fun b m em => ⟨em, rfl⟩) h3
    obtain ⟨hl, c3⟩ := oa.ok _ _ y.1 vs L2 H' o M 0 c2 own2 fun i j hj b t em => sub_mk (by rw [l2s b _ em, Nat.zero_add, cutJ_at hj])
    exact ⟨a, vs, rfl, ((h2.same (rd_more more)).same rd_sub).sq, hl, hl, (show nxP A G' R L H o D (.nx _) from q) _ L2 H' st w2 c3 (keeps_setAll hS)⟩⟩
/-- slices of tuples, shorter ones -/
def cutTO {α : Type} (xs : List α) (lo hi : Option Int) : Option (List α) := if HT.sIx xs.length 0 lo = 0 ∧ HT.sIx xs.length xs.length hi = xs.length then none else some (cutL xs lo hi)
theorem ex_cutT {α : Type} {c : Cod α} {e : Expr} {lo hi : Option Expr} {p2 pos : Pos} {f : CT G → Res (List α × CT G)} {fl fh : CT G → Res (Option Int × CT G)} (h : EX A G e (rV (cTV c)) f) (hl : OX A G lo fl) (hh : OX A G hi fh) :
    EX A G (.Subscript e (.Slice lo hi none p2) pos) (rV (cTV c)) (fun p => Res.bind (f p) fun y => Res.bind (fl y.2) fun z => Res.bind (fh z.2) fun u => Res.bind (ofO (cutTO y.1 z.1 u.1)) fun x => .ok (x, u.2)) :=
  pe_weak (pe_slice sl_tup h hl hh) fun o H Q ⟨p, L, w, cr, k⟩ => ⟨p, L, w, cr, k.bind.imp fun y _ gy v L1 H1 s1 w1 c1 ⟨a, vs, e1, h1, l1, p1⟩ => ⟨y.2, L1, w1, c1, (gy.bind.step s1).imp fun z _ gz L2 H2 s2 w2 c2 => ⟨z.2, L2, w2, c2, (gz.bind.step (s1.trans s2)).imp fun u _ gu L3 H3 s3 w3 c3 => by
    subst e1
    have s23 := s2.trans s3
    obtain ⟨x, ex, gx⟩ := good_ofO gu
    unfold cutTO at ex
    split at ex
    · cases ex
    · rename_i hw
      cases ex
      have hlen := paired_len p1
      refine ⟨a, vs, rfl, ((h1.same s23.rd).same rd_sub).sq, ?_, fun q hq => ?_⟩
      · rw [← hlen] at hw
        exact hw
      · obtain ⟨t1, t2⟩ := ext_val (o := .tup (cutV vs z.1 u.1)) w3 hq
        exact gx (.ref q) _ _ ((s1.trans s23).trans t1.stp) t2 (c3.ext w3 t1) ⟨q, _, rfl, .inl (rd_mk setL_same upd_same), Nat.le_trans (cutV_length _ _ _) l1, paired_mono (fun _ _ q => c.mono _ _ _ _ _ t1.stp.rd (c.mono _ _ _ _ _ s23.rd q)) (paired_cut p1 _ _)⟩⟩⟩⟩
end
end AC
set_option Elab.async false
set_option linter.all false
set_option maxRecDepth 100000
set_option maxHeartbeats 1000000
/-! TL42: x = {k: v for ..} on one line; classes called with a default that is a tuple. -/
namespace L2
open PySem PySem.Spec PyProof.Rows
section
variable {X : Cx}
theorem ps_setDc {i : Nat} {y : Str} {py : Pos} {kx vx tg iter : Expr} {ifs : List Expr} {scope : Scope} {own : List (Str × Nat)} {pos spos : Pos} {wi : TI} {g : TG} {tt : TT} {tk tv : TE} (hc : X.calm = true) (hN : X.N.Nodup) (hy : X.N[i]? = some y) (hyl : X.env.scope.names.lookup y = some .local)
    (hsw : swapsWith (.DictComp kx vx [⟨tg, iter, ifs, 0⟩] scope pos) (some (.Name y py)) spos.line X.env = pure true) (hi : PI X tg iter wi) (ok : BlkOk X.N X.env.scope scope own)
    (hg : ∀ (s : Shared) (H : Hp) (C : Addr) (cl : List (Str × Addr)) (fp : List Addr), PG (X.blk s H scope (compEnvC scope cl C X.env) fp) tg g) (ht : ∀ (s : Shared) (H : Hp) (C : Addr) (cl : List (Str × Addr)) (fp : List Addr), PTs (X.blk s H scope (compEnvC scope cl C X.env) fp) ifs tt)
    (hk : ∀ (s : Shared) (H : Hp) (C : Addr) (cl : List (Str × Addr)) (fp : List Addr), PE (X.blk s H scope (compEnvC scope cl C X.env) fp) kx tk)
    (he : ∀ (s : Shared) (H : Hp) (C : Addr) (cl : List (Str × Addr)) (fp : List Addr), PE (X.blk s H scope (compEnvC scope cl C X.env) fp) vx tv) (hs : ∀ x, foldedSetIterable iter X.env x = pure x := by intro _; rfl) :
    PS X (.Assign [.Name y py] (.DictComp kx vx [⟨tg, iter, ifs, 0⟩] scope pos) spos) (tAsg (tDc wi g tt tk tv (own.map (·.2))) (gName i)) := by
  refine ⟨fun pins s σ H D I h => ?_⟩
  rw [exec_Assign_Name_used _ _ _ _ hsw]
  refine wpAny_bind (wpAny_standAt (wpAny_bind ?_))
  show wpAny _ X.A (do let _ ← comprehension (.DictComp kx vx [⟨tg, iter, ifs, 0⟩] scope pos) scope X.env (firstIterPos [⟨tg, iter, ifs, 0⟩] pos) newDict false (eval iter X.env) (some (assign (.Name y py) X.env))) _ _ s
  have h : tDc wi g tt tk tv (own.map (·.2)) σ H (fun x H1 => gName i x σ H1 D.nx) := h
  refine wpAny_bind (thn (dc_core (Qf := fun _ s' => SP X pins D .next s') hc hN I hi ok hg ht hk he hs h fun L C s' m H' I' q hn f => ?_) fun _ s' hq => wpAny_pure (wpAny_pure hq))
  show wpAny _ _ (assign (.Name y py) X.env (.ref L)) _ _ _
  refine wpAny_assign_Name (store_ok2 (v := V.ref L) I' hN hy (.inl hyl) rfl (fun s2 I2 ⟨a, sb, ha⟩ => ?_) (.inr hyl))
  obtain ⟨f0, f1, f2, f3, f4, f5⟩ := f
  have haC : C ≠ a := by
    rcases ha with z | z
    · rw [z]; exact f1
    · exact fun e => f4 y a z e.symm
  refine ⟨m, hn.sameBut sb haC, fun h3 sb3 => ?_⟩
  exact ⟨_, H', I2.turned (t' := s2.toks) (fun b o hb e => (sb3.2 b hb).trans e) f0 f1 f3 f4 f5, q⟩
end
end L2
namespace AC
open PySem L2 PyProof
section
variable {A : Amb} {G G' : Ctx} {ρ : Type} {R : Rr ρ}
theorem sx_setDcIf {α κ β : Type} [DecidableEq κ] {ci : Cod α} {kc : KeyC κ} {ce : Cod β} {G0 G1 : Ctx} {i : Nat} {x : Str} {px spos : Pos} {kx elt tg iter c : Expr} {scope : Scope} {own : List (Str × Nat)} {pos : Pos} {fi : CT G → Res (List α × CT G)} {dn : CT G → CT G0} {bk : CT G → CT G0 → CT G} {pu : CT G0 → α → CT G1} {ft : CT G1 → Res (Bool × CT G1)} {fk : CT G1 → Res (κ × CT G1)} {fe : CT G1 → Res (β × CT G1)} {dn1 : CT G1 → CT G0} {bk1 : CT G1 → CT G0 → CT G1} {put : CT G → List (κ × β) → CT G'}
    (u : Upd G i (sOwn PAny (oD kc ce)) G' put) (hx : A.X.N[i]? = some x) (hxl : A.X.env.scope.names.lookup x = some .local) (hS : A.S i)
    (hi : IX A G tg iter ci fi) (ok : BlkOk A.X.N A.X.env.scope scope own) (wc : WipeC 0 (own.map (fun x : Str × Nat => x.2)) G G0 dn bk)
    (hg : ∀ s H C cl fp, GX (A.blk (own.map (fun x : Str × Nat => x.2)) s H scope C cl fp) G0 tg ci G1 pu) (ht : ∀ s H C cl fp, TX (A.blk (own.map (fun x : Str × Nat => x.2)) s H scope C cl fp) G1 c ft) (hk : ∀ s H C cl fp, EX (A.blk (own.map (fun x : Str × Nat => x.2)) s H scope C cl fp) G1 kx (rV kc.c) fk) (he : ∀ s H C cl fp, EX (A.blk (own.map (fun x : Str × Nat => x.2)) s H scope C cl fp) G1 elt (rV ce) fe)
    (wc1 : WipeC 0 (own.map (fun x : Str × Nat => x.2)) G1 G0 dn1 bk1) (hsw : swapsWith (.DictComp kx elt [⟨tg, iter, [c], 0⟩] scope pos) (some (.Name x px)) spos.line A.X.env = pure true) (hs : ∀ x, foldedSetIterable iter A.X.env x = pure x := by intro _; rfl) :
    SX A G (.Assign [.Name x px] (.DictComp kx elt [⟨tg, iter, [c], 0⟩] scope pos) spos) G' R (fun p => Res.bind (Res.bind (fi p) fun y => Res.bind (lcL y.1 (fun x q => Res.bind (ft (pu q x)) fun t => if t.1 = true then Res.bind (fk t.2) fun k => Res.bind (fe k.2) fun z => .ok (some (k.1, z.1), dn1 z.2) else .ok (none, dn1 t.2)) (dn y.2)) fun z => .ok (mkD z.1, bk y.2 z.2)) fun y => .ok (.nx (put y.2 y.1))) :=
  ps_weak (ps_setDc A.calm A.nd hx hxl hsw hi ok (g := tG (A.blk (own.map (fun x : Str × Nat => x.2)) A.X.s_0 A.X.H_0 scope 0 [] []) ci G0 G1 pu) (tt := tT (A.blk (own.map (fun x : Str × Nat => x.2)) A.X.s_0 A.X.H_0 scope 0 [] []) G1 ft) (tk := tE (A.blk (own.map (fun x : Str × Nat => x.2)) A.X.s_0 A.X.H_0 scope 0 [] []) G1 (rV kc.c) fk) (tv := tE (A.blk (own.map (fun x : Str × Nat => x.2)) A.X.s_0 A.X.H_0 scope 0 [] []) G1 (rV ce) fe)
    (fun s H C cl fp => hg s H C cl fp) (fun s H C cl fp => pts_one (ht s H C cl fp)) (fun s H C cl fp => hk s H C cl fp) (fun s H C cl fp => he s H C cl fp) hs) fun D o H q => st_reads st_o u hS (fun o H Q q => dc_reads (A := A) (A.blk (own.map (fun x : Str × Nat => x.2)) A.X.s_0 A.X.H_0 scope 0 [] []) rfl blk_S wc wc1 q) q
theorem rsx_setDcIf {α κ β : Type} [DecidableEq κ] {ci : Cod α} {kc : KeyC κ} {ce : Cod β} {G0 G1 : Ctx} {i : Nat} {x : Str} {px spos : Pos} {kx elt tg iter c : Expr} {scope : Scope} {own : List (Str × Nat)} {pos : Pos} {fi : CT G → Res (List α)} {dn : CT G → CT G0} {bk : CT G → CT G0 → CT G} {pu : CT G0 → α → CT G1} {ft : CT G1 → Res Bool} {fk : CT G1 → Res κ} {fe : CT G1 → Res β} {dn1 : CT G1 → CT G0} {bk1 : CT G1 → CT G0 → CT G1} {put : CT G → List (κ × β) → CT G'}
    (u : Upd G i (sOwn PAny (oD kc ce)) G' put) (hx : A.X.N[i]? = some x) (hxl : A.X.env.scope.names.lookup x = some .local) (hS : A.S i)
    (hi : RIX A G tg iter ci fi) (ok : BlkOk A.X.N A.X.env.scope scope own) (wc : WipeC 0 (own.map (fun x : Str × Nat => x.2)) G G0 dn bk)
    (hg : ∀ s H C cl fp, GX (A.blk (own.map (fun x : Str × Nat => x.2)) s H scope C cl fp) G0 tg ci G1 pu) (ht : ∀ s H C cl fp, RTX (A.blk (own.map (fun x : Str × Nat => x.2)) s H scope C cl fp) G1 c ft) (hk : ∀ s H C cl fp, RX (A.blk (own.map (fun x : Str × Nat => x.2)) s H scope C cl fp) G1 kx (rV kc.c) fk) (he : ∀ s H C cl fp, RX (A.blk (own.map (fun x : Str × Nat => x.2)) s H scope C cl fp) G1 elt (rV ce) fe)
    (wc1 : WipeC 0 (own.map (fun x : Str × Nat => x.2)) G1 G0 dn1 bk1) (hsw : swapsWith (.DictComp kx elt [⟨tg, iter, [c], 0⟩] scope pos) (some (.Name x px)) spos.line A.X.env = pure true) (h1 : ∀ q x, dn1 (pu q x) = q := by intros; rfl) (h2 : ∀ p, bk p (dn p) = p := by intros; rfl) (hs : ∀ x, foldedSetIterable iter A.X.env x = pure x := by intro _; rfl) :
    SX A G (.Assign [.Name x px] (.DictComp kx elt [⟨tg, iter, [c], 0⟩] scope pos) spos) G' R (fun p => Res.bind (Res.bind (fi p) fun xs => lcP (fun x => ft (pu (dn p) x)) (fun x => Res.bind (fk (pu (dn p) x)) fun k => Res.bind (fe (pu (dn p) x)) fun z => .ok (k, z)) xs) fun es => .ok (.nx (put p (mkD es)))) :=
  sx_eq (fun p => by
    simp only [rbok, Res.bind_assoc, h1]
    congr 1
    funext xs
    rw [lcL_P (t := fun x => ft (pu (dn p) x)) (g := fun x => Res.bind (fk (pu (dn p) x)) fun k => Res.bind (fe (pu (dn p) x)) fun z => .ok (k, z)) (fun x => by simp only [rbok, Res.bind_assoc])]
    simp only [rbok, Res.bind_assoc, h2]) (sx_setDcIf u hx hxl hS hi ok wc hg ht hk he wc1 hsw hs)
/-- a class called, a default known by its address -/
theorem ex_makK {α β γ δ : Type} {as : ArgC α} {bs : ArgC β} {cs : ArgC γ} {C : Addr} {fc : FldC δ} {F : γ → Res δ} {k n : Nat} {x : Str} {ks : List Str} {gV : List V → List V → List V} {es : List Expr} {kws : List Keyword} {p pos : Pos} {fa : CT G → Res ((α × β) × CT G)} (mp : α → β → γ) (D : MakQ A k x C n ks gV (spN A.X.K A.ca C cs fc F)) (hk : k + 1 ≤ A.lv) (gl : Gl A.X x) (ha : CAX A G pos es kws ks as bs fa) (hn : as.n + 1 = n) (hm : bs.n = ks.length)
    (see : ∀ R vs zs x y, as.see A.X.K R vs x → bs.see A.X.K R zs y → ∃ ws, (∀ v, gV (v :: vs) zs = v :: ws) ∧ cs.see A.X.K R ws (mp x y)) (hdb : (x == ("__debug__" : Str)) = false := by decide) :
    EX A G (.Call (.Name x p) es kws pos) (rV (cIns C fc)) (fun p => Res.bind (fa p) fun y => Res.bind (F (mp y.1.1 y.1.2)) fun z => .ok (z, y.2)) := by
  obtain ⟨f, fd, ps, F1, M, g, hb⟩ := D.ex
  refine ⟨fun pins s o H Q I ⟨p, L, w, cr, q⟩ => wpAny_Call_Name_kw (ld_glob I gl D.mg ?_ hdb)⟩
  refine ha.run pins s o H (fun vs zs H1 => ∀ x dx, H1 x = none → H1 dx = none → dx ≠ x → spN A.X.K A.ca C cs fc F (gV (.ref x :: vs) zs) (upd (upd H1 dx (.own x)) x (.ins C dx [])) (fun v H2 => v = .non ∧ Q (.ref x) H2) (WE A.W o)) (.ref C) [] _ I M.kp ⟨p, L, w, cr, q.bind.imp fun y _ gy vs zs L1 H1 s1 w1 c1 h1 h2 x dx q1 q2 q3 => ?_⟩ ?_
  · obtain ⟨ws, e1, e2⟩ := see _ _ _ _ _ h1 h2
    rw [e1]
    exact make_reads (F := F) (Pg := fun _ => True) w1 c1 e2 ((gy.bind.step s1).imp fun z _ gz v L2 H2 s2 w2 c2 r2 => gz v L2 H2 (s1.trans s2) w2 c2 r2) x dx q1 q2 q3
  · intro us ws vs zs H1 s1 I1 rv rz l1 l2 hsp
    exact run_mkN M F1 hk hb I1 hsp rv rz (by rw [l1]; exact hn) (l2.trans hm)
theorem rex_makK {α β γ δ : Type} {as : ArgC α} {bs : ArgC β} {cs : ArgC γ} {C : Addr} {fc : FldC δ} {F : γ → Res δ} {k n : Nat} {x : Str} {ks : List Str} {gV : List V → List V → List V} {es : List Expr} {kws : List Keyword} {p pos : Pos} {fa : CT G → Res (α × β)} (mp : α → β → γ) (D : MakQ A k x C n ks gV (spN A.X.K A.ca C cs fc F)) (hk : k + 1 ≤ A.lv) (gl : Gl A.X x) (ha : RCA A G pos es kws ks as bs fa) (hn : as.n + 1 = n) (hm : bs.n = ks.length)
    (see : ∀ R vs zs x y, as.see A.X.K R vs x → bs.see A.X.K R zs y → ∃ ws, (∀ v, gV (v :: vs) zs = v :: ws) ∧ cs.see A.X.K R ws (mp x y)) (hdb : (x == ("__debug__" : Str)) = false := by decide) :
    RX A G (.Call (.Name x p) es kws pos) (rV (cIns C fc)) (fun p => Res.bind (fa p) fun x => F (mp x.1 x.2)) :=
  ex_eq (fun p => by simp only [rbok, Res.bind_assoc]) (ex_makK mp D hk gl ha hn hm see hdb)
end
end AC
set_option Elab.async false
set_option linter.all false
set_option maxRecDepth 100000
/-! TM1: plain laws of results. -/
namespace AC
open PySem L2 PyProof

/-- it ends well, and so -/
def Ok {α : Type} (m : Res α) (P : α → Prop) : Prop := match m with
  | .ok x => P x
  | _ => False
theorem ok_ok {α : Type} {x : α} {P : α → Prop} (h : P x) : Ok (.ok x) P := h
theorem Ok.imp {α : Type} {m : Res α} {P Q : α → Prop} (h : Ok m P) (i : ∀ x, P x → Q x) : Ok m Q := by
  cases m with
  | ok x => exact i x h
  | exc e => exact h
  | bad => exact h
theorem Ok.bind {α β : Type} {m : Res α} {f : α → Res β} {P : β → Prop} (h : Ok m fun x => Ok (f x) P) : Ok (Res.bind m f) P := by
  cases m with
  | ok x => exact h
  | exc e => exact h
  | bad => exact h
theorem ok_bind {α β : Type} {m : Res α} {f : α → Res β} {Q : α → Prop} {P : β → Prop} (h : Ok m Q) (k : ∀ x, Q x → Ok (f x) P) : Ok (Res.bind m f) P := (h.imp k).bind
theorem ok_ofO {α β : Type} {o : Option α} {x : α} {f : α → Res β} {P : β → Prop} (h : o = some x) (k : Ok (f x) P) : Ok (Res.bind (ofO o) f) P := by
  subst h; exact k
theorem Ok.get {α : Type} {m : Res α} {P : α → Prop} (h : Ok m P) : ∃ x, m = .ok x ∧ P x := by
  cases m with
  | ok x => exact ⟨x, rfl, h⟩
  | exc e => exact h.elim
  | bad => exact h.elim
theorem ok_eq {α : Type} {m : Res α} {x : α} (h : Ok m fun y => y = x) : m = .ok x := by
  obtain ⟨y, e, q⟩ := h.get
  rw [e, q]
theorem ok_noexc {α β : Type} {m : Res α} {f : α → Res β} {P : β → Prop} (h : Ok m fun x => Ok (f x) P) : Ok (Res.bind (Res.noexc m) f) P := by
  cases m with
  | ok x => exact h
  | exc e => exact h.elim
  | bad => exact h.elim
/-! equations that are not taken for unfolding -/
theorem bok {α β : Type} (a : α) (f : α → Res β) : Res.bind (.ok a) f = f a := Eq.trans rfl rfl
theorem seqN {β β' ρ : Type} {g : β → Res (Out β' ρ)} {q : β} : Out.seq g (.nx q) = g q := Eq.trans rfl rfl
theorem seqR {β β' ρ : Type} {g : β → Res (Out β' ρ)} {r : ρ} : Out.seq g (.rt r) = .ok (.rt r) := Eq.trans rfl rfl
theorem mapN {β β' ρ : Type} {g : β → β'} {q : β} : (Out.nx q : Out β ρ).map g = .nx (g q) := Eq.trans rfl rfl
theorem mapRt {β β' ρ : Type} {g : β → β'} {r : ρ} : (Out.rt r : Out β ρ).map g = .rt r := Eq.trans rfl rfl
theorem endR {β ρ : Type} {r : ρ} : endV (.rt r : Out β ρ) = .ok r := Eq.trans rfl rfl
theorem ofS {α : Type} {x : α} : ofO (some x) = .ok x := Eq.trans rfl rfl
/-- what a loop leaves -/
def OutP {β ρ : Type} (I : β → Prop) (R : ρ → Prop) : Out β ρ → Prop
  | .nx b => I b
  | .rt r => R r
theorem ok_seq {β β' ρ : Type} {m : Res (Out β ρ)} {g : β → Res (Out β' ρ)} {I : β → Prop} {R : ρ → Prop} {P : Out β' ρ → Prop} (h : Ok m (OutP I R)) (hn : ∀ b, I b → Ok (g b) P) (hr : ∀ r, R r → P (.rt r)) : Ok (Res.bind m (Out.seq g)) P := by
  refine ok_bind h fun y q => ?_
  cases y with
  | nx b => exact hn b q
  | rt r => exact hr r q
/-- for, with an invariant -/
theorem ok_forG {α β ρ : Type} {f : α → β → Res (Out β ρ)} {R : ρ → Prop} : ∀ (xs : List α) (k : Nat) (I : Nat → β → Prop) (b : β), I k b → (∀ i x b, xs[i]? = some x → I (k + i) b → Ok (f x b) (OutP (I (k + i + 1)) R)) → Ok (forL xs f b) (OutP (I (k + xs.length)) R)
  | [], k, I, b, h0, _ => h0
  | x :: xs, k, I, b, h0, hs => by
    refine ok_seq (hs 0 x b rfl h0) (fun b' hb => ?_) fun r hr => hr
    have := ok_forG xs (k + 1) I b' hb fun i y b hy hI => by
      have := hs (i + 1) y b (by simpa using hy) (by rw [show k + (i + 1) = k + 1 + i by omega]; exact hI)
      rw [show k + (i + 1) + 1 = k + 1 + i + 1 by omega] at this
      exact this
    rw [List.length_cons, show k + (xs.length + 1) = k + 1 + xs.length by omega]
    exact this
theorem ok_for {α β ρ : Type} {f : α → β → Res (Out β ρ)} {R : ρ → Prop} {xs : List α} {b : β} (I : Nat → β → Prop) (h0 : I 0 b) (hs : ∀ i x b, xs[i]? = some x → I i b → Ok (f x b) (OutP (I (i + 1)) R)) : Ok (forL xs f b) (OutP (I xs.length) R) := by
  have := ok_forG xs 0 I b h0 fun i x b hx hI => by
    rw [Nat.zero_add] at hI ⊢
    exact hs i x b hx hI
  rw [Nat.zero_add] at this
  exact this
/-- [.. for ..], with an invariant -/
theorem ok_mapG {α β γ : Type} {f : α → β → Res (γ × β)} {Q : Nat → γ → Prop} : ∀ (xs : List α) (k : Nat) (I : Nat → β → Prop) (b : β), I k b → (∀ i x b, xs[i]? = some x → I (k + i) b → Ok (f x b) fun r => Q (k + i) r.1 ∧ I (k + i + 1) r.2) →
    Ok (mapR xs f b) fun z => z.1.length = xs.length ∧ (∀ i y, z.1[i]? = some y → Q (k + i) y) ∧ I (k + xs.length) z.2
  | [], k, I, b, h0, _ => ⟨rfl, fun i y e => by simp at e, h0⟩
  | x :: xs, k, I, b, h0, hs => by
    refine ok_noexc ((hs 0 x b rfl h0).imp fun r hr => ?_)
    have := ok_mapG (Q := Q) xs (k + 1) I r.2 hr.2 fun i y b hy hI => by
      have := hs (i + 1) y b (by simpa using hy) (by rw [show k + (i + 1) = k + 1 + i by omega]; exact hI)
      rw [show k + (i + 1) = k + 1 + i by omega] at this
      exact this
    refine ok_bind this fun z hz => ⟨by show (r.1 :: z.1).length = _; rw [List.length_cons, List.length_cons, hz.1], fun i y e => ?_, ?_⟩
    · cases i with
      | zero =>
        have e : r.1 = y := by simpa using e
        rw [← e]; exact hr.1
      | succ i =>
        have := hz.2.1 i y (by simpa using e)
        rw [show k + 1 + i = k + (i + 1) by omega] at this
        exact this
    · rw [List.length_cons, show k + (xs.length + 1) = k + 1 + xs.length by omega]
      exact hz.2.2
theorem ok_map {α β γ : Type} {f : α → β → Res (γ × β)} {xs : List α} {b : β} (I : Nat → β → Prop) (Q : Nat → γ → Prop) (h0 : I 0 b) (hs : ∀ i x b, xs[i]? = some x → I i b → Ok (f x b) fun r => Q i r.1 ∧ I (i + 1) r.2) :
    Ok (mapR xs f b) fun z => z.1.length = xs.length ∧ (∀ i y, z.1[i]? = some y → Q i y) ∧ I xs.length z.2 := by
  have := ok_mapG (Q := Q) xs 0 I b h0 fun i x b hx hI => by
    rw [Nat.zero_add] at hI ⊢
    exact hs i x b hx hI
  simp only [Nat.zero_add] at this
  exact this
/-- nothing changes, a function of the item -/
theorem map_pure {α β γ : Type} {f : α → β → Res (γ × β)} {g : α → γ} {b : β} : ∀ {xs : List α}, (∀ x ∈ xs, f x b = .ok (g x, b)) → mapR xs f b = .ok (xs.map g, b)
  | [], _ => rfl
  | x :: xs, h => by
    show Res.bind (Res.noexc (f x b)) _ = _
    rw [h x List.mem_cons_self]
    show Res.bind (mapR xs f b) _ = _
    rw [map_pure fun y hy => h y (List.mem_cons_of_mem _ hy)]
    rfl
theorem lc_pure {α β γ : Type} {f : α → β → Res (Option γ × β)} {g : α → Option γ} {b : β} : ∀ {xs : List α}, (∀ x ∈ xs, f x b = .ok (g x, b)) → lcL xs f b = .ok (xs.filterMap g, b)
  | [], _ => rfl
  | x :: xs, h => by
    show Res.bind (Res.noexc (f x b)) _ = _
    rw [h x List.mem_cons_self]
    show Res.bind (lcL xs f b) _ = _
    rw [lc_pure fun y hy => h y (List.mem_cons_of_mem _ hy), List.filterMap_cons]
    cases g x <;> rfl
theorem ok_mapP {α β γ : Type} {f : α → β → Res (γ × β)} (g : α → γ) {b : β} {xs : List α} (h : ∀ x ∈ xs, Ok (f x b) fun r => r = (g x, b)) : Ok (mapR xs f b) fun z => z = (xs.map g, b) := by
  rw [map_pure fun x hx => ok_eq (h x hx)]
  exact rfl
theorem ok_lcP {α β γ : Type} {f : α → β → Res (Option γ × β)} (g : α → Option γ) {b : β} {xs : List α} (h : ∀ x ∈ xs, Ok (f x b) fun r => r = (g x, b)) : Ok (lcL xs f b) fun z => z = (xs.filterMap g, b) := by
  rw [lc_pure fun x hx => ok_eq (h x hx)]
  exact rfl
/-- while, with a measure -/
theorem ok_whileN {β ρ : Type} {c : β → Res (Bool × β)} {f : β → Res (Out β ρ)} {R : ρ → Prop} {E : β → Prop} (I : Nat → β → Prop) : ∀ (n k : Nat) (b : β), I k b → k < n → (∀ k b, I k b → Ok (c b) fun t => (t.1 = true → Ok (f t.2) (OutP (fun b' => ∃ k', k' < k ∧ I k' b') R)) ∧ (t.1 = false → E t.2)) → Ok (whileN c f n b) (OutP E R)
  | 0, k, b, h, hk, _ => by omega
  | n + 1, k, b, h, hk, hs => by
    refine ok_bind (hs k b h) fun t ht => ?_
    by_cases e : t.1 = true
    · rw [if_pos e]
      exact ok_seq (ht.1 e) (fun b' ⟨k', h1, h2⟩ => ok_whileN I n k' b' h2 (by omega) hs) fun r hr => hr
    · rw [if_neg e]
      exact ht.2 (by simpa using e)
theorem ok_while {β ρ : Type} {c : β → Res (Bool × β)} {f : β → Res (Out β ρ)} {R : ρ → Prop} {E : β → Prop} (I : Nat → β → Prop) (k : Nat) {b : β} (h : I k b) (hk : k < 2 ^ 40) (hs : ∀ k b, I k b → Ok (c b) fun t => (t.1 = true → Ok (f t.2) (OutP (fun b' => ∃ k', k' < k ∧ I k' b') R)) ∧ (t.1 = false → E t.2)) : Ok (whileR c f b) (OutP E R) := by
  unfold whileR
  exact ok_whileN I wfuel k b h hk hs

theorem seq_nx {β β' ρ : Type} {g : β → Res (Out β' ρ)} {q : β} : Out.seq g (.nx q) = g q := rfl
theorem seq_rt {β β' ρ : Type} {g : β → Res (Out β' ρ)} {r : ρ} : Out.seq g (.rt r) = .ok (.rt r) := rfl
theorem map_nx {β β' ρ : Type} {g : β → β'} {q : β} : (Out.nx q : Out β ρ).map g = .nx (g q) := rfl
theorem map_rt {β β' ρ : Type} {g : β → β'} {r : ρ} : (Out.rt r : Out β ρ).map g = .rt r := rfl
theorem endV_rt {β ρ : Type} {r : ρ} : endV (.rt r : Out β ρ) = .ok r := rfl
theorem endV_nx {β ρ : Type} {b : β} : endV (.nx b : Out β ρ) = .bad := rfl
theorem endU_rt {β : Type} {r : Unit} : endU (.rt r : Out β Unit) = .ok r := rfl
theorem endU_nx {β : Type} {b : β} : endU (.nx b : Out β Unit) = .ok () := rfl
theorem endX_nx {β γ : Type} {b : β × γ} : endX (.nx b : Out (β × γ) Unit) = .ok b.1 := rfl
theorem ofO_some {α : Type} {x : α} : ofO (some x) = .ok x := rfl
/-! ### small facts -/
theorem ixN_nat {n i : Nat} (h : i < n) : ixN n (i : Int) = some i := by
  unfold ixN
  rw [if_pos (by omega), if_pos (by omega)]
  simp
theorem atI_get {α : Type} {xs : List α} {i : Nat} {x : α} (h : xs[i]? = some x) : atI xs (i : Int) = some x := by
  have hl := (List.getElem?_eq_some_iff.mp h).1
  unfold atI
  rw [ixN_nat hl]
  exact h
theorem atI_i {α : Type} {xs : List α} {i : Int} {x : α} (h0 : 0 ≤ i) (h : xs[i.toNat]? = some x) : atI xs i = some x := by
  have := atI_get h
  rwa [Int.toNat_of_nonneg h0] at this
theorem setI_get {α : Type} {xs : List α} {i : Nat} {x : α} (h : i < xs.length) : setI xs (i : Int) x = some (xs.set i x) := by
  unfold setI
  rw [ixN_nat h]
  rfl
/-- no bits to speak of -/
theorem log2_lt {x : Int} {n : Nat} (h0 : 0 ≤ x) (h : x < 2 ^ n) (hn : 0 < n) : x.natAbs.log2 < n := by
  by_cases hx : x.natAbs = 0
  · rw [hx]; simpa using hn
  · rw [Nat.log2_lt hx]
    have : (x.natAbs : Int) < 2 ^ n := by omega
    exact_mod_cast this
theorem mulO_ok {x y : Int} {n m : Nat} (hx : 0 ≤ x) (hx2 : x < 2 ^ n) (hn : 0 < n) (hy : 0 ≤ y) (hy2 : y < 2 ^ m) (hm : 0 < m) (h : n + m < 1000000) : mulO x y = some (x * y) := by
  unfold mulO
  have h1 := log2_lt hx hx2 hn
  have h2 := log2_lt hy hy2 hm
  rw [if_pos (.inr (.inr (by omega)))]
theorem mulO_small {x y : Int} (h1 : -(2 ^ 64) < y) (h2 : y < 2 ^ 64) : mulO x y = some (x * y) := by
  unfold mulO
  rw [if_pos (.inr (.inl (intBits_le_64 h1 h2)))]
theorem mulO_smallL {x y : Int} (h1 : -(2 ^ 64) < x) (h2 : x < 2 ^ 64) : mulO x y = some (x * y) := by
  unfold mulO
  rw [if_pos (.inl (intBits_le_64 h1 h2))]
theorem modO_ok {x y : Int} (h : 0 < y) : modO x y = some (x % y) := by
  unfold modO; rw [if_pos h]
theorem divO_ok {x y : Int} {m : Nat} (h : 0 < y) (hy2 : y < 2 ^ m) (hm : 0 < m) (hl : m < 9000) : divO x y = some (x / y) := by
  unfold divO
  have := log2_lt (by omega) hy2 hm
  rw [if_pos ⟨h, by omega⟩]
theorem appO_ok {α : Type} {xs : List α} {y : α} (h : xs.length < 16777216) : appO xs y = some ((), xs ++ [y]) := by
  unfold appO; rw [if_pos h]
theorem catO_ok {α : Type} {xs ys : List α} (h : xs.length + ys.length ≤ 16777216) : catO xs ys = some (xs ++ ys) := by
  unfold catO; rw [if_pos h]
theorem rng1_ok {n : Nat} (h : n ≤ 16777216) : rng1O (n : Int) = .ok (intsFrom 0 n) := by
  unfold rng1O
  rw [if_pos (by omega)]
  simp
theorem ints_get {n i : Nat} {x : Int} (h : (intsFrom 0 n)[i]? = some x) : x = (i : Int) ∧ i < n := by
  have hl := (List.getElem?_eq_some_iff.mp h).1
  rw [intsFrom_len] at hl
  rw [intsFrom_get hl] at h
  exact ⟨by simpa using h.symm, hl⟩
theorem cut_take {α : Type} {xs : List α} {i : Nat} (h : i ≤ xs.length) : cutL xs none (some (i : Int)) = xs.take i := by
  unfold cutL
  rw [HT.sIx_none, HT.sIx_nat, Nat.min_eq_left h]
  rfl
theorem cut_drop {α : Type} {xs : List α} {i : Nat} (h : i ≤ xs.length) : cutL xs (some (i : Int)) none = xs.drop i := by
  unfold cutL
  rw [HT.sIx_none, HT.sIx_nat, Nat.min_eq_left h]
  exact List.take_of_length_le (by rw [List.length_drop]; omega)
theorem eqv_int {x y : Int} : PyData.eqv (.int x) (.int y) = decide (x = y) := by
  show (x == y) = _
  exact Bool.beq_eq_decide_eq x y
theorem eqv_str {x y : Str} : PyData.eqv (.str x) (.str y) = decide (x = y) := by
  show (x == y) = _
  by_cases h : x = y
  · rw [decide_eq_true h, h]; exact beq_self_eq_true y
  · rw [decide_eq_false h]; exact beq_false_of_ne h
theorem eqv_optI {x y : Option Int} : PyData.eqv (tO .int x) (tO .int y) = decide (x = y) := by
  cases x with
  | none => cases y with
    | none => simp [tO, PyData.eqv]
    | some b => simp [tO, PyData.eqv]
  | some a => cases y with
    | none => simp [tO, PyData.eqv]
    | some b =>
      show PyData.eqv (.int a) (.int b) = _
      rw [eqv_int]
      exact decide_eq_decide.mpr ⟨fun h => by rw [h], fun h => Option.some.inj h⟩
/-- == of data that stands for the values -/
def EqvT {α : Type} (t : α → PyData) : Prop := ∀ x y, PyData.eqv (t x) (t y) = true ↔ x = y
theorem eqvt_int : EqvT PyData.int := fun x y => by rw [eqv_int, decide_eq_true_eq]
theorem eqvt_str : EqvT PyData.str := fun x y => by rw [eqv_str, decide_eq_true_eq]
theorem eqvt_optI : EqvT (tO PyData.int) := fun x y => by rw [eqv_optI, decide_eq_true_eq]
theorem eqvAll_iff {α : Type} {t : α → PyData} (h : EqvT t) : ∀ {xs ys : List α}, PyData.eqvAll (xs.map t) (ys.map t) = true ↔ xs = ys
  | [], [] => by simp [PyData.eqvAll]
  | [], y :: ys => by simp [PyData.eqvAll]
  | x :: xs, [] => by simp [PyData.eqvAll]
  | x :: xs, y :: ys => by
    rw [List.map_cons, List.map_cons]
    simp only [PyData.eqvAll, Bool.and_eq_true, List.cons.injEq]
    rw [h x y, eqvAll_iff h]
theorem eqvt_list {α : Type} {t : α → PyData} (h : EqvT t) : EqvT fun xs : List α => PyData.list (xs.map t) := fun xs ys => by
  show PyData.eqvAll _ _ = true ↔ _
  exact eqvAll_iff h
theorem eqO_t {α : Type} [DecidableEq α] {t : α → PyData} (h : EqvT t) {x y : α} : eqO t t x y = decide (x = y) := by
  unfold eqO
  by_cases e : x = y
  · rw [decide_eq_true e]; exact (h x y).mpr e
  · rw [decide_eq_false e]
    cases q : PyData.eqv (t x) (t y) with
    | false => rfl
    | true => exact absurd ((h x y).mp q) e
theorem nodup_get {α : Type} : ∀ {xs : List α} {i j : Nat} {x : α}, xs.Nodup → xs[i]? = some x → xs[j]? = some x → i = j
  | [], i, j, x, _, h, _ => by simp at h
  | y :: xs, 0, 0, x, _, _, _ => rfl
  | y :: xs, 0, j + 1, x, nd, h1, h2 => by
    have e : y = x := by simpa using h1
    exact absurd (List.mem_of_getElem? (by simpa using h2 : xs[j]? = some x)) (by rw [← e]; exact (List.nodup_cons.mp nd).1)
  | y :: xs, i + 1, 0, x, nd, h1, h2 => by
    have e : y = x := by simpa using h2
    exact absurd (List.mem_of_getElem? (by simpa using h1 : xs[i]? = some x)) (by rw [← e]; exact (List.nodup_cons.mp nd).1)
  | y :: xs, i + 1, j + 1, x, nd, h1, h2 => congrArg Nat.succ (nodup_get (List.nodup_cons.mp nd).2 (by simpa using h1 : xs[i]? = some x) (by simpa using h2 : xs[j]? = some x))
/-- the place of what stands once -/
theorem idx_at {α : Type} {t : α → PyData} (h : EqvT t) {xs : List α} (nd : xs.Nodup) {i : Nat} {x : α} (hx : xs[i]? = some x) : idxO t t xs x = some (i : Int) := by
  obtain ⟨hi, hv⟩ := List.getElem?_eq_some_iff.mp hx
  have e : xs.findIdx? (fun z => PyData.eqv (t z) (t x)) = some i := by
    rw [List.findIdx?_eq_some_iff_getElem]
    refine ⟨hi, by rw [hv]; exact (h x x).mpr rfl, fun j hj => ?_⟩
    rw [h]
    intro e
    have := nodup_get nd (List.getElem?_eq_some_iff.mpr ⟨by omega, e⟩) hx
    omega
  unfold idxO
  rw [e]
  rfl
/-- what repr shows without trouble -/
structure Shw (n : Nat) (d : PyData) : Prop where
  sh : d.showable = true
  nd : d.hasDict = false
  lv : d.leavesShort 13 = true
  bk : d.bulk ≤ n
theorem reprO_ok {n : Nat} {d : PyData} (h : Shw n d) (hn : n ≤ 1048576) : reprO d = some d.shown := by
  unfold reprO
  rw [if_pos ⟨h.sh, h.nd, PyData.shown_fits_bulk (B := 13) (by decide) (by decide) h.lv (Nat.le_trans h.bk hn)⟩]
theorem Shw.mono {n m : Nat} {d : PyData} (h : Shw n d) (hm : n ≤ m) : Shw m d := ⟨h.sh, h.nd, h.lv, Nat.le_trans h.bk hm⟩
theorem shw_all {α : Type} {t : α → PyData} {n : Nat} : ∀ {xs : List α}, (∀ x ∈ xs, Shw n (t x)) → PyData.showableAll (xs.map t) = true ∧ PyData.hasDictAll (xs.map t) = false ∧ PyData.leavesShortAll 13 (xs.map t) = true ∧ PyData.bulkAll (xs.map t) ≤ (n + 1) * xs.length
  | [], _ => ⟨by simp [PyData.showableAll], by simp [PyData.hasDictAll], by simp [PyData.leavesShortAll], by simp [PyData.bulkAll]⟩
  | x :: xs, h => by
    obtain ⟨h1, h2, h3, h4⟩ := h x List.mem_cons_self
    obtain ⟨g1, g2, g3, g4⟩ := shw_all (t := t) (n := n) (xs := xs) fun y hy => h y (List.mem_cons_of_mem _ hy)
    refine ⟨by rw [List.map_cons]; simp only [PyData.showableAll, h1, g1, Bool.and_self], by rw [List.map_cons]; simp only [PyData.hasDictAll, h2, g2, Bool.or_self], by rw [List.map_cons]; simp only [PyData.leavesShortAll, h3, g3, Bool.and_self], ?_⟩
    rw [List.map_cons]
    simp only [PyData.bulkAll, List.length_cons, Nat.mul_add, Nat.mul_one]
    omega
theorem shw_list {α : Type} {t : α → PyData} {n : Nat} {xs : List α} (h : ∀ x ∈ xs, Shw n (t x)) : Shw ((n + 1) * xs.length) (.list (xs.map t)) := by
  obtain ⟨h1, h2, h3, h4⟩ := shw_all h
  exact ⟨by simpa only [PyData.showable] using h1, by simpa only [PyData.hasDict] using h2, by simpa only [PyData.leavesShort] using h3, by simpa only [PyData.bulk] using h4⟩
theorem shw_tup {α : Type} {t : α → PyData} {n : Nat} {xs : List α} (h : ∀ x ∈ xs, Shw n (t x)) : Shw ((n + 1) * xs.length) (.tuple (xs.map t)) := by
  obtain ⟨h1, h2, h3, h4⟩ := shw_all h
  exact ⟨by simpa only [PyData.showable] using h1, by simpa only [PyData.hasDict] using h2, by simpa only [PyData.leavesShort] using h3, by simpa only [PyData.bulk] using h4⟩
theorem shw_str {x : Str} {n : Nat} (h : x.cps.toList.all (fun c => decide (c < 16 ^ 8)) = true) (hn : x.cps.size ≤ n) : Shw n (.str x) := ⟨rfl, rfl, h, hn⟩
/-- a loop that ends at the first that fails -/
theorem ok_forAll {α β ρ : Type} {f : α → β → Res (Out β ρ)} {b : β} {r : ρ} (p : α → Bool) : ∀ {xs : List α}, (∀ x ∈ xs, Ok (f x b) fun o => o = if p x = true then .nx b else .rt r) → Ok (forL xs f b) fun o => o = if xs.all p = true then .nx b else .rt r
  | [], _ => rfl
  | x :: xs, h => by
    refine ok_bind (h x List.mem_cons_self) fun o ho => ?_
    subst ho
    have ih := ok_forAll (r := r) p (xs := xs) fun y hy => h y (List.mem_cons_of_mem _ hy)
    rw [List.all_cons]
    cases p x with
    | true => simpa only [if_true, Out.seq, Bool.true_and] using ih
    | false => exact rfl
end AC
set_option Elab.async false
set_option linter.all false
set_option maxRecDepth 100000
/-! TM2: more plain laws. -/
namespace AC
open PySem L2 PyProof
theorem svlen_ok {n : Nat} (h : n ≤ 1000000) : ((okO (Res.ok (n : Int))).bind fun n => if 0 ≤ n ∧ n < 2 ^ 63 then some n else none) = some (n : Int) := by
  have e : okO (Res.ok (n : Int)) = some (n : Int) := rfl
  rw [e, Option.bind_some]
  exact if_pos ⟨by omega, by omega⟩
theorem filterMap_cg {α β : Type} {f g : α → Option β} : ∀ {l : List α}, (∀ x ∈ l, f x = g x) → l.filterMap f = l.filterMap g
  | [], _ => rfl
  | x :: l, h => by rw [List.filterMap_cons, List.filterMap_cons, h x List.mem_cons_self, filterMap_cg fun y hy => h y (List.mem_cons_of_mem _ hy)]
/-- over the places of a list -/
theorem filter_places {α β : Type} (f : Nat → α → Option β) : ∀ (names : List α) (k : Nat), (names.zipIdx k).filterMap (fun z => f z.2 z.1) = ((List.range names.length).map (· + k)).filterMap fun i => (names[i - k]?).bind (f i)
  | [], k => rfl
  | a :: l, k => by
    rw [List.zipIdx_cons, List.filterMap_cons, filter_places f l (k + 1), List.length_cons, List.range_succ_eq_map, List.map_cons, List.filterMap_cons]
    have e : (List.map (· + k) (List.map Nat.succ (List.range l.length))).filterMap (fun i => ((a :: l)[i - k]?).bind (f i)) = ((List.range l.length).map (· + (k + 1))).filterMap fun i => (l[i - (k + 1)]?).bind (f i) := by
      rw [List.map_map, List.filterMap_map, List.filterMap_map]
      refine filterMap_cg fun i _ => ?_
      show ((a :: l)[i.succ + k - k]?).bind (f (i.succ + k)) = (l[i + (k + 1) - (k + 1)]?).bind (f (i + (k + 1)))
      rw [Nat.add_sub_cancel, Nat.add_sub_cancel, show i.succ + k = i + (k + 1) by omega]
      rfl
    rw [e]
    simp
theorem filter_ints {α β : Type} (f : Nat → α → Option β) (names : List α) : (AC.intsFrom 0 names.length).filterMap (fun i => (names[i.toNat]?).bind (f i.toNat)) = names.zipIdx.filterMap fun z => f z.2 z.1 := by
  rw [filter_places f names 0]
  unfold AC.intsFrom
  rw [List.filterMap_map, List.filterMap_map]
  refine filterMap_cg fun i _ => ?_
  simp
theorem rgO_nat {n : Nat} (h : n ≤ 1000000) : rgO 0 (n : Int) = some (AC.intsFrom 0 n) := by
  unfold rgO
  rw [if_pos ⟨by decide, by decide, by omega, by omega, by omega⟩]
  simp
theorem rgO_nat2 {a n : Nat} (h : n ≤ 1000000) (ha : a ≤ 1000000) : rgO (a : Int) (n : Int) = some (AC.intsFrom (a : Int) (n - a)) := by
  unfold rgO
  rw [if_pos ⟨by omega, by omega, by omega, by omega, by omega⟩]
  congr 2
  omega
theorem mem_ints {n : Nat} {x : Int} (h : x ∈ AC.intsFrom 0 n) : ∃ i : Nat, x = (i : Int) ∧ i < n := by
  obtain ⟨i, hi, e⟩ := List.mem_iff_getElem.mp h
  obtain ⟨rfl, hi⟩ := ints_get (List.getElem?_eq_some_iff.mpr ⟨hi, e⟩)
  exact ⟨i, rfl, hi⟩
theorem map_ints {α : Type} (f : Nat → α) (n : Nat) : (AC.intsFrom 0 n).map (fun x => f x.toNat) = (List.range n).map f := by
  unfold AC.intsFrom
  rw [List.map_map]
  refine List.map_congr_left fun i _ => ?_
  simp
end AC
namespace AC
open PySem L2 PyProof
theorem mapP_ok {α γ : Type} {f : α → Res γ} (g : α → γ) : ∀ {xs : List α}, (∀ x ∈ xs, f x = .ok (g x)) → mapP f xs = .ok (xs.map g)
  | [], _ => rfl
  | x :: xs, h => by
    unfold mapP
    rw [h x List.mem_cons_self, mapP_ok g fun y hy => h y (List.mem_cons_of_mem _ hy)]
    rfl
theorem lcP_ok {α γ : Type} {t : α → Res Bool} {f : α → Res γ} (p : α → Bool) (g : α → γ) : ∀ {xs : List α}, (∀ x ∈ xs, t x = .ok (p x)) → (∀ x ∈ xs, p x = true → f x = .ok (g x)) → lcP t f xs = .ok ((xs.filter p).map g)
  | [], _, _ => rfl
  | x :: xs, h, h' => by
    unfold lcP
    rw [h x List.mem_cons_self]
    have ih := lcP_ok p g (xs := xs) (fun y hy => h y (List.mem_cons_of_mem _ hy)) fun y hy => h' y (List.mem_cons_of_mem _ hy)
    rw [ih]
    show (if p x = true then Res.bind (Res.noexc (f x)) fun y => Res.bind (Res.ok ((xs.filter p).map g)) fun ys => .ok (y :: ys) else .ok ((xs.filter p).map g)) = _
    rw [List.filter_cons]
    by_cases hp : p x = true
    · rw [if_pos hp, if_pos hp, h' x List.mem_cons_self hp]
      rfl
    · rw [if_neg hp, if_neg hp]
theorem ok_mapPP {α γ : Type} {f : α → Res γ} (g : α → γ) {xs : List α} (h : ∀ x ∈ xs, f x = .ok (g x)) : Ok (mapP f xs) fun ys => ys = xs.map g := by rw [mapP_ok g h]; exact rfl
/-- an item's property -/
theorem ok_mapQ {α γ : Type} {f : α → Res γ} (Q : Nat → γ → Prop) : ∀ (xs : List α) (k : Nat), (∀ i x, xs[i]? = some x → Ok (f x) (Q (k + i))) → Ok (mapP f xs) fun ys => ys.length = xs.length ∧ ∀ i y, ys[i]? = some y → Q (k + i) y
  | [], k, _ => ⟨rfl, fun i y h => by simp at h⟩
  | x :: xs, k, h => by
    unfold mapP
    refine ok_noexc ((h 0 x rfl).imp fun y hy => ?_)
    refine ok_bind (ok_mapQ Q xs (k + 1) fun i z hz => by have := h (i + 1) z (by simpa using hz); rwa [show k + (i + 1) = k + 1 + i by omega] at this) fun ys ⟨e1, e2⟩ => ?_
    refine ⟨by rw [List.length_cons, List.length_cons, e1], fun i u hu => ?_⟩
    cases i with
    | zero =>
      have : y = u := by simpa using hu
      subst this; exact hy
    | succ i =>
      have := e2 i u (by simpa using hu)
      rwa [show k + 1 + i = k + (i + 1) by omega] at this
end AC
namespace AC
theorem ok_ofE {α : Type} {o : Option α} {x : α} {P : α → Prop} (h : o = some x) (k : P x) : Ok (ofO o) P := by subst h; exact k
theorem ok_mapE {α γ : Type} {f : α → Res γ} (g : α → γ) {xs : List α} (h : ∀ x ∈ xs, Ok (f x) fun y => y = g x) : Ok (mapP f xs) fun ys => ys = xs.map g := ok_mapPP g fun x hx => ok_eq (h x hx)
end AC
namespace AC
theorem mapP_id {α : Type} {xs : List α} : mapP (fun x => Res.ok x) xs = .ok xs := by
  have := mapP_ok (f := fun x : α => Res.ok x) id (xs := xs) fun x _ => rfl
  rwa [List.map_id] at this
end AC
namespace AC
theorem ints_fm {α : Type} (p : Nat → Bool) (g : Nat → α) (n : Nat) : ((AC.intsFrom 0 n).filter fun x => p x.toNat).map (fun x => g x.toNat) = ((List.range n).filter p).map g := by
  unfold AC.intsFrom
  rw [List.filter_map, List.map_map]
  have e : ((fun x : Int => p x.toNat) ∘ fun i : Nat => (0 : Int) + (i : Int)) = p := by
    funext i
    show p ((0 : Int) + (i : Int)).toNat = _
    rw [Int.zero_add, Int.toNat_natCast]
  rw [e]
  refine List.map_congr_left fun i _ => ?_
  show g ((0 : Int) + (i : Int)).toNat = _
  rw [Int.zero_add, Int.toNat_natCast]
theorem fm_map {α β γ : Type} (h : γ → α) (p : α → Bool) (g : α → β) (l : List γ) : ((l.map h).filter p).map g = (l.filter fun x => p (h x)).map fun x => g (h x) := by
  rw [List.filter_map, List.map_map]; rfl
end AC
namespace AC
theorem forO_ok {β γ ρ : Type} {F : β → γ → Res (Out (β × γ) ρ)} (g : β → β) {c : γ} : ∀ {ys : List β}, (∀ y ∈ ys, F y c = .ok (.nx (g y, c))) → forO F ys c = .ok (.nx (ys.map g, c))
  | [], _ => rfl
  | y :: ys, h => by
    show Res.bind (F y c) (Out.seq fun z => Res.bind (forO F ys z.2) fun w => .ok (w.map fun u => (z.1 :: u.1, u.2))) = _
    rw [h y List.mem_cons_self, bok, seqN, forO_ok g fun z hz => h z (List.mem_cons_of_mem _ hz)]
    rfl
end AC
namespace AC
theorem rng1_lit {i : Int} {n : Nat} (e : i = (n : Int)) (h : n ≤ 16777216) : rng1O i = .ok (AC.intsFrom 0 n) := by
  subst e
  exact rng1_ok h
end AC
namespace AC
theorem forO_okM {β γ ρ : Type} {F : β → γ → Res (Out (β × γ) ρ)} (g : β → β) {c : γ} {ys : List β} (h : ∀ y ∈ ys, F y c = .ok (.nx (g y, c))) : Ok (forO F ys c) fun w => w = .nx (ys.map g, c) := by rw [forO_ok g h]; exact rfl
end AC
set_option Elab.async false
set_option linter.all false
set_option maxRecDepth 100000
set_option maxHeartbeats 4000000
namespace Pf
open PySem L2 PyProof PyProof.Rows AC
def top (i : Nat) : Stmt := PySem.Challenge.pw_anycut_k16_rules_without_a_call.main.body.getD i (.Pass ⟨0, 0, 0, 0⟩)
def sub (i j : Nat) : Stmt := match top i with
  | .ClassDef (body := b) .. => b.getD j (.Pass ⟨0, 0, 0, 0⟩)
  | _ => .Pass ⟨0, 0, 0, 0⟩
def lettersS : Str := "abcdefghijklmnopqrstuvwxyz"
/-! is_name -/
abbrev s_is_name : Stmt := top 7
abbrev N_is_name : List Str := ["name", "letter"]
theorem sc_is_name : FnScope N_is_name ["name"] (defScope s_is_name) := ⟨rfl, rfl, rfl, by decide +kernel, rfl, by decide +kernel, by decide +kernel⟩
def fb_is_name : {fb : CT [sVal cS, sAny] → Res (Out (CT [sVal cS, sAny]) Bool) // ∀ {P : Program} {w : World} {K : Frag} {mg : Str → Option Value} {base : Heap} {ca : Str → Addr} (M_all : mg "all" = none) (M_LETTERS : ∃ t, mg "LETTERS" = some (.str lettersS t)) (M_len : mg "len" = none) (f : Addr) (nd : N_is_name.Nodup) cd A outer s H E hr hgd, BX (ambOf P w K mg base ca N_is_name nd 0 "is_name" (defScope s_is_name) f cd A outer s H E hr hgd) [sVal cS, sAny] (defBody s_is_name) [sVal cS, sAny] (rrP (rV cB)) fb} := ⟨_, by
  intro P w K mg base ca M_all M_LETTERS M_len f nd cd A outer s H E hr hgd
  obtain ⟨_, M_LETTERS⟩ := M_LETTERS
  refine' bx_one ?_
  exact sx_ret (rex_and (rex_chain ot_le ot_le rex_int (rex_callB ct_lenS (by rfl) (by exact M_len) (by decide +kernel) (rax_one (rex_var at_z (by rfl) (by first | exact Or.inl rfl | exact Or.inr (Or.inl rfl) | exact Or.inr (Or.inr rfl))))) rex_int (by rfl)) (rex_and1 (rex_callB ct_all (by rfl) (by exact M_all) (by decide +kernel) (rax_one (rex_frz frz_l (rex_lc (own := [("letter", 1)]) (rix_s (rex_var at_z (by rfl) (by first | exact Or.inl rfl | exact Or.inr (Or.inl rfl) | exact Or.inr (Or.inr rfl)))) (blkOk_by (by rfl)) (wc_keep (by decide) (wc_any wc_nil)) (fun _ _ _ _ _ => (gx_name (up_s up_z) (by rfl) (by first | exact Or.inl rfl | exact Or.inr rfl) (by show (1 : Nat) ∈ [1]; decide) (by first | exact Or.inl rfl | exact Or.inr rfl))) (fun _ _ _ _ _ => (rex_cmp ot_sgnIn (rex_var (at_s at_z) (by rfl) (by first | exact Or.inl rfl | exact Or.inr (Or.inl rfl) | exact Or.inr (Or.inr rfl))) (rex_gstr (by rfl) (by exact M_LETTERS) (by decide +kernel) (by decide +kernel)) (by rfl))) (wc_keep (by decide) (wc_val wc_nil))))))))⟩
def F_is_name (y : Str) : Res Bool := Res.bind ((fb_is_name ).1 (y, ((), ()))) endV

theorem okF_is_name {P : Program} {w : World} {K : Frag} {mg : Str → Option Value} {base : Heap} {ca : Str → Addr} {fa : Addr} {dvs : List V} {kws : List (Str × V)} {fd : FuncData} (F0 : FunD K "is_name" "is_name" (defArgs s_is_name) (defBody s_is_name) (defScope s_is_name) dvs kws fa fd) (M_all : mg "all" = none) (M_LETTERS : ∃ t, mg "LETTERS" = some (.str lettersS t)) (M_len : mg "len" = none) : FnG P w K mg base 1 fa fd ["name"] (spP K ca (aOne cS) (rV cB) F_is_name) :=
  fn_P (as := (aOne cS)) (G0 := [sVal cS, sAny]) (ini := (fun y => (y, ((), ())))) (fb := (fb_is_name ).1) F0 sc_is_name (by rfl) (fun L H vs y wf h => by obtain ⟨v1, rfl, h1⟩ := h; exact ⟨⟨v1, rfl, h1⟩, trivial, Nat.le_of_ble_eq_true (by rfl)⟩) (fun nd cd A outer s H E hr hgd => (fb_is_name ).2 M_all M_LETTERS M_len fa nd cd A outer s H E hr hgd) (fun y => rfl)
theorem ok_is_name {P : Program} {w : World} {K : Frag} {mg : Str → Option Value} {base : Heap} {ca : Str → Addr} {fa : Addr} {fd : FuncData} (F0 : FunD K "is_name" "is_name" (defArgs s_is_name) (defBody s_is_name) (defScope s_is_name) [] [] fa fd) (M_all : mg "all" = none) (M_LETTERS : ∃ t, mg "LETTERS" = some (.str lettersS t)) (M_len : mg "len" = none) (hm : mg "is_name" = some (.ref fa)) : DefG P w K mg base 1 "is_name" ["name"] (spP K ca (aOne cS) (rV cB) F_is_name) :=
  ⟨fa, fd, okF_is_name  F0 M_all M_LETTERS M_len, hm, F0.kp, (F0.bindsN (ps := ["name"]) fun _ _ _ _ _ _ us hl => match us, hl with | [_], _ => rfl), (kw_binds (ps := ["name"]) F0 fun _ _ _ _ _ _ us hl => match us, hl with | [_], _ => rfl)⟩

/-! check_all_names -/
abbrev s_check_all_names : Stmt := top 9
abbrev N_check_all_names : List Str := ["names", "name"]
theorem sc_check_all_names : FnScope N_check_all_names ["names"] (defScope s_check_all_names) := ⟨rfl, rfl, rfl, by decide +kernel, rfl, by decide +kernel, by decide +kernel⟩
def fb_check_all_names : {fb : CT [sVal (cL cS), sAny] → Res (Out (CT [sVal (cL cS), sAny]) Unit) // ∀ {P : Program} {w : World} {K : Frag} {mg : Str → Option Value} {base : Heap} {ca : Str → Addr} (D_is_name : DefG P w K mg base 1 "is_name" ["name"] (spP K ca (aOne cS) (rV cB) F_is_name)) (f : Addr) (nd : N_check_all_names.Nodup) cd A outer s H E hr hgd, BX (ambOf P w K mg base ca N_check_all_names nd 1 "check_all_names" (defScope s_check_all_names) f cd A outer s H E hr hgd) [sVal (cL cS), sAny] (defBody s_check_all_names) [sVal (cL cS), sAny] (rrP (rV cN)) fb} := ⟨_, by
  intro P w K mg base ca D_is_name f nd cd A outer s H E hr hgd
  refine' bx_one ?_
  refine' sx_for (G1 := [sVal (cL cS), sVal cS]) (G2 := [sVal (cL cS), sVal cS]) (rix_l (rex_var at_z (by rfl) (by first | exact Or.inl rfl | exact Or.inr (Or.inl rfl) | exact Or.inr (Or.inr rfl)))) (gx_name (up_s up_z) (by rfl) (by first | exact Or.inl rfl | exact Or.inr rfl) (by exact trivial) (by first | exact Or.inl rfl | exact Or.inr rfl)) ?g3 (sc_same (sc_any sc_id))
  case g3 =>
    refine' bx_one ?_
    refine' sx_if (G' := [sVal (cL cS), sVal cS]) (rtx_not (rtx_val (rex_cal D_is_name (Nat.le_of_ble_eq_true (by rfl)) (by rfl) rtv (rax_one (rex_var (at_s at_z) (by rfl) (by first | exact Or.inl rfl | exact Or.inr (Or.inl rfl) | exact Or.inr (Or.inr rfl))))))) ?g1 ?g2
    case g1 =>
      refine' bx_one ?_
      exact sx_bad
    case g2 =>
      exact bx_nil⟩
def F_check_all_names (y : (List Str)) : Res Unit := Res.bind ((fb_check_all_names ).1 (y, ((), ()))) endU

theorem okF_check_all_names {P : Program} {w : World} {K : Frag} {mg : Str → Option Value} {base : Heap} {ca : Str → Addr} {fa : Addr} {dvs : List V} {kws : List (Str × V)} {fd : FuncData} (F0 : FunD K "check_all_names" "check_all_names" (defArgs s_check_all_names) (defBody s_check_all_names) (defScope s_check_all_names) dvs kws fa fd) (D_is_name : DefG P w K mg base 1 "is_name" ["name"] (spP K ca (aOne cS) (rV cB) F_is_name)) : FnG P w K mg base 2 fa fd ["names"] (spP K ca (aOne (cL cS)) (rV cN) F_check_all_names) :=
  fn_U (as := (aOne (cL cS))) (G0 := [sVal (cL cS), sAny]) (ini := (fun y => (y, ((), ())))) (fb := (fb_check_all_names ).1) F0 sc_check_all_names (by rfl) (fun L H vs y wf h => by obtain ⟨v1, rfl, h1⟩ := h; exact ⟨⟨v1, rfl, h1⟩, trivial, Nat.le_of_ble_eq_true (by rfl)⟩) (fun nd cd A outer s H E hr hgd => (fb_check_all_names ).2 D_is_name fa nd cd A outer s H E hr hgd) (fun y => rfl)
theorem ok_check_all_names {P : Program} {w : World} {K : Frag} {mg : Str → Option Value} {base : Heap} {ca : Str → Addr} {fa : Addr} {fd : FuncData} (F0 : FunD K "check_all_names" "check_all_names" (defArgs s_check_all_names) (defBody s_check_all_names) (defScope s_check_all_names) [] [] fa fd) (D_is_name : DefG P w K mg base 1 "is_name" ["name"] (spP K ca (aOne cS) (rV cB) F_is_name)) (hm : mg "check_all_names" = some (.ref fa)) : DefG P w K mg base 2 "check_all_names" ["names"] (spP K ca (aOne (cL cS)) (rV cN) F_check_all_names) :=
  ⟨fa, fd, okF_check_all_names  F0 D_is_name, hm, F0.kp, (F0.bindsN (ps := ["names"]) fun _ _ _ _ _ _ us hl => match us, hl with | [_], _ => rfl), (kw_binds (ps := ["names"]) F0 fun _ _ _ _ _ _ us hl => match us, hl with | [_], _ => rfl)⟩

/-! check_all_names@t -/
abbrev s_check_all_names_o_t : Stmt := top 9
abbrev N_check_all_names_o_t : List Str := ["names", "name"]
theorem sc_check_all_names_o_t : FnScope N_check_all_names_o_t ["names"] (defScope s_check_all_names_o_t) := ⟨rfl, rfl, rfl, by decide +kernel, rfl, by decide +kernel, by decide +kernel⟩
def fb_check_all_names_o_t : {fb : CT [sVal (cTV cS), sAny] → Res (Out (CT [sVal (cTV cS), sAny]) Unit) // ∀ {P : Program} {w : World} {K : Frag} {mg : Str → Option Value} {base : Heap} {ca : Str → Addr} (D_is_name : DefG P w K mg base 1 "is_name" ["name"] (spP K ca (aOne cS) (rV cB) F_is_name)) (f : Addr) (nd : N_check_all_names_o_t.Nodup) cd A outer s H E hr hgd, BX (ambOf P w K mg base ca N_check_all_names_o_t nd 1 "check_all_names" (defScope s_check_all_names_o_t) f cd A outer s H E hr hgd) [sVal (cTV cS), sAny] (defBody s_check_all_names_o_t) [sVal (cTV cS), sAny] (rrP (rV cN)) fb} := ⟨_, by
  intro P w K mg base ca D_is_name f nd cd A outer s H E hr hgd
  refine' bx_one ?_
  refine' sx_for (G1 := [sVal (cTV cS), sVal cS]) (G2 := [sVal (cTV cS), sVal cS]) (rix_t (rex_var at_z (by rfl) (by first | exact Or.inl rfl | exact Or.inr (Or.inl rfl) | exact Or.inr (Or.inr rfl)))) (gx_name (up_s up_z) (by rfl) (by first | exact Or.inl rfl | exact Or.inr rfl) (by exact trivial) (by first | exact Or.inl rfl | exact Or.inr rfl)) ?g6 (sc_same (sc_any sc_id))
  case g6 =>
    refine' bx_one ?_
    refine' sx_if (G' := [sVal (cTV cS), sVal cS]) (rtx_not (rtx_val (rex_cal D_is_name (Nat.le_of_ble_eq_true (by rfl)) (by rfl) rtv (rax_one (rex_var (at_s at_z) (by rfl) (by first | exact Or.inl rfl | exact Or.inr (Or.inl rfl) | exact Or.inr (Or.inr rfl))))))) ?g4 ?g5
    case g4 =>
      refine' bx_one ?_
      exact sx_bad
    case g5 =>
      exact bx_nil⟩
def F_check_all_names_o_t (y : (List Str)) : Res Unit := Res.bind ((fb_check_all_names_o_t ).1 (y, ((), ()))) endU

theorem okF_check_all_names_o_t {P : Program} {w : World} {K : Frag} {mg : Str → Option Value} {base : Heap} {ca : Str → Addr} {fa : Addr} {dvs : List V} {kws : List (Str × V)} {fd : FuncData} (F0 : FunD K "check_all_names" "check_all_names" (defArgs s_check_all_names_o_t) (defBody s_check_all_names_o_t) (defScope s_check_all_names_o_t) dvs kws fa fd) (D_is_name : DefG P w K mg base 1 "is_name" ["name"] (spP K ca (aOne cS) (rV cB) F_is_name)) : FnG P w K mg base 2 fa fd ["names"] (spP K ca (aOne (cTV cS)) (rV cN) F_check_all_names_o_t) :=
  fn_U (as := (aOne (cTV cS))) (G0 := [sVal (cTV cS), sAny]) (ini := (fun y => (y, ((), ())))) (fb := (fb_check_all_names_o_t ).1) F0 sc_check_all_names_o_t (by rfl) (fun L H vs y wf h => by obtain ⟨v1, rfl, h1⟩ := h; exact ⟨⟨v1, rfl, h1⟩, trivial, Nat.le_of_ble_eq_true (by rfl)⟩) (fun nd cd A outer s H E hr hgd => (fb_check_all_names_o_t ).2 D_is_name fa nd cd A outer s H E hr hgd) (fun y => rfl)
theorem ok_check_all_names_o_t {P : Program} {w : World} {K : Frag} {mg : Str → Option Value} {base : Heap} {ca : Str → Addr} {fa : Addr} {fd : FuncData} (F0 : FunD K "check_all_names" "check_all_names" (defArgs s_check_all_names_o_t) (defBody s_check_all_names_o_t) (defScope s_check_all_names_o_t) [] [] fa fd) (D_is_name : DefG P w K mg base 1 "is_name" ["name"] (spP K ca (aOne cS) (rV cB) F_is_name)) (hm : mg "check_all_names" = some (.ref fa)) : DefG P w K mg base 2 "check_all_names" ["names"] (spP K ca (aOne (cTV cS)) (rV cN) F_check_all_names_o_t) :=
  ⟨fa, fd, okF_check_all_names_o_t  F0 D_is_name, hm, F0.kp, (F0.bindsN (ps := ["names"]) fun _ _ _ _ _ _ us hl => match us, hl with | [_], _ => rfl), (kw_binds (ps := ["names"]) F0 fun _ _ _ _ _ _ us hl => match us, hl with | [_], _ => rfl)⟩

/-! Rule.__init__ -/
abbrev s_Rule_init : Stmt := sub 10 0
abbrev N_Rule_init : List Str := ["self", "early", "keyed", "ranks", "key_of", "rank_of", "at", "name", "rank"]
theorem sc_Rule_init : FnScope N_Rule_init ["self", "early", "keyed", "ranks"] (defScope s_Rule_init) := ⟨rfl, rfl, rfl, by decide +kernel, rfl, by decide +kernel, by decide +kernel⟩
def fb_Rule_init (A_Rule : Addr) : {fb : (v0 : V) → CT [sSelf A_Rule (fun v => v = v0) fNil, sVal (cL cS), sVal (cO (cD kS cS)), sVal (cO (cD kS cI)), sAny, sAny, sAny, sAny, sAny] → Res (Out (CT [sSelf A_Rule (fun v => v = v0) (fSnoc (fSnoc (fSnoc fNil "kept_early" (cTV cS)) "kept_keyed" (cTV (cT (aCons cS (aOne cS))))) "kept_ranks" (cTV (cT (aCons cS (aOne cI))))), sVal (cL cS), sVal (cO (cD kS cS)), sVal (cO (cD kS cI)), sVal (cD kS cS), sVal (cD kS cI), sAny, sAny, sAny]) Unit) // ∀ {P : Program} {w : World} {K : Frag} {mg : Str → Option Value} {base : Heap} {ca : Str → Addr} (D_check_all_names : DefG P w K mg base 2 "check_all_names" ["names"] (spP K ca (aOne (cL cS)) (rV cN) F_check_all_names)) (M_sorted : mg "sorted" = none) (M_range : mg "range" = none) (M_len : mg "len" = none) (M_tuple : mg "tuple" = none) (C_Rule : ClsG K mg "Rule" A_Rule) (NA_Rule_kept_early : NoAttr K A_Rule "kept_early") (NA_Rule_kept_keyed : NoAttr K A_Rule "kept_keyed") (NA_Rule_kept_ranks : NoAttr K A_Rule "kept_ranks") (f : Addr) (v0 : V) (nd : N_Rule_init.Nodup) cd A outer s H E hr hgd, BX (ambOf P w K mg base ca N_Rule_init nd 2 "Rule.__init__" (defScope s_Rule_init) f cd A outer s H E hr hgd) [sSelf A_Rule (fun v => v = v0) fNil, sVal (cL cS), sVal (cO (cD kS cS)), sVal (cO (cD kS cI)), sAny, sAny, sAny, sAny, sAny] (defBody s_Rule_init) [sSelf A_Rule (fun v => v = v0) (fSnoc (fSnoc (fSnoc fNil "kept_early" (cTV cS)) "kept_keyed" (cTV (cT (aCons cS (aOne cS))))) "kept_ranks" (cTV (cT (aCons cS (aOne cI))))), sVal (cL cS), sVal (cO (cD kS cS)), sVal (cO (cD kS cI)), sVal (cD kS cS), sVal (cD kS cI), sAny, sAny, sAny] (rrP (rV cN)) (fb v0)} := ⟨_, by
  intro P w K mg base ca D_check_all_names M_sorted M_range M_len M_tuple C_Rule NA_Rule_kept_early NA_Rule_kept_keyed NA_Rule_kept_ranks f v0 nd cd A outer s H E hr hgd
  refine' bx_cons (G1 := [sSelf A_Rule (fun v => v = v0) fNil, sVal (cL cS), sVal (cO (cD kS cS)), sVal (cO (cD kS cI)), sVal (cD kS cS), sAny, sAny, sAny, sAny]) ?g26 ?g27
  case g26 =>
    exact sx_set (up_s (up_s (up_s (up_s up_z)))) (by rfl) (by first | exact Or.inl rfl | exact Or.inr rfl) (rex_if (rtx_cmp (ot_isN nn_d) (rex_var (at_s (at_s at_z)) (by rfl) (by first | exact Or.inl rfl | exact Or.inr (Or.inl rfl) | exact Or.inr (Or.inr rfl))) rex_none (by rfl)) (rex_frz frz_d (rex_dnew (kc := kS) (c := cS))) (rex_un (rex_var (at_s (at_s at_z)) (by rfl) (by first | exact Or.inl rfl | exact Or.inr (Or.inl rfl) | exact Or.inr (Or.inr rfl))))) (by exact trivial) (by rfl) (by first | exact Or.inl rfl | exact Or.inr rfl)
  case g27 =>
    refine' bx_cons (G1 := [sSelf A_Rule (fun v => v = v0) fNil, sVal (cL cS), sVal (cO (cD kS cS)), sVal (cO (cD kS cI)), sVal (cD kS cS), sVal (cD kS cI), sAny, sAny, sAny]) ?g24 ?g25
    case g24 =>
      exact sx_set (up_s (up_s (up_s (up_s (up_s up_z))))) (by rfl) (by first | exact Or.inl rfl | exact Or.inr rfl) (rex_if (rtx_cmp (ot_isN nn_d) (rex_var (at_s (at_s (at_s at_z))) (by rfl) (by first | exact Or.inl rfl | exact Or.inr (Or.inl rfl) | exact Or.inr (Or.inr rfl))) rex_none (by rfl)) (rex_frz frz_d (rex_dnew (kc := kS) (c := cI))) (rex_un (rex_var (at_s (at_s (at_s at_z))) (by rfl) (by first | exact Or.inl rfl | exact Or.inr (Or.inl rfl) | exact Or.inr (Or.inr rfl))))) (by exact trivial) (by rfl) (by first | exact Or.inl rfl | exact Or.inr rfl)
    case g25 =>
      refine' bx_cons (G1 := [sSelf A_Rule (fun v => v = v0) fNil, sVal (cL cS), sVal (cO (cD kS cS)), sVal (cO (cD kS cI)), sVal (cD kS cS), sVal (cD kS cI), sAny, sAny, sAny]) ?g22 ?g23
      case g22 =>
        exact sx_expr (rex_cal D_check_all_names (Nat.le_of_ble_eq_true (by rfl)) (by rfl) rtv (rax_one (rex_var (at_s at_z) (by rfl) (by first | exact Or.inl rfl | exact Or.inr (Or.inl rfl) | exact Or.inr (Or.inr rfl)))))
      case g23 =>
        refine' bx_cons (G1 := [sSelf A_Rule (fun v => v = v0) fNil, sVal (cL cS), sVal (cO (cD kS cS)), sVal (cO (cD kS cI)), sVal (cD kS cS), sVal (cD kS cI), sAny, sAny, sAny]) ?g20 ?g21
        case g20 =>
          exact sx_expr (rex_cal D_check_all_names (Nat.le_of_ble_eq_true (by rfl)) (by rfl) rtv (rax_one (rex_frz frz_l (rex_callB ct_sortedD (by rfl) (by exact M_sorted) (by decide +kernel) (rax_one (rex_var (at_s (at_s (at_s (at_s at_z)))) (by rfl) (by first | exact Or.inl rfl | exact Or.inr (Or.inl rfl) | exact Or.inr (Or.inr rfl))))))))
        case g21 =>
          refine' bx_cons (G1 := [sSelf A_Rule (fun v => v = v0) fNil, sVal (cL cS), sVal (cO (cD kS cS)), sVal (cO (cD kS cI)), sVal (cD kS cS), sVal (cD kS cI), sAny, sAny, sAny]) ?g18 ?g19
          case g18 =>
            exact sx_expr (rex_cal D_check_all_names (Nat.le_of_ble_eq_true (by rfl)) (by rfl) rtv (rax_one (rex_frz frz_l (rex_lc (own := [("name", 7)]) (rix_l (rex_frz frz_l (rex_callB ct_sortedD (by rfl) (by exact M_sorted) (by decide +kernel) (rax_one (rex_var (at_s (at_s (at_s (at_s at_z)))) (by rfl) (by first | exact Or.inl rfl | exact Or.inr (Or.inl rfl) | exact Or.inr (Or.inr rfl))))))) (blkOk_by (by rfl)) (wc_keep (by decide) (wc_keep (by decide) (wc_keep (by decide) (wc_keep (by decide) (wc_keep (by decide) (wc_keep (by decide) (wc_keep (by decide) (wc_any (wc_keep (by decide) wc_nil))))))))) (fun _ _ _ _ _ => (gx_name (up_s (up_s (up_s (up_s (up_s (up_s (up_s up_z))))))) (by rfl) (by first | exact Or.inl rfl | exact Or.inr rfl) (by show (7 : Nat) ∈ [7]; decide) (by first | exact Or.inl rfl | exact Or.inr rfl))) (fun _ _ _ _ _ => (rex_ixD (rex_var (at_s (at_s (at_s (at_s at_z)))) (by rfl) (by first | exact Or.inl rfl | exact Or.inr (Or.inl rfl) | exact Or.inr (Or.inr rfl))) (rex_var (at_s (at_s (at_s (at_s (at_s (at_s (at_s at_z))))))) (by rfl) (by first | exact Or.inl rfl | exact Or.inr (Or.inl rfl) | exact Or.inr (Or.inr rfl))) (by intro _ _; rfl))) (wc_keep (by decide) (wc_keep (by decide) (wc_keep (by decide) (wc_keep (by decide) (wc_keep (by decide) (wc_keep (by decide) (wc_keep (by decide) (wc_val (wc_keep (by decide) wc_nil)))))))))))))
          case g19 =>
            refine' bx_cons (G1 := [sSelf A_Rule (fun v => v = v0) fNil, sVal (cL cS), sVal (cO (cD kS cS)), sVal (cO (cD kS cI)), sVal (cD kS cS), sVal (cD kS cI), sAny, sAny, sAny]) ?g16 ?g17
            case g16 =>
              exact sx_expr (rex_cal D_check_all_names (Nat.le_of_ble_eq_true (by rfl)) (by rfl) rtv (rax_one (rex_frz frz_l (rex_callB ct_sortedD (by rfl) (by exact M_sorted) (by decide +kernel) (rax_one (rex_var (at_s (at_s (at_s (at_s (at_s at_z))))) (by rfl) (by first | exact Or.inl rfl | exact Or.inr (Or.inl rfl) | exact Or.inr (Or.inr rfl))))))))
            case g17 =>
              refine' bx_cons (G1 := [sSelf A_Rule (fun v => v = v0) fNil, sVal (cL cS), sVal (cO (cD kS cS)), sVal (cO (cD kS cI)), sVal (cD kS cS), sVal (cD kS cI), sAny, sAny, sAny]) ?g14 ?g15
              case g14 =>
                refine' sx_for (G1 := [sSelf A_Rule (fun v => v = v0) fNil, sVal (cL cS), sVal (cO (cD kS cS)), sVal (cO (cD kS cI)), sVal (cD kS cS), sVal (cD kS cI), sVal cI, sAny, sAny]) (G2 := [sSelf A_Rule (fun v => v = v0) fNil, sVal (cL cS), sVal (cO (cD kS cS)), sVal (cO (cD kS cI)), sVal (cD kS cS), sVal (cD kS cI), sVal cI, sAny, sAny]) (rix_r1 (by rfl) (by exact M_range) (rex_callB ct_lenL (by rfl) (by exact M_len) (by decide +kernel) (rax_one (rex_var (at_s at_z) (by rfl) (by first | exact Or.inl rfl | exact Or.inr (Or.inl rfl) | exact Or.inr (Or.inr rfl)))))) (gx_name (up_s (up_s (up_s (up_s (up_s (up_s up_z)))))) (by rfl) (by first | exact Or.inl rfl | exact Or.inr rfl) (by exact trivial) (by first | exact Or.inl rfl | exact Or.inr rfl)) ?g9 (sc_same (sc_same (sc_same (sc_same (sc_same (sc_same (sc_any sc_id)))))))
                case g9 =>
                  refine' bx_one ?_
                  refine' sx_if (G' := [sSelf A_Rule (fun v => v = v0) fNil, sVal (cL cS), sVal (cO (cD kS cS)), sVal (cO (cD kS cI)), sVal (cD kS cS), sVal (cD kS cI), sVal cI, sAny, sAny]) (rtx_cmp (ot_inLF fq_s) (rex_ixL (rex_var (at_s at_z) (by rfl) (by first | exact Or.inl rfl | exact Or.inr (Or.inl rfl) | exact Or.inr (Or.inr rfl))) (rex_var (at_s (at_s (at_s (at_s (at_s (at_s at_z)))))) (by rfl) (by first | exact Or.inl rfl | exact Or.inr (Or.inl rfl) | exact Or.inr (Or.inr rfl))) (by intro _ _; rfl)) (rex_frz frz_l (rex_cutL (rex_var (at_s at_z) (by rfl) (by first | exact Or.inl rfl | exact Or.inr (Or.inl rfl) | exact Or.inr (Or.inr rfl))) rox_none (rox_some (rex_var (at_s (at_s (at_s (at_s (at_s (at_s at_z)))))) (by rfl) (by first | exact Or.inl rfl | exact Or.inr (Or.inl rfl) | exact Or.inr (Or.inr rfl)))))) (by rfl)) ?g7 ?g8
                  case g7 =>
                    refine' bx_one ?_
                    exact sx_bad
                  case g8 =>
                    exact bx_nil
              case g15 =>
                refine' bx_cons (G1 := [sSelf A_Rule (fun v => v = v0) (fSnoc fNil "kept_early" (cTV cS)), sVal (cL cS), sVal (cO (cD kS cS)), sVal (cO (cD kS cI)), sVal (cD kS cS), sVal (cD kS cI), sAny, sAny, sAny]) ?g12 ?g13
                case g12 =>
                  exact sx_fld at_z (by rfl) (by first | exact Or.inl rfl | exact Or.inr (Or.inl rfl) | exact Or.inr (Or.inr rfl)) C_Rule.cls NA_Rule_kept_early nk_nil mo_self (len_ok len_nil (by decide)) (rex_callTy ct_tupleL (by rfl) (by exact M_tuple) (by decide +kernel) (rax_one (rex_frz frz_l (rex_callB (ct_sortedL dc_s (by decide)) (by rfl) (by exact M_sorted) (by decide +kernel) (rax_one (rex_var (at_s at_z) (by rfl) (by first | exact Or.inl rfl | exact Or.inr (Or.inl rfl) | exact Or.inr (Or.inr rfl)))))))) (by rfl)
                case g13 =>
                  refine' bx_cons (G1 := [sSelf A_Rule (fun v => v = v0) (fSnoc (fSnoc fNil "kept_early" (cTV cS)) "kept_keyed" (cTV (cT (aCons cS (aOne cS))))), sVal (cL cS), sVal (cO (cD kS cS)), sVal (cO (cD kS cI)), sVal (cD kS cS), sVal (cD kS cI), sAny, sAny, sAny]) ?g10 ?g11
                  case g10 =>
                    exact sx_fld at_z (by rfl) (by first | exact Or.inl rfl | exact Or.inr (Or.inl rfl) | exact Or.inr (Or.inr rfl)) C_Rule.cls NA_Rule_kept_keyed (nk_snoc nk_nil (by decide)) mo_self (len_ok (len_snoc len_nil) (by decide)) (rex_callTy ct_tupleL (by rfl) (by exact M_tuple) (by decide +kernel) (rax_one (rex_frz frz_l (rex_sortedIt dc_s (by rfl) (by exact M_sorted) (rex_var (at_s (at_s (at_s (at_s at_z)))) (by rfl) (by first | exact Or.inl rfl | exact Or.inr (Or.inl rfl) | exact Or.inr (Or.inr rfl))))))) (by rfl)
                  case g11 =>
                    refine' bx_one ?_
                    exact sx_fld at_z (by rfl) (by first | exact Or.inl rfl | exact Or.inr (Or.inl rfl) | exact Or.inr (Or.inr rfl)) C_Rule.cls NA_Rule_kept_ranks (nk_snoc (nk_snoc nk_nil (by decide)) (by decide)) mo_self (len_ok (len_snoc (len_snoc len_nil)) (by decide)) (rex_callTy ct_tupleL (by rfl) (by exact M_tuple) (by decide +kernel) (rax_one (rex_frz frz_l (rex_lcIf (own := [("name", 7), ("rank", 8)]) (rix_l (rex_frz frz_l (rex_sortedIt dc_i (by rfl) (by exact M_sorted) (rex_var (at_s (at_s (at_s (at_s (at_s at_z))))) (by rfl) (by first | exact Or.inl rfl | exact Or.inr (Or.inl rfl) | exact Or.inr (Or.inr rfl)))))) (blkOk_by (by rfl)) (wc_keep (by decide) (wc_keep (by decide) (wc_keep (by decide) (wc_keep (by decide) (wc_keep (by decide) (wc_keep (by decide) (wc_keep (by decide) (wc_any (wc_any wc_nil))))))))) (fun _ _ _ _ _ => (gx_tup (gxs_cons (gx_name (up_s (up_s (up_s (up_s (up_s (up_s (up_s up_z))))))) (by rfl) (by first | exact Or.inl rfl | exact Or.inr rfl) (by show (7 : Nat) ∈ [7, 8]; decide) (by first | exact Or.inl rfl | exact Or.inr rfl)) (gxs_one (gx_name (up_s (up_s (up_s (up_s (up_s (up_s (up_s (up_s up_z)))))))) (by rfl) (by first | exact Or.inl rfl | exact Or.inr rfl) (by show (8 : Nat) ∈ [7, 8]; decide) (by first | exact Or.inl rfl | exact Or.inr rfl)))))) (fun _ _ _ _ _ => (rtx_cmp ot_ne (rex_var (at_s (at_s (at_s (at_s (at_s (at_s (at_s (at_s at_z)))))))) (by rfl) (by first | exact Or.inl rfl | exact Or.inr (Or.inl rfl) | exact Or.inr (Or.inr rfl))) rex_int (by rfl))) (fun _ _ _ _ _ => (rex_tup (rax_cons (rex_var (at_s (at_s (at_s (at_s (at_s (at_s (at_s at_z))))))) (by rfl) (by first | exact Or.inl rfl | exact Or.inr (Or.inl rfl) | exact Or.inr (Or.inr rfl))) (rax_one (rex_var (at_s (at_s (at_s (at_s (at_s (at_s (at_s (at_s at_z)))))))) (by rfl) (by first | exact Or.inl rfl | exact Or.inr (Or.inl rfl) | exact Or.inr (Or.inr rfl))))))) (wc_keep (by decide) (wc_keep (by decide) (wc_keep (by decide) (wc_keep (by decide) (wc_keep (by decide) (wc_keep (by decide) (wc_keep (by decide) (wc_val (wc_val wc_nil))))))))))))) (by rfl)⟩
def F_Rule_init (y : (List Str) × (Option (List (Str × Str))) × (Option (List (Str × Int)))) : Res (((Unit × (List Str)) × (List (Str × Str))) × (List (Str × Int))) := Res.bind ((fb_Rule_init 0 ).1 .non ((), (y.1, (y.2.1, (y.2.2, ((), ((), ((), ((), ((), ())))))))))) endN

theorem okF_Rule_init {P : Program} {w : World} {K : Frag} {mg : Str → Option Value} {base : Heap} {ca : Str → Addr} {fa : Addr} {dvs : List V} {kws : List (Str × V)} {fd : FuncData} {A_Rule : Addr} (F0 : FunD K "__init__" "Rule.__init__" (defArgs s_Rule_init) (defBody s_Rule_init) (defScope s_Rule_init) dvs kws fa fd) (D_check_all_names : DefG P w K mg base 2 "check_all_names" ["names"] (spP K ca (aOne (cL cS)) (rV cN) F_check_all_names)) (M_sorted : mg "sorted" = none) (M_range : mg "range" = none) (M_len : mg "len" = none) (M_tuple : mg "tuple" = none) (C_Rule : ClsG K mg "Rule" A_Rule) (NA_Rule_kept_early : NoAttr K A_Rule "kept_early") (NA_Rule_kept_keyed : NoAttr K A_Rule "kept_keyed") (NA_Rule_kept_ranks : NoAttr K A_Rule "kept_ranks") : FnG P w K mg base 3 fa fd ["self", "early", "keyed", "ranks"] (spN K ca A_Rule (aCons (cL cS) (aCons (cO (cD kS cS)) (aOne (cO (cD kS cI))))) (fSnoc (fSnoc (fSnoc fNil "kept_early" (cTV cS)) "kept_keyed" (cTV (cT (aCons cS (aOne cS))))) "kept_ranks" (cTV (cT (aCons cS (aOne cI))))) F_Rule_init) :=
  fn_N (as := (aCons (cL cS) (aCons (cO (cD kS cS)) (aOne (cO (cD kS cI)))))) (G1 := [sVal (cL cS), sVal (cO (cD kS cS)), sVal (cO (cD kS cI)), sAny, sAny, sAny, sAny, sAny]) (ini := (fun y => (y.1, (y.2.1, (y.2.2, ((), ((), ((), ((), ((), ())))))))))) (fb := (fb_Rule_init A_Rule ).1) F0 sc_Rule_init (by rfl) (fun L H v0 ws y wf h => by obtain ⟨v1, _, rfl, h1, v2, _, rfl, h2, v3, rfl, h3⟩ := h; exact ⟨⟨v1, rfl, h1⟩, ⟨v2, rfl, h2⟩, ⟨v3, rfl, h3⟩, trivial, trivial, trivial, trivial, trivial, Nat.le_of_ble_eq_true (by rfl)⟩) (fun v0 nd cd A outer s H E hr hgd => (fb_Rule_init A_Rule ).2 D_check_all_names M_sorted M_range M_len M_tuple C_Rule NA_Rule_kept_early NA_Rule_kept_keyed NA_Rule_kept_ranks fa v0 nd cd A outer s H E hr hgd) (fun v0 y => rfl)

/-! Rule.__init__@t -/
abbrev s_Rule_init_o_t : Stmt := sub 10 0
abbrev N_Rule_init_o_t : List Str := ["self", "early", "keyed", "ranks", "key_of", "rank_of", "at", "name", "rank"]
theorem sc_Rule_init_o_t : FnScope N_Rule_init_o_t ["self", "early", "keyed", "ranks"] (defScope s_Rule_init_o_t) := ⟨rfl, rfl, rfl, by decide +kernel, rfl, by decide +kernel, by decide +kernel⟩
def fb_Rule_init_o_t (A_Rule : Addr) : {fb : (v0 : V) → CT [sSelf A_Rule (fun v => v = v0) fNil, sVal (cTV cS), sVal (cO (cD kS cS)), sVal (cO (cD kS cI)), sAny, sAny, sAny, sAny, sAny] → Res (Out (CT [sSelf A_Rule (fun v => v = v0) (fSnoc (fSnoc (fSnoc fNil "kept_early" (cTV cS)) "kept_keyed" (cTV (cT (aCons cS (aOne cS))))) "kept_ranks" (cTV (cT (aCons cS (aOne cI))))), sVal (cTV cS), sVal (cO (cD kS cS)), sVal (cO (cD kS cI)), sVal (cD kS cS), sVal (cD kS cI), sAny, sAny, sAny]) Unit) // ∀ {P : Program} {w : World} {K : Frag} {mg : Str → Option Value} {base : Heap} {ca : Str → Addr} (D_check_all_names_o_t : DefG P w K mg base 2 "check_all_names" ["names"] (spP K ca (aOne (cTV cS)) (rV cN) F_check_all_names_o_t)) (D_check_all_names : DefG P w K mg base 2 "check_all_names" ["names"] (spP K ca (aOne (cL cS)) (rV cN) F_check_all_names)) (M_sorted : mg "sorted" = none) (M_range : mg "range" = none) (M_len : mg "len" = none) (M_tuple : mg "tuple" = none) (C_Rule : ClsG K mg "Rule" A_Rule) (NA_Rule_kept_early : NoAttr K A_Rule "kept_early") (NA_Rule_kept_keyed : NoAttr K A_Rule "kept_keyed") (NA_Rule_kept_ranks : NoAttr K A_Rule "kept_ranks") (f : Addr) (v0 : V) (nd : N_Rule_init_o_t.Nodup) cd A outer s H E hr hgd, BX (ambOf P w K mg base ca N_Rule_init_o_t nd 2 "Rule.__init__" (defScope s_Rule_init_o_t) f cd A outer s H E hr hgd) [sSelf A_Rule (fun v => v = v0) fNil, sVal (cTV cS), sVal (cO (cD kS cS)), sVal (cO (cD kS cI)), sAny, sAny, sAny, sAny, sAny] (defBody s_Rule_init_o_t) [sSelf A_Rule (fun v => v = v0) (fSnoc (fSnoc (fSnoc fNil "kept_early" (cTV cS)) "kept_keyed" (cTV (cT (aCons cS (aOne cS))))) "kept_ranks" (cTV (cT (aCons cS (aOne cI))))), sVal (cTV cS), sVal (cO (cD kS cS)), sVal (cO (cD kS cI)), sVal (cD kS cS), sVal (cD kS cI), sAny, sAny, sAny] (rrP (rV cN)) (fb v0)} := ⟨_, by
  intro P w K mg base ca D_check_all_names_o_t D_check_all_names M_sorted M_range M_len M_tuple C_Rule NA_Rule_kept_early NA_Rule_kept_keyed NA_Rule_kept_ranks f v0 nd cd A outer s H E hr hgd
  refine' bx_cons (G1 := [sSelf A_Rule (fun v => v = v0) fNil, sVal (cTV cS), sVal (cO (cD kS cS)), sVal (cO (cD kS cI)), sVal (cD kS cS), sAny, sAny, sAny, sAny]) ?g47 ?g48
  case g47 =>
    exact sx_set (up_s (up_s (up_s (up_s up_z)))) (by rfl) (by first | exact Or.inl rfl | exact Or.inr rfl) (rex_if (rtx_cmp (ot_isN nn_d) (rex_var (at_s (at_s at_z)) (by rfl) (by first | exact Or.inl rfl | exact Or.inr (Or.inl rfl) | exact Or.inr (Or.inr rfl))) rex_none (by rfl)) (rex_frz frz_d (rex_dnew (kc := kS) (c := cS))) (rex_un (rex_var (at_s (at_s at_z)) (by rfl) (by first | exact Or.inl rfl | exact Or.inr (Or.inl rfl) | exact Or.inr (Or.inr rfl))))) (by exact trivial) (by rfl) (by first | exact Or.inl rfl | exact Or.inr rfl)
  case g48 =>
    refine' bx_cons (G1 := [sSelf A_Rule (fun v => v = v0) fNil, sVal (cTV cS), sVal (cO (cD kS cS)), sVal (cO (cD kS cI)), sVal (cD kS cS), sVal (cD kS cI), sAny, sAny, sAny]) ?g45 ?g46
    case g45 =>
      exact sx_set (up_s (up_s (up_s (up_s (up_s up_z))))) (by rfl) (by first | exact Or.inl rfl | exact Or.inr rfl) (rex_if (rtx_cmp (ot_isN nn_d) (rex_var (at_s (at_s (at_s at_z))) (by rfl) (by first | exact Or.inl rfl | exact Or.inr (Or.inl rfl) | exact Or.inr (Or.inr rfl))) rex_none (by rfl)) (rex_frz frz_d (rex_dnew (kc := kS) (c := cI))) (rex_un (rex_var (at_s (at_s (at_s at_z))) (by rfl) (by first | exact Or.inl rfl | exact Or.inr (Or.inl rfl) | exact Or.inr (Or.inr rfl))))) (by exact trivial) (by rfl) (by first | exact Or.inl rfl | exact Or.inr rfl)
    case g46 =>
      refine' bx_cons (G1 := [sSelf A_Rule (fun v => v = v0) fNil, sVal (cTV cS), sVal (cO (cD kS cS)), sVal (cO (cD kS cI)), sVal (cD kS cS), sVal (cD kS cI), sAny, sAny, sAny]) ?g43 ?g44
      case g43 =>
        exact sx_expr (rex_cal D_check_all_names_o_t (Nat.le_of_ble_eq_true (by rfl)) (by rfl) rtv (rax_one (rex_var (at_s at_z) (by rfl) (by first | exact Or.inl rfl | exact Or.inr (Or.inl rfl) | exact Or.inr (Or.inr rfl)))))
      case g44 =>
        refine' bx_cons (G1 := [sSelf A_Rule (fun v => v = v0) fNil, sVal (cTV cS), sVal (cO (cD kS cS)), sVal (cO (cD kS cI)), sVal (cD kS cS), sVal (cD kS cI), sAny, sAny, sAny]) ?g41 ?g42
        case g41 =>
          exact sx_expr (rex_cal D_check_all_names (Nat.le_of_ble_eq_true (by rfl)) (by rfl) rtv (rax_one (rex_frz frz_l (rex_callB ct_sortedD (by rfl) (by exact M_sorted) (by decide +kernel) (rax_one (rex_var (at_s (at_s (at_s (at_s at_z)))) (by rfl) (by first | exact Or.inl rfl | exact Or.inr (Or.inl rfl) | exact Or.inr (Or.inr rfl))))))))
        case g42 =>
          refine' bx_cons (G1 := [sSelf A_Rule (fun v => v = v0) fNil, sVal (cTV cS), sVal (cO (cD kS cS)), sVal (cO (cD kS cI)), sVal (cD kS cS), sVal (cD kS cI), sAny, sAny, sAny]) ?g39 ?g40
          case g39 =>
            exact sx_expr (rex_cal D_check_all_names (Nat.le_of_ble_eq_true (by rfl)) (by rfl) rtv (rax_one (rex_frz frz_l (rex_lc (own := [("name", 7)]) (rix_l (rex_frz frz_l (rex_callB ct_sortedD (by rfl) (by exact M_sorted) (by decide +kernel) (rax_one (rex_var (at_s (at_s (at_s (at_s at_z)))) (by rfl) (by first | exact Or.inl rfl | exact Or.inr (Or.inl rfl) | exact Or.inr (Or.inr rfl))))))) (blkOk_by (by rfl)) (wc_keep (by decide) (wc_keep (by decide) (wc_keep (by decide) (wc_keep (by decide) (wc_keep (by decide) (wc_keep (by decide) (wc_keep (by decide) (wc_any (wc_keep (by decide) wc_nil))))))))) (fun _ _ _ _ _ => (gx_name (up_s (up_s (up_s (up_s (up_s (up_s (up_s up_z))))))) (by rfl) (by first | exact Or.inl rfl | exact Or.inr rfl) (by show (7 : Nat) ∈ [7]; decide) (by first | exact Or.inl rfl | exact Or.inr rfl))) (fun _ _ _ _ _ => (rex_ixD (rex_var (at_s (at_s (at_s (at_s at_z)))) (by rfl) (by first | exact Or.inl rfl | exact Or.inr (Or.inl rfl) | exact Or.inr (Or.inr rfl))) (rex_var (at_s (at_s (at_s (at_s (at_s (at_s (at_s at_z))))))) (by rfl) (by first | exact Or.inl rfl | exact Or.inr (Or.inl rfl) | exact Or.inr (Or.inr rfl))) (by intro _ _; rfl))) (wc_keep (by decide) (wc_keep (by decide) (wc_keep (by decide) (wc_keep (by decide) (wc_keep (by decide) (wc_keep (by decide) (wc_keep (by decide) (wc_val (wc_keep (by decide) wc_nil)))))))))))))
          case g40 =>
            refine' bx_cons (G1 := [sSelf A_Rule (fun v => v = v0) fNil, sVal (cTV cS), sVal (cO (cD kS cS)), sVal (cO (cD kS cI)), sVal (cD kS cS), sVal (cD kS cI), sAny, sAny, sAny]) ?g37 ?g38
            case g37 =>
              exact sx_expr (rex_cal D_check_all_names (Nat.le_of_ble_eq_true (by rfl)) (by rfl) rtv (rax_one (rex_frz frz_l (rex_callB ct_sortedD (by rfl) (by exact M_sorted) (by decide +kernel) (rax_one (rex_var (at_s (at_s (at_s (at_s (at_s at_z))))) (by rfl) (by first | exact Or.inl rfl | exact Or.inr (Or.inl rfl) | exact Or.inr (Or.inr rfl))))))))
            case g38 =>
              refine' bx_cons (G1 := [sSelf A_Rule (fun v => v = v0) fNil, sVal (cTV cS), sVal (cO (cD kS cS)), sVal (cO (cD kS cI)), sVal (cD kS cS), sVal (cD kS cI), sAny, sAny, sAny]) ?g35 ?g36
              case g35 =>
                refine' sx_for (G1 := [sSelf A_Rule (fun v => v = v0) fNil, sVal (cTV cS), sVal (cO (cD kS cS)), sVal (cO (cD kS cI)), sVal (cD kS cS), sVal (cD kS cI), sVal cI, sAny, sAny]) (G2 := [sSelf A_Rule (fun v => v = v0) fNil, sVal (cTV cS), sVal (cO (cD kS cS)), sVal (cO (cD kS cI)), sVal (cD kS cS), sVal (cD kS cI), sVal cI, sAny, sAny]) (rix_r1 (by rfl) (by exact M_range) (rex_callB ct_lenT (by rfl) (by exact M_len) (by decide +kernel) (rax_one (rex_var (at_s at_z) (by rfl) (by first | exact Or.inl rfl | exact Or.inr (Or.inl rfl) | exact Or.inr (Or.inr rfl)))))) (gx_name (up_s (up_s (up_s (up_s (up_s (up_s up_z)))))) (by rfl) (by first | exact Or.inl rfl | exact Or.inr rfl) (by exact trivial) (by first | exact Or.inl rfl | exact Or.inr rfl)) ?g30 (sc_same (sc_same (sc_same (sc_same (sc_same (sc_same (sc_any sc_id)))))))
                case g30 =>
                  refine' bx_one ?_
                  refine' sx_if (G' := [sSelf A_Rule (fun v => v = v0) fNil, sVal (cTV cS), sVal (cO (cD kS cS)), sVal (cO (cD kS cI)), sVal (cD kS cS), sVal (cD kS cI), sVal cI, sAny, sAny]) (tx_cmp (ot_inTV fq_s) (rex_ixT (rex_var (at_s at_z) (by rfl) (by first | exact Or.inl rfl | exact Or.inr (Or.inl rfl) | exact Or.inr (Or.inr rfl))) (rex_var (at_s (at_s (at_s (at_s (at_s (at_s at_z)))))) (by rfl) (by first | exact Or.inl rfl | exact Or.inr (Or.inl rfl) | exact Or.inr (Or.inr rfl))) (by intro _ _; rfl)) (ex_cutT (rex_var (at_s at_z) (by rfl) (by first | exact Or.inl rfl | exact Or.inr (Or.inl rfl) | exact Or.inr (Or.inr rfl))) rox_none (rox_some (rex_var (at_s (at_s (at_s (at_s (at_s (at_s at_z)))))) (by rfl) (by first | exact Or.inl rfl | exact Or.inr (Or.inl rfl) | exact Or.inr (Or.inr rfl))))) (by rfl)) ?g28 ?g29
                  case g28 =>
                    refine' bx_one ?_
                    exact sx_bad
                  case g29 =>
                    exact bx_nil
              case g36 =>
                refine' bx_cons (G1 := [sSelf A_Rule (fun v => v = v0) (fSnoc fNil "kept_early" (cTV cS)), sVal (cTV cS), sVal (cO (cD kS cS)), sVal (cO (cD kS cI)), sVal (cD kS cS), sVal (cD kS cI), sAny, sAny, sAny]) ?g33 ?g34
                case g33 =>
                  exact sx_fld at_z (by rfl) (by first | exact Or.inl rfl | exact Or.inr (Or.inl rfl) | exact Or.inr (Or.inr rfl)) C_Rule.cls NA_Rule_kept_early nk_nil mo_self (len_ok len_nil (by decide)) (rex_callTy ct_tupleL (by rfl) (by exact M_tuple) (by decide +kernel) (rax_one (rex_frz frz_l (rex_callB (ct_sortedT dc_s (by decide)) (by rfl) (by exact M_sorted) (by decide +kernel) (rax_one (rex_var (at_s at_z) (by rfl) (by first | exact Or.inl rfl | exact Or.inr (Or.inl rfl) | exact Or.inr (Or.inr rfl)))))))) (by rfl)
                case g34 =>
                  refine' bx_cons (G1 := [sSelf A_Rule (fun v => v = v0) (fSnoc (fSnoc fNil "kept_early" (cTV cS)) "kept_keyed" (cTV (cT (aCons cS (aOne cS))))), sVal (cTV cS), sVal (cO (cD kS cS)), sVal (cO (cD kS cI)), sVal (cD kS cS), sVal (cD kS cI), sAny, sAny, sAny]) ?g31 ?g32
                  case g31 =>
                    exact sx_fld at_z (by rfl) (by first | exact Or.inl rfl | exact Or.inr (Or.inl rfl) | exact Or.inr (Or.inr rfl)) C_Rule.cls NA_Rule_kept_keyed (nk_snoc nk_nil (by decide)) mo_self (len_ok (len_snoc len_nil) (by decide)) (rex_callTy ct_tupleL (by rfl) (by exact M_tuple) (by decide +kernel) (rax_one (rex_frz frz_l (rex_sortedIt dc_s (by rfl) (by exact M_sorted) (rex_var (at_s (at_s (at_s (at_s at_z)))) (by rfl) (by first | exact Or.inl rfl | exact Or.inr (Or.inl rfl) | exact Or.inr (Or.inr rfl))))))) (by rfl)
                  case g32 =>
                    refine' bx_one ?_
                    exact sx_fld at_z (by rfl) (by first | exact Or.inl rfl | exact Or.inr (Or.inl rfl) | exact Or.inr (Or.inr rfl)) C_Rule.cls NA_Rule_kept_ranks (nk_snoc (nk_snoc nk_nil (by decide)) (by decide)) mo_self (len_ok (len_snoc (len_snoc len_nil)) (by decide)) (rex_callTy ct_tupleL (by rfl) (by exact M_tuple) (by decide +kernel) (rax_one (rex_frz frz_l (rex_lcIf (own := [("name", 7), ("rank", 8)]) (rix_l (rex_frz frz_l (rex_sortedIt dc_i (by rfl) (by exact M_sorted) (rex_var (at_s (at_s (at_s (at_s (at_s at_z))))) (by rfl) (by first | exact Or.inl rfl | exact Or.inr (Or.inl rfl) | exact Or.inr (Or.inr rfl)))))) (blkOk_by (by rfl)) (wc_keep (by decide) (wc_keep (by decide) (wc_keep (by decide) (wc_keep (by decide) (wc_keep (by decide) (wc_keep (by decide) (wc_keep (by decide) (wc_any (wc_any wc_nil))))))))) (fun _ _ _ _ _ => (gx_tup (gxs_cons (gx_name (up_s (up_s (up_s (up_s (up_s (up_s (up_s up_z))))))) (by rfl) (by first | exact Or.inl rfl | exact Or.inr rfl) (by show (7 : Nat) ∈ [7, 8]; decide) (by first | exact Or.inl rfl | exact Or.inr rfl)) (gxs_one (gx_name (up_s (up_s (up_s (up_s (up_s (up_s (up_s (up_s up_z)))))))) (by rfl) (by first | exact Or.inl rfl | exact Or.inr rfl) (by show (8 : Nat) ∈ [7, 8]; decide) (by first | exact Or.inl rfl | exact Or.inr rfl)))))) (fun _ _ _ _ _ => (rtx_cmp ot_ne (rex_var (at_s (at_s (at_s (at_s (at_s (at_s (at_s (at_s at_z)))))))) (by rfl) (by first | exact Or.inl rfl | exact Or.inr (Or.inl rfl) | exact Or.inr (Or.inr rfl))) rex_int (by rfl))) (fun _ _ _ _ _ => (rex_tup (rax_cons (rex_var (at_s (at_s (at_s (at_s (at_s (at_s (at_s at_z))))))) (by rfl) (by first | exact Or.inl rfl | exact Or.inr (Or.inl rfl) | exact Or.inr (Or.inr rfl))) (rax_one (rex_var (at_s (at_s (at_s (at_s (at_s (at_s (at_s (at_s at_z)))))))) (by rfl) (by first | exact Or.inl rfl | exact Or.inr (Or.inl rfl) | exact Or.inr (Or.inr rfl))))))) (wc_keep (by decide) (wc_keep (by decide) (wc_keep (by decide) (wc_keep (by decide) (wc_keep (by decide) (wc_keep (by decide) (wc_keep (by decide) (wc_val (wc_val wc_nil))))))))))))) (by rfl)⟩
def F_Rule_init_o_t (y : (List Str) × (Option (List (Str × Str))) × (Option (List (Str × Int)))) : Res (((Unit × (List Str)) × (List (Str × Str))) × (List (Str × Int))) := Res.bind ((fb_Rule_init_o_t 0 ).1 .non ((), (y.1, (y.2.1, (y.2.2, ((), ((), ((), ((), ((), ())))))))))) endN

theorem okF_Rule_init_o_t {P : Program} {w : World} {K : Frag} {mg : Str → Option Value} {base : Heap} {ca : Str → Addr} {fa : Addr} {dvs : List V} {kws : List (Str × V)} {fd : FuncData} {A_Rule : Addr} (F0 : FunD K "__init__" "Rule.__init__" (defArgs s_Rule_init_o_t) (defBody s_Rule_init_o_t) (defScope s_Rule_init_o_t) dvs kws fa fd) (D_check_all_names_o_t : DefG P w K mg base 2 "check_all_names" ["names"] (spP K ca (aOne (cTV cS)) (rV cN) F_check_all_names_o_t)) (D_check_all_names : DefG P w K mg base 2 "check_all_names" ["names"] (spP K ca (aOne (cL cS)) (rV cN) F_check_all_names)) (M_sorted : mg "sorted" = none) (M_range : mg "range" = none) (M_len : mg "len" = none) (M_tuple : mg "tuple" = none) (C_Rule : ClsG K mg "Rule" A_Rule) (NA_Rule_kept_early : NoAttr K A_Rule "kept_early") (NA_Rule_kept_keyed : NoAttr K A_Rule "kept_keyed") (NA_Rule_kept_ranks : NoAttr K A_Rule "kept_ranks") : FnG P w K mg base 3 fa fd ["self", "early", "keyed", "ranks"] (spN K ca A_Rule (aCons (cTV cS) (aCons (cO (cD kS cS)) (aOne (cO (cD kS cI))))) (fSnoc (fSnoc (fSnoc fNil "kept_early" (cTV cS)) "kept_keyed" (cTV (cT (aCons cS (aOne cS))))) "kept_ranks" (cTV (cT (aCons cS (aOne cI))))) F_Rule_init_o_t) :=
  fn_N (as := (aCons (cTV cS) (aCons (cO (cD kS cS)) (aOne (cO (cD kS cI)))))) (G1 := [sVal (cTV cS), sVal (cO (cD kS cS)), sVal (cO (cD kS cI)), sAny, sAny, sAny, sAny, sAny]) (ini := (fun y => (y.1, (y.2.1, (y.2.2, ((), ((), ((), ((), ((), ())))))))))) (fb := (fb_Rule_init_o_t A_Rule ).1) F0 sc_Rule_init_o_t (by rfl) (fun L H v0 ws y wf h => by obtain ⟨v1, _, rfl, h1, v2, _, rfl, h2, v3, rfl, h3⟩ := h; exact ⟨⟨v1, rfl, h1⟩, ⟨v2, rfl, h2⟩, ⟨v3, rfl, h3⟩, trivial, trivial, trivial, trivial, trivial, Nat.le_of_ble_eq_true (by rfl)⟩) (fun v0 nd cd A outer s H E hr hgd => (fb_Rule_init_o_t A_Rule ).2 D_check_all_names_o_t D_check_all_names M_sorted M_range M_len M_tuple C_Rule NA_Rule_kept_early NA_Rule_kept_keyed NA_Rule_kept_ranks fa v0 nd cd A outer s H E hr hgd) (fun v0 y => rfl)

/-! Rule.early -/
abbrev s_Rule_early : Stmt := sub 10 1
abbrev N_Rule_early : List Str := ["self"]
theorem sc_Rule_early : FnScope N_Rule_early ["self"] (defScope s_Rule_early) := ⟨rfl, rfl, rfl, by decide +kernel, rfl, by decide +kernel, by decide +kernel⟩
def fb_Rule_early (A_Rule : Addr) : {fb : CT [sVal (cIns A_Rule (fSnoc (fSnoc (fSnoc fNil "kept_early" (cTV cS)) "kept_keyed" (cTV (cT (aCons cS (aOne cS))))) "kept_ranks" (cTV (cT (aCons cS (aOne cI))))))] → Res (Out (CT [sVal (cIns A_Rule (fSnoc (fSnoc (fSnoc fNil "kept_early" (cTV cS)) "kept_keyed" (cTV (cT (aCons cS (aOne cS))))) "kept_ranks" (cTV (cT (aCons cS (aOne cI))))))]) (List Str)) // ∀ {P : Program} {w : World} {K : Frag} {mg : Str → Option Value} {base : Heap} {ca : Str → Addr} (C_Rule : ClsG K mg "Rule" A_Rule) (NA_Rule_kept_early : NoAttr K A_Rule "kept_early") (M_list : mg "list" = none) (f : Addr) (nd : N_Rule_early.Nodup) cd A outer s H E hr hgd, BX (ambOf P w K mg base ca N_Rule_early nd 0 "Rule.early" (defScope s_Rule_early) f cd A outer s H E hr hgd) [sVal (cIns A_Rule (fSnoc (fSnoc (fSnoc fNil "kept_early" (cTV cS)) "kept_keyed" (cTV (cT (aCons cS (aOne cS))))) "kept_ranks" (cTV (cT (aCons cS (aOne cI))))))] (defBody s_Rule_early) [sVal (cIns A_Rule (fSnoc (fSnoc (fSnoc fNil "kept_early" (cTV cS)) "kept_keyed" (cTV (cT (aCons cS (aOne cS))))) "kept_ranks" (cTV (cT (aCons cS (aOne cI))))))] (rrP (rO (oL cS))) fb} := ⟨_, by
  intro P w K mg base ca C_Rule NA_Rule_kept_early M_list f nd cd A outer s H E hr hgd
  refine' bx_one ?_
  exact sx_ret (rex_callTy ct_listT (by rfl) (by exact M_list) (by decide +kernel) (rax_one (rex_fld C_Rule.cls NA_Rule_kept_early (fp_s (fp_s (fp_z nk_nil) (by decide)) (by decide)) (rex_var at_z (by rfl) (by first | exact Or.inl rfl | exact Or.inr (Or.inl rfl) | exact Or.inr (Or.inr rfl))))))⟩
def F_Rule_early (y : (((Unit × (List Str)) × (List (Str × Str))) × (List (Str × Int)))) : Res (List Str) := Res.bind ((fb_Rule_early 0 ).1 (y, ())) endV

theorem okF_Rule_early {P : Program} {w : World} {K : Frag} {mg : Str → Option Value} {base : Heap} {ca : Str → Addr} {fa : Addr} {dvs : List V} {kws : List (Str × V)} {fd : FuncData} {A_Rule : Addr} (F0 : FunD K "early" "Rule.early" (defArgs s_Rule_early) (defBody s_Rule_early) (defScope s_Rule_early) dvs kws fa fd) (C_Rule : ClsG K mg "Rule" A_Rule) (NA_Rule_kept_early : NoAttr K A_Rule "kept_early") (M_list : mg "list" = none) : FnG P w K mg base 1 fa fd ["self"] (spP K ca (aOne (cIns A_Rule (fSnoc (fSnoc (fSnoc fNil "kept_early" (cTV cS)) "kept_keyed" (cTV (cT (aCons cS (aOne cS))))) "kept_ranks" (cTV (cT (aCons cS (aOne cI))))))) (rO (oL cS)) F_Rule_early) :=
  fn_P (as := (aOne (cIns A_Rule (fSnoc (fSnoc (fSnoc fNil "kept_early" (cTV cS)) "kept_keyed" (cTV (cT (aCons cS (aOne cS))))) "kept_ranks" (cTV (cT (aCons cS (aOne cI)))))))) (G0 := [sVal (cIns A_Rule (fSnoc (fSnoc (fSnoc fNil "kept_early" (cTV cS)) "kept_keyed" (cTV (cT (aCons cS (aOne cS))))) "kept_ranks" (cTV (cT (aCons cS (aOne cI))))))]) (ini := (fun y => (y, ()))) (fb := (fb_Rule_early A_Rule ).1) F0 sc_Rule_early (by rfl) (fun L H vs y wf h => by obtain ⟨v1, rfl, h1⟩ := h; exact ⟨⟨v1, rfl, h1⟩, Nat.le_of_ble_eq_true (by rfl)⟩) (fun nd cd A outer s H E hr hgd => (fb_Rule_early A_Rule ).2 C_Rule NA_Rule_kept_early M_list fa nd cd A outer s H E hr hgd) (fun y => rfl)

/-! Rule.keyed -/
abbrev s_Rule_keyed : Stmt := sub 10 2
abbrev N_Rule_keyed : List Str := ["self"]
theorem sc_Rule_keyed : FnScope N_Rule_keyed ["self"] (defScope s_Rule_keyed) := ⟨rfl, rfl, rfl, by decide +kernel, rfl, by decide +kernel, by decide +kernel⟩
def fb_Rule_keyed (A_Rule : Addr) : {fb : CT [sVal (cIns A_Rule (fSnoc (fSnoc (fSnoc fNil "kept_early" (cTV cS)) "kept_keyed" (cTV (cT (aCons cS (aOne cS))))) "kept_ranks" (cTV (cT (aCons cS (aOne cI))))))] → Res (Out (CT [sVal (cIns A_Rule (fSnoc (fSnoc (fSnoc fNil "kept_early" (cTV cS)) "kept_keyed" (cTV (cT (aCons cS (aOne cS))))) "kept_ranks" (cTV (cT (aCons cS (aOne cI))))))]) (List (Str × Str))) // ∀ {P : Program} {w : World} {K : Frag} {mg : Str → Option Value} {base : Heap} {ca : Str → Addr} (C_Rule : ClsG K mg "Rule" A_Rule) (NA_Rule_kept_keyed : NoAttr K A_Rule "kept_keyed") (M_list : mg "list" = none) (f : Addr) (nd : N_Rule_keyed.Nodup) cd A outer s H E hr hgd, BX (ambOf P w K mg base ca N_Rule_keyed nd 0 "Rule.keyed" (defScope s_Rule_keyed) f cd A outer s H E hr hgd) [sVal (cIns A_Rule (fSnoc (fSnoc (fSnoc fNil "kept_early" (cTV cS)) "kept_keyed" (cTV (cT (aCons cS (aOne cS))))) "kept_ranks" (cTV (cT (aCons cS (aOne cI))))))] (defBody s_Rule_keyed) [sVal (cIns A_Rule (fSnoc (fSnoc (fSnoc fNil "kept_early" (cTV cS)) "kept_keyed" (cTV (cT (aCons cS (aOne cS))))) "kept_ranks" (cTV (cT (aCons cS (aOne cI))))))] (rrP (rO (oL (cT (aCons cS (aOne cS)))))) fb} := ⟨_, by
  intro P w K mg base ca C_Rule NA_Rule_kept_keyed M_list f nd cd A outer s H E hr hgd
  refine' bx_one ?_
  exact sx_ret (rex_callTy ct_listT (by rfl) (by exact M_list) (by decide +kernel) (rax_one (rex_fld C_Rule.cls NA_Rule_kept_keyed (fp_s (fp_z (nk_snoc nk_nil (by decide))) (by decide)) (rex_var at_z (by rfl) (by first | exact Or.inl rfl | exact Or.inr (Or.inl rfl) | exact Or.inr (Or.inr rfl))))))⟩
def F_Rule_keyed (y : (((Unit × (List Str)) × (List (Str × Str))) × (List (Str × Int)))) : Res (List (Str × Str)) := Res.bind ((fb_Rule_keyed 0 ).1 (y, ())) endV

theorem okF_Rule_keyed {P : Program} {w : World} {K : Frag} {mg : Str → Option Value} {base : Heap} {ca : Str → Addr} {fa : Addr} {dvs : List V} {kws : List (Str × V)} {fd : FuncData} {A_Rule : Addr} (F0 : FunD K "keyed" "Rule.keyed" (defArgs s_Rule_keyed) (defBody s_Rule_keyed) (defScope s_Rule_keyed) dvs kws fa fd) (C_Rule : ClsG K mg "Rule" A_Rule) (NA_Rule_kept_keyed : NoAttr K A_Rule "kept_keyed") (M_list : mg "list" = none) : FnG P w K mg base 1 fa fd ["self"] (spP K ca (aOne (cIns A_Rule (fSnoc (fSnoc (fSnoc fNil "kept_early" (cTV cS)) "kept_keyed" (cTV (cT (aCons cS (aOne cS))))) "kept_ranks" (cTV (cT (aCons cS (aOne cI))))))) (rO (oL (cT (aCons cS (aOne cS))))) F_Rule_keyed) :=
  fn_P (as := (aOne (cIns A_Rule (fSnoc (fSnoc (fSnoc fNil "kept_early" (cTV cS)) "kept_keyed" (cTV (cT (aCons cS (aOne cS))))) "kept_ranks" (cTV (cT (aCons cS (aOne cI)))))))) (G0 := [sVal (cIns A_Rule (fSnoc (fSnoc (fSnoc fNil "kept_early" (cTV cS)) "kept_keyed" (cTV (cT (aCons cS (aOne cS))))) "kept_ranks" (cTV (cT (aCons cS (aOne cI))))))]) (ini := (fun y => (y, ()))) (fb := (fb_Rule_keyed A_Rule ).1) F0 sc_Rule_keyed (by rfl) (fun L H vs y wf h => by obtain ⟨v1, rfl, h1⟩ := h; exact ⟨⟨v1, rfl, h1⟩, Nat.le_of_ble_eq_true (by rfl)⟩) (fun nd cd A outer s H E hr hgd => (fb_Rule_keyed A_Rule ).2 C_Rule NA_Rule_kept_keyed M_list fa nd cd A outer s H E hr hgd) (fun y => rfl)

/-! Rule.ranks -/
abbrev s_Rule_ranks : Stmt := sub 10 3
abbrev N_Rule_ranks : List Str := ["self"]
theorem sc_Rule_ranks : FnScope N_Rule_ranks ["self"] (defScope s_Rule_ranks) := ⟨rfl, rfl, rfl, by decide +kernel, rfl, by decide +kernel, by decide +kernel⟩
def fb_Rule_ranks (A_Rule : Addr) : {fb : CT [sVal (cIns A_Rule (fSnoc (fSnoc (fSnoc fNil "kept_early" (cTV cS)) "kept_keyed" (cTV (cT (aCons cS (aOne cS))))) "kept_ranks" (cTV (cT (aCons cS (aOne cI))))))] → Res (Out (CT [sVal (cIns A_Rule (fSnoc (fSnoc (fSnoc fNil "kept_early" (cTV cS)) "kept_keyed" (cTV (cT (aCons cS (aOne cS))))) "kept_ranks" (cTV (cT (aCons cS (aOne cI))))))]) (List (Str × Int))) // ∀ {P : Program} {w : World} {K : Frag} {mg : Str → Option Value} {base : Heap} {ca : Str → Addr} (C_Rule : ClsG K mg "Rule" A_Rule) (NA_Rule_kept_ranks : NoAttr K A_Rule "kept_ranks") (M_list : mg "list" = none) (f : Addr) (nd : N_Rule_ranks.Nodup) cd A outer s H E hr hgd, BX (ambOf P w K mg base ca N_Rule_ranks nd 0 "Rule.ranks" (defScope s_Rule_ranks) f cd A outer s H E hr hgd) [sVal (cIns A_Rule (fSnoc (fSnoc (fSnoc fNil "kept_early" (cTV cS)) "kept_keyed" (cTV (cT (aCons cS (aOne cS))))) "kept_ranks" (cTV (cT (aCons cS (aOne cI))))))] (defBody s_Rule_ranks) [sVal (cIns A_Rule (fSnoc (fSnoc (fSnoc fNil "kept_early" (cTV cS)) "kept_keyed" (cTV (cT (aCons cS (aOne cS))))) "kept_ranks" (cTV (cT (aCons cS (aOne cI))))))] (rrP (rO (oL (cT (aCons cS (aOne cI)))))) fb} := ⟨_, by
  intro P w K mg base ca C_Rule NA_Rule_kept_ranks M_list f nd cd A outer s H E hr hgd
  refine' bx_one ?_
  exact sx_ret (rex_callTy ct_listT (by rfl) (by exact M_list) (by decide +kernel) (rax_one (rex_fld C_Rule.cls NA_Rule_kept_ranks (fp_z (nk_snoc (nk_snoc nk_nil (by decide)) (by decide))) (rex_var at_z (by rfl) (by first | exact Or.inl rfl | exact Or.inr (Or.inl rfl) | exact Or.inr (Or.inr rfl))))))⟩
def F_Rule_ranks (y : (((Unit × (List Str)) × (List (Str × Str))) × (List (Str × Int)))) : Res (List (Str × Int)) := Res.bind ((fb_Rule_ranks 0 ).1 (y, ())) endV

theorem okF_Rule_ranks {P : Program} {w : World} {K : Frag} {mg : Str → Option Value} {base : Heap} {ca : Str → Addr} {fa : Addr} {dvs : List V} {kws : List (Str × V)} {fd : FuncData} {A_Rule : Addr} (F0 : FunD K "ranks" "Rule.ranks" (defArgs s_Rule_ranks) (defBody s_Rule_ranks) (defScope s_Rule_ranks) dvs kws fa fd) (C_Rule : ClsG K mg "Rule" A_Rule) (NA_Rule_kept_ranks : NoAttr K A_Rule "kept_ranks") (M_list : mg "list" = none) : FnG P w K mg base 1 fa fd ["self"] (spP K ca (aOne (cIns A_Rule (fSnoc (fSnoc (fSnoc fNil "kept_early" (cTV cS)) "kept_keyed" (cTV (cT (aCons cS (aOne cS))))) "kept_ranks" (cTV (cT (aCons cS (aOne cI))))))) (rO (oL (cT (aCons cS (aOne cI))))) F_Rule_ranks) :=
  fn_P (as := (aOne (cIns A_Rule (fSnoc (fSnoc (fSnoc fNil "kept_early" (cTV cS)) "kept_keyed" (cTV (cT (aCons cS (aOne cS))))) "kept_ranks" (cTV (cT (aCons cS (aOne cI)))))))) (G0 := [sVal (cIns A_Rule (fSnoc (fSnoc (fSnoc fNil "kept_early" (cTV cS)) "kept_keyed" (cTV (cT (aCons cS (aOne cS))))) "kept_ranks" (cTV (cT (aCons cS (aOne cI))))))]) (ini := (fun y => (y, ()))) (fb := (fb_Rule_ranks A_Rule ).1) F0 sc_Rule_ranks (by rfl) (fun L H vs y wf h => by obtain ⟨v1, rfl, h1⟩ := h; exact ⟨⟨v1, rfl, h1⟩, Nat.le_of_ble_eq_true (by rfl)⟩) (fun nd cd A outer s H E hr hgd => (fb_Rule_ranks A_Rule ).2 C_Rule NA_Rule_kept_ranks M_list fa nd cd A outer s H E hr hgd) (fun y => rfl)

/-! Rule.__eq__ -/
abbrev s_Rule___eq__ : Stmt := sub 10 4
abbrev N_Rule___eq__ : List Str := ["self", "other"]
theorem sc_Rule___eq__ : FnScope N_Rule___eq__ ["self", "other"] (defScope s_Rule___eq__) := ⟨rfl, rfl, rfl, by decide +kernel, rfl, by decide +kernel, by decide +kernel⟩
def fb_Rule___eq__ (A_Rule : Addr) : {fb : CT [sVal (cIns A_Rule (fSnoc (fSnoc (fSnoc fNil "kept_early" (cTV cS)) "kept_keyed" (cTV (cT (aCons cS (aOne cS))))) "kept_ranks" (cTV (cT (aCons cS (aOne cI)))))), sVal (cIns A_Rule (fSnoc (fSnoc (fSnoc fNil "kept_early" (cTV cS)) "kept_keyed" (cTV (cT (aCons cS (aOne cS))))) "kept_ranks" (cTV (cT (aCons cS (aOne cI))))))] → Res (Out (CT [sVal (cIns A_Rule (fSnoc (fSnoc (fSnoc fNil "kept_early" (cTV cS)) "kept_keyed" (cTV (cT (aCons cS (aOne cS))))) "kept_ranks" (cTV (cT (aCons cS (aOne cI)))))), sVal (cIns A_Rule (fSnoc (fSnoc (fSnoc fNil "kept_early" (cTV cS)) "kept_keyed" (cTV (cT (aCons cS (aOne cS))))) "kept_ranks" (cTV (cT (aCons cS (aOne cI))))))]) Bool) // ∀ {P : Program} {w : World} {K : Frag} {mg : Str → Option Value} {base : Heap} {ca : Str → Addr} (C_Rule : ClsG K mg "Rule" A_Rule) (NA_Rule_kept_early : NoAttr K A_Rule "kept_early") (ISI_Rule : IsiC K A_Rule) (KIT_Rule_Rule : PySem.W.kitOne K (.ref A_Rule) (.ref A_Rule) = some true) (M_isinstance : mg "isinstance" = none) (NA_Rule_kept_ranks : NoAttr K A_Rule "kept_ranks") (NA_Rule_kept_keyed : NoAttr K A_Rule "kept_keyed") (f : Addr) (nd : N_Rule___eq__.Nodup) cd A outer s H E hr hgd, BX (ambOf P w K mg base ca N_Rule___eq__ nd 0 "Rule.__eq__" (defScope s_Rule___eq__) f cd A outer s H E hr hgd) [sVal (cIns A_Rule (fSnoc (fSnoc (fSnoc fNil "kept_early" (cTV cS)) "kept_keyed" (cTV (cT (aCons cS (aOne cS))))) "kept_ranks" (cTV (cT (aCons cS (aOne cI)))))), sVal (cIns A_Rule (fSnoc (fSnoc (fSnoc fNil "kept_early" (cTV cS)) "kept_keyed" (cTV (cT (aCons cS (aOne cS))))) "kept_ranks" (cTV (cT (aCons cS (aOne cI))))))] (defBody s_Rule___eq__) [sVal (cIns A_Rule (fSnoc (fSnoc (fSnoc fNil "kept_early" (cTV cS)) "kept_keyed" (cTV (cT (aCons cS (aOne cS))))) "kept_ranks" (cTV (cT (aCons cS (aOne cI)))))), sVal (cIns A_Rule (fSnoc (fSnoc (fSnoc fNil "kept_early" (cTV cS)) "kept_keyed" (cTV (cT (aCons cS (aOne cS))))) "kept_ranks" (cTV (cT (aCons cS (aOne cI))))))] (rrP (rV cB)) fb} := ⟨_, by
  intro P w K mg base ca C_Rule NA_Rule_kept_early ISI_Rule KIT_Rule_Rule M_isinstance NA_Rule_kept_ranks NA_Rule_kept_keyed f nd cd A outer s H E hr hgd
  refine' bx_cons (G1 := [sVal (cIns A_Rule (fSnoc (fSnoc (fSnoc fNil "kept_early" (cTV cS)) "kept_keyed" (cTV (cT (aCons cS (aOne cS))))) "kept_ranks" (cTV (cT (aCons cS (aOne cI)))))), sVal (cIns A_Rule (fSnoc (fSnoc (fSnoc fNil "kept_early" (cTV cS)) "kept_keyed" (cTV (cT (aCons cS (aOne cS))))) "kept_ranks" (cTV (cT (aCons cS (aOne cI))))))]) ?g51 ?g52
  case g51 =>
    refine' sx_if (G' := [sVal (cIns A_Rule (fSnoc (fSnoc (fSnoc fNil "kept_early" (cTV cS)) "kept_keyed" (cTV (cT (aCons cS (aOne cS))))) "kept_ranks" (cTV (cT (aCons cS (aOne cI)))))), sVal (cIns A_Rule (fSnoc (fSnoc (fSnoc fNil "kept_early" (cTV cS)) "kept_keyed" (cTV (cT (aCons cS (aOne cS))))) "kept_ranks" (cTV (cT (aCons cS (aOne cI))))))]) (rtx_w (rwx_or (rtx_not (rtx_val (rex_callB (ct_isiI (b := true) ISI_Rule KIT_Rule_Rule) (by rfl) (by exact M_isinstance) (by decide +kernel) (rax_cons (rex_var (at_s at_z) (by rfl) (by first | exact Or.inl rfl | exact Or.inr (Or.inl rfl) | exact Or.inr (Or.inr rfl))) (rax_one (rex_cls (by rfl) C_Rule)))))) (rwx_or1 (rtx_cmp (ot_neD (dc_tv dc_s) (dc_tv dc_s) (by decide) (by decide)) (rex_fld C_Rule.cls NA_Rule_kept_early (fp_s (fp_s (fp_z nk_nil) (by decide)) (by decide)) (rex_var at_z (by rfl) (by first | exact Or.inl rfl | exact Or.inr (Or.inl rfl) | exact Or.inr (Or.inr rfl)))) (rex_fld C_Rule.cls NA_Rule_kept_early (fp_s (fp_s (fp_z nk_nil) (by decide)) (by decide)) (rex_var (at_s at_z) (by rfl) (by first | exact Or.inl rfl | exact Or.inr (Or.inl rfl) | exact Or.inr (Or.inr rfl)))) (by rfl))))) ?g49 ?g50
    case g49 =>
      refine' bx_one ?_
      exact sx_ret rex_bool
    case g50 =>
      exact bx_nil
  case g52 =>
    refine' bx_one ?_
    exact sx_ret (rex_and (rex_cmp (ot_eqD (dc_tv (dc_t (da_cons dc_s (da_one dc_s)))) (dc_tv (dc_t (da_cons dc_s (da_one dc_s)))) (by decide) (by decide)) (rex_fld C_Rule.cls NA_Rule_kept_keyed (fp_s (fp_z (nk_snoc nk_nil (by decide))) (by decide)) (rex_var at_z (by rfl) (by first | exact Or.inl rfl | exact Or.inr (Or.inl rfl) | exact Or.inr (Or.inr rfl)))) (rex_fld C_Rule.cls NA_Rule_kept_keyed (fp_s (fp_z (nk_snoc nk_nil (by decide))) (by decide)) (rex_var (at_s at_z) (by rfl) (by first | exact Or.inl rfl | exact Or.inr (Or.inl rfl) | exact Or.inr (Or.inr rfl)))) (by rfl)) (rex_and1 (rex_cmp (ot_eqD (dc_tv (dc_t (da_cons dc_s (da_one dc_i)))) (dc_tv (dc_t (da_cons dc_s (da_one dc_i)))) (by decide) (by decide)) (rex_fld C_Rule.cls NA_Rule_kept_ranks (fp_z (nk_snoc (nk_snoc nk_nil (by decide)) (by decide))) (rex_var at_z (by rfl) (by first | exact Or.inl rfl | exact Or.inr (Or.inl rfl) | exact Or.inr (Or.inr rfl)))) (rex_fld C_Rule.cls NA_Rule_kept_ranks (fp_z (nk_snoc (nk_snoc nk_nil (by decide)) (by decide))) (rex_var (at_s at_z) (by rfl) (by first | exact Or.inl rfl | exact Or.inr (Or.inl rfl) | exact Or.inr (Or.inr rfl)))) (by rfl))))⟩
def F_Rule___eq__ (y : (((Unit × (List Str)) × (List (Str × Str))) × (List (Str × Int))) × (((Unit × (List Str)) × (List (Str × Str))) × (List (Str × Int)))) : Res Bool := Res.bind ((fb_Rule___eq__ 0 ).1 (y.1, (y.2, ()))) endV

theorem okF_Rule___eq__ {P : Program} {w : World} {K : Frag} {mg : Str → Option Value} {base : Heap} {ca : Str → Addr} {fa : Addr} {dvs : List V} {kws : List (Str × V)} {fd : FuncData} {A_Rule : Addr} (F0 : FunD K "__eq__" "Rule.__eq__" (defArgs s_Rule___eq__) (defBody s_Rule___eq__) (defScope s_Rule___eq__) dvs kws fa fd) (C_Rule : ClsG K mg "Rule" A_Rule) (NA_Rule_kept_early : NoAttr K A_Rule "kept_early") (ISI_Rule : IsiC K A_Rule) (KIT_Rule_Rule : PySem.W.kitOne K (.ref A_Rule) (.ref A_Rule) = some true) (M_isinstance : mg "isinstance" = none) (NA_Rule_kept_ranks : NoAttr K A_Rule "kept_ranks") (NA_Rule_kept_keyed : NoAttr K A_Rule "kept_keyed") : FnG P w K mg base 1 fa fd ["self", "other"] (spP K ca (aCons (cIns A_Rule (fSnoc (fSnoc (fSnoc fNil "kept_early" (cTV cS)) "kept_keyed" (cTV (cT (aCons cS (aOne cS))))) "kept_ranks" (cTV (cT (aCons cS (aOne cI)))))) (aOne (cIns A_Rule (fSnoc (fSnoc (fSnoc fNil "kept_early" (cTV cS)) "kept_keyed" (cTV (cT (aCons cS (aOne cS))))) "kept_ranks" (cTV (cT (aCons cS (aOne cI)))))))) (rV cB) F_Rule___eq__) :=
  fn_P (as := (aCons (cIns A_Rule (fSnoc (fSnoc (fSnoc fNil "kept_early" (cTV cS)) "kept_keyed" (cTV (cT (aCons cS (aOne cS))))) "kept_ranks" (cTV (cT (aCons cS (aOne cI)))))) (aOne (cIns A_Rule (fSnoc (fSnoc (fSnoc fNil "kept_early" (cTV cS)) "kept_keyed" (cTV (cT (aCons cS (aOne cS))))) "kept_ranks" (cTV (cT (aCons cS (aOne cI))))))))) (G0 := [sVal (cIns A_Rule (fSnoc (fSnoc (fSnoc fNil "kept_early" (cTV cS)) "kept_keyed" (cTV (cT (aCons cS (aOne cS))))) "kept_ranks" (cTV (cT (aCons cS (aOne cI)))))), sVal (cIns A_Rule (fSnoc (fSnoc (fSnoc fNil "kept_early" (cTV cS)) "kept_keyed" (cTV (cT (aCons cS (aOne cS))))) "kept_ranks" (cTV (cT (aCons cS (aOne cI))))))]) (ini := (fun y => (y.1, (y.2, ())))) (fb := (fb_Rule___eq__ A_Rule ).1) F0 sc_Rule___eq__ (by rfl) (fun L H vs y wf h => by obtain ⟨v1, _, rfl, h1, v2, rfl, h2⟩ := h; exact ⟨⟨v1, rfl, h1⟩, ⟨v2, rfl, h2⟩, Nat.le_of_ble_eq_true (by rfl)⟩) (fun nd cd A outer s H E hr hgd => (fb_Rule___eq__ A_Rule ).2 C_Rule NA_Rule_kept_early ISI_Rule KIT_Rule_Rule M_isinstance NA_Rule_kept_ranks NA_Rule_kept_keyed fa nd cd A outer s H E hr hgd) (fun y => rfl)

/-! Rule.without -/
abbrev s_Rule_without : Stmt := sub 10 7
abbrev N_Rule_without : List Str := ["self", "name", "early", "keyed", "known", "key", "rank"]
theorem sc_Rule_without : FnScope N_Rule_without ["self", "name"] (defScope s_Rule_without) := ⟨rfl, rfl, rfl, by decide +kernel, rfl, by decide +kernel, by decide +kernel⟩
def fb_Rule_without (A_Rule : Addr) : {fb : CT [sVal (cIns A_Rule (fSnoc (fSnoc (fSnoc fNil "kept_early" (cTV cS)) "kept_keyed" (cTV (cT (aCons cS (aOne cS))))) "kept_ranks" (cTV (cT (aCons cS (aOne cI)))))), sVal cS, sAny, sAny, sAny, sAny, sAny] → Res (Out (CT [sVal (cIns A_Rule (fSnoc (fSnoc (fSnoc fNil "kept_early" (cTV cS)) "kept_keyed" (cTV (cT (aCons cS (aOne cS))))) "kept_ranks" (cTV (cT (aCons cS (aOne cI)))))), sVal cS, sAny, sAny, sAny, sAny, sAny]) (((Unit × (List Str)) × (List (Str × Str))) × (List (Str × Int)))) // ∀ {P : Program} {w : World} {K : Frag} {mg : Str → Option Value} {base : Heap} {ca : Str → Addr} (C_Rule : ClsG K mg "Rule" A_Rule) (NA_Rule_kept_early : NoAttr K A_Rule "kept_early") (NA_Rule_kept_keyed : NoAttr K A_Rule "kept_keyed") (NA_Rule_kept_ranks : NoAttr K A_Rule "kept_ranks") (KP_Rule_p0p1p2p3 : MakP P w K mg base 3 "Rule" A_Rule 4 [] (fun vs zs => selL [.p 0, .p 1, .p 2, .p 3] vs [.ref (He.dflAt ("Rule", some "__init__") 0 K), .non, .non] zs) (spN K ca A_Rule (aCons (cL cS) (aCons (cO (cD kS cS)) (aOne (cO (cD kS cI))))) (fSnoc (fSnoc (fSnoc fNil "kept_early" (cTV cS)) "kept_keyed" (cTV (cT (aCons cS (aOne cS))))) "kept_ranks" (cTV (cT (aCons cS (aOne cI))))) F_Rule_init)) (f : Addr) (nd : N_Rule_without.Nodup) cd A outer s H E hr hgd, BX (ambOf P w K mg base ca N_Rule_without nd 4 "Rule.without" (defScope s_Rule_without) f cd A outer s H E hr hgd) [sVal (cIns A_Rule (fSnoc (fSnoc (fSnoc fNil "kept_early" (cTV cS)) "kept_keyed" (cTV (cT (aCons cS (aOne cS))))) "kept_ranks" (cTV (cT (aCons cS (aOne cI)))))), sVal cS, sAny, sAny, sAny, sAny, sAny] (defBody s_Rule_without) [sVal (cIns A_Rule (fSnoc (fSnoc (fSnoc fNil "kept_early" (cTV cS)) "kept_keyed" (cTV (cT (aCons cS (aOne cS))))) "kept_ranks" (cTV (cT (aCons cS (aOne cI)))))), sVal cS, sAny, sAny, sAny, sAny, sAny] (rrP (rV (cIns A_Rule (fSnoc (fSnoc (fSnoc fNil "kept_early" (cTV cS)) "kept_keyed" (cTV (cT (aCons cS (aOne cS))))) "kept_ranks" (cTV (cT (aCons cS (aOne cI)))))))) fb} := ⟨_, by
  intro P w K mg base ca C_Rule NA_Rule_kept_early NA_Rule_kept_keyed NA_Rule_kept_ranks KP_Rule_p0p1p2p3 f nd cd A outer s H E hr hgd
  refine' bx_cons (G1 := [sVal (cIns A_Rule (fSnoc (fSnoc (fSnoc fNil "kept_early" (cTV cS)) "kept_keyed" (cTV (cT (aCons cS (aOne cS))))) "kept_ranks" (cTV (cT (aCons cS (aOne cI)))))), sVal cS, sOwn PAny (oL cS), sAny, sAny, sAny, sAny]) ?g55 ?g56
  case g55 =>
    first | exact rsx_setLcIf (own := [("known", 4)]) (up_s (up_s up_z)) (by rfl) (by rfl) (by exact trivial) (rix_t (rex_fld C_Rule.cls NA_Rule_kept_early (fp_s (fp_s (fp_z nk_nil) (by decide)) (by decide)) (rex_var at_z (by rfl) (by first | exact Or.inl rfl | exact Or.inr (Or.inl rfl) | exact Or.inr (Or.inr rfl))))) (blkOk_by (by rfl)) (wc_keep (by decide) (wc_keep (by decide) (wc_keep (by decide) (wc_keep (by decide) (wc_any (wc_keep (by decide) (wc_keep (by decide) wc_nil))))))) (fun _ _ _ _ _ => (gx_name (up_s (up_s (up_s (up_s up_z)))) (by rfl) (by first | exact Or.inl rfl | exact Or.inr rfl) (by show (4 : Nat) ∈ [4]; decide) (by first | exact Or.inl rfl | exact Or.inr rfl))) (fun _ _ _ _ _ => (rtx_cmp ot_neS (rex_var (at_s (at_s (at_s (at_s at_z)))) (by rfl) (by first | exact Or.inl rfl | exact Or.inr (Or.inl rfl) | exact Or.inr (Or.inr rfl))) (rex_var (at_s at_z) (by rfl) (by first | exact Or.inl rfl | exact Or.inr (Or.inl rfl) | exact Or.inr (Or.inr rfl))) (by rfl))) (fun _ _ _ _ _ => (rex_var (at_s (at_s (at_s (at_s at_z)))) (by rfl) (by first | exact Or.inl rfl | exact Or.inr (Or.inl rfl) | exact Or.inr (Or.inr rfl)))) (wc_keep (by decide) (wc_keep (by decide) (wc_keep (by decide) (wc_keep (by decide) (wc_val (wc_keep (by decide) (wc_keep (by decide) wc_nil))))))) (by rfl) | exact sx_setO (up_s (up_s up_z)) (by rfl) (by first | exact Or.inl rfl | exact Or.inr rfl) (rex_lcIf (own := [("known", 4)]) (rix_t (rex_fld C_Rule.cls NA_Rule_kept_early (fp_s (fp_s (fp_z nk_nil) (by decide)) (by decide)) (rex_var at_z (by rfl) (by first | exact Or.inl rfl | exact Or.inr (Or.inl rfl) | exact Or.inr (Or.inr rfl))))) (blkOk_by (by rfl)) (wc_keep (by decide) (wc_keep (by decide) (wc_keep (by decide) (wc_keep (by decide) (wc_any (wc_keep (by decide) (wc_keep (by decide) wc_nil))))))) (fun _ _ _ _ _ => (gx_name (up_s (up_s (up_s (up_s up_z)))) (by rfl) (by first | exact Or.inl rfl | exact Or.inr rfl) (by show (4 : Nat) ∈ [4]; decide) (by first | exact Or.inl rfl | exact Or.inr rfl))) (fun _ _ _ _ _ => (rtx_cmp ot_neS (rex_var (at_s (at_s (at_s (at_s at_z)))) (by rfl) (by first | exact Or.inl rfl | exact Or.inr (Or.inl rfl) | exact Or.inr (Or.inr rfl))) (rex_var (at_s at_z) (by rfl) (by first | exact Or.inl rfl | exact Or.inr (Or.inl rfl) | exact Or.inr (Or.inr rfl))) (by rfl))) (fun _ _ _ _ _ => (rex_var (at_s (at_s (at_s (at_s at_z)))) (by rfl) (by first | exact Or.inl rfl | exact Or.inr (Or.inl rfl) | exact Or.inr (Or.inr rfl)))) (wc_keep (by decide) (wc_keep (by decide) (wc_keep (by decide) (wc_keep (by decide) (wc_val (wc_keep (by decide) (wc_keep (by decide) wc_nil)))))))) (by exact trivial) (by rfl) (by first | exact Or.inl rfl | exact Or.inr rfl)
  case g56 =>
    refine' bx_cons (G1 := [sVal (cIns A_Rule (fSnoc (fSnoc (fSnoc fNil "kept_early" (cTV cS)) "kept_keyed" (cTV (cT (aCons cS (aOne cS))))) "kept_ranks" (cTV (cT (aCons cS (aOne cI)))))), sVal cS, sOwn PAny (oL cS), sOwn PAny (oD kS cS), sAny, sAny, sAny]) ?g53 ?g54
    case g53 =>
      first | exact rsx_setDcIf (own := [("known", 4), ("key", 5)]) (kc := kS) (up_s (up_s (up_s up_z))) (by rfl) (by rfl) (by exact trivial) (rix_t (rex_fld C_Rule.cls NA_Rule_kept_keyed (fp_s (fp_z (nk_snoc nk_nil (by decide))) (by decide)) (rex_var at_z (by rfl) (by first | exact Or.inl rfl | exact Or.inr (Or.inl rfl) | exact Or.inr (Or.inr rfl))))) (blkOk_by (by rfl)) (wc_keep (by decide) (wc_keep (by decide) (wc_keep (by decide) (wc_keep (by decide) (wc_any (wc_any (wc_keep (by decide) wc_nil))))))) (fun _ _ _ _ _ => (gx_tup (gxs_cons (gx_name (up_s (up_s (up_s (up_s up_z)))) (by rfl) (by first | exact Or.inl rfl | exact Or.inr rfl) (by show (4 : Nat) ∈ [4, 5]; decide) (by first | exact Or.inl rfl | exact Or.inr rfl)) (gxs_one (gx_name (up_s (up_s (up_s (up_s (up_s up_z))))) (by rfl) (by first | exact Or.inl rfl | exact Or.inr rfl) (by show (5 : Nat) ∈ [4, 5]; decide) (by first | exact Or.inl rfl | exact Or.inr rfl)))))) (fun _ _ _ _ _ => (rtx_cmp ot_neS (rex_var (at_s (at_s (at_s (at_s at_z)))) (by rfl) (by first | exact Or.inl rfl | exact Or.inr (Or.inl rfl) | exact Or.inr (Or.inr rfl))) (rex_var (at_s at_z) (by rfl) (by first | exact Or.inl rfl | exact Or.inr (Or.inl rfl) | exact Or.inr (Or.inr rfl))) (by rfl))) (fun _ _ _ _ _ => (rex_var (at_s (at_s (at_s (at_s at_z)))) (by rfl) (by first | exact Or.inl rfl | exact Or.inr (Or.inl rfl) | exact Or.inr (Or.inr rfl)))) (fun _ _ _ _ _ => (rex_var (at_s (at_s (at_s (at_s (at_s at_z))))) (by rfl) (by first | exact Or.inl rfl | exact Or.inr (Or.inl rfl) | exact Or.inr (Or.inr rfl)))) (wc_keep (by decide) (wc_keep (by decide) (wc_keep (by decide) (wc_keep (by decide) (wc_val (wc_val (wc_keep (by decide) wc_nil))))))) (by rfl) | exact sx_setO (up_s (up_s (up_s up_z))) (by rfl) (by first | exact Or.inl rfl | exact Or.inr rfl) (rex_dcIf (own := [("known", 4), ("key", 5)]) (kc := kS) (rix_t (rex_fld C_Rule.cls NA_Rule_kept_keyed (fp_s (fp_z (nk_snoc nk_nil (by decide))) (by decide)) (rex_var at_z (by rfl) (by first | exact Or.inl rfl | exact Or.inr (Or.inl rfl) | exact Or.inr (Or.inr rfl))))) (blkOk_by (by rfl)) (wc_keep (by decide) (wc_keep (by decide) (wc_keep (by decide) (wc_keep (by decide) (wc_any (wc_any (wc_keep (by decide) wc_nil))))))) (fun _ _ _ _ _ => (gx_tup (gxs_cons (gx_name (up_s (up_s (up_s (up_s up_z)))) (by rfl) (by first | exact Or.inl rfl | exact Or.inr rfl) (by show (4 : Nat) ∈ [4, 5]; decide) (by first | exact Or.inl rfl | exact Or.inr rfl)) (gxs_one (gx_name (up_s (up_s (up_s (up_s (up_s up_z))))) (by rfl) (by first | exact Or.inl rfl | exact Or.inr rfl) (by show (5 : Nat) ∈ [4, 5]; decide) (by first | exact Or.inl rfl | exact Or.inr rfl)))))) (fun _ _ _ _ _ => (rtx_cmp ot_neS (rex_var (at_s (at_s (at_s (at_s at_z)))) (by rfl) (by first | exact Or.inl rfl | exact Or.inr (Or.inl rfl) | exact Or.inr (Or.inr rfl))) (rex_var (at_s at_z) (by rfl) (by first | exact Or.inl rfl | exact Or.inr (Or.inl rfl) | exact Or.inr (Or.inr rfl))) (by rfl))) (fun _ _ _ _ _ => (rex_var (at_s (at_s (at_s (at_s at_z)))) (by rfl) (by first | exact Or.inl rfl | exact Or.inr (Or.inl rfl) | exact Or.inr (Or.inr rfl)))) (fun _ _ _ _ _ => (rex_var (at_s (at_s (at_s (at_s (at_s at_z))))) (by rfl) (by first | exact Or.inl rfl | exact Or.inr (Or.inl rfl) | exact Or.inr (Or.inr rfl)))) (wc_keep (by decide) (wc_keep (by decide) (wc_keep (by decide) (wc_keep (by decide) (wc_val (wc_val (wc_keep (by decide) wc_nil)))))))) (by exact trivial) (by rfl) (by first | exact Or.inl rfl | exact Or.inr rfl)
    case g54 =>
      refine' bx_one ?_
      exact sx_ret (rex_lend (S := [2, 3]) (T := []) (ln_val (ln_val (ln_own frz_l (by decide) (ln_own frz_d (by decide) (ln_any (ln_any (ln_any ln_nil))))))) (rh_v (hd_ins (hf_snoc (hf_snoc (hf_snoc hf_nil (hd_tv hd_s)) (hd_tv (hd_t (ha_cons hd_s (ha_one hd_s))))) (hd_tv (hd_t (ha_cons hd_s (ha_one hd_i))))))) (rex_makK (fun x y => (x.1, (x.2.1, x.2.2))) KP_Rule_p0p1p2p3 (Nat.le_of_ble_eq_true (by rfl)) (by rfl) (rca_pos (rax_cons (rex_var (at_s (at_s at_z)) (by rfl) (by first | exact Or.inl rfl | exact Or.inr (Or.inl rfl) | exact Or.inr (Or.inr rfl))) (rax_cons (rex_sub sub_some (rex_var (at_s (at_s (at_s at_z))) (by rfl) (by first | exact Or.inl rfl | exact Or.inr (Or.inl rfl) | exact Or.inr (Or.inr rfl)))) (rax_one (rex_sub sub_some (rex_frz frz_d (rex_dcIf (own := [("known", 4), ("rank", 6)]) (kc := kS) (rix_t (rex_fld C_Rule.cls NA_Rule_kept_ranks (fp_z (nk_snoc (nk_snoc nk_nil (by decide)) (by decide))) (rex_var at_z (by rfl) (by first | exact Or.inl rfl | exact Or.inr (Or.inl rfl) | exact Or.inr (Or.inr rfl))))) (blkOk_by (by rfl)) (wc_keep (by decide) (wc_keep (by decide) (wc_keep (by decide) (wc_keep (by decide) (wc_any (wc_keep (by decide) (wc_any wc_nil))))))) (fun _ _ _ _ _ => (gx_tup (gxs_cons (gx_name (up_s (up_s (up_s (up_s up_z)))) (by rfl) (by first | exact Or.inl rfl | exact Or.inr rfl) (by show (4 : Nat) ∈ [4, 6]; decide) (by first | exact Or.inl rfl | exact Or.inr rfl)) (gxs_one (gx_name (up_s (up_s (up_s (up_s (up_s (up_s up_z)))))) (by rfl) (by first | exact Or.inl rfl | exact Or.inr rfl) (by show (6 : Nat) ∈ [4, 6]; decide) (by first | exact Or.inl rfl | exact Or.inr rfl)))))) (fun _ _ _ _ _ => (rtx_cmp ot_neS (rex_var (at_s (at_s (at_s (at_s at_z)))) (by rfl) (by first | exact Or.inl rfl | exact Or.inr (Or.inl rfl) | exact Or.inr (Or.inr rfl))) (rex_var (at_s at_z) (by rfl) (by first | exact Or.inl rfl | exact Or.inr (Or.inl rfl) | exact Or.inr (Or.inr rfl))) (by rfl))) (fun _ _ _ _ _ => (rex_var (at_s (at_s (at_s (at_s at_z)))) (by rfl) (by first | exact Or.inl rfl | exact Or.inr (Or.inl rfl) | exact Or.inr (Or.inr rfl)))) (fun _ _ _ _ _ => (rex_var (at_s (at_s (at_s (at_s (at_s (at_s at_z)))))) (by rfl) (by first | exact Or.inl rfl | exact Or.inr (Or.inl rfl) | exact Or.inr (Or.inr rfl)))) (wc_keep (by decide) (wc_keep (by decide) (wc_keep (by decide) (wc_keep (by decide) (wc_val (wc_keep (by decide) (wc_val wc_nil)))))))))))))) (by rfl) (by rfl) (by intro R vs zs x y h1 h2; obtain ⟨wa0, _, rfl, a0, wa1, _, rfl, a1, wa2, rfl, a2⟩ := h1; have h2 : _ = [] := h2; subst h2; exact ⟨_, fun _ => rfl, _, _, rfl, a0, _, _, rfl, a1, _, rfl, a2⟩)))⟩
def F_Rule_without (y : (((Unit × (List Str)) × (List (Str × Str))) × (List (Str × Int))) × Str) : Res (((Unit × (List Str)) × (List (Str × Str))) × (List (Str × Int))) := Res.bind ((fb_Rule_without 0 ).1 (y.1, (y.2, ((), ((), ((), ((), ((), ())))))))) endV

theorem okF_Rule_without {P : Program} {w : World} {K : Frag} {mg : Str → Option Value} {base : Heap} {ca : Str → Addr} {fa : Addr} {dvs : List V} {kws : List (Str × V)} {fd : FuncData} {A_Rule : Addr} (F0 : FunD K "without" "Rule.without" (defArgs s_Rule_without) (defBody s_Rule_without) (defScope s_Rule_without) dvs kws fa fd) (C_Rule : ClsG K mg "Rule" A_Rule) (NA_Rule_kept_early : NoAttr K A_Rule "kept_early") (NA_Rule_kept_keyed : NoAttr K A_Rule "kept_keyed") (NA_Rule_kept_ranks : NoAttr K A_Rule "kept_ranks") (KP_Rule_p0p1p2p3 : MakP P w K mg base 3 "Rule" A_Rule 4 [] (fun vs zs => selL [.p 0, .p 1, .p 2, .p 3] vs [.ref (He.dflAt ("Rule", some "__init__") 0 K), .non, .non] zs) (spN K ca A_Rule (aCons (cL cS) (aCons (cO (cD kS cS)) (aOne (cO (cD kS cI))))) (fSnoc (fSnoc (fSnoc fNil "kept_early" (cTV cS)) "kept_keyed" (cTV (cT (aCons cS (aOne cS))))) "kept_ranks" (cTV (cT (aCons cS (aOne cI))))) F_Rule_init)) : FnG P w K mg base 5 fa fd ["self", "name"] (spP K ca (aCons (cIns A_Rule (fSnoc (fSnoc (fSnoc fNil "kept_early" (cTV cS)) "kept_keyed" (cTV (cT (aCons cS (aOne cS))))) "kept_ranks" (cTV (cT (aCons cS (aOne cI)))))) (aOne cS)) (rV (cIns A_Rule (fSnoc (fSnoc (fSnoc fNil "kept_early" (cTV cS)) "kept_keyed" (cTV (cT (aCons cS (aOne cS))))) "kept_ranks" (cTV (cT (aCons cS (aOne cI))))))) F_Rule_without) :=
  fn_P (as := (aCons (cIns A_Rule (fSnoc (fSnoc (fSnoc fNil "kept_early" (cTV cS)) "kept_keyed" (cTV (cT (aCons cS (aOne cS))))) "kept_ranks" (cTV (cT (aCons cS (aOne cI)))))) (aOne cS))) (G0 := [sVal (cIns A_Rule (fSnoc (fSnoc (fSnoc fNil "kept_early" (cTV cS)) "kept_keyed" (cTV (cT (aCons cS (aOne cS))))) "kept_ranks" (cTV (cT (aCons cS (aOne cI)))))), sVal cS, sAny, sAny, sAny, sAny, sAny]) (ini := (fun y => (y.1, (y.2, ((), ((), ((), ((), ((), ()))))))))) (fb := (fb_Rule_without A_Rule ).1) F0 sc_Rule_without (by rfl) (fun L H vs y wf h => by obtain ⟨v1, _, rfl, h1, v2, rfl, h2⟩ := h; exact ⟨⟨v1, rfl, h1⟩, ⟨v2, rfl, h2⟩, trivial, trivial, trivial, trivial, trivial, Nat.le_of_ble_eq_true (by rfl)⟩) (fun nd cd A outer s H E hr hgd => (fb_Rule_without A_Rule ).2 C_Rule NA_Rule_kept_early NA_Rule_kept_keyed NA_Rule_kept_ranks KP_Rule_p0p1p2p3 fa nd cd A outer s H E hr hgd) (fun y => rfl)

/-! _law_kit -/
abbrev s__law_kit : Stmt := top 12
abbrev N__law_kit : List Str := ["script", "place", "figure", "start"]
theorem sc__law_kit : FnScope N__law_kit ["script", "place"] (defScope s__law_kit) := ⟨rfl, rfl, rfl, by decide +kernel, rfl, by decide +kernel, by decide +kernel⟩
def fb__law_kit : {fb : CT [sVal (cLK cI), sVal cI, sAny, sAny] → Res (Out (CT [sVal (cLK cI), sVal cI, sAny, sAny]) (List Int)) // ∀ {P : Program} {w : World} {K : Frag} {mg : Str → Option Value} {base : Heap} {ca : Str → Addr} (M_len : mg "len" = none) (M_abs : mg "abs" = none) (M_int : mg "int" = none) (f : Addr) (nd : N__law_kit.Nodup) cd A outer s H E hr hgd, BX (ambOf P w K mg base ca N__law_kit nd 0 "_law_kit" (defScope s__law_kit) f cd A outer s H E hr hgd) [sVal (cLK cI), sVal cI, sAny, sAny] (defBody s__law_kit) [sVal (cLK cI), sVal cI, sAny, sAny] (rrP (rO (oL cI))) fb} := ⟨_, by
  intro P w K mg base ca M_len M_abs M_int f nd cd A outer s H E hr hgd
  refine' bx_cons (G1 := [sVal (cLK cI), sVal cI, sVal cI, sAny]) ?g63 ?g64
  case g63 =>
    exact sx_set (up_s (up_s up_z)) (by rfl) (by first | exact Or.inl rfl | exact Or.inr rfl) rex_int (by exact trivial) (by rfl) (by first | exact Or.inl rfl | exact Or.inr rfl)
  case g64 =>
    refine' bx_cons (G1 := [sVal (cLK cI), sVal cI, sVal cI, sAny]) ?g61 ?g62
    case g61 =>
      refine' sx_if (G' := [sVal (cLK cI), sVal cI, sVal cI, sAny]) (rtx_cmp ot_lt (rex_var (at_s at_z) (by rfl) (by first | exact Or.inl rfl | exact Or.inr (Or.inl rfl) | exact Or.inr (Or.inr rfl))) (rex_callB ct_lenK (by rfl) (by exact M_len) (by decide +kernel) (rax_one (rex_var at_z (by rfl) (by first | exact Or.inl rfl | exact Or.inr (Or.inl rfl) | exact Or.inr (Or.inr rfl))))) (by rfl)) ?g57 ?g58
      case g57 =>
        refine' bx_one ?_
        exact sx_set (up_s (up_s up_z)) (by rfl) (by first | exact Or.inl rfl | exact Or.inr rfl) (rex_ixK (rex_var at_z (by rfl) (by first | exact Or.inl rfl | exact Or.inr (Or.inl rfl) | exact Or.inr (Or.inr rfl))) (rex_var (at_s at_z) (by rfl) (by first | exact Or.inl rfl | exact Or.inr (Or.inl rfl) | exact Or.inr (Or.inr rfl))) (by intro _ _; rfl)) (by exact trivial) (by rfl) (by first | exact Or.inl rfl | exact Or.inr rfl)
      case g58 =>
        exact bx_nil
    case g62 =>
      refine' bx_cons (G1 := [sVal (cLK cI), sVal cI, sVal cI, sVal cI]) ?g59 ?g60
      case g59 =>
        exact sx_set (up_s (up_s (up_s up_z))) (by rfl) (by first | exact Or.inl rfl | exact Or.inr rfl) (rex_op ot_mod (rex_callTy ct_intI (by rfl) (by exact M_int) (by decide +kernel) (rax_one (rex_op ot_add (rex_op ot_mul (rex_callB ct_abs (by rfl) (by exact M_abs) (by decide +kernel) (rax_one (rex_var (at_s (at_s at_z)) (by rfl) (by first | exact Or.inl rfl | exact Or.inr (Or.inl rfl) | exact Or.inr (Or.inr rfl))))) rex_int) (rex_callTy ct_intB (by rfl) (by exact M_int) (by decide +kernel) (rax_one (rex_cmp ot_lt (rex_var (at_s (at_s at_z)) (by rfl) (by first | exact Or.inl rfl | exact Or.inr (Or.inl rfl) | exact Or.inr (Or.inr rfl))) rex_int (by rfl))))))) rex_int) (by exact trivial) (by rfl) (by first | exact Or.inl rfl | exact Or.inr rfl)
      case g60 =>
        refine' bx_one ?_
        exact sx_ret (rex_list (rax_consA (rex_op ot_mul (rex_var (at_s (at_s at_z)) (by rfl) (by first | exact Or.inl rfl | exact Or.inr (Or.inl rfl) | exact Or.inr (Or.inr rfl))) (rex_callTy ct_intB (by rfl) (by exact M_int) (by decide +kernel) (rax_one (rex_cmp ot_ge (rex_var (at_s (at_s at_z)) (by rfl) (by first | exact Or.inl rfl | exact Or.inr (Or.inl rfl) | exact Or.inr (Or.inr rfl))) (rex_op ot_pow rex_int rex_int) (by rfl))))) (rax_consA (rex_op ot_add (rex_var (at_s (at_s (at_s at_z))) (by rfl) (by first | exact Or.inl rfl | exact Or.inr (Or.inl rfl) | exact Or.inr (Or.inr rfl))) (rex_op ot_mul rex_int (rex_var (at_s at_z) (by rfl) (by first | exact Or.inl rfl | exact Or.inr (Or.inl rfl) | exact Or.inr (Or.inr rfl))))) (rax_consA rex_int rax_nilA))))⟩
def F__law_kit (y : (List Int) × Int) : Res (List Int) := Res.bind ((fb__law_kit ).1 (y.1, (y.2, ((), ((), ()))))) endV

theorem okF__law_kit {P : Program} {w : World} {K : Frag} {mg : Str → Option Value} {base : Heap} {ca : Str → Addr} {fa : Addr} {dvs : List V} {kws : List (Str × V)} {fd : FuncData} (F0 : FunD K "_law_kit" "_law_kit" (defArgs s__law_kit) (defBody s__law_kit) (defScope s__law_kit) dvs kws fa fd) (M_len : mg "len" = none) (M_abs : mg "abs" = none) (M_int : mg "int" = none) : FnG P w K mg base 1 fa fd ["script", "place"] (spP K ca (aCons (cLK cI) (aOne cI)) (rO (oL cI)) F__law_kit) :=
  fn_P (as := (aCons (cLK cI) (aOne cI))) (G0 := [sVal (cLK cI), sVal cI, sAny, sAny]) (ini := (fun y => (y.1, (y.2, ((), ((), ())))))) (fb := (fb__law_kit ).1) F0 sc__law_kit (by rfl) (fun L H vs y wf h => by obtain ⟨v1, _, rfl, h1, v2, rfl, h2⟩ := h; exact ⟨⟨v1, rfl, h1⟩, ⟨v2, rfl, h2⟩, trivial, trivial, Nat.le_of_ble_eq_true (by rfl)⟩) (fun nd cd A outer s H E hr hgd => (fb__law_kit ).2 M_len M_abs M_int fa nd cd A outer s H E hr hgd) (fun y => rfl)
theorem ok__law_kit {P : Program} {w : World} {K : Frag} {mg : Str → Option Value} {base : Heap} {ca : Str → Addr} {fa : Addr} {fd : FuncData} (F0 : FunD K "_law_kit" "_law_kit" (defArgs s__law_kit) (defBody s__law_kit) (defScope s__law_kit) [] [] fa fd) (M_len : mg "len" = none) (M_abs : mg "abs" = none) (M_int : mg "int" = none) (hm : mg "_law_kit" = some (.ref fa)) : DefG P w K mg base 1 "_law_kit" ["script", "place"] (spP K ca (aCons (cLK cI) (aOne cI)) (rO (oL cI)) F__law_kit) :=
  ⟨fa, fd, okF__law_kit  F0 M_len M_abs M_int, hm, F0.kp, (F0.bindsN (ps := ["script", "place"]) fun _ _ _ _ _ _ us hl => match us, hl with | [_, _], _ => rfl), (kw_binds (ps := ["script", "place"]) F0 fun _ _ _ _ _ _ us hl => match us, hl with | [_, _], _ => rfl)⟩

/-! _law_toss -/
abbrev s__law_toss : Stmt := top 13
abbrev N__law_toss : List Str := ["kit", "many", "mixed", "taken"]
theorem sc__law_toss : FnScope N__law_toss ["kit", "many"] (defScope s__law_toss) := ⟨rfl, rfl, rfl, by decide +kernel, rfl, by decide +kernel, by decide +kernel⟩
def fb__law_toss : {fb : (v0 : V) → CT [sOwn (fun v => v = v0) (oL cI), sVal cI, sAny, sAny] → Res (Out (CT [sOwn (fun v => v = v0) (oL cI), sVal cI, sAny, sAny]) (Int × (List Int))) // ∀ {P : Program} {w : World} {K : Frag} {mg : Str → Option Value} {base : Heap} {ca : Str → Addr} (M_int : mg "int" = none) (f : Addr) (v0 : V) (nd : N__law_toss.Nodup) cd A outer s H E hr hgd, BX (ambOf P w K mg base ca N__law_toss nd 0 "_law_toss" (defScope s__law_toss) f cd A outer s H E hr hgd) [sOwn (fun v => v = v0) (oL cI), sVal cI, sAny, sAny] (defBody s__law_toss) [sOwn (fun v => v = v0) (oL cI), sVal cI, sAny, sAny] (rrI (rV cI) (oL cI) v0) (fb v0)} := ⟨_, by
  intro P w K mg base ca M_int f v0 nd cd A outer s H E hr hgd
  refine' bx_cons (G1 := [sOwn (fun v => v = v0) (oL cI), sVal cI, sAny, sAny]) ?g79 ?g80
  case g79 =>
    refine' sx_if (G' := [sOwn (fun v => v = v0) (oL cI), sVal cI, sAny, sAny]) (rtx_cmp ot_gt (rex_lend (S := [0]) (T := []) (ln_own frz_l (by decide) (ln_val (ln_any (ln_any ln_nil)))) (rh_v hd_i) (rex_ixL (rex_var at_z (by rfl) (by first | exact Or.inl rfl | exact Or.inr (Or.inl rfl) | exact Or.inr (Or.inr rfl))) rex_int (by intro _ _; rfl))) rex_int (by rfl)) ?g69 ?g70
    case g69 =>
      refine' bx_cons (G1 := [sOwn (fun v => v = v0) (oL cI), sVal cI, sAny, sVal cI]) ?g67 ?g68
      case g67 =>
        exact sx_set (up_s (up_s (up_s up_z))) (by rfl) (by first | exact Or.inl rfl | exact Or.inr rfl) (rex_op ot_mod (rex_callTy ct_intI (by rfl) (by exact M_int) (by decide +kernel) (rax_one (rex_lend (S := [0]) (T := []) (ln_own frz_l (by decide) (ln_val (ln_any (ln_any ln_nil)))) (rh_v hd_i) (rex_ixL (rex_var at_z (by rfl) (by first | exact Or.inl rfl | exact Or.inr (Or.inl rfl) | exact Or.inr (Or.inr rfl))) rex_int (by intro _ _; rfl))))) (rex_var (at_s at_z) (by rfl) (by first | exact Or.inl rfl | exact Or.inr (Or.inl rfl) | exact Or.inr (Or.inr rfl)))) (by exact trivial) (by rfl) (by first | exact Or.inl rfl | exact Or.inr rfl)
      case g68 =>
        refine' bx_cons (G1 := [sOwn (fun v => v = v0) (oL cI), sVal cI, sAny, sVal cI]) ?g65 ?g66
        case g65 =>
          exact sx_setI at_z md_z (by rfl) (by first | exact Or.inl rfl | exact Or.inr (Or.inl rfl) | exact Or.inr (Or.inr rfl)) (rex_op ot_div (rex_lend (S := [0]) (T := []) (ln_own frz_l (by decide) (ln_val (ln_any (ln_val ln_nil)))) (rh_v hd_i) (rex_ixL (rex_var at_z (by rfl) (by first | exact Or.inl rfl | exact Or.inr (Or.inl rfl) | exact Or.inr (Or.inr rfl))) rex_int (by intro _ _; rfl))) (rex_var (at_s at_z) (by rfl) (by first | exact Or.inl rfl | exact Or.inr (Or.inl rfl) | exact Or.inr (Or.inr rfl)))) rex_int
        case g66 =>
          refine' bx_one ?_
          exact sx_retI at_z (rex_var (at_s (at_s (at_s at_z))) (by rfl) (by first | exact Or.inl rfl | exact Or.inr (Or.inl rfl) | exact Or.inr (Or.inr rfl)))
    case g70 =>
      exact bx_nil
  case g80 =>
    refine' bx_cons (G1 := [sOwn (fun v => v = v0) (oL cI), sVal cI, sAny, sAny]) ?g77 ?g78
    case g77 =>
      exact sx_setI at_z md_z (by rfl) (by first | exact Or.inl rfl | exact Or.inr (Or.inl rfl) | exact Or.inr (Or.inr rfl)) (rex_op ot_add (rex_lend (S := [0]) (T := []) (ln_own frz_l (by decide) (ln_val (ln_any (ln_any ln_nil)))) (rh_v hd_i) (rex_ixL (rex_var at_z (by rfl) (by first | exact Or.inl rfl | exact Or.inr (Or.inl rfl) | exact Or.inr (Or.inr rfl))) rex_int (by intro _ _; rfl))) rex_int) rex_int
    case g78 =>
      refine' bx_cons (G1 := [sOwn (fun v => v = v0) (oL cI), sVal cI, sVal cI, sAny]) ?g75 ?g76
      case g75 =>
        exact sx_set (up_s (up_s up_z)) (by rfl) (by first | exact Or.inl rfl | exact Or.inr rfl) (rex_op ot_add (rex_op ot_pow (rex_op ot_add (rex_lend (S := [0]) (T := []) (ln_own frz_l (by decide) (ln_val (ln_any (ln_any ln_nil)))) (rh_v hd_i) (rex_ixL (rex_var at_z (by rfl) (by first | exact Or.inl rfl | exact Or.inr (Or.inl rfl) | exact Or.inr (Or.inr rfl))) rex_int (by intro _ _; rfl))) (rex_op ot_mul rex_int (rex_lend (S := [0]) (T := []) (ln_own frz_l (by decide) (ln_val (ln_any (ln_any ln_nil)))) (rh_v hd_i) (rex_ixL (rex_var at_z (by rfl) (by first | exact Or.inl rfl | exact Or.inr (Or.inl rfl) | exact Or.inr (Or.inr rfl))) rex_int (by intro _ _; rfl))))) rex_int) (rex_op ot_mul rex_int (rex_lend (S := [0]) (T := []) (ln_own frz_l (by decide) (ln_val (ln_any (ln_any ln_nil)))) (rh_v hd_i) (rex_ixL (rex_var at_z (by rfl) (by first | exact Or.inl rfl | exact Or.inr (Or.inl rfl) | exact Or.inr (Or.inr rfl))) rex_int (by intro _ _; rfl))))) (by exact trivial) (by rfl) (by first | exact Or.inl rfl | exact Or.inr rfl)
      case g76 =>
        refine' bx_cons (G1 := [sOwn (fun v => v = v0) (oL cI), sVal cI, sVal cI, sAny]) ?g73 ?g74
        case g73 =>
          exact sx_set (up_s (up_s up_z)) (by rfl) (by first | exact Or.inl rfl | exact Or.inr rfl) (rex_op ot_add (rex_op ot_mod (rex_callTy ct_intI (by rfl) (by exact M_int) (by decide +kernel) (rax_one (rex_var (at_s (at_s at_z)) (by rfl) (by first | exact Or.inl rfl | exact Or.inr (Or.inl rfl) | exact Or.inr (Or.inr rfl))))) rex_int) (rex_op ot_mul rex_int (rex_lend (S := [0]) (T := []) (ln_own frz_l (by decide) (ln_val (ln_val (ln_any ln_nil)))) (rh_v hd_i) (rex_ixL (rex_var at_z (by rfl) (by first | exact Or.inl rfl | exact Or.inr (Or.inl rfl) | exact Or.inr (Or.inr rfl))) rex_int (by intro _ _; rfl))))) (by exact trivial) (by rfl) (by first | exact Or.inl rfl | exact Or.inr rfl)
        case g74 =>
          refine' bx_cons (G1 := [sOwn (fun v => v = v0) (oL cI), sVal cI, sVal cI, sAny]) ?g71 ?g72
          case g71 =>
            exact sx_set (up_s (up_s up_z)) (by rfl) (by first | exact Or.inl rfl | exact Or.inr rfl) (rex_op ot_mod (rex_callTy ct_intI (by rfl) (by exact M_int) (by decide +kernel) (rax_one (rex_op ot_pow (rex_var (at_s (at_s at_z)) (by rfl) (by first | exact Or.inl rfl | exact Or.inr (Or.inl rfl) | exact Or.inr (Or.inr rfl))) rex_int))) rex_int) (by exact trivial) (by rfl) (by first | exact Or.inl rfl | exact Or.inr rfl)
          case g72 =>
            refine' bx_one ?_
            exact sx_retI at_z (rex_op ot_mod (rex_callTy ct_intI (by rfl) (by exact M_int) (by decide +kernel) (rax_one (rex_op ot_div (rex_var (at_s (at_s at_z)) (by rfl) (by first | exact Or.inl rfl | exact Or.inr (Or.inl rfl) | exact Or.inr (Or.inr rfl))) rex_int))) (rex_var (at_s at_z) (by rfl) (by first | exact Or.inl rfl | exact Or.inr (Or.inl rfl) | exact Or.inr (Or.inr rfl))))⟩
def F__law_toss (k : (List Int)) (y : Int) : Res (Int × (List Int)) := Res.bind ((fb__law_toss ).1 .non (k, (y, ((), ((), ()))))) endV

theorem okF__law_toss {P : Program} {w : World} {K : Frag} {mg : Str → Option Value} {base : Heap} {ca : Str → Addr} {fa : Addr} {dvs : List V} {kws : List (Str × V)} {fd : FuncData} (F0 : FunD K "_law_toss" "_law_toss" (defArgs s__law_toss) (defBody s__law_toss) (defScope s__law_toss) dvs kws fa fd) (M_int : mg "int" = none) : FnG P w K mg base 1 fa fd ["kit", "many"] (spI K ca (oL cI) (aOne cI) (rV cI) F__law_toss) :=
  fn_I (as := (aOne cI)) (G1 := [sVal cI, sAny, sAny]) (G' := fun v0 => [sOwn (fun v => v = v0) (oL cI), sVal cI, sAny, sAny]) (κ := (List Int)) (β := Int) (oc := (oL cI)) (r := (rV cI)) (ini := (fun y => (y, ((), ((), ()))))) (fb := (fb__law_toss ).1) F0 sc__law_toss (by rfl) (fun L H v0 ws y wf h => by obtain ⟨v1, rfl, h1⟩ := h; exact ⟨⟨v1, rfl, h1⟩, trivial, trivial, Nat.le_of_ble_eq_true (by rfl)⟩) (fun v0 nd cd A outer s H E hr hgd => (fb__law_toss ).2 M_int fa v0 nd cd A outer s H E hr hgd) (fun v0 k y => rfl)
theorem ok__law_toss {P : Program} {w : World} {K : Frag} {mg : Str → Option Value} {base : Heap} {ca : Str → Addr} {fa : Addr} {fd : FuncData} (F0 : FunD K "_law_toss" "_law_toss" (defArgs s__law_toss) (defBody s__law_toss) (defScope s__law_toss) [] [] fa fd) (M_int : mg "int" = none) (hm : mg "_law_toss" = some (.ref fa)) : DefG P w K mg base 1 "_law_toss" ["kit", "many"] (spI K ca (oL cI) (aOne cI) (rV cI) F__law_toss) :=
  ⟨fa, fd, okF__law_toss  F0 M_int, hm, F0.kp, (F0.bindsN (ps := ["kit", "many"]) fun _ _ _ _ _ _ us hl => match us, hl with | [_, _], _ => rfl), (kw_binds (ps := ["kit", "many"]) F0 fun _ _ _ _ _ _ us hl => match us, hl with | [_, _], _ => rfl)⟩

/-! _law_tags -/
abbrev s__law_tags : Stmt := top 14
abbrev N__law_tags : List Str := ["kit", "many", "stem", "letters", "way", "at", "texts_here", "spot", "pace", "k", "turn"]
theorem sc__law_tags : FnScope N__law_tags ["kit", "many"] (defScope s__law_tags) := ⟨rfl, rfl, rfl, by decide +kernel, rfl, by decide +kernel, by decide +kernel⟩
def fb__law_tags : {fb : (v0 : V) → CT [sOwn (fun v => v = v0) (oL cI), sVal cI, sAny, sAny, sAny, sAny, sAny, sAny, sAny, sAny, sAny] → Res (Out (CT [sOwn (fun v => v = v0) (oL cI), sVal cI, sAny, sAny, sAny, sAny, sAny, sAny, sAny, sAny, sAny]) ((List Str) × (List Int))) // ∀ {P : Program} {w : World} {K : Frag} {mg : Str → Option Value} {base : Heap} {ca : Str → Addr} (D__law_toss : DefG P w K mg base 1 "_law_toss" ["kit", "many"] (spI K ca (oL cI) (aOne cI) (rV cI) F__law_toss)) (M_range : mg "range" = none) (M_int : mg "int" = none) (M_len : mg "len" = none) (f : Addr) (v0 : V) (nd : N__law_tags.Nodup) cd A outer s H E hr hgd, BX (ambOf P w K mg base ca N__law_tags nd 1 "_law_tags" (defScope s__law_tags) f cd A outer s H E hr hgd) [sOwn (fun v => v = v0) (oL cI), sVal cI, sAny, sAny, sAny, sAny, sAny, sAny, sAny, sAny, sAny] (defBody s__law_tags) [sOwn (fun v => v = v0) (oL cI), sVal cI, sAny, sAny, sAny, sAny, sAny, sAny, sAny, sAny, sAny] (rrI (rV (cL cS)) (oL cI) v0) (fb v0)} := ⟨_, by
  intro P w K mg base ca D__law_toss M_range M_int M_len f v0 nd cd A outer s H E hr hgd
  refine' bx_cons (G1 := [sOwn (fun v => v = v0) (oL cI), sVal cI, sAny, sVal cS, sVal cI, sVal cI, sAny, sAny, sAny, sAny, sAny]) ?g95 ?g96
  case g95 =>
    first | exact sx_par3 st_v st_v st_v (up_s (up_s (up_s (up_s (up_s up_z))))) (up_s (up_s (up_s (up_s up_z)))) (up_s (up_s (up_s up_z))) (by decide) (by exact ⟨trivial, trivial, trivial⟩) (by rfl) (by rfl) (by rfl) (by rfl) (by rfl) (by rfl) (rex_str (by decide +kernel) (by decide +kernel)) (ex_calI at_z md_z D__law_toss (Nat.le_of_ble_eq_true (by rfl)) (by rfl) rtvI (by rfl) (by first | exact Or.inl rfl | exact Or.inr (Or.inl rfl) | exact Or.inr (Or.inr rfl)) (rax_one rex_int)) (ex_calI at_z md_z D__law_toss (Nat.le_of_ble_eq_true (by rfl)) (by rfl) rtvI (by rfl) (by first | exact Or.inl rfl | exact Or.inr (Or.inl rfl) | exact Or.inr (Or.inr rfl)) (rax_one rex_int)) (by rfl) | exact sx_parC3 st_v st_v st_v (up_s (up_s (up_s (up_s (up_s up_z))))) (up_s (up_s (up_s (up_s up_z)))) (up_s (up_s (up_s up_z))) (by decide) (by exact ⟨trivial, trivial, trivial⟩) (by rfl) (by rfl) (by rfl) (by first | exact Or.inl rfl | exact Or.inr rfl) (by first | exact Or.inl rfl | exact Or.inr rfl) (by first | exact Or.inl rfl | exact Or.inr rfl) (rex_str (by decide +kernel) (by decide +kernel)) (ex_calI at_z md_z D__law_toss (Nat.le_of_ble_eq_true (by rfl)) (by rfl) rtvI (by rfl) (by first | exact Or.inl rfl | exact Or.inr (Or.inl rfl) | exact Or.inr (Or.inr rfl)) (rax_one rex_int)) (ex_calI at_z md_z D__law_toss (Nat.le_of_ble_eq_true (by rfl)) (by rfl) rtvI (by rfl) (by first | exact Or.inl rfl | exact Or.inr (Or.inl rfl) | exact Or.inr (Or.inr rfl)) (rax_one rex_int)) (by rfl) (by rfl) (by rfl) (by rfl)
  case g96 =>
    refine' bx_cons (G1 := [sOwn (fun v => v = v0) (oL cI), sVal cI, sAny, sVal cS, sVal cI, sVal cI, sAny, sAny, sAny, sAny, sAny]) ?g93 ?g94
    case g93 =>
      refine' sx_if (G' := [sOwn (fun v => v = v0) (oL cI), sVal cI, sAny, sVal cS, sVal cI, sVal cI, sAny, sAny, sAny, sAny, sAny]) (rtx_w (rwx_and (rtx_cmp ot_eq (rex_var (at_s (at_s (at_s (at_s at_z)))) (by rfl) (by first | exact Or.inl rfl | exact Or.inr (Or.inl rfl) | exact Or.inr (Or.inr rfl))) rex_int (by rfl)) (rwx_and1 (rtx_cmp ot_lt (rex_var (at_s at_z) (by rfl) (by first | exact Or.inl rfl | exact Or.inr (Or.inl rfl) | exact Or.inr (Or.inr rfl))) rex_int (by rfl))))) ?g81 ?g82
      case g81 =>
        refine' bx_one ?_
        exact sx_retI at_z (rex_frz frz_l (rex_lc (own := [("k", 9)]) (rix_r1 (by rfl) (by exact M_range) (rex_var (at_s at_z) (by rfl) (by first | exact Or.inl rfl | exact Or.inr (Or.inl rfl) | exact Or.inr (Or.inr rfl)))) (blkOk_by (by rfl)) (wc_keep (by decide) (wc_keep (by decide) (wc_keep (by decide) (wc_keep (by decide) (wc_keep (by decide) (wc_keep (by decide) (wc_keep (by decide) (wc_keep (by decide) (wc_keep (by decide) (wc_any (wc_keep (by decide) wc_nil))))))))))) (fun _ _ _ _ _ => (gx_name (up_s (up_s (up_s (up_s (up_s (up_s (up_s (up_s (up_s up_z))))))))) (by rfl) (by first | exact Or.inl rfl | exact Or.inr rfl) (by show (9 : Nat) ∈ [9]; decide) (by first | exact Or.inl rfl | exact Or.inr rfl))) (fun _ _ _ _ _ => (rex_op ot_mulS (rex_ixS (rex_var (at_s (at_s (at_s at_z))) (by rfl) (by first | exact Or.inl rfl | exact Or.inr (Or.inl rfl) | exact Or.inr (Or.inr rfl))) (rex_var (at_s (at_s (at_s (at_s (at_s at_z))))) (by rfl) (by first | exact Or.inl rfl | exact Or.inr (Or.inl rfl) | exact Or.inr (Or.inr rfl))) (by intro _ _; rfl)) (rex_op ot_add (rex_var (at_s (at_s (at_s (at_s (at_s (at_s (at_s (at_s (at_s at_z))))))))) (by rfl) (by first | exact Or.inl rfl | exact Or.inr (Or.inl rfl) | exact Or.inr (Or.inr rfl))) rex_int))) (wc_keep (by decide) (wc_keep (by decide) (wc_keep (by decide) (wc_keep (by decide) (wc_keep (by decide) (wc_keep (by decide) (wc_keep (by decide) (wc_keep (by decide) (wc_keep (by decide) (wc_val (wc_keep (by decide) wc_nil)))))))))))))
      case g82 =>
        exact bx_nil
    case g94 =>
      refine' bx_cons (G1 := [sOwn (fun v => v = v0) (oL cI), sVal cI, sAny, sVal cS, sVal cI, sVal cI, sAny, sAny, sAny, sAny, sAny]) ?g91 ?g92
      case g91 =>
        refine' sx_if (G' := [sOwn (fun v => v = v0) (oL cI), sVal cI, sAny, sVal cS, sVal cI, sVal cI, sAny, sAny, sAny, sAny, sAny]) (rtx_cmp ot_eq (rex_var (at_s (at_s (at_s (at_s at_z)))) (by rfl) (by first | exact Or.inl rfl | exact Or.inr (Or.inl rfl) | exact Or.inr (Or.inr rfl))) rex_int (by rfl)) ?g85 ?g86
        case g85 =>
          refine' bx_cons (G1 := [sOwn (fun v => v = v0) (oL cI), sVal cI, sAny, sVal cS, sVal cI, sVal cI, sOwn PAny (oL cS), sAny, sAny, sAny, sAny]) ?g83 ?g84
          case g83 =>
            exact sx_setO (up_s (up_s (up_s (up_s (up_s (up_s up_z)))))) (by rfl) (by first | exact Or.inl rfl | exact Or.inr rfl) (rex_list (rax_consA (rex_str (by decide +kernel) (by decide +kernel)) (rax_consA (rex_str (by decide +kernel) (by decide +kernel)) (rax_consA (rex_str (by decide +kernel) (by decide +kernel)) (rax_consA (rex_str (by decide +kernel) (by decide +kernel)) (rax_consA (rex_str (by decide +kernel) (by decide +kernel)) (rax_consA (rex_str (by decide +kernel) (by decide +kernel)) (rax_consA (rex_str (by decide +kernel) (by decide +kernel)) (rax_consA (rex_str (by decide +kernel) (by decide +kernel)) (rax_consA (rex_str (by decide +kernel) (by decide +kernel)) (rax_consA (rex_str (by decide +kernel) (by decide +kernel)) (rax_consA (rex_str (by decide +kernel) (by decide +kernel)) (rax_consA (rex_str (by decide +kernel) (by decide +kernel)) rax_nilA))))))))))))) (by exact trivial) (by rfl) (by first | exact Or.inl rfl | exact Or.inr rfl)
          case g84 =>
            refine' bx_one ?_
            exact sx_retI at_z (rex_frz frz_l (rex_lc (own := [("k", 9)]) (rix_r1 (by rfl) (by exact M_range) (rex_var (at_s at_z) (by rfl) (by first | exact Or.inl rfl | exact Or.inr (Or.inl rfl) | exact Or.inr (Or.inr rfl)))) (blkOk_by (by rfl)) (wc_keep (by decide) (wc_keep (by decide) (wc_keep (by decide) (wc_keep (by decide) (wc_keep (by decide) (wc_keep (by decide) (wc_keep (by decide) (wc_keep (by decide) (wc_keep (by decide) (wc_any (wc_keep (by decide) wc_nil))))))))))) (fun _ _ _ _ _ => (gx_name (up_s (up_s (up_s (up_s (up_s (up_s (up_s (up_s (up_s up_z))))))))) (by rfl) (by first | exact Or.inl rfl | exact Or.inr rfl) (by show (9 : Nat) ∈ [9]; decide) (by first | exact Or.inl rfl | exact Or.inr rfl))) (fun _ _ _ _ _ => (rex_lend (S := [6]) (T := []) (ln_hold (ho_l hd_i) (by decide) (by decide) (ln_val (ln_any (ln_val (ln_val (ln_val (ln_own frz_l (by decide) (ln_any (ln_any (ln_val (ln_any ln_nil))))))))))) (rh_v hd_s) (rex_ixL (rex_var (at_s (at_s (at_s (at_s (at_s (at_s at_z)))))) (by rfl) (by first | exact Or.inl rfl | exact Or.inr (Or.inl rfl) | exact Or.inr (Or.inr rfl))) (rex_op ot_mod (rex_callTy ct_intI (by rfl) (by exact M_int) (by decide +kernel) (rax_one (rex_op ot_add (rex_var (at_s (at_s (at_s (at_s (at_s at_z))))) (by rfl) (by first | exact Or.inl rfl | exact Or.inr (Or.inl rfl) | exact Or.inr (Or.inr rfl))) (rex_op ot_mul rex_int (rex_var (at_s (at_s (at_s (at_s (at_s (at_s (at_s (at_s (at_s at_z))))))))) (by rfl) (by first | exact Or.inl rfl | exact Or.inr (Or.inl rfl) | exact Or.inr (Or.inr rfl))))))) rex_int) (by intro _ _; rfl)))) (wc_keep (by decide) (wc_keep (by decide) (wc_keep (by decide) (wc_keep (by decide) (wc_keep (by decide) (wc_keep (by decide) (wc_keep (by decide) (wc_keep (by decide) (wc_keep (by decide) (wc_val (wc_keep (by decide) wc_nil)))))))))))))
        case g86 =>
          exact bx_nil
      case g92 =>
        refine' bx_cons (G1 := [sOwn (fun v => v = v0) (oL cI), sVal cI, sVal cS, sVal cS, sVal cI, sVal cI, sAny, sAny, sAny, sAny, sAny]) ?g89 ?g90
        case g89 =>
          exact sx_set (up_s (up_s up_z)) (by rfl) (by first | exact Or.inl rfl | exact Or.inr rfl) (ex_mv mv_join PySem.F.plainAttrs_str PySem.F.slot_str_join (by rfl) (rex_str (by decide +kernel) (by decide +kernel)) (ax_one (ex_frz frz_l (ex_lc (own := [("turn", 10)]) (ix_r1 (by rfl) (by exact M_range) (ex_op ot_add rex_int (ex_calI at_z md_z D__law_toss (Nat.le_of_ble_eq_true (by rfl)) (by rfl) rtvI (by rfl) (by first | exact Or.inl rfl | exact Or.inr (Or.inl rfl) | exact Or.inr (Or.inr rfl)) (rax_one rex_int)))) (blkOk_by (by rfl)) (wc_keep (by decide) (wc_keep (by decide) (wc_keep (by decide) (wc_keep (by decide) (wc_keep (by decide) (wc_keep (by decide) (wc_keep (by decide) (wc_keep (by decide) (wc_keep (by decide) (wc_keep (by decide) (wc_any wc_nil))))))))))) (fun _ _ _ _ _ => (gx_name (up_s (up_s (up_s (up_s (up_s (up_s (up_s (up_s (up_s (up_s up_z)))))))))) (by rfl) (by first | exact Or.inl rfl | exact Or.inr rfl) (by show (10 : Nat) ∈ [10]; decide) (by first | exact Or.inl rfl | exact Or.inr rfl))) (fun _ _ _ _ _ => (ex_ixS (rex_var (at_s (at_s (at_s at_z))) (by rfl) (by first | exact Or.inl rfl | exact Or.inr (Or.inl rfl) | exact Or.inr (Or.inr rfl))) (ex_calI at_z md_z D__law_toss (Nat.le_of_ble_eq_true (by rfl)) (by rfl) rtvI (by rfl) (by first | exact Or.inl rfl | exact Or.inr (Or.inl rfl) | exact Or.inr (Or.inr rfl)) (rax_one rex_int)) (by intro _ _; rfl))) (wc_keep (by decide) (wc_keep (by decide) (wc_keep (by decide) (wc_keep (by decide) (wc_keep (by decide) (wc_keep (by decide) (wc_keep (by decide) (wc_keep (by decide) (wc_keep (by decide) (wc_keep (by decide) (wc_val wc_nil))))))))))))))) (by exact trivial) (by rfl) (by first | exact Or.inl rfl | exact Or.inr rfl)
        case g90 =>
          refine' bx_cons (G1 := [sOwn (fun v => v = v0) (oL cI), sVal cI, sVal cS, sVal cS, sVal cI, sVal cI, sAny, sVal cI, sVal cI, sAny, sAny]) ?g87 ?g88
          case g87 =>
            first | exact sx_par st_v st_v (up_s (up_s (up_s (up_s (up_s (up_s (up_s (up_s up_z)))))))) (up_s (up_s (up_s (up_s (up_s (up_s (up_s up_z))))))) (by decide) (by exact ⟨trivial, trivial⟩) (by rfl) (by rfl) (by rfl) (by rfl) (ex_calI at_z md_z D__law_toss (Nat.le_of_ble_eq_true (by rfl)) (by rfl) rtvI (by rfl) (by first | exact Or.inl rfl | exact Or.inr (Or.inl rfl) | exact Or.inr (Or.inr rfl)) (rax_one (rex_callB ct_lenS (by rfl) (by exact M_len) (by decide +kernel) (rax_one (rex_var (at_s (at_s at_z)) (by rfl) (by first | exact Or.inl rfl | exact Or.inr (Or.inl rfl) | exact Or.inr (Or.inr rfl))))))) (ex_ixL (rex_frz frz_l (rex_list (rax_consA rex_int (rax_consA rex_int (rax_consA rex_int (rax_consA rex_int (rax_consA rex_int rax_nilA))))))) (ex_calI at_z md_z D__law_toss (Nat.le_of_ble_eq_true (by rfl)) (by rfl) rtvI (by rfl) (by first | exact Or.inl rfl | exact Or.inr (Or.inl rfl) | exact Or.inr (Or.inr rfl)) (rax_one rex_int)) (by intro _ _; rfl)) (by rfl) | exact sx_parC st_v st_v (up_s (up_s (up_s (up_s (up_s (up_s (up_s (up_s up_z)))))))) (up_s (up_s (up_s (up_s (up_s (up_s (up_s up_z))))))) (by decide) (by exact ⟨trivial, trivial⟩) (by rfl) (by rfl) (by first | exact Or.inl rfl | exact Or.inr rfl) (by first | exact Or.inl rfl | exact Or.inr rfl) (ex_calI at_z md_z D__law_toss (Nat.le_of_ble_eq_true (by rfl)) (by rfl) rtvI (by rfl) (by first | exact Or.inl rfl | exact Or.inr (Or.inl rfl) | exact Or.inr (Or.inr rfl)) (rax_one (rex_callB ct_lenS (by rfl) (by exact M_len) (by decide +kernel) (rax_one (rex_var (at_s (at_s at_z)) (by rfl) (by first | exact Or.inl rfl | exact Or.inr (Or.inl rfl) | exact Or.inr (Or.inr rfl))))))) (ex_ixL (rex_frz frz_l (rex_list (rax_consA rex_int (rax_consA rex_int (rax_consA rex_int (rax_consA rex_int (rax_consA rex_int rax_nilA))))))) (ex_calI at_z md_z D__law_toss (Nat.le_of_ble_eq_true (by rfl)) (by rfl) rtvI (by rfl) (by first | exact Or.inl rfl | exact Or.inr (Or.inl rfl) | exact Or.inr (Or.inr rfl)) (rax_one rex_int)) (by intro _ _; rfl)) (by rfl) (by rfl) (by rfl)
          case g88 =>
            refine' bx_one ?_
            exact sx_retI at_z (rex_frz frz_l (rex_lc (own := [("k", 9)]) (rix_r1 (by rfl) (by exact M_range) (rex_var (at_s at_z) (by rfl) (by first | exact Or.inl rfl | exact Or.inr (Or.inl rfl) | exact Or.inr (Or.inr rfl)))) (blkOk_by (by rfl)) (wc_keep (by decide) (wc_keep (by decide) (wc_keep (by decide) (wc_keep (by decide) (wc_keep (by decide) (wc_keep (by decide) (wc_keep (by decide) (wc_keep (by decide) (wc_keep (by decide) (wc_any (wc_keep (by decide) wc_nil))))))))))) (fun _ _ _ _ _ => (gx_name (up_s (up_s (up_s (up_s (up_s (up_s (up_s (up_s (up_s up_z))))))))) (by rfl) (by first | exact Or.inl rfl | exact Or.inr rfl) (by show (9 : Nat) ∈ [9]; decide) (by first | exact Or.inl rfl | exact Or.inr rfl))) (fun _ _ _ _ _ => (rex_op ot_addS (rex_op ot_addS (rex_cutS (rex_var (at_s (at_s at_z)) (by rfl) (by first | exact Or.inl rfl | exact Or.inr (Or.inl rfl) | exact Or.inr (Or.inr rfl))) rox_none (rox_some (rex_var (at_s (at_s (at_s (at_s (at_s (at_s (at_s at_z))))))) (by rfl) (by first | exact Or.inl rfl | exact Or.inr (Or.inl rfl) | exact Or.inr (Or.inr rfl))))) (rex_ixS (rex_var (at_s (at_s (at_s at_z))) (by rfl) (by first | exact Or.inl rfl | exact Or.inr (Or.inl rfl) | exact Or.inr (Or.inr rfl))) (rex_op ot_mod (rex_callTy ct_intI (by rfl) (by exact M_int) (by decide +kernel) (rax_one (rex_op ot_add (rex_var (at_s (at_s (at_s (at_s (at_s at_z))))) (by rfl) (by first | exact Or.inl rfl | exact Or.inr (Or.inl rfl) | exact Or.inr (Or.inr rfl))) (rex_op ot_mul (rex_var (at_s (at_s (at_s (at_s (at_s (at_s (at_s (at_s at_z)))))))) (by rfl) (by first | exact Or.inl rfl | exact Or.inr (Or.inl rfl) | exact Or.inr (Or.inr rfl))) (rex_var (at_s (at_s (at_s (at_s (at_s (at_s (at_s (at_s (at_s at_z))))))))) (by rfl) (by first | exact Or.inl rfl | exact Or.inr (Or.inl rfl) | exact Or.inr (Or.inr rfl))))))) rex_int) (by intro _ _; rfl))) (rex_cutS (rex_var (at_s (at_s at_z)) (by rfl) (by first | exact Or.inl rfl | exact Or.inr (Or.inl rfl) | exact Or.inr (Or.inr rfl))) (rox_some (rex_op ot_add (rex_var (at_s (at_s (at_s (at_s (at_s (at_s (at_s at_z))))))) (by rfl) (by first | exact Or.inl rfl | exact Or.inr (Or.inl rfl) | exact Or.inr (Or.inr rfl))) rex_int)) rox_none))) (wc_keep (by decide) (wc_keep (by decide) (wc_keep (by decide) (wc_keep (by decide) (wc_keep (by decide) (wc_keep (by decide) (wc_keep (by decide) (wc_keep (by decide) (wc_keep (by decide) (wc_val (wc_keep (by decide) wc_nil)))))))))))))⟩
def F__law_tags (k : (List Int)) (y : Int) : Res ((List Str) × (List Int)) := Res.bind ((fb__law_tags ).1 .non (k, (y, ((), ((), ((), ((), ((), ((), ((), ((), ((), ())))))))))))) endV

theorem okF__law_tags {P : Program} {w : World} {K : Frag} {mg : Str → Option Value} {base : Heap} {ca : Str → Addr} {fa : Addr} {dvs : List V} {kws : List (Str × V)} {fd : FuncData} (F0 : FunD K "_law_tags" "_law_tags" (defArgs s__law_tags) (defBody s__law_tags) (defScope s__law_tags) dvs kws fa fd) (D__law_toss : DefG P w K mg base 1 "_law_toss" ["kit", "many"] (spI K ca (oL cI) (aOne cI) (rV cI) F__law_toss)) (M_range : mg "range" = none) (M_int : mg "int" = none) (M_len : mg "len" = none) : FnG P w K mg base 2 fa fd ["kit", "many"] (spI K ca (oL cI) (aOne cI) (rV (cL cS)) F__law_tags) :=
  fn_I (as := (aOne cI)) (G1 := [sVal cI, sAny, sAny, sAny, sAny, sAny, sAny, sAny, sAny, sAny]) (G' := fun v0 => [sOwn (fun v => v = v0) (oL cI), sVal cI, sAny, sAny, sAny, sAny, sAny, sAny, sAny, sAny, sAny]) (κ := (List Int)) (β := (List Str)) (oc := (oL cI)) (r := (rV (cL cS))) (ini := (fun y => (y, ((), ((), ((), ((), ((), ((), ((), ((), ((), ())))))))))))) (fb := (fb__law_tags ).1) F0 sc__law_tags (by rfl) (fun L H v0 ws y wf h => by obtain ⟨v1, rfl, h1⟩ := h; exact ⟨⟨v1, rfl, h1⟩, trivial, trivial, trivial, trivial, trivial, trivial, trivial, trivial, trivial, Nat.le_of_ble_eq_true (by rfl)⟩) (fun v0 nd cd A outer s H E hr hgd => (fb__law_tags ).2 D__law_toss M_range M_int M_len fa v0 nd cd A outer s H E hr hgd) (fun v0 k y => rfl)
theorem ok__law_tags {P : Program} {w : World} {K : Frag} {mg : Str → Option Value} {base : Heap} {ca : Str → Addr} {fa : Addr} {fd : FuncData} (F0 : FunD K "_law_tags" "_law_tags" (defArgs s__law_tags) (defBody s__law_tags) (defScope s__law_tags) [] [] fa fd) (D__law_toss : DefG P w K mg base 1 "_law_toss" ["kit", "many"] (spI K ca (oL cI) (aOne cI) (rV cI) F__law_toss)) (M_range : mg "range" = none) (M_int : mg "int" = none) (M_len : mg "len" = none) (hm : mg "_law_tags" = some (.ref fa)) : DefG P w K mg base 2 "_law_tags" ["kit", "many"] (spI K ca (oL cI) (aOne cI) (rV (cL cS)) F__law_tags) :=
  ⟨fa, fd, okF__law_tags  F0 D__law_toss M_range M_int M_len, hm, F0.kp, (F0.bindsN (ps := ["kit", "many"]) fun _ _ _ _ _ _ us hl => match us, hl with | [_, _], _ => rfl), (kw_binds (ps := ["kit", "many"]) F0 fun _ _ _ _ _ _ us hl => match us, hl with | [_, _], _ => rfl)⟩

/-! _law_plan_of_rule -/
abbrev s__law_plan_of_rule : Stmt := top 15
abbrev N__law_plan_of_rule : List Str := ["kit", "names_here", "ranks_here", "label", "early_here", "keyed_here", "ranked_here", "pick"]
theorem sc__law_plan_of_rule : FnScope N__law_plan_of_rule ["kit", "names_here"] (defScope s__law_plan_of_rule) := ⟨rfl, rfl, rfl, by decide +kernel, rfl, by decide +kernel, by decide +kernel⟩
def fb__law_plan_of_rule : {fb : (v0 : V) → CT [sOwn (fun v => v = v0) (oL cI), sVal (cL cS), sAny, sAny, sAny, sAny, sAny, sAny] → Res (Out (CT [sOwn (fun v => v = v0) (oL cI), sVal (cL cS), sAny, sAny, sAny, sAny, sAny, sAny]) (((List Str) × (List (Str × Str)) × (List (Str × Int))) × (List Int))) // ∀ {P : Program} {w : World} {K : Frag} {mg : Str → Option Value} {base : Heap} {ca : Str → Addr} (D__law_toss : DefG P w K mg base 1 "_law_toss" ["kit", "many"] (spI K ca (oL cI) (aOne cI) (rV cI) F__law_toss)) (M_len : mg "len" = none) (f : Addr) (v0 : V) (nd : N__law_plan_of_rule.Nodup) cd A outer s H E hr hgd, BX (ambOf P w K mg base ca N__law_plan_of_rule nd 1 "_law_plan_of_rule" (defScope s__law_plan_of_rule) f cd A outer s H E hr hgd) [sOwn (fun v => v = v0) (oL cI), sVal (cL cS), sAny, sAny, sAny, sAny, sAny, sAny] (defBody s__law_plan_of_rule) [sOwn (fun v => v = v0) (oL cI), sVal (cL cS), sAny, sAny, sAny, sAny, sAny, sAny] (rrI (rV (cT (aCons (cL cS) (aCons (cL (cT (aCons cS (aOne cS)))) (aOne (cL (cT (aCons cS (aOne cI))))))))) (oL cI) v0) (fb v0)} := ⟨_, by
  intro P w K mg base ca D__law_toss M_len f v0 nd cd A outer s H E hr hgd
  refine' bx_cons (G1 := [sOwn (fun v => v = v0) (oL cI), sVal (cL cS), sAny, sAny, sOwn PAny (oL cS), sOwn PAny (oL (cT (aCons cS (aOne cS)))), sOwn PAny (oL (cT (aCons cS (aOne cI)))), sAny]) ?g117 ?g118
  case g117 =>
    first | exact sx_par3 st_o st_o st_o (up_s (up_s (up_s (up_s (up_s (up_s up_z)))))) (up_s (up_s (up_s (up_s (up_s up_z))))) (up_s (up_s (up_s (up_s up_z)))) (by decide) (by exact ⟨trivial, trivial, trivial⟩) (by rfl) (by rfl) (by rfl) (by rfl) (by rfl) (by rfl) (rex_list (c := cS) rax_nilA) (rex_list (c := (cT (aCons cS (aOne cS)))) rax_nilA) (rex_list (c := (cT (aCons cS (aOne cI)))) rax_nilA) (by rfl) | exact sx_parC3 st_o st_o st_o (up_s (up_s (up_s (up_s (up_s (up_s up_z)))))) (up_s (up_s (up_s (up_s (up_s up_z))))) (up_s (up_s (up_s (up_s up_z)))) (by decide) (by exact ⟨trivial, trivial, trivial⟩) (by rfl) (by rfl) (by rfl) (by first | exact Or.inl rfl | exact Or.inr rfl) (by first | exact Or.inl rfl | exact Or.inr rfl) (by first | exact Or.inl rfl | exact Or.inr rfl) (rex_list (c := cS) rax_nilA) (rex_list (c := (cT (aCons cS (aOne cS)))) rax_nilA) (rex_list (c := (cT (aCons cS (aOne cI)))) rax_nilA) (by rfl) (by rfl) (by rfl) (by rfl)
  case g118 =>
    refine' bx_cons (G1 := [sOwn (fun v => v = v0) (oL cI), sVal (cL cS), sOwn PAny (oL cI), sAny, sOwn PAny (oL cS), sOwn PAny (oL (cT (aCons cS (aOne cS)))), sOwn PAny (oL (cT (aCons cS (aOne cI)))), sAny]) ?g115 ?g116
    case g115 =>
      exact sx_setO (up_s (up_s up_z)) (by rfl) (by first | exact Or.inl rfl | exact Or.inr rfl) (ex_list (ax_consA rex_int (ax_consA (ex_op ot_sub (ex_calI at_z md_z D__law_toss (Nat.le_of_ble_eq_true (by rfl)) (by rfl) rtvI (by rfl) (by first | exact Or.inl rfl | exact Or.inr (Or.inl rfl) | exact Or.inr (Or.inr rfl)) (rax_one rex_int)) rex_int) (ax_consA (ex_op ot_sub (ex_calI at_z md_z D__law_toss (Nat.le_of_ble_eq_true (by rfl)) (by rfl) rtvI (by rfl) (by first | exact Or.inl rfl | exact Or.inr (Or.inl rfl) | exact Or.inr (Or.inr rfl)) (rax_one rex_int)) rex_int) rax_nilA)))) (by exact trivial) (by rfl) (by first | exact Or.inl rfl | exact Or.inr rfl)
    case g116 =>
      refine' bx_cons (G1 := [sOwn (fun v => v = v0) (oL cI), sVal (cL cS), sOwn PAny (oL cI), sAny, sOwn PAny (oL cS), sOwn PAny (oL (cT (aCons cS (aOne cS)))), sOwn PAny (oL (cT (aCons cS (aOne cI)))), sAny]) ?g113 ?g114
      case g113 =>
        refine' sx_for (G1 := [sOwn (fun v => v = v0) (oL cI), sVal (cL cS), sOwn PAny (oL cI), sVal cS, sOwn PAny (oL cS), sOwn PAny (oL (cT (aCons cS (aOne cS)))), sOwn PAny (oL (cT (aCons cS (aOne cI)))), sAny]) (G2 := [sOwn (fun v => v = v0) (oL cI), sVal (cL cS), sOwn PAny (oL cI), sVal cS, sOwn PAny (oL cS), sOwn PAny (oL (cT (aCons cS (aOne cS)))), sOwn PAny (oL (cT (aCons cS (aOne cI)))), sVal cI]) (rix_l (rex_var (at_s at_z) (by rfl) (by first | exact Or.inl rfl | exact Or.inr (Or.inl rfl) | exact Or.inr (Or.inr rfl)))) (gx_name (up_s (up_s (up_s up_z))) (by rfl) (by first | exact Or.inl rfl | exact Or.inr rfl) (by exact trivial) (by first | exact Or.inl rfl | exact Or.inr rfl)) ?g109 (sc_same (sc_same (sc_same (sc_any (sc_same (sc_same (sc_same (sc_any sc_id))))))))
        case g109 =>
          refine' bx_cons (G1 := [sOwn (fun v => v = v0) (oL cI), sVal (cL cS), sOwn PAny (oL cI), sVal cS, sOwn PAny (oL cS), sOwn PAny (oL (cT (aCons cS (aOne cS)))), sOwn PAny (oL (cT (aCons cS (aOne cI)))), sVal cI]) ?g107 ?g108
          case g107 =>
            exact sx_set (up_s (up_s (up_s (up_s (up_s (up_s (up_s up_z))))))) (by rfl) (by first | exact Or.inl rfl | exact Or.inr rfl) (ex_calI at_z md_z D__law_toss (Nat.le_of_ble_eq_true (by rfl)) (by rfl) rtvI (by rfl) (by first | exact Or.inl rfl | exact Or.inr (Or.inl rfl) | exact Or.inr (Or.inr rfl)) (rax_one rex_int)) (by exact trivial) (by rfl) (by first | exact Or.inl rfl | exact Or.inr rfl)
          case g108 =>
            refine' bx_cons (G1 := [sOwn (fun v => v = v0) (oL cI), sVal (cL cS), sOwn PAny (oL cI), sVal cS, sOwn PAny (oL cS), sOwn PAny (oL (cT (aCons cS (aOne cS)))), sOwn PAny (oL (cT (aCons cS (aOne cI)))), sVal cI]) ?g105 ?g106
            case g105 =>
              refine' sx_if (G' := [sOwn (fun v => v = v0) (oL cI), sVal (cL cS), sOwn PAny (oL cI), sVal cS, sOwn PAny (oL cS), sOwn PAny (oL (cT (aCons cS (aOne cS)))), sOwn PAny (oL (cT (aCons cS (aOne cI)))), sVal cI]) (rtx_w (rwx_and (rtx_cmp ot_eq (rex_var (at_s (at_s (at_s (at_s (at_s (at_s (at_s at_z))))))) (by rfl) (by first | exact Or.inl rfl | exact Or.inr (Or.inl rfl) | exact Or.inr (Or.inr rfl))) rex_int (by rfl)) (rwx_and1 (rtx_cmp ot_lt (rex_lend (S := [4]) (T := []) (ln_hold (ho_l hd_i) (by decide) (by decide) (ln_val (ln_hold (ho_l hd_i) (by decide) (by decide) (ln_val (ln_own frz_l (by decide) (ln_hold (ho_l (hd_t (ha_cons hd_s (ha_one hd_s)))) (by decide) (by decide) (ln_hold (ho_l (hd_t (ha_cons hd_s (ha_one hd_i)))) (by decide) (by decide) (ln_val ln_nil)))))))) (rh_v hd_i) (rex_callB ct_lenL (by rfl) (by exact M_len) (by decide +kernel) (rax_one (rex_var (at_s (at_s (at_s (at_s at_z)))) (by rfl) (by first | exact Or.inl rfl | exact Or.inr (Or.inl rfl) | exact Or.inr (Or.inr rfl)))))) rex_int (by rfl))))) ?g97 ?g98
              case g97 =>
                refine' bx_one ?_
                exact sx_expr (ex_ownM mt_app PySem.F.slot_list_append (by rfl) (at_s (at_s (at_s (at_s at_z)))) (md_s (md_s (md_s (md_s md_z)))) (by rfl) (by first | exact Or.inl rfl | exact Or.inr (Or.inl rfl) | exact Or.inr (Or.inr rfl)) (rax_one (rex_var (at_s (at_s (at_s at_z))) (by rfl) (by first | exact Or.inl rfl | exact Or.inr (Or.inl rfl) | exact Or.inr (Or.inr rfl)))))
              case g98 =>
                exact bx_nil
            case g106 =>
              refine' bx_cons (G1 := [sOwn (fun v => v = v0) (oL cI), sVal (cL cS), sOwn PAny (oL cI), sVal cS, sOwn PAny (oL cS), sOwn PAny (oL (cT (aCons cS (aOne cS)))), sOwn PAny (oL (cT (aCons cS (aOne cI)))), sVal cI]) ?g103 ?g104
              case g103 =>
                refine' sx_if (G' := [sOwn (fun v => v = v0) (oL cI), sVal (cL cS), sOwn PAny (oL cI), sVal cS, sOwn PAny (oL cS), sOwn PAny (oL (cT (aCons cS (aOne cS)))), sOwn PAny (oL (cT (aCons cS (aOne cI)))), sVal cI]) (tx_w (wx_or (rtx_cmp (ot_inTV fq_i) (rex_var (at_s (at_s (at_s (at_s (at_s (at_s (at_s at_z))))))) (by rfl) (by first | exact Or.inl rfl | exact Or.inr (Or.inl rfl) | exact Or.inr (Or.inr rfl))) (rex_sub (sub_ttv (by decide)) (rex_tup (rax_consA rex_int (rax_consA rex_int rax_nilA)))) (by rfl)) (wx_or1 (tx_cmp ot_eq (ex_calI at_z md_z D__law_toss (Nat.le_of_ble_eq_true (by rfl)) (by rfl) rtvI (by rfl) (by first | exact Or.inl rfl | exact Or.inr (Or.inl rfl) | exact Or.inr (Or.inr rfl)) (rax_one rex_int)) rex_int (by rfl))))) ?g99 ?g100
                case g99 =>
                  refine' bx_one ?_
                  exact sx_expr (ex_ownM mt_app PySem.F.slot_list_append (by rfl) (at_s (at_s (at_s (at_s (at_s at_z))))) (md_s (md_s (md_s (md_s (md_s md_z))))) (by rfl) (by first | exact Or.inl rfl | exact Or.inr (Or.inl rfl) | exact Or.inr (Or.inr rfl)) (ax_one (ex_tup (ax_cons (rex_var (at_s (at_s (at_s at_z))) (by rfl) (by first | exact Or.inl rfl | exact Or.inr (Or.inl rfl) | exact Or.inr (Or.inr rfl))) (ax_one (ex_ixL (rex_frz frz_l (rex_list (rax_consA (rex_str (by decide +kernel) (by decide +kernel)) (rax_consA (rex_str (by decide +kernel) (by decide +kernel)) (rax_consA (rex_str (by decide +kernel) (by decide +kernel)) (rax_consA (rex_str (by decide +kernel) (by decide +kernel)) rax_nilA)))))) (ex_calI at_z md_z D__law_toss (Nat.le_of_ble_eq_true (by rfl)) (by rfl) rtvI (by rfl) (by first | exact Or.inl rfl | exact Or.inr (Or.inl rfl) | exact Or.inr (Or.inr rfl)) (ax_one (ex_ixL (rex_frz frz_l (rex_list (rax_consA rex_int (rax_consA rex_int (rax_consA rex_int rax_nilA))))) (ex_calI at_z md_z D__law_toss (Nat.le_of_ble_eq_true (by rfl)) (by rfl) rtvI (by rfl) (by first | exact Or.inl rfl | exact Or.inr (Or.inl rfl) | exact Or.inr (Or.inr rfl)) (rax_one rex_int)) (by intro _ _; rfl)))) (by intro _ _; rfl)))))))
                case g100 =>
                  exact bx_nil
              case g104 =>
                refine' bx_one ?_
                refine' sx_if (G' := [sOwn (fun v => v = v0) (oL cI), sVal (cL cS), sOwn PAny (oL cI), sVal cS, sOwn PAny (oL cS), sOwn PAny (oL (cT (aCons cS (aOne cS)))), sOwn PAny (oL (cT (aCons cS (aOne cI)))), sVal cI]) (tx_w (wx_or (rtx_cmp (ot_inTV fq_i) (rex_var (at_s (at_s (at_s (at_s (at_s (at_s (at_s at_z))))))) (by rfl) (by first | exact Or.inl rfl | exact Or.inr (Or.inl rfl) | exact Or.inr (Or.inr rfl))) (rex_sub (sub_ttv (by decide)) (rex_tup (rax_consA rex_int (rax_consA rex_int rax_nilA)))) (by rfl)) (wx_or1 (tx_cmp ot_eq (ex_calI at_z md_z D__law_toss (Nat.le_of_ble_eq_true (by rfl)) (by rfl) rtvI (by rfl) (by first | exact Or.inl rfl | exact Or.inr (Or.inl rfl) | exact Or.inr (Or.inr rfl)) (rax_one rex_int)) rex_int (by rfl))))) ?g101 ?g102
                case g101 =>
                  refine' bx_one ?_
                  exact sx_expr (ex_ownM mt_app PySem.F.slot_list_append (by rfl) (at_s (at_s (at_s (at_s (at_s (at_s at_z)))))) (md_s (md_s (md_s (md_s (md_s (md_s md_z)))))) (by rfl) (by first | exact Or.inl rfl | exact Or.inr (Or.inl rfl) | exact Or.inr (Or.inr rfl)) (ax_one (ex_tup (ax_cons (rex_var (at_s (at_s (at_s at_z))) (by rfl) (by first | exact Or.inl rfl | exact Or.inr (Or.inl rfl) | exact Or.inr (Or.inr rfl))) (ax_one (ex_lend (S := [2]) (T := []) (ln_hold (ho_l hd_i) (by decide) (by decide) (ln_val (ln_own frz_l (by decide) (ln_val (ln_hold (ho_l hd_s) (by decide) (by decide) (ln_hold (ho_l (hd_t (ha_cons hd_s (ha_one hd_s)))) (by decide) (by decide) (ln_hold (ho_l (hd_t (ha_cons hd_s (ha_one hd_i)))) (by decide) (by decide) (ln_val ln_nil)))))))) (rh_v hd_i) (ex_ixL (rex_var (at_s (at_s at_z)) (by rfl) (by first | exact Or.inl rfl | exact Or.inr (Or.inl rfl) | exact Or.inr (Or.inr rfl))) (ex_calI at_z md_z D__law_toss (Nat.le_of_ble_eq_true (by rfl)) (by rfl) rtvI (by rfl) (by first | exact Or.inl rfl | exact Or.inr (Or.inl rfl) | exact Or.inr (Or.inr rfl)) (rax_one rex_int)) (by intro _ _; rfl))))))))
                case g102 =>
                  exact bx_nil
      case g114 =>
        refine' bx_sub (G1 := [sOwn (fun v => v = v0) (oL cI), sVal (cL cS), sOwn PAny (oL cI), sAny, sVal (cL cS), sOwn PAny (oL (cT (aCons cS (aOne cS)))), sOwn PAny (oL (cT (aCons cS (aOne cI)))), sAny]) (sc_same (sc_same (sc_same (sc_same (sc_frz frz_l sc_id))))) ?g110
        case g110 =>
          refine' bx_sub (G1 := [sOwn (fun v => v = v0) (oL cI), sVal (cL cS), sOwn PAny (oL cI), sAny, sVal (cL cS), sVal (cL (cT (aCons cS (aOne cS)))), sOwn PAny (oL (cT (aCons cS (aOne cI)))), sAny]) (sc_same (sc_same (sc_same (sc_same (sc_same (sc_frz frz_l sc_id)))))) ?g111
          case g111 =>
            refine' bx_sub (G1 := [sOwn (fun v => v = v0) (oL cI), sVal (cL cS), sOwn PAny (oL cI), sAny, sVal (cL cS), sVal (cL (cT (aCons cS (aOne cS)))), sVal (cL (cT (aCons cS (aOne cI)))), sAny]) (sc_same (sc_same (sc_same (sc_same (sc_same (sc_same (sc_frz frz_l sc_id))))))) ?g112
            case g112 =>
              refine' bx_one ?_
              exact sx_retI at_z (rex_tup (rax_cons (rex_var (at_s (at_s (at_s (at_s at_z)))) (by rfl) (by first | exact Or.inl rfl | exact Or.inr (Or.inl rfl) | exact Or.inr (Or.inr rfl))) (rax_cons (rex_var (at_s (at_s (at_s (at_s (at_s at_z))))) (by rfl) (by first | exact Or.inl rfl | exact Or.inr (Or.inl rfl) | exact Or.inr (Or.inr rfl))) (rax_one (rex_var (at_s (at_s (at_s (at_s (at_s (at_s at_z)))))) (by rfl) (by first | exact Or.inl rfl | exact Or.inr (Or.inl rfl) | exact Or.inr (Or.inr rfl)))))))⟩
def F__law_plan_of_rule (k : (List Int)) (y : (List Str)) : Res (((List Str) × (List (Str × Str)) × (List (Str × Int))) × (List Int)) := Res.bind ((fb__law_plan_of_rule ).1 .non (k, (y, ((), ((), ((), ((), ((), ((), ()))))))))) endV

theorem okF__law_plan_of_rule {P : Program} {w : World} {K : Frag} {mg : Str → Option Value} {base : Heap} {ca : Str → Addr} {fa : Addr} {dvs : List V} {kws : List (Str × V)} {fd : FuncData} (F0 : FunD K "_law_plan_of_rule" "_law_plan_of_rule" (defArgs s__law_plan_of_rule) (defBody s__law_plan_of_rule) (defScope s__law_plan_of_rule) dvs kws fa fd) (D__law_toss : DefG P w K mg base 1 "_law_toss" ["kit", "many"] (spI K ca (oL cI) (aOne cI) (rV cI) F__law_toss)) (M_len : mg "len" = none) : FnG P w K mg base 2 fa fd ["kit", "names_here"] (spI K ca (oL cI) (aOne (cL cS)) (rV (cT (aCons (cL cS) (aCons (cL (cT (aCons cS (aOne cS)))) (aOne (cL (cT (aCons cS (aOne cI))))))))) F__law_plan_of_rule) :=
  fn_I (as := (aOne (cL cS))) (G1 := [sVal (cL cS), sAny, sAny, sAny, sAny, sAny, sAny]) (G' := fun v0 => [sOwn (fun v => v = v0) (oL cI), sVal (cL cS), sAny, sAny, sAny, sAny, sAny, sAny]) (κ := (List Int)) (β := ((List Str) × (List (Str × Str)) × (List (Str × Int)))) (oc := (oL cI)) (r := (rV (cT (aCons (cL cS) (aCons (cL (cT (aCons cS (aOne cS)))) (aOne (cL (cT (aCons cS (aOne cI)))))))))) (ini := (fun y => (y, ((), ((), ((), ((), ((), ((), ()))))))))) (fb := (fb__law_plan_of_rule ).1) F0 sc__law_plan_of_rule (by rfl) (fun L H v0 ws y wf h => by obtain ⟨v1, rfl, h1⟩ := h; exact ⟨⟨v1, rfl, h1⟩, trivial, trivial, trivial, trivial, trivial, trivial, Nat.le_of_ble_eq_true (by rfl)⟩) (fun v0 nd cd A outer s H E hr hgd => (fb__law_plan_of_rule ).2 D__law_toss M_len fa v0 nd cd A outer s H E hr hgd) (fun v0 k y => rfl)
theorem ok__law_plan_of_rule {P : Program} {w : World} {K : Frag} {mg : Str → Option Value} {base : Heap} {ca : Str → Addr} {fa : Addr} {fd : FuncData} (F0 : FunD K "_law_plan_of_rule" "_law_plan_of_rule" (defArgs s__law_plan_of_rule) (defBody s__law_plan_of_rule) (defScope s__law_plan_of_rule) [] [] fa fd) (D__law_toss : DefG P w K mg base 1 "_law_toss" ["kit", "many"] (spI K ca (oL cI) (aOne cI) (rV cI) F__law_toss)) (M_len : mg "len" = none) (hm : mg "_law_plan_of_rule" = some (.ref fa)) : DefG P w K mg base 2 "_law_plan_of_rule" ["kit", "names_here"] (spI K ca (oL cI) (aOne (cL cS)) (rV (cT (aCons (cL cS) (aCons (cL (cT (aCons cS (aOne cS)))) (aOne (cL (cT (aCons cS (aOne cI))))))))) F__law_plan_of_rule) :=
  ⟨fa, fd, okF__law_plan_of_rule  F0 D__law_toss M_len, hm, F0.kp, (F0.bindsN (ps := ["kit", "names_here"]) fun _ _ _ _ _ _ us hl => match us, hl with | [_, _], _ => rfl), (kw_binds (ps := ["kit", "names_here"]) F0 fun _ _ _ _ _ _ us hl => match us, hl with | [_, _], _ => rfl)⟩

/-! _law_wide_rule -/
abbrev s__law_wide_rule : Stmt := top 16
abbrev N__law_wide_rule : List Str := ["kit", "names_here", "label", "labels", "shares", "early_here", "keyed_here", "ranked_here", "far", "ranks_here", "turn"]
theorem sc__law_wide_rule : FnScope N__law_wide_rule ["kit", "names_here"] (defScope s__law_wide_rule) := ⟨rfl, rfl, rfl, by decide +kernel, rfl, by decide +kernel, by decide +kernel⟩
def fb__law_wide_rule : {fb : (v0 : V) → CT [sOwn (fun v => v = v0) (oL cI), sVal (cL cS), sAny, sAny, sAny, sAny, sAny, sAny, sAny, sAny, sAny] → Res (Out (CT [sOwn (fun v => v = v0) (oL cI), sVal (cL cS), sAny, sAny, sAny, sAny, sAny, sAny, sAny, sAny, sAny]) (((List Str) × (List (Str × Str)) × (List (Str × Int))) × (List Int))) // ∀ {P : Program} {w : World} {K : Frag} {mg : Str → Option Value} {base : Heap} {ca : Str → Addr} (D__law_tags : DefG P w K mg base 2 "_law_tags" ["kit", "many"] (spI K ca (oL cI) (aOne cI) (rV (cL cS)) F__law_tags)) (M_range : mg "range" = none) (D__law_toss : DefG P w K mg base 1 "_law_toss" ["kit", "many"] (spI K ca (oL cI) (aOne cI) (rV cI) F__law_toss)) (f : Addr) (v0 : V) (nd : N__law_wide_rule.Nodup) cd A outer s H E hr hgd, BX (ambOf P w K mg base ca N__law_wide_rule nd 2 "_law_wide_rule" (defScope s__law_wide_rule) f cd A outer s H E hr hgd) [sOwn (fun v => v = v0) (oL cI), sVal (cL cS), sAny, sAny, sAny, sAny, sAny, sAny, sAny, sAny, sAny] (defBody s__law_wide_rule) [sOwn (fun v => v = v0) (oL cI), sVal (cL cS), sAny, sAny, sAny, sAny, sAny, sAny, sAny, sAny, sAny] (rrI (rV (cT (aCons (cL cS) (aCons (cL (cT (aCons cS (aOne cS)))) (aOne (cL (cT (aCons cS (aOne cI))))))))) (oL cI) v0) (fb v0)} := ⟨_, by
  intro P w K mg base ca D__law_tags M_range D__law_toss f v0 nd cd A outer s H E hr hgd
  refine' bx_cons (G1 := [sOwn (fun v => v = v0) (oL cI), sVal (cL cS), sAny, sVal (cL cS), sOwn PAny (oL cI), sAny, sAny, sAny, sAny, sAny, sAny]) ?g140 ?g141
  case g140 =>
    first | exact sx_par st_v st_o (up_s (up_s (up_s (up_s up_z)))) (up_s (up_s (up_s up_z))) (by decide) (by exact ⟨trivial, trivial⟩) (by rfl) (by rfl) (by rfl) (by rfl) (ex_calI at_z md_z D__law_tags (Nat.le_of_ble_eq_true (by rfl)) (by rfl) rtvI (by rfl) (by first | exact Or.inl rfl | exact Or.inr (Or.inl rfl) | exact Or.inr (Or.inr rfl)) (rax_one rex_int)) (ex_lc (own := [("turn", 10)]) (rix_r1 (by rfl) (by exact M_range) rex_int) (blkOk_by (by rfl)) (wc_keep (by decide) (wc_keep (by decide) (wc_keep (by decide) (wc_keep (by decide) (wc_keep (by decide) (wc_keep (by decide) (wc_keep (by decide) (wc_keep (by decide) (wc_keep (by decide) (wc_keep (by decide) (wc_any wc_nil))))))))))) (fun _ _ _ _ _ => (gx_name (up_s (up_s (up_s (up_s (up_s (up_s (up_s (up_s (up_s (up_s up_z)))))))))) (by rfl) (by first | exact Or.inl rfl | exact Or.inr rfl) (by show (10 : Nat) ∈ [10]; decide) (by first | exact Or.inl rfl | exact Or.inr rfl))) (fun _ _ _ _ _ => (ex_op ot_add rex_int (ex_calI at_z md_z D__law_toss (Nat.le_of_ble_eq_true (by rfl)) (by rfl) rtvI (by rfl) (by first | exact Or.inl rfl | exact Or.inr (Or.inl rfl) | exact Or.inr (Or.inr rfl)) (rax_one rex_int)))) (wc_keep (by decide) (wc_keep (by decide) (wc_keep (by decide) (wc_keep (by decide) (wc_keep (by decide) (wc_keep (by decide) (wc_keep (by decide) (wc_keep (by decide) (wc_keep (by decide) (wc_keep (by decide) (wc_val wc_nil)))))))))))) (by rfl) | exact sx_parC st_v st_o (up_s (up_s (up_s (up_s up_z)))) (up_s (up_s (up_s up_z))) (by decide) (by exact ⟨trivial, trivial⟩) (by rfl) (by rfl) (by first | exact Or.inl rfl | exact Or.inr rfl) (by first | exact Or.inl rfl | exact Or.inr rfl) (ex_calI at_z md_z D__law_tags (Nat.le_of_ble_eq_true (by rfl)) (by rfl) rtvI (by rfl) (by first | exact Or.inl rfl | exact Or.inr (Or.inl rfl) | exact Or.inr (Or.inr rfl)) (rax_one rex_int)) (ex_lc (own := [("turn", 10)]) (rix_r1 (by rfl) (by exact M_range) rex_int) (blkOk_by (by rfl)) (wc_keep (by decide) (wc_keep (by decide) (wc_keep (by decide) (wc_keep (by decide) (wc_keep (by decide) (wc_keep (by decide) (wc_keep (by decide) (wc_keep (by decide) (wc_keep (by decide) (wc_keep (by decide) (wc_any wc_nil))))))))))) (fun _ _ _ _ _ => (gx_name (up_s (up_s (up_s (up_s (up_s (up_s (up_s (up_s (up_s (up_s up_z)))))))))) (by rfl) (by first | exact Or.inl rfl | exact Or.inr rfl) (by show (10 : Nat) ∈ [10]; decide) (by first | exact Or.inl rfl | exact Or.inr rfl))) (fun _ _ _ _ _ => (ex_op ot_add rex_int (ex_calI at_z md_z D__law_toss (Nat.le_of_ble_eq_true (by rfl)) (by rfl) rtvI (by rfl) (by first | exact Or.inl rfl | exact Or.inr (Or.inl rfl) | exact Or.inr (Or.inr rfl)) (rax_one rex_int)))) (wc_keep (by decide) (wc_keep (by decide) (wc_keep (by decide) (wc_keep (by decide) (wc_keep (by decide) (wc_keep (by decide) (wc_keep (by decide) (wc_keep (by decide) (wc_keep (by decide) (wc_keep (by decide) (wc_val wc_nil)))))))))))) (by rfl) (by rfl) (by rfl)
  case g141 =>
    refine' bx_cons (G1 := [sOwn (fun v => v = v0) (oL cI), sVal (cL cS), sAny, sVal (cL cS), sOwn PAny (oL cI), sOwn PAny (oL cS), sOwn PAny (oL (cT (aCons cS (aOne cS)))), sOwn PAny (oL (cT (aCons cS (aOne cI)))), sVal cI, sAny, sAny]) ?g138 ?g139
    case g138 =>
      exact sx_asgOT (js := [5, 6, 7, 8]) (ex_tupO (axt_oc sh_l (rex_list (c := cS) rax_nilA) (axt_oc sh_l (rex_list (c := (cT (aCons cS (aOne cS)))) rax_nilA) (axt_oc sh_l (rex_list (c := (cT (aCons cS (aOne cI)))) rax_nilA) (axt_v1 (ex_calI at_z md_z D__law_toss (Nat.le_of_ble_eq_true (by rfl)) (by rfl) rtvI (by rfl) (by first | exact Or.inl rfl | exact Or.inr (Or.inl rfl) | exact Or.inr (Or.inr rfl)) (rax_one (rex_op ot_pow rex_int rex_int)))))))) (oa_oc uo_l (up_s (up_s (up_s (up_s (up_s up_z))))) (oa_oc uo_l (up_s (up_s (up_s (up_s (up_s (up_s up_z)))))) (oa_oc uo_l (up_s (up_s (up_s (up_s (up_s (up_s (up_s up_z))))))) (oa_v1 (up_s (up_s (up_s (up_s (up_s (up_s (up_s (up_s up_z)))))))))))) (fun _ _ => trivial) (nm_cons (by rfl) (by first | exact Or.inl rfl | exact Or.inr rfl) (by first | exact Or.inl rfl | exact Or.inr rfl) (nm_cons (by rfl) (by first | exact Or.inl rfl | exact Or.inr rfl) (by first | exact Or.inl rfl | exact Or.inr rfl) (nm_cons (by rfl) (by first | exact Or.inl rfl | exact Or.inr rfl) (by first | exact Or.inl rfl | exact Or.inr rfl) (nm_one (by rfl) (by first | exact Or.inl rfl | exact Or.inr rfl) (by first | exact Or.inl rfl | exact Or.inr rfl))))) (by rfl) (by rfl)
    case g139 =>
      refine' bx_cons (G1 := [sOwn (fun v => v = v0) (oL cI), sVal (cL cS), sAny, sVal (cL cS), sOwn PAny (oL cI), sOwn PAny (oL cS), sOwn PAny (oL (cT (aCons cS (aOne cS)))), sOwn PAny (oL (cT (aCons cS (aOne cI)))), sVal cI, sAny, sAny]) ?g136 ?g137
      case g136 =>
        refine' sx_for (G1 := [sOwn (fun v => v = v0) (oL cI), sVal (cL cS), sVal cS, sVal (cL cS), sOwn PAny (oL cI), sOwn PAny (oL cS), sOwn PAny (oL (cT (aCons cS (aOne cS)))), sOwn PAny (oL (cT (aCons cS (aOne cI)))), sVal cI, sAny, sAny]) (G2 := [sOwn (fun v => v = v0) (oL cI), sVal (cL cS), sVal cS, sVal (cL cS), sOwn PAny (oL cI), sOwn PAny (oL cS), sOwn PAny (oL (cT (aCons cS (aOne cS)))), sOwn PAny (oL (cT (aCons cS (aOne cI)))), sVal cI, sAny, sAny]) (rix_l (rex_frz frz_l (rex_cutL (rex_var (at_s at_z) (by rfl) (by first | exact Or.inl rfl | exact Or.inr (Or.inl rfl) | exact Or.inr (Or.inr rfl))) rox_none (rox_some rex_int)))) (gx_name (up_s (up_s up_z)) (by rfl) (by first | exact Or.inl rfl | exact Or.inr rfl) (by exact trivial) (by first | exact Or.inl rfl | exact Or.inr rfl)) ?g132 (sc_same (sc_same (sc_any sc_id)))
        case g132 =>
          refine' bx_cons (G1 := [sOwn (fun v => v = v0) (oL cI), sVal (cL cS), sVal cS, sVal (cL cS), sOwn PAny (oL cI), sOwn PAny (oL cS), sOwn PAny (oL (cT (aCons cS (aOne cS)))), sOwn PAny (oL (cT (aCons cS (aOne cI)))), sVal cI, sAny, sAny]) ?g130 ?g131
          case g130 =>
            refine' sx_if (G' := [sOwn (fun v => v = v0) (oL cI), sVal (cL cS), sVal cS, sVal (cL cS), sOwn PAny (oL cI), sOwn PAny (oL cS), sOwn PAny (oL (cT (aCons cS (aOne cS)))), sOwn PAny (oL (cT (aCons cS (aOne cI)))), sVal cI, sAny, sAny]) (tx_cmp ot_eq (ex_calI at_z md_z D__law_toss (Nat.le_of_ble_eq_true (by rfl)) (by rfl) rtvI (by rfl) (by first | exact Or.inl rfl | exact Or.inr (Or.inl rfl) | exact Or.inr (Or.inr rfl)) (rax_one (rex_lend (S := [4]) (T := []) (ln_hold (ho_l hd_i) (by decide) (by decide) (ln_val (ln_val (ln_val (ln_own frz_l (by decide) (ln_hold (ho_l hd_s) (by decide) (by decide) (ln_hold (ho_l (hd_t (ha_cons hd_s (ha_one hd_s)))) (by decide) (by decide) (ln_hold (ho_l (hd_t (ha_cons hd_s (ha_one hd_i)))) (by decide) (by decide) (ln_val (ln_any (ln_any ln_nil))))))))))) (rh_v hd_i) (rex_ixL (rex_var (at_s (at_s (at_s (at_s at_z)))) (by rfl) (by first | exact Or.inl rfl | exact Or.inr (Or.inl rfl) | exact Or.inr (Or.inr rfl))) rex_int (by intro _ _; rfl))))) rex_int (by rfl)) ?g119 ?g120
            case g119 =>
              refine' bx_one ?_
              exact sx_expr (ex_ownM mt_app PySem.F.slot_list_append (by rfl) (at_s (at_s (at_s (at_s (at_s at_z))))) (md_s (md_s (md_s (md_s (md_s md_z))))) (by rfl) (by first | exact Or.inl rfl | exact Or.inr (Or.inl rfl) | exact Or.inr (Or.inr rfl)) (rax_one (rex_var (at_s (at_s at_z)) (by rfl) (by first | exact Or.inl rfl | exact Or.inr (Or.inl rfl) | exact Or.inr (Or.inr rfl)))))
            case g120 =>
              exact bx_nil
          case g131 =>
            refine' bx_cons (G1 := [sOwn (fun v => v = v0) (oL cI), sVal (cL cS), sVal cS, sVal (cL cS), sOwn PAny (oL cI), sOwn PAny (oL cS), sOwn PAny (oL (cT (aCons cS (aOne cS)))), sOwn PAny (oL (cT (aCons cS (aOne cI)))), sVal cI, sAny, sAny]) ?g128 ?g129
            case g128 =>
              refine' sx_if (G' := [sOwn (fun v => v = v0) (oL cI), sVal (cL cS), sVal cS, sVal (cL cS), sOwn PAny (oL cI), sOwn PAny (oL cS), sOwn PAny (oL (cT (aCons cS (aOne cS)))), sOwn PAny (oL (cT (aCons cS (aOne cI)))), sVal cI, sAny, sAny]) (tx_cmp ot_eq (ex_calI at_z md_z D__law_toss (Nat.le_of_ble_eq_true (by rfl)) (by rfl) rtvI (by rfl) (by first | exact Or.inl rfl | exact Or.inr (Or.inl rfl) | exact Or.inr (Or.inr rfl)) (rax_one (rex_lend (S := [4]) (T := []) (ln_hold (ho_l hd_i) (by decide) (by decide) (ln_val (ln_val (ln_val (ln_own frz_l (by decide) (ln_hold (ho_l hd_s) (by decide) (by decide) (ln_hold (ho_l (hd_t (ha_cons hd_s (ha_one hd_s)))) (by decide) (by decide) (ln_hold (ho_l (hd_t (ha_cons hd_s (ha_one hd_i)))) (by decide) (by decide) (ln_val (ln_any (ln_any ln_nil))))))))))) (rh_v hd_i) (rex_ixL (rex_var (at_s (at_s (at_s (at_s at_z)))) (by rfl) (by first | exact Or.inl rfl | exact Or.inr (Or.inl rfl) | exact Or.inr (Or.inr rfl))) rex_int (by intro _ _; rfl))))) rex_int (by rfl)) ?g121 ?g122
              case g121 =>
                refine' bx_one ?_
                exact sx_expr (ex_ownM mt_app PySem.F.slot_list_append (by rfl) (at_s (at_s (at_s (at_s (at_s (at_s at_z)))))) (md_s (md_s (md_s (md_s (md_s (md_s md_z)))))) (by rfl) (by first | exact Or.inl rfl | exact Or.inr (Or.inl rfl) | exact Or.inr (Or.inr rfl)) (ax_one (ex_tup (ax_cons (rex_var (at_s (at_s at_z)) (by rfl) (by first | exact Or.inl rfl | exact Or.inr (Or.inl rfl) | exact Or.inr (Or.inr rfl))) (ax_one (ex_ixL (rex_var (at_s (at_s (at_s at_z))) (by rfl) (by first | exact Or.inl rfl | exact Or.inr (Or.inl rfl) | exact Or.inr (Or.inr rfl))) (ex_calI at_z md_z D__law_toss (Nat.le_of_ble_eq_true (by rfl)) (by rfl) rtvI (by rfl) (by first | exact Or.inl rfl | exact Or.inr (Or.inl rfl) | exact Or.inr (Or.inr rfl)) (ax_one (ex_ixL (rex_frz frz_l (rex_list (rax_consA rex_int (rax_consA rex_int (rax_consA rex_int rax_nilA))))) (ex_calI at_z md_z D__law_toss (Nat.le_of_ble_eq_true (by rfl)) (by rfl) rtvI (by rfl) (by first | exact Or.inl rfl | exact Or.inr (Or.inl rfl) | exact Or.inr (Or.inr rfl)) (rax_one rex_int)) (by intro _ _; rfl)))) (by intro _ _; rfl)))))))
              case g122 =>
                exact bx_nil
            case g129 =>
              refine' bx_one ?_
              refine' sx_if (G' := [sOwn (fun v => v = v0) (oL cI), sVal (cL cS), sVal cS, sVal (cL cS), sOwn PAny (oL cI), sOwn PAny (oL cS), sOwn PAny (oL (cT (aCons cS (aOne cS)))), sOwn PAny (oL (cT (aCons cS (aOne cI)))), sVal cI, sAny, sAny]) (tx_cmp ot_eq (ex_calI at_z md_z D__law_toss (Nat.le_of_ble_eq_true (by rfl)) (by rfl) rtvI (by rfl) (by first | exact Or.inl rfl | exact Or.inr (Or.inl rfl) | exact Or.inr (Or.inr rfl)) (rax_one (rex_lend (S := [4]) (T := []) (ln_hold (ho_l hd_i) (by decide) (by decide) (ln_val (ln_val (ln_val (ln_own frz_l (by decide) (ln_hold (ho_l hd_s) (by decide) (by decide) (ln_hold (ho_l (hd_t (ha_cons hd_s (ha_one hd_s)))) (by decide) (by decide) (ln_hold (ho_l (hd_t (ha_cons hd_s (ha_one hd_i)))) (by decide) (by decide) (ln_val (ln_any (ln_any ln_nil))))))))))) (rh_v hd_i) (rex_ixL (rex_var (at_s (at_s (at_s (at_s at_z)))) (by rfl) (by first | exact Or.inl rfl | exact Or.inr (Or.inl rfl) | exact Or.inr (Or.inr rfl))) rex_int (by intro _ _; rfl))))) rex_int (by rfl)) ?g125 ?g126
              case g125 =>
                refine' bx_post (G1 := [sOwn (fun v => v = v0) (oL cI), sVal (cL cS), sVal cS, sVal (cL cS), sOwn PAny (oL cI), sOwn PAny (oL cS), sOwn PAny (oL (cT (aCons cS (aOne cS)))), sOwn PAny (oL (cT (aCons cS (aOne cI)))), sVal cI, sOwn PAny (oL cI), sAny]) ?g127 (sc_same (sc_same (sc_same (sc_same (sc_same (sc_same (sc_same (sc_same (sc_same (sc_any sc_id))))))))))
                case g127 =>
                  refine' bx_cons (G1 := [sOwn (fun v => v = v0) (oL cI), sVal (cL cS), sVal cS, sVal (cL cS), sOwn PAny (oL cI), sOwn PAny (oL cS), sOwn PAny (oL (cT (aCons cS (aOne cS)))), sOwn PAny (oL (cT (aCons cS (aOne cI)))), sVal cI, sOwn PAny (oL cI), sAny]) ?g123 ?g124
                  case g123 =>
                    exact sx_setO (up_s (up_s (up_s (up_s (up_s (up_s (up_s (up_s (up_s up_z))))))))) (by rfl) (by first | exact Or.inl rfl | exact Or.inr rfl) (ex_list (ax_consA (ex_op ot_sub (ex_calI at_z md_z D__law_toss (Nat.le_of_ble_eq_true (by rfl)) (by rfl) rtvI (by rfl) (by first | exact Or.inl rfl | exact Or.inr (Or.inl rfl) | exact Or.inr (Or.inr rfl)) (rax_one rex_int)) rex_int) (ax_consA (ex_op ot_sub (ex_calI at_z md_z D__law_toss (Nat.le_of_ble_eq_true (by rfl)) (by rfl) rtvI (by rfl) (by first | exact Or.inl rfl | exact Or.inr (Or.inl rfl) | exact Or.inr (Or.inr rfl)) (rax_one rex_int)) rex_int) (rax_consA (rex_var (at_s (at_s (at_s (at_s (at_s (at_s (at_s (at_s at_z)))))))) (by rfl) (by first | exact Or.inl rfl | exact Or.inr (Or.inl rfl) | exact Or.inr (Or.inr rfl))) (rax_consA (rex_op ot_add (rex_var (at_s (at_s (at_s (at_s (at_s (at_s (at_s (at_s at_z)))))))) (by rfl) (by first | exact Or.inl rfl | exact Or.inr (Or.inl rfl) | exact Or.inr (Or.inr rfl))) rex_int) (rax_consA (rex_neg (rex_var (at_s (at_s (at_s (at_s (at_s (at_s (at_s (at_s at_z)))))))) (by rfl) (by first | exact Or.inl rfl | exact Or.inr (Or.inl rfl) | exact Or.inr (Or.inr rfl)))) (rax_consA (rex_op ot_div (rex_var (at_s (at_s (at_s (at_s (at_s (at_s (at_s (at_s at_z)))))))) (by rfl) (by first | exact Or.inl rfl | exact Or.inr (Or.inl rfl) | exact Or.inr (Or.inr rfl))) rex_int) rax_nilA))))))) (by exact trivial) (by rfl) (by first | exact Or.inl rfl | exact Or.inr rfl)
                  case g124 =>
                    refine' bx_one ?_
                    exact sx_expr (ex_ownM mt_app PySem.F.slot_list_append (by rfl) (at_s (at_s (at_s (at_s (at_s (at_s (at_s at_z))))))) (md_s (md_s (md_s (md_s (md_s (md_s (md_s md_z))))))) (by rfl) (by first | exact Or.inl rfl | exact Or.inr (Or.inl rfl) | exact Or.inr (Or.inr rfl)) (ax_one (ex_tup (ax_cons (rex_var (at_s (at_s at_z)) (by rfl) (by first | exact Or.inl rfl | exact Or.inr (Or.inl rfl) | exact Or.inr (Or.inr rfl))) (ax_one (ex_lend (S := [9]) (T := []) (ln_hold (ho_l hd_i) (by decide) (by decide) (ln_val (ln_val (ln_val (ln_hold (ho_l hd_i) (by decide) (by decide) (ln_hold (ho_l hd_s) (by decide) (by decide) (ln_hold (ho_l (hd_t (ha_cons hd_s (ha_one hd_s)))) (by decide) (by decide) (ln_hold (ho_l (hd_t (ha_cons hd_s (ha_one hd_i)))) (by decide) (by decide) (ln_val (ln_own frz_l (by decide) (ln_any ln_nil))))))))))) (rh_v hd_i) (ex_ixL (rex_var (at_s (at_s (at_s (at_s (at_s (at_s (at_s (at_s (at_s at_z))))))))) (by rfl) (by first | exact Or.inl rfl | exact Or.inr (Or.inl rfl) | exact Or.inr (Or.inr rfl))) (ex_calI at_z md_z D__law_toss (Nat.le_of_ble_eq_true (by rfl)) (by rfl) rtvI (by rfl) (by first | exact Or.inl rfl | exact Or.inr (Or.inl rfl) | exact Or.inr (Or.inr rfl)) (rax_one rex_int)) (by intro _ _; rfl))))))))
              case g126 =>
                exact bx_nil
      case g137 =>
        refine' bx_sub (G1 := [sOwn (fun v => v = v0) (oL cI), sVal (cL cS), sAny, sVal (cL cS), sOwn PAny (oL cI), sVal (cL cS), sOwn PAny (oL (cT (aCons cS (aOne cS)))), sOwn PAny (oL (cT (aCons cS (aOne cI)))), sVal cI, sAny, sAny]) (sc_same (sc_same (sc_same (sc_same (sc_same (sc_frz frz_l sc_id)))))) ?g133
        case g133 =>
          refine' bx_sub (G1 := [sOwn (fun v => v = v0) (oL cI), sVal (cL cS), sAny, sVal (cL cS), sOwn PAny (oL cI), sVal (cL cS), sVal (cL (cT (aCons cS (aOne cS)))), sOwn PAny (oL (cT (aCons cS (aOne cI)))), sVal cI, sAny, sAny]) (sc_same (sc_same (sc_same (sc_same (sc_same (sc_same (sc_frz frz_l sc_id))))))) ?g134
          case g134 =>
            refine' bx_sub (G1 := [sOwn (fun v => v = v0) (oL cI), sVal (cL cS), sAny, sVal (cL cS), sOwn PAny (oL cI), sVal (cL cS), sVal (cL (cT (aCons cS (aOne cS)))), sVal (cL (cT (aCons cS (aOne cI)))), sVal cI, sAny, sAny]) (sc_same (sc_same (sc_same (sc_same (sc_same (sc_same (sc_same (sc_frz frz_l sc_id)))))))) ?g135
            case g135 =>
              refine' bx_one ?_
              exact sx_retI at_z (rex_tup (rax_cons (rex_var (at_s (at_s (at_s (at_s (at_s at_z))))) (by rfl) (by first | exact Or.inl rfl | exact Or.inr (Or.inl rfl) | exact Or.inr (Or.inr rfl))) (rax_cons (rex_var (at_s (at_s (at_s (at_s (at_s (at_s at_z)))))) (by rfl) (by first | exact Or.inl rfl | exact Or.inr (Or.inl rfl) | exact Or.inr (Or.inr rfl))) (rax_one (rex_var (at_s (at_s (at_s (at_s (at_s (at_s (at_s at_z))))))) (by rfl) (by first | exact Or.inl rfl | exact Or.inr (Or.inl rfl) | exact Or.inr (Or.inr rfl)))))))⟩
def F__law_wide_rule (k : (List Int)) (y : (List Str)) : Res (((List Str) × (List (Str × Str)) × (List (Str × Int))) × (List Int)) := Res.bind ((fb__law_wide_rule ).1 .non (k, (y, ((), ((), ((), ((), ((), ((), ((), ((), ((), ())))))))))))) endV

theorem okF__law_wide_rule {P : Program} {w : World} {K : Frag} {mg : Str → Option Value} {base : Heap} {ca : Str → Addr} {fa : Addr} {dvs : List V} {kws : List (Str × V)} {fd : FuncData} (F0 : FunD K "_law_wide_rule" "_law_wide_rule" (defArgs s__law_wide_rule) (defBody s__law_wide_rule) (defScope s__law_wide_rule) dvs kws fa fd) (D__law_tags : DefG P w K mg base 2 "_law_tags" ["kit", "many"] (spI K ca (oL cI) (aOne cI) (rV (cL cS)) F__law_tags)) (M_range : mg "range" = none) (D__law_toss : DefG P w K mg base 1 "_law_toss" ["kit", "many"] (spI K ca (oL cI) (aOne cI) (rV cI) F__law_toss)) : FnG P w K mg base 3 fa fd ["kit", "names_here"] (spI K ca (oL cI) (aOne (cL cS)) (rV (cT (aCons (cL cS) (aCons (cL (cT (aCons cS (aOne cS)))) (aOne (cL (cT (aCons cS (aOne cI))))))))) F__law_wide_rule) :=
  fn_I (as := (aOne (cL cS))) (G1 := [sVal (cL cS), sAny, sAny, sAny, sAny, sAny, sAny, sAny, sAny, sAny]) (G' := fun v0 => [sOwn (fun v => v = v0) (oL cI), sVal (cL cS), sAny, sAny, sAny, sAny, sAny, sAny, sAny, sAny, sAny]) (κ := (List Int)) (β := ((List Str) × (List (Str × Str)) × (List (Str × Int)))) (oc := (oL cI)) (r := (rV (cT (aCons (cL cS) (aCons (cL (cT (aCons cS (aOne cS)))) (aOne (cL (cT (aCons cS (aOne cI)))))))))) (ini := (fun y => (y, ((), ((), ((), ((), ((), ((), ((), ((), ((), ())))))))))))) (fb := (fb__law_wide_rule ).1) F0 sc__law_wide_rule (by rfl) (fun L H v0 ws y wf h => by obtain ⟨v1, rfl, h1⟩ := h; exact ⟨⟨v1, rfl, h1⟩, trivial, trivial, trivial, trivial, trivial, trivial, trivial, trivial, trivial, Nat.le_of_ble_eq_true (by rfl)⟩) (fun v0 nd cd A outer s H E hr hgd => (fb__law_wide_rule ).2 D__law_tags M_range D__law_toss fa v0 nd cd A outer s H E hr hgd) (fun v0 k y => rfl)
theorem ok__law_wide_rule {P : Program} {w : World} {K : Frag} {mg : Str → Option Value} {base : Heap} {ca : Str → Addr} {fa : Addr} {fd : FuncData} (F0 : FunD K "_law_wide_rule" "_law_wide_rule" (defArgs s__law_wide_rule) (defBody s__law_wide_rule) (defScope s__law_wide_rule) [] [] fa fd) (D__law_tags : DefG P w K mg base 2 "_law_tags" ["kit", "many"] (spI K ca (oL cI) (aOne cI) (rV (cL cS)) F__law_tags)) (M_range : mg "range" = none) (D__law_toss : DefG P w K mg base 1 "_law_toss" ["kit", "many"] (spI K ca (oL cI) (aOne cI) (rV cI) F__law_toss)) (hm : mg "_law_wide_rule" = some (.ref fa)) : DefG P w K mg base 3 "_law_wide_rule" ["kit", "names_here"] (spI K ca (oL cI) (aOne (cL cS)) (rV (cT (aCons (cL cS) (aCons (cL (cT (aCons cS (aOne cS)))) (aOne (cL (cT (aCons cS (aOne cI))))))))) F__law_wide_rule) :=
  ⟨fa, fd, okF__law_wide_rule  F0 D__law_tags M_range D__law_toss, hm, F0.kp, (F0.bindsN (ps := ["kit", "names_here"]) fun _ _ _ _ _ _ us hl => match us, hl with | [_, _], _ => rfl), (kw_binds (ps := ["kit", "names_here"]) F0 fun _ _ _ _ _ _ us hl => match us, hl with | [_, _], _ => rfl)⟩

/-! _law_made_rule -/
abbrev s__law_made_rule : Stmt := top 17
abbrev N__law_made_rule : List Str := ["plan"]
theorem sc__law_made_rule : FnScope N__law_made_rule ["plan"] (defScope s__law_made_rule) := ⟨rfl, rfl, rfl, by decide +kernel, rfl, by decide +kernel, by decide +kernel⟩
def fb__law_made_rule (A_Rule : Addr) : {fb : CT [sVal (cT (aCons (cL cS) (aCons (cL (cT (aCons cS (aOne cS)))) (aOne (cL (cT (aCons cS (aOne cI))))))))] → Res (Out (CT [sVal (cT (aCons (cL cS) (aCons (cL (cT (aCons cS (aOne cS)))) (aOne (cL (cT (aCons cS (aOne cI))))))))]) (((Unit × (List Str)) × (List (Str × Str))) × (List (Str × Int)))) // ∀ {P : Program} {w : World} {K : Frag} {mg : Str → Option Value} {base : Heap} {ca : Str → Addr} (M_list : mg "list" = none) (M_dict : mg "dict" = none) (KP_Rule_p0p1p2p3 : MakP P w K mg base 3 "Rule" A_Rule 4 [] (fun vs zs => selL [.p 0, .p 1, .p 2, .p 3] vs [.ref (He.dflAt ("Rule", some "__init__") 0 K), .non, .non] zs) (spN K ca A_Rule (aCons (cL cS) (aCons (cO (cD kS cS)) (aOne (cO (cD kS cI))))) (fSnoc (fSnoc (fSnoc fNil "kept_early" (cTV cS)) "kept_keyed" (cTV (cT (aCons cS (aOne cS))))) "kept_ranks" (cTV (cT (aCons cS (aOne cI))))) F_Rule_init)) (f : Addr) (nd : N__law_made_rule.Nodup) cd A outer s H E hr hgd, BX (ambOf P w K mg base ca N__law_made_rule nd 4 "_law_made_rule" (defScope s__law_made_rule) f cd A outer s H E hr hgd) [sVal (cT (aCons (cL cS) (aCons (cL (cT (aCons cS (aOne cS)))) (aOne (cL (cT (aCons cS (aOne cI))))))))] (defBody s__law_made_rule) [sVal (cT (aCons (cL cS) (aCons (cL (cT (aCons cS (aOne cS)))) (aOne (cL (cT (aCons cS (aOne cI))))))))] (rrP (rV (cIns A_Rule (fSnoc (fSnoc (fSnoc fNil "kept_early" (cTV cS)) "kept_keyed" (cTV (cT (aCons cS (aOne cS))))) "kept_ranks" (cTV (cT (aCons cS (aOne cI)))))))) fb} := ⟨_, by
  intro P w K mg base ca M_list M_dict KP_Rule_p0p1p2p3 f nd cd A outer s H E hr hgd
  refine' bx_one ?_
  exact sx_ret (rex_makK (fun x y => (x.1, (x.2.1, x.2.2))) KP_Rule_p0p1p2p3 (Nat.le_of_ble_eq_true (by rfl)) (by rfl) (rca_pos (rax_cons (rex_frz frz_l (rex_callTy ct_listL (by rfl) (by exact M_list) (by decide +kernel) (rax_one (rex_pj pj_z (by rfl) (rex_var at_z (by rfl) (by first | exact Or.inl rfl | exact Or.inr (Or.inl rfl) | exact Or.inr (Or.inr rfl))))))) (rax_cons (rex_sub sub_some (rex_frz frz_d (rex_callTy (ct_dictL (kc := kS)) (by rfl) (by exact M_dict) (by decide +kernel) (rax_one (rex_frz frz_l (rex_callTy ct_listL (by rfl) (by exact M_list) (by decide +kernel) (rax_one (rex_pj (pj_s pj_z) (by rfl) (rex_var at_z (by rfl) (by first | exact Or.inl rfl | exact Or.inr (Or.inl rfl) | exact Or.inr (Or.inr rfl))))))))))) (rax_one (rex_sub sub_some (rex_frz frz_d (rex_callTy (ct_dictL (kc := kS)) (by rfl) (by exact M_dict) (by decide +kernel) (rax_one (rex_frz frz_l (rex_callTy ct_listL (by rfl) (by exact M_list) (by decide +kernel) (rax_one (rex_pj (pj_s (pj_s pj_one)) (by rfl) (rex_var at_z (by rfl) (by first | exact Or.inl rfl | exact Or.inr (Or.inl rfl) | exact Or.inr (Or.inr rfl))))))))))))))) (by rfl) (by rfl) (by intro R vs zs x y h1 h2; obtain ⟨wa0, _, rfl, a0, wa1, _, rfl, a1, wa2, rfl, a2⟩ := h1; have h2 : _ = [] := h2; subst h2; exact ⟨_, fun _ => rfl, _, _, rfl, a0, _, _, rfl, a1, _, rfl, a2⟩))⟩
def F__law_made_rule (y : ((List Str) × (List (Str × Str)) × (List (Str × Int)))) : Res (((Unit × (List Str)) × (List (Str × Str))) × (List (Str × Int))) := Res.bind ((fb__law_made_rule 0 ).1 (y, ())) endV

theorem okF__law_made_rule {P : Program} {w : World} {K : Frag} {mg : Str → Option Value} {base : Heap} {ca : Str → Addr} {fa : Addr} {dvs : List V} {kws : List (Str × V)} {fd : FuncData} {A_Rule : Addr} (F0 : FunD K "_law_made_rule" "_law_made_rule" (defArgs s__law_made_rule) (defBody s__law_made_rule) (defScope s__law_made_rule) dvs kws fa fd) (M_list : mg "list" = none) (M_dict : mg "dict" = none) (KP_Rule_p0p1p2p3 : MakP P w K mg base 3 "Rule" A_Rule 4 [] (fun vs zs => selL [.p 0, .p 1, .p 2, .p 3] vs [.ref (He.dflAt ("Rule", some "__init__") 0 K), .non, .non] zs) (spN K ca A_Rule (aCons (cL cS) (aCons (cO (cD kS cS)) (aOne (cO (cD kS cI))))) (fSnoc (fSnoc (fSnoc fNil "kept_early" (cTV cS)) "kept_keyed" (cTV (cT (aCons cS (aOne cS))))) "kept_ranks" (cTV (cT (aCons cS (aOne cI))))) F_Rule_init)) : FnG P w K mg base 5 fa fd ["plan"] (spP K ca (aOne (cT (aCons (cL cS) (aCons (cL (cT (aCons cS (aOne cS)))) (aOne (cL (cT (aCons cS (aOne cI))))))))) (rV (cIns A_Rule (fSnoc (fSnoc (fSnoc fNil "kept_early" (cTV cS)) "kept_keyed" (cTV (cT (aCons cS (aOne cS))))) "kept_ranks" (cTV (cT (aCons cS (aOne cI))))))) F__law_made_rule) :=
  fn_P (as := (aOne (cT (aCons (cL cS) (aCons (cL (cT (aCons cS (aOne cS)))) (aOne (cL (cT (aCons cS (aOne cI)))))))))) (G0 := [sVal (cT (aCons (cL cS) (aCons (cL (cT (aCons cS (aOne cS)))) (aOne (cL (cT (aCons cS (aOne cI))))))))]) (ini := (fun y => (y, ()))) (fb := (fb__law_made_rule A_Rule ).1) F0 sc__law_made_rule (by rfl) (fun L H vs y wf h => by obtain ⟨v1, rfl, h1⟩ := h; exact ⟨⟨v1, rfl, h1⟩, Nat.le_of_ble_eq_true (by rfl)⟩) (fun nd cd A outer s H E hr hgd => (fb__law_made_rule A_Rule ).2 M_list M_dict KP_Rule_p0p1p2p3 fa nd cd A outer s H E hr hgd) (fun y => rfl)
theorem ok__law_made_rule {P : Program} {w : World} {K : Frag} {mg : Str → Option Value} {base : Heap} {ca : Str → Addr} {fa : Addr} {fd : FuncData} {A_Rule : Addr} (F0 : FunD K "_law_made_rule" "_law_made_rule" (defArgs s__law_made_rule) (defBody s__law_made_rule) (defScope s__law_made_rule) [] [] fa fd) (M_list : mg "list" = none) (M_dict : mg "dict" = none) (KP_Rule_p0p1p2p3 : MakP P w K mg base 3 "Rule" A_Rule 4 [] (fun vs zs => selL [.p 0, .p 1, .p 2, .p 3] vs [.ref (He.dflAt ("Rule", some "__init__") 0 K), .non, .non] zs) (spN K ca A_Rule (aCons (cL cS) (aCons (cO (cD kS cS)) (aOne (cO (cD kS cI))))) (fSnoc (fSnoc (fSnoc fNil "kept_early" (cTV cS)) "kept_keyed" (cTV (cT (aCons cS (aOne cS))))) "kept_ranks" (cTV (cT (aCons cS (aOne cI))))) F_Rule_init)) (hm : mg "_law_made_rule" = some (.ref fa)) : DefG P w K mg base 5 "_law_made_rule" ["plan"] (spP K ca (aOne (cT (aCons (cL cS) (aCons (cL (cT (aCons cS (aOne cS)))) (aOne (cL (cT (aCons cS (aOne cI))))))))) (rV (cIns A_Rule (fSnoc (fSnoc (fSnoc fNil "kept_early" (cTV cS)) "kept_keyed" (cTV (cT (aCons cS (aOne cS))))) "kept_ranks" (cTV (cT (aCons cS (aOne cI))))))) F__law_made_rule) :=
  ⟨fa, fd, okF__law_made_rule (A_Rule := A_Rule) F0 M_list M_dict KP_Rule_p0p1p2p3, hm, F0.kp, (F0.bindsN (ps := ["plan"]) fun _ _ _ _ _ _ us hl => match us, hl with | [_], _ => rfl), (kw_binds (ps := ["plan"]) F0 fun _ _ _ _ _ _ us hl => match us, hl with | [_], _ => rfl)⟩

/-! _law_less -/
abbrev s__law_less : Stmt := top 19
abbrev N__law_less : List Str := ["plan", "label", "early_here", "other", "duo"]
theorem sc__law_less : FnScope N__law_less ["plan", "label"] (defScope s__law_less) := ⟨rfl, rfl, rfl, by decide +kernel, rfl, by decide +kernel, by decide +kernel⟩
def fb__law_less : {fb : CT [sVal (cT (aCons (cL cS) (aCons (cL (cT (aCons cS (aOne cS)))) (aOne (cL (cT (aCons cS (aOne cI)))))))), sVal cS, sAny, sAny, sAny] → Res (Out (CT [sVal (cT (aCons (cL cS) (aCons (cL (cT (aCons cS (aOne cS)))) (aOne (cL (cT (aCons cS (aOne cI)))))))), sVal cS, sAny, sAny, sAny]) ((List Str) × (List (Str × Str)) × (List (Str × Int)))) // ∀ {P : Program} {w : World} {K : Frag} {mg : Str → Option Value} {base : Heap} {ca : Str → Addr}  (f : Addr) (nd : N__law_less.Nodup) cd A outer s H E hr hgd, BX (ambOf P w K mg base ca N__law_less nd 0 "_law_less" (defScope s__law_less) f cd A outer s H E hr hgd) [sVal (cT (aCons (cL cS) (aCons (cL (cT (aCons cS (aOne cS)))) (aOne (cL (cT (aCons cS (aOne cI)))))))), sVal cS, sAny, sAny, sAny] (defBody s__law_less) [sVal (cT (aCons (cL cS) (aCons (cL (cT (aCons cS (aOne cS)))) (aOne (cL (cT (aCons cS (aOne cI)))))))), sVal cS, sAny, sAny, sAny] (rrP (rV (cT (aCons (cL cS) (aCons (cL (cT (aCons cS (aOne cS)))) (aOne (cL (cT (aCons cS (aOne cI)))))))))) fb} := ⟨_, by
  intro P w K mg base ca  f nd cd A outer s H E hr hgd
  refine' bx_cons (G1 := [sVal (cT (aCons (cL cS) (aCons (cL (cT (aCons cS (aOne cS)))) (aOne (cL (cT (aCons cS (aOne cI)))))))), sVal cS, sOwn PAny (oL cS), sAny, sAny]) ?g143 ?g144
  case g143 =>
    first | exact rsx_setLcIf (own := [("other", 3)]) (up_s (up_s up_z)) (by rfl) (by rfl) (by exact trivial) (rix_l (rex_pj pj_z (by rfl) (rex_var at_z (by rfl) (by first | exact Or.inl rfl | exact Or.inr (Or.inl rfl) | exact Or.inr (Or.inr rfl))))) (blkOk_by (by rfl)) (wc_keep (by decide) (wc_keep (by decide) (wc_keep (by decide) (wc_any (wc_keep (by decide) wc_nil))))) (fun _ _ _ _ _ => (gx_name (up_s (up_s (up_s up_z))) (by rfl) (by first | exact Or.inl rfl | exact Or.inr rfl) (by show (3 : Nat) ∈ [3]; decide) (by first | exact Or.inl rfl | exact Or.inr rfl))) (fun _ _ _ _ _ => (rtx_cmp ot_neS (rex_var (at_s (at_s (at_s at_z))) (by rfl) (by first | exact Or.inl rfl | exact Or.inr (Or.inl rfl) | exact Or.inr (Or.inr rfl))) (rex_var (at_s at_z) (by rfl) (by first | exact Or.inl rfl | exact Or.inr (Or.inl rfl) | exact Or.inr (Or.inr rfl))) (by rfl))) (fun _ _ _ _ _ => (rex_var (at_s (at_s (at_s at_z))) (by rfl) (by first | exact Or.inl rfl | exact Or.inr (Or.inl rfl) | exact Or.inr (Or.inr rfl)))) (wc_keep (by decide) (wc_keep (by decide) (wc_keep (by decide) (wc_val (wc_keep (by decide) wc_nil))))) (by rfl) | exact sx_setO (up_s (up_s up_z)) (by rfl) (by first | exact Or.inl rfl | exact Or.inr rfl) (rex_lcIf (own := [("other", 3)]) (rix_l (rex_pj pj_z (by rfl) (rex_var at_z (by rfl) (by first | exact Or.inl rfl | exact Or.inr (Or.inl rfl) | exact Or.inr (Or.inr rfl))))) (blkOk_by (by rfl)) (wc_keep (by decide) (wc_keep (by decide) (wc_keep (by decide) (wc_any (wc_keep (by decide) wc_nil))))) (fun _ _ _ _ _ => (gx_name (up_s (up_s (up_s up_z))) (by rfl) (by first | exact Or.inl rfl | exact Or.inr rfl) (by show (3 : Nat) ∈ [3]; decide) (by first | exact Or.inl rfl | exact Or.inr rfl))) (fun _ _ _ _ _ => (rtx_cmp ot_neS (rex_var (at_s (at_s (at_s at_z))) (by rfl) (by first | exact Or.inl rfl | exact Or.inr (Or.inl rfl) | exact Or.inr (Or.inr rfl))) (rex_var (at_s at_z) (by rfl) (by first | exact Or.inl rfl | exact Or.inr (Or.inl rfl) | exact Or.inr (Or.inr rfl))) (by rfl))) (fun _ _ _ _ _ => (rex_var (at_s (at_s (at_s at_z))) (by rfl) (by first | exact Or.inl rfl | exact Or.inr (Or.inl rfl) | exact Or.inr (Or.inr rfl)))) (wc_keep (by decide) (wc_keep (by decide) (wc_keep (by decide) (wc_val (wc_keep (by decide) wc_nil)))))) (by exact trivial) (by rfl) (by first | exact Or.inl rfl | exact Or.inr rfl)
  case g144 =>
    refine' bx_sub (G1 := [sVal (cT (aCons (cL cS) (aCons (cL (cT (aCons cS (aOne cS)))) (aOne (cL (cT (aCons cS (aOne cI)))))))), sVal cS, sVal (cL cS), sAny, sAny]) (sc_same (sc_same (sc_frz frz_l sc_id))) ?g142
    case g142 =>
      refine' bx_one ?_
      exact sx_ret (rex_tup (rax_cons (rex_var (at_s (at_s at_z)) (by rfl) (by first | exact Or.inl rfl | exact Or.inr (Or.inl rfl) | exact Or.inr (Or.inr rfl))) (rax_cons (rex_frz frz_l (rex_lcIf (own := [("duo", 4)]) (rix_l (rex_pj (pj_s pj_z) (by rfl) (rex_var at_z (by rfl) (by first | exact Or.inl rfl | exact Or.inr (Or.inl rfl) | exact Or.inr (Or.inr rfl))))) (blkOk_by (by rfl)) (wc_keep (by decide) (wc_keep (by decide) (wc_keep (by decide) (wc_keep (by decide) (wc_any wc_nil))))) (fun _ _ _ _ _ => (gx_name (up_s (up_s (up_s (up_s up_z)))) (by rfl) (by first | exact Or.inl rfl | exact Or.inr rfl) (by show (4 : Nat) ∈ [4]; decide) (by first | exact Or.inl rfl | exact Or.inr rfl))) (fun _ _ _ _ _ => (rtx_cmp ot_neS (rex_pj pj_z (by rfl) (rex_var (at_s (at_s (at_s (at_s at_z)))) (by rfl) (by first | exact Or.inl rfl | exact Or.inr (Or.inl rfl) | exact Or.inr (Or.inr rfl)))) (rex_var (at_s at_z) (by rfl) (by first | exact Or.inl rfl | exact Or.inr (Or.inl rfl) | exact Or.inr (Or.inr rfl))) (by rfl))) (fun _ _ _ _ _ => (rex_var (at_s (at_s (at_s (at_s at_z)))) (by rfl) (by first | exact Or.inl rfl | exact Or.inr (Or.inl rfl) | exact Or.inr (Or.inr rfl)))) (wc_keep (by decide) (wc_keep (by decide) (wc_keep (by decide) (wc_keep (by decide) (wc_val wc_nil))))))) (rax_one (rex_frz frz_l (rex_lcIf (own := [("duo", 4)]) (rix_l (rex_pj (pj_s (pj_s pj_one)) (by rfl) (rex_var at_z (by rfl) (by first | exact Or.inl rfl | exact Or.inr (Or.inl rfl) | exact Or.inr (Or.inr rfl))))) (blkOk_by (by rfl)) (wc_keep (by decide) (wc_keep (by decide) (wc_keep (by decide) (wc_keep (by decide) (wc_any wc_nil))))) (fun _ _ _ _ _ => (gx_name (up_s (up_s (up_s (up_s up_z)))) (by rfl) (by first | exact Or.inl rfl | exact Or.inr rfl) (by show (4 : Nat) ∈ [4]; decide) (by first | exact Or.inl rfl | exact Or.inr rfl))) (fun _ _ _ _ _ => (rtx_cmp ot_neS (rex_pj pj_z (by rfl) (rex_var (at_s (at_s (at_s (at_s at_z)))) (by rfl) (by first | exact Or.inl rfl | exact Or.inr (Or.inl rfl) | exact Or.inr (Or.inr rfl)))) (rex_var (at_s at_z) (by rfl) (by first | exact Or.inl rfl | exact Or.inr (Or.inl rfl) | exact Or.inr (Or.inr rfl))) (by rfl))) (fun _ _ _ _ _ => (rex_var (at_s (at_s (at_s (at_s at_z)))) (by rfl) (by first | exact Or.inl rfl | exact Or.inr (Or.inl rfl) | exact Or.inr (Or.inr rfl)))) (wc_keep (by decide) (wc_keep (by decide) (wc_keep (by decide) (wc_keep (by decide) (wc_val wc_nil)))))))))))⟩
def F__law_less (y : ((List Str) × (List (Str × Str)) × (List (Str × Int))) × Str) : Res ((List Str) × (List (Str × Str)) × (List (Str × Int))) := Res.bind ((fb__law_less ).1 (y.1, (y.2, ((), ((), ((), ())))))) endV

theorem okF__law_less {P : Program} {w : World} {K : Frag} {mg : Str → Option Value} {base : Heap} {ca : Str → Addr} {fa : Addr} {dvs : List V} {kws : List (Str × V)} {fd : FuncData} (F0 : FunD K "_law_less" "_law_less" (defArgs s__law_less) (defBody s__law_less) (defScope s__law_less) dvs kws fa fd)  : FnG P w K mg base 1 fa fd ["plan", "label"] (spP K ca (aCons (cT (aCons (cL cS) (aCons (cL (cT (aCons cS (aOne cS)))) (aOne (cL (cT (aCons cS (aOne cI)))))))) (aOne cS)) (rV (cT (aCons (cL cS) (aCons (cL (cT (aCons cS (aOne cS)))) (aOne (cL (cT (aCons cS (aOne cI))))))))) F__law_less) :=
  fn_P (as := (aCons (cT (aCons (cL cS) (aCons (cL (cT (aCons cS (aOne cS)))) (aOne (cL (cT (aCons cS (aOne cI)))))))) (aOne cS))) (G0 := [sVal (cT (aCons (cL cS) (aCons (cL (cT (aCons cS (aOne cS)))) (aOne (cL (cT (aCons cS (aOne cI)))))))), sVal cS, sAny, sAny, sAny]) (ini := (fun y => (y.1, (y.2, ((), ((), ((), ()))))))) (fb := (fb__law_less ).1) F0 sc__law_less (by rfl) (fun L H vs y wf h => by obtain ⟨v1, _, rfl, h1, v2, rfl, h2⟩ := h; exact ⟨⟨v1, rfl, h1⟩, ⟨v2, rfl, h2⟩, trivial, trivial, trivial, Nat.le_of_ble_eq_true (by rfl)⟩) (fun nd cd A outer s H E hr hgd => (fb__law_less ).2  fa nd cd A outer s H E hr hgd) (fun y => rfl)
theorem ok__law_less {P : Program} {w : World} {K : Frag} {mg : Str → Option Value} {base : Heap} {ca : Str → Addr} {fa : Addr} {fd : FuncData} (F0 : FunD K "_law_less" "_law_less" (defArgs s__law_less) (defBody s__law_less) (defScope s__law_less) [] [] fa fd)  (hm : mg "_law_less" = some (.ref fa)) : DefG P w K mg base 1 "_law_less" ["plan", "label"] (spP K ca (aCons (cT (aCons (cL cS) (aCons (cL (cT (aCons cS (aOne cS)))) (aOne (cL (cT (aCons cS (aOne cI)))))))) (aOne cS)) (rV (cT (aCons (cL cS) (aCons (cL (cT (aCons cS (aOne cS)))) (aOne (cL (cT (aCons cS (aOne cI))))))))) F__law_less) :=
  ⟨fa, fd, okF__law_less  F0 , hm, F0.kp, (F0.bindsN (ps := ["plan", "label"]) fun _ _ _ _ _ _ us hl => match us, hl with | [_, _], _ => rfl), (kw_binds (ps := ["plan", "label"]) F0 fun _ _ _ _ _ _ us hl => match us, hl with | [_, _], _ => rfl)⟩

/-! _law_told -/
abbrev s__law_told : Stmt := top 20
abbrev N__law_told : List Str := ["made"]
theorem sc__law_told : FnScope N__law_told ["made"] (defScope s__law_told) := ⟨rfl, rfl, rfl, by decide +kernel, rfl, by decide +kernel, by decide +kernel⟩
def fb__law_told (A_Rule : Addr) : {fb : CT [sVal (cIns A_Rule (fSnoc (fSnoc (fSnoc fNil "kept_early" (cTV cS)) "kept_keyed" (cTV (cT (aCons cS (aOne cS))))) "kept_ranks" (cTV (cT (aCons cS (aOne cI))))))] → Res (Out (CT [sVal (cIns A_Rule (fSnoc (fSnoc (fSnoc fNil "kept_early" (cTV cS)) "kept_keyed" (cTV (cT (aCons cS (aOne cS))))) "kept_ranks" (cTV (cT (aCons cS (aOne cI))))))]) Str) // ∀ {P : Program} {w : World} {K : Frag} {mg : Str → Option Value} {base : Heap} {ca : Str → Addr} (C_Rule : ClsG K mg "Rule" A_Rule) (PRO_Rule_early : ProG P w K mg base 1 A_Rule "early" ["self"] (spP K ca (aOne (cIns A_Rule (fSnoc (fSnoc (fSnoc fNil "kept_early" (cTV cS)) "kept_keyed" (cTV (cT (aCons cS (aOne cS))))) "kept_ranks" (cTV (cT (aCons cS (aOne cI))))))) (rO (oL cS)) F_Rule_early)) (PRO_Rule_keyed : ProG P w K mg base 1 A_Rule "keyed" ["self"] (spP K ca (aOne (cIns A_Rule (fSnoc (fSnoc (fSnoc fNil "kept_early" (cTV cS)) "kept_keyed" (cTV (cT (aCons cS (aOne cS))))) "kept_ranks" (cTV (cT (aCons cS (aOne cI))))))) (rO (oL (cT (aCons cS (aOne cS))))) F_Rule_keyed)) (PRO_Rule_ranks : ProG P w K mg base 1 A_Rule "ranks" ["self"] (spP K ca (aOne (cIns A_Rule (fSnoc (fSnoc (fSnoc fNil "kept_early" (cTV cS)) "kept_keyed" (cTV (cT (aCons cS (aOne cS))))) "kept_ranks" (cTV (cT (aCons cS (aOne cI))))))) (rO (oL (cT (aCons cS (aOne cI))))) F_Rule_ranks)) (M_repr : mg "repr" = none) (f : Addr) (nd : N__law_told.Nodup) cd A outer s H E hr hgd, BX (ambOf P w K mg base ca N__law_told nd 2 "_law_told" (defScope s__law_told) f cd A outer s H E hr hgd) [sVal (cIns A_Rule (fSnoc (fSnoc (fSnoc fNil "kept_early" (cTV cS)) "kept_keyed" (cTV (cT (aCons cS (aOne cS))))) "kept_ranks" (cTV (cT (aCons cS (aOne cI))))))] (defBody s__law_told) [sVal (cIns A_Rule (fSnoc (fSnoc (fSnoc fNil "kept_early" (cTV cS)) "kept_keyed" (cTV (cT (aCons cS (aOne cS))))) "kept_ranks" (cTV (cT (aCons cS (aOne cI))))))] (rrP (rV cW)) fb} := ⟨_, by
  intro P w K mg base ca C_Rule PRO_Rule_early PRO_Rule_keyed PRO_Rule_ranks M_repr f nd cd A outer s H E hr hgd
  refine' bx_one ?_
  exact sx_ret (rex_callB (ct_repr (dc_l (dc_dat (n := 2))) (by decide) rf_l) (by rfl) (by exact M_repr) (by decide +kernel) (rax_one (rex_frz frz_l (rex_list (rax_consA (rex_sub (sub_datm (dc_l dc_s) (by decide)) (rex_frz frz_l (rex_prop PRO_Rule_early (Nat.le_of_ble_eq_true (by rfl)) C_Rule.cls rto (rex_var at_z (by rfl) (by first | exact Or.inl rfl | exact Or.inr (Or.inl rfl) | exact Or.inr (Or.inr rfl)))))) (rax_consA (rex_sub (sub_datm (dc_l (dc_t (da_cons dc_s (da_one dc_s)))) (by decide)) (rex_frz frz_l (rex_prop PRO_Rule_keyed (Nat.le_of_ble_eq_true (by rfl)) C_Rule.cls rto (rex_var at_z (by rfl) (by first | exact Or.inl rfl | exact Or.inr (Or.inl rfl) | exact Or.inr (Or.inr rfl)))))) (rax_consA (rex_sub (sub_datm (dc_l (dc_t (da_cons dc_s (da_one dc_i)))) (by decide)) (rex_frz frz_l (rex_prop PRO_Rule_ranks (Nat.le_of_ble_eq_true (by rfl)) C_Rule.cls rto (rex_var at_z (by rfl) (by first | exact Or.inl rfl | exact Or.inr (Or.inl rfl) | exact Or.inr (Or.inr rfl)))))) rax_nilA)))))))⟩
def F__law_told (y : (((Unit × (List Str)) × (List (Str × Str))) × (List (Str × Int)))) : Res Str := Res.bind ((fb__law_told 0 ).1 (y, ())) endV

theorem okF__law_told {P : Program} {w : World} {K : Frag} {mg : Str → Option Value} {base : Heap} {ca : Str → Addr} {fa : Addr} {dvs : List V} {kws : List (Str × V)} {fd : FuncData} {A_Rule : Addr} (F0 : FunD K "_law_told" "_law_told" (defArgs s__law_told) (defBody s__law_told) (defScope s__law_told) dvs kws fa fd) (C_Rule : ClsG K mg "Rule" A_Rule) (PRO_Rule_early : ProG P w K mg base 1 A_Rule "early" ["self"] (spP K ca (aOne (cIns A_Rule (fSnoc (fSnoc (fSnoc fNil "kept_early" (cTV cS)) "kept_keyed" (cTV (cT (aCons cS (aOne cS))))) "kept_ranks" (cTV (cT (aCons cS (aOne cI))))))) (rO (oL cS)) F_Rule_early)) (PRO_Rule_keyed : ProG P w K mg base 1 A_Rule "keyed" ["self"] (spP K ca (aOne (cIns A_Rule (fSnoc (fSnoc (fSnoc fNil "kept_early" (cTV cS)) "kept_keyed" (cTV (cT (aCons cS (aOne cS))))) "kept_ranks" (cTV (cT (aCons cS (aOne cI))))))) (rO (oL (cT (aCons cS (aOne cS))))) F_Rule_keyed)) (PRO_Rule_ranks : ProG P w K mg base 1 A_Rule "ranks" ["self"] (spP K ca (aOne (cIns A_Rule (fSnoc (fSnoc (fSnoc fNil "kept_early" (cTV cS)) "kept_keyed" (cTV (cT (aCons cS (aOne cS))))) "kept_ranks" (cTV (cT (aCons cS (aOne cI))))))) (rO (oL (cT (aCons cS (aOne cI))))) F_Rule_ranks)) (M_repr : mg "repr" = none) : FnG P w K mg base 3 fa fd ["made"] (spP K ca (aOne (cIns A_Rule (fSnoc (fSnoc (fSnoc fNil "kept_early" (cTV cS)) "kept_keyed" (cTV (cT (aCons cS (aOne cS))))) "kept_ranks" (cTV (cT (aCons cS (aOne cI))))))) (rV cW) F__law_told) :=
  fn_P (as := (aOne (cIns A_Rule (fSnoc (fSnoc (fSnoc fNil "kept_early" (cTV cS)) "kept_keyed" (cTV (cT (aCons cS (aOne cS))))) "kept_ranks" (cTV (cT (aCons cS (aOne cI)))))))) (G0 := [sVal (cIns A_Rule (fSnoc (fSnoc (fSnoc fNil "kept_early" (cTV cS)) "kept_keyed" (cTV (cT (aCons cS (aOne cS))))) "kept_ranks" (cTV (cT (aCons cS (aOne cI))))))]) (ini := (fun y => (y, ()))) (fb := (fb__law_told A_Rule ).1) F0 sc__law_told (by rfl) (fun L H vs y wf h => by obtain ⟨v1, rfl, h1⟩ := h; exact ⟨⟨v1, rfl, h1⟩, Nat.le_of_ble_eq_true (by rfl)⟩) (fun nd cd A outer s H E hr hgd => (fb__law_told A_Rule ).2 C_Rule PRO_Rule_early PRO_Rule_keyed PRO_Rule_ranks M_repr fa nd cd A outer s H E hr hgd) (fun y => rfl)
theorem ok__law_told {P : Program} {w : World} {K : Frag} {mg : Str → Option Value} {base : Heap} {ca : Str → Addr} {fa : Addr} {fd : FuncData} {A_Rule : Addr} (F0 : FunD K "_law_told" "_law_told" (defArgs s__law_told) (defBody s__law_told) (defScope s__law_told) [] [] fa fd) (C_Rule : ClsG K mg "Rule" A_Rule) (PRO_Rule_early : ProG P w K mg base 1 A_Rule "early" ["self"] (spP K ca (aOne (cIns A_Rule (fSnoc (fSnoc (fSnoc fNil "kept_early" (cTV cS)) "kept_keyed" (cTV (cT (aCons cS (aOne cS))))) "kept_ranks" (cTV (cT (aCons cS (aOne cI))))))) (rO (oL cS)) F_Rule_early)) (PRO_Rule_keyed : ProG P w K mg base 1 A_Rule "keyed" ["self"] (spP K ca (aOne (cIns A_Rule (fSnoc (fSnoc (fSnoc fNil "kept_early" (cTV cS)) "kept_keyed" (cTV (cT (aCons cS (aOne cS))))) "kept_ranks" (cTV (cT (aCons cS (aOne cI))))))) (rO (oL (cT (aCons cS (aOne cS))))) F_Rule_keyed)) (PRO_Rule_ranks : ProG P w K mg base 1 A_Rule "ranks" ["self"] (spP K ca (aOne (cIns A_Rule (fSnoc (fSnoc (fSnoc fNil "kept_early" (cTV cS)) "kept_keyed" (cTV (cT (aCons cS (aOne cS))))) "kept_ranks" (cTV (cT (aCons cS (aOne cI))))))) (rO (oL (cT (aCons cS (aOne cI))))) F_Rule_ranks)) (M_repr : mg "repr" = none) (hm : mg "_law_told" = some (.ref fa)) : DefG P w K mg base 3 "_law_told" ["made"] (spP K ca (aOne (cIns A_Rule (fSnoc (fSnoc (fSnoc fNil "kept_early" (cTV cS)) "kept_keyed" (cTV (cT (aCons cS (aOne cS))))) "kept_ranks" (cTV (cT (aCons cS (aOne cI))))))) (rV cW) F__law_told) :=
  ⟨fa, fd, okF__law_told (A_Rule := A_Rule) F0 C_Rule PRO_Rule_early PRO_Rule_keyed PRO_Rule_ranks M_repr, hm, F0.kp, (F0.bindsN (ps := ["made"]) fun _ _ _ _ _ _ us hl => match us, hl with | [_], _ => rfl), (kw_binds (ps := ["made"]) F0 fun _ _ _ _ _ _ us hl => match us, hl with | [_], _ => rfl)⟩

/-! _law_right -/
abbrev s__law_right : Stmt := top 21
abbrev N__law_right : List Str := ["kit", "names_here", "plan", "made", "before", "label", "order", "due_here", "told", "less", "left", "turn"]
theorem sc__law_right : FnScope N__law_right ["kit"] (defScope s__law_right) := ⟨rfl, rfl, rfl, by decide +kernel, rfl, by decide +kernel, by decide +kernel⟩
def fb__law_right (A_Rule : Addr) : {fb : (v0 : V) → CT [sOwn (fun v => v = v0) (oL cI), sAny, sAny, sAny, sAny, sAny, sAny, sAny, sAny, sAny, sAny, sAny] → Res (Out (CT [sOwn (fun v => v = v0) (oL cI), sAny, sAny, sAny, sAny, sAny, sAny, sAny, sAny, sAny, sAny, sAny]) (Bool × (List Int))) // ∀ {P : Program} {w : World} {K : Frag} {mg : Str → Option Value} {base : Heap} {ca : Str → Addr} (D__law_tags : DefG P w K mg base 2 "_law_tags" ["kit", "many"] (spI K ca (oL cI) (aOne cI) (rV (cL cS)) F__law_tags)) (D__law_wide_rule : DefG P w K mg base 3 "_law_wide_rule" ["kit", "names_here"] (spI K ca (oL cI) (aOne (cL cS)) (rV (cT (aCons (cL cS) (aCons (cL (cT (aCons cS (aOne cS)))) (aOne (cL (cT (aCons cS (aOne cI))))))))) F__law_wide_rule)) (D__law_plan_of_rule : DefG P w K mg base 2 "_law_plan_of_rule" ["kit", "names_here"] (spI K ca (oL cI) (aOne (cL cS)) (rV (cT (aCons (cL cS) (aCons (cL (cT (aCons cS (aOne cS)))) (aOne (cL (cT (aCons cS (aOne cI))))))))) F__law_plan_of_rule)) (D__law_toss : DefG P w K mg base 1 "_law_toss" ["kit", "many"] (spI K ca (oL cI) (aOne cI) (rV cI) F__law_toss)) (D__law_made_rule : DefG P w K mg base 5 "_law_made_rule" ["plan"] (spP K ca (aOne (cT (aCons (cL cS) (aCons (cL (cT (aCons cS (aOne cS)))) (aOne (cL (cT (aCons cS (aOne cI))))))))) (rV (cIns A_Rule (fSnoc (fSnoc (fSnoc fNil "kept_early" (cTV cS)) "kept_keyed" (cTV (cT (aCons cS (aOne cS))))) "kept_ranks" (cTV (cT (aCons cS (aOne cI))))))) F__law_made_rule)) (D__law_told : DefG P w K mg base 3 "_law_told" ["made"] (spP K ca (aOne (cIns A_Rule (fSnoc (fSnoc (fSnoc fNil "kept_early" (cTV cS)) "kept_keyed" (cTV (cT (aCons cS (aOne cS))))) "kept_ranks" (cTV (cT (aCons cS (aOne cI))))))) (rV cW) F__law_told)) (D__law_less : DefG P w K mg base 1 "_law_less" ["plan", "label"] (spP K ca (aCons (cT (aCons (cL cS) (aCons (cL (cT (aCons cS (aOne cS)))) (aOne (cL (cT (aCons cS (aOne cI)))))))) (aOne cS)) (rV (cT (aCons (cL cS) (aCons (cL (cT (aCons cS (aOne cS)))) (aOne (cL (cT (aCons cS (aOne cI))))))))) F__law_less)) (C_Rule : ClsG K mg "Rule" A_Rule) (MP_Rule_without_p0p1 : MetP P w K mg base 5 A_Rule "without" 2 [] (fun vs zs => selL [.p 0, .p 1] vs [] zs) (spP K ca (aCons (cIns A_Rule (fSnoc (fSnoc (fSnoc fNil "kept_early" (cTV cS)) "kept_keyed" (cTV (cT (aCons cS (aOne cS))))) "kept_ranks" (cTV (cT (aCons cS (aOne cI)))))) (aOne cS)) (rV (cIns A_Rule (fSnoc (fSnoc (fSnoc fNil "kept_early" (cTV cS)) "kept_keyed" (cTV (cT (aCons cS (aOne cS))))) "kept_ranks" (cTV (cT (aCons cS (aOne cI))))))) F_Rule_without)) (MP_Rule_without_p0k0 : MetP P w K mg base 5 A_Rule "without" 1 ["name"] (fun vs zs => selL [.p 0, .k 0] vs [] zs) (spP K ca (aCons (cIns A_Rule (fSnoc (fSnoc (fSnoc fNil "kept_early" (cTV cS)) "kept_keyed" (cTV (cT (aCons cS (aOne cS))))) "kept_ranks" (cTV (cT (aCons cS (aOne cI)))))) (aOne cS)) (rV (cIns A_Rule (fSnoc (fSnoc (fSnoc fNil "kept_early" (cTV cS)) "kept_keyed" (cTV (cT (aCons cS (aOne cS))))) "kept_ranks" (cTV (cT (aCons cS (aOne cI))))))) F_Rule_without)) (ISI_Rule : IsiC K A_Rule) (KIT_Rule_Rule : PySem.W.kitOne K (.ref A_Rule) (.ref A_Rule) = some true) (M_isinstance : mg "isinstance" = none) (MET_Rule___eq__ : MetG P w K mg base 1 A_Rule "__eq__" ["self", "other"] (spP K ca (aCons (cIns A_Rule (fSnoc (fSnoc (fSnoc fNil "kept_early" (cTV cS)) "kept_keyed" (cTV (cT (aCons cS (aOne cS))))) "kept_ranks" (cTV (cT (aCons cS (aOne cI)))))) (aOne (cIns A_Rule (fSnoc (fSnoc (fSnoc fNil "kept_early" (cTV cS)) "kept_keyed" (cTV (cT (aCons cS (aOne cS))))) "kept_ranks" (cTV (cT (aCons cS (aOne cI)))))))) (rV cB) F_Rule___eq__)) (NEE_Rule : NeC K A_Rule) (M_range : mg "range" = none) (M_repr : mg "repr" = none) (TZ_Rule_init : TupZ K (He.dflAt ("Rule", some "__init__") 0 K)) (KP_Rule_o_t_p0d0d1d2 : MakP P w K mg base 3 "Rule" A_Rule 1 [] (fun vs zs => selL [.p 0, .d 0, .d 1, .d 2] vs [.ref (He.dflAt ("Rule", some "__init__") 0 K), .non, .non] zs) (spN K ca A_Rule (aCons (cTV cS) (aCons (cO (cD kS cS)) (aOne (cO (cD kS cI))))) (fSnoc (fSnoc (fSnoc fNil "kept_early" (cTV cS)) "kept_keyed" (cTV (cT (aCons cS (aOne cS))))) "kept_ranks" (cTV (cT (aCons cS (aOne cI))))) F_Rule_init_o_t)) (f : Addr) (v0 : V) (nd : N__law_right.Nodup) cd A outer s H E hr hgd, BX (ambOf P w K mg base ca N__law_right nd 5 "_law_right" (defScope s__law_right) f cd A outer s H E hr hgd) [sOwn (fun v => v = v0) (oL cI), sAny, sAny, sAny, sAny, sAny, sAny, sAny, sAny, sAny, sAny, sAny] (defBody s__law_right) [sOwn (fun v => v = v0) (oL cI), sAny, sAny, sAny, sAny, sAny, sAny, sAny, sAny, sAny, sAny, sAny] (rrI (rV cB) (oL cI) v0) (fb v0)} := ⟨_, by
  intro P w K mg base ca D__law_tags D__law_wide_rule D__law_plan_of_rule D__law_toss D__law_made_rule D__law_told D__law_less C_Rule MP_Rule_without_p0p1 MP_Rule_without_p0k0 ISI_Rule KIT_Rule_Rule M_isinstance MET_Rule___eq__ NEE_Rule M_range M_repr TZ_Rule_init KP_Rule_o_t_p0d0d1d2 f v0 nd cd A outer s H E hr hgd
  refine' bx_cons (G1 := [sOwn (fun v => v = v0) (oL cI), sVal (cL cS), sAny, sAny, sAny, sAny, sAny, sAny, sAny, sAny, sAny, sAny]) ?g178 ?g179
  case g178 =>
    exact sx_set (up_s up_z) (by rfl) (by first | exact Or.inl rfl | exact Or.inr rfl) (ex_calI at_z md_z D__law_tags (Nat.le_of_ble_eq_true (by rfl)) (by rfl) rtvI (by rfl) (by first | exact Or.inl rfl | exact Or.inr (Or.inl rfl) | exact Or.inr (Or.inr rfl)) (rax_one rex_int)) (by exact trivial) (by rfl) (by first | exact Or.inl rfl | exact Or.inr rfl)
  case g179 =>
    refine' bx_cons (G1 := [sOwn (fun v => v = v0) (oL cI), sVal (cL cS), sVal (cT (aCons (cL cS) (aCons (cL (cT (aCons cS (aOne cS)))) (aOne (cL (cT (aCons cS (aOne cI)))))))), sAny, sAny, sAny, sAny, sAny, sAny, sAny, sAny, sAny]) ?g176 ?g177
    case g176 =>
      exact sx_set (up_s (up_s up_z)) (by rfl) (by first | exact Or.inl rfl | exact Or.inr rfl) (ex_if (tx_cmp ot_eq (ex_calI at_z md_z D__law_toss (Nat.le_of_ble_eq_true (by rfl)) (by rfl) rtvI (by rfl) (by first | exact Or.inl rfl | exact Or.inr (Or.inl rfl) | exact Or.inr (Or.inr rfl)) (rax_one rex_int)) rex_int (by rfl)) (ex_calI at_z md_z D__law_wide_rule (Nat.le_of_ble_eq_true (by rfl)) (by rfl) rtvI (by rfl) (by first | exact Or.inl rfl | exact Or.inr (Or.inl rfl) | exact Or.inr (Or.inr rfl)) (rax_one (rex_var (at_s at_z) (by rfl) (by first | exact Or.inl rfl | exact Or.inr (Or.inl rfl) | exact Or.inr (Or.inr rfl))))) (ex_calI at_z md_z D__law_plan_of_rule (Nat.le_of_ble_eq_true (by rfl)) (by rfl) rtvI (by rfl) (by first | exact Or.inl rfl | exact Or.inr (Or.inl rfl) | exact Or.inr (Or.inr rfl)) (rax_one (rex_frz frz_l (rex_cutL (rex_var (at_s at_z) (by rfl) (by first | exact Or.inl rfl | exact Or.inr (Or.inl rfl) | exact Or.inr (Or.inr rfl))) rox_none (rox_some rex_int)))))) (by exact trivial) (by rfl) (by first | exact Or.inl rfl | exact Or.inr rfl)
    case g177 =>
      refine' bx_cons (G1 := [sOwn (fun v => v = v0) (oL cI), sVal (cL cS), sVal (cT (aCons (cL cS) (aCons (cL (cT (aCons cS (aOne cS)))) (aOne (cL (cT (aCons cS (aOne cI)))))))), sVal (cIns A_Rule (fSnoc (fSnoc (fSnoc fNil "kept_early" (cTV cS)) "kept_keyed" (cTV (cT (aCons cS (aOne cS))))) "kept_ranks" (cTV (cT (aCons cS (aOne cI)))))), sAny, sAny, sAny, sAny, sAny, sAny, sAny, sAny]) ?g174 ?g175
      case g174 =>
        exact sx_set (up_s (up_s (up_s up_z))) (by rfl) (by first | exact Or.inl rfl | exact Or.inr rfl) (rex_cal D__law_made_rule (Nat.le_of_ble_eq_true (by rfl)) (by rfl) rtv (rax_one (rex_var (at_s (at_s at_z)) (by rfl) (by first | exact Or.inl rfl | exact Or.inr (Or.inl rfl) | exact Or.inr (Or.inr rfl))))) (by exact trivial) (by rfl) (by first | exact Or.inl rfl | exact Or.inr rfl)
      case g175 =>
        refine' bx_cons (G1 := [sOwn (fun v => v = v0) (oL cI), sVal (cL cS), sVal (cT (aCons (cL cS) (aCons (cL (cT (aCons cS (aOne cS)))) (aOne (cL (cT (aCons cS (aOne cI)))))))), sVal (cIns A_Rule (fSnoc (fSnoc (fSnoc fNil "kept_early" (cTV cS)) "kept_keyed" (cTV (cT (aCons cS (aOne cS))))) "kept_ranks" (cTV (cT (aCons cS (aOne cI)))))), sVal cW, sAny, sAny, sAny, sAny, sAny, sAny, sAny]) ?g172 ?g173
        case g172 =>
          exact sx_set (up_s (up_s (up_s (up_s up_z)))) (by rfl) (by first | exact Or.inl rfl | exact Or.inr rfl) (rex_cal D__law_told (Nat.le_of_ble_eq_true (by rfl)) (by rfl) rtv (rax_one (rex_var (at_s (at_s (at_s at_z))) (by rfl) (by first | exact Or.inl rfl | exact Or.inr (Or.inl rfl) | exact Or.inr (Or.inr rfl))))) (by exact trivial) (by rfl) (by first | exact Or.inl rfl | exact Or.inr rfl)
        case g173 =>
          refine' bx_cons (G1 := [sOwn (fun v => v = v0) (oL cI), sVal (cL cS), sVal (cT (aCons (cL cS) (aCons (cL (cT (aCons cS (aOne cS)))) (aOne (cL (cT (aCons cS (aOne cI)))))))), sVal (cIns A_Rule (fSnoc (fSnoc (fSnoc fNil "kept_early" (cTV cS)) "kept_keyed" (cTV (cT (aCons cS (aOne cS))))) "kept_ranks" (cTV (cT (aCons cS (aOne cI)))))), sVal cW, sAny, sAny, sAny, sAny, sAny, sAny, sAny]) ?g170 ?g171
          case g170 =>
            refine' sx_for (G1 := [sOwn (fun v => v = v0) (oL cI), sVal (cL cS), sVal (cT (aCons (cL cS) (aCons (cL (cT (aCons cS (aOne cS)))) (aOne (cL (cT (aCons cS (aOne cI)))))))), sVal (cIns A_Rule (fSnoc (fSnoc (fSnoc fNil "kept_early" (cTV cS)) "kept_keyed" (cTV (cT (aCons cS (aOne cS))))) "kept_ranks" (cTV (cT (aCons cS (aOne cI)))))), sVal cW, sVal cS, sAny, sAny, sAny, sAny, sAny, sAny]) (G2 := [sOwn (fun v => v = v0) (oL cI), sVal (cL cS), sVal (cT (aCons (cL cS) (aCons (cL (cT (aCons cS (aOne cS)))) (aOne (cL (cT (aCons cS (aOne cI)))))))), sVal (cIns A_Rule (fSnoc (fSnoc (fSnoc fNil "kept_early" (cTV cS)) "kept_keyed" (cTV (cT (aCons cS (aOne cS))))) "kept_ranks" (cTV (cT (aCons cS (aOne cI)))))), sVal cW, sVal cS, sAny, sVal (cIns A_Rule (fSnoc (fSnoc (fSnoc fNil "kept_early" (cTV cS)) "kept_keyed" (cTV (cT (aCons cS (aOne cS))))) "kept_ranks" (cTV (cT (aCons cS (aOne cI)))))), sAny, sAny, sAny, sAny]) (rix_l (rex_frz frz_l (rex_op ot_cat (rex_var (at_s at_z) (by rfl) (by first | exact Or.inl rfl | exact Or.inr (Or.inl rfl) | exact Or.inr (Or.inr rfl))) (rex_frz frz_l (rex_list (rax_consA (rex_str (by decide +kernel) (by decide +kernel)) rax_nilA)))))) (gx_name (up_s (up_s (up_s (up_s (up_s up_z))))) (by rfl) (by first | exact Or.inl rfl | exact Or.inr rfl) (by exact trivial) (by first | exact Or.inl rfl | exact Or.inr rfl)) ?g154 (sc_same (sc_same (sc_same (sc_same (sc_same (sc_any (sc_same (sc_any sc_id))))))))
            case g154 =>
              refine' bx_cons (G1 := [sOwn (fun v => v = v0) (oL cI), sVal (cL cS), sVal (cT (aCons (cL cS) (aCons (cL (cT (aCons cS (aOne cS)))) (aOne (cL (cT (aCons cS (aOne cI)))))))), sVal (cIns A_Rule (fSnoc (fSnoc (fSnoc fNil "kept_early" (cTV cS)) "kept_keyed" (cTV (cT (aCons cS (aOne cS))))) "kept_ranks" (cTV (cT (aCons cS (aOne cI)))))), sVal cW, sVal cS, sAny, sVal (cIns A_Rule (fSnoc (fSnoc (fSnoc fNil "kept_early" (cTV cS)) "kept_keyed" (cTV (cT (aCons cS (aOne cS))))) "kept_ranks" (cTV (cT (aCons cS (aOne cI)))))), sAny, sAny, sAny, sAny]) ?g152 ?g153
              case g152 =>
                exact sx_set (up_s (up_s (up_s (up_s (up_s (up_s (up_s up_z))))))) (by rfl) (by first | exact Or.inl rfl | exact Or.inr rfl) (rex_cal D__law_made_rule (Nat.le_of_ble_eq_true (by rfl)) (by rfl) rtv (rax_one (rex_cal D__law_less (Nat.le_of_ble_eq_true (by rfl)) (by rfl) rtv (rax_cons (rex_var (at_s (at_s at_z)) (by rfl) (by first | exact Or.inl rfl | exact Or.inr (Or.inl rfl) | exact Or.inr (Or.inr rfl))) (rax_one (rex_var (at_s (at_s (at_s (at_s (at_s at_z))))) (by rfl) (by first | exact Or.inl rfl | exact Or.inr (Or.inl rfl) | exact Or.inr (Or.inr rfl)))))))) (by exact trivial) (by rfl) (by first | exact Or.inl rfl | exact Or.inr rfl)
              case g153 =>
                refine' bx_cons (G1 := [sOwn (fun v => v = v0) (oL cI), sVal (cL cS), sVal (cT (aCons (cL cS) (aCons (cL (cT (aCons cS (aOne cS)))) (aOne (cL (cT (aCons cS (aOne cI)))))))), sVal (cIns A_Rule (fSnoc (fSnoc (fSnoc fNil "kept_early" (cTV cS)) "kept_keyed" (cTV (cT (aCons cS (aOne cS))))) "kept_ranks" (cTV (cT (aCons cS (aOne cI)))))), sVal cW, sVal cS, sAny, sVal (cIns A_Rule (fSnoc (fSnoc (fSnoc fNil "kept_early" (cTV cS)) "kept_keyed" (cTV (cT (aCons cS (aOne cS))))) "kept_ranks" (cTV (cT (aCons cS (aOne cI)))))), sAny, sAny, sAny, sAny]) ?g150 ?g151
                case g150 =>
                  refine' sx_for (G1 := [sOwn (fun v => v = v0) (oL cI), sVal (cL cS), sVal (cT (aCons (cL cS) (aCons (cL (cT (aCons cS (aOne cS)))) (aOne (cL (cT (aCons cS (aOne cI)))))))), sVal (cIns A_Rule (fSnoc (fSnoc (fSnoc fNil "kept_early" (cTV cS)) "kept_keyed" (cTV (cT (aCons cS (aOne cS))))) "kept_ranks" (cTV (cT (aCons cS (aOne cI)))))), sVal cW, sVal cS, sAny, sVal (cIns A_Rule (fSnoc (fSnoc (fSnoc fNil "kept_early" (cTV cS)) "kept_keyed" (cTV (cT (aCons cS (aOne cS))))) "kept_ranks" (cTV (cT (aCons cS (aOne cI)))))), sVal (cIns A_Rule (fSnoc (fSnoc (fSnoc fNil "kept_early" (cTV cS)) "kept_keyed" (cTV (cT (aCons cS (aOne cS))))) "kept_ranks" (cTV (cT (aCons cS (aOne cI)))))), sAny, sAny, sAny]) (G2 := [sOwn (fun v => v = v0) (oL cI), sVal (cL cS), sVal (cT (aCons (cL cS) (aCons (cL (cT (aCons cS (aOne cS)))) (aOne (cL (cT (aCons cS (aOne cI)))))))), sVal (cIns A_Rule (fSnoc (fSnoc (fSnoc fNil "kept_early" (cTV cS)) "kept_keyed" (cTV (cT (aCons cS (aOne cS))))) "kept_ranks" (cTV (cT (aCons cS (aOne cI)))))), sVal cW, sVal cS, sAny, sVal (cIns A_Rule (fSnoc (fSnoc (fSnoc fNil "kept_early" (cTV cS)) "kept_keyed" (cTV (cT (aCons cS (aOne cS))))) "kept_ranks" (cTV (cT (aCons cS (aOne cI)))))), sVal (cIns A_Rule (fSnoc (fSnoc (fSnoc fNil "kept_early" (cTV cS)) "kept_keyed" (cTV (cT (aCons cS (aOne cS))))) "kept_ranks" (cTV (cT (aCons cS (aOne cI)))))), sAny, sAny, sAny]) (rix_t (rex_sub (sub_ttv (by decide)) (rex_tup (hn := Nat.le_of_ble_eq_true (by rfl)) (rax_consA (rex_metP (fun u x y => (u, x)) MP_Rule_without_p0p1 (Nat.le_of_ble_eq_true (by rfl)) C_Rule.cls (nk_snoc (nk_snoc (nk_snoc nk_nil (by decide)) (by decide)) (by decide)) rtv (rex_var (at_s (at_s (at_s at_z))) (by rfl) (by first | exact Or.inl rfl | exact Or.inr (Or.inl rfl) | exact Or.inr (Or.inr rfl))) (rca_pos (rax_one (rex_var (at_s (at_s (at_s (at_s (at_s at_z))))) (by rfl) (by first | exact Or.inl rfl | exact Or.inr (Or.inl rfl) | exact Or.inr (Or.inr rfl))))) (by rfl) (by rfl) (by intro K R v vs zs u x y h0 h1 h2; obtain ⟨wa0, rfl, a0⟩ := h1; have h2 : _ = [] := h2; subst h2; exact ⟨_, _, rfl, h0, _, rfl, a0⟩) (by rfl)) (rax_consA (rex_metP (fun u x y => (u, y)) MP_Rule_without_p0k0 (Nat.le_of_ble_eq_true (by rfl)) C_Rule.cls (nk_snoc (nk_snoc (nk_snoc nk_nil (by decide)) (by decide)) (by decide)) rtv (rex_var (at_s (at_s (at_s at_z))) (by rfl) (by first | exact Or.inl rfl | exact Or.inr (Or.inl rfl) | exact Or.inr (Or.inr rfl))) (rca_kw (rkw_one (rex_var (at_s (at_s (at_s (at_s (at_s at_z))))) (by rfl) (by first | exact Or.inl rfl | exact Or.inr (Or.inl rfl) | exact Or.inr (Or.inr rfl))))) (by rfl) (by rfl) (by intro K R v vs zs u x y h0 h1 h2; have h1 : _ = [] := h1; subst h1; obtain ⟨wb0, rfl, b0⟩ := h2; exact ⟨_, _, rfl, h0, _, rfl, b0⟩) (by rfl)) rax_nilA))))) (gx_name (up_s (up_s (up_s (up_s (up_s (up_s (up_s (up_s up_z)))))))) (by rfl) (by first | exact Or.inl rfl | exact Or.inr rfl) (by exact trivial) (by first | exact Or.inl rfl | exact Or.inr rfl)) ?g147 (sc_same (sc_same (sc_same (sc_same (sc_same (sc_same (sc_same (sc_same (sc_any sc_id)))))))))
                  case g147 =>
                    refine' bx_one ?_
                    refine' sx_if (G' := [sOwn (fun v => v = v0) (oL cI), sVal (cL cS), sVal (cT (aCons (cL cS) (aCons (cL (cT (aCons cS (aOne cS)))) (aOne (cL (cT (aCons cS (aOne cI)))))))), sVal (cIns A_Rule (fSnoc (fSnoc (fSnoc fNil "kept_early" (cTV cS)) "kept_keyed" (cTV (cT (aCons cS (aOne cS))))) "kept_ranks" (cTV (cT (aCons cS (aOne cI)))))), sVal cW, sVal cS, sAny, sVal (cIns A_Rule (fSnoc (fSnoc (fSnoc fNil "kept_early" (cTV cS)) "kept_keyed" (cTV (cT (aCons cS (aOne cS))))) "kept_ranks" (cTV (cT (aCons cS (aOne cI)))))), sVal (cIns A_Rule (fSnoc (fSnoc (fSnoc fNil "kept_early" (cTV cS)) "kept_keyed" (cTV (cT (aCons cS (aOne cS))))) "kept_ranks" (cTV (cT (aCons cS (aOne cI)))))), sAny, sAny, sAny]) (rtx_w (rwx_or (rtx_cmp (ot_neOwn NEE_Rule MET_Rule___eq__ (Nat.le_of_ble_eq_true (by rfl))) (rex_var (at_s (at_s (at_s (at_s (at_s (at_s (at_s (at_s at_z)))))))) (by rfl) (by first | exact Or.inl rfl | exact Or.inr (Or.inl rfl) | exact Or.inr (Or.inr rfl))) (rex_var (at_s (at_s (at_s (at_s (at_s (at_s (at_s at_z))))))) (by rfl) (by first | exact Or.inl rfl | exact Or.inr (Or.inl rfl) | exact Or.inr (Or.inr rfl))) (by rfl)) (rwx_or (rtx_cmp ot_neW (rex_cal D__law_told (Nat.le_of_ble_eq_true (by rfl)) (by rfl) rtv (rax_one (rex_var (at_s (at_s (at_s (at_s (at_s (at_s (at_s (at_s at_z)))))))) (by rfl) (by first | exact Or.inl rfl | exact Or.inr (Or.inl rfl) | exact Or.inr (Or.inr rfl))))) (rex_cal D__law_told (Nat.le_of_ble_eq_true (by rfl)) (by rfl) rtv (rax_one (rex_var (at_s (at_s (at_s (at_s (at_s (at_s (at_s at_z))))))) (by rfl) (by first | exact Or.inl rfl | exact Or.inr (Or.inl rfl) | exact Or.inr (Or.inr rfl))))) (by rfl)) (rwx_or1 (rtx_not (rtx_val (rex_callB (ct_isiI (b := true) ISI_Rule KIT_Rule_Rule) (by rfl) (by exact M_isinstance) (by decide +kernel) (rax_cons (rex_var (at_s (at_s (at_s (at_s (at_s (at_s (at_s (at_s at_z)))))))) (by rfl) (by first | exact Or.inl rfl | exact Or.inr (Or.inl rfl) | exact Or.inr (Or.inr rfl))) (rax_one (rex_cls (by rfl) C_Rule)))))))))) ?g145 ?g146
                    case g145 =>
                      refine' bx_one ?_
                      exact sx_retI at_z rex_bool
                    case g146 =>
                      exact bx_nil
                case g151 =>
                  refine' bx_one ?_
                  refine' sx_if (G' := [sOwn (fun v => v = v0) (oL cI), sVal (cL cS), sVal (cT (aCons (cL cS) (aCons (cL (cT (aCons cS (aOne cS)))) (aOne (cL (cT (aCons cS (aOne cI)))))))), sVal (cIns A_Rule (fSnoc (fSnoc (fSnoc fNil "kept_early" (cTV cS)) "kept_keyed" (cTV (cT (aCons cS (aOne cS))))) "kept_ranks" (cTV (cT (aCons cS (aOne cI)))))), sVal cW, sVal cS, sAny, sVal (cIns A_Rule (fSnoc (fSnoc (fSnoc fNil "kept_early" (cTV cS)) "kept_keyed" (cTV (cT (aCons cS (aOne cS))))) "kept_ranks" (cTV (cT (aCons cS (aOne cI)))))), sAny, sAny, sAny, sAny]) (rtx_w (rwx_or (rtx_cmp ot_neW (rex_cal D__law_told (Nat.le_of_ble_eq_true (by rfl)) (by rfl) rtv (rax_one (rex_var (at_s (at_s (at_s at_z))) (by rfl) (by first | exact Or.inl rfl | exact Or.inr (Or.inl rfl) | exact Or.inr (Or.inr rfl))))) (rex_var (at_s (at_s (at_s (at_s at_z)))) (by rfl) (by first | exact Or.inl rfl | exact Or.inr (Or.inl rfl) | exact Or.inr (Or.inr rfl))) (by rfl)) (rwx_or1 (rtx_cmp (ot_neOwn NEE_Rule MET_Rule___eq__ (Nat.le_of_ble_eq_true (by rfl))) (rex_var (at_s (at_s (at_s at_z))) (by rfl) (by first | exact Or.inl rfl | exact Or.inr (Or.inl rfl) | exact Or.inr (Or.inr rfl))) (rex_cal D__law_made_rule (Nat.le_of_ble_eq_true (by rfl)) (by rfl) rtv (rax_one (rex_var (at_s (at_s at_z)) (by rfl) (by first | exact Or.inl rfl | exact Or.inr (Or.inl rfl) | exact Or.inr (Or.inr rfl))))) (by rfl))))) ?g148 ?g149
                  case g148 =>
                    refine' bx_one ?_
                    exact sx_retI at_z rex_bool
                  case g149 =>
                    exact bx_nil
          case g171 =>
            refine' bx_cons (G1 := [sOwn (fun v => v = v0) (oL cI), sVal (cL cS), sVal (cT (aCons (cL cS) (aCons (cL (cT (aCons cS (aOne cS)))) (aOne (cL (cT (aCons cS (aOne cI)))))))), sVal (cIns A_Rule (fSnoc (fSnoc (fSnoc fNil "kept_early" (cTV cS)) "kept_keyed" (cTV (cT (aCons cS (aOne cS))))) "kept_ranks" (cTV (cT (aCons cS (aOne cI)))))), sVal cW, sAny, sOwn PAny (oL cS), sAny, sAny, sAny, sAny, sAny]) ?g168 ?g169
            case g168 =>
              first | exact sx_setLc (own := [("turn", 11)]) (up_s (up_s (up_s (up_s (up_s (up_s up_z)))))) (by rfl) (by rfl) (by exact trivial) (rix_r1 (by rfl) (by exact M_range) rex_int) (blkOk_by (by rfl)) (wc_keep (by decide) (wc_keep (by decide) (wc_keep (by decide) (wc_keep (by decide) (wc_keep (by decide) (wc_keep (by decide) (wc_keep (by decide) (wc_keep (by decide) (wc_keep (by decide) (wc_keep (by decide) (wc_keep (by decide) (wc_any wc_nil)))))))))))) (fun _ _ _ _ _ => (gx_name (up_s (up_s (up_s (up_s (up_s (up_s (up_s (up_s (up_s (up_s (up_s up_z))))))))))) (by rfl) (by first | exact Or.inl rfl | exact Or.inr rfl) (by show (11 : Nat) ∈ [11]; decide) (by first | exact Or.inl rfl | exact Or.inr rfl))) (fun _ _ _ _ _ => (ex_ixL (rex_var (at_s at_z) (by rfl) (by first | exact Or.inl rfl | exact Or.inr (Or.inl rfl) | exact Or.inr (Or.inr rfl))) (ex_calI at_z md_z D__law_toss (Nat.le_of_ble_eq_true (by rfl)) (by rfl) rtvI (by rfl) (by first | exact Or.inl rfl | exact Or.inr (Or.inl rfl) | exact Or.inr (Or.inr rfl)) (rax_one rex_int)) (by intro _ _; rfl))) (wc_keep (by decide) (wc_keep (by decide) (wc_keep (by decide) (wc_keep (by decide) (wc_keep (by decide) (wc_keep (by decide) (wc_keep (by decide) (wc_keep (by decide) (wc_keep (by decide) (wc_keep (by decide) (wc_keep (by decide) (wc_val wc_nil)))))))))))) (by rfl) | exact sx_setO (up_s (up_s (up_s (up_s (up_s (up_s up_z)))))) (by rfl) (by first | exact Or.inl rfl | exact Or.inr rfl) (ex_lc (own := [("turn", 11)]) (rix_r1 (by rfl) (by exact M_range) rex_int) (blkOk_by (by rfl)) (wc_keep (by decide) (wc_keep (by decide) (wc_keep (by decide) (wc_keep (by decide) (wc_keep (by decide) (wc_keep (by decide) (wc_keep (by decide) (wc_keep (by decide) (wc_keep (by decide) (wc_keep (by decide) (wc_keep (by decide) (wc_any wc_nil)))))))))))) (fun _ _ _ _ _ => (gx_name (up_s (up_s (up_s (up_s (up_s (up_s (up_s (up_s (up_s (up_s (up_s up_z))))))))))) (by rfl) (by first | exact Or.inl rfl | exact Or.inr rfl) (by show (11 : Nat) ∈ [11]; decide) (by first | exact Or.inl rfl | exact Or.inr rfl))) (fun _ _ _ _ _ => (ex_ixL (rex_var (at_s at_z) (by rfl) (by first | exact Or.inl rfl | exact Or.inr (Or.inl rfl) | exact Or.inr (Or.inr rfl))) (ex_calI at_z md_z D__law_toss (Nat.le_of_ble_eq_true (by rfl)) (by rfl) rtvI (by rfl) (by first | exact Or.inl rfl | exact Or.inr (Or.inl rfl) | exact Or.inr (Or.inr rfl)) (rax_one rex_int)) (by intro _ _; rfl))) (wc_keep (by decide) (wc_keep (by decide) (wc_keep (by decide) (wc_keep (by decide) (wc_keep (by decide) (wc_keep (by decide) (wc_keep (by decide) (wc_keep (by decide) (wc_keep (by decide) (wc_keep (by decide) (wc_keep (by decide) (wc_val wc_nil))))))))))))) (by exact trivial) (by rfl) (by first | exact Or.inl rfl | exact Or.inr rfl)
            case g169 =>
              refine' bx_cons (G1 := [sOwn (fun v => v = v0) (oL cI), sVal (cL cS), sVal (cT (aCons (cL cS) (aCons (cL (cT (aCons cS (aOne cS)))) (aOne (cL (cT (aCons cS (aOne cI)))))))), sVal (cIns A_Rule (fSnoc (fSnoc (fSnoc fNil "kept_early" (cTV cS)) "kept_keyed" (cTV (cT (aCons cS (aOne cS))))) "kept_ranks" (cTV (cT (aCons cS (aOne cI)))))), sVal cW, sAny, sOwn PAny (oL cS), sAny, sAny, sVal (cIns A_Rule (fSnoc (fSnoc (fSnoc fNil "kept_early" (cTV cS)) "kept_keyed" (cTV (cT (aCons cS (aOne cS))))) "kept_ranks" (cTV (cT (aCons cS (aOne cI)))))), sVal (cT (aCons (cL cS) (aCons (cL (cT (aCons cS (aOne cS)))) (aOne (cL (cT (aCons cS (aOne cI)))))))), sAny]) ?g166 ?g167
              case g166 =>
                first | exact sx_par st_v st_v (up_s (up_s (up_s (up_s (up_s (up_s (up_s (up_s (up_s (up_s up_z)))))))))) (up_s (up_s (up_s (up_s (up_s (up_s (up_s (up_s (up_s up_z))))))))) (by decide) (by exact ⟨trivial, trivial⟩) (by rfl) (by rfl) (by rfl) (by rfl) (rex_var (at_s (at_s (at_s at_z))) (by rfl) (by first | exact Or.inl rfl | exact Or.inr (Or.inl rfl) | exact Or.inr (Or.inr rfl))) (rex_var (at_s (at_s at_z)) (by rfl) (by first | exact Or.inl rfl | exact Or.inr (Or.inl rfl) | exact Or.inr (Or.inr rfl))) (by rfl) | exact sx_parC st_v st_v (up_s (up_s (up_s (up_s (up_s (up_s (up_s (up_s (up_s (up_s up_z)))))))))) (up_s (up_s (up_s (up_s (up_s (up_s (up_s (up_s (up_s up_z))))))))) (by decide) (by exact ⟨trivial, trivial⟩) (by rfl) (by rfl) (by first | exact Or.inl rfl | exact Or.inr rfl) (by first | exact Or.inl rfl | exact Or.inr rfl) (rex_var (at_s (at_s (at_s at_z))) (by rfl) (by first | exact Or.inl rfl | exact Or.inr (Or.inl rfl) | exact Or.inr (Or.inr rfl))) (rex_var (at_s (at_s at_z)) (by rfl) (by first | exact Or.inl rfl | exact Or.inr (Or.inl rfl) | exact Or.inr (Or.inr rfl))) (by rfl) (by rfl) (by rfl)
              case g167 =>
                refine' bx_sub (G1 := [sOwn (fun v => v = v0) (oL cI), sVal (cL cS), sVal (cT (aCons (cL cS) (aCons (cL (cT (aCons cS (aOne cS)))) (aOne (cL (cT (aCons cS (aOne cI)))))))), sVal (cIns A_Rule (fSnoc (fSnoc (fSnoc fNil "kept_early" (cTV cS)) "kept_keyed" (cTV (cT (aCons cS (aOne cS))))) "kept_ranks" (cTV (cT (aCons cS (aOne cI)))))), sVal cW, sAny, sVal (cL cS), sAny, sAny, sVal (cIns A_Rule (fSnoc (fSnoc (fSnoc fNil "kept_early" (cTV cS)) "kept_keyed" (cTV (cT (aCons cS (aOne cS))))) "kept_ranks" (cTV (cT (aCons cS (aOne cI)))))), sVal (cT (aCons (cL cS) (aCons (cL (cT (aCons cS (aOne cS)))) (aOne (cL (cT (aCons cS (aOne cI)))))))), sAny]) (sc_same (sc_same (sc_same (sc_same (sc_same (sc_same (sc_frz frz_l sc_id))))))) ?g155
                case g155 =>
                  refine' bx_cons (G1 := [sOwn (fun v => v = v0) (oL cI), sVal (cL cS), sVal (cT (aCons (cL cS) (aCons (cL (cT (aCons cS (aOne cS)))) (aOne (cL (cT (aCons cS (aOne cI)))))))), sVal (cIns A_Rule (fSnoc (fSnoc (fSnoc fNil "kept_early" (cTV cS)) "kept_keyed" (cTV (cT (aCons cS (aOne cS))))) "kept_ranks" (cTV (cT (aCons cS (aOne cI)))))), sVal cW, sAny, sVal (cL cS), sAny, sAny, sVal (cIns A_Rule (fSnoc (fSnoc (fSnoc fNil "kept_early" (cTV cS)) "kept_keyed" (cTV (cT (aCons cS (aOne cS))))) "kept_ranks" (cTV (cT (aCons cS (aOne cI)))))), sVal (cT (aCons (cL cS) (aCons (cL (cT (aCons cS (aOne cS)))) (aOne (cL (cT (aCons cS (aOne cI)))))))), sAny]) ?g164 ?g165
                  case g164 =>
                    refine' sx_for (G1 := [sOwn (fun v => v = v0) (oL cI), sVal (cL cS), sVal (cT (aCons (cL cS) (aCons (cL (cT (aCons cS (aOne cS)))) (aOne (cL (cT (aCons cS (aOne cI)))))))), sVal (cIns A_Rule (fSnoc (fSnoc (fSnoc fNil "kept_early" (cTV cS)) "kept_keyed" (cTV (cT (aCons cS (aOne cS))))) "kept_ranks" (cTV (cT (aCons cS (aOne cI)))))), sVal cW, sVal cS, sVal (cL cS), sAny, sAny, sVal (cIns A_Rule (fSnoc (fSnoc (fSnoc fNil "kept_early" (cTV cS)) "kept_keyed" (cTV (cT (aCons cS (aOne cS))))) "kept_ranks" (cTV (cT (aCons cS (aOne cI)))))), sVal (cT (aCons (cL cS) (aCons (cL (cT (aCons cS (aOne cS)))) (aOne (cL (cT (aCons cS (aOne cI)))))))), sAny]) (G2 := [sOwn (fun v => v = v0) (oL cI), sVal (cL cS), sVal (cT (aCons (cL cS) (aCons (cL (cT (aCons cS (aOne cS)))) (aOne (cL (cT (aCons cS (aOne cI)))))))), sVal (cIns A_Rule (fSnoc (fSnoc (fSnoc fNil "kept_early" (cTV cS)) "kept_keyed" (cTV (cT (aCons cS (aOne cS))))) "kept_ranks" (cTV (cT (aCons cS (aOne cI)))))), sVal cW, sVal cS, sVal (cL cS), sAny, sAny, sVal (cIns A_Rule (fSnoc (fSnoc (fSnoc fNil "kept_early" (cTV cS)) "kept_keyed" (cTV (cT (aCons cS (aOne cS))))) "kept_ranks" (cTV (cT (aCons cS (aOne cI)))))), sVal (cT (aCons (cL cS) (aCons (cL (cT (aCons cS (aOne cS)))) (aOne (cL (cT (aCons cS (aOne cI)))))))), sAny]) (rix_l (rex_var (at_s (at_s (at_s (at_s (at_s (at_s at_z)))))) (by rfl) (by first | exact Or.inl rfl | exact Or.inr (Or.inl rfl) | exact Or.inr (Or.inr rfl)))) (gx_name (up_s (up_s (up_s (up_s (up_s up_z))))) (by rfl) (by first | exact Or.inl rfl | exact Or.inr rfl) (by exact trivial) (by first | exact Or.inl rfl | exact Or.inr rfl)) ?g160 (sc_same (sc_same (sc_same (sc_same (sc_same (sc_any sc_id))))))
                    case g160 =>
                      refine' bx_cons (G1 := [sOwn (fun v => v = v0) (oL cI), sVal (cL cS), sVal (cT (aCons (cL cS) (aCons (cL (cT (aCons cS (aOne cS)))) (aOne (cL (cT (aCons cS (aOne cI)))))))), sVal (cIns A_Rule (fSnoc (fSnoc (fSnoc fNil "kept_early" (cTV cS)) "kept_keyed" (cTV (cT (aCons cS (aOne cS))))) "kept_ranks" (cTV (cT (aCons cS (aOne cI)))))), sVal cW, sVal cS, sVal (cL cS), sAny, sAny, sVal (cIns A_Rule (fSnoc (fSnoc (fSnoc fNil "kept_early" (cTV cS)) "kept_keyed" (cTV (cT (aCons cS (aOne cS))))) "kept_ranks" (cTV (cT (aCons cS (aOne cI)))))), sVal (cT (aCons (cL cS) (aCons (cL (cT (aCons cS (aOne cS)))) (aOne (cL (cT (aCons cS (aOne cI)))))))), sAny]) ?g158 ?g159
                      case g158 =>
                        first | exact sx_par st_v st_v (up_s (up_s (up_s (up_s (up_s (up_s (up_s (up_s (up_s (up_s up_z)))))))))) (up_s (up_s (up_s (up_s (up_s (up_s (up_s (up_s (up_s up_z))))))))) (by decide) (by exact ⟨trivial, trivial⟩) (by rfl) (by rfl) (by rfl) (by rfl) (rex_metP (fun u x y => (u, x)) MP_Rule_without_p0p1 (Nat.le_of_ble_eq_true (by rfl)) C_Rule.cls (nk_snoc (nk_snoc (nk_snoc nk_nil (by decide)) (by decide)) (by decide)) rtv (rex_var (at_s (at_s (at_s (at_s (at_s (at_s (at_s (at_s (at_s at_z))))))))) (by rfl) (by first | exact Or.inl rfl | exact Or.inr (Or.inl rfl) | exact Or.inr (Or.inr rfl))) (rca_pos (rax_one (rex_var (at_s (at_s (at_s (at_s (at_s at_z))))) (by rfl) (by first | exact Or.inl rfl | exact Or.inr (Or.inl rfl) | exact Or.inr (Or.inr rfl))))) (by rfl) (by rfl) (by intro K R v vs zs u x y h0 h1 h2; obtain ⟨wa0, rfl, a0⟩ := h1; have h2 : _ = [] := h2; subst h2; exact ⟨_, _, rfl, h0, _, rfl, a0⟩) (by rfl)) (rex_cal D__law_less (Nat.le_of_ble_eq_true (by rfl)) (by rfl) rtv (rax_cons (rex_var (at_s (at_s (at_s (at_s (at_s (at_s (at_s (at_s (at_s (at_s at_z)))))))))) (by rfl) (by first | exact Or.inl rfl | exact Or.inr (Or.inl rfl) | exact Or.inr (Or.inr rfl))) (rax_one (rex_var (at_s (at_s (at_s (at_s (at_s at_z))))) (by rfl) (by first | exact Or.inl rfl | exact Or.inr (Or.inl rfl) | exact Or.inr (Or.inr rfl)))))) (by rfl) | exact sx_parC st_v st_v (up_s (up_s (up_s (up_s (up_s (up_s (up_s (up_s (up_s (up_s up_z)))))))))) (up_s (up_s (up_s (up_s (up_s (up_s (up_s (up_s (up_s up_z))))))))) (by decide) (by exact ⟨trivial, trivial⟩) (by rfl) (by rfl) (by first | exact Or.inl rfl | exact Or.inr rfl) (by first | exact Or.inl rfl | exact Or.inr rfl) (rex_metP (fun u x y => (u, x)) MP_Rule_without_p0p1 (Nat.le_of_ble_eq_true (by rfl)) C_Rule.cls (nk_snoc (nk_snoc (nk_snoc nk_nil (by decide)) (by decide)) (by decide)) rtv (rex_var (at_s (at_s (at_s (at_s (at_s (at_s (at_s (at_s (at_s at_z))))))))) (by rfl) (by first | exact Or.inl rfl | exact Or.inr (Or.inl rfl) | exact Or.inr (Or.inr rfl))) (rca_pos (rax_one (rex_var (at_s (at_s (at_s (at_s (at_s at_z))))) (by rfl) (by first | exact Or.inl rfl | exact Or.inr (Or.inl rfl) | exact Or.inr (Or.inr rfl))))) (by rfl) (by rfl) (by intro K R v vs zs u x y h0 h1 h2; obtain ⟨wa0, rfl, a0⟩ := h1; have h2 : _ = [] := h2; subst h2; exact ⟨_, _, rfl, h0, _, rfl, a0⟩) (by rfl)) (rex_cal D__law_less (Nat.le_of_ble_eq_true (by rfl)) (by rfl) rtv (rax_cons (rex_var (at_s (at_s (at_s (at_s (at_s (at_s (at_s (at_s (at_s (at_s at_z)))))))))) (by rfl) (by first | exact Or.inl rfl | exact Or.inr (Or.inl rfl) | exact Or.inr (Or.inr rfl))) (rax_one (rex_var (at_s (at_s (at_s (at_s (at_s at_z))))) (by rfl) (by first | exact Or.inl rfl | exact Or.inr (Or.inl rfl) | exact Or.inr (Or.inr rfl)))))) (by rfl) (by rfl) (by rfl)
                      case g159 =>
                        refine' bx_one ?_
                        refine' sx_if (G' := [sOwn (fun v => v = v0) (oL cI), sVal (cL cS), sVal (cT (aCons (cL cS) (aCons (cL (cT (aCons cS (aOne cS)))) (aOne (cL (cT (aCons cS (aOne cI)))))))), sVal (cIns A_Rule (fSnoc (fSnoc (fSnoc fNil "kept_early" (cTV cS)) "kept_keyed" (cTV (cT (aCons cS (aOne cS))))) "kept_ranks" (cTV (cT (aCons cS (aOne cI)))))), sVal cW, sVal cS, sVal (cL cS), sAny, sAny, sVal (cIns A_Rule (fSnoc (fSnoc (fSnoc fNil "kept_early" (cTV cS)) "kept_keyed" (cTV (cT (aCons cS (aOne cS))))) "kept_ranks" (cTV (cT (aCons cS (aOne cI)))))), sVal (cT (aCons (cL cS) (aCons (cL (cT (aCons cS (aOne cS)))) (aOne (cL (cT (aCons cS (aOne cI)))))))), sAny]) (rtx_cmp (ot_neOwn NEE_Rule MET_Rule___eq__ (Nat.le_of_ble_eq_true (by rfl))) (rex_var (at_s (at_s (at_s (at_s (at_s (at_s (at_s (at_s (at_s at_z))))))))) (by rfl) (by first | exact Or.inl rfl | exact Or.inr (Or.inl rfl) | exact Or.inr (Or.inr rfl))) (rex_cal D__law_made_rule (Nat.le_of_ble_eq_true (by rfl)) (by rfl) rtv (rax_one (rex_var (at_s (at_s (at_s (at_s (at_s (at_s (at_s (at_s (at_s (at_s at_z)))))))))) (by rfl) (by first | exact Or.inl rfl | exact Or.inr (Or.inl rfl) | exact Or.inr (Or.inr rfl))))) (by rfl)) ?g156 ?g157
                        case g156 =>
                          refine' bx_one ?_
                          exact sx_retI at_z rex_bool
                        case g157 =>
                          exact bx_nil
                  case g165 =>
                    refine' bx_cons (G1 := [sOwn (fun v => v = v0) (oL cI), sVal (cL cS), sVal (cT (aCons (cL cS) (aCons (cL (cT (aCons cS (aOne cS)))) (aOne (cL (cT (aCons cS (aOne cI)))))))), sVal (cIns A_Rule (fSnoc (fSnoc (fSnoc fNil "kept_early" (cTV cS)) "kept_keyed" (cTV (cT (aCons cS (aOne cS))))) "kept_ranks" (cTV (cT (aCons cS (aOne cI)))))), sVal cW, sAny, sVal (cL cS), sAny, sAny, sVal (cIns A_Rule (fSnoc (fSnoc (fSnoc fNil "kept_early" (cTV cS)) "kept_keyed" (cTV (cT (aCons cS (aOne cS))))) "kept_ranks" (cTV (cT (aCons cS (aOne cI)))))), sVal (cT (aCons (cL cS) (aCons (cL (cT (aCons cS (aOne cS)))) (aOne (cL (cT (aCons cS (aOne cI)))))))), sAny]) ?g162 ?g163
                    case g162 =>
                      refine' sx_for (G1 := [sOwn (fun v => v = v0) (oL cI), sVal (cL cS), sVal (cT (aCons (cL cS) (aCons (cL (cT (aCons cS (aOne cS)))) (aOne (cL (cT (aCons cS (aOne cI)))))))), sVal (cIns A_Rule (fSnoc (fSnoc (fSnoc fNil "kept_early" (cTV cS)) "kept_keyed" (cTV (cT (aCons cS (aOne cS))))) "kept_ranks" (cTV (cT (aCons cS (aOne cI)))))), sVal cW, sVal cS, sVal (cL cS), sAny, sAny, sVal (cIns A_Rule (fSnoc (fSnoc (fSnoc fNil "kept_early" (cTV cS)) "kept_keyed" (cTV (cT (aCons cS (aOne cS))))) "kept_ranks" (cTV (cT (aCons cS (aOne cI)))))), sVal (cT (aCons (cL cS) (aCons (cL (cT (aCons cS (aOne cS)))) (aOne (cL (cT (aCons cS (aOne cI)))))))), sAny]) (G2 := [sOwn (fun v => v = v0) (oL cI), sVal (cL cS), sVal (cT (aCons (cL cS) (aCons (cL (cT (aCons cS (aOne cS)))) (aOne (cL (cT (aCons cS (aOne cI)))))))), sVal (cIns A_Rule (fSnoc (fSnoc (fSnoc fNil "kept_early" (cTV cS)) "kept_keyed" (cTV (cT (aCons cS (aOne cS))))) "kept_ranks" (cTV (cT (aCons cS (aOne cI)))))), sVal cW, sVal cS, sVal (cL cS), sAny, sAny, sVal (cIns A_Rule (fSnoc (fSnoc (fSnoc fNil "kept_early" (cTV cS)) "kept_keyed" (cTV (cT (aCons cS (aOne cS))))) "kept_ranks" (cTV (cT (aCons cS (aOne cI)))))), sVal (cT (aCons (cL cS) (aCons (cL (cT (aCons cS (aOne cS)))) (aOne (cL (cT (aCons cS (aOne cI)))))))), sAny]) (rix_l (rex_var (at_s at_z) (by rfl) (by first | exact Or.inl rfl | exact Or.inr (Or.inl rfl) | exact Or.inr (Or.inr rfl)))) (gx_name (up_s (up_s (up_s (up_s (up_s up_z))))) (by rfl) (by first | exact Or.inl rfl | exact Or.inr rfl) (by exact trivial) (by first | exact Or.inl rfl | exact Or.inr rfl)) ?g161 (sc_same (sc_same (sc_same (sc_same (sc_same (sc_any sc_id))))))
                      case g161 =>
                        refine' bx_one ?_
                        exact sx_set (up_s (up_s (up_s (up_s (up_s (up_s (up_s (up_s (up_s up_z))))))))) (by rfl) (by first | exact Or.inl rfl | exact Or.inr rfl) (rex_metP (fun u x y => (u, x)) MP_Rule_without_p0p1 (Nat.le_of_ble_eq_true (by rfl)) C_Rule.cls (nk_snoc (nk_snoc (nk_snoc nk_nil (by decide)) (by decide)) (by decide)) rtv (rex_var (at_s (at_s (at_s (at_s (at_s (at_s (at_s (at_s (at_s at_z))))))))) (by rfl) (by first | exact Or.inl rfl | exact Or.inr (Or.inl rfl) | exact Or.inr (Or.inr rfl))) (rca_pos (rax_one (rex_var (at_s (at_s (at_s (at_s (at_s at_z))))) (by rfl) (by first | exact Or.inl rfl | exact Or.inr (Or.inl rfl) | exact Or.inr (Or.inr rfl))))) (by rfl) (by rfl) (by intro K R v vs zs u x y h0 h1 h2; obtain ⟨wa0, rfl, a0⟩ := h1; have h2 : _ = [] := h2; subst h2; exact ⟨_, _, rfl, h0, _, rfl, a0⟩) (by rfl)) (by exact trivial) (by rfl) (by first | exact Or.inl rfl | exact Or.inr rfl)
                    case g163 =>
                      refine' bx_one ?_
                      exact sx_retI at_z (rex_and (rex_cmp (ot_eqOwn MET_Rule___eq__ (Nat.le_of_ble_eq_true (by rfl))) (rex_var (at_s (at_s (at_s (at_s (at_s (at_s (at_s (at_s (at_s at_z))))))))) (by rfl) (by first | exact Or.inl rfl | exact Or.inr (Or.inl rfl) | exact Or.inr (Or.inr rfl))) (rex_makK (fun x y => (([] : List Str), ((none : Option (List (Str × Str))), (none : Option (List (Str × Int)))))) KP_Rule_o_t_p0d0d1d2 (Nat.le_of_ble_eq_true (by rfl)) (by rfl) rca_none (by rfl) (by rfl) (by intro R vs zs x y h1 h2; have h1 : _ = [] := h1; subst h1; have h2 : _ = [] := h2; subst h2; exact ⟨_, fun _ => rfl, _, _, rfl, (tz_see TZ_Rule_init), _, _, rfl, rfl, _, rfl, rfl⟩)) (by rfl)) (rex_and1 (rex_cmp ot_eqW (rex_cal D__law_told (Nat.le_of_ble_eq_true (by rfl)) (by rfl) rtv (rax_one (rex_var (at_s (at_s (at_s (at_s (at_s (at_s (at_s (at_s (at_s at_z))))))))) (by rfl) (by first | exact Or.inl rfl | exact Or.inr (Or.inl rfl) | exact Or.inr (Or.inr rfl))))) (rex_callB (ct_repr (dc_l (dc_l dc_i)) (by decide) rf_l) (by rfl) (by exact M_repr) (by decide +kernel) (rax_one (rex_frz frz_l (rex_list (rax_consA (rex_frz frz_l (rex_list (c := cI) rax_nilA)) (rax_consA (rex_frz frz_l (rex_list (c := cI) rax_nilA)) (rax_consA (rex_frz frz_l (rex_list (c := cI) rax_nilA)) rax_nilA))))))) (by rfl))))⟩
def F__law_right (k : (List Int)) (y : Unit) : Res (Bool × (List Int)) := Res.bind ((fb__law_right 0 ).1 .non (k, ((), ((), ((), ((), ((), ((), ((), ((), ((), ((), ((), ()))))))))))))) endV

theorem okF__law_right {P : Program} {w : World} {K : Frag} {mg : Str → Option Value} {base : Heap} {ca : Str → Addr} {fa : Addr} {dvs : List V} {kws : List (Str × V)} {fd : FuncData} {A_Rule : Addr} (F0 : FunD K "_law_right" "_law_right" (defArgs s__law_right) (defBody s__law_right) (defScope s__law_right) dvs kws fa fd) (D__law_tags : DefG P w K mg base 2 "_law_tags" ["kit", "many"] (spI K ca (oL cI) (aOne cI) (rV (cL cS)) F__law_tags)) (D__law_wide_rule : DefG P w K mg base 3 "_law_wide_rule" ["kit", "names_here"] (spI K ca (oL cI) (aOne (cL cS)) (rV (cT (aCons (cL cS) (aCons (cL (cT (aCons cS (aOne cS)))) (aOne (cL (cT (aCons cS (aOne cI))))))))) F__law_wide_rule)) (D__law_plan_of_rule : DefG P w K mg base 2 "_law_plan_of_rule" ["kit", "names_here"] (spI K ca (oL cI) (aOne (cL cS)) (rV (cT (aCons (cL cS) (aCons (cL (cT (aCons cS (aOne cS)))) (aOne (cL (cT (aCons cS (aOne cI))))))))) F__law_plan_of_rule)) (D__law_toss : DefG P w K mg base 1 "_law_toss" ["kit", "many"] (spI K ca (oL cI) (aOne cI) (rV cI) F__law_toss)) (D__law_made_rule : DefG P w K mg base 5 "_law_made_rule" ["plan"] (spP K ca (aOne (cT (aCons (cL cS) (aCons (cL (cT (aCons cS (aOne cS)))) (aOne (cL (cT (aCons cS (aOne cI))))))))) (rV (cIns A_Rule (fSnoc (fSnoc (fSnoc fNil "kept_early" (cTV cS)) "kept_keyed" (cTV (cT (aCons cS (aOne cS))))) "kept_ranks" (cTV (cT (aCons cS (aOne cI))))))) F__law_made_rule)) (D__law_told : DefG P w K mg base 3 "_law_told" ["made"] (spP K ca (aOne (cIns A_Rule (fSnoc (fSnoc (fSnoc fNil "kept_early" (cTV cS)) "kept_keyed" (cTV (cT (aCons cS (aOne cS))))) "kept_ranks" (cTV (cT (aCons cS (aOne cI))))))) (rV cW) F__law_told)) (D__law_less : DefG P w K mg base 1 "_law_less" ["plan", "label"] (spP K ca (aCons (cT (aCons (cL cS) (aCons (cL (cT (aCons cS (aOne cS)))) (aOne (cL (cT (aCons cS (aOne cI)))))))) (aOne cS)) (rV (cT (aCons (cL cS) (aCons (cL (cT (aCons cS (aOne cS)))) (aOne (cL (cT (aCons cS (aOne cI))))))))) F__law_less)) (C_Rule : ClsG K mg "Rule" A_Rule) (MP_Rule_without_p0p1 : MetP P w K mg base 5 A_Rule "without" 2 [] (fun vs zs => selL [.p 0, .p 1] vs [] zs) (spP K ca (aCons (cIns A_Rule (fSnoc (fSnoc (fSnoc fNil "kept_early" (cTV cS)) "kept_keyed" (cTV (cT (aCons cS (aOne cS))))) "kept_ranks" (cTV (cT (aCons cS (aOne cI)))))) (aOne cS)) (rV (cIns A_Rule (fSnoc (fSnoc (fSnoc fNil "kept_early" (cTV cS)) "kept_keyed" (cTV (cT (aCons cS (aOne cS))))) "kept_ranks" (cTV (cT (aCons cS (aOne cI))))))) F_Rule_without)) (MP_Rule_without_p0k0 : MetP P w K mg base 5 A_Rule "without" 1 ["name"] (fun vs zs => selL [.p 0, .k 0] vs [] zs) (spP K ca (aCons (cIns A_Rule (fSnoc (fSnoc (fSnoc fNil "kept_early" (cTV cS)) "kept_keyed" (cTV (cT (aCons cS (aOne cS))))) "kept_ranks" (cTV (cT (aCons cS (aOne cI)))))) (aOne cS)) (rV (cIns A_Rule (fSnoc (fSnoc (fSnoc fNil "kept_early" (cTV cS)) "kept_keyed" (cTV (cT (aCons cS (aOne cS))))) "kept_ranks" (cTV (cT (aCons cS (aOne cI))))))) F_Rule_without)) (ISI_Rule : IsiC K A_Rule) (KIT_Rule_Rule : PySem.W.kitOne K (.ref A_Rule) (.ref A_Rule) = some true) (M_isinstance : mg "isinstance" = none) (MET_Rule___eq__ : MetG P w K mg base 1 A_Rule "__eq__" ["self", "other"] (spP K ca (aCons (cIns A_Rule (fSnoc (fSnoc (fSnoc fNil "kept_early" (cTV cS)) "kept_keyed" (cTV (cT (aCons cS (aOne cS))))) "kept_ranks" (cTV (cT (aCons cS (aOne cI)))))) (aOne (cIns A_Rule (fSnoc (fSnoc (fSnoc fNil "kept_early" (cTV cS)) "kept_keyed" (cTV (cT (aCons cS (aOne cS))))) "kept_ranks" (cTV (cT (aCons cS (aOne cI)))))))) (rV cB) F_Rule___eq__)) (NEE_Rule : NeC K A_Rule) (M_range : mg "range" = none) (M_repr : mg "repr" = none) (TZ_Rule_init : TupZ K (He.dflAt ("Rule", some "__init__") 0 K)) (KP_Rule_o_t_p0d0d1d2 : MakP P w K mg base 3 "Rule" A_Rule 1 [] (fun vs zs => selL [.p 0, .d 0, .d 1, .d 2] vs [.ref (He.dflAt ("Rule", some "__init__") 0 K), .non, .non] zs) (spN K ca A_Rule (aCons (cTV cS) (aCons (cO (cD kS cS)) (aOne (cO (cD kS cI))))) (fSnoc (fSnoc (fSnoc fNil "kept_early" (cTV cS)) "kept_keyed" (cTV (cT (aCons cS (aOne cS))))) "kept_ranks" (cTV (cT (aCons cS (aOne cI))))) F_Rule_init_o_t)) : FnG P w K mg base 6 fa fd ["kit"] (spI K ca (oL cI) aNil (rV cB) F__law_right) :=
  fn_I (as := aNil) (G1 := [sAny, sAny, sAny, sAny, sAny, sAny, sAny, sAny, sAny, sAny, sAny]) (G' := fun v0 => [sOwn (fun v => v = v0) (oL cI), sAny, sAny, sAny, sAny, sAny, sAny, sAny, sAny, sAny, sAny, sAny]) (κ := (List Int)) (β := Bool) (oc := (oL cI)) (r := (rV cB)) (ini := (fun y => ((), ((), ((), ((), ((), ((), ((), ((), ((), ((), ((), ()))))))))))))) (fb := (fb__law_right A_Rule ).1) F0 sc__law_right (by rfl) (fun L H v0 ws y wf h => by have h0 : _ = [] := h; subst h0; exact ⟨trivial, trivial, trivial, trivial, trivial, trivial, trivial, trivial, trivial, trivial, trivial, Nat.le_of_ble_eq_true (by rfl)⟩) (fun v0 nd cd A outer s H E hr hgd => (fb__law_right A_Rule ).2 D__law_tags D__law_wide_rule D__law_plan_of_rule D__law_toss D__law_made_rule D__law_told D__law_less C_Rule MP_Rule_without_p0p1 MP_Rule_without_p0k0 ISI_Rule KIT_Rule_Rule M_isinstance MET_Rule___eq__ NEE_Rule M_range M_repr TZ_Rule_init KP_Rule_o_t_p0d0d1d2 fa v0 nd cd A outer s H E hr hgd) (fun v0 k y => rfl)
theorem ok__law_right {P : Program} {w : World} {K : Frag} {mg : Str → Option Value} {base : Heap} {ca : Str → Addr} {fa : Addr} {fd : FuncData} {A_Rule : Addr} (F0 : FunD K "_law_right" "_law_right" (defArgs s__law_right) (defBody s__law_right) (defScope s__law_right) [] [] fa fd) (D__law_tags : DefG P w K mg base 2 "_law_tags" ["kit", "many"] (spI K ca (oL cI) (aOne cI) (rV (cL cS)) F__law_tags)) (D__law_wide_rule : DefG P w K mg base 3 "_law_wide_rule" ["kit", "names_here"] (spI K ca (oL cI) (aOne (cL cS)) (rV (cT (aCons (cL cS) (aCons (cL (cT (aCons cS (aOne cS)))) (aOne (cL (cT (aCons cS (aOne cI))))))))) F__law_wide_rule)) (D__law_plan_of_rule : DefG P w K mg base 2 "_law_plan_of_rule" ["kit", "names_here"] (spI K ca (oL cI) (aOne (cL cS)) (rV (cT (aCons (cL cS) (aCons (cL (cT (aCons cS (aOne cS)))) (aOne (cL (cT (aCons cS (aOne cI))))))))) F__law_plan_of_rule)) (D__law_toss : DefG P w K mg base 1 "_law_toss" ["kit", "many"] (spI K ca (oL cI) (aOne cI) (rV cI) F__law_toss)) (D__law_made_rule : DefG P w K mg base 5 "_law_made_rule" ["plan"] (spP K ca (aOne (cT (aCons (cL cS) (aCons (cL (cT (aCons cS (aOne cS)))) (aOne (cL (cT (aCons cS (aOne cI))))))))) (rV (cIns A_Rule (fSnoc (fSnoc (fSnoc fNil "kept_early" (cTV cS)) "kept_keyed" (cTV (cT (aCons cS (aOne cS))))) "kept_ranks" (cTV (cT (aCons cS (aOne cI))))))) F__law_made_rule)) (D__law_told : DefG P w K mg base 3 "_law_told" ["made"] (spP K ca (aOne (cIns A_Rule (fSnoc (fSnoc (fSnoc fNil "kept_early" (cTV cS)) "kept_keyed" (cTV (cT (aCons cS (aOne cS))))) "kept_ranks" (cTV (cT (aCons cS (aOne cI))))))) (rV cW) F__law_told)) (D__law_less : DefG P w K mg base 1 "_law_less" ["plan", "label"] (spP K ca (aCons (cT (aCons (cL cS) (aCons (cL (cT (aCons cS (aOne cS)))) (aOne (cL (cT (aCons cS (aOne cI)))))))) (aOne cS)) (rV (cT (aCons (cL cS) (aCons (cL (cT (aCons cS (aOne cS)))) (aOne (cL (cT (aCons cS (aOne cI))))))))) F__law_less)) (C_Rule : ClsG K mg "Rule" A_Rule) (MP_Rule_without_p0p1 : MetP P w K mg base 5 A_Rule "without" 2 [] (fun vs zs => selL [.p 0, .p 1] vs [] zs) (spP K ca (aCons (cIns A_Rule (fSnoc (fSnoc (fSnoc fNil "kept_early" (cTV cS)) "kept_keyed" (cTV (cT (aCons cS (aOne cS))))) "kept_ranks" (cTV (cT (aCons cS (aOne cI)))))) (aOne cS)) (rV (cIns A_Rule (fSnoc (fSnoc (fSnoc fNil "kept_early" (cTV cS)) "kept_keyed" (cTV (cT (aCons cS (aOne cS))))) "kept_ranks" (cTV (cT (aCons cS (aOne cI))))))) F_Rule_without)) (MP_Rule_without_p0k0 : MetP P w K mg base 5 A_Rule "without" 1 ["name"] (fun vs zs => selL [.p 0, .k 0] vs [] zs) (spP K ca (aCons (cIns A_Rule (fSnoc (fSnoc (fSnoc fNil "kept_early" (cTV cS)) "kept_keyed" (cTV (cT (aCons cS (aOne cS))))) "kept_ranks" (cTV (cT (aCons cS (aOne cI)))))) (aOne cS)) (rV (cIns A_Rule (fSnoc (fSnoc (fSnoc fNil "kept_early" (cTV cS)) "kept_keyed" (cTV (cT (aCons cS (aOne cS))))) "kept_ranks" (cTV (cT (aCons cS (aOne cI))))))) F_Rule_without)) (ISI_Rule : IsiC K A_Rule) (KIT_Rule_Rule : PySem.W.kitOne K (.ref A_Rule) (.ref A_Rule) = some true) (M_isinstance : mg "isinstance" = none) (MET_Rule___eq__ : MetG P w K mg base 1 A_Rule "__eq__" ["self", "other"] (spP K ca (aCons (cIns A_Rule (fSnoc (fSnoc (fSnoc fNil "kept_early" (cTV cS)) "kept_keyed" (cTV (cT (aCons cS (aOne cS))))) "kept_ranks" (cTV (cT (aCons cS (aOne cI)))))) (aOne (cIns A_Rule (fSnoc (fSnoc (fSnoc fNil "kept_early" (cTV cS)) "kept_keyed" (cTV (cT (aCons cS (aOne cS))))) "kept_ranks" (cTV (cT (aCons cS (aOne cI)))))))) (rV cB) F_Rule___eq__)) (NEE_Rule : NeC K A_Rule) (M_range : mg "range" = none) (M_repr : mg "repr" = none) (TZ_Rule_init : TupZ K (He.dflAt ("Rule", some "__init__") 0 K)) (KP_Rule_o_t_p0d0d1d2 : MakP P w K mg base 3 "Rule" A_Rule 1 [] (fun vs zs => selL [.p 0, .d 0, .d 1, .d 2] vs [.ref (He.dflAt ("Rule", some "__init__") 0 K), .non, .non] zs) (spN K ca A_Rule (aCons (cTV cS) (aCons (cO (cD kS cS)) (aOne (cO (cD kS cI))))) (fSnoc (fSnoc (fSnoc fNil "kept_early" (cTV cS)) "kept_keyed" (cTV (cT (aCons cS (aOne cS))))) "kept_ranks" (cTV (cT (aCons cS (aOne cI))))) F_Rule_init_o_t)) (hm : mg "_law_right" = some (.ref fa)) : DefG P w K mg base 6 "_law_right" ["kit"] (spI K ca (oL cI) aNil (rV cB) F__law_right) :=
  ⟨fa, fd, okF__law_right (A_Rule := A_Rule) F0 D__law_tags D__law_wide_rule D__law_plan_of_rule D__law_toss D__law_made_rule D__law_told D__law_less C_Rule MP_Rule_without_p0p1 MP_Rule_without_p0k0 ISI_Rule KIT_Rule_Rule M_isinstance MET_Rule___eq__ NEE_Rule M_range M_repr TZ_Rule_init KP_Rule_o_t_p0d0d1d2, hm, F0.kp, (F0.bindsN (ps := ["kit"]) fun _ _ _ _ _ _ us hl => match us, hl with | [_], _ => rfl), (kw_binds (ps := ["kit"]) F0 fun _ _ _ _ _ _ us hl => match us, hl with | [_], _ => rfl)⟩

/-! law -/
abbrev s_law : Stmt := top 22
abbrev N_law : List Str := ["script", "place", "kit", "turn"]
theorem sc_law : FnScope N_law ["script"] (defScope s_law) := ⟨rfl, rfl, rfl, by decide +kernel, rfl, by decide +kernel, by decide +kernel⟩
def fb_law (A_Rule : Addr) : {fb : CT [sVal (cLK cI), sAny, sAny, sAny] → Res (Out (CT [sVal (cLK cI), sAny, sAny, sAny]) Bool) // ∀ {P : Program} {w : World} {K : Frag} {mg : Str → Option Value} {base : Heap} {ca : Str → Addr} (M_range : mg "range" = none) (M_max : mg "max" = none) (M_min : mg "min" = none) (M_len : mg "len" = none) (D__law_kit : DefG P w K mg base 1 "_law_kit" ["script", "place"] (spP K ca (aCons (cLK cI) (aOne cI)) (rO (oL cI)) F__law_kit)) (D__law_right : DefG P w K mg base 6 "_law_right" ["kit"] (spI K ca (oL cI) aNil (rV cB) F__law_right)) (f : Addr) (nd : N_law.Nodup) cd A outer s H E hr hgd, BX (ambOf P w K mg base ca N_law nd 6 "law" (defScope s_law) f cd A outer s H E hr hgd) [sVal (cLK cI), sAny, sAny, sAny] (defBody s_law) [sVal (cLK cI), sAny, sAny, sAny] (rrP (rV cB)) fb} := ⟨_, by
  intro P w K mg base ca M_range M_max M_min M_len D__law_kit D__law_right f nd cd A outer s H E hr hgd
  refine' bx_cons (G1 := [sVal (cLK cI), sAny, sAny, sAny]) ?g186 ?g187
  case g186 =>
    refine' sx_for (G1 := [sVal (cLK cI), sVal cI, sAny, sAny]) (G2 := [sVal (cLK cI), sVal cI, sOwn PAny (oL cI), sAny]) (rix_r1 (by rfl) (by exact M_range) (rex_callB ct_max2 (by rfl) (by exact M_max) (by decide +kernel) (rax_cons rex_int (rax_one (rex_callB ct_min2 (by rfl) (by exact M_min) (by decide +kernel) (rax_cons rex_int (rax_one (rex_callB ct_lenK (by rfl) (by exact M_len) (by decide +kernel) (rax_one (rex_var at_z (by rfl) (by first | exact Or.inl rfl | exact Or.inr (Or.inl rfl) | exact Or.inr (Or.inr rfl)))))))))))) (gx_name (up_s up_z) (by rfl) (by first | exact Or.inl rfl | exact Or.inr rfl) (by exact trivial) (by first | exact Or.inl rfl | exact Or.inr rfl)) ?g185 (sc_same (sc_any (sc_any sc_id)))
    case g185 =>
      refine' bx_cons (G1 := [sVal (cLK cI), sVal cI, sOwn PAny (oL cI), sAny]) ?g183 ?g184
      case g183 =>
        exact sx_setO (up_s (up_s up_z)) (by rfl) (by first | exact Or.inl rfl | exact Or.inr rfl) (rex_cal D__law_kit (Nat.le_of_ble_eq_true (by rfl)) (by rfl) rto (rax_cons (rex_var at_z (by rfl) (by first | exact Or.inl rfl | exact Or.inr (Or.inl rfl) | exact Or.inr (Or.inr rfl))) (rax_one (rex_var (at_s at_z) (by rfl) (by first | exact Or.inl rfl | exact Or.inr (Or.inl rfl) | exact Or.inr (Or.inr rfl)))))) (by exact trivial) (by rfl) (by first | exact Or.inl rfl | exact Or.inr rfl)
      case g184 =>
        refine' bx_one ?_
        refine' sx_for (G1 := [sVal (cLK cI), sVal cI, sOwn PAny (oL cI), sVal cI]) (G2 := [sVal (cLK cI), sVal cI, sOwn PAny (oL cI), sVal cI]) (rix_r1 (by rfl) (by exact M_range) rex_int) (gx_name (up_s (up_s (up_s up_z))) (by rfl) (by first | exact Or.inl rfl | exact Or.inr rfl) (by exact trivial) (by first | exact Or.inl rfl | exact Or.inr rfl)) ?g182 (sc_same (sc_same (sc_same (sc_any sc_id))))
        case g182 =>
          refine' bx_one ?_
          refine' sx_if (G' := [sVal (cLK cI), sVal cI, sOwn PAny (oL cI), sVal cI]) (tx_not (tx_val (ex_calI (at_s (at_s at_z)) (md_s (md_s md_z)) D__law_right (Nat.le_of_ble_eq_true (by rfl)) (by rfl) rtvI (by rfl) (by first | exact Or.inl rfl | exact Or.inr (Or.inl rfl) | exact Or.inr (Or.inr rfl)) rax_nil))) ?g180 ?g181
          case g180 =>
            refine' bx_one ?_
            exact sx_ret rex_bool
          case g181 =>
            exact bx_nil
  case g187 =>
    refine' bx_one ?_
    exact sx_ret rex_bool⟩
def F_law (y : (List Int)) : Res Bool := Res.bind ((fb_law 0 ).1 (y, ((), ((), ((), ()))))) endV

theorem okF_law {P : Program} {w : World} {K : Frag} {mg : Str → Option Value} {base : Heap} {ca : Str → Addr} {fa : Addr} {dvs : List V} {kws : List (Str × V)} {fd : FuncData} {A_Rule : Addr} (F0 : FunD K "law" "law" (defArgs s_law) (defBody s_law) (defScope s_law) dvs kws fa fd) (M_range : mg "range" = none) (M_max : mg "max" = none) (M_min : mg "min" = none) (M_len : mg "len" = none) (D__law_kit : DefG P w K mg base 1 "_law_kit" ["script", "place"] (spP K ca (aCons (cLK cI) (aOne cI)) (rO (oL cI)) F__law_kit)) (D__law_right : DefG P w K mg base 6 "_law_right" ["kit"] (spI K ca (oL cI) aNil (rV cB) F__law_right)) : FnG P w K mg base 7 fa fd ["script"] (spP K ca (aOne (cLK cI)) (rV cB) F_law) :=
  fn_P (as := (aOne (cLK cI))) (G0 := [sVal (cLK cI), sAny, sAny, sAny]) (ini := (fun y => (y, ((), ((), ((), ())))))) (fb := (fb_law A_Rule ).1) F0 sc_law (by rfl) (fun L H vs y wf h => by obtain ⟨v1, rfl, h1⟩ := h; exact ⟨⟨v1, rfl, h1⟩, trivial, trivial, trivial, Nat.le_of_ble_eq_true (by rfl)⟩) (fun nd cd A outer s H E hr hgd => (fb_law A_Rule ).2 M_range M_max M_min M_len D__law_kit D__law_right fa nd cd A outer s H E hr hgd) (fun y => rfl)
theorem ok_law {P : Program} {w : World} {K : Frag} {mg : Str → Option Value} {base : Heap} {ca : Str → Addr} {fa : Addr} {fd : FuncData} {A_Rule : Addr} (F0 : FunD K "law" "law" (defArgs s_law) (defBody s_law) (defScope s_law) [] [] fa fd) (M_range : mg "range" = none) (M_max : mg "max" = none) (M_min : mg "min" = none) (M_len : mg "len" = none) (D__law_kit : DefG P w K mg base 1 "_law_kit" ["script", "place"] (spP K ca (aCons (cLK cI) (aOne cI)) (rO (oL cI)) F__law_kit)) (D__law_right : DefG P w K mg base 6 "_law_right" ["kit"] (spI K ca (oL cI) aNil (rV cB) F__law_right)) (hm : mg "law" = some (.ref fa)) : DefG P w K mg base 7 "law" ["script"] (spP K ca (aOne (cLK cI)) (rV cB) F_law) :=
  ⟨fa, fd, okF_law (A_Rule := A_Rule) F0 M_range M_max M_min M_len D__law_kit D__law_right, hm, F0.kp, (F0.bindsN (ps := ["script"]) fun _ _ _ _ _ _ us hl => match us, hl with | [_], _ => rfl), (kw_binds (ps := ["script"]) F0 fun _ _ _ _ _ _ us hl => match us, hl with | [_], _ => rfl)⟩

end Pf
set_option maxRecDepth 100000
set_option linter.all false
namespace Pf
open PySem L2 PyProof AC
structure Kl (n : Nat) (w : List Int) : Prop where
  ex : ∃ a b c : Int, w = [a, b, c] ∧ 0 ≤ a ∧ 0 ≤ b ∧ b < 2 ^ 62 ∧ 0 ≤ c ∧ c ≤ n
theorem Kl.mono {n m : Nat} {w : List Int} (h : Kl n w) (hm : n ≤ m) : Kl m w := by
  obtain ⟨a, b, c, e, h1, h2, h3, h4, h5⟩ := h.ex
  exact ⟨a, b, c, e, h1, h2, h3, h4, by omega⟩
theorem powC {x : Int} {n : Nat} (h0 : 0 ≤ x) (h : x < 2 ^ n) (hn : 0 < n) (hl : n < 40000000) : powO x 3 = some (x ^ 3) := by
  have := log2_lt h0 h hn
  unfold powO
  rw [if_pos ⟨by decide, by unfold Builtin.Int.intBits; split <;> omega⟩]
  rfl
theorem mul_lt2 {x y : Int} {n m : Nat} (hx : 0 ≤ x) (hx2 : x < 2 ^ n) (hy : 0 ≤ y) (hy2 : y < 2 ^ m) : 0 ≤ x * y ∧ x * y < 2 ^ (n + m) := by
  refine ⟨Int.mul_nonneg hx hy, ?_⟩
  rw [Int.pow_add]
  calc x * y ≤ x * 2 ^ m := Int.mul_le_mul_of_nonneg_left (by omega) hx
    _ < 2 ^ n * 2 ^ m := Int.mul_lt_mul_of_pos_right hx2 (Int.pow_pos (by decide))
theorem pow3_lt {x : Int} {n : Nat} (h0 : 0 ≤ x) (h : x < 2 ^ n) : 0 ≤ x ^ 3 ∧ x ^ 3 < 2 ^ (n + n + n) := by
  have e : x ^ 3 = x * x * x := by rw [Int.pow_succ, Int.pow_succ, Int.pow_succ, Int.pow_zero, Int.one_mul]
  rw [e]
  have h1 := mul_lt2 h0 h h0 h
  exact mul_lt2 h1.1 h1.2 h0 h
theorem lkit_ok {script : List Int} {place : Nat} (h : place < 2 ^ 30) : Ok (F__law_kit (script, (place : Int))) fun r => Kl 0 r := by
  unfold F__law_kit
  delta fb__law_kit
  dsimp only
  simp only [Res.bind_ok, Res.bind_assoc, Out.seq, Out.map, endV, ofO_some]
  have key : ∀ z : Int, Ok (Res.bind (ofO (mulO (if z < 0 then -z else z) 2)) fun x => Res.bind (ofO (modO (x + if decide (z < 0) = true then 1 else 0) 2305843009213693951)) fun x => Res.bind (ofO (powO 10 18)) fun x_1 => Res.bind (ofO (mulO z (if decide (x_1 ≤ z) = true then 1 else 0))) fun x_2 => Res.bind (ofO (mulO 1000003 (place : Int))) fun x_3 => Res.ok [x_2, x + x_3, 0]) fun r => Kl 0 r := fun z => by
    refine ok_ofO (mulO_small (by decide) (by decide)) ?_
    refine ok_ofO (modO_ok (by decide)) ?_
    refine ok_ofO (x := 10 ^ 18) (by rfl) ?_
    refine ok_ofO (mulO_small (by split <;> decide) (by split <;> decide)) ?_
    refine ok_ofO (mulO_smallL (by decide) (by decide)) ?_
    generalize hm : ((if z < 0 then -z else z) * 2 + if decide (z < 0) = true then (1 : Int) else 0) = m
    have h1 : 0 ≤ m % 2305843009213693951 := Int.emod_nonneg _ (by decide)
    have h2 : m % 2305843009213693951 < 2305843009213693951 := Int.emod_lt_of_pos _ (by decide)
    refine ⟨_, _, _, rfl, ?_, by omega, by omega, by omega, by omega⟩
    by_cases hz : (10 : Int) ^ 18 ≤ z
    · rw [decide_eq_true hz, if_pos rfl]; omega
    · rw [decide_eq_false hz, if_neg Bool.false_ne_true]; omega
  by_cases hp : (place : Int) < (script.length : Int)
  · simp only [decide_eq_true hp, if_true, Res.bind_assoc, Res.bind_ok]
    refine ok_ofO (atI_get (List.getElem?_eq_getElem (by omega))) ?_
    exact key script[place]
  · simp only [decide_eq_false hp, Bool.false_eq_true, if_false, Res.bind_assoc, Res.bind_ok]
    exact key 0
theorem toss_ok {n : Nat} {w : List Int} {m : Int} (hw : Kl n w) (hn : n < 2 ^ 40) (h0 : 0 < m) (hm : m < 2 ^ 200) : Ok (F__law_toss w m) fun r => 0 ≤ r.1 ∧ r.1 < m ∧ Kl (n + 1) r.2 := by
  obtain ⟨a, b, c, rfl, ha, hb, hb2, hc, hc2⟩ := hw.ex
  unfold F__law_toss
  delta fb__law_toss
  dsimp only
  simp only [Res.bind_ok, Res.bind_assoc, Out.seq, Out.map, endV, ofO_some]
  refine ok_ofO (x := a) rfl ?_
  simp only [decide_eq_true_eq]
  by_cases hp : 0 < a
  · rw [if_pos hp]
    simp only [Res.bind_ok, Res.bind_assoc, Out.seq, Out.map, endV, ofO_some]
    refine ok_ofO (x := a) rfl ?_
    refine ok_ofO (modO_ok h0) ?_
    refine ok_ofO (x := a) rfl ?_
    refine ok_ofO (divO_ok h0 hm (by decide) (by decide)) ?_
    refine ok_ofO (x := [a / m, b, c]) rfl ?_
    exact ⟨Int.emod_nonneg _ (by omega), Int.emod_lt_of_pos _ h0, a / m, b, c, rfl, Int.ediv_nonneg ha (by omega), hb, hb2, hc, by omega⟩
  · rw [if_neg hp]
    simp only [Res.bind_ok, Res.bind_assoc, Out.seq, Out.map, endV, ofO_some]
    refine ok_ofO (x := c) rfl ?_
    refine ok_ofO (x := [a, b, c + 1]) rfl ?_
    refine ok_ofO (x := b) rfl ?_
    refine ok_ofO (x := c + 1) rfl ?_
    have q1 : c + 1 < 2 ^ 41 := by omega
    have q0 : 0 ≤ c + 1 := by omega
    refine ok_ofO (mulO_smallL (by decide) (by decide)) ?_
    have p3 : b + 6700417 * (c + 1) < 2 ^ 70 := by omega
    refine ok_ofO (powC (n := 70) (by omega) p3 (by decide) (by decide)) ?_
    refine ok_ofO (x := c + 1) rfl ?_
    refine ok_ofO (mulO_smallL (by decide) (by decide)) ?_
    refine ok_ofO (modO_ok (by decide)) ?_
    refine ok_ofO (x := c + 1) rfl ?_
    refine ok_ofO (mulO_smallL (by decide) (by decide)) ?_
    generalize hz : ((b + 6700417 * (c + 1)) ^ 3 + 97 * (c + 1)) % 2305843009213693951 = z
    have r0 : 0 ≤ z := by rw [← hz]; exact Int.emod_nonneg _ (by decide)
    have r1 : z < 2305843009213693951 := by rw [← hz]; exact Int.emod_lt_of_pos _ (by decide)
    have p6 : z + 2971215073 * (c + 1) < 2 ^ 80 := by omega
    refine ok_ofO (powC (n := 80) (by omega) p6 (by decide) (by decide)) ?_
    refine ok_ofO (modO_ok (by decide)) ?_
    refine ok_ofO (divO_ok (m := 20) (by decide) (by decide) (by decide) (by decide)) ?_
    refine ok_ofO (modO_ok h0) ?_
    exact ⟨Int.emod_nonneg _ (by omega), Int.emod_lt_of_pos _ h0, a, b, c + 1, rfl, ha, hb, hb2, q0, by omega⟩
theorem at_ok {α : Type} {xs : List α} {v : Int} (h0 : 0 ≤ v) (h : v < (xs.length : Int)) : ∃ z, atI xs v = some z ∧ xs[v.toNat]? = some z := by
  obtain ⟨k, rfl⟩ := Int.eq_ofNat_of_zero_le h0
  have hk : k < xs.length := by omega
  exact ⟨xs[k], atI_get (List.getElem?_eq_getElem hk), by simpa using List.getElem?_eq_getElem hk⟩
/-- an answer is None or small -/
def SmallA (y : Option Int) : Prop := ∀ z, y = some z → -1000 ≤ z ∧ z ≤ 1000
end Pf
set_option maxRecDepth 100000
set_option linter.all false
namespace Pf
open PySem L2 PyProof AC
def mk (l : List Nat) : Str := ⟨l.toArray⟩
theorem mk_len (l : List Nat) : (mk l).length = l.length := by show l.toArray.size = _; simp
theorem mk_inj {a b : List Nat} (h : mk a = mk b) : a = b := by
  have : (mk a).cps.toList = (mk b).cps.toList := by rw [h]
  simpa [mk] using this
abbrev Chars (l : List Nat) : Prop := ∀ c ∈ l, 97 ≤ c ∧ c ≤ 122
theorem okS_mk {l : List Nat} (h : Chars l) (hl : l.length ≤ 1000) : okS (mk l) = some (mk l) := by
  unfold okS
  rw [if_pos]
  refine ⟨?_, by rw [mk_len]; omega⟩
  show l.toArray.all _ = true
  rw [List.all_toArray, List.all_eq_true]
  intro c hc
  have := h c hc
  rw [decide_eq_true_eq]; omega
theorem add_mk {a b : List Nat} (ha : Chars a) (hb : Chars b) (hl : a.length + b.length ≤ 1000) : addSO (mk a) (mk b) = some (mk (a ++ b)) := by
  unfold addSO
  rw [mk_len, mk_len, if_pos (by omega)]
  have e : mk a ++ mk b = mk (a ++ b) := by
    show (⟨a.toArray ++ b.toArray⟩ : Str) = ⟨(a ++ b).toArray⟩
    simp
  rw [e]
  exact okS_mk (fun c hc => (List.mem_append.mp hc).elim (ha c) (hb c)) (by rw [List.length_append]; omega)
theorem cut_mk1 {l : List Nat} {i : Nat} (h : i ≤ l.length) : cutS (mk l) none (some (i : Int)) = mk (l.take i) := by
  unfold cutS
  rw [HT.sIx_none, HT.sIx_nat, mk_len, Nat.min_eq_left h]
  rfl
theorem cut_mk2 {l : List Nat} {i : Nat} (h : i ≤ l.length) : cutS (mk l) (some (i : Int)) none = mk (l.drop i) := by
  unfold cutS
  rw [HT.sIx_none, HT.sIx_nat, mk_len, Nat.min_eq_left h]
  show mk ((l.drop i).take (l.length - i)) = _
  rw [List.take_of_length_le (by rw [List.length_drop]; omega)]
def abc : Str := "abcdefghijklmnopqrstuvwxyz"
theorem abc_list : abc.cps.toList = (List.range 26).map (97 + ·) := by decide +kernel
theorem abc_at {i : Int} (h0 : 0 ≤ i) (h : i < 26) : sAt abc i = some (mk [97 + i.toNat]) := by
  obtain ⟨k, rfl⟩ := Int.eq_ofNat_of_zero_le h0
  have hk : k < 26 := by omega
  unfold sAt
  rw [abc_list, atI_get (x := 97 + k) (by rw [List.getElem?_map, List.getElem?_range hk]; rfl)]
  rfl
theorem rep_mk {c n : Nat} (hc : 97 ≤ c ∧ c ≤ 122) (h1 : 1 ≤ n) (h8 : n ≤ 8) : mulSO (mk [c]) (n : Int) = some (mk (List.replicate n c)) := by
  have e : repS (mk [c]) (n : Int) = mk (List.replicate n c) := by
    obtain rfl | rfl | rfl | rfl | rfl | rfl | rfl | rfl : n = 1 ∨ n = 2 ∨ n = 3 ∨ n = 4 ∨ n = 5 ∨ n = 6 ∨ n = 7 ∨ n = 8 := by omega
    all_goals rfl
  unfold mulSO
  rw [e, mk_len, if_pos (by refine ⟨by omega, by omega, ?_⟩; show (1 : Int) * (n : Int) ≤ _; omega)]
  exact okS_mk (fun x hx => by rw [List.eq_of_mem_replicate hx]; exact hc) (by rw [List.length_replicate]; omega)
theorem join_mk : ∀ (l : List Nat), TL.joinL [] (l.map fun c => [c]) = l
  | [] => rfl
  | [c] => rfl
  | c :: d :: l => by
    have ih := join_mk (d :: l)
    show [c] ++ ([] ++ TL.joinL [] ([d] :: l.map fun c => [c])) = _
    rw [List.nil_append]
    have : TL.joinL [] ([d] :: l.map fun c => [c]) = d :: l := ih
    rw [this]
    rfl
theorem joinO_mk {l : List Nat} (h : Chars l) (hl : l.length ≤ 100) : joinO (mk []) (l.map fun c => mk [c]) = some (mk l) := by
  have e : Txt.join (mk []) (l.map fun c => mk [c]) = mk l := by
    have e1 := TL.tl_join (mk []) (l.map fun c => mk [c])
    have e2 : (l.map fun c => mk [c]).map TL.tl = l.map fun c => [c] := by
      rw [List.map_map]
      rfl
    rw [e2] at e1
    have e3 : TL.tl (mk []) = [] := rfl
    rw [e3, join_mk] at e1
    exact TL.ext_tl ((congrArg TL.tl (TL.join_eq (mk []) _)).trans e1)
  unfold joinO
  rw [e, if_pos]
  · exact okS_mk h (by omega)
  · have : ((l.map fun c => mk [c]).map (·.length)).sum = l.length := by
      rw [List.map_map]
      have : ((fun x => Str.length x) ∘ fun c => mk [c]) = fun _ => 1 := by funext c; exact mk_len [c]
      rw [this]
      clear e h hl this
      induction l with
      | nil => rfl
      | cons c l ih => rw [List.map_cons, List.sum_cons, ih, List.length_cons]; omega
    rw [this, mk_len]
    show l.length + _ * 0 ≤ _
    omega
theorem nodup_ints {α : Type} {m : Nat} {g : Int → α} (h : ∀ i j : Nat, i < j → j < m → g (i : Int) ≠ g (j : Int)) : ((intsFrom 0 m).map g).Nodup := by
  unfold AC.intsFrom
  rw [List.map_map]
  refine List.pairwise_map.mpr ?_
  refine List.Pairwise.imp_of_mem ?_ (List.pairwise_lt_range (n := m))
  intro a b ha hb hab
  have := h a b hab (List.mem_range.mp hb)
  simpa using this
/-- short words of small letters -/
structure Low (w : Str) : Prop where
  ex : ∃ l, w = mk l ∧ 1 ≤ l.length ∧ l.length ≤ 8 ∧ Chars l
def GoodN (m : Nat) (ws : List Str) : Prop := ws.length = m ∧ ws.Nodup ∧ ∀ x ∈ ws, Low x
def TEXTS : List Str := ["early", "keyed", "ranks", "plain", "look", "off", "on", "add", "state", "cut", "done", "run"]
theorem texts_low : ∀ x ∈ TEXTS, Low x := by
  have h : ∀ x ∈ TEXTS, 1 ≤ x.cps.toList.length ∧ x.cps.toList.length ≤ 8 ∧ Chars x.cps.toList := by decide +kernel
  intro x hx
  obtain ⟨h1, h2, h3⟩ := h x hx
  exact ⟨x.cps.toList, by cases x; simp [mk], h1, h2, h3⟩
theorem texts_nd : TEXTS.Nodup := by decide +kernel
end Pf
set_option maxRecDepth 100000
set_option linter.all false
namespace Pf
open PySem L2 PyProof AC
theorem abc_nat {k : Nat} (h : k < 26) : sAt abc (k : Int) = some (mk [97 + k]) := by
  have := abc_at (i := (k : Int)) (by omega) (by omega)
  rw [Int.toNat_natCast] at this
  exact this
theorem mod_ne {p a : Int} {i j : Nat} {q : Int} (hq : 0 < q) (h : ∀ d : Int, 0 < d → d < 12 → (p * d) % q ≠ 0) (hij : i < j) (hj : j < 12) : (a + p * (i : Int)) % q ≠ (a + p * (j : Int)) % q := fun e => by
  have := h ((j : Int) - (i : Int)) (by omega) (by omega)
  apply this
  have e2 : ((a + p * (j : Int)) - (a + p * (i : Int))) % q = 0 := by
    rw [Int.sub_emod, e, Int.sub_self, Int.zero_emod]
  have e3 : (a + p * (j : Int)) - (a + p * (i : Int)) = p * ((j : Int) - (i : Int)) := by rw [Int.mul_sub]; omega
  rw [e3] at e2
  exact e2
theorem one_of {k : Int} {u : Int} (hu : u ∈ ([1, 3, 5, 7, 11] : List Int)) : ∀ d : Int, 0 < d → d < 12 → (u * d) % 26 ≠ 0 := by
  intro d h0 h1
  simp only [List.mem_cons, List.not_mem_nil, or_false] at hu
  rcases hu with rfl | rfl | rfl | rfl | rfl <;> omega
theorem tags_ok {n m : Nat} {w : List Int} (hw : Kl n w) (hn : n + 100 < 2 ^ 40) (h1 : 1 ≤ m) (hm : m ≤ 12) : Ok (F__law_tags w (m : Int)) fun r => GoodN m r.1 ∧ Kl (n + 30) r.2 := by
  unfold F__law_tags
  delta fb__law_tags
  dsimp only
  simp only [bok, Res.bind_assoc, seqN, seqR, mapN, mapRt, endR, ofS, id]
  refine ok_bind (toss_ok hw (by omega) (by decide) (by decide)) ?_
  rintro ⟨way, w1⟩ ⟨a1, a2, a3⟩
  dsimp only at *
  refine ok_bind (toss_ok a3 (by omega) (by decide) (by decide)) ?_
  rintro ⟨at_, w2⟩ ⟨b1, b2, b3⟩
  dsimp only at *
  refine ok_bind (Q := fun r => r = (decide (way = 0) && decide ((m : Int) < 9))) ?_ ?_
  · by_cases hz : way = 0
    · simp only [decide_eq_true hz, if_true, Bool.true_and]; exact rfl
    · simp only [decide_eq_false hz, Bool.false_eq_true, if_false, Bool.false_and]; exact rfl
  rintro _ rfl
  obtain ⟨k0, rfl⟩ := Int.eq_ofNat_of_zero_le b1
  have hk0 : k0 < 26 := by omega
  by_cases q0 : (decide (way = 0) && decide ((m : Int) < 9)) = true
  · simp only [q0, if_true, Res.bind_assoc, rng1_ok (show m ≤ 16777216 by omega), bok, seqN, seqR, endR]
    have hm8 : m ≤ 8 := by
      rw [Bool.and_eq_true] at q0
      have := of_decide_eq_true q0.2
      omega
    refine ok_bind (ok_mapE (fun x => mk (List.replicate (x.toNat + 1) (97 + k0))) ?_) ?_
    · intro x hx
      obtain ⟨i, hi, e⟩ := List.mem_iff_getElem.mp hx
      obtain ⟨rfl, hi⟩ := ints_get (List.getElem?_eq_some_iff.mpr ⟨hi, e⟩)
      refine ok_ofO (abc_nat hk0) ?_
      rw [show ((i : Int) + 1) = ((i + 1 : Nat) : Int) by omega]
      have hr := rep_mk (c := 97 + k0) (n := i + 1) (by omega) (by omega) (by omega)
      rw [hr]
      rw [Int.toNat_natCast]
      exact rfl
    rintro _ rfl
    refine ⟨⟨by show List.length (List.map _ _) = m; rw [List.length_map, intsFrom_len], nodup_ints fun i j hij hj e => ?_, fun x hx => ?_⟩, b3.mono (by omega)⟩
    · have := mk_inj e
      have := congrArg List.length this
      simp at this
      omega
    · obtain ⟨y, hy, rfl⟩ := List.mem_map.mp hx
      obtain ⟨i, hi, e⟩ := List.mem_iff_getElem.mp hy
      obtain ⟨rfl, hi⟩ := ints_get (List.getElem?_eq_some_iff.mpr ⟨hi, e⟩)
      exact ⟨_, rfl, by simp, by simp; omega, fun c hc => by rw [List.eq_of_mem_replicate hc]; omega⟩
  · simp only [if_neg q0, bok, Res.bind_assoc, seqN, seqR, endR]
    by_cases q1 : way = 1
    · simp only [decide_eq_true q1, if_true, bok, Res.bind_assoc, seqN, seqR, endR, rng1_ok (show m ≤ 16777216 by omega)]
      refine ok_bind (ok_mapE (fun x => (TEXTS[(((k0 : Int) + 5 * x) % 12).toNat]?).getD "") ?_) ?_
      · intro x hx
        obtain ⟨i, hi, e⟩ := List.mem_iff_getElem.mp hx
        obtain ⟨rfl, hi⟩ := ints_get (List.getElem?_eq_some_iff.mpr ⟨hi, e⟩)
        refine ok_ofO (mulO_smallL (by decide) (by decide)) ?_
        refine ok_ofO (modO_ok (by decide)) ?_
        obtain ⟨u, hu, hg⟩ := at_ok (xs := TEXTS) (v := ((k0 : Int) + 5 * (i : Int)) % 12) (Int.emod_nonneg _ (by decide)) (Int.emod_lt_of_pos _ (by decide))
        refine ok_ofE hu ?_
        rw [hg]
        exact rfl
      rintro _ rfl
      have hat : ∀ i : Nat, ∃ u, TEXTS[(((k0 : Int) + 5 * (i : Int)) % 12).toNat]? = some u := fun i => by
        obtain ⟨u, hu, hg⟩ := at_ok (xs := TEXTS) (v := ((k0 : Int) + 5 * (i : Int)) % 12) (Int.emod_nonneg _ (by decide)) (Int.emod_lt_of_pos _ (by decide))
        exact ⟨u, hg⟩
      refine ⟨⟨by show List.length (List.map _ _) = m; rw [List.length_map, intsFrom_len], nodup_ints fun i j hij hj e => ?_, fun x hx => ?_⟩, b3.mono (by omega)⟩
      · obtain ⟨u, hu⟩ := hat i
        obtain ⟨v, hv⟩ := hat j
        rw [hu, hv] at e
        have e : u = v := e
        subst e
        have := nodup_get texts_nd hu hv
        have hne := mod_ne (p := 5) (a := (k0 : Int)) (i := i) (j := j) (q := 12) (by decide) (fun d h0 h1 => by omega) hij (by omega)
        have g1 := Int.emod_nonneg ((k0 : Int) + 5 * (i : Int)) (show (12 : Int) ≠ 0 by decide)
        have g2 := Int.emod_nonneg ((k0 : Int) + 5 * (j : Int)) (show (12 : Int) ≠ 0 by decide)
        omega
      · obtain ⟨y, hy, rfl⟩ := List.mem_map.mp hx
        obtain ⟨i, hi, e⟩ := List.mem_iff_getElem.mp hy
        obtain ⟨rfl, hi⟩ := ints_get (List.getElem?_eq_some_iff.mpr ⟨hi, e⟩)
        obtain ⟨u, hu⟩ := hat i
        rw [hu]
        exact texts_low u (List.mem_of_getElem? hu)
    · simp only [decide_eq_false q1, Bool.false_eq_true, if_false, bok, Res.bind_assoc, seqN, seqR, endR]
      refine ok_bind (toss_ok b3 (by omega) (by decide) (by decide)) ?_
      rintro ⟨z, w3⟩ ⟨c1, c2, c3⟩
      dsimp only at *
      obtain ⟨t, ht⟩ : ∃ t : Nat, 1 + z = (t : Int) := ⟨(1 + z).toNat, by omega⟩
      rw [ht, rng1_ok (show t ≤ 16777216 by omega)]
      simp only [bok]
      refine ok_bind (ok_map (fun i b => ∃ w' : List Int, b = (w', (m : Int), (), abc, way, (k0 : Int), (), (), (), (), (), ()) ∧ Kl (n + 3 + i) w') (fun _ y => ∃ c : Nat, y = mk [c] ∧ 97 ≤ c ∧ c ≤ 122) ⟨w3, rfl, c3⟩ ?_) ?_
      · rintro i x b hx ⟨w', rfl, h⟩
        have hi := (ints_get hx).2
        dsimp only
        refine ok_bind (toss_ok h (by omega) (by decide) (by decide)) ?_
        rintro ⟨u, v⟩ ⟨d1, d2, d3⟩
        dsimp only at *
        refine ok_ofO (abc_at d1 d2) ?_
        exact ⟨⟨97 + u.toNat, rfl, by omega, by omega⟩, v, rfl, d3⟩
      rintro ⟨parts, b⟩ ⟨l1, l2, w4, rfl, h4⟩
      rw [intsFrom_len] at l1 h4
      dsimp only at l1 l2 ⊢
      obtain ⟨l, hl, hlen, hch⟩ : ∃ l : List Nat, parts = l.map (fun c => mk [c]) ∧ l.length = t ∧ Chars l := by
        clear h4
        have key : ∀ (ps : List Str), (∀ y ∈ ps, ∃ c : Nat, y = mk [c] ∧ 97 ≤ c ∧ c ≤ 122) → ∃ l : List Nat, ps = l.map (fun c => mk [c]) ∧ l.length = ps.length ∧ Chars l := by
          intro ps
          induction ps with
          | nil => exact fun _ => ⟨[], rfl, rfl, fun c hc => by cases hc⟩
          | cons y ps ih =>
            intro h
            obtain ⟨c, e1, e2, e3⟩ := h y List.mem_cons_self
            obtain ⟨l, g1, g2, g3⟩ := ih fun z hz => h z (List.mem_cons_of_mem _ hz)
            exact ⟨c :: l, by rw [List.map_cons, e1, g1], by rw [List.length_cons, List.length_cons, g2], fun d hd => by
              rcases List.mem_cons.mp hd with rfl | hd
              · exact ⟨e2, e3⟩
              · exact g3 d hd⟩
        obtain ⟨l, g1, g2, g3⟩ := key parts fun y hy => by
          obtain ⟨i, hi, e⟩ := List.mem_iff_getElem.mp hy
          exact l2 i y (List.getElem?_eq_some_iff.mpr ⟨hi, e⟩)
        exact ⟨l, g1, by rw [g2, l1], g3⟩
      subst hl
      refine ok_ofO (joinO_mk hch (by omega)) ?_
      rw [mk_len, hlen]
      refine ok_bind (toss_ok h4 (by omega) (by omega) (by omega)) ?_
      rintro ⟨sp, w5⟩ ⟨d1, d2, d3⟩
      dsimp only at *
      refine ok_bind (toss_ok d3 (by omega) (by decide) (by decide)) ?_
      rintro ⟨pi, w6⟩ ⟨e1, e2, e3⟩
      dsimp only at *
      obtain ⟨pc, hpc, hpg⟩ := at_ok (xs := ([1, 3, 5, 7, 11] : List Int)) e1 e2
      have hpm := List.mem_of_getElem? hpg
      refine ok_ofO hpc ?_
      obtain ⟨s, rfl⟩ := Int.eq_ofNat_of_zero_le d1
      simp only [rng1_ok (show m ≤ 16777216 by omega), bok, endR]
      refine ok_bind (ok_mapE (fun x => mk (l.take s ++ [97 + (((k0 : Int) + pc * x) % 26).toNat] ++ l.drop (s + 1))) ?_) ?_
      · intro x hx
        obtain ⟨i, hi, e⟩ := List.mem_iff_getElem.mp hx
        obtain ⟨rfl, hi⟩ := ints_get (List.getElem?_eq_some_iff.mpr ⟨hi, e⟩)
        rw [cut_mk1 (by omega), show ((s : Int) + 1) = ((s + 1 : Nat) : Int) by omega, cut_mk2 (by omega)]
        have g1 := Int.emod_nonneg ((k0 : Int) + pc * (i : Int)) (show (26 : Int) ≠ 0 by decide)
        have g2 := Int.emod_lt_of_pos ((k0 : Int) + pc * (i : Int)) (show (0 : Int) < 26 by decide)
        have ch1 : Chars (l.take s) := fun c hc => hch c (List.mem_of_mem_take hc)
        have ch2 : Chars (l.drop (s + 1)) := fun c hc => hch c (List.mem_of_mem_drop hc)
        have ch3 : Chars [97 + (((k0 : Int) + pc * (i : Int)) % 26).toNat] := fun c hc => by
          have : c = 97 + (((k0 : Int) + pc * (i : Int)) % 26).toNat := by simpa using hc
          omega
        refine ok_ofO (okS_mk ch1 (by rw [List.length_take]; omega)) ?_
        refine ok_ofO (mulO_small (by omega) (by omega)) ?_
        refine ok_ofO (modO_ok (by decide)) ?_
        refine ok_ofO (abc_at g1 g2) ?_
        refine ok_ofO (add_mk ch1 ch3 (by rw [List.length_take, List.length_singleton]; omega)) ?_
        refine ok_ofO (okS_mk ch2 (by rw [List.length_drop]; omega)) ?_
        refine ok_ofE (add_mk (fun c hc => (List.mem_append.mp hc).elim (ch1 c) (ch3 c)) ch2 (by rw [List.length_append, List.length_take, List.length_singleton, List.length_drop]; omega)) ?_
        exact rfl
      rintro _ rfl
      refine ⟨⟨by show List.length (List.map _ _) = m; rw [List.length_map, intsFrom_len], nodup_ints fun i j hij hj e => ?_, fun x hx => ?_⟩, e3.mono (by omega)⟩
      · have e := mk_inj e
        rw [List.append_assoc, List.append_assoc] at e
        have e := List.append_cancel_left e
        have e : 97 + (((k0 : Int) + pc * (i : Int)) % 26).toNat = 97 + (((k0 : Int) + pc * (j : Int)) % 26).toNat := (List.cons.inj e).1
        have hne := mod_ne (p := pc) (a := (k0 : Int)) (i := i) (j := j) (q := 26) (by decide) (one_of (k := 0) hpm) hij (by omega)
        have g1 := Int.emod_nonneg ((k0 : Int) + pc * (i : Int)) (show (26 : Int) ≠ 0 by decide)
        have g2 := Int.emod_nonneg ((k0 : Int) + pc * (j : Int)) (show (26 : Int) ≠ 0 by decide)
        omega
      · obtain ⟨y, hy, rfl⟩ := List.mem_map.mp hx
        have g1 := Int.emod_nonneg ((k0 : Int) + pc * y) (show (26 : Int) ≠ 0 by decide)
        have g2 := Int.emod_lt_of_pos ((k0 : Int) + pc * y) (show (0 : Int) < 26 by decide)
        refine ⟨_, rfl, by simp; omega, by rw [List.length_append, List.length_append, List.length_take, List.length_singleton, List.length_drop]; omega, fun c hc => ?_⟩
        rcases List.mem_append.mp hc with hc | hc
        · rcases List.mem_append.mp hc with hc | hc
          · exact hch c (List.mem_of_mem_take hc)
          · have : c = 97 + (((k0 : Int) + pc * y) % 26).toNat := by simpa using hc
            omega
        · exact hch c (List.mem_of_mem_drop hc)
end Pf
set_option maxRecDepth 100000
set_option linter.all false
/-! RU1: rules as built. -/
namespace Pf
open PySem L2 PyProof AC PySem.W
theorem ru_abc {c : Nat} (h : 97 ≤ c ∧ c ≤ 122) : sgnIn ⟨#[c]⟩ lettersS = some true := by
  show (match ([c] : List Nat) with
    | [c] => some (decide (c ∈ lettersS.cps.toList))
    | _ => none) = some true
  have e : lettersS.cps.toList = (List.range 26).map (97 + ·) := by decide +kernel
  rw [e]
  have : c ∈ (List.range 26).map (97 + ·) := List.mem_map.mpr ⟨c - 97, List.mem_range.mpr (by omega), by omega⟩
  simp [this]
theorem ru_name {w : Str} (h : Low w) : F_is_name w = .ok true := by
  obtain ⟨l, rfl, h1, h2, hc⟩ := h.ex
  refine ok_eq ?_
  unfold F_is_name
  delta fb_is_name
  dsimp only
  simp only [bok, Res.bind_assoc, seqN, seqR, mapN, mapRt, endR, ofS, id, mk_len]
  have a1 : (1 : Int) ≤ (l.length : Int) := by omega
  have a2 : (l.length : Int) ≤ 8 := by omega
  simp only [decide_eq_true a1, decide_eq_true a2, if_true, bok, Res.bind_assoc]
  rw [mapP_ok (fun _ => true) fun x hx => by
    obtain ⟨c, hcm, rfl⟩ := List.mem_map.mp (show x ∈ (mk l).cps.toList.map fun c => (⟨#[c]⟩ : Str) from hx)
    rw [ru_abc (hc c (by simpa [mk] using hcm))]; rfl]
  simp only [bok]
  show (List.map (fun _ => true) (strL (mk l))).all id = true
  rw [List.all_map]
  exact List.all_eq_true.mpr fun _ _ => rfl
theorem ru_skip {α β ρ : Type} {f : α → β → Res (Out β ρ)} {b : β} : ∀ {xs : List α}, (∀ x ∈ xs, f x b = .ok (.nx b)) → forL xs f b = .ok (.nx b)
  | [], _ => rfl
  | x :: xs, h => by
    show (f x b).bind (Out.seq (forL xs f)) = _
    rw [h x List.mem_cons_self]
    exact ru_skip fun y hy => h y (List.mem_cons_of_mem _ hy)
theorem check_all_ok {names : List Str} (hw : ∀ w ∈ names, Low w) : F_check_all_names names = .ok () := by
  unfold F_check_all_names
  delta fb_check_all_names
  dsimp only
  simp only [bok, Res.bind_assoc, seqN, seqR, mapN, mapRt, endR, ofS, id]
  rw [ru_skip fun x hx => by
    simp only [ru_name (hw x hx), bok, Bool.not_true, Bool.false_eq_true, if_false, mapN]]
  rfl
theorem check_all_okT : F_check_all_names_o_t [] = .ok () := by
  unfold F_check_all_names_o_t
  delta fb_check_all_names_o_t
  rfl

/-! sorting -/
structure OrdT {α : Type} (t : α → PyData) : Prop where
  inj : ∀ a b, keyToks (t a) = keyToks (t b) → a = b
abbrev Lex {α : Type} (t : α → PyData) (a b : α) : Prop := dataLe false t a b = true
theorem le_anti {α : Type} {t : α → PyData} (O : OrdT t) {a b : α} (h1 : Lex t a b) (h2 : Lex t b a) : a = b := by
  refine O.inj _ _ (PyProof.Rows.lex_total (O := PyProof.Rows.itemOrd) _ _ ?_ ?_)
  · have : (!PyProof.Rows.lexLt PyProof.Rows.itemOrd (keyToks (t a)) (keyToks (t b))) = true := h2
    simpa using this
  · have : (!PyProof.Rows.lexLt PyProof.Rows.itemOrd (keyToks (t b)) (keyToks (t a))) = true := h1
    simpa using this
theorem srt_pair {α : Type} {t : α → PyData} {xs : List α} : (srt t xs).Pairwise (Lex t) := (sort_pairwise (sortLe_total _ _ _) xs).imp fun h => h
theorem sorted_uniq {α : Type} {t : α → PyData} (O : OrdT t) : ∀ {l m : List α}, l.Pairwise (Lex t) → m.Pairwise (Lex t) → l.Perm m → l = m
  | [], m, _, _, h => (List.Perm.eq_nil h.symm).symm
  | x :: l, [], _, _, h => absurd h.length_eq (by simp)
  | x :: l, y :: m, h1, h2, h => by
    have e : x = y := by
      rcases List.mem_cons.mp (h.mem_iff.mp List.mem_cons_self) with e | hx
      · exact e
      rcases List.mem_cons.mp (h.mem_iff.mpr List.mem_cons_self) with e | hy
      · exact e.symm
      exact le_anti O ((List.pairwise_cons.mp h1).1 y hy) ((List.pairwise_cons.mp h2).1 x hx)
    subst e
    rw [sorted_uniq O (List.pairwise_cons.mp h1).2 (List.pairwise_cons.mp h2).2 h.cons_inv]
theorem srt_p {α : Type} {t : α → PyData} {xs : List α} : (srt t xs).Perm xs := List.mergeSort_perm _ _
theorem srt_perm {α : Type} {t : α → PyData} (O : OrdT t) {l m : List α} (h : l.Perm m) : srt t l = srt t m := sorted_uniq O srt_pair srt_pair (srt_p.trans (h.trans srt_p.symm))
theorem srt_filter {α : Type} {t : α → PyData} (O : OrdT t) {l : List α} {p : α → Bool} : (srt t l).filter p = srt t (l.filter p) := sorted_uniq O (srt_pair.filter p) srt_pair ((srt_p.filter p).trans srt_p.symm)
theorem srt_idem {α : Type} {t : α → PyData} (O : OrdT t) {l : List α} : srt t (srt t l) = srt t l := srt_perm O srt_p
theorem str_inj {a b : Str} (h : a.cps.toList = b.cps.toList) : a = b := by
  cases a; cases b
  simp only [Str.mk.injEq]
  exact Array.toList_inj.mp h
theorem ord_str : OrdT PyData.str := ⟨fun a b h => by
  simp only [keyToks, List.cons.injEq, and_true, Sum.inr.injEq] at h
  exact str_inj h⟩
theorem ord_itS : OrdT (itD kS PyData.str) := ⟨fun a b h => by
  obtain ⟨a1, a2⟩ := a
  obtain ⟨b1, b2⟩ := b
  have h : keyToks (.tuple [.str a1, .str a2]) = keyToks (.tuple [.str b1, .str b2]) := h
  simp only [keyToks, keyToksAll, List.cons_append, List.nil_append, List.cons.injEq, Sum.inr.injEq, true_and, and_true] at h
  rw [str_inj h.1, str_inj h.2]⟩
theorem ord_itI : OrdT (itD kS PyData.int) := ⟨fun a b h => by
  obtain ⟨a1, a2⟩ := a
  obtain ⟨b1, b2⟩ := b
  have h : keyToks (.tuple [.str a1, .int a2]) = keyToks (.tuple [.str b1, .int b2]) := h
  simp only [keyToks, keyToksAll, List.cons_append, List.nil_append, List.cons.injEq, Sum.inr.injEq, Sum.inl.injEq, true_and, and_true] at h
  rw [str_inj h.1, h.2]⟩
theorem sortB_map {α : Type} {t : α → PyData} {xs : List α} (h1 : ∀ a b, alike (t a) (t b) = true) (h2 : (∀ a, tupB (t a) = true) ∨ ∀ a, othB (t a) = true) : sortB (xs.map t) = true := by
  unfold sortB
  rw [Bool.and_eq_true, Bool.or_eq_true]
  refine ⟨List.all_eq_true.mpr fun d hd => List.all_eq_true.mpr fun e he => ?_, h2.imp (fun q => List.all_eq_true.mpr fun d hd => ?_) fun q => List.all_eq_true.mpr fun d hd => ?_⟩
  · obtain ⟨a, _, rfl⟩ := List.mem_map.mp hd
    obtain ⟨b, _, rfl⟩ := List.mem_map.mp he
    exact h1 a b
  · obtain ⟨a, _, rfl⟩ := List.mem_map.mp hd
    exact q a
  · obtain ⟨a, _, rfl⟩ := List.mem_map.mp hd
    exact q a
theorem so_str {xs : List Str} : sortO PyData.str xs = some (srt PyData.str xs) := by
  unfold sortO
  rw [if_pos (sortB_map (fun a b => by simp [alike]) (.inr fun a => rfl))]
theorem so_itS {xs : List (Str × Str)} : sortO (itD kS PyData.str) xs = some (srt (itD kS PyData.str) xs) := by
  unfold sortO
  rw [if_pos (sortB_map (fun a b => by simp [itD, AC.keyD, kD, kS, alike, alikeAll]) (.inl fun a => rfl))]
theorem so_itI {xs : List (Str × Int)} : sortO (itD kS PyData.int) xs = some (srt (itD kS PyData.int) xs) := by
  unfold sortO
  rw [if_pos (sortB_map (fun a b => by simp [itD, AC.keyD, kD, kS, alike, alikeAll]) (.inl fun a => rfl))]

/-! dicts -/
theorem putD_new {α : Type} {xs : List (Str × α)} {k : Str} {v : α} (h : k ∉ xs.map (·.1)) : putD xs k v = xs ++ [(k, v)] := by
  unfold putD
  rw [if_neg]
  intro hc
  obtain ⟨e, he, hk⟩ := List.any_eq_true.mp hc
  exact h (List.mem_map.mpr ⟨e, he, of_decide_eq_true hk⟩)
theorem fold_nd {α : Type} : ∀ {xs acc : List (Str × α)}, ((acc ++ xs).map (·.1)).Nodup → xs.foldl (fun acc e => putD acc e.1 e.2) acc = acc ++ xs
  | [], acc, _ => by rw [List.append_nil]; rfl
  | x :: xs, acc, h => by
    show xs.foldl _ (putD acc x.1 x.2) = _
    have hx : x.1 ∉ acc.map (·.1) := fun hm => by
      rw [List.map_append, List.map_cons, List.nodup_append] at h
      exact h.2.2 _ hm _ List.mem_cons_self rfl
    rw [putD_new hx, fold_nd (by rw [List.append_assoc]; exact h), List.append_assoc]
    rfl
theorem mkD_nd {α : Type} {xs : List (Str × α)} (h : (xs.map (·.1)).Nodup) : mkD xs = xs := fold_nd (acc := []) h
theorem getD_in {α : Type} {xs : List (Str × α)} {k : Str} (h : k ∈ xs.map (·.1)) : ∃ v, getD xs k = some v ∧ (k, v) ∈ xs := by
  unfold getD
  cases e : xs.find? fun e => decide (e.1 = k) with
  | none =>
    obtain ⟨z, hz, rfl⟩ := List.mem_map.mp h
    have := List.find?_eq_none.mp e z hz
    simp at this
  | some z =>
    have h1 := List.mem_of_find?_eq_some e
    have h2 : z.1 = k := by simpa using List.find?_some e
    exact ⟨z.2, rfl, by rw [← h2]; exact h1⟩

/-! rules -/
abbrev RuleV := ((Unit × List Str) × List (Str × Str)) × List (Str × Int)
def nz (z : Str × Int) : Bool := !decide (z.2 = 0)
def ruleOf (e : List Str) (kd : List (Str × Str)) (rd : List (Str × Int)) : RuleV := ((((), srt PyData.str e), srt (itD kS PyData.str) kd), (srt (itD kS PyData.int) rd).filter nz)
structure RuleOk (e : List Str) (kd : List (Str × Str)) (rd : List (Str × Int)) : Prop where
  el : ∀ w ∈ e, Low w
  nd : e.Nodup
  len : e.length ≤ 1000
  k : ∀ z ∈ kd, Low z.1 ∧ Low z.2
  r : ∀ z ∈ rd, Low z.1
theorem init_eq {e : List Str} {kd : List (Str × Str)} {rd : List (Str × Int)} (g : RuleOk e kd rd) : F_Rule_init (e, some kd, some rd) = .ok (ruleOf e kd rd) := by
  unfold F_Rule_init
  delta fb_Rule_init
  dsimp only
  simp only [bok, Res.bind_assoc, seqN, seqR, mapN, mapRt, endR, ofS, id, Option.isNone, Bool.false_eq_true, if_false, unO]
  rw [check_all_ok g.el, bok]
  have so : ∀ {α : Type} {xs : List (Str × α)}, sortO (AC.keyD kS) (xs.map fun x => x.1) = some (srt PyData.str (xs.map fun x => x.1)) := fun {α xs} => so_str
  have ks : ∀ {α : Type} {xs : List (Str × α)}, (∀ z ∈ xs, Low z.1) → ∀ w ∈ srt PyData.str (xs.map fun x => x.1), Low w := fun {α xs} h w hw => by
    obtain ⟨z, hz, rfl⟩ := List.mem_map.mp (srt_p.mem_iff.mp hw)
    exact h z hz
  rw [so, ofS, bok, check_all_ok (ks fun z hz => (g.k z hz).1), bok]
  rw [bok, mapP_ok (fun x => (getD kd x).getD "") fun x hx => by
    obtain ⟨v, hv, _⟩ := getD_in (srt_p.mem_iff.mp hx)
    rw [hv]; rfl]
  rw [bok, check_all_ok fun w hw => by
    obtain ⟨x, hx, rfl⟩ := List.mem_map.mp hw
    obtain ⟨v, hv, hm⟩ := getD_in (srt_p.mem_iff.mp hx)
    rw [hv]
    exact (g.k _ hm).2, bok, so, ofS, bok, check_all_ok (ks fun z hz => g.r z hz), bok, rng1_ok (by have := g.len; omega), bok]
  rw [ru_skip fun x hx => ?_]
  · simp only [bok, seqN]
    rw [so_str, ofS, bok, so_itS, ofS, bok, so_itI, ofS, bok]
    rw [lcP_ok (t := fun x : Str × Int => Res.ok !decide (x.2 = 0)) (f := fun x : Str × Int => Res.ok (x.1, x.2)) nz (fun z : Str × Int => (z.1, z.2)) (fun z hz => rfl) (fun z hz _ => rfl), bok]
    unfold ruleOf
    have e1 : ∀ l : List (Str × Int), l.map (fun z => (z.1, z.2)) = l := fun l => List.map_id' l
    rw [e1]
    rfl
  · obtain ⟨i, rfl, hi⟩ := mem_ints hx
    dsimp only
    rw [atI_get (List.getElem?_eq_getElem hi), ofS, bok, cut_take (by omega)]
    have hn : e[i] ∉ e.take i := fun hm => by
      obtain ⟨j, hj, ee⟩ := List.mem_take_iff_getElem.mp hm
      have := nodup_get g.nd (List.getElem?_eq_some_iff.mpr ⟨by omega, ee⟩) (List.getElem?_eq_getElem hi)
      omega
    simp only [decide_eq_false hn, Bool.false_eq_true, if_false, bok, mapN]
theorem init_0 : F_Rule_init_o_t ([], none, none) = .ok ((((), []), []), []) := by
  unfold F_Rule_init_o_t
  delta fb_Rule_init_o_t
  dsimp only
  simp only [bok, Res.bind_assoc, seqN, seqR, mapN, mapRt, endR, ofS, id, Option.isNone, if_true]
  have so : ∀ {α : Type} {t : α → PyData}, sortO t [] = some [] := fun {α t} => by simp [sortO, sortB, srt]
  simp only [List.map_nil, so, check_all_okT, check_all_ok (names := []) (fun _ h => nomatch h), ofS, bok, mapP, List.length_nil, seqN]
  rw [show rng1O ((0 : Nat) : Int) = .ok [] from rng1_ok (by decide), bok]
  simp only [forL, bok, seqN, so, ofS, lcP, endR]
  rfl
theorem ru_tup {α : Type} {t : α → PyData} (h : EqvT t) : EqvT fun xs : List α => PyData.tuple (xs.map t) := fun xs ys => by
  show PyData.eqvAll (xs.map t) (ys.map t) = true ↔ _
  exact eqvAll_iff h
def pSS (z : Str × Str) : PyData := .tuple [.str z.1, .str z.2]
def pSI (z : Str × Int) : PyData := .tuple [.str z.1, .int z.2]
theorem eqvt_ss : EqvT pSS := fun x y => by
  show PyData.eqvAll [.str x.1, .str x.2] [.str y.1, .str y.2] = true ↔ _
  simp only [PyData.eqvAll, Bool.and_true, Bool.and_eq_true, eqv_str, decide_eq_true_eq]
  exact ⟨fun h => Prod.ext h.1 h.2, fun h => by rw [h]; exact ⟨rfl, rfl⟩⟩
theorem eqvt_si : EqvT pSI := fun x y => by
  show PyData.eqvAll [.str x.1, .int x.2] [.str y.1, .int y.2] = true ↔ _
  simp only [PyData.eqvAll, Bool.and_true, Bool.and_eq_true, eqv_str, eqv_int, decide_eq_true_eq]
  exact ⟨fun h => Prod.ext h.1 h.2, fun h => by rw [h]; exact ⟨rfl, rfl⟩⟩
theorem rule_eqv {a b : RuleV} : F_Rule___eq__ (a, b) = .ok (decide (a = b)) := by
  unfold F_Rule___eq__
  delta fb_Rule___eq__
  dsimp only
  simp only [bok, Res.bind_assoc, seqN, seqR, mapN, mapRt, endR, ofS, id, Bool.not_true, Bool.false_eq_true, if_false]
  have e1 : ∀ x y : List Str, eqO (fun xs => PyData.tuple (List.map PyData.str xs)) (fun xs => PyData.tuple (List.map PyData.str xs)) x y = decide (x = y) := fun x y => eqO_t (ru_tup eqvt_str)
  have e2 : ∀ x y : List (Str × Str), eqO (fun xs => PyData.tuple (List.map (fun x : Str × Str => PyData.tuple [PyData.str x.1, PyData.str x.2]) xs)) (fun xs => PyData.tuple (List.map (fun x : Str × Str => PyData.tuple [PyData.str x.1, PyData.str x.2]) xs)) x y = decide (x = y) := fun x y => eqO_t (ru_tup eqvt_ss)
  have e3 : ∀ x y : List (Str × Int), eqO (fun xs => PyData.tuple (List.map (fun x : Str × Int => PyData.tuple [PyData.str x.1, PyData.int x.2]) xs)) (fun xs => PyData.tuple (List.map (fun x : Str × Int => PyData.tuple [PyData.str x.1, PyData.int x.2]) xs)) x y = decide (x = y) := fun x y => eqO_t (ru_tup eqvt_si)
  obtain ⟨⟨⟨⟨⟩, a1⟩, a2⟩, a3⟩ := a
  obtain ⟨⟨⟨⟨⟩, b1⟩, b2⟩, b3⟩ := b
  simp only [e1]
  by_cases h : a1 = b1
  · simp only [decide_eq_true h, Bool.not_true, Bool.false_eq_true, if_false, bok, seqN, Res.bind_assoc, e2, e3]
    by_cases h2 : a2 = b2
    · simp only [decide_eq_true h2, if_true, bok, endR]
      by_cases h3 : a3 = b3
      · rw [decide_eq_true h3, decide_eq_true (by rw [h, h2, h3])]
      · rw [decide_eq_false h3, decide_eq_false fun e => h3 (Prod.mk.inj e).2]
    · simp only [decide_eq_false h2, Bool.false_eq_true, if_false, bok, endR]
      rw [decide_eq_false fun e => h2 (Prod.mk.inj (Prod.mk.inj e).1).2]
  · simp only [decide_eq_false h, Bool.not_false, if_true, bok, seqR, endR]
    rw [decide_eq_false fun e => h (Prod.mk.inj (Prod.mk.inj (Prod.mk.inj e).1).1).2]

/-! without a call -/
def lessS (n : Str) (e : List Str) : List Str := e.filter fun w => !decide (w = n)
def lessP {α : Type} (n : Str) (d : List (Str × α)) : List (Str × α) := d.filter fun z => !decide (z.1 = n)
theorem RuleOk.less {e : List Str} {kd : List (Str × Str)} {rd : List (Str × Int)} (g : RuleOk e kd rd) (n : Str) : RuleOk (lessS n e) (lessP n kd) (lessP n rd) :=
  ⟨fun w hw => g.el w (List.mem_filter.mp hw).1, g.nd.filter _, Nat.le_trans (List.length_filter_le _ _) g.len, fun z hz => g.k z (List.mem_filter.mp hz).1, fun z hz => g.r z (List.mem_filter.mp hz).1⟩
theorem keys_less {α : Type} {d : List (Str × α)} (h : (d.map (·.1)).Nodup) (p : Str × α → Bool) : ((d.filter p).map (·.1)).Nodup := h.sublist (List.filter_sublist.map _)
theorem filter_idem {α : Type} {p : α → Bool} {l : List α} : (l.filter p).filter p = l.filter p := by
  rw [List.filter_filter]
  congr 1
  funext x
  cases p x <;> rfl
theorem without_eq {e : List Str} {kd : List (Str × Str)} {rd : List (Str × Int)} {n : Str} (g : RuleOk e kd rd) (k1 : (kd.map (·.1)).Nodup) (k2 : (rd.map (·.1)).Nodup) : F_Rule_without (ruleOf e kd rd, n) = .ok (ruleOf (lessS n e) (lessP n kd) (lessP n rd)) := by
  unfold F_Rule_without
  delta fb_Rule_without
  dsimp only
  simp only [bok, Res.bind_assoc, seqN, seqR, mapN, mapRt, endR, ofS, id]
  rw [lcP_ok (t := fun x : Str => Res.ok !decide (x = n)) (f := fun x : Str => Res.ok x) (fun w => !decide (w = n)) (fun w => w) (fun z hz => rfl) (fun z hz _ => rfl), bok]
  rw [lcP_ok (t := fun x : Str × Str => Res.ok !decide (x.1 = n)) (f := fun x : Str × Str => Res.ok (x.1, x.2)) (fun z => !decide (z.1 = n)) (fun z => (z.1, z.2)) (fun z hz => rfl) (fun z hz _ => rfl), bok]
  rw [lcP_ok (t := fun x : Str × Int => Res.ok !decide (x.1 = n)) (f := fun x : Str × Int => Res.ok (x.1, x.2)) (fun z => !decide (z.1 = n)) (fun z => (z.1, z.2)) (fun z hz => rfl) (fun z hz _ => rfl), bok]
  have i1 : ∀ l : List Str, l.map (fun w => w) = l := fun l => List.map_id' l
  have i2 : ∀ l : List (Str × Str), l.map (fun z => (z.1, z.2)) = l := fun l => List.map_id' l
  have i3 : ∀ l : List (Str × Int), l.map (fun z => (z.1, z.2)) = l := fun l => List.map_id' l
  rw [i1, i2, i3]
  show (F_Rule_init (lessS n (srt PyData.str e), some (mkD (lessP n (srt (itD kS PyData.str) kd))), some (mkD (lessP n ((srt (itD kS PyData.int) rd).filter nz))))).bind _ = _
  have q1 : ((srt (itD kS PyData.str) kd).map (·.1)).Nodup := (srt_p.map _).nodup_iff.mpr k1
  have q2 : (((srt (itD kS PyData.int) rd).filter nz).map (·.1)).Nodup := keys_less ((srt_p.map _).nodup_iff.mpr k2) _
  rw [mkD_nd (xs := lessP n (srt (itD kS PyData.str) kd)) (keys_less q1 _), mkD_nd (xs := lessP n ((srt (itD kS PyData.int) rd).filter nz)) (keys_less q2 _)]
  have gg : RuleOk (lessS n (srt PyData.str e)) (lessP n (srt (itD kS PyData.str) kd)) (lessP n ((srt (itD kS PyData.int) rd).filter nz)) := by
    refine ⟨fun w hw => g.el w (srt_p.mem_iff.mp (List.mem_filter.mp hw).1), ((srt_p.nodup_iff.mpr g.nd)).filter _, Nat.le_trans (List.length_filter_le _ _) (by rw [srt_len]; exact g.len), fun z hz => g.k z (srt_p.mem_iff.mp (List.mem_filter.mp hz).1), fun z hz => g.r z (srt_p.mem_iff.mp (List.mem_filter.mp (List.mem_filter.mp hz).1).1)⟩
  rw [init_eq gg, bok]
  congr 1
  unfold ruleOf
  have e1 : srt PyData.str (lessS n (srt PyData.str e)) = srt PyData.str (lessS n e) := by
    unfold lessS; rw [srt_filter ord_str, srt_idem ord_str]
  have e2 : srt (itD kS PyData.str) (lessP n (srt (itD kS PyData.str) kd)) = srt (itD kS PyData.str) (lessP n kd) := by
    unfold lessP; rw [srt_filter ord_itS, srt_idem ord_itS]
  have e3 : (srt (itD kS PyData.int) (lessP n ((srt (itD kS PyData.int) rd).filter nz))).filter nz = (srt (itD kS PyData.int) (lessP n rd)).filter nz := by
    unfold lessP
    simp only [srt_filter ord_itI, srt_idem ord_itI]
    congr 1
    rw [List.filter_filter, List.filter_filter, List.filter_filter]
    congr 1
    funext z
    cases nz z <;> cases (!decide (z.1 = n)) <;> rfl
  rw [e1, e2, e3]
end Pf
set_option maxRecDepth 100000
set_option linter.all false
/-! RU2: drawn rules. -/
namespace Pf
open PySem L2 PyProof AC PySem.W
def Big (z : Int) : Prop := -(10 ^ 21 : Int) < z ∧ z < 10 ^ 21
structure PlanOk (names : List Str) (pl : List Str × List (Str × Str) × List (Str × Int)) : Prop where
  s1 : pl.1.Sublist names
  s2 : (pl.2.1.map (·.1)).Sublist names
  s3 : (pl.2.2.map (·.1)).Sublist names
  v : ∀ z ∈ pl.2.1, Low z.2
  b : ∀ z ∈ pl.2.2, Big z.2
theorem PlanOk.rule {names : List Str} {pl : List Str × List (Str × Str) × List (Str × Int)} {m : Nat} (g : PlanOk names pl) (gn : GoodN m names) (hm : m ≤ 1000) : RuleOk pl.1 pl.2.1 pl.2.2 ∧ (pl.2.1.map (·.1)).Nodup ∧ (pl.2.2.map (·.1)).Nodup :=
  ⟨⟨fun w hw => gn.2.2 w (g.s1.subset hw), g.s1.nodup gn.2.1, by have := g.s1.length_le; have := gn.1; omega, fun z hz => ⟨gn.2.2 _ (g.s2.subset (List.mem_map.mpr ⟨z, hz, rfl⟩)), g.v z hz⟩, fun z hz => gn.2.2 _ (g.s3.subset (List.mem_map.mpr ⟨z, hz, rfl⟩))⟩, g.s2.nodup gn.2.1, g.s3.nodup gn.2.1⟩
theorem PlanOk.less {names : List Str} {pl : List Str × List (Str × Str) × List (Str × Int)} (g : PlanOk names pl) (n : Str) : PlanOk names (lessS n pl.1, lessP n pl.2.1, lessP n pl.2.2) :=
  ⟨List.filter_sublist.trans g.s1, (List.filter_sublist.map _).trans g.s2, (List.filter_sublist.map _).trans g.s3, fun z hz => g.v z (List.mem_filter.mp hz).1, fun z hz => g.b z (List.mem_filter.mp hz).1⟩
theorem made_eq {names : List Str} {pl : List Str × List (Str × Str) × List (Str × Int)} {m : Nat} (g : PlanOk names pl) (gn : GoodN m names) (hm : m ≤ 1000) : F__law_made_rule pl = .ok (ruleOf pl.1 pl.2.1 pl.2.2) := by
  obtain ⟨r, k1, k2⟩ := g.rule gn hm
  unfold F__law_made_rule
  delta fb__law_made_rule
  dsimp only
  simp only [bok, Res.bind_assoc, seqN, seqR, mapN, mapRt, endR, ofS, id]
  rw [mkD_nd k1, mkD_nd k2, init_eq r, bok]
theorem less_eq {pl : List Str × List (Str × Str) × List (Str × Int)} {n : Str} : F__law_less (pl, n) = .ok (lessS n pl.1, lessP n pl.2.1, lessP n pl.2.2) := by
  unfold F__law_less
  delta fb__law_less
  dsimp only
  simp only [bok, Res.bind_assoc, seqN, seqR, mapN, mapRt, endR, ofS, id]
  rw [lcP_ok (t := fun x : Str => Res.ok !decide (x = n)) (f := fun x : Str => Res.ok x) (fun w => !decide (w = n)) (fun w => w) (fun z hz => rfl) (fun z hz _ => rfl), bok]
  rw [lcP_ok (t := fun x : Str × Str => Res.ok !decide (x.1 = n)) (f := fun x : Str × Str => Res.ok x) (fun z => !decide (z.1 = n)) (fun z => z) (fun z hz => rfl) (fun z hz _ => rfl), bok]
  rw [lcP_ok (t := fun x : Str × Int => Res.ok !decide (x.1 = n)) (f := fun x : Str × Int => Res.ok x) (fun z => !decide (z.1 = n)) (fun z => z) (fun z hz => rfl) (fun z hz _ => rfl), bok]
  rw [List.map_id', List.map_id', List.map_id']
  rfl

/-! what a rule tells -/
structure Sh2 (n : Nat) (d : PyData) : Prop where
  sh : d.showable = true
  nd : d.hasDict = false
  lv : d.leavesShort 30 = true
  bk : d.bulk ≤ n
theorem repr2_ok {n : Nat} {d : PyData} (h : Sh2 n d) (hn : n ≤ 500000) : reprO d = some d.shown := by
  unfold reprO
  have := PyData.shown_le_bulk 30 (by decide) d h.lv
  have h2 : (30 + 2) * d.bulk ≤ 32 * 500000 := Nat.mul_le_mul (by decide) (Nat.le_trans h.bk hn)
  rw [if_pos ⟨h.sh, h.nd, by rw [show sizeLine = 16777216 from line_eq]; omega⟩]
theorem Sh2.mono {n m : Nat} {d : PyData} (h : Sh2 n d) (hm : n ≤ m) : Sh2 m d := ⟨h.sh, h.nd, h.lv, Nat.le_trans h.bk hm⟩
theorem sh2_all {α : Type} {t : α → PyData} {n : Nat} : ∀ {xs : List α}, (∀ x ∈ xs, Sh2 n (t x)) → PyData.showableAll (xs.map t) = true ∧ PyData.hasDictAll (xs.map t) = false ∧ PyData.leavesShortAll 30 (xs.map t) = true ∧ PyData.bulkAll (xs.map t) ≤ (n + 1) * xs.length
  | [], _ => ⟨by simp [PyData.showableAll], by simp [PyData.hasDictAll], by simp [PyData.leavesShortAll], by simp [PyData.bulkAll]⟩
  | x :: xs, h => by
    obtain ⟨h1, h2, h3, h4⟩ := h x List.mem_cons_self
    obtain ⟨g1, g2, g3, g4⟩ := sh2_all (t := t) (n := n) (xs := xs) fun y hy => h y (List.mem_cons_of_mem _ hy)
    refine ⟨by rw [List.map_cons]; simp only [PyData.showableAll, h1, g1, Bool.and_self], by rw [List.map_cons]; simp only [PyData.hasDictAll, h2, g2, Bool.or_self], by rw [List.map_cons]; simp only [PyData.leavesShortAll, h3, g3, Bool.and_self], ?_⟩
    rw [List.map_cons]
    simp only [PyData.bulkAll, List.length_cons, Nat.mul_add, Nat.mul_one]
    omega
theorem sh2_list {α : Type} {t : α → PyData} {n : Nat} {xs : List α} (h : ∀ x ∈ xs, Sh2 n (t x)) : Sh2 ((n + 1) * xs.length) (.list (xs.map t)) := by
  obtain ⟨h1, h2, h3, h4⟩ := sh2_all h
  exact ⟨by simpa only [PyData.showable] using h1, by simpa only [PyData.hasDict] using h2, by simpa only [PyData.leavesShort] using h3, by simpa only [PyData.bulk] using h4⟩
theorem sh2_tup {α : Type} {t : α → PyData} {n : Nat} {xs : List α} (h : ∀ x ∈ xs, Sh2 n (t x)) : Sh2 ((n + 1) * xs.length) (.tuple (xs.map t)) := by
  obtain ⟨h1, h2, h3, h4⟩ := sh2_all h
  exact ⟨by simpa only [PyData.showable] using h1, by simpa only [PyData.hasDict] using h2, by simpa only [PyData.leavesShort] using h3, by simpa only [PyData.bulk] using h4⟩
theorem sh2_pair {n : Nat} {a b : PyData} (ha : Sh2 n a) (hb : Sh2 n b) : Sh2 (2 * n + 2) (.tuple [a, b]) := by
  have := sh2_tup (t := id) (n := n) (xs := [a, b]) fun x hx => by
    have : x = a ∨ x = b := by simpa using hx
    rcases this with rfl | rfl
    · exact ha
    · exact hb
  exact this.mono (by simp only [List.length_cons, List.length_nil]; omega)
theorem sh2_int {i : Int} (h : Big i) : Sh2 0 (.int i) := by
  obtain ⟨h1, h2⟩ := h
  have hn : i.natAbs < 10 ^ 21 := by omega
  refine ⟨?_, rfl, ?_, Nat.le_refl _⟩
  · have : i.natAbs.log2 < 1920 := by
      by_cases h0 : i.natAbs = 0
      · rw [h0]; decide
      · refine (Nat.log2_lt h0).mpr (Nat.lt_of_lt_of_le (Nat.lt_of_lt_of_le hn (show 10 ^ 21 ≤ 2 ^ 70 by decide)) (Nat.pow_le_pow_right (by decide) (by decide)))
    exact decide_eq_true this
  · have e := int_text_length_le10 (k := 21) (by decide) hn
    refine decide_eq_true ?_
    show (Str.ofString (toString i)).length ≤ 30
    rw [ofString_length]
    exact Nat.le_trans e (by decide)
theorem sh2_low {w : Str} (h : Low w) : Sh2 8 (.str w) := by
  obtain ⟨l, rfl, h1, h2, hc⟩ := h.ex
  refine ⟨rfl, rfl, ?_, ?_⟩
  · have e : (mk l).cps.toList = l := by simp [mk]
    show ((mk l).cps.toList.all fun c => decide (c < 16 ^ 8)) = true
    rw [e]
    exact List.all_eq_true.mpr fun c hcm => by
      have := hc c hcm
      exact decide_eq_true (by omega)
  · show (mk l).length ≤ 8
    rw [mk_len]; exact h2
def toldD (r : RuleV) : PyData := .list [.list (r.1.1.2.map .str), .list (r.1.2.map pSS), .list (r.2.map pSI)]
theorem told_eq {r : RuleV} (h : Sh2 400000 (toldD r)) : F__law_told r = .ok (toldD r).shown := by
  unfold F__law_told
  delta fb__law_told
  dsimp only
  have e1 : F_Rule_early r = .ok r.1.1.2 := rfl
  have e2 : F_Rule_keyed r = .ok r.1.2 := rfl
  have e3 : F_Rule_ranks r = .ok r.2 := rfl
  simp only [bok, Res.bind_assoc, seqN, seqR, mapN, mapRt, endR, ofS, e1, e2, e3, noexc_ok]
  rw [List.map_id]
  have := repr2_ok h (by decide)
  unfold toldD at this ⊢
  show (ofO (reprO (.list [.list (r.1.1.2.map .str), .list (r.1.2.map pSS), .list (r.2.map pSI)]))).bind _ = _
  rw [this, ofS, bok]
theorem told_sh {names : List Str} {pl : List Str × List (Str × Str) × List (Str × Int)} {m : Nat} (g : PlanOk names pl) (gn : GoodN m names) (hm : m ≤ 100) : Sh2 400000 (toldD (ruleOf pl.1 pl.2.1 pl.2.2)) := by
  obtain ⟨r, k1, k2⟩ := g.rule gn (by omega)
  have l1 := g.s1.length_le
  have l2 := g.s2.length_le
  have l3 := g.s3.length_le
  rw [List.length_map] at l2 l3
  have gl := gn.1
  have a1 : Sh2 4000 (.list ((srt PyData.str pl.1).map .str)) := (sh2_list (n := 8) fun x hx => sh2_low (r.el x (srt_p.mem_iff.mp hx))).mono (by rw [srt_len]; omega)
  have a2 : Sh2 4000 (.list ((srt (itD kS PyData.str) pl.2.1).map pSS)) := (sh2_list (n := 18) fun x hx => by
    have := r.k x (srt_p.mem_iff.mp hx)
    exact sh2_pair (sh2_low this.1) (sh2_low this.2)).mono (by rw [srt_len]; omega)
  have a3 : Sh2 4000 (.list (((srt (itD kS PyData.int) pl.2.2).filter nz).map pSI)) := (sh2_list (n := 18) fun x hx => by
    have hx := srt_p.mem_iff.mp (List.mem_filter.mp hx).1
    exact sh2_pair (sh2_low (r.r x hx)) ((sh2_int (g.b x hx)).mono (by omega))).mono (by
      have := List.length_filter_le nz (srt (itD kS PyData.int) pl.2.2)
      rw [srt_len] at this
      omega)
  have := sh2_list (t := id) (n := 4000) (xs := [.list ((srt PyData.str pl.1).map .str), .list ((srt (itD kS PyData.str) pl.2.1).map pSS), .list (((srt (itD kS PyData.int) pl.2.2).filter nz).map pSI)]) fun x hx => by
    rcases List.mem_cons.mp hx with rfl | hx
    · exact a1
    rcases List.mem_cons.mp hx with rfl | hx
    · exact a2
    · rcases List.mem_cons.mp hx with rfl | hx
      · exact a3
      · cases hx
  exact this.mono (by simp only [List.length_cons, List.length_nil]; omega)
end Pf
set_option Elab.async false
set_option linter.all false
set_option maxRecDepth 100000
namespace Pf
open PySem L2 PyProof AC
theorem take_step {α : Type} {xs : List α} {i : Nat} {x : α} (h : xs[i]? = some x) : xs.take (i + 1) = xs.take i ++ [x] := by
  rw [List.take_add_one, h]; rfl
theorem sl_skip {α : Type} {l xs : List α} {i : Nat} {x : α} (h : xs[i]? = some x) (s : l.Sublist (xs.take i)) : l.Sublist (xs.take (i + 1)) := by
  rw [take_step h]; exact s.trans (List.sublist_append_left _ _)
theorem sl_add {α : Type} {l xs : List α} {i : Nat} {x : α} (h : xs[i]? = some x) (s : l.Sublist (xs.take i)) : (l ++ [x]).Sublist (xs.take (i + 1)) := by
  rw [take_step h]; exact s.append (List.Sublist.refl _)
def KEYS : List Str := ["k", "m", "set", "kk"]
theorem keys_low : ∀ x ∈ KEYS, Low x := by
  have h : ∀ x ∈ KEYS, 1 ≤ x.cps.toList.length ∧ x.cps.toList.length ≤ 8 ∧ Chars x.cps.toList := by decide +kernel
  intro x hx
  obtain ⟨h1, h2, h3⟩ := h x hx
  exact ⟨x.cps.toList, by cases x; simp [mk], h1, h2, h3⟩
/-- the plan so far -/
structure Part (names : List Str) (i : Nat) (e : List Str) (kd : List (Str × Str)) (rd : List (Str × Int)) : Prop where
  s1 : e.Sublist (names.take i)
  s2 : (kd.map (·.1)).Sublist (names.take i)
  s3 : (rd.map (·.1)).Sublist (names.take i)
  v : ∀ z ∈ kd, Low z.2
  b : ∀ z ∈ rd, Big z.2
theorem Part.nil {names : List Str} {i : Nat} : Part names i [] [] [] := ⟨List.nil_sublist _, List.nil_sublist _, List.nil_sublist _, (fun _ h => nomatch h), (fun _ h => nomatch h)⟩
theorem Part.plan {names : List Str} {i : Nat} {e : List Str} {kd : List (Str × Str)} {rd : List (Str × Int)} (p : Part names i e kd rd) : PlanOk names (e, kd, rd) :=
  ⟨p.s1.trans (List.take_sublist _ _), p.s2.trans (List.take_sublist _ _), p.s3.trans (List.take_sublist _ _), p.v, p.b⟩
theorem big_small {z : Int} (h : -100000 ≤ z ∧ z ≤ 100000) : Big z := ⟨Int.lt_of_lt_of_le (by decide : -(10 ^ 21 : Int) < -100000) h.1, Int.lt_of_le_of_lt h.2 (by decide)⟩
theorem plan_ok {n m : Nat} {w : List Int} {names : List Str} (hw : Kl n w) (hn : n + 2000 < 2 ^ 40) (gl : names.length ≤ 12) : Ok (F__law_plan_of_rule w names) fun r => PlanOk names r.1 ∧ Kl (n + 200) r.2 := by
  unfold F__law_plan_of_rule
  delta fb__law_plan_of_rule
  dsimp only
  simp only [bok, Res.bind_assoc, seqN, seqR, mapN, mapRt, endR, ofS, id]
  refine ok_bind (toss_ok hw (by omega) (by decide) (by decide)) ?_
  rintro ⟨a, w1⟩ ⟨a1, a2, a3⟩
  dsimp only at *
  refine ok_bind (toss_ok a3 (by omega) (by decide) (by decide)) ?_
  rintro ⟨b, w2⟩ ⟨b1, b2, b3⟩
  dsimp only at *
  refine ok_bind (ok_for (R := fun _ => False) (fun i s => ∃ (w' : List Int) (e : List Str) (kd : List (Str × Str)) (rd : List (Str × Int)), s = (w', names, [0, a - 3, b - 3], (), e, kd, rd, (), ()) ∧ Part names i e kd rd ∧ Kl (n + 2 + 10 * i) w') ⟨w2, [], [], [], rfl, Part.nil, b3⟩ ?_) ?_
  · rintro i x s hx ⟨w', e, kd, rd, rfl, pt, hk⟩
    have hi : i < names.length := (List.getElem?_eq_some_iff.mp hx).1
    dsimp only
    refine ok_bind (toss_ok hk (by omega) (by decide) (by decide)) ?_
    rintro ⟨p, w3⟩ ⟨c1, c2, c3⟩
    dsimp only at *
    obtain ⟨c0, hc0⟩ : ∃ c, (if decide (p = 0) = true then Res.ok (decide ((e.length : Int) < 5)) else Res.ok false) = Res.ok c := by split <;> exact ⟨_, rfl⟩
    rw [hc0, bok]
    refine ok_bind (Q := fun o => ∃ e', o = Out.nx (w3, names, [0, a - 3, b - 3], x, e', kd, rd, p, ()) ∧ e'.Sublist (names.take (i + 1))) ?_ ?_
    · cases c0 with
      | false => exact ⟨e, rfl, sl_skip hx pt.s1⟩
      | true =>
        have := pt.s1.length_le
        rw [List.length_take] at this
        rw [if_pos rfl, appO_ok (by omega), ofS, bok]
        exact ⟨e ++ [x], rfl, sl_add hx pt.s1⟩
    rintro _ ⟨e', rfl, se⟩
    simp only [seqN, Res.bind_assoc]
    refine ok_bind (Q := fun y => ∃ (c : Bool) (w4 : List Int), y = (c, w4, names, [0, a - 3, b - 3], x, e', kd, rd, p, ()) ∧ Kl (n + 2 + 10 * i + 2) w4) ?_ ?_
    · split
      · exact ⟨true, w3, rfl, c3.mono (by omega)⟩
      · refine ok_bind (toss_ok c3 (by omega) (by decide) (by decide)) ?_
        rintro ⟨q, w4⟩ ⟨d1, d2, d3⟩
        exact ⟨_, w4, rfl, d3.mono (by omega)⟩
    rintro _ ⟨c1, w4, rfl, k4⟩
    dsimp only
    refine ok_bind (Q := fun o => ∃ (w5 : List Int) (kd' : List (Str × Str)), o = Out.nx (w5, names, [0, a - 3, b - 3], x, e', kd', rd, p, ()) ∧ (kd'.map (·.1)).Sublist (names.take (i + 1)) ∧ (∀ z ∈ kd', Low z.2) ∧ Kl (n + 2 + 10 * i + 4) w5) ?_ ?_
    · cases c1 with
      | false => exact ⟨w4, kd, rfl, sl_skip hx pt.s2, pt.v, k4.mono (by omega)⟩
      | true =>
        rw [if_pos rfl]
        refine ok_bind (toss_ok k4 (by omega) (by decide) (by decide)) ?_
        rintro ⟨q, w5⟩ ⟨d1, d2, d3⟩
        dsimp only at *
        obtain ⟨u, hu, hu2⟩ := at_ok (xs := ([1, 2, 4] : List Int)) d1 d2
        have hum : u = 1 ∨ u = 2 ∨ u = 4 := by simpa using List.mem_of_getElem? hu2
        refine ok_ofO hu ?_
        refine ok_bind (toss_ok d3 (by omega) (by omega) (Int.lt_of_le_of_lt (show u ≤ 4 by omega) (by decide))) ?_
        rintro ⟨q2, w6⟩ ⟨f1, f2, f3⟩
        dsimp only at *
        obtain ⟨z, hz, hz2⟩ := at_ok (xs := KEYS) f1 (by show q2 < 4; omega)
        refine ok_ofO hz ?_
        have := pt.s2.length_le
        rw [List.length_take, List.length_map] at this
        rw [appO_ok (by omega), ofS, bok]
        refine ⟨w6, kd ++ [(x, z)], rfl, ?_, fun y hy => ?_, f3⟩
        · rw [List.map_append]; exact sl_add hx pt.s2
        · rcases List.mem_append.mp hy with hy | hy
          · exact pt.v y hy
          · have : y = (x, z) := by simpa using hy
            subst this
            exact keys_low _ (List.mem_of_getElem? hz2)
    rintro _ ⟨w5, kd', rfl, sk, vk, k5⟩
    simp only [seqN, Res.bind_assoc]
    refine ok_bind (Q := fun y => ∃ (c : Bool) (w6 : List Int), y = (c, w6, names, [0, a - 3, b - 3], x, e', kd', rd, p, ()) ∧ Kl (n + 2 + 10 * i + 5) w6) ?_ ?_
    · split
      · exact ⟨true, w5, rfl, k5.mono (by omega)⟩
      · refine ok_bind (toss_ok k5 (by omega) (by decide) (by decide)) ?_
        rintro ⟨q, w6⟩ ⟨d1, d2, d3⟩
        exact ⟨_, w6, rfl, d3.mono (by omega)⟩
    rintro _ ⟨c2', w6, rfl, k6⟩
    dsimp only
    refine ok_bind (Q := fun o => ∃ (w7 : List Int) (rd' : List (Str × Int)), o = Out.nx (w7, names, [0, a - 3, b - 3], x, e', kd', rd', p, ()) ∧ (rd'.map (·.1)).Sublist (names.take (i + 1)) ∧ (∀ z ∈ rd', Big z.2) ∧ Kl (n + 2 + 10 * i + 6) w7) ?_ ?_
    · cases c2' with
      | false => exact ⟨w6, rd, rfl, sl_skip hx pt.s3, pt.b, k6.mono (by omega)⟩
      | true =>
        rw [if_pos rfl]
        refine ok_bind (toss_ok k6 (by omega) (by decide) (by decide)) ?_
        rintro ⟨q, w7⟩ ⟨d1, d2, d3⟩
        dsimp only at *
        obtain ⟨u, hu, hu2⟩ := at_ok (xs := ([0, a - 3, b - 3] : List Int)) d1 d2
        have hum : u = 0 ∨ u = a - 3 ∨ u = b - 3 := by simpa using List.mem_of_getElem? hu2
        refine ok_ofO hu ?_
        have := pt.s3.length_le
        rw [List.length_take, List.length_map] at this
        rw [appO_ok (by omega), ofS, bok]
        refine ⟨w7, rd ++ [(x, u)], rfl, ?_, fun y hy => ?_, d3⟩
        · rw [List.map_append]; exact sl_add hx pt.s3
        · rcases List.mem_append.mp hy with hy | hy
          · exact pt.b y hy
          · have : y = (x, u) := by simpa using hy
            subst this
            exact big_small (by show -100000 ≤ u ∧ u ≤ 100000; omega)
    rintro _ ⟨w7, rd', rfl, sr, br, k7⟩
    exact ⟨w7, e', kd', rd', rfl, ⟨se, sk, sr, vk, br⟩, k7.mono (by omega)⟩
  · rintro (s | r) hy
    · obtain ⟨w', e, kd, rd, rfl, pt, hk⟩ := hy
      exact ⟨pt.plan, hk.mono (by omega)⟩
    · exact hy.elim
end Pf
set_option Elab.async false
set_option linter.all false
set_option maxRecDepth 100000
namespace Pf
open PySem L2 PyProof AC
theorem wide_ok {n : Nat} {w : List Int} {names : List Str} (hw : Kl n w) (hn : n + 2000 < 2 ^ 40) (gl : names.length = 10) : Ok (F__law_wide_rule w names) fun r => PlanOk names r.1 ∧ Kl (n + 200) r.2 := by
  unfold F__law_wide_rule
  delta fb__law_wide_rule
  dsimp only
  simp only [bok, Res.bind_assoc, seqN, seqR, mapN, mapRt, endR, ofS, id]
  refine ok_bind (tags_ok (m := 10) hw (by omega) (by decide) (by decide)) ?_
  rintro ⟨labels, w1⟩ ⟨g1, g2⟩
  dsimp only at *
  rw [rng1_lit (i := 3) (n := 3) (by decide) (by decide)]
  simp only [bok]
  obtain ⟨turns, ht, hlt⟩ : ∃ t, AC.intsFrom 0 3 = t ∧ t.length = 3 := ⟨_, rfl, intsFrom_len 0 3⟩
  rw [ht]
  refine ok_bind (ok_map (fun k s => ∃ w' : List Int, s = (w', names, (), (), (), (), (), (), (), (), (), ()) ∧ Kl (n + 30 + k) w') (fun (_ : Nat) (y : Int) => 1 ≤ y ∧ y ≤ 8) ⟨w1, rfl, g2⟩ ?_) ?_
  · rintro k x s hx ⟨w', rfl, h⟩
    have hk : k < 3 := by
      have := (List.getElem?_eq_some_iff.mp hx).1
      rwa [hlt] at this
    dsimp only
    refine ok_bind (toss_ok h (by omega) (by decide) (by decide)) ?_
    rintro ⟨u, v⟩ ⟨d1, d2, d3⟩
    dsimp only at *
    exact ⟨by omega, v, rfl, d3⟩
  rintro ⟨shares, s⟩ ⟨l1, l2, w2, rfl, h2⟩
  rw [hlt] at l1 h2
  dsimp only at l1 l2 ⊢
  have hp : powO 10 20 = some (10 ^ 20) := by decide +kernel
  refine ok_ofO hp ?_
  refine ok_bind (toss_ok h2 (by omega) (by decide) (by decide)) ?_
  rintro ⟨far, w3⟩ ⟨f1, f2, f3⟩
  dsimp only at *
  have hc : cutL names none (some 10) = names := by rw [show (10 : Int) = ((10 : Nat) : Int) from rfl, cut_take (by omega), List.take_of_length_le (by omega)]
  rw [hc]
  have sh : ∀ k : Nat, k < 3 → ∃ u, atI shares (k : Int) = some u ∧ 1 ≤ u ∧ u ≤ 8 := fun k hk => by
    have hk2 : k < shares.length := by omega
    exact ⟨shares[k], atI_get (List.getElem?_eq_getElem hk2), l2 k _ (List.getElem?_eq_getElem hk2)⟩
  obtain ⟨u0, e0, u01, u02⟩ := sh 0 (by omega)
  obtain ⟨u1, e1, u11, u12⟩ := sh 1 (by omega)
  obtain ⟨u2, e2, u21, u22⟩ := sh 2 (by omega)
  have e0 : atI shares 0 = some u0 := e0
  have e1 : atI shares 1 = some u1 := e1
  have e2 : atI shares 2 = some u2 := e2
  have hfar : 0 ≤ far ∧ far < 10 ^ 20 := ⟨f1, f2⟩
  refine ok_bind (ok_for (R := fun _ => False) (fun i s => ∃ (w' : List Int) (e : List Str) (kd : List (Str × Str)) (rd : List (Str × Int)), s = (w', names, (), labels, shares, e, kd, rd, far, (), (), ()) ∧ Part names i e kd rd ∧ Kl (n + 34 + 10 * i) w') ⟨w3, [], [], [], rfl, Part.nil, f3⟩ ?_) ?_
  · rintro i x s hx ⟨w', e, kd, rd, rfl, pt, hk⟩
    have hi : i < names.length := (List.getElem?_eq_some_iff.mp hx).1
    dsimp only
    rw [e0, ofS, bok]
    refine ok_bind (toss_ok hk (by omega) (by omega) (Int.lt_of_le_of_lt u02 (by decide))) ?_
    rintro ⟨p, w4⟩ ⟨c1, c2, c3⟩
    dsimp only at *
    refine ok_bind (Q := fun o => ∃ e', o = Out.nx (w4, names, x, labels, shares, e', kd, rd, far, (), (), ()) ∧ e'.Sublist (names.take (i + 1))) ?_ ?_
    · by_cases hp : p = 0
      · have := pt.s1.length_le
        rw [List.length_take] at this
        rw [if_pos (decide_eq_true hp), appO_ok (by omega), ofS, bok]
        exact ⟨e ++ [x], rfl, sl_add hx pt.s1⟩
      · rw [if_neg (by rw [decide_eq_false hp]; exact Bool.false_ne_true)]
        exact ⟨e, rfl, sl_skip hx pt.s1⟩
    rintro _ ⟨e', rfl, se⟩
    simp only [seqN, Res.bind_assoc]
    rw [e1, ofS, bok]
    refine ok_bind (toss_ok c3 (by omega) (by omega) (Int.lt_of_le_of_lt u12 (by decide))) ?_
    rintro ⟨p1, w5⟩ ⟨d1, d2, d3⟩
    dsimp only at *
    refine ok_bind (Q := fun o => ∃ (w6 : List Int) (kd' : List (Str × Str)), o = Out.nx (w6, names, x, labels, shares, e', kd', rd, far, (), (), ()) ∧ (kd'.map (·.1)).Sublist (names.take (i + 1)) ∧ (∀ z ∈ kd', Low z.2) ∧ Kl (n + 34 + 10 * i + 4) w6) ?_ ?_
    · by_cases hp : p1 = 0
      · rw [if_pos (decide_eq_true hp)]
        refine ok_bind (toss_ok d3 (by omega) (by decide) (by decide)) ?_
        rintro ⟨q, w6⟩ ⟨g1', g2', g3'⟩
        dsimp only at *
        obtain ⟨u, hu, hu2⟩ := at_ok (xs := ([1, 2, 10] : List Int)) g1' g2'
        have hum : u = 1 ∨ u = 2 ∨ u = 10 := by simpa using List.mem_of_getElem? hu2
        refine ok_ofO hu ?_
        refine ok_bind (toss_ok g3' (by omega) (by omega) (Int.lt_of_le_of_lt (show u ≤ 10 by omega) (by decide))) ?_
        rintro ⟨q2, w7⟩ ⟨k1, k2, k3⟩
        dsimp only at *
        obtain ⟨z, hz, hz2⟩ := at_ok (xs := labels) k1 (by have := g1.1; omega)
        refine ok_ofO hz ?_
        have := pt.s2.length_le
        rw [List.length_take, List.length_map] at this
        rw [appO_ok (by omega), ofS, bok]
        refine ⟨w7, kd ++ [(x, z)], rfl, ?_, fun y hy => ?_, k3.mono (by omega)⟩
        · rw [List.map_append]; exact sl_add hx pt.s2
        · rcases List.mem_append.mp hy with hy | hy
          · exact pt.v y hy
          · have : y = (x, z) := by simpa using hy
            subst this
            exact g1.2.2 _ (List.mem_of_getElem? hz2)
      · rw [if_neg (by rw [decide_eq_false hp]; exact Bool.false_ne_true)]
        exact ⟨w5, kd, rfl, sl_skip hx pt.s2, pt.v, d3.mono (by omega)⟩
    rintro _ ⟨w6, kd', rfl, sk, vk, k6⟩
    simp only [seqN, Res.bind_assoc]
    rw [e2, ofS, bok]
    refine ok_bind (toss_ok k6 (by omega) (by omega) (Int.lt_of_le_of_lt u22 (by decide))) ?_
    rintro ⟨p2, w7⟩ ⟨m1, m2, m3⟩
    dsimp only at *
    refine ok_bind (Q := fun o => ∃ (w8 : List Int) (rd' : List (Str × Int)), o = Out.nx (w8, names, x, labels, shares, e', kd', rd', far, (), (), ()) ∧ (rd'.map (·.1)).Sublist (names.take (i + 1)) ∧ (∀ z ∈ rd', Big z.2) ∧ Kl (n + 34 + 10 * i + 8) w8) ?_ ?_
    · by_cases hp : p2 = 0
      · rw [if_pos (decide_eq_true hp)]
        refine ok_bind (toss_ok m3 (by omega) (by decide) (by decide)) ?_
        rintro ⟨q, w8⟩ ⟨g1', g2', g3'⟩
        dsimp only at *
        refine ok_bind (toss_ok g3' (by omega) (by decide) (by decide)) ?_
        rintro ⟨q2, w9⟩ ⟨k1, k2, k3⟩
        dsimp only at *
        have hdv : divO far 10 = some (far / 10) := by unfold divO; rw [if_pos ⟨by decide, by decide⟩]
        refine ok_ofO hdv ?_
        refine ok_bind (toss_ok k3 (by omega) (by decide) (by decide)) ?_
        rintro ⟨q3, w10⟩ ⟨j1, j2, j3⟩
        dsimp only at *
        obtain ⟨u, hu, hu2⟩ := at_ok (xs := ([q - 3, q2 - 1000, far, far + 1, -far, far / 10] : List Int)) j1 j2
        have hum : u = q - 3 ∨ u = q2 - 1000 ∨ u = far ∨ u = far + 1 ∨ u = -far ∨ u = far / 10 := by simpa using List.mem_of_getElem? hu2
        refine ok_ofO hu ?_
        have := pt.s3.length_le
        rw [List.length_take, List.length_map] at this
        rw [appO_ok (by omega), ofS, bok]
        refine ⟨w10, rd ++ [(x, u)], rfl, ?_, fun y hy => ?_, j3.mono (by omega)⟩
        · rw [List.map_append]; exact sl_add hx pt.s3
        · rcases List.mem_append.mp hy with hy | hy
          · exact pt.b y hy
          · have : y = (x, u) := by simpa using hy
            subst this
            show -(10 ^ 21 : Int) < u ∧ u < 10 ^ 21
            obtain ⟨h0, h1⟩ := hfar
            omega
      · rw [if_neg (by rw [decide_eq_false hp]; exact Bool.false_ne_true)]
        exact ⟨w7, rd, rfl, sl_skip hx pt.s3, pt.b, m3.mono (by omega)⟩
    rintro _ ⟨w8, rd', rfl, sr, br, k8⟩
    exact ⟨w8, e', kd', rd', rfl, ⟨se, sk, sr, vk, br⟩, k8.mono (by omega)⟩
  · rintro (s | r) hy
    · obtain ⟨w', e, kd, rd, rfl, pt, hk⟩ := hy
      exact ⟨pt.plan, hk.mono (by omega)⟩
    · exact hy.elim
end Pf
set_option Elab.async false
set_option linter.all false
set_option maxRecDepth 100000
namespace Pf
open PySem L2 PyProof AC
theorem PlanOk.up {names : List Str} {k : Nat} {pl : List Str × List (Str × Str) × List (Str × Int)} (g : PlanOk (names.take k) pl) : PlanOk names pl :=
  ⟨g.s1.trans (List.take_sublist _ _), g.s2.trans (List.take_sublist _ _), g.s3.trans (List.take_sublist _ _), g.v, g.b⟩
abbrev rOf (pl : List Str × List (Str × Str) × List (Str × Int)) : RuleV := ruleOf pl.1 pl.2.1 pl.2.2
abbrev lOf (n : Str) (pl : List Str × List (Str × Str) × List (Str × Int)) : List Str × List (Str × Str) × List (Str × Int) := (lessS n pl.1, lessP n pl.2.1, lessP n pl.2.2)
theorem wo {names : List Str} {pl : List Str × List (Str × Str) × List (Str × Int)} {m : Nat} (g : PlanOk names pl) (gn : GoodN m names) (hm : m ≤ 100) (n : Str) : F_Rule_without (rOf pl, n) = .ok (rOf (lOf n pl)) := by
  obtain ⟨r, k1, k2⟩ := g.rule gn (by omega)
  exact without_eq r k1 k2
theorem neq_self {a : RuleV} : Option.map (fun x => !x) (okO (F_Rule___eq__ (a, a))) = some false := by
  rw [rule_eqv, decide_eq_true rfl]; rfl
theorem right_ok {n : Nat} {w : List Int} (hw : Kl n w) (hn : n + 20000 < 2 ^ 40) : Ok (F__law_right w ()) fun r => r.1 = true ∧ Kl (n + 5000) r.2 := by
  unfold F__law_right
  delta fb__law_right
  dsimp only
  simp only [bok, Res.bind_assoc, seqN, seqR, mapN, mapRt, endR, ofS, id]
  refine ok_bind (tags_ok (m := 10) hw (by omega) (by decide) (by decide)) ?_
  rintro ⟨names, w1⟩ ⟨gn, g2⟩
  dsimp only at *
  refine ok_bind (toss_ok g2 (by omega) (by decide) (by decide)) ?_
  rintro ⟨a, w2⟩ ⟨a1, a2, a3⟩
  dsimp only at *
  have hc : cutL names none (some 7) = names.take 7 := by rw [show (7 : Int) = ((7 : Nat) : Int) from rfl, cut_take (by have := gn.1; omega)]
  refine ok_bind (Q := fun y => ∃ (pl : List Str × List (Str × Str) × List (Str × Int)) (w3 : List Int), y = (pl, w3, names, (), (), (), (), (), (), (), (), (), (), ()) ∧ PlanOk names pl ∧ Kl (n + 300) w3) ?_ ?_
  · split
    · refine ok_bind (wide_ok a3 (by omega) gn.1) ?_
      rintro ⟨pl, w3⟩ ⟨h1, h2⟩
      exact ⟨pl, w3, rfl, h1, h2.mono (by omega)⟩
    · rw [hc]
      refine ok_bind (plan_ok a3 (by omega) (by rw [List.length_take]; omega) (m := 7)) ?_
      rintro ⟨pl, w3⟩ ⟨h1, h2⟩
      exact ⟨pl, w3, rfl, h1.up, h2.mono (by omega)⟩
  rintro _ ⟨pl, w3, rfl, gp, k3⟩
  dsimp only
  rw [made_eq gp gn (by decide), bok, told_eq (told_sh gp gn (by decide)), bok, catO_ok (by have := gn.1; simp only [List.length_cons, List.length_nil]; omega), ofS, bok]
  rw [ru_skip fun x hx => ?_]
  · simp only [bok, seqN, Res.bind_assoc]
    rw [rng1_lit (i := 4) (n := 4) (by decide) (by decide)]
    simp only [bok]
    obtain ⟨turns, ht, hlt⟩ : ∃ t, AC.intsFrom 0 4 = t ∧ t.length = 4 := ⟨_, rfl, intsFrom_len 0 4⟩
    rw [ht]
    generalize (toldD (ruleOf pl.1 pl.2.1 pl.2.2)).shown = tt
    refine ok_bind (ok_map (fun k s => ∃ w' : List Int, s = (w', names, pl, rOf pl, tt, (), (), (), (), (), (), (), ()) ∧ Kl (n + 300 + k) w') (fun (_ : Nat) (_ : Str) => True) ⟨w3, rfl, k3⟩ ?_) ?_
    · rintro k x s hx ⟨w', rfl, h⟩
      have hk : k < 4 := by
        have := (List.getElem?_eq_some_iff.mp hx).1
        rwa [hlt] at this
      dsimp only
      refine ok_bind (toss_ok h (by omega) (by decide) (by decide)) ?_
      rintro ⟨u, v⟩ ⟨d1, d2, d3⟩
      dsimp only at *
      obtain ⟨z, hz, _⟩ := at_ok (xs := names) d1 (by have := gn.1; omega)
      refine ok_ofO hz ?_
      exact ⟨trivial, v, rfl, d3⟩
    rintro ⟨order, s⟩ ⟨_, _, w4, rfl, k4⟩
    rw [hlt] at k4
    dsimp only
    refine ok_bind (ok_for (R := fun _ => False) (fun _ s => ∃ left : List Str × List (Str × Str) × List (Str × Int), s = (w4, names, pl, rOf pl, tt, (), order, (), (), rOf left, left, (), ()) ∧ PlanOk names left) ⟨pl, rfl, gp⟩ ?_) ?_
    · rintro i x s hx ⟨left, rfl, gl⟩
      dsimp only
      rw [wo gl gn (by decide), bok, less_eq, bok, made_eq (gl.less x) gn (by decide), bok, neq_self, ofS, bok]
      simp only [Bool.false_eq_true, if_false, bok, mapN]
      exact ⟨lOf x left, rfl, gl.less x⟩
    rintro (s | r) hy
    · obtain ⟨left, rfl, gl⟩ := hy
      simp only [seqN, Res.bind_assoc]
      refine ok_bind (ok_for (R := fun _ => False) (fun i s => ∃ l2 : List Str × List (Str × Str) × List (Str × Int), s = (w4, names, pl, rOf pl, tt, (), order, (), (), rOf l2, left, (), ()) ∧ PlanOk names l2 ∧ (∀ w ∈ l2.1, w ∉ names.take i) ∧ (∀ z ∈ l2.2.1, z.1 ∉ names.take i) ∧ (∀ z ∈ l2.2.2, z.1 ∉ names.take i)) ⟨left, rfl, gl, fun _ _ h => by simp at h, fun _ _ h => by simp at h, fun _ _ h => by simp at h⟩ ?_) ?_
      · rintro i x s hx ⟨l2, rfl, g2, q1, q2, q3⟩
        dsimp only
        rw [wo g2 gn (by decide), bok]
        refine ⟨lOf x l2, rfl, g2.less x, fun w hw h => ?_, fun z hz h => ?_, fun z hz h => ?_⟩
        all_goals
          rw [take_step hx] at h
          rcases List.mem_append.mp h with h | h
        · exact q1 w (List.mem_filter.mp hw).1 h
        · have : w = x := by simpa using h
          have h2 := (List.mem_filter.mp hw).2
          simp [this] at h2
        · exact q2 z (List.mem_filter.mp hz).1 h
        · have : z.1 = x := by simpa using h
          have h2 := (List.mem_filter.mp hz).2
          simp [this] at h2
        · exact q3 z (List.mem_filter.mp hz).1 h
        · have : z.1 = x := by simpa using h
          have h2 := (List.mem_filter.mp hz).2
          simp [this] at h2
      · rintro (s | r) hy
        · obtain ⟨l2, rfl, g2, q1, q2, q3⟩ := hy
          rw [List.take_length] at q1 q2 q3
          obtain ⟨e, kd, rd⟩ := l2
          have z1 : e = [] := List.eq_nil_iff_forall_not_mem.mpr fun w hw => q1 w hw (g2.s1.subset hw)
          have z2 : kd = [] := List.eq_nil_iff_forall_not_mem.mpr fun z hz => q2 z hz (g2.s2.subset (List.mem_map.mpr ⟨z, hz, rfl⟩))
          have z3 : rd = [] := List.eq_nil_iff_forall_not_mem.mpr fun z hz => q3 z hz (g2.s3.subset (List.mem_map.mpr ⟨z, hz, rfl⟩))
          subst z1 z2 z3
          have hr : rOf ([], [], []) = ((((), []), []), []) := by
            simp [rOf, ruleOf, srt]
          have sh := told_sh g2 gn (by decide)
          simp only [seqN, Res.bind_assoc]
          rw [init_0, bok]
          rw [hr, rule_eqv, decide_eq_true rfl]
          simp only [okO, ofS, bok, if_true]
          have sh' : Sh2 400000 (toldD ((((), []), []), [])) := by
            have : toldD (ruleOf [] [] []) = toldD ((((), []), []), []) := by rw [show ruleOf [] [] [] = _ from hr]
            rw [← this]; exact sh
          rw [told_eq sh', bok]
          have := repr2_ok sh' (by decide)
          have this : reprO (PyData.list (List.map (fun xs => PyData.list (List.map PyData.int xs)) [[], [], []])) = some (toldD ((((), []), []), [])).shown := this
          rw [this, ofS, bok, decide_eq_true rfl]
          simp only [bok, endR]
          exact ⟨rfl, k4.mono (by omega)⟩
        · exact hy.elim
    · exact hy.elim
  · dsimp only
    rw [less_eq, bok, made_eq (gp.less x) gn (by decide), bok, wo gp gn (by decide), bok, bok]
    have hs := told_sh (gp.less x) gn (by decide)
    rw [ru_skip fun y hy => ?_]
    · simp only [bok, seqN, Res.bind_assoc]
      rw [told_eq (told_sh gp gn (by decide)), bok]
      simp only [decide_true, Bool.not_true, Bool.false_eq_true, if_false]
      rw [made_eq gp gn (by decide), bok, neq_self, ofS, bok]
      simp only [Bool.false_eq_true, if_false, bok, mapN]
    · have : y = rOf (lOf x pl) := by
        rcases List.mem_cons.mp hy with h | h
        · exact h
        · simpa using h
      subst this
      dsimp only
      rw [neq_self, ofS, bok, told_eq hs, bok, bok]
      simp only [decide_true, Bool.not_true, Bool.false_eq_true, if_false, bok, mapN]
theorem law_true : ∀ ns : List Int, ns.length ≤ 63 → F_law ns = .ok true := by
  intro ns hl
  refine ok_eq ?_
  unfold F_law
  delta fb_law
  dsimp only
  obtain ⟨c, hc, hc2⟩ : ∃ c : Nat, (if (if (ns.length : Int) < 10 then (ns.length : Int) else 10) > 1 then (if (ns.length : Int) < 10 then (ns.length : Int) else 10) else 1) = (c : Int) ∧ c ≤ 10 := by
    refine ⟨(if (if (ns.length : Int) < 10 then (ns.length : Int) else 10) > 1 then (if (ns.length : Int) < 10 then (ns.length : Int) else 10) else 1).toNat, ?_, ?_⟩
    · split <;> split <;> omega
    · split <;> split <;> omega
  simp only [bok, Res.bind_assoc, seqN, seqR, mapN, mapRt, endR, ofS, id]
  rw [hc, rng1_ok (by omega)]
  simp only [bok]
  refine ok_bind (ok_for (R := fun _ => False) (fun i b => b = (ns, (), (), (), ())) rfl ?_) ?_
  · rintro i x b hx rfl
    obtain ⟨rfl, hi⟩ := ints_get hx
    dsimp only
    refine ok_bind (lkit_ok (by omega)) ?_
    intro w hw
    rw [rng1_lit (i := 2) (n := 2) (by decide) (by decide)]
    simp only [bok]
    obtain ⟨turns, ht, hlt⟩ : ∃ t, AC.intsFrom 0 2 = t ∧ t.length = 2 := ⟨_, rfl, intsFrom_len 0 2⟩
    rw [ht]
    refine ok_bind (ok_for (R := fun _ => False) (fun k b => ∃ w' : List Int, b = (ns, (i : Int), w', (), ()) ∧ Kl (5000 * k) w') ⟨w, rfl, hw⟩ ?_) ?_
    · rintro k x b hx ⟨w', rfl, h1⟩
      have hk : k < 2 := by
        have := (List.getElem?_eq_some_iff.mp hx).1
        rwa [hlt] at this
      dsimp only
      refine ok_bind (right_ok h1 (by omega)) ?_
      rintro ⟨r, w2⟩ ⟨q1, q2⟩
      have q1 : r = true := q1
      subst q1
      exact ⟨w2, rfl, q2.mono (by omega)⟩
    · rintro (b | r) hy
      · obtain ⟨w', rfl, _⟩ := hy
        exact rfl
      · exact hy.elim
  · rintro (b | r) hy
    · exact rfl
    · exact hy.elim
end Pf
set_option Elab.async false
set_option linter.all false
set_option maxRecDepth 100000
set_option maxHeartbeats 4000000
namespace Pf
open PySem L2 PyProof PyProof.Rows AC
def dd_is_name : DfE := ⟨.glo "is_name", "is_name", "is_name", defArgs s_is_name, defBody s_is_name, defScope s_is_name, []⟩
def dd_check_all_names : DfE := ⟨.glo "check_all_names", "check_all_names", "check_all_names", defArgs s_check_all_names, defBody s_check_all_names, defScope s_check_all_names, []⟩
def dd_check_all_names_o_t : DfE := ⟨.glo "check_all_names", "check_all_names", "check_all_names", defArgs s_check_all_names_o_t, defBody s_check_all_names_o_t, defScope s_check_all_names_o_t, []⟩
def dd_Rule_init : DfE := ⟨.met "Rule" "__init__", "__init__", "Rule.__init__", defArgs s_Rule_init, defBody s_Rule_init, defScope s_Rule_init, [.adr (He.dflAt ("Rule", some "__init__") 0), .non, .non]⟩
def dd_Rule_init_o_t : DfE := ⟨.met "Rule" "__init__", "__init__", "Rule.__init__", defArgs s_Rule_init_o_t, defBody s_Rule_init_o_t, defScope s_Rule_init_o_t, [.adr (He.dflAt ("Rule", some "__init__") 0), .non, .non]⟩
def dd_Rule_early : DfE := ⟨.gtr "Rule" "early", "early", "Rule.early", defArgs s_Rule_early, defBody s_Rule_early, defScope s_Rule_early, []⟩
def dd_Rule_keyed : DfE := ⟨.gtr "Rule" "keyed", "keyed", "Rule.keyed", defArgs s_Rule_keyed, defBody s_Rule_keyed, defScope s_Rule_keyed, []⟩
def dd_Rule_ranks : DfE := ⟨.gtr "Rule" "ranks", "ranks", "Rule.ranks", defArgs s_Rule_ranks, defBody s_Rule_ranks, defScope s_Rule_ranks, []⟩
def dd_Rule___eq__ : DfE := ⟨.met "Rule" "__eq__", "__eq__", "Rule.__eq__", defArgs s_Rule___eq__, defBody s_Rule___eq__, defScope s_Rule___eq__, []⟩
def dd_Rule_without : DfE := ⟨.met "Rule" "without", "without", "Rule.without", defArgs s_Rule_without, defBody s_Rule_without, defScope s_Rule_without, []⟩
def dd__law_kit : DfE := ⟨.glo "_law_kit", "_law_kit", "_law_kit", defArgs s__law_kit, defBody s__law_kit, defScope s__law_kit, []⟩
def dd__law_toss : DfE := ⟨.glo "_law_toss", "_law_toss", "_law_toss", defArgs s__law_toss, defBody s__law_toss, defScope s__law_toss, []⟩
def dd__law_tags : DfE := ⟨.glo "_law_tags", "_law_tags", "_law_tags", defArgs s__law_tags, defBody s__law_tags, defScope s__law_tags, []⟩
def dd__law_plan_of_rule : DfE := ⟨.glo "_law_plan_of_rule", "_law_plan_of_rule", "_law_plan_of_rule", defArgs s__law_plan_of_rule, defBody s__law_plan_of_rule, defScope s__law_plan_of_rule, []⟩
def dd__law_wide_rule : DfE := ⟨.glo "_law_wide_rule", "_law_wide_rule", "_law_wide_rule", defArgs s__law_wide_rule, defBody s__law_wide_rule, defScope s__law_wide_rule, []⟩
def dd__law_made_rule : DfE := ⟨.glo "_law_made_rule", "_law_made_rule", "_law_made_rule", defArgs s__law_made_rule, defBody s__law_made_rule, defScope s__law_made_rule, []⟩
def dd__law_less : DfE := ⟨.glo "_law_less", "_law_less", "_law_less", defArgs s__law_less, defBody s__law_less, defScope s__law_less, []⟩
def dd__law_told : DfE := ⟨.glo "_law_told", "_law_told", "_law_told", defArgs s__law_told, defBody s__law_told, defScope s__law_told, []⟩
def dd__law_right : DfE := ⟨.glo "_law_right", "_law_right", "_law_right", defArgs s__law_right, defBody s__law_right, defScope s__law_right, []⟩
def dd_law : DfE := ⟨.glo "law", "law", "law", defArgs s_law, defBody s_law, defScope s_law, []⟩
def fn : List DfE := [dd_is_name, dd_check_all_names, dd_check_all_names_o_t, dd_Rule_init, dd_Rule_init_o_t, dd_Rule_early, dd_Rule_keyed, dd_Rule_ranks, dd_Rule___eq__, dd_Rule_without, dd__law_kit, dd__law_toss, dd__law_tags, dd__law_plan_of_rule, dd__law_wide_rule, dd__law_made_rule, dd__law_less, dd__law_told, dd__law_right, dd_law]
def fas : List He.Fa := [.free "all", .str "LETTERS" lettersS, .free "len", .free "sorted", .free "range", .free "tuple", .glo "Rule", .cls "Rule", .noat "Rule" "kept_early", .noat "Rule" "kept_keyed", .noat "Rule" "kept_ranks", .free "list", .free "isinstance", .free "abs", .free "int", .free "dict", .free "repr", .free "max", .free "min", .glo "is_name", .glo "check_all_names", .mkr "Rule", .meth "Rule" "__eq__", .meth "Rule" "without", .glo "_law_kit", .glo "_law_toss", .glo "_law_tags", .glo "_law_plan_of_rule", .glo "_law_wide_rule", .glo "_law_made_rule", .glo "_law_less", .glo "_law_told", .glo "_law_right", .glo "law"]
def fes : List Fe := [.isi "Rule", .kit "Rule" "Rule" true, .nee "Rule", .tz (He.dflAt ("Rule", some "__init__") 0), .prop "Rule" "early", .prop "Rule" "keyed", .prop "Rule" "ranks"]
abbrev Rw : PySem.W.OpenRow := PySem.W.OpenLaw.row PySem.Challenge.rw_anycut_k16_rules_without_a_call
abbrev hk : PySem.W.Hook := hookE 5 fas fes fn
def ob (s : PySem.W.SharedT) : AlE := obsE 5 fas fes fn (HandSHeadRun.getT s)
theorem ob_eq (s : PySem.W.SharedT) : ob s = hk.obs s.abs := obsE_eq (HandSHeadRun.getT_eq s)
def loose0 : List Str := ["CutError", "InvalidName", "DoubleName", "EmptyBatch", "LETTERS", "is_name", "check_all_names", "Rule", "_law_kit", "_law_toss", "_law_tags", "_law_plan_of_rule", "_law_wide_rule", "_law_made_rule", "_law_batched", "_law_less", "_law_told", "_law_right"]
theorem run (w : World) : HandSHeadRun.RunEq Rw (PySem.W.view Rw.prog [22]) hk ob 3000 ["CutError", "InvalidName", "DoubleName", "EmptyBatch", "LETTERS", "is_name", "check_all_names", "Rule", "_law_kit", "_law_toss", "_law_tags", "_law_plan_of_rule", "_law_wide_rule", "_law_made_rule", "_law_batched", "_law_less", "_law_told", "_law_right"] w := by
  intro os
  kernel_rfl
theorem facts {P : Program} {w : World} {K : Frag} {h : Heap} {mg : Str → Option Value} {f : Addr} (X : K.In h) (Gn : h.Ns mainGlobals mg) (hfa : mg ("law" : Str) = some (.ref f)) (c : SaysE fas fes fn K) :
    ∃ fd : FuncData, (∀ (s : Shared) (v : Value), BindsTo s fd ⟨[v], []⟩ [("script", v)]) ∧ ∀ base : Heap, K.In base → base.Ns mainGlobals mg → FnG P w K mg base 7 f fd ["script"] (spP K (He.ga K) (aOne (cLK cI)) (rV cB) F_law) := by
  obtain ⟨fd_is_name, B_is_name⟩ := c.def_ 0 (d := dd_is_name) rfl
  obtain ⟨fd_check_all_names, B_check_all_names⟩ := c.def_ 1 (d := dd_check_all_names) rfl
  obtain ⟨fd_check_all_names_o_t, B_check_all_names_o_t⟩ := c.def_ 2 (d := dd_check_all_names_o_t) rfl
  obtain ⟨fd_Rule_init, B_Rule_init⟩ := c.def_ 3 (d := dd_Rule_init) rfl
  obtain ⟨fd_Rule_init_o_t, B_Rule_init_o_t⟩ := c.def_ 4 (d := dd_Rule_init_o_t) rfl
  obtain ⟨fd_Rule_early, B_Rule_early⟩ := c.def_ 5 (d := dd_Rule_early) rfl
  obtain ⟨fd_Rule_keyed, B_Rule_keyed⟩ := c.def_ 6 (d := dd_Rule_keyed) rfl
  obtain ⟨fd_Rule_ranks, B_Rule_ranks⟩ := c.def_ 7 (d := dd_Rule_ranks) rfl
  obtain ⟨fd_Rule___eq__, B_Rule___eq__⟩ := c.def_ 8 (d := dd_Rule___eq__) rfl
  obtain ⟨fd_Rule_without, B_Rule_without⟩ := c.def_ 9 (d := dd_Rule_without) rfl
  obtain ⟨fd__law_kit, B__law_kit⟩ := c.def_ 10 (d := dd__law_kit) rfl
  obtain ⟨fd__law_toss, B__law_toss⟩ := c.def_ 11 (d := dd__law_toss) rfl
  obtain ⟨fd__law_tags, B__law_tags⟩ := c.def_ 12 (d := dd__law_tags) rfl
  obtain ⟨fd__law_plan_of_rule, B__law_plan_of_rule⟩ := c.def_ 13 (d := dd__law_plan_of_rule) rfl
  obtain ⟨fd__law_wide_rule, B__law_wide_rule⟩ := c.def_ 14 (d := dd__law_wide_rule) rfl
  obtain ⟨fd__law_made_rule, B__law_made_rule⟩ := c.def_ 15 (d := dd__law_made_rule) rfl
  obtain ⟨fd__law_less, B__law_less⟩ := c.def_ 16 (d := dd__law_less) rfl
  obtain ⟨fd__law_told, B__law_told⟩ := c.def_ 17 (d := dd__law_told) rfl
  obtain ⟨fd__law_right, B__law_right⟩ := c.def_ 18 (d := dd__law_right) rfl
  obtain ⟨fd_law, B_law⟩ := c.def_ 19 (d := dd_law) rfl
  have M_all := He.free_ok X Gn (c.fact 0 (f := .free "all") rfl)
  have M_LETTERS := He.str_ok X Gn (c.fact 1 (f := .str "LETTERS" lettersS) rfl)
  have M_len := He.free_ok X Gn (c.fact 2 (f := .free "len") rfl)
  have M_sorted := He.free_ok X Gn (c.fact 3 (f := .free "sorted") rfl)
  have M_range := He.free_ok X Gn (c.fact 4 (f := .free "range") rfl)
  have M_tuple := He.free_ok X Gn (c.fact 5 (f := .free "tuple") rfl)
  have C_Rule : ClsG K mg "Rule" (He.ga K "Rule") := ⟨He.glo_ok X Gn (c.fact 6 (f := .glo "Rule") rfl), He.cls_ok (c.fact 7 (f := .cls "Rule") rfl)⟩
  have NA_Rule_kept_early := He.noat_ok (c.fact 8 (f := .noat "Rule" "kept_early") rfl)
  have NA_Rule_kept_keyed := He.noat_ok (c.fact 9 (f := .noat "Rule" "kept_keyed") rfl)
  have NA_Rule_kept_ranks := He.noat_ok (c.fact 10 (f := .noat "Rule" "kept_ranks") rfl)
  have M_list := He.free_ok X Gn (c.fact 11 (f := .free "list") rfl)
  have M_isinstance := He.free_ok X Gn (c.fact 12 (f := .free "isinstance") rfl)
  have ISI_Rule := isi_ok (He.cls_ok (c.fact 7 (f := .cls "Rule") rfl)) (c.more 0 (f := .isi "Rule") rfl)
  have KIT_Rule_Rule := kit_ok (c.more 1 (f := .kit "Rule" "Rule" true) rfl)
  have M_abs := He.free_ok X Gn (c.fact 13 (f := .free "abs") rfl)
  have M_int := He.free_ok X Gn (c.fact 14 (f := .free "int") rfl)
  have M_dict := He.free_ok X Gn (c.fact 15 (f := .free "dict") rfl)
  have M_repr := He.free_ok X Gn (c.fact 16 (f := .free "repr") rfl)
  have NEE_Rule := nee_ok (c.more 2 (f := .nee "Rule") rfl)
  have TZ_Rule_init := tz_ok (c.more 3 (f := .tz (He.dflAt ("Rule", some "__init__") 0)) rfl)
  have M_max := He.free_ok X Gn (c.fact 17 (f := .free "max") rfl)
  have M_min := He.free_ok X Gn (c.fact 18 (f := .free "min") rfl)
  have e := hfa.symm.trans (He.glo_ok X Gn (c.fact 33 (f := .glo "law") rfl))
  cases e
  refine ⟨fd_law, fun s v => FunD.bindsA (ps := ["script"]) B_law (fun _ _ _ _ _ _ us hl => match us, hl with | [_], _ => rfl) s [v] rfl, fun base _ _ => ?_⟩
  have D_is_name := ok_is_name (P := P) (w := w) (base := base) (ca := He.ga K)  B_is_name M_all M_LETTERS M_len (He.glo_ok X Gn (c.fact 19 (f := .glo "is_name") rfl))
  have D_check_all_names := ok_check_all_names (P := P) (w := w) (base := base) (ca := He.ga K)  B_check_all_names D_is_name (He.glo_ok X Gn (c.fact 20 (f := .glo "check_all_names") rfl))
  have D_check_all_names_o_t := ok_check_all_names_o_t (P := P) (w := w) (base := base) (ca := He.ga K)  B_check_all_names_o_t D_is_name (He.glo_ok X Gn (c.fact 20 (f := .glo "check_all_names") rfl))
  have KP_Rule_p0p1p2p3 : MakP P w K mg base _ "Rule" _ _ _ (fun vs zs => selL [.p 0, .p 1, .p 2, .p 3] vs [.ref (He.dflAt ("Rule", some "__init__") 0 K), .non, .non] zs) _ := ⟨⟨_, _, _, (okF_Rule_init (P := P) (w := w) (base := base) (ca := He.ga K) (A_Rule := He.ga K "Rule") B_Rule_init D_check_all_names M_sorted M_range M_len M_tuple C_Rule NA_Rule_kept_early NA_Rule_kept_keyed NA_Rule_kept_ranks), He.mkr_ok (c.fact 21 (f := .mkr "Rule") rfl), (pat_d (ps := ["self", "early", "keyed", "ranks"]) B_Rule_init 4 [] [.p 0, .p 1, .p 2, .p 3] (by intro e; cases e) fun _ _ _ _ _ _ _ us its ws h1 h2 h3 => match us, h1, its, h2, ws, h3 with | [_, _, _, _], _, [_, _, _], _, [], _ => ⟨_, rfl, rfl⟩)⟩, He.glo_ok X Gn (c.fact 6 (f := .glo "Rule") rfl)⟩
  have KP_Rule_o_t_p0d0d1d2 : MakP P w K mg base _ "Rule" _ _ _ (fun vs zs => selL [.p 0, .d 0, .d 1, .d 2] vs [.ref (He.dflAt ("Rule", some "__init__") 0 K), .non, .non] zs) _ := ⟨⟨_, _, _, (okF_Rule_init_o_t (P := P) (w := w) (base := base) (ca := He.ga K) (A_Rule := He.ga K "Rule") B_Rule_init_o_t D_check_all_names_o_t D_check_all_names M_sorted M_range M_len M_tuple C_Rule NA_Rule_kept_early NA_Rule_kept_keyed NA_Rule_kept_ranks), He.mkr_ok (c.fact 21 (f := .mkr "Rule") rfl), (pat_d (ps := ["self", "early", "keyed", "ranks"]) B_Rule_init_o_t 1 [] [.p 0, .d 0, .d 1, .d 2] (by intro e; cases e) fun _ _ _ _ _ _ _ us its ws h1 h2 h3 => match us, h1, its, h2, ws, h3 with | [_], _, [_, _, _], _, [], _ => ⟨_, rfl, rfl⟩)⟩, He.glo_ok X Gn (c.fact 6 (f := .glo "Rule") rfl)⟩
  have PRO_Rule_early : ProG P w K mg base _ _ _ _ _ := ⟨⟨_, _, _, (okF_Rule_early (P := P) (w := w) (base := base) (ca := He.ga K) (A_Rule := He.ga K "Rule") B_Rule_early C_Rule NA_Rule_kept_early M_list), prop_ok (c.more 4 (f := .prop "Rule" "early") rfl), (B_Rule_early.bindsN (ps := ["self"]) fun _ _ _ _ _ _ us hl => match us, hl with | [_], _ => rfl)⟩⟩
  have PRO_Rule_keyed : ProG P w K mg base _ _ _ _ _ := ⟨⟨_, _, _, (okF_Rule_keyed (P := P) (w := w) (base := base) (ca := He.ga K) (A_Rule := He.ga K "Rule") B_Rule_keyed C_Rule NA_Rule_kept_keyed M_list), prop_ok (c.more 5 (f := .prop "Rule" "keyed") rfl), (B_Rule_keyed.bindsN (ps := ["self"]) fun _ _ _ _ _ _ us hl => match us, hl with | [_], _ => rfl)⟩⟩
  have PRO_Rule_ranks : ProG P w K mg base _ _ _ _ _ := ⟨⟨_, _, _, (okF_Rule_ranks (P := P) (w := w) (base := base) (ca := He.ga K) (A_Rule := He.ga K "Rule") B_Rule_ranks C_Rule NA_Rule_kept_ranks M_list), prop_ok (c.more 6 (f := .prop "Rule" "ranks") rfl), (B_Rule_ranks.bindsN (ps := ["self"]) fun _ _ _ _ _ _ us hl => match us, hl with | [_], _ => rfl)⟩⟩
  have MET_Rule___eq__ : MetG P w K mg base _ _ _ _ _ := ⟨⟨_, _, (okF_Rule___eq__ (P := P) (w := w) (base := base) (ca := He.ga K) (A_Rule := He.ga K "Rule") B_Rule___eq__ C_Rule NA_Rule_kept_early ISI_Rule KIT_Rule_Rule M_isinstance NA_Rule_kept_ranks NA_Rule_kept_keyed), He.meth_ok (c.fact 22 (f := .meth "Rule" "__eq__") rfl), (B_Rule___eq__.bindsN (ps := ["self", "other"]) fun _ _ _ _ _ _ us hl => match us, hl with | [_, _], _ => rfl)⟩⟩
  have MP_Rule_without_p0p1 : MetP P w K mg base _ _ _ _ _ (fun vs zs => selL [.p 0, .p 1] vs [] zs) _ := ⟨⟨_, _, _, (okF_Rule_without (P := P) (w := w) (base := base) (ca := He.ga K) (A_Rule := He.ga K "Rule") B_Rule_without C_Rule NA_Rule_kept_early NA_Rule_kept_keyed NA_Rule_kept_ranks KP_Rule_p0p1p2p3), He.meth_ok (c.fact 23 (f := .meth "Rule" "without") rfl), (pat_0 (ps := ["self", "name"]) B_Rule_without 2 [] [.p 0, .p 1] fun _ _ _ _ _ _ us ws h1 h2 => match us, h1, ws, h2 with | [_, _], _, [], _ => rfl)⟩⟩
  have MP_Rule_without_p0k0 : MetP P w K mg base _ _ _ _ _ (fun vs zs => selL [.p 0, .k 0] vs [] zs) _ := ⟨⟨_, _, _, (okF_Rule_without (P := P) (w := w) (base := base) (ca := He.ga K) (A_Rule := He.ga K "Rule") B_Rule_without C_Rule NA_Rule_kept_early NA_Rule_kept_keyed NA_Rule_kept_ranks KP_Rule_p0p1p2p3), He.meth_ok (c.fact 23 (f := .meth "Rule" "without") rfl), (pat_0 (ps := ["self", "name"]) B_Rule_without 1 ["name"] [.p 0, .k 0] fun _ _ _ _ _ _ us ws h1 h2 => match us, h1, ws, h2 with | [_], _, [_], _ => rfl)⟩⟩
  have D__law_kit := ok__law_kit (P := P) (w := w) (base := base) (ca := He.ga K)  B__law_kit M_len M_abs M_int (He.glo_ok X Gn (c.fact 24 (f := .glo "_law_kit") rfl))
  have D__law_toss := ok__law_toss (P := P) (w := w) (base := base) (ca := He.ga K)  B__law_toss M_int (He.glo_ok X Gn (c.fact 25 (f := .glo "_law_toss") rfl))
  have D__law_tags := ok__law_tags (P := P) (w := w) (base := base) (ca := He.ga K)  B__law_tags D__law_toss M_range M_int M_len (He.glo_ok X Gn (c.fact 26 (f := .glo "_law_tags") rfl))
  have D__law_plan_of_rule := ok__law_plan_of_rule (P := P) (w := w) (base := base) (ca := He.ga K)  B__law_plan_of_rule D__law_toss M_len (He.glo_ok X Gn (c.fact 27 (f := .glo "_law_plan_of_rule") rfl))
  have D__law_wide_rule := ok__law_wide_rule (P := P) (w := w) (base := base) (ca := He.ga K)  B__law_wide_rule D__law_tags M_range D__law_toss (He.glo_ok X Gn (c.fact 28 (f := .glo "_law_wide_rule") rfl))
  have D__law_made_rule := ok__law_made_rule (P := P) (w := w) (base := base) (ca := He.ga K) (A_Rule := He.ga K "Rule") B__law_made_rule M_list M_dict KP_Rule_p0p1p2p3 (He.glo_ok X Gn (c.fact 29 (f := .glo "_law_made_rule") rfl))
  have D__law_less := ok__law_less (P := P) (w := w) (base := base) (ca := He.ga K)  B__law_less  (He.glo_ok X Gn (c.fact 30 (f := .glo "_law_less") rfl))
  have D__law_told := ok__law_told (P := P) (w := w) (base := base) (ca := He.ga K) (A_Rule := He.ga K "Rule") B__law_told C_Rule PRO_Rule_early PRO_Rule_keyed PRO_Rule_ranks M_repr (He.glo_ok X Gn (c.fact 31 (f := .glo "_law_told") rfl))
  have D__law_right := ok__law_right (P := P) (w := w) (base := base) (ca := He.ga K) (A_Rule := He.ga K "Rule") B__law_right D__law_tags D__law_wide_rule D__law_plan_of_rule D__law_toss D__law_made_rule D__law_told D__law_less C_Rule MP_Rule_without_p0p1 MP_Rule_without_p0k0 ISI_Rule KIT_Rule_Rule M_isinstance MET_Rule___eq__ NEE_Rule M_range M_repr TZ_Rule_init KP_Rule_o_t_p0d0d1d2 (He.glo_ok X Gn (c.fact 32 (f := .glo "_law_right") rfl))
  exact okF_law (A_Rule := He.ga K "Rule") B_law M_range M_max M_min M_len D__law_kit D__law_right
end Pf
open PySem PySem.W PySem.Calls PyProof.Rows
theorem PySem.Challenge.cw_anycut_k16_rules_without_a_call_holds : PySem.Challenge.rw_anycut_k16_rules_without_a_call.Holds := by
  w_on; o_law
  refine HandSHeadRun.head_any (r := OpenLaw.row PySem.Challenge.rw_anycut_k16_rules_without_a_call) (q := view (OpenLaw.row PySem.Challenge.rw_anycut_k16_rules_without_a_call).prog [22]) (H := Pf.hk) (ob := Pf.ob) (M := 3000) (loose := ["CutError", "InvalidName", "DoubleName", "EmptyBatch", "LETTERS", "is_name", "check_all_names", "Rule", "_law_kit", "_law_toss", "_law_tags", "_law_plan_of_rule", "_law_wide_rule", "_law_made_rule", "_law_batched", "_law_less", "_law_told", "_law_right"]) (d := HandSHeadRun.topDef (OpenLaw.row PySem.Challenge.rw_anycut_k16_rules_without_a_call).prog 22) (kwd := []) Pf.ob_eq
    (by kernel_rfl) (fun s => by kernel_rfl) Pf.run (by kernel_rfl) (by kernel_rfl) (by kernel_rfl) (by rfl) (by first | assumption | decide +kernel) (by decide +kernel) ⟨rfl, rfl, rfl, rfl, rfl, by decide +kernel⟩ ?hw ?hc
  case hw => w_witness2
  case hc =>
    refine AC.walk_G (l := PySem.Challenge.rw_anycut_k16_rules_without_a_call) (n := 63) (k := 7) (x := "script") rfl (by decide) (by kernel_rfl) ⟨rfl, by decide, by decide⟩ ?F
    intro w mg fa h Y G hmg0
    obtain ⟨K, KX, c⟩ := Y
    have hmg : mg ("law" : PySem.Str) = some (.ref fa) := by
      have e : (HandSHeadRun.topDef (OpenLaw.row PySem.Challenge.rw_anycut_k16_rules_without_a_call).prog 22).name = ("law" : PySem.Str) := by kernel_rfl
      rw [← e]
      exact hmg0
    obtain ⟨fd, hb, hF⟩ := Pf.facts (P := (PySem.Challenge.rw_anycut_k16_rules_without_a_call).prog) (w := w) KX G hmg c
    exact ⟨K, fd, _, KX, hb, fun H a ns hl _ hS => AC.sp_law Pf.law_true (by decide) H a ns hl hS, hF⟩
