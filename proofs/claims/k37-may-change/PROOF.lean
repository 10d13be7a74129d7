import PyProof.Rows.All
import Wide.All
import OpenK.AllK
import Wide.FinOn
import KE.KStateDown
import HandS.ForMost
import HandS.ForSpec
import HandS.CallSlots
import HandS.Wide
import HandS.Walk
import HandS.WordsExc
import HandS.Defaults
import HandS.HeadHook2
import HandS.Deep
import HandS.Style
import HandS.Strs
import HandS.Text
import HandS.Dict
import HandS.List
import HandS.HeadEnd
import HandS.Head0
import HandS.Head1
import HandS.Head2
import HandS.HeadHook1
import PySem.Challenge.RW_anycut_k37_calls_that_may_change_places
set_option Elab.async false
set_option linter.all false
set_option maxRecDepth 100000
/-! TL1: results, labels, codecs, slots, the typed state; the canonical readings. -/
namespace AC
open PySem L2

structure Exn where
  cls : Str
  val : PyData
inductive Res (α : Type) where
  | ok (a : α) | exc (e : Exn) | bad
def Res.bind {α β : Type} : Res α → (α → Res β) → Res β
  | .ok a, f => f a
  | .exc e, _ => .exc e
  | .bad, _ => .bad
def Res.noexc {α : Type} : Res α → Res α
  | .exc _ => .bad
  | r => r
def Res.guard {α : Type} (b : Bool) (r : Res α) : Res α := if b then r else .bad
instance : Monad Res where
  pure := .ok
  bind := Res.bind
theorem Res.bind_ok {α β : Type} (a : α) (f : α → Res β) : Res.bind (.ok a) f = f a := rfl
theorem Res.bind_assoc {α β γ : Type} (m : Res α) (f : α → Res β) (g : β → Res γ) : Res.bind (Res.bind m f) g = Res.bind m fun x => Res.bind (f x) g := by
  cases m <;> rfl
theorem Res.bind_ok_right {α : Type} (m : Res α) : Res.bind m .ok = m := by cases m <;> rfl

abbrev Frag := PySem.W.Frag
/-- who owns an address: 0 what may be read, i + 1 the i-th slot -/
abbrev Lab := Addr → Option (Nat × List Nat)
def rd (L : Lab) (H : Hp) : Hp := fun a => match L a with
  | some (0, _) => H a
  | _ => none
def sub (L : Lab) (k : Nat) : Addr → Option (List Nat) := fun a => match L a with
  | some (j, l) => if j = k then some l else none
  | none => none
/-- what may change: lists, dicts, sets -/
def SoftO : HO → Prop
  | .lst _ => True
  | .dK _ => True
  | .dT _ => True
  | .set _ _ => True
  | .ext _ => True
  | _ => False
/-- a path that stands for an instance under way, or its dict -/
def insL (l : List Nat) : Bool := l.head? == some 999
def NonTup (l : List Nat) : Option HO → Prop
  | some o => if insL l then (∀ xs, o ≠ .tup xs) else SoftO o
  | none => False
structure Wf (L : Lab) (H : Hp) : Prop where
  dom : ∀ a, L a ≠ none → H a ≠ none
  soft : ∀ a k l, L a = some (k + 1, l) → NonTup l (H a)
/-- not to be touched: known to nobody here, or only to be read -/
def Frm (L : Lab) (H : Hp) (a : Addr) : Prop := H a ≠ none ∧ (L a = none ∨ ∃ l, L a = some (0, l))
def Stp (L : Lab) (H : Hp) (L' : Lab) (H' : Hp) : Prop := ∀ a, Frm L H a → L' a = L a ∧ H' a = H a
/-- nothing at all is touched -/
def Ext (L : Lab) (H : Hp) (L' : Lab) (H' : Hp) : Prop := ∀ a, H a ≠ none → L' a = L a ∧ H' a = H a
theorem Stp.refl {L : Lab} {H : Hp} : Stp L H L H := fun _ _ => ⟨rfl, rfl⟩
theorem Ext.refl {L : Lab} {H : Hp} : Ext L H L H := fun _ _ => ⟨rfl, rfl⟩
theorem Ext.stp {L L' : Lab} {H H' : Hp} (e : Ext L H L' H') : Stp L H L' H' := fun a f => e a f.1
theorem Stp.frm {L L' : Lab} {H H' : Hp} (s : Stp L H L' H') {a : Addr} (f : Frm L H a) : Frm L' H' a := by
  obtain ⟨e1, e2⟩ := s a f
  exact ⟨by rw [e2]; exact f.1, by rw [e1]; exact f.2⟩
theorem Stp.trans {L L1 L2 : Lab} {H H1 H2 : Hp} (s : Stp L H L1 H1) (t : Stp L1 H1 L2 H2) : Stp L H L2 H2 := fun a f => by
  obtain ⟨e1, e2⟩ := s a f
  obtain ⟨e3, e4⟩ := t a (s.frm f)
  exact ⟨e3.trans e1, e4.trans e2⟩
theorem Ext.trans {L L1 L2 : Lab} {H H1 H2 : Hp} (s : Ext L H L1 H1) (t : Ext L1 H1 L2 H2) : Ext L H L2 H2 := fun a f => by
  obtain ⟨e1, e2⟩ := s a f
  obtain ⟨e3, e4⟩ := t a (by rw [e2]; exact f)
  exact ⟨e3.trans e1, e4.trans e2⟩
theorem rd_of {L : Lab} {H : Hp} {a : Addr} {o : HO} (h : rd L H a = some o) : (∃ l, L a = some (0, l)) ∧ H a = some o := by
  unfold rd at h
  split at h
  · rename_i l e
    exact ⟨⟨l, e⟩, h⟩
  · cases h
theorem rd_mk {L : Lab} {H : Hp} {a : Addr} {o : HO} {l : List Nat} (h1 : L a = some (0, l)) (h2 : H a = some o) : rd L H a = some o := by
  unfold rd; rw [h1]; exact h2
theorem Stp.rd {L L' : Lab} {H H' : Hp} (s : Stp L H L' H') : Same (rd L H) (rd L' H') := fun a o h => by
  obtain ⟨⟨l, e⟩, h2⟩ := rd_of h
  obtain ⟨e1, e2⟩ := s a ⟨by rw [h2]; simp, .inr ⟨l, e⟩⟩
  exact rd_mk (e1.trans e) (e2.trans h2)
theorem rd_sub {L : Lab} {H : Hp} : Same (rd L H) H := fun _ _ h => (rd_of h).2
theorem sub_of {L : Lab} {k : Nat} {a : Addr} {l : List Nat} (h : sub L k a = some l) : L a = some (k, l) := by
  unfold sub at h
  split at h
  · rename_i j l' e
    split at h
    · rename_i ej; cases h; rw [e, ej]
    · cases h
  · cases h
theorem sub_mk {L : Lab} {k : Nat} {a : Addr} {l : List Nat} (h : L a = some (k, l)) : sub L k a = some l := by
  unfold sub; rw [h]; simp

/-! ### codecs -/
structure Cod (α : Type) where
  see : Frag → Hp → V → α → Prop
  mono : ∀ (K : Frag) (R R' : Hp) (v : V) (x : α), Same R R' → see K R v x → see K R' v x
structure OCod (α : Type) where
  own : Frag → Hp → (Addr → Option (List Nat)) → Hp → List Nat → V → α → Prop
  mono : ∀ (K : Frag) (R R' : Hp) (M M' : Addr → Option (List Nat)) (H H' : Hp) (l : List Nat) (v : V) (x : α), Same R R' → (∀ a m, M a = some m → M' a = some m ∧ H' a = H a) → own K R M H l v x → own K R' M' H' l v x

/-- what a slot is known to hold -/
structure Slot where
  T : Type
  rel : Frag → Nat → T → Lab → Hp → Option (Option V) → Prop
  keep : ∀ (K : Frag) (k : Nat) (x : T) (L : Lab) (H : Hp) (L' : Lab) (H' : Hp) (o : Option (Option V)), Same (rd L H) (rd L' H') → (∀ a l, L a = some (k + 1, l) → L' a = L a ∧ H' a = H a) → rel K k x L H o → rel K k x L' H' o
abbrev sAny : Slot := ⟨Unit, fun _ _ _ _ _ _ => True, fun _ _ _ _ _ _ _ _ _ _ h => h⟩
abbrev sVal {α : Type} (c : Cod α) : Slot := ⟨α, fun K _ x L H o => ∃ v, o = some (some v) ∧ c.see K (rd L H) v x, fun K _ x L H L' H' o s _ ⟨v, e, h⟩ => ⟨v, e, c.mono K _ _ v x s h⟩⟩
abbrev sOwn {α : Type} (P : V → Prop) (c : OCod α) : Slot := ⟨α, fun K k x L H o => ∃ v, P v ∧ o = some (some v) ∧ c.own K (rd L H) (sub L (k + 1)) H [] v x, fun K k x L H L' H' o s t ⟨v, p, e, h⟩ =>
  ⟨v, p, e, c.mono K _ _ _ _ _ _ _ v x s (fun a m hm => ⟨sub_mk ((t a m (sub_of hm)).1.trans (sub_of hm)), (t a m (sub_of hm)).2⟩) h⟩⟩
abbrev PAny : V → Prop := fun _ => True

abbrev Ctx := List Slot
def CT : Ctx → Type
  | [] => Unit
  | s :: G => s.T × CT G
def CR (K : Frag) : Nat → (G : Ctx) → CT G → Lab → Hp → St → Prop
  | k, [], _, _, _, o => k ≤ o.length
  | k, s :: G, r, L, H, o => s.rel K k r.1 L H o[k]? ∧ CR K (k + 1) G r.2 L H o
theorem CR.keep {K : Frag} {L L' : Lab} {H H' : Hp} {o : St} (s : Same (rd L H) (rd L' H')) : ∀ {k : Nat} {G : Ctx} {r : CT G}, (∀ a j l, k ≤ j → L a = some (j + 1, l) → L' a = L a ∧ H' a = H a) → CR K k G r L H o → CR K k G r L' H' o
  | _, [], _, _, c => c
  | k, t :: G, r, h, c => ⟨t.keep K k r.1 L H L' H' _ s (fun a l e => h a k l (Nat.le_refl _) e) c.1, CR.keep s (fun a j l hj e => h a j l (Nat.le_of_succ_le hj) e) c.2⟩
theorem CR.ext {K : Frag} {L L' : Lab} {H H' : Hp} {o : St} {k : Nat} {G : Ctx} {r : CT G} (w : Wf L H) (e : Ext L H L' H') (c : CR K k G r L H o) : CR K k G r L' H' o :=
  c.keep e.stp.rd fun a j l _ ea => e a (w.dom a (by rw [ea]; simp))

/-! ### what an expression gives -/
structure Rt (α : Type) where
  rel : Frag → Lab → Hp → Lab → Hp → V → α → Prop
  post : ∀ (K : Frag) (L : Lab) (H : Hp) (L1 : Lab) (H1 : Hp) (L2 : Lab) (H2 : Hp) (v : V) (x : α), Stp L1 H1 L2 H2 → rel K L H L1 H1 v x → rel K L H L2 H2 v x
  pre : ∀ (K : Frag) (L : Lab) (H : Hp) (L1 : Lab) (H1 : Hp) (L2 : Lab) (H2 : Hp) (v : V) (x : α), Stp L H L1 H1 → rel K L1 H1 L2 H2 v x → rel K L H L2 H2 v x
def rV {α : Type} (c : Cod α) : Rt α := ⟨fun K _ _ L' H' v x => c.see K (rd L' H') v x, fun K _ _ _ _ _ _ v x s h => c.mono K _ _ v x s.rd h, fun _ _ _ _ _ _ _ _ _ _ h => h⟩
def OwnAt {α : Type} (c : OCod α) (K : Frag) (L : Lab) (H : Hp) (L' : Lab) (H' : Hp) (v : V) (x : α) : Prop :=
  ∃ M : Addr → Option (List Nat), (∀ a m, M a = some m → L' a = none ∧ NonTup m (H' a) ∧ ¬ Frm L H a) ∧ c.own K (rd L' H') M H' [] v x
theorem NonTup.ne {l : List Nat} {o : Option HO} (h : NonTup l o) : o ≠ none := by
  cases o with
  | none => exact h.elim
  | some _ => simp
def rO {α : Type} (c : OCod α) : Rt α := ⟨fun K L H L' H' v x => OwnAt c K L H L' H' v x, fun K L H L1 H1 L2 H2 v x s ⟨M, hM, h⟩ => ⟨M, fun a m e => by
    obtain ⟨h1, h2, h3⟩ := hM a m e
    obtain ⟨e1, e2⟩ := s a ⟨h2.ne, .inl h1⟩
    exact ⟨e1.trans h1, by rw [e2]; exact h2, h3⟩,
  c.mono K _ _ _ _ _ _ _ v x s.rd (fun a m e => ⟨e, (s a ⟨(hM a m e).2.1.ne, .inl (hM a m e).1⟩).2⟩) h⟩, fun K L H L1 H1 L2 H2 v x s ⟨M, hM, h⟩ => ⟨M, fun a m e => by
    obtain ⟨h1, h2, h3⟩ := hM a m e
    exact ⟨h1, h2, fun f => h3 (s.frm f)⟩, h⟩⟩

/-! ### the surroundings -/
structure Amb where
  X : Cx
  W : WX
  tk : Takes X W
  calm : X.calm = true
  hp : PassesOwn (model X.prog X.w) X.A X.env X.xe
  nd : X.N.Nodup
  ca : Str → Addr
  S : Nat → Prop
  lv : Nat
  room : Room lv X.A
  gd : X.A.guards = some []
/-- an exception as it leaves: nothing that is to stay was touched -/
def RzK (K : Frag) (ca : Str → Addr) (L : Lab) (H : Hp) (e : Exn) (cls : Value) (d : Addr) (H' : Hp) : Prop :=
  cls = .ref (ca e.cls) ∧ (∀ a, Frm L H a → H' a = H a) ∧ ¬ Frm L H d ∧ ∃ v, H' d = some (.xd [("value", v)]) ∧ ∃ R : Hp, Same R H' ∧ Same (rd L H) R ∧ (∀ a o, R a = some o → rd L H a = some o ∨ ¬ Frm L H a) ∧ Dp K R v e.val
abbrev Rz (A : Amb) (L : Lab) (H : Hp) (e : Exn) (cls : Value) (d : Addr) (H' : Hp) : Prop := RzK A.X.K A.ca L H e cls d H'
def Amb.raises (A : Amb) (e : Exn) (L : Lab) (H : Hp) (o : St) : Prop := ∀ cls d H', Rz A L H e cls d H' → ∀ o', (∀ i, ¬ A.S i → o'[i]? = o[i]?) → A.W cls (some d) o' H'
theorem Amb.raises.mono {A : Amb} {e : Exn} {L L1 : Lab} {H H1 : Hp} {o o1 : St} (s : Stp L H L1 H1) (ho : ∀ i, ¬ A.S i → o1[i]? = o[i]?) (r : A.raises e L H o) : A.raises e L1 H1 o1 := fun cls d H' ⟨h1, h2, h3, v, h4, R, h5, h6, h7, h8⟩ o' h' =>
  r cls d H' ⟨h1, fun a f => (h2 a (s.frm f)).trans (s a f).2, fun f => h3 (s.frm f), v, h4, R, h5, fun a o q => h6 a o (s.rd a o q), fun a o q => by
    rcases h7 a o q with z | z
    · by_cases f : Frm L H a
      · refine .inl ?_
        obtain ⟨e1, e2⟩ := s a f
        obtain ⟨⟨l, z1⟩, z2⟩ := rd_of z
        exact rd_mk (e1.symm.trans z1) (e2.symm.trans z2)
      · exact .inr f
    · exact .inr fun f => z (s.frm f), h8⟩ o' fun i hi => (h' i hi).trans (ho i hi)
def Good (A : Amb) {α : Type} (m : Res α) (L : Lab) (H : Hp) (o : St) (P : α → Prop) : Prop := match m with
  | .ok a => P a
  | .exc e => A.raises e L H o
  | .bad => False
theorem Good.imp {A : Amb} {α : Type} {m : Res α} {L : Lab} {H : Hp} {o : St} {P Q : α → Prop} (h : Good A m L H o P) (i : ∀ a, m = .ok a → P a → Q a) : Good A m L H o Q := by
  cases m with
  | ok a => exact i a rfl h
  | exc e => exact h
  | bad => exact h
theorem Good.step {A : Amb} {α : Type} {m : Res α} {L L1 : Lab} {H H1 : Hp} {o : St} {P : α → Prop} (s : Stp L H L1 H1) (h : Good A m L H o P) : Good A m L1 H1 o P := by
  cases m with
  | ok a => exact h
  | exc e => exact Amb.raises.mono s (fun _ _ => rfl) h
  | bad => exact h
theorem Good.bind {A : Amb} {α β : Type} {m : Res α} {f : α → Res β} {L : Lab} {H : Hp} {o : St} {P : β → Prop} (h : Good A (Res.bind m f) L H o P) : Good A m L H o fun a => Good A (f a) L H o P := by
  cases m with
  | ok a => exact h
  | exc e => exact h
  | bad => exact h

section
variable (A : Amb)
/-- the canonical reading of an expression -/
def tE {α : Type} (G : Ctx) (r : Rt α) (f : CT G → Res (α × CT G)) : L2.TE := fun o H Q =>
  ∃ (p : CT G) (L : Lab), Wf L H ∧ CR A.X.K 0 G p L H o ∧ Good A (f p) L H o fun y => ∀ (v : V) (L' : Lab) (H' : Hp), Stp L H L' H' → Wf L' H' → CR A.X.K 0 G y.2 L' H' o → r.rel A.X.K L H L' H' v y.1 → Q v H'
def tT (G : Ctx) (f : CT G → Res (Bool × CT G)) : L2.TT := fun o H Q =>
  ∃ (p : CT G) (L : Lab), Wf L H ∧ CR A.X.K 0 G p L H o ∧ Good A (f p) L H o fun y => ∀ (L' : Lab) (H' : Hp), Stp L H L' H' → Wf L' H' → CR A.X.K 0 G y.2 L' H' o → Q y.1 H'
end
/-- an expression: e gives what f says -/
def EX (A : Amb) (G : Ctx) (e : Expr) {α : Type} (r : Rt α) (f : CT G → Res (α × CT G)) : Prop := PE A.X e (tE A G r f)
def TX (A : Amb) (G : Ctx) (e : Expr) (f : CT G → Res (Bool × CT G)) : Prop := PT A.X e (tT A G f)
theorem pe_weak {X : Cx} {e : Expr} {t t' : L2.TE} (h : PE X e t) (i : ∀ o H Q, t' o H Q → t o H Q) : PE X e t' := ⟨fun pins s o H Q I q => h.run pins s o H Q I (i _ _ _ q)⟩
theorem pt_weak {X : Cx} {e : Expr} {t t' : L2.TT} (h : PT X e t) (i : ∀ o H Q, t' o H Q → t o H Q) : PT X e t' := ⟨fun pins s o H Q I q => h.run pins s o H Q I (i _ _ _ q)⟩

/-- one part -/
theorem run1 {A : Amb} {G : Ctx} {α β : Type} {r : Rt α} {f : CT G → Res (α × CT G)} {g : α × CT G → Res β} {o : St} {H : Hp} {Q : VK} {p : CT G} {L : Lab} {P : β → Prop} (w : Wf L H) (c : CR A.X.K 0 G p L H o) (h : Good A (Res.bind (f p) g) L H o P)
    (k : ∀ x p' v L' H', Stp L H L' H' → Wf L' H' → CR A.X.K 0 G p' L' H' o → r.rel A.X.K L H L' H' v x → Good A (g (x, p')) L' H' o P → Q v H') : tE A G r f o H Q :=
  ⟨p, L, w, c, h.bind.imp fun y _ hy v L' H' s w' c' rl => k y.1 y.2 v L' H' s w' c' rl (hy.step s)⟩
end AC
set_option Elab.async false
set_option linter.all false
set_option maxRecDepth 100000
/-! TL2: codecs; expressions: names, constants, operators, comparisons, tests. -/
namespace AC
open PySem L2 PyProof

/-! ### codecs -/
def SeeT (K : Frag) (R : Hp) (a : Addr) (xs : List V) : Prop :=
  R a = some (.tup xs) ∨ ∃ (o : Obj) (its : Array Value) (n : Nat), K.lookup a = some o ∧ o.cls = .type "tuple" ∧ o.data = .seq its n ∧ its.size ≤ sizeLine ∧ Vals xs its.toList
theorem SeeT.same {K : Frag} {R R' : Hp} {a : Addr} {xs : List V} (s : Same R R') : SeeT K R a xs → SeeT K R' a xs
  | .inl h => .inl (s _ _ h)
  | .inr h => .inr h
theorem SeeT.sq {K : Frag} {R : Hp} {a : Addr} {xs : List V} : SeeT K R a xs → SqT K R a xs
  | .inl h => .inl (.inl h)
  | .inr h => .inr h
theorem paired_mono {α β : Type} {F G : α → β → Prop} (i : ∀ a b, F a b → G a b) : ∀ {l : List α} {m : List β}, Paired F l m → Paired G l m
  | _, _, .nil => .nil
  | _, _, .cons r t => .cons (i _ _ r) (paired_mono i t)
theorem paired_len {α β : Type} {F : α → β → Prop} : ∀ {l : List α} {m : List β}, Paired F l m → l.length = m.length
  | _, _, .nil => rfl
  | _, _, .cons _ t => by rw [List.length_cons, List.length_cons, paired_len t]
theorem paired_get {α β : Type} {F : α → β → Prop} : ∀ {l : List α} {m : List β} {i : Nat} {y : β}, Paired F l m → m[i]? = some y → ∃ x, l[i]? = some x ∧ F x y
  | _, _, _, _, .nil, h => by simp at h
  | _, _, 0, y, .cons r t, h => by simp at h; subst h; exact ⟨_, rfl, r⟩
  | _, _, i + 1, y, .cons r t, h => by
    obtain ⟨x, h1, h2⟩ := paired_get (i := i) t (by simpa using h)
    exact ⟨x, by simpa using h1, h2⟩
theorem paired_getL {α β : Type} {F : α → β → Prop} : ∀ {l : List α} {m : List β} {i : Nat} {x : α}, Paired F l m → l[i]? = some x → ∃ y, m[i]? = some y ∧ F x y
  | _, _, _, _, .nil, h => by simp at h
  | _, _, 0, y, .cons r t, h => by simp at h; subst h; exact ⟨_, rfl, r⟩
  | _, _, i + 1, y, .cons r t, h => by
    obtain ⟨x, h1, h2⟩ := paired_getL (i := i) t (by simpa using h)
    exact ⟨x, by simpa using h1, h2⟩
theorem paired_append {α β : Type} {F : α → β → Prop} : ∀ {l l' : List α} {m m' : List β}, Paired F l m → Paired F l' m' → Paired F (l ++ l') (m ++ m')
  | _, _, _, _, .nil, q => q
  | _, _, _, _, .cons r t, q => .cons r (paired_append t q)
theorem paired_drop {α β : Type} {F : α → β → Prop} : ∀ {l : List α} {m : List β} (n : Nat), Paired F l m → Paired F (l.drop n) (m.drop n)
  | _, _, 0, p => p
  | _, _, _ + 1, .nil => .nil
  | _, _, n + 1, .cons _ t => paired_drop n t
theorem paired_take {α β : Type} {F : α → β → Prop} : ∀ {l : List α} {m : List β} (n : Nat), Paired F l m → Paired F (l.take n) (m.take n)
  | _, _, 0, p => .nil
  | _, _, _ + 1, .nil => .nil
  | _, _, n + 1, .cons r t => .cons r (paired_take n t)
theorem paired_at {α β : Type} {F : α → β → Prop} {l : List α} {m : List β} {i : Int} {y : β} (p : Paired F l m) (h : atI m i = some y) : ∃ x, atI l i = some x ∧ F x y := by
  unfold atI at h ⊢
  rw [paired_len p]
  cases e : ixN m.length i with
  | none => rw [e] at h; cases h
  | some j =>
    rw [e] at h
    exact paired_get p h
theorem paired_iff_map {α β γ : Type} {F : α → β → Prop} {g : β → γ} {G : α → γ → Prop} (i : ∀ a b, F a b → G a (g b)) : ∀ {l : List α} {m : List β}, Paired F l m → Paired G l (m.map g)
  | _, _, .nil => .nil
  | _, _, .cons r t => .cons (i _ _ r) (paired_iff_map i t)

def cI : Cod Int := ⟨fun _ _ v x => v = .int x, fun _ _ _ _ _ _ h => h⟩
def cB : Cod Bool := ⟨fun _ _ v x => v = .bl x, fun _ _ _ _ _ _ h => h⟩
def cN : Cod Unit := ⟨fun _ _ v _ => v = .non, fun _ _ _ _ _ _ h => h⟩
def cS : Cod Str := ⟨fun _ _ v x => v = .str x ∧ PyData.strOk x = true ∧ x.length ≤ sizeLine, fun _ _ _ _ _ _ h => h⟩
def oSee {α : Type} (c : Cod α) (K : Frag) (R : Hp) (v : V) : Option α → Prop
  | none => v = .non
  | some x => c.see K R v x
def cO {α : Type} (c : Cod α) : Cod (Option α) := ⟨fun K R v x => oSee c K R v x, fun K R R' v x s h => by
  cases x with
  | none => exact h
  | some x => exact c.mono K R R' v x s h⟩
/-- some values in a row -/
structure ArgC (α : Type) where
  n : Nat
  see : Frag → Hp → List V → α → Prop
  mono : ∀ (K : Frag) (R R' : Hp) (vs : List V) (x : α), Same R R' → see K R vs x → see K R' vs x
  len : ∀ (K : Frag) (R : Hp) (vs : List V) (x : α), see K R vs x → vs.length = n
def aNil : ArgC Unit := ⟨0, fun _ _ vs _ => vs = [], fun _ _ _ _ _ _ h => h, fun _ _ _ _ h => by rw [h]; rfl⟩
def aOne {α : Type} (c : Cod α) : ArgC α := ⟨1, fun K R vs x => ∃ v, vs = [v] ∧ c.see K R v x, fun K R R' vs x s ⟨v, e, h⟩ => ⟨v, e, c.mono K R R' v x s h⟩, fun _ _ _ _ ⟨_, e, _⟩ => by rw [e]; rfl⟩
def aCons {α β : Type} (c : Cod α) (as : ArgC β) : ArgC (α × β) := ⟨as.n + 1, fun K R vs x => ∃ v ws, vs = v :: ws ∧ c.see K R v x.1 ∧ as.see K R ws x.2, fun K R R' vs x s ⟨v, ws, e, h, h'⟩ => ⟨v, ws, e, c.mono K R R' v _ s h, as.mono K R R' ws _ s h'⟩,
  fun K R vs x ⟨v, ws, e, _, h⟩ => by rw [e, List.length_cons, as.len K R ws _ h]⟩
/-- so many values of one kind -/
def aAll {α : Type} (c : Cod α) (n : Nat) : ArgC (List α) := ⟨n, fun K R vs xs => vs.length = n ∧ Paired (fun v x => c.see K R v x) vs xs, fun K R R' vs xs s ⟨h1, h2⟩ => ⟨h1, paired_mono (fun _ _ q => c.mono K R R' _ _ s q) h2⟩, fun _ _ _ _ h => h.1⟩
/-- a tuple of so many places -/
def cT {α : Type} (as : ArgC α) : Cod α := ⟨fun K R v x => ∃ a vs, v = .ref a ∧ SeeT K R a vs ∧ as.see K R vs x, fun K R R' v x s ⟨a, vs, e, h, h'⟩ => ⟨a, vs, e, h.same s, as.mono K R R' vs x s h'⟩⟩
/-- a tuple of any length, of one kind -/
def cTV {α : Type} (c : Cod α) : Cod (List α) := ⟨fun K R v xs => ∃ a vs, v = .ref a ∧ SeeT K R a vs ∧ vs.length ≤ sizeLine ∧ Paired (fun v x => c.see K R v x) vs xs, fun K R R' v x s ⟨a, vs, e, h, hl, h'⟩ => ⟨a, vs, e, h.same s, hl, paired_mono (fun _ _ q => c.mono K R R' _ _ s q) h'⟩⟩
/-- a list that stays as it is -/
def cL {α : Type} (c : Cod α) : Cod (List α) := ⟨fun K R v xs => ∃ a vs, v = .ref a ∧ R a = some (.lst vs) ∧ vs.length ≤ sizeLine ∧ Paired (fun v x => c.see K R v x) vs xs, fun K R R' v x s ⟨a, vs, e, h, hl, h'⟩ => ⟨a, vs, e, s _ _ h, hl, paired_mono (fun _ _ q => c.mono K R R' _ _ s q) h'⟩⟩
/-- a list that came from without -/
def cLK {α : Type} (c : Cod α) : Cod (List α) := ⟨fun K R v xs => ∃ a vs, v = .ref a ∧ SqL K R a vs ∧ vs.length ≤ sizeLine ∧ Paired (fun v x => c.see K R v x) vs xs, fun K R R' v x s ⟨a, vs, e, h, hl, h'⟩ => ⟨a, vs, e, s.seq h, hl, paired_mono (fun _ _ q => c.mono K R R' _ _ s q) h'⟩⟩
/-- a list of one's own -/
def oL {α : Type} (c : Cod α) : OCod (List α) := ⟨fun K R M H l v xs => ∃ p vs, v = .ref p ∧ M p = some l ∧ H p = some (.lst vs) ∧ vs.length ≤ sizeLine ∧ Paired (fun v x => c.see K R v x) vs xs,
  fun K R R' M M' H H' l v x s t ⟨p, vs, e, hm, hp, hl, h'⟩ => ⟨p, vs, e, (t p l hm).1, (t p l hm).2.trans hp, hl, paired_mono (fun _ _ q => c.mono K R R' _ _ s q) h'⟩⟩

/-! ### data -/
/-- what a value is as data, how deep -/
def DC {α : Type} (c : Cod α) (t : α → PyData) (n : Nat) : Prop := ∀ K R v x, c.see K R v x → Dp K R v (t x) ∧ (t x).canLay0 = true ∧ (t x).depth ≤ n
theorem dc_i : DC cI .int 0 := fun K R v x h => by cases h; exact ⟨.int x, by simp [PyData.canLay0], by simp [PyData.depth]⟩
theorem dc_b : DC cB .bool 0 := fun K R v x h => by cases h; exact ⟨.bl x, by simp [PyData.canLay0], by simp [PyData.depth]⟩
theorem dc_n : DC cN (fun _ => .none) 0 := fun K R v x h => by cases h; exact ⟨.non, by simp [PyData.canLay0], by simp [PyData.depth]⟩
theorem dc_s : DC cS .str 0 := fun K R v x h => by obtain ⟨rfl, h, _⟩ := h; exact ⟨.str x, by simpa [PyData.canLay0] using h, by simp [PyData.depth]⟩
def tO {α : Type} (t : α → PyData) : Option α → PyData
  | none => .none
  | some x => t x
theorem dc_o {α : Type} {c : Cod α} {t : α → PyData} {n : Nat} (h : DC c t n) : DC (cO c) (tO t) n := fun K R v x q => by
  cases x with
  | none => cases q; exact ⟨.non, by simp [tO, PyData.canLay0], by simp [tO, PyData.depth]⟩
  | some x => exact h K R v x q
def DA {α : Type} (c : ArgC α) (t : α → List PyData) (n : Nat) : Prop := ∀ K R vs x, c.see K R vs x → DpAll K R vs (t x) ∧ PyData.canLayAll0 (t x) = true ∧ PyData.depthAll (t x) ≤ n
theorem da_nil : DA aNil (fun _ => []) 0 := fun K R v x h => by cases h; exact ⟨.nil, by simp [PyData.canLayAll0], by simp [PyData.depthAll]⟩
theorem da_one {α : Type} {c : Cod α} {t : α → PyData} {n : Nat} (h : DC c t n) : DA (aOne c) (fun x => [t x]) n := fun K R vs x ⟨v, e, q⟩ => by
  subst e
  obtain ⟨h1, h2, h3⟩ := h K R v x q
  exact ⟨.cons h1 .nil, by simp [PyData.canLayAll0, h2], by simp [PyData.depthAll]; omega⟩
theorem da_cons {α β : Type} {c : Cod α} {as : ArgC β} {t : α → PyData} {u : β → List PyData} {n m : Nat} (h : DC c t n) (h' : DA as u m) : DA (aCons c as) (fun x => t x.1 :: u x.2) (max n m) := fun K R vs x ⟨v, ws, e, q, q'⟩ => by
  subst e
  obtain ⟨h1, h2, h3⟩ := h K R v x.1 q
  obtain ⟨g1, g2, g3⟩ := h' K R ws x.2 q'
  exact ⟨.cons h1 g1, by simp [PyData.canLayAll0, h2, g2], by simp only [PyData.depthAll]; omega⟩
theorem dc_t {α : Type} {as : ArgC α} {t : α → List PyData} {n : Nat} (h : DA as t n) : DC (cT as) (fun x => .tuple (t x)) (n + 1) := fun K R v x ⟨a, vs, e, q, q'⟩ => by
  subst e
  obtain ⟨h1, h2, h3⟩ := h K R vs x q'
  exact ⟨.tup q.sq h1, by simp [PyData.canLay0, h2], by simp only [PyData.depth]; omega⟩
theorem dc_all {α : Type} {c : Cod α} {t : α → PyData} {n : Nat} (h : DC c t n) {K : Frag} {R : Hp} : ∀ {vs : List V} {xs : List α}, Paired (fun v x => c.see K R v x) vs xs → DpAll K R vs (xs.map t) ∧ PyData.canLayAll0 (xs.map t) = true ∧ PyData.depthAll (xs.map t) ≤ n
  | _, _, .nil => ⟨.nil, by simp [PyData.canLayAll0], by simp [PyData.depthAll]⟩
  | _, _, .cons r p => by
    obtain ⟨h1, h2, h3⟩ := h K R _ _ r
    obtain ⟨g1, g2, g3⟩ := dc_all h p
    exact ⟨.cons h1 g1, by simp only [List.map_cons, PyData.canLayAll0, h2, g2, Bool.and_self], by simp only [List.map_cons, PyData.depthAll]; omega⟩
theorem dc_l {α : Type} {c : Cod α} {t : α → PyData} {n : Nat} (h : DC c t n) : DC (cL c) (fun xs => .list (xs.map t)) (n + 1) := fun K R v x ⟨a, vs, e, q, _, q'⟩ => by
  subst e
  obtain ⟨h1, h2, h3⟩ := dc_all h q'
  exact ⟨.lst (.inl (.inl q)) h1, by simp [PyData.canLay0, h2], by simp only [PyData.depth]; omega⟩
theorem dc_tv {α : Type} {c : Cod α} {t : α → PyData} {n : Nat} (h : DC c t n) : DC (cTV c) (fun xs => .tuple (xs.map t)) (n + 1) := fun K R v x ⟨a, vs, e, q, _, q'⟩ => by
  subst e
  obtain ⟨h1, h2, h3⟩ := dc_all h q'
  exact ⟨.tup q.sq h1, by simp [PyData.canLay0, h2], by simp only [PyData.depth]; omega⟩

/-! ### slots -/
structure At (G : Ctx) (i : Nat) (s : Slot) (g : CT G → s.T) : Prop where
  ok : ∀ (K : Frag) (k : Nat) (p : CT G) (L : Lab) (H : Hp) (o : St), CR K k G p L H o → s.rel K (k + i) (g p) L H o[k + i]?
theorem at_z {G : Ctx} {s : Slot} : At (s :: G) 0 s (fun p => p.1) := ⟨fun _ _ _ _ _ _ c => c.1⟩
theorem at_s {G : Ctx} {i : Nat} {s t : Slot} {g : CT G → s.T} (h : At G i s g) : At (t :: G) (i + 1) s (fun p => g p.2) := ⟨fun K k p L H o c => by
  have q := h.ok K (k + 1) p.2 L H o c.2
  rw [show k + (i + 1) = k + 1 + i by omega]
  exact q⟩

section
variable {A : Amb} {G : Ctx}
/-- a name -/
theorem ex_var {α : Type} {c : Cod α} {i : Nat} {x : Str} {pos : Pos} {g : CT G → α} (h : At G i (sVal c) g) (hN : A.X.N[i]? = some x) (hv : Vis A.X.env.scope x) (hd : (x == ("__debug__" : Str)) = false := by decide) (hcd : (x == ("__classdict__" : Str)) = false := by decide) :
    EX A G (.Name x pos) (rV c) (fun p => .ok (g p, p)) := pe_weak (pe_var hN hv hd hcd) fun o H Q ⟨p, L, w, cr, k⟩ => by
  obtain ⟨v, e, q⟩ := h.ok _ _ _ _ _ _ cr
  rw [Nat.zero_add] at e
  exact ⟨v, e, k v L H Stp.refl w cr q⟩
theorem ex_c {α : Type} {c : Cod α} {e : Expr} {v : V} {x : α} (h : PE A.X e (tC v)) (hs : ∀ K R, c.see K R v x) : EX A G e (rV c) (fun p => .ok (x, p)) := pe_weak h fun o H Q ⟨p, L, w, cr, k⟩ => k v L H Stp.refl w cr (hs _ _)
theorem ex_int {i j pos} : EX A G (.Constant (.int i) j pos) (rV cI) (fun p => .ok (i, p)) := ex_c pe_int fun _ _ => rfl
theorem ex_bool {b j pos} : EX A G (.Constant (.bool b) j pos) (rV cB) (fun p => .ok (b, p)) := ex_c pe_bl fun _ _ => rfl
theorem ex_none {j pos} : EX A G (.Constant .none j pos) (rV cN) (fun p => .ok ((), p)) := ex_c pe_non fun _ _ => rfl
theorem ex_str {x j pos} (h1 : PyData.strOk x = true) (h2 : x.length ≤ sizeLine) : EX A G (.Constant (.str x) j pos) (rV cS) (fun p => .ok (x, p)) := ex_c pe_str fun _ _ => ⟨rfl, h1, h2⟩
/-- the same value read otherwise -/
def Sub {α β : Type} (c : Cod α) (d : Cod β) (g : α → β) : Prop := ∀ K R v x, c.see K R v x → d.see K R v (g x)
theorem ex_sub {α β : Type} {c : Cod α} {d : Cod β} {g : α → β} {e : Expr} {f : CT G → Res (α × CT G)} (s : Sub c d g) (h : EX A G e (rV c) f) : EX A G e (rV d) (fun p => Res.bind (f p) fun y => .ok (g y.1, y.2)) :=
  pe_weak h fun o H Q ⟨p, L, w, cr, k⟩ => run1 w cr k fun x p' v L' H' st w' c' rl gd => gd v L' H' st w' c' (s _ _ _ _ rl)
theorem sub_none {α : Type} {c : Cod α} : Sub cN (cO c) (fun _ => none) := fun _ _ _ _ h => h
theorem sub_some {α : Type} {c : Cod α} : Sub c (cO c) some := fun _ _ _ _ h => h
theorem sub_refl {α : Type} {c : Cod α} : Sub c c id := fun _ _ _ _ h => h
theorem sub_o {α β : Type} {c : Cod α} {d : Cod β} {g : α → β} (s : Sub c d g) : Sub (cO c) (cO d) (Option.map g) := fun K R v x h => by
  cases x with
  | none => exact h
  | some x => exact s K R v x h
theorem sub_lk {α : Type} {c : Cod α} : Sub (cL c) (cLK c) id := fun K R v x ⟨a, vs, e, h, hl, h'⟩ => ⟨a, vs, e, .inl (.inl h), hl, h'⟩
theorem sub_l {α β : Type} {c : Cod α} {d : Cod β} {g : α → β} (s : Sub c d g) : Sub (cL c) (cL d) (List.map g) := fun K R v x ⟨a, vs, e, h1, h2, h3⟩ => ⟨a, vs, e, h1, h2, paired_iff_map (fun _ _ q => s K R _ _ q) h3⟩

def ofO {α : Type} : Option α → Res α
  | some x => .ok x
  | none => .bad
theorem good_ofO {α β : Type} {z : Option α} {f : α → Res β} {L : Lab} {H : Hp} {o : St} {P : β → Prop} (h : Good A (Res.bind (ofO z) f) L H o P) : ∃ x, z = some x ∧ Good A (f x) L H o P := by
  cases z with
  | none => exact h.elim
  | some x => exact ⟨x, rfl, h⟩

/-! ### operators by values -/
/-- a place in a list of values that one reads, at the state L, H -/
structure Opd (α : Type) where
  at_ : Frag → Lab → Hp → V → α → Prop
def OpT (A : Amb) (F : Value → Value → Sem Value) {α β γ : Type} (c : Cod α) (d : Cod β) (k : α → β → Option γ) (r : Rt γ) : Prop :=
  ∃ r2 : R2, OpR A.X F r2 ∧ ∀ (L : Lab) (H : Hp) (vx vy : V) (x : α) (y : β) (z : γ) (Q : VK), Wf L H → c.see A.X.K (rd L H) vx x → d.see A.X.K (rd L H) vy y → k x y = some z →
    (∀ v L' H', Ext L H L' H' → Wf L' H' → r.rel A.X.K L H L' H' v z → Q v H') → r2 vx vy H Q
/-- two parts, then an operation by values -/
theorem bin_core {α β γ : Type} {c : Cod α} {d : Cod β} {k : α → β → Option γ} {r : Rt γ} {r2 : V → V → Hp → VK → Prop} {f : CT G → Res (α × CT G)} {g : CT G → Res (β × CT G)} {o : St} {H : Hp} {Q : VK}
    (pr : ∀ (L : Lab) (H : Hp) (vx vy : V) (x : α) (y : β) (z : γ) (Q : VK), Wf L H → c.see A.X.K (rd L H) vx x → d.see A.X.K (rd L H) vy y → k x y = some z →
      (∀ v L' H', Ext L H L' H' → Wf L' H' → r.rel A.X.K L H L' H' v z → Q v H') → r2 vx vy H Q)
    (h : tE A G r (fun p => Res.bind (f p) fun y => Res.bind (g y.2) fun z => Res.bind (ofO (k y.1 z.1)) fun w => .ok (w, z.2)) o H Q) :
    tE A G (rV c) f o H fun x H1 => tE A G (rV d) g o H1 fun y H2 => r2 x y H2 Q := by
  obtain ⟨p, L, w, cr, kk⟩ := h
  refine run1 w cr kk fun x p1 vx L1 H1 s1 w1 c1 r1 g1 => ?_
  refine run1 w1 c1 g1 fun y p2 vy L2 H2 s2 w2 c2 r2' g2 => ?_
  obtain ⟨z, e, g3⟩ := good_ofO g2
  exact pr L2 H2 vx vy x y z Q w2 (c.mono _ _ _ _ _ s2.rd r1) r2' e fun v L' H' ex w' rl => g3 v L' H' ((s1.trans s2).trans ex.stp) w' (c2.ext w2 ex) (r.pre _ _ _ _ _ _ _ _ _ (s1.trans s2) rl)
theorem ex_op {α β γ : Type} {c : Cod α} {d : Cod β} {k : α → β → Option γ} {r : Rt γ} {op : Operator} {a b : Expr} {pos : Pos} {f : CT G → Res (α × CT G)} {g : CT G → Res (β × CT G)} (h : OpT A (binaryOp op) c d k r) (ha : EX A G a (rV c) f) (hb : EX A G b (rV d) g) :
    EX A G (.BinOp a op b pos) r (fun p => Res.bind (f p) fun y => Res.bind (g y.2) fun z => Res.bind (ofO (k y.1 z.1)) fun w => .ok (w, z.2)) := by
  obtain ⟨r2, ho, pr⟩ := h
  exact pe_weak (pe_op ho ha hb) fun o H Q q => bin_core pr q
theorem ex_cmp {α β γ : Type} {c : Cod α} {d : Cod β} {k : α → β → Option γ} {r : Rt γ} {op : CmpOp} {a b : Expr} {pos : Pos} {f : CT G → Res (α × CT G)} {g : CT G → Res (β × CT G)} (h : OpT A (compareOp op) c d k r) (ha : EX A G a (rV c) f) (hb : EX A G b (rV d) g)
    (hm : behindInMarks op b = false) :
    EX A G (.Compare a [op] [b] pos) r (fun p => Res.bind (f p) fun y => Res.bind (g y.2) fun z => Res.bind (ofO (k y.1 z.1)) fun w => .ok (w, z.2)) := by
  obtain ⟨r2, ho, pr⟩ := h
  exact pe_weak (pe_cmpR ho ha hb hm) fun o H Q q => bin_core pr q
/-- from a value's reading to a test's -/
theorem tT_of {f : CT G → Res (Bool × CT G)} {o : St} {H : Hp} {Q : Bool → Hp → Prop} (h : tT A G f o H Q) : tE A G (rV cB) f o H fun x H1 => ∃ k, x = .bl k ∧ Q k H1 := by
  obtain ⟨p, L, w, cr, kk⟩ := h
  exact ⟨p, L, w, cr, kk.imp fun y _ q v L' H' s w' c' rl => ⟨y.1, rl, q L' H' s w' c'⟩⟩
theorem tx_cmp {α β : Type} {c : Cod α} {d : Cod β} {k : α → β → Option Bool} {op : CmpOp} {a b : Expr} {pos : Pos} {f : CT G → Res (α × CT G)} {g : CT G → Res (β × CT G)} (h : OpT A (compareOp op) c d k (rV cB)) (ha : EX A G a (rV c) f) (hb : EX A G b (rV d) g)
    (hm : behindInMarks op b = false) :
    TX A G (.Compare a [op] [b] pos) (fun p => Res.bind (f p) fun y => Res.bind (g y.2) fun z => Res.bind (ofO (k y.1 z.1)) fun w => .ok (w, z.2)) := by
  obtain ⟨r2, ho, pr⟩ := h
  exact pt_weak (pt_cmpR ho ha hb hm) fun o H Q q => bin_core pr (tT_of q)
/-- a bool's expression as a test -/
theorem tx_val {e : Expr} {f : CT G → Res (Bool × CT G)} (h : EX A G e (rV cB) f) (he : ∀ whole, isTrue e A.X.env whole = (do let v ← whole; standAt e.pos; holding [v] (truthy v)) := by intro _; rfl) : TX A G e f :=
  pt_weak (pt_val h he) fun o H Q q => tT_of q
theorem tx_not {a : Expr} {pos : Pos} {f : CT G → Res (Bool × CT G)} (h : TX A G a f) : TX A G (.UnaryOp .Not a pos) (fun p => Res.bind (f p) fun y => .ok (!y.1, y.2)) :=
  pt_weak (pt_not h) fun o H Q ⟨p, L, w, cr, kk⟩ => ⟨p, L, w, cr, kk.bind.imp fun y _ q L' H' s w' c' => q L' H' s w' c'⟩

/-! ints -/
theorem op_of {F : Value → Value → Sem Value} {α β γ : Type} {c : Cod α} {d : Cod β} {e : Cod γ} {k : α → β → Option γ} {r2 : R2} (h : OpR A.X F r2)
    (pr : ∀ (L : Lab) (H : Hp) (vx vy : V) (x : α) (y : β) (z : γ) (Q : VK), Wf L H → c.see A.X.K (rd L H) vx x → d.see A.X.K (rd L H) vy y → k x y = some z → (∀ v, e.see A.X.K (rd L H) v z → Q v H) → r2 vx vy H Q) : OpT A F c d k (rV e) :=
  ⟨r2, h, fun L H vx vy x y z Q w h1 h2 h3 q => pr L H vx vy x y z Q w h1 h2 h3 fun v hv => q v L H Ext.refl w hv⟩
theorem ot_add : OpT A (binaryOp .Add) cI cI (fun x y => some (x + y)) (rV cI) := op_of op_add fun L H vx vy x y z Q w h1 h2 h3 q => by
  cases h1; cases h2; cases h3; exact ⟨_, _, rfl, rfl, q _ rfl⟩
theorem ot_sub : OpT A (binaryOp .Sub) cI cI (fun x y => some (x - y)) (rV cI) := op_of op_sub fun L H vx vy x y z Q w h1 h2 h3 q => by
  cases h1; cases h2; cases h3; exact ⟨_, _, rfl, rfl, q _ rfl⟩
def mulO (x y : Int) : Option Int := if x.natAbs.log2 + y.natAbs.log2 < 1000000 then some (x * y) else none
theorem ot_mul : OpT A (binaryOp .Mult) cI cI mulO (rV cI) := op_of op_mulW fun L H vx vy x y z Q w h1 h2 h3 q => by
  cases h1; cases h2
  unfold mulO at h3
  split at h3
  · rename_i hc; cases h3; exact ⟨_, _, rfl, rfl, hc, q _ rfl⟩
  · cases h3
def modO (x y : Int) : Option Int := if 0 < y then some (x % y) else none
theorem ot_mod : OpT A (binaryOp .Mod) cI cI modO (rV cI) := op_of op_mod fun L H vx vy x y z Q w h1 h2 h3 q => by
  cases h1; cases h2
  unfold modO at h3
  split at h3
  · rename_i hc; cases h3; exact ⟨_, _, rfl, rfl, hc, q _ rfl⟩
  · cases h3
def divO (x y : Int) : Option Int := if 0 < y ∧ y.natAbs.log2 < 9000 then some (x / y) else none
theorem ot_div : OpT A (binaryOp .FloorDiv) cI cI divO (rV cI) := op_of op_fdivW fun L H vx vy x y z Q w h1 h2 h3 q => by
  cases h1; cases h2
  unfold divO at h3
  split at h3
  · rename_i hc; cases h3; exact ⟨_, _, rfl, rfl, hc, q _ rfl⟩
  · cases h3
def powO (x y : Int) : Option Int := if 0 ≤ y ∧ (Builtin.Int.intBits x : Int) * y ≤ 2 ^ 27 then some (x ^ y.toNat) else none
theorem op_powW {X : Cx} : OpR X (binaryOp .Pow) (rI (fun i j => 0 ≤ j ∧ (Builtin.Int.intBits i : Int) * j ≤ 2 ^ 27) fun i j => .int (i ^ j.toNat)) := opI fun _ _ _ _ _ _ _ hc q => PyProof.Rows.pow_int hc.1 hc.2 q
theorem ot_pow : OpT A (binaryOp .Pow) cI cI powO (rV cI) := op_of op_powW fun L H vx vy x y z Q w h1 h2 h3 q => by
  cases h1; cases h2
  unfold powO at h3
  split at h3
  · rename_i hc; cases h3; exact ⟨_, _, rfl, rfl, hc, q _ rfl⟩
  · cases h3
def andO (x y : Int) : Option Int := some (Builtin.bitAnd x y)
theorem ot_and : OpT A (binaryOp .BitAnd) cI cI (fun x y => some (Builtin.bitAnd x y)) (rV cI) := op_of op_and fun L H vx vy x y z Q w h1 h2 h3 q => by
  cases h1; cases h2; cases h3; exact ⟨_, _, rfl, rfl, q _ rfl⟩
theorem ot_or : OpT A (binaryOp .BitOr) cI cI (fun x y => some (Builtin.bitOr x y)) (rV cI) := op_of op_or fun L H vx vy x y z Q w h1 h2 h3 q => by
  cases h1; cases h2; cases h3; exact ⟨_, _, rfl, rfl, q _ rfl⟩
theorem ot_lt : OpT A (compareOp .Lt) cI cI (fun x y => some (decide (x < y))) (rV cB) := op_of op_lt fun L H vx vy x y z Q w h1 h2 h3 q => by
  cases h1; cases h2; cases h3; exact ⟨_, _, rfl, rfl, q _ rfl⟩
theorem ot_le : OpT A (compareOp .LtE) cI cI (fun x y => some (decide (x ≤ y))) (rV cB) := op_of op_le fun L H vx vy x y z Q w h1 h2 h3 q => by
  cases h1; cases h2; cases h3; exact ⟨_, _, rfl, rfl, q _ rfl⟩
theorem ot_gt : OpT A (compareOp .Gt) cI cI (fun x y => some (decide (y < x))) (rV cB) := op_of op_gt fun L H vx vy x y z Q w h1 h2 h3 q => by
  cases h1; cases h2; cases h3; exact ⟨_, _, rfl, rfl, q _ rfl⟩
theorem ot_ge : OpT A (compareOp .GtE) cI cI (fun x y => some (decide (y ≤ x))) (rV cB) := op_of op_ge fun L H vx vy x y z Q w h1 h2 h3 q => by
  cases h1; cases h2; cases h3; exact ⟨_, _, rfl, rfl, q _ rfl⟩
theorem ot_eq : OpT A (compareOp .Eq) cI cI (fun x y => some (decide (x = y))) (rV cB) := op_of op_eq fun L H vx vy x y z Q w h1 h2 h3 q => by
  cases h1; cases h2; cases h3; exact ⟨rfl, q _ (by show V.bl _ = V.bl _; simp)⟩
theorem ot_ne : OpT A (compareOp .NotEq) cI cI (fun x y => some (!decide (x = y))) (rV cB) := op_of op_ne fun L H vx vy x y z Q w h1 h2 h3 q => by
  cases h1; cases h2; cases h3; exact ⟨rfl, q _ (by show V.bl _ = V.bl _; simp)⟩
theorem ot_eqS : OpT A (compareOp .Eq) cS cS (fun x y => some (decide (x = y))) (rV cB) := op_of op_eq fun L H vx vy x y z Q w h1 h2 h3 q => by
  obtain ⟨rfl, _⟩ := h1; obtain ⟨rfl, _⟩ := h2; cases h3; exact ⟨rfl, q _ (by show V.bl _ = V.bl _; simp)⟩
theorem ot_neS : OpT A (compareOp .NotEq) cS cS (fun x y => some (!decide (x = y))) (rV cB) := op_of op_ne fun L H vx vy x y z Q w h1 h2 h3 q => by
  obtain ⟨rfl, _⟩ := h1; obtain ⟨rfl, _⟩ := h2; cases h3; exact ⟨rfl, q _ (by show V.bl _ = V.bl _; simp)⟩
end
end AC
set_option Elab.async false
set_option linter.all false
set_option maxRecDepth 100000
/-! TL3: argument lists, displays, built-ins by values, subscripts, and / or, conditional expressions, chains. -/
namespace AC
open PySem L2 PyProof

section
variable {A : Amb} {G : Ctx}
/-! ### argument lists -/
def tA (A : Amb) {α : Type} (G : Ctx) (as : ArgC α) (f : CT G → Res (α × CT G)) : L2.TA := fun o H Q =>
  ∃ (p : CT G) (L : Lab), Wf L H ∧ CR A.X.K 0 G p L H o ∧ Good A (f p) L H o fun y => ∀ (vs : List V) (L' : Lab) (H' : Hp), Stp L H L' H' → Wf L' H' → CR A.X.K 0 G y.2 L' H' o → as.see A.X.K (rd L' H') vs y.1 → Q vs H'
def AX (A : Amb) (G : Ctx) (es : List Expr) {α : Type} (as : ArgC α) (f : CT G → Res (α × CT G)) : Prop := PA A.X es (tA A G as f)
theorem pa_weak {X : Cx} {es : List Expr} {t t' : L2.TA} (h : PA X es t) (i : ∀ o H Q, t' o H Q → t o H Q) : PA X es t' := ⟨fun pos pins s o H Q I q => h.run pos pins s o H Q I (i _ _ _ q)⟩
theorem ax_nil : AX A G [] aNil (fun p => .ok ((), p)) := pa_weak pa_nil fun o H Q ⟨p, L, w, cr, k⟩ => k [] L H Stp.refl w cr rfl
theorem ax_nilA {α : Type} {c : Cod α} : AX A G [] (aAll c 0) (fun p => .ok ([], p)) := pa_weak pa_nil fun o H Q ⟨p, L, w, cr, k⟩ => k [] L H Stp.refl w cr ⟨rfl, .nil⟩
theorem ax_core {α β γ : Type} {c : Cod α} {as : ArgC β} {bs : ArgC γ} {m : α → β → γ} {f : CT G → Res (α × CT G)} {g : CT G → Res (β × CT G)} (hm : ∀ K R v vs x y, c.see K R v x → as.see K R vs y → bs.see K R (v :: vs) (m x y)) {o : St} {H : Hp} {Q : List V → Hp → Prop}
    (h : tA A G bs (fun p => Res.bind (f p) fun y => Res.bind (g y.2) fun z => .ok (m y.1 z.1, z.2)) o H Q) : tE A G (rV c) f o H fun x H1 => tA A G as g o H1 fun xs H2 => Q (x :: xs) H2 := by
  obtain ⟨p, L, w, cr, kk⟩ := h
  refine run1 w cr kk fun x p1 v L1 H1 s1 w1 c1 r1 g1 => ?_
  exact ⟨p1, L1, w1, c1, g1.bind.imp fun z _ gz vs L2 H2 s2 w2 c2 r2 => gz (v :: vs) L2 H2 (s1.trans s2) w2 c2 (hm _ _ _ _ _ _ (c.mono _ _ _ _ _ s2.rd r1) r2)⟩
theorem ax_cons {α β : Type} {c : Cod α} {as : ArgC β} {e : Expr} {es : List Expr} {f : CT G → Res (α × CT G)} {g : CT G → Res (β × CT G)} (h : EX A G e (rV c) f) (hr : AX A G es as g) (hs : starEach (e :: es) A.X.env = (false, eval e A.X.env) :: starEach es A.X.env := by rfl) :
    AX A G (e :: es) (aCons c as) (fun p => Res.bind (f p) fun y => Res.bind (g y.2) fun z => .ok ((y.1, z.1), z.2)) :=
  pa_weak (pa_cons h hr hs) fun o H Q q => ax_core (as := as) (bs := aCons c as) (m := Prod.mk) (fun K R v vs x y h1 h2 => ⟨v, vs, rfl, h1, h2⟩) q
theorem ax_one {α : Type} {c : Cod α} {e : Expr} {f : CT G → Res (α × CT G)} (h : EX A G e (rV c) f) (hs : starEach [e] A.X.env = (false, eval e A.X.env) :: starEach [] A.X.env := by rfl) : AX A G [e] (aOne c) f :=
  pa_weak (pa_cons h pa_nil hs) fun o H Q ⟨p, L, w, cr, kk⟩ => ⟨p, L, w, cr, kk.imp fun y _ q v L' H' s w' c' rl => q [v] L' H' s w' c' ⟨v, rfl, rl⟩⟩
theorem ax_consA {α : Type} {c : Cod α} {n : Nat} {e : Expr} {es : List Expr} {f : CT G → Res (α × CT G)} {g : CT G → Res (List α × CT G)} (h : EX A G e (rV c) f) (hr : AX A G es (aAll c n) g) (hs : starEach (e :: es) A.X.env = (false, eval e A.X.env) :: starEach es A.X.env := by rfl) :
    AX A G (e :: es) (aAll c (n + 1)) (fun p => Res.bind (f p) fun y => Res.bind (g y.2) fun z => .ok (y.1 :: z.1, z.2)) :=
  pa_weak (pa_cons h hr hs) fun o H Q q => ax_core (as := aAll c n) (bs := aAll c (n + 1)) (m := List.cons) (fun K R v vs x y h1 h2 => ⟨by rw [List.length_cons, h2.1], .cons h1 h2.2⟩) q

/-! ### new objects -/
def setL (L : Lab) (p : Addr) (x : Nat × List Nat) : Lab := fun a => if a = p then some x else L a
theorem setL_same {L : Lab} {p : Addr} {x : Nat × List Nat} : setL L p x p = some x := by unfold setL; rw [if_pos rfl]
theorem setL_ne {L : Lab} {p a : Addr} {x : Nat × List Nat} (h : a ≠ p) : setL L p x a = L a := by unfold setL; rw [if_neg h]
theorem Wf.none {L : Lab} {H : Hp} (w : Wf L H) {p : Addr} (h : H p = none) : L p = none := by
  cases e : L p with
  | none => rfl
  | some x => exact absurd h (w.dom p (by rw [e]; simp))
theorem ext_new {L : Lab} {H : Hp} (w : Wf L H) {p : Addr} {o : HO} (h : H p = none) : Ext L H L (upd H p o) ∧ Wf L (upd H p o) := by
  refine ⟨fun a ha => ⟨rfl, upd_ne fun e => ha (by rw [e]; exact h)⟩, fun a ha => ?_, fun a k l e => ?_⟩
  · rw [upd_ne fun e => ha (by rw [e]; exact w.none h)]
    exact w.dom a ha
  · rw [upd_ne fun e' => by rw [e', w.none h] at e; cases e]
    exact w.soft a k l e
theorem ext_val {L : Lab} {H : Hp} (w : Wf L H) {p : Addr} {o : HO} (h : H p = none) : Ext L H (setL L p (0, [])) (upd H p o) ∧ Wf (setL L p (0, [])) (upd H p o) := by
  refine ⟨fun a ha => ?_, fun a ha => ?_, fun a k l e => ?_⟩
  · have ne : a ≠ p := fun e => ha (by rw [e]; exact h)
    exact ⟨setL_ne ne, upd_ne ne⟩
  · by_cases e : a = p
    · rw [e, upd_same]; simp
    · rw [upd_ne e]
      rw [setL_ne e] at ha
      exact w.dom a ha
  · by_cases e' : a = p
    · rw [e', setL_same] at e
      cases e
    · rw [setL_ne e'] at e
      rw [upd_ne e']
      exact w.soft a k l e
theorem own_new {α : Type} {c : Cod α} {K : Frag} {L : Lab} {H : Hp} (w : Wf L H) {p : Addr} {vs : List V} {xs : List α} (h : H p = none) (hl : vs.length ≤ sizeLine) (hp : Paired (fun v x => c.see K (rd L H) v x) vs xs) : OwnAt (oL c) K L H L (upd H p (.lst vs)) (.ref p) xs := by
  refine ⟨fun a => if a = p then some [] else none, fun a m e => ?_, p, vs, rfl, if_pos rfl, upd_same, hl, paired_mono (fun _ _ q => c.mono _ _ _ _ _ (ext_new w h).1.stp.rd q) hp⟩
  have e : (if a = p then some ([] : List Nat) else none) = some m := e
  by_cases ea : a = p
  · rw [if_pos ea] at e; cases e
    rw [ea, upd_same]
    exact ⟨w.none h, trivial, fun f => f.1 h⟩
  · rw [if_neg ea] at e; cases e
/-- a tuple's display -/
theorem ex_tup {α : Type} {as : ArgC α} {es : List Expr} {x1 pos} {f : CT G → Res (α × CT G)} (h : AX A G es as f) (hn : as.n ≤ sizeLine := by decide) : EX A G (.Tuple es x1 pos) (rV (cT as)) f :=
  pe_weak (pe_tup h) fun o H Q ⟨p, L, w, cr, kk⟩ => ⟨p, L, w, cr, kk.imp fun y _ q vs L' H' s w' c' rl => ⟨by rw [as.len _ _ _ _ rl]; exact hn, fun a ha => by
    obtain ⟨e1, e2⟩ := ext_val (o := .tup vs) w' ha
    exact q _ _ _ (s.trans e1.stp) e2 (c'.ext w' e1) ⟨a, vs, rfl, .inl (rd_mk setL_same upd_same), as.mono _ _ _ _ _ e1.stp.rd rl⟩⟩⟩
/-- a list's display -/
theorem ex_list {α : Type} {c : Cod α} {n : Nat} {es : List Expr} {pos} {f : CT G → Res (List α × CT G)} (h : AX A G es (aAll c n) f) (hn : n ≤ sizeLine := by decide) : EX A G (.List es pos) (rO (oL c)) f :=
  pe_weak (pe_lst h) fun o H Q ⟨p, L, w, cr, kk⟩ => ⟨p, L, w, cr, kk.imp fun y _ q vs L' H' s w' c' rl => ⟨by rw [rl.1]; exact hn, fun a ha => by
    obtain ⟨e1, e2⟩ := ext_new (o := .lst vs) w' ha
    exact q _ _ _ (s.trans e1.stp) e2 (c'.ext w' e1) ((rO (oL c)).pre _ _ _ _ _ _ _ _ _ s (own_new w' ha (by rw [rl.1]; exact hn) rl.2))⟩⟩
/-- a list of unlike things, that stays -/
def cH {α : Type} (as : ArgC α) : Cod α := ⟨fun K R v x => ∃ a vs, v = .ref a ∧ SqL K R a vs ∧ as.see K R vs x, fun K R R' v x s ⟨a, vs, e, h, h'⟩ => ⟨a, vs, e, s.seq h, as.mono K R R' vs x s h'⟩⟩
theorem ex_hlist {α : Type} {as : ArgC α} {es : List Expr} {pos} {f : CT G → Res (α × CT G)} (h : AX A G es as f) (hn : as.n ≤ sizeLine := by decide) : EX A G (.List es pos) (rV (cH as)) f :=
  pe_weak (pe_lst h) fun o H Q ⟨p, L, w, cr, kk⟩ => ⟨p, L, w, cr, kk.imp fun y _ q vs L' H' s w' c' rl => ⟨by rw [as.len _ _ _ _ rl]; exact hn, fun a ha => by
    obtain ⟨e1, e2⟩ := ext_val (o := .lst vs) w' ha
    exact q _ _ _ (s.trans e1.stp) e2 (c'.ext w' e1) ⟨a, vs, rfl, .inl (.inl (rd_mk setL_same upd_same)), as.mono _ _ _ _ _ e1.stp.rd rl⟩⟩⟩
theorem dc_h {α : Type} {as : ArgC α} {t : α → List PyData} {n : Nat} (h : DA as t n) : DC (cH as) (fun x => .list (t x)) (n + 1) := fun K R v x ⟨a, vs, e, q, q'⟩ => by
  subst e
  obtain ⟨h1, h2, h3⟩ := h K R vs x q'
  exact ⟨.lst q h1, by simp [PyData.canLay0, h2], by simp only [PyData.depth]; omega⟩

/-- what is one's own is left as it is from now on -/
def Frz {α : Type} (o : OCod α) (c : Cod α) : Prop := ∀ K R R' M H v x, Same R R' → (∀ a m, M a = some m → insL m = false → R' a = H a) → o.own K R M H [] v x → c.see K R' v x
theorem frz_l {α : Type} {c : Cod α} : Frz (oL c) (cL c) := fun K R R' M H v x s t ⟨p, vs, e, hm, hp, hl, h'⟩ => ⟨p, vs, e, (t p _ hm rfl).trans hp, hl, paired_mono (fun _ _ q => c.mono _ _ _ _ _ s q) h'⟩
theorem frz_own {α : Type} {oc : OCod α} {c : Cod α} (fz : Frz oc c) {K : Frag} {L : Lab} {H : Hp} {L' : Lab} {H' : Hp} {v : V} {x : α} (w : Wf L' H') (h : OwnAt oc K L H L' H' v x) :
    ∃ L'', (∀ a, L'' a = L' a ∨ (L' a = none ∧ L'' a = some (0, []) ∧ ¬ Frm L H a)) ∧ Wf L'' H' ∧ Same (rd L' H') (rd L'' H') ∧ c.see K (rd L'' H') v x := by
  classical
  obtain ⟨M, hM, ho⟩ := h
  refine ⟨fun a => match M a with | some _ => some (0, []) | none => L' a, fun a => ?_, ⟨fun a ha => ?_, fun a k l e => ?_⟩, fun a o q => ?_, ?_⟩
  · show (match M a with | some _ => some (0, []) | none => L' a) = _ ∨ _
    cases e : M a with
    | none => exact .inl rfl
    | some m => exact .inr ⟨(hM a m e).1, by simp only [e], (hM a m e).2.2⟩
  · cases e : M a with
    | none => simp only [e] at ha; exact w.dom a ha
    | some m => exact (hM a m e).2.1.ne
  · cases e' : M a with
    | none => simp only [e'] at e; exact w.soft a k l e
    | some m => simp only [e'] at e; cases e
  · obtain ⟨⟨l, e1⟩, e2⟩ := rd_of q
    have e3 : M a = none := by
      cases e : M a with
      | none => rfl
      | some m => rw [(hM a m e).1] at e1; cases e1
    exact rd_mk (l := l) (by simp only [e3]; exact e1) e2
  · refine fz K _ _ M H' v x (fun a o q => ?_) (fun a m e _ => ?_) ho
    · obtain ⟨⟨l, e1⟩, e2⟩ := rd_of q
      have e3 : M a = none := by
        cases e : M a with
        | none => rfl
        | some m => rw [(hM a m e).1] at e1; cases e1
      exact rd_mk (l := l) (by simp only [e3]; exact e1) e2
    · unfold rd
      simp only [e]
theorem ex_frz {α : Type} {oc : OCod α} {c : Cod α} {e : Expr} {f : CT G → Res (α × CT G)} (fz : Frz oc c) (h : EX A G e (rO oc) f) : EX A G e (rV c) f :=
  pe_weak h fun o H Q ⟨p, L, w, cr, kk⟩ => ⟨p, L, w, cr, kk.imp fun y _ q v L' H' s w' c' rl => by
    obtain ⟨L'', h1, h2, h3, h4⟩ := frz_own fz w' rl
    refine q v L'' H' (fun a f => ?_) h2 (c'.keep h3 fun a j l _ e => ?_) h4
    · rcases h1 a with z | z
      · exact ⟨z.trans (s a f).1, (s a f).2⟩
      · exact absurd f z.2.2
    · rcases h1 a with z | z
      · exact ⟨z, rfl⟩
      · rw [z.1] at e; cases e⟩

/-! ### calls of built-ins by values -/
def CalT (A : Amb) (F : Value) {α β : Type} (as : ArgC α) (k : α → Option β) (r : Rt β) : Prop :=
  ∃ t : List V → Hp → VK → Prop, CallR A.X F t ∧ ∀ (L : Lab) (H : Hp) (vs : List V) (x : α) (z : β) (Q : VK), Wf L H → as.see A.X.K (rd L H) vs x → k x = some z → (∀ v L' H', Ext L H L' H' → Wf L' H' → r.rel A.X.K L H L' H' v z → Q v H') → t vs H Q
theorem call_core {α β : Type} {as : ArgC α} {k : α → Option β} {r : Rt β} {t : List V → Hp → VK → Prop} {f : CT G → Res (α × CT G)} {o : St} {H : Hp} {Q : VK}
    (pr : ∀ (L : Lab) (H : Hp) (vs : List V) (x : α) (z : β) (Q : VK), Wf L H → as.see A.X.K (rd L H) vs x → k x = some z → (∀ v L' H', Ext L H L' H' → Wf L' H' → r.rel A.X.K L H L' H' v z → Q v H') → t vs H Q)
    (h : tE A G r (fun p => Res.bind (f p) fun y => Res.bind (ofO (k y.1)) fun w => .ok (w, y.2)) o H Q) : tA A G as f o H fun vs H1 => t vs H1 Q := by
  obtain ⟨p, L, w, cr, kk⟩ := h
  refine ⟨p, L, w, cr, kk.bind.imp fun y _ g vs L' H' s w' c' rl => ?_⟩
  obtain ⟨z, e, g3⟩ := good_ofO g
  exact pr L' H' vs y.1 z Q w' rl e fun v L2 H2 ex w2 rl2 => g3 v L2 H2 (s.trans ex.stp) w2 (c'.ext w' ex) (r.pre _ _ _ _ _ _ _ _ _ s rl2)
theorem ex_callB {α β : Type} {as : ArgC α} {k : α → Option β} {r : Rt β} {id : String} {x : Str} {p pos : Pos} {e : Expr} {es : List Expr} {f : CT G → Res (α × CT G)} (h : CalT A (.builtin id) as k r) (hg : Gl A.X x) (hm : A.X.mg x = none) (hv : bootBuiltins x = some (.builtin id)) (ha : AX A G (e :: es) as f)
    (hn : x ≠ "__name__" := by decide) (hd : (x == ("__debug__" : Str)) = false := by decide) (he : starEach (e :: es) A.X.env = (false, eval e A.X.env) :: starEach es A.X.env := by rfl) (hpl : (backTo pos (starEach es A.X.env)).any (·.1) = false := by rfl) :
    EX A G (.Call (.Name x p) (e :: es) [] pos) r (fun p => Res.bind (f p) fun y => Res.bind (ofO (k y.1)) fun w => .ok (w, y.2)) := by
  obtain ⟨t, ho, pr⟩ := h
  exact pe_weak (pe_callB ho hg hm hv ha (hn := hn) (hdb := hd) (he := he) (hpl := hpl)) fun o H Q q => call_core pr q
theorem ex_callTy {α β : Type} {as : ArgC α} {k : α → Option β} {r : Rt β} {T : String} {x : Str} {p pos : Pos} {e : Expr} {es : List Expr} {f : CT G → Res (α × CT G)} (h : CalT A (.type T) as k r) (hg : Gl A.X x) (hm : A.X.mg x = none) (hv : bootBuiltins x = some (.type T)) (ha : AX A G (e :: es) as f)
    (hn : x ≠ "__name__" := by decide) (hd : (x == ("__debug__" : Str)) = false := by decide) (he : starEach (e :: es) A.X.env = (false, eval e A.X.env) :: starEach es A.X.env := by rfl) (hpl : (backTo pos (starEach es A.X.env)).any (·.1) = false := by rfl) :
    EX A G (.Call (.Name x p) (e :: es) [] pos) r (fun p => Res.bind (f p) fun y => Res.bind (ofO (k y.1)) fun w => .ok (w, y.2)) := by
  obtain ⟨t, ho, pr⟩ := h
  exact pe_weak (pe_callTy ho hg hm hv ha (hn := hn) (hdb := hd) (he := he) (hpl := hpl)) fun o H Q q => call_core pr q
theorem cal_of {F : Value} {α β : Type} {as : ArgC α} {k : α → Option β} {c : Cod β} {t : List V → Hp → VK → Prop} (h : CallR A.X F t)
    (pr : ∀ (L : Lab) (H : Hp) (vs : List V) (x : α) (z : β) (Q : VK), Wf L H → as.see A.X.K (rd L H) vs x → k x = some z → (∀ v, c.see A.X.K (rd L H) v z → Q v H) → t vs H Q) : CalT A F as k (rV c) :=
  ⟨t, h, fun L H vs x z Q w h1 h2 q => pr L H vs x z Q w h1 h2 fun v hv => q v L H Ext.refl w hv⟩
theorem ct_lenK {α : Type} {c : Cod α} : CalT A (.builtin "len") (aOne (cLK c)) (fun x => some ((x.length : Nat) : Int)) (rV cI) := cal_of call_len_seq fun L H vs x z Q w h1 h2 q => by
  obtain ⟨v, rfl, a, ws, rfl, hs, hl, hp⟩ := h1
  cases h2
  exact ⟨a, ws, rfl, .inl (rd_sub.seq hs), q _ (by show V.int _ = V.int _; rw [paired_len hp])⟩
theorem ct_lenL {α : Type} {c : Cod α} : CalT A (.builtin "len") (aOne (cL c)) (fun x => some ((x.length : Nat) : Int)) (rV cI) := cal_of call_len_seq fun L H vs x z Q w h1 h2 q => by
  obtain ⟨v, rfl, a, ws, rfl, hs, hl, hp⟩ := h1
  cases h2
  exact ⟨a, ws, rfl, .inl (SqL.of (rd_sub _ _ hs)), q _ (by show V.int _ = V.int _; rw [paired_len hp])⟩
theorem ct_lenT {α : Type} {c : Cod α} : CalT A (.builtin "len") (aOne (cTV c)) (fun x => some ((x.length : Nat) : Int)) (rV cI) := cal_of call_len_seq fun L H vs x z Q w h1 h2 q => by
  obtain ⟨v, rfl, a, ws, rfl, hs, hl, hp⟩ := h1
  cases h2
  exact ⟨a, ws, rfl, .inr (hs.same rd_sub).sq, q _ (by show V.int _ = V.int _; rw [paired_len hp])⟩
theorem ct_lenS : CalT A (.builtin "len") (aOne cS) (fun x => some ((x.length : Nat) : Int)) (rV cI) := cal_of call_len fun L H vs x z Q w h1 h2 q => by
  obtain ⟨v, rfl, rfl, h3, h4⟩ := h1
  cases h2
  exact ⟨_, _, rfl, ⟨h4, rfl⟩, q _ rfl⟩
theorem ct_intI : CalT A (.type "int") (aOne cI) (fun x => some x) (rV cI) := cal_of call_int1 fun L H vs x z Q w h1 h2 q => by
  obtain ⟨v, rfl, rfl⟩ := h1
  cases h2
  exact .inl ⟨_, rfl, q _ rfl⟩
theorem ct_intB : CalT A (.type "int") (aOne cB) (fun x => some (if x then (1 : Int) else 0)) (rV cI) := cal_of call_int1 fun L H vs x z Q w h1 h2 q => by
  obtain ⟨v, rfl, rfl⟩ := h1
  cases h2
  exact .inr ⟨_, rfl, q _ rfl⟩
theorem ct_abs : CalT A (.builtin "abs") (aOne cI) (fun x => some (if x < 0 then -x else x)) (rV cI) := cal_of call_abs fun L H vs x z Q w h1 h2 q => by
  obtain ⟨v, rfl, rfl⟩ := h1
  cases h2
  exact ⟨_, rfl, q _ rfl⟩
theorem ct_max2 : CalT A (.builtin "max") (aCons cI (aOne cI)) (fun x => some (if x.2 > x.1 then x.2 else x.1)) (rV cI) := cal_of (call_max2 A.calm) fun L H vs x z Q w h1 h2 q => by
  obtain ⟨v, _, rfl, rfl, v', rfl, rfl⟩ := h1
  cases h2
  exact ⟨_, _, rfl, q _ rfl⟩
theorem ct_min2 : CalT A (.builtin "min") (aCons cI (aOne cI)) (fun x => some (if x.2 < x.1 then x.2 else x.1)) (rV cI) := cal_of (call_min2 A.calm) fun L H vs x z Q w h1 h2 q => by
  obtain ⟨v, _, rfl, rfl, v', rfl, rfl⟩ := h1
  cases h2
  exact ⟨_, _, rfl, q _ rfl⟩
theorem bls_of {A : Amb} {K : Frag} {R : Hp} : ∀ {vs : List V} {xs : List Bool}, Paired (fun v x => cB.see K R v x) vs xs → vs = xs.map V.bl
  | _, _, .nil => rfl
  | _, _, .cons r t => by cases r; rw [bls_of (A := A) t]; rfl
theorem ct_any : CalT A (.builtin "any") (aOne (cL cB)) (fun x => some (x.any id)) (rV cB) := cal_of (cr_any A.calm) fun L H vs x z Q w h1 h2 q => by
  obtain ⟨v, rfl, a, ws, rfl, hs, hl, hp⟩ := h1
  cases h2
  exact ⟨a, x, rfl, by rw [← bls_of (A := A) hp]; exact SqL.of (rd_sub _ _ hs), q _ rfl⟩
theorem ct_all : CalT A (.builtin "all") (aOne (cL cB)) (fun x => some (x.all id)) (rV cB) := cal_of (cr_all A.calm) fun L H vs x z Q w h1 h2 q => by
  obtain ⟨v, rfl, a, ws, rfl, hs, hl, hp⟩ := h1
  cases h2
  exact ⟨a, x, rfl, by rw [← bls_of (A := A) hp]; exact SqL.of (rd_sub _ _ hs), q _ rfl⟩

/-! ### subscripts -/
theorem ex_ixK {α : Type} {c : Cod α} {a b : Expr} {pos : Pos} {f : CT G → Res (List α × CT G)} {g : CT G → Res (Int × CT G)} (ha : EX A G a (rV (cLK c)) f) (hb : EX A G b (rV cI) g) (hs : PlainIx b) :
    EX A G (.Subscript a b pos) (rV c) (fun p => Res.bind (f p) fun y => Res.bind (g y.2) fun z => Res.bind (ofO (atI y.1 z.1)) fun w => .ok (w, z.2)) :=
  pe_weak (pe_ix ix_list ha hb hs) fun o H Q q => bin_core (r := rV c) (fun L H vx vy x y z Q w h1 h2 h3 q => by
    obtain ⟨a, vs, rfl, hq, hl, hp⟩ := h1
    cases h2
    obtain ⟨v, e, hv⟩ := paired_at hp h3
    exact ⟨a, vs, _, v, rfl, rfl, rd_sub.seq hq, e, q v L H Ext.refl w hv⟩) q
theorem ex_ixL {α : Type} {c : Cod α} {a b : Expr} {pos : Pos} {f : CT G → Res (List α × CT G)} {g : CT G → Res (Int × CT G)} (ha : EX A G a (rV (cL c)) f) (hb : EX A G b (rV cI) g) (hs : PlainIx b) :
    EX A G (.Subscript a b pos) (rV c) (fun p => Res.bind (f p) fun y => Res.bind (g y.2) fun z => Res.bind (ofO (atI y.1 z.1)) fun w => .ok (w, z.2)) :=
  pe_weak (pe_ix ix_list ha hb hs) fun o H Q q => bin_core (r := rV c) (fun L H vx vy x y z Q w h1 h2 h3 q => by
    obtain ⟨a, vs, rfl, hq, hl, hp⟩ := h1
    cases h2
    obtain ⟨v, e, hv⟩ := paired_at hp h3
    exact ⟨a, vs, _, v, rfl, rfl, SqL.of (rd_sub _ _ hq), e, q v L H Ext.refl w hv⟩) q
theorem ex_ixT {α : Type} {c : Cod α} {a b : Expr} {pos : Pos} {f : CT G → Res (List α × CT G)} {g : CT G → Res (Int × CT G)} (ha : EX A G a (rV (cTV c)) f) (hb : EX A G b (rV cI) g) (hs : PlainIx b) :
    EX A G (.Subscript a b pos) (rV c) (fun p => Res.bind (f p) fun y => Res.bind (g y.2) fun z => Res.bind (ofO (atI y.1 z.1)) fun w => .ok (w, z.2)) :=
  pe_weak (pe_ix ix_tup ha hb hs) fun o H Q q => bin_core (r := rV c) (fun L H vx vy x y z Q w h1 h2 h3 q => by
    obtain ⟨a, vs, rfl, hq, hl, hp⟩ := h1
    cases h2
    obtain ⟨v, e, hv⟩ := paired_at hp h3
    exact ⟨a, vs, _, v, rfl, rfl, (hq.same rd_sub).sq, e, q v L H Ext.refl w hv⟩) q
def sAt (z : Str) (i : Int) : Option Str := (atI z.cps.toList i).map fun c => ⟨#[c]⟩
theorem ex_ixS {a b : Expr} {pos : Pos} {f : CT G → Res (Str × CT G)} {g : CT G → Res (Int × CT G)} (ha : EX A G a (rV cS) f) (hb : EX A G b (rV cI) g) (hs : PlainIx b) :
    EX A G (.Subscript a b pos) (rV cS) (fun p => Res.bind (f p) fun y => Res.bind (g y.2) fun z => Res.bind (ofO (sAt y.1 z.1)) fun w => .ok (w, z.2)) :=
  pe_weak (pe_ix ix_str ha hb hs) fun o H Q q => bin_core (r := rV cS) (fun L H vx vy x y z Q w h1 h2 h3 q => by
    obtain ⟨rfl, hk, hl⟩ := h1
    cases h2
    unfold sAt at h3
    cases e : atI x.cps.toList y with
    | none => rw [e] at h3; cases h3
    | some c =>
      rw [e] at h3; cases h3
      refine ⟨x, y, c, rfl, rfl, hl, e, q _ L H Ext.refl w ⟨rfl, ?_, show 1 ≤ sizeLine by decide⟩⟩
      obtain ⟨j, _, hj, _⟩ := atI_get e
      have hm : c ∈ x.cps := by simpa using List.mem_of_getElem? hj
      have := Array.all_eq_true_iff_forall_mem.mp hk c hm
      simpa [PyData.strOk] using this) q
/-- a place of a tuple or list with written places -/
def Pj {α β : Type} (as : ArgC α) (j : Nat) (c : Cod β) (g : α → β) : Prop := ∀ K R vs x, as.see K R vs x → ∃ v, vs[j]? = some v ∧ c.see K R v (g x)
theorem pj_one {α : Type} {c : Cod α} : Pj (aOne c) 0 c id := fun K R vs x ⟨v, e, h⟩ => ⟨v, by rw [e]; rfl, h⟩
theorem pj_z {α β : Type} {c : Cod α} {as : ArgC β} : Pj (aCons c as) 0 c Prod.fst := fun K R vs x ⟨v, ws, e, h, _⟩ => ⟨v, by rw [e]; rfl, h⟩
theorem pj_s {α β γ : Type} {c : Cod α} {as : ArgC β} {j : Nat} {d : Cod γ} {g : β → γ} (h : Pj as j d g) : Pj (aCons c as) (j + 1) d (fun x => g x.2) := fun K R vs x ⟨v, ws, e, _, q⟩ => by
  obtain ⟨u, h1, h2⟩ := h K R ws x.2 q
  exact ⟨u, by rw [e]; simpa using h1, h2⟩
theorem ex_pj {α β : Type} {as : ArgC α} {c : Cod β} {j : Nat} {i : Int} {gj : α → β} {a : Expr} {kk p2 pos} {f : CT G → Res (α × CT G)} (hj : Pj as j c gj) (hi : i = (j : Int)) (ha : EX A G a (rV (cT as)) f) :
    EX A G (.Subscript a (.Constant (.int i) kk p2) pos) (rV c) (fun p => Res.bind (f p) fun y => .ok (gj y.1, y.2)) :=
  pe_weak (pe_ix ix_tup ha pe_int (fun _ _ => rfl)) fun o H Q ⟨p, L, w, cr, k⟩ => run1 w cr k fun x p' v L' H' st w' c' rl gd => by
    obtain ⟨a, vs, rfl, hq, hs⟩ := rl
    obtain ⟨u, e, hu⟩ := hj _ _ _ _ hs
    exact ⟨a, vs, _, u, rfl, rfl, (hq.same rd_sub).sq, by rw [hi]; exact atI_nat e, gd u L' H' st w' c' hu⟩
theorem ex_pjH {α β : Type} {as : ArgC α} {c : Cod β} {j : Nat} {i : Int} {gj : α → β} {a : Expr} {kk p2 pos} {f : CT G → Res (α × CT G)} (hj : Pj as j c gj) (hi : i = (j : Int)) (ha : EX A G a (rV (cH as)) f) :
    EX A G (.Subscript a (.Constant (.int i) kk p2) pos) (rV c) (fun p => Res.bind (f p) fun y => .ok (gj y.1, y.2)) :=
  pe_weak (pe_ix ix_list ha pe_int (fun _ _ => rfl)) fun o H Q ⟨p, L, w, cr, k⟩ => run1 w cr k fun x p' v L' H' st w' c' rl gd => by
    obtain ⟨a, vs, rfl, hq, hs⟩ := rl
    obtain ⟨u, e, hu⟩ := hj _ _ _ _ hs
    exact ⟨a, vs, _, u, rfl, rfl, rd_sub.seq hq, by rw [hi]; exact atI_nat e, gd u L' H' st w' c' hu⟩

/-! ### and, or, conditional -/
def WXj (A : Amb) (G : Ctx) (e : Expr) (f : CT G → Res (Bool × CT G)) : Prop := PW A.X e (tT A G f)
theorem tx_w {e : Expr} {f : CT G → Res (Bool × CT G)} (h : WXj A G e f) : TX A G e f := PW.pt h
theorem pw_weak {X : Cx} {e : Expr} {t t' : L2.TT} (h : PW X e t) (i : ∀ o H Q, t' o H Q → t o H Q) : PW X e t' := ⟨fun wh pins s o H Q I q => h.run wh pins s o H Q I (i _ _ _ q)⟩
theorem wx_and1 {a : Expr} {pos : Pos} {f : CT G → Res (Bool × CT G)} (h : TX A G a f) : WXj A G (.BoolOp .And [a] pos) f := pw_and1 h
theorem wx_or1 {a : Expr} {pos : Pos} {f : CT G → Res (Bool × CT G)} (h : TX A G a f) : WXj A G (.BoolOp .Or [a] pos) f := pw_or1 h
theorem wx_and {a b : Expr} {rest : List Expr} {pos : Pos} {f g : CT G → Res (Bool × CT G)} (ha : TX A G a f) (hb : WXj A G (.BoolOp .And (b :: rest) pos) g) :
    WXj A G (.BoolOp .And (a :: b :: rest) pos) (fun p => Res.bind (f p) fun y => if y.1 = true then g y.2 else .ok (false, y.2)) :=
  pw_weak (pw_and ha hb) fun o H Q ⟨p, L, w, cr, kk⟩ => ⟨p, L, w, cr, kk.bind.imp fun y _ gd L' H' s w' c' => by
    obtain ⟨b, p'⟩ := y
    cases b with
    | true => exact iteT ⟨p', L', w', c', (gd.step s).imp fun z _ q L2 H2 s2 w2 c2 => q L2 H2 (s.trans s2) w2 c2⟩
    | false => exact iteF (gd L' H' s w' c')⟩
theorem wx_or {a b : Expr} {rest : List Expr} {pos : Pos} {f g : CT G → Res (Bool × CT G)} (ha : TX A G a f) (hb : WXj A G (.BoolOp .Or (b :: rest) pos) g) :
    WXj A G (.BoolOp .Or (a :: b :: rest) pos) (fun p => Res.bind (f p) fun y => if y.1 = true then .ok (true, y.2) else g y.2) :=
  pw_weak (pw_or ha hb) fun o H Q ⟨p, L, w, cr, kk⟩ => ⟨p, L, w, cr, kk.bind.imp fun y _ gd L' H' s w' c' => by
    obtain ⟨b, p'⟩ := y
    cases b with
    | true => exact iteT (gd L' H' s w' c')
    | false => exact iteF ⟨p', L', w', c', (gd.step s).imp fun z _ q L2 H2 s2 w2 c2 => q L2 H2 (s.trans s2) w2 c2⟩⟩
theorem ex_if {α : Type} {r : Rt α} {t a b : Expr} {pos : Pos} {ft : CT G → Res (Bool × CT G)} {f g : CT G → Res (α × CT G)} (ht : TX A G t ft) (ha : EX A G a r f) (hb : EX A G b r g) :
    EX A G (.IfExp t a b pos) r (fun p => Res.bind (ft p) fun y => if y.1 = true then f y.2 else g y.2) :=
  pe_weak (pe_ifExp ht ha hb) fun o H Q ⟨p, L, w, cr, kk⟩ => ⟨p, L, w, cr, kk.bind.imp fun y _ gd L' H' s w' c' => by
    obtain ⟨b, p'⟩ := y
    cases b with
    | true => exact iteT ⟨p', L', w', c', (gd.step s).imp fun z _ q v L2 H2 s2 w2 c2 rl => q v L2 H2 (s.trans s2) w2 c2 (r.pre _ _ _ _ _ _ _ _ _ s rl)⟩
    | false => exact iteF ⟨p', L', w', c', (gd.step s).imp fun z _ q v L2 H2 s2 w2 c2 rl => q v L2 H2 (s.trans s2) w2 c2 (r.pre _ _ _ _ _ _ _ _ _ s rl)⟩⟩
theorem ex_and1 {op} {α : Type} {r : Rt α} {a : Expr} {pos : Pos} {f : CT G → Res (α × CT G)} (h : EX A G a r f) : EX A G (.BoolOp op [a] pos) r f := pe_one h
theorem ex_and {a b : Expr} {rest : List Expr} {pos : Pos} {f g : CT G → Res (Bool × CT G)} (ha : EX A G a (rV cB) f) (hb : EX A G (.BoolOp .And (b :: rest) pos) (rV cB) g) :
    EX A G (.BoolOp .And (a :: b :: rest) pos) (rV cB) (fun p => Res.bind (f p) fun y => if y.1 = true then g y.2 else .ok (false, y.2)) :=
  pe_weak (pe_and ha hb) fun o H Q ⟨p, L, w, cr, kk⟩ => run1 w cr kk fun x p' v L' H' s w' c' rl gd => by
    cases rl
    refine ⟨x, rfl, ?_⟩
    cases x with
    | true => exact iteT ⟨p', L', w', c', (show Good A (g p') L' H' o _ from gd).imp fun z _ q v L2 H2 s2 w2 c2 rl => q v L2 H2 (s.trans s2) w2 c2 rl⟩
    | false => exact iteF ((show ∀ v L' H', _ from gd) _ L' H' s w' c' rfl)
theorem ex_or {a b : Expr} {rest : List Expr} {pos : Pos} {f g : CT G → Res (Bool × CT G)} (ha : EX A G a (rV cB) f) (hb : EX A G (.BoolOp .Or (b :: rest) pos) (rV cB) g) :
    EX A G (.BoolOp .Or (a :: b :: rest) pos) (rV cB) (fun p => Res.bind (f p) fun y => if y.1 = true then .ok (true, y.2) else g y.2) :=
  pe_weak (pe_or ha hb) fun o H Q ⟨p, L, w, cr, kk⟩ => run1 w cr kk fun x p' v L' H' s w' c' rl gd => by
    cases rl
    refine ⟨x, rfl, ?_⟩
    cases x with
    | true => exact iteT ((show ∀ v L' H', _ from gd) _ L' H' s w' c' rfl)
    | false => exact iteF ⟨p', L', w', c', (show Good A (g p') L' H' o _ from gd).imp fun z _ q v L2 H2 s2 w2 c2 rl => q v L2 H2 (s.trans s2) w2 c2 rl⟩
theorem ex_not {a : Expr} {pos : Pos} {f : CT G → Res (Bool × CT G)} (h : EX A G a (rV cB) f) : EX A G (.UnaryOp .Not a pos) (rV cB) (fun p => Res.bind (f p) fun y => .ok (!y.1, y.2)) :=
  pe_weak (pe_not h) fun o H Q ⟨p, L, w, cr, kk⟩ => run1 w cr kk fun x p' v L' H' s w' c' rl gd => by
    cases rl
    exact ⟨x, rfl, gd _ L' H' s w' c' rfl⟩
/-- a < b < c -/
theorem chain_core {α β γ : Type} {c : Cod α} {d : Cod β} {d' : Cod γ} {k1 : α → β → Option Bool} {k2 : β → γ → Option Bool} {r1 r2 : R2} {f : CT G → Res (α × CT G)} {g : CT G → Res (β × CT G)} {h : CT G → Res (γ × CT G)} {o : St} {H : Hp} {Q : VK}
    (p1 : ∀ (L : Lab) (H : Hp) (vx vy : V) (x : α) (y : β) (z : Bool) (Q : VK), Wf L H → c.see A.X.K (rd L H) vx x → d.see A.X.K (rd L H) vy y → k1 x y = some z → (∀ v L' H', Ext L H L' H' → Wf L' H' → (rV cB).rel A.X.K L H L' H' v z → Q v H') → r1 vx vy H Q)
    (p2 : ∀ (L : Lab) (H : Hp) (vx vy : V) (x : β) (y : γ) (z : Bool) (Q : VK), Wf L H → d.see A.X.K (rd L H) vx x → d'.see A.X.K (rd L H) vy y → k2 x y = some z → (∀ v L' H', Ext L H L' H' → Wf L' H' → (rV cB).rel A.X.K L H L' H' v z → Q v H') → r2 vx vy H Q)
    (q : tE A G (rV cB) (fun p => Res.bind (f p) fun y => Res.bind (g y.2) fun z => Res.bind (ofO (k1 y.1 z.1)) fun w => if w = true then Res.bind (h z.2) fun u => Res.bind (ofO (k2 z.1 u.1)) fun w' => .ok (w', u.2) else .ok (false, z.2)) o H Q) :
    tChain r1 r2 (tE A G (rV c) f) (tE A G (rV d) g) (tE A G (rV d') h) o H Q := by
  obtain ⟨p, L, w, cr, kk⟩ := q
  refine run1 w cr kk fun x p1' vx L1 H1 s1 w1 c1 rl1 g1 => ?_
  refine run1 w1 c1 g1 fun y p2' vy L2 H2 s2 w2 c2 rl2 g2 => ?_
  obtain ⟨z, e, g3⟩ := good_ofO g2
  refine p1 L2 H2 vx vy x y z _ w2 (c.mono _ _ _ _ _ s2.rd rl1) rl2 e fun v L3 H3 ex w3 rl => ?_
  cases rl
  refine ⟨z, rfl, ?_⟩
  have c3 := c2.ext w2 ex
  have s3 := (s1.trans s2).trans ex.stp
  cases z with
  | false => exact iteF ((show ∀ v L' H', _ from g3) _ L3 H3 s3 w3 c3 rfl)
  | true =>
    refine iteT (run1 w3 c3 ((show Good A (Res.bind (h p2') _) L2 H2 o _ from g3).step ex.stp) fun u p4 vu L4 H4 s4 w4 c4 rl4 g4 => ?_)
    obtain ⟨z', e', g5⟩ := good_ofO g4
    exact p2 L4 H4 vy vu y u z' Q w4 (d.mono _ _ _ _ _ (ex.stp.trans s4).rd rl2) rl4 e' fun v L5 H5 ex' w5 rl5 => g5 v L5 H5 ((s3.trans s4).trans ex'.stp) w5 (c4.ext w4 ex') rl5
theorem ex_chain {α β γ : Type} {c : Cod α} {d : Cod β} {d' : Cod γ} {k1 : α → β → Option Bool} {k2 : β → γ → Option Bool} {op op' : CmpOp} {ea eb ec : Expr} {pos : Pos} {f : CT G → Res (α × CT G)} {g : CT G → Res (β × CT G)} {h : CT G → Res (γ × CT G)}
    (h1 : OpT A (compareOp op) c d k1 (rV cB)) (h2 : OpT A (compareOp op') d d' k2 (rV cB)) (ha : EX A G ea (rV c) f) (hb : EX A G eb (rV d) g) (hc : EX A G ec (rV d') h) (hm : lastMarks [op, op'] [eb, ec] = false) :
    EX A G (.Compare ea [op, op'] [eb, ec] pos) (rV cB) (fun p => Res.bind (f p) fun y => Res.bind (g y.2) fun z => Res.bind (ofO (k1 y.1 z.1)) fun w => if w = true then Res.bind (h z.2) fun u => Res.bind (ofO (k2 z.1 u.1)) fun w' => .ok (w', u.2) else .ok (false, z.2)) := by
  obtain ⟨r1, o1, p1⟩ := h1
  obtain ⟨r2, o2, p2⟩ := h2
  exact pe_weak (pe_chain o1 o2 ha hb hc (hm := hm)) fun o H Q q => chain_core p1 p2 q
theorem tx_chain {α β γ : Type} {c : Cod α} {d : Cod β} {d' : Cod γ} {k1 : α → β → Option Bool} {k2 : β → γ → Option Bool} {op op' : CmpOp} {ea eb ec : Expr} {pos : Pos} {f : CT G → Res (α × CT G)} {g : CT G → Res (β × CT G)} {h : CT G → Res (γ × CT G)}
    (h1 : OpT A (compareOp op) c d k1 (rV cB)) (h2 : OpT A (compareOp op') d d' k2 (rV cB)) (ha : EX A G ea (rV c) f) (hb : EX A G eb (rV d) g) (hc : EX A G ec (rV d') h) (hm : lastMarks [op, op'] [eb, ec] = false) :
    TX A G (.Compare ea [op, op'] [eb, ec] pos) (fun p => Res.bind (f p) fun y => Res.bind (g y.2) fun z => Res.bind (ofO (k1 y.1 z.1)) fun w => if w = true then Res.bind (h z.2) fun u => Res.bind (ofO (k2 z.1 u.1)) fun w' => .ok (w', u.2) else .ok (false, z.2)) := by
  obtain ⟨r1, o1, p1⟩ := h1
  obtain ⟨r2, o2, p2⟩ := h2
  exact pt_weak (pt_chain o1 o2 ha hb hc (hm := hm)) fun o H Q q => chain_core p1 p2 (tT_of q)
end
end AC
set_option Elab.async false
set_option linter.all false
set_option maxRecDepth 100000
/-! TL4: what is walked, targets, comprehensions, statements, loops. -/
namespace AC
open PySem L2 PyProof

inductive Out (β ρ : Type) where
  | nx (b : β) | rt (r : ρ)
def Out.seq {β β' ρ : Type} (g : β → Res (Out β' ρ)) : Out β ρ → Res (Out β' ρ)
  | .nx q => g q
  | .rt r => .ok (.rt r)
/-- what a def gives back -/
structure Rr (ρ : Type) where
  rel : Frag → Lab → Hp → Lab → Hp → V → ρ → Prop
  pre : ∀ (K : Frag) (L : Lab) (H : Hp) (L1 : Lab) (H1 : Hp) (L2 : Lab) (H2 : Hp) (v : V) (x : ρ), Stp L H L1 H1 → rel K L1 H1 L2 H2 v x → rel K L H L2 H2 v x
def rrP {α : Type} (r : Rt α) : Rr α := ⟨r.rel, r.pre⟩
/-- with a list (or the like) that is changed: the first argument -/
def rrI {α κ : Type} (r : Rt α) (oc : OCod κ) (v0 : V) : Rr (α × κ) := ⟨fun K L H L' H' v x => r.rel K L H L' H' v x.1 ∧ oc.own K (rd L' H') (sub L' 1) H' [] v0 x.2, fun K L H L1 H1 L2 H2 v x s h => ⟨r.pre _ _ _ _ _ _ _ _ _ s h.1, h.2⟩⟩

/-! ### slots that change -/
structure Upd (G : Ctx) (i : Nat) (s : Slot) (G' : Ctx) (put : CT G → s.T → CT G') : Prop where
  ok : ∀ (K : Frag) (k : Nat) (p : CT G) (x : s.T) (v : V) (L : Lab) (H : Hp) (o : St), CR K k G p L H o → s.rel K (k + i) x L H (some (some v)) → CR K k G' (put p x) L H (o.set (k + i) (some v))
theorem CR.len {K : Frag} {L : Lab} {H : Hp} {o : St} : ∀ {k : Nat} {G : Ctx} {p : CT G}, CR K k G p L H o → k + G.length ≤ o.length
  | k, [], _, c => c
  | k, s :: G, p, c => by
    have := CR.len c.2
    rw [List.length_cons]
    omega
theorem CR.off {K : Frag} {L : Lab} {H : Hp} {o : St} {j : Nat} {v : Option V} : ∀ {k : Nat} {G : Ctx} {p : CT G}, j < k → CR K k G p L H o → CR K k G p L H (o.set j v)
  | k, [], _, h, c => by
    show k ≤ (o.set j v).length
    rw [List.length_set]
    exact c
  | k, s :: G, p, h, c => ⟨by rw [List.getElem?_set_ne (by omega)]; exact c.1, CR.off (by omega) c.2⟩
theorem up_z {G : Ctx} {s t : Slot} : Upd (t :: G) 0 s (s :: G) (fun p x => (x, p.2)) := ⟨fun K k p x v L H o c r => by
  have hl := CR.len c
  rw [List.length_cons] at hl
  exact ⟨by rw [Nat.add_zero, List.getElem?_set_self (by omega)]; exact r, CR.off (by omega) c.2⟩⟩
theorem up_s {G G' : Ctx} {i : Nat} {s t : Slot} {put : CT G → s.T → CT G'} (h : Upd G i s G' put) : Upd (t :: G) (i + 1) s (t :: G') (fun p x => (p.1, put p.2 x)) := ⟨fun K k p x v L H o c r => by
  rw [show k + (i + 1) = k + 1 + i by omega] at r ⊢
  exact ⟨by rw [List.getElem?_set_ne (by omega)]; exact c.1, h.ok K (k + 1) p.2 x v L H o c.2 r⟩⟩
/-- knowing less -/
structure SubC (G G' : Ctx) (g : CT G → CT G') : Prop where
  ok : ∀ (K : Frag) (k : Nat) (p : CT G) (L : Lab) (H : Hp) (o : St), Wf L H → CR K k G p L H o → ∃ L', (∀ a, L' a = L a ∨ ((∃ j l, k ≤ j ∧ L a = some (j + 1, l)) ∧ L' a = some (0, []))) ∧ CR K k G' (g p) L' H o
theorem sc_id {G : Ctx} : SubC G G id := ⟨fun K k p L H o w c => ⟨L, fun _ => .inl rfl, c⟩⟩
theorem same_of_frz {L L' : Lab} {H : Hp} {k : Nat} (h : ∀ a, L' a = L a ∨ ((∃ j l, k ≤ j ∧ L a = some (j + 1, l)) ∧ L' a = some (0, []))) : Same (rd L H) (rd L' H) := fun a o q => by
  obtain ⟨⟨l, e1⟩, e2⟩ := rd_of q
  rcases h a with z | ⟨⟨j, l', _, z⟩, _⟩
  · exact rd_mk (z.trans e1) e2
  · rw [z] at e1; cases e1
theorem wf_of_frz {L L' : Lab} {H : Hp} {k : Nat} (w : Wf L H) (h : ∀ a, L' a = L a ∨ ((∃ j l, k ≤ j ∧ L a = some (j + 1, l)) ∧ L' a = some (0, []))) : Wf L' H := ⟨fun a ha => by
  rcases h a with z | ⟨⟨j, l', _, z⟩, _⟩
  · exact w.dom a (by rw [← z]; exact ha)
  · exact w.dom a (by rw [z]; simp), fun a j l e => by
  rcases h a with z | ⟨_, z⟩
  · exact w.soft a j l (z.symm.trans e)
  · rw [z] at e; cases e⟩
theorem stp_of_frz {L L' : Lab} {H : Hp} {k : Nat} (h : ∀ a, L' a = L a ∨ ((∃ j l, k ≤ j ∧ L a = some (j + 1, l)) ∧ L' a = some (0, []))) : Stp L H L' H := fun a f => by
  rcases h a with z | ⟨⟨j, l', _, z⟩, _⟩
  · exact ⟨z, rfl⟩
  · rcases f.2 with q | ⟨l, q⟩
    · rw [q] at z; cases z
    · rw [q] at z; cases z
theorem sc_same {s : Slot} {G G' : Ctx} {g : CT G → CT G'} (h : SubC G G' g) : SubC (s :: G) (s :: G') (fun p => (p.1, g p.2)) := ⟨fun K k p L H o w c => by
  obtain ⟨L', h1, h2⟩ := h.ok K (k + 1) p.2 L H o w c.2
  have h1' : ∀ a, L' a = L a ∨ ((∃ j l, k ≤ j ∧ L a = some (j + 1, l)) ∧ L' a = some (0, [])) := fun a => (h1 a).imp id fun ⟨⟨j, l, hj, z⟩, q⟩ => ⟨⟨j, l, by omega, z⟩, q⟩
  refine ⟨L', h1', s.keep K k p.1 L H L' H _ (same_of_frz h1') (fun a l e => ?_) c.1, h2⟩
  rcases h1 a with z | ⟨⟨j, l', hj, z⟩, _⟩
  · exact ⟨z, rfl⟩
  · rw [e] at z; cases z; omega⟩
theorem sc_any {s : Slot} {G G' : Ctx} {g : CT G → CT G'} (h : SubC G G' g) : SubC (s :: G) (sAny :: G') (fun p => ((), g p.2)) := ⟨fun K k p L H o w c => by
  obtain ⟨L', h1, h2⟩ := h.ok K (k + 1) p.2 L H o w c.2
  exact ⟨L', fun a => (h1 a).imp id fun ⟨⟨j, l, hj, z⟩, q⟩ => ⟨⟨j, l, by omega, z⟩, q⟩, trivial, h2⟩⟩
theorem sc_val {α β : Type} {c : Cod α} {d : Cod β} {f : α → β} {G G' : Ctx} {g : CT G → CT G'} (s : Sub c d f) (h : SubC G G' g) : SubC (sVal c :: G) (sVal d :: G') (fun p => (f p.1, g p.2)) := ⟨fun K k p L H o w c => by
  obtain ⟨L', h1, h2⟩ := (sc_same (s := sVal _) h).ok K k p L H o w c
  obtain ⟨⟨v, e, q⟩, h4⟩ := h2
  exact ⟨L', h1, ⟨v, e, s _ _ _ _ q⟩, h4⟩⟩
/-- a list of one's own stays as it is from now on -/
theorem sc_frz {α : Type} {P : V → Prop} {oc : OCod α} {c : Cod α} {G G' : Ctx} {g : CT G → CT G'} (fz : Frz oc c) (h : SubC G G' g) : SubC (sOwn P oc :: G) (sVal c :: G') (fun p => (p.1, g p.2)) := ⟨fun K k p L H o w cr => by
  obtain ⟨⟨v, _, e, q⟩, c2⟩ := cr
  obtain ⟨L', h1, h2⟩ := h.ok K (k + 1) p.2 L H o w c2
  have hk : ∀ a l, L a = some (k + 1, l) → L' a = some (k + 1, l) := fun a l ea => by
    rcases h1 a with z | ⟨⟨j, l', hj, z⟩, _⟩
    · exact z.trans ea
    · rw [ea] at z; cases z; omega
  have hs : Same (rd L H) (rd L' H) := same_of_frz (k := k + 1) h1
  refine ⟨fun a => match L' a with | some (j, l) => if j = k + 1 then some (0, []) else some (j, l) | none => none, fun a => ?_, ⟨v, e, ?_⟩, ?_⟩
  · show (match L' a with | some (j, l) => if j = k + 1 then some (0, []) else some (j, l) | none => none) = _ ∨ (_ ∧ (match L' a with | some (j, l) => if j = k + 1 then some (0, []) else some (j, l) | none => none) = _)
    rcases h1 a with z | ⟨⟨j, l', hj, z⟩, q0⟩
    · cases ea : L' a with
      | none => left; simp only; rw [← z, ea]
      | some x =>
        obtain ⟨j, l⟩ := x
        by_cases ej : j = k + 1
        · right
          simp only [ej, if_true]
          exact ⟨⟨k, l, Nat.le_refl _, by rw [← z, ea, ej]⟩, trivial⟩
        · left
          simp only [if_neg ej]
          rw [← z, ea]
    · right
      rw [q0]
      exact ⟨⟨j, l', by omega, z⟩, by simp⟩
  · refine fz K _ _ _ H v p.1 (fun a ob qa => ?_) (fun a m em _ => ?_) q
    · obtain ⟨⟨l, e1⟩, e2⟩ := rd_of (hs a ob qa)
      refine rd_mk (l := l) ?_ e2
      simp only [e1]
      rw [if_neg (by omega)]
    · have e1 := hk a m (sub_of em)
      unfold rd
      simp only [e1, if_true]
  · refine h2.keep (fun a ob qa => ?_) fun a j l hj ea => ?_
    · obtain ⟨⟨l, e1⟩, e2⟩ := rd_of qa
      refine rd_mk (l := l) ?_ e2
      simp only [e1]
      rw [if_neg (by omega)]
    · refine ⟨?_, rfl⟩
      show (match L' a with | some (j, l) => if j = k + 1 then some (0, []) else some (j, l) | none => none) = L' a
      simp only [ea]
      rw [if_neg (by omega)]⟩
theorem SubC.comp {G G1 G2 : Ctx} {g : CT G → CT G1} {h : CT G1 → CT G2} (a : SubC G G1 g) (b : SubC G1 G2 h) : SubC G G2 (fun p => h (g p)) := ⟨fun K k p L H o w c => by
  obtain ⟨L1, h1, h2⟩ := a.ok K k p L H o w c
  obtain ⟨L2, h3, h4⟩ := b.ok K k _ L1 H o (wf_of_frz w h1) h2
  refine ⟨L2, fun x => ?_, h4⟩
  rcases h3 x with z | ⟨⟨j, l, hj, z⟩, q⟩
  · rcases h1 x with y | ⟨y, y'⟩
    · exact .inl (z.trans y)
    · exact .inr ⟨y, z.trans y'⟩
  · rcases h1 x with y | ⟨_, y'⟩
    · exact .inr ⟨⟨j, l, hj, y.symm.trans z⟩, q⟩
    · rw [y'] at z; cases z⟩

section
variable {A : Amb} {G G' : Ctx} {ρ : Type} {R : Rr ρ}
/-! ### statements -/
structure Keeps (S : Nat → Prop) (o o' : St) : Prop where
  at_ : ∀ i, ¬ S i → o'[i]? = o[i]?
  len : o'.length = o.length
theorem Keeps.refl {S : Nat → Prop} {o : St} : Keeps S o o := ⟨fun _ _ => rfl, rfl⟩
theorem Keeps.trans {S : Nat → Prop} {o o1 o2 : St} (a : Keeps S o o1) (b : Keeps S o1 o2) : Keeps S o o2 := ⟨fun i h => (b.at_ i h).trans (a.at_ i h), b.len.trans a.len⟩
theorem Keeps.set {S : Nat → Prop} {o : St} {i : Nat} {v : Option V} (hS : S i) : Keeps S o (o.set i v) := ⟨fun j hj => List.getElem?_set_ne fun (e : i = j) => hj (e ▸ hS), List.length_set⟩
def nxP (A : Amb) (G' : Ctx) (R : Rr ρ) (L : Lab) (H : Hp) (o : St) (D : Ends) : Out (CT G') ρ → Prop
  | .nx p' => ∀ o' L' H', Stp L H L' H' → Wf L' H' → CR A.X.K 0 G' p' L' H' o' → Keeps A.S o o' → D.nx o' H'
  | .rt r => ∀ v L' H', Stp L H L' H' → Wf L' H' → R.rel A.X.K L H L' H' v r → D.rt v H'
def tS (A : Amb) (G G' : Ctx) (R : Rr ρ) (f : CT G → Res (Out (CT G') ρ)) : L2.TS := fun D o H =>
  ∃ (p : CT G) (L : Lab), Wf L H ∧ CR A.X.K 0 G p L H o ∧ Good A (f p) L H o (nxP A G' R L H o D)
def SX (A : Amb) (G : Ctx) (st : Stmt) (G' : Ctx) (R : Rr ρ) (f : CT G → Res (Out (CT G') ρ)) : Prop := PS A.X st (tS A G G' R f)
def BX (A : Amb) (G : Ctx) (sts : List Stmt) (G' : Ctx) (R : Rr ρ) (f : CT G → Res (Out (CT G') ρ)) : Prop := PSs A.X sts (tS A G G' R f)
theorem ps_weak {X : Cx} {st : Stmt} {t t' : L2.TS} (h : PS X st t) (i : ∀ D o H, t' D o H → t D o H) : PS X st t' := ⟨fun pins s o H D I q => h.run pins s o H D I (i _ _ _ q)⟩
theorem pss_weak {X : Cx} {sts : List Stmt} {t t' : L2.TS} (h : PSs X sts t) (i : ∀ D o H, t' D o H → t D o H) : PSs X sts t' := ⟨fun pins s o H D I q => h.run pins s o H D I (i _ _ _ q)⟩
/-- going on from a later state -/
theorem nxP.from_ {L L1 : Lab} {H H1 : Hp} {o o1 : St} {D : Ends} {y : Out (CT G') ρ} (s : Stp L H L1 H1) (k : Keeps A.S o o1) (h : nxP A G' R L H o D y) : nxP A G' R L1 H1 o1 D y := by
  cases y with
  | nx p' => exact fun o' L' H' s' w' c' k' => h o' L' H' (s.trans s') w' c' (k.trans k')
  | rt r => exact fun v L' H' s' w' rl => h v L' H' (s.trans s') w' (R.pre _ _ _ _ _ _ _ _ _ s rl)
theorem Good.from_ {α : Type} {m : Res α} {L L1 : Lab} {H H1 : Hp} {o o1 : St} {P : α → Prop} (s : Stp L H L1 H1) (k : Keeps A.S o o1) (h : Good A m L H o P) : Good A m L1 H1 o1 P := by
  cases m with
  | ok a => exact h
  | exc e => exact Amb.raises.mono s k.at_ h
  | bad => exact h
theorem bx_nil : BX A G [] G R (fun p => .ok (.nx p)) := pss_weak pss_nil fun D o H ⟨p, L, w, cr, k⟩ => k o L H Stp.refl w cr Keeps.refl
theorem bx_cons {st : Stmt} {sts : List Stmt} {G1 : Ctx} {f : CT G → Res (Out (CT G1) ρ)} {g : CT G1 → Res (Out (CT G') ρ)} (h : SX A G st G1 R f) (hr : BX A G1 sts G' R g) : BX A G (st :: sts) G' R (fun p => Res.bind (f p) (Out.seq g)) :=
  pss_weak (pss_cons h hr) fun D o H ⟨p, L, w, cr, k⟩ => ⟨p, L, w, cr, k.bind.imp fun y _ q => by
    cases y with
    | nx p' => exact fun o' L' H' s w' c' kp => ⟨p', L', w', c', (Good.from_ s kp (show Good A (g p') L H o _ from q)).imp fun z _ n => nxP.from_ s kp n⟩
    | rt r => exact q⟩
theorem bx_one {st : Stmt} {f : CT G → Res (Out (CT G') ρ)} (h : SX A G st G' R f) : BX A G [st] G' R f := pss_one h
/-- a block seen with less -/
theorem bx_sub {G1 : Ctx} {sts : List Stmt} {g : CT G → CT G1} {f : CT G1 → Res (Out (CT G') ρ)} (s : SubC G G1 g) (h : BX A G1 sts G' R f) : BX A G sts G' R (fun p => f (g p)) :=
  pss_weak h fun D o H ⟨p, L, w, cr, k⟩ => by
    obtain ⟨L', h1, h2⟩ := s.ok _ _ _ _ _ _ w cr
    exact ⟨g p, L', wf_of_frz w h1, h2, (Good.from_ (stp_of_frz h1) Keeps.refl k).imp fun y _ n => nxP.from_ (stp_of_frz h1) Keeps.refl n⟩
theorem sx_sub {G1 : Ctx} {st : Stmt} {g : CT G → CT G1} {f : CT G1 → Res (Out (CT G') ρ)} (s : SubC G G1 g) (h : SX A G1 st G' R f) : SX A G st G' R (fun p => f (g p)) :=
  ps_weak h fun D o H ⟨p, L, w, cr, k⟩ => by
    obtain ⟨L', h1, h2⟩ := s.ok _ _ _ _ _ _ w cr
    exact ⟨g p, L', wf_of_frz w h1, h2, (Good.from_ (stp_of_frz h1) Keeps.refl k).imp fun y _ n => nxP.from_ (stp_of_frz h1) Keeps.refl n⟩
def Out.map {β β' ρ : Type} (g : β → β') : Out β ρ → Out β' ρ
  | .nx q => .nx (g q)
  | .rt r => .rt r
theorem nxP.sub {G1 : Ctx} {g : CT G1 → CT G'} (s : SubC G1 G' g) {L : Lab} {H : Hp} {o : St} {D : Ends} {y : Out (CT G1) ρ} (h : nxP A G' R L H o D (y.map g)) : nxP A G1 R L H o D y := by
  cases y with
  | nx p' =>
    intro o' L' H' s' w' c' k'
    obtain ⟨L2, h1, h2⟩ := s.ok _ _ _ _ _ _ w' c'
    exact h o' L2 H' (s'.trans (stp_of_frz h1)) (wf_of_frz w' h1) h2 k'
  | rt r => exact h
theorem bx_post {G1 : Ctx} {sts : List Stmt} {g : CT G1 → CT G'} {f : CT G → Res (Out (CT G1) ρ)} (h : BX A G sts G1 R f) (s : SubC G1 G' g) : BX A G sts G' R (fun p => Res.bind (f p) fun y => .ok (y.map g)) :=
  pss_weak h fun D o H ⟨p, L, w, cr, k⟩ => ⟨p, L, w, cr, k.bind.imp fun y _ q => nxP.sub s q⟩
theorem sx_post {G1 : Ctx} {st : Stmt} {g : CT G1 → CT G'} {f : CT G → Res (Out (CT G1) ρ)} (h : SX A G st G1 R f) (s : SubC G1 G' g) : SX A G st G' R (fun p => Res.bind (f p) fun y => .ok (y.map g)) :=
  ps_weak h fun D o H ⟨p, L, w, cr, k⟩ => ⟨p, L, w, cr, k.bind.imp fun y _ q => nxP.sub s q⟩
/-- return e -/
theorem sx_ret {α : Type} {r : Rt α} {e : Expr} {pos : Pos} {f : CT G → Res (α × CT G)} (h : EX A G e r f) : SX A G (.Return (some e) pos) G' (rrP r) (fun p => Res.bind (f p) fun y => .ok (.rt y.1)) :=
  ps_weak (ps_ret h) fun D o H ⟨p, L, w, cr, k⟩ => ⟨p, L, w, cr, k.bind.imp fun y _ q v L' H' s w' c' rl => q v L' H' s w' rl⟩
theorem sx_retI {α κ : Type} {r : Rt α} {oc : OCod κ} {v0 : V} {e : Expr} {pos : Pos} {f : CT G → Res (α × CT G)} {g0 : CT G → κ} (a0 : At G 0 (sOwn (fun v => v = v0) oc) g0) (h : EX A G e r f) :
    SX A G (.Return (some e) pos) G' (rrI r oc v0) (fun p => Res.bind (f p) fun y => .ok (.rt (y.1, g0 y.2))) :=
  ps_weak (ps_ret h) fun D o H ⟨p, L, w, cr, k⟩ => ⟨p, L, w, cr, k.bind.imp fun y _ q v L' H' s w' c' rl => q v L' H' s w' ⟨rl, by
    obtain ⟨v1, rfl, _, h⟩ := a0.ok _ _ _ _ _ _ c'
    exact h⟩⟩
/-- return x, x one's own -/
theorem sx_retO {α : Type} {P : V → Prop} {oc : OCod α} {i : Nat} {x : Str} {pos pos' : Pos} {g : CT G → α} (h : At G i (sOwn P oc) g) (hN : A.X.N[i]? = some x) (hv : Vis A.X.env.scope x) (hd : (x == ("__debug__" : Str)) = false := by decide) (hcd : (x == ("__classdict__" : Str)) = false := by decide) :
    SX A G (.Return (some (.Name x pos')) pos) G' (rrP (rO oc)) (fun p => .ok (.rt (g p))) :=
  ps_weak (ps_ret (pe_var hN hv hd hcd)) fun D o H ⟨p, L, w, cr, k⟩ => by
    obtain ⟨v, _, e, q⟩ := h.ok _ _ _ _ _ _ cr
    rw [Nat.zero_add] at e q
    have ne : ∀ a, (match L a with | some (j, l) => if j = i + 1 then none else some (j, l) | none => none) ≠ none → L a ≠ none ∧ (match L a with | some (j, l) => if j = i + 1 then none else some (j, l) | none => none) = L a := fun a => by
      cases ea : L a with
      | none => simp
      | some y =>
        obtain ⟨j, l⟩ := y
        by_cases ej : j = i + 1
        · simp [ej]
        · simp [ej]
    refine ⟨v, e, k v (fun a => match L a with | some (j, l) => if j = i + 1 then none else some (j, l) | none => none) H (fun a f => ⟨?_, rfl⟩) ⟨fun a ha => w.dom a (ne a ha).1, fun a j l ea => ?_⟩ ?_⟩
    · rcases f.2 with z | ⟨l, z⟩
      · simp only [z]
      · simp only [z]
        rw [if_neg (by omega)]
    · exact w.soft a j l (by rw [← (ne a (by rw [ea]; simp)).2]; exact ea)
    · refine ⟨sub L (i + 1), fun a m em => ?_, oc.mono _ _ _ _ _ _ _ _ _ _ (fun a ob qa => ?_) (fun a m em => ⟨em, rfl⟩) q⟩
      · have e1 := sub_of em
        refine ⟨by simp [e1], w.soft a i m e1, fun f => ?_⟩
        rcases f.2 with z | ⟨l, z⟩
        · rw [e1] at z; cases z
        · rw [e1] at z; cases z
      · obtain ⟨⟨l, e1⟩, e2⟩ := rd_of qa
        refine rd_mk (l := l) ?_ e2
        simp only [e1]
        rw [if_neg (by omega)]
/-- x = e, a value -/
theorem sx_set {α : Type} {c : Cod α} {i : Nat} {x : Str} {e : Expr} {pos pos' : Pos} {f : CT G → Res (α × CT G)} {put : CT G → α → CT G'} (u : Upd G i (sVal c) G' put) (hi : A.X.N[i]? = some x) (hx : Loc A.X.env.scope x) (h : EX A G e (rV c) f) (hS : A.S i)
    (hs : swapsWith e (some (.Name x pos')) pos.line A.X.env = pure false) (hf : A.X.fn x = true ∨ A.X.env.scope.names.lookup x = some .local) :
    SX A G (.Assign [.Name x pos'] e pos) G' R (fun p => Res.bind (f p) fun y => .ok (.nx (put y.2 y.1))) :=
  ps_weak (ps_set A.nd hi hx h hs hf) fun D o H ⟨p, L, w, cr, k⟩ => ⟨p, L, w, cr, k.bind.imp fun y _ q v L' H' s w' c' rl => q _ L' H' s w' (by
    have := u.ok _ _ _ y.1 v _ _ _ c' ⟨v, rfl, rl⟩
    rwa [Nat.zero_add] at this) (Keeps.set hS)⟩
theorem lab_own {α : Type} {oc : OCod α} {K : Frag} {L : Lab} {H : Hp} {L' : Lab} {H' : Hp} {v : V} {x : α} (i : Nat) (w : Wf L' H') (h : OwnAt oc K L H L' H' v x) :
    ∃ L'', (∀ a, L'' a = L' a ∨ (L' a = none ∧ ¬ Frm L H a)) ∧ (∀ a, L' a ≠ none → L'' a = L' a) ∧ Wf L'' H' ∧ oc.own K (rd L'' H') (sub L'' (i + 1)) H' [] v x := by
  obtain ⟨M, hM, ho⟩ := h
  have hk : ∀ a, L' a ≠ none → M a = none := fun a ha => by
    cases e : M a with
    | none => rfl
    | some m => exact absurd (hM a m e).1 ha
  refine ⟨fun a => match M a with | some m => some (i + 1, m) | none => L' a, fun a => ?_, fun a ha => ?_, ⟨fun a ha => ?_, fun a k l e => ?_⟩, ?_⟩
  · show (match M a with | some m => some (i + 1, m) | none => L' a) = _ ∨ _
    cases e : M a with
    | none => exact .inl rfl
    | some m => exact .inr ⟨(hM a m e).1, (hM a m e).2.2⟩
  · simp only [hk a ha]
  · cases e : M a with
    | none => simp only [e] at ha; exact w.dom a ha
    | some m => exact (hM a m e).2.1.ne
  · cases e' : M a with
    | none => simp only [e'] at e; exact w.soft a k l e
    | some m1 =>
      simp only [e', Option.some.injEq, Prod.mk.injEq] at e
      rw [← e.2]
      exact (hM a m1 e').2.1
  · refine oc.mono K _ _ _ _ _ _ _ _ _ (fun a ob qa => ?_) (fun a m e => ⟨sub_mk (by simp only [e]), rfl⟩) ho
    obtain ⟨⟨l, e1⟩, e2⟩ := rd_of qa
    exact rd_mk (l := l) (by simp only [hk a (by rw [e1]; simp)]; exact e1) e2
/-- x = e, one's own from now on -/
theorem sx_setO {α : Type} {oc : OCod α} {i : Nat} {x : Str} {e : Expr} {pos pos' : Pos} {f : CT G → Res (α × CT G)} {put : CT G → α → CT G'} (u : Upd G i (sOwn PAny oc) G' put) (hi : A.X.N[i]? = some x) (hx : Loc A.X.env.scope x) (h : EX A G e (rO oc) f) (hS : A.S i)
    (hs : swapsWith e (some (.Name x pos')) pos.line A.X.env = pure false) (hf : A.X.fn x = true ∨ A.X.env.scope.names.lookup x = some .local) :
    SX A G (.Assign [.Name x pos'] e pos) G' R (fun p => Res.bind (f p) fun y => .ok (.nx (put y.2 y.1))) :=
  ps_weak (ps_set A.nd hi hx h hs hf) fun D o H ⟨p, L, w, cr, k⟩ => ⟨p, L, w, cr, k.bind.imp fun y _ q v L' H' s w' c' rl => by
    obtain ⟨L2, h1, h2, h3, h4⟩ := lab_own i w' rl
    have hs2 : Same (rd L' H') (rd L2 H') := fun a ob qa => by
      obtain ⟨⟨l, e1⟩, e2⟩ := rd_of qa
      exact rd_mk ((h2 a (by rw [e1]; simp)).trans e1) e2
    have c2 : CR A.X.K 0 G y.2 L2 H' o := c'.keep hs2 fun a j l _ ea => ⟨h2 a (by rw [ea]; simp), rfl⟩
    refine q _ L2 H' (fun a fr => ?_) h3 (by
      have := u.ok _ _ _ y.1 v _ _ _ c2 ⟨v, trivial, rfl, by rw [Nat.zero_add]; exact h4⟩
      rwa [Nat.zero_add] at this) (Keeps.set hS)
    rcases h1 a with z | z
    · exact ⟨z.trans (s a fr).1, (s a fr).2⟩
    · exact absurd fr z.2⟩
/-- an expression alone -/
theorem sx_expr {α : Type} {r : Rt α} {e : Expr} {pos : Pos} {f : CT G → Res (α × CT G)} (h : EX A G e r f) (hs : swapsWith e none pos.line A.X.env = pure false := by rfl) : SX A G (.Expr e pos) G R (fun p => Res.bind (f p) fun y => .ok (.nx y.2)) :=
  ps_weak (ps_expr h hs) fun D o H ⟨p, L, w, cr, k⟩ => ⟨p, L, w, cr, k.bind.imp fun y _ q v L' H' s w' c' _ => q o L' H' s w' c' Keeps.refl⟩
theorem sx_pass {pos : Pos} : SX A G (.Pass pos) G R (fun p => .ok (.nx p)) := ps_weak ps_pass fun D o H ⟨p, L, w, cr, k⟩ => k o L H Stp.refl w cr Keeps.refl
theorem sx_if {t : Expr} {a b : List Stmt} {pos : Pos} {ft : CT G → Res (Bool × CT G)} {f g : CT G → Res (Out (CT G') ρ)} (ht : TX A G t ft) (ha : BX A G a G' R f) (hb : BX A G b G' R g) :
    SX A G (.If t a b pos) G' R (fun p => Res.bind (ft p) fun y => if y.1 = true then f y.2 else g y.2) :=
  ps_weak (ps_if ht ha hb) fun D o H ⟨p, L, w, cr, k⟩ => ⟨p, L, w, cr, k.bind.imp fun y _ q L' H' s w' c' => by
    obtain ⟨b, p'⟩ := y
    cases b with
    | true => exact iteT ⟨p', L', w', c', (Good.from_ s Keeps.refl (show Good A (f p') L H o _ from q)).imp fun z _ n => nxP.from_ s Keeps.refl n⟩
    | false => exact iteF ⟨p', L', w', c', (Good.from_ s Keeps.refl (show Good A (g p') L H o _ from q)).imp fun z _ n => nxP.from_ s Keeps.refl n⟩⟩
end
end AC
set_option Elab.async false
set_option linter.all false
set_option maxRecDepth 100000
/-! TL5: what is walked, targets, loops, comprehensions. -/
namespace AC
open PySem L2 PyProof

section
variable {A : Amb} {G G' : Ctx} {ρ : Type} {R : Rr ρ}
/-! ### what is walked -/
structure WalkT (A : Amb) {α : Type} (c : Cod α) (L : Lab) (H : Hp) (xs : List α) (J : It) (Gd : Hp → Prop) (Y : Nat → Hp → V → Hp → Prop) : Prop where
  walk : Walk J xs.length Gd Y
  line : xs.length ≤ sizeLine
  stays : ∀ L2 H2, Stp L H L2 H2 → Gd H2
  gives : ∀ i L2 H2 v H3, i < xs.length → Stp L H L2 H2 → Wf L2 H2 → Y i H2 v H3 → ∃ L3 x, Ext L2 H2 L3 H3 ∧ Wf L3 H3 ∧ xs[i]? = some x ∧ c.see A.X.K (rd L3 H3) v x
def tI (A : Amb) {α : Type} (G : Ctx) (c : Cod α) (f : CT G → Res (List α × CT G)) : L2.TI := fun o H Q =>
  ∃ (p : CT G) (L : Lab), Wf L H ∧ CR A.X.K 0 G p L H o ∧ Good A (f p) L H o fun y => ∀ L' H' J Gd Y, Stp L H L' H' → Wf L' H' → CR A.X.K 0 G y.2 L' H' o → WalkT A c L' H' y.1 J Gd Y → Q J H'
def IX (A : Amb) (G : Ctx) (tg iter : Expr) {α : Type} (c : Cod α) (f : CT G → Res (List α × CT G)) : Prop := PI A.X tg iter (tI A G c f)
theorem pi_weak {X : Cx} {tg e : Expr} {t t' : L2.TI} (h : PI X tg e t) (i : ∀ o H Q, t' o H Q → t o H Q) : PI X tg e t' := ⟨fun pins s o H Q I q => h.run pins s o H Q I (i _ _ _ q)⟩
theorem ix_l {α : Type} {c : Cod α} {tg e : Expr} {f : CT G → Res (List α × CT G)} (h : EX A G e (rV (cL c)) f) : IX A G tg e c f :=
  pi_weak (pi_list h) fun o H Q ⟨p, L, w, cr, k⟩ => ⟨p, L, w, cr, k.imp fun y _ q v L' H' s w' c' ⟨a, vs, e, hs, hl, hp⟩ => ⟨a, e, ⟨vs, SqL.of (rd_sub _ _ hs)⟩, q L' H' _ (fun H => SqL A.X.K H a vs) (YAt vs) s w' c'
    ⟨by rw [← paired_len hp]; exact walk_list (xs := vs), by rw [← paired_len hp]; exact hl, fun L2 H2 s2 => SqL.of (rd_sub _ _ (s2.rd _ _ hs)), fun i L2 H2 v H3 hi s2 w2 ⟨e3, hv⟩ => by
      subst e3
      obtain ⟨x, hx, hc⟩ := paired_getL hp hv
      exact ⟨L2, x, Ext.refl, w2, hx, c.mono _ _ _ _ _ s2.rd hc⟩⟩⟩⟩
theorem ix_k {α : Type} {c : Cod α} {tg e : Expr} {f : CT G → Res (List α × CT G)} (h : EX A G e (rV (cLK c)) f) : IX A G tg e c f :=
  pi_weak (pi_list h) fun o H Q ⟨p, L, w, cr, k⟩ => ⟨p, L, w, cr, k.imp fun y _ q v L' H' s w' c' ⟨a, vs, e, hs, hl, hp⟩ => ⟨a, e, ⟨vs, rd_sub.seq hs⟩, q L' H' _ (fun H => SqL A.X.K H a vs) (YAt vs) s w' c'
    ⟨by rw [← paired_len hp]; exact walk_list (xs := vs), by rw [← paired_len hp]; exact hl, fun L2 H2 s2 => Same.seq (H := rd L' H') (fun b o q => rd_sub _ _ (s2.rd b o q)) hs, fun i L2 H2 v H3 hi s2 w2 ⟨e3, hv⟩ => by
      subst e3
      obtain ⟨x, hx, hc⟩ := paired_getL hp hv
      exact ⟨L2, x, Ext.refl, w2, hx, c.mono _ _ _ _ _ s2.rd hc⟩⟩⟩⟩
theorem ix_t {α : Type} {c : Cod α} {tg e : Expr} {f : CT G → Res (List α × CT G)} (h : EX A G e (rV (cTV c)) f) : IX A G tg e c f :=
  pi_weak (pi_tup h) fun o H Q ⟨p, L, w, cr, k⟩ => ⟨p, L, w, cr, k.imp fun y _ q v L' H' s w' c' ⟨a, vs, e, hs, hl, hp⟩ => ⟨a, e, ⟨vs, (hs.same rd_sub).sq⟩, q L' H' _ (fun H => SqT A.X.K H a vs) (YAt vs) s w' c'
    ⟨by rw [← paired_len hp]; exact walk_tup (xs := vs), by rw [← paired_len hp]; exact hl, fun L2 H2 s2 => ((hs.same s2.rd).same rd_sub).sq, fun i L2 H2 v H3 hi s2 w2 ⟨e3, hv⟩ => by
      subst e3
      obtain ⟨x, hx, hc⟩ := paired_getL hp hv
      exact ⟨L2, x, Ext.refl, w2, hx, c.mono _ _ _ _ _ s2.rd hc⟩⟩⟩⟩
/-- m, m + 1, .. so many -/
def intsFrom (m : Int) (n : Nat) : List Int := (List.range n).map fun (i : Nat) => m + (i : Int)
theorem intsFrom_len (m : Int) (n : Nat) : (intsFrom m n).length = n := by unfold intsFrom; rw [List.length_map, List.length_range]
theorem intsFrom_get {m : Int} {n i : Nat} (h : i < n) : (intsFrom m n)[i]? = some (m + (i : Int)) := by unfold intsFrom; rw [List.getElem?_map, List.getElem?_range h]; rfl
def rng1O (n : Int) : Res (List Int) := if -(2 ^ 61) ≤ n ∧ n ≤ 16777216 then .ok (intsFrom 0 n.toNat) else .bad
def rng2O (m n : Int) : Res (List Int) := if n - m ≤ 16777216 ∧ -(2 ^ 61) ≤ m ∧ m < 2 ^ 61 ∧ -(2 ^ 61) ≤ n ∧ n < 2 ^ 61 then .ok (intsFrom m (n - m).toNat) else .bad
theorem line_eq : sizeLine = 16777216 := by decide
theorem good_if {α β : Type} {c : Prop} [Decidable c] {x : α} {f : α → Res β} {L : Lab} {H : Hp} {o : St} {P : β → Prop} (h : Good A (Res.bind (if c then Res.ok x else .bad) f) L H o P) : c ∧ Good A (f x) L H o P := by
  by_cases hc : c
  · rw [if_pos hc] at h; exact ⟨hc, h⟩
  · rw [if_neg hc] at h; exact h.elim
theorem walk_rng {L : Lab} {H : Hp} {lo : Int} {n : Nat} (hn : n ≤ sizeLine) : WalkT A cI L H (intsFrom lo n) (Itr lo n) (fun _ => True) (YFn fun i => .int (lo + i)) :=
  ⟨by rw [intsFrom_len]; exact walk_range, by rw [intsFrom_len]; exact hn, fun _ _ _ => trivial, fun i L2 H2 v H3 hi s2 w2 ⟨e3, hv⟩ => by
    subst e3
    rw [intsFrom_len] at hi
    exact ⟨L2, _, Ext.refl, w2, intsFrom_get hi, hv⟩⟩
theorem ix_r1 {tg a : Expr} {p pos : Pos} {f : CT G → Res (Int × CT G)} (hg : Gl A.X "range") (hm : A.X.mg "range" = none) (h : EX A G a (rV cI) f) (hs : starEach [a] A.X.env = [(false, eval a A.X.env)] := by rfl) :
    IX A G tg (.Call (.Name "range" p) [a] [] pos) cI (fun p => Res.bind (f p) fun y => Res.bind (rng1O y.1) fun z => .ok (z, y.2)) :=
  pi_weak (pi_range1 hg hm (ax_one h (by rw [hs]; rfl)) hs) fun o H Q ⟨p, L, w, cr, k⟩ => ⟨p, L, w, cr, k.bind.imp fun y _ q vs L' H' s w' c' ⟨v, e, hv⟩ => by
    have hv : v = .int y.1 := hv
    subst hv
    obtain ⟨⟨hb0, hb⟩, q⟩ := good_if q
    have hl := line_eq
    exact ⟨y.1, e, by omega, by omega, q L' H' (Itr 0 y.1.toNat) (fun _ => True) (YFn fun i => .int (0 + i)) s w' c' (walk_rng (by omega))⟩⟩
theorem ix_r2 {tg a b : Expr} {p pos : Pos} {f g : CT G → Res (Int × CT G)} (hg : Gl A.X "range") (hm : A.X.mg "range" = none) (ha : EX A G a (rV cI) f) (hb : EX A G b (rV cI) g) (hs : starEach [a, b] A.X.env = [(false, eval a A.X.env), (false, eval b A.X.env)] := by rfl)
    (hs2 : starEach [b] A.X.env = [(false, eval b A.X.env)] := by rfl) :
    IX A G tg (.Call (.Name "range" p) [a, b] [] pos) cI (fun p => Res.bind (f p) fun y => Res.bind (g y.2) fun z => Res.bind (rng2O y.1 z.1) fun u => .ok (u, z.2)) :=
  pi_weak (pi_range2 hg hm (ax_cons ha (ax_one hb (by rw [hs2]; rfl)) (by rw [hs, hs2])) hs hs2) fun o H Q ⟨p, L, w, cr, k⟩ => ⟨p, L, w, cr, (show Good A (Res.bind (Res.bind (f p) fun y => Res.bind (g y.2) fun z => Res.ok ((y.1, z.1), z.2)) fun y => Res.bind (rng2O y.1.1 y.1.2) fun u => Res.ok (u, y.2)) L H o _ by
      rw [Res.bind_assoc]
      simp only [Res.bind_assoc, Res.bind_ok]
      exact k).bind.imp fun y _ q vs L' H' s w' c' ⟨v, _, e, hv, v2, e2, hv2⟩ => by
    have hv : v = .int y.1.1 := hv
    have hv2 : v2 = .int y.1.2 := hv2
    subst hv hv2 e2
    obtain ⟨⟨b1, b2, b3, b4, b5⟩, q⟩ := good_if q
    have hl := line_eq
    exact ⟨y.1.1, y.1.2, e, ⟨by omega, by omega, by omega, by omega⟩, q L' H' (Itr y.1.1 (y.1.2 - y.1.1).toNat) (fun _ => True) (YFn fun i => .int (y.1.1 + i)) s w' c' (walk_rng (by omega))⟩⟩
def strL (z : Str) : List Str := z.cps.toList.map fun c => ⟨#[c]⟩
theorem ix_s {tg e : Expr} {f : CT G → Res (Str × CT G)} (h : EX A G e (rV cS) f) : IX A G tg e cS (fun p => Res.bind (f p) fun y => .ok (strL y.1, y.2)) :=
  pi_weak (pi_str h) fun o H Q ⟨p, L, w, cr, k⟩ => ⟨p, L, w, cr, k.bind.imp fun y _ q v L' H' s w' c' ⟨e, h1, h2⟩ => ⟨y.1, e, q L' H' (Its y.1) (fun _ => True) (fun i H v H' => H' = H ∧ ∃ c, y.1.cps[i]? = some c ∧ v = .str ⟨#[c]⟩) s w' c' ⟨by unfold strL; rw [List.length_map, Array.length_toList]; exact walk_str, by unfold strL; rw [List.length_map, Array.length_toList]; exact h2, fun _ _ _ => trivial, fun i L2 H2 v H3 hi s2 w2 ⟨e3, c, hc, hv⟩ => by
      subst e3 hv
      refine ⟨L2, ⟨#[c]⟩, Ext.refl, w2, ?_, rfl, ?_, show 1 ≤ sizeLine by decide⟩
      · unfold strL
        rw [List.getElem?_map, Array.getElem?_toList, hc]; rfl
      · have hm : c ∈ y.1.cps := Array.mem_of_getElem? hc
        have := Array.all_eq_true_iff_forall_mem.mp h1 c hm
        simpa [PyData.strOk] using this⟩⟩⟩

/-! ### targets -/
def tG (A : Amb) {α : Type} (c : Cod α) (G G' : Ctx) (put : CT G → α → CT G') : L2.TG := fun v o H Q =>
  ∃ (p : CT G) (L : Lab) (x : α), Wf L H ∧ CR A.X.K 0 G p L H o ∧ c.see A.X.K (rd L H) v x ∧ ∀ o', CR A.X.K 0 G' (put p x) L H o' → Keeps A.S o o' → Q o' H
def GX (A : Amb) (G : Ctx) (tg : Expr) {α : Type} (c : Cod α) (G' : Ctx) (put : CT G → α → CT G') : Prop := PG A.X tg (tG A c G G' put)
theorem pg_weak {X : Cx} {e : Expr} {t t' : L2.TG} (h : PG X e t) (i : ∀ v o H Q, t' v o H Q → t v o H Q) : PG X e t' := ⟨fun pins s o H v u Q I r q => h.run pins s o H v u Q I r (i _ _ _ _ q)⟩
theorem gx_name {α : Type} {c : Cod α} {i : Nat} {x : Str} {pos : Pos} {put : CT G → α → CT G'} (u : Upd G i (sVal c) G' put) (hi : A.X.N[i]? = some x) (hx : Loc A.X.env.scope x) (hS : A.S i) (hf : A.X.fn x = true ∨ A.X.env.scope.names.lookup x = some .local) : GX A G (.Name x pos) c G' put :=
  pg_weak (pg_name A.nd hi hx hf) fun v o H Q ⟨p, L, x, w, cr, h, q⟩ => q _ (by
    have := u.ok _ _ _ x v _ _ _ cr ⟨v, rfl, h⟩
    rwa [Nat.zero_add] at this) (Keeps.set hS)
def tGs (A : Amb) {α : Type} (as : ArgC α) (G G' : Ctx) (put : CT G → α → CT G') : L2.TGs := fun vs o H Q =>
  ∃ (p : CT G) (L : Lab) (x : α), Wf L H ∧ CR A.X.K 0 G p L H o ∧ as.see A.X.K (rd L H) vs x ∧ ∀ o', CR A.X.K 0 G' (put p x) L H o' → Keeps A.S o o' → Q o' H
def GXs (A : Amb) (G : Ctx) (tgs : List Expr) {α : Type} (as : ArgC α) (G' : Ctx) (put : CT G → α → CT G') : Prop := PGs A.X tgs (tGs A as G G' put)
theorem pgs_weak {X : Cx} {e : List Expr} {t t' : L2.TGs} (h : PGs X e t) (i : ∀ v o H Q, t' v o H Q → t v o H Q) : PGs X e t' := ⟨fun pins s o H v u Q I r q => h.run pins s o H v u Q I r (i _ _ _ _ q)⟩
theorem gxs_one {α : Type} {c : Cod α} {e : Expr} {put : CT G → α → CT G'} (h : GX A G e c G' put) (hs : (assignEach [e] A.X.env).map (·.2) = assign e A.X.env :: (assignEach [] A.X.env).map (·.2) := by rfl) : GXs A G [e] (aOne c) G' put :=
  pgs_weak (pgs_cons h pgs_nil hs) fun vs o H Q ⟨p, L, x, w, cr, ⟨v, e, h⟩, q⟩ => ⟨v, [], e, p, L, x, w, cr, h, fun o' c' k' => ⟨rfl, q o' c' k'⟩⟩
theorem gxs_cons {α β : Type} {c : Cod α} {as : ArgC β} {e : Expr} {es : List Expr} {G1 : Ctx} {put : CT G → α → CT G1} {put2 : CT G1 → β → CT G'} (h : GX A G e c G1 put) (hr : GXs A G1 es as G' put2) (hs : (assignEach (e :: es) A.X.env).map (·.2) = assign e A.X.env :: (assignEach es A.X.env).map (·.2) := by rfl) :
    GXs A G (e :: es) (aCons c as) G' (fun p x => put2 (put p x.1) x.2) :=
  pgs_weak (pgs_cons h hr hs) fun vs o H Q ⟨p, L, x, w, cr, ⟨v, ws, e, h1, h2⟩, q⟩ => ⟨v, ws, e, p, L, x.1, w, cr, h1, fun o' c' k' => ⟨_, L, x.2, w, c', h2, fun o2 c2 k2 => q o2 c2 (k'.trans k2)⟩⟩
theorem gx_tup {α : Type} {as : ArgC α} {es : List Expr} {kk : Nat} {pos : Pos} {put : CT G → α → CT G'} (h : GXs A G es as G' put) (hn : (assignEach es A.X.env).length = as.n := by rfl) (hst : (assignEach es A.X.env).findIdx? (·.1) = none := by rfl) : GX A G (.Tuple es kk pos) (cT as) G' put :=
  pg_weak (pg_tup A.calm h hn hst) fun v o H Q ⟨p, L, x, w, cr, ⟨a, vs, e, h1, h2⟩, q⟩ => ⟨a, vs, e, (h1.same rd_sub).sq, as.len _ _ _ _ h2, p, L, x, w, cr, h2, q⟩
/-- target = e, by values -/
theorem sx_asg {α : Type} {c : Cod α} {tg e : Expr} {pos : Pos} {f : CT G → Res (α × CT G)} {put : CT G → α → CT G'} (h : EX A G e (rV c) f) (hg : GX A G tg c G' put) (hs : swapsWithSole [tg] e pos.line A.X.env = pure false := by rfl) (hw : swappedStores [tg] e A.X.env = pure none := by rfl)
    (h1 : (assignEach [tg] A.X.env).map (·.2) = [assign tg A.X.env] := by rfl) : SX A G (.Assign [tg] e pos) G' R (fun p => Res.bind (f p) fun y => .ok (.nx (put y.2 y.1))) :=
  ps_weak (ps_asg h hg hs hw h1) fun D o H ⟨p, L, w, cr, k⟩ => ⟨p, L, w, cr, k.bind.imp fun y _ q v L' H' s w' c' rl => ⟨y.2, L', y.1, w', c', rl, fun o' c2 k2 => q o' L' H' s w' c2 k2⟩⟩

/-! ### for -/
def forL {α β ρ : Type} : List α → (α → β → Res (Out β ρ)) → β → Res (Out β ρ)
  | [], _, b => .ok (.nx b)
  | x :: xs, f, b => Res.bind (f x b) (Out.seq (forL xs f))
theorem sx_for {α : Type} {c : Cod α} {tg iter : Expr} {body : List Stmt} {pos : Pos} {fi : CT G → Res (List α × CT G)} {G1 G2 : Ctx} {put : CT G → α → CT G1} {fb : CT G1 → Res (Out (CT G2) ρ)} {back : CT G2 → CT G}
    (hi : IX A G tg iter c fi) (hg : GX A G tg c G1 put) (hb : BX A G1 body G2 R fb) (sb : SubC G2 G back) (hs : ∀ x, foldedSetIterable iter A.X.env x = pure x := by intro _; rfl) :
    SX A G (.For tg iter body [] pos) G R (fun p => Res.bind (fi p) fun y => forL y.1 (fun x q => Res.bind (fb (put q x)) fun z => .ok (z.map back)) y.2) := by
  refine ps_weak (ps_for A.hp A.calm hi hg hb hs) fun D o H ⟨p, L, w, cr, k⟩ => ⟨p, L, w, cr, k.bind.imp fun y _ q L' H' J Gd Y s w' c' wt => ?_⟩
  generalize hbody : (fun (x : α) (q : CT G) => Res.bind (fb (put q x)) fun z => Res.ok (z.map back)) = body' at q
  refine for_it wt.walk (fun i o1 H1 => ∃ (q1 : CT G) (L1 : Lab), Wf L1 H1 ∧ CR A.X.K 0 G q1 L1 H1 o1 ∧ Stp L' H' L1 H1 ∧ Keeps A.S o o1 ∧ Good A (forL (y.1.drop i) body' q1) L H o (nxP A G R L H o D)) ?_ ?_ ?_ ?_
  · exact ⟨y.2, L', w', c', Stp.refl, Keeps.refl, by rw [List.drop_zero]; exact q⟩
  · rintro i o1 H1 _ ⟨q1, L1, w1, c1, s1, _, _⟩
    exact wt.stays L1 H1 s1
  · rintro i v o1 H1 H2 hi ⟨q1, L1, w1, c1, s1, k1, g1⟩ hy
    obtain ⟨L2, x, ex, w2, hx, hc⟩ := wt.gives i L1 H1 v H2 hi s1 w1 hy
    have hd : y.1.drop i = x :: y.1.drop (i + 1) := by
      obtain ⟨h1, h2⟩ := List.getElem?_eq_some_iff.mp hx
      rw [List.drop_eq_getElem_cons h1, h2]
    rw [hd] at g1
    have g2 : Good A (Res.bind (body' x q1) (Out.seq (forL (y.1.drop (i + 1)) body'))) L H o (nxP A G R L H o D) := g1
    rw [← hbody] at g2
    rw [hbody] at g2
    have g3 := g2.bind
    rw [← hbody, hbody] at g3
    refine ⟨q1, L2, x, w2, c1.ext w1 ex, hc, fun o2 c2 k2 => ⟨put q1 x, L2, w2, c2, ?_⟩⟩
    have st : Stp L H L2 H2 := (s.trans s1).trans ex.stp
    have g4 : Good A (Res.bind (fb (put q1 x)) fun z => Res.ok (z.map back)) L H o fun a => Good A (Out.seq (forL (y.1.drop (i + 1)) body') a) L H o (nxP A G R L H o D) := by
      have : body' x q1 = Res.bind (fb (put q1 x)) fun z => Res.ok (z.map back) := by rw [← hbody]
      rw [this] at g3
      exact g3
    refine (Good.from_ st (k1.trans k2) g4.bind).imp fun z _ gz => ?_
    cases z with
    | nx p3 =>
      intro o3 L3 H3 s3 w3 c3 k3
      obtain ⟨L4, h41, h42⟩ := sb.ok _ _ _ _ _ _ w3 c3
      exact ⟨back p3, L4, wf_of_frz w3 h41, h42, ((s1.trans ex.stp).trans s3).trans (stp_of_frz h41), (k1.trans k2).trans k3, gz⟩
    | rt r =>
      intro v L3 H3 s3 w3 rl
      exact (show nxP A G R L H o D (.rt r) from gz) v L3 H3 (st.trans s3) w3 (R.pre _ _ _ _ _ _ _ _ _ st rl)
  · rintro o1 H1 ⟨q1, L1, w1, c1, s1, k1, g1⟩
    rw [List.drop_length] at g1
    exact (show nxP A G R L H o D (.nx q1) from g1) o1 L1 H1 (s.trans s1) w1 c1 k1
/-! ### while -/
def whileN {β ρ : Type} (c : β → Res (Bool × β)) (b : β → Res (Out β ρ)) : Nat → β → Res (Out β ρ)
  | 0, _ => .bad
  | n + 1, s => Res.bind (c s) fun t => if t.1 = true then Res.bind (b t.2) (Out.seq (whileN c b n)) else .ok (.nx t.2)
/-- more turns than any loop here has -/
def wfuel : Nat := 2 ^ 40
@[irreducible] def whileR {β ρ : Type} (c : β → Res (Bool × β)) (b : β → Res (Out β ρ)) (s : β) : Res (Out β ρ) := whileN c b wfuel s
theorem sx_while {t : Expr} {body : List Stmt} {pos : Pos} {ft : CT G → Res (Bool × CT G)} {G2 : Ctx} {fb : CT G → Res (Out (CT G2) ρ)} {back : CT G2 → CT G} (ht : TX A G t ft) (hb : BX A G body G2 R fb) (sb : SubC G2 G back) :
    SX A G (.While t body [] pos) G R (whileR ft fun p => Res.bind (fb p) fun z => .ok (z.map back)) := by
  refine ps_weak (ps_while A.hp ht hb) fun D o H ⟨p, L, w, cr, k⟩ => ?_
  unfold whileR at k
  refine ⟨fun m o1 H1 => ∃ (q1 : CT G) (L1 : Lab), Wf L1 H1 ∧ CR A.X.K 0 G q1 L1 H1 o1 ∧ Stp L H L1 H1 ∧ Keeps A.S o o1 ∧ Good A (whileN ft (fun p => Res.bind (fb p) fun z => .ok (z.map back)) m q1) L H o (nxP A G R L H o D), ⟨wfuel, p, L, w, cr, Stp.refl, Keeps.refl, k⟩, ?_⟩
  rintro m o1 H1 ⟨q1, L1, w1, c1, s1, k1, g1⟩
  cases m with
  | zero => exact g1.elim
  | succ m =>
    refine ⟨q1, L1, w1, c1, (Good.from_ s1 k1 (show Good A (Res.bind (ft q1) _) L H o _ from g1).bind).imp fun y _ gy L2 H2 s2 w2 c2 => ?_⟩
    obtain ⟨b, q2⟩ := y
    cases b with
    | false => exact iteF ((show nxP A G R L H o D (.nx q2) from gy) o1 L2 H2 (s1.trans s2) w2 c2 k1)
    | true =>
      refine iteT ⟨fun o' H' => ∃ (q1 : CT G) (L1 : Lab), Wf L1 H' ∧ CR A.X.K 0 G q1 L1 H' o' ∧ Stp L H L1 H' ∧ Keeps A.S o o' ∧ Good A (whileN ft (fun p => Res.bind (fb p) fun z => .ok (z.map back)) m q1) L H o (nxP A G R L H o D), fun o' H' h => ⟨m, Nat.lt_succ_self m, h⟩, q2, L2, w2, c2, ?_⟩
      refine (Good.from_ (s1.trans s2) k1 (show Good A (Res.bind (Res.bind (fb q2) fun z => Res.ok (z.map back)) (Out.seq (whileN ft _ m))) L H o _ from gy).bind.bind).imp fun z _ gz => ?_
      cases z with
      | nx p3 =>
        intro o3 L3 H3 s3 w3 c3 k3
        obtain ⟨L4, h41, h42⟩ := sb.ok _ _ _ _ _ _ w3 c3
        exact ⟨back p3, L4, wf_of_frz w3 h41, h42, ((s1.trans s2).trans s3).trans (stp_of_frz h41), k1.trans k3, gz⟩
      | rt r =>
        intro v L3 H3 s3 w3 rl
        exact (show nxP A G R L H o D (.rt r) from gz) v L3 H3 ((s1.trans s2).trans s3) w3 (R.pre _ _ _ _ _ _ _ _ _ (s1.trans s2) rl)
end
end AC
set_option Elab.async false
set_option linter.all false
set_option maxRecDepth 100000
/-! TL6: comprehensions. -/
namespace AC
open PySem L2 PyProof

theorem wipe_ne {o : St} {k : Nat} : ∀ {vs : List Nat}, k ∉ vs → (wipe o vs)[k]? = o[k]?
  | [], _ => rfl
  | v :: vs, h => by
    unfold wipe
    rw [List.getElem?_set_ne (fun e => h (by rw [e]; exact List.mem_cons_self))]
    exact wipe_ne fun m => h (List.mem_cons_of_mem _ m)
theorem wipe_in {o : St} {k : Nat} : ∀ {vs : List Nat}, k ∈ vs → (wipe o vs)[k]? = if k < o.length then some none else none
  | v :: vs, h => by
    unfold wipe
    by_cases e : v = k
    · subst e
      by_cases hl : v < o.length
      · rw [if_pos hl, List.getElem?_set_self (by rw [wipe_length]; exact hl)]
      · rw [if_neg hl, List.getElem?_eq_none (by rw [List.length_set, wipe_length]; omega)]
    · rw [List.getElem?_set_ne e]
      exact wipe_in ((List.mem_cons.mp h).resolve_left fun q => e q.symm)
theorem wipe_eq {o o' : St} {vs : List Nat} (hl : o'.length = o.length) (h : ∀ i, i ∉ vs → o'[i]? = o[i]?) : wipe o' vs = wipe o vs := by
  apply List.ext_getElem?
  intro i
  by_cases hi : i ∈ vs
  · rw [wipe_in hi, wipe_in hi, hl]
  · rw [wipe_ne hi, wipe_ne hi]
    exact h i hi
/-- the names of a comprehension are hidden -/
structure WipeC (k : Nat) (vs : List Nat) (G G0 : Ctx) (dn : CT G → CT G0) (bk : CT G → CT G0 → CT G) : Prop where
  dn_ok : ∀ (K : Frag) (p : CT G) (L : Lab) (H : Hp) (o : St), CR K k G p L H o → CR K k G0 (dn p) L H (wipe o vs)
  bk_ok : ∀ (K : Frag) (p : CT G) (q : CT G0) (L : Lab) (H : Hp) (L' : Lab) (H' : Hp) (o : St), Same (rd L H) (rd L' H') → CR K k G p L H o → CR K k G0 q L' H' (wipe o vs) → CR K k G (bk p q) L' H' o
theorem wc_nil {k : Nat} {vs : List Nat} : WipeC k vs [] [] (fun p => p) (fun p _ => p) := ⟨fun K p L H o c => by
  show k ≤ (wipe o vs).length
  rw [wipe_length]; exact c, fun K p q L H L' H' o s c c' => c⟩
theorem wc_keep {k : Nat} {vs : List Nat} {s : Slot} {G G0 : Ctx} {dn : CT G → CT G0} {bk : CT G → CT G0 → CT G} (hk : k ∉ vs) (h : WipeC (k + 1) vs G G0 dn bk) : WipeC k vs (s :: G) (s :: G0) (fun p => (p.1, dn p.2)) (fun p q => (q.1, bk p.2 q.2)) :=
  ⟨fun K p L H o c => ⟨by rw [wipe_ne hk]; exact c.1, h.dn_ok K p.2 L H o c.2⟩, fun K p q L H L' H' o s c c' => ⟨by have := c'.1; rw [wipe_ne hk] at this; exact this, h.bk_ok K p.2 q.2 L H L' H' o s c.2 c'.2⟩⟩
theorem wc_any {k : Nat} {vs : List Nat} {G G0 : Ctx} {dn : CT G → CT G0} {bk : CT G → CT G0 → CT G} (h : WipeC (k + 1) vs G G0 dn bk) : WipeC k vs (sAny :: G) (sAny :: G0) (fun p => ((), dn p.2)) (fun p q => ((), bk p.2 q.2)) :=
  ⟨fun K p L H o c => ⟨trivial, h.dn_ok K p.2 L H o c.2⟩, fun K p q L H L' H' o s c c' => ⟨trivial, h.bk_ok K p.2 q.2 L H L' H' o s c.2 c'.2⟩⟩
theorem wc_val {k : Nat} {vs : List Nat} {α : Type} {c : Cod α} {G G0 : Ctx} {dn : CT G → CT G0} {bk : CT G → CT G0 → CT G} (h : WipeC (k + 1) vs G G0 dn bk) : WipeC k vs (sVal c :: G) (sAny :: G0) (fun p => ((), dn p.2)) (fun p q => (p.1, bk p.2 q.2)) :=
  ⟨fun K p L H o c => ⟨trivial, h.dn_ok K p.2 L H o c.2⟩, fun K p q L H L' H' o s c c' => ⟨let ⟨v, e, hv⟩ := c.1; ⟨v, e, Cod.mono _ K _ _ v _ s hv⟩, h.bk_ok K p.2 q.2 L H L' H' o s c.2 c'.2⟩⟩

/-- [.. for ..]: an item or none each turn -/
def lcL {α β γ : Type} : List α → (α → β → Res (Option γ × β)) → β → Res (List γ × β)
  | [], _, b => .ok ([], b)
  | x :: xs, f, b => Res.bind (Res.noexc (f x b)) fun r => Res.bind (lcL xs f r.2) fun z => .ok (match r.1 with | some y => y :: z.1 | none => z.1, z.2)
def mapR {α β γ : Type} : List α → (α → β → Res (γ × β)) → β → Res (List γ × β)
  | [], _, b => .ok ([], b)
  | x :: xs, f, b => Res.bind (Res.noexc (f x b)) fun r => Res.bind (mapR xs f r.2) fun z => .ok (r.1 :: z.1, z.2)
theorem lcL_some {α β γ : Type} {f : α → β → Res (γ × β)} : ∀ {xs : List α} {b : β}, lcL xs (fun x b => Res.bind (f x b) fun r => .ok (some r.1, r.2)) b = mapR xs f b
  | [], _ => rfl
  | x :: xs, b => by
    show Res.bind (Res.noexc (Res.bind (f x b) fun r => .ok (some r.1, r.2))) _ = Res.bind (Res.noexc (f x b)) _
    cases f x b with
    | ok r =>
      show Res.bind (lcL xs (fun x b => Res.bind (f x b) fun r => .ok (some r.1, r.2)) r.2) (fun z => .ok (r.1 :: z.1, z.2)) = Res.bind (mapR xs f r.2) fun z => .ok (r.1 :: z.1, z.2)
      rw [lcL_some]
    | exc e => rfl
    | bad => rfl

/-- the surroundings of a comprehension's block -/
def Amb.blk (A : Amb) (vs : List Nat) (s : Shared) (H : Hp) (scope : Scope) (C : Addr) (cl : List (Str × Addr)) (fp : List Addr) : Amb where
  X := A.X.blk s H scope (compEnvC scope cl C A.X.env) fp
  W := fun _ _ _ _ => False
  tk := takes0
  calm := A.calm
  hp := PassesOwn.never
  nd := A.nd
  ca := A.ca
  S := fun i => i ∈ vs
  lv := A.lv
  room := A.room
  gd := A.gd

section
variable {A : Amb} {G : Ctx}
/-- what one turn of a comprehension is to do, in the block's surroundings -/
theorem lc_reads {α β : Type} {ci : Cod α} {ce : Cod β} {G0 G1 : Ctx} {vs : List Nat} {fi : CT G → Res (List α × CT G)} {dn : CT G → CT G0} {bk : CT G → CT G0 → CT G} {put : CT G0 → α → CT G1} {ft : CT G1 → Res (Bool × CT G1)} {fe : CT G1 → Res (β × CT G1)} {dn1 : CT G1 → CT G0} {bk1 : CT G1 → CT G0 → CT G1}
    (B : Amb) (hB : B.X.K = A.X.K) (hBS : ∀ i, ¬ i ∈ vs → ¬ B.S i)
    (wc : WipeC 0 vs G G0 dn bk) (wc1 : WipeC 0 vs G1 G0 dn1 bk1) {o : St} {H : Hp} {Q : VK}
    (q : tE A G (rO (oL ce)) (fun p => Res.bind (fi p) fun y => Res.bind (lcL y.1 (fun x q => Res.bind (ft (put q x)) fun t => if t.1 = true then Res.bind (fe t.2) fun z => .ok (some z.1, dn1 z.2) else .ok (none, dn1 t.2)) (dn y.2)) fun z => .ok (z.1, bk y.2 z.2)) o H Q) :
    tLc (tI A G ci fi) (tG B ci G0 G1 put) (tT B G1 ft) (tE B G1 (rV ce) fe) vs o H Q := by
  obtain ⟨p, L, w, cr, k⟩ := q
  refine ⟨p, L, w, cr, k.bind.imp fun y _ gy L1 H1 J Gd Y s1 w1 c1 wt D hD => ?_⟩
  generalize hbody : (fun (x : α) (q : CT G0) => Res.bind (ft (put q x)) fun t => if t.1 = true then Res.bind (fe t.2) fun z => Res.ok (some z.1, dn1 z.2) else Res.ok ((none : Option β), dn1 t.2)) = body at gy
  have hnb : L1 D = none := w1.none hD
  -- the state with the list so far
  refine lc_it wt.walk (fun i H2 => ∃ (q2 : CT G0) (L2 : Lab) (acc : List V) (ys : List β), Wf L2 H2 ∧ CR A.X.K 0 G0 q2 L2 H2 (wipe o vs) ∧ Stp L1 H1 L2 H2 ∧ L2 D = none ∧ H2 D = some (.lst acc) ∧ acc.length ≤ i ∧ Paired (fun v x => ce.see A.X.K (rd L2 H2) v x) acc ys ∧
      Good A (Res.bind (lcL (y.1.drop i) body q2) fun z => .ok (ys ++ z.1, bk y.2 z.2)) L H o fun y => ∀ (v : V) (L' : Lab) (H' : Hp), Stp L H L' H' → Wf L' H' → CR A.X.K 0 G y.2 L' H' o → (rO (oL ce)).rel A.X.K L H L' H' v y.1 → Q v H') ?_ ?_ ?_ ?_
  · obtain ⟨e1, e2⟩ := ext_new (o := .lst []) w1 hD
    refine ⟨dn y.2, L1, [], [], e2, (wc.dn_ok _ _ _ _ _ c1).ext w1 e1, e1.stp, hnb, upd_same, Nat.zero_le _, .nil, ?_⟩
    rw [List.drop_zero]
    exact gy
  · rintro i H2 _ ⟨q2, L2, acc, ys, w2, c2, s2, _⟩
    exact wt.stays L2 H2 s2
  · rintro i v H2 H3 hi ⟨q2, L2, acc, ys, w2, c2, s2, n2, d2, l2, pp, g2⟩ hy
    obtain ⟨L3, x, ex, w3, hx, hc⟩ := wt.gives i L2 H2 v H3 hi s2 w2 hy
    have hd : y.1.drop i = x :: y.1.drop (i + 1) := by
      obtain ⟨h1, h2⟩ := List.getElem?_eq_some_iff.mp hx
      rw [List.drop_eq_getElem_cons h1, h2]
    have fD : Frm L2 H2 D := ⟨by rw [d2]; simp, .inl n2⟩
    have n3 : L3 D = none := (ex.stp D fD).1.trans n2
    have d3 : H3 D = some (.lst acc) := (ex.stp D fD).2.trans d2
    have fD3 : Frm L3 H3 D := ex.stp.frm fD
    -- the turn's value
    have gturn : ∃ r, body x q2 = .ok r ∧ Good A (Res.bind (lcL (y.1.drop (i + 1)) body r.2) fun z => .ok (ys ++ (match r.1 with | some y => y :: z.1 | none => z.1), bk y.2 z.2)) L H o fun y => ∀ (v : V) (L' : Lab) (H' : Hp), Stp L H L' H' → Wf L' H' → CR A.X.K 0 G y.2 L' H' o → (rO (oL ce)).rel A.X.K L H L' H' v y.1 → Q v H' := by
      rw [hd] at g2
      unfold lcL at g2
      cases e : body x q2 with
      | ok r =>
        rw [e] at g2
        refine ⟨r, rfl, ?_⟩
        simp only [Res.noexc, Res.bind_ok, Res.bind_assoc] at g2
        exact g2
      | exc e' => rw [e] at g2; exact g2.elim
      | bad => rw [e] at g2; exact g2.elim
    obtain ⟨r, er, g3⟩ := gturn
    have er2 : (Res.bind (ft (put q2 x)) fun t => if t.1 = true then Res.bind (fe t.2) fun z => Res.ok (some z.1, dn1 z.2) else Res.ok ((none : Option β), dn1 t.2)) = .ok r := by rw [← er, ← hbody]
    refine ⟨q2, L3, x, w3, by rw [hB]; exact c2.ext w2 ex, by rw [hB]; exact hc, fun o3 c3 k3 => ?_⟩
    have hw : wipe o3 vs = wipe o vs := by
      have h1 : wipe o3 vs = wipe (wipe o vs) vs := wipe_eq k3.len fun i hi => k3.at_ i (hBS i hi)
      rw [h1]
      exact wipe_eq (wipe_length _ _) fun i hi => wipe_ne hi
    refine ⟨hw, ?_⟩
    rw [hB] at c3
    cases et : ft (put q2 x) with
    | bad => rw [et] at er2; cases er2
    | exc e => rw [et] at er2; cases er2
    | ok t =>
      rw [et, Res.bind_ok] at er2
      obtain ⟨tb, t2⟩ := t
      refine ⟨put q2 x, L3, w3, by rw [hB]; exact c3, ?_⟩
      rw [et]
      intro L4 H4 s4 w4 c4
      rw [hB] at c4
      cases tb with
      | false =>
        rw [if_neg Bool.false_ne_true] at er2
        cases er2
        refine (iteF ?_ : if false = true then _ else _)
        refine ⟨dn1 t2, L4, acc, ys, w4, ?_, (s2.trans ex.stp).trans s4, (s4 D fD3).1.trans n3, (s4 D fD3).2.trans d3, by omega, paired_mono (fun _ _ q => ce.mono _ _ _ _ _ (ex.stp.trans s4).rd q) pp, g3⟩
        rw [← hw]
        exact wc1.dn_ok _ _ _ _ _ c4
      | true =>
        rw [if_pos rfl] at er2
        cases ee : fe t2 with
        | bad => rw [ee] at er2; cases er2
        | exc e => rw [ee] at er2; cases er2
        | ok z =>
          rw [ee, Res.bind_ok] at er2
          cases er2
          refine (iteT ?_ : if true = true then _ else _)
          refine ⟨t2, L4, w4, by rw [hB]; exact c4, ?_⟩
          rw [ee]
          intro u L5 H5 s5 w5 c5 r5
          have r5 : ce.see B.X.K (rd L5 H5) u z.1 := r5
          rw [hB] at c5 r5
          have s45 := s4.trans s5
          have n5 : L5 D = none := (s45 D fD3).1.trans n3
          have d5 : H5 D = some (.lst acc) := (s45 D fD3).2.trans d3
          have lx : y.1.length ≤ sizeLine := wt.line
          have sm : Same (rd L5 H5) (rd L5 (upd H5 D (.lst (acc ++ [u])))) := fun a ob qa => by
            obtain ⟨⟨l, e1⟩, e2⟩ := rd_of qa
            refine rd_mk e1 ?_
            rw [upd_ne fun e => by rw [e, n5] at e1; cases e1]
            exact e2
          refine ⟨acc, d5, by omega, dn1 z.2, L5, acc ++ [u], ys ++ [z.1], ⟨fun a ha => ?_, fun a k l e => ?_⟩, ?_, fun a fa => ?_, n5, upd_same, by rw [List.length_append, List.length_singleton]; omega, ?_, ?_⟩
          · rw [upd_ne fun e => ha (by rw [e]; exact n5)]
            exact w5.dom a ha
          · rw [upd_ne fun e' => by rw [e', n5] at e; cases e]
            exact w5.soft a k l e
          · rw [← hw]
            exact (wc1.dn_ok _ _ _ _ _ c5).keep sm fun a j l _ e => ⟨rfl, upd_ne fun e' => by rw [e', n5] at e; cases e⟩
          · obtain ⟨e1, e2⟩ := ((s2.trans ex.stp).trans s45) a fa
            exact ⟨e1, by rw [upd_ne fun e => fa.1 (by rw [e]; exact hD)]; exact e2⟩
          · exact paired_append (paired_mono (fun _ _ q => ce.mono _ _ _ _ _ (fun a ob h => sm a ob ((ex.stp.trans s45).rd a ob h)) q) pp) (.cons (ce.mono _ _ _ _ _ sm r5) .nil)
          · simp only [List.append_assoc, List.singleton_append]
            exact g3
  · rintro H2 ⟨q2, L2, acc, ys, w2, c2, s2, n2, d2, l2, pp, g2⟩
    rw [List.drop_length] at g2
    have g3 : ∀ (v : V) (L' : Lab) (H' : Hp), Stp L H L' H' → Wf L' H' → CR A.X.K 0 G (bk y.2 q2) L' H' o → (rO (oL ce)).rel A.X.K L H L' H' v (ys ++ []) → Q v H' := g2
    rw [List.append_nil] at g3
    refine g3 (.ref D) L2 H2 (s1.trans s2) w2 (wc.bk_ok _ _ _ _ _ _ _ _ s2.rd c1 c2) ⟨fun a => if a = D then some [] else none, fun a m e => ?_, D, acc, rfl, if_pos rfl, d2, ?_, pp⟩
    · have e : (if a = D then some ([] : List Nat) else none) = some m := e
      by_cases ea : a = D
      · rw [if_pos ea] at e; cases e
        rw [ea, d2]
        exact ⟨n2, trivial, fun f => (s1.frm f).1 hD⟩
      · rw [if_neg ea] at e; cases e
    · have := wt.line
      omega
theorem pts_weak {X : Cx} {es : List Expr} {t t' : L2.TT} (h : PTs X es t) (i : ∀ o H Q, t' o H Q → t o H Q) : PTs X es t' := ⟨fun pins s o H Q I q => h.run pins s o H Q I (i _ _ _ q)⟩
theorem blk_S {vs : List Nat} {s : Shared} {H : Hp} {scope : Scope} {C : Addr} {cl : List (Str × Addr)} {fp : List Addr} : ∀ i, ¬ i ∈ vs → ¬ (A.blk vs s H scope C cl fp).S i := fun _ h => h
/-- [e for t in xs if c] -/
theorem ex_lcIf {α β : Type} {ci : Cod α} {ce : Cod β} {G0 G1 : Ctx} {elt tg iter c : Expr} {scope : Scope} {own : List (Str × Nat)} {pos : Pos} {fi : CT G → Res (List α × CT G)} {dn : CT G → CT G0} {bk : CT G → CT G0 → CT G} {put : CT G0 → α → CT G1} {ft : CT G1 → Res (Bool × CT G1)} {fe : CT G1 → Res (β × CT G1)} {dn1 : CT G1 → CT G0} {bk1 : CT G1 → CT G0 → CT G1}
    (hi : IX A G tg iter ci fi) (ok : BlkOk A.X.N A.X.env.scope scope own) (wc : WipeC 0 (own.map (fun x : Str × Nat => x.2)) G G0 dn bk)
    (hg : ∀ s H C cl fp, GX (A.blk (own.map (fun x : Str × Nat => x.2)) s H scope C cl fp) G0 tg ci G1 put) (ht : ∀ s H C cl fp, TX (A.blk (own.map (fun x : Str × Nat => x.2)) s H scope C cl fp) G1 c ft) (he : ∀ s H C cl fp, EX (A.blk (own.map (fun x : Str × Nat => x.2)) s H scope C cl fp) G1 elt (rV ce) fe)
    (wc1 : WipeC 0 (own.map (fun x : Str × Nat => x.2)) G1 G0 dn1 bk1) (hs : ∀ x, foldedSetIterable iter A.X.env x = pure x := by intro _; rfl) :
    EX A G (.ListComp elt [⟨tg, iter, [c], 0⟩] scope pos) (rO (oL ce)) (fun p => Res.bind (fi p) fun y => Res.bind (lcL y.1 (fun x q => Res.bind (ft (put q x)) fun t => if t.1 = true then Res.bind (fe t.2) fun z => .ok (some z.1, dn1 z.2) else .ok (none, dn1 t.2)) (dn y.2)) fun z => .ok (z.1, bk y.2 z.2)) :=
  pe_weak (pe_lc A.calm A.nd hi ok (g := tG (A.blk (own.map (fun x : Str × Nat => x.2)) A.X.s_0 A.X.H_0 scope 0 [] []) ci G0 G1 put) (tt := tT (A.blk (own.map (fun x : Str × Nat => x.2)) A.X.s_0 A.X.H_0 scope 0 [] []) G1 ft) (te := tE (A.blk (own.map (fun x : Str × Nat => x.2)) A.X.s_0 A.X.H_0 scope 0 [] []) G1 (rV ce) fe)
    (fun s H C cl fp => hg s H C cl fp) (fun s H C cl fp => pts_one (ht s H C cl fp)) (fun s H C cl fp => he s H C cl fp) hs) fun o H Q q => lc_reads (A := A) (A.blk (own.map (fun x : Str × Nat => x.2)) A.X.s_0 A.X.H_0 scope 0 [] []) rfl blk_S wc wc1 q
/-- [e for t in xs] -/
theorem ex_lc {α β : Type} {ci : Cod α} {ce : Cod β} {G0 G1 : Ctx} {elt tg iter : Expr} {scope : Scope} {own : List (Str × Nat)} {pos : Pos} {fi : CT G → Res (List α × CT G)} {dn : CT G → CT G0} {bk : CT G → CT G0 → CT G} {put : CT G0 → α → CT G1} {fe : CT G1 → Res (β × CT G1)} {dn1 : CT G1 → CT G0} {bk1 : CT G1 → CT G0 → CT G1}
    (hi : IX A G tg iter ci fi) (ok : BlkOk A.X.N A.X.env.scope scope own) (wc : WipeC 0 (own.map (fun x : Str × Nat => x.2)) G G0 dn bk)
    (hg : ∀ s H C cl fp, GX (A.blk (own.map (fun x : Str × Nat => x.2)) s H scope C cl fp) G0 tg ci G1 put) (he : ∀ s H C cl fp, EX (A.blk (own.map (fun x : Str × Nat => x.2)) s H scope C cl fp) G1 elt (rV ce) fe)
    (wc1 : WipeC 0 (own.map (fun x : Str × Nat => x.2)) G1 G0 dn1 bk1) (hs : ∀ x, foldedSetIterable iter A.X.env x = pure x := by intro _; rfl) :
    EX A G (.ListComp elt [⟨tg, iter, [], 0⟩] scope pos) (rO (oL ce)) (fun p => Res.bind (fi p) fun y => Res.bind (mapR y.1 (fun x q => Res.bind (fe (put q x)) fun z => .ok (z.1, dn1 z.2)) (dn y.2)) fun z => .ok (z.1, bk y.2 z.2)) := by
  refine pe_weak (pe_lc A.calm A.nd hi ok (g := tG (A.blk (own.map (fun x : Str × Nat => x.2)) A.X.s_0 A.X.H_0 scope 0 [] []) ci G0 G1 put) (tt := tT (A.blk (own.map (fun x : Str × Nat => x.2)) A.X.s_0 A.X.H_0 scope 0 [] []) G1 (fun q => .ok (true, q))) (te := tE (A.blk (own.map (fun x : Str × Nat => x.2)) A.X.s_0 A.X.H_0 scope 0 [] []) G1 (rV ce) fe)
    (fun s H C cl fp => hg s H C cl fp) (fun s H C cl fp => pts_weak pts_nil fun o H Q ⟨p, L, w, cr, k⟩ => k L H Stp.refl w cr) (fun s H C cl fp => he s H C cl fp) hs) fun o H Q q => lc_reads (A := A) (A.blk (own.map (fun x : Str × Nat => x.2)) A.X.s_0 A.X.H_0 scope 0 [] []) rfl blk_S wc wc1 ?_
  have e : ∀ (y : List α) (b : CT G0), lcL y (fun x q => Res.bind ((fun q => Res.ok (true, q)) (put q x)) fun t => if t.1 = true then Res.bind (fe t.2) fun z => .ok (some z.1, dn1 z.2) else .ok (none, dn1 t.2)) b = mapR y (fun x q => Res.bind (fe (put q x)) fun z => .ok (z.1, dn1 z.2)) b := fun y b => by
    rw [← lcL_some]
    simp only [Res.bind_ok, Res.bind_assoc, if_true]
  simp only [e]
  exact q
end
end AC
set_option Elab.async false
set_option linter.all false
set_option maxRecDepth 100000
/-! TL7: defs: what they promise, how they are called. -/
namespace AC
open PySem L2 PyProof

/-! ### promises -/
def EndF {α : Type} (K : Frag) (ca : Str → Addr) (L : Lab) (H : Hp) (E : XK) (m : Res α) (P : α → Prop) : Prop := match m with
  | .ok y => P y
  | .exc e => ∀ cls d H', RzK K ca L H e cls d H' → E cls (some d) H'
  | .bad => False
/-- values in, a value out -/
def spP (K : Frag) (ca : Str → Addr) {α β : Type} (as : ArgC α) (r : Rt β) (F : α → Res β) : Sp := fun vs H Q E =>
  ∃ (x : α) (L : Lab), Wf L H ∧ as.see K (rd L H) vs x ∧ EndF K ca L H E (F x) fun y => ∀ (v : V) (L' : Lab) (H' : Hp), Stp L H L' H' → Wf L' H' → r.rel K L H L' H' v y → Q v H'
/-- the first argument is one's own, and is changed -/
def spI (K : Frag) (ca : Str → Addr) {κ α β : Type} (oc : OCod κ) (as : ArgC α) (r : Rt β) (F : κ → α → Res (β × κ)) : Sp := fun vs H Q E =>
  ∃ (v0 : V) (ws : List V) (k : κ) (x : α) (L : Lab), vs = v0 :: ws ∧ Wf L H ∧ oc.own K (rd L H) (sub L 1) H [] v0 k ∧ as.see K (rd L H) ws x ∧
    EndF K ca L H E (F k x) fun y => ∀ (v : V) (L' : Lab) (H' : Hp), Stp L H L' H' → Wf L' H' → r.rel K L H L' H' v y.1 → oc.own K (rd L' H') (sub L' 1) H' [] v0 y.2 → Q v H'

/-- nothing is one's own -/
def strip (L : Lab) : Lab := fun a => match L a with
  | some (0, l) => some (0, l)
  | _ => none
theorem strip_0 {L : Lab} {a : Addr} {l : List Nat} (h : L a = some (0, l)) : strip L a = some (0, l) := by unfold strip; rw [h]; rfl
theorem strip_s {L : Lab} {a : Addr} {k : Nat} {l : List Nat} (h : L a = some (k + 1, l)) : strip L a = none := by unfold strip; rw [h]; rfl
theorem strip_n {L : Lab} {a : Addr} (h : L a = none) : strip L a = none := by unfold strip; rw [h]
theorem strip_of {L : Lab} {a : Addr} {k : Nat} {l : List Nat} (h : strip L a = some (k, l)) : k = 0 ∧ L a = some (0, l) := by
  cases e : L a with
  | none => rw [strip_n e] at h; cases h
  | some x =>
    obtain ⟨j, m⟩ := x
    cases j with
    | zero => rw [strip_0 e] at h; cases h; exact ⟨rfl, rfl⟩
    | succ j => rw [strip_s e] at h; cases h
theorem rd_strip {L : Lab} {H : Hp} : rd (strip L) H = rd L H := by
  funext a
  unfold rd
  cases e : L a with
  | none => rw [strip_n e]
  | some x =>
    obtain ⟨j, m⟩ := x
    cases j with
    | zero => rw [strip_0 e]
    | succ j => rw [strip_s e]; rfl
theorem wf_strip {L : Lab} {H : Hp} (w : Wf L H) : Wf (strip L) H := ⟨fun a ha => by
  cases e : strip L a with
  | none => exact absurd e ha
  | some x =>
    obtain ⟨j, m⟩ := x
    exact w.dom a (by rw [(strip_of e).2]; simp), fun a k l e => absurd (strip_of e).1 (by omega)⟩
theorem frm_strip {L : Lab} {H : Hp} {a : Addr} (h : H a ≠ none) : Frm (strip L) H a := ⟨h, by
  cases e : strip L a with
  | none => exact .inl rfl
  | some x =>
    obtain ⟨j, m⟩ := x
    obtain ⟨rfl, _⟩ := strip_of e
    exact .inr ⟨m, rfl⟩⟩
theorem frm_to_strip {L : Lab} {H : Hp} {a : Addr} (h : Frm L H a) : Frm (strip L) H a := frm_strip h.1
theorem rz_strip {K : Frag} {ca : Str → Addr} {L : Lab} {H : Hp} {e : Exn} {cls : Value} {d : Addr} {H' : Hp} (h : RzK K ca (strip L) H e cls d H') : RzK K ca L H e cls d H' := by
  obtain ⟨h1, h2, h3, v, h4, R, h5, h6, h7, h8⟩ := h
  rw [rd_strip] at h6 h7
  exact ⟨h1, fun a f => h2 a (frm_to_strip f), fun f => h3 (frm_to_strip f), v, h4, R, h5, h6, fun a o q => (h7 a o q).imp id fun z f => z (frm_to_strip f), h8⟩
/-- behind a call: what was one's own is so again -/
def unstrip (L L' : Lab) : Lab := fun a => match L a with
  | some (k + 1, l) => some (k + 1, l)
  | _ => strip L' a
theorem un_s {L L' : Lab} {a : Addr} {k : Nat} {l : List Nat} (h : L a = some (k + 1, l)) : unstrip L L' a = some (k + 1, l) := by unfold unstrip; rw [h]
theorem un_0 {L L' : Lab} {a : Addr} {l : List Nat} (h : L a = some (0, l)) : unstrip L L' a = strip L' a := by unfold unstrip; rw [h]
theorem un_n {L L' : Lab} {a : Addr} (h : L a = none) : unstrip L L' a = strip L' a := by unfold unstrip; rw [h]
section
variable {L L' : Lab} {H H' : Hp}
theorem un_ext (w : Wf L H) (s : Stp (strip L) H L' H') : Ext L H (unstrip L L') H' := fun a ha => by
  obtain ⟨e1, e2⟩ := s a (frm_strip ha)
  refine ⟨?_, e2⟩
  cases e : L a with
  | none => rw [un_n e, strip_n (e1.trans (strip_n e))]
  | some x =>
    obtain ⟨j, m⟩ := x
    cases j with
    | zero => rw [un_0 e, strip_0 (e1.trans (strip_0 e))]
    | succ j => rw [un_s e]
theorem un_rd (w : Wf L H) (s : Stp (strip L) H L' H') : rd (unstrip L L') H' = rd L' H' := by
  funext a
  by_cases ha : H a = none
  · unfold rd
    rw [un_n (w.none ha)]
    cases e : L' a with
    | none => rw [strip_n e]
    | some x =>
      obtain ⟨j, m⟩ := x
      cases j with
      | zero => rw [strip_0 e]
      | succ j => rw [strip_s e]; rfl
  · obtain ⟨e1, e2⟩ := s a (frm_strip ha)
    unfold rd
    rw [e1, (un_ext w s a ha).1]
    cases e : L a with
    | none => rw [strip_n e]
    | some x =>
      obtain ⟨j, m⟩ := x
      cases j with
      | zero => rw [strip_0 e]
      | succ j => rw [strip_s e]; rfl
theorem un_wf (w : Wf L H) (w' : Wf L' H') (s : Stp (strip L) H L' H') : Wf (unstrip L L') H' := by
  have key : ∀ a k l, unstrip L L' a = some (k, l) → (∃ k', k = k' + 1 ∧ L a = some (k, l)) ∨ (k = 0 ∧ L' a = some (0, l)) := fun a k l e => by
    cases e' : L a with
    | none => rw [un_n e'] at e; exact .inr ⟨(strip_of e).1, (strip_of e).2⟩
    | some x =>
      obtain ⟨j, m⟩ := x
      cases j with
      | zero => rw [un_0 e'] at e; exact .inr ⟨(strip_of e).1, (strip_of e).2⟩
      | succ j => rw [un_s e'] at e; cases e; exact .inl ⟨j, rfl, rfl⟩
  refine ⟨fun a ha => ?_, fun a k l e => ?_⟩
  · cases e : unstrip L L' a with
    | none => exact absurd e ha
    | some x =>
      obtain ⟨k, l⟩ := x
      rcases key a k l e with ⟨_, _, z⟩ | ⟨_, z⟩
      · have h := w.dom a (by rw [z]; simp)
        rw [(s a (frm_strip h)).2]
        exact h
      · exact w'.dom a (by rw [z]; simp)
  · rcases key a _ l e with ⟨_, _, z⟩ | ⟨h, _⟩
    · have h := w.dom a (by rw [z]; simp)
      rw [(s a (frm_strip h)).2]
      exact w.soft a k l z
    · omega
end
/-- a result, seen from the caller -/
theorem un_rel {β : Type} {c : Cod β} {K : Frag} {L L' : Lab} {H H' : Hp} {v : V} {y : β} (w : Wf L H) (s : Stp (strip L) H L' H') (h : (rV c).rel K (strip L) H L' H' v y) : (rV c).rel K L H (unstrip L L') H' v y := by
  show c.see K (rd (unstrip L L') H') v y
  rw [un_rd w s]
  exact h
theorem un_relO {β : Type} {c : OCod β} {K : Frag} {L L' : Lab} {H H' : Hp} {v : V} {y : β} (w : Wf L H) (s : Stp (strip L) H L' H') (h : (rO c).rel K (strip L) H L' H' v y) : (rO c).rel K L H (unstrip L L') H' v y := by
  obtain ⟨M, hM, ho⟩ := h
  refine ⟨M, fun a m e => ?_, by rw [un_rd w s]; exact ho⟩
  obtain ⟨h1, h2, h3⟩ := hM a m e
  have hn : H a = none := by
    cases q : H a with
    | none => rfl
    | some o => exact absurd (frm_strip (by rw [q]; simp)) h3
  exact ⟨by rw [un_n (w.none hn), strip_n h1], h2, fun f => f.1 hn⟩
/-- results that may be handed over -/
structure RtOk {β : Type} (r : Rt β) : Prop where
  un : ∀ {K : Frag} {L L' : Lab} {H H' : Hp} {v : V} {y : β}, Wf L H → Stp (strip L) H L' H' → r.rel K (strip L) H L' H' v y → r.rel K L H (unstrip L L') H' v y
theorem rtv {β : Type} {c : Cod β} : RtOk (rV c) := ⟨un_rel⟩
theorem rto {β : Type} {c : OCod β} : RtOk (rO c) := ⟨un_relO⟩

/-! ### calls -/
/-- f may be called here -/
def CallAt (A : Amb) (f : Addr) (sp : Sp) : Prop := ∀ (pins : List (Addr × Obj)) (o : St) (H : Hp) (s : Shared) (Q : VK) (us : List Value) (vs : List V), Inv A.X pins o H s → Vals vs us → sp vs H Q (WE A.W o) →
  wpAny (model A.X.prog A.X.w) A.X.A (call (.ref f) us) (EP A.X pins o Q) A.X.xe s
/-- a def's promise where no repr is under way -/
structure FnG (P : Program) (w : World) (K : Frag) (mg : Str → Option Value) (base : Heap) (k : Nat) (f : Addr) (fd : FuncData) (ps : List Str) (sp : Sp) : Prop where
  len : ∀ vs H Q E, sp vs H Q E → vs.length = ps.length
  go : ∀ (B : Around) (up : List Env) (s : Shared) (H : Hp) (args : Args) (us : List Value) (vs : List V) (Q : VK) (E : XK), B.guards = some [] → Room k B → Env0 P w K mg base B up s H → BindsTo s fd args (ps.zip us) → Vals vs us → sp vs H Q E →
    codeAny (model P w) B (.call (.ref f) args) (L2.CR (L2.CX P w) up P w H s Q E) s
theorem FnG.mono {P : Program} {w : World} {K : Frag} {mg : Str → Option Value} {base : Heap} {j k : Nat} {f : Addr} {fd : FuncData} {ps : List Str} {sp : Sp} (F : FnG P w K mg base j f fd ps sp) (h : j ≤ k) : FnG P w K mg base k f fd ps sp :=
  ⟨F.len, fun B up s H args us vs Q E hg hr => F.go B up s H args us vs Q E hg (hr.mono h)⟩
theorem callAtK {A : Amb} {k : Nat} {f : Addr} {fd : FuncData} {ps : List Str} {sp : Sp} (F : FnG A.X.prog A.X.w A.X.K A.X.mg A.X.base k f fd ps sp) (hk : k ≤ A.lv) {pins : List (Addr × Obj)} {o : St} {H : Hp} {s : Shared} {Q : VK} {us ws : List Value} {vs : List V} {kw : List (Str × Value)}
    (I : Inv A.X pins o H s) (hb : BindsTo s fd ⟨us, kw⟩ (ps.zip ws)) (r : Vals vs ws) (h : sp vs H Q (WE A.W o)) : wpAny (model A.X.prog A.X.w) A.X.A (call (.ref f) us kw) (EP A.X pins o Q) A.X.xe s := by
  refine wpAny_call (codeAny_mono (F.go A.X.A A.X.stack s H ⟨us, kw⟩ ws vs Q _ A.gd (A.room.mono hk) I.env0 hb r h) fun y s' hq => ?_)
  rcases y with e | fl
  · exact passAt A.tk o pins H s e s' I hq
  · rcases fl with _ | _ | _ | u
    · exact False.elim hq
    · exact False.elim hq
    · exact False.elim hq
    · exact I.after hq
theorem callAt {A : Amb} {k : Nat} {f : Addr} {fd : FuncData} {ps : List Str} {sp : Sp} (F : FnG A.X.prog A.X.w A.X.K A.X.mg A.X.base k f fd ps sp) (hb : Binds A.X.K fd ps []) (hk : k ≤ A.lv) : CallAt A f sp :=
  fun pins o H s Q us vs I r h => by
    have hl : us.length = ps.length := r.length.symm.trans (F.len _ _ _ _ h)
    have b := hb s us I.kIn ((congrArg List.length (List.append_nil us)).trans hl)
    rw [List.append_nil] at b
    exact callAtK F hk I b r h
theorem callAtD {A : Amb} {k : Nat} {f : Addr} {fd : FuncData} {ps : List Str} {sp : Sp} {dvs : List V} {ds : List Value} (F : FnG A.X.prog A.X.w A.X.K A.X.mg A.X.base k f fd ps sp) (hb : Binds A.X.K fd ps ds) (hd : Vals dvs ds) (hk : k ≤ A.lv) : CallAt A f (fun vs H Q E => sp (vs ++ dvs) H Q E) :=
  fun pins o H s Q us vs I r h => by
    have r2 := r.append hd
    exact callAtK F hk I (hb s us I.kIn (r2.length.symm.trans (F.len _ _ _ _ h))) r2 h
/-- a global name that stands for a def -/
structure GlobF (A : Amb) (x : Str) (f : Addr) : Prop where
  gl : Gl A.X x
  mg : A.X.mg x = some (.ref f)
  kp : PySem.W.keepIn A.X.K (.ref f) = true
section
variable {A : Amb} {G : Ctx}
theorem call_reads {α β : Type} {as : ArgC α} {r : Rt β} {F : α → Res β} {fa : CT G → Res (α × CT G)} {o : St} {H : Hp} {Q : VK} (hr : RtOk r)
    (q : tE A G r (fun p => Res.bind (fa p) fun y => Res.bind (F y.1) fun z => .ok (z, y.2)) o H Q) : tA A G as fa o H fun vs H1 => spP A.X.K A.ca as r F vs H1 Q (WE A.W o) := by
  obtain ⟨p, L, w, cr, k⟩ := q
  refine ⟨p, L, w, cr, k.bind.imp fun y _ gy vs L1 H1 s1 w1 c1 h1 => ⟨y.1, strip L1, wf_strip w1, by rw [rd_strip]; exact h1, ?_⟩⟩
  have gy := gy.step s1
  cases e : F y.1 with
  | bad => rw [e] at gy; exact gy.elim
  | exc ex =>
    rw [e] at gy
    exact fun cls d H' hz => (show A.raises ex L1 H1 o from gy) cls d H' (rz_strip hz) o fun _ _ => rfl
  | ok z =>
    rw [e] at gy
    exact fun v L2 H2 s2 w2 rl => (show ∀ v L' H', _ from gy) v (unstrip L1 L2) H2 (s1.trans (un_ext w1 s2).stp) (un_wf w1 w2 s2) (c1.ext w1 (un_ext w1 s2)) (r.pre _ _ _ _ _ _ _ _ _ s1 (hr.un w1 s2 rl))
theorem ex_call {α β : Type} {as : ArgC α} {r : Rt β} {F : α → Res β} {f : Addr} {x : Str} {p pos : Pos} {e : Expr} {es : List Expr} {fa : CT G → Res (α × CT G)} (hg : GlobF A x f) (hc : CallAt A f (spP A.X.K A.ca as r F)) (hr : RtOk r) (ha : AX A G (e :: es) as fa)
    (hdb : (x == ("__debug__" : Str)) = false := by decide) (he : starEach (e :: es) A.X.env = (false, eval e A.X.env) :: starEach es A.X.env := by rfl) (hpl : (backTo pos (starEach es A.X.env)).any (·.1) = false := by rfl) :
    EX A G (.Call (.Name x p) (e :: es) [] pos) r (fun p => Res.bind (fa p) fun y => Res.bind (F y.1) fun z => .ok (z, y.2)) := by
  refine ⟨fun pins s o H Q I q => wpAny_Call_Name_kw (ld_glob I hg.gl hg.mg (PySem.W.callWith_K (h₀ := A.X.base) I.ok.mod.kin hg.kp ?_ he hpl) hdb)⟩
  exact thn (ha.run pos pins s o H _ I (call_reads hr q)) fun us s1 hu => by
    obtain ⟨vs, H1, I1, hv, hsp⟩ := hu
    exact ⟨I1.kIn, hc pins o H1 s1 Q us vs I1 hv hsp⟩
theorem ex_call0 {β : Type} {r : Rt β} {F : Unit → Res β} {f : Addr} {x : Str} {p pos : Pos} (hg : GlobF A x f) (hc : CallAt A f (spP A.X.K A.ca aNil r F)) (hr : RtOk r) (hdb : (x == ("__debug__" : Str)) = false := by decide) :
    EX A G (.Call (.Name x p) [] [] pos) r (fun p => Res.bind (F ()) fun z => .ok (z, p)) := by
  refine ⟨fun pins s o H Q I q => wpAny_Call_Name_kw (ld_glob I hg.gl hg.mg (PySem.W.callWith_K0 I.kIn hg.kp ?_) hdb)⟩
  refine hc pins o H s Q [] [] I .nil ?_
  have := call_reads (as := aNil) (fa := fun p => .ok ((), p)) hr q
  obtain ⟨p, L, w, cr, k⟩ := this
  exact k [] L H Stp.refl w cr rfl

/-! ### the first argument is one's own -/
/-- the i-th slot's own things become the first argument's -/
def lend1 (i : Nat) (L : Lab) : Lab := fun a => match L a with
  | none => none
  | some (k, l) => if k = 0 then some (0, l) else if k = i + 1 then some (1, l) else none
def tr1 (i : Nat) : Option (Nat × List Nat) → Option (Nat × List Nat)
  | none => none
  | some (k, l) => if k = 0 then some (0, l) else if k = 1 then some (i + 1, l) else none
def back1 (i : Nat) (L L' : Lab) : Lab := fun a => match L a with
  | none => tr1 i (L' a)
  | some (k, l) => if k = 0 ∨ k = i + 1 then tr1 i (L' a) else some (k, l)
section
variable {i : Nat} {L L' : Lab} {H H' : Hp}
theorem lend1_n {a : Addr} (h : L a = none) : lend1 i L a = none := by unfold lend1; rw [h]
theorem lend1_0 {a : Addr} {l : List Nat} (h : L a = some (0, l)) : lend1 i L a = some (0, l) := by unfold lend1; rw [h]; exact if_pos rfl
theorem lend1_i {a : Addr} {l : List Nat} (h : L a = some (i + 1, l)) : lend1 i L a = some (1, l) := by
  unfold lend1
  rw [h]
  show (if i + 1 = 0 then _ else if i + 1 = i + 1 then some (1, l) else none) = _
  rw [if_neg (by omega), if_pos rfl]
theorem lend1_o {a : Addr} {k : Nat} {l : List Nat} (h : L a = some (k, l)) (h0 : k ≠ 0) (hi : k ≠ i + 1) : lend1 i L a = none := by
  unfold lend1
  rw [h]
  show (if k = 0 then _ else if k = i + 1 then some (1, l) else none) = _
  rw [if_neg h0, if_neg hi]
/-- the four cases -/
theorem lend1_cases (a : Addr) : (L a = none ∧ lend1 i L a = none) ∨ (∃ l, L a = some (0, l) ∧ lend1 i L a = some (0, l)) ∨ (∃ l, L a = some (i + 1, l) ∧ lend1 i L a = some (1, l)) ∨ (∃ k l, k ≠ 0 ∧ k ≠ i + 1 ∧ L a = some (k, l) ∧ lend1 i L a = none) := by
  cases e : L a with
  | none => exact .inl ⟨rfl, lend1_n e⟩
  | some x =>
    obtain ⟨k, l⟩ := x
    by_cases h0 : k = 0
    · subst h0; exact .inr (.inl ⟨l, rfl, lend1_0 e⟩)
    · by_cases hi : k = i + 1
      · subst hi; exact .inr (.inr (.inl ⟨l, rfl, lend1_i e⟩))
      · exact .inr (.inr (.inr ⟨k, l, h0, hi, rfl, lend1_o e h0 hi⟩))
theorem rd_lend1 : rd (lend1 i L) H = rd L H := by
  funext a
  unfold rd
  rcases lend1_cases (i := i) (L := L) a with ⟨e1, e2⟩ | ⟨l, e1, e2⟩ | ⟨l, e1, e2⟩ | ⟨k, l, h0, hi, e1, e2⟩
  · rw [e1, e2]
  · rw [e1, e2]
  · rw [e1, e2]; rfl
  · rw [e1, e2]
    cases k with
    | zero => exact absurd rfl h0
    | succ k => rfl
theorem wf_lend1 (w : Wf L H) : Wf (lend1 i L) H := by
  refine ⟨fun a ha => ?_, fun a k l e => ?_⟩
  · rcases lend1_cases (i := i) (L := L) a with ⟨e1, e2⟩ | ⟨l, e1, e2⟩ | ⟨l, e1, e2⟩ | ⟨k, l, h0, hi, e1, e2⟩
    · exact absurd e2 ha
    · exact w.dom a (by rw [e1]; simp)
    · exact w.dom a (by rw [e1]; simp)
    · exact absurd e2 ha
  · rcases lend1_cases (i := i) (L := L) a with ⟨e1, e2⟩ | ⟨l', e1, e2⟩ | ⟨l', e1, e2⟩ | ⟨k', l', h0, hi, e1, e2⟩
    · rw [e2] at e; cases e
    · rw [e2] at e; cases e
    · rw [e2] at e; cases e; exact w.soft a i l e1
    · rw [e2] at e; cases e
theorem sub_lend1 : sub (lend1 i L) 1 = sub L (i + 1) := by
  funext a
  unfold sub
  rcases lend1_cases (i := i) (L := L) a with ⟨e1, e2⟩ | ⟨l, e1, e2⟩ | ⟨l, e1, e2⟩ | ⟨k, l, h0, hi, e1, e2⟩
  · rw [e1, e2]
  · rw [e1, e2]; simp
  · rw [e1, e2]; simp
  · rw [e1, e2]; simp [hi]
theorem frm_lend1 {a : Addr} (f : Frm L H a) : Frm (lend1 i L) H a ∧ lend1 i L a = L a := by
  rcases lend1_cases (i := i) (L := L) a with ⟨e1, e2⟩ | ⟨l, e1, e2⟩ | ⟨l, e1, e2⟩ | ⟨k, l, h0, hi, e1, e2⟩
  · exact ⟨⟨f.1, .inl e2⟩, e2.trans e1.symm⟩
  · exact ⟨⟨f.1, .inr ⟨l, e2⟩⟩, e2.trans e1.symm⟩
  · rcases f.2 with z | ⟨l', z⟩
    · rw [e1] at z; cases z
    · rw [e1] at z; cases z
  · rcases f.2 with z | ⟨l', z⟩
    · rw [e1] at z; cases z
    · rw [e1] at z; cases z; exact absurd rfl h0
theorem frm_lend1o (w : Wf L H) {a : Addr} {k : Nat} {l : List Nat} (h : L a = some (k, l)) (h0 : k ≠ 0) (hi : k ≠ i + 1) : Frm (lend1 i L) H a := ⟨w.dom a (by rw [h]; simp), .inl (lend1_o h h0 hi)⟩
theorem back1_o {a : Addr} {k : Nat} {l : List Nat} (h : L a = some (k, l)) (h0 : k ≠ 0) (hi : k ≠ i + 1) : back1 i L L' a = some (k, l) := by
  unfold back1
  rw [h]
  show (if k = 0 ∨ k = i + 1 then _ else some (k, l)) = _
  rw [if_neg (by omega)]
theorem back1_t {a : Addr} (h : ∀ k l, L a = some (k, l) → k = 0 ∨ k = i + 1) : back1 i L L' a = tr1 i (L' a) := by
  unfold back1
  cases e : L a with
  | none => rfl
  | some x =>
    obtain ⟨k, l⟩ := x
    exact if_pos (h k l e)
theorem tr1_0 {l : List Nat} : tr1 i (some (0, l)) = some (0, l) := by simp [tr1]
theorem tr1_1 {l : List Nat} : tr1 i (some (1, l)) = some (i + 1, l) := by simp [tr1]
theorem tr1_some {y : Option (Nat × List Nat)} {k : Nat} {l : List Nat} (h : tr1 i y = some (k, l)) : (k = 0 ∧ y = some (0, l)) ∨ (k = i + 1 ∧ y = some (1, l)) := by
  cases y with
  | none => cases h
  | some x =>
    obtain ⟨j, m⟩ := x
    have h : (if j = 0 then some (0, m) else if j = 1 then some (i + 1, m) else none) = some (k, l) := h
    by_cases h0 : j = 0
    · rw [if_pos h0] at h; cases h; exact .inl ⟨rfl, by rw [h0]⟩
    · rw [if_neg h0] at h
      by_cases h1 : j = 1
      · rw [if_pos h1] at h; cases h; exact .inr ⟨rfl, by rw [h1]⟩
      · rw [if_neg h1] at h; cases h
/-- either another slot's own, as it was; or as the callee left it -/
theorem back1_cases (w : Wf L H) (s : Stp (lend1 i L) H L' H') (a : Addr) : (∃ k l, k ≠ 0 ∧ k ≠ i + 1 ∧ L a = some (k, l) ∧ back1 i L L' a = some (k, l) ∧ L' a = none ∧ H' a = H a) ∨ ((∀ k l, L a = some (k, l) → k = 0 ∨ k = i + 1) ∧ back1 i L L' a = tr1 i (L' a)) := by
  by_cases h : ∀ k l, L a = some (k, l) → k = 0 ∨ k = i + 1
  · exact .inr ⟨h, back1_t h⟩
  · have : ∃ k l, L a = some (k, l) ∧ ¬ (k = 0 ∨ k = i + 1) := by
      cases e : L a with
      | none => exact absurd (fun k l z => by rw [e] at z; cases z) h
      | some x =>
        obtain ⟨k, l⟩ := x
        refine ⟨k, l, rfl, fun q => h fun k' l' z => ?_⟩
        rw [e] at z; cases z; exact q
    obtain ⟨k, l, e, hk⟩ := this
    have f := frm_lend1o (i := i) w e (by omega) (by omega)
    exact .inl ⟨k, l, by omega, by omega, e, back1_o e (by omega) (by omega), (s a f).1.trans (lend1_o e (by omega) (by omega)), (s a f).2⟩
theorem rd_back1 (w : Wf L H) (s : Stp (lend1 i L) H L' H') : rd (back1 i L L') H' = rd L' H' := by
  funext a
  unfold rd
  rcases back1_cases w s a with ⟨k, l, h0, hi, e1, e2, e3, e4⟩ | ⟨h, e2⟩
  · rw [e2, e3]
    cases k with
    | zero => exact absurd rfl h0
    | succ k => rfl
  · rw [e2]
    cases e : L' a with
    | none => rfl
    | some x =>
      obtain ⟨j, m⟩ := x
      cases j with
      | zero => rw [tr1_0]
      | succ j =>
        cases q : tr1 i (some (j + 1, m)) with
        | none => rfl
        | some y =>
          obtain ⟨k, l⟩ := y
          rcases tr1_some q with ⟨rfl, z⟩ | ⟨rfl, z⟩
          · cases z
          · rfl
theorem wf_back1 (w : Wf L H) (w' : Wf L' H') (s : Stp (lend1 i L) H L' H') : Wf (back1 i L L') H' := by
  refine ⟨fun a ha => ?_, fun a k l e => ?_⟩
  · rcases back1_cases w s a with ⟨k, l, h0, hi, e1, e2, e3, e4⟩ | ⟨h, e2⟩
    · rw [e4]; exact w.dom a (by rw [e1]; simp)
    · refine w'.dom a fun z => ha ?_
      rw [e2, z]; rfl
  · rcases back1_cases w s a with ⟨k', l', h0, hi, e1, e2, e3, e4⟩ | ⟨h, e2⟩
    · rw [e2] at e; cases e; rw [e4]; exact w.soft a k l e1
    · rw [e2] at e
      rcases tr1_some e with ⟨z, _⟩ | ⟨_, z⟩
      · omega
      · exact w'.soft a 0 l z
theorem stp_back1 (w : Wf L H) (s : Stp (lend1 i L) H L' H') : Stp L H (back1 i L L') H' := fun a f => by
  obtain ⟨f1, e1⟩ := frm_lend1 (i := i) f
  obtain ⟨e2, e3⟩ := s a f1
  refine ⟨?_, e3⟩
  rw [back1_t fun k l e => ?_, e2, e1]
  · rcases f.2 with z | ⟨l, z⟩
    · rw [z]; rfl
    · rw [z, tr1_0]
  · rcases f.2 with z | ⟨l, z⟩
    · rw [z] at e; cases e
    · rw [z] at e; cases e; exact .inl rfl
theorem sub_back1 (w : Wf L H) (s : Stp (lend1 i L) H L' H') {a : Addr} {m : List Nat} (h : sub L' 1 a = some m) : sub (back1 i L L') (i + 1) a = some m := by
  have e := sub_of h
  rcases back1_cases w s a with ⟨k', l', h0, hi, e1, e2, e3, e4⟩ | ⟨_, e2⟩
  · rw [e3] at e; cases e
  · exact sub_mk (by rw [e2, e, tr1_1])
end
theorem rel_back1 {β : Type} {c : Cod β} {K : Frag} {i : Nat} {L L' : Lab} {H H' : Hp} {v : V} {y : β} (w : Wf L H) (s : Stp (lend1 i L) H L' H') (h : (rV c).rel K (lend1 i L) H L' H' v y) : (rV c).rel K L H (back1 i L L') H' v y := by
  show c.see K (rd (back1 i L L') H') v y
  rw [rd_back1 w s]
  exact h
theorem rel_back1O {β : Type} {c : OCod β} {K : Frag} {i : Nat} {L L' : Lab} {H H' : Hp} {v : V} {y : β} (w : Wf L H) (s : Stp (lend1 i L) H L' H') (h : (rO c).rel K (lend1 i L) H L' H' v y) : (rO c).rel K L H (back1 i L L') H' v y := by
  obtain ⟨M, hM, ho⟩ := h
  refine ⟨M, fun a m e => ?_, by rw [rd_back1 w s]; exact ho⟩
  obtain ⟨h1, h2, h3⟩ := hM a m e
  refine ⟨?_, h2, fun f => h3 (frm_lend1 f).1⟩
  rcases back1_cases w s a with ⟨k', l', h0, hi, e1, e2, e3, e4⟩ | ⟨_, e2⟩
  · exact absurd (frm_lend1o w e1 h0 hi) h3
  · rw [e2, h1]; rfl
structure RtOkI {β : Type} (r : Rt β) : Prop where
  un : ∀ {K : Frag} {i : Nat} {L L' : Lab} {H H' : Hp} {v : V} {y : β}, Wf L H → Stp (lend1 i L) H L' H' → r.rel K (lend1 i L) H L' H' v y → r.rel K L H (back1 i L L') H' v y
theorem rtvI {β : Type} {c : Cod β} : RtOkI (rV c) := ⟨rel_back1⟩
theorem rtoI {β : Type} {c : OCod β} : RtOkI (rO c) := ⟨rel_back1O⟩
theorem rz_lend1 {K : Frag} {ca : Str → Addr} {i : Nat} {L : Lab} {H : Hp} {e : Exn} {cls : Value} {d : Addr} {H' : Hp} (h : RzK K ca (lend1 i L) H e cls d H') : RzK K ca L H e cls d H' := by
  obtain ⟨h1, h2, h3, v, h4, R, h5, h6, h7, h8⟩ := h
  rw [rd_lend1] at h6 h7
  exact ⟨h1, fun a f => h2 a (frm_lend1 f).1, fun f => h3 (frm_lend1 f).1, v, h4, R, h5, h6, fun a o q => (h7 a o q).imp id fun z f => z (frm_lend1 f).1, h8⟩
structure Mod (G : Ctx) (i : Nat) (s : Slot) (put : CT G → s.T → CT G) : Prop where
  ok : ∀ (K : Frag) (k : Nat) (p : CT G) (x : s.T) (L : Lab) (H : Hp) (L' : Lab) (H' : Hp) (o : St), CR K k G p L H o → Same (rd L H) (rd L' H') → (∀ a j l, k ≤ j → j ≠ k + i → L a = some (j + 1, l) → L' a = L a ∧ H' a = H a) → s.rel K (k + i) x L' H' o[k + i]? → CR K k G (put p x) L' H' o
theorem md_z {G : Ctx} {s : Slot} : Mod (s :: G) 0 s (fun p x => (x, p.2)) := ⟨fun K k p x L H L' H' o c sm h r => ⟨r, c.2.keep sm fun a j l hj e => h a j l (by omega) (by omega) e⟩⟩
theorem md_s {G : Ctx} {i : Nat} {s t : Slot} {put : CT G → s.T → CT G} (h : Mod G i s put) : Mod (t :: G) (i + 1) s (fun p x => (p.1, put p.2 x)) := ⟨fun K k p x L H L' H' o c sm hk r => by
  rw [show k + (i + 1) = k + 1 + i by omega] at r hk
  exact ⟨t.keep K k p.1 L H L' H' _ sm (fun a l e => hk a k l (Nat.le_refl _) (by omega) e) c.1, h.ok K (k + 1) p.2 x L H L' H' o c.2 sm (fun a j l hj hn e => hk a j l (by omega) hn e) r⟩⟩
theorem callI_reads {α β κ : Type} {as : ArgC α} {oc : OCod κ} {P : V → Prop} {r : Rt β} {F : κ → α → Res (β × κ)} {i : Nat} {g : CT G → κ} {put : CT G → κ → CT G} {fa : CT G → Res (α × CT G)} {o : St} {H : Hp} {Q : VK} (a : At G i (sOwn P oc) g) (m : Mod G i (sOwn P oc) put) (hr : RtOkI r)
    (q : tE A G r (fun p => Res.bind (fa p) fun y => Res.bind (F (g y.2) y.1) fun z => .ok (z.1, put y.2 z.2)) o H Q) : tCons (tVar i) (tA A G as fa) o H fun vs H1 => spI A.X.K A.ca oc as r F vs H1 Q (WE A.W o) := by
  obtain ⟨p, L, w, cr, k⟩ := q
  obtain ⟨v0, _, ev, _⟩ := a.ok _ _ _ _ _ _ cr
  rw [Nat.zero_add] at ev
  refine ⟨v0, ev, p, L, w, cr, k.bind.imp fun y _ gy vs L1 H1 s1 w1 c1 h1 => ?_⟩
  obtain ⟨v1, hP, ev1, ho⟩ := a.ok _ _ _ _ _ _ c1
  rw [Nat.zero_add] at ev1 ho
  rw [ev] at ev1
  cases ev1
  refine ⟨v0, vs, g y.2, y.1, lend1 i L1, rfl, wf_lend1 w1, by rw [rd_lend1, sub_lend1]; exact ho, by rw [rd_lend1]; exact h1, ?_⟩
  have gy := gy.step s1
  cases e : F (g y.2) y.1 with
  | bad => rw [e] at gy; exact gy.elim
  | exc ex =>
    rw [e] at gy
    exact fun cls d H' hz => (show A.raises ex L1 H1 o from gy) cls d H' (rz_lend1 hz) o fun _ _ => rfl
  | ok z =>
    rw [e] at gy
    intro v L2 H2 s2 w2 rl oc2
    have sb := stp_back1 w1 s2
    refine (show ∀ v L' H', _ from gy) v (back1 i L1 L2) H2 (s1.trans sb) (wf_back1 w1 w2 s2) (m.ok _ _ _ _ _ _ _ _ _ c1 sb.rd (fun x j l hj hn ex => ?_) ⟨v0, hP, by rw [Nat.zero_add]; exact ev, ?_⟩) (r.pre _ _ _ _ _ _ _ _ _ s1 (hr.un w1 s2 rl))
    · rcases back1_cases w1 s2 x with ⟨k', l', h0, hi, e1, e2, e3, e4⟩ | ⟨h, _⟩
      · rw [ex] at e1; cases e1; exact ⟨e2.trans ex.symm, e4⟩
      · have := h _ _ ex
        omega
    · rw [Nat.zero_add]
      exact oc.mono _ _ _ _ _ _ _ _ _ _ (by rw [rd_back1 w1 s2]; exact fun _ _ z => z) (fun x m' hm => ⟨sub_back1 w1 s2 hm, rfl⟩) oc2
theorem ex_callI {α β κ : Type} {as : ArgC α} {oc : OCod κ} {P : V → Prop} {r : Rt β} {F : κ → α → Res (β × κ)} {i : Nat} {g : CT G → κ} {put : CT G → κ → CT G} {f : Addr} {x y : Str} {p p1 pos : Pos} {es : List Expr} {fa : CT G → Res (α × CT G)} (a : At G i (sOwn P oc) g) (m : Mod G i (sOwn P oc) put)
    (hg : GlobF A x f) (hc : CallAt A f (spI A.X.K A.ca oc as r F)) (hr : RtOkI r) (hN : A.X.N[i]? = some y) (hv : Vis A.X.env.scope y) (ha : AX A G es as fa)
    (hd : (y == ("__debug__" : Str)) = false := by decide) (hcd : (y == ("__classdict__" : Str)) = false := by decide) (hdb : (x == ("__debug__" : Str)) = false := by decide) (he : starEach (.Name y p1 :: es) A.X.env = (false, eval (.Name y p1) A.X.env) :: starEach es A.X.env := by rfl) (hpl : (backTo pos (starEach es A.X.env)).any (·.1) = false := by rfl) :
    EX A G (.Call (.Name x p) (.Name y p1 :: es) [] pos) r (fun p => Res.bind (fa p) fun y => Res.bind (F (g y.2) y.1) fun z => .ok (z.1, put y.2 z.2)) := by
  refine ⟨fun pins s o H Q I q => wpAny_Call_Name_kw (ld_glob I hg.gl hg.mg (PySem.W.callWith_K (h₀ := A.X.base) I.ok.mod.kin hg.kp ?_ he hpl) hdb)⟩
  exact thn ((pa_cons (pe_var hN hv hd hcd) ha he).run pos pins s o H _ I (callI_reads a m hr q)) fun us s1 hu => by
    obtain ⟨vs, H1, I1, hvs, hsp⟩ := hu
    exact ⟨I1.kIn, hc pins o H1 s1 Q us vs I1 hvs hsp⟩
end
end AC
set_option Elab.async false
set_option linter.all false
set_option maxRecDepth 100000
/-! TL8: a def keeps its promise, by its body. -/
namespace AC
open PySem L2 PyProof PyProof.Rows

section
variable {P : Program} {w : World} {K : Frag} {mg : Str → Option Value} {base : Heap}
/-- the surroundings of a def's body -/
def ambOf (P : Program) (w : World) (K : Frag) (mg : Str → Option Value) (base : Heap) (ca : Str → Addr) (N : List Str) (nd : N.Nodup) (lv : Nat) (qual : Str) (scope : Scope) (f : Addr) (cd : Value) (A : Around) (outer : List Env) (s : Shared) (H : Hp) (E : XK)
    (hr : Room lv (A.deeper (envOfC qual scope s.heap.objs.size f cd))) (hgd : A.guards = some []) : Amb where
  X := cxOf (L2.CX P w) P w K mg base N qual scope f cd A outer s H E
  W := fun cls d _ H => E cls d H
  tk := takes_of rfl rfl rfl rfl
  calm := rfl
  hp := passes_of rfl
  nd := nd
  ca := ca
  S := fun _ => True
  lv := lv
  room := hr
  gd := hgd
def endV {β ρ : Type} : Out β ρ → Res ρ
  | .rt r => .ok r
  | .nx _ => .bad
def endU {β : Type} : Out β Unit → Res Unit
  | .rt r => .ok r
  | .nx _ => .ok ()
variable {x qual : Str} {params : Arguments} {body : List Stmt} {scope : Scope} {dvs : List V} {kws : List (Str × V)} {f : Addr} {fd : FuncData} {N ps : List Str} {k : Nat} {ca : Str → Addr}
/-- a def keeps its promise, by its body, where no repr is under way -/
theorem fn_G {sp : Sp} (F0 : FunD K x qual params body scope dvs kws f fd) (S : FnScope N ps scope) (hlen : ∀ vs H Q E, sp vs H Q E → vs.length = ps.length)
    (hbody : ∀ (cd : Value) (B : Around) (up : List Env) (s : Shared) (H : Hp) (vs : List V) (Q : VK) (E : XK), B.guards = some [] → Room k (B.deeper (envOfC qual scope s.heap.objs.size f cd)) → sp vs H Q E →
      ∃ t, PSs (cxOf (L2.CX P w) P w K mg base N qual scope f cd B up s H E) body t ∧ t ⟨fun _ H' => Q .non H', Q, fun _ _ => False, fun _ _ => False⟩ (start N vs) H) : FnG P w K mg base (k + 1) f fd ps sp := by
  obtain ⟨oc, od, dV, kV, doc, pm, an, cd, ct, osl, e0, lk, hcd, _, _⟩ := F0.ex
  subst e0
  refine ⟨hlen, fun B up s H args us vs Q E hgd hr e0 hb rv hsp => ?_⟩
  have kin : K.In s.heap := e0.mod.kin.keeps fun b o e => (e0.bs b o e).1
  have nol : s.heap.NoLimit := e0.mod.nolimit.keeps fun b o e => (e0.bs b o e).1
  have kinds : ∀ z ∈ ps.zip us, scope.names.lookup z.1 = some .local ∨ (scope.names.lookup z.1 = some .cell ∧ ((cellsFrom (s.heap.objs.size + 1) scope.names []).lookup z.1).isSome = true) := fun z hz =>
    (S.par z.1 (List.of_mem_zip (show (z.1, z.2) ∈ _ from hz)).1).imp id fun q => ⟨q, PySem.W.cellsFrom_some _ _ _ (Or.inl q)⟩
  refine codeAny_call_function hr.depth (kin _ _ lk) rfl S.co S.gen rfl (PySem.W.codeRec_of kin hcd) (hb _ _ _ _ ?_)
  refine wpAny_newFunctionEnv_cells S.kind kinds fun env he s1 x => ?_
  subst he
  refine ⟨nol.keeps x.toInCall.keep, codeAny_func ?_⟩
  obtain ⟨t, ht, hq⟩ := hbody cd B up s H vs Q E hgd (hr.deeper _) hsp
  refine wpAny_mono (ht.run [] s1 (start N vs) H _ (inv_start S hr.hd e0 (hlen _ _ _ _ hsp) rv x) hq) (fun fl s' hs => ?_) fun e s' hs => hs
  have done : ∀ (o' : L2.St) (H' : Hp) (v : V) (u : Value), Inv (cxOf (L2.CX P w) P w K mg base N qual scope f cd B up s H E) [] o' H' s' → RelV v u → Q v H' → CE up P w H s Q u s' := fun o' H' v u J r q => ⟨v, H', J.os, J.bare, J.base, J.hok, r, q⟩
  rcases fl with _ | _ | _ | u
  · obtain ⟨o', H', J, q⟩ := hs
    exact done o' H' .non .none J rfl q
  · obtain ⟨_, _, _, q⟩ := hs
    exact q.elim
  · obtain ⟨_, _, _, q⟩ := hs
    exact q.elim
  · obtain ⟨v, o', H', J, r, q⟩ := hs
    exact done o' H' v u J r q
theorem fn_P {α β : Type} {as : ArgC α} {r : Rt β} {G0 G' : Ctx} {ini : α → CT G0} {fb : CT G0 → Res (Out (CT G') β)} {F : α → Res β} (F0 : FunD K x qual params body scope dvs kws f fd) (S : FnScope N ps scope) (hn : as.n = ps.length)
    (h0 : ∀ L H vs y, Wf L H → as.see K (rd L H) vs y → CR K 0 G0 (ini y) L H (start N vs))
    (hB : ∀ nd cd A outer s H E hr hgd, BX (ambOf P w K mg base ca N nd k qual scope f cd A outer s H E hr hgd) G0 body G' (rrP r) fb) (hF : ∀ y, F y = Res.bind (fb (ini y)) endV) : FnG P w K mg base (k + 1) f fd ps (spP K ca as r F) := by
  refine fn_G F0 S (fun vs H Q E ⟨y, L, _, h, _⟩ => by rw [as.len _ _ _ _ h, hn]) fun cd A outer s H vs Q E hgd hr ⟨y, L, wf, h, q⟩ => ⟨_, hB S.nd cd A outer s H E hr hgd, ini y, L, wf, h0 L H vs y wf h, ?_⟩
  rw [hF y] at q
  cases e : fb (ini y) with
  | bad => rw [e] at q; exact q.elim
  | exc ex =>
    rw [e] at q
    exact fun cls d H' hz o' _ => (show ∀ cls d H', _ from q) cls d H' hz
  | ok z =>
    rw [e] at q
    cases z with
    | rt y' => exact fun v L' H' st w' rl => (show ∀ v L' H', _ from q) v L' H' st w' rl
    | nx p' => exact q.elim
theorem fn_U {α : Type} {as : ArgC α} {G0 G' : Ctx} {ini : α → CT G0} {fb : CT G0 → Res (Out (CT G') Unit)} {F : α → Res Unit} (F0 : FunD K x qual params body scope dvs kws f fd) (S : FnScope N ps scope) (hn : as.n = ps.length)
    (h0 : ∀ L H vs y, Wf L H → as.see K (rd L H) vs y → CR K 0 G0 (ini y) L H (start N vs))
    (hB : ∀ nd cd A outer s H E hr hgd, BX (ambOf P w K mg base ca N nd k qual scope f cd A outer s H E hr hgd) G0 body G' (rrP (rV cN)) fb) (hF : ∀ y, F y = Res.bind (fb (ini y)) endU) : FnG P w K mg base (k + 1) f fd ps (spP K ca as (rV cN) F) := by
  refine fn_G F0 S (fun vs H Q E ⟨y, L, _, h, _⟩ => by rw [as.len _ _ _ _ h, hn]) fun cd A outer s H vs Q E hgd hr ⟨y, L, wf, h, q⟩ => ⟨_, hB S.nd cd A outer s H E hr hgd, ini y, L, wf, h0 L H vs y wf h, ?_⟩
  rw [hF y] at q
  cases e : fb (ini y) with
  | bad => rw [e] at q; exact q.elim
  | exc ex =>
    rw [e] at q
    exact fun cls d H' hz o' _ => (show ∀ cls d H', _ from q) cls d H' hz
  | ok z =>
    rw [e] at q
    cases z with
    | rt y' => exact fun v L' H' st w' rl => (show ∀ v L' H', _ from q) v L' H' st w' rl
    | nx p' => exact fun o' L' H' st w' _ _ => (show ∀ v L' H', _ from q) .non L' H' st w' rfl
theorem fn_I {α β κ : Type} {oc : OCod κ} {as : ArgC α} {r : Rt β} {G1 : Ctx} {G' : V → Ctx} {ini : α → CT G1} {fb : (v0 : V) → κ × CT G1 → Res (Out (CT (G' v0)) (β × κ))} {F : κ → α → Res (β × κ)} (F0 : FunD K x qual params body scope dvs kws f fd) (S : FnScope N ps scope) (hn : as.n + 1 = ps.length)
    (h0 : ∀ L H v0 ws y, Wf L H → as.see K (rd L H) ws y → CR K 1 G1 (ini y) L H (start N (v0 :: ws)))
    (hB : ∀ v0 nd cd A outer s H E hr hgd, BX (ambOf P w K mg base ca N nd k qual scope f cd A outer s H E hr hgd) (sOwn (fun v => v = v0) oc :: G1) body (G' v0) (rrI r oc v0) (fb v0)) (hF : ∀ v0 k y, F k y = Res.bind (fb v0 (k, ini y)) endV) : FnG P w K mg base (k + 1) f fd ps (spI K ca oc as r F) := by
  refine fn_G F0 S (fun vs H Q E ⟨v0, ws, kk, y, L, e, _, _, h, _⟩ => by rw [e, List.length_cons, as.len _ _ _ _ h, hn]) fun cd A outer s H vs Q E hgd hr ⟨v0, ws, kk, y, L, e, wf, ho, h, q⟩ => ?_
  subst e
  refine ⟨_, hB v0 S.nd cd A outer s H E hr hgd, (kk, ini y), L, wf, ⟨⟨v0, rfl, rfl, ho⟩, h0 L H v0 ws y wf h⟩, ?_⟩
  rw [hF v0 kk y] at q
  cases e : fb v0 (kk, ini y) with
  | bad => rw [e] at q; exact q.elim
  | exc ex =>
    rw [e] at q
    exact fun cls d H' hz o' _ => (show ∀ cls d H', _ from q) cls d H' hz
  | ok z =>
    rw [e] at q
    cases z with
    | rt y' => exact fun v L' H' st w' rl => (show ∀ v L' H', _ from q) v L' H' st w' rl.1 rl.2
    | nx p' => exact q.elim
end
end AC
set_option Elab.async false
set_option linter.all false
set_option maxRecDepth 100000
/-! TL9: one's own things are read for a while (lent). -/
namespace AC
open PySem L2 PyProof

/-- known whatever lists and dicts are forgotten -/
def HardC {α : Type} (c : Cod α) : Prop := ∀ K R1 R2 v x, (∀ a o, R1 a = some o → ¬ SoftO o → R2 a = some o) → c.see K R1 v x → c.see K R2 v x
def HardA {α : Type} (c : ArgC α) : Prop := ∀ K R1 R2 v x, (∀ a o, R1 a = some o → ¬ SoftO o → R2 a = some o) → c.see K R1 v x → c.see K R2 v x
def HardO {α : Type} (c : OCod α) : Prop := ∀ K R1 R2 M H l v x, (∀ a o, R1 a = some o → ¬ SoftO o → R2 a = some o) → c.own K R1 M H l v x → c.own K R2 M H l v x
theorem hd_i : HardC cI := fun _ _ _ _ _ _ h => h
theorem hd_b : HardC cB := fun _ _ _ _ _ _ h => h
theorem hd_n : HardC cN := fun _ _ _ _ _ _ h => h
theorem hd_s : HardC cS := fun _ _ _ _ _ _ h => h
theorem hd_o {α : Type} {c : Cod α} (h : HardC c) : HardC (cO c) := fun K R1 R2 v x s q => by
  cases x with
  | none => exact q
  | some x => exact h K R1 R2 v x s q
theorem ha_nil : HardA aNil := fun _ _ _ _ _ _ h => h
theorem ha_one {α : Type} {c : Cod α} (h : HardC c) : HardA (aOne c) := fun K R1 R2 vs x s ⟨v, e, q⟩ => ⟨v, e, h K R1 R2 v x s q⟩
theorem ha_cons {α β : Type} {c : Cod α} {as : ArgC β} (h : HardC c) (h' : HardA as) : HardA (aCons c as) := fun K R1 R2 vs x s ⟨v, ws, e, q, q'⟩ => ⟨v, ws, e, h K R1 R2 v _ s q, h' K R1 R2 ws _ s q'⟩
theorem hd_t {α : Type} {as : ArgC α} (h : HardA as) : HardC (cT as) := fun K R1 R2 v x s ⟨a, vs, e, q, q'⟩ => ⟨a, vs, e, q.imp (fun z => s a _ z fun h => h) id, h K R1 R2 vs x s q'⟩
theorem hd_tv {α : Type} {c : Cod α} (h : HardC c) : HardC (cTV c) := fun K R1 R2 v x s ⟨a, vs, e, q, hl, q'⟩ => ⟨a, vs, e, q.imp (fun z => s a _ z fun h => h) id, hl, paired_mono (fun _ _ z => h K R1 R2 _ _ s z) q'⟩
theorem ho_l {α : Type} {c : Cod α} (h : HardC c) : HardO (oL c) := fun K R1 R2 M H l v x s ⟨p, vs, e, hm, hp, hl, q⟩ => ⟨p, vs, e, hm, hp, hl, paired_mono (fun _ _ z => h K R1 R2 _ _ s z) q⟩

/-- S: lent; T: hidden -/
def lendL (S T : List Nat) (L : Lab) : Lab := fun a => match L a with
  | none => none
  | some (k, l) => if k = 0 then some (0, l) else if k - 1 ∈ S then (if insL l = true then none else some (0, [])) else if k - 1 ∈ T then none else some (k, l)
def backL (S T : List Nat) (L L' : Lab) : Lab := fun a => match L a with
  | none => L' a
  | some (k, l) => if k ≠ 0 ∧ (k - 1 ∈ S ∨ k - 1 ∈ T) then some (k, l) else L' a
section
variable {S T : List Nat} {L L' : Lab} {H H' : Hp}
theorem lendL_cases (a : Addr) : (L a = none ∧ lendL S T L a = none) ∨ (∃ l, L a = some (0, l) ∧ lendL S T L a = some (0, l)) ∨ (∃ k l, L a = some (k + 1, l) ∧ k ∈ S ∧ insL l = true ∧ lendL S T L a = none) ∨ (∃ k l, L a = some (k + 1, l) ∧ k ∈ S ∧ insL l = false ∧ lendL S T L a = some (0, [])) ∨
    (∃ k l, L a = some (k + 1, l) ∧ k ∉ S ∧ k ∈ T ∧ lendL S T L a = none) ∨ (∃ k l, L a = some (k + 1, l) ∧ k ∉ S ∧ k ∉ T ∧ lendL S T L a = some (k + 1, l)) := by
  cases e : L a with
  | none => exact .inl ⟨rfl, by unfold lendL; rw [e]⟩
  | some x =>
    obtain ⟨k, l⟩ := x
    cases k with
    | zero => exact .inr (.inl ⟨l, rfl, by unfold lendL; rw [e]; exact if_pos rfl⟩)
    | succ k =>
      have red : lendL S T L a = if k ∈ S then (if insL l = true then none else some (0, [])) else if k ∈ T then none else some (k + 1, l) := by
        unfold lendL
        rw [e]
        show (if k + 1 = 0 then _ else if k + 1 - 1 ∈ S then _ else if k + 1 - 1 ∈ T then none else some (k + 1, l)) = _
        rw [if_neg (by omega)]
        rfl
      by_cases hS : k ∈ S
      · by_cases hl : insL l = true
        · exact .inr (.inr (.inl ⟨k, l, rfl, hS, hl, by rw [red, if_pos hS, if_pos hl]⟩))
        · exact .inr (.inr (.inr (.inl ⟨k, l, rfl, hS, by simpa using hl, by rw [red, if_pos hS, if_neg hl]⟩)))
      · by_cases hT : k ∈ T
        · exact .inr (.inr (.inr (.inr (.inl ⟨k, l, rfl, hS, hT, by rw [red, if_neg hS, if_pos hT]⟩))))
        · exact .inr (.inr (.inr (.inr (.inr ⟨k, l, rfl, hS, hT, by rw [red, if_neg hS, if_neg hT]⟩))))
theorem wf_lendL (w : Wf L H) : Wf (lendL S T L) H := by
  refine ⟨fun a ha => ?_, fun a k l e => ?_⟩
  · rcases lendL_cases (S := S) (T := T) (L := L) a with ⟨e1, e2⟩ | ⟨l, e1, e2⟩ | ⟨k, l, e1, _, _, e2⟩ | ⟨k, l, e1, _, _, e2⟩ | ⟨k, l, e1, _, _, e2⟩ | ⟨k, l, e1, _, _, e2⟩
    · exact absurd e2 ha
    all_goals exact w.dom a (by rw [e1]; simp)
  · rcases lendL_cases (S := S) (T := T) (L := L) a with ⟨e1, e2⟩ | ⟨l, e1, e2⟩ | ⟨k', l', e1, _, _, e2⟩ | ⟨k', l', e1, _, _, e2⟩ | ⟨k', l', e1, _, _, e2⟩ | ⟨k', l', e1, _, _, e2⟩
    · rw [e2] at e; cases e
    · rw [e2] at e; cases e
    · rw [e2] at e; cases e
    · rw [e2] at e; cases e
    · rw [e2] at e; cases e
    · rw [e2] at e; cases e; exact w.soft a k l e1
theorem rd_lendL : Same (rd L H) (rd (lendL S T L) H) := fun a o q => by
  obtain ⟨⟨l, e1⟩, e2⟩ := rd_of q
  rcases lendL_cases (S := S) (T := T) (L := L) a with ⟨e, _⟩ | ⟨l', e, e'⟩ | ⟨k, l', e, _⟩ | ⟨k, l', e, _⟩ | ⟨k, l', e, _⟩ | ⟨k, l', e, _⟩
  · rw [e] at e1; cases e1
  · exact rd_mk e' e2
  all_goals (rw [e] at e1; cases e1)
theorem frm_lendL {a : Addr} (f : Frm L H a) : Frm (lendL S T L) H a ∧ lendL S T L a = L a := by
  rcases lendL_cases (S := S) (T := T) (L := L) a with ⟨e, e'⟩ | ⟨l', e, e'⟩ | ⟨k, l', e, _⟩ | ⟨k, l', e, _⟩ | ⟨k, l', e, _⟩ | ⟨k, l', e, _⟩
  · exact ⟨⟨f.1, .inl e'⟩, e'.trans e.symm⟩
  · exact ⟨⟨f.1, .inr ⟨l', e'⟩⟩, e'.trans e.symm⟩
  all_goals
    rcases f.2 with z | ⟨l, z⟩
    · rw [e] at z; cases z
    · rw [e] at z; cases z
/-- of the lent and the hidden nothing is touched -/
theorem lent_stay (w : Wf L H) (s : Stp (lendL S T L) H L' H') {a : Addr} {k : Nat} {l : List Nat} (e : L a = some (k + 1, l)) (hk : k ∈ S ∨ k ∈ T) : backL S T L L' a = some (k + 1, l) ∧ H' a = H a := by
  refine ⟨?_, (s a ⟨w.dom a (by rw [e]; simp), ?_⟩).2⟩
  · unfold backL
    rw [e]
    show (if k + 1 ≠ 0 ∧ (k + 1 - 1 ∈ S ∨ k + 1 - 1 ∈ T) then some (k + 1, l) else _) = _
    rw [if_pos ⟨by omega, hk⟩]
  · rcases lendL_cases (S := S) (T := T) (L := L) a with ⟨e1, _⟩ | ⟨l', e1, e'⟩ | ⟨k', l', e1, _, _, e'⟩ | ⟨k', l', e1, _, _, e'⟩ | ⟨k', l', e1, _, _, e'⟩ | ⟨k', l', e1, h1, h2, e'⟩
    · rw [e] at e1; cases e1
    · rw [e] at e1; cases e1
    · exact .inl e'
    · exact .inr ⟨_, e'⟩
    · exact .inl e'
    · rw [e] at e1; cases e1
      rcases hk with z | z
      · exact absurd z h1
      · exact absurd z h2
theorem backL_other {a : Addr} (h : ∀ k l, L a = some (k + 1, l) → k ∉ S ∧ k ∉ T) : backL S T L L' a = L' a := by
  unfold backL
  cases e : L a with
  | none => rfl
  | some x =>
    obtain ⟨k, l⟩ := x
    cases k with
    | zero => exact if_neg fun z => z.1 rfl
    | succ k =>
      show (if k + 1 ≠ 0 ∧ (k + 1 - 1 ∈ S ∨ k + 1 - 1 ∈ T) then some (k + 1, l) else _) = _
      rw [if_neg fun z => z.2.elim (h k l e).1 (h k l e).2]
theorem backL_cases (w : Wf L H) (s : Stp (lendL S T L) H L' H') (a : Addr) : (∃ k l, L a = some (k + 1, l) ∧ (k ∈ S ∨ k ∈ T) ∧ backL S T L L' a = some (k + 1, l) ∧ H' a = H a) ∨ ((∀ k l, L a = some (k + 1, l) → k ∉ S ∧ k ∉ T) ∧ backL S T L L' a = L' a) := by
  by_cases h : ∀ k l, L a = some (k + 1, l) → k ∉ S ∧ k ∉ T
  · exact .inr ⟨h, backL_other h⟩
  · have : ∃ k l, L a = some (k + 1, l) ∧ (k ∈ S ∨ k ∈ T) := by
      cases e : L a with
      | none => exact absurd (fun k l z => by rw [e] at z; cases z) h
      | some x =>
        obtain ⟨k, l⟩ := x
        cases k with
        | zero => exact absurd (fun k l z => by rw [e] at z; cases z) h
        | succ k =>
          refine ⟨k, l, rfl, ?_⟩
          by_cases q : k ∈ S ∨ k ∈ T
          · exact q
          · refine absurd (fun k' l' z => ?_) h
            rw [e] at z; cases z
            exact ⟨fun z => q (.inl z), fun z => q (.inr z)⟩
    obtain ⟨k, l, e, hk⟩ := this
    obtain ⟨e1, e2⟩ := lent_stay w s e hk
    exact .inl ⟨k, l, e, hk, e1, e2⟩
theorem wf_backL (w : Wf L H) (w' : Wf L' H') (s : Stp (lendL S T L) H L' H') : Wf (backL S T L L') H' := by
  refine ⟨fun a ha => ?_, fun a k l e => ?_⟩
  · rcases backL_cases w s a with ⟨k, l, e1, _, e2, e3⟩ | ⟨_, e2⟩
    · rw [e3]; exact w.dom a (by rw [e1]; simp)
    · exact w'.dom a (by rw [← e2]; exact ha)
  · rcases backL_cases w s a with ⟨k', l', e1, _, e2, e3⟩ | ⟨_, e2⟩
    · rw [e2] at e; cases e; rw [e3]; exact w.soft a k l e1
    · rw [e2] at e; exact w'.soft a k l e
theorem stp_backL (w : Wf L H) (s : Stp (lendL S T L) H L' H') : Stp L H (backL S T L L') H' := fun a f => by
  obtain ⟨f1, e1⟩ := frm_lendL (S := S) (T := T) f
  obtain ⟨e2, e3⟩ := s a f1
  refine ⟨?_, e3⟩
  rw [backL_other fun k l e => ?_, e2, e1]
  rcases f.2 with z | ⟨l', z⟩
  · rw [z] at e; cases e
  · rw [z] at e; cases e
theorem rd_backL (w : Wf L H) (s : Stp (lendL S T L) H L' H') : ∀ a o, rd L' H' a = some o → ¬ SoftO o → rd (backL S T L L') H' a = some o := fun a o q ns => by
  obtain ⟨⟨l, e1⟩, e2⟩ := rd_of q
  rcases backL_cases w s a with ⟨k, l', e3, hk, e4, e5⟩ | ⟨_, e3⟩
  · -- it was lent
    rcases lendL_cases (S := S) (T := T) (L := L) a with ⟨z, _⟩ | ⟨_, z, _⟩ | ⟨k', l2, z, h1, h2, h3⟩ | ⟨k', l2, z, h1, h2, h3⟩ | ⟨k', l2, z, h1, h2, h3⟩ | ⟨k', l2, z, h1, h2, h3⟩
    · rw [e3] at z; cases z
    · rw [e3] at z; cases z
    · have f : Frm (lendL S T L) H a := ⟨w.dom a (by rw [e3]; simp), .inl h3⟩
      rw [(s a f).1, h3] at e1; cases e1
    · rw [e3] at z; cases z
      have := w.soft a k l' e3
      rw [← e5, e2] at this
      unfold NonTup at this
      rw [h2] at this
      exact absurd this ns
    · have f : Frm (lendL S T L) H a := ⟨w.dom a (by rw [e3]; simp), .inl h3⟩
      rw [(s a f).1, h3] at e1; cases e1
    · rw [e3] at z; cases z
      rcases hk with y | y
      · exact absurd y h1
      · exact absurd y h2
  · exact rd_mk (e3.trans e1) e2
end

structure LendC (S T : List Nat) (k : Nat) (G G1 : Ctx) (to : CT G → CT G1) (bk : CT G → CT G1 → CT G) : Prop where
  to_ok : ∀ (K : Frag) (p : CT G) (L : Lab) (H : Hp) (o : St), Wf L H → CR K k G p L H o → CR K k G1 (to p) (lendL S T L) H o
  bk_ok : ∀ (K : Frag) (p : CT G) (q : CT G1) (L : Lab) (H : Hp) (L' : Lab) (H' : Hp) (o : St), Wf L H → Stp (lendL S T L) H L' H' → CR K k G p L H o → CR K k G1 q L' H' o → CR K k G (bk p q) (backL S T L L') H' o
section
variable {S T : List Nat} {k : Nat} {G G1 : Ctx} {to : CT G → CT G1} {bk : CT G → CT G1 → CT G}
theorem ln_nil : LendC S T k [] [] (fun p => p) (fun p _ => p) := ⟨fun K p L H o w c => c, fun K p q L H L' H' o w s c c' => c⟩
theorem ln_any (h : LendC S T (k + 1) G G1 to bk) : LendC S T k (sAny :: G) (sAny :: G1) (fun p => ((), to p.2)) (fun p q => ((), bk p.2 q.2)) :=
  ⟨fun K p L H o w c => ⟨trivial, h.to_ok K p.2 L H o w c.2⟩, fun K p q L H L' H' o w s c c' => ⟨trivial, h.bk_ok K p.2 q.2 L H L' H' o w s c.2 c'.2⟩⟩
theorem ln_val {α : Type} {c : Cod α} (h : LendC S T (k + 1) G G1 to bk) : LendC S T k (sVal c :: G) (sVal c :: G1) (fun p => (p.1, to p.2)) (fun p q => (p.1, bk p.2 q.2)) :=
  ⟨fun K p L H o w cr => ⟨let ⟨v, e, hv⟩ := cr.1; ⟨v, e, c.mono _ _ _ _ _ rd_lendL hv⟩, h.to_ok K p.2 L H o w cr.2⟩, fun K p q L H L' H' o w s cr c' => ⟨let ⟨v, e, hv⟩ := cr.1; ⟨v, e, c.mono _ _ _ _ _ (stp_backL w s).rd hv⟩, h.bk_ok K p.2 q.2 L H L' H' o w s cr.2 c'.2⟩⟩
theorem ln_own {α : Type} {P : V → Prop} {oc : OCod α} {c : Cod α} (fz : Frz oc c) (hk : k ∈ S) (h : LendC S T (k + 1) G G1 to bk) : LendC S T k (sOwn P oc :: G) (sVal c :: G1) (fun p => (p.1, to p.2)) (fun p q => (p.1, bk p.2 q.2)) :=
  ⟨fun K p L H o w cr => ⟨let ⟨v, _, e, hv⟩ := cr.1; ⟨v, e, fz K _ _ _ H v p.1 rd_lendL (fun a m em hm => by
      have e1 := sub_of em
      rcases lendL_cases (S := S) (T := T) (L := L) a with ⟨z, _⟩ | ⟨_, z, _⟩ | ⟨k', l2, z, h1, h2, h3⟩ | ⟨k', l2, z, h1, h2, h3⟩ | ⟨k', l2, z, h1, h2, h3⟩ | ⟨k', l2, z, h1, h2, h3⟩
      · rw [e1] at z; cases z
      · rw [e1] at z; cases z
      · rw [e1] at z; cases z; rw [hm] at h2; cases h2
      · unfold rd; rw [h3]; rfl
      · rw [e1] at z; cases z; exact absurd hk h1
      · rw [e1] at z; cases z; exact absurd hk h1) hv⟩, h.to_ok K p.2 L H o w cr.2⟩,
   fun K p q L H L' H' o w s cr c' => ⟨let ⟨v, hp, e, hv⟩ := cr.1; ⟨v, hp, e, oc.mono _ _ _ _ _ _ _ _ _ _ (stp_backL w s).rd (fun a m em => by
      obtain ⟨e1, e2⟩ := lent_stay w s (sub_of em) (.inl hk)
      exact ⟨sub_mk e1, e2⟩) hv⟩, h.bk_ok K p.2 q.2 L H L' H' o w s cr.2 c'.2⟩⟩
theorem ln_hide {α : Type} {P : V → Prop} {oc : OCod α} (hk : k ∈ T) (h : LendC S T (k + 1) G G1 to bk) : LendC S T k (sOwn P oc :: G) (sAny :: G1) (fun p => ((), to p.2)) (fun p q => (p.1, bk p.2 q.2)) :=
  ⟨fun K p L H o w cr => ⟨trivial, h.to_ok K p.2 L H o w cr.2⟩,
   fun K p q L H L' H' o w s cr c' => ⟨let ⟨v, hp, e, hv⟩ := cr.1; ⟨v, hp, e, oc.mono _ _ _ _ _ _ _ _ _ _ (stp_backL w s).rd (fun a m em => by
      obtain ⟨e1, e2⟩ := lent_stay w s (sub_of em) (.inr hk)
      exact ⟨sub_mk e1, e2⟩) hv⟩, h.bk_ok K p.2 q.2 L H L' H' o w s cr.2 c'.2⟩⟩
theorem ln_hold {α : Type} {P : V → Prop} {oc : OCod α} (hd : HardO oc) (hS : k ∉ S) (hT : k ∉ T) (h : LendC S T (k + 1) G G1 to bk) : LendC S T k (sOwn P oc :: G) (sOwn P oc :: G1) (fun p => (p.1, to p.2)) (fun p q => (q.1, bk p.2 q.2)) :=
  ⟨fun K p L H o w cr => ⟨let ⟨v, hp, e, hv⟩ := cr.1; ⟨v, hp, e, oc.mono _ _ _ _ _ _ _ _ _ _ rd_lendL (fun a m em => by
      have e1 := sub_of em
      rcases lendL_cases (S := S) (T := T) (L := L) a with ⟨z, _⟩ | ⟨_, z, _⟩ | ⟨k', l2, z, h1, h2, h3⟩ | ⟨k', l2, z, h1, h2, h3⟩ | ⟨k', l2, z, h1, h2, h3⟩ | ⟨k', l2, z, h1, h2, h3⟩
      · rw [e1] at z; cases z
      · rw [e1] at z; cases z
      · rw [e1] at z; cases z; exact absurd h1 hS
      · rw [e1] at z; cases z; exact absurd h1 hS
      · rw [e1] at z; cases z; exact absurd h2 hT
      · rw [e1] at z; cases z; exact ⟨sub_mk h3, rfl⟩) hv⟩, h.to_ok K p.2 L H o w cr.2⟩,
   fun K p q L H L' H' o w s cr c' => ⟨let ⟨v, hp, e, hv⟩ := c'.1; ⟨v, hp, e, oc.mono _ _ _ _ _ _ _ _ _ _ (fun _ _ z => z) (fun a m em => ⟨sub_mk (by
      have e1 := sub_of em
      rcases backL_cases w s a with ⟨k', l', e3, hk, e4, e5⟩ | ⟨_, e3⟩
      · -- a lent or hidden thing is not labelled so
        rcases lendL_cases (S := S) (T := T) (L := L) a with ⟨z, _⟩ | ⟨_, z, _⟩ | ⟨k2, l2, z, h1, h2, h3⟩ | ⟨k2, l2, z, h1, h2, h3⟩ | ⟨k2, l2, z, h1, h2, h3⟩ | ⟨k2, l2, z, h1, h2, h3⟩
        · rw [e3] at z; cases z
        · rw [e3] at z; cases z
        · rw [(s a ⟨w.dom a (by rw [e3]; simp), .inl h3⟩).1, h3] at e1; cases e1
        · rw [(s a ⟨w.dom a (by rw [e3]; simp), .inr ⟨_, h3⟩⟩).1, h3] at e1; cases e1
        · rw [(s a ⟨w.dom a (by rw [e3]; simp), .inl h3⟩).1, h3] at e1; cases e1
        · rw [e3] at z; cases z
          rcases hk with y | y
          · exact absurd y h1
          · exact absurd y h2
      · exact e3.trans e1), rfl⟩) (hd _ _ _ _ _ _ _ _ (rd_backL w s) hv)⟩, h.bk_ok K p.2 q.2 L H L' H' o w s cr.2 c'.2⟩⟩
end
/-- results that outlive the lending -/
structure RtHard {β : Type} (r : Rt β) : Prop where
  bk : ∀ {K : Frag} {S T : List Nat} {L L' : Lab} {H H' : Hp} {v : V} {y : β}, Wf L H → Stp (lendL S T L) H L' H' → r.rel K (lendL S T L) H L' H' v y → r.rel K L H (backL S T L L') H' v y
theorem rh_v {β : Type} {c : Cod β} (h : HardC c) : RtHard (rV c) := ⟨fun w s q => h _ _ _ _ _ (rd_backL w s) q⟩
theorem rh_o {β : Type} {c : OCod β} (h : HardO c) : RtHard (rO c) := ⟨fun {K S T L L' H H' v y} w s ⟨M, hM, ho⟩ => ⟨M, fun a m e => by
    obtain ⟨h1, h2, h3⟩ := hM a m e
    refine ⟨?_, h2, fun f => h3 (frm_lendL f).1⟩
    rcases backL_cases w s a with ⟨k, l, e1, hk, e2, e3⟩ | ⟨_, e2⟩
    · refine absurd ⟨w.dom a (by rw [e1]; simp), ?_⟩ h3
      rcases lendL_cases (S := S) (T := T) (L := L) a with ⟨z, _⟩ | ⟨_, z, _⟩ | ⟨k2, l2, z, q1, q2, q3⟩ | ⟨k2, l2, z, q1, q2, q3⟩ | ⟨k2, l2, z, q1, q2, q3⟩ | ⟨k2, l2, z, q1, q2, q3⟩
      · rw [e1] at z; cases z
      · rw [e1] at z; cases z
      · exact .inl q3
      · exact .inr ⟨_, q3⟩
      · exact .inl q3
      · rw [e1] at z; cases z
        rcases hk with y | y
        · exact absurd y q1
        · exact absurd y q2
    · exact e2.trans h1, h _ _ _ _ _ _ _ _ (rd_backL w s) ho⟩⟩
section
variable {A : Amb} {G G1 : Ctx} {S T : List Nat} {to : CT G → CT G1} {bk : CT G → CT G1 → CT G}
theorem raises_lend {e : Exn} {L : Lab} {H : Hp} {o : St} (w : Wf L H) (r : A.raises e L H o) : A.raises e (lendL S T L) H o := fun cls d H' ⟨h1, h2, h3, v, h4, R, h5, h6, h7, h8⟩ o' ho =>
  r cls d H' ⟨h1, fun a f => h2 a (frm_lendL f).1, fun f => h3 (frm_lendL f).1, v, h4, R, h5, fun a ob q => h6 a ob (rd_lendL a ob q), fun a ob q => by
    rcases h7 a ob q with z | z
    · obtain ⟨⟨l, e1⟩, e2⟩ := rd_of z
      by_cases f : Frm L H a
      · refine .inl ?_
        rw [(frm_lendL (S := S) (T := T) f).2] at e1
        exact rd_mk e1 e2
      · exact .inr f
    · exact .inr fun f => z (frm_lendL f).1, h8⟩ o' ho
theorem Good.lend {α : Type} {m : Res α} {L : Lab} {H : Hp} {o : St} {P : α → Prop} (w : Wf L H) (h : Good A m L H o P) : Good A m (lendL S T L) H o P := by
  cases m with
  | ok a => exact h
  | exc e => exact raises_lend w h
  | bad => exact h
theorem ex_lend {α : Type} {r : Rt α} {e : Expr} {f : CT G1 → Res (α × CT G1)} (ln : LendC S T 0 G G1 to bk) (hr : RtHard r) (h : EX A G1 e r f) : EX A G e r (fun p => Res.bind (f (to p)) fun y => .ok (y.1, bk p y.2)) :=
  pe_weak h fun o H Q ⟨p, L, w, cr, k⟩ => ⟨to p, lendL S T L, wf_lendL w, ln.to_ok _ _ _ _ _ w cr, (Good.lend w k.bind).imp fun y _ q v L' H' s w' c' rl => q v (backL S T L L') H' (stp_backL w s) (wf_backL w w' s) (ln.bk_ok _ _ _ _ _ _ _ _ w s cr c') (hr.bk w s rl)⟩
theorem tx_lend {e : Expr} {f : CT G1 → Res (Bool × CT G1)} (ln : LendC S T 0 G G1 to bk) (h : TX A G1 e f) : TX A G e (fun p => Res.bind (f (to p)) fun y => .ok (y.1, bk p y.2)) :=
  pt_weak h fun o H Q ⟨p, L, w, cr, k⟩ => ⟨to p, lendL S T L, wf_lendL w, ln.to_ok _ _ _ _ _ w cr, (Good.lend w k.bind).imp fun y _ q L' H' s w' c' => q (backL S T L L') H' (stp_backL w s) (wf_backL w w' s) (ln.bk_ok _ _ _ _ _ _ _ _ w s cr c')⟩
end
end AC
set_option Elab.async false
set_option linter.all false
set_option maxRecDepth 100000
/-! TL10: lists: one's own changed, joined, cut; in, ==; texts. -/
namespace AC
open PySem L2 PyProof

section
variable {A : Amb} {G G' : Ctx} {ρ : Type} {R : Rr ρ}
/-! ### a list of one's own is changed -/
theorem own_set {α : Type} {c : Cod α} {P : V → Prop} {i : Nat} {g : CT G → List α} {put : CT G → List α → CT G} {p : CT G} {L : Lab} {H : Hp} {o : St} {l : Addr} {vs' : List V} {xs' : List α} (m : Mod G i (sOwn P (oL c)) put) (w : Wf L H) (cr : CR A.X.K 0 G p L H o)
    (hP : P (.ref l)) (ho : o[i]? = some (some (.ref l))) (hl : L l = some (i + 1, [])) (hn : vs'.length ≤ sizeLine) (hp : Paired (fun v x => c.see A.X.K (rd L H) v x) vs' xs') :
    Stp L H L (upd H l (.lst vs')) ∧ Wf L (upd H l (.lst vs')) ∧ CR A.X.K 0 G (put p xs') L (upd H l (.lst vs')) o ∧ Same (rd L H) (rd L (upd H l (.lst vs'))) := by
  have sm : Same (rd L H) (rd L (upd H l (.lst vs'))) := fun a ob qa => by
    obtain ⟨⟨l', e1⟩, e2⟩ := rd_of qa
    refine rd_mk e1 ?_
    rw [upd_ne fun e => by rw [e, hl] at e1; cases e1]
    exact e2
  refine ⟨fun a f => ⟨rfl, upd_ne fun e => ?_⟩, ⟨fun a ha => ?_, fun a k l' e => ?_⟩, m.ok _ _ _ _ _ _ _ _ _ cr sm (fun a j l' _ hj e => ⟨rfl, upd_ne fun e' => ?_⟩) ⟨.ref l, hP, by rw [Nat.zero_add]; exact ho, l, vs', rfl, sub_mk (by rw [Nat.zero_add]; exact hl), upd_same, hn, paired_mono (fun _ _ q => c.mono _ _ _ _ _ sm q) hp⟩, sm⟩
  · rcases f.2 with z | ⟨l', z⟩
    · rw [e, hl] at z; cases z
    · rw [e, hl] at z; cases z
  · by_cases ea : a = l
    · rw [ea, upd_same]; simp
    · rw [upd_ne ea]; exact w.dom a ha
  · by_cases ea : a = l
    · rw [ea, hl] at e; cases e
      rw [ea, upd_same]
      trivial
    · rw [upd_ne ea]; exact w.soft a k l' e
  · rw [e', hl] at e
    have := (Prod.mk.inj (Option.some.inj e)).1
    omega
/-- a method of a list of one's own, with arguments -/
def MtT (A : Amb) (id : String) {α β γ : Type} (c : Cod α) (as : ArgC β) (k : List α → β → Option (γ × List α)) (rc : Cod γ) : Prop :=
  ∃ r, MtR A.X id r ∧ ∀ (L : Lab) (H : Hp) (l : Addr) (vs ws : List V) (xs xs' : List α) (y : β) (z : γ) (Q : VK), Wf L H → H l = some (.lst vs) → vs.length ≤ sizeLine → Paired (fun v x => c.see A.X.K (rd L H) v x) vs xs → as.see A.X.K (rd L H) ws y → k xs y = some (z, xs') →
    (∀ v vs', vs'.length ≤ sizeLine → Paired (fun v x => c.see A.X.K (rd L H) v x) vs' xs' → rc.see A.X.K (rd L H) v z → Q v (upd H l (.lst vs'))) → r (.ref l) ws H Q
theorem own_reads {α β γ : Type} {c : Cod α} {as : ArgC β} {k : List α → β → Option (γ × List α)} {rc : Cod γ} {P : V → Prop} {i : Nat} {g : CT G → List α} {put : CT G → List α → CT G} {fa : CT G → Res (β × CT G)} {r : V → List V → Hp → VK → Prop} (a : At G i (sOwn P (oL c)) g) (m : Mod G i (sOwn P (oL c)) put)
    (pr : ∀ (L : Lab) (H : Hp) (l : Addr) (vs ws : List V) (xs xs' : List α) (y : β) (z : γ) (Q : VK), Wf L H → H l = some (.lst vs) → vs.length ≤ sizeLine → Paired (fun v x => c.see A.X.K (rd L H) v x) vs xs → as.see A.X.K (rd L H) ws y → k xs y = some (z, xs') →
      (∀ v vs', vs'.length ≤ sizeLine → Paired (fun v x => c.see A.X.K (rd L H) v x) vs' xs' → rc.see A.X.K (rd L H) v z → Q v (upd H l (.lst vs'))) → r (.ref l) ws H Q) {o : St} {H : Hp} {Q : VK}
    (q : tE A G (rV rc) (fun p => Res.bind (fa p) fun y => Res.bind (ofO (k (g y.2) y.1)) fun z => .ok (z.1, put y.2 z.2)) o H Q) : ∃ v, o[i]? = some (some v) ∧ tyV A.X.K "list" v H ∧ tA A G as fa o H fun ws H1 => r v ws H1 Q := by
  obtain ⟨p, L, w, cr, kk⟩ := q
  obtain ⟨v0, _, ev, l0, vs0, e0, hm0, hp0, _⟩ := a.ok _ _ _ _ _ _ cr
  rw [Nat.zero_add] at ev
  subst e0
  refine ⟨.ref l0, ev, .inl ⟨rfl, _, SqL.of hp0⟩, p, L, w, cr, kk.bind.imp fun y _ gy ws L1 H1 s1 w1 c1 h1 => ?_⟩
  obtain ⟨v1, hP, ev1, l, vs, e1, hm, hp, hl, hpp⟩ := a.ok _ _ _ _ _ _ c1
  rw [Nat.zero_add] at ev1 hm
  subst e1
  rw [ev] at ev1
  cases ev1
  obtain ⟨z, ez, gz⟩ := good_ofO gy
  refine pr L1 H1 l0 vs ws (g y.2) z.2 y.1 z.1 Q w1 hp hl hpp h1 ez fun v vs' hn hp' hz => ?_
  obtain ⟨t1, t2, t3, t4⟩ := own_set (g := g) m w1 c1 hP ev (sub_of hm) hn hp'
  exact (show ∀ v L' H', _ from gz) v L1 _ (s1.trans t1) t2 t3 (rc.mono _ _ _ _ _ t4 hz)
theorem ex_ownM {α β γ : Type} {id : String} {name x : Str} {p1 ap cp : Pos} {e : Expr} {es : List Expr} {c : Cod α} {as : ArgC β} {k : List α → β → Option (γ × List α)} {rc : Cod γ} {P : V → Prop} {i : Nat} {g : CT G → List α} {put : CT G → List α → CT G} {fa : CT G → Res (β × CT G)} (h : MtT A id c as k rc)
    (slot : PySem.Slot "list" name id) (hty : typeOf (.builtin id) = pure (.type "method_descriptor")) (a : At G i (sOwn P (oL c)) g) (m : Mod G i (sOwn P (oL c)) put) (hN : A.X.N[i]? = some x) (hv : Vis A.X.env.scope x) (ha : AX A G (e :: es) as fa)
    (hd : (x == ("__debug__" : Str)) = false := by decide) (hcd : (x == ("__classdict__" : Str)) = false := by decide)
    (hbase : attributeBase (.Name x p1) name A.X.env (eval (.Name x p1) A.X.env) = eval (.Name x p1) A.X.env := by rfl)
    (hfew : ((backTo cp (starEach (e :: es) A.X.env)).all (fun x => !x.1) && (backToKw cp (keywordEach [] A.X.env)).all (fun x => x.1.isSome) && decide ((e :: es).length + ([] : List Keyword).length + (if ([] : List Keyword).isEmpty then 0 else 1) < 30)) = true := by rfl)
    (hline : (ap.endLine == cp.line) = true := by rfl) (hs : starEach (e :: es) A.X.env = (false, eval e A.X.env) :: starEach es A.X.env := by rfl) (hplain : (backTo cp (starEach es A.X.env)).any (·.1) = false := by rfl) :
    EX A G (.Call (.Attribute (.Name x p1) name ap) (e :: es) [] cp) (rV rc) (fun p => Res.bind (fa p) fun y => Res.bind (ofO (k (g y.2) y.1)) fun z => .ok (z.1, put y.2 z.2)) := by
  obtain ⟨r, hr, pr⟩ := h
  refine pe_weak (pe_bm PySem.F.plainAttrs_list slot hty hr (pe_var hN hv hd hcd) ha hbase hfew hline hs hplain) fun o H Q q => ?_
  obtain ⟨v, ev, ty, t⟩ := own_reads a m pr q
  exact ⟨v, ev, ty, t⟩
theorem ex_ownM0 {α γ : Type} {id : String} {name x : Str} {p1 ap cp : Pos} {c : Cod α} {k : List α → Unit → Option (γ × List α)} {rc : Cod γ} {P : V → Prop} {i : Nat} {g : CT G → List α} {put : CT G → List α → CT G} (h : MtT A id c aNil k rc)
    (slot : PySem.Slot "list" name id) (hty : typeOf (.builtin id) = pure (.type "method_descriptor")) (a : At G i (sOwn P (oL c)) g) (m : Mod G i (sOwn P (oL c)) put) (hN : A.X.N[i]? = some x) (hv : Vis A.X.env.scope x)
    (hd : (x == ("__debug__" : Str)) = false := by decide) (hcd : (x == ("__classdict__" : Str)) = false := by decide)
    (hbase : attributeBase (.Name x p1) name A.X.env (eval (.Name x p1) A.X.env) = eval (.Name x p1) A.X.env := by rfl) (hline : (ap.endLine == cp.line) = true := by rfl) :
    EX A G (.Call (.Attribute (.Name x p1) name ap) [] [] cp) (rV rc) (fun p => Res.bind (ofO (k (g p) ())) fun z => .ok (z.1, put p z.2)) := by
  obtain ⟨r, hr, pr⟩ := h
  refine pe_weak (pe_bm0 PySem.F.plainAttrs_list slot hty hr (pe_var hN hv hd hcd) hbase hline) fun o H Q q => ?_
  obtain ⟨v, ev, ty, p, L, w, cr, t⟩ := own_reads (fa := fun p => .ok ((), p)) a m pr q
  exact ⟨v, ev, ty, t [] L H Stp.refl w cr rfl⟩
def appO {α : Type} (xs : List α) (y : α) : Option (Unit × List α) := if xs.length < 16777216 then some ((), xs ++ [y]) else none
theorem mt_app {α : Type} {c : Cod α} : MtT A "list.append" c (aOne c) appO cN := ⟨_, mt_append, fun L H l vs ws xs xs' y z Q w h1 h2 h3 ⟨v, ew, hv⟩ hk q => by
  subst ew
  unfold appO at hk
  have hl := line_eq
  have hn := paired_len h3
  split at hk
  · rename_i hc
    cases hk
    exact ⟨l, vs, v, rfl, rfl, h1, by omega, q _ _ (by rw [List.length_append, List.length_singleton]; omega) (paired_append h3 (.cons hv .nil)) rfl⟩
  · cases hk⟩
def popO {α : Type} (xs : List α) (_ : Unit) : Option (α × List α) := match xs.getLast? with
  | some y => some (y, xs.dropLast)
  | none => none
theorem paired_dropLast {α β : Type} {F : α → β → Prop} : ∀ {l : List α} {m : List β}, Paired F l m → Paired F l.dropLast m.dropLast
  | _, _, .nil => .nil
  | _, _, .cons r .nil => .nil
  | _, _, .cons r (.cons r' t) => .cons r (paired_dropLast (.cons r' t))
theorem mt_popT {α : Type} {c : Cod α} : MtT A "list.pop" c aNil popO c := ⟨_, mt_pop, fun L H l vs ws xs xs' y z Q w h1 h2 h3 ew hk q => by
  have ew : ws = [] := ew
  subst ew
  unfold popO at hk
  split at hk
  · rename_i z' ez
    cases hk
    rw [List.getLast?_eq_getElem?] at ez
    obtain ⟨v, hv, hc⟩ := paired_get h3 ez
    rw [← paired_len h3] at hv
    exact ⟨l, vs, v, rfl, rfl, h1, hv, q _ _ (by rw [List.length_dropLast]; omega) (paired_dropLast h3) hc⟩
  · cases hk⟩
theorem paired_rev {α β : Type} {F : α → β → Prop} : ∀ {l : List α} {m : List β}, Paired F l m → Paired F l.reverse m.reverse
  | _, _, .nil => .nil
  | _, _, .cons r t => by rw [List.reverse_cons, List.reverse_cons]; exact paired_append (paired_rev t) (.cons r .nil)
theorem mt_revT {α : Type} {c : Cod α} : MtT A "list.reverse" c aNil (fun xs _ => some ((), xs.reverse)) cN := ⟨_, mt_reverse, fun L H l vs ws xs xs' y z Q w h1 h2 h3 ew hk q => by
  have ew : ws = [] := ew
  subst ew
  cases hk
  exact ⟨l, vs, rfl, rfl, h1, q _ _ (by rw [List.length_reverse]; exact h2) (paired_rev h3) rfl⟩⟩
theorem mt_clearT {α : Type} {c : Cod α} : MtT A "list.clear" c aNil (fun _ _ => some ((), [])) cN := ⟨_, mt_clear, fun L H l vs ws xs xs' y z Q w h1 h2 h3 ew hk q => by
  have ew : ws = [] := ew
  subst ew
  cases hk
  exact ⟨l, vs, rfl, rfl, h1, q _ _ (Nat.zero_le _) .nil rfl⟩⟩
/-- xs[i] = e, xs one's own -/
def setI {α : Type} (xs : List α) (i : Int) (v : α) : Option (List α) := (ixN xs.length i).map fun j => xs.set j v
theorem paired_set {α β : Type} {F : α → β → Prop} {x : α} {y : β} (h : F x y) : ∀ {l : List α} {m : List β} (j : Nat), Paired F l m → Paired F (l.set j x) (m.set j y)
  | _, _, _, .nil => .nil
  | _, _, 0, .cons r t => .cons h t
  | _, _, j + 1, .cons r t => .cons r (paired_set h j t)
theorem sx_setI {α : Type} {c : Cod α} {P : V → Prop} {i : Nat} {x : Str} {ei e : Expr} {p1 p2 pos : Pos} {g : CT G → List α} {put : CT G → List α → CT G} {fe : CT G → Res (α × CT G)} {fi : CT G → Res (Int × CT G)} (a : At G i (sOwn P (oL c)) g) (m : Mod G i (sOwn P (oL c)) put) (hN : A.X.N[i]? = some x) (hv : Vis A.X.env.scope x)
    (he : EX A G e (rV c) fe) (hi : EX A G ei (rV cI) fi) (hd : (x == ("__debug__" : Str)) = false := by decide) (hcd : (x == ("__classdict__" : Str)) = false := by decide)
    (hsub : ∀ v, assign (.Subscript (.Name x p1) ei p2) A.X.env v = (do
      let ov ← holding [v] (eval (.Name x p1) A.X.env)
      let iv ← holding [v, ov] (eval ei A.X.env)
      standAt p2
      holding [v, ov, iv] (setItem ov iv v)
      release [v, ov, iv] []) := by intro _; rfl)
    (hs : swapsWithSole [.Subscript (.Name x p1) ei p2] e pos.line A.X.env = pure false := by rfl) (hw : swappedStores [.Subscript (.Name x p1) ei p2] e A.X.env = pure none := by rfl)
    (h1 : (assignEach [.Subscript (.Name x p1) ei p2] A.X.env).map (·.2) = [assign (.Subscript (.Name x p1) ei p2) A.X.env] := by rfl) :
    SX A G (.Assign [.Subscript (.Name x p1) ei p2] e pos) G R (fun p => Res.bind (fe p) fun y => Res.bind (fi y.2) fun z => Res.bind (ofO (setI (g z.2) z.1 y.1)) fun xs => .ok (.nx (put z.2 xs))) := by
  refine ps_weak (ps_asg he (pg_sub (pe_var hN hv hd hcd) hi set_list hsub) hs hw h1) fun D o H ⟨p, L, w, cr, k⟩ => ⟨p, L, w, cr, k.bind.imp fun y _ gy v L1 H1 s1 w1 c1 r1 => ?_⟩
  obtain ⟨v0, _, ev, l0, vs0, e0, hm0, hp0, _⟩ := a.ok _ _ _ _ _ _ c1
  rw [Nat.zero_add] at ev
  subst e0
  refine ⟨.ref l0, ev, y.2, L1, w1, c1, (gy.bind.step s1).imp fun z _ gz vi L2 H2 s2 w2 c2 r2 => ?_⟩
  have r2 : vi = .int z.1 := r2
  subst r2
  obtain ⟨xs, ex, gx⟩ := good_ofO gz
  obtain ⟨v1, hP, ev1, l, vs, e1, hm, hp, hl, hpp⟩ := a.ok _ _ _ _ _ _ c2
  rw [Nat.zero_add] at ev1 hm
  subst e1
  rw [ev] at ev1
  cases ev1
  unfold setI at ex
  cases ej : ixN (g z.2).length z.1 with
  | none => rw [ej] at ex; cases ex
  | some j =>
    rw [ej] at ex; cases ex
    refine ⟨l0, vs, z.1, j, rfl, rfl, hp, by rw [paired_len hpp]; exact ej, ?_⟩
    obtain ⟨t1, t2, t3, t4⟩ := own_set (g := g) (vs' := vs.set j v) m w2 c2 hP ev (sub_of hm) (by rw [List.length_set]; exact hl) (paired_set (F := fun v x => c.see A.X.K (rd L2 H2) v x) (c.mono _ _ _ _ _ s2.rd r1) j hpp)
    exact (show nxP A G R L H o D (.nx (put z.2 ((g z.2).set j y.1))) from gx) o L2 _ ((s1.trans s2).trans t1) t2 t3 Keeps.refl

/-! ### new lists of old ones -/
def catO {α : Type} (xs ys : List α) : Option (List α) := if xs.length + ys.length ≤ 16777216 then some (xs ++ ys) else none
theorem ot_cat {α : Type} {c : Cod α} : OpT A (binaryOp .Add) (cL c) (cL c) catO (rO (oL c)) := ⟨_, op_cat, fun L H vx vy x y z Q w ⟨a, vs, e1, h1, l1, p1⟩ ⟨b, ws, e2, h2, l2, p2⟩ h3 q => by
  subst e1 e2
  unfold catO at h3
  have hl := line_eq
  have n1 := paired_len p1
  have n2 := paired_len p2
  split at h3
  · rename_i hc
    cases h3
    refine ⟨a, b, vs, ws, rfl, rfl, rd_sub _ _ h1, rd_sub _ _ h2, by omega, fun p hp => ?_⟩
    obtain ⟨t1, t2⟩ := ext_new (o := .lst (vs ++ ws)) w hp
    exact q _ _ _ t1 t2 (own_new w hp (by rw [List.length_append]; omega) (paired_append p1 p2))
  · cases h3⟩
theorem ct_listL {α : Type} {c : Cod α} : CalT A (.type "list") (aOne (cL c)) (fun xs => some xs) (rO (oL c)) := ⟨_, call_list_of, fun L H vs x z Q w ⟨v, e, a, ws, e1, h1, l1, p1⟩ h2 q => by
  subst e e1
  cases h2
  refine ⟨a, ws, rfl, .inl (SqL.of (rd_sub _ _ h1)), fun p hp => ?_⟩
  obtain ⟨t1, t2⟩ := ext_new (o := .lst ws) w hp
  exact q _ _ _ t1 t2 (own_new w hp l1 p1)⟩
theorem ct_listT {α : Type} {c : Cod α} : CalT A (.type "list") (aOne (cTV c)) (fun xs => some xs) (rO (oL c)) := ⟨_, call_list_of, fun L H vs x z Q w ⟨v, e, a, ws, e1, h1, l1, p1⟩ h2 q => by
  subst e e1
  cases h2
  refine ⟨a, ws, rfl, .inr (h1.same rd_sub).sq, fun p hp => ?_⟩
  obtain ⟨t1, t2⟩ := ext_new (o := .lst ws) w hp
  exact q _ _ _ t1 t2 (own_new w hp l1 p1)⟩
theorem ct_tupleL {α : Type} {c : Cod α} : CalT A (.type "tuple") (aOne (cL c)) (fun xs => some xs) (rV (cTV c)) := ⟨_, call_tuple_of, fun L H vs x z Q w ⟨v, e, a, ws, e1, h1, l1, p1⟩ h2 q => by
  subst e e1
  cases h2
  refine ⟨a, ws, rfl, .inl ⟨SqL.of (rd_sub _ _ h1), fun p hp => ?_⟩⟩
  obtain ⟨t1, t2⟩ := ext_val (o := .tup ws) w hp
  exact q _ _ _ t1 t2 ⟨p, ws, rfl, .inl (rd_mk setL_same upd_same), l1, paired_mono (fun _ _ q => c.mono _ _ _ _ _ t1.stp.rd q) p1⟩⟩
/-- parts of slices -/
def tP (A : Amb) (G : Ctx) (f : CT G → Res (Option Int × CT G)) : L2.TO := fun o H Q =>
  ∃ (p : CT G) (L : Lab), Wf L H ∧ CR A.X.K 0 G p L H o ∧ Good A (f p) L H o fun y => ∀ (L' : Lab) (H' : Hp), Stp L H L' H' → Wf L' H' → CR A.X.K 0 G y.2 L' H' o → Q y.1 H'
def OX (A : Amb) (G : Ctx) (e : Option Expr) (f : CT G → Res (Option Int × CT G)) : Prop := PO A.X e (tP A G f)
theorem po_weak {X : Cx} {e : Option Expr} {t t' : L2.TO} (h : PO X e t) (i : ∀ o H Q, t' o H Q → t o H Q) : PO X e t' := ⟨fun pins s o H Q I q => h.run pins s o H Q I (i _ _ _ q)⟩
theorem ox_none : OX A G none (fun p => .ok (none, p)) := po_weak po_none fun o H Q ⟨p, L, w, cr, k⟩ => k L H Stp.refl w cr
theorem ox_some {e : Expr} {f : CT G → Res (Int × CT G)} (h : EX A G e (rV cI) f) : OX A G (some e) (fun p => Res.bind (f p) fun y => .ok (some y.1, y.2)) :=
  po_weak (po_some h) fun o H Q ⟨p, L, w, cr, k⟩ => ⟨p, L, w, cr, k.bind.imp fun y _ q v L' H' s w' c' rl => ⟨y.1, rl, q L' H' s w' c'⟩⟩
def cutL {α : Type} (xs : List α) (lo hi : Option Int) : List α := (xs.drop (HT.sIx xs.length 0 lo)).take (HT.sIx xs.length xs.length hi - HT.sIx xs.length 0 lo)
theorem paired_cut {α : Type} {F : V → α → Prop} {l : List V} {m : List α} (p : Paired F l m) (lo hi : Option Int) : Paired F (cutV l lo hi) (cutL m lo hi) := by
  unfold cutV cutL
  rw [paired_len p]
  exact paired_take _ (paired_drop _ p)
theorem ex_cutL {α : Type} {c : Cod α} {e : Expr} {lo hi : Option Expr} {p2 pos : Pos} {f : CT G → Res (List α × CT G)} {fl fh : CT G → Res (Option Int × CT G)} (h : EX A G e (rV (cL c)) f) (hl : OX A G lo fl) (hh : OX A G hi fh) :
    EX A G (.Subscript e (.Slice lo hi none p2) pos) (rO (oL c)) (fun p => Res.bind (f p) fun y => Res.bind (fl y.2) fun z => Res.bind (fh z.2) fun u => .ok (cutL y.1 z.1 u.1, u.2)) :=
  pe_weak (pe_slice sl_list h hl hh) fun o H Q ⟨p, L, w, cr, k⟩ => ⟨p, L, w, cr, k.bind.imp fun y _ gy v L1 H1 s1 w1 c1 ⟨a, vs, e1, h1, l1, p1⟩ => ⟨y.2, L1, w1, c1, (gy.bind.step s1).imp fun z _ gz L2 H2 s2 w2 c2 => ⟨z.2, L2, w2, c2, (gz.bind.step (s1.trans s2)).imp fun u _ gu L3 H3 s3 w3 c3 => by
    subst e1
    have s23 := s2.trans s3
    refine ⟨a, vs, rfl, SqL.of (rd_sub _ _ (s23.rd _ _ h1)), fun q hq => ?_⟩
    obtain ⟨t1, t2⟩ := ext_new (o := .lst (cutV vs z.1 u.1)) w3 hq
    exact (show ∀ v L' H', _ from gu) _ _ _ ((s1.trans s23).trans t1.stp) t2 (c3.ext w3 t1) ((rO (oL c)).pre _ _ _ _ _ _ _ _ _ (s1.trans s23) (own_new w3 hq (Nat.le_trans (cutV_length _ _ _) l1) (paired_cut (paired_mono (fun _ _ q => c.mono _ _ _ _ _ s23.rd q) p1) _ _)))⟩⟩⟩
/-- xs[::-1] -/
theorem ex_revL {α : Type} {c : Cod α} {e : Expr} {kk : Nat} {p1 p2 p3 pos : Pos} {f : CT G → Res (List α × CT G)} (h : EX A G e (rV (cL c)) f) : EX A G (.Subscript e (.Slice none none (some (.UnaryOp .USub (.Constant (.int 1) kk p1) p2)) p3) pos) (rO (oL c)) (fun p => Res.bind (f p) fun y => .ok (y.1.reverse, y.2)) :=
  pe_weak (pe_revL h) fun o H Q ⟨p, L, w, cr, k⟩ => ⟨p, L, w, cr, k.bind.imp fun y _ q v L1 H1 s1 w1 c1 ⟨a, vs, e1, h1, l1, p1⟩ => ⟨a, vs, e1, SqL.of (rd_sub _ _ h1), fun p hp => by
    obtain ⟨t1, t2⟩ := ext_new (o := .lst vs.reverse) w1 hp
    exact (show ∀ v L' H', _ from q) _ _ _ (s1.trans t1.stp) t2 (c1.ext w1 t1) ((rO (oL c)).pre _ _ _ _ _ _ _ _ _ s1 (own_new w1 hp (by rw [List.length_reverse]; exact l1) (paired_rev p1)))⟩⟩

/-! ### data: ==, in, index, repr -/
theorem shaped_of {α : Type} {c : Cod α} {t : α → PyData} {n : Nat} (h : DC c t n) (hn : n ≤ 64) {K : Frag} {R : Hp} {v : V} {x : α} (q : c.see K R v x) : SeqAt.shaped (t x) = true := by
  obtain ⟨_, h2, h3⟩ := h K R v x q
  unfold SeqAt.shaped
  rw [h2, Bool.true_and, decide_eq_true_eq]
  omega
theorem dp_same {K : Frag} {R R' : Hp} (s : Same R R') : (∀ {v : V} {d : PyData}, Dp K R v d → Dp K R' v d) := fun {v d} h => by
  refine Dp.rec (motive_1 := fun v d _ => Dp K R' v d) (motive_2 := fun vs ds _ => DpAll K R' vs ds) .non (fun b => .bl b) (fun i => .int i) (fun x => .str x) (fun hq _ ih => .lst (s.seq hq) ih) (fun hq _ ih => .tup ?_ ih) .nil (fun _ _ h1 h2 => .cons h1 h2) h
  rcases hq with (z | ⟨o, z⟩) | z
  · exact .inl (.inl (s _ _ z))
  · exact .inl (.inr ⟨o, s _ _ z⟩)
  · exact .inr z
def eqO {α β : Type} (t : α → PyData) (u : β → PyData) (x : α) (y : β) : Bool := PyData.eqv (t x) (u y)
theorem ot_eqD {α β : Type} {c : Cod α} {d : Cod β} {t : α → PyData} {u : β → PyData} {n m : Nat} (h1 : DC c t n) (h2 : DC d u m) (hn : n ≤ 64) (hm : m ≤ 64) : OpT A (compareOp .Eq) c d (fun x y => some (eqO t u x y)) (rV cB) :=
  ⟨_, op_eqD A.room.units, fun L H vx vy x y z Q w q1 q2 q3 q => by
    cases q3
    exact ⟨t x, u y, dp_same rd_sub (h1 _ _ _ _ q1).1, dp_same rd_sub (h2 _ _ _ _ q2).1, shaped_of h1 hn q1, shaped_of h2 hm q2, q _ L H Ext.refl w rfl⟩⟩
theorem ot_neD {α β : Type} {c : Cod α} {d : Cod β} {t : α → PyData} {u : β → PyData} {n m : Nat} (h1 : DC c t n) (h2 : DC d u m) (hn : n ≤ 64) (hm : m ≤ 64) : OpT A (compareOp .NotEq) c d (fun x y => some (!eqO t u x y)) (rV cB) :=
  ⟨_, op_neD A.room.units, fun L H vx vy x y z Q w q1 q2 q3 q => by
    cases q3
    exact ⟨t x, u y, dp_same rd_sub (h1 _ _ _ _ q1).1, dp_same rd_sub (h2 _ _ _ _ q2).1, shaped_of h1 hn q1, shaped_of h2 hm q2, q _ L H Ext.refl w rfl⟩⟩
def inO {α β : Type} (t : α → PyData) (u : β → PyData) (x : α) (ys : List β) : Bool := ys.any fun y => PyData.eqv (u y) (t x)
theorem room65 : A.X.A.units + 65 < cLine := by have := A.room.un; omega
theorem any_map_eqv {β : Type} {u : β → PyData} {d : PyData} {ys : List β} : (ys.map u).any (fun z => PyData.eqv z d) = ys.any fun y => PyData.eqv (u y) d := by
  rw [List.any_map]; rfl
theorem ot_inL {α β : Type} {c : Cod α} {d : Cod β} {t : α → PyData} {u : β → PyData} {n m : Nat} (h1 : DC c t n) (h2 : DC d u m) (hn : n ≤ 64) (hm : m + 1 ≤ 64) : OpT A (compareOp .In) c (cL d) (fun x y => some (inO t u x y)) (rV cB) :=
  ⟨_, op_inD room65, fun L H vx vy x y z Q w q1 q2 q3 q => by
    cases q3
    exact ⟨t x, y.map u, dp_same rd_sub (h1 _ _ _ _ q1).1, dp_same rd_sub (dc_l h2 _ _ _ _ q2).1, shaped_of h1 hn q1, shaped_of (dc_l h2) hm q2, q _ L H Ext.refl w (by rw [any_map_eqv]; rfl)⟩⟩
theorem ot_notInL {α β : Type} {c : Cod α} {d : Cod β} {t : α → PyData} {u : β → PyData} {n m : Nat} (h1 : DC c t n) (h2 : DC d u m) (hn : n ≤ 64) (hm : m + 1 ≤ 64) : OpT A (compareOp .NotIn) c (cL d) (fun x y => some (!inO t u x y)) (rV cB) :=
  ⟨_, op_notInD room65, fun L H vx vy x y z Q w q1 q2 q3 q => by
    cases q3
    exact ⟨t x, y.map u, dp_same rd_sub (h1 _ _ _ _ q1).1, dp_same rd_sub (dc_l h2 _ _ _ _ q2).1, shaped_of h1 hn q1, shaped_of (dc_l h2) hm q2, q _ L H Ext.refl w (by rw [any_map_eqv]; rfl)⟩⟩
/-- .. is None -/
theorem ot_isN {α : Type} {c : Cod α} (h : ∀ K R v x, c.see K R v x → v ≠ .non) : OpT A (compareOp .Is) (cO c) cN (fun x _ => some x.isNone) (rV cB) :=
  ⟨_, op_isN, fun L H vx vy x y z Q w q1 q2 q3 q => by
    cases q3
    cases q2
    refine ⟨rfl, q _ L H Ext.refl w ?_⟩
    cases x with
    | none => cases q1; rfl
    | some x => show V.bl _ = V.bl _; rw [decide_eq_false (h _ _ _ _ q1)]; rfl⟩
theorem ot_notN {α : Type} {c : Cod α} (h : ∀ K R v x, c.see K R v x → v ≠ .non) : OpT A (compareOp .IsNot) (cO c) cN (fun x _ => some x.isSome) (rV cB) :=
  ⟨_, op_notN, fun L H vx vy x y z Q w q1 q2 q3 q => by
    cases q3
    cases q2
    refine ⟨rfl, q _ L H Ext.refl w ?_⟩
    cases x with
    | none => cases q1; rfl
    | some x => show V.bl _ = V.bl _; rw [decide_eq_false (h _ _ _ _ q1)]; rfl⟩
end
end AC
set_option Elab.async false
set_option linter.all false
set_option maxRecDepth 100000
/-! TL11: texts; several targets. -/
namespace AC
open PySem L2 PyProof

section
variable {A : Amb} {G G' : Ctx} {ρ : Type} {R : Rr ρ}
/-- one sign in a text -/
def sgnIn (x y : Str) : Option Bool := match x.cps.toList with
  | [c] => some (decide (c ∈ y.cps.toList))
  | _ => none
theorem one_sign {x : Str} {c : Nat} (h : x.cps.toList = [c]) : x = ⟨#[c]⟩ := by
  obtain ⟨⟨l⟩⟩ := x
  have h : l = [c] := h
  rw [h]
theorem ot_sgnIn : OpT A (compareOp .In) cS cS sgnIn (rV cB) := op_of op_in_sign fun L H vx vy x y z Q w h1 h2 h3 q => by
  obtain ⟨rfl, _⟩ := h1; obtain ⟨rfl, _⟩ := h2
  unfold sgnIn at h3
  split at h3
  · rename_i c e
    cases h3
    rw [one_sign e]
    exact ⟨c, y, rfl, rfl, q _ rfl⟩
  · cases h3
theorem ex_gstr {x z : Str} {t : Tok} {pos : Pos} (hg : Gl A.X x) (hm : A.X.mg x = some (.str z t)) (h1 : PyData.strOk z = true) (h2 : z.length ≤ sizeLine) (hd : (x == ("__debug__" : Str)) = false := by decide) : EX A G (.Name x pos) (rV cS) (fun p => .ok (z, p)) :=
  ex_c (pe_glob hg hm (v := .str z) ⟨t, rfl⟩ hd) fun _ _ => ⟨rfl, h1, h2⟩
end
end AC
set_option Elab.async false
set_option linter.all false
set_option maxRecDepth 100000
/-! TL12: defs by name; several targets; comprehensions stored; enumerate; index; in. -/
namespace AC
open PySem L2 PyProof

/-- a def by its name -/
structure DefG (P : Program) (w : World) (K : Frag) (mg : Str → Option Value) (base : Heap) (k : Nat) (x : Str) (ps : List Str) (sp : Sp) : Prop where
  ex : ∃ f fd, FnG P w K mg base k f fd ps sp ∧ mg x = some (.ref f) ∧ PySem.W.keepIn K (.ref f) = true ∧ Binds K fd ps [] ∧ ∀ (s : Shared) (us : List Value), us.length = ps.length → BindsTo s fd ⟨[], ps.zip us⟩ (ps.zip us)
section
variable {A : Amb} {G G' : Ctx} {ρ : Type} {R : Rr ρ}
abbrev DefA (A : Amb) (k : Nat) (x : Str) (ps : List Str) (sp : Sp) : Prop := DefG A.X.prog A.X.w A.X.K A.X.mg A.X.base k x ps sp
theorem ex_cal {α β : Type} {as : ArgC α} {r : Rt β} {F : α → Res β} {k : Nat} {ps : List Str} {x : Str} {p pos : Pos} {e : Expr} {es : List Expr} {fa : CT G → Res (α × CT G)} (D : DefA A k x ps (spP A.X.K A.ca as r F)) (hk : k ≤ A.lv) (gl : Gl A.X x) (hr : RtOk r) (ha : AX A G (e :: es) as fa)
    (hdb : (x == ("__debug__" : Str)) = false := by decide) (he : starEach (e :: es) A.X.env = (false, eval e A.X.env) :: starEach es A.X.env := by rfl) (hpl : (backTo pos (starEach es A.X.env)).any (·.1) = false := by rfl) :
    EX A G (.Call (.Name x p) (e :: es) [] pos) r (fun p => Res.bind (fa p) fun y => Res.bind (F y.1) fun z => .ok (z, y.2)) := by
  obtain ⟨f, fd, F1, h2, h3, h4, _⟩ := D.ex
  exact ex_call ⟨gl, h2, h3⟩ (callAt F1 h4 hk) hr ha hdb he hpl
theorem ex_cal0 {β : Type} {r : Rt β} {F : Unit → Res β} {k : Nat} {ps : List Str} {x : Str} {p pos : Pos} (D : DefA A k x ps (spP A.X.K A.ca aNil r F)) (hk : k ≤ A.lv) (gl : Gl A.X x) (hr : RtOk r) (hdb : (x == ("__debug__" : Str)) = false := by decide) :
    EX A G (.Call (.Name x p) [] [] pos) r (fun p => Res.bind (F ()) fun z => .ok (z, p)) := by
  obtain ⟨f, fd, F1, h2, h3, h4, _⟩ := D.ex
  exact ex_call0 ⟨gl, h2, h3⟩ (callAt F1 h4 hk) hr hdb
theorem ex_calI {α β κ : Type} {as : ArgC α} {oc : OCod κ} {P : V → Prop} {r : Rt β} {F : κ → α → Res (β × κ)} {i : Nat} {g : CT G → κ} {put : CT G → κ → CT G} {k : Nat} {ps : List Str} {x y : Str} {p p1 pos : Pos} {es : List Expr} {fa : CT G → Res (α × CT G)} (a : At G i (sOwn P oc) g) (m : Mod G i (sOwn P oc) put)
    (D : DefA A k x ps (spI A.X.K A.ca oc as r F)) (hk : k ≤ A.lv) (gl : Gl A.X x) (hr : RtOkI r) (hN : A.X.N[i]? = some y) (hv : Vis A.X.env.scope y) (ha : AX A G es as fa)
    (hd : (y == ("__debug__" : Str)) = false := by decide) (hcd : (y == ("__classdict__" : Str)) = false := by decide) (hdb : (x == ("__debug__" : Str)) = false := by decide) (he : starEach (.Name y p1 :: es) A.X.env = (false, eval (.Name y p1) A.X.env) :: starEach es A.X.env := by rfl) (hpl : (backTo pos (starEach es A.X.env)).any (·.1) = false := by rfl) :
    EX A G (.Call (.Name x p) (.Name y p1 :: es) [] pos) r (fun p => Res.bind (fa p) fun y => Res.bind (F (g y.2) y.1) fun z => .ok (z.1, put y.2 z.2)) := by
  obtain ⟨f, fd, F1, h2, h3, h4, _⟩ := D.ex
  exact ex_callI a m ⟨gl, h2, h3⟩ (callAt F1 h4 hk) hr hN hv ha hd hcd hdb he hpl
/-- f(k = e, ..) with keywords alone -/
theorem sx_bad {st : Stmt} : SX A G st G' R (fun _ => .bad) := ⟨fun pins s o H D I ⟨p, L, w, cr, k⟩ => k.elim⟩
theorem ex_bad {α : Type} {r : Rt α} {e : Expr} : EX A G e r (fun _ => .bad) := ⟨fun pins s o H Q I ⟨p, L, w, cr, k⟩ => k.elim⟩

/-! ### storing -/
structure StR (s : Slot) (r : Rt s.T) : Prop where
  ok : ∀ (K : Frag) (i : Nat) (L : Lab) (H : Hp) (L1 : Lab) (H1 : Hp) (v : V) (x : s.T), Wf L1 H1 → r.rel K L H L1 H1 v x → ∃ L2, (∀ a, L2 a = L1 a ∨ (L1 a = none ∧ ¬ Frm L H a)) ∧ (∀ a, L1 a ≠ none → L2 a = L1 a) ∧ Wf L2 H1 ∧ s.rel K i x L2 H1 (some (some v))
theorem st_v {α : Type} {c : Cod α} : StR (sVal c) (rV c) := ⟨fun K i L H L1 H1 v x w h => ⟨L1, fun _ => .inl rfl, fun _ _ => rfl, w, v, rfl, h⟩⟩
theorem st_o {α : Type} {c : OCod α} : StR (sOwn PAny c) (rO c) := ⟨fun K i L H L1 H1 v x w h => by
  obtain ⟨L2, h1, h2, h3, h4⟩ := lab_own i w h
  exact ⟨L2, h1, h2, h3, v, trivial, rfl, h4⟩⟩
theorem rd_more {L1 L2 : Lab} {H : Hp} (h : ∀ a, L1 a ≠ none → L2 a = L1 a) : Same (rd L1 H) (rd L2 H) := fun a ob qa => by
  obtain ⟨⟨l, e1⟩, e2⟩ := rd_of qa
  exact rd_mk ((h a (by rw [e1]; simp)).trans e1) e2
theorem cr_more {K : Frag} {p : CT G} {L1 L2 : Lab} {H : Hp} {o : St} (h : ∀ a, L1 a ≠ none → L2 a = L1 a) (c : CR K 0 G p L1 H o) : CR K 0 G p L2 H o := c.keep (rd_more h) fun a j l _ ea => ⟨h a (by rw [ea]; simp), rfl⟩
theorem stp_more {L0 L1 L2 : Lab} {H0 H1 : Hp} (s : Stp L0 H0 L1 H1) (h : ∀ a, L2 a = L1 a ∨ (L1 a = none ∧ ¬ Frm L0 H0 a)) : Stp L0 H0 L2 H1 := fun a fr => by
  rcases h a with z | z
  · exact ⟨z.trans (s a fr).1, (s a fr).2⟩
  · exact absurd fr z.2
/-- a, b = e1, e2 -/
theorem par_core {s1 s2 : Slot} {r1 : Rt s1.T} {r2 : Rt s2.T} {G1 : Ctx} {i j : Nat} {f1 : CT G → Res (s1.T × CT G)} {f2 : CT G → Res (s2.T × CT G)} {put2 : CT G → s2.T → CT G1} {put1 : CT G1 → s1.T → CT G'} (q1 : StR s1 r1) (q2 : StR s2 r2) (u2 : Upd G j s2 G1 put2) (u1 : Upd G1 i s1 G' put1) (hij : i ≠ j) (hS : A.S i ∧ A.S j)
    {o : St} {H : Hp} {D : Ends} (h : tS A G G' R (fun p => Res.bind (f1 p) fun y => Res.bind (f2 y.2) fun z => .ok (.nx (put1 (put2 z.2 z.1) y.1))) D o H) :
    tE A G r1 f1 o H fun v H1 => tE A G r2 f2 o H1 fun w H2 => D.nx ((o.set i (some v)).set j (some w)) H2 := by
  obtain ⟨p, L, w, cr, k⟩ := h
  refine ⟨p, L, w, cr, k.bind.imp fun y _ gy v L1 H1 s1' w1 c1 rl1 => ⟨y.2, L1, w1, c1, (gy.bind.step s1').imp fun z _ gz v2 L2 H2 s2' w2 c2 rl2 => ?_⟩⟩
  obtain ⟨L3, a1, a2, a3, a4⟩ := q2.ok A.X.K (0 + j) L1 H1 L2 H2 v2 z.1 w2 rl2
  have s13 : Stp L1 H1 L3 H2 := stp_more s2' a1
  have c3 := u2.ok _ _ _ z.1 v2 _ _ _ (cr_more a2 c2) a4
  obtain ⟨L4, b1, b2, b3, b4⟩ := q1.ok A.X.K (0 + i) L H L3 H2 v y.1 a3 (r1.post _ _ _ _ _ _ _ _ _ s13 rl1)
  have c4 := u1.ok _ _ _ y.1 v _ _ _ (cr_more b2 c3) b4
  rw [Nat.zero_add, Nat.zero_add, List.set_comm _ _ hij.symm] at c4
  exact (show nxP A G' R L H o D (.nx _) from gz) _ L4 H2 (stp_more (s1'.trans s13) b1) b3 c4 ((Keeps.set hS.1).trans (Keeps.set hS.2))
theorem sx_par {s1 s2 : Slot} {r1 : Rt s1.T} {r2 : Rt s2.T} {G1 : Ctx} {i j : Nat} {f1 : CT G → Res (s1.T × CT G)} {f2 : CT G → Res (s2.T × CT G)} {put2 : CT G → s2.T → CT G1} {put1 : CT G1 → s1.T → CT G'} {x y : Str} {a b : Expr} {px py pt pos : Pos} {kt k2 pt2} (q1 : StR s1 r1) (q2 : StR s2 r2) (u2 : Upd G j s2 G1 put2) (u1 : Upd G1 i s1 G' put1) (hij : i ≠ j) (hS : A.S i ∧ A.S j)
    (hi : A.X.N[i]? = some x) (hj : A.X.N[j]? = some y) (hx : A.X.env.scope.names.lookup x = some .local) (hy : A.X.env.scope.names.lookup y = some .local) (h1 : EX A G a r1 f1) (h2 : EX A G b r2 f2)
    (hw : swappedStores [.Tuple [.Name x px, .Name y py] kt pt] (.Tuple [a, b] k2 pt2) A.X.env = pure (some [x, y]))
    (hs : swapsWithSole [.Tuple [.Name x px, .Name y py] kt pt] (.Tuple [a, b] k2 pt2) pos.line A.X.env = pure false := by rfl)
    (sa : starEach [a, b] A.X.env = (false, eval a A.X.env) :: starEach [b] A.X.env := by rfl) (sb : starEach [b] A.X.env = (false, eval b A.X.env) :: starEach [] A.X.env := by rfl) :
    SX A G (.Assign [.Tuple [.Name x px, .Name y py] kt pt] (.Tuple [a, b] k2 pt2) pos) G' R (fun p => Res.bind (f1 p) fun y => Res.bind (f2 y.2) fun z => .ok (.nx (put1 (put2 z.2 z.1) y.1))) :=
  ps_weak (ps_par A.calm A.nd hi hj hij hx hy (pa_cons h1 (pa_cons h2 pa_nil sb) sa) hw hs) fun D o H q => by
    have := par_core q1 q2 u2 u1 hij hS q
    obtain ⟨p, L, w, cr, k⟩ := this
    exact ⟨p, L, w, cr, k.imp fun y _ g v L' H' s' w' c' rl => by
      obtain ⟨p2, L2, w2, c2, k2⟩ := g v L' H' s' w' c' rl
      exact ⟨p2, L2, w2, c2, k2.imp fun z _ g2 v2 L3 H3 s3 w3 c3 rl3 => ⟨v, v2, rfl, g2 v2 L3 H3 s3 w3 c3 rl3⟩⟩⟩
theorem par3_core {s1 s2 s3 : Slot} {r1 : Rt s1.T} {r2 : Rt s2.T} {r3 : Rt s3.T} {G1 G2 : Ctx} {i j l : Nat} {f1 : CT G → Res (s1.T × CT G)} {f2 : CT G → Res (s2.T × CT G)} {f3 : CT G → Res (s3.T × CT G)} {put3 : CT G → s3.T → CT G1} {put2 : CT G1 → s2.T → CT G2} {put1 : CT G2 → s1.T → CT G'}
    (q1 : StR s1 r1) (q2 : StR s2 r2) (q3 : StR s3 r3) (u3 : Upd G l s3 G1 put3) (u2 : Upd G1 j s2 G2 put2) (u1 : Upd G2 i s1 G' put1) (hij : i ≠ j ∧ i ≠ l ∧ j ≠ l) (hS : A.S i ∧ A.S j ∧ A.S l)
    {o : St} {H : Hp} {D : Ends} (h : tS A G G' R (fun p => Res.bind (f1 p) fun y => Res.bind (f2 y.2) fun z => Res.bind (f3 z.2) fun u => .ok (.nx (put1 (put2 (put3 u.2 u.1) z.1) y.1))) D o H) :
    tE A G r1 f1 o H fun v H1 => tE A G r2 f2 o H1 fun w H2 => tE A G r3 f3 o H2 fun u H3 => D.nx (((o.set i (some v)).set j (some w)).set l (some u)) H3 := by
  obtain ⟨p, L, w, cr, k⟩ := h
  refine ⟨p, L, w, cr, k.bind.imp fun y _ gy v L1 H1 s1' w1 c1 rl1 => ⟨y.2, L1, w1, c1, (gy.bind.step s1').imp fun z _ gz v2 L2 H2 s2' w2 c2 rl2 => ⟨z.2, L2, w2, c2, (gz.bind.step (s1'.trans s2')).imp fun u _ gu v3 L3 H3 s3' w3 c3 rl3 => ?_⟩⟩⟩
  obtain ⟨L4, a1, a2, a3, a4⟩ := q3.ok A.X.K (0 + l) L2 H2 L3 H3 v3 u.1 w3 rl3
  have t24 : Stp L2 H2 L4 H3 := stp_more s3' a1
  have c4 := u3.ok _ _ _ u.1 v3 _ _ _ (cr_more a2 c3) a4
  obtain ⟨L5, b1, b2, b3, b4⟩ := q2.ok A.X.K (0 + j) L1 H1 L4 H3 v2 z.1 a3 (r2.post _ _ _ _ _ _ _ _ _ t24 rl2)
  have t15 : Stp L1 H1 L5 H3 := stp_more (s2'.trans t24) b1
  have c5 := u2.ok _ _ _ z.1 v2 _ _ _ (cr_more b2 c4) b4
  obtain ⟨L6, d1, d2, d3, d4⟩ := q1.ok A.X.K (0 + i) L H L5 H3 v y.1 b3 (r1.post _ _ _ _ _ _ _ _ _ t15 rl1)
  have c6 := u1.ok _ _ _ y.1 v _ _ _ (cr_more d2 c5) d4
  rw [Nat.zero_add, Nat.zero_add, Nat.zero_add, List.set_comm _ _ hij.2.2.symm, List.set_comm _ _ hij.2.1.symm, List.set_comm _ _ hij.1.symm] at c6
  exact (show nxP A G' R L H o D (.nx _) from gu) _ L6 H3 (stp_more (s1'.trans t15) d1) d3 c6 (((Keeps.set hS.1).trans (Keeps.set hS.2.1)).trans (Keeps.set hS.2.2))
theorem sx_par3 {s1 s2 s3 : Slot} {r1 : Rt s1.T} {r2 : Rt s2.T} {r3 : Rt s3.T} {G1 G2 : Ctx} {i j l : Nat} {f1 : CT G → Res (s1.T × CT G)} {f2 : CT G → Res (s2.T × CT G)} {f3 : CT G → Res (s3.T × CT G)} {put3 : CT G → s3.T → CT G1} {put2 : CT G1 → s2.T → CT G2} {put1 : CT G2 → s1.T → CT G'} {x y z : Str} {a b c : Expr} {px py pz pt pos : Pos} {kt k2 pt2}
    (q1 : StR s1 r1) (q2 : StR s2 r2) (q3 : StR s3 r3) (u3 : Upd G l s3 G1 put3) (u2 : Upd G1 j s2 G2 put2) (u1 : Upd G2 i s1 G' put1) (hij : i ≠ j ∧ i ≠ l ∧ j ≠ l) (hS : A.S i ∧ A.S j ∧ A.S l)
    (hi : A.X.N[i]? = some x) (hj : A.X.N[j]? = some y) (hl : A.X.N[l]? = some z) (hx : A.X.env.scope.names.lookup x = some .local) (hy : A.X.env.scope.names.lookup y = some .local) (hz : A.X.env.scope.names.lookup z = some .local) (h1 : EX A G a r1 f1) (h2 : EX A G b r2 f2) (h3 : EX A G c r3 f3)
    (hw : swappedStores [.Tuple [.Name x px, .Name y py, .Name z pz] kt pt] (.Tuple [a, b, c] k2 pt2) A.X.env = pure (some [x, y, z]))
    (hs : swapsWithSole [.Tuple [.Name x px, .Name y py, .Name z pz] kt pt] (.Tuple [a, b, c] k2 pt2) pos.line A.X.env = pure false := by rfl)
    (sa : starEach [a, b, c] A.X.env = (false, eval a A.X.env) :: starEach [b, c] A.X.env := by rfl) (sb : starEach [b, c] A.X.env = (false, eval b A.X.env) :: starEach [c] A.X.env := by rfl) (sc : starEach [c] A.X.env = (false, eval c A.X.env) :: starEach [] A.X.env := by rfl) :
    SX A G (.Assign [.Tuple [.Name x px, .Name y py, .Name z pz] kt pt] (.Tuple [a, b, c] k2 pt2) pos) G' R (fun p => Res.bind (f1 p) fun y => Res.bind (f2 y.2) fun z => Res.bind (f3 z.2) fun u => .ok (.nx (put1 (put2 (put3 u.2 u.1) z.1) y.1))) :=
  ps_weak (ps_par3 A.calm A.nd hi hj hl hij.1 hij.2.1 hij.2.2 hx hy hz (pa_cons h1 (pa_cons h2 (pa_cons h3 pa_nil sc) sb) sa) hw hs) fun D o H q => by
    obtain ⟨p, L, w, cr, k⟩ := par3_core q1 q2 q3 u3 u2 u1 hij hS q
    exact ⟨p, L, w, cr, k.imp fun y _ g v L' H' s' w' c' rl => by
      obtain ⟨p2, L2, w2, c2, k2⟩ := g v L' H' s' w' c' rl
      refine ⟨p2, L2, w2, c2, k2.imp fun z _ g2 v2 L3 H3 s3 w3 c3 rl3 => ?_⟩
      obtain ⟨p3, L4, w4, c4, k4⟩ := g2 v2 L3 H3 s3 w3 c3 rl3
      exact ⟨p3, L4, w4, c4, k4.imp fun u _ g4 v3 L5 H5 s5 w5 c5 rl5 => ⟨v, v2, v3, rfl, g4 v3 L5 H5 s5 w5 c5 rl5⟩⟩⟩
/-- x = [.. for ..] on one line -/
theorem st_reads {s : Slot} {r : Rt s.T} {te : TE} {i : Nat} {f : CT G → Res (s.T × CT G)} {put : CT G → s.T → CT G'} (q1 : StR s r) (u : Upd G i s G' put) (hS : A.S i) (ht : ∀ o H Q, tE A G r f o H Q → te o H Q) {D : Ends} {o : St} {H : Hp}
    (h : tS A G G' R (fun p => Res.bind (f p) fun y => .ok (.nx (put y.2 y.1))) D o H) : tAsg te (gName i) D o H := by
  obtain ⟨p, L, w, cr, k⟩ := h
  refine ht o H _ ⟨p, L, w, cr, k.bind.imp fun y _ g v L1 H1 s1 w1 c1 rl => ?_⟩
  obtain ⟨L2, a1, a2, a3, a4⟩ := q1.ok A.X.K (0 + i) L H L1 H1 v y.1 w1 rl
  have c2 := u.ok _ _ _ y.1 v _ _ _ (cr_more a2 c1) a4
  rw [Nat.zero_add] at c2
  exact (show nxP A G' R L H o D (.nx _) from g) _ L2 H1 (stp_more s1 a1) a3 c2 (Keeps.set hS)
theorem sx_setLc {α β : Type} {ci : Cod α} {ce : Cod β} {G0 G1 : Ctx} {i : Nat} {x : Str} {px spos : Pos} {elt tg iter : Expr} {scope : Scope} {own : List (Str × Nat)} {pos : Pos} {fi : CT G → Res (List α × CT G)} {dn : CT G → CT G0} {bk : CT G → CT G0 → CT G} {pu : CT G0 → α → CT G1} {fe : CT G1 → Res (β × CT G1)} {dn1 : CT G1 → CT G0} {bk1 : CT G1 → CT G0 → CT G1} {put : CT G → List β → CT G'}
    (u : Upd G i (sOwn PAny (oL ce)) G' put) (hx : A.X.N[i]? = some x) (hxl : A.X.env.scope.names.lookup x = some .local) (hS : A.S i)
    (hi : IX A G tg iter ci fi) (ok : BlkOk A.X.N A.X.env.scope scope own) (wc : WipeC 0 (own.map (fun x : Str × Nat => x.2)) G G0 dn bk)
    (hg : ∀ s H C cl fp, GX (A.blk (own.map (fun x : Str × Nat => x.2)) s H scope C cl fp) G0 tg ci G1 pu) (he : ∀ s H C cl fp, EX (A.blk (own.map (fun x : Str × Nat => x.2)) s H scope C cl fp) G1 elt (rV ce) fe)
    (wc1 : WipeC 0 (own.map (fun x : Str × Nat => x.2)) G1 G0 dn1 bk1) (hsw : swapsWith (.ListComp elt [⟨tg, iter, [], 0⟩] scope pos) (some (.Name x px)) spos.line A.X.env = pure true) (hs : ∀ x, foldedSetIterable iter A.X.env x = pure x := by intro _; rfl) :
    SX A G (.Assign [.Name x px] (.ListComp elt [⟨tg, iter, [], 0⟩] scope pos) spos) G' R (fun p => Res.bind (Res.bind (fi p) fun y => Res.bind (mapR y.1 (fun x q => Res.bind (fe (pu q x)) fun z => .ok (z.1, dn1 z.2)) (dn y.2)) fun z => .ok (z.1, bk y.2 z.2)) fun y => .ok (.nx (put y.2 y.1))) := by
  refine ps_weak (ps_setLc A.calm A.nd hx hxl hsw hi ok (g := tG (A.blk (own.map (fun x : Str × Nat => x.2)) A.X.s_0 A.X.H_0 scope 0 [] []) ci G0 G1 pu) (tt := tT (A.blk (own.map (fun x : Str × Nat => x.2)) A.X.s_0 A.X.H_0 scope 0 [] []) G1 (fun q => .ok (true, q))) (te := tE (A.blk (own.map (fun x : Str × Nat => x.2)) A.X.s_0 A.X.H_0 scope 0 [] []) G1 (rV ce) fe)
    (fun s H C cl fp => hg s H C cl fp) (fun s H C cl fp => pts_weak pts_nil fun o H Q ⟨p, L, w, cr, k⟩ => k L H Stp.refl w cr) (fun s H C cl fp => he s H C cl fp) hs) fun D o H q => st_reads st_o u hS (fun o H Q q => lc_reads (A := A) (A.blk (own.map (fun x : Str × Nat => x.2)) A.X.s_0 A.X.H_0 scope 0 [] []) rfl blk_S wc wc1 ?_) q
  have e : ∀ (y : List α) (b : CT G0), lcL y (fun x q => Res.bind ((fun q => Res.ok (true, q)) (pu q x)) fun t => if t.1 = true then Res.bind (fe t.2) fun z => .ok (some z.1, dn1 z.2) else .ok (none, dn1 t.2)) b = mapR y (fun x q => Res.bind (fe (pu q x)) fun z => .ok (z.1, dn1 z.2)) b := fun y b => by
    rw [← lcL_some]
    simp only [Res.bind_ok, Res.bind_assoc, if_true]
  simp only [e]
  exact q
theorem sx_setLcIf {α β : Type} {ci : Cod α} {ce : Cod β} {G0 G1 : Ctx} {i : Nat} {x : Str} {px spos : Pos} {elt tg iter c : Expr} {scope : Scope} {own : List (Str × Nat)} {pos : Pos} {fi : CT G → Res (List α × CT G)} {dn : CT G → CT G0} {bk : CT G → CT G0 → CT G} {pu : CT G0 → α → CT G1} {ft : CT G1 → Res (Bool × CT G1)} {fe : CT G1 → Res (β × CT G1)} {dn1 : CT G1 → CT G0} {bk1 : CT G1 → CT G0 → CT G1} {put : CT G → List β → CT G'}
    (u : Upd G i (sOwn PAny (oL ce)) G' put) (hx : A.X.N[i]? = some x) (hxl : A.X.env.scope.names.lookup x = some .local) (hS : A.S i)
    (hi : IX A G tg iter ci fi) (ok : BlkOk A.X.N A.X.env.scope scope own) (wc : WipeC 0 (own.map (fun x : Str × Nat => x.2)) G G0 dn bk)
    (hg : ∀ s H C cl fp, GX (A.blk (own.map (fun x : Str × Nat => x.2)) s H scope C cl fp) G0 tg ci G1 pu) (ht : ∀ s H C cl fp, TX (A.blk (own.map (fun x : Str × Nat => x.2)) s H scope C cl fp) G1 c ft) (he : ∀ s H C cl fp, EX (A.blk (own.map (fun x : Str × Nat => x.2)) s H scope C cl fp) G1 elt (rV ce) fe)
    (wc1 : WipeC 0 (own.map (fun x : Str × Nat => x.2)) G1 G0 dn1 bk1) (hsw : swapsWith (.ListComp elt [⟨tg, iter, [c], 0⟩] scope pos) (some (.Name x px)) spos.line A.X.env = pure true) (hs : ∀ x, foldedSetIterable iter A.X.env x = pure x := by intro _; rfl) :
    SX A G (.Assign [.Name x px] (.ListComp elt [⟨tg, iter, [c], 0⟩] scope pos) spos) G' R (fun p => Res.bind (Res.bind (fi p) fun y => Res.bind (lcL y.1 (fun x q => Res.bind (ft (pu q x)) fun t => if t.1 = true then Res.bind (fe t.2) fun z => .ok (some z.1, dn1 z.2) else .ok (none, dn1 t.2)) (dn y.2)) fun z => .ok (z.1, bk y.2 z.2)) fun y => .ok (.nx (put y.2 y.1))) :=
  ps_weak (ps_setLc A.calm A.nd hx hxl hsw hi ok (g := tG (A.blk (own.map (fun x : Str × Nat => x.2)) A.X.s_0 A.X.H_0 scope 0 [] []) ci G0 G1 pu) (tt := tT (A.blk (own.map (fun x : Str × Nat => x.2)) A.X.s_0 A.X.H_0 scope 0 [] []) G1 ft) (te := tE (A.blk (own.map (fun x : Str × Nat => x.2)) A.X.s_0 A.X.H_0 scope 0 [] []) G1 (rV ce) fe)
    (fun s H C cl fp => hg s H C cl fp) (fun s H C cl fp => pts_one (ht s H C cl fp)) (fun s H C cl fp => he s H C cl fp) hs) fun D o H q => st_reads st_o u hS (fun o H Q q => lc_reads (A := A) (A.blk (own.map (fun x : Str × Nat => x.2)) A.X.s_0 A.X.H_0 scope 0 [] []) rfl blk_S wc wc1 q) q

/-! ### enumerate -/
def enumL {α : Type} (xs : List α) : List (Int × α) := xs.zipIdx.map fun z => ((z.2 : Int), z.1)
theorem enumL_len {α : Type} {xs : List α} : (enumL xs).length = xs.length := by unfold enumL; rw [List.length_map, List.length_zipIdx]
theorem enumL_get {α : Type} {xs : List α} {i : Nat} {x : α} (h : xs[i]? = some x) : (enumL xs)[i]? = some ((i : Int), x) := by
  unfold enumL
  rw [List.getElem?_map, List.getElem?_zipIdx, h]
  simp
theorem ix_enum {α : Type} {c : Cod α} {a : Expr} {elts : List Expr} {kk : Nat} {tpos p pos : Pos} {f : CT G → Res (List α × CT G)} (hg : Gl A.X "enumerate") (hm : A.X.mg "enumerate" = none) (h : EX A G a (rV (cL c)) f) (hs : starEach [a] A.X.env = [(false, eval a A.X.env)] := by rfl) :
    IX A G (.Tuple elts kk tpos) (.Call (.Name "enumerate" p) [a] [] pos) (cT (aCons cI (aOne c))) (fun p => Res.bind (f p) fun y => .ok (enumL y.1, y.2)) :=
  pi_weak (pi_enum hg hm (ax_one h (by rw [hs]; rfl)) hs) fun o H Q ⟨p, L, w, cr, k⟩ => ⟨p, L, w, cr, k.bind.imp fun y _ q vs L' H' s w' c' ⟨v, e, a, ws, e2, h1, hl, hp⟩ => by
    subst e e2
    refine ⟨a, ws, rfl, SqL.of (rd_sub _ _ h1), q L' H' _ (fun H => SqL A.X.K H a ws) (YPair (fun i => some (.int (i : Nat))) (fun i => ws[i]?)) s w' c' ⟨?_, ?_, fun L2 H2 s2 => SqL.of (rd_sub _ _ (s2.rd _ _ h1)), fun i L2 H2 v H3 hi s2 w2 hy => ?_⟩⟩
    · rw [enumL_len, ← paired_len hp]; exact walk_enum
    · rw [enumL_len, ← paired_len hp]; exact hl
    · obtain ⟨T, x, z, rfl, hT, rfl, hx, hz⟩ := hy
      cases hx
      obtain ⟨u, hu, hc⟩ := paired_getL hp hz
      obtain ⟨t1, t2⟩ := ext_val (o := .tup [V.int (i : Nat), z]) w2 hT
      exact ⟨_, _, t1, t2, enumL_get hu, T, _, rfl, .inl (rd_mk setL_same upd_same), .int (i : Nat), [z], rfl, rfl, z, rfl, c.mono _ _ _ _ _ (t1.stp.rd) (c.mono _ _ _ _ _ s2.rd hc)⟩⟩

/-! ### methods of values -/
/-- a method that changes nothing -/
def MtV (A : Amb) (T id : String) {α β γ : Type} (c : Cod α) (as : ArgC β) (k : α → β → Option γ) (r : Rt γ) : Prop :=
  ∃ t, MtR A.X id t ∧ (∀ L H v x, c.see A.X.K (rd L H) v x → tyV A.X.K T v H) ∧ ∀ (L : Lab) (H : Hp) (v : V) (ws : List V) (x : α) (y : β) (z : γ) (Q : VK), Wf L H → c.see A.X.K (rd L H) v x → as.see A.X.K (rd L H) ws y → k x y = some z →
    (∀ v L' H', Ext L H L' H' → Wf L' H' → r.rel A.X.K L H L' H' v z → Q v H') → t v ws H Q
theorem mtv_core {α β γ : Type} {c : Cod α} {as : ArgC β} {k : α → β → Option γ} {r : Rt γ} {T : String} {t : V → List V → Hp → VK → Prop} {f : CT G → Res (α × CT G)} {fa : CT G → Res (β × CT G)} (ty : ∀ L H v x, c.see A.X.K (rd L H) v x → tyV A.X.K T v H)
    (pr : ∀ (L : Lab) (H : Hp) (v : V) (ws : List V) (x : α) (y : β) (z : γ) (Q : VK), Wf L H → c.see A.X.K (rd L H) v x → as.see A.X.K (rd L H) ws y → k x y = some z → (∀ v L' H', Ext L H L' H' → Wf L' H' → r.rel A.X.K L H L' H' v z → Q v H') → t v ws H Q) {o : St} {H : Hp} {Q : VK}
    (q : tE A G r (fun p => Res.bind (f p) fun y => Res.bind (fa y.2) fun z => Res.bind (ofO (k y.1 z.1)) fun w => .ok (w, z.2)) o H Q) : tE A G (rV c) f o H fun x H1 => tyV A.X.K T x H1 ∧ tA A G as fa o H1 fun xs H2 => t x xs H2 Q := by
  obtain ⟨p, L, w, cr, kk⟩ := q
  refine run1 w cr kk fun x p1 v L1 H1 s1 w1 c1 r1 g1 => ⟨ty _ _ _ _ r1, p1, L1, w1, c1, g1.bind.imp fun y _ gy ws L2 H2 s2 w2 c2 r2 => ?_⟩
  obtain ⟨z, e, g3⟩ := good_ofO gy
  exact pr L2 H2 v ws x y.1 z Q w2 (c.mono _ _ _ _ _ s2.rd r1) r2 e fun v L' H' ex w' rl => g3 v L' H' ((s1.trans s2).trans ex.stp) w' (c2.ext w2 ex) (r.pre _ _ _ _ _ _ _ _ _ (s1.trans s2) rl)
theorem ex_mv {α β γ : Type} {T id : String} {name : Str} {a e : Expr} {es : List Expr} {ap cp : Pos} {c : Cod α} {as : ArgC β} {k : α → β → Option γ} {r : Rt γ} {f : CT G → Res (α × CT G)} {fa : CT G → Res (β × CT G)} (h : MtV A T id c as k r)
    (pa : PlainAttrs T) (slot : PySem.Slot T name id) (hty : typeOf (.builtin id) = pure (.type "method_descriptor")) (ho : EX A G a (rV c) f) (ha : AX A G (e :: es) as fa)
    (hbase : attributeBase a name A.X.env (eval a A.X.env) = eval a A.X.env := by rfl)
    (hfew : ((backTo cp (starEach (e :: es) A.X.env)).all (fun x => !x.1) && (backToKw cp (keywordEach [] A.X.env)).all (fun x => x.1.isSome) && decide ((e :: es).length + ([] : List Keyword).length + (if ([] : List Keyword).isEmpty then 0 else 1) < 30)) = true := by rfl)
    (hline : (ap.endLine == cp.line) = true := by rfl) (hs : starEach (e :: es) A.X.env = (false, eval e A.X.env) :: starEach es A.X.env := by rfl) (hplain : (backTo cp (starEach es A.X.env)).any (·.1) = false := by rfl) :
    EX A G (.Call (.Attribute a name ap) (e :: es) [] cp) r (fun p => Res.bind (f p) fun y => Res.bind (fa y.2) fun z => Res.bind (ofO (k y.1 z.1)) fun w => .ok (w, z.2)) := by
  obtain ⟨t, hr, ty, pr⟩ := h
  exact pe_weak (pe_bm pa slot hty hr ho ha hbase hfew hline hs hplain) fun o H Q q => mtv_core ty pr q
/-- the first place of an equal one -/
def idxO {α β : Type} (t : α → PyData) (u : β → PyData) (xs : List α) (y : β) : Option Int := (xs.findIdx? fun x => PyData.eqv (t x) (u y)).map fun j => (j : Int)
theorem mv_index {α β : Type} {c : Cod α} {d : Cod β} {t : α → PyData} {u : β → PyData} {n m : Nat} (h1 : DC c t n) (h2 : DC d u m) (hn : n + 1 ≤ 64) (hm : m ≤ 64) : MtV A "list" "list.index" (cL c) (aOne d) (idxO t u) (rV cI) :=
  ⟨_, mt_indexD room65, fun L H v x ⟨a, vs, e, hq, _⟩ => by subst e; exact .inl ⟨rfl, _, SqL.of (rd_sub _ _ hq)⟩, fun L H v ws x y z Q w q1 ⟨v2, e2, q2⟩ hk q => by
    subst e2
    unfold idxO at hk
    cases ej : x.findIdx? fun z => PyData.eqv (t z) (u y) with
    | none => rw [ej] at hk; cases hk
    | some j =>
      rw [ej] at hk
      cases hk
      obtain ⟨hj, hp, hno⟩ := List.findIdx?_eq_some_iff_getElem.mp ej
      have D1 := dc_l h1 _ _ _ _ q1
      have Z1 := shaped_of (dc_l h1) hn q1
      obtain ⟨a, vs, rfl, _⟩ := q1
      exact ⟨a, v2, u y, x.map t, j, t x[j], rfl, rfl, dp_same rd_sub D1.1, dp_same rd_sub (h2 _ _ _ _ q2).1, Z1, shaped_of h2 hm q2, by rw [List.getElem?_map, List.getElem?_eq_getElem hj]; rfl, by simpa using hp, fun i z' hi hz => by
        have hil : i < x.length := by omega
        rw [List.getElem?_map, List.getElem?_eq_getElem hil] at hz
        cases hz
        simpa using hno i hi, q _ L H Ext.refl w rfl⟩⟩

/-! ### in, for tuples of flat things -/
def FlatQ {α : Type} [DecidableEq α] (c : Cod α) : Prop := ∀ K R v w x y, c.see K R v x → c.see K R w y → flatV v = true ∧ eqV w v = decide (x = y)
theorem fq_i : FlatQ cI := fun K R v w x y h1 h2 => by
  cases h1; cases h2
  refine ⟨rfl, ?_⟩
  show decide (y = x) = _
  exact decide_eq_decide.mpr eq_comm
theorem fq_s : FlatQ cS := fun K R v w x y h1 h2 => by
  obtain ⟨rfl, _⟩ := h1; obtain ⟨rfl, _⟩ := h2
  refine ⟨rfl, ?_⟩
  show (y == x) = _
  by_cases h : x = y
  · rw [decide_eq_true h, h]; exact beq_self_eq_true y
  · rw [decide_eq_false h]; exact beq_false_of_ne fun e => h e.symm
theorem flat_all {α : Type} [DecidableEq α] {c : Cod α} (h : FlatQ c) {K : Frag} {R : Hp} {v : V} {x : α} (hv : c.see K R v x) : ∀ {vs : List V} {xs : List α}, Paired (fun v x => c.see K R v x) vs xs → vs.all flatV = true ∧ inV v vs = decide (x ∈ xs)
  | _, _, .nil => ⟨rfl, by simp [inV]⟩
  | _, _, .cons r t => by
    obtain ⟨h1, h2⟩ := flat_all h hv t
    obtain ⟨h3, _⟩ := h K R _ _ _ _ r r
    obtain ⟨_, h4⟩ := h K R _ _ _ _ hv r
    refine ⟨by rw [List.all_cons, h3, h1]; rfl, ?_⟩
    show (eqV _ v || inV v _) = _
    rw [h2, h4, ← Bool.decide_or]
    exact decide_eq_decide.mpr List.mem_cons.symm
theorem ot_inTV {α : Type} [DecidableEq α] {c : Cod α} (h : FlatQ c) : OpT A (compareOp .In) c (cTV c) (fun x ys => some (decide (x ∈ ys))) (rV cB) := ⟨_, op_in_seq, fun L H vx vy x y z Q w q1 ⟨a, vs, e, hs, hl, hp⟩ h3 q => by
  subst e
  cases h3
  obtain ⟨t1, t2⟩ := flat_all h q1 hp
  exact ⟨a, vs, rfl, .inr (hs.same rd_sub).sq, (h _ _ _ _ _ _ q1 q1).1, t1, q _ L H Ext.refl w (by show V.bl _ = V.bl _; rw [if_neg Bool.false_ne_true, t2])⟩⟩
theorem ot_notInTV {α : Type} [DecidableEq α] {c : Cod α} (h : FlatQ c) : OpT A (compareOp .NotIn) c (cTV c) (fun x ys => some (!decide (x ∈ ys))) (rV cB) := ⟨_, op_notIn_seq, fun L H vx vy x y z Q w q1 ⟨a, vs, e, hs, hl, hp⟩ h3 q => by
  subst e
  cases h3
  obtain ⟨t1, t2⟩ := flat_all h q1 hp
  exact ⟨a, vs, rfl, .inr (hs.same rd_sub).sq, (h _ _ _ _ _ _ q1 q1).1, t1, q _ L H Ext.refl w (by show V.bl _ = V.bl _; rw [if_pos rfl, t2])⟩⟩
theorem ot_inLF {α : Type} [DecidableEq α] {c : Cod α} (h : FlatQ c) : OpT A (compareOp .In) c (cL c) (fun x ys => some (decide (x ∈ ys))) (rV cB) := ⟨_, op_in_seq, fun L H vx vy x y z Q w q1 ⟨a, vs, e, hs, hl, hp⟩ h3 q => by
  subst e
  cases h3
  obtain ⟨t1, t2⟩ := flat_all h q1 hp
  exact ⟨a, vs, rfl, .inl (SqL.of (rd_sub _ _ hs)), (h _ _ _ _ _ _ q1 q1).1, t1, q _ L H Ext.refl w (by show V.bl _ = V.bl _; rw [if_neg Bool.false_ne_true, t2])⟩⟩
theorem ot_notInLF {α : Type} [DecidableEq α] {c : Cod α} (h : FlatQ c) : OpT A (compareOp .NotIn) c (cL c) (fun x ys => some (!decide (x ∈ ys))) (rV cB) := ⟨_, op_notIn_seq, fun L H vx vy x y z Q w q1 ⟨a, vs, e, hs, hl, hp⟩ h3 q => by
  subst e
  cases h3
  obtain ⟨t1, t2⟩ := flat_all h q1 hp
  exact ⟨a, vs, rfl, .inl (SqL.of (rd_sub _ _ hs)), (h _ _ _ _ _ _ q1 q1).1, t1, q _ L H Ext.refl w (by show V.bl _ = V.bl _; rw [if_pos rfl, t2])⟩⟩
theorem sub_ttv {α : Type} {c : Cod α} {n : Nat} (hn : n ≤ sizeLine) : Sub (cT (aAll c n)) (cTV c) id := fun K R v x ⟨a, vs, e, h, h1, h2⟩ => ⟨a, vs, e, h, by rw [h1]; exact hn, h2⟩
end
end AC
set_option Elab.async false
set_option linter.all false
set_option maxRecDepth 100000
/-! TL13: dicts, instances, repr. -/
namespace AC
open PySem L2 PyProof

/-! ### dicts -/
/-- keys: ints or texts -/
structure KeyC (κ : Type) where
  c : Cod κ
  key : κ → Key
  inj : ∀ a b, key a = key b → a = b
  is : ∀ K R v x, c.see K R v x → v = kV (key x)
  fixed : ∀ K R R' v x, c.see K R v x → c.see K R' v x
def kI : KeyC Int := ⟨cI, .inl, fun _ _ h => Sum.inl.inj h, fun _ _ _ _ h => h, fun _ _ _ _ _ h => h⟩
def kS : KeyC Str := ⟨cS, .inr, fun _ _ h => Sum.inr.inj h, fun _ _ _ _ h => h.1, fun _ _ _ _ _ h => h⟩
def EntR {κ α : Type} (kc : KeyC κ) (c : Cod α) (K : Frag) (R : Hp) (e : Key × V) (x : κ × α) : Prop := e.1 = kc.key x.1 ∧ kc.c.see K R (kV e.1) x.1 ∧ c.see K R e.2 x.2
theorem EntR.mono {κ α : Type} {kc : KeyC κ} {c : Cod α} {K : Frag} {R R' : Hp} (s : Same R R') {e : Key × V} {x : κ × α} (h : EntR kc c K R e x) : EntR kc c K R' e x := ⟨h.1, kc.fixed _ _ _ _ _ h.2.1, c.mono _ _ _ _ _ s h.2.2⟩
/-- a dict that stays as it is -/
def cD {κ α : Type} (kc : KeyC κ) (c : Cod α) : Cod (List (κ × α)) := ⟨fun K R v xs => ∃ a kvs, v = .ref a ∧ R a = some (.dK kvs) ∧ kvs.length ≤ sizeLine ∧ Paired (EntR kc c K R) kvs xs, fun K R R' v x s ⟨a, kvs, e, h, hl, h'⟩ => ⟨a, kvs, e, s _ _ h, hl, paired_mono (fun _ _ q => q.mono s) h'⟩⟩
def oD {κ α : Type} (kc : KeyC κ) (c : Cod α) : OCod (List (κ × α)) := ⟨fun K R M H l v xs => ∃ p kvs, v = .ref p ∧ M p = some l ∧ H p = some (.dK kvs) ∧ kvs.length ≤ sizeLine ∧ Paired (EntR kc c K R) kvs xs,
  fun K R R' M M' H H' l v x s t ⟨p, kvs, e, hm, hp, hl, h'⟩ => ⟨p, kvs, e, (t p l hm).1, (t p l hm).2.trans hp, hl, paired_mono (fun _ _ q => q.mono s) h'⟩⟩
theorem frz_d {κ α : Type} {kc : KeyC κ} {c : Cod α} : Frz (oD kc c) (cD kc c) := fun K R R' M H v x s t ⟨p, kvs, e, hm, hp, hl, h'⟩ => ⟨p, kvs, e, (t p _ hm rfl).trans hp, hl, paired_mono (fun _ _ q => q.mono s) h'⟩
theorem ho_d {κ α : Type} {kc : KeyC κ} {c : Cod α} (h : HardC c) : HardO (oD kc c) := fun K R1 R2 M H l v x s ⟨p, kvs, e, hm, hp, hl, q⟩ => ⟨p, kvs, e, hm, hp, hl, paired_mono (fun _ _ z => ⟨z.1, kc.fixed _ _ _ _ _ z.2.1, h K R1 R2 _ _ s z.2.2⟩) q⟩
def getD {κ α : Type} [DecidableEq κ] (xs : List (κ × α)) (k : κ) : Option α := (xs.find? fun e => decide (e.1 = k)).map (·.2)
def putD {κ α : Type} [DecidableEq κ] (xs : List (κ × α)) (k : κ) (v : α) : List (κ × α) := if (xs.any fun e => decide (e.1 = k)) = true then xs.map (fun e => if e.1 = k then (e.1, v) else e) else xs ++ [(k, v)]
section
variable {κ α : Type} [DecidableEq κ] {kc : KeyC κ} {c : Cod α} {K : Frag} {R : Hp}
theorem key_dec {e : Key × V} {x : κ × α} (h : EntR kc c K R e x) (k : κ) : decide (e.1 = kc.key k) = decide (x.1 = k) := by
  rw [h.1]
  exact decide_eq_decide.mpr ⟨fun z => kc.inj _ _ z, fun z => by rw [z]⟩
theorem ent_get (k : κ) : ∀ {kvs : List (Key × V)} {xs : List (κ × α)}, Paired (EntR kc c K R) kvs xs → match getD xs k with | some x => ∃ v, valV kvs (kc.key k) = some v ∧ c.see K R v x | none => valV kvs (kc.key k) = none
  | _, _, .nil => rfl
  | e :: kvs, x :: xs, .cons r t => by
    have ih := ent_get k t
    have hd := key_dec r k
    by_cases hx : x.1 = k
    · have e1 : getD (x :: xs) k = some x.2 := by unfold getD; rw [List.find?_cons_of_pos (by simpa using hx)]; rfl
      rw [e1]
      exact ⟨e.2, valV_pos (by rw [r.1, hx]), r.2.2⟩
    · have e1 : getD (x :: xs) k = getD xs k := by unfold getD; rw [List.find?_cons_of_neg (by simpa using hx)]
      rw [e1, valV_neg (fun z => hx (kc.inj _ _ (r.1.symm.trans z)))]
      exact ih
theorem ent_any (k : κ) : ∀ {kvs : List (Key × V)} {xs : List (κ × α)}, Paired (EntR kc c K R) kvs xs → (kvs.any fun e => decide (e.1 = kc.key k)) = xs.any fun e => decide (e.1 = k)
  | _, _, .nil => rfl
  | e :: kvs, x :: xs, .cons r t => by rw [List.any_cons, List.any_cons, ent_any k t, key_dec r k]
theorem ent_map {k : κ} {v : V} {y : α} (hv : c.see K R v y) : ∀ {kvs : List (Key × V)} {xs : List (κ × α)}, Paired (EntR kc c K R) kvs xs → Paired (EntR kc c K R) (kvs.map fun e => if e.1 = kc.key k then (e.1, v) else e) (xs.map fun e => if e.1 = k then (e.1, y) else e)
  | _, _, .nil => .nil
  | e :: kvs, x :: xs, .cons r t => by
    refine .cons ?_ (ent_map hv t)
    show EntR kc c K R (if e.1 = kc.key k then (e.1, v) else e) (if x.1 = k then (x.1, y) else x)
    by_cases hx : x.1 = k
    · rw [if_pos hx, if_pos (by rw [r.1, hx])]
      exact ⟨r.1, r.2.1, hv⟩
    · rw [if_neg hx, if_neg (fun z => hx (kc.inj _ _ (r.1.symm.trans z)))]
      exact r
theorem ent_put {k : κ} {w v : V} {y : α} (hk : kc.c.see K R w k) (hv : c.see K R v y) {kvs : List (Key × V)} {xs : List (κ × α)} (h : Paired (EntR kc c K R) kvs xs) : Paired (EntR kc c K R) (putK kvs (kc.key k) v) (putD xs k y) := by
  unfold putK putD
  rw [ent_any k h]
  split
  · exact ent_map hv h
  · exact paired_append h (.cons ⟨rfl, by rw [← kc.is _ _ _ _ hk]; exact hk, hv⟩ .nil)
theorem ent_merge : ∀ {kvs : List (Key × V)} {xs : List (κ × α)} {kvs0 : List (Key × V)} {xs0 : List (κ × α)}, Paired (EntR kc c K R) kvs xs → Paired (EntR kc c K R) kvs0 xs0 → Paired (EntR kc c K R) (mergeK kvs0 kvs) (xs.foldl (fun acc e => putD acc e.1 e.2) xs0)
  | _, _, _, _, .nil, h => h
  | e :: kvs, x :: xs, _, _, .cons r t, h => by
    show Paired _ (mergeK (putK _ e.1 e.2) kvs) (xs.foldl (fun acc e => putD acc e.1 e.2) (putD _ x.1 x.2))
    refine ent_merge t ?_
    have := ent_put (k := x.1) r.2.1 r.2.2 h
    rw [← r.1] at this
    exact this
end
section
variable {A : Amb} {G G' : Ctx} {ρ : Type} {R : Rr ρ}
theorem room1 : A.X.A.units + 1 < cLine := by have := A.room.un; omega
/-- d[k] -/
theorem ex_ixD {κ α : Type} [DecidableEq κ] {kc : KeyC κ} {c : Cod α} {a b : Expr} {pos : Pos} {f : CT G → Res (List (κ × α) × CT G)} {g : CT G → Res (κ × CT G)} (ha : EX A G a (rV (cD kc c)) f) (hb : EX A G b (rV kc.c) g) (hs : NoSl b) :
    EX A G (.Subscript a b pos) (rV c) (fun p => Res.bind (f p) fun y => Res.bind (g y.2) fun z => Res.bind (ofO (getD y.1 z.1)) fun w => .ok (w, z.2)) :=
  pe_weak (pe_dget room1 ha hb hs) fun o H Q q => bin_core (r := rV c) (r2 := fun x y H2 Q => ∃ a v, x = .ref a ∧ DGet H2 a y (some v) ∧ Q v H2) (fun L H vx vy x y z Q w h1 h2 h3 q => by
    obtain ⟨a, kvs, rfl, hq, hl, hp⟩ := h1
    have := ent_get y hp
    rw [h3] at this
    obtain ⟨v, e1, e2⟩ := this
    refine ⟨a, v, rfl, ?_, q v L H Ext.refl w e2⟩
    rw [kc.is _ _ _ _ h2, ← e1]
    exact DGet.k (rd_sub _ _ hq)) q
theorem ot_inD {κ α : Type} [DecidableEq κ] {kc : KeyC κ} {c : Cod α} : OpT A (compareOp .In) kc.c (cD kc c) (fun k xs => some (getD xs k).isSome) (rV cB) :=
  ⟨fun y x H Q => ∃ a o, x = .ref a ∧ DGet H a y o ∧ Q (.bl o.isSome) H, fun pins s o H x y v u Q I rx ry ⟨a, ov, ex, g, q⟩ => by
    subst ex
    obtain rfl : u = Value.ref a := ry
    exact d_in room1 I g rx fun s3 I3 => ⟨.bl ov.isSome, H, I3, rfl, q⟩, fun L H vx vy x y z Q w h1 h2 h3 q => by
    obtain ⟨a, kvs, rfl, hq, hl, hp⟩ := h2
    cases h3
    refine ⟨a, _, rfl, by rw [kc.is _ _ _ _ h1]; exact DGet.k (rd_sub _ _ hq), q _ L H Ext.refl w ?_⟩
    have := ent_get x hp
    cases e : getD y x with
    | none => rw [e] at this; show V.bl _ = V.bl _; rw [this]; rfl
    | some z => rw [e] at this; obtain ⟨v, e1, _⟩ := this; show V.bl _ = V.bl _; rw [e1]; rfl⟩
theorem ot_notInD {κ α : Type} [DecidableEq κ] {kc : KeyC κ} {c : Cod α} : OpT A (compareOp .NotIn) kc.c (cD kc c) (fun k xs => some (getD xs k).isNone) (rV cB) :=
  ⟨fun y x H Q => ∃ a o, x = .ref a ∧ DGet H a y o ∧ Q (.bl (!o.isSome)) H, fun pins s o H x y v u Q I rx ry ⟨a, ov, ex, g, q⟩ => by
    subst ex
    obtain rfl : u = Value.ref a := ry
    exact d_notIn room1 I g rx fun s3 I3 => ⟨.bl (!ov.isSome), H, I3, rfl, q⟩, fun L H vx vy x y z Q w h1 h2 h3 q => by
    obtain ⟨a, kvs, rfl, hq, hl, hp⟩ := h2
    cases h3
    refine ⟨a, _, rfl, by rw [kc.is _ _ _ _ h1]; exact DGet.k (rd_sub _ _ hq), q _ L H Ext.refl w ?_⟩
    have := ent_get x hp
    cases e : getD y x with
    | none => rw [e] at this; show V.bl _ = V.bl _; rw [this]; rfl
    | some z => rw [e] at this; obtain ⟨v, e1, _⟩ := this; show V.bl _ = V.bl _; rw [e1]; rfl⟩
/-- displays of dicts -/
def tK {κ α : Type} (A : Amb) (G : Ctx) (kc : KeyC κ) (c : Cod α) (f : CT G → Res (List (κ × α) × CT G)) (o : St) (H : Hp) (Q : List (V × V) → Hp → Prop) : Prop :=
  ∃ (p : CT G) (L : Lab), Wf L H ∧ CR A.X.K 0 G p L H o ∧ Good A (f p) L H o fun y => ∀ (ps : List (V × V)) (L' : Lab) (H' : Hp), Stp L H L' H' → Wf L' H' → CR A.X.K 0 G y.2 L' H' o → Paired (fun (q : V × V) x => kc.c.see A.X.K (rd L' H') q.1 x.1 ∧ c.see A.X.K (rd L' H') q.2 x.2) ps y.1 → Q ps H'
def KX {κ α : Type} (A : Amb) (G : Ctx) (pos : Pos) (keys : List (Option Expr)) (vals : List Expr) (kc : KeyC κ) (c : Cod α) (f : CT G → Res (List (κ × α) × CT G)) : Prop := ∃ trs, PPs A.X pos keys vals trs ∧ ∀ o H Q, tK A G kc c f o H Q → tPairs trs o H Q
theorem kx_nil {κ α : Type} {kc : KeyC κ} {c : Cod α} {pos : Pos} : KX A G pos [] [] kc c (fun p => .ok ([], p)) := ⟨[], pps_nil, fun o H Q ⟨p, L, w, cr, k⟩ => k [] L H Stp.refl w cr .nil⟩
theorem kx_cons {κ α : Type} {kc : KeyC κ} {c : Cod α} {pos : Pos} {a b : Expr} {keys : List (Option Expr)} {vals : List Expr} {f : CT G → Res (κ × CT G)} {g : CT G → Res (α × CT G)} {h : CT G → Res (List (κ × α) × CT G)} (ha : EX A G a (rV kc.c) f) (hb : EX A G b (rV c) g) (hr : KX A G pos keys vals kc c h) :
    KX A G pos (some a :: keys) (b :: vals) kc c (fun p => Res.bind (f p) fun y => Res.bind (g y.2) fun z => Res.bind (h z.2) fun u => .ok ((y.1, z.1) :: u.1, u.2)) := by
  obtain ⟨trs, h1, h2⟩ := hr
  refine ⟨_, pps_cons ha hb h1, fun o H Q ⟨p, L, w, cr, k⟩ => ?_⟩
  refine run1 w cr k fun x p1 v L1 H1 s1 w1 c1 r1 g1 => run1 w1 c1 g1 fun y p2 u L2 H2 s2 w2 c2 r2 g2 => ?_
  exact h2 _ _ _ ⟨p2, L2, w2, c2, g2.bind.imp fun z _ gz ps L3 H3 s3 w3 c3 r3 => gz ((v, u) :: ps) L3 H3 ((s1.trans s2).trans s3) w3 c3 (.cons ⟨kc.fixed _ _ _ _ _ r1, c.mono _ _ _ _ _ s3.rd r2⟩ r3)⟩
theorem ent_of {κ α : Type} {kc : KeyC κ} {c : Cod α} {K : Frag} {R : Hp} : ∀ {ps : List (V × V)} {xs : List (κ × α)}, Paired (fun (q : V × V) x => kc.c.see K R q.1 x.1 ∧ c.see K R q.2 x.2) ps xs → ∃ kvs : List (Key × V), ps = kvs.map (fun kv => (kV kv.1, kv.2)) ∧ Paired (EntR kc c K R) kvs xs
  | _, _, .nil => ⟨[], rfl, .nil⟩
  | q :: ps, x :: xs, .cons r t => by
    obtain ⟨kvs, e1, e2⟩ := ent_of t
    have hk := kc.is _ _ _ _ r.1
    refine ⟨(kc.key x.1, q.2) :: kvs, ?_, .cons ⟨rfl, by rw [← hk]; exact r.1, r.2⟩ e2⟩
    rw [List.map_cons, ← e1, ← hk]
theorem own_newD {κ α : Type} {kc : KeyC κ} {c : Cod α} {K : Frag} {L0 L : Lab} {H0 H : Hp} (w : Wf L H) {p : Addr} {kvs : List (Key × V)} {xs : List (κ × α)} (hL : L p = none) (hf : ¬ Frm L0 H0 p) (hl : kvs.length ≤ sizeLine) (hp : Paired (EntR kc c K (rd L H)) kvs xs) : OwnAt (oD kc c) K L0 H0 L (upd H p (.dK kvs)) (.ref p) xs := by
  have sm : Same (rd L H) (rd L (upd H p (.dK kvs))) := fun a ob qa => by
    obtain ⟨⟨l', e1⟩, e2⟩ := rd_of qa
    exact rd_mk e1 (by rw [upd_ne fun e => by rw [e, hL] at e1; cases e1]; exact e2)
  refine ⟨fun a => if a = p then some [] else none, fun a m e => ?_, p, kvs, rfl, if_pos rfl, upd_same, hl, paired_mono (fun _ _ q => q.mono sm) hp⟩
  have e : (if a = p then some ([] : List Nat) else none) = some m := e
  by_cases ea : a = p
  · rw [if_pos ea] at e; cases e
    rw [ea, upd_same]
    exact ⟨hL, trivial, hf⟩
  · rw [if_neg ea] at e; cases e
theorem ex_disp {κ α : Type} [DecidableEq κ] {kc : KeyC κ} {c : Cod α} {keys : List (Option Expr)} {vals : List Expr} {pos : Pos} {f : CT G → Res (List (κ × α) × CT G)} (h : KX A G pos keys vals kc c f) (hall : keys.all (·.isSome) = true := by rfl) (hl : keys.length = vals.length := by rfl) (h0 : keys ≠ [] := by exact fun e => nomatch e) (h15 : keys.length ≤ 15 := by decide) :
    EX A G (.Dict keys vals pos) (rO (oD kc c)) (fun p => Res.bind (f p) fun y => if y.1.length ≤ 15 then .ok (y.1.foldl (fun acc e => putD acc e.1 e.2) [], y.2) else .bad) := by
  obtain ⟨trs, h1, h2⟩ := h
  refine pe_weak (pe_disp h1 hall hl h0 h15) fun o H Q ⟨p, L, w, cr, k⟩ q hq => ?_
  obtain ⟨t1, t2⟩ := ext_new (o := .dK []) w hq
  refine h2 _ _ _ ⟨p, L, t2, cr.ext w t1, (k.bind.step t1.stp).imp fun y _ gy ps L' H' s' w' c' hp => ?_⟩
  have fq : Frm L (upd H q (.dK [])) q := ⟨by rw [upd_same]; simp, .inl (w.none hq)⟩
  obtain ⟨e1, e2⟩ := s' q fq
  rw [upd_same] at e2
  have e1 : L' q = none := e1.trans (w.none hq)
  obtain ⟨kvs, ek, he⟩ := ent_of hp
  have hlen := paired_len he
  by_cases hc : y.1.length ≤ 15
  · rw [if_pos hc] at gy
    refine ⟨e2, kvs, ek, by omega, ?_⟩
    have s2 : Stp L H L' (upd H' q (.dK (mergeK [] kvs))) := fun a f => by
      have ne : a ≠ q := fun e => f.1 (by rw [e]; exact hq)
      obtain ⟨z1, z2⟩ := s' a (t1.stp.frm f)
      exact ⟨z1, by rw [upd_ne ne, z2, upd_ne ne]⟩
    have w2 : Wf L' (upd H' q (.dK (mergeK [] kvs))) := ⟨fun a ha => by
      rw [upd_ne fun e => ha (by rw [e]; exact e1)]; exact w'.dom a ha, fun a k' l e => by
      rw [upd_ne fun e' => by rw [e', e1] at e; cases e]; exact w'.soft a k' l e⟩
    have sm : Same (rd L' H') (rd L' (upd H' q (.dK (mergeK [] kvs)))) := fun a ob qa => by
      obtain ⟨⟨l', z1⟩, z2⟩ := rd_of qa
      exact rd_mk z1 (by rw [upd_ne fun e => by rw [e, e1] at z1; cases z1]; exact z2)
    refine (show ∀ v L' H', _ from gy) (.ref q) L' _ s2 w2 (c'.keep sm fun a j l _ e => ⟨rfl, upd_ne fun e' => by rw [e', e1] at e; cases e⟩) ?_
    refine own_newD (L0 := L) (H0 := H) w' e1 (fun f => f.1 hq) ?_ (ent_merge he .nil)
    have := length_mergeK kvs []
    rw [List.length_nil] at this
    rw [line_eq]; omega
  · rw [if_neg hc] at gy; exact gy.elim
theorem ex_dnew {κ α : Type} {kc : KeyC κ} {c : Cod α} {pos : Pos} : EX A G (.Dict [] [] pos) (rO (oD kc c)) (fun p => .ok ([], p)) := pe_weak pe_dnewK fun o H Q ⟨p, L, w, cr, k⟩ q hq => by
  obtain ⟨t1, t2⟩ := ext_new (o := .dK []) w hq
  exact k (.ref q) L _ t1.stp t2 (cr.ext w t1) (own_newD (L0 := L) (H0 := H) w (w.none hq) (fun f => f.1 hq) (Nat.zero_le _) .nil)
/-- x[k] = e, x a dict of one's own -/
def putO {κ α : Type} [DecidableEq κ] (xs : List (κ × α)) (k : κ) (v : α) : Option (List (κ × α)) := if xs.length < 16777216 then some (putD xs k v) else none
theorem sx_setD {κ α : Type} [DecidableEq κ] {kc : KeyC κ} {c : Cod α} {P : V → Prop} {i : Nat} {x : Str} {ek e : Expr} {p1 p2 pos : Pos} {g : CT G → List (κ × α)} {put : CT G → List (κ × α) → CT G} {fe : CT G → Res (α × CT G)} {fk : CT G → Res (κ × CT G)} (a : At G i (sOwn P (oD kc c)) g) (m : Mod G i (sOwn P (oD kc c)) put) (hN : A.X.N[i]? = some x) (hv : Vis A.X.env.scope x)
    (he : EX A G e (rV c) fe) (hk : EX A G ek (rV kc.c) fk) (hs : swapsWith e (some (.Subscript (.Name x p1) ek p2)) pos.line A.X.env = pure false) (hd : (x == ("__debug__" : Str)) = false := by decide) (hcd : (x == ("__classdict__" : Str)) = false := by decide) :
    SX A G (.Assign [.Subscript (.Name x p1) ek p2] e pos) G R (fun p => Res.bind (fe p) fun y => Res.bind (fk y.2) fun z => Res.bind (ofO (putO (g z.2) z.1 y.1)) fun xs => .ok (.nx (put z.2 xs))) := by
  refine ps_weak (ps_dput room1 (pe_var hN hv hd hcd) hk he hs) fun D o H ⟨p, L, w, cr, k⟩ => ⟨p, L, w, cr, k.bind.imp fun y _ gy v L1 H1 s1 w1 c1 r1 => ?_⟩
  obtain ⟨v0, _, ev, l0, vs0, e0, hm0, hp0, _⟩ := a.ok _ _ _ _ _ _ c1
  rw [Nat.zero_add] at ev
  subst e0
  refine ⟨.ref l0, ev, y.2, L1, w1, c1, (gy.bind.step s1).imp fun z _ gz vi L2 H2 s2 w2 c2 r2 => ?_⟩
  obtain ⟨xs, ex, gx⟩ := good_ofO gz
  obtain ⟨v1, hP, ev1, l, vs, e1, hm, hp, hl, hpp⟩ := a.ok _ _ _ _ _ _ c2
  rw [Nat.zero_add] at ev1 hm
  subst e1
  rw [ev] at ev1
  cases ev1
  unfold putO at ex
  have hlen := paired_len hpp
  have hll := line_eq
  have hL := sub_of hm
  by_cases hc : (g z.2).length < 16777216
  · rw [if_pos hc] at ex
    cases ex
    have hn : (putK vs (kc.key z.1) v).length ≤ sizeLine := by have := length_putK vs (kc.key z.1) v; omega
    refine ⟨l0, _, rfl, by rw [kc.is _ _ _ _ r2]; exact DPut.k (v := v) hp (by omega), ?_⟩
    have sm : Same (rd L2 H2) (rd L2 (upd H2 l0 (.dK (putK vs (kc.key z.1) v)))) := fun a ob qa => by
      obtain ⟨⟨l', z1⟩, z2⟩ := rd_of qa
      exact rd_mk z1 (by rw [upd_ne fun e => by rw [e, hL] at z1; cases z1]; exact z2)
    refine (show nxP A G R L H o D (.nx _) from gx) o L2 _ ((s1.trans s2).trans fun a f => ⟨rfl, upd_ne fun e => ?_⟩) ⟨fun a ha => ?_, fun a k' l' e => ?_⟩ (m.ok _ _ _ _ _ _ _ _ _ c2 sm (fun a j l' _ hj e => ⟨rfl, upd_ne fun e' => ?_⟩) ⟨.ref l0, hP, by rw [Nat.zero_add]; exact ev, l0, _, rfl, sub_mk (by rw [Nat.zero_add]; exact hL), upd_same, hn, ?_⟩) Keeps.refl
    · rcases f.2 with z | ⟨l', z⟩
      · rw [e, hL] at z; cases z
      · rw [e, hL] at z; cases z
    · by_cases ea : a = l0
      · rw [ea, upd_same]; simp
      · rw [upd_ne ea]; exact w2.dom a ha
    · by_cases ea : a = l0
      · rw [ea, hL] at e; cases e
        rw [ea, upd_same]
        trivial
      · rw [upd_ne ea]; exact w2.soft a k' l' e
    · rw [e', hL] at e
      have := (Prod.mk.inj (Option.some.inj e)).1
      omega
    · exact paired_mono (fun _ _ q => q.mono sm) (ent_put r2 (c.mono _ _ _ _ _ s2.rd r1) hpp)
  · rw [if_neg hc] at ex; cases ex

/-! ### instances -/
structure FldC (α : Type) where
  see : Frag → Hp → List (Str × V) → α → Prop
  mono : ∀ (K : Frag) (R R' : Hp) (fs : List (Str × V)) (x : α), Same R R' → see K R fs x → see K R' fs x
def fNil : FldC Unit := ⟨fun _ _ fs _ => fs = [], fun _ _ _ _ _ _ h => h⟩
def fSnoc {α β : Type} (fc : FldC α) (n : Str) (c : Cod β) : FldC (α × β) := ⟨fun K R fs x => ∃ fs' v, fs = fs' ++ [(n, v)] ∧ fc.see K R fs' x.1 ∧ c.see K R v x.2, fun K R R' fs x s ⟨fs', v, e, h1, h2⟩ => ⟨fs', v, e, fc.mono K R R' fs' _ s h1, c.mono K R R' v _ s h2⟩⟩
/-- an instance of the class at C that stays as it is -/
def cIns (C : Addr) {α : Type} (fc : FldC α) : Cod α := ⟨fun K R v x => ∃ a dx fs, v = .ref a ∧ R a = some (.ins C dx fs) ∧ fc.see K R fs x, fun K R R' v x s ⟨a, dx, fs, e, h1, h2⟩ => ⟨a, dx, fs, e, s _ _ h1, fc.mono K R R' fs x s h2⟩⟩
/-- the name is none of them -/
def NoKey {α : Type} (fc : FldC α) (n : Str) : Prop := ∀ K R fs x, fc.see K R fs x → (∀ e ∈ fs, e.1 ≠ n)
theorem nk_nil {n : Str} : NoKey fNil n := fun K R fs x h e he => by
  have h : fs = [] := h
  subst h
  cases he
theorem nk_snoc {α β : Type} {fc : FldC α} {n m : Str} {c : Cod β} (h : NoKey fc n) (hn : m ≠ n) : NoKey (fSnoc fc m c) n := fun K R fs x ⟨fs', v, e, h1, h2⟩ z hz => by
  subst e
  rcases List.mem_append.mp hz with q | q
  · exact h K R fs' _ h1 z q
  · have : z = (m, v) := by simpa using q
    rw [this]; exact hn
theorem look_none {n : Str} : ∀ {fs : List (Str × V)}, (∀ e ∈ fs, e.1 ≠ n) → fs.lookup n = none
  | [], _ => rfl
  | (k, v) :: fs, h => by
    have hk : (n == k) = false := beq_eq_false_iff_ne.mpr fun e => h (k, v) List.mem_cons_self e.symm
    simp only [List.lookup, hk]
    exact look_none fun e he => h e (List.mem_cons_of_mem _ he)
theorem look_snoc {n : Str} {v : V} : ∀ {fs : List (Str × V)}, (∀ e ∈ fs, e.1 ≠ n) → (fs ++ [(n, v)]).lookup n = some v
  | [], _ => by simp [List.lookup]
  | (k, w) :: fs, h => by
    have hk : (n == k) = false := beq_eq_false_iff_ne.mpr fun e => h (k, w) List.mem_cons_self e.symm
    rw [List.cons_append]
    simp only [List.lookup, hk]
    exact look_snoc fun e he => h e (List.mem_cons_of_mem _ he)
theorem look_app {n m : Str} {v : V} (hn : m ≠ n) : ∀ {fs : List (Str × V)}, (fs ++ [(m, v)]).lookup n = fs.lookup n
  | [] => by
    have hk : (n == m) = false := beq_eq_false_iff_ne.mpr fun e => hn e.symm
    show List.lookup n [(m, v)] = _
    simp only [List.lookup, hk]
  | (k, w) :: fs => by
    rw [List.cons_append]
    by_cases e : n = k
    · have hk : (n == k) = true := beq_iff_eq.mpr e
      simp only [List.lookup, hk]
    · have hk : (n == k) = false := beq_eq_false_iff_ne.mpr e
      simp only [List.lookup, hk]
      exact look_app hn
theorem put_snoc {n : Str} {v : V} : ∀ {fs : List (Str × V)}, (∀ e ∈ fs, e.1 ≠ n) → putF n v fs = fs ++ [(n, v)]
  | [], _ => rfl
  | (k, w) :: fs, h => by
    show (if k = n then (k, v) :: fs else (k, w) :: putF n v fs) = _
    rw [if_neg (h (k, w) List.mem_cons_self), put_snoc fun e he => h e (List.mem_cons_of_mem _ he)]
    rfl
/-- an attribute -/
def FPj {α β : Type} (fc : FldC α) (n : Str) (c : Cod β) (g : α → β) : Prop := ∀ K R fs x, fc.see K R fs x → ∃ v, fs.lookup n = some v ∧ c.see K R v (g x)
theorem fp_z {α β : Type} {fc : FldC α} {n : Str} {c : Cod β} (h : NoKey fc n) : FPj (fSnoc fc n c) n c Prod.snd := fun K R fs x ⟨fs', v, e, h1, h2⟩ => ⟨v, by rw [e]; exact look_snoc (h K R fs' _ h1), h2⟩
theorem fp_s {α β γ : Type} {fc : FldC α} {n m : Str} {c : Cod β} {d : Cod γ} {g : α → β} (h : FPj fc n c g) (hn : m ≠ n) : FPj (fSnoc fc m d) n c (fun x => g x.1) := fun K R fs x ⟨fs', v, e, h1, h2⟩ => by
  obtain ⟨u, e1, e2⟩ := h K R fs' _ h1
  exact ⟨u, by rw [e, look_app hn]; exact e1, e2⟩
theorem ex_fld {α β : Type} {C : Addr} {fc : FldC α} {n : Str} {c : Cod β} {gj : α → β} {e : Expr} {pos : Pos} {f : CT G → Res (α × CT G)} (cl : Cls A.X.K C) (na : NoAttr A.X.K C n) (hj : FPj fc n c gj) (h : EX A G e (rV (cIns C fc)) f) (hb : attributeBase e n A.X.env (eval e A.X.env) = eval e A.X.env := by rfl) :
    EX A G (.Attribute e n pos) (rV c) (fun p => Res.bind (f p) fun y => .ok (gj y.1, y.2)) :=
  pe_weak (pe_fld h hb) fun o H Q ⟨p, L, w, cr, k⟩ => run1 w cr k fun x p' v L' H' st w' c' rl gd => by
    obtain ⟨a, dx, fs, rfl, h1, h2⟩ := rl
    obtain ⟨u, e1, e2⟩ := hj _ _ _ _ h2
    exact ⟨a, C, dx, fs, u, rfl, rd_sub _ _ h1, cl, na, e1, (show ∀ v L' H', _ from gd) u L' H' st w' c' e2⟩
/-- the instance under way -/
abbrev sSelf (C : Addr) {α : Type} (P : V → Prop) (fc : FldC α) : Slot := ⟨α, fun K k x L H o => ∃ a dx fs, P (.ref a) ∧ o = some (some (.ref a)) ∧ L a = some (k + 1, [999]) ∧ H a = some (.ins C dx fs) ∧ fs.length < 900 ∧ fc.see K (rd L H) fs x,
  fun K k x L H L' H' o s t ⟨a, dx, fs, p, e, h1, h2, h3, h4⟩ => ⟨a, dx, fs, p, e, (t a _ h1).1.trans h1, (t a _ h1).2.trans h2, h3, fc.mono _ _ _ _ _ s h4⟩⟩
/-- self.n = e, e a value; a new attribute -/
theorem sx_fld {α β : Type} {C : Addr} {fc : FldC α} {n : Str} {c : Cod β} {i : Nat} {P : V → Prop} {x : Str} {e : Expr} {p1 p2 pos : Pos} {g : CT G → α} {put : CT G → α × β → CT G'} {fe : CT G → Res (β × CT G)} (a : At G i (sSelf C P fc) g) (hN : A.X.N[i]? = some x) (hv : Vis A.X.env.scope x) (cl : Cls A.X.K C) (na : NoAttr A.X.K C n) (nk : NoKey fc n)
    (mo : ∀ (K : Frag) (p : CT G) (y : α × β) (L : Lab) (H H' : Hp) (o : St), CR K 0 G p L H o → Same (rd L H) (rd L H') → (∀ a j l, j ≠ i → L a = some (j + 1, l) → H' a = H a) → (sSelf C P (fSnoc fc n c)).rel K i y L H' o[i]? → CR K 0 G' (put p y) L H' o)
    (hlen : ∀ K R fs x, fc.see K R fs x → fs.length < 800) (he : EX A G e (rV c) fe) (hs : swapsWith e (some (.Attribute (.Name x p1) n p2)) pos.line A.X.env = pure false) (hd : (x == ("__debug__" : Str)) = false := by decide) (hcd : (x == ("__classdict__" : Str)) = false := by decide) :
    SX A G (.Assign [.Attribute (.Name x p1) n p2] e pos) G' R (fun p => Res.bind (fe p) fun y => .ok (.nx (put y.2 (g y.2, y.1)))) :=
  ps_weak (ps_fld (pe_var hN hv hd hcd) he hs) fun D o H ⟨p, L, w, cr, k⟩ => ⟨p, L, w, cr, k.bind.imp fun y _ gy v L1 H1 s1 w1 c1 r1 => by
    obtain ⟨b, dx, fs, hP, eo, h1, h2, h3, h4⟩ := a.ok _ _ _ _ _ _ c1
    rw [Nat.zero_add] at eo h1
    refine ⟨.ref b, eo, b, C, dx, fs, rfl, h2, cl, na, by omega, ?_⟩
    have ep := put_snoc (v := v) (nk _ _ _ _ h4)
    rw [ep]
    have sm : Same (rd L1 H1) (rd L1 (upd H1 b (.ins C dx (fs ++ [(n, v)])))) := fun a ob qa => by
      obtain ⟨⟨l', z1⟩, z2⟩ := rd_of qa
      exact rd_mk z1 (by rw [upd_ne fun e => by rw [e, h1] at z1; cases z1]; exact z2)
    refine (show nxP A G' R L H o D (.nx _) from gy) o L1 _ (s1.trans fun a f => ⟨rfl, upd_ne fun e => ?_⟩) ⟨fun a ha => ?_, fun a k' l' e => ?_⟩ (mo _ _ _ _ _ _ _ c1 sm (fun a j l' hj e => upd_ne fun e' => ?_) ⟨b, dx, fs ++ [(n, v)], hP, eo, h1, upd_same, ?_, fs, v, rfl, fc.mono _ _ _ _ _ sm h4, c.mono _ _ _ _ _ sm r1⟩) Keeps.refl
    · rcases f.2 with z | ⟨l', z⟩
      · rw [e, h1] at z; cases z
      · rw [e, h1] at z; cases z
    · by_cases ea : a = b
      · rw [ea, upd_same]; simp
      · rw [upd_ne ea]; exact w1.dom a ha
    · by_cases ea : a = b
      · rw [ea, h1] at e; cases e
        rw [ea, upd_same]
        exact fun xs e => nomatch e
      · rw [upd_ne ea]; exact w1.soft a k' l' e
    · rw [e', h1] at e
      have := (Prod.mk.inj (Option.some.inj e)).1
      omega
    · have := hlen _ _ _ _ h4
      rw [List.length_append, List.length_singleton]
      omega⟩
end
end AC
set_option Elab.async false
set_option linter.all false
set_option maxRecDepth 100000
/-! TL14: instances made; repr; calls by keywords; lists of lists of one's own. -/
namespace AC
open PySem L2 PyProof

section
theorem mo_self {C : Addr} {α β : Type} {P : V → Prop} {fc : FldC α} {n : Str} {c : Cod β} {G : Ctx} (K : Frag) (p : CT (sSelf C P fc :: G)) (y : α × β) (L : Lab) (H H' : Hp) (o : St) (cr : CR K 0 (sSelf C P fc :: G) p L H o) (sm : Same (rd L H) (rd L H')) (h : ∀ a j l, j ≠ 0 → L a = some (j + 1, l) → H' a = H a)
    (r : (sSelf C P (fSnoc fc n c)).rel K 0 y L H' o[0]?) : CR K 0 (sSelf C P (fSnoc fc n c) :: G) ((fun p y => (y, p.2)) p y) L H' o :=
  ⟨r, cr.2.keep sm fun a j l hj e => ⟨rfl, h a j l (by omega) e⟩⟩
end

/-! ### __init__ -/
/-- what __init__ promises -/
def spN (K : Frag) (ca : Str → Addr) (C : Addr) {α β : Type} (as : ArgC α) (fc : FldC β) (F : α → Res β) : Sp := fun vs H Q E =>
  ∃ (a dx : Addr) (ws : List V) (x : α) (L : Lab), vs = .ref a :: ws ∧ Wf L H ∧ L a = some (1, [999]) ∧ H a = some (.ins C dx []) ∧ as.see K (rd L H) ws x ∧
    EndF K ca L H E (F x) fun y => ∀ (L' : Lab) (H' : Hp) (dx' : Addr) (fs : List (Str × V)), Stp L H L' H' → Wf L' H' → L' a = some (1, [999]) → H' a = some (.ins C dx' fs) → fc.see K (rd L' H') fs y → Q .non H'
def endX {β γ : Type} : Out (β × γ) Unit → Res β
  | .nx p => .ok p.1
  | .rt _ => .bad
abbrev endN {C : Addr} {β : Type} {P : V → Prop} {fc : FldC β} {G : Ctx} (x : Out (CT (sSelf C P fc :: G)) Unit) : Res β := endX (β := β) (γ := CT G) x
section
variable {P : Program} {w : World} {K : Frag} {mg : Str → Option Value} {base : Heap}
variable {x qual : Str} {params : Arguments} {body : List Stmt} {scope : Scope} {dvs : List V} {kws : List (Str × V)} {f : Addr} {fd : FuncData} {N ps : List Str} {k : Nat} {ca : Str → Addr}
theorem fn_N {α β : Type} {C : Addr} {as : ArgC α} {fc : FldC β} {G1 G' : Ctx} {ini : α → CT G1} {fb : ∀ v0 : V, Unit × CT G1 → Res (Out (CT (sSelf C (fun v => v = v0) fc :: G')) Unit)} {F : α → Res β} (F0 : FunD K x qual params body scope dvs kws f fd) (S : FnScope N ps scope) (hn : as.n + 1 = ps.length)
    (h0 : ∀ L H v0 ws y, Wf L H → as.see K (rd L H) ws y → CR K 1 G1 (ini y) L H (start N (v0 :: ws)))
    (hB : ∀ v0 nd cd A outer s H E hr hgd, BX (ambOf P w K mg base ca N nd k qual scope f cd A outer s H E hr hgd) (sSelf C (fun v => v = v0) fNil :: G1) body (sSelf C (fun v => v = v0) fc :: G') (rrP (rV cN)) (fb v0)) (hF : ∀ v0 y, F y = Res.bind (fb v0 ((), ini y)) endN) : FnG P w K mg base (k + 1) f fd ps (spN K ca C as fc F) := by
  refine fn_G F0 S (fun vs H Q E ⟨a, dx, ws, y, L, e, _, _, _, h, _⟩ => by rw [e, List.length_cons, as.len _ _ _ _ h, hn]) fun cd A outer s H vs Q E hgd hr ⟨a, dx, ws, y, L, e, wf, hL, hH, h, q⟩ => ?_
  subst e
  refine ⟨_, hB (.ref a) S.nd cd A outer s H E hr hgd, ((), ini y), L, wf, ⟨⟨a, dx, [], rfl, rfl, hL, hH, by decide, rfl⟩, h0 L H _ ws y wf h⟩, ?_⟩
  rw [hF (.ref a) y] at q
  cases e : fb (.ref a) ((), ini y) with
  | bad => rw [e] at q; exact q
  | exc ex =>
    rw [e] at q
    exact fun cls d H' hz o' _ => (show ∀ cls d H', _ from q) cls d H' hz
  | ok z =>
    rw [e] at q
    cases z with
    | rt y' => exact q.elim
    | nx p' =>
      intro o' L' H' st w' cr _
      obtain ⟨b, dx', fs, hb, _, h1, h2, _, h4⟩ := cr.1
      cases hb
      exact (show ∀ L' H' dx' fs, _ from q) L' H' dx' fs st w' h1 h2 h4
end
/-- a class by its name -/
structure ClsG (K : Frag) (mg : Str → Option Value) (x : Str) (C : Addr) : Prop where
  mg : mg x = some (.ref C)
  cls : Cls K C
/-- a class that is made by its __init__ -/
structure MakG (P : Program) (w : World) (K : Frag) (mg : Str → Option Value) (base : Heap) (k : Nat) (x : Str) (C : Addr) (ps : List Str) (sp : Sp) : Prop where
  ex : ∃ f fd, FnG P w K mg base k f fd ps sp ∧ Binds K fd ps [] ∧ Mk K C f
  mg : mg x = some (.ref C)
section
variable {A : Amb} {G G' : Ctx} {ρ : Type} {R : Rr ρ}
abbrev MakA (A : Amb) (k : Nat) (x : Str) (C : Addr) (ps : List Str) (sp : Sp) : Prop := MakG A.X.prog A.X.w A.X.K A.X.mg A.X.base k x C ps sp
/-- the instance is made and given to its __init__ -/
theorem run_mk {k : Nat} {C : Addr} {f : Addr} {fd : FuncData} {ps : List Str} {sp : Sp} (M : Mk A.X.K C f) (F : FnG A.X.prog A.X.w A.X.K A.X.mg A.X.base k f fd ps sp) (hk : k + 1 ≤ A.lv) {pins : List (Addr × Obj)} {o : St} {H : Hp} {s : Shared} {Q : VK} {us us' : List Value} {vs' : List V} {kw : List (Str × Value)} (I : Inv A.X pins o H s)
    (h : ∀ x dx, H x = none → H dx = none → dx ≠ x → sp (.ref x :: vs') (upd (upd H dx (.own x)) x (.ins C dx [])) (fun v H2 => v = .non ∧ Q (.ref x) H2) (WE A.W o)) (hv : Vals vs' us')
    (hb : ∀ (s2 : Shared) (z : Value), A.X.K.In s2.heap → (z :: us').length = ps.length → BindsTo s2 fd ⟨z :: us, kw⟩ (ps.zip (z :: us'))) :
    wpAny (model A.X.prog A.X.w) A.X.A (call (.ref C) us kw) (EP A.X pins o Q) A.X.xe s := by
  have h1 := h (s.heap.objs.size + 1) s.heap.objs.size (I.hok.fresh (Nat.le_succ _)) (I.hok.fresh (Nat.le_refl _)) (Nat.ne_of_lt (Nat.lt_succ_self _))
  have J := Inv.made (C := C) I
  have rv : Vals (V.ref (s.heap.objs.size + 1) :: vs') (Value.ref (s.heap.objs.size + 1) :: us') := .cons rfl hv
  have hgu : (A.X.A.under (.builtin "type.__call__" ⟨.ref C :: us, kw⟩)).guards = some [] := by
    first
      | (simp [Around.under, A.gd, pushGuards, Code.guards, Code.isGuard, guardIds])
      | (unfold Around.under; simp only; rw [A.gd]; decide)
  refine wpAny_call (make_map (f := f) I.kIn M.makes M.init (beq_iff_eq.mp M.fn) (codeAny_mono (F.go _ A.X.stack _ _ ⟨Value.ref (s.heap.objs.size + 1) :: us, kw⟩ (Value.ref (s.heap.objs.size + 1) :: us') _ _ (WE A.W o) hgu ((A.room.mono hk).make C us kw)
    (J.env0.make C us kw) (hb _ _ J.kIn (rv.length.symm.trans (F.len _ _ _ _ h1))) rv h1) fun y s' hq => ?_))
  rcases y with e | fl
  · exact passAt A.tk o pins _ _ e s' J hq
  · rcases fl with _ | _ | _ | u
    · exact False.elim hq
    · exact False.elim hq
    · exact False.elim hq
    · obtain ⟨v, H', J', ru, ev, q3⟩ := J.after hq
      subst ev
      exact ⟨ru, V.ref (s.heap.objs.size + 1), H', J', rfl, q3⟩
theorem make_reads {α β : Type} {C : Addr} {as : ArgC α} {fc : FldC β} {F : α → Res β} {L : Lab} {H : Hp} {o : St} {vs : List V} {y : α} {p : CT G} {Q : VK} {Pg : β → Prop} (w : Wf L H) (cr : CR A.X.K 0 G p L H o) (h1 : as.see A.X.K (rd L H) vs y)
    (gy : Good A (F y) L H o fun z => ∀ v L' H', Stp L H L' H' → Wf L' H' → CR A.X.K 0 G p L' H' o → (cIns C fc).see A.X.K (rd L' H') v z → Q v H') (x dx : Addr) (hx : H x = none) (hdx : H dx = none) (hne : dx ≠ x) :
    spN A.X.K A.ca C as fc F (.ref x :: vs) (upd (upd H dx (.own x)) x (.ins C dx [])) (fun v H2 => v = .non ∧ Q (.ref x) H2) (WE A.W o) := by
  generalize hH2 : upd (upd H dx (.own x)) x (.ins C dx []) = H2
  have k2 : ∀ a, H a ≠ none → H2 a = H a := fun a ha => by
    rw [← hH2, upd_ne fun e => ha (by rw [e]; exact hx), upd_ne fun e => ha (by rw [e]; exact hdx)]
  have kx : H2 x = some (.ins C dx []) := by rw [← hH2, upd_same]
  have lx := w.none hx
  have ws : Wf (strip L) H := wf_strip w
  have w2 : Wf (setL (strip L) x (1, [999])) H2 := ⟨fun a ha => by
    by_cases e : a = x
    · rw [e, kx]; simp
    · rw [setL_ne e] at ha
      rw [k2 a (ws.dom a ha)]; exact ws.dom a ha, fun a k l e => by
    by_cases ea : a = x
    · rw [ea, setL_same] at e
      cases e
      rw [ea, kx]
      exact fun xs e => nomatch e
    · rw [setL_ne ea] at e
      exact absurd (strip_of e).1 (by omega)⟩
  have r2 : Same (rd L H) (rd (setL (strip L) x (1, [999])) H2) := fun a ob q => by
    rw [← rd_strip] at q
    obtain ⟨⟨l, e1⟩, e2⟩ := rd_of q
    have ha : H a ≠ none := by rw [e2]; simp
    exact rd_mk ((setL_ne fun e => ha (by rw [e]; exact hx)).trans e1) ((k2 a ha).trans e2)
  have fr : ∀ a, H a ≠ none → Frm (setL (strip L) x (1, [999])) H2 a ∧ setL (strip L) x (1, [999]) a = strip L a := fun a ha => by
    have ne : a ≠ x := fun e => ha (by rw [e]; exact hx)
    have := frm_strip (L := L) ha
    exact ⟨⟨by rw [k2 a ha]; exact ha, by rw [setL_ne ne]; exact this.2⟩, setL_ne ne⟩
  refine ⟨x, dx, vs, y, _, rfl, w2, setL_same, kx, as.mono _ _ _ _ _ r2 h1, ?_⟩
  cases e : F y with
  | bad => rw [e] at gy; exact gy.elim
  | exc ex =>
    rw [e] at gy
    intro cls d H' hz
    obtain ⟨z1, z2, z3, v, z4, R', z5, z6, z7, z8⟩ := hz
    refine (show A.raises ex L H o from gy) cls d H' ⟨z1, fun a f => (z2 a (fr a f.1).1).trans (k2 a f.1), fun f => z3 (fr d f.1).1, v, z4, R', z5, fun a ob q => z6 a ob (r2 a ob q), fun a ob q => ?_, z8⟩ o fun _ _ => rfl
    rcases z7 a ob q with u | u
    · by_cases f : Frm L H a
      · left
        obtain ⟨⟨l, e1⟩, e2⟩ := rd_of u
        rw [(fr a f.1).2] at e1
        rw [k2 a f.1] at e2
        exact rd_mk (strip_of e1).2 e2
      · exact .inr f
    · exact .inr fun f => u (fr a f.1).1
  | ok z =>
    rw [e] at gy
    intro L' H' dx' fs s' w' l1 h2 h4
    refine ⟨rfl, ?_⟩
    generalize hLn : (fun a => if a = x then some ((0, []) : Nat × List Nat) else unstrip L L' a) = Ln
    have lnx : Ln x = some (0, []) := by rw [← hLn]; exact if_pos rfl
    have lno : ∀ a, a ≠ x → Ln a = unstrip L L' a := fun a e => by rw [← hLn]; exact if_neg e
    have old : ∀ a, H a ≠ none → a ≠ x ∧ L' a = strip L a ∧ H' a = H a := fun a ha => by
      obtain ⟨f1, f2⟩ := fr a ha
      obtain ⟨g1, g2⟩ := s' a f1
      exact ⟨fun e => ha (by rw [e]; exact hx), g1.trans f2, g2.trans (k2 a ha)⟩
    have ex : Ext L H Ln H' := fun a ha => by
      obtain ⟨g0, g1, g2⟩ := old a ha
      refine ⟨?_, g2⟩
      rw [lno a g0]
      cases e : L a with
      | none => rw [un_n e, strip_n (g1.trans (strip_n e))]
      | some z =>
        obtain ⟨j, m⟩ := z
        cases j with
        | zero => rw [un_0 e, strip_0 (g1.trans (strip_0 e))]
        | succ j => rw [un_s e]
    have key : ∀ a k l, a ≠ x → Ln a = some (k, l) → (∃ k', k = k' + 1 ∧ L a = some (k, l)) ∨ (k = 0 ∧ L' a = some (0, l)) := fun a k l ne e => by
      rw [lno a ne] at e
      cases e' : L a with
      | none => rw [un_n e'] at e; exact .inr (strip_of e)
      | some z =>
        obtain ⟨j, m⟩ := z
        cases j with
        | zero => rw [un_0 e'] at e; exact .inr (strip_of e)
        | succ j => rw [un_s e'] at e; cases e; exact .inl ⟨j, rfl, rfl⟩
    have wn : Wf Ln H' := ⟨fun a ha => by
      by_cases ea : a = x
      · rw [ea, h2]; simp
      · cases e : Ln a with
        | none => exact absurd e ha
        | some z =>
          obtain ⟨k, l⟩ := z
          rcases key a k l ea e with ⟨_, _, u⟩ | ⟨_, u⟩
          · have hh := w.dom a (by rw [u]; simp)
            rw [(old a hh).2.2]; exact hh
          · exact w'.dom a (by rw [u]; simp), fun a k l e => by
      by_cases ea : a = x
      · rw [ea, lnx] at e; cases e
      · rcases key a _ l ea e with ⟨_, _, u⟩ | ⟨u, _⟩
        · have hh := w.dom a (by rw [u]; simp)
          rw [(old a hh).2.2]; exact w.soft a k l u
        · omega⟩
    have rn : Same (rd L' H') (rd Ln H') := fun a ob q => by
      obtain ⟨⟨l, e1⟩, e2⟩ := rd_of q
      have ne : a ≠ x := fun e => by rw [e, l1] at e1; cases e1
      by_cases ha : H a = none
      · refine rd_mk (l := l) ?_ e2
        rw [lno a ne, un_n (w.none ha), strip_0 e1]
      · obtain ⟨g0, g1, g2⟩ := old a ha
        refine rd_mk (l := l) ?_ e2
        rw [(ex a ha).1]
        exact (strip_of (g1.symm.trans e1)).2
    exact (show ∀ v L' H', _ from gy) (.ref x) Ln H' ex.stp wn (cr.ext w ex) ⟨x, dx', fs, rfl, rd_mk lnx h2, fc.mono _ _ _ _ _ rn h4⟩
theorem ex_make {α β : Type} {C : Addr} {as : ArgC α} {fc : FldC β} {F : α → Res β} {k : Nat} {ps : List Str} {x : Str} {p pos : Pos} {e : Expr} {es : List Expr} {fa : CT G → Res (α × CT G)} (D : MakA A k x C ps (spN A.X.K A.ca C as fc F)) (hk : k + 1 ≤ A.lv) (gl : Gl A.X x) (ha : AX A G (e :: es) as fa)
    (hdb : (x == ("__debug__" : Str)) = false := by decide) (he : starEach (e :: es) A.X.env = (false, eval e A.X.env) :: starEach es A.X.env := by rfl) (hpl : (backTo pos (starEach es A.X.env)).any (·.1) = false := by rfl) :
    EX A G (.Call (.Name x p) (e :: es) [] pos) (rV (cIns C fc)) (fun p => Res.bind (fa p) fun y => Res.bind (F y.1) fun z => .ok (z, y.2)) := by
  obtain ⟨f, fd, F1, hb, M⟩ := D.ex
  refine ⟨fun pins s o H Q I ⟨p, L, w, cr, q⟩ => wpAny_Call_Name_kw (ld_glob I gl D.mg (PySem.W.callWith_K (h₀ := A.X.base) I.ok.mod.kin M.kp ?_ he hpl) hdb)⟩
  have hA : tA A G as fa o H fun vs H1 => ∀ x dx, H1 x = none → H1 dx = none → dx ≠ x → spN A.X.K A.ca C as fc F (.ref x :: vs) (upd (upd H1 dx (.own x)) x (.ins C dx [])) (fun v H2 => v = .non ∧ Q (.ref x) H2) (WE A.W o) :=
    ⟨p, L, w, cr, q.bind.imp fun y _ gy vs L1 H1 s1 w1 c1 h1 => make_reads (F := F) (Pg := fun _ => True) w1 c1 h1 ((gy.bind.step s1).imp fun z _ gz v L2 H2 s2 w2 c2 r2 => gz v L2 H2 (s1.trans s2) w2 c2 r2)⟩
  refine thn (ha.run pos pins s o H _ I hA) fun us s1 ⟨vs, H1, I1, rv, hsp⟩ => ⟨I1.kIn, ?_⟩
  exact run_mk (us' := us) M F1 hk I1 hsp rv fun s2 z kin hl => by
    have b := hb s2 (z :: us) kin (by rw [List.append_nil]; exact hl)
    rw [List.append_nil] at b
    exact b

/-! ### repr -/
/-- a text of which only its signs count -/
def cW : Cod Str := ⟨fun _ _ v x => v = .str x, fun _ _ _ _ _ _ h => h⟩
theorem ot_eqW : OpT A (compareOp .Eq) cW cW (fun x y => some (decide (x = y))) (rV cB) := op_of op_eq fun L H vx vy x y z Q w h1 h2 h3 q => by
  cases h1; cases h2; cases h3; exact ⟨rfl, q _ (by show V.bl _ = V.bl _; simp)⟩
theorem ot_neW : OpT A (compareOp .NotEq) cW cW (fun x y => some (!decide (x = y))) (rV cB) := op_of op_ne fun L H vx vy x y z Q w h1 h2 h3 q => by
  cases h1; cases h2; cases h3; exact ⟨rfl, q _ (by show V.bl _ = V.bl _; simp)⟩
def reprO (d : PyData) : Option Str := if d.showable = true ∧ d.hasDict = false ∧ d.shown.length ≤ sizeLine then some d.shown else none
theorem call_reprD : CallR A.X (.builtin "repr") (fun xs H Q => ∃ a d, xs = [.ref a] ∧ Dp A.X.K H (.ref a) d ∧ d.showable = true ∧ d.hasDict = false ∧ d.shown.length ≤ sizeLine ∧ d.depth ≤ 64 ∧ Q (.str d.shown) H) := by
  intro pins s o H xs us Q I rx ⟨a, d, ex, hd, h1, h2, h3, h4, q⟩
  subst ex
  cases rx with
  | cons r t =>
    cases t
    cases r
    obtain ⟨as, rr⟩ := Dp.reads I d _ _ hd rfl
    refine repr_of_reads' rr h1 (fun e => by rw [h2] at e; cases e) A.gd (by have := A.room.un; omega) (fun b ob e => e) (fun h' u tk hk => ?_) h3
    exact ⟨.str d.shown, H, I.kept (h' := h') (t' := tk) hk, ⟨_, rfl⟩, q⟩
theorem ct_repr {α : Type} {c : Cod α} {t : α → PyData} {n : Nat} (h : DC c t n) (hn : n ≤ 64) (hr : ∀ K R v x, c.see K R v x → ∃ a, v = .ref a) : CalT A (.builtin "repr") (aOne c) (fun x => reprO (t x)) (rV cW) := cal_of call_reprD fun L H vs x z Q w ⟨v, e, h1⟩ h2 q => by
  subst e
  obtain ⟨a, rfl⟩ := hr _ _ _ _ h1
  obtain ⟨d1, d2, d3⟩ := h _ _ _ _ h1
  unfold reprO at h2
  split at h2
  · rename_i hc
    cases h2
    exact ⟨a, t x, rfl, dp_same rd_sub d1, hc.1, hc.2.1, hc.2.2, by omega, q _ rfl⟩
  · cases h2
theorem rf_l {α : Type} {c : Cod α} : ∀ K R v x, (cL c).see K R v x → ∃ a, v = .ref a := fun K R v x ⟨a, vs, e, _⟩ => ⟨a, e⟩
theorem rf_h {α : Type} {as : ArgC α} : ∀ K R v x, (cH as).see K R v x → ∃ a, v = .ref a := fun K R v x ⟨a, vs, e, _⟩ => ⟨a, e⟩
theorem rf_t {α : Type} {as : ArgC α} : ∀ K R v x, (cT as).see K R v x → ∃ a, v = .ref a := fun K R v x ⟨a, vs, e, _⟩ => ⟨a, e⟩
theorem rf_tv {α : Type} {c : Cod α} : ∀ K R v x, (cTV c).see K R v x → ∃ a, v = .ref a := fun K R v x ⟨a, vs, e, _⟩ => ⟨a, e⟩

/-! ### calls by keywords alone -/
theorem tk_run {kws : List Keyword} {α : Type} {as : ArgC α} {f : CT G → Res (α × CT G)} : True := trivial
/-- the keywords' values -/
def KWX (A : Amb) (G : Ctx) (kws : List Keyword) {α : Type} (as : ArgC α) (f : CT G → Res (α × CT G)) : Prop := PK A.X kws (tA A G as f)
theorem pk_weak {X : Cx} {kws : List Keyword} {t t' : L2.TA} (h : PK X kws t) (i : ∀ o H Q, t' o H Q → t o H Q) : PK X kws t' := ⟨fun pos pins s o H Q I q => h.run pos pins s o H Q I (i _ _ _ q)⟩
theorem kw_one {α : Type} {c : Cod α} {e : Expr} {nm : Option Str} {kp : Pos} {f : CT G → Res (α × CT G)} (h : EX A G e (rV c) f) : KWX A G [⟨nm, e, kp⟩] (aOne c) f :=
  pk_weak (pk_cons h pk_nil) fun o H Q ⟨p, L, w, cr, kk⟩ => ⟨p, L, w, cr, kk.imp fun y _ q v L' H' s w' c' rl => q [v] L' H' s w' c' ⟨v, rfl, rl⟩⟩
theorem kw_cons {α β : Type} {c : Cod α} {as : ArgC β} {e : Expr} {nm : Option Str} {kp : Pos} {kws : List Keyword} {f : CT G → Res (α × CT G)} {g : CT G → Res (β × CT G)} (h : EX A G e (rV c) f) (hr : KWX A G kws as g) : KWX A G (⟨nm, e, kp⟩ :: kws) (aCons c as) (fun p => Res.bind (f p) fun y => Res.bind (g y.2) fun z => .ok ((y.1, z.1), z.2)) :=
  pk_weak (pk_cons h hr) fun o H Q q => ax_core (as := as) (bs := aCons c as) (m := Prod.mk) (fun K R v vs x y h1 h2 => ⟨v, vs, rfl, h1, h2⟩) q
/-- f(k = e, ..): bindings as the def's text has them -/
theorem ex_calK0 {α β : Type} {as : ArgC α} {r : Rt β} {F : α → Res β} {k : Nat} {f : Addr} {fd : FuncData} {ps ks : List Str} {x : Str} {p pos : Pos} {kws : List Keyword} {fa : CT G → Res (α × CT G)} (F1 : FnG A.X.prog A.X.w A.X.K A.X.mg A.X.base k f fd ps (spP A.X.K A.ca as r F)) (hk : k ≤ A.lv) (gl : Gl A.X x) (hm : A.X.mg x = some (.ref f)) (kp : PySem.W.keepIn A.X.K (.ref f) = true)
    (hb : ∀ (s : Shared) (us : List Value), A.X.K.In s.heap → us.length = ks.length → BindsTo s fd ⟨[], ks.zip us⟩ (ps.zip us)) (hr : RtOk r) (ha : KWX A G kws as fa) (hl : as.n = ks.length) (hall : (backToKw pos (keywordEach kws A.X.env)).all (·.1.isSome) = true := by rfl) (hks : (backToKw pos (keywordEach kws A.X.env)).filterMap (·.1) = ks := by rfl)
    (hdb : (x == ("__debug__" : Str)) = false := by decide) (hpl : (backToKw pos (keywordEach kws A.X.env)).any (·.1.isNone) = false := by rfl) :
    EX A G (.Call (.Name x p) [] kws pos) r (fun p => Res.bind (fa p) fun y => Res.bind (F y.1) fun z => .ok (z, y.2)) := by
  refine ⟨fun pins s o H Q I q => wpAny_Call_Name_kw (ld_glob I gl hm (PySem.W.callWith_KW0 (h₀ := A.X.base) I.ok.mod.kin kp hall ?_ hpl) hdb)⟩
  have hA := call_reads (as := as) hr q
  obtain ⟨p0, L, w, cr, kk⟩ := hA
  have hB : tA A G as fa o H fun vs H1 => vs.length = ks.length ∧ spP A.X.K A.ca as r F vs H1 Q (WE A.W o) := ⟨p0, L, w, cr, kk.imp fun y _ g vs L' H' s' w' c' hv => ⟨(as.len _ _ _ _ hv).trans hl, g vs L' H' s' w' c' hv⟩⟩
  refine thn (ha.run pos pins s o H _ I hB) fun ws s1 ⟨vs, H1, I1, rv, hn, hsp⟩ => ⟨I1.kIn, ?_⟩
  rw [hks]
  exact callAtK F1 hk I1 (hb s1 ws I1.kIn (rv.length.symm.trans hn)) rv hsp
end
end AC
set_option Elab.async false
set_option linter.all false
set_option maxRecDepth 100000
/-! TL15: data; lists of lists of one's own. -/
namespace AC
open PySem L2 PyProof

/-- any data of bounded depth -/
def cDat (n : Nat) : Cod PyData := ⟨fun K R v d => Dp K R v d ∧ d.canLay0 = true ∧ d.depth ≤ n, fun K R R' v d s h => ⟨dp_same s h.1, h.2⟩⟩
theorem dc_dat {n : Nat} : DC (cDat n) id n := fun K R v x h => h
theorem sub_dat {α : Type} {c : Cod α} {t : α → PyData} {n : Nat} (h : DC c t n) : Sub c (cDat n) t := fun K R v x q => h K R v x q
def SubO {α β : Type} (c : OCod α) (d : OCod β) (g : α → β) : Prop := ∀ K R M H l v x, c.own K R M H l v x → d.own K R M H l v (g x)
theorem subo_l {α β : Type} {c : Cod α} {d : Cod β} {g : α → β} (s : Sub c d g) : SubO (oL c) (oL d) (List.map g) := fun K R M H l v x ⟨p, vs, e, h1, h2, h3, h4⟩ => ⟨p, vs, e, h1, h2, h3, paired_iff_map (fun _ _ q => s K R _ _ q) h4⟩
section
variable {A : Amb} {G G' : Ctx} {ρ : Type} {R : Rr ρ}
theorem ex_subO {α β : Type} {c : OCod α} {d : OCod β} {g : α → β} {e : Expr} {f : CT G → Res (α × CT G)} (s : SubO c d g) (h : EX A G e (rO c) f) : EX A G e (rO d) (fun p => Res.bind (f p) fun y => .ok (g y.1, y.2)) :=
  pe_weak h fun o H Q ⟨p, L, w, cr, k⟩ => run1 w cr k fun x p' v L' H' st w' c' ⟨M, h1, h2⟩ gd => gd v L' H' st w' c' ⟨M, h1, s _ _ _ _ _ _ _ h2⟩
end

/-- a list of things of one's own -/
def oLL {α : Type} (oc : OCod α) : OCod (List α) := ⟨fun K R M H l v xs => ∃ p vs, v = .ref p ∧ M p = some l ∧ H p = some (.lst vs) ∧ vs.length ≤ sizeLine ∧ vs.length = xs.length ∧ ∀ i v x, vs[i]? = some v → xs[i]? = some x → oc.own K R M H (0 :: i :: l) v x,
  fun K R R' M M' H H' l v x s t ⟨p, vs, e, hm, hp, hl, hn, h'⟩ => ⟨p, vs, e, (t p l hm).1, (t p l hm).2.trans hp, hl, hn, fun i v x h1 h2 => oc.mono _ _ _ _ _ _ _ _ _ _ s t (h' i v x h1 h2)⟩⟩
/-- paths may be longer -/
def ShO {α : Type} (oc : OCod α) : Prop := ∀ K R M H m v x l, oc.own K R M H m v x → oc.own K R (fun a => (M a).map (· ++ l)) H (m ++ l) v x
theorem sh_l {α : Type} {c : Cod α} : ShO (oL c) := fun K R M H m v x l ⟨p, vs, e, h1, h2, h3, h4⟩ => ⟨p, vs, e, by show (M p).map (· ++ l) = _; rw [h1]; rfl, h2, h3, h4⟩
theorem sh_d {κ α : Type} {kc : KeyC κ} {c : Cod α} : ShO (oD kc c) := fun K R M H m v x l ⟨p, vs, e, h1, h2, h3, h4⟩ => ⟨p, vs, e, by show (M p).map (· ++ l) = _; rw [h1]; rfl, h2, h3, h4⟩
theorem sh_ll {α : Type} {oc : OCod α} (h : ShO oc) : ShO (oLL oc) := fun K R M H m v x l ⟨p, vs, e, h1, h2, h3, h4, h5⟩ => ⟨p, vs, e, by show (M p).map (· ++ l) = _; rw [h1]; rfl, h2, h3, h4, fun i v x q1 q2 => h K R M H _ v x l (h5 i v x q1 q2)⟩
theorem paired_of_get {α β : Type} {F : α → β → Prop} : ∀ {l : List α} {m : List β}, l.length = m.length → (∀ (i : Nat) (x : α) (y : β), l[i]? = some x → m[i]? = some y → F x y) → Paired F l m
  | [], [], _, _ => .nil
  | x :: l, y :: m, hl, h => .cons (h 0 x y rfl rfl) (paired_of_get (by simpa using hl) fun i x y h1 h2 => h (i + 1) x y (by simpa using h1) (by simpa using h2))
/-- frozen at any path -/
def FrzP {α : Type} (o : OCod α) (c : Cod α) : Prop := ∀ K R R' M H l v x, insL l = false → Same R R' → (∀ a m, M a = some m → insL m = false → R' a = H a) → o.own K R M H l v x → c.see K R' v x
theorem frzp_l {α : Type} {c : Cod α} : FrzP (oL c) (cL c) := fun K R R' M H l v x hl s t ⟨p, vs, e, hm, hp, hz, h'⟩ => ⟨p, vs, e, (t p _ hm hl).trans hp, hz, paired_mono (fun _ _ q => c.mono _ _ _ _ _ s q) h'⟩
theorem frzp_d {κ α : Type} {kc : KeyC κ} {c : Cod α} : FrzP (oD kc c) (cD kc c) := fun K R R' M H l v x hl s t ⟨p, vs, e, hm, hp, hz, h'⟩ => ⟨p, vs, e, (t p _ hm hl).trans hp, hz, paired_mono (fun _ _ q => q.mono s) h'⟩
theorem frzp_ll {α : Type} {oc : OCod α} {c : Cod α} (h : FrzP oc c) : FrzP (oLL oc) (cL c) := fun K R R' M H l v x hl s t ⟨p, vs, e, hm, hp, hz, hn, h'⟩ => ⟨p, vs, e, (t p _ hm hl).trans hp, hz, paired_of_get hn fun i v y q1 q2 => h K R R' M H _ v y rfl s t (h' i v y q1 q2)⟩
theorem frz_p {α : Type} {oc : OCod α} {c : Cod α} (h : FrzP oc c) : Frz oc c := fun K R R' M H v x s t q => h K R R' M H [] v x rfl s t q
theorem frz_ll {α : Type} {oc : OCod α} {c : Cod α} (h : FrzP oc c) : Frz (oLL oc) (cL c) := frz_p (frzp_ll h)
theorem ho_ll {α : Type} {oc : OCod α} (h : HardO oc) : HardO (oLL oc) := fun K R1 R2 M H l v x s ⟨p, vs, e, hm, hp, hl, hn, q⟩ => ⟨p, vs, e, hm, hp, hl, hn, fun i v x h1 h2 => h _ _ _ _ _ _ _ _ s (q i v x h1 h2)⟩

section
variable {A : Amb} {G G' : Ctx} {ρ : Type} {R : Rr ρ}
/-- some results of one's own in a row, paths from k on -/
def ROs {α : Type} (oc : OCod α) (k : Nat) (K : Frag) (L : Lab) (H : Hp) (L' : Lab) (H' : Hp) (vs : List V) (xs : List α) : Prop :=
  ∃ M : Addr → Option (List Nat), (∀ a m, M a = some m → L' a = none ∧ NonTup m (H' a) ∧ ¬ Frm L H a ∧ m.length ≥ 2) ∧ vs.length = xs.length ∧ ∀ i v x, vs[i]? = some v → xs[i]? = some x → oc.own K (rd L' H') M H' [0, k + i] v x
def tAO (A : Amb) {α : Type} (G : Ctx) (oc : OCod α) (k n : Nat) (f : CT G → Res (List α × CT G)) : L2.TA := fun o H Q =>
  ∃ (p : CT G) (L : Lab), Wf L H ∧ CR A.X.K 0 G p L H o ∧ Good A (f p) L H o fun y => ∀ (vs : List V) (L' : Lab) (H' : Hp), Stp L H L' H' → Wf L' H' → CR A.X.K 0 G y.2 L' H' o → vs.length = n → ROs oc k A.X.K L H L' H' vs y.1 → Q vs H'
def AXO (A : Amb) (G : Ctx) (es : List Expr) {α : Type} (oc : OCod α) (k n : Nat) (f : CT G → Res (List α × CT G)) : Prop := PA A.X es (tAO A G oc k n f)
theorem axo_nil {α : Type} {oc : OCod α} {k : Nat} : AXO A G [] oc k 0 (fun p => .ok ([], p)) := pa_weak pa_nil fun o H Q ⟨p, L, w, cr, kk⟩ => kk [] L H Stp.refl w cr rfl ⟨fun _ => none, fun a m e => absurd (show (none : Option (List Nat)) = some m from e) (by simp), rfl, fun i v x e => by simp at e⟩
theorem axo_cons {α : Type} {oc : OCod α} {k n : Nat} {e : Expr} {es : List Expr} {f : CT G → Res (α × CT G)} {g : CT G → Res (List α × CT G)} (sh : ShO oc) (h : EX A G e (rO oc) f) (hr : AXO A G es oc (k + 1) n g) (hs : starEach (e :: es) A.X.env = (false, eval e A.X.env) :: starEach es A.X.env := by rfl) :
    AXO A G (e :: es) oc k (n + 1) (fun p => Res.bind (f p) fun y => Res.bind (g y.2) fun z => .ok (y.1 :: z.1, z.2)) :=
  pa_weak (pa_cons h hr hs) fun o H Q ⟨p, L, w, cr, kk⟩ => by
    refine run1 w cr kk fun x p1 v L1 H1 s1 w1 c1 r1 g1 => ⟨p1, L1, w1, c1, g1.bind.imp fun z _ gz vs L2 H2 s2 w2 c2 hn r2 => ?_⟩
    obtain ⟨M1, m1, o1⟩ := r1
    obtain ⟨M2, m2, l2, o2⟩ := r2
    have f1 : ∀ a m, M1 a = some m → L2 a = none ∧ H2 a = H1 a ∧ Frm L1 H1 a := fun a m em => by
      obtain ⟨q1, q2, q3⟩ := m1 a m em
      have f : Frm L1 H1 a := ⟨q2.ne, .inl q1⟩
      exact ⟨(s2 a f).1.trans q1, (s2 a f).2, f⟩
    have n2 : ∀ a m, M2 a = some m → M1 a = none := fun a m em => by
      cases e : M1 a with
      | none => rfl
      | some m' => exact absurd (f1 a m' e).2.2 (m2 a m em).2.2.1
    refine gz (v :: vs) L2 H2 (s1.trans s2) w2 c2 (by rw [List.length_cons, hn]) ⟨fun a => match M1 a with | some m => some (m ++ [0, k]) | none => M2 a, fun a m em => ?_, by rw [List.length_cons, List.length_cons, l2], fun i u y hu hy => ?_⟩
    · cases e : M1 a with
      | none =>
        simp only [e] at em
        obtain ⟨q1, q2, q3, q4⟩ := m2 a m em
        exact ⟨q1, q2, fun f => q3 (s1.frm f), q4⟩
      | some m' =>
        simp only [e, Option.some.injEq] at em
        obtain ⟨q1, q2, q3⟩ := f1 a m' e
        obtain ⟨_, t2, t3⟩ := m1 a m' e
        subst em
        refine ⟨q1, ?_, t3, by simp⟩
        rw [q2]
        cases m' with
        | nil => exact t2
        | cons b bs => exact t2
    · cases i with
      | zero =>
        have hu : v = u := by simpa using hu
        have hy : x = y := by simpa using hy
        subst hu hy
        have := sh _ _ _ _ _ _ _ [0, k] o1
        exact oc.mono _ _ _ _ _ _ _ _ _ _ s2.rd (fun a m em => by
          cases e : M1 a with
          | none => rw [e] at em; cases em
          | some m' => rw [e] at em; exact ⟨by simp only [e]; exact em, (f1 a m' e).2.1⟩) this
      | succ i =>
        have := o2 i u y (by simpa using hu) (by simpa using hy)
        rw [show k + 1 + i = k + (i + 1) by omega] at this
        exact oc.mono _ _ _ _ _ _ _ _ _ _ (fun _ _ q => q) (fun a m em => ⟨by simp only [n2 a m em]; exact em, rfl⟩) this
/-- a display of things of one's own -/
theorem ex_listO {α : Type} {oc : OCod α} {n : Nat} {es : List Expr} {pos : Pos} {f : CT G → Res (List α × CT G)} (h : AXO A G es oc 0 n f) (hn : n ≤ sizeLine := by decide) : EX A G (.List es pos) (rO (oLL oc)) f :=
  pe_weak (pe_lst h) fun o H Q ⟨p, L, w, cr, kk⟩ => ⟨p, L, w, cr, kk.imp fun y _ q vs L' H' s w' c' hl ⟨M, m1, m2, m3⟩ => ⟨by rw [hl]; exact hn, fun a ha => by
    obtain ⟨e1, e2⟩ := ext_new (o := .lst vs) w' ha
    have na : M a = none := by
      cases e : M a with
      | none => rfl
      | some m => exact absurd ha (m1 a m e).2.1.ne
    have hb : ∀ b m, M b = some m → b ≠ a := fun b m em e => by rw [e, na] at em; cases em
    refine q _ _ _ (s.trans e1.stp) e2 (c'.ext w' e1) ⟨fun b => if b = a then some [] else M b, fun b m em => ?_, a, vs, rfl, if_pos rfl, upd_same, by rw [hl]; exact hn, m2, fun i v x q1 q2 => oc.mono _ _ _ _ _ _ _ _ _ _ e1.stp.rd (fun b m em => ⟨(if_neg (hb b m em)).trans em, upd_ne (hb b m em)⟩) (by
      have := m3 i v x q1 q2
      rw [Nat.zero_add] at this
      exact this)⟩
    have em : (if b = a then some ([] : List Nat) else M b) = some m := em
    by_cases eb : b = a
    · rw [if_pos eb] at em; cases em
      rw [eb, upd_same]
      exact ⟨w'.none ha, trivial, fun f => (s.frm f).1 ha⟩
    · rw [if_neg eb] at em
      obtain ⟨q1, q2, q3, _⟩ := m1 b m em
      exact ⟨q1, by rw [upd_ne eb]; exact q2, q3⟩⟩⟩
/-- a heap where one's own thing at an inner path is changed -/
theorem own_inner {α : Type} {c : Cod α} {P : V → Prop} {i : Nat} {g : CT G → List (List α)} {put : CT G → List (List α) → CT G} {p : CT G} {L : Lab} {H : Hp} {o : St} {l q : Addr} {vs ws' : List V} {ys : List α} {j : Nat} (m : Mod G i (sOwn P (oLL (oL c))) put) (w : Wf L H) (cr : CR A.X.K 0 G p L H o) (hP : P (.ref l)) (ho : o[i]? = some (some (.ref l)))
    (hl : L l = some (i + 1, [])) (hH : H l = some (.lst vs)) (hz : vs.length ≤ sizeLine) (hn : vs.length = (g p).length) (hin : ∀ i' v x, vs[i']? = some v → (g p)[i']? = some x → (oL c).own A.X.K (rd L H) (sub L (i + 1)) H (0 :: i' :: []) v x)
    (hq : vs[j]? = some (.ref q)) (hw : ws'.length ≤ sizeLine) (hp : Paired (fun v x => c.see A.X.K (rd L H) v x) ws' ys) :
    Stp L H L (upd H q (.lst ws')) ∧ Wf L (upd H q (.lst ws')) ∧ CR A.X.K 0 G (put p ((g p).set j ys)) L (upd H q (.lst ws')) o := by
  have hj : j < vs.length := (List.getElem?_eq_some_iff.mp hq).1
  obtain ⟨x0, hx0⟩ : ∃ x, (g p)[j]? = some x := ⟨_, List.getElem?_eq_getElem (by omega)⟩
  obtain ⟨q', us, eq, mq, hq', _⟩ := hin j _ _ hq hx0
  cases eq
  have lq : L q = some (i + 1, [0, j]) := sub_of mq
  have nq : q ≠ l := fun e => by rw [e, hl] at lq; cases lq
  have sm : Same (rd L H) (rd L (upd H q (.lst ws'))) := fun a ob qa => by
    obtain ⟨⟨l', e1⟩, e2⟩ := rd_of qa
    exact rd_mk e1 (by rw [upd_ne fun e => by rw [e, lq] at e1; cases e1]; exact e2)
  refine ⟨fun a f => ⟨rfl, upd_ne fun e => ?_⟩, ⟨fun a ha => ?_, fun a k l' e => ?_⟩, m.ok _ _ _ _ _ _ _ _ _ cr sm (fun a j' l' _ hj' e => ⟨rfl, upd_ne fun e' => ?_⟩) ⟨.ref l, hP, by rw [Nat.zero_add]; exact ho, l, vs, rfl, sub_mk (by rw [Nat.zero_add]; exact hl), by rw [upd_ne nq.symm]; exact hH, hz, by rw [List.length_set, hn], fun i' v x h1 h2 => ?_⟩⟩
  · rcases f.2 with z | ⟨l', z⟩
    · rw [e, lq] at z; cases z
    · rw [e, lq] at z; cases z
  · by_cases ea : a = q
    · rw [ea, upd_same]; simp
    · rw [upd_ne ea]; exact w.dom a ha
  · by_cases ea : a = q
    · rw [ea, lq] at e; cases e
      rw [ea, upd_same]; trivial
    · rw [upd_ne ea]; exact w.soft a k l' e
  · rw [e', lq] at e
    have := (Prod.mk.inj (Option.some.inj e)).1
    omega
  · rw [Nat.zero_add]
    by_cases ej : i' = j
    · subst ej
      rw [hq] at h1; cases h1
      rw [List.getElem?_set_self (by omega)] at h2; cases h2
      exact ⟨q, ws', rfl, mq, upd_same, hw, paired_mono (fun _ _ z => c.mono _ _ _ _ _ sm z) hp⟩
    · rw [List.getElem?_set_ne (fun e => ej e.symm)] at h2
      obtain ⟨q2, us2, e2, mq2, hq2, z1, z2⟩ := hin i' v x h1 h2
      refine ⟨q2, us2, e2, mq2, ?_, z1, paired_mono (fun _ _ z => c.mono _ _ _ _ _ sm z) z2⟩
      rw [upd_ne fun e => ?_]
      · exact hq2
      · have := sub_of mq2
        rw [e, lq] at this
        cases this
        exact ej rfl
/-- x[j].m(k), x one's own, j and k constants -/
theorem ex_nest1 {α β γ : Type} {id : String} {name x : Str} {p1 p2 p3 ap cp : Pos} {kk : Nat} {ji : Int} {j : Nat} {e : Expr} {c : Cod α} {d : Cod β} {k : List α → β → Option (γ × List α)} {rc : Cod γ} {P : V → Prop} {i : Nat} {g : CT G → List (List α)} {put : CT G → List (List α) → CT G} {w0 : V} {y : β} (h : MtT A id c (aOne d) k rc)
    (slot : PySem.Slot "list" name id) (hty : typeOf (.builtin id) = pure (.type "method_descriptor")) (a : At G i (sOwn P (oLL (oL c))) g) (m : Mod G i (sOwn P (oLL (oL c))) put) (hN : A.X.N[i]? = some x) (hv : Vis A.X.env.scope x) (hj : ji = (j : Int)) (he : PE A.X e (tC w0)) (hd0 : ∀ K R, d.see K R w0 y)
    (hd : (x == ("__debug__" : Str)) = false := by decide) (hcd : (x == ("__classdict__" : Str)) = false := by decide)
    (hbase : attributeBase (.Subscript (.Name x p1) (.Constant (.int ji) kk p2) p3) name A.X.env (eval (.Subscript (.Name x p1) (.Constant (.int ji) kk p2) p3) A.X.env) = eval (.Subscript (.Name x p1) (.Constant (.int ji) kk p2) p3) A.X.env := by rfl)
    (hfew : ((backTo cp (starEach [e] A.X.env)).all (fun x => !x.1) && (backToKw cp (keywordEach [] A.X.env)).all (fun x => x.1.isSome) && decide ([e].length + ([] : List Keyword).length + (if ([] : List Keyword).isEmpty then 0 else 1) < 30)) = true := by rfl)
    (hline : (ap.endLine == cp.line) = true := by rfl) (hs : starEach [e] A.X.env = (false, eval e A.X.env) :: starEach [] A.X.env := by rfl) (hplain : (backTo cp (starEach [] A.X.env)).any (·.1) = false := by rfl) :
    EX A G (.Call (.Attribute (.Subscript (.Name x p1) (.Constant (.int ji) kk p2) p3) name ap) [e] [] cp) (rV rc) (fun p => Res.bind (ofO (g p)[j]?) fun ys => Res.bind (ofO (k ys y)) fun z => .ok (z.1, put p ((g p).set j z.2))) := by
  obtain ⟨r, hr, pr⟩ := h
  refine pe_weak (pe_bm PySem.F.plainAttrs_list slot hty hr (pe_ix ix_list (pe_var hN hv hd hcd) pe_int (fun _ _ => rfl)) (pa_cons he pa_nil hs) hbase hfew hline hs hplain) fun o H Q ⟨p, L, w, cr, kq⟩ => ?_
  obtain ⟨v1, hP, ev, l, vs, e1, hm, hp, hz, hn, hin⟩ := a.ok _ _ _ _ _ _ cr
  rw [Nat.zero_add] at ev hm
  subst e1
  obtain ⟨ys, ey, k2⟩ := good_ofO kq
  obtain ⟨z, ez, k3⟩ := good_ofO k2
  have hlt : j < vs.length := by rw [hn]; exact (List.getElem?_eq_some_iff.mp ey).1
  obtain ⟨u, hu⟩ : ∃ u, vs[j]? = some u := ⟨_, List.getElem?_eq_getElem hlt⟩
  rw [Nat.zero_add] at hin
  obtain ⟨q, us, eu, mq, hq, lq, pq⟩ := hin j u ys hu ey
  subst eu
  refine ⟨.ref l, ev, l, vs, ji, .ref q, rfl, rfl, SqL.of hp, by rw [hj]; exact atI_nat hu, .inl ⟨rfl, _, SqL.of hq⟩, ?_⟩
  refine pr L H q us [w0] ys z.2 y z.1 Q w hq lq pq ⟨w0, rfl, hd0 _ _⟩ ez fun v vs' hn' hp' hz' => ?_
  obtain ⟨t1, t2, t3⟩ := own_inner (g := g) (j := j) m w cr hP ev (sub_of hm) hp hz hn hin hu hn' hp'
  exact (show ∀ v L' H', _ from k3) v L _ t1 t2 t3 (rc.mono _ _ _ _ _ t1.rd hz')
end
end AC
set_option Elab.async false
set_option linter.all false
set_option maxRecDepth 100000
/-! TL16: what the printed derivations ask for besides. -/
namespace AC
open PySem L2 PyProof

theorem sub_datm {α : Type} {c : Cod α} {t : α → PyData} {n m : Nat} (h : DC c t n) (hm : n ≤ m) : Sub c (cDat m) t := fun K R v x q => by
  obtain ⟨h1, h2, h3⟩ := h K R v x q
  exact ⟨h1, h2, by omega⟩
theorem hd_w : HardC cW := fun _ _ _ _ _ _ h => h
abbrev NNon {α : Type} (c : Cod α) : Prop := ∀ K R v x, c.see K R v x → v ≠ .non
theorem nn_i : NNon cI := fun K R v x h e => by cases h; cases e
theorem nn_b : NNon cB := fun K R v x h e => by cases h; cases e
theorem nn_s : NNon cS := fun K R v x h e => by obtain ⟨rfl, _⟩ := h; cases e
theorem nn_l {α : Type} {c : Cod α} : NNon (cL c) := fun K R v x ⟨a, vs, e, _⟩ e' => by subst e; cases e'
theorem nn_tv {α : Type} {c : Cod α} : NNon (cTV c) := fun K R v x ⟨a, vs, e, _⟩ e' => by subst e; cases e'
theorem nn_t {α : Type} {c : ArgC α} : NNon (cT c) := fun K R v x ⟨a, vs, e, _⟩ e' => by subst e; cases e'
theorem nn_h {α : Type} {c : ArgC α} : NNon (cH c) := fun K R v x ⟨a, vs, e, _⟩ e' => by subst e; cases e'
theorem nn_d {κ α : Type} {kc : KeyC κ} {c : Cod α} : NNon (cD kc c) := fun K R v x ⟨a, vs, e, _⟩ e' => by subst e; cases e'
theorem nn_ins {α : Type} {C : Addr} {fc : FldC α} : NNon (cIns C fc) := fun K R v x ⟨a, dx, fs, e, _⟩ e' => by subst e; cases e'
def FLen {α : Type} (fc : FldC α) (n : Nat) : Prop := ∀ K R fs x, fc.see K R fs x → fs.length = n
theorem len_nil : FLen fNil 0 := fun K R fs x h => by have h : fs = [] := h; rw [h]; rfl
theorem len_snoc {α β : Type} {fc : FldC α} {n : Nat} {m : Str} {c : Cod β} (h : FLen fc n) : FLen (fSnoc fc m c) (n + 1) := fun K R fs x ⟨fs', v, e, h1, h2⟩ => by rw [e, List.length_append, h K R fs' _ h1]; rfl
theorem len_ok {α : Type} {fc : FldC α} {n : Nat} (h : FLen fc n) (hn : n < 800) : ∀ K R fs x, fc.see K R fs x → fs.length < 800 := fun K R fs x q => by rw [h K R fs x q]; exact hn
section
variable {A : Amb} {G G' : Ctx} {ρ : Type} {R : Rr ρ}
theorem bx_bad {sts : List Stmt} : BX A G sts G' R (fun _ => .bad) := ⟨fun pins s o H D I ⟨p, L, w, cr, k⟩ => k.elim⟩
theorem mt_appS {α β : Type} {c : Cod α} {d : Cod β} {g : β → α} (s : Sub d c g) : MtT A "list.append" c (aOne d) (fun xs y => appO xs (g y)) cN := by
  obtain ⟨r, h1, h2⟩ := mt_app (A := A) (c := c)
  exact ⟨r, h1, fun L H l vs ws xs xs' y z Q w q1 q2 q3 ⟨v, ew, hv⟩ hk q => h2 L H l vs ws xs xs' (g y) z Q w q1 q2 q3 ⟨v, ew, s _ _ _ _ hv⟩ hk q⟩
theorem ex_kwG {α β : Type} {as : ArgC α} {r : Rt β} {F : α → Res β} {k : Nat} {ps : List Str} {x : Str} {p pos : Pos} {kws : List Keyword} {fa : CT G → Res (α × CT G)} (D : DefA A k x ps (spP A.X.K A.ca as r F)) (hk : k ≤ A.lv) (gl : Gl A.X x) (hr : RtOk r) (ha : KWX A G kws as fa) (hl : as.n = ps.length)
    (hall : (backToKw pos (keywordEach kws A.X.env)).all (·.1.isSome) = true := by rfl) (hks : (backToKw pos (keywordEach kws A.X.env)).filterMap (·.1) = ps := by rfl) (hdb : (x == ("__debug__" : Str)) = false := by decide) (hpl : (backToKw pos (keywordEach kws A.X.env)).any (·.1.isNone) = false := by rfl) :
    EX A G (.Call (.Name x p) [] kws pos) r (fun p => Res.bind (fa p) fun y => Res.bind (F y.1) fun z => .ok (z, y.2)) := by
  obtain ⟨f, fd, F1, h2, h3, _, h5⟩ := D.ex
  exact ex_calK0 F1 hk gl h2 h3 (fun s us _ hu => h5 s us hu) hr ha hl hall hks hdb hpl
/-- a, b = e1, e2 by a tuple of its own (a name of them is a cell) -/
theorem sx_parC {s1 s2 : Slot} {r1 : Rt s1.T} {r2 : Rt s2.T} {G1 : Ctx} {i j : Nat} {f1 : CT G → Res (s1.T × CT G)} {f2 : CT G → Res (s2.T × CT G)} {put2 : CT G → s2.T → CT G1} {put1 : CT G1 → s1.T → CT G'} {x y : Str} {a b : Expr} {px py pt pos : Pos} {kt k2 pt2} (q1 : StR s1 r1) (q2 : StR s2 r2) (u2 : Upd G j s2 G1 put2) (u1 : Upd G1 i s1 G' put1) (hij : i ≠ j) (hS : A.S i ∧ A.S j)
    (hi : A.X.N[i]? = some x) (hj : A.X.N[j]? = some y) (hx : Loc A.X.env.scope x) (hy : Loc A.X.env.scope y) (h1 : EX A G a r1 f1) (h2 : EX A G b r2 f2)
    (hw : swappedStores [.Tuple [.Name x px, .Name y py] kt pt] (.Tuple [a, b] k2 pt2) A.X.env = pure none) (fx : A.X.fn x = true) (fy : A.X.fn y = true)
    (hs : swapsWithSole [.Tuple [.Name x px, .Name y py] kt pt] (.Tuple [a, b] k2 pt2) pos.line A.X.env = pure false := by rfl)
    (sa : starEach [a, b] A.X.env = (false, eval a A.X.env) :: starEach [b] A.X.env := by rfl) (sb : starEach [b] A.X.env = (false, eval b A.X.env) :: starEach [] A.X.env := by rfl) :
    SX A G (.Assign [.Tuple [.Name x px, .Name y py] kt pt] (.Tuple [a, b] k2 pt2) pos) G' R (fun p => Res.bind (f1 p) fun y => Res.bind (f2 y.2) fun z => .ok (.nx (put1 (put2 z.2 z.1) y.1))) :=
  ps_weak (ps_asg (pe_tup (pa_cons h1 (pa_cons h2 pa_nil sb) sa)) (pg_tup A.calm (pgs_cons (pg_name A.nd hi hx (.inl fx)) (pgs_cons (pg_name A.nd hj hy (.inl fy)) pgs_nil))) hs hw) fun D o H ⟨p, L, w, cr, k⟩ => ⟨p, L, w, cr, k.bind.imp fun y _ gy v L1 H1 s1' w1 c1 rl1 => ⟨y.2, L1, w1, c1, (gy.bind.step s1').imp fun z _ gz v2 L2 H2 s2' w2 c2 rl2 => ⟨by show 2 ≤ sizeLine; decide, fun ad ha => by
    obtain ⟨e1, e2⟩ := ext_new (o := .tup [v, v2]) w2 ha
    refine ⟨ad, [v, v2], rfl, .inl (.inl upd_same), rfl, v, [v2], rfl, v2, [], rfl, rfl, ?_⟩
    obtain ⟨L3, a1, a2, a3, a4⟩ := q2.ok A.X.K (0 + j) L1 H1 L2 _ v2 z.1 e2 (r2.post _ _ _ _ _ _ _ _ _ e1.stp rl2)
    have s13 : Stp L1 H1 L3 _ := stp_more (s2'.trans e1.stp) a1
    have c3 := u2.ok _ _ _ z.1 v2 _ _ _ (cr_more a2 (c2.ext w2 e1)) a4
    obtain ⟨L4, b1, b2, b3, b4⟩ := q1.ok A.X.K (0 + i) L H L3 _ v y.1 a3 (r1.post _ _ _ _ _ _ _ _ _ s13 rl1)
    have c4 := u1.ok _ _ _ y.1 v _ _ _ (cr_more b2 c3) b4
    rw [Nat.zero_add, Nat.zero_add, List.set_comm _ _ hij.symm] at c4
    exact (show nxP A G' R L H o D (.nx _) from gz) _ L4 _ (stp_more (s1'.trans s13) b1) b3 c4 ((Keeps.set hS.1).trans (Keeps.set hS.2))⟩⟩⟩
end
end AC
set_option Elab.async false
set_option linter.all false
set_option maxRecDepth 100000
/-! TL17: a law's end. -/
namespace AC
open PySem L2 PyProof PyProof.Rows PySem.Spec

/-- keywords alone, in the parameters' order -/
theorem kw_binds {K : Frag} {x qual : Str} {params : Arguments} {body : List Stmt} {scope : Scope} {kws : List (Str × V)} {f : Addr} {fd : FuncData} {ps : List Str} (F : FunD K x qual params body scope [] kws f fd)
    (h : ∀ (kV doc pm : Value) (an : Option Addr) (cd ct : Value) (us : List Value), us.length = ps.length → bindArgs (PySem.W.fnOf x qual params body scope .none kV doc pm an cd ct) ⟨[], ps.zip us⟩ = pure (ps.zip us)) : ∀ (s : Shared) (us : List Value), us.length = ps.length → BindsTo s fd ⟨[], ps.zip us⟩ (ps.zip us) := fun s us hl => by
  obtain ⟨oc, od, dV, kV, doc, pm, an, cd, ct, osl, e0, lk, hcd, hD, hK⟩ := F.ex
  subst e0
  rcases hD with ⟨_, e1⟩ | ⟨e1, _⟩
  · subst e1
    exact .of_eq (h kV doc pm an cd ct us hl)
  · exact absurd rfl e1
theorem ints_paired {K : Frag} {R : Hp} : ∀ ns : List Int, Paired (fun v x => cI.see K R v x) (ns.map V.int) ns
  | [] => .nil
  | _ :: ns => .cons rfl (ints_paired ns)
/-- the law's promise where nothing but the script is known -/
theorem sp_law {K : Frag} {ca : Str → Addr} {n : Nat} {F : List Int → Res Bool} (hF : ∀ ns : List Int, ns.length ≤ n → F ns = .ok true) (hn : n ≤ sizeLine) (H : Hp) (a : Addr) (ns : List Int) (hl : ns.length ≤ n) (hS : SqL K H a (ns.map V.int)) :
    spP K ca (aOne (cLK cI)) (rV cB) F [.ref a] H (fun v _ => v = .bl true) fun _ _ _ => False := by
  classical
  have rdH : rd (fun b => if H b = none then none else some (0, [])) H = H := by
    funext b
    unfold rd
    by_cases e : H b = none
    · simp only [e, if_true]
    · simp only [if_neg e]
  refine ⟨ns, fun b => if H b = none then none else some (0, []), ⟨fun b hb e => hb (if_pos e), fun b k l e => ?_⟩, ⟨.ref a, rfl, a, ns.map V.int, rfl, by rw [rdH]; exact hS, by rw [List.length_map]; omega, ?_⟩, ?_⟩
  · have e : (if H b = none then none else some (0, ([] : List Nat))) = some (k + 1, l) := e
    by_cases eb : H b = none
    · rw [if_pos eb] at e; cases e
    · rw [if_neg eb] at e; cases e
  · exact ints_paired ns
  · rw [hF ns hl]
    exact fun v L' H' _ _ h => h
/-- the law is called behind the top -/
theorem law_G {P : Program} {w : World} {K : Frag} {gm bm : Str → Option Value} {k : Nat} {fa a : Addr} {fd : FuncData} {x : Str} {sp : Sp} {st : Shared} {us : List Value} {ns : List Int}
    (kin : K.In st.heap) (gns : st.heap.Ns mainGlobals gm) (bns : st.heap.Ns builtinsNs bm) (bbt : ∀ x : Str, x ≠ "__name__" → bm x = bootBuiltins x) (nol : st.heap.NoLimit) (gen0 : st.gens = #[])
    (ga : st.heap.get? a = some { cls := .type "list", data := .seq us.toArray }) (ia : IntsAre us ns) (ln : ns.length ≤ sizeLine) (rm : Room k callerA)
    (F : ∀ base : Heap, K.In base → base.Ns mainGlobals gm → FnG P w K gm base k fa fd [x] sp) (bnd : ∀ (s : Shared) (u : Value), BindsTo s fd ⟨[u], []⟩ [(x, u)])
    (prm : ∀ H : Hp, Only H → SqL K H a (ns.map V.int) → sp [.ref a] H (fun v _ => v = .bl true) fun _ _ _ => False) :
    codeAny (model P w) callerA (.call (.ref fa) ⟨[.ref a], []⟩) (fun r s' => r = .ok (.ret (.bool true)) ∧ OldK st.heap s'.heap ∧ s'.os = st.os ∧ AllBare s'.gens) st := by
  have rvals := vals_ints ia
  have lens := ia.length
  have main_ : ∀ H : Hp, Only H → SqL K H a (ns.map V.int) → HOk P w H st.heap → (∀ b, H b ≠ none → b = a) → (H a ≠ none → K.lookup a = none) →
      codeAny (model P w) callerA (.call (.ref fa) ⟨[.ref a], []⟩) (fun r s' => r = .ok (.ret (.bool true)) ∧ OldK st.heap s'.heap ∧ s'.os = st.os ∧ AllBare s'.gens) st := by
    intro H only seen hokH atA notK
    have keepB : ∀ {b : Addr} {o : Obj}, st.heap.get? b = some o → H b = none → (hidT st.heap H).get? b = some o := fun e n => hidT_get e n
    have noDict : ∀ {b : Addr} {o : Obj} {es : Array DictEntry} {ep : Nat}, st.heap.get? b = some o → o.data = .dict es ep → H b = none := fun {b o es ep} e d => by
      cases q : H b with
      | none => rfl
      | some z =>
        obtain rfl : b = a := atA b (by rw [q]; simp)
        rw [ga] at e
        cases e
        exact Data.noConfusion (show Data.seq us.toArray _ = Data.dict es ep from d)
    have nsB : ∀ {b : Addr} {m : Str → Option Value}, st.heap.Ns b m → (hidT st.heap H).Ns b m := fun {b m} ⟨o, es, ep, e, d, r⟩ => ⟨o, es, ep, keepB e (noDict e d), d, r⟩
    have kinB : K.In (hidT st.heap H) := fun b o e => keepB (kin b o e) (by
      cases q : H b with
      | none => rfl
      | some z =>
        obtain rfl : b = a := atA b (by rw [q]; simp)
        have := notK (by rw [q]; simp)
        rw [this] at e
        cases e)
    have modB : L2.Mod K gm (hidT st.heap H) := ⟨kinB, nsB gns, ⟨bm, nsB bns, bbt⟩, let ⟨mc, h1, h2⟩ := nol; ⟨mc, nsB h1, h2⟩⟩
    have envB : Env0 P w K gm (hidT st.heap H) callerA [] st H := ⟨rfl, modB, fun b o e => of_hidT e, Nat.le_of_eq (hidT_size _ _), trivial, fun b z => absurd (show b ∈ ([] : List Addr) from z) (by simp), hokH, .of_eq gen0⟩
    refine codeAny_mono ((F _ kinB (nsB gns)).go callerA [] st H ⟨[.ref a], []⟩ [.ref a] [.ref a] _ _ rfl rm envB (bnd st (.ref a)) (.cons rfl .nil) (prm H only seen)) fun r s' h => ?_
    rcases r with e | fl
    · obtain ⟨_, _, _, _, _, _, _, _, _, _, _, _, z⟩ := (show L2.CX P w [] H st (fun _ _ _ => False) e s' from h)
      exact z.elim
    · rcases fl with _ | _ | _ | u
      · exact False.elim h
      · exact False.elim h
      · exact False.elim h
      · obtain ⟨v, H', osE, bareE, unE, hokE, rE, qE⟩ := h
        obtain rfl : v = V.bl true := qE
        obtain rfl : u = Value.bool true := rE
        refine ⟨rfl, OldK.of_keep fun b o e => ?_, osE, bareE⟩
        cases q : H b with
        | none => exact unE.keep b o e q (fun z => absurd (show b ∈ ([] : List Addr) from z) (by simp)) (by simp)
        | some z =>
          rcases only b with y | ⟨ob, xs, y⟩
          · rw [q] at y; cases y
          · obtain ⟨t1, _⟩ := hokH b _ y
            obtain ⟨t2, _⟩ := hokE b _ (unE.frzs b ob _ y)
            rw [e] at t1
            cases t1
            exact t2
  cases inK : K.lookup a with
  | some o =>
    have e := kin a o inK
    rw [ga] at e
    cases e
    exact main_ (fun _ => none) (fun _ => Or.inl rfl) (Or.inr ⟨_, us.toArray, _, inK, rfl, rfl, rfl, by rw [List.size_toArray, lens]; exact ln, by simpa using rvals⟩) (fun b u z => absurd (show (none : Option HO) = some u from z) (by simp)) (fun b z => absurd rfl z) fun z => absurd rfl z
  | none =>
    refine main_ (fun b => if b = a then some (.frz { cls := .type "list", data := .seq us.toArray } (.lst (ns.map V.int))) else none) (fun b => ?_) (Or.inl (Or.inr ⟨{ cls := .type "list", data := .seq us.toArray }, if_pos rfl⟩)) (fun b u z => ?_) (fun b z => ?_) fun _ => inK
    · by_cases e : b = a
      · exact Or.inr ⟨_, _, if_pos e⟩
      · exact Or.inl (if_neg e)
    · by_cases e : b = a
      · have y := (if_pos e).symm.trans z
        cases y
        subst e
        exact ⟨ga, by rw [List.length_map]; exact ln, us, _, rvals, ga⟩
      · have y := (if_neg e).symm.trans z
        cases y
    · by_cases e : b = a
      · exact e
      · exact absurd (if_neg e) z
/-- a law over a head by facts -/
theorem walk_G {l : PySem.W.OpenLaw} {n k : Nat} {q : Program} {loose : List Str} {XP : (Str → Option Value) → Heap → Prop} {YP : World → Heap → Prop} {d : DefRec} {x : Str}
    (most : l.most = some n) (small : n ≤ sizeLine) (nodf : d.params.defaults = []) (rm : Room k callerA)
    (F : ∀ (w : World) (gm : Str → Option Value) (fa : Addr) (h : Heap), YP w h → h.Ns mainGlobals gm → gm d.name = some (.ref fa) →
      ∃ (K : Frag) (fd : FuncData) (sp : Sp), K.In h ∧ (∀ (s : Shared) (u : Value), BindsTo s fd ⟨[u], []⟩ [(x, u)]) ∧
        (∀ (H : Hp) (a : Addr) (ns : List Int), ns.length ≤ n → Only H → SqL K H a (ns.map V.int) → sp [.ref a] H (fun v _ => v = .bl true) fun _ _ _ => False) ∧
        ∀ base : Heap, K.In base → base.Ns mainGlobals gm → FnG l.prog w K gm base k fa fd [x] sp) :
    PySem.W.WalkO q loose XP YP l.row.toRowW d [] (fun f vs => PySem.call f vs) := by
  refine Att.attach_call most nodf fun w s₀ st gm bm fa o pm cd doc a us ns G Y ho hd hcd hgm hobj hints hlen hg => ?_
  obtain ⟨K, fd, sp, kin, bnd, prm, hF⟩ := F w gm fa _ Y G.T.g hgm
  exact law_G kin G.T.g G.T.b G.T.builtins G.T.nolimit hg hobj hints (Nat.le_trans hlen small) rm hF bnd fun H hO hS => prm H a ns hlen hO hS
end AC
set_option Elab.async false
set_option linter.all false
set_option maxRecDepth 100000
/-! TM1: plain laws of results. -/
namespace AC
open PySem L2 PyProof

/-- it ends well, and so -/
def Ok {α : Type} (m : Res α) (P : α → Prop) : Prop := match m with
  | .ok x => P x
  | _ => False
theorem ok_ok {α : Type} {x : α} {P : α → Prop} (h : P x) : Ok (.ok x) P := h
theorem Ok.imp {α : Type} {m : Res α} {P Q : α → Prop} (h : Ok m P) (i : ∀ x, P x → Q x) : Ok m Q := by
  cases m with
  | ok x => exact i x h
  | exc e => exact h
  | bad => exact h
theorem Ok.bind {α β : Type} {m : Res α} {f : α → Res β} {P : β → Prop} (h : Ok m fun x => Ok (f x) P) : Ok (Res.bind m f) P := by
  cases m with
  | ok x => exact h
  | exc e => exact h
  | bad => exact h
theorem ok_bind {α β : Type} {m : Res α} {f : α → Res β} {Q : α → Prop} {P : β → Prop} (h : Ok m Q) (k : ∀ x, Q x → Ok (f x) P) : Ok (Res.bind m f) P := (h.imp k).bind
theorem ok_ofO {α β : Type} {o : Option α} {x : α} {f : α → Res β} {P : β → Prop} (h : o = some x) (k : Ok (f x) P) : Ok (Res.bind (ofO o) f) P := by
  subst h; exact k
theorem Ok.get {α : Type} {m : Res α} {P : α → Prop} (h : Ok m P) : ∃ x, m = .ok x ∧ P x := by
  cases m with
  | ok x => exact ⟨x, rfl, h⟩
  | exc e => exact h.elim
  | bad => exact h.elim
theorem ok_eq {α : Type} {m : Res α} {x : α} (h : Ok m fun y => y = x) : m = .ok x := by
  obtain ⟨y, e, q⟩ := h.get
  rw [e, q]
theorem ok_noexc {α β : Type} {m : Res α} {f : α → Res β} {P : β → Prop} (h : Ok m fun x => Ok (f x) P) : Ok (Res.bind (Res.noexc m) f) P := by
  cases m with
  | ok x => exact h
  | exc e => exact h.elim
  | bad => exact h.elim
/-- what a loop leaves -/
def OutP {β ρ : Type} (I : β → Prop) (R : ρ → Prop) : Out β ρ → Prop
  | .nx b => I b
  | .rt r => R r
theorem ok_seq {β β' ρ : Type} {m : Res (Out β ρ)} {g : β → Res (Out β' ρ)} {I : β → Prop} {R : ρ → Prop} {P : Out β' ρ → Prop} (h : Ok m (OutP I R)) (hn : ∀ b, I b → Ok (g b) P) (hr : ∀ r, R r → P (.rt r)) : Ok (Res.bind m (Out.seq g)) P := by
  refine ok_bind h fun y q => ?_
  cases y with
  | nx b => exact hn b q
  | rt r => exact hr r q
/-- for, with an invariant -/
theorem ok_forG {α β ρ : Type} {f : α → β → Res (Out β ρ)} {R : ρ → Prop} : ∀ (xs : List α) (k : Nat) (I : Nat → β → Prop) (b : β), I k b → (∀ i x b, xs[i]? = some x → I (k + i) b → Ok (f x b) (OutP (I (k + i + 1)) R)) → Ok (forL xs f b) (OutP (I (k + xs.length)) R)
  | [], k, I, b, h0, _ => h0
  | x :: xs, k, I, b, h0, hs => by
    refine ok_seq (hs 0 x b rfl h0) (fun b' hb => ?_) fun r hr => hr
    have := ok_forG xs (k + 1) I b' hb fun i y b hy hI => by
      have := hs (i + 1) y b (by simpa using hy) (by rw [show k + (i + 1) = k + 1 + i by omega]; exact hI)
      rw [show k + (i + 1) + 1 = k + 1 + i + 1 by omega] at this
      exact this
    rw [List.length_cons, show k + (xs.length + 1) = k + 1 + xs.length by omega]
    exact this
theorem ok_for {α β ρ : Type} {f : α → β → Res (Out β ρ)} {R : ρ → Prop} {xs : List α} {b : β} (I : Nat → β → Prop) (h0 : I 0 b) (hs : ∀ i x b, xs[i]? = some x → I i b → Ok (f x b) (OutP (I (i + 1)) R)) : Ok (forL xs f b) (OutP (I xs.length) R) := by
  have := ok_forG xs 0 I b h0 fun i x b hx hI => by
    rw [Nat.zero_add] at hI ⊢
    exact hs i x b hx hI
  rw [Nat.zero_add] at this
  exact this
/-- [.. for ..], with an invariant -/
theorem ok_mapG {α β γ : Type} {f : α → β → Res (γ × β)} {Q : Nat → γ → Prop} : ∀ (xs : List α) (k : Nat) (I : Nat → β → Prop) (b : β), I k b → (∀ i x b, xs[i]? = some x → I (k + i) b → Ok (f x b) fun r => Q (k + i) r.1 ∧ I (k + i + 1) r.2) →
    Ok (mapR xs f b) fun z => z.1.length = xs.length ∧ (∀ i y, z.1[i]? = some y → Q (k + i) y) ∧ I (k + xs.length) z.2
  | [], k, I, b, h0, _ => ⟨rfl, fun i y e => by simp at e, h0⟩
  | x :: xs, k, I, b, h0, hs => by
    refine ok_noexc ((hs 0 x b rfl h0).imp fun r hr => ?_)
    have := ok_mapG (Q := Q) xs (k + 1) I r.2 hr.2 fun i y b hy hI => by
      have := hs (i + 1) y b (by simpa using hy) (by rw [show k + (i + 1) = k + 1 + i by omega]; exact hI)
      rw [show k + (i + 1) = k + 1 + i by omega] at this
      exact this
    refine ok_bind this fun z hz => ⟨by show (r.1 :: z.1).length = _; rw [List.length_cons, List.length_cons, hz.1], fun i y e => ?_, ?_⟩
    · cases i with
      | zero =>
        have e : r.1 = y := by simpa using e
        rw [← e]; exact hr.1
      | succ i =>
        have := hz.2.1 i y (by simpa using e)
        rw [show k + 1 + i = k + (i + 1) by omega] at this
        exact this
    · rw [List.length_cons, show k + (xs.length + 1) = k + 1 + xs.length by omega]
      exact hz.2.2
theorem ok_map {α β γ : Type} {f : α → β → Res (γ × β)} {xs : List α} {b : β} (I : Nat → β → Prop) (Q : Nat → γ → Prop) (h0 : I 0 b) (hs : ∀ i x b, xs[i]? = some x → I i b → Ok (f x b) fun r => Q i r.1 ∧ I (i + 1) r.2) :
    Ok (mapR xs f b) fun z => z.1.length = xs.length ∧ (∀ i y, z.1[i]? = some y → Q i y) ∧ I xs.length z.2 := by
  have := ok_mapG (Q := Q) xs 0 I b h0 fun i x b hx hI => by
    rw [Nat.zero_add] at hI ⊢
    exact hs i x b hx hI
  simp only [Nat.zero_add] at this
  exact this
/-- nothing changes, a function of the item -/
theorem map_pure {α β γ : Type} {f : α → β → Res (γ × β)} {g : α → γ} {b : β} : ∀ {xs : List α}, (∀ x ∈ xs, f x b = .ok (g x, b)) → mapR xs f b = .ok (xs.map g, b)
  | [], _ => rfl
  | x :: xs, h => by
    show Res.bind (Res.noexc (f x b)) _ = _
    rw [h x List.mem_cons_self]
    show Res.bind (mapR xs f b) _ = _
    rw [map_pure fun y hy => h y (List.mem_cons_of_mem _ hy)]
    rfl
theorem lc_pure {α β γ : Type} {f : α → β → Res (Option γ × β)} {g : α → Option γ} {b : β} : ∀ {xs : List α}, (∀ x ∈ xs, f x b = .ok (g x, b)) → lcL xs f b = .ok (xs.filterMap g, b)
  | [], _ => rfl
  | x :: xs, h => by
    show Res.bind (Res.noexc (f x b)) _ = _
    rw [h x List.mem_cons_self]
    show Res.bind (lcL xs f b) _ = _
    rw [lc_pure fun y hy => h y (List.mem_cons_of_mem _ hy), List.filterMap_cons]
    cases g x <;> rfl
theorem ok_mapP {α β γ : Type} {f : α → β → Res (γ × β)} (g : α → γ) {b : β} {xs : List α} (h : ∀ x ∈ xs, Ok (f x b) fun r => r = (g x, b)) : Ok (mapR xs f b) fun z => z = (xs.map g, b) := by
  rw [map_pure fun x hx => ok_eq (h x hx)]
  exact rfl
theorem ok_lcP {α β γ : Type} {f : α → β → Res (Option γ × β)} (g : α → Option γ) {b : β} {xs : List α} (h : ∀ x ∈ xs, Ok (f x b) fun r => r = (g x, b)) : Ok (lcL xs f b) fun z => z = (xs.filterMap g, b) := by
  rw [lc_pure fun x hx => ok_eq (h x hx)]
  exact rfl
/-- while, with a measure -/
theorem ok_whileN {β ρ : Type} {c : β → Res (Bool × β)} {f : β → Res (Out β ρ)} {R : ρ → Prop} {E : β → Prop} (I : Nat → β → Prop) : ∀ (n k : Nat) (b : β), I k b → k < n → (∀ k b, I k b → Ok (c b) fun t => (t.1 = true → Ok (f t.2) (OutP (fun b' => ∃ k', k' < k ∧ I k' b') R)) ∧ (t.1 = false → E t.2)) → Ok (whileN c f n b) (OutP E R)
  | 0, k, b, h, hk, _ => by omega
  | n + 1, k, b, h, hk, hs => by
    refine ok_bind (hs k b h) fun t ht => ?_
    by_cases e : t.1 = true
    · rw [if_pos e]
      exact ok_seq (ht.1 e) (fun b' ⟨k', h1, h2⟩ => ok_whileN I n k' b' h2 (by omega) hs) fun r hr => hr
    · rw [if_neg e]
      exact ht.2 (by simpa using e)
theorem ok_while {β ρ : Type} {c : β → Res (Bool × β)} {f : β → Res (Out β ρ)} {R : ρ → Prop} {E : β → Prop} (I : Nat → β → Prop) (k : Nat) {b : β} (h : I k b) (hk : k < 2 ^ 40) (hs : ∀ k b, I k b → Ok (c b) fun t => (t.1 = true → Ok (f t.2) (OutP (fun b' => ∃ k', k' < k ∧ I k' b') R)) ∧ (t.1 = false → E t.2)) : Ok (whileR c f b) (OutP E R) := by
  unfold whileR
  exact ok_whileN I wfuel k b h hk hs

theorem seq_nx {β β' ρ : Type} {g : β → Res (Out β' ρ)} {q : β} : Out.seq g (.nx q) = g q := rfl
theorem seq_rt {β β' ρ : Type} {g : β → Res (Out β' ρ)} {r : ρ} : Out.seq g (.rt r) = .ok (.rt r) := rfl
theorem map_nx {β β' ρ : Type} {g : β → β'} {q : β} : (Out.nx q : Out β ρ).map g = .nx (g q) := rfl
theorem map_rt {β β' ρ : Type} {g : β → β'} {r : ρ} : (Out.rt r : Out β ρ).map g = .rt r := rfl
theorem endV_rt {β ρ : Type} {r : ρ} : endV (.rt r : Out β ρ) = .ok r := rfl
theorem endV_nx {β ρ : Type} {b : β} : endV (.nx b : Out β ρ) = .bad := rfl
theorem endU_rt {β : Type} {r : Unit} : endU (.rt r : Out β Unit) = .ok r := rfl
theorem endU_nx {β : Type} {b : β} : endU (.nx b : Out β Unit) = .ok () := rfl
theorem endX_nx {β γ : Type} {b : β × γ} : endX (.nx b : Out (β × γ) Unit) = .ok b.1 := rfl
theorem ofO_some {α : Type} {x : α} : ofO (some x) = .ok x := rfl
/-! ### small facts -/
theorem ixN_nat {n i : Nat} (h : i < n) : ixN n (i : Int) = some i := by
  unfold ixN
  rw [if_pos (by omega), if_pos (by omega)]
  simp
theorem atI_get {α : Type} {xs : List α} {i : Nat} {x : α} (h : xs[i]? = some x) : atI xs (i : Int) = some x := by
  have hl := (List.getElem?_eq_some_iff.mp h).1
  unfold atI
  rw [ixN_nat hl]
  exact h
theorem atI_i {α : Type} {xs : List α} {i : Int} {x : α} (h0 : 0 ≤ i) (h : xs[i.toNat]? = some x) : atI xs i = some x := by
  have := atI_get h
  rwa [Int.toNat_of_nonneg h0] at this
theorem setI_get {α : Type} {xs : List α} {i : Nat} {x : α} (h : i < xs.length) : setI xs (i : Int) x = some (xs.set i x) := by
  unfold setI
  rw [ixN_nat h]
  rfl
/-- no bits to speak of -/
theorem log2_lt {x : Int} {n : Nat} (h0 : 0 ≤ x) (h : x < 2 ^ n) (hn : 0 < n) : x.natAbs.log2 < n := by
  by_cases hx : x.natAbs = 0
  · rw [hx]; simpa using hn
  · rw [Nat.log2_lt hx]
    have : (x.natAbs : Int) < 2 ^ n := by omega
    exact_mod_cast this
theorem mulO_ok {x y : Int} {n m : Nat} (hx : 0 ≤ x) (hx2 : x < 2 ^ n) (hn : 0 < n) (hy : 0 ≤ y) (hy2 : y < 2 ^ m) (hm : 0 < m) (h : n + m < 1000000) : mulO x y = some (x * y) := by
  unfold mulO
  have h1 := log2_lt hx hx2 hn
  have h2 := log2_lt hy hy2 hm
  rw [if_pos (by omega)]
theorem modO_ok {x y : Int} (h : 0 < y) : modO x y = some (x % y) := by
  unfold modO; rw [if_pos h]
theorem divO_ok {x y : Int} {m : Nat} (h : 0 < y) (hy2 : y < 2 ^ m) (hm : 0 < m) (hl : m < 9000) : divO x y = some (x / y) := by
  unfold divO
  have := log2_lt (by omega) hy2 hm
  rw [if_pos ⟨h, by omega⟩]
theorem appO_ok {α : Type} {xs : List α} {y : α} (h : xs.length < 16777216) : appO xs y = some ((), xs ++ [y]) := by
  unfold appO; rw [if_pos h]
theorem catO_ok {α : Type} {xs ys : List α} (h : xs.length + ys.length ≤ 16777216) : catO xs ys = some (xs ++ ys) := by
  unfold catO; rw [if_pos h]
theorem rng1_ok {n : Nat} (h : n ≤ 16777216) : rng1O (n : Int) = .ok (intsFrom 0 n) := by
  unfold rng1O
  rw [if_pos (by omega)]
  simp
theorem ints_get {n i : Nat} {x : Int} (h : (intsFrom 0 n)[i]? = some x) : x = (i : Int) ∧ i < n := by
  have hl := (List.getElem?_eq_some_iff.mp h).1
  rw [intsFrom_len] at hl
  rw [intsFrom_get hl] at h
  exact ⟨by simpa using h.symm, hl⟩
theorem cut_take {α : Type} {xs : List α} {i : Nat} (h : i ≤ xs.length) : cutL xs none (some (i : Int)) = xs.take i := by
  unfold cutL
  rw [HT.sIx_none, HT.sIx_nat, Nat.min_eq_left h]
  rfl
theorem cut_drop {α : Type} {xs : List α} {i : Nat} (h : i ≤ xs.length) : cutL xs (some (i : Int)) none = xs.drop i := by
  unfold cutL
  rw [HT.sIx_none, HT.sIx_nat, Nat.min_eq_left h]
  exact List.take_of_length_le (by rw [List.length_drop]; omega)
theorem eqv_int {x y : Int} : PyData.eqv (.int x) (.int y) = decide (x = y) := by
  show (x == y) = _
  exact Bool.beq_eq_decide_eq x y
theorem eqv_str {x y : Str} : PyData.eqv (.str x) (.str y) = decide (x = y) := by
  show (x == y) = _
  by_cases h : x = y
  · rw [decide_eq_true h, h]; exact beq_self_eq_true y
  · rw [decide_eq_false h]; exact beq_false_of_ne h
theorem eqv_optI {x y : Option Int} : PyData.eqv (tO .int x) (tO .int y) = decide (x = y) := by
  cases x with
  | none => cases y with
    | none => simp [tO, PyData.eqv]
    | some b => simp [tO, PyData.eqv]
  | some a => cases y with
    | none => simp [tO, PyData.eqv]
    | some b =>
      show PyData.eqv (.int a) (.int b) = _
      rw [eqv_int]
      exact decide_eq_decide.mpr ⟨fun h => by rw [h], fun h => Option.some.inj h⟩
/-- == of data that stands for the values -/
def EqvT {α : Type} (t : α → PyData) : Prop := ∀ x y, PyData.eqv (t x) (t y) = true ↔ x = y
theorem eqvt_int : EqvT PyData.int := fun x y => by rw [eqv_int, decide_eq_true_eq]
theorem eqvt_str : EqvT PyData.str := fun x y => by rw [eqv_str, decide_eq_true_eq]
theorem eqvt_optI : EqvT (tO PyData.int) := fun x y => by rw [eqv_optI, decide_eq_true_eq]
theorem eqvAll_iff {α : Type} {t : α → PyData} (h : EqvT t) : ∀ {xs ys : List α}, PyData.eqvAll (xs.map t) (ys.map t) = true ↔ xs = ys
  | [], [] => by simp [PyData.eqvAll]
  | [], y :: ys => by simp [PyData.eqvAll]
  | x :: xs, [] => by simp [PyData.eqvAll]
  | x :: xs, y :: ys => by
    rw [List.map_cons, List.map_cons]
    simp only [PyData.eqvAll, Bool.and_eq_true, List.cons.injEq]
    rw [h x y, eqvAll_iff h]
theorem eqvt_list {α : Type} {t : α → PyData} (h : EqvT t) : EqvT fun xs : List α => PyData.list (xs.map t) := fun xs ys => by
  show PyData.eqvAll _ _ = true ↔ _
  exact eqvAll_iff h
theorem eqO_t {α : Type} [DecidableEq α] {t : α → PyData} (h : EqvT t) {x y : α} : eqO t t x y = decide (x = y) := by
  unfold eqO
  by_cases e : x = y
  · rw [decide_eq_true e]; exact (h x y).mpr e
  · rw [decide_eq_false e]
    cases q : PyData.eqv (t x) (t y) with
    | false => rfl
    | true => exact absurd ((h x y).mp q) e
theorem nodup_get {α : Type} : ∀ {xs : List α} {i j : Nat} {x : α}, xs.Nodup → xs[i]? = some x → xs[j]? = some x → i = j
  | [], i, j, x, _, h, _ => by simp at h
  | y :: xs, 0, 0, x, _, _, _ => rfl
  | y :: xs, 0, j + 1, x, nd, h1, h2 => by
    have e : y = x := by simpa using h1
    exact absurd (List.mem_of_getElem? (by simpa using h2 : xs[j]? = some x)) (by rw [← e]; exact (List.nodup_cons.mp nd).1)
  | y :: xs, i + 1, 0, x, nd, h1, h2 => by
    have e : y = x := by simpa using h2
    exact absurd (List.mem_of_getElem? (by simpa using h1 : xs[i]? = some x)) (by rw [← e]; exact (List.nodup_cons.mp nd).1)
  | y :: xs, i + 1, j + 1, x, nd, h1, h2 => congrArg Nat.succ (nodup_get (List.nodup_cons.mp nd).2 (by simpa using h1 : xs[i]? = some x) (by simpa using h2 : xs[j]? = some x))
/-- the place of what stands once -/
theorem idx_at {α : Type} {t : α → PyData} (h : EqvT t) {xs : List α} (nd : xs.Nodup) {i : Nat} {x : α} (hx : xs[i]? = some x) : idxO t t xs x = some (i : Int) := by
  obtain ⟨hi, hv⟩ := List.getElem?_eq_some_iff.mp hx
  have e : xs.findIdx? (fun z => PyData.eqv (t z) (t x)) = some i := by
    rw [List.findIdx?_eq_some_iff_getElem]
    refine ⟨hi, by rw [hv]; exact (h x x).mpr rfl, fun j hj => ?_⟩
    rw [h]
    intro e
    have := nodup_get nd (List.getElem?_eq_some_iff.mpr ⟨by omega, e⟩) hx
    omega
  unfold idxO
  rw [e]
  rfl
/-- what repr shows without trouble -/
structure Shw (n : Nat) (d : PyData) : Prop where
  sh : d.showable = true
  nd : d.hasDict = false
  lv : d.leavesShort 13 = true
  bk : d.bulk ≤ n
theorem reprO_ok {n : Nat} {d : PyData} (h : Shw n d) (hn : n ≤ 1048576) : reprO d = some d.shown := by
  unfold reprO
  rw [if_pos ⟨h.sh, h.nd, PyData.shown_fits_bulk (B := 13) (by decide) (by decide) h.lv (Nat.le_trans h.bk hn)⟩]
theorem Shw.mono {n m : Nat} {d : PyData} (h : Shw n d) (hm : n ≤ m) : Shw m d := ⟨h.sh, h.nd, h.lv, Nat.le_trans h.bk hm⟩
theorem shw_all {α : Type} {t : α → PyData} {n : Nat} : ∀ {xs : List α}, (∀ x ∈ xs, Shw n (t x)) → PyData.showableAll (xs.map t) = true ∧ PyData.hasDictAll (xs.map t) = false ∧ PyData.leavesShortAll 13 (xs.map t) = true ∧ PyData.bulkAll (xs.map t) ≤ (n + 1) * xs.length
  | [], _ => ⟨by simp [PyData.showableAll], by simp [PyData.hasDictAll], by simp [PyData.leavesShortAll], by simp [PyData.bulkAll]⟩
  | x :: xs, h => by
    obtain ⟨h1, h2, h3, h4⟩ := h x List.mem_cons_self
    obtain ⟨g1, g2, g3, g4⟩ := shw_all (t := t) (n := n) (xs := xs) fun y hy => h y (List.mem_cons_of_mem _ hy)
    refine ⟨by rw [List.map_cons]; simp only [PyData.showableAll, h1, g1, Bool.and_self], by rw [List.map_cons]; simp only [PyData.hasDictAll, h2, g2, Bool.or_self], by rw [List.map_cons]; simp only [PyData.leavesShortAll, h3, g3, Bool.and_self], ?_⟩
    rw [List.map_cons]
    simp only [PyData.bulkAll, List.length_cons, Nat.mul_add, Nat.mul_one]
    omega
theorem shw_list {α : Type} {t : α → PyData} {n : Nat} {xs : List α} (h : ∀ x ∈ xs, Shw n (t x)) : Shw ((n + 1) * xs.length) (.list (xs.map t)) := by
  obtain ⟨h1, h2, h3, h4⟩ := shw_all h
  exact ⟨by simpa only [PyData.showable] using h1, by simpa only [PyData.hasDict] using h2, by simpa only [PyData.leavesShort] using h3, by simpa only [PyData.bulk] using h4⟩
theorem shw_tup {α : Type} {t : α → PyData} {n : Nat} {xs : List α} (h : ∀ x ∈ xs, Shw n (t x)) : Shw ((n + 1) * xs.length) (.tuple (xs.map t)) := by
  obtain ⟨h1, h2, h3, h4⟩ := shw_all h
  exact ⟨by simpa only [PyData.showable] using h1, by simpa only [PyData.hasDict] using h2, by simpa only [PyData.leavesShort] using h3, by simpa only [PyData.bulk] using h4⟩
theorem shw_str {x : Str} {n : Nat} (h : x.cps.toList.all (fun c => decide (c < 16 ^ 8)) = true) (hn : x.cps.size ≤ n) : Shw n (.str x) := ⟨rfl, rfl, h, hn⟩
/-- a loop that ends at the first that fails -/
theorem ok_forAll {α β ρ : Type} {f : α → β → Res (Out β ρ)} {b : β} {r : ρ} (p : α → Bool) : ∀ {xs : List α}, (∀ x ∈ xs, Ok (f x b) fun o => o = if p x = true then .nx b else .rt r) → Ok (forL xs f b) fun o => o = if xs.all p = true then .nx b else .rt r
  | [], _ => rfl
  | x :: xs, h => by
    refine ok_bind (h x List.mem_cons_self) fun o ho => ?_
    subst ho
    have ih := ok_forAll (r := r) p (xs := xs) fun y hy => h y (List.mem_cons_of_mem _ hy)
    rw [List.all_cons]
    cases p x with
    | true => simpa only [if_true, Out.seq, Bool.true_and] using ih
    | false => exact rfl
end AC
set_option Elab.async false
set_option linter.all false
set_option maxRecDepth 100000
set_option maxHeartbeats 4000000
namespace Pf
open PySem L2 PyProof PyProof.Rows AC
def top (i : Nat) : Stmt := PySem.Challenge.pw_anycut_k37_calls_that_may_change_places.main.body.getD i (.Pass ⟨0, 0, 0, 0⟩)
def sub (i j : Nat) : Stmt := match top i with
  | .ClassDef (body := b) .. => b.getD j (.Pass ⟨0, 0, 0, 0⟩)
  | _ => .Pass ⟨0, 0, 0, 0⟩
def lettersS : Str := "abcdefghijklmnopqrstuvwxyz"
/-! is_name -/
abbrev s_is_name : Stmt := top 10
abbrev N_is_name : List Str := ["name", "letter"]
theorem sc_is_name : FnScope N_is_name ["name"] (defScope s_is_name) := ⟨rfl, rfl, rfl, by decide +kernel, rfl, by decide +kernel, by decide +kernel⟩
def fb_is_name : {fb : CT [sVal cS, sAny] → Res (Out (CT [sVal cS, sAny]) Bool) // ∀ {P : Program} {w : World} {K : Frag} {mg : Str → Option Value} {base : Heap} {ca : Str → Addr} (M_all : mg "all" = none) (M_LETTERS : ∃ t, mg "LETTERS" = some (.str lettersS t)) (M_len : mg "len" = none) (f : Addr) (nd : N_is_name.Nodup) cd A outer s H E hr hgd, BX (ambOf P w K mg base ca N_is_name nd 0 "is_name" (defScope s_is_name) f cd A outer s H E hr hgd) [sVal cS, sAny] (defBody s_is_name) [sVal cS, sAny] (rrP (rV cB)) fb} := ⟨_, by
  intro P w K mg base ca M_all M_LETTERS M_len f nd cd A outer s H E hr hgd
  obtain ⟨_, M_LETTERS⟩ := M_LETTERS
  refine' bx_one ?_
  exact sx_ret (ex_and (ex_chain ot_le ot_le ex_int (ex_callB ct_lenS (by rfl) (by exact M_len) (by decide +kernel) (ax_one (ex_var at_z (by rfl) (by first | exact Or.inl rfl | exact Or.inr (Or.inl rfl) | exact Or.inr (Or.inr rfl))))) ex_int (by rfl)) (ex_and1 (ex_callB ct_all (by rfl) (by exact M_all) (by decide +kernel) (ax_one (ex_frz frz_l (ex_lc (own := [("letter", 1)]) (ix_s (ex_var at_z (by rfl) (by first | exact Or.inl rfl | exact Or.inr (Or.inl rfl) | exact Or.inr (Or.inr rfl)))) (blkOk_by (by rfl)) (wc_keep (by decide) (wc_any wc_nil)) (fun _ _ _ _ _ => (gx_name (up_s up_z) (by rfl) (by first | exact Or.inl rfl | exact Or.inr rfl) (by show (1 : Nat) ∈ [1]; decide) (by first | exact Or.inl rfl | exact Or.inr rfl))) (fun _ _ _ _ _ => (ex_cmp ot_sgnIn (ex_var (at_s at_z) (by rfl) (by first | exact Or.inl rfl | exact Or.inr (Or.inl rfl) | exact Or.inr (Or.inr rfl))) (ex_gstr (by rfl) (by exact M_LETTERS) (by decide +kernel) (by decide +kernel)) (by rfl))) (wc_keep (by decide) (wc_val wc_nil))))))))⟩
def F_is_name (y : Str) : Res Bool := Res.bind ((fb_is_name ).1 (y, ((), ()))) endV

theorem ok_is_name {P : Program} {w : World} {K : Frag} {mg : Str → Option Value} {base : Heap} {ca : Str → Addr} {fa : Addr} {fd : FuncData} (F0 : FunD K "is_name" "is_name" (defArgs s_is_name) (defBody s_is_name) (defScope s_is_name) [] [] fa fd) (M_all : mg "all" = none) (M_LETTERS : ∃ t, mg "LETTERS" = some (.str lettersS t)) (M_len : mg "len" = none) (hm : mg "is_name" = some (.ref fa)) : DefG P w K mg base 1 "is_name" ["name"] (spP K ca (aOne cS) (rV cB) F_is_name) :=
  ⟨fa, fd, fn_P (as := (aOne cS)) (G0 := [sVal cS, sAny]) (ini := (fun y => (y, ((), ())))) (fb := (fb_is_name ).1) F0 sc_is_name (by rfl) (fun L H vs y wf h => by obtain ⟨v1, rfl, h1⟩ := h; exact ⟨⟨v1, rfl, h1⟩, trivial, Nat.le_of_ble_eq_true (by rfl)⟩) (fun nd cd A outer s H E hr hgd => (fb_is_name ).2 M_all M_LETTERS M_len fa nd cd A outer s H E hr hgd) (fun y => rfl), hm, F0.kp, (F0.bindsN (ps := ["name"]) fun _ _ _ _ _ _ us hl => match us, hl with | [_], _ => rfl), (kw_binds (ps := ["name"]) F0 fun _ _ _ _ _ _ us hl => match us, hl with | [_], _ => rfl)⟩

/-! check_names -/
abbrev s_check_names : Stmt := top 11
abbrev N_check_names : List Str := ["names", "at"]
theorem sc_check_names : FnScope N_check_names ["names"] (defScope s_check_names) := ⟨rfl, rfl, rfl, by decide +kernel, rfl, by decide +kernel, by decide +kernel⟩
def fb_check_names : {fb : CT [sVal (cL cS), sAny] → Res (Out (CT [sVal (cL cS), sAny]) Unit) // ∀ {P : Program} {w : World} {K : Frag} {mg : Str → Option Value} {base : Heap} {ca : Str → Addr} (M_range : mg "range" = none) (M_len : mg "len" = none) (D_is_name : DefG P w K mg base 1 "is_name" ["name"] (spP K ca (aOne cS) (rV cB) F_is_name)) (f : Addr) (nd : N_check_names.Nodup) cd A outer s H E hr hgd, BX (ambOf P w K mg base ca N_check_names nd 1 "check_names" (defScope s_check_names) f cd A outer s H E hr hgd) [sVal (cL cS), sAny] (defBody s_check_names) [sVal (cL cS), sAny] (rrP (rV cN)) fb} := ⟨_, by
  intro P w K mg base ca M_range M_len D_is_name f nd cd A outer s H E hr hgd
  refine' bx_one ?_
  refine' sx_for (G1 := [sVal (cL cS), sVal cI]) (G2 := [sVal (cL cS), sVal cI]) (ix_r1 (by rfl) (by exact M_range) (ex_callB ct_lenL (by rfl) (by exact M_len) (by decide +kernel) (ax_one (ex_var at_z (by rfl) (by first | exact Or.inl rfl | exact Or.inr (Or.inl rfl) | exact Or.inr (Or.inr rfl)))))) (gx_name (up_s up_z) (by rfl) (by first | exact Or.inl rfl | exact Or.inr rfl) (by exact trivial) (by first | exact Or.inl rfl | exact Or.inr rfl)) ?g7 (sc_same (sc_any sc_id))
  case g7 =>
    refine' bx_cons (G1 := [sVal (cL cS), sVal cI]) ?g5 ?g6
    case g5 =>
      refine' sx_if (G' := [sVal (cL cS), sVal cI]) (tx_not (tx_val (ex_cal D_is_name (Nat.le_of_ble_eq_true (by rfl)) (by rfl) rtv (ax_one (ex_ixL (ex_var at_z (by rfl) (by first | exact Or.inl rfl | exact Or.inr (Or.inl rfl) | exact Or.inr (Or.inr rfl))) (ex_var (at_s at_z) (by rfl) (by first | exact Or.inl rfl | exact Or.inr (Or.inl rfl) | exact Or.inr (Or.inr rfl))) (by intro _ _; rfl)))))) ?g1 ?g2
      case g1 =>
        refine' bx_one ?_
        exact sx_bad
      case g2 =>
        exact bx_nil
    case g6 =>
      refine' bx_one ?_
      refine' sx_if (G' := [sVal (cL cS), sVal cI]) (tx_cmp (ot_inLF fq_s) (ex_ixL (ex_var at_z (by rfl) (by first | exact Or.inl rfl | exact Or.inr (Or.inl rfl) | exact Or.inr (Or.inr rfl))) (ex_var (at_s at_z) (by rfl) (by first | exact Or.inl rfl | exact Or.inr (Or.inl rfl) | exact Or.inr (Or.inr rfl))) (by intro _ _; rfl)) (ex_frz frz_l (ex_cutL (ex_var at_z (by rfl) (by first | exact Or.inl rfl | exact Or.inr (Or.inl rfl) | exact Or.inr (Or.inr rfl))) ox_none (ox_some (ex_var (at_s at_z) (by rfl) (by first | exact Or.inl rfl | exact Or.inr (Or.inl rfl) | exact Or.inr (Or.inr rfl)))))) (by rfl)) ?g3 ?g4
      case g3 =>
        refine' bx_one ?_
        exact sx_bad
      case g4 =>
        exact bx_nil⟩
def F_check_names (y : (List Str)) : Res Unit := Res.bind ((fb_check_names ).1 (y, ((), ()))) endU

theorem ok_check_names {P : Program} {w : World} {K : Frag} {mg : Str → Option Value} {base : Heap} {ca : Str → Addr} {fa : Addr} {fd : FuncData} (F0 : FunD K "check_names" "check_names" (defArgs s_check_names) (defBody s_check_names) (defScope s_check_names) [] [] fa fd) (M_range : mg "range" = none) (M_len : mg "len" = none) (D_is_name : DefG P w K mg base 1 "is_name" ["name"] (spP K ca (aOne cS) (rV cB) F_is_name)) (hm : mg "check_names" = some (.ref fa)) : DefG P w K mg base 2 "check_names" ["names"] (spP K ca (aOne (cL cS)) (rV cN) F_check_names) :=
  ⟨fa, fd, fn_U (as := (aOne (cL cS))) (G0 := [sVal (cL cS), sAny]) (ini := (fun y => (y, ((), ())))) (fb := (fb_check_names ).1) F0 sc_check_names (by rfl) (fun L H vs y wf h => by obtain ⟨v1, rfl, h1⟩ := h; exact ⟨⟨v1, rfl, h1⟩, trivial, Nat.le_of_ble_eq_true (by rfl)⟩) (fun nd cd A outer s H E hr hgd => (fb_check_names ).2 M_range M_len D_is_name fa nd cd A outer s H E hr hgd) (fun y => rfl), hm, F0.kp, (F0.bindsN (ps := ["names"]) fun _ _ _ _ _ _ us hl => match us, hl with | [_], _ => rfl), (kw_binds (ps := ["names"]) F0 fun _ _ _ _ _ _ us hl => match us, hl with | [_], _ => rfl)⟩

/-! check_table -/
abbrev s_check_table : Stmt := top 12
abbrev N_check_table : List Str := ["names", "table", "index", "follow", "answer"]
theorem sc_check_table : FnScope N_check_table ["names", "table"] (defScope s_check_table) := ⟨rfl, rfl, rfl, by decide +kernel, rfl, by decide +kernel, by decide +kernel⟩
def fb_check_table : {fb : CT [sVal (cL cS), sVal (cL (cL (cT (aCons cI (aOne (cO cI)))))), sAny, sAny, sAny] → Res (Out (CT [sVal (cL cS), sVal (cL (cL (cT (aCons cI (aOne (cO cI)))))), sAny, sAny, sAny]) Unit) // ∀ {P : Program} {w : World} {K : Frag} {mg : Str → Option Value} {base : Heap} {ca : Str → Addr} (M_range : mg "range" = none) (M_len : mg "len" = none) (f : Addr) (nd : N_check_table.Nodup) cd A outer s H E hr hgd, BX (ambOf P w K mg base ca N_check_table nd 0 "check_table" (defScope s_check_table) f cd A outer s H E hr hgd) [sVal (cL cS), sVal (cL (cL (cT (aCons cI (aOne (cO cI)))))), sAny, sAny, sAny] (defBody s_check_table) [sVal (cL cS), sVal (cL (cL (cT (aCons cI (aOne (cO cI)))))), sAny, sAny, sAny] (rrP (rV cN)) fb} := ⟨_, by
  intro P w K mg base ca M_range M_len f nd cd A outer s H E hr hgd
  refine' bx_one ?_
  refine' sx_for (G1 := [sVal (cL cS), sVal (cL (cL (cT (aCons cI (aOne (cO cI)))))), sVal cI, sAny, sAny]) (G2 := [sVal (cL cS), sVal (cL (cL (cT (aCons cI (aOne (cO cI)))))), sVal cI, sAny, sAny]) (ix_r1 (by rfl) (by exact M_range) (ex_callB ct_lenL (by rfl) (by exact M_len) (by decide +kernel) (ax_one (ex_var (at_s at_z) (by rfl) (by first | exact Or.inl rfl | exact Or.inr (Or.inl rfl) | exact Or.inr (Or.inr rfl)))))) (gx_name (up_s (up_s up_z)) (by rfl) (by first | exact Or.inl rfl | exact Or.inr rfl) (by exact trivial) (by first | exact Or.inl rfl | exact Or.inr rfl)) ?g15 (sc_same (sc_same (sc_any sc_id)))
  case g15 =>
    refine' bx_cons (G1 := [sVal (cL cS), sVal (cL (cL (cT (aCons cI (aOne (cO cI)))))), sVal cI, sAny, sAny]) ?g13 ?g14
    case g13 =>
      refine' sx_if (G' := [sVal (cL cS), sVal (cL (cL (cT (aCons cI (aOne (cO cI)))))), sVal cI, sAny, sAny]) (tx_cmp ot_ne (ex_callB ct_lenL (by rfl) (by exact M_len) (by decide +kernel) (ax_one (ex_ixL (ex_var (at_s at_z) (by rfl) (by first | exact Or.inl rfl | exact Or.inr (Or.inl rfl) | exact Or.inr (Or.inr rfl))) (ex_var (at_s (at_s at_z)) (by rfl) (by first | exact Or.inl rfl | exact Or.inr (Or.inl rfl) | exact Or.inr (Or.inr rfl))) (by intro _ _; rfl)))) (ex_callB ct_lenL (by rfl) (by exact M_len) (by decide +kernel) (ax_one (ex_var at_z (by rfl) (by first | exact Or.inl rfl | exact Or.inr (Or.inl rfl) | exact Or.inr (Or.inr rfl))))) (by rfl)) ?g8 ?g9
      case g8 =>
        refine' bx_one ?_
        exact sx_bad
      case g9 =>
        exact bx_nil
    case g14 =>
      refine' bx_one ?_
      refine' sx_for (G1 := [sVal (cL cS), sVal (cL (cL (cT (aCons cI (aOne (cO cI)))))), sVal cI, sVal cI, sVal (cO cI)]) (G2 := [sVal (cL cS), sVal (cL (cL (cT (aCons cI (aOne (cO cI)))))), sVal cI, sVal cI, sVal (cO cI)]) (ix_l (ex_ixL (ex_var (at_s at_z) (by rfl) (by first | exact Or.inl rfl | exact Or.inr (Or.inl rfl) | exact Or.inr (Or.inr rfl))) (ex_var (at_s (at_s at_z)) (by rfl) (by first | exact Or.inl rfl | exact Or.inr (Or.inl rfl) | exact Or.inr (Or.inr rfl))) (by intro _ _; rfl))) (gx_tup (gxs_cons (gx_name (up_s (up_s (up_s up_z))) (by rfl) (by first | exact Or.inl rfl | exact Or.inr rfl) (by exact trivial) (by first | exact Or.inl rfl | exact Or.inr rfl)) (gxs_one (gx_name (up_s (up_s (up_s (up_s up_z)))) (by rfl) (by first | exact Or.inl rfl | exact Or.inr rfl) (by exact trivial) (by first | exact Or.inl rfl | exact Or.inr rfl))))) ?g12 (sc_same (sc_same (sc_same (sc_any (sc_any sc_id)))))
      case g12 =>
        refine' bx_one ?_
        refine' sx_if (G' := [sVal (cL cS), sVal (cL (cL (cT (aCons cI (aOne (cO cI)))))), sVal cI, sVal cI, sVal (cO cI)]) (tx_not (tx_chain ot_le ot_lt ex_int (ex_var (at_s (at_s (at_s at_z))) (by rfl) (by first | exact Or.inl rfl | exact Or.inr (Or.inl rfl) | exact Or.inr (Or.inr rfl))) (ex_callB ct_lenL (by rfl) (by exact M_len) (by decide +kernel) (ax_one (ex_var (at_s at_z) (by rfl) (by first | exact Or.inl rfl | exact Or.inr (Or.inl rfl) | exact Or.inr (Or.inr rfl))))) (by rfl))) ?g10 ?g11
        case g10 =>
          refine' bx_one ?_
          exact sx_bad
        case g11 =>
          exact bx_nil⟩
def F_check_table (y : (List Str) × (List (List (Int × (Option Int))))) : Res Unit := Res.bind ((fb_check_table ).1 (y.1, (y.2, ((), ((), ((), ())))))) endU

theorem ok_check_table {P : Program} {w : World} {K : Frag} {mg : Str → Option Value} {base : Heap} {ca : Str → Addr} {fa : Addr} {fd : FuncData} (F0 : FunD K "check_table" "check_table" (defArgs s_check_table) (defBody s_check_table) (defScope s_check_table) [] [] fa fd) (M_range : mg "range" = none) (M_len : mg "len" = none) (hm : mg "check_table" = some (.ref fa)) : DefG P w K mg base 1 "check_table" ["names", "table"] (spP K ca (aCons (cL cS) (aOne (cL (cL (cT (aCons cI (aOne (cO cI)))))))) (rV cN) F_check_table) :=
  ⟨fa, fd, fn_U (as := (aCons (cL cS) (aOne (cL (cL (cT (aCons cI (aOne (cO cI))))))))) (G0 := [sVal (cL cS), sVal (cL (cL (cT (aCons cI (aOne (cO cI)))))), sAny, sAny, sAny]) (ini := (fun y => (y.1, (y.2, ((), ((), ((), ()))))))) (fb := (fb_check_table ).1) F0 sc_check_table (by rfl) (fun L H vs y wf h => by obtain ⟨v1, _, rfl, h1, v2, rfl, h2⟩ := h; exact ⟨⟨v1, rfl, h1⟩, ⟨v2, rfl, h2⟩, trivial, trivial, trivial, Nat.le_of_ble_eq_true (by rfl)⟩) (fun nd cd A outer s H E hr hgd => (fb_check_table ).2 M_range M_len fa nd cd A outer s H E hr hgd) (fun y => rfl), hm, F0.kp, (F0.bindsN (ps := ["names", "table"]) fun _ _ _ _ _ _ us hl => match us, hl with | [_, _], _ => rfl), (kw_binds (ps := ["names", "table"]) F0 fun _ _ _ _ _ _ us hl => match us, hl with | [_, _], _ => rfl)⟩

/-! table_reached -/
abbrev s_table_reached : Stmt := top 13
abbrev N_table_reached : List Str := ["table", "places", "order", "found", "steps", "follow", "answer"]
theorem sc_table_reached : FnScope N_table_reached ["table"] (defScope s_table_reached) := ⟨rfl, rfl, rfl, by decide +kernel, rfl, by decide +kernel, by decide +kernel⟩
def fb_table_reached : {fb : CT [sVal (cL (cL (cT (aCons cI (aOne (cO cI)))))), sAny, sAny, sAny, sAny, sAny, sAny] → Res (Out (CT [sVal (cL (cL (cT (aCons cI (aOne (cO cI)))))), sAny, sAny, sAny, sAny, sAny, sAny]) (List (List (Int × (Option Int))))) // ∀ {P : Program} {w : World} {K : Frag} {mg : Str → Option Value} {base : Heap} {ca : Str → Addr} (M_len : mg "len" = none) (M_tuple : mg "tuple" = none) (f : Addr) (nd : N_table_reached.Nodup) cd A outer s H E hr hgd, BX (ambOf P w K mg base ca N_table_reached nd 0 "table_reached" (defScope s_table_reached) f cd A outer s H E hr hgd) [sVal (cL (cL (cT (aCons cI (aOne (cO cI)))))), sAny, sAny, sAny, sAny, sAny, sAny] (defBody s_table_reached) [sVal (cL (cL (cT (aCons cI (aOne (cO cI)))))), sAny, sAny, sAny, sAny, sAny, sAny] (rrP (rV (cTV (cTV (cT (aCons cI (aOne (cO cI)))))))) fb} := ⟨_, by
  intro P w K mg base ca M_len M_tuple f nd cd A outer s H E hr hgd
  refine' bx_cons (G1 := [sVal (cL (cL (cT (aCons cI (aOne (cO cI)))))), sOwn PAny (oD kI cI), sAny, sAny, sAny, sAny, sAny]) ?g34 ?g35
  case g34 =>
    exact sx_setO (up_s up_z) (by rfl) (by first | exact Or.inl rfl | exact Or.inr rfl) (ex_disp (kx_cons ex_int ex_int (kx_nil (kc := kI) (c := cI)))) (by exact trivial) (by rfl) (by first | exact Or.inl rfl | exact Or.inr rfl)
  case g35 =>
    refine' bx_cons (G1 := [sVal (cL (cL (cT (aCons cI (aOne (cO cI)))))), sOwn PAny (oD kI cI), sOwn PAny (oL cI), sAny, sAny, sAny, sAny]) ?g32 ?g33
    case g32 =>
      exact sx_setO (up_s (up_s up_z)) (by rfl) (by first | exact Or.inl rfl | exact Or.inr rfl) (ex_list (ax_consA ex_int ax_nilA)) (by exact trivial) (by rfl) (by first | exact Or.inl rfl | exact Or.inr rfl)
    case g33 =>
      refine' bx_cons (G1 := [sVal (cL (cL (cT (aCons cI (aOne (cO cI)))))), sOwn PAny (oD kI cI), sOwn PAny (oL cI), sOwn PAny (oL (cTV (cT (aCons cI (aOne (cO cI)))))), sAny, sAny, sAny]) ?g30 ?g31
      case g30 =>
        exact sx_setO (up_s (up_s (up_s up_z))) (by rfl) (by first | exact Or.inl rfl | exact Or.inr rfl) (ex_list (c := (cTV (cT (aCons cI (aOne (cO cI)))))) ax_nilA) (by exact trivial) (by rfl) (by first | exact Or.inl rfl | exact Or.inr rfl)
      case g31 =>
        refine' bx_cons (G1 := [sVal (cL (cL (cT (aCons cI (aOne (cO cI)))))), sOwn PAny (oD kI cI), sOwn PAny (oL cI), sOwn PAny (oL (cTV (cT (aCons cI (aOne (cO cI)))))), sAny, sAny, sAny]) ?g28 ?g29
        case g28 =>
          refine' sx_while (G2 := [sVal (cL (cL (cT (aCons cI (aOne (cO cI)))))), sOwn PAny (oD kI cI), sOwn PAny (oL cI), sOwn PAny (oL (cTV (cT (aCons cI (aOne (cO cI)))))), sOwn PAny (oL (cT (aCons cI (aOne (cO cI))))), sAny, sAny]) (tx_cmp ot_lt (ex_lend (S := [3]) (T := []) (ln_val (ln_hold (ho_d hd_i) (by decide) (by decide) (ln_hold (ho_l hd_i) (by decide) (by decide) (ln_own frz_l (by decide) (ln_any (ln_any (ln_any ln_nil))))))) (rh_v hd_i) (ex_callB ct_lenL (by rfl) (by exact M_len) (by decide +kernel) (ax_one (ex_var (at_s (at_s (at_s at_z))) (by rfl) (by first | exact Or.inl rfl | exact Or.inr (Or.inl rfl) | exact Or.inr (Or.inr rfl)))))) (ex_lend (S := [2]) (T := []) (ln_val (ln_hold (ho_d hd_i) (by decide) (by decide) (ln_own frz_l (by decide) (ln_hold (ho_l (hd_tv (hd_t (ha_cons hd_i (ha_one (hd_o hd_i)))))) (by decide) (by decide) (ln_any (ln_any (ln_any ln_nil))))))) (rh_v hd_i) (ex_callB ct_lenL (by rfl) (by exact M_len) (by decide +kernel) (ax_one (ex_var (at_s (at_s at_z)) (by rfl) (by first | exact Or.inl rfl | exact Or.inr (Or.inl rfl) | exact Or.inr (Or.inr rfl)))))) (by rfl)) ?g27 (sc_same (sc_same (sc_same (sc_same (sc_any sc_id)))))
          case g27 =>
            refine' bx_cons (G1 := [sVal (cL (cL (cT (aCons cI (aOne (cO cI)))))), sOwn PAny (oD kI cI), sOwn PAny (oL cI), sOwn PAny (oL (cTV (cT (aCons cI (aOne (cO cI)))))), sOwn PAny (oL (cT (aCons cI (aOne (cO cI))))), sAny, sAny]) ?g25 ?g26
            case g25 =>
              exact sx_setO (up_s (up_s (up_s (up_s up_z)))) (by rfl) (by first | exact Or.inl rfl | exact Or.inr rfl) (ex_list (c := (cT (aCons cI (aOne (cO cI))))) ax_nilA) (by exact trivial) (by rfl) (by first | exact Or.inl rfl | exact Or.inr rfl)
            case g26 =>
              refine' bx_cons (G1 := [sVal (cL (cL (cT (aCons cI (aOne (cO cI)))))), sOwn PAny (oD kI cI), sOwn PAny (oL cI), sOwn PAny (oL (cTV (cT (aCons cI (aOne (cO cI)))))), sOwn PAny (oL (cT (aCons cI (aOne (cO cI))))), sAny, sAny]) ?g23 ?g24
              case g23 =>
                refine' sx_for (G1 := [sVal (cL (cL (cT (aCons cI (aOne (cO cI)))))), sOwn PAny (oD kI cI), sOwn PAny (oL cI), sOwn PAny (oL (cTV (cT (aCons cI (aOne (cO cI)))))), sOwn PAny (oL (cT (aCons cI (aOne (cO cI))))), sVal cI, sVal (cO cI)]) (G2 := [sVal (cL (cL (cT (aCons cI (aOne (cO cI)))))), sOwn PAny (oD kI cI), sOwn PAny (oL cI), sOwn PAny (oL (cTV (cT (aCons cI (aOne (cO cI)))))), sOwn PAny (oL (cT (aCons cI (aOne (cO cI))))), sVal cI, sVal (cO cI)]) (ix_l (ex_ixL (ex_var at_z (by rfl) (by first | exact Or.inl rfl | exact Or.inr (Or.inl rfl) | exact Or.inr (Or.inr rfl))) (ex_lend (S := [2]) (T := []) (ln_val (ln_hold (ho_d hd_i) (by decide) (by decide) (ln_own frz_l (by decide) (ln_hold (ho_l (hd_tv (hd_t (ha_cons hd_i (ha_one (hd_o hd_i)))))) (by decide) (by decide) (ln_hold (ho_l (hd_t (ha_cons hd_i (ha_one (hd_o hd_i))))) (by decide) (by decide) (ln_any (ln_any ln_nil))))))) (rh_v hd_i) (ex_ixL (ex_var (at_s (at_s at_z)) (by rfl) (by first | exact Or.inl rfl | exact Or.inr (Or.inl rfl) | exact Or.inr (Or.inr rfl))) (ex_lend (S := [3]) (T := []) (ln_val (ln_hold (ho_d hd_i) (by decide) (by decide) (ln_val (ln_own frz_l (by decide) (ln_hold (ho_l (hd_t (ha_cons hd_i (ha_one (hd_o hd_i))))) (by decide) (by decide) (ln_any (ln_any ln_nil))))))) (rh_v hd_i) (ex_callB ct_lenL (by rfl) (by exact M_len) (by decide +kernel) (ax_one (ex_var (at_s (at_s (at_s at_z))) (by rfl) (by first | exact Or.inl rfl | exact Or.inr (Or.inl rfl) | exact Or.inr (Or.inr rfl)))))) (by intro _ _; rfl))) (by intro _ _; rfl))) (gx_tup (gxs_cons (gx_name (up_s (up_s (up_s (up_s (up_s up_z))))) (by rfl) (by first | exact Or.inl rfl | exact Or.inr rfl) (by exact trivial) (by first | exact Or.inl rfl | exact Or.inr rfl)) (gxs_one (gx_name (up_s (up_s (up_s (up_s (up_s (up_s up_z)))))) (by rfl) (by first | exact Or.inl rfl | exact Or.inr rfl) (by exact trivial) (by first | exact Or.inl rfl | exact Or.inr rfl))))) ?g22 (sc_same (sc_same (sc_same (sc_same (sc_same (sc_any (sc_any sc_id)))))))
                case g22 =>
                  refine' bx_cons (G1 := [sVal (cL (cL (cT (aCons cI (aOne (cO cI)))))), sOwn PAny (oD kI cI), sOwn PAny (oL cI), sOwn PAny (oL (cTV (cT (aCons cI (aOne (cO cI)))))), sOwn PAny (oL (cT (aCons cI (aOne (cO cI))))), sVal cI, sVal (cO cI)]) ?g20 ?g21
                  case g20 =>
                    refine' sx_if (G' := [sVal (cL (cL (cT (aCons cI (aOne (cO cI)))))), sOwn PAny (oD kI cI), sOwn PAny (oL cI), sOwn PAny (oL (cTV (cT (aCons cI (aOne (cO cI)))))), sOwn PAny (oL (cT (aCons cI (aOne (cO cI))))), sVal cI, sVal (cO cI)]) (tx_lend (S := [1]) (T := []) (ln_val (ln_own frz_d (by decide) (ln_hold (ho_l hd_i) (by decide) (by decide) (ln_hold (ho_l (hd_tv (hd_t (ha_cons hd_i (ha_one (hd_o hd_i)))))) (by decide) (by decide) (ln_hold (ho_l (hd_t (ha_cons hd_i (ha_one (hd_o hd_i))))) (by decide) (by decide) (ln_val (ln_val ln_nil))))))) (tx_cmp ot_notInD (ex_var (at_s (at_s (at_s (at_s (at_s at_z))))) (by rfl) (by first | exact Or.inl rfl | exact Or.inr (Or.inl rfl) | exact Or.inr (Or.inr rfl))) (ex_var (at_s at_z) (by rfl) (by first | exact Or.inl rfl | exact Or.inr (Or.inl rfl) | exact Or.inr (Or.inr rfl))) (by rfl))) ?g18 ?g19
                    case g18 =>
                      refine' bx_cons (G1 := [sVal (cL (cL (cT (aCons cI (aOne (cO cI)))))), sOwn PAny (oD kI cI), sOwn PAny (oL cI), sOwn PAny (oL (cTV (cT (aCons cI (aOne (cO cI)))))), sOwn PAny (oL (cT (aCons cI (aOne (cO cI))))), sVal cI, sVal (cO cI)]) ?g16 ?g17
                      case g16 =>
                        exact sx_setD (at_s at_z) (md_s md_z) (by rfl) (by first | exact Or.inl rfl | exact Or.inr (Or.inl rfl) | exact Or.inr (Or.inr rfl)) (ex_lend (S := [2]) (T := []) (ln_val (ln_hold (ho_d hd_i) (by decide) (by decide) (ln_own frz_l (by decide) (ln_hold (ho_l (hd_tv (hd_t (ha_cons hd_i (ha_one (hd_o hd_i)))))) (by decide) (by decide) (ln_hold (ho_l (hd_t (ha_cons hd_i (ha_one (hd_o hd_i))))) (by decide) (by decide) (ln_val (ln_val ln_nil))))))) (rh_v hd_i) (ex_callB ct_lenL (by rfl) (by exact M_len) (by decide +kernel) (ax_one (ex_var (at_s (at_s at_z)) (by rfl) (by first | exact Or.inl rfl | exact Or.inr (Or.inl rfl) | exact Or.inr (Or.inr rfl)))))) (ex_var (at_s (at_s (at_s (at_s (at_s at_z))))) (by rfl) (by first | exact Or.inl rfl | exact Or.inr (Or.inl rfl) | exact Or.inr (Or.inr rfl))) (by rfl)
                      case g17 =>
                        refine' bx_one ?_
                        exact sx_expr (ex_ownM mt_app PySem.F.slot_list_append (by rfl) (at_s (at_s at_z)) (md_s (md_s md_z)) (by rfl) (by first | exact Or.inl rfl | exact Or.inr (Or.inl rfl) | exact Or.inr (Or.inr rfl)) (ax_one (ex_var (at_s (at_s (at_s (at_s (at_s at_z))))) (by rfl) (by first | exact Or.inl rfl | exact Or.inr (Or.inl rfl) | exact Or.inr (Or.inr rfl)))))
                    case g19 =>
                      exact bx_nil
                  case g21 =>
                    refine' bx_one ?_
                    exact sx_expr (ex_ownM mt_app PySem.F.slot_list_append (by rfl) (at_s (at_s (at_s (at_s at_z)))) (md_s (md_s (md_s (md_s md_z)))) (by rfl) (by first | exact Or.inl rfl | exact Or.inr (Or.inl rfl) | exact Or.inr (Or.inr rfl)) (ax_one (ex_tup (ax_cons (ex_lend (S := [1]) (T := []) (ln_val (ln_own frz_d (by decide) (ln_hold (ho_l hd_i) (by decide) (by decide) (ln_hold (ho_l (hd_tv (hd_t (ha_cons hd_i (ha_one (hd_o hd_i)))))) (by decide) (by decide) (ln_hold (ho_l (hd_t (ha_cons hd_i (ha_one (hd_o hd_i))))) (by decide) (by decide) (ln_val (ln_val ln_nil))))))) (rh_v hd_i) (ex_ixD (ex_var (at_s at_z) (by rfl) (by first | exact Or.inl rfl | exact Or.inr (Or.inl rfl) | exact Or.inr (Or.inr rfl))) (ex_var (at_s (at_s (at_s (at_s (at_s at_z))))) (by rfl) (by first | exact Or.inl rfl | exact Or.inr (Or.inl rfl) | exact Or.inr (Or.inr rfl))) (by intro _ _; rfl))) (ax_one (ex_var (at_s (at_s (at_s (at_s (at_s (at_s at_z)))))) (by rfl) (by first | exact Or.inl rfl | exact Or.inr (Or.inl rfl) | exact Or.inr (Or.inr rfl))))))))
              case g24 =>
                refine' bx_one ?_
                exact sx_expr (ex_ownM mt_app PySem.F.slot_list_append (by rfl) (at_s (at_s (at_s at_z))) (md_s (md_s (md_s md_z))) (by rfl) (by first | exact Or.inl rfl | exact Or.inr (Or.inl rfl) | exact Or.inr (Or.inr rfl)) (ax_one (ex_lend (S := [4]) (T := []) (ln_val (ln_hold (ho_d hd_i) (by decide) (by decide) (ln_hold (ho_l hd_i) (by decide) (by decide) (ln_hold (ho_l (hd_tv (hd_t (ha_cons hd_i (ha_one (hd_o hd_i)))))) (by decide) (by decide) (ln_own frz_l (by decide) (ln_any (ln_any ln_nil))))))) (rh_v (hd_tv (hd_t (ha_cons hd_i (ha_one (hd_o hd_i)))))) (ex_callTy ct_tupleL (by rfl) (by exact M_tuple) (by decide +kernel) (ax_one (ex_var (at_s (at_s (at_s (at_s at_z)))) (by rfl) (by first | exact Or.inl rfl | exact Or.inr (Or.inl rfl) | exact Or.inr (Or.inr rfl))))))))
        case g29 =>
          refine' bx_one ?_
          exact sx_ret (ex_lend (S := [3]) (T := []) (ln_val (ln_hold (ho_d hd_i) (by decide) (by decide) (ln_hold (ho_l hd_i) (by decide) (by decide) (ln_own frz_l (by decide) (ln_any (ln_any (ln_any ln_nil))))))) (rh_v (hd_tv (hd_tv (hd_t (ha_cons hd_i (ha_one (hd_o hd_i))))))) (ex_callTy ct_tupleL (by rfl) (by exact M_tuple) (by decide +kernel) (ax_one (ex_var (at_s (at_s (at_s at_z))) (by rfl) (by first | exact Or.inl rfl | exact Or.inr (Or.inl rfl) | exact Or.inr (Or.inr rfl))))))⟩
def F_table_reached (y : (List (List (Int × (Option Int))))) : Res (List (List (Int × (Option Int)))) := Res.bind ((fb_table_reached ).1 (y, ((), ((), ((), ((), ((), ((), ())))))))) endV

theorem ok_table_reached {P : Program} {w : World} {K : Frag} {mg : Str → Option Value} {base : Heap} {ca : Str → Addr} {fa : Addr} {fd : FuncData} (F0 : FunD K "table_reached" "table_reached" (defArgs s_table_reached) (defBody s_table_reached) (defScope s_table_reached) [] [] fa fd) (M_len : mg "len" = none) (M_tuple : mg "tuple" = none) (hm : mg "table_reached" = some (.ref fa)) : DefG P w K mg base 1 "table_reached" ["table"] (spP K ca (aOne (cL (cL (cT (aCons cI (aOne (cO cI))))))) (rV (cTV (cTV (cT (aCons cI (aOne (cO cI))))))) F_table_reached) :=
  ⟨fa, fd, fn_P (as := (aOne (cL (cL (cT (aCons cI (aOne (cO cI)))))))) (G0 := [sVal (cL (cL (cT (aCons cI (aOne (cO cI)))))), sAny, sAny, sAny, sAny, sAny, sAny]) (ini := (fun y => (y, ((), ((), ((), ((), ((), ((), ()))))))))) (fb := (fb_table_reached ).1) F0 sc_table_reached (by rfl) (fun L H vs y wf h => by obtain ⟨v1, rfl, h1⟩ := h; exact ⟨⟨v1, rfl, h1⟩, trivial, trivial, trivial, trivial, trivial, trivial, Nat.le_of_ble_eq_true (by rfl)⟩) (fun nd cd A outer s H E hr hgd => (fb_table_reached ).2 M_len M_tuple fa nd cd A outer s H E hr hgd) (fun y => rfl), hm, F0.kp, (F0.bindsN (ps := ["table"]) fun _ _ _ _ _ _ us hl => match us, hl with | [_], _ => rfl), (kw_binds (ps := ["table"]) F0 fun _ _ _ _ _ _ us hl => match us, hl with | [_], _ => rfl)⟩

/-! Service.__init__ -/
abbrev s_Service_init : Stmt := sub 14 0
abbrev N_Service_init : List Str := ["self", "names", "table"]
theorem sc_Service_init : FnScope N_Service_init ["self", "names", "table"] (defScope s_Service_init) := ⟨rfl, rfl, rfl, by decide +kernel, rfl, by decide +kernel, by decide +kernel⟩
def fb_Service_init (A_Service : Addr) : {fb : (v0 : V) → CT [sSelf A_Service (fun v => v = v0) fNil, sVal (cL cS), sVal (cL (cL (cT (aCons cI (aOne (cO cI))))))] → Res (Out (CT [sSelf A_Service (fun v => v = v0) (fSnoc (fSnoc fNil "kept_names" (cTV cS)) "kept_table" (cTV (cTV (cT (aCons cI (aOne (cO cI))))))), sVal (cL cS), sVal (cL (cL (cT (aCons cI (aOne (cO cI))))))]) Unit) // ∀ {P : Program} {w : World} {K : Frag} {mg : Str → Option Value} {base : Heap} {ca : Str → Addr} (D_check_names : DefG P w K mg base 2 "check_names" ["names"] (spP K ca (aOne (cL cS)) (rV cN) F_check_names)) (D_check_table : DefG P w K mg base 1 "check_table" ["names", "table"] (spP K ca (aCons (cL cS) (aOne (cL (cL (cT (aCons cI (aOne (cO cI)))))))) (rV cN) F_check_table)) (M_tuple : mg "tuple" = none) (C_Service : ClsG K mg "Service" A_Service) (NA_Service_kept_names : NoAttr K A_Service "kept_names") (D_table_reached : DefG P w K mg base 1 "table_reached" ["table"] (spP K ca (aOne (cL (cL (cT (aCons cI (aOne (cO cI))))))) (rV (cTV (cTV (cT (aCons cI (aOne (cO cI))))))) F_table_reached)) (NA_Service_kept_table : NoAttr K A_Service "kept_table") (f : Addr) (v0 : V) (nd : N_Service_init.Nodup) cd A outer s H E hr hgd, BX (ambOf P w K mg base ca N_Service_init nd 2 "Service.__init__" (defScope s_Service_init) f cd A outer s H E hr hgd) [sSelf A_Service (fun v => v = v0) fNil, sVal (cL cS), sVal (cL (cL (cT (aCons cI (aOne (cO cI))))))] (defBody s_Service_init) [sSelf A_Service (fun v => v = v0) (fSnoc (fSnoc fNil "kept_names" (cTV cS)) "kept_table" (cTV (cTV (cT (aCons cI (aOne (cO cI))))))), sVal (cL cS), sVal (cL (cL (cT (aCons cI (aOne (cO cI))))))] (rrP (rV cN)) (fb v0)} := ⟨_, by
  intro P w K mg base ca D_check_names D_check_table M_tuple C_Service NA_Service_kept_names D_table_reached NA_Service_kept_table f v0 nd cd A outer s H E hr hgd
  refine' bx_cons (G1 := [sSelf A_Service (fun v => v = v0) fNil, sVal (cL cS), sVal (cL (cL (cT (aCons cI (aOne (cO cI))))))]) ?g40 ?g41
  case g40 =>
    exact sx_expr (ex_cal D_check_names (Nat.le_of_ble_eq_true (by rfl)) (by rfl) rtv (ax_one (ex_var (at_s at_z) (by rfl) (by first | exact Or.inl rfl | exact Or.inr (Or.inl rfl) | exact Or.inr (Or.inr rfl)))))
  case g41 =>
    refine' bx_cons (G1 := [sSelf A_Service (fun v => v = v0) fNil, sVal (cL cS), sVal (cL (cL (cT (aCons cI (aOne (cO cI))))))]) ?g38 ?g39
    case g38 =>
      exact sx_expr (ex_cal D_check_table (Nat.le_of_ble_eq_true (by rfl)) (by rfl) rtv (ax_cons (ex_var (at_s at_z) (by rfl) (by first | exact Or.inl rfl | exact Or.inr (Or.inl rfl) | exact Or.inr (Or.inr rfl))) (ax_one (ex_var (at_s (at_s at_z)) (by rfl) (by first | exact Or.inl rfl | exact Or.inr (Or.inl rfl) | exact Or.inr (Or.inr rfl))))))
    case g39 =>
      refine' bx_cons (G1 := [sSelf A_Service (fun v => v = v0) (fSnoc fNil "kept_names" (cTV cS)), sVal (cL cS), sVal (cL (cL (cT (aCons cI (aOne (cO cI))))))]) ?g36 ?g37
      case g36 =>
        exact sx_fld at_z (by rfl) (by first | exact Or.inl rfl | exact Or.inr (Or.inl rfl) | exact Or.inr (Or.inr rfl)) C_Service.cls NA_Service_kept_names nk_nil mo_self (len_ok len_nil (by decide)) (ex_callTy ct_tupleL (by rfl) (by exact M_tuple) (by decide +kernel) (ax_one (ex_var (at_s at_z) (by rfl) (by first | exact Or.inl rfl | exact Or.inr (Or.inl rfl) | exact Or.inr (Or.inr rfl))))) (by rfl)
      case g37 =>
        refine' bx_one ?_
        exact sx_fld at_z (by rfl) (by first | exact Or.inl rfl | exact Or.inr (Or.inl rfl) | exact Or.inr (Or.inr rfl)) C_Service.cls NA_Service_kept_table (nk_snoc nk_nil (by decide)) mo_self (len_ok (len_snoc len_nil) (by decide)) (ex_cal D_table_reached (Nat.le_of_ble_eq_true (by rfl)) (by rfl) rtv (ax_one (ex_var (at_s (at_s at_z)) (by rfl) (by first | exact Or.inl rfl | exact Or.inr (Or.inl rfl) | exact Or.inr (Or.inr rfl))))) (by rfl)⟩
def F_Service_init (y : (List Str) × (List (List (Int × (Option Int))))) : Res ((Unit × (List Str)) × (List (List (Int × (Option Int))))) := Res.bind ((fb_Service_init 0 ).1 .non ((), (y.1, (y.2, ())))) endN

theorem ok_Service_init {P : Program} {w : World} {K : Frag} {mg : Str → Option Value} {base : Heap} {ca : Str → Addr} {fa : Addr} {fd : FuncData} {A_Service : Addr} (F0 : FunD K "__init__" "Service.__init__" (defArgs s_Service_init) (defBody s_Service_init) (defScope s_Service_init) [] [] fa fd) (D_check_names : DefG P w K mg base 2 "check_names" ["names"] (spP K ca (aOne (cL cS)) (rV cN) F_check_names)) (D_check_table : DefG P w K mg base 1 "check_table" ["names", "table"] (spP K ca (aCons (cL cS) (aOne (cL (cL (cT (aCons cI (aOne (cO cI)))))))) (rV cN) F_check_table)) (M_tuple : mg "tuple" = none) (C_Service : ClsG K mg "Service" A_Service) (NA_Service_kept_names : NoAttr K A_Service "kept_names") (D_table_reached : DefG P w K mg base 1 "table_reached" ["table"] (spP K ca (aOne (cL (cL (cT (aCons cI (aOne (cO cI))))))) (rV (cTV (cTV (cT (aCons cI (aOne (cO cI))))))) F_table_reached)) (NA_Service_kept_table : NoAttr K A_Service "kept_table") (hm : mg "Service" = some (.ref A_Service)) (M : Mk K A_Service fa) : MakG P w K mg base 3 "Service" A_Service ["self", "names", "table"] (spN K ca A_Service (aCons (cL cS) (aOne (cL (cL (cT (aCons cI (aOne (cO cI)))))))) (fSnoc (fSnoc fNil "kept_names" (cTV cS)) "kept_table" (cTV (cTV (cT (aCons cI (aOne (cO cI))))))) F_Service_init) :=
  ⟨⟨fa, fd, fn_N (as := (aCons (cL cS) (aOne (cL (cL (cT (aCons cI (aOne (cO cI))))))))) (G1 := [sVal (cL cS), sVal (cL (cL (cT (aCons cI (aOne (cO cI))))))]) (ini := (fun y => (y.1, (y.2, ())))) (fb := (fb_Service_init A_Service ).1) F0 sc_Service_init (by rfl) (fun L H v0 ws y wf h => by obtain ⟨v1, _, rfl, h1, v2, rfl, h2⟩ := h; exact ⟨⟨v1, rfl, h1⟩, ⟨v2, rfl, h2⟩, Nat.le_of_ble_eq_true (by rfl)⟩) (fun v0 nd cd A outer s H E hr hgd => (fb_Service_init A_Service ).2 D_check_names D_check_table M_tuple C_Service NA_Service_kept_names D_table_reached NA_Service_kept_table fa v0 nd cd A outer s H E hr hgd) (fun v0 y => rfl), (F0.bindsN (ps := ["self", "names", "table"]) fun _ _ _ _ _ _ us hl => match us, hl with | [_, _, _], _ => rfl), M⟩, hm⟩

/-! changes_nothing -/
abbrev s_changes_nothing : Stmt := top 16
abbrev N_changes_nothing : List Str := ["table", "one", "other", "steps", "behind_one", "behind_other"]
theorem sc_changes_nothing : FnScope N_changes_nothing ["table", "one", "other"] (defScope s_changes_nothing) := ⟨rfl, rfl, rfl, by decide +kernel, rfl, by decide +kernel, by decide +kernel⟩
def fb_changes_nothing : {fb : CT [sVal (cTV (cTV (cT (aCons cI (aOne (cO cI)))))), sVal cI, sVal cI, sAny, sAny, sAny] → Res (Out (CT [sVal (cTV (cTV (cT (aCons cI (aOne (cO cI)))))), sVal cI, sVal cI, sAny, sAny, sAny]) Bool) // ∀ {P : Program} {w : World} {K : Frag} {mg : Str → Option Value} {base : Heap} {ca : Str → Addr}  (f : Addr) (nd : N_changes_nothing.Nodup) cd A outer s H E hr hgd, BX (ambOf P w K mg base ca N_changes_nothing nd 0 "changes_nothing" (defScope s_changes_nothing) f cd A outer s H E hr hgd) [sVal (cTV (cTV (cT (aCons cI (aOne (cO cI)))))), sVal cI, sVal cI, sAny, sAny, sAny] (defBody s_changes_nothing) [sVal (cTV (cTV (cT (aCons cI (aOne (cO cI)))))), sVal cI, sVal cI, sAny, sAny, sAny] (rrP (rV cB)) fb} := ⟨_, by
  intro P w K mg base ca  f nd cd A outer s H E hr hgd
  refine' bx_cons (G1 := [sVal (cTV (cTV (cT (aCons cI (aOne (cO cI)))))), sVal cI, sVal cI, sAny, sAny, sAny]) ?g51 ?g52
  case g51 =>
    refine' sx_for (G1 := [sVal (cTV (cTV (cT (aCons cI (aOne (cO cI)))))), sVal cI, sVal cI, sVal (cTV (cT (aCons cI (aOne (cO cI))))), sAny, sAny]) (G2 := [sVal (cTV (cTV (cT (aCons cI (aOne (cO cI)))))), sVal cI, sVal cI, sVal (cTV (cT (aCons cI (aOne (cO cI))))), sVal (cTV (cT (aCons cI (aOne (cO cI))))), sVal (cTV (cT (aCons cI (aOne (cO cI)))))]) (ix_t (ex_var at_z (by rfl) (by first | exact Or.inl rfl | exact Or.inr (Or.inl rfl) | exact Or.inr (Or.inr rfl)))) (gx_name (up_s (up_s (up_s up_z))) (by rfl) (by first | exact Or.inl rfl | exact Or.inr rfl) (by exact trivial) (by first | exact Or.inl rfl | exact Or.inr rfl)) ?g50 (sc_same (sc_same (sc_same (sc_any (sc_any (sc_any sc_id))))))
    case g50 =>
      refine' bx_cons (G1 := [sVal (cTV (cTV (cT (aCons cI (aOne (cO cI)))))), sVal cI, sVal cI, sVal (cTV (cT (aCons cI (aOne (cO cI))))), sVal (cTV (cT (aCons cI (aOne (cO cI))))), sVal (cTV (cT (aCons cI (aOne (cO cI)))))]) ?g48 ?g49
      case g48 =>
        first | exact sx_par st_v st_v (up_s (up_s (up_s (up_s (up_s up_z))))) (up_s (up_s (up_s (up_s up_z)))) (by decide) (by exact ⟨trivial, trivial⟩) (by rfl) (by rfl) (by rfl) (by rfl) (ex_ixT (ex_var at_z (by rfl) (by first | exact Or.inl rfl | exact Or.inr (Or.inl rfl) | exact Or.inr (Or.inr rfl))) (ex_pj pj_z (by rfl) (ex_ixT (ex_var (at_s (at_s (at_s at_z))) (by rfl) (by first | exact Or.inl rfl | exact Or.inr (Or.inl rfl) | exact Or.inr (Or.inr rfl))) (ex_var (at_s at_z) (by rfl) (by first | exact Or.inl rfl | exact Or.inr (Or.inl rfl) | exact Or.inr (Or.inr rfl))) (by intro _ _; rfl))) (by intro _ _; rfl)) (ex_ixT (ex_var at_z (by rfl) (by first | exact Or.inl rfl | exact Or.inr (Or.inl rfl) | exact Or.inr (Or.inr rfl))) (ex_pj pj_z (by rfl) (ex_ixT (ex_var (at_s (at_s (at_s at_z))) (by rfl) (by first | exact Or.inl rfl | exact Or.inr (Or.inl rfl) | exact Or.inr (Or.inr rfl))) (ex_var (at_s (at_s at_z)) (by rfl) (by first | exact Or.inl rfl | exact Or.inr (Or.inl rfl) | exact Or.inr (Or.inr rfl))) (by intro _ _; rfl))) (by intro _ _; rfl)) (by rfl) | exact sx_parC st_v st_v (up_s (up_s (up_s (up_s (up_s up_z))))) (up_s (up_s (up_s (up_s up_z)))) (by decide) (by exact ⟨trivial, trivial⟩) (by rfl) (by rfl) (by first | exact Or.inl rfl | exact Or.inr rfl) (by first | exact Or.inl rfl | exact Or.inr rfl) (ex_ixT (ex_var at_z (by rfl) (by first | exact Or.inl rfl | exact Or.inr (Or.inl rfl) | exact Or.inr (Or.inr rfl))) (ex_pj pj_z (by rfl) (ex_ixT (ex_var (at_s (at_s (at_s at_z))) (by rfl) (by first | exact Or.inl rfl | exact Or.inr (Or.inl rfl) | exact Or.inr (Or.inr rfl))) (ex_var (at_s at_z) (by rfl) (by first | exact Or.inl rfl | exact Or.inr (Or.inl rfl) | exact Or.inr (Or.inr rfl))) (by intro _ _; rfl))) (by intro _ _; rfl)) (ex_ixT (ex_var at_z (by rfl) (by first | exact Or.inl rfl | exact Or.inr (Or.inl rfl) | exact Or.inr (Or.inr rfl))) (ex_pj pj_z (by rfl) (ex_ixT (ex_var (at_s (at_s (at_s at_z))) (by rfl) (by first | exact Or.inl rfl | exact Or.inr (Or.inl rfl) | exact Or.inr (Or.inr rfl))) (ex_var (at_s (at_s at_z)) (by rfl) (by first | exact Or.inl rfl | exact Or.inr (Or.inl rfl) | exact Or.inr (Or.inr rfl))) (by intro _ _; rfl))) (by intro _ _; rfl)) (by rfl) (by rfl) (by rfl)
      case g49 =>
        refine' bx_cons (G1 := [sVal (cTV (cTV (cT (aCons cI (aOne (cO cI)))))), sVal cI, sVal cI, sVal (cTV (cT (aCons cI (aOne (cO cI))))), sVal (cTV (cT (aCons cI (aOne (cO cI))))), sVal (cTV (cT (aCons cI (aOne (cO cI)))))]) ?g46 ?g47
        case g46 =>
          refine' sx_if (G' := [sVal (cTV (cTV (cT (aCons cI (aOne (cO cI)))))), sVal cI, sVal cI, sVal (cTV (cT (aCons cI (aOne (cO cI))))), sVal (cTV (cT (aCons cI (aOne (cO cI))))), sVal (cTV (cT (aCons cI (aOne (cO cI)))))]) (tx_w (wx_or (tx_cmp (ot_neD (dc_o dc_i) (dc_o dc_i) (by decide) (by decide)) (ex_pj (pj_s pj_one) (by rfl) (ex_ixT (ex_var (at_s (at_s (at_s at_z))) (by rfl) (by first | exact Or.inl rfl | exact Or.inr (Or.inl rfl) | exact Or.inr (Or.inr rfl))) (ex_var (at_s at_z) (by rfl) (by first | exact Or.inl rfl | exact Or.inr (Or.inl rfl) | exact Or.inr (Or.inr rfl))) (by intro _ _; rfl))) (ex_pj (pj_s pj_one) (by rfl) (ex_ixT (ex_var (at_s (at_s (at_s (at_s (at_s at_z))))) (by rfl) (by first | exact Or.inl rfl | exact Or.inr (Or.inl rfl) | exact Or.inr (Or.inr rfl))) (ex_var (at_s at_z) (by rfl) (by first | exact Or.inl rfl | exact Or.inr (Or.inl rfl) | exact Or.inr (Or.inr rfl))) (by intro _ _; rfl))) (by rfl)) (wx_or1 (tx_cmp (ot_neD (dc_o dc_i) (dc_o dc_i) (by decide) (by decide)) (ex_pj (pj_s pj_one) (by rfl) (ex_ixT (ex_var (at_s (at_s (at_s at_z))) (by rfl) (by first | exact Or.inl rfl | exact Or.inr (Or.inl rfl) | exact Or.inr (Or.inr rfl))) (ex_var (at_s (at_s at_z)) (by rfl) (by first | exact Or.inl rfl | exact Or.inr (Or.inl rfl) | exact Or.inr (Or.inr rfl))) (by intro _ _; rfl))) (ex_pj (pj_s pj_one) (by rfl) (ex_ixT (ex_var (at_s (at_s (at_s (at_s at_z)))) (by rfl) (by first | exact Or.inl rfl | exact Or.inr (Or.inl rfl) | exact Or.inr (Or.inr rfl))) (ex_var (at_s (at_s at_z)) (by rfl) (by first | exact Or.inl rfl | exact Or.inr (Or.inl rfl) | exact Or.inr (Or.inr rfl))) (by intro _ _; rfl))) (by rfl))))) ?g42 ?g43
          case g42 =>
            refine' bx_one ?_
            exact sx_ret ex_bool
          case g43 =>
            exact bx_nil
        case g47 =>
          refine' bx_one ?_
          refine' sx_if (G' := [sVal (cTV (cTV (cT (aCons cI (aOne (cO cI)))))), sVal cI, sVal cI, sVal (cTV (cT (aCons cI (aOne (cO cI))))), sVal (cTV (cT (aCons cI (aOne (cO cI))))), sVal (cTV (cT (aCons cI (aOne (cO cI)))))]) (tx_cmp ot_ne (ex_pj pj_z (by rfl) (ex_ixT (ex_var (at_s (at_s (at_s (at_s at_z)))) (by rfl) (by first | exact Or.inl rfl | exact Or.inr (Or.inl rfl) | exact Or.inr (Or.inr rfl))) (ex_var (at_s (at_s at_z)) (by rfl) (by first | exact Or.inl rfl | exact Or.inr (Or.inl rfl) | exact Or.inr (Or.inr rfl))) (by intro _ _; rfl))) (ex_pj pj_z (by rfl) (ex_ixT (ex_var (at_s (at_s (at_s (at_s (at_s at_z))))) (by rfl) (by first | exact Or.inl rfl | exact Or.inr (Or.inl rfl) | exact Or.inr (Or.inr rfl))) (ex_var (at_s at_z) (by rfl) (by first | exact Or.inl rfl | exact Or.inr (Or.inl rfl) | exact Or.inr (Or.inr rfl))) (by intro _ _; rfl))) (by rfl)) ?g44 ?g45
          case g44 =>
            refine' bx_one ?_
            exact sx_ret ex_bool
          case g45 =>
            exact bx_nil
  case g52 =>
    refine' bx_one ?_
    exact sx_ret ex_bool⟩
def F_changes_nothing (y : (List (List (Int × (Option Int)))) × Int × Int) : Res Bool := Res.bind ((fb_changes_nothing ).1 (y.1, (y.2.1, (y.2.2, ((), ((), ((), ()))))))) endV

theorem ok_changes_nothing {P : Program} {w : World} {K : Frag} {mg : Str → Option Value} {base : Heap} {ca : Str → Addr} {fa : Addr} {fd : FuncData} (F0 : FunD K "changes_nothing" "changes_nothing" (defArgs s_changes_nothing) (defBody s_changes_nothing) (defScope s_changes_nothing) [] [] fa fd)  (hm : mg "changes_nothing" = some (.ref fa)) : DefG P w K mg base 1 "changes_nothing" ["table", "one", "other"] (spP K ca (aCons (cTV (cTV (cT (aCons cI (aOne (cO cI)))))) (aCons cI (aOne cI))) (rV cB) F_changes_nothing) :=
  ⟨fa, fd, fn_P (as := (aCons (cTV (cTV (cT (aCons cI (aOne (cO cI)))))) (aCons cI (aOne cI)))) (G0 := [sVal (cTV (cTV (cT (aCons cI (aOne (cO cI)))))), sVal cI, sVal cI, sAny, sAny, sAny]) (ini := (fun y => (y.1, (y.2.1, (y.2.2, ((), ((), ((), ())))))))) (fb := (fb_changes_nothing ).1) F0 sc_changes_nothing (by rfl) (fun L H vs y wf h => by obtain ⟨v1, _, rfl, h1, v2, _, rfl, h2, v3, rfl, h3⟩ := h; exact ⟨⟨v1, rfl, h1⟩, ⟨v2, rfl, h2⟩, ⟨v3, rfl, h3⟩, trivial, trivial, trivial, Nat.le_of_ble_eq_true (by rfl)⟩) (fun nd cd A outer s H E hr hgd => (fb_changes_nothing ).2  fa nd cd A outer s H E hr hgd) (fun y => rfl), hm, F0.kp, (F0.bindsN (ps := ["table", "one", "other"]) fun _ _ _ _ _ _ us hl => match us, hl with | [_, _, _], _ => rfl), (kw_binds (ps := ["table", "one", "other"]) F0 fun _ _ _ _ _ _ us hl => match us, hl with | [_, _, _], _ => rfl)⟩

/-! may_change -/
abbrev s_may_change : Stmt := top 17
abbrev N_may_change : List Str := ["service", "one", "names", "found", "other"]
theorem sc_may_change : FnScope N_may_change ["service"] (defScope s_may_change) := ⟨rfl, rfl, rfl, by decide +kernel, rfl, by decide +kernel, by decide +kernel⟩
def fb_may_change (A_Service : Addr) : {fb : CT [sVal (cIns A_Service (fSnoc (fSnoc fNil "kept_names" (cTV cS)) "kept_table" (cTV (cTV (cT (aCons cI (aOne (cO cI)))))))), sAny, sAny, sAny, sAny] → Res (Out (CT [sVal (cIns A_Service (fSnoc (fSnoc fNil "kept_names" (cTV cS)) "kept_table" (cTV (cTV (cT (aCons cI (aOne (cO cI)))))))), sAny, sAny, sAny, sAny]) (List (Str × Str))) // ∀ {P : Program} {w : World} {K : Frag} {mg : Str → Option Value} {base : Heap} {ca : Str → Addr} (C_Service : ClsG K mg "Service" A_Service) (NA_Service_kept_names : NoAttr K A_Service "kept_names") (M_range : mg "range" = none) (M_len : mg "len" = none) (D_changes_nothing : DefG P w K mg base 1 "changes_nothing" ["table", "one", "other"] (spP K ca (aCons (cTV (cTV (cT (aCons cI (aOne (cO cI)))))) (aCons cI (aOne cI))) (rV cB) F_changes_nothing)) (NA_Service_kept_table : NoAttr K A_Service "kept_table") (f : Addr) (nd : N_may_change.Nodup) cd A outer s H E hr hgd, BX (ambOf P w K mg base ca N_may_change nd 1 "may_change" (defScope s_may_change) f cd A outer s H E hr hgd) [sVal (cIns A_Service (fSnoc (fSnoc fNil "kept_names" (cTV cS)) "kept_table" (cTV (cTV (cT (aCons cI (aOne (cO cI)))))))), sAny, sAny, sAny, sAny] (defBody s_may_change) [sVal (cIns A_Service (fSnoc (fSnoc fNil "kept_names" (cTV cS)) "kept_table" (cTV (cTV (cT (aCons cI (aOne (cO cI)))))))), sAny, sAny, sAny, sAny] (rrP (rO (oL (cT (aCons cS (aOne cS)))))) fb} := ⟨_, by
  intro P w K mg base ca C_Service NA_Service_kept_names M_range M_len D_changes_nothing NA_Service_kept_table f nd cd A outer s H E hr hgd
  refine' bx_cons (G1 := [sVal (cIns A_Service (fSnoc (fSnoc fNil "kept_names" (cTV cS)) "kept_table" (cTV (cTV (cT (aCons cI (aOne (cO cI)))))))), sAny, sVal (cTV cS), sOwn PAny (oL (cT (aCons cS (aOne cS)))), sAny]) ?g59 ?g60
  case g59 =>
    first | exact sx_par st_v st_o (up_s (up_s (up_s up_z))) (up_s (up_s up_z)) (by decide) (by exact ⟨trivial, trivial⟩) (by rfl) (by rfl) (by rfl) (by rfl) (ex_fld C_Service.cls NA_Service_kept_names (fp_s (fp_z nk_nil) (by decide)) (ex_var at_z (by rfl) (by first | exact Or.inl rfl | exact Or.inr (Or.inl rfl) | exact Or.inr (Or.inr rfl)))) (ex_list (c := (cT (aCons cS (aOne cS)))) ax_nilA) (by rfl) | exact sx_parC st_v st_o (up_s (up_s (up_s up_z))) (up_s (up_s up_z)) (by decide) (by exact ⟨trivial, trivial⟩) (by rfl) (by rfl) (by first | exact Or.inl rfl | exact Or.inr rfl) (by first | exact Or.inl rfl | exact Or.inr rfl) (ex_fld C_Service.cls NA_Service_kept_names (fp_s (fp_z nk_nil) (by decide)) (ex_var at_z (by rfl) (by first | exact Or.inl rfl | exact Or.inr (Or.inl rfl) | exact Or.inr (Or.inr rfl)))) (ex_list (c := (cT (aCons cS (aOne cS)))) ax_nilA) (by rfl) (by rfl) (by rfl)
  case g60 =>
    refine' bx_cons (G1 := [sVal (cIns A_Service (fSnoc (fSnoc fNil "kept_names" (cTV cS)) "kept_table" (cTV (cTV (cT (aCons cI (aOne (cO cI)))))))), sAny, sVal (cTV cS), sOwn PAny (oL (cT (aCons cS (aOne cS)))), sAny]) ?g57 ?g58
    case g57 =>
      refine' sx_for (G1 := [sVal (cIns A_Service (fSnoc (fSnoc fNil "kept_names" (cTV cS)) "kept_table" (cTV (cTV (cT (aCons cI (aOne (cO cI)))))))), sVal cI, sVal (cTV cS), sOwn PAny (oL (cT (aCons cS (aOne cS)))), sAny]) (G2 := [sVal (cIns A_Service (fSnoc (fSnoc fNil "kept_names" (cTV cS)) "kept_table" (cTV (cTV (cT (aCons cI (aOne (cO cI)))))))), sVal cI, sVal (cTV cS), sOwn PAny (oL (cT (aCons cS (aOne cS)))), sAny]) (ix_r1 (by rfl) (by exact M_range) (ex_callB ct_lenT (by rfl) (by exact M_len) (by decide +kernel) (ax_one (ex_var (at_s (at_s at_z)) (by rfl) (by first | exact Or.inl rfl | exact Or.inr (Or.inl rfl) | exact Or.inr (Or.inr rfl)))))) (gx_name (up_s up_z) (by rfl) (by first | exact Or.inl rfl | exact Or.inr rfl) (by exact trivial) (by first | exact Or.inl rfl | exact Or.inr rfl)) ?g56 (sc_same (sc_any sc_id))
      case g56 =>
        refine' bx_one ?_
        refine' sx_for (G1 := [sVal (cIns A_Service (fSnoc (fSnoc fNil "kept_names" (cTV cS)) "kept_table" (cTV (cTV (cT (aCons cI (aOne (cO cI)))))))), sVal cI, sVal (cTV cS), sOwn PAny (oL (cT (aCons cS (aOne cS)))), sVal cI]) (G2 := [sVal (cIns A_Service (fSnoc (fSnoc fNil "kept_names" (cTV cS)) "kept_table" (cTV (cTV (cT (aCons cI (aOne (cO cI)))))))), sVal cI, sVal (cTV cS), sOwn PAny (oL (cT (aCons cS (aOne cS)))), sVal cI]) (ix_r2 (by rfl) (by exact M_range) (ex_op ot_add (ex_var (at_s at_z) (by rfl) (by first | exact Or.inl rfl | exact Or.inr (Or.inl rfl) | exact Or.inr (Or.inr rfl))) ex_int) (ex_callB ct_lenT (by rfl) (by exact M_len) (by decide +kernel) (ax_one (ex_var (at_s (at_s at_z)) (by rfl) (by first | exact Or.inl rfl | exact Or.inr (Or.inl rfl) | exact Or.inr (Or.inr rfl)))))) (gx_name (up_s (up_s (up_s (up_s up_z)))) (by rfl) (by first | exact Or.inl rfl | exact Or.inr rfl) (by exact trivial) (by first | exact Or.inl rfl | exact Or.inr rfl)) ?g55 (sc_same (sc_same (sc_same (sc_same (sc_any sc_id)))))
        case g55 =>
          refine' bx_one ?_
          refine' sx_if (G' := [sVal (cIns A_Service (fSnoc (fSnoc fNil "kept_names" (cTV cS)) "kept_table" (cTV (cTV (cT (aCons cI (aOne (cO cI)))))))), sVal cI, sVal (cTV cS), sOwn PAny (oL (cT (aCons cS (aOne cS)))), sVal cI]) (tx_val (ex_cal D_changes_nothing (Nat.le_of_ble_eq_true (by rfl)) (by rfl) rtv (ax_cons (ex_fld C_Service.cls NA_Service_kept_table (fp_z (nk_snoc nk_nil (by decide))) (ex_var at_z (by rfl) (by first | exact Or.inl rfl | exact Or.inr (Or.inl rfl) | exact Or.inr (Or.inr rfl)))) (ax_cons (ex_var (at_s at_z) (by rfl) (by first | exact Or.inl rfl | exact Or.inr (Or.inl rfl) | exact Or.inr (Or.inr rfl))) (ax_one (ex_var (at_s (at_s (at_s (at_s at_z)))) (by rfl) (by first | exact Or.inl rfl | exact Or.inr (Or.inl rfl) | exact Or.inr (Or.inr rfl)))))))) ?g53 ?g54
          case g53 =>
            refine' bx_one ?_
            exact sx_expr (ex_ownM mt_app PySem.F.slot_list_append (by rfl) (at_s (at_s (at_s at_z))) (md_s (md_s (md_s md_z))) (by rfl) (by first | exact Or.inl rfl | exact Or.inr (Or.inl rfl) | exact Or.inr (Or.inr rfl)) (ax_one (ex_tup (ax_cons (ex_ixT (ex_var (at_s (at_s at_z)) (by rfl) (by first | exact Or.inl rfl | exact Or.inr (Or.inl rfl) | exact Or.inr (Or.inr rfl))) (ex_var (at_s at_z) (by rfl) (by first | exact Or.inl rfl | exact Or.inr (Or.inl rfl) | exact Or.inr (Or.inr rfl))) (by intro _ _; rfl)) (ax_one (ex_ixT (ex_var (at_s (at_s at_z)) (by rfl) (by first | exact Or.inl rfl | exact Or.inr (Or.inl rfl) | exact Or.inr (Or.inr rfl))) (ex_var (at_s (at_s (at_s (at_s at_z)))) (by rfl) (by first | exact Or.inl rfl | exact Or.inr (Or.inl rfl) | exact Or.inr (Or.inr rfl))) (by intro _ _; rfl)))))))
          case g54 =>
            exact bx_nil
    case g58 =>
      refine' bx_one ?_
      exact sx_retO (at_s (at_s (at_s at_z))) (by rfl) (by first | exact Or.inl rfl | exact Or.inr (Or.inl rfl) | exact Or.inr (Or.inr rfl))⟩
def F_may_change (y : ((Unit × (List Str)) × (List (List (Int × (Option Int)))))) : Res (List (Str × Str)) := Res.bind ((fb_may_change 0 ).1 (y, ((), ((), ((), ((), ())))))) endV

theorem ok_may_change {P : Program} {w : World} {K : Frag} {mg : Str → Option Value} {base : Heap} {ca : Str → Addr} {fa : Addr} {fd : FuncData} {A_Service : Addr} (F0 : FunD K "may_change" "may_change" (defArgs s_may_change) (defBody s_may_change) (defScope s_may_change) [] [] fa fd) (C_Service : ClsG K mg "Service" A_Service) (NA_Service_kept_names : NoAttr K A_Service "kept_names") (M_range : mg "range" = none) (M_len : mg "len" = none) (D_changes_nothing : DefG P w K mg base 1 "changes_nothing" ["table", "one", "other"] (spP K ca (aCons (cTV (cTV (cT (aCons cI (aOne (cO cI)))))) (aCons cI (aOne cI))) (rV cB) F_changes_nothing)) (NA_Service_kept_table : NoAttr K A_Service "kept_table") (hm : mg "may_change" = some (.ref fa)) : DefG P w K mg base 2 "may_change" ["service"] (spP K ca (aOne (cIns A_Service (fSnoc (fSnoc fNil "kept_names" (cTV cS)) "kept_table" (cTV (cTV (cT (aCons cI (aOne (cO cI))))))))) (rO (oL (cT (aCons cS (aOne cS))))) F_may_change) :=
  ⟨fa, fd, fn_P (as := (aOne (cIns A_Service (fSnoc (fSnoc fNil "kept_names" (cTV cS)) "kept_table" (cTV (cTV (cT (aCons cI (aOne (cO cI)))))))))) (G0 := [sVal (cIns A_Service (fSnoc (fSnoc fNil "kept_names" (cTV cS)) "kept_table" (cTV (cTV (cT (aCons cI (aOne (cO cI)))))))), sAny, sAny, sAny, sAny]) (ini := (fun y => (y, ((), ((), ((), ((), ()))))))) (fb := (fb_may_change A_Service ).1) F0 sc_may_change (by rfl) (fun L H vs y wf h => by obtain ⟨v1, rfl, h1⟩ := h; exact ⟨⟨v1, rfl, h1⟩, trivial, trivial, trivial, trivial, Nat.le_of_ble_eq_true (by rfl)⟩) (fun nd cd A outer s H E hr hgd => (fb_may_change A_Service ).2 C_Service NA_Service_kept_names M_range M_len D_changes_nothing NA_Service_kept_table fa nd cd A outer s H E hr hgd) (fun y => rfl), hm, F0.kp, (F0.bindsN (ps := ["service"]) fun _ _ _ _ _ _ us hl => match us, hl with | [_], _ => rfl), (kw_binds (ps := ["service"]) F0 fun _ _ _ _ _ _ us hl => match us, hl with | [_], _ => rfl)⟩

/-! _law_well -/
abbrev s__law_well : Stmt := top 19
abbrev N__law_well : List Str := ["script", "place", "seed"]
theorem sc__law_well : FnScope N__law_well ["script", "place"] (defScope s__law_well) := ⟨rfl, rfl, rfl, by decide +kernel, rfl, by decide +kernel, by decide +kernel⟩
def fb__law_well : {fb : CT [sVal (cLK cI), sVal cI, sAny] → Res (Out (CT [sVal (cLK cI), sVal cI, sAny]) (List Int)) // ∀ {P : Program} {w : World} {K : Frag} {mg : Str → Option Value} {base : Heap} {ca : Str → Addr} (M_len : mg "len" = none) (M_int : mg "int" = none) (M_max : mg "max" = none) (M_abs : mg "abs" = none) (f : Addr) (nd : N__law_well.Nodup) cd A outer s H E hr hgd, BX (ambOf P w K mg base ca N__law_well nd 0 "_law_well" (defScope s__law_well) f cd A outer s H E hr hgd) [sVal (cLK cI), sVal cI, sAny] (defBody s__law_well) [sVal (cLK cI), sVal cI, sAny] (rrP (rO (oL cI))) fb} := ⟨_, by
  intro P w K mg base ca M_len M_int M_max M_abs f nd cd A outer s H E hr hgd
  refine' bx_cons (G1 := [sVal (cLK cI), sVal cI, sVal cI]) ?g65 ?g66
  case g65 =>
    exact sx_set (up_s (up_s up_z)) (by rfl) (by first | exact Or.inl rfl | exact Or.inr rfl) ex_int (by exact trivial) (by rfl) (by first | exact Or.inl rfl | exact Or.inr rfl)
  case g66 =>
    refine' bx_cons (G1 := [sVal (cLK cI), sVal cI, sVal cI]) ?g63 ?g64
    case g63 =>
      refine' sx_if (G' := [sVal (cLK cI), sVal cI, sVal cI]) (tx_cmp ot_lt (ex_var (at_s at_z) (by rfl) (by first | exact Or.inl rfl | exact Or.inr (Or.inl rfl) | exact Or.inr (Or.inr rfl))) (ex_callB ct_lenK (by rfl) (by exact M_len) (by decide +kernel) (ax_one (ex_var at_z (by rfl) (by first | exact Or.inl rfl | exact Or.inr (Or.inl rfl) | exact Or.inr (Or.inr rfl))))) (by rfl)) ?g61 ?g62
      case g61 =>
        refine' bx_one ?_
        exact sx_set (up_s (up_s up_z)) (by rfl) (by first | exact Or.inl rfl | exact Or.inr rfl) (ex_ixK (ex_var at_z (by rfl) (by first | exact Or.inl rfl | exact Or.inr (Or.inl rfl) | exact Or.inr (Or.inr rfl))) (ex_var (at_s at_z) (by rfl) (by first | exact Or.inl rfl | exact Or.inr (Or.inl rfl) | exact Or.inr (Or.inr rfl))) (by intro _ _; rfl)) (by exact trivial) (by rfl) (by first | exact Or.inl rfl | exact Or.inr rfl)
      case g62 =>
        exact bx_nil
    case g64 =>
      refine' bx_one ?_
      exact sx_ret (ex_list (ax_consA (ex_callB ct_max2 (by rfl) (by exact M_max) (by decide +kernel) (ax_cons ex_int (ax_one (ex_op ot_sub (ex_callB ct_abs (by rfl) (by exact M_abs) (by decide +kernel) (ax_one (ex_var (at_s (at_s at_z)) (by rfl) (by first | exact Or.inl rfl | exact Or.inr (Or.inl rfl) | exact Or.inr (Or.inr rfl))))) (ex_op ot_pow ex_int ex_int))))) (ax_consA (ex_op ot_add (ex_op ot_mod (ex_callTy ct_intI (by rfl) (by exact M_int) (by decide +kernel) (ax_one (ex_var (at_s (at_s at_z)) (by rfl) (by first | exact Or.inl rfl | exact Or.inr (Or.inl rfl) | exact Or.inr (Or.inr rfl))))) ex_int) (ex_op ot_mul ex_int (ex_op ot_add (ex_var (at_s at_z) (by rfl) (by first | exact Or.inl rfl | exact Or.inr (Or.inl rfl) | exact Or.inr (Or.inr rfl))) ex_int))) (ax_consA ex_int ax_nilA))))⟩
def F__law_well (y : (List Int) × Int) : Res (List Int) := Res.bind ((fb__law_well ).1 (y.1, (y.2, ((), ())))) endV

theorem ok__law_well {P : Program} {w : World} {K : Frag} {mg : Str → Option Value} {base : Heap} {ca : Str → Addr} {fa : Addr} {fd : FuncData} (F0 : FunD K "_law_well" "_law_well" (defArgs s__law_well) (defBody s__law_well) (defScope s__law_well) [] [] fa fd) (M_len : mg "len" = none) (M_int : mg "int" = none) (M_max : mg "max" = none) (M_abs : mg "abs" = none) (hm : mg "_law_well" = some (.ref fa)) : DefG P w K mg base 1 "_law_well" ["script", "place"] (spP K ca (aCons (cLK cI) (aOne cI)) (rO (oL cI)) F__law_well) :=
  ⟨fa, fd, fn_P (as := (aCons (cLK cI) (aOne cI))) (G0 := [sVal (cLK cI), sVal cI, sAny]) (ini := (fun y => (y.1, (y.2, ((), ()))))) (fb := (fb__law_well ).1) F0 sc__law_well (by rfl) (fun L H vs y wf h => by obtain ⟨v1, _, rfl, h1, v2, rfl, h2⟩ := h; exact ⟨⟨v1, rfl, h1⟩, ⟨v2, rfl, h2⟩, trivial, Nat.le_of_ble_eq_true (by rfl)⟩) (fun nd cd A outer s H E hr hgd => (fb__law_well ).2 M_len M_int M_max M_abs fa nd cd A outer s H E hr hgd) (fun y => rfl), hm, F0.kp, (F0.bindsN (ps := ["script", "place"]) fun _ _ _ _ _ _ us hl => match us, hl with | [_, _], _ => rfl), (kw_binds (ps := ["script", "place"]) F0 fun _ _ _ _ _ _ us hl => match us, hl with | [_, _], _ => rfl)⟩

/-! _law_dip -/
abbrev s__law_dip : Stmt := top 20
abbrev N__law_dip : List Str := ["well", "span", "step", "seed", "stirred", "drawn"]
theorem sc__law_dip : FnScope N__law_dip ["well", "span"] (defScope s__law_dip) := ⟨rfl, rfl, rfl, by decide +kernel, rfl, by decide +kernel, by decide +kernel⟩
def fb__law_dip : {fb : (v0 : V) → CT [sOwn (fun v => v = v0) (oL cI), sVal cI, sAny, sAny, sAny, sAny] → Res (Out (CT [sOwn (fun v => v = v0) (oL cI), sVal cI, sAny, sAny, sAny, sAny]) (Int × (List Int))) // ∀ {P : Program} {w : World} {K : Frag} {mg : Str → Option Value} {base : Heap} {ca : Str → Addr} (M_int : mg "int" = none) (f : Addr) (v0 : V) (nd : N__law_dip.Nodup) cd A outer s H E hr hgd, BX (ambOf P w K mg base ca N__law_dip nd 0 "_law_dip" (defScope s__law_dip) f cd A outer s H E hr hgd) [sOwn (fun v => v = v0) (oL cI), sVal cI, sAny, sAny, sAny, sAny] (defBody s__law_dip) [sOwn (fun v => v = v0) (oL cI), sVal cI, sAny, sAny, sAny, sAny] (rrI (rV cI) (oL cI) v0) (fb v0)} := ⟨_, by
  intro P w K mg base ca M_int f v0 nd cd A outer s H E hr hgd
  refine' bx_cons (G1 := [sOwn (fun v => v = v0) (oL cI), sVal cI, sAny, sAny, sAny, sAny]) ?g85 ?g86
  case g85 =>
    refine' sx_if (G' := [sOwn (fun v => v = v0) (oL cI), sVal cI, sAny, sAny, sAny, sAny]) (tx_cmp ot_gt (ex_lend (S := [0]) (T := []) (ln_own frz_l (by decide) (ln_val (ln_any (ln_any (ln_any (ln_any ln_nil)))))) (rh_v hd_i) (ex_ixL (ex_var at_z (by rfl) (by first | exact Or.inl rfl | exact Or.inr (Or.inl rfl) | exact Or.inr (Or.inr rfl))) ex_int (by intro _ _; rfl))) ex_int (by rfl)) ?g71 ?g72
    case g71 =>
      refine' bx_cons (G1 := [sOwn (fun v => v = v0) (oL cI), sVal cI, sAny, sAny, sAny, sVal cI]) ?g69 ?g70
      case g69 =>
        exact sx_set (up_s (up_s (up_s (up_s (up_s up_z))))) (by rfl) (by first | exact Or.inl rfl | exact Or.inr rfl) (ex_op ot_mod (ex_callTy ct_intI (by rfl) (by exact M_int) (by decide +kernel) (ax_one (ex_lend (S := [0]) (T := []) (ln_own frz_l (by decide) (ln_val (ln_any (ln_any (ln_any (ln_any ln_nil)))))) (rh_v hd_i) (ex_ixL (ex_var at_z (by rfl) (by first | exact Or.inl rfl | exact Or.inr (Or.inl rfl) | exact Or.inr (Or.inr rfl))) ex_int (by intro _ _; rfl))))) (ex_var (at_s at_z) (by rfl) (by first | exact Or.inl rfl | exact Or.inr (Or.inl rfl) | exact Or.inr (Or.inr rfl)))) (by exact trivial) (by rfl) (by first | exact Or.inl rfl | exact Or.inr rfl)
      case g70 =>
        refine' bx_cons (G1 := [sOwn (fun v => v = v0) (oL cI), sVal cI, sAny, sAny, sAny, sVal cI]) ?g67 ?g68
        case g67 =>
          exact sx_setI at_z md_z (by rfl) (by first | exact Or.inl rfl | exact Or.inr (Or.inl rfl) | exact Or.inr (Or.inr rfl)) (ex_op ot_div (ex_lend (S := [0]) (T := []) (ln_own frz_l (by decide) (ln_val (ln_any (ln_any (ln_any (ln_val ln_nil)))))) (rh_v hd_i) (ex_ixL (ex_var at_z (by rfl) (by first | exact Or.inl rfl | exact Or.inr (Or.inl rfl) | exact Or.inr (Or.inr rfl))) ex_int (by intro _ _; rfl))) (ex_var (at_s at_z) (by rfl) (by first | exact Or.inl rfl | exact Or.inr (Or.inl rfl) | exact Or.inr (Or.inr rfl)))) ex_int
        case g68 =>
          refine' bx_one ?_
          exact sx_retI at_z (ex_var (at_s (at_s (at_s (at_s (at_s at_z))))) (by rfl) (by first | exact Or.inl rfl | exact Or.inr (Or.inl rfl) | exact Or.inr (Or.inr rfl)))
    case g72 =>
      exact bx_nil
  case g86 =>
    refine' bx_cons (G1 := [sOwn (fun v => v = v0) (oL cI), sVal cI, sAny, sAny, sAny, sAny]) ?g83 ?g84
    case g83 =>
      exact sx_setI at_z md_z (by rfl) (by first | exact Or.inl rfl | exact Or.inr (Or.inl rfl) | exact Or.inr (Or.inr rfl)) (ex_op ot_add (ex_lend (S := [0]) (T := []) (ln_own frz_l (by decide) (ln_val (ln_any (ln_any (ln_any (ln_any ln_nil)))))) (rh_v hd_i) (ex_ixL (ex_var at_z (by rfl) (by first | exact Or.inl rfl | exact Or.inr (Or.inl rfl) | exact Or.inr (Or.inr rfl))) ex_int (by intro _ _; rfl))) ex_int) ex_int
    case g84 =>
      refine' bx_cons (G1 := [sOwn (fun v => v = v0) (oL cI), sVal cI, sVal cI, sAny, sAny, sAny]) ?g81 ?g82
      case g81 =>
        exact sx_set (up_s (up_s up_z)) (by rfl) (by first | exact Or.inl rfl | exact Or.inr rfl) (ex_lend (S := [0]) (T := []) (ln_own frz_l (by decide) (ln_val (ln_any (ln_any (ln_any (ln_any ln_nil)))))) (rh_v hd_i) (ex_ixL (ex_var at_z (by rfl) (by first | exact Or.inl rfl | exact Or.inr (Or.inl rfl) | exact Or.inr (Or.inr rfl))) ex_int (by intro _ _; rfl))) (by exact trivial) (by rfl) (by first | exact Or.inl rfl | exact Or.inr rfl)
      case g82 =>
        refine' bx_cons (G1 := [sOwn (fun v => v = v0) (oL cI), sVal cI, sVal cI, sVal cI, sAny, sAny]) ?g79 ?g80
        case g79 =>
          exact sx_set (up_s (up_s (up_s up_z))) (by rfl) (by first | exact Or.inl rfl | exact Or.inr rfl) (ex_op ot_add (ex_lend (S := [0]) (T := []) (ln_own frz_l (by decide) (ln_val (ln_val (ln_any (ln_any (ln_any ln_nil)))))) (rh_v hd_i) (ex_ixL (ex_var at_z (by rfl) (by first | exact Or.inl rfl | exact Or.inr (Or.inl rfl) | exact Or.inr (Or.inr rfl))) ex_int (by intro _ _; rfl))) (ex_op ot_mul (ex_op ot_mul ex_int (ex_var (at_s (at_s at_z)) (by rfl) (by first | exact Or.inl rfl | exact Or.inr (Or.inl rfl) | exact Or.inr (Or.inr rfl)))) (ex_var (at_s (at_s at_z)) (by rfl) (by first | exact Or.inl rfl | exact Or.inr (Or.inl rfl) | exact Or.inr (Or.inr rfl))))) (by exact trivial) (by rfl) (by first | exact Or.inl rfl | exact Or.inr rfl)
        case g80 =>
          refine' bx_cons (G1 := [sOwn (fun v => v = v0) (oL cI), sVal cI, sVal cI, sVal cI, sVal cI, sAny]) ?g77 ?g78
          case g77 =>
            exact sx_set (up_s (up_s (up_s (up_s up_z)))) (by rfl) (by first | exact Or.inl rfl | exact Or.inr rfl) (ex_op ot_mod (ex_callTy ct_intI (by rfl) (by exact M_int) (by decide +kernel) (ax_one (ex_op ot_pow (ex_var (at_s (at_s (at_s at_z))) (by rfl) (by first | exact Or.inl rfl | exact Or.inr (Or.inl rfl) | exact Or.inr (Or.inr rfl))) ex_int))) ex_int) (by exact trivial) (by rfl) (by first | exact Or.inl rfl | exact Or.inr rfl)
          case g78 =>
            refine' bx_cons (G1 := [sOwn (fun v => v = v0) (oL cI), sVal cI, sVal cI, sVal cI, sVal cI, sAny]) ?g75 ?g76
            case g75 =>
              exact sx_set (up_s (up_s (up_s up_z))) (by rfl) (by first | exact Or.inl rfl | exact Or.inr rfl) (ex_op ot_add (ex_op ot_mul (ex_var (at_s (at_s (at_s (at_s at_z)))) (by rfl) (by first | exact Or.inl rfl | exact Or.inr (Or.inl rfl) | exact Or.inr (Or.inr rfl))) (ex_var (at_s (at_s (at_s (at_s at_z)))) (by rfl) (by first | exact Or.inl rfl | exact Or.inr (Or.inl rfl) | exact Or.inr (Or.inr rfl)))) (ex_op ot_mul ex_int (ex_var (at_s (at_s at_z)) (by rfl) (by first | exact Or.inl rfl | exact Or.inr (Or.inl rfl) | exact Or.inr (Or.inr rfl))))) (by exact trivial) (by rfl) (by first | exact Or.inl rfl | exact Or.inr rfl)
            case g76 =>
              refine' bx_cons (G1 := [sOwn (fun v => v = v0) (oL cI), sVal cI, sVal cI, sVal cI, sVal cI, sAny]) ?g73 ?g74
              case g73 =>
                exact sx_set (up_s (up_s (up_s (up_s up_z)))) (by rfl) (by first | exact Or.inl rfl | exact Or.inr rfl) (ex_op ot_mod (ex_callTy ct_intI (by rfl) (by exact M_int) (by decide +kernel) (ax_one (ex_op ot_pow (ex_var (at_s (at_s (at_s at_z))) (by rfl) (by first | exact Or.inl rfl | exact Or.inr (Or.inl rfl) | exact Or.inr (Or.inr rfl))) ex_int))) ex_int) (by exact trivial) (by rfl) (by first | exact Or.inl rfl | exact Or.inr rfl)
              case g74 =>
                refine' bx_one ?_
                exact sx_retI at_z (ex_op ot_mod (ex_callTy ct_intI (by rfl) (by exact M_int) (by decide +kernel) (ax_one (ex_op ot_div (ex_var (at_s (at_s (at_s (at_s at_z)))) (by rfl) (by first | exact Or.inl rfl | exact Or.inr (Or.inl rfl) | exact Or.inr (Or.inr rfl))) ex_int))) (ex_var (at_s at_z) (by rfl) (by first | exact Or.inl rfl | exact Or.inr (Or.inl rfl) | exact Or.inr (Or.inr rfl))))⟩
def F__law_dip (k : (List Int)) (y : Int) : Res (Int × (List Int)) := Res.bind ((fb__law_dip ).1 .non (k, (y, ((), ((), ((), ((), ()))))))) endV

theorem ok__law_dip {P : Program} {w : World} {K : Frag} {mg : Str → Option Value} {base : Heap} {ca : Str → Addr} {fa : Addr} {fd : FuncData} (F0 : FunD K "_law_dip" "_law_dip" (defArgs s__law_dip) (defBody s__law_dip) (defScope s__law_dip) [] [] fa fd) (M_int : mg "int" = none) (hm : mg "_law_dip" = some (.ref fa)) : DefG P w K mg base 1 "_law_dip" ["well", "span"] (spI K ca (oL cI) (aOne cI) (rV cI) F__law_dip) :=
  ⟨fa, fd, fn_I (as := (aOne cI)) (G1 := [sVal cI, sAny, sAny, sAny, sAny]) (G' := fun v0 => [sOwn (fun v => v = v0) (oL cI), sVal cI, sAny, sAny, sAny, sAny]) (κ := (List Int)) (β := Int) (oc := (oL cI)) (r := (rV cI)) (ini := (fun y => (y, ((), ((), ((), ((), ()))))))) (fb := (fb__law_dip ).1) F0 sc__law_dip (by rfl) (fun L H v0 ws y wf h => by obtain ⟨v1, rfl, h1⟩ := h; exact ⟨⟨v1, rfl, h1⟩, trivial, trivial, trivial, trivial, Nat.le_of_ble_eq_true (by rfl)⟩) (fun v0 nd cd A outer s H E hr hgd => (fb__law_dip ).2 M_int fa v0 nd cd A outer s H E hr hgd) (fun v0 k y => rfl), hm, F0.kp, (F0.bindsN (ps := ["well", "span"]) fun _ _ _ _ _ _ us hl => match us, hl with | [_, _], _ => rfl), (kw_binds (ps := ["well", "span"]) F0 fun _ _ _ _ _ _ us hl => match us, hl with | [_, _], _ => rfl)⟩

/-! _law_words -/
abbrev s__law_words : Stmt := top 21
abbrev N__law_words : List Str := ["well", "count", "left", "found", "turn", "spot"]
theorem sc__law_words : FnScope N__law_words ["well", "count"] (defScope s__law_words) := ⟨rfl, rfl, rfl, by decide +kernel, rfl, by decide +kernel, by decide +kernel⟩
def fb__law_words : {fb : (v0 : V) → CT [sOwn (fun v => v = v0) (oL cI), sVal cI, sAny, sAny, sAny, sAny] → Res (Out (CT [sOwn (fun v => v = v0) (oL cI), sVal cI, sAny, sAny, sAny, sAny]) ((List Str) × (List Int))) // ∀ {P : Program} {w : World} {K : Frag} {mg : Str → Option Value} {base : Heap} {ca : Str → Addr} (M_range : mg "range" = none) (D__law_dip : DefG P w K mg base 1 "_law_dip" ["well", "span"] (spI K ca (oL cI) (aOne cI) (rV cI) F__law_dip)) (M_len : mg "len" = none) (f : Addr) (v0 : V) (nd : N__law_words.Nodup) cd A outer s H E hr hgd, BX (ambOf P w K mg base ca N__law_words nd 1 "_law_words" (defScope s__law_words) f cd A outer s H E hr hgd) [sOwn (fun v => v = v0) (oL cI), sVal cI, sAny, sAny, sAny, sAny] (defBody s__law_words) [sOwn (fun v => v = v0) (oL cI), sVal cI, sAny, sAny, sAny, sAny] (rrI (rV (cL cS)) (oL cI) v0) (fb v0)} := ⟨_, by
  intro P w K mg base ca M_range D__law_dip M_len f v0 nd cd A outer s H E hr hgd
  refine' bx_cons (G1 := [sOwn (fun v => v = v0) (oL cI), sVal cI, sOwn PAny (oL cS), sAny, sAny, sAny]) ?g97 ?g98
  case g97 =>
    exact sx_setO (up_s (up_s up_z)) (by rfl) (by first | exact Or.inl rfl | exact Or.inr rfl) (ex_list (ax_consA (ex_str (by decide +kernel) (by decide +kernel)) (ax_consA (ex_str (by decide +kernel) (by decide +kernel)) (ax_consA (ex_str (by decide +kernel) (by decide +kernel)) (ax_consA (ex_str (by decide +kernel) (by decide +kernel)) (ax_consA (ex_str (by decide +kernel) (by decide +kernel)) (ax_consA (ex_str (by decide +kernel) (by decide +kernel)) (ax_consA (ex_str (by decide +kernel) (by decide +kernel)) (ax_consA (ex_str (by decide +kernel) (by decide +kernel)) (ax_consA (ex_str (by decide +kernel) (by decide +kernel)) (ax_consA (ex_str (by decide +kernel) (by decide +kernel)) (ax_consA (ex_str (by decide +kernel) (by decide +kernel)) (ax_consA (ex_str (by decide +kernel) (by decide +kernel)) (ax_consA (ex_str (by decide +kernel) (by decide +kernel)) ax_nilA)))))))))))))) (by exact trivial) (by rfl) (by first | exact Or.inl rfl | exact Or.inr rfl)
  case g98 =>
    refine' bx_cons (G1 := [sOwn (fun v => v = v0) (oL cI), sVal cI, sOwn PAny (oL cS), sOwn PAny (oL cS), sAny, sAny]) ?g95 ?g96
    case g95 =>
      exact sx_setO (up_s (up_s (up_s up_z))) (by rfl) (by first | exact Or.inl rfl | exact Or.inr rfl) (ex_list (c := cS) ax_nilA) (by exact trivial) (by rfl) (by first | exact Or.inl rfl | exact Or.inr rfl)
    case g96 =>
      refine' bx_cons (G1 := [sOwn (fun v => v = v0) (oL cI), sVal cI, sOwn PAny (oL cS), sOwn PAny (oL cS), sAny, sAny]) ?g93 ?g94
      case g93 =>
        refine' sx_for (G1 := [sOwn (fun v => v = v0) (oL cI), sVal cI, sOwn PAny (oL cS), sOwn PAny (oL cS), sVal cI, sAny]) (G2 := [sOwn (fun v => v = v0) (oL cI), sVal cI, sOwn PAny (oL cS), sOwn PAny (oL cS), sVal cI, sVal cI]) (ix_r1 (by rfl) (by exact M_range) (ex_var (at_s at_z) (by rfl) (by first | exact Or.inl rfl | exact Or.inr (Or.inl rfl) | exact Or.inr (Or.inr rfl)))) (gx_name (up_s (up_s (up_s (up_s up_z)))) (by rfl) (by first | exact Or.inl rfl | exact Or.inr rfl) (by exact trivial) (by first | exact Or.inl rfl | exact Or.inr rfl)) ?g91 (sc_same (sc_same (sc_same (sc_same (sc_any (sc_any sc_id))))))
        case g91 =>
          refine' bx_cons (G1 := [sOwn (fun v => v = v0) (oL cI), sVal cI, sOwn PAny (oL cS), sOwn PAny (oL cS), sVal cI, sVal cI]) ?g89 ?g90
          case g89 =>
            exact sx_set (up_s (up_s (up_s (up_s (up_s up_z))))) (by rfl) (by first | exact Or.inl rfl | exact Or.inr rfl) (ex_calI at_z md_z D__law_dip (Nat.le_of_ble_eq_true (by rfl)) (by rfl) rtvI (by rfl) (by first | exact Or.inl rfl | exact Or.inr (Or.inl rfl) | exact Or.inr (Or.inr rfl)) (ax_one (ex_lend (S := [2]) (T := []) (ln_hold (ho_l hd_i) (by decide) (by decide) (ln_val (ln_own frz_l (by decide) (ln_hold (ho_l hd_s) (by decide) (by decide) (ln_val (ln_any ln_nil)))))) (rh_v hd_i) (ex_callB ct_lenL (by rfl) (by exact M_len) (by decide +kernel) (ax_one (ex_var (at_s (at_s at_z)) (by rfl) (by first | exact Or.inl rfl | exact Or.inr (Or.inl rfl) | exact Or.inr (Or.inr rfl)))))))) (by exact trivial) (by rfl) (by first | exact Or.inl rfl | exact Or.inr rfl)
          case g90 =>
            refine' bx_cons (G1 := [sOwn (fun v => v = v0) (oL cI), sVal cI, sOwn PAny (oL cS), sOwn PAny (oL cS), sVal cI, sVal cI]) ?g87 ?g88
            case g87 =>
              exact sx_expr (ex_ownM mt_app PySem.F.slot_list_append (by rfl) (at_s (at_s (at_s at_z))) (md_s (md_s (md_s md_z))) (by rfl) (by first | exact Or.inl rfl | exact Or.inr (Or.inl rfl) | exact Or.inr (Or.inr rfl)) (ax_one (ex_lend (S := [2]) (T := []) (ln_hold (ho_l hd_i) (by decide) (by decide) (ln_val (ln_own frz_l (by decide) (ln_hold (ho_l hd_s) (by decide) (by decide) (ln_val (ln_val ln_nil)))))) (rh_v hd_s) (ex_ixL (ex_var (at_s (at_s at_z)) (by rfl) (by first | exact Or.inl rfl | exact Or.inr (Or.inl rfl) | exact Or.inr (Or.inr rfl))) (ex_var (at_s (at_s (at_s (at_s (at_s at_z))))) (by rfl) (by first | exact Or.inl rfl | exact Or.inr (Or.inl rfl) | exact Or.inr (Or.inr rfl))) (by intro _ _; rfl)))))
            case g88 =>
              refine' bx_one ?_
              exact sx_setO (up_s (up_s up_z)) (by rfl) (by first | exact Or.inl rfl | exact Or.inr rfl) (ex_op ot_cat (ex_frz frz_l (ex_lend (S := [2]) (T := []) (ln_hold (ho_l hd_i) (by decide) (by decide) (ln_val (ln_own frz_l (by decide) (ln_hold (ho_l hd_s) (by decide) (by decide) (ln_val (ln_val ln_nil)))))) (rh_o (ho_l hd_s)) (ex_cutL (ex_var (at_s (at_s at_z)) (by rfl) (by first | exact Or.inl rfl | exact Or.inr (Or.inl rfl) | exact Or.inr (Or.inr rfl))) ox_none (ox_some (ex_var (at_s (at_s (at_s (at_s (at_s at_z))))) (by rfl) (by first | exact Or.inl rfl | exact Or.inr (Or.inl rfl) | exact Or.inr (Or.inr rfl))))))) (ex_frz frz_l (ex_lend (S := [2]) (T := []) (ln_hold (ho_l hd_i) (by decide) (by decide) (ln_val (ln_own frz_l (by decide) (ln_hold (ho_l hd_s) (by decide) (by decide) (ln_val (ln_val ln_nil)))))) (rh_o (ho_l hd_s)) (ex_cutL (ex_var (at_s (at_s at_z)) (by rfl) (by first | exact Or.inl rfl | exact Or.inr (Or.inl rfl) | exact Or.inr (Or.inr rfl))) (ox_some (ex_op ot_add (ex_var (at_s (at_s (at_s (at_s (at_s at_z))))) (by rfl) (by first | exact Or.inl rfl | exact Or.inr (Or.inl rfl) | exact Or.inr (Or.inr rfl))) ex_int)) ox_none)))) (by exact trivial) (by rfl) (by first | exact Or.inl rfl | exact Or.inr rfl)
      case g94 =>
        refine' bx_sub (G1 := [sOwn (fun v => v = v0) (oL cI), sVal cI, sOwn PAny (oL cS), sVal (cL cS), sAny, sAny]) (sc_same (sc_same (sc_same (sc_frz frz_l sc_id)))) ?g92
        case g92 =>
          refine' bx_one ?_
          exact sx_retI at_z (ex_var (at_s (at_s (at_s at_z))) (by rfl) (by first | exact Or.inl rfl | exact Or.inr (Or.inl rfl) | exact Or.inr (Or.inr rfl)))⟩
def F__law_words (k : (List Int)) (y : Int) : Res ((List Str) × (List Int)) := Res.bind ((fb__law_words ).1 .non (k, (y, ((), ((), ((), ((), ()))))))) endV

theorem ok__law_words {P : Program} {w : World} {K : Frag} {mg : Str → Option Value} {base : Heap} {ca : Str → Addr} {fa : Addr} {fd : FuncData} (F0 : FunD K "_law_words" "_law_words" (defArgs s__law_words) (defBody s__law_words) (defScope s__law_words) [] [] fa fd) (M_range : mg "range" = none) (D__law_dip : DefG P w K mg base 1 "_law_dip" ["well", "span"] (spI K ca (oL cI) (aOne cI) (rV cI) F__law_dip)) (M_len : mg "len" = none) (hm : mg "_law_words" = some (.ref fa)) : DefG P w K mg base 2 "_law_words" ["well", "count"] (spI K ca (oL cI) (aOne cI) (rV (cL cS)) F__law_words) :=
  ⟨fa, fd, fn_I (as := (aOne cI)) (G1 := [sVal cI, sAny, sAny, sAny, sAny]) (G' := fun v0 => [sOwn (fun v => v = v0) (oL cI), sVal cI, sAny, sAny, sAny, sAny]) (κ := (List Int)) (β := (List Str)) (oc := (oL cI)) (r := (rV (cL cS))) (ini := (fun y => (y, ((), ((), ((), ((), ()))))))) (fb := (fb__law_words ).1) F0 sc__law_words (by rfl) (fun L H v0 ws y wf h => by obtain ⟨v1, rfl, h1⟩ := h; exact ⟨⟨v1, rfl, h1⟩, trivial, trivial, trivial, trivial, Nat.le_of_ble_eq_true (by rfl)⟩) (fun v0 nd cd A outer s H E hr hgd => (fb__law_words ).2 M_range D__law_dip M_len fa v0 nd cd A outer s H E hr hgd) (fun v0 k y => rfl), hm, F0.kp, (F0.bindsN (ps := ["well", "count"]) fun _ _ _ _ _ _ us hl => match us, hl with | [_, _], _ => rfl), (kw_binds (ps := ["well", "count"]) F0 fun _ _ _ _ _ _ us hl => match us, hl with | [_, _], _ => rfl)⟩

/-! _law_column -/
abbrev s__law_column : Stmt := top 22
abbrev N__law_column : List Str := ["well", "count", "told", "way", "goal", "step", "state"]
theorem sc__law_column : FnScope N__law_column ["well", "count"] (defScope s__law_column) := ⟨rfl, rfl, rfl, by decide +kernel, rfl, by decide +kernel, by decide +kernel⟩
def fb__law_column : {fb : (v0 : V) → CT [sOwn (fun v => v = v0) (oL cI), sVal cI, sAny, sAny, sAny, sAny, sAny] → Res (Out (CT [sOwn (fun v => v = v0) (oL cI), sVal cI, sAny, sAny, sAny, sAny, sAny]) ((List (Int × (Option Int))) × (List Int))) // ∀ {P : Program} {w : World} {K : Frag} {mg : Str → Option Value} {base : Heap} {ca : Str → Addr} (D__law_dip : DefG P w K mg base 1 "_law_dip" ["well", "span"] (spI K ca (oL cI) (aOne cI) (rV cI) F__law_dip)) (M_range : mg "range" = none) (M_int : mg "int" = none) (f : Addr) (v0 : V) (nd : N__law_column.Nodup) cd A outer s H E hr hgd, BX (ambOf P w K mg base ca N__law_column nd 1 "_law_column" (defScope s__law_column) f cd A outer s H E hr hgd) [sOwn (fun v => v = v0) (oL cI), sVal cI, sAny, sAny, sAny, sAny, sAny] (defBody s__law_column) [sOwn (fun v => v = v0) (oL cI), sVal cI, sAny, sAny, sAny, sAny, sAny] (rrI (rV (cL (cT (aCons cI (aOne (cO cI)))))) (oL cI) v0) (fb v0)} := ⟨_, by
  intro P w K mg base ca D__law_dip M_range M_int f v0 nd cd A outer s H E hr hgd
  refine' bx_cons (G1 := [sOwn (fun v => v = v0) (oL cI), sVal cI, sAny, sVal cI, sVal cI, sAny, sAny]) ?g115 ?g116
  case g115 =>
    first | exact sx_par st_v st_v (up_s (up_s (up_s (up_s up_z)))) (up_s (up_s (up_s up_z))) (by decide) (by exact ⟨trivial, trivial⟩) (by rfl) (by rfl) (by rfl) (by rfl) (ex_calI at_z md_z D__law_dip (Nat.le_of_ble_eq_true (by rfl)) (by rfl) rtvI (by rfl) (by first | exact Or.inl rfl | exact Or.inr (Or.inl rfl) | exact Or.inr (Or.inr rfl)) (ax_one ex_int)) (ex_calI at_z md_z D__law_dip (Nat.le_of_ble_eq_true (by rfl)) (by rfl) rtvI (by rfl) (by first | exact Or.inl rfl | exact Or.inr (Or.inl rfl) | exact Or.inr (Or.inr rfl)) (ax_one (ex_var (at_s at_z) (by rfl) (by first | exact Or.inl rfl | exact Or.inr (Or.inl rfl) | exact Or.inr (Or.inr rfl))))) (by rfl) | exact sx_parC st_v st_v (up_s (up_s (up_s (up_s up_z)))) (up_s (up_s (up_s up_z))) (by decide) (by exact ⟨trivial, trivial⟩) (by rfl) (by rfl) (by first | exact Or.inl rfl | exact Or.inr rfl) (by first | exact Or.inl rfl | exact Or.inr rfl) (ex_calI at_z md_z D__law_dip (Nat.le_of_ble_eq_true (by rfl)) (by rfl) rtvI (by rfl) (by first | exact Or.inl rfl | exact Or.inr (Or.inl rfl) | exact Or.inr (Or.inr rfl)) (ax_one ex_int)) (ex_calI at_z md_z D__law_dip (Nat.le_of_ble_eq_true (by rfl)) (by rfl) rtvI (by rfl) (by first | exact Or.inl rfl | exact Or.inr (Or.inl rfl) | exact Or.inr (Or.inr rfl)) (ax_one (ex_var (at_s at_z) (by rfl) (by first | exact Or.inl rfl | exact Or.inr (Or.inl rfl) | exact Or.inr (Or.inr rfl))))) (by rfl) (by rfl) (by rfl)
  case g116 =>
    refine' bx_cons (G1 := [sOwn (fun v => v = v0) (oL cI), sVal cI, sOwn PAny (oL (cO cI)), sVal cI, sVal cI, sAny, sAny]) ?g113 ?g114
    case g113 =>
      first | exact sx_setLc (own := [("state", 6)]) (up_s (up_s up_z)) (by rfl) (by rfl) (by exact trivial) (ix_r1 (by rfl) (by exact M_range) (ex_var (at_s at_z) (by rfl) (by first | exact Or.inl rfl | exact Or.inr (Or.inl rfl) | exact Or.inr (Or.inr rfl)))) (blkOk_by (by rfl)) (wc_keep (by decide) (wc_keep (by decide) (wc_keep (by decide) (wc_keep (by decide) (wc_keep (by decide) (wc_keep (by decide) (wc_any wc_nil))))))) (fun _ _ _ _ _ => (gx_name (up_s (up_s (up_s (up_s (up_s (up_s up_z)))))) (by rfl) (by first | exact Or.inl rfl | exact Or.inr rfl) (by show (6 : Nat) ∈ [6]; decide) (by first | exact Or.inl rfl | exact Or.inr rfl))) (fun _ _ _ _ _ => (ex_ixL (ex_frz frz_l (ex_list (ax_consA (ex_sub sub_none ex_none) (ax_consA (ex_sub sub_some (ex_calI at_z md_z D__law_dip (Nat.le_of_ble_eq_true (by rfl)) (by rfl) rtvI (by rfl) (by first | exact Or.inl rfl | exact Or.inr (Or.inl rfl) | exact Or.inr (Or.inr rfl)) (ax_one ex_int))) (ax_consA (ex_sub sub_some (ex_op ot_sub (ex_calI at_z md_z D__law_dip (Nat.le_of_ble_eq_true (by rfl)) (by rfl) rtvI (by rfl) (by first | exact Or.inl rfl | exact Or.inr (Or.inl rfl) | exact Or.inr (Or.inr rfl)) (ax_one ex_int)) ex_int)) ax_nilA))))) (ex_calI at_z md_z D__law_dip (Nat.le_of_ble_eq_true (by rfl)) (by rfl) rtvI (by rfl) (by first | exact Or.inl rfl | exact Or.inr (Or.inl rfl) | exact Or.inr (Or.inr rfl)) (ax_one ex_int)) (by intro _ _; rfl))) (wc_keep (by decide) (wc_keep (by decide) (wc_keep (by decide) (wc_keep (by decide) (wc_keep (by decide) (wc_keep (by decide) (wc_val wc_nil))))))) (by rfl) | exact sx_setO (up_s (up_s up_z)) (by rfl) (by first | exact Or.inl rfl | exact Or.inr rfl) (ex_lc (own := [("state", 6)]) (ix_r1 (by rfl) (by exact M_range) (ex_var (at_s at_z) (by rfl) (by first | exact Or.inl rfl | exact Or.inr (Or.inl rfl) | exact Or.inr (Or.inr rfl)))) (blkOk_by (by rfl)) (wc_keep (by decide) (wc_keep (by decide) (wc_keep (by decide) (wc_keep (by decide) (wc_keep (by decide) (wc_keep (by decide) (wc_any wc_nil))))))) (fun _ _ _ _ _ => (gx_name (up_s (up_s (up_s (up_s (up_s (up_s up_z)))))) (by rfl) (by first | exact Or.inl rfl | exact Or.inr rfl) (by show (6 : Nat) ∈ [6]; decide) (by first | exact Or.inl rfl | exact Or.inr rfl))) (fun _ _ _ _ _ => (ex_ixL (ex_frz frz_l (ex_list (ax_consA (ex_sub sub_none ex_none) (ax_consA (ex_sub sub_some (ex_calI at_z md_z D__law_dip (Nat.le_of_ble_eq_true (by rfl)) (by rfl) rtvI (by rfl) (by first | exact Or.inl rfl | exact Or.inr (Or.inl rfl) | exact Or.inr (Or.inr rfl)) (ax_one ex_int))) (ax_consA (ex_sub sub_some (ex_op ot_sub (ex_calI at_z md_z D__law_dip (Nat.le_of_ble_eq_true (by rfl)) (by rfl) rtvI (by rfl) (by first | exact Or.inl rfl | exact Or.inr (Or.inl rfl) | exact Or.inr (Or.inr rfl)) (ax_one ex_int)) ex_int)) ax_nilA))))) (ex_calI at_z md_z D__law_dip (Nat.le_of_ble_eq_true (by rfl)) (by rfl) rtvI (by rfl) (by first | exact Or.inl rfl | exact Or.inr (Or.inl rfl) | exact Or.inr (Or.inr rfl)) (ax_one ex_int)) (by intro _ _; rfl))) (wc_keep (by decide) (wc_keep (by decide) (wc_keep (by decide) (wc_keep (by decide) (wc_keep (by decide) (wc_keep (by decide) (wc_val wc_nil)))))))) (by exact trivial) (by rfl) (by first | exact Or.inl rfl | exact Or.inr rfl)
    case g114 =>
      refine' bx_cons (G1 := [sOwn (fun v => v = v0) (oL cI), sVal cI, sOwn PAny (oL (cO cI)), sVal cI, sVal cI, sAny, sAny]) ?g111 ?g112
      case g111 =>
        refine' sx_if (G' := [sOwn (fun v => v = v0) (oL cI), sVal cI, sOwn PAny (oL (cO cI)), sVal cI, sVal cI, sAny, sAny]) (tx_cmp ot_lt (ex_var (at_s (at_s (at_s at_z))) (by rfl) (by first | exact Or.inl rfl | exact Or.inr (Or.inl rfl) | exact Or.inr (Or.inr rfl))) ex_int (by rfl)) ?g99 ?g100
        case g99 =>
          refine' bx_one ?_
          exact sx_retI at_z (ex_frz frz_l (ex_lc (own := [("state", 6)]) (ix_r1 (by rfl) (by exact M_range) (ex_var (at_s at_z) (by rfl) (by first | exact Or.inl rfl | exact Or.inr (Or.inl rfl) | exact Or.inr (Or.inr rfl)))) (blkOk_by (by rfl)) (wc_keep (by decide) (wc_keep (by decide) (wc_keep (by decide) (wc_keep (by decide) (wc_keep (by decide) (wc_keep (by decide) (wc_any wc_nil))))))) (fun _ _ _ _ _ => (gx_name (up_s (up_s (up_s (up_s (up_s (up_s up_z)))))) (by rfl) (by first | exact Or.inl rfl | exact Or.inr rfl) (by show (6 : Nat) ∈ [6]; decide) (by first | exact Or.inl rfl | exact Or.inr rfl))) (fun _ _ _ _ _ => (ex_tup (ax_cons (ex_var (at_s (at_s (at_s (at_s at_z)))) (by rfl) (by first | exact Or.inl rfl | exact Or.inr (Or.inl rfl) | exact Or.inr (Or.inr rfl))) (ax_one (ex_ixL (ex_frz frz_l (ex_list (ax_consA (ex_sub sub_none ex_none) (ax_consA (ex_lend (S := [2]) (T := []) (ln_hold (ho_l hd_i) (by decide) (by decide) (ln_val (ln_own frz_l (by decide) (ln_val (ln_val (ln_any (ln_val ln_nil))))))) (rh_v (hd_o hd_i)) (ex_ixL (ex_var (at_s (at_s at_z)) (by rfl) (by first | exact Or.inl rfl | exact Or.inr (Or.inl rfl) | exact Or.inr (Or.inr rfl))) ex_int (by intro _ _; rfl))) ax_nilA)))) (ex_calI at_z md_z D__law_dip (Nat.le_of_ble_eq_true (by rfl)) (by rfl) rtvI (by rfl) (by first | exact Or.inl rfl | exact Or.inr (Or.inl rfl) | exact Or.inr (Or.inr rfl)) (ax_one ex_int)) (by intro _ _; rfl)))))) (wc_keep (by decide) (wc_keep (by decide) (wc_keep (by decide) (wc_keep (by decide) (wc_keep (by decide) (wc_keep (by decide) (wc_val wc_nil)))))))))
        case g100 =>
          exact bx_nil
      case g112 =>
        refine' bx_cons (G1 := [sOwn (fun v => v = v0) (oL cI), sVal cI, sOwn PAny (oL (cO cI)), sVal cI, sVal cI, sAny, sAny]) ?g109 ?g110
        case g109 =>
          refine' sx_if (G' := [sOwn (fun v => v = v0) (oL cI), sVal cI, sOwn PAny (oL (cO cI)), sVal cI, sVal cI, sAny, sAny]) (tx_cmp ot_eq (ex_var (at_s (at_s (at_s at_z))) (by rfl) (by first | exact Or.inl rfl | exact Or.inr (Or.inl rfl) | exact Or.inr (Or.inr rfl))) ex_int (by rfl)) ?g101 ?g102
          case g101 =>
            refine' bx_one ?_
            exact sx_retI at_z (ex_frz frz_l (ex_lc (own := [("state", 6)]) (ix_r1 (by rfl) (by exact M_range) (ex_var (at_s at_z) (by rfl) (by first | exact Or.inl rfl | exact Or.inr (Or.inl rfl) | exact Or.inr (Or.inr rfl)))) (blkOk_by (by rfl)) (wc_keep (by decide) (wc_keep (by decide) (wc_keep (by decide) (wc_keep (by decide) (wc_keep (by decide) (wc_keep (by decide) (wc_any wc_nil))))))) (fun _ _ _ _ _ => (gx_name (up_s (up_s (up_s (up_s (up_s (up_s up_z)))))) (by rfl) (by first | exact Or.inl rfl | exact Or.inr rfl) (by show (6 : Nat) ∈ [6]; decide) (by first | exact Or.inl rfl | exact Or.inr rfl))) (fun _ _ _ _ _ => (ex_tup (ax_cons (ex_var (at_s (at_s (at_s (at_s (at_s (at_s at_z)))))) (by rfl) (by first | exact Or.inl rfl | exact Or.inr (Or.inl rfl) | exact Or.inr (Or.inr rfl))) (ax_one (ex_ixL (ex_frz frz_l (ex_list (ax_consA (ex_sub sub_some (ex_var (at_s (at_s (at_s (at_s (at_s (at_s at_z)))))) (by rfl) (by first | exact Or.inl rfl | exact Or.inr (Or.inl rfl) | exact Or.inr (Or.inr rfl)))) (ax_consA (ex_lend (S := [2]) (T := []) (ln_hold (ho_l hd_i) (by decide) (by decide) (ln_val (ln_own frz_l (by decide) (ln_val (ln_val (ln_any (ln_val ln_nil))))))) (rh_v (hd_o hd_i)) (ex_ixL (ex_var (at_s (at_s at_z)) (by rfl) (by first | exact Or.inl rfl | exact Or.inr (Or.inl rfl) | exact Or.inr (Or.inr rfl))) (ex_var (at_s (at_s (at_s (at_s (at_s (at_s at_z)))))) (by rfl) (by first | exact Or.inl rfl | exact Or.inr (Or.inl rfl) | exact Or.inr (Or.inr rfl))) (by intro _ _; rfl))) ax_nilA)))) (ex_callTy ct_intB (by rfl) (by exact M_int) (by decide +kernel) (ax_one (ex_cmp ot_gt (ex_var (at_s (at_s (at_s (at_s at_z)))) (by rfl) (by first | exact Or.inl rfl | exact Or.inr (Or.inl rfl) | exact Or.inr (Or.inr rfl))) ex_int (by rfl)))) (by intro _ _; rfl)))))) (wc_keep (by decide) (wc_keep (by decide) (wc_keep (by decide) (wc_keep (by decide) (wc_keep (by decide) (wc_keep (by decide) (wc_val wc_nil)))))))))
          case g102 =>
            exact bx_nil
        case g110 =>
          refine' bx_cons (G1 := [sOwn (fun v => v = v0) (oL cI), sVal cI, sOwn PAny (oL (cO cI)), sVal cI, sVal cI, sAny, sAny]) ?g107 ?g108
          case g107 =>
            refine' sx_if (G' := [sOwn (fun v => v = v0) (oL cI), sVal cI, sOwn PAny (oL (cO cI)), sVal cI, sVal cI, sAny, sAny]) (tx_cmp ot_lt (ex_var (at_s (at_s (at_s at_z))) (by rfl) (by first | exact Or.inl rfl | exact Or.inr (Or.inl rfl) | exact Or.inr (Or.inr rfl))) ex_int (by rfl)) ?g105 ?g106
            case g105 =>
              refine' bx_cons (G1 := [sOwn (fun v => v = v0) (oL cI), sVal cI, sOwn PAny (oL (cO cI)), sVal cI, sVal cI, sVal cI, sAny]) ?g103 ?g104
              case g103 =>
                exact sx_set (up_s (up_s (up_s (up_s (up_s up_z))))) (by rfl) (by first | exact Or.inl rfl | exact Or.inr rfl) (ex_op ot_add ex_int (ex_calI at_z md_z D__law_dip (Nat.le_of_ble_eq_true (by rfl)) (by rfl) rtvI (by rfl) (by first | exact Or.inl rfl | exact Or.inr (Or.inl rfl) | exact Or.inr (Or.inr rfl)) (ax_one ex_int))) (by exact trivial) (by rfl) (by first | exact Or.inl rfl | exact Or.inr rfl)
              case g104 =>
                refine' bx_one ?_
                exact sx_retI at_z (ex_frz frz_l (ex_lc (own := [("state", 6)]) (ix_r1 (by rfl) (by exact M_range) (ex_var (at_s at_z) (by rfl) (by first | exact Or.inl rfl | exact Or.inr (Or.inl rfl) | exact Or.inr (Or.inr rfl)))) (blkOk_by (by rfl)) (wc_keep (by decide) (wc_keep (by decide) (wc_keep (by decide) (wc_keep (by decide) (wc_keep (by decide) (wc_keep (by decide) (wc_any wc_nil))))))) (fun _ _ _ _ _ => (gx_name (up_s (up_s (up_s (up_s (up_s (up_s up_z)))))) (by rfl) (by first | exact Or.inl rfl | exact Or.inr rfl) (by show (6 : Nat) ∈ [6]; decide) (by first | exact Or.inl rfl | exact Or.inr rfl))) (fun _ _ _ _ _ => (ex_tup (ax_cons (ex_op ot_mod (ex_callTy ct_intI (by rfl) (by exact M_int) (by decide +kernel) (ax_one (ex_op ot_add (ex_var (at_s (at_s (at_s (at_s (at_s (at_s at_z)))))) (by rfl) (by first | exact Or.inl rfl | exact Or.inr (Or.inl rfl) | exact Or.inr (Or.inr rfl))) (ex_var (at_s (at_s (at_s (at_s (at_s at_z))))) (by rfl) (by first | exact Or.inl rfl | exact Or.inr (Or.inl rfl) | exact Or.inr (Or.inr rfl)))))) (ex_var (at_s at_z) (by rfl) (by first | exact Or.inl rfl | exact Or.inr (Or.inl rfl) | exact Or.inr (Or.inr rfl)))) (ax_one (ex_ixL (ex_frz frz_l (ex_list (ax_consA (ex_sub sub_none ex_none) (ax_consA (ex_sub sub_none ex_none) (ax_consA (ex_sub sub_some (ex_var (at_s (at_s (at_s (at_s (at_s (at_s at_z)))))) (by rfl) (by first | exact Or.inl rfl | exact Or.inr (Or.inl rfl) | exact Or.inr (Or.inr rfl)))) ax_nilA))))) (ex_op ot_mod (ex_callTy ct_intI (by rfl) (by exact M_int) (by decide +kernel) (ax_one (ex_var (at_s (at_s (at_s (at_s at_z)))) (by rfl) (by first | exact Or.inl rfl | exact Or.inr (Or.inl rfl) | exact Or.inr (Or.inr rfl))))) ex_int) (by intro _ _; rfl)))))) (wc_keep (by decide) (wc_keep (by decide) (wc_keep (by decide) (wc_keep (by decide) (wc_keep (by decide) (wc_keep (by decide) (wc_val wc_nil)))))))))
            case g106 =>
              exact bx_nil
          case g108 =>
            refine' bx_one ?_
            exact sx_retI at_z (ex_frz frz_l (ex_lc (own := [("state", 6)]) (ix_r1 (by rfl) (by exact M_range) (ex_var (at_s at_z) (by rfl) (by first | exact Or.inl rfl | exact Or.inr (Or.inl rfl) | exact Or.inr (Or.inr rfl)))) (blkOk_by (by rfl)) (wc_keep (by decide) (wc_keep (by decide) (wc_keep (by decide) (wc_keep (by decide) (wc_keep (by decide) (wc_keep (by decide) (wc_any wc_nil))))))) (fun _ _ _ _ _ => (gx_name (up_s (up_s (up_s (up_s (up_s (up_s up_z)))))) (by rfl) (by first | exact Or.inl rfl | exact Or.inr rfl) (by show (6 : Nat) ∈ [6]; decide) (by first | exact Or.inl rfl | exact Or.inr rfl))) (fun _ _ _ _ _ => (ex_tup (ax_cons (ex_calI at_z md_z D__law_dip (Nat.le_of_ble_eq_true (by rfl)) (by rfl) rtvI (by rfl) (by first | exact Or.inl rfl | exact Or.inr (Or.inl rfl) | exact Or.inr (Or.inr rfl)) (ax_one (ex_var (at_s at_z) (by rfl) (by first | exact Or.inl rfl | exact Or.inr (Or.inl rfl) | exact Or.inr (Or.inr rfl))))) (ax_one (ex_lend (S := [2]) (T := []) (ln_hold (ho_l hd_i) (by decide) (by decide) (ln_val (ln_own frz_l (by decide) (ln_val (ln_val (ln_any (ln_val ln_nil))))))) (rh_v (hd_o hd_i)) (ex_ixL (ex_var (at_s (at_s at_z)) (by rfl) (by first | exact Or.inl rfl | exact Or.inr (Or.inl rfl) | exact Or.inr (Or.inr rfl))) (ex_var (at_s (at_s (at_s (at_s (at_s (at_s at_z)))))) (by rfl) (by first | exact Or.inl rfl | exact Or.inr (Or.inl rfl) | exact Or.inr (Or.inr rfl))) (by intro _ _; rfl))))))) (wc_keep (by decide) (wc_keep (by decide) (wc_keep (by decide) (wc_keep (by decide) (wc_keep (by decide) (wc_keep (by decide) (wc_val wc_nil)))))))))⟩
def F__law_column (k : (List Int)) (y : Int) : Res ((List (Int × (Option Int))) × (List Int)) := Res.bind ((fb__law_column ).1 .non (k, (y, ((), ((), ((), ((), ((), ())))))))) endV

theorem ok__law_column {P : Program} {w : World} {K : Frag} {mg : Str → Option Value} {base : Heap} {ca : Str → Addr} {fa : Addr} {fd : FuncData} (F0 : FunD K "_law_column" "_law_column" (defArgs s__law_column) (defBody s__law_column) (defScope s__law_column) [] [] fa fd) (D__law_dip : DefG P w K mg base 1 "_law_dip" ["well", "span"] (spI K ca (oL cI) (aOne cI) (rV cI) F__law_dip)) (M_range : mg "range" = none) (M_int : mg "int" = none) (hm : mg "_law_column" = some (.ref fa)) : DefG P w K mg base 2 "_law_column" ["well", "count"] (spI K ca (oL cI) (aOne cI) (rV (cL (cT (aCons cI (aOne (cO cI)))))) F__law_column) :=
  ⟨fa, fd, fn_I (as := (aOne cI)) (G1 := [sVal cI, sAny, sAny, sAny, sAny, sAny]) (G' := fun v0 => [sOwn (fun v => v = v0) (oL cI), sVal cI, sAny, sAny, sAny, sAny, sAny]) (κ := (List Int)) (β := (List (Int × (Option Int)))) (oc := (oL cI)) (r := (rV (cL (cT (aCons cI (aOne (cO cI))))))) (ini := (fun y => (y, ((), ((), ((), ((), ((), ())))))))) (fb := (fb__law_column ).1) F0 sc__law_column (by rfl) (fun L H v0 ws y wf h => by obtain ⟨v1, rfl, h1⟩ := h; exact ⟨⟨v1, rfl, h1⟩, trivial, trivial, trivial, trivial, trivial, Nat.le_of_ble_eq_true (by rfl)⟩) (fun v0 nd cd A outer s H E hr hgd => (fb__law_column ).2 D__law_dip M_range M_int fa v0 nd cd A outer s H E hr hgd) (fun v0 k y => rfl), hm, F0.kp, (F0.bindsN (ps := ["well", "count"]) fun _ _ _ _ _ _ us hl => match us, hl with | [_, _], _ => rfl), (kw_binds (ps := ["well", "count"]) F0 fun _ _ _ _ _ _ us hl => match us, hl with | [_, _], _ => rfl)⟩

/-! _law_reached -/
abbrev s__law_reached : Stmt := top 23
abbrev N__law_reached : List Str := ["table_here", "turn", "order", "found", "state", "goal", "told"]
theorem sc__law_reached : FnScope N__law_reached ["table_here"] (defScope s__law_reached) := ⟨rfl, rfl, rfl, by decide +kernel, rfl, by decide +kernel, by decide +kernel⟩
def fb__law_reached : {fb : CT [sVal (cL (cL (cT (aCons cI (aOne (cO cI)))))), sAny, sAny, sAny, sAny, sAny, sAny] → Res (Out (CT [sVal (cL (cL (cT (aCons cI (aOne (cO cI)))))), sAny, sAny, sAny, sAny, sAny, sAny]) (List (List (Int × (Option Int))))) // ∀ {P : Program} {w : World} {K : Frag} {mg : Str → Option Value} {base : Heap} {ca : Str → Addr} (M_range : mg "range" = none) (M_len : mg "len" = none) (f : Addr) (nd : N__law_reached.Nodup) cd A outer s H E hr hgd, BX (ambOf P w K mg base ca N__law_reached nd 0 "_law_reached" (defScope s__law_reached) f cd A outer s H E hr hgd) [sVal (cL (cL (cT (aCons cI (aOne (cO cI)))))), sAny, sAny, sAny, sAny, sAny, sAny] (defBody s__law_reached) [sVal (cL (cL (cT (aCons cI (aOne (cO cI)))))), sAny, sAny, sAny, sAny, sAny, sAny] (rrP (rV (cL (cL (cT (aCons cI (aOne (cO cI)))))))) fb} := ⟨_, by
  intro P w K mg base ca M_range M_len f nd cd A outer s H E hr hgd
  refine' bx_cons (G1 := [sVal (cL (cL (cT (aCons cI (aOne (cO cI)))))), sAny, sOwn PAny (oL cI), sOwn PAny (oL cI), sAny, sAny, sAny]) ?g128 ?g129
  case g128 =>
    first | exact sx_par st_o st_o (up_s (up_s (up_s up_z))) (up_s (up_s up_z)) (by decide) (by exact ⟨trivial, trivial⟩) (by rfl) (by rfl) (by rfl) (by rfl) (ex_list (ax_consA ex_int ax_nilA)) (ex_list (c := cI) ax_nilA) (by rfl) | exact sx_parC st_o st_o (up_s (up_s (up_s up_z))) (up_s (up_s up_z)) (by decide) (by exact ⟨trivial, trivial⟩) (by rfl) (by rfl) (by first | exact Or.inl rfl | exact Or.inr rfl) (by first | exact Or.inl rfl | exact Or.inr rfl) (ex_list (ax_consA ex_int ax_nilA)) (ex_list (c := cI) ax_nilA) (by rfl) (by rfl) (by rfl)
  case g129 =>
    refine' bx_cons (G1 := [sVal (cL (cL (cT (aCons cI (aOne (cO cI)))))), sAny, sOwn PAny (oL cI), sOwn PAny (oL cI), sAny, sAny, sAny]) ?g126 ?g127
    case g126 =>
      refine' sx_for (G1 := [sVal (cL (cL (cT (aCons cI (aOne (cO cI)))))), sVal cI, sOwn PAny (oL cI), sOwn PAny (oL cI), sAny, sAny, sAny]) (G2 := [sVal (cL (cL (cT (aCons cI (aOne (cO cI)))))), sVal cI, sOwn PAny (oL cI), sOwn PAny (oL cI), sAny, sAny, sAny]) (ix_r1 (by rfl) (by exact M_range) (ex_callB ct_lenL (by rfl) (by exact M_len) (by decide +kernel) (ax_one (ex_var at_z (by rfl) (by first | exact Or.inl rfl | exact Or.inr (Or.inl rfl) | exact Or.inr (Or.inr rfl)))))) (gx_name (up_s up_z) (by rfl) (by first | exact Or.inl rfl | exact Or.inr rfl) (by exact trivial) (by first | exact Or.inl rfl | exact Or.inr rfl)) ?g124 (sc_same (sc_any sc_id))
      case g124 =>
        refine' bx_one ?_
        refine' sx_if (G' := [sVal (cL (cL (cT (aCons cI (aOne (cO cI)))))), sVal cI, sOwn PAny (oL cI), sOwn PAny (oL cI), sAny, sAny, sAny]) (tx_cmp ot_lt (ex_var (at_s at_z) (by rfl) (by first | exact Or.inl rfl | exact Or.inr (Or.inl rfl) | exact Or.inr (Or.inr rfl))) (ex_lend (S := [2]) (T := []) (ln_val (ln_val (ln_own frz_l (by decide) (ln_hold (ho_l hd_i) (by decide) (by decide) (ln_any (ln_any (ln_any ln_nil))))))) (rh_v hd_i) (ex_callB ct_lenL (by rfl) (by exact M_len) (by decide +kernel) (ax_one (ex_var (at_s (at_s at_z)) (by rfl) (by first | exact Or.inl rfl | exact Or.inr (Or.inl rfl) | exact Or.inr (Or.inr rfl)))))) (by rfl)) ?g122 ?g123
        case g122 =>
          refine' bx_cons (G1 := [sVal (cL (cL (cT (aCons cI (aOne (cO cI)))))), sVal cI, sOwn PAny (oL cI), sOwn PAny (oL cI), sAny, sAny, sAny]) ?g120 ?g121
          case g120 =>
            refine' sx_for (G1 := [sVal (cL (cL (cT (aCons cI (aOne (cO cI)))))), sVal cI, sOwn PAny (oL cI), sOwn PAny (oL cI), sAny, sVal cI, sVal (cO cI)]) (G2 := [sVal (cL (cL (cT (aCons cI (aOne (cO cI)))))), sVal cI, sOwn PAny (oL cI), sOwn PAny (oL cI), sAny, sVal cI, sVal (cO cI)]) (ix_l (ex_ixL (ex_var at_z (by rfl) (by first | exact Or.inl rfl | exact Or.inr (Or.inl rfl) | exact Or.inr (Or.inr rfl))) (ex_lend (S := [2]) (T := []) (ln_val (ln_val (ln_own frz_l (by decide) (ln_hold (ho_l hd_i) (by decide) (by decide) (ln_any (ln_any (ln_any ln_nil))))))) (rh_v hd_i) (ex_ixL (ex_var (at_s (at_s at_z)) (by rfl) (by first | exact Or.inl rfl | exact Or.inr (Or.inl rfl) | exact Or.inr (Or.inr rfl))) (ex_var (at_s at_z) (by rfl) (by first | exact Or.inl rfl | exact Or.inr (Or.inl rfl) | exact Or.inr (Or.inr rfl))) (by intro _ _; rfl))) (by intro _ _; rfl))) (gx_tup (gxs_cons (gx_name (up_s (up_s (up_s (up_s (up_s up_z))))) (by rfl) (by first | exact Or.inl rfl | exact Or.inr rfl) (by exact trivial) (by first | exact Or.inl rfl | exact Or.inr rfl)) (gxs_one (gx_name (up_s (up_s (up_s (up_s (up_s (up_s up_z)))))) (by rfl) (by first | exact Or.inl rfl | exact Or.inr rfl) (by exact trivial) (by first | exact Or.inl rfl | exact Or.inr rfl))))) ?g119 (sc_same (sc_same (sc_same (sc_same (sc_same (sc_any (sc_any sc_id)))))))
            case g119 =>
              refine' bx_one ?_
              refine' sx_if (G' := [sVal (cL (cL (cT (aCons cI (aOne (cO cI)))))), sVal cI, sOwn PAny (oL cI), sOwn PAny (oL cI), sAny, sVal cI, sVal (cO cI)]) (tx_lend (S := [2]) (T := []) (ln_val (ln_val (ln_own frz_l (by decide) (ln_hold (ho_l hd_i) (by decide) (by decide) (ln_any (ln_val (ln_val ln_nil))))))) (tx_cmp (ot_notInLF fq_i) (ex_var (at_s (at_s (at_s (at_s (at_s at_z))))) (by rfl) (by first | exact Or.inl rfl | exact Or.inr (Or.inl rfl) | exact Or.inr (Or.inr rfl))) (ex_var (at_s (at_s at_z)) (by rfl) (by first | exact Or.inl rfl | exact Or.inr (Or.inl rfl) | exact Or.inr (Or.inr rfl))) (by rfl))) ?g117 ?g118
              case g117 =>
                refine' bx_one ?_
                exact sx_expr (ex_ownM mt_app PySem.F.slot_list_append (by rfl) (at_s (at_s at_z)) (md_s (md_s md_z)) (by rfl) (by first | exact Or.inl rfl | exact Or.inr (Or.inl rfl) | exact Or.inr (Or.inr rfl)) (ax_one (ex_var (at_s (at_s (at_s (at_s (at_s at_z))))) (by rfl) (by first | exact Or.inl rfl | exact Or.inr (Or.inl rfl) | exact Or.inr (Or.inr rfl)))))
              case g118 =>
                exact bx_nil
          case g121 =>
            refine' bx_one ?_
            exact sx_expr (ex_ownM mt_app PySem.F.slot_list_append (by rfl) (at_s (at_s (at_s at_z))) (md_s (md_s (md_s md_z))) (by rfl) (by first | exact Or.inl rfl | exact Or.inr (Or.inl rfl) | exact Or.inr (Or.inr rfl)) (ax_one (ex_lend (S := [2]) (T := []) (ln_val (ln_val (ln_own frz_l (by decide) (ln_hold (ho_l hd_i) (by decide) (by decide) (ln_any (ln_any (ln_any ln_nil))))))) (rh_v hd_i) (ex_ixL (ex_var (at_s (at_s at_z)) (by rfl) (by first | exact Or.inl rfl | exact Or.inr (Or.inl rfl) | exact Or.inr (Or.inr rfl))) (ex_var (at_s at_z) (by rfl) (by first | exact Or.inl rfl | exact Or.inr (Or.inl rfl) | exact Or.inr (Or.inr rfl))) (by intro _ _; rfl)))))
        case g123 =>
          exact bx_nil
    case g127 =>
      refine' bx_sub (G1 := [sVal (cL (cL (cT (aCons cI (aOne (cO cI)))))), sAny, sOwn PAny (oL cI), sVal (cL cI), sAny, sAny, sAny]) (sc_same (sc_same (sc_same (sc_frz frz_l sc_id)))) ?g125
      case g125 =>
        refine' bx_one ?_
        exact sx_ret (ex_frz frz_l (ex_lc (own := [("state", 4)]) (ix_l (ex_var (at_s (at_s (at_s at_z))) (by rfl) (by first | exact Or.inl rfl | exact Or.inr (Or.inl rfl) | exact Or.inr (Or.inr rfl)))) (blkOk_by (by rfl)) (wc_keep (by decide) (wc_keep (by decide) (wc_keep (by decide) (wc_keep (by decide) (wc_any (wc_keep (by decide) (wc_keep (by decide) wc_nil))))))) (fun _ _ _ _ _ => (gx_name (up_s (up_s (up_s (up_s up_z)))) (by rfl) (by first | exact Or.inl rfl | exact Or.inr rfl) (by show (4 : Nat) ∈ [4]; decide) (by first | exact Or.inl rfl | exact Or.inr rfl))) (fun _ _ _ _ _ => (ex_frz frz_l (ex_lc (own := [("goal", 5), ("told", 6)]) (ix_l (ex_ixL (ex_var at_z (by rfl) (by first | exact Or.inl rfl | exact Or.inr (Or.inl rfl) | exact Or.inr (Or.inr rfl))) (ex_var (at_s (at_s (at_s (at_s at_z)))) (by rfl) (by first | exact Or.inl rfl | exact Or.inr (Or.inl rfl) | exact Or.inr (Or.inr rfl))) (by intro _ _; rfl))) (blkOk_by (by rfl)) (wc_keep (by decide) (wc_keep (by decide) (wc_keep (by decide) (wc_keep (by decide) (wc_keep (by decide) (wc_any (wc_any wc_nil))))))) (fun _ _ _ _ _ => (gx_tup (gxs_cons (gx_name (up_s (up_s (up_s (up_s (up_s up_z))))) (by rfl) (by first | exact Or.inl rfl | exact Or.inr rfl) (by show (5 : Nat) ∈ [5, 6]; decide) (by first | exact Or.inl rfl | exact Or.inr rfl)) (gxs_one (gx_name (up_s (up_s (up_s (up_s (up_s (up_s up_z)))))) (by rfl) (by first | exact Or.inl rfl | exact Or.inr rfl) (by show (6 : Nat) ∈ [5, 6]; decide) (by first | exact Or.inl rfl | exact Or.inr rfl)))))) (fun _ _ _ _ _ => (ex_tup (ax_cons (ex_lend (S := [2]) (T := []) (ln_val (ln_any (ln_own frz_l (by decide) (ln_val (ln_val (ln_val (ln_val ln_nil))))))) (rh_v hd_i) (ex_mv (mv_index dc_i dc_i (by decide) (by decide)) PySem.F.plainAttrs_list PySem.F.slot_list_index (by rfl) (ex_var (at_s (at_s at_z)) (by rfl) (by first | exact Or.inl rfl | exact Or.inr (Or.inl rfl) | exact Or.inr (Or.inr rfl))) (ax_one (ex_var (at_s (at_s (at_s (at_s (at_s at_z))))) (by rfl) (by first | exact Or.inl rfl | exact Or.inr (Or.inl rfl) | exact Or.inr (Or.inr rfl)))))) (ax_one (ex_var (at_s (at_s (at_s (at_s (at_s (at_s at_z)))))) (by rfl) (by first | exact Or.inl rfl | exact Or.inr (Or.inl rfl) | exact Or.inr (Or.inr rfl))))))) (wc_keep (by decide) (wc_keep (by decide) (wc_keep (by decide) (wc_keep (by decide) (wc_keep (by decide) (wc_val (wc_val wc_nil)))))))))) (wc_keep (by decide) (wc_keep (by decide) (wc_keep (by decide) (wc_keep (by decide) (wc_val (wc_keep (by decide) (wc_keep (by decide) wc_nil)))))))))⟩
def F__law_reached (y : (List (List (Int × (Option Int))))) : Res (List (List (Int × (Option Int)))) := Res.bind ((fb__law_reached ).1 (y, ((), ((), ((), ((), ((), ((), ())))))))) endV

theorem ok__law_reached {P : Program} {w : World} {K : Frag} {mg : Str → Option Value} {base : Heap} {ca : Str → Addr} {fa : Addr} {fd : FuncData} (F0 : FunD K "_law_reached" "_law_reached" (defArgs s__law_reached) (defBody s__law_reached) (defScope s__law_reached) [] [] fa fd) (M_range : mg "range" = none) (M_len : mg "len" = none) (hm : mg "_law_reached" = some (.ref fa)) : DefG P w K mg base 1 "_law_reached" ["table_here"] (spP K ca (aOne (cL (cL (cT (aCons cI (aOne (cO cI))))))) (rV (cL (cL (cT (aCons cI (aOne (cO cI))))))) F__law_reached) :=
  ⟨fa, fd, fn_P (as := (aOne (cL (cL (cT (aCons cI (aOne (cO cI)))))))) (G0 := [sVal (cL (cL (cT (aCons cI (aOne (cO cI)))))), sAny, sAny, sAny, sAny, sAny, sAny]) (ini := (fun y => (y, ((), ((), ((), ((), ((), ((), ()))))))))) (fb := (fb__law_reached ).1) F0 sc__law_reached (by rfl) (fun L H vs y wf h => by obtain ⟨v1, rfl, h1⟩ := h; exact ⟨⟨v1, rfl, h1⟩, trivial, trivial, trivial, trivial, trivial, trivial, Nat.le_of_ble_eq_true (by rfl)⟩) (fun nd cd A outer s H E hr hgd => (fb__law_reached ).2 M_range M_len fa nd cd A outer s H E hr hgd) (fun y => rfl), hm, F0.kp, (F0.bindsN (ps := ["table_here"]) fun _ _ _ _ _ _ us hl => match us, hl with | [_], _ => rfl), (kw_binds (ps := ["table_here"]) F0 fun _ _ _ _ _ _ us hl => match us, hl with | [_], _ => rfl)⟩

/-! _law_plan -/
abbrev s__law_plan : Stmt := top 24
abbrev N__law_plan : List Str := ["well", "states_most", "calls_most", "columns", "table_here", "count", "many", "turn", "state", "column"]
theorem sc__law_plan : FnScope N__law_plan ["well", "states_most", "calls_most"] (defScope s__law_plan) := ⟨rfl, rfl, rfl, by decide +kernel, rfl, by decide +kernel, by decide +kernel⟩
def fb__law_plan : {fb : (v0 : V) → CT [sOwn (fun v => v = v0) (oL cI), sVal cI, sVal cI, sAny, sAny, sAny, sAny, sAny, sAny, sAny] → Res (Out (CT [sOwn (fun v => v = v0) (oL cI), sVal cI, sVal cI, sAny, sAny, sAny, sAny, sAny, sAny, sAny]) (((List Str) × (List (List (Int × (Option Int))))) × (List Int))) // ∀ {P : Program} {w : World} {K : Frag} {mg : Str → Option Value} {base : Heap} {ca : Str → Addr} (D__law_dip : DefG P w K mg base 1 "_law_dip" ["well", "span"] (spI K ca (oL cI) (aOne cI) (rV cI) F__law_dip)) (M_range : mg "range" = none) (D__law_column : DefG P w K mg base 2 "_law_column" ["well", "count"] (spI K ca (oL cI) (aOne cI) (rV (cL (cT (aCons cI (aOne (cO cI)))))) F__law_column)) (D__law_words : DefG P w K mg base 2 "_law_words" ["well", "count"] (spI K ca (oL cI) (aOne cI) (rV (cL cS)) F__law_words)) (D__law_reached : DefG P w K mg base 1 "_law_reached" ["table_here"] (spP K ca (aOne (cL (cL (cT (aCons cI (aOne (cO cI))))))) (rV (cL (cL (cT (aCons cI (aOne (cO cI))))))) F__law_reached)) (f : Addr) (v0 : V) (nd : N__law_plan.Nodup) cd A outer s H E hr hgd, BX (ambOf P w K mg base ca N__law_plan nd 2 "_law_plan" (defScope s__law_plan) f cd A outer s H E hr hgd) [sOwn (fun v => v = v0) (oL cI), sVal cI, sVal cI, sAny, sAny, sAny, sAny, sAny, sAny, sAny] (defBody s__law_plan) [sOwn (fun v => v = v0) (oL cI), sVal cI, sVal cI, sAny, sAny, sAny, sAny, sAny, sAny, sAny] (rrI (rV (cT (aCons (cL cS) (aOne (cL (cL (cT (aCons cI (aOne (cO cI)))))))))) (oL cI) v0) (fb v0)} := ⟨_, by
  intro P w K mg base ca D__law_dip M_range D__law_column D__law_words D__law_reached f v0 nd cd A outer s H E hr hgd
  refine' bx_cons (G1 := [sOwn (fun v => v = v0) (oL cI), sVal cI, sVal cI, sAny, sAny, sVal cI, sVal cI, sAny, sAny, sAny]) ?g135 ?g136
  case g135 =>
    first | exact sx_par st_v st_v (up_s (up_s (up_s (up_s (up_s (up_s up_z)))))) (up_s (up_s (up_s (up_s (up_s up_z))))) (by decide) (by exact ⟨trivial, trivial⟩) (by rfl) (by rfl) (by rfl) (by rfl) (ex_op ot_add ex_int (ex_calI at_z md_z D__law_dip (Nat.le_of_ble_eq_true (by rfl)) (by rfl) rtvI (by rfl) (by first | exact Or.inl rfl | exact Or.inr (Or.inl rfl) | exact Or.inr (Or.inr rfl)) (ax_one (ex_var (at_s at_z) (by rfl) (by first | exact Or.inl rfl | exact Or.inr (Or.inl rfl) | exact Or.inr (Or.inr rfl)))))) (ex_op ot_add ex_int (ex_calI at_z md_z D__law_dip (Nat.le_of_ble_eq_true (by rfl)) (by rfl) rtvI (by rfl) (by first | exact Or.inl rfl | exact Or.inr (Or.inl rfl) | exact Or.inr (Or.inr rfl)) (ax_one (ex_var (at_s (at_s at_z)) (by rfl) (by first | exact Or.inl rfl | exact Or.inr (Or.inl rfl) | exact Or.inr (Or.inr rfl)))))) (by rfl) | exact sx_parC st_v st_v (up_s (up_s (up_s (up_s (up_s (up_s up_z)))))) (up_s (up_s (up_s (up_s (up_s up_z))))) (by decide) (by exact ⟨trivial, trivial⟩) (by rfl) (by rfl) (by first | exact Or.inl rfl | exact Or.inr rfl) (by first | exact Or.inl rfl | exact Or.inr rfl) (ex_op ot_add ex_int (ex_calI at_z md_z D__law_dip (Nat.le_of_ble_eq_true (by rfl)) (by rfl) rtvI (by rfl) (by first | exact Or.inl rfl | exact Or.inr (Or.inl rfl) | exact Or.inr (Or.inr rfl)) (ax_one (ex_var (at_s at_z) (by rfl) (by first | exact Or.inl rfl | exact Or.inr (Or.inl rfl) | exact Or.inr (Or.inr rfl)))))) (ex_op ot_add ex_int (ex_calI at_z md_z D__law_dip (Nat.le_of_ble_eq_true (by rfl)) (by rfl) rtvI (by rfl) (by first | exact Or.inl rfl | exact Or.inr (Or.inl rfl) | exact Or.inr (Or.inr rfl)) (ax_one (ex_var (at_s (at_s at_z)) (by rfl) (by first | exact Or.inl rfl | exact Or.inr (Or.inl rfl) | exact Or.inr (Or.inr rfl)))))) (by rfl) (by rfl) (by rfl)
  case g136 =>
    refine' bx_cons (G1 := [sOwn (fun v => v = v0) (oL cI), sVal cI, sVal cI, sOwn PAny (oL (cL (cT (aCons cI (aOne (cO cI)))))), sAny, sVal cI, sVal cI, sAny, sAny, sAny]) ?g133 ?g134
    case g133 =>
      first | exact sx_setLc (own := [("turn", 7)]) (up_s (up_s (up_s up_z))) (by rfl) (by rfl) (by exact trivial) (ix_r1 (by rfl) (by exact M_range) (ex_var (at_s (at_s (at_s (at_s (at_s (at_s at_z)))))) (by rfl) (by first | exact Or.inl rfl | exact Or.inr (Or.inl rfl) | exact Or.inr (Or.inr rfl)))) (blkOk_by (by rfl)) (wc_keep (by decide) (wc_keep (by decide) (wc_keep (by decide) (wc_keep (by decide) (wc_keep (by decide) (wc_keep (by decide) (wc_keep (by decide) (wc_any (wc_keep (by decide) (wc_keep (by decide) wc_nil)))))))))) (fun _ _ _ _ _ => (gx_name (up_s (up_s (up_s (up_s (up_s (up_s (up_s up_z))))))) (by rfl) (by first | exact Or.inl rfl | exact Or.inr rfl) (by show (7 : Nat) ∈ [7]; decide) (by first | exact Or.inl rfl | exact Or.inr rfl))) (fun _ _ _ _ _ => (ex_calI at_z md_z D__law_column (Nat.le_of_ble_eq_true (by rfl)) (by rfl) rtvI (by rfl) (by first | exact Or.inl rfl | exact Or.inr (Or.inl rfl) | exact Or.inr (Or.inr rfl)) (ax_one (ex_var (at_s (at_s (at_s (at_s (at_s at_z))))) (by rfl) (by first | exact Or.inl rfl | exact Or.inr (Or.inl rfl) | exact Or.inr (Or.inr rfl)))))) (wc_keep (by decide) (wc_keep (by decide) (wc_keep (by decide) (wc_keep (by decide) (wc_keep (by decide) (wc_keep (by decide) (wc_keep (by decide) (wc_val (wc_keep (by decide) (wc_keep (by decide) wc_nil)))))))))) (by rfl) | exact sx_setO (up_s (up_s (up_s up_z))) (by rfl) (by first | exact Or.inl rfl | exact Or.inr rfl) (ex_lc (own := [("turn", 7)]) (ix_r1 (by rfl) (by exact M_range) (ex_var (at_s (at_s (at_s (at_s (at_s (at_s at_z)))))) (by rfl) (by first | exact Or.inl rfl | exact Or.inr (Or.inl rfl) | exact Or.inr (Or.inr rfl)))) (blkOk_by (by rfl)) (wc_keep (by decide) (wc_keep (by decide) (wc_keep (by decide) (wc_keep (by decide) (wc_keep (by decide) (wc_keep (by decide) (wc_keep (by decide) (wc_any (wc_keep (by decide) (wc_keep (by decide) wc_nil)))))))))) (fun _ _ _ _ _ => (gx_name (up_s (up_s (up_s (up_s (up_s (up_s (up_s up_z))))))) (by rfl) (by first | exact Or.inl rfl | exact Or.inr rfl) (by show (7 : Nat) ∈ [7]; decide) (by first | exact Or.inl rfl | exact Or.inr rfl))) (fun _ _ _ _ _ => (ex_calI at_z md_z D__law_column (Nat.le_of_ble_eq_true (by rfl)) (by rfl) rtvI (by rfl) (by first | exact Or.inl rfl | exact Or.inr (Or.inl rfl) | exact Or.inr (Or.inr rfl)) (ax_one (ex_var (at_s (at_s (at_s (at_s (at_s at_z))))) (by rfl) (by first | exact Or.inl rfl | exact Or.inr (Or.inl rfl) | exact Or.inr (Or.inr rfl)))))) (wc_keep (by decide) (wc_keep (by decide) (wc_keep (by decide) (wc_keep (by decide) (wc_keep (by decide) (wc_keep (by decide) (wc_keep (by decide) (wc_val (wc_keep (by decide) (wc_keep (by decide) wc_nil))))))))))) (by exact trivial) (by rfl) (by first | exact Or.inl rfl | exact Or.inr rfl)
    case g134 =>
      refine' bx_cons (G1 := [sOwn (fun v => v = v0) (oL cI), sVal cI, sVal cI, sOwn PAny (oL (cL (cT (aCons cI (aOne (cO cI)))))), sOwn PAny (oL (cL (cT (aCons cI (aOne (cO cI)))))), sVal cI, sVal cI, sAny, sAny, sAny]) ?g131 ?g132
      case g131 =>
        first | exact sx_setLc (own := [("state", 8)]) (up_s (up_s (up_s (up_s up_z)))) (by rfl) (by rfl) (by exact trivial) (ix_r1 (by rfl) (by exact M_range) (ex_var (at_s (at_s (at_s (at_s (at_s at_z))))) (by rfl) (by first | exact Or.inl rfl | exact Or.inr (Or.inl rfl) | exact Or.inr (Or.inr rfl)))) (blkOk_by (by rfl)) (wc_keep (by decide) (wc_keep (by decide) (wc_keep (by decide) (wc_keep (by decide) (wc_keep (by decide) (wc_keep (by decide) (wc_keep (by decide) (wc_keep (by decide) (wc_any (wc_keep (by decide) wc_nil)))))))))) (fun _ _ _ _ _ => (gx_name (up_s (up_s (up_s (up_s (up_s (up_s (up_s (up_s up_z)))))))) (by rfl) (by first | exact Or.inl rfl | exact Or.inr rfl) (by show (8 : Nat) ∈ [8]; decide) (by first | exact Or.inl rfl | exact Or.inr rfl))) (fun _ _ _ _ _ => (ex_frz frz_l (ex_lend (S := [3]) (T := []) (ln_hold (ho_l hd_i) (by decide) (by decide) (ln_val (ln_val (ln_own frz_l (by decide) (ln_any (ln_val (ln_val (ln_any (ln_val (ln_any ln_nil)))))))))) (rh_o (ho_l (hd_t (ha_cons hd_i (ha_one (hd_o hd_i)))))) (ex_lc (own := [("column", 9)]) (ix_l (ex_var (at_s (at_s (at_s at_z))) (by rfl) (by first | exact Or.inl rfl | exact Or.inr (Or.inl rfl) | exact Or.inr (Or.inr rfl)))) (blkOk_by (by rfl)) (wc_keep (by decide) (wc_keep (by decide) (wc_keep (by decide) (wc_keep (by decide) (wc_keep (by decide) (wc_keep (by decide) (wc_keep (by decide) (wc_keep (by decide) (wc_keep (by decide) (wc_any wc_nil)))))))))) (fun _ _ _ _ _ => (gx_name (up_s (up_s (up_s (up_s (up_s (up_s (up_s (up_s (up_s up_z))))))))) (by rfl) (by first | exact Or.inl rfl | exact Or.inr rfl) (by show (9 : Nat) ∈ [9]; decide) (by first | exact Or.inl rfl | exact Or.inr rfl))) (fun _ _ _ _ _ => (ex_ixL (ex_var (at_s (at_s (at_s (at_s (at_s (at_s (at_s (at_s (at_s at_z))))))))) (by rfl) (by first | exact Or.inl rfl | exact Or.inr (Or.inl rfl) | exact Or.inr (Or.inr rfl))) (ex_var (at_s (at_s (at_s (at_s (at_s (at_s (at_s (at_s at_z)))))))) (by rfl) (by first | exact Or.inl rfl | exact Or.inr (Or.inl rfl) | exact Or.inr (Or.inr rfl))) (by intro _ _; rfl))) (wc_keep (by decide) (wc_keep (by decide) (wc_keep (by decide) (wc_keep (by decide) (wc_keep (by decide) (wc_keep (by decide) (wc_keep (by decide) (wc_keep (by decide) (wc_keep (by decide) (wc_val wc_nil)))))))))))))) (wc_keep (by decide) (wc_keep (by decide) (wc_keep (by decide) (wc_keep (by decide) (wc_keep (by decide) (wc_keep (by decide) (wc_keep (by decide) (wc_keep (by decide) (wc_val (wc_keep (by decide) wc_nil)))))))))) (by rfl) | exact sx_setO (up_s (up_s (up_s (up_s up_z)))) (by rfl) (by first | exact Or.inl rfl | exact Or.inr rfl) (ex_lc (own := [("state", 8)]) (ix_r1 (by rfl) (by exact M_range) (ex_var (at_s (at_s (at_s (at_s (at_s at_z))))) (by rfl) (by first | exact Or.inl rfl | exact Or.inr (Or.inl rfl) | exact Or.inr (Or.inr rfl)))) (blkOk_by (by rfl)) (wc_keep (by decide) (wc_keep (by decide) (wc_keep (by decide) (wc_keep (by decide) (wc_keep (by decide) (wc_keep (by decide) (wc_keep (by decide) (wc_keep (by decide) (wc_any (wc_keep (by decide) wc_nil)))))))))) (fun _ _ _ _ _ => (gx_name (up_s (up_s (up_s (up_s (up_s (up_s (up_s (up_s up_z)))))))) (by rfl) (by first | exact Or.inl rfl | exact Or.inr rfl) (by show (8 : Nat) ∈ [8]; decide) (by first | exact Or.inl rfl | exact Or.inr rfl))) (fun _ _ _ _ _ => (ex_frz frz_l (ex_lend (S := [3]) (T := []) (ln_hold (ho_l hd_i) (by decide) (by decide) (ln_val (ln_val (ln_own frz_l (by decide) (ln_any (ln_val (ln_val (ln_any (ln_val (ln_any ln_nil)))))))))) (rh_o (ho_l (hd_t (ha_cons hd_i (ha_one (hd_o hd_i)))))) (ex_lc (own := [("column", 9)]) (ix_l (ex_var (at_s (at_s (at_s at_z))) (by rfl) (by first | exact Or.inl rfl | exact Or.inr (Or.inl rfl) | exact Or.inr (Or.inr rfl)))) (blkOk_by (by rfl)) (wc_keep (by decide) (wc_keep (by decide) (wc_keep (by decide) (wc_keep (by decide) (wc_keep (by decide) (wc_keep (by decide) (wc_keep (by decide) (wc_keep (by decide) (wc_keep (by decide) (wc_any wc_nil)))))))))) (fun _ _ _ _ _ => (gx_name (up_s (up_s (up_s (up_s (up_s (up_s (up_s (up_s (up_s up_z))))))))) (by rfl) (by first | exact Or.inl rfl | exact Or.inr rfl) (by show (9 : Nat) ∈ [9]; decide) (by first | exact Or.inl rfl | exact Or.inr rfl))) (fun _ _ _ _ _ => (ex_ixL (ex_var (at_s (at_s (at_s (at_s (at_s (at_s (at_s (at_s (at_s at_z))))))))) (by rfl) (by first | exact Or.inl rfl | exact Or.inr (Or.inl rfl) | exact Or.inr (Or.inr rfl))) (ex_var (at_s (at_s (at_s (at_s (at_s (at_s (at_s (at_s at_z)))))))) (by rfl) (by first | exact Or.inl rfl | exact Or.inr (Or.inl rfl) | exact Or.inr (Or.inr rfl))) (by intro _ _; rfl))) (wc_keep (by decide) (wc_keep (by decide) (wc_keep (by decide) (wc_keep (by decide) (wc_keep (by decide) (wc_keep (by decide) (wc_keep (by decide) (wc_keep (by decide) (wc_keep (by decide) (wc_val wc_nil)))))))))))))) (wc_keep (by decide) (wc_keep (by decide) (wc_keep (by decide) (wc_keep (by decide) (wc_keep (by decide) (wc_keep (by decide) (wc_keep (by decide) (wc_keep (by decide) (wc_val (wc_keep (by decide) wc_nil))))))))))) (by exact trivial) (by rfl) (by first | exact Or.inl rfl | exact Or.inr rfl)
      case g132 =>
        refine' bx_sub (G1 := [sOwn (fun v => v = v0) (oL cI), sVal cI, sVal cI, sOwn PAny (oL (cL (cT (aCons cI (aOne (cO cI)))))), sVal (cL (cL (cT (aCons cI (aOne (cO cI)))))), sVal cI, sVal cI, sAny, sAny, sAny]) (sc_same (sc_same (sc_same (sc_same (sc_frz frz_l sc_id))))) ?g130
        case g130 =>
          refine' bx_one ?_
          exact sx_retI at_z (ex_tup (ax_cons (ex_calI at_z md_z D__law_words (Nat.le_of_ble_eq_true (by rfl)) (by rfl) rtvI (by rfl) (by first | exact Or.inl rfl | exact Or.inr (Or.inl rfl) | exact Or.inr (Or.inr rfl)) (ax_one (ex_var (at_s (at_s (at_s (at_s (at_s (at_s at_z)))))) (by rfl) (by first | exact Or.inl rfl | exact Or.inr (Or.inl rfl) | exact Or.inr (Or.inr rfl))))) (ax_one (ex_cal D__law_reached (Nat.le_of_ble_eq_true (by rfl)) (by rfl) rtv (ax_one (ex_var (at_s (at_s (at_s (at_s at_z)))) (by rfl) (by first | exact Or.inl rfl | exact Or.inr (Or.inl rfl) | exact Or.inr (Or.inr rfl))))))))⟩
def F__law_plan (k : (List Int)) (y : Int × Int) : Res (((List Str) × (List (List (Int × (Option Int))))) × (List Int)) := Res.bind ((fb__law_plan ).1 .non (k, (y.1, (y.2, ((), ((), ((), ((), ((), ((), ((), ()))))))))))) endV

theorem ok__law_plan {P : Program} {w : World} {K : Frag} {mg : Str → Option Value} {base : Heap} {ca : Str → Addr} {fa : Addr} {fd : FuncData} (F0 : FunD K "_law_plan" "_law_plan" (defArgs s__law_plan) (defBody s__law_plan) (defScope s__law_plan) [] [] fa fd) (D__law_dip : DefG P w K mg base 1 "_law_dip" ["well", "span"] (spI K ca (oL cI) (aOne cI) (rV cI) F__law_dip)) (M_range : mg "range" = none) (D__law_column : DefG P w K mg base 2 "_law_column" ["well", "count"] (spI K ca (oL cI) (aOne cI) (rV (cL (cT (aCons cI (aOne (cO cI)))))) F__law_column)) (D__law_words : DefG P w K mg base 2 "_law_words" ["well", "count"] (spI K ca (oL cI) (aOne cI) (rV (cL cS)) F__law_words)) (D__law_reached : DefG P w K mg base 1 "_law_reached" ["table_here"] (spP K ca (aOne (cL (cL (cT (aCons cI (aOne (cO cI))))))) (rV (cL (cL (cT (aCons cI (aOne (cO cI))))))) F__law_reached)) (hm : mg "_law_plan" = some (.ref fa)) : DefG P w K mg base 3 "_law_plan" ["well", "states_most", "calls_most"] (spI K ca (oL cI) (aCons cI (aOne cI)) (rV (cT (aCons (cL cS) (aOne (cL (cL (cT (aCons cI (aOne (cO cI)))))))))) F__law_plan) :=
  ⟨fa, fd, fn_I (as := (aCons cI (aOne cI))) (G1 := [sVal cI, sVal cI, sAny, sAny, sAny, sAny, sAny, sAny, sAny]) (G' := fun v0 => [sOwn (fun v => v = v0) (oL cI), sVal cI, sVal cI, sAny, sAny, sAny, sAny, sAny, sAny, sAny]) (κ := (List Int)) (β := ((List Str) × (List (List (Int × (Option Int)))))) (oc := (oL cI)) (r := (rV (cT (aCons (cL cS) (aOne (cL (cL (cT (aCons cI (aOne (cO cI))))))))))) (ini := (fun y => (y.1, (y.2, ((), ((), ((), ((), ((), ((), ((), ()))))))))))) (fb := (fb__law_plan ).1) F0 sc__law_plan (by rfl) (fun L H v0 ws y wf h => by obtain ⟨v1, _, rfl, h1, v2, rfl, h2⟩ := h; exact ⟨⟨v1, rfl, h1⟩, ⟨v2, rfl, h2⟩, trivial, trivial, trivial, trivial, trivial, trivial, trivial, Nat.le_of_ble_eq_true (by rfl)⟩) (fun v0 nd cd A outer s H E hr hgd => (fb__law_plan ).2 D__law_dip M_range D__law_column D__law_words D__law_reached fa v0 nd cd A outer s H E hr hgd) (fun v0 k y => rfl), hm, F0.kp, (F0.bindsN (ps := ["well", "states_most", "calls_most"]) fun _ _ _ _ _ _ us hl => match us, hl with | [_, _, _], _ => rfl), (kw_binds (ps := ["well", "states_most", "calls_most"]) F0 fun _ _ _ _ _ _ us hl => match us, hl with | [_, _, _], _ => rfl)⟩

/-! _law_done -/
abbrev s__law_done : Stmt := top 25
abbrev N__law_done : List Str := ["plan", "row_here", "state", "found", "label", "told"]
theorem sc__law_done : FnScope N__law_done ["plan", "row_here", "state"] (defScope s__law_done) := ⟨rfl, rfl, rfl, by decide +kernel, rfl, by decide +kernel, by decide +kernel⟩
def fb__law_done : {fb : CT [sVal (cT (aCons (cL cS) (aOne (cL (cL (cT (aCons cI (aOne (cO cI))))))))), sVal (cL cS), sVal cI, sAny, sAny, sAny] → Res (Out (CT [sVal (cT (aCons (cL cS) (aOne (cL (cL (cT (aCons cI (aOne (cO cI))))))))), sVal (cL cS), sVal cI, sAny, sAny, sAny]) ((List (Option Int)) × Int)) // ∀ {P : Program} {w : World} {K : Frag} {mg : Str → Option Value} {base : Heap} {ca : Str → Addr}  (f : Addr) (nd : N__law_done.Nodup) cd A outer s H E hr hgd, BX (ambOf P w K mg base ca N__law_done nd 0 "_law_done" (defScope s__law_done) f cd A outer s H E hr hgd) [sVal (cT (aCons (cL cS) (aOne (cL (cL (cT (aCons cI (aOne (cO cI))))))))), sVal (cL cS), sVal cI, sAny, sAny, sAny] (defBody s__law_done) [sVal (cT (aCons (cL cS) (aOne (cL (cL (cT (aCons cI (aOne (cO cI))))))))), sVal (cL cS), sVal cI, sAny, sAny, sAny] (rrP (rV (cT (aCons (cL (cO cI)) (aOne cI))))) fb} := ⟨_, by
  intro P w K mg base ca  f nd cd A outer s H E hr hgd
  refine' bx_cons (G1 := [sVal (cT (aCons (cL cS) (aOne (cL (cL (cT (aCons cI (aOne (cO cI))))))))), sVal (cL cS), sVal cI, sOwn PAny (oL (cO cI)), sAny, sAny]) ?g143 ?g144
  case g143 =>
    exact sx_setO (up_s (up_s (up_s up_z))) (by rfl) (by first | exact Or.inl rfl | exact Or.inr rfl) (ex_list (c := (cO cI)) ax_nilA) (by exact trivial) (by rfl) (by first | exact Or.inl rfl | exact Or.inr rfl)
  case g144 =>
    refine' bx_cons (G1 := [sVal (cT (aCons (cL cS) (aOne (cL (cL (cT (aCons cI (aOne (cO cI))))))))), sVal (cL cS), sVal cI, sOwn PAny (oL (cO cI)), sAny, sAny]) ?g141 ?g142
    case g141 =>
      refine' sx_for (G1 := [sVal (cT (aCons (cL cS) (aOne (cL (cL (cT (aCons cI (aOne (cO cI))))))))), sVal (cL cS), sVal cI, sOwn PAny (oL (cO cI)), sVal cS, sAny]) (G2 := [sVal (cT (aCons (cL cS) (aOne (cL (cL (cT (aCons cI (aOne (cO cI))))))))), sVal (cL cS), sVal cI, sOwn PAny (oL (cO cI)), sVal cS, sVal (cO cI)]) (ix_l (ex_var (at_s at_z) (by rfl) (by first | exact Or.inl rfl | exact Or.inr (Or.inl rfl) | exact Or.inr (Or.inr rfl)))) (gx_name (up_s (up_s (up_s (up_s up_z)))) (by rfl) (by first | exact Or.inl rfl | exact Or.inr rfl) (by exact trivial) (by first | exact Or.inl rfl | exact Or.inr rfl)) ?g139 (sc_same (sc_same (sc_same (sc_same (sc_any (sc_any sc_id))))))
      case g139 =>
        refine' bx_cons (G1 := [sVal (cT (aCons (cL cS) (aOne (cL (cL (cT (aCons cI (aOne (cO cI))))))))), sVal (cL cS), sVal cI, sOwn PAny (oL (cO cI)), sVal cS, sVal (cO cI)]) ?g137 ?g138
        case g137 =>
          exact sx_asg (ex_ixL (ex_ixL (ex_pj (pj_s pj_one) (by rfl) (ex_var at_z (by rfl) (by first | exact Or.inl rfl | exact Or.inr (Or.inl rfl) | exact Or.inr (Or.inr rfl)))) (ex_var (at_s (at_s at_z)) (by rfl) (by first | exact Or.inl rfl | exact Or.inr (Or.inl rfl) | exact Or.inr (Or.inr rfl))) (by intro _ _; rfl)) (ex_mv (mv_index dc_s dc_s (by decide) (by decide)) PySem.F.plainAttrs_list PySem.F.slot_list_index (by rfl) (ex_pj pj_z (by rfl) (ex_var at_z (by rfl) (by first | exact Or.inl rfl | exact Or.inr (Or.inl rfl) | exact Or.inr (Or.inr rfl)))) (ax_one (ex_var (at_s (at_s (at_s (at_s at_z)))) (by rfl) (by first | exact Or.inl rfl | exact Or.inr (Or.inl rfl) | exact Or.inr (Or.inr rfl))))) (by intro _ _; rfl)) (gx_tup (gxs_cons (gx_name (up_s (up_s up_z)) (by rfl) (by first | exact Or.inl rfl | exact Or.inr rfl) (by exact trivial) (by first | exact Or.inl rfl | exact Or.inr rfl)) (gxs_one (gx_name (up_s (up_s (up_s (up_s (up_s up_z))))) (by rfl) (by first | exact Or.inl rfl | exact Or.inr rfl) (by exact trivial) (by first | exact Or.inl rfl | exact Or.inr rfl)))))
        case g138 =>
          refine' bx_one ?_
          exact sx_expr (ex_ownM mt_app PySem.F.slot_list_append (by rfl) (at_s (at_s (at_s at_z))) (md_s (md_s (md_s md_z))) (by rfl) (by first | exact Or.inl rfl | exact Or.inr (Or.inl rfl) | exact Or.inr (Or.inr rfl)) (ax_one (ex_var (at_s (at_s (at_s (at_s (at_s at_z))))) (by rfl) (by first | exact Or.inl rfl | exact Or.inr (Or.inl rfl) | exact Or.inr (Or.inr rfl)))))
    case g142 =>
      refine' bx_sub (G1 := [sVal (cT (aCons (cL cS) (aOne (cL (cL (cT (aCons cI (aOne (cO cI))))))))), sVal (cL cS), sVal cI, sVal (cL (cO cI)), sAny, sAny]) (sc_same (sc_same (sc_same (sc_frz frz_l sc_id)))) ?g140
      case g140 =>
        refine' bx_one ?_
        exact sx_ret (ex_tup (ax_cons (ex_var (at_s (at_s (at_s at_z))) (by rfl) (by first | exact Or.inl rfl | exact Or.inr (Or.inl rfl) | exact Or.inr (Or.inr rfl))) (ax_one (ex_var (at_s (at_s at_z)) (by rfl) (by first | exact Or.inl rfl | exact Or.inr (Or.inl rfl) | exact Or.inr (Or.inr rfl))))))⟩
def F__law_done (y : ((List Str) × (List (List (Int × (Option Int))))) × (List Str) × Int) : Res ((List (Option Int)) × Int) := Res.bind ((fb__law_done ).1 (y.1, (y.2.1, (y.2.2, ((), ((), ((), ()))))))) endV

theorem ok__law_done {P : Program} {w : World} {K : Frag} {mg : Str → Option Value} {base : Heap} {ca : Str → Addr} {fa : Addr} {fd : FuncData} (F0 : FunD K "_law_done" "_law_done" (defArgs s__law_done) (defBody s__law_done) (defScope s__law_done) [] [] fa fd)  (hm : mg "_law_done" = some (.ref fa)) : DefG P w K mg base 1 "_law_done" ["plan", "row_here", "state"] (spP K ca (aCons (cT (aCons (cL cS) (aOne (cL (cL (cT (aCons cI (aOne (cO cI))))))))) (aCons (cL cS) (aOne cI))) (rV (cT (aCons (cL (cO cI)) (aOne cI)))) F__law_done) :=
  ⟨fa, fd, fn_P (as := (aCons (cT (aCons (cL cS) (aOne (cL (cL (cT (aCons cI (aOne (cO cI))))))))) (aCons (cL cS) (aOne cI)))) (G0 := [sVal (cT (aCons (cL cS) (aOne (cL (cL (cT (aCons cI (aOne (cO cI))))))))), sVal (cL cS), sVal cI, sAny, sAny, sAny]) (ini := (fun y => (y.1, (y.2.1, (y.2.2, ((), ((), ((), ())))))))) (fb := (fb__law_done ).1) F0 sc__law_done (by rfl) (fun L H vs y wf h => by obtain ⟨v1, _, rfl, h1, v2, _, rfl, h2, v3, rfl, h3⟩ := h; exact ⟨⟨v1, rfl, h1⟩, ⟨v2, rfl, h2⟩, ⟨v3, rfl, h3⟩, trivial, trivial, trivial, Nat.le_of_ble_eq_true (by rfl)⟩) (fun nd cd A outer s H E hr hgd => (fb__law_done ).2  fa nd cd A outer s H E hr hgd) (fun y => rfl), hm, F0.kp, (F0.bindsN (ps := ["plan", "row_here", "state"]) fun _ _ _ _ _ _ us hl => match us, hl with | [_, _, _], _ => rfl), (kw_binds (ps := ["plan", "row_here", "state"]) F0 fun _ _ _ _ _ _ us hl => match us, hl with | [_, _, _], _ => rfl)⟩

/-! _law_more -/
abbrev s__law_more : Stmt := top 26
abbrev N__law_more : List Str := ["well", "plan", "count", "more", "label", "steps"]
theorem sc__law_more : FnScope N__law_more ["well", "plan"] (defScope s__law_more) := ⟨rfl, rfl, rfl, by decide +kernel, rfl, by decide +kernel, by decide +kernel⟩
def fb__law_more : {fb : (v0 : V) → CT [sOwn (fun v => v = v0) (oL cI), sVal (cT (aCons (cL cS) (aOne (cL (cL (cT (aCons cI (aOne (cO cI))))))))), sAny, sAny, sAny, sAny] → Res (Out (CT [sOwn (fun v => v = v0) (oL cI), sVal (cT (aCons (cL cS) (aOne (cL (cL (cT (aCons cI (aOne (cO cI))))))))), sAny, sAny, sAny, sAny]) ((List (List (Int × (Option Int)))) × (List Int))) // ∀ {P : Program} {w : World} {K : Frag} {mg : Str → Option Value} {base : Heap} {ca : Str → Addr} (M_len : mg "len" = none) (D__law_dip : DefG P w K mg base 1 "_law_dip" ["well", "span"] (spI K ca (oL cI) (aOne cI) (rV cI) F__law_dip)) (M_list : mg "list" = none) (f : Addr) (v0 : V) (nd : N__law_more.Nodup) cd A outer s H E hr hgd, BX (ambOf P w K mg base ca N__law_more nd 1 "_law_more" (defScope s__law_more) f cd A outer s H E hr hgd) [sOwn (fun v => v = v0) (oL cI), sVal (cT (aCons (cL cS) (aOne (cL (cL (cT (aCons cI (aOne (cO cI))))))))), sAny, sAny, sAny, sAny] (defBody s__law_more) [sOwn (fun v => v = v0) (oL cI), sVal (cT (aCons (cL cS) (aOne (cL (cL (cT (aCons cI (aOne (cO cI))))))))), sAny, sAny, sAny, sAny] (rrI (rV (cL (cL (cT (aCons cI (aOne (cO cI))))))) (oL cI) v0) (fb v0)} := ⟨_, by
  intro P w K mg base ca M_len D__law_dip M_list f v0 nd cd A outer s H E hr hgd
  refine' bx_cons (G1 := [sOwn (fun v => v = v0) (oL cI), sVal (cT (aCons (cL cS) (aOne (cL (cL (cT (aCons cI (aOne (cO cI))))))))), sVal cI, sAny, sAny, sAny]) ?g148 ?g149
  case g148 =>
    exact sx_set (up_s (up_s up_z)) (by rfl) (by first | exact Or.inl rfl | exact Or.inr rfl) (ex_callB ct_lenL (by rfl) (by exact M_len) (by decide +kernel) (ax_one (ex_pj (pj_s pj_one) (by rfl) (ex_var (at_s at_z) (by rfl) (by first | exact Or.inl rfl | exact Or.inr (Or.inl rfl) | exact Or.inr (Or.inr rfl)))))) (by exact trivial) (by rfl) (by first | exact Or.inl rfl | exact Or.inr rfl)
  case g149 =>
    refine' bx_cons (G1 := [sOwn (fun v => v = v0) (oL cI), sVal (cT (aCons (cL cS) (aOne (cL (cL (cT (aCons cI (aOne (cO cI))))))))), sVal cI, sOwn PAny (oL (cT (aCons cI (aOne (cO cI))))), sAny, sAny]) ?g146 ?g147
    case g146 =>
      first | exact sx_setLc (own := [("label", 4)]) (up_s (up_s (up_s up_z))) (by rfl) (by rfl) (by exact trivial) (ix_l (ex_pj pj_z (by rfl) (ex_var (at_s at_z) (by rfl) (by first | exact Or.inl rfl | exact Or.inr (Or.inl rfl) | exact Or.inr (Or.inr rfl))))) (blkOk_by (by rfl)) (wc_keep (by decide) (wc_keep (by decide) (wc_keep (by decide) (wc_keep (by decide) (wc_any (wc_keep (by decide) wc_nil)))))) (fun _ _ _ _ _ => (gx_name (up_s (up_s (up_s (up_s up_z)))) (by rfl) (by first | exact Or.inl rfl | exact Or.inr rfl) (by show (4 : Nat) ∈ [4]; decide) (by first | exact Or.inl rfl | exact Or.inr rfl))) (fun _ _ _ _ _ => (ex_tup (ax_cons (ex_calI at_z md_z D__law_dip (Nat.le_of_ble_eq_true (by rfl)) (by rfl) rtvI (by rfl) (by first | exact Or.inl rfl | exact Or.inr (Or.inl rfl) | exact Or.inr (Or.inr rfl)) (ax_one (ex_op ot_add (ex_var (at_s (at_s at_z)) (by rfl) (by first | exact Or.inl rfl | exact Or.inr (Or.inl rfl) | exact Or.inr (Or.inr rfl))) ex_int))) (ax_one (ex_sub sub_some (ex_calI at_z md_z D__law_dip (Nat.le_of_ble_eq_true (by rfl)) (by rfl) rtvI (by rfl) (by first | exact Or.inl rfl | exact Or.inr (Or.inl rfl) | exact Or.inr (Or.inr rfl)) (ax_one ex_int))))))) (wc_keep (by decide) (wc_keep (by decide) (wc_keep (by decide) (wc_keep (by decide) (wc_val (wc_keep (by decide) wc_nil)))))) (by rfl) | exact sx_setO (up_s (up_s (up_s up_z))) (by rfl) (by first | exact Or.inl rfl | exact Or.inr rfl) (ex_lc (own := [("label", 4)]) (ix_l (ex_pj pj_z (by rfl) (ex_var (at_s at_z) (by rfl) (by first | exact Or.inl rfl | exact Or.inr (Or.inl rfl) | exact Or.inr (Or.inr rfl))))) (blkOk_by (by rfl)) (wc_keep (by decide) (wc_keep (by decide) (wc_keep (by decide) (wc_keep (by decide) (wc_any (wc_keep (by decide) wc_nil)))))) (fun _ _ _ _ _ => (gx_name (up_s (up_s (up_s (up_s up_z)))) (by rfl) (by first | exact Or.inl rfl | exact Or.inr rfl) (by show (4 : Nat) ∈ [4]; decide) (by first | exact Or.inl rfl | exact Or.inr rfl))) (fun _ _ _ _ _ => (ex_tup (ax_cons (ex_calI at_z md_z D__law_dip (Nat.le_of_ble_eq_true (by rfl)) (by rfl) rtvI (by rfl) (by first | exact Or.inl rfl | exact Or.inr (Or.inl rfl) | exact Or.inr (Or.inr rfl)) (ax_one (ex_op ot_add (ex_var (at_s (at_s at_z)) (by rfl) (by first | exact Or.inl rfl | exact Or.inr (Or.inl rfl) | exact Or.inr (Or.inr rfl))) ex_int))) (ax_one (ex_sub sub_some (ex_calI at_z md_z D__law_dip (Nat.le_of_ble_eq_true (by rfl)) (by rfl) rtvI (by rfl) (by first | exact Or.inl rfl | exact Or.inr (Or.inl rfl) | exact Or.inr (Or.inr rfl)) (ax_one ex_int))))))) (wc_keep (by decide) (wc_keep (by decide) (wc_keep (by decide) (wc_keep (by decide) (wc_val (wc_keep (by decide) wc_nil))))))) (by exact trivial) (by rfl) (by first | exact Or.inl rfl | exact Or.inr rfl)
    case g147 =>
      refine' bx_sub (G1 := [sOwn (fun v => v = v0) (oL cI), sVal (cT (aCons (cL cS) (aOne (cL (cL (cT (aCons cI (aOne (cO cI))))))))), sVal cI, sVal (cL (cT (aCons cI (aOne (cO cI))))), sAny, sAny]) (sc_same (sc_same (sc_same (sc_frz frz_l sc_id)))) ?g145
      case g145 =>
        refine' bx_one ?_
        exact sx_retI at_z (ex_frz frz_l (ex_op ot_cat (ex_frz frz_l (ex_lc (own := [("steps", 5)]) (ix_l (ex_pj (pj_s pj_one) (by rfl) (ex_var (at_s at_z) (by rfl) (by first | exact Or.inl rfl | exact Or.inr (Or.inl rfl) | exact Or.inr (Or.inr rfl))))) (blkOk_by (by rfl)) (wc_keep (by decide) (wc_keep (by decide) (wc_keep (by decide) (wc_keep (by decide) (wc_keep (by decide) (wc_any wc_nil)))))) (fun _ _ _ _ _ => (gx_name (up_s (up_s (up_s (up_s (up_s up_z))))) (by rfl) (by first | exact Or.inl rfl | exact Or.inr rfl) (by show (5 : Nat) ∈ [5]; decide) (by first | exact Or.inl rfl | exact Or.inr rfl))) (fun _ _ _ _ _ => (ex_frz frz_l (ex_callTy ct_listL (by rfl) (by exact M_list) (by decide +kernel) (ax_one (ex_var (at_s (at_s (at_s (at_s (at_s at_z))))) (by rfl) (by first | exact Or.inl rfl | exact Or.inr (Or.inl rfl) | exact Or.inr (Or.inr rfl))))))) (wc_keep (by decide) (wc_keep (by decide) (wc_keep (by decide) (wc_keep (by decide) (wc_keep (by decide) (wc_val wc_nil)))))))) (ex_frz frz_l (ex_if (tx_w (wx_and (tx_cmp ot_eq (ex_calI at_z md_z D__law_dip (Nat.le_of_ble_eq_true (by rfl)) (by rfl) rtvI (by rfl) (by first | exact Or.inl rfl | exact Or.inr (Or.inl rfl) | exact Or.inr (Or.inr rfl)) (ax_one ex_int)) ex_int (by rfl)) (wx_and1 (tx_cmp (ot_notInTV fq_i) (ex_var (at_s (at_s at_z)) (by rfl) (by first | exact Or.inl rfl | exact Or.inr (Or.inl rfl) | exact Or.inr (Or.inr rfl))) (ex_sub (sub_ttv (by decide)) (ex_tup (ax_consA ex_int (ax_consA ex_int ax_nilA)))) (by rfl))))) (ex_list (ax_consA (ex_var (at_s (at_s (at_s at_z))) (by rfl) (by first | exact Or.inl rfl | exact Or.inr (Or.inl rfl) | exact Or.inr (Or.inr rfl))) ax_nilA)) (ex_list (c := (cL (cT (aCons cI (aOne (cO cI)))))) ax_nilA)))))⟩
def F__law_more (k : (List Int)) (y : ((List Str) × (List (List (Int × (Option Int)))))) : Res ((List (List (Int × (Option Int)))) × (List Int)) := Res.bind ((fb__law_more ).1 .non (k, (y, ((), ((), ((), ((), ()))))))) endV

theorem ok__law_more {P : Program} {w : World} {K : Frag} {mg : Str → Option Value} {base : Heap} {ca : Str → Addr} {fa : Addr} {fd : FuncData} (F0 : FunD K "_law_more" "_law_more" (defArgs s__law_more) (defBody s__law_more) (defScope s__law_more) [] [] fa fd) (M_len : mg "len" = none) (D__law_dip : DefG P w K mg base 1 "_law_dip" ["well", "span"] (spI K ca (oL cI) (aOne cI) (rV cI) F__law_dip)) (M_list : mg "list" = none) (hm : mg "_law_more" = some (.ref fa)) : DefG P w K mg base 2 "_law_more" ["well", "plan"] (spI K ca (oL cI) (aOne (cT (aCons (cL cS) (aOne (cL (cL (cT (aCons cI (aOne (cO cI)))))))))) (rV (cL (cL (cT (aCons cI (aOne (cO cI))))))) F__law_more) :=
  ⟨fa, fd, fn_I (as := (aOne (cT (aCons (cL cS) (aOne (cL (cL (cT (aCons cI (aOne (cO cI))))))))))) (G1 := [sVal (cT (aCons (cL cS) (aOne (cL (cL (cT (aCons cI (aOne (cO cI))))))))), sAny, sAny, sAny, sAny]) (G' := fun v0 => [sOwn (fun v => v = v0) (oL cI), sVal (cT (aCons (cL cS) (aOne (cL (cL (cT (aCons cI (aOne (cO cI))))))))), sAny, sAny, sAny, sAny]) (κ := (List Int)) (β := (List (List (Int × (Option Int))))) (oc := (oL cI)) (r := (rV (cL (cL (cT (aCons cI (aOne (cO cI)))))))) (ini := (fun y => (y, ((), ((), ((), ((), ()))))))) (fb := (fb__law_more ).1) F0 sc__law_more (by rfl) (fun L H v0 ws y wf h => by obtain ⟨v1, rfl, h1⟩ := h; exact ⟨⟨v1, rfl, h1⟩, trivial, trivial, trivial, trivial, Nat.le_of_ble_eq_true (by rfl)⟩) (fun v0 nd cd A outer s H E hr hgd => (fb__law_more ).2 M_len D__law_dip M_list fa v0 nd cd A outer s H E hr hgd) (fun v0 k y => rfl), hm, F0.kp, (F0.bindsN (ps := ["well", "plan"]) fun _ _ _ _ _ _ us hl => match us, hl with | [_, _], _ => rfl), (kw_binds (ps := ["well", "plan"]) F0 fun _ _ _ _ _ _ us hl => match us, hl with | [_, _], _ => rfl)⟩

/-! _law_fair -/
abbrev s__law_fair : Stmt := top 27
abbrev N__law_fair : List Str := ["plan", "one_here", "two_here", "state", "told", "behind_here", "other", "end"]
theorem sc__law_fair : FnScope N__law_fair ["plan", "one_here", "two_here"] (defScope s__law_fair) := ⟨rfl, rfl, rfl, by decide +kernel, rfl, by decide +kernel, by decide +kernel⟩
def fb__law_fair : {fb : CT [sVal (cT (aCons (cL cS) (aOne (cL (cL (cT (aCons cI (aOne (cO cI))))))))), sVal cS, sVal cS, sAny, sAny, sAny, sAny, sAny] → Res (Out (CT [sVal (cT (aCons (cL cS) (aOne (cL (cL (cT (aCons cI (aOne (cO cI))))))))), sVal cS, sVal cS, sAny, sAny, sAny, sAny, sAny]) Bool) // ∀ {P : Program} {w : World} {K : Frag} {mg : Str → Option Value} {base : Heap} {ca : Str → Addr} (M_range : mg "range" = none) (M_len : mg "len" = none) (D__law_done : DefG P w K mg base 1 "_law_done" ["plan", "row_here", "state"] (spP K ca (aCons (cT (aCons (cL cS) (aOne (cL (cL (cT (aCons cI (aOne (cO cI))))))))) (aCons (cL cS) (aOne cI))) (rV (cT (aCons (cL (cO cI)) (aOne cI)))) F__law_done)) (f : Addr) (nd : N__law_fair.Nodup) cd A outer s H E hr hgd, BX (ambOf P w K mg base ca N__law_fair nd 1 "_law_fair" (defScope s__law_fair) f cd A outer s H E hr hgd) [sVal (cT (aCons (cL cS) (aOne (cL (cL (cT (aCons cI (aOne (cO cI))))))))), sVal cS, sVal cS, sAny, sAny, sAny, sAny, sAny] (defBody s__law_fair) [sVal (cT (aCons (cL cS) (aOne (cL (cL (cT (aCons cI (aOne (cO cI))))))))), sVal cS, sVal cS, sAny, sAny, sAny, sAny, sAny] (rrP (rV cB)) fb} := ⟨_, by
  intro P w K mg base ca M_range M_len D__law_done f nd cd A outer s H E hr hgd
  refine' bx_cons (G1 := [sVal (cT (aCons (cL cS) (aOne (cL (cL (cT (aCons cI (aOne (cO cI))))))))), sVal cS, sVal cS, sAny, sAny, sAny, sAny, sAny]) ?g157 ?g158
  case g157 =>
    refine' sx_for (G1 := [sVal (cT (aCons (cL cS) (aOne (cL (cL (cT (aCons cI (aOne (cO cI))))))))), sVal cS, sVal cS, sVal cI, sAny, sAny, sAny, sAny]) (G2 := [sVal (cT (aCons (cL cS) (aOne (cL (cL (cT (aCons cI (aOne (cO cI))))))))), sVal cS, sVal cS, sVal cI, sVal (cL (cO cI)), sVal cI, sVal (cL (cO cI)), sVal cI]) (ix_r1 (by rfl) (by exact M_range) (ex_callB ct_lenL (by rfl) (by exact M_len) (by decide +kernel) (ax_one (ex_pj (pj_s pj_one) (by rfl) (ex_var at_z (by rfl) (by first | exact Or.inl rfl | exact Or.inr (Or.inl rfl) | exact Or.inr (Or.inr rfl))))))) (gx_name (up_s (up_s (up_s up_z))) (by rfl) (by first | exact Or.inl rfl | exact Or.inr rfl) (by exact trivial) (by first | exact Or.inl rfl | exact Or.inr rfl)) ?g156 (sc_same (sc_same (sc_same (sc_any (sc_any (sc_any (sc_any (sc_any sc_id))))))))
    case g156 =>
      refine' bx_cons (G1 := [sVal (cT (aCons (cL cS) (aOne (cL (cL (cT (aCons cI (aOne (cO cI))))))))), sVal cS, sVal cS, sVal cI, sVal (cL (cO cI)), sVal cI, sAny, sAny]) ?g154 ?g155
      case g154 =>
        exact sx_asg (ex_cal D__law_done (Nat.le_of_ble_eq_true (by rfl)) (by rfl) rtv (ax_cons (ex_var at_z (by rfl) (by first | exact Or.inl rfl | exact Or.inr (Or.inl rfl) | exact Or.inr (Or.inr rfl))) (ax_cons (ex_frz frz_l (ex_list (ax_consA (ex_var (at_s at_z) (by rfl) (by first | exact Or.inl rfl | exact Or.inr (Or.inl rfl) | exact Or.inr (Or.inr rfl))) (ax_consA (ex_var (at_s (at_s at_z)) (by rfl) (by first | exact Or.inl rfl | exact Or.inr (Or.inl rfl) | exact Or.inr (Or.inr rfl))) ax_nilA)))) (ax_one (ex_var (at_s (at_s (at_s at_z))) (by rfl) (by first | exact Or.inl rfl | exact Or.inr (Or.inl rfl) | exact Or.inr (Or.inr rfl))))))) (gx_tup (gxs_cons (gx_name (up_s (up_s (up_s (up_s up_z)))) (by rfl) (by first | exact Or.inl rfl | exact Or.inr rfl) (by exact trivial) (by first | exact Or.inl rfl | exact Or.inr rfl)) (gxs_one (gx_name (up_s (up_s (up_s (up_s (up_s up_z))))) (by rfl) (by first | exact Or.inl rfl | exact Or.inr rfl) (by exact trivial) (by first | exact Or.inl rfl | exact Or.inr rfl)))))
      case g155 =>
        refine' bx_cons (G1 := [sVal (cT (aCons (cL cS) (aOne (cL (cL (cT (aCons cI (aOne (cO cI))))))))), sVal cS, sVal cS, sVal cI, sVal (cL (cO cI)), sVal cI, sVal (cL (cO cI)), sVal cI]) ?g152 ?g153
        case g152 =>
          exact sx_asg (ex_cal D__law_done (Nat.le_of_ble_eq_true (by rfl)) (by rfl) rtv (ax_cons (ex_var at_z (by rfl) (by first | exact Or.inl rfl | exact Or.inr (Or.inl rfl) | exact Or.inr (Or.inr rfl))) (ax_cons (ex_frz frz_l (ex_list (ax_consA (ex_var (at_s (at_s at_z)) (by rfl) (by first | exact Or.inl rfl | exact Or.inr (Or.inl rfl) | exact Or.inr (Or.inr rfl))) (ax_consA (ex_var (at_s at_z) (by rfl) (by first | exact Or.inl rfl | exact Or.inr (Or.inl rfl) | exact Or.inr (Or.inr rfl))) ax_nilA)))) (ax_one (ex_var (at_s (at_s (at_s at_z))) (by rfl) (by first | exact Or.inl rfl | exact Or.inr (Or.inl rfl) | exact Or.inr (Or.inr rfl))))))) (gx_tup (gxs_cons (gx_name (up_s (up_s (up_s (up_s (up_s (up_s up_z)))))) (by rfl) (by first | exact Or.inl rfl | exact Or.inr rfl) (by exact trivial) (by first | exact Or.inl rfl | exact Or.inr rfl)) (gxs_one (gx_name (up_s (up_s (up_s (up_s (up_s (up_s (up_s up_z))))))) (by rfl) (by first | exact Or.inl rfl | exact Or.inr rfl) (by exact trivial) (by first | exact Or.inl rfl | exact Or.inr rfl)))))
        case g153 =>
          refine' bx_one ?_
          refine' sx_if (G' := [sVal (cT (aCons (cL cS) (aOne (cL (cL (cT (aCons cI (aOne (cO cI))))))))), sVal cS, sVal cS, sVal cI, sVal (cL (cO cI)), sVal cI, sVal (cL (cO cI)), sVal cI]) (tx_w (wx_or (tx_cmp (ot_neD (dc_l (dc_o dc_i)) (dc_l (dc_o dc_i)) (by decide) (by decide)) (ex_var (at_s (at_s (at_s (at_s at_z)))) (by rfl) (by first | exact Or.inl rfl | exact Or.inr (Or.inl rfl) | exact Or.inr (Or.inr rfl))) (ex_frz frz_l (ex_revL (ex_var (at_s (at_s (at_s (at_s (at_s (at_s at_z)))))) (by rfl) (by first | exact Or.inl rfl | exact Or.inr (Or.inl rfl) | exact Or.inr (Or.inr rfl))))) (by rfl)) (wx_or1 (tx_cmp ot_ne (ex_var (at_s (at_s (at_s (at_s (at_s at_z))))) (by rfl) (by first | exact Or.inl rfl | exact Or.inr (Or.inl rfl) | exact Or.inr (Or.inr rfl))) (ex_var (at_s (at_s (at_s (at_s (at_s (at_s (at_s at_z))))))) (by rfl) (by first | exact Or.inl rfl | exact Or.inr (Or.inl rfl) | exact Or.inr (Or.inr rfl))) (by rfl))))) ?g150 ?g151
          case g150 =>
            refine' bx_one ?_
            exact sx_ret ex_bool
          case g151 =>
            exact bx_nil
  case g158 =>
    refine' bx_one ?_
    exact sx_ret ex_bool⟩
def F__law_fair (y : ((List Str) × (List (List (Int × (Option Int))))) × Str × Str) : Res Bool := Res.bind ((fb__law_fair ).1 (y.1, (y.2.1, (y.2.2, ((), ((), ((), ((), ((), ()))))))))) endV

theorem ok__law_fair {P : Program} {w : World} {K : Frag} {mg : Str → Option Value} {base : Heap} {ca : Str → Addr} {fa : Addr} {fd : FuncData} (F0 : FunD K "_law_fair" "_law_fair" (defArgs s__law_fair) (defBody s__law_fair) (defScope s__law_fair) [] [] fa fd) (M_range : mg "range" = none) (M_len : mg "len" = none) (D__law_done : DefG P w K mg base 1 "_law_done" ["plan", "row_here", "state"] (spP K ca (aCons (cT (aCons (cL cS) (aOne (cL (cL (cT (aCons cI (aOne (cO cI))))))))) (aCons (cL cS) (aOne cI))) (rV (cT (aCons (cL (cO cI)) (aOne cI)))) F__law_done)) (hm : mg "_law_fair" = some (.ref fa)) : DefG P w K mg base 2 "_law_fair" ["plan", "one_here", "two_here"] (spP K ca (aCons (cT (aCons (cL cS) (aOne (cL (cL (cT (aCons cI (aOne (cO cI))))))))) (aCons cS (aOne cS))) (rV cB) F__law_fair) :=
  ⟨fa, fd, fn_P (as := (aCons (cT (aCons (cL cS) (aOne (cL (cL (cT (aCons cI (aOne (cO cI))))))))) (aCons cS (aOne cS)))) (G0 := [sVal (cT (aCons (cL cS) (aOne (cL (cL (cT (aCons cI (aOne (cO cI))))))))), sVal cS, sVal cS, sAny, sAny, sAny, sAny, sAny]) (ini := (fun y => (y.1, (y.2.1, (y.2.2, ((), ((), ((), ((), ((), ())))))))))) (fb := (fb__law_fair ).1) F0 sc__law_fair (by rfl) (fun L H vs y wf h => by obtain ⟨v1, _, rfl, h1, v2, _, rfl, h2, v3, rfl, h3⟩ := h; exact ⟨⟨v1, rfl, h1⟩, ⟨v2, rfl, h2⟩, ⟨v3, rfl, h3⟩, trivial, trivial, trivial, trivial, trivial, Nat.le_of_ble_eq_true (by rfl)⟩) (fun nd cd A outer s H E hr hgd => (fb__law_fair ).2 M_range M_len D__law_done fa nd cd A outer s H E hr hgd) (fun y => rfl), hm, F0.kp, (F0.bindsN (ps := ["plan", "one_here", "two_here"]) fun _ _ _ _ _ _ us hl => match us, hl with | [_, _, _], _ => rfl), (kw_binds (ps := ["plan", "one_here", "two_here"]) F0 fun _ _ _ _ _ _ us hl => match us, hl with | [_, _, _], _ => rfl)⟩

/-! _law_right -/
abbrev s__law_right : Stmt := top 28
abbrev N__law_right : List Str := ["well", "service_here", "told", "plan", "due", "at", "label", "other"]
theorem sc__law_right : FnScope N__law_right ["well"] (defScope s__law_right) := ⟨rfl, rfl, rfl, by decide +kernel, rfl, by decide +kernel, by decide +kernel⟩
def fb__law_right (A_Service : Addr) : {fb : (v0 : V) → CT [sOwn (fun v => v = v0) (oL cI), sAny, sAny, sAny, sAny, sAny, sAny, sAny] → Res (Out (CT [sOwn (fun v => v = v0) (oL cI), sAny, sAny, sAny, sAny, sAny, sAny, sAny]) (Bool × (List Int))) // ∀ {P : Program} {w : World} {K : Frag} {mg : Str → Option Value} {base : Heap} {ca : Str → Addr} (D__law_plan : DefG P w K mg base 3 "_law_plan" ["well", "states_most", "calls_most"] (spI K ca (oL cI) (aCons cI (aOne cI)) (rV (cT (aCons (cL cS) (aOne (cL (cL (cT (aCons cI (aOne (cO cI)))))))))) F__law_plan)) (D__law_dip : DefG P w K mg base 1 "_law_dip" ["well", "span"] (spI K ca (oL cI) (aOne cI) (rV cI) F__law_dip)) (K_Service : MakG P w K mg base 3 "Service" A_Service ["self", "names", "table"] (spN K ca A_Service (aCons (cL cS) (aOne (cL (cL (cT (aCons cI (aOne (cO cI)))))))) (fSnoc (fSnoc fNil "kept_names" (cTV cS)) "kept_table" (cTV (cTV (cT (aCons cI (aOne (cO cI))))))) F_Service_init)) (M_list : mg "list" = none) (D__law_more : DefG P w K mg base 2 "_law_more" ["well", "plan"] (spI K ca (oL cI) (aOne (cT (aCons (cL cS) (aOne (cL (cL (cT (aCons cI (aOne (cO cI)))))))))) (rV (cL (cL (cT (aCons cI (aOne (cO cI))))))) F__law_more)) (M_enumerate : mg "enumerate" = none) (D__law_fair : DefG P w K mg base 2 "_law_fair" ["plan", "one_here", "two_here"] (spP K ca (aCons (cT (aCons (cL cS) (aOne (cL (cL (cT (aCons cI (aOne (cO cI))))))))) (aCons cS (aOne cS))) (rV cB) F__law_fair)) (D_may_change : DefG P w K mg base 2 "may_change" ["service"] (spP K ca (aOne (cIns A_Service (fSnoc (fSnoc fNil "kept_names" (cTV cS)) "kept_table" (cTV (cTV (cT (aCons cI (aOne (cO cI))))))))) (rO (oL (cT (aCons cS (aOne cS))))) F_may_change)) (M_repr : mg "repr" = none) (f : Addr) (v0 : V) (nd : N__law_right.Nodup) cd A outer s H E hr hgd, BX (ambOf P w K mg base ca N__law_right nd 4 "_law_right" (defScope s__law_right) f cd A outer s H E hr hgd) [sOwn (fun v => v = v0) (oL cI), sAny, sAny, sAny, sAny, sAny, sAny, sAny] (defBody s__law_right) [sOwn (fun v => v = v0) (oL cI), sAny, sAny, sAny, sAny, sAny, sAny, sAny] (rrI (rV cB) (oL cI) v0) (fb v0)} := ⟨_, by
  intro P w K mg base ca D__law_plan D__law_dip K_Service M_list D__law_more M_enumerate D__law_fair D_may_change M_repr f v0 nd cd A outer s H E hr hgd
  refine' bx_cons (G1 := [sOwn (fun v => v = v0) (oL cI), sAny, sAny, sVal (cT (aCons (cL cS) (aOne (cL (cL (cT (aCons cI (aOne (cO cI))))))))), sOwn PAny (oL (cT (aCons cS (aOne cS)))), sAny, sAny, sAny]) ?g172 ?g173
  case g172 =>
    first | exact sx_par st_v st_o (up_s (up_s (up_s (up_s up_z)))) (up_s (up_s (up_s up_z))) (by decide) (by exact ⟨trivial, trivial⟩) (by rfl) (by rfl) (by rfl) (by rfl) (ex_if (tx_cmp ot_eq (ex_calI at_z md_z D__law_dip (Nat.le_of_ble_eq_true (by rfl)) (by rfl) rtvI (by rfl) (by first | exact Or.inl rfl | exact Or.inr (Or.inl rfl) | exact Or.inr (Or.inr rfl)) (ax_one ex_int)) ex_int (by rfl)) (ex_calI at_z md_z D__law_plan (Nat.le_of_ble_eq_true (by rfl)) (by rfl) rtvI (by rfl) (by first | exact Or.inl rfl | exact Or.inr (Or.inl rfl) | exact Or.inr (Or.inr rfl)) (ax_cons ex_int (ax_one ex_int))) (ex_calI at_z md_z D__law_plan (Nat.le_of_ble_eq_true (by rfl)) (by rfl) rtvI (by rfl) (by first | exact Or.inl rfl | exact Or.inr (Or.inl rfl) | exact Or.inr (Or.inr rfl)) (ax_cons ex_int (ax_one ex_int)))) (ex_list (c := (cT (aCons cS (aOne cS)))) ax_nilA) (by rfl) | exact sx_parC st_v st_o (up_s (up_s (up_s (up_s up_z)))) (up_s (up_s (up_s up_z))) (by decide) (by exact ⟨trivial, trivial⟩) (by rfl) (by rfl) (by first | exact Or.inl rfl | exact Or.inr rfl) (by first | exact Or.inl rfl | exact Or.inr rfl) (ex_if (tx_cmp ot_eq (ex_calI at_z md_z D__law_dip (Nat.le_of_ble_eq_true (by rfl)) (by rfl) rtvI (by rfl) (by first | exact Or.inl rfl | exact Or.inr (Or.inl rfl) | exact Or.inr (Or.inr rfl)) (ax_one ex_int)) ex_int (by rfl)) (ex_calI at_z md_z D__law_plan (Nat.le_of_ble_eq_true (by rfl)) (by rfl) rtvI (by rfl) (by first | exact Or.inl rfl | exact Or.inr (Or.inl rfl) | exact Or.inr (Or.inr rfl)) (ax_cons ex_int (ax_one ex_int))) (ex_calI at_z md_z D__law_plan (Nat.le_of_ble_eq_true (by rfl)) (by rfl) rtvI (by rfl) (by first | exact Or.inl rfl | exact Or.inr (Or.inl rfl) | exact Or.inr (Or.inr rfl)) (ax_cons ex_int (ax_one ex_int)))) (ex_list (c := (cT (aCons cS (aOne cS)))) ax_nilA) (by rfl) (by rfl) (by rfl)
  case g173 =>
    refine' bx_cons (G1 := [sOwn (fun v => v = v0) (oL cI), sVal (cIns A_Service (fSnoc (fSnoc fNil "kept_names" (cTV cS)) "kept_table" (cTV (cTV (cT (aCons cI (aOne (cO cI)))))))), sAny, sVal (cT (aCons (cL cS) (aOne (cL (cL (cT (aCons cI (aOne (cO cI))))))))), sOwn PAny (oL (cT (aCons cS (aOne cS)))), sAny, sAny, sAny]) ?g170 ?g171
    case g170 =>
      exact sx_set (up_s up_z) (by rfl) (by first | exact Or.inl rfl | exact Or.inr rfl) (ex_make K_Service (Nat.le_of_ble_eq_true (by rfl)) (by rfl) (ax_cons (ex_frz frz_l (ex_callTy ct_listL (by rfl) (by exact M_list) (by decide +kernel) (ax_one (ex_pj pj_z (by rfl) (ex_var (at_s (at_s (at_s at_z))) (by rfl) (by first | exact Or.inl rfl | exact Or.inr (Or.inl rfl) | exact Or.inr (Or.inr rfl))))))) (ax_one (ex_calI at_z md_z D__law_more (Nat.le_of_ble_eq_true (by rfl)) (by rfl) rtvI (by rfl) (by first | exact Or.inl rfl | exact Or.inr (Or.inl rfl) | exact Or.inr (Or.inr rfl)) (ax_one (ex_var (at_s (at_s (at_s at_z))) (by rfl) (by first | exact Or.inl rfl | exact Or.inr (Or.inl rfl) | exact Or.inr (Or.inr rfl)))))))) (by exact trivial) (by rfl) (by first | exact Or.inl rfl | exact Or.inr rfl)
    case g171 =>
      refine' bx_cons (G1 := [sOwn (fun v => v = v0) (oL cI), sVal (cIns A_Service (fSnoc (fSnoc fNil "kept_names" (cTV cS)) "kept_table" (cTV (cTV (cT (aCons cI (aOne (cO cI)))))))), sAny, sVal (cT (aCons (cL cS) (aOne (cL (cL (cT (aCons cI (aOne (cO cI))))))))), sOwn PAny (oL (cT (aCons cS (aOne cS)))), sAny, sAny, sAny]) ?g168 ?g169
      case g168 =>
        refine' sx_for (G1 := [sOwn (fun v => v = v0) (oL cI), sVal (cIns A_Service (fSnoc (fSnoc fNil "kept_names" (cTV cS)) "kept_table" (cTV (cTV (cT (aCons cI (aOne (cO cI)))))))), sAny, sVal (cT (aCons (cL cS) (aOne (cL (cL (cT (aCons cI (aOne (cO cI))))))))), sOwn PAny (oL (cT (aCons cS (aOne cS)))), sVal cI, sVal cS, sAny]) (G2 := [sOwn (fun v => v = v0) (oL cI), sVal (cIns A_Service (fSnoc (fSnoc fNil "kept_names" (cTV cS)) "kept_table" (cTV (cTV (cT (aCons cI (aOne (cO cI)))))))), sAny, sVal (cT (aCons (cL cS) (aOne (cL (cL (cT (aCons cI (aOne (cO cI))))))))), sOwn PAny (oL (cT (aCons cS (aOne cS)))), sVal cI, sVal cS, sAny]) (ix_enum (by rfl) (by exact M_enumerate) (ex_pj pj_z (by rfl) (ex_var (at_s (at_s (at_s at_z))) (by rfl) (by first | exact Or.inl rfl | exact Or.inr (Or.inl rfl) | exact Or.inr (Or.inr rfl))))) (gx_tup (gxs_cons (gx_name (up_s (up_s (up_s (up_s (up_s up_z))))) (by rfl) (by first | exact Or.inl rfl | exact Or.inr rfl) (by exact trivial) (by first | exact Or.inl rfl | exact Or.inr rfl)) (gxs_one (gx_name (up_s (up_s (up_s (up_s (up_s (up_s up_z)))))) (by rfl) (by first | exact Or.inl rfl | exact Or.inr rfl) (by exact trivial) (by first | exact Or.inl rfl | exact Or.inr rfl))))) ?g159 (sc_same (sc_same (sc_same (sc_same (sc_same (sc_any (sc_any sc_id)))))))
        case g159 =>
          refine' bx_one ?_
          exact sx_setO (up_s (up_s (up_s (up_s up_z)))) (by rfl) (by first | exact Or.inl rfl | exact Or.inr rfl) (ex_lend (S := [4]) (T := []) (ln_hold (ho_l hd_i) (by decide) (by decide) (ln_val (ln_any (ln_val (ln_own frz_l (by decide) (ln_val (ln_val (ln_any ln_nil)))))))) (rh_o (ho_l (hd_t (ha_cons hd_s (ha_one hd_s))))) (ex_op ot_cat (ex_var (at_s (at_s (at_s (at_s at_z)))) (by rfl) (by first | exact Or.inl rfl | exact Or.inr (Or.inl rfl) | exact Or.inr (Or.inr rfl))) (ex_frz frz_l (ex_lcIf (own := [("other", 7)]) (ix_l (ex_frz frz_l (ex_cutL (ex_pj pj_z (by rfl) (ex_var (at_s (at_s (at_s at_z))) (by rfl) (by first | exact Or.inl rfl | exact Or.inr (Or.inl rfl) | exact Or.inr (Or.inr rfl)))) (ox_some (ex_op ot_add (ex_var (at_s (at_s (at_s (at_s (at_s at_z))))) (by rfl) (by first | exact Or.inl rfl | exact Or.inr (Or.inl rfl) | exact Or.inr (Or.inr rfl))) ex_int)) ox_none))) (blkOk_by (by rfl)) (wc_keep (by decide) (wc_keep (by decide) (wc_keep (by decide) (wc_keep (by decide) (wc_keep (by decide) (wc_keep (by decide) (wc_keep (by decide) (wc_any wc_nil)))))))) (fun _ _ _ _ _ => (gx_name (up_s (up_s (up_s (up_s (up_s (up_s (up_s up_z))))))) (by rfl) (by first | exact Or.inl rfl | exact Or.inr rfl) (by show (7 : Nat) ∈ [7]; decide) (by first | exact Or.inl rfl | exact Or.inr rfl))) (fun _ _ _ _ _ => (tx_val (ex_cal D__law_fair (Nat.le_of_ble_eq_true (by rfl)) (by rfl) rtv (ax_cons (ex_var (at_s (at_s (at_s at_z))) (by rfl) (by first | exact Or.inl rfl | exact Or.inr (Or.inl rfl) | exact Or.inr (Or.inr rfl))) (ax_cons (ex_var (at_s (at_s (at_s (at_s (at_s (at_s at_z)))))) (by rfl) (by first | exact Or.inl rfl | exact Or.inr (Or.inl rfl) | exact Or.inr (Or.inr rfl))) (ax_one (ex_var (at_s (at_s (at_s (at_s (at_s (at_s (at_s at_z))))))) (by rfl) (by first | exact Or.inl rfl | exact Or.inr (Or.inl rfl) | exact Or.inr (Or.inr rfl))))))))) (fun _ _ _ _ _ => (ex_tup (ax_cons (ex_var (at_s (at_s (at_s (at_s (at_s (at_s at_z)))))) (by rfl) (by first | exact Or.inl rfl | exact Or.inr (Or.inl rfl) | exact Or.inr (Or.inr rfl))) (ax_one (ex_var (at_s (at_s (at_s (at_s (at_s (at_s (at_s at_z))))))) (by rfl) (by first | exact Or.inl rfl | exact Or.inr (Or.inl rfl) | exact Or.inr (Or.inr rfl))))))) (wc_keep (by decide) (wc_keep (by decide) (wc_keep (by decide) (wc_keep (by decide) (wc_keep (by decide) (wc_keep (by decide) (wc_keep (by decide) (wc_val wc_nil)))))))))))) (by exact trivial) (by rfl) (by first | exact Or.inl rfl | exact Or.inr rfl)
      case g169 =>
        refine' bx_cons (G1 := [sOwn (fun v => v = v0) (oL cI), sVal (cIns A_Service (fSnoc (fSnoc fNil "kept_names" (cTV cS)) "kept_table" (cTV (cTV (cT (aCons cI (aOne (cO cI)))))))), sOwn PAny (oLL (oL (cDat 1))), sVal (cT (aCons (cL cS) (aOne (cL (cL (cT (aCons cI (aOne (cO cI))))))))), sOwn PAny (oL (cT (aCons cS (aOne cS)))), sAny, sAny, sAny]) ?g166 ?g167
        case g166 =>
          exact sx_setO (up_s (up_s up_z)) (by rfl) (by first | exact Or.inl rfl | exact Or.inr rfl) (ex_listO (axo_cons sh_l (ex_subO (subo_l (sub_datm (dc_t (da_cons dc_s (da_one dc_s))) (by decide))) (ex_cal D_may_change (Nat.le_of_ble_eq_true (by rfl)) (by rfl) rto (ax_one (ex_var (at_s at_z) (by rfl) (by first | exact Or.inl rfl | exact Or.inr (Or.inl rfl) | exact Or.inr (Or.inr rfl)))))) (axo_cons sh_l (ex_subO (subo_l (sub_datm (dc_t (da_cons dc_s (da_one dc_s))) (by decide))) (ex_kwG D_may_change (Nat.le_of_ble_eq_true (by rfl)) (by rfl) rto (kw_one (ex_var (at_s at_z) (by rfl) (by first | exact Or.inl rfl | exact Or.inr (Or.inl rfl) | exact Or.inr (Or.inr rfl)))) (by rfl))) axo_nil))) (by exact trivial) (by rfl) (by first | exact Or.inl rfl | exact Or.inr rfl)
        case g167 =>
          refine' bx_cons (G1 := [sOwn (fun v => v = v0) (oL cI), sVal (cIns A_Service (fSnoc (fSnoc fNil "kept_names" (cTV cS)) "kept_table" (cTV (cTV (cT (aCons cI (aOne (cO cI)))))))), sOwn PAny (oLL (oL (cDat 1))), sVal (cT (aCons (cL cS) (aOne (cL (cL (cT (aCons cI (aOne (cO cI))))))))), sOwn PAny (oL (cT (aCons cS (aOne cS)))), sAny, sAny, sAny]) ?g164 ?g165
          case g164 =>
            refine' sx_if (G' := [sOwn (fun v => v = v0) (oL cI), sVal (cIns A_Service (fSnoc (fSnoc fNil "kept_names" (cTV cS)) "kept_table" (cTV (cTV (cT (aCons cI (aOne (cO cI)))))))), sOwn PAny (oLL (oL (cDat 1))), sVal (cT (aCons (cL cS) (aOne (cL (cL (cT (aCons cI (aOne (cO cI))))))))), sOwn PAny (oL (cT (aCons cS (aOne cS)))), sAny, sAny, sAny]) (tx_cmp ot_neW (ex_lend (S := [2]) (T := []) (ln_hold (ho_l hd_i) (by decide) (by decide) (ln_val (ln_own (frz_ll frzp_l) (by decide) (ln_val (ln_hold (ho_l (hd_t (ha_cons hd_s (ha_one hd_s)))) (by decide) (by decide) (ln_any (ln_any (ln_any ln_nil)))))))) (rh_v hd_w) (ex_callB (ct_repr (dc_l (dc_l dc_dat)) (by decide) rf_l) (by rfl) (by exact M_repr) (by decide +kernel) (ax_one (ex_var (at_s (at_s at_z)) (by rfl) (by first | exact Or.inl rfl | exact Or.inr (Or.inl rfl) | exact Or.inr (Or.inr rfl)))))) (ex_lend (S := [4]) (T := [2]) (ln_hold (ho_l hd_i) (by decide) (by decide) (ln_val (ln_hide (by decide) (ln_val (ln_own frz_l (by decide) (ln_any (ln_any (ln_any ln_nil)))))))) (rh_v hd_w) (ex_callB (ct_repr (dc_l (dc_l (dc_t (da_cons dc_s (da_one dc_s))))) (by decide) rf_l) (by rfl) (by exact M_repr) (by decide +kernel) (ax_one (ex_frz frz_l (ex_list (ax_consA (ex_var (at_s (at_s (at_s (at_s at_z)))) (by rfl) (by first | exact Or.inl rfl | exact Or.inr (Or.inl rfl) | exact Or.inr (Or.inr rfl))) (ax_consA (ex_var (at_s (at_s (at_s (at_s at_z)))) (by rfl) (by first | exact Or.inl rfl | exact Or.inr (Or.inl rfl) | exact Or.inr (Or.inr rfl))) ax_nilA))))))) (by rfl)) ?g160 ?g161
            case g160 =>
              refine' bx_one ?_
              exact sx_retI at_z ex_bool
            case g161 =>
              exact bx_nil
          case g165 =>
            refine' bx_cons (G1 := [sOwn (fun v => v = v0) (oL cI), sVal (cIns A_Service (fSnoc (fSnoc fNil "kept_names" (cTV cS)) "kept_table" (cTV (cTV (cT (aCons cI (aOne (cO cI)))))))), sOwn PAny (oLL (oL (cDat 1))), sVal (cT (aCons (cL cS) (aOne (cL (cL (cT (aCons cI (aOne (cO cI))))))))), sOwn PAny (oL (cT (aCons cS (aOne cS)))), sAny, sAny, sAny]) ?g162 ?g163
            case g162 =>
              exact sx_expr (ex_nest1 (d := cS) (y := "x") (mt_appS (sub_datm dc_s (by decide))) PySem.F.slot_list_append (by rfl) (at_s (at_s at_z)) (md_s (md_s md_z)) (by rfl) (by first | exact Or.inl rfl | exact Or.inr (Or.inl rfl) | exact Or.inr (Or.inr rfl)) (j := 0) (by rfl) pe_str (by intro _ _; first | exact rfl | exact ⟨rfl, by decide +kernel, by decide +kernel⟩))
            case g163 =>
              refine' bx_one ?_
              exact sx_retI at_z (ex_cmp ot_eqW (ex_callB (ct_repr (dc_l (dc_t (da_cons dc_s (da_one dc_s)))) (by decide) rf_l) (by rfl) (by exact M_repr) (by decide +kernel) (ax_one (ex_frz frz_l (ex_cal D_may_change (Nat.le_of_ble_eq_true (by rfl)) (by rfl) rto (ax_one (ex_var (at_s at_z) (by rfl) (by first | exact Or.inl rfl | exact Or.inr (Or.inl rfl) | exact Or.inr (Or.inr rfl)))))))) (ex_lend (S := [4]) (T := [2]) (ln_hold (ho_l hd_i) (by decide) (by decide) (ln_val (ln_hide (by decide) (ln_val (ln_own frz_l (by decide) (ln_any (ln_any (ln_any ln_nil)))))))) (rh_v hd_w) (ex_callB (ct_repr (dc_l (dc_t (da_cons dc_s (da_one dc_s)))) (by decide) rf_l) (by rfl) (by exact M_repr) (by decide +kernel) (ax_one (ex_var (at_s (at_s (at_s (at_s at_z)))) (by rfl) (by first | exact Or.inl rfl | exact Or.inr (Or.inl rfl) | exact Or.inr (Or.inr rfl)))))) (by rfl))⟩
def F__law_right (k : (List Int)) (y : Unit) : Res (Bool × (List Int)) := Res.bind ((fb__law_right 0 ).1 .non (k, ((), ((), ((), ((), ((), ((), ((), ()))))))))) endV

theorem ok__law_right {P : Program} {w : World} {K : Frag} {mg : Str → Option Value} {base : Heap} {ca : Str → Addr} {fa : Addr} {fd : FuncData} {A_Service : Addr} (F0 : FunD K "_law_right" "_law_right" (defArgs s__law_right) (defBody s__law_right) (defScope s__law_right) [] [] fa fd) (D__law_plan : DefG P w K mg base 3 "_law_plan" ["well", "states_most", "calls_most"] (spI K ca (oL cI) (aCons cI (aOne cI)) (rV (cT (aCons (cL cS) (aOne (cL (cL (cT (aCons cI (aOne (cO cI)))))))))) F__law_plan)) (D__law_dip : DefG P w K mg base 1 "_law_dip" ["well", "span"] (spI K ca (oL cI) (aOne cI) (rV cI) F__law_dip)) (K_Service : MakG P w K mg base 3 "Service" A_Service ["self", "names", "table"] (spN K ca A_Service (aCons (cL cS) (aOne (cL (cL (cT (aCons cI (aOne (cO cI)))))))) (fSnoc (fSnoc fNil "kept_names" (cTV cS)) "kept_table" (cTV (cTV (cT (aCons cI (aOne (cO cI))))))) F_Service_init)) (M_list : mg "list" = none) (D__law_more : DefG P w K mg base 2 "_law_more" ["well", "plan"] (spI K ca (oL cI) (aOne (cT (aCons (cL cS) (aOne (cL (cL (cT (aCons cI (aOne (cO cI)))))))))) (rV (cL (cL (cT (aCons cI (aOne (cO cI))))))) F__law_more)) (M_enumerate : mg "enumerate" = none) (D__law_fair : DefG P w K mg base 2 "_law_fair" ["plan", "one_here", "two_here"] (spP K ca (aCons (cT (aCons (cL cS) (aOne (cL (cL (cT (aCons cI (aOne (cO cI))))))))) (aCons cS (aOne cS))) (rV cB) F__law_fair)) (D_may_change : DefG P w K mg base 2 "may_change" ["service"] (spP K ca (aOne (cIns A_Service (fSnoc (fSnoc fNil "kept_names" (cTV cS)) "kept_table" (cTV (cTV (cT (aCons cI (aOne (cO cI))))))))) (rO (oL (cT (aCons cS (aOne cS))))) F_may_change)) (M_repr : mg "repr" = none) (hm : mg "_law_right" = some (.ref fa)) : DefG P w K mg base 5 "_law_right" ["well"] (spI K ca (oL cI) aNil (rV cB) F__law_right) :=
  ⟨fa, fd, fn_I (as := aNil) (G1 := [sAny, sAny, sAny, sAny, sAny, sAny, sAny]) (G' := fun v0 => [sOwn (fun v => v = v0) (oL cI), sAny, sAny, sAny, sAny, sAny, sAny, sAny]) (κ := (List Int)) (β := Bool) (oc := (oL cI)) (r := (rV cB)) (ini := (fun y => ((), ((), ((), ((), ((), ((), ((), ()))))))))) (fb := (fb__law_right A_Service ).1) F0 sc__law_right (by rfl) (fun L H v0 ws y wf h => by have h0 : _ = [] := h; subst h0; exact ⟨trivial, trivial, trivial, trivial, trivial, trivial, trivial, Nat.le_of_ble_eq_true (by rfl)⟩) (fun v0 nd cd A outer s H E hr hgd => (fb__law_right A_Service ).2 D__law_plan D__law_dip K_Service M_list D__law_more M_enumerate D__law_fair D_may_change M_repr fa v0 nd cd A outer s H E hr hgd) (fun v0 k y => rfl), hm, F0.kp, (F0.bindsN (ps := ["well"]) fun _ _ _ _ _ _ us hl => match us, hl with | [_], _ => rfl), (kw_binds (ps := ["well"]) F0 fun _ _ _ _ _ _ us hl => match us, hl with | [_], _ => rfl)⟩

/-! law -/
abbrev s_law : Stmt := top 29
abbrev N_law : List Str := ["script", "place", "well", "turn"]
theorem sc_law : FnScope N_law ["script"] (defScope s_law) := ⟨rfl, rfl, rfl, by decide +kernel, rfl, by decide +kernel, by decide +kernel⟩
def fb_law (A_Service : Addr) : {fb : CT [sVal (cLK cI), sAny, sAny, sAny] → Res (Out (CT [sVal (cLK cI), sAny, sAny, sAny]) Bool) // ∀ {P : Program} {w : World} {K : Frag} {mg : Str → Option Value} {base : Heap} {ca : Str → Addr} (M_range : mg "range" = none) (M_max : mg "max" = none) (M_min : mg "min" = none) (M_len : mg "len" = none) (D__law_well : DefG P w K mg base 1 "_law_well" ["script", "place"] (spP K ca (aCons (cLK cI) (aOne cI)) (rO (oL cI)) F__law_well)) (D__law_right : DefG P w K mg base 5 "_law_right" ["well"] (spI K ca (oL cI) aNil (rV cB) F__law_right)) (f : Addr) (nd : N_law.Nodup) cd A outer s H E hr hgd, BX (ambOf P w K mg base ca N_law nd 5 "law" (defScope s_law) f cd A outer s H E hr hgd) [sVal (cLK cI), sAny, sAny, sAny] (defBody s_law) [sVal (cLK cI), sAny, sAny, sAny] (rrP (rV cB)) fb} := ⟨_, by
  intro P w K mg base ca M_range M_max M_min M_len D__law_well D__law_right f nd cd A outer s H E hr hgd
  refine' bx_cons (G1 := [sVal (cLK cI), sAny, sAny, sAny]) ?g180 ?g181
  case g180 =>
    refine' sx_for (G1 := [sVal (cLK cI), sVal cI, sAny, sAny]) (G2 := [sVal (cLK cI), sVal cI, sOwn PAny (oL cI), sAny]) (ix_r1 (by rfl) (by exact M_range) (ex_callB ct_max2 (by rfl) (by exact M_max) (by decide +kernel) (ax_cons ex_int (ax_one (ex_callB ct_min2 (by rfl) (by exact M_min) (by decide +kernel) (ax_cons ex_int (ax_one (ex_callB ct_lenK (by rfl) (by exact M_len) (by decide +kernel) (ax_one (ex_var at_z (by rfl) (by first | exact Or.inl rfl | exact Or.inr (Or.inl rfl) | exact Or.inr (Or.inr rfl)))))))))))) (gx_name (up_s up_z) (by rfl) (by first | exact Or.inl rfl | exact Or.inr rfl) (by exact trivial) (by first | exact Or.inl rfl | exact Or.inr rfl)) ?g179 (sc_same (sc_any (sc_any sc_id)))
    case g179 =>
      refine' bx_cons (G1 := [sVal (cLK cI), sVal cI, sOwn PAny (oL cI), sAny]) ?g177 ?g178
      case g177 =>
        exact sx_setO (up_s (up_s up_z)) (by rfl) (by first | exact Or.inl rfl | exact Or.inr rfl) (ex_cal D__law_well (Nat.le_of_ble_eq_true (by rfl)) (by rfl) rto (ax_cons (ex_var at_z (by rfl) (by first | exact Or.inl rfl | exact Or.inr (Or.inl rfl) | exact Or.inr (Or.inr rfl))) (ax_one (ex_var (at_s at_z) (by rfl) (by first | exact Or.inl rfl | exact Or.inr (Or.inl rfl) | exact Or.inr (Or.inr rfl)))))) (by exact trivial) (by rfl) (by first | exact Or.inl rfl | exact Or.inr rfl)
      case g178 =>
        refine' bx_one ?_
        refine' sx_for (G1 := [sVal (cLK cI), sVal cI, sOwn PAny (oL cI), sVal cI]) (G2 := [sVal (cLK cI), sVal cI, sOwn PAny (oL cI), sVal cI]) (ix_r1 (by rfl) (by exact M_range) ex_int) (gx_name (up_s (up_s (up_s up_z))) (by rfl) (by first | exact Or.inl rfl | exact Or.inr rfl) (by exact trivial) (by first | exact Or.inl rfl | exact Or.inr rfl)) ?g176 (sc_same (sc_same (sc_same (sc_any sc_id))))
        case g176 =>
          refine' bx_one ?_
          refine' sx_if (G' := [sVal (cLK cI), sVal cI, sOwn PAny (oL cI), sVal cI]) (tx_not (tx_val (ex_calI (at_s (at_s at_z)) (md_s (md_s md_z)) D__law_right (Nat.le_of_ble_eq_true (by rfl)) (by rfl) rtvI (by rfl) (by first | exact Or.inl rfl | exact Or.inr (Or.inl rfl) | exact Or.inr (Or.inr rfl)) ax_nil))) ?g174 ?g175
          case g174 =>
            refine' bx_one ?_
            exact sx_ret ex_bool
          case g175 =>
            exact bx_nil
  case g181 =>
    refine' bx_one ?_
    exact sx_ret ex_bool⟩
def F_law (y : (List Int)) : Res Bool := Res.bind ((fb_law 0 ).1 (y, ((), ((), ((), ()))))) endV

theorem ok_law {P : Program} {w : World} {K : Frag} {mg : Str → Option Value} {base : Heap} {ca : Str → Addr} {fa : Addr} {fd : FuncData} {A_Service : Addr} (F0 : FunD K "law" "law" (defArgs s_law) (defBody s_law) (defScope s_law) [] [] fa fd) (M_range : mg "range" = none) (M_max : mg "max" = none) (M_min : mg "min" = none) (M_len : mg "len" = none) (D__law_well : DefG P w K mg base 1 "_law_well" ["script", "place"] (spP K ca (aCons (cLK cI) (aOne cI)) (rO (oL cI)) F__law_well)) (D__law_right : DefG P w K mg base 5 "_law_right" ["well"] (spI K ca (oL cI) aNil (rV cB) F__law_right)) (hm : mg "law" = some (.ref fa)) : DefG P w K mg base 6 "law" ["script"] (spP K ca (aOne (cLK cI)) (rV cB) F_law) :=
  ⟨fa, fd, fn_P (as := (aOne (cLK cI))) (G0 := [sVal (cLK cI), sAny, sAny, sAny]) (ini := (fun y => (y, ((), ((), ((), ())))))) (fb := (fb_law A_Service ).1) F0 sc_law (by rfl) (fun L H vs y wf h => by obtain ⟨v1, rfl, h1⟩ := h; exact ⟨⟨v1, rfl, h1⟩, trivial, trivial, trivial, Nat.le_of_ble_eq_true (by rfl)⟩) (fun nd cd A outer s H E hr hgd => (fb_law A_Service ).2 M_range M_max M_min M_len D__law_well D__law_right fa nd cd A outer s H E hr hgd) (fun y => rfl), hm, F0.kp, (F0.bindsN (ps := ["script"]) fun _ _ _ _ _ _ us hl => match us, hl with | [_], _ => rfl), (kw_binds (ps := ["script"]) F0 fun _ _ _ _ _ _ us hl => match us, hl with | [_], _ => rfl)⟩
theorem okg_law {P : Program} {w : World} {K : Frag} {mg : Str → Option Value} {base : Heap} {ca : Str → Addr} {fa : Addr} {fd : FuncData} {A_Service : Addr} (F0 : FunD K "law" "law" (defArgs s_law) (defBody s_law) (defScope s_law) [] [] fa fd) (M_range : mg "range" = none) (M_max : mg "max" = none) (M_min : mg "min" = none) (M_len : mg "len" = none) (D__law_well : DefG P w K mg base 1 "_law_well" ["script", "place"] (spP K ca (aCons (cLK cI) (aOne cI)) (rO (oL cI)) F__law_well)) (D__law_right : DefG P w K mg base 5 "_law_right" ["well"] (spI K ca (oL cI) aNil (rV cB) F__law_right)) : FnG P w K mg base 6 fa fd ["script"] (spP K ca (aOne (cLK cI)) (rV cB) F_law) :=
  fn_P (as := (aOne (cLK cI))) (G0 := [sVal (cLK cI), sAny, sAny, sAny]) (ini := (fun y => (y, ((), ((), ((), ())))))) (fb := (fb_law A_Service ).1) F0 sc_law (by rfl) (fun L H vs y wf h => by obtain ⟨v1, rfl, h1⟩ := h; exact ⟨⟨v1, rfl, h1⟩, trivial, trivial, trivial, Nat.le_of_ble_eq_true (by rfl)⟩) (fun nd cd A outer s H E hr hgd => (fb_law A_Service ).2 M_range M_max M_min M_len D__law_well D__law_right fa nd cd A outer s H E hr hgd) (fun y => rfl)

end Pf
set_option maxRecDepth 100000
set_option linter.all false
namespace Pf
open PySem L2 PyProof AC
structure Wl (n : Nat) (w : List Int) : Prop where
  ex : ∃ a b c : Int, w = [a, b, c] ∧ 0 ≤ a ∧ 0 ≤ b ∧ b < 2 ^ 62 ∧ 0 ≤ c ∧ c ≤ n
theorem Wl.mono {n m : Nat} {w : List Int} (h : Wl n w) (hm : n ≤ m) : Wl m w := by
  obtain ⟨a, b, c, e, h1, h2, h3, h4, h5⟩ := h.ex
  exact ⟨a, b, c, e, h1, h2, h3, h4, by omega⟩
theorem powO3 {x : Int} {n : Nat} (h0 : 0 ≤ x) (h : x < 2 ^ n) (hn : 0 < n) (hl : n < 40000000) : powO x 3 = some (x ^ 3) := by
  have := log2_lt h0 h hn
  unfold powO
  rw [if_pos ⟨by decide, by unfold Builtin.Int.intBits; split <;> omega⟩]
  rfl
theorem mul_lt_pow {x y : Int} {n m : Nat} (hx : 0 ≤ x) (hx2 : x < 2 ^ n) (hy : 0 ≤ y) (hy2 : y < 2 ^ m) : 0 ≤ x * y ∧ x * y < 2 ^ (n + m) := by
  refine ⟨Int.mul_nonneg hx hy, ?_⟩
  rw [Int.pow_add]
  calc x * y ≤ x * 2 ^ m := Int.mul_le_mul_of_nonneg_left (by omega) hx
    _ < 2 ^ n * 2 ^ m := Int.mul_lt_mul_of_pos_right hx2 (Int.pow_pos (by decide))
theorem dip_ok {n : Nat} {w : List Int} {m : Int} (hw : Wl n w) (hn : n < 2 ^ 40) (h0 : 0 < m) (hm : m < 2 ^ 100) : Ok (F__law_dip w m) fun r => 0 ≤ r.1 ∧ r.1 < m ∧ Wl (n + 1) r.2 := by
  obtain ⟨a, b, c, rfl, ha, hb, hb2, hc, hc2⟩ := hw.ex
  unfold F__law_dip
  delta fb__law_dip
  dsimp only
  simp only [Res.bind_ok, Res.bind_assoc, Out.seq, Out.map, endV, ofO_some]
  refine ok_ofO (x := a) rfl ?_
  simp only [decide_eq_true_eq]
  by_cases hp : 0 < a
  · rw [if_pos hp]
    simp only [Res.bind_ok, Res.bind_assoc, Out.seq, Out.map, endV, ofO_some]
    refine ok_ofO (x := a) rfl ?_
    refine ok_ofO (modO_ok h0) ?_
    refine ok_ofO (x := a) rfl ?_
    refine ok_ofO (divO_ok h0 hm (by decide) (by decide)) ?_
    refine ok_ofO (x := [a / m, b, c]) rfl ?_
    exact ⟨Int.emod_nonneg _ (by omega), Int.emod_lt_of_pos _ h0, a / m, b, c, rfl, Int.ediv_nonneg ha (by omega), hb, hb2, hc, by omega⟩
  · rw [if_neg hp]
    simp only [Res.bind_ok, Res.bind_assoc, Out.seq, Out.map, endV, ofO_some]
    refine ok_ofO (x := c) rfl ?_
    refine ok_ofO (x := [a, b, c + 1]) rfl ?_
    refine ok_ofO (x := c + 1) rfl ?_
    refine ok_ofO (x := b) rfl ?_
    have q1 : c + 1 < 2 ^ 41 := by omega
    have q0 : 0 ≤ c + 1 := by omega
    have p1 := mul_lt_pow (n := 27) (m := 41) (x := 86028121) (by decide) (by decide) q0 q1
    refine ok_ofO (mulO_ok (n := 27) (m := 41) (by decide) (by decide) (by decide) q0 q1 (by decide) (by decide)) ?_
    have p2 := mul_lt_pow (n := 68) (m := 41) p1.1 p1.2 q0 q1
    refine ok_ofO (mulO_ok (n := 68) (m := 41) p1.1 p1.2 (by decide) q0 q1 (by decide) (by decide)) ?_
    have p3 : b + 86028121 * (c + 1) * (c + 1) < 2 ^ 110 := by omega
    refine ok_ofO (powO3 (n := 110) (by omega) p3 (by decide) (by decide)) ?_
    refine ok_ofO (modO_ok (by decide)) ?_
    generalize (b + 86028121 * (c + 1) * (c + 1)) ^ 3 = z1
    have r0 : 0 ≤ z1 % 618970019642690137449562111 := Int.emod_nonneg _ (by decide)
    have r1 : z1 % 618970019642690137449562111 < 2 ^ 89 := Int.lt_of_lt_of_le (Int.emod_lt_of_pos _ (by decide)) (by decide)
    generalize z1 % 618970019642690137449562111 = z2 at r0 r1
    have p4 := mul_lt_pow (n := 89) (m := 89) r0 r1 r0 r1
    refine ok_ofO (mulO_ok (n := 89) (m := 89) r0 r1 (by decide) r0 r1 (by decide) (by decide)) ?_
    have p5 := mul_lt_pow (n := 30) (m := 41) (x := 982451653) (by decide) (by decide) q0 q1
    refine ok_ofO (mulO_ok (n := 30) (m := 41) (by decide) (by decide) (by decide) q0 q1 (by decide) (by decide)) ?_
    have p6 : z2 * z2 + 982451653 * (c + 1) < 2 ^ 180 := by omega
    refine ok_ofO (powO3 (n := 180) (by omega) p6 (by decide) (by decide)) ?_
    refine ok_ofO (modO_ok (by decide)) ?_
    refine ok_ofO (divO_ok (m := 20) (by decide) (by decide) (by decide) (by decide)) ?_
    refine ok_ofO (modO_ok h0) ?_
    exact ⟨Int.emod_nonneg _ (by omega), Int.emod_lt_of_pos _ h0, a, b, c + 1, rfl, ha, hb, hb2, q0, by omega⟩
end Pf
set_option maxRecDepth 100000
set_option linter.all false
namespace Pf
open PySem L2 PyProof AC
def WORDS : List Str := ["off", "on", "look", "add", "a", "b", "early", "keyed", "ranks", "plain", "xylophon", "xylophom", "zz"]
theorem word_name : ∀ w ∈ WORDS, F_is_name w = .ok true := by
  intro w hw
  simp only [WORDS, List.mem_cons, List.not_mem_nil, or_false] at hw
  rcases hw with rfl | rfl | rfl | rfl | rfl | rfl | rfl | rfl | rfl | rfl | rfl | rfl | rfl <;> rfl
theorem check_names_ok {names : List Str} (hw : ∀ w ∈ names, w ∈ WORDS) (nd : names.Nodup) (hl : names.length ≤ 16777216) : F_check_names names = .ok () := by
  refine ok_eq (m := F_check_names names) (x := ()) ?_
  unfold F_check_names
  delta fb_check_names
  dsimp only
  simp only [Res.bind_ok, Res.bind_assoc, Out.seq, Out.map, endV, ofO_some, rng1_ok hl]
  refine ok_bind (ok_for (R := fun _ => False) (fun _ b => b = (names, (), ())) rfl ?_) ?_
  · intro i x b hx hb
    subst hb
    obtain ⟨rfl, hi⟩ := ints_get hx
    refine ok_ofO (atI_get (List.getElem?_eq_getElem hi)) ?_
    rw [word_name _ (hw _ (List.getElem_mem hi))]
    simp only [Res.bind_ok, Bool.not_true, Bool.false_eq_true, if_false]
    refine ok_bind (Q := fun o => o = .nx (names, (i : Int), ())) ?_ (fun o ho => by subst ho; exact rfl)
    refine ok_ofO (atI_get (List.getElem?_eq_getElem hi)) ?_
    rw [cut_take (by omega)]
    have hn : names[i] ∉ names.take i := fun hm => by
      obtain ⟨j, hj, e⟩ := List.mem_take_iff_getElem.mp hm
      have := nodup_get nd (List.getElem?_eq_some_iff.mpr ⟨by omega, e⟩) (List.getElem?_eq_getElem hi)
      omega
    simp only [decide_eq_false hn, Bool.false_eq_true, if_false, Res.bind_ok]
    exact ok_ok rfl
  · intro y hy
    cases y with
    | nx b => exact trivial
    | rt r => exact hy.elim
theorem well_ok {script : List Int} {place : Nat} (h : place < 2 ^ 30) : Ok (F__law_well (script, (place : Int))) fun r => Wl 0 r := by
  unfold F__law_well
  delta fb__law_well
  dsimp only
  simp only [Res.bind_ok, Res.bind_assoc, Out.seq, Out.map, endV, ofO_some]
  have key : ∀ z : Int, Ok (Res.bind (ofO (powO 10 18)) fun x => Res.bind (ofO (modO z 2305843009213693951)) fun x_1 => Res.bind (ofO (mulO 104729 ((place : Int) + 1))) fun x_2 => Res.ok [if (if z < 0 then -z else z) - x > 0 then (if z < 0 then -z else z) - x else 0, x_1 + x_2, 0]) fun r => Wl 0 r := fun z => by
    refine ok_ofO (x := 10 ^ 18) (by rfl) ?_
    refine ok_ofO (modO_ok (by decide)) ?_
    refine ok_ofO (mulO_ok (n := 17) (m := 31) (by decide) (by decide) (by decide) (by omega) (by omega) (by decide) (by decide)) ?_
    have h1 : 0 ≤ z % 2305843009213693951 := Int.emod_nonneg _ (by decide)
    have h2 : z % 2305843009213693951 < 2305843009213693951 := Int.emod_lt_of_pos _ (by decide)
    refine ⟨_, _, _, rfl, ?_, by omega, by omega, by omega, by omega⟩
    split <;> omega
  by_cases hp : (place : Int) < (script.length : Int)
  · simp only [decide_eq_true hp, if_true, Res.bind_assoc, Res.bind_ok]
    refine ok_ofO (atI_get (List.getElem?_eq_getElem (by omega))) ?_
    have := key script[place]
    exact this
  · simp only [decide_eq_false hp, Bool.false_eq_true, if_false, Res.bind_assoc, Res.bind_ok]
    have := key 0
    exact this
theorem words_ok {n c : Nat} {w : List Int} (hw : Wl n w) (hn : n + 100 < 2 ^ 40) (hc : c ≤ 13) : Ok (F__law_words w (c : Int)) fun r => r.1.length = c ∧ r.1.Nodup ∧ (∀ x ∈ r.1, x ∈ WORDS) ∧ Wl (n + c) r.2 := by
  unfold F__law_words
  delta fb__law_words
  dsimp only
  simp only [Res.bind_ok, Res.bind_assoc, Out.seq, Out.map, endV, ofO_some, rng1_ok (show c ≤ 16777216 by omega)]
  refine ok_bind (ok_for (R := fun _ => False) (fun i b => ∃ (w' : List Int) (left found : List Str), b = (w', (c : Int), left, found, (), (), ()) ∧ Wl (n + i) w' ∧ left.length = 13 - i ∧ found.length = i ∧ (found ++ left).Nodup ∧ (∀ x ∈ found ++ left, x ∈ WORDS)) ⟨w, WORDS, [], rfl, hw, rfl, rfl, by decide +kernel, fun x hx => hx⟩ ?_) ?_
  · rintro i x b hx ⟨w', left, found, rfl, h1, h2, h3, h4, h5⟩
    have hi : i < c := by
      have := (List.getElem?_eq_some_iff.mp hx).1
      rwa [intsFrom_len] at this
    dsimp only
    rw [h2]
    refine ok_bind (dip_ok h1 (by omega) (by omega) (by omega)) fun r ⟨q1, q2, q3⟩ => ?_
    obtain ⟨s, hs⟩ := Int.eq_ofNat_of_zero_le q1
    rw [hs] at q2 ⊢
    have hs2 : s < left.length := by omega
    refine ok_ofO (atI_get (List.getElem?_eq_getElem hs2)) ?_
    refine ok_ofO (appO_ok (by omega)) ?_
    rw [cut_take (by omega), show ((s : Int) + 1) = ((s + 1 : Nat) : Int) by omega, cut_drop (by omega)]
    refine ok_ofO (catO_ok (by rw [List.length_take, List.length_drop]; omega)) ?_
    have hp : (found ++ [left[s]] ++ (left.take s ++ left.drop (s + 1))).Perm (found ++ left) := by
      rw [List.append_assoc]
      refine List.Perm.append_left found ?_
      have e : left = left.take s ++ left[s] :: left.drop (s + 1) := by
        rw [← List.drop_eq_getElem_cons hs2, List.take_append_drop]
      exact ((List.perm_middle (a := left[s]) (l₁ := left.take s) (l₂ := left.drop (s + 1))).symm).trans (List.Perm.of_eq e.symm)
    refine ⟨r.2, _, _, rfl, q3, ?_, ?_, hp.nodup_iff.mpr h4, fun x hx => h5 x (hp.mem_iff.mp hx)⟩
    · rw [List.length_append, List.length_take, List.length_drop]; omega
    · rw [List.length_append, h3]; rfl
  · intro y hy
    cases y with
    | nx b =>
      obtain ⟨w', left, found, rfl, h1, h2, h3, h4, h5⟩ := hy
      rw [intsFrom_len] at h1 h3
      exact ⟨h3, (List.nodup_append.mp h4).1, fun x hx => h5 x (List.mem_append_left _ hx), h1⟩
    | rt r => exact hy.elim
end Pf
set_option maxRecDepth 100000
set_option linter.all false
namespace Pf
open PySem L2 PyProof AC
theorem at_some {α : Type} {xs : List α} {v : Int} (h0 : 0 ≤ v) (h : v < (xs.length : Int)) : ∃ z, atI xs v = some z ∧ xs[v.toNat]? = some z := by
  obtain ⟨k, rfl⟩ := Int.eq_ofNat_of_zero_le h0
  have hk : k < xs.length := by omega
  exact ⟨xs[k], atI_get (List.getElem?_eq_getElem hk), by simpa using List.getElem?_eq_getElem hk⟩
abbrev GoodCol (c : Nat) (col : List (Int × Option Int)) : Prop := col.length = c ∧ ∀ (i : Nat) (y : Int × Option Int), col[i]? = some y → 0 ≤ y.1 ∧ y.1 < (c : Int)
theorem column_ok {n c : Nat} {w : List Int} (hw : Wl n w) (hn : n + 1000 < 2 ^ 40) (hc1 : 1 ≤ c) (hc2 : c ≤ 25) : Ok (F__law_column w (c : Int)) fun r => GoodCol c r.1 ∧ Wl (n + 300) r.2 := by
  unfold F__law_column
  delta fb__law_column
  dsimp only
  simp only [Res.bind_ok, Res.bind_assoc, Out.seq, Out.map, endV, ofO_some, rng1_ok (show c ≤ 16777216 by omega)]
  refine ok_bind (dip_ok hw (by omega) (by decide) (by decide)) ?_
  rintro ⟨way, w1⟩ ⟨a1, a2, a3⟩
  refine ok_bind (dip_ok a3 (by omega) (by omega) (by omega)) ?_
  rintro ⟨goal, w2⟩ ⟨b1, b2, b3⟩
  dsimp only at *
  refine ok_bind (ok_map (fun i b => ∃ w' : List Int, b = (w', (c : Int), (), way, goal, (), (), ()) ∧ Wl (n + 2 + 3 * i) w') (fun _ _ => True) ⟨w2, rfl, b3⟩ ?_) ?_
  · rintro i x b hx ⟨w', rfl, h1⟩
    have hi := (ints_get hx).2
    dsimp only
    refine ok_bind (dip_ok h1 (by omega) (by decide) (by decide)) ?_
    rintro ⟨z1, v1⟩ ⟨d1, d2, d3⟩
    dsimp only at *
    refine ok_bind (dip_ok d3 (by omega) (by decide) (by decide)) ?_
    rintro ⟨z2, v2⟩ ⟨e1, e2, e3⟩
    dsimp only at *
    refine ok_bind (dip_ok e3 (by omega) (by decide) (by decide)) ?_
    rintro ⟨z3, v3⟩ ⟨f1, f2, f3⟩
    dsimp only at *
    obtain ⟨u, hu, _⟩ := at_some (xs := [none, some z1, some (z2 - 1000)]) f1 f2
    refine ok_ofO hu ?_
    exact ⟨trivial, v3, rfl, f3.mono (by omega)⟩
  rintro ⟨told, b⟩ ⟨t1, t2, w3, rfl, h3⟩
  rw [intsFrom_len] at t1 h3
  dsimp only at t1 ⊢
  by_cases q1 : way < 2
  · simp only [decide_eq_true q1, if_true, Res.bind_ok, Res.bind_assoc, rng1_ok (show c ≤ 16777216 by omega)]
    refine ok_bind (ok_map (fun i b => ∃ w' : List Int, b = (w', (c : Int), told, way, goal, (), (), ()) ∧ Wl (n + 2 + 3 * c + i) w') (fun _ y => y.1 = goal) ⟨w3, rfl, h3⟩ ?_) ?_
    · rintro i x b hx ⟨w', rfl, h1⟩
      have hi := (ints_get hx).2
      dsimp only
      refine ok_ofO (atI_get (i := 0) (List.getElem?_eq_getElem (by omega))) ?_
      refine ok_bind (dip_ok h1 (by omega) (by decide) (by decide)) ?_
      rintro ⟨z1, v1⟩ ⟨d1, d2, d3⟩
      dsimp only at *
      obtain ⟨u, hu, _⟩ := at_some (xs := [none, told[0]]) d1 d2
      refine ok_ofO hu ?_
      exact ⟨rfl, v1, rfl, d3⟩
    rintro ⟨col, b⟩ ⟨l1, l2, w4, rfl, h4⟩
    rw [intsFrom_len] at l1 h4
    exact ⟨⟨l1, fun i y hy => by rw [l2 i y hy]; exact ⟨b1, b2⟩⟩, h4.mono (by omega)⟩
  · simp only [decide_eq_false q1, Bool.false_eq_true, if_false, Res.bind_ok, Res.bind_assoc, Out.seq]
    by_cases q2 : way = 2
    · simp only [decide_eq_true q2, if_true, Res.bind_ok, Res.bind_assoc, rng1_ok (show c ≤ 16777216 by omega)]
      refine ok_bind (ok_map (fun i b => b = (w3, (c : Int), told, way, goal, (), (), ())) (fun i y => y.1 = (i : Int)) rfl ?_) ?_
      · rintro i x b hx rfl
        obtain ⟨rfl, hi⟩ := ints_get hx
        dsimp only
        refine ok_ofO (atI_get (List.getElem?_eq_getElem (by omega))) ?_
        obtain ⟨u, hu, _⟩ := at_some (xs := [some (i : Int), told[i]]) (v := if decide (0 < goal) = true then 1 else 0) (by split <;> omega) (by show _ < (2 : Int); split <;> omega)
        refine ok_ofO hu ?_
        exact ⟨rfl, rfl⟩
      rintro ⟨col, b⟩ ⟨l1, l2, rfl⟩
      rw [intsFrom_len] at l1
      exact ⟨⟨l1, fun i y hy => by
        have hi : i < col.length := (List.getElem?_eq_some_iff.mp hy).1
        have := l2 i y hy
        have hl : col.length = c := l1
        rw [this]; omega⟩, h3.mono (by omega)⟩
    · simp only [decide_eq_false q2, Bool.false_eq_true, if_false, Res.bind_ok, Res.bind_assoc, Out.seq]
      by_cases q3 : way < 5
      · simp only [decide_eq_true q3, if_true, Res.bind_ok, Res.bind_assoc, rng1_ok (show c ≤ 16777216 by omega)]
        refine ok_bind (dip_ok h3 (by omega) (by decide) (by decide)) ?_
        rintro ⟨st, w4⟩ ⟨d1, d2, d3⟩
        dsimp only at *
        refine ok_bind (ok_map (fun i b => b = (w4, (c : Int), told, way, goal, 1 + st, (), ())) (fun i y => 0 ≤ y.1 ∧ y.1 < (c : Int)) rfl ?_) ?_
        · rintro i x b hx rfl
          obtain ⟨rfl, hi⟩ := ints_get hx
          dsimp only
          refine ok_ofO (modO_ok (by omega)) ?_
          refine ok_ofO (modO_ok (by decide)) ?_
          obtain ⟨u, hu, _⟩ := at_some (xs := [none, none, some (i : Int)]) (v := goal % 3) (Int.emod_nonneg _ (by decide)) (Int.emod_lt_of_pos _ (by decide))
          refine ok_ofO hu ?_
          exact ⟨⟨Int.emod_nonneg _ (by omega), Int.emod_lt_of_pos _ (by omega)⟩, rfl⟩
        rintro ⟨col, b⟩ ⟨l1, l2, rfl⟩
        rw [intsFrom_len] at l1
        exact ⟨⟨l1, l2⟩, d3.mono (by omega)⟩
      · simp only [decide_eq_false q3, Bool.false_eq_true, if_false, Res.bind_ok, Res.bind_assoc, Out.seq, rng1_ok (show c ≤ 16777216 by omega)]
        refine ok_bind (ok_map (fun i b => ∃ w' : List Int, b = (w', (c : Int), told, way, goal, (), (), ()) ∧ Wl (n + 2 + 3 * c + i) w') (fun _ y => 0 ≤ y.1 ∧ y.1 < (c : Int)) ⟨w3, rfl, h3⟩ ?_) ?_
        · rintro i x b hx ⟨w', rfl, h1⟩
          obtain ⟨rfl, hi⟩ := ints_get hx
          dsimp only
          refine ok_bind (dip_ok h1 (by omega) (by omega) (by omega)) ?_
          rintro ⟨z1, v1⟩ ⟨d1, d2, d3⟩
          dsimp only at *
          refine ok_ofO (atI_get (List.getElem?_eq_getElem (by omega))) ?_
          exact ⟨⟨d1, d2⟩, v1, rfl, d3⟩
        rintro ⟨col, b⟩ ⟨l1, l2, w4, rfl, h4⟩
        rw [intsFrom_len] at l1 h4
        exact ⟨⟨l1, l2⟩, h4.mono (by omega)⟩
end Pf
set_option maxRecDepth 100000
set_option linter.all false
namespace Pf
open PySem L2 PyProof AC
abbrev Row := List (Int × Option Int)
theorem nodup_len {α : Type} [DecidableEq α] : ∀ {l s : List α}, l.Nodup → (∀ x ∈ l, x ∈ s) → l.length ≤ s.length
  | [], s, _, _ => Nat.zero_le _
  | x :: l, s, nd, h => by
    obtain ⟨h1, h2⟩ := List.nodup_cons.mp nd
    have hx := h x List.mem_cons_self
    have := nodup_len (l := l) (s := s.erase x) h2 fun y hy => (List.mem_erase_of_ne (fun e => h1 (by rw [← e]; exact hy))).mpr (h y (List.mem_cons_of_mem _ hy))
    rw [List.length_erase_of_mem hx] at this
    have : 0 < s.length := List.length_pos_of_mem hx
    rw [List.length_cons]; omega
def stp (o : List Int) (z : Int × Option Int) : List Int := if z.1 ∈ o then o else o ++ [z.1]
def grow (o : List Int) (row : Row) : List Int := row.foldl stp o
theorem stp_pre (o : List Int) (z : Int × Option Int) : o <+: stp o z := by
  unfold stp; split
  · exact List.prefix_rfl
  · exact List.prefix_append _ _
theorem grow_pre : ∀ (row : Row) (o : List Int), o <+: grow o row
  | [], o => List.prefix_rfl
  | z :: row, o => (stp_pre o z).trans (grow_pre row (stp o z))
theorem stp_nd {o : List Int} {z : Int × Option Int} (h : o.Nodup) : (stp o z).Nodup := by
  unfold stp; split
  · exact h
  · rename_i hz
    exact List.nodup_append.mpr ⟨h, by simp, fun a ha b hb e => hz (by
      have : b = z.1 := by simpa using hb
      rw [← this, ← e]; exact ha)⟩
theorem grow_nd : ∀ {row : Row} {o : List Int}, o.Nodup → (grow o row).Nodup
  | [], o, h => h
  | z :: row, o, h => grow_nd (row := row) (stp_nd h)
theorem stp_mem {o : List Int} {z : Int × Option Int} {P : Int → Prop} (h : ∀ x ∈ o, P x) (hz : P z.1) : ∀ x ∈ stp o z, P x := by
  unfold stp; split
  · exact h
  · intro x hx
    rcases List.mem_append.mp hx with q | q
    · exact h x q
    · have : x = z.1 := by simpa using q
      rw [this]; exact hz
theorem grow_mem {P : Int → Prop} : ∀ {row : Row} {o : List Int}, (∀ x ∈ o, P x) → (∀ z ∈ row, P z.1) → ∀ x ∈ grow o row, P x
  | [], o, h, _ => h
  | z :: row, o, h, hr => grow_mem (row := row) (stp_mem h (hr z List.mem_cons_self)) fun y hy => hr y (List.mem_cons_of_mem _ hy)
theorem grow_has : ∀ {row : Row} {o : List Int} {z : Int × Option Int}, z ∈ row → z.1 ∈ grow o row
  | y :: row, o, z, h => by
    rcases List.mem_cons.mp h with rfl | h
    · refine (grow_pre row _).subset ?_
      unfold stp; split
      · assumption
      · exact List.mem_append_right _ List.mem_cons_self
    · exact grow_has (row := row) h
theorem grow_snoc {row : Row} {o : List Int} {z : Int × Option Int} : grow o (row ++ [z]) = stp (grow o row) z := by
  unfold grow
  rw [List.foldl_append]
  rfl
/-- goals counted up as they come -/
def scan : Nat → Row → Option Nat
  | c, [] => some c
  | c, z :: row => if 0 ≤ z.1 ∧ z.1 < (c : Int) then scan c row else if z.1 = (c : Int) then scan (c + 1) row else none
/-- the places of F -/
theorem scan_grow {F : List Int} {ix : Int → Int} (hix : ∀ (i : Nat) g, F[i]? = some g → ix g = (i : Int)) : ∀ {row : Row} {o : List Int}, grow o row <+: F → scan o.length (row.map fun z => (ix z.1, z.2)) = some (grow o row).length
  | [], o, _ => rfl
  | z :: row, o, h => by
    have h1 : stp o z <+: F := (grow_pre row _).trans h
    have ih := scan_grow hix (row := row) (o := stp o z) h
    have at_ : ∀ (l : List Int), l <+: F → ∀ (i : Nat) g, l[i]? = some g → F[i]? = some g := fun l ⟨t, ht⟩ i g hg => by
      rw [← ht, List.getElem?_append_left (List.getElem?_eq_some_iff.mp hg).1]
      exact hg
    rw [List.map_cons]
    unfold scan
    dsimp only
    by_cases hm : z.1 ∈ o
    · have e : stp o z = o := by unfold stp; rw [if_pos hm]
      obtain ⟨i, hi, e2⟩ := List.mem_iff_getElem.mp hm
      have := hix i z.1 (at_ o ((stp_pre o z).trans h1) i z.1 (List.getElem?_eq_some_iff.mpr ⟨hi, e2⟩))
      rw [this, if_pos (by omega)]
      rw [e] at ih
      rw [ih]
      show _ = some (grow (stp o z) row).length
      rw [e]
    · have e : stp o z = o ++ [z.1] := by unfold stp; rw [if_neg hm]
      have := hix o.length z.1 (at_ _ h1 o.length z.1 (by rw [e, List.getElem?_append_right (Nat.le_refl _)]; simp))
      rw [this, if_neg (by omega), if_pos rfl]
      rw [e, List.length_append, List.length_singleton] at ih
      rw [ih]
      show _ = some (grow (stp o z) row).length
      rw [e]
/-- rows whose states are numbered as they are met -/
structure Canon (rows : List Row) : Prop where
  ex : ∃ cs : Nat → Nat, cs 0 = 1 ∧ (∀ i row, rows[i]? = some row → i < cs i ∧ scan (cs i) row = some (cs (i + 1))) ∧ cs rows.length = rows.length
structure GoodTab (n : Nat) (m : Nat) (tab : List Row) : Prop where
  len : tab.length = n
  row : ∀ r ∈ tab, r.length = m ∧ ∀ z ∈ r, 0 ≤ z.1 ∧ z.1 < (n : Int)
def rowOf (tab : List Row) (s : Int) : Row := (tab[s.toNat]?).getD []
def ords (tab : List Row) : Nat → List Int
  | 0 => [0]
  | j + 1 => match (ords tab j)[j]? with
    | some s => grow (ords tab j) (rowOf tab s)
    | none => ords tab j
theorem ords_pre1 (tab : List Row) (j : Nat) : ords tab j <+: ords tab (j + 1) := by
  show _ <+: (match (ords tab j)[j]? with
    | some s => grow (ords tab j) (rowOf tab s)
    | none => ords tab j)
  split
  · exact grow_pre _ _
  · exact List.prefix_rfl
theorem ords_pre (tab : List Row) {i j : Nat} (h : i ≤ j) : ords tab i <+: ords tab j := by
  induction j with
  | zero => rw [show i = 0 by omega]; exact List.prefix_rfl
  | succ j ih =>
    by_cases e : i = j + 1
    · rw [e]; exact List.prefix_rfl
    · exact (ih (by omega)).trans (ords_pre1 tab j)
theorem ords_nd (tab : List Row) : ∀ j, (ords tab j).Nodup
  | 0 => by simp [ords]
  | j + 1 => by
    show (match (ords tab j)[j]? with
      | some s => grow (ords tab j) (rowOf tab s)
      | none => ords tab j).Nodup
    split
    · exact grow_nd (ords_nd tab j)
    · exact ords_nd tab j
section
variable {tab : List Row} {n m : Nat}
theorem row_in (T : GoodTab n m tab) {s : Int} : ∀ z ∈ rowOf tab s, 0 ≤ z.1 ∧ z.1 < (n : Int) := by
  unfold rowOf
  cases e : tab[s.toNat]? with
  | none => intro z hz; cases hz
  | some r => exact (T.row r (List.mem_of_getElem? e)).2
theorem ords_in (T : GoodTab n m tab) (hn : 0 < n) : ∀ j, ∀ x ∈ ords tab j, 0 ≤ x ∧ x < (n : Int)
  | 0 => by intro x hx; have : x = 0 := by simpa [ords] using hx
            omega
  | j + 1 => by
    show ∀ x ∈ (match (ords tab j)[j]? with
      | some s => grow (ords tab j) (rowOf tab s)
      | none => ords tab j), _
    split
    · exact grow_mem (ords_in T hn j) (row_in T)
    · exact ords_in T hn j
theorem ords_len (T : GoodTab n m tab) (hn : 0 < n) (j : Nat) : (ords tab j).length ≤ n := by
  have := nodup_len (s := intsFrom 0 n) (ords_nd tab j) fun x hx => by
    obtain ⟨h1, h2⟩ := ords_in T hn j x hx
    obtain ⟨k, rfl⟩ := Int.eq_ofNat_of_zero_le h1
    have := intsFrom_get (m := 0) (show k < n by omega)
    rw [Int.zero_add] at this
    exact List.mem_of_getElem? this
  rwa [intsFrom_len] at this
theorem ords_stop {j : Nat} (h : (ords tab j).length ≤ j) : ∀ k, j ≤ k → ords tab k = ords tab j
  | 0, hk => by rw [show j = 0 by omega]
  | k + 1, hk => by
    by_cases e : j = k + 1
    · rw [e]
    · have ih := ords_stop h k (by omega)
      show (match (ords tab k)[k]? with
        | some s => grow (ords tab k) (rowOf tab s)
        | none => ords tab k) = _
      rw [ih, List.getElem?_eq_none (by omega)]
theorem ords_go {j k : Nat} (hjk : j ≤ k) (h : j < (ords tab k).length) : j < (ords tab j).length := by
  rcases Nat.lt_or_ge j (ords tab j).length with q | q
  · exact q
  · rw [ords_stop q k hjk] at h; omega
theorem pre_get {l F : List Int} (h : l <+: F) {i : Nat} {g : Int} (hg : l[i]? = some g) : F[i]? = some g := by
  obtain ⟨t, ht⟩ := h
  rw [← ht, List.getElem?_append_left (List.getElem?_eq_some_iff.mp hg).1]
  exact hg
/-- the rows of what is reached are numbered as they are met -/
theorem canon_of (T : GoodTab n m tab) (hn : 0 < n) {ix : Int → Int} (hix : ∀ (i : Nat) g, (ords tab n)[i]? = some g → ix g = (i : Int)) : Canon ((ords tab n).map fun s => (rowOf tab s).map fun z => (ix z.1, z.2)) := by
  refine ⟨fun j => (ords tab j).length, rfl, fun i row hr => ?_, ?_⟩
  · rw [List.getElem?_map] at hr
    cases e : (ords tab n)[i]? with
    | none => rw [e] at hr; cases hr
    | some s =>
      rw [e] at hr
      cases hr
      have hl := (List.getElem?_eq_some_iff.mp e).1
      have hln := ords_len T hn n
      have h1 := ords_go (j := i) (k := n) (by omega) hl
      refine ⟨h1, ?_⟩
      have e1 : (ords tab i)[i]? = some s := by
        have := pre_get (ords_pre tab (show i ≤ n by omega)) (List.getElem?_eq_getElem h1)
        rw [List.getElem?_eq_getElem h1, ← this, e]
      have e2 : ords tab (i + 1) = grow (ords tab i) (rowOf tab s) := by
        show (match (ords tab i)[i]? with
          | some s => grow (ords tab i) (rowOf tab s)
          | none => ords tab i) = _
        rw [e1]
      show scan (ords tab i).length _ = some (ords tab (i + 1)).length
      rw [e2]
      refine scan_grow hix ?_
      rw [← e2]
      exact ords_pre tab (by omega)
  · rw [List.length_map]
    have hln := ords_len T hn n
    have hp := (ords_pre tab hln).length_le
    rcases Nat.lt_or_ge (ords tab (ords tab n).length).length (ords tab n).length with q | q
    · have := ords_stop (tab := tab) (j := (ords tab n).length) (by omega) n hln
      rw [← this] at q
      have e : (ords tab (ords tab n).length).length = (ords tab n).length := by rw [← this]
      omega
    · exact Nat.le_antisymm hp q
end
end Pf
set_option maxRecDepth 100000
set_option linter.all false
namespace Pf
open PySem L2 PyProof AC
theorem atI_row {tab : List Row} {n m : Nat} (T : GoodTab n m tab) {s : Int} (h0 : 0 ≤ s) (h : s < (n : Int)) : atI tab s = some (rowOf tab s) ∧ rowOf tab s ∈ tab := by
  have hl := T.len
  have hk : s.toNat < tab.length := by omega
  have e : tab[s.toNat]? = some tab[s.toNat] := List.getElem?_eq_getElem hk
  unfold rowOf
  rw [e]
  exact ⟨atI_i h0 e, List.getElem_mem hk⟩
theorem reached_ok {tab : List Row} {n m : Nat} (T : GoodTab n m tab) (hn : 0 < n) (hn2 : n ≤ 25) (hm : m ≤ 11) : Ok (F__law_reached tab) fun rows => Canon rows ∧ 1 ≤ rows.length ∧ rows.length ≤ n ∧ GoodTab rows.length m rows := by
  unfold F__law_reached
  delta fb__law_reached
  dsimp only
  have hl := T.len
  simp only [Res.bind_ok, Res.bind_assoc, Out.seq, Out.map, endV, ofO_some, rng1_ok (show tab.length ≤ 16777216 by omega)]
  refine ok_bind (ok_for (R := fun _ => False) (fun i b => b = (tab, (), ords tab i, (ords tab i).take i, (), (), (), ())) rfl ?_) ?_
  · rintro i x b hx rfl
    obtain ⟨rfl, hi⟩ := ints_get hx
    dsimp only
    have hlen := ords_len T hn i
    by_cases hc : i < (ords tab i).length
    · have hc' : ((i : Int) < ((ords tab i).length : Int)) := by omega
      simp only [decide_eq_true hc', if_true, Res.bind_assoc]
      have e1 : (ords tab i)[i]? = some (ords tab i)[i] := List.getElem?_eq_getElem hc
      generalize hs : (ords tab i)[i] = s at e1
      have e2 : ords tab (i + 1) = grow (ords tab i) (rowOf tab s) := by
        show (match (ords tab i)[i]? with
          | some s => grow (ords tab i) (rowOf tab s)
          | none => ords tab i) = _
        rw [e1]
      obtain ⟨s0, s1⟩ := ords_in T hn i s (List.mem_of_getElem? e1)
      obtain ⟨r1, r2⟩ := atI_row T s0 s1
      have rl := (T.row _ r2).1
      refine ok_ofO (atI_get e1) ?_
      refine ok_ofO r1 ?_
      refine ok_bind (ok_for (R := fun _ => False) (fun j b => b = (tab, (i : Int), grow (ords tab i) ((rowOf tab s).take j), (ords tab i).take i, (), (), (), ())) rfl ?_) ?_
      · rintro j z b hz rfl
        have ht : (rowOf tab s).take (j + 1) = (rowOf tab s).take j ++ [z] := by rw [List.take_succ, hz]; rfl
        dsimp only
        rw [ht, grow_snoc]
        have hb : (grow (ords tab i) ((rowOf tab s).take j)).length ≤ n := by
          have := nodup_len (s := intsFrom 0 n) (grow_nd (row := (rowOf tab s).take j) (ords_nd tab i)) fun x hx => by
            obtain ⟨h1, h2⟩ := grow_mem (P := fun x => 0 ≤ x ∧ x < (n : Int)) (ords_in T hn i) (fun z hz => row_in T z (List.mem_of_mem_take hz)) x hx
            obtain ⟨k, rfl⟩ := Int.eq_ofNat_of_zero_le h1
            have := intsFrom_get (m := 0) (show k < n by omega)
            rw [Int.zero_add] at this
            exact List.mem_of_getElem? this
          rwa [intsFrom_len] at this
        unfold stp
        by_cases hm : z.1 ∈ grow (ords tab i) ((rowOf tab s).take j)
        · simp only [decide_eq_true hm, Bool.not_true, Bool.false_eq_true, if_false, Res.bind_ok, if_pos hm]
          exact rfl
        · simp only [decide_eq_false hm, Bool.not_false, if_true, if_neg hm, Res.bind_assoc]
          refine ok_ofO (appO_ok (by omega)) ?_
          exact rfl
      · rintro (b | r) hy
        · have hy : b = (tab, (i : Int), grow (ords tab i) ((rowOf tab s).take (rowOf tab s).length), (ords tab i).take i, (), (), (), ()) := hy
          subst hy
          rw [List.take_length, ← e2]
          simp only [Out.seq]
          refine ok_bind (Q := fun o => o = .nx (tab, (i : Int), ords tab (i + 1), (ords tab (i + 1)).take (i + 1), (), (), (), ())) ?_ (fun o ho => by subst ho; exact rfl)
          have e3 := pre_get (ords_pre1 tab i) e1
          refine ok_ofO (atI_get e3) ?_
          refine ok_ofO (appO_ok (by rw [List.length_take]; omega)) ?_
          have t1 : (ords tab (i + 1)).take (i + 1) = (ords tab i).take i ++ [s] := by
            rw [List.take_succ, e3]
            obtain ⟨t, ht⟩ := ords_pre1 tab i
            rw [← ht, List.take_append_of_le_length (by omega)]
            rfl
          rw [t1]
          exact rfl
        · exact hy.elim
    · have hc' : ¬ ((i : Int) < ((ords tab i).length : Int)) := by omega
      simp only [decide_eq_false hc', Bool.false_eq_true, if_false, Res.bind_ok]
      have e2 := ords_stop (tab := tab) (j := i) (by omega) (i + 1) (by omega)
      rw [e2, List.take_of_length_le (by omega), List.take_of_length_le (by omega)]
      exact rfl
  · rintro (b | r) hy
    · have hy : b = (tab, (), ords tab (intsFrom 0 tab.length).length, (ords tab (intsFrom 0 tab.length).length).take (intsFrom 0 tab.length).length, (), (), (), ()) := hy
      rw [intsFrom_len, hl] at hy
      have hlen := ords_len T hn n
      rw [List.take_of_length_le hlen] at hy
      subst hy
      dsimp only
      have hix : ∀ (i : Nat) g, (ords tab n)[i]? = some g → (idxO PyData.int PyData.int (ords tab n) g).getD 0 = (i : Int) := fun i g hg => by
        rw [idx_at eqvt_int (ords_nd tab n) hg]; rfl
      have cn := canon_of T hn hix
      have has : ∀ s ∈ ords tab n, ∀ z ∈ rowOf tab s, z.1 ∈ ords tab n := fun s hs z hz => by
        obtain ⟨i, hi, e⟩ := List.mem_iff_getElem.mp hs
        have h1 := ords_go (j := i) (k := n) (by omega) hi
        have e1 : (ords tab i)[i]? = some s := by
          have := pre_get (ords_pre tab (show i ≤ n by omega)) (List.getElem?_eq_getElem h1)
          rw [List.getElem?_eq_getElem h1, ← this, ← e, List.getElem?_eq_getElem hi]
        have e2 : ords tab (i + 1) = grow (ords tab i) (rowOf tab s) := by
          show (match (ords tab i)[i]? with
            | some s => grow (ords tab i) (rowOf tab s)
            | none => ords tab i) = _
          rw [e1]
        refine (ords_pre tab (show i + 1 ≤ n by omega)).subset ?_
        rw [e2]
        exact grow_has hz
      refine ok_bind (ok_bind (ok_mapP (fun s => (rowOf tab s).map fun z => ((idxO PyData.int PyData.int (ords tab n) z.1).getD 0, z.2)) ?_) (fun z hz => by subst hz; exact (rfl : _ = Out.rt ((ords tab n).map fun s => (rowOf tab s).map fun z => ((idxO PyData.int PyData.int (ords tab n) z.1).getD 0, z.2))))) ?_
      · intro s hs
        obtain ⟨s0, s1⟩ := ords_in T hn n s hs
        refine ok_ofO (atI_row T s0 s1).1 ?_
        refine ok_bind (ok_mapP (fun z => ((idxO PyData.int PyData.int (ords tab n) z.1).getD 0, z.2)) ?_) (fun z hz => by subst hz; exact rfl)
        intro z hz
        obtain ⟨k, hk, e⟩ := List.mem_iff_getElem.mp (has s hs z hz)
        have := idx_at eqvt_int (ords_nd tab n) (List.getElem?_eq_some_iff.mpr ⟨hk, e⟩)
        refine ok_ofO this ?_
        rw [this]
        exact rfl
      rintro _ rfl
      show (Canon _ ∧ _ ∧ _ ∧ _)
      refine ⟨cn, ?_, ?_, ?_⟩
      · rw [List.length_map]
        exact (ords_pre tab (Nat.zero_le n)).length_le
      · rw [List.length_map]; exact hlen
      · refine ⟨rfl, fun r hr => ?_⟩
        obtain ⟨s, hs, rfl⟩ := List.mem_map.mp hr
        obtain ⟨s0, s1⟩ := ords_in T hn n s hs
        refine ⟨by rw [List.length_map]; exact (T.row _ (atI_row T s0 s1).2).1, fun z hz => ?_⟩
        obtain ⟨y, hy, rfl⟩ := List.mem_map.mp hz
        obtain ⟨k, hk, e⟩ := List.mem_iff_getElem.mp (has s hs y hy)
        have := hix k y.1 (List.getElem?_eq_some_iff.mpr ⟨hk, e⟩)
        dsimp only
        rw [this, List.length_map]
        omega
    · exact hy.elim
end Pf
set_option maxRecDepth 100000
set_option linter.all false
namespace Pf
open PySem L2 PyProof AC
structure GoodPlan (plan : List Str × List Row) : Prop where
  len : plan.1.length ≤ 11
  pos : 1 ≤ plan.1.length
  nd : plan.1.Nodup
  words : ∀ x ∈ plan.1, x ∈ WORDS
  canon : Canon plan.2
  cnt : 1 ≤ plan.2.length ∧ plan.2.length ≤ 25
  tab : GoodTab plan.2.length plan.1.length plan.2
theorem plan_ok {n : Nat} {w : List Int} {sm cm : Int} (hw : Wl n w) (hn : n + 10000 < 2 ^ 40) (h1 : 0 < sm) (h2 : sm ≤ 25) (h3 : 0 < cm) (h4 : cm ≤ 11) : Ok (F__law_plan w (sm, cm)) fun r => GoodPlan r.1 ∧ Wl (n + 4000) r.2 := by
  unfold F__law_plan
  delta fb__law_plan
  dsimp only
  simp only [Res.bind_ok, Res.bind_assoc, Out.seq, Out.map, endV, ofO_some]
  refine ok_bind (dip_ok hw (by omega) h1 (by omega)) ?_
  rintro ⟨k1, w1⟩ ⟨a1, a2, a3⟩
  dsimp only at *
  refine ok_bind (dip_ok a3 (by omega) h3 (by omega)) ?_
  rintro ⟨k2, w2⟩ ⟨b1, b2, b3⟩
  dsimp only at *
  obtain ⟨c, hc⟩ : ∃ c : Nat, 1 + k1 = (c : Int) := ⟨(1 + k1).toNat, by omega⟩
  obtain ⟨m, hm⟩ : ∃ m : Nat, 1 + k2 = (m : Int) := ⟨(1 + k2).toNat, by omega⟩
  rw [hc, hm]
  simp only [rng1_ok (show m ≤ 16777216 by omega), Res.bind_ok]
  refine ok_bind (ok_map (fun i b => ∃ w' : List Int, b = (w', sm, cm, (), (), (c : Int), (m : Int), (), (), (), ()) ∧ Wl (n + 2 + 300 * i) w') (fun _ col => GoodCol c col) ⟨w2, rfl, b3⟩ ?_) ?_
  · rintro i x b hx ⟨w', rfl, h⟩
    obtain ⟨rfl, hi⟩ := ints_get hx
    dsimp only
    refine ok_bind (column_ok h (by omega) (by omega) (by omega)) ?_
    rintro ⟨col, v⟩ ⟨d1, d2⟩
    exact ⟨d1, v, rfl, d2⟩
  rintro ⟨cols, b⟩ ⟨l1, l2, w3, rfl, h5⟩
  rw [intsFrom_len] at l1 h5
  dsimp only at l1 l2 ⊢
  simp only [rng1_ok (show c ≤ 16777216 by omega), Res.bind_ok]
  refine ok_bind (ok_mapP (fun s => cols.map fun col => (col[s.toNat]?).getD (0, none)) ?_) ?_
  · intro s hs
    obtain ⟨i, hi, e⟩ := List.mem_iff_getElem.mp hs
    obtain ⟨rfl, hi⟩ := ints_get (List.getElem?_eq_some_iff.mpr ⟨hi, e⟩)
    refine ok_bind (ok_mapP (fun col => (col[i]?).getD (0, none)) ?_) (fun z hz => by subst hz; exact rfl)
    intro col hcol
    obtain ⟨j, hj, e⟩ := List.mem_iff_getElem.mp hcol
    have gc := l2 j col (List.getElem?_eq_some_iff.mpr ⟨hj, e⟩)
    have e1 : col[i]? = some col[i] := List.getElem?_eq_getElem (by have := gc.1; omega)
    refine ok_ofO (atI_get e1) ?_
    rw [e1]
    exact rfl
  rintro _ rfl
  dsimp only
  have T : GoodTab c m ((intsFrom 0 c).map fun s => cols.map fun col => (col[s.toNat]?).getD (0, none)) := by
    refine ⟨by rw [List.length_map, intsFrom_len], fun r hr => ?_⟩
    obtain ⟨s, hs, rfl⟩ := List.mem_map.mp hr
    obtain ⟨i, hi, e⟩ := List.mem_iff_getElem.mp hs
    obtain ⟨rfl, hi⟩ := ints_get (List.getElem?_eq_some_iff.mpr ⟨hi, e⟩)
    refine ⟨by rw [List.length_map]; exact l1, fun z hz => ?_⟩
    obtain ⟨col, hcol, rfl⟩ := List.mem_map.mp hz
    obtain ⟨j, hj, e⟩ := List.mem_iff_getElem.mp hcol
    have gc := l2 j col (List.getElem?_eq_some_iff.mpr ⟨hj, e⟩)
    have e1 : col[i]? = some col[i] := List.getElem?_eq_getElem (by have := gc.1; omega)
    rw [show ((i : Int)).toNat = i from rfl, e1]
    exact gc.2 i _ e1
  refine ok_bind (words_ok (c := m) h5 (by omega) (by omega)) ?_
  rintro ⟨ws, w4⟩ ⟨q1, q2, q3, q4⟩
  dsimp only at *
  refine ok_bind (reached_ok T (by omega) (by omega) (by omega)) ?_
  rintro rows ⟨r1, r2, r3, r4⟩
  exact ⟨⟨by show ws.length ≤ 11; omega, by show 1 ≤ ws.length; omega, q2, q3, r1, ⟨r2, by show rows.length ≤ 25; omega⟩, by show GoodTab rows.length ws.length rows; rw [q1]; exact r4⟩, q4.mono (by omega)⟩
theorem more_ok {n : Nat} {w : List Int} {plan : List Str × List Row} (hw : Wl n w) (hn : n + 10000 < 2 ^ 40) (g : GoodPlan plan) : Ok (F__law_more w plan) fun r => (∃ ex : List Row, r.1 = plan.2 ++ ex ∧ ex.length ≤ 1 ∧ ∀ x ∈ ex, x.length = plan.1.length ∧ ∀ z ∈ x, 0 ≤ z.1 ∧ z.1 < (plan.2.length : Int) + ex.length) ∧ Wl (n + 100) r.2 := by
  obtain ⟨ws, rows⟩ := plan
  unfold F__law_more
  delta fb__law_more
  dsimp only
  simp only [Res.bind_ok, Res.bind_assoc, Out.seq, Out.map, endV, ofO_some]
  have hl := g.len
  have hc := g.cnt
  dsimp only at hl hc
  refine ok_bind (ok_map (fun i b => ∃ w' : List Int, b = (w', (ws, rows), (rows.length : Int), (), (), (), ()) ∧ Wl (n + 2 * i) w') (fun _ y => 0 ≤ y.1 ∧ y.1 < (rows.length : Int) + 1) ⟨w, rfl, hw⟩ ?_) ?_
  · rintro i x b hx ⟨w', rfl, h⟩
    have hi := (List.getElem?_eq_some_iff.mp hx).1
    dsimp only
    refine ok_bind (dip_ok h (by omega) (by omega) (by omega)) ?_
    rintro ⟨z1, v1⟩ ⟨d1, d2, d3⟩
    dsimp only at *
    refine ok_bind (dip_ok d3 (by omega) (by decide) (by decide)) ?_
    rintro ⟨z2, v2⟩ ⟨e1, e2, e3⟩
    exact ⟨⟨d1, d2⟩, v2, rfl, e3⟩
  rintro ⟨more, b⟩ ⟨l1, l2, w1, rfl, h1⟩
  dsimp only at l1 l2 ⊢
  refine ok_bind (ok_mapP (fun r => r) ?_) ?_
  · intro r hr; exact rfl
  rintro _ rfl
  dsimp only
  rw [List.map_id']
  refine ok_bind (dip_ok h1 (by omega) (by decide) (by decide)) ?_
  rintro ⟨z, w2⟩ ⟨f1, f2, f3⟩
  dsimp only at *
  have fin : ∀ ex : List Row, ex = [] ∨ ex = [more] → Ok (Res.bind (ofO (catO rows ex)) fun x_3 => Res.ok (x_3, w2)) fun r => (∃ ex : List Row, r.1 = rows ++ ex ∧ ex.length ≤ 1 ∧ ∀ x ∈ ex, x.length = ws.length ∧ ∀ z ∈ x, 0 ≤ z.1 ∧ z.1 < (rows.length : Int) + ex.length) ∧ Wl (n + 100) r.2 := by
    intro ex hex
    have he : ex.length ≤ 1 := by rcases hex with rfl | rfl <;> simp
    refine ok_ofO (catO_ok (by omega)) ?_
    refine ⟨⟨ex, rfl, he, fun x hx => ?_⟩, f3.mono (by omega)⟩
    rcases hex with rfl | rfl
    · cases hx
    · have : x = more := by simpa using hx
      subst this
      refine ⟨l1, fun z hz => ?_⟩
      obtain ⟨i, hi, e⟩ := List.mem_iff_getElem.mp hz
      exact l2 i z (List.getElem?_eq_some_iff.mpr ⟨hi, e⟩)
  by_cases hz : z = 0
  · simp only [decide_eq_true hz, if_true, Res.bind_ok, Res.bind_assoc]
    by_cases hq : ((rows.length : Int) ∈ ([5, 25] : List Int))
    · rw [show (!decide ((rows.length : Int) ∈ id ([5, 25] : List Int))) = false by rw [show id ([5, 25] : List Int) = [5, 25] from rfl, decide_eq_true hq]; rfl]
      simp only [Bool.false_eq_true, if_false, Res.bind_ok]
      exact fin [] (.inl rfl)
    · rw [show (!decide ((rows.length : Int) ∈ id ([5, 25] : List Int))) = true by rw [show id ([5, 25] : List Int) = [5, 25] from rfl, decide_eq_false hq]; rfl]
      simp only [if_true, Res.bind_ok]
      exact fin [more] (.inr rfl)
  · simp only [decide_eq_false hz, Bool.false_eq_true, if_false, Res.bind_ok, Res.bind_assoc]
    exact fin [] (.inl rfl)
end Pf
set_option maxRecDepth 100000
set_option linter.all false
namespace Pf
open PySem L2 PyProof AC
theorem check_table_ok {names : List Str} {tab : List Row} (hl : tab.length ≤ 100) (h : ∀ r ∈ tab, r.length = names.length ∧ ∀ z ∈ r, 0 ≤ z.1 ∧ z.1 < (tab.length : Int)) : F_check_table (names, tab) = .ok () := by
  refine ok_eq (m := F_check_table (names, tab)) (x := ()) ?_
  unfold F_check_table
  delta fb_check_table
  dsimp only
  simp only [Res.bind_ok, Res.bind_assoc, Out.seq, Out.map, endV, ofO_some, rng1_ok (show tab.length ≤ 16777216 by omega)]
  refine ok_bind (ok_for (R := fun _ => False) (fun i b => b = (names, tab, (), (), (), ())) rfl ?_) ?_
  · rintro i x b hx rfl
    obtain ⟨rfl, hi⟩ := ints_get hx
    have e1 : tab[i]? = some tab[i] := List.getElem?_eq_getElem hi
    obtain ⟨h1, h2⟩ := h _ (List.getElem_mem hi)
    dsimp only
    refine ok_ofO (atI_get e1) ?_
    have h3 : ((tab[i].length : Nat) : Int) = ((names.length : Nat) : Int) := by omega
    simp only [decide_eq_true h3, Bool.not_true, Bool.false_eq_true, if_false, Res.bind_ok]
    refine ok_bind (Q := fun o => o = .nx (names, tab, (i : Int), (), (), ())) ?_ (fun o ho => by subst ho; exact rfl)
    refine ok_ofO (atI_get e1) ?_
    refine (ok_for (R := fun _ => False) (fun j b => b = (names, tab, (i : Int), (), (), ())) rfl ?_).imp ?_
    · rintro j z b hz rfl
      obtain ⟨z0, z1⟩ := h2 z (List.mem_of_getElem? hz)
      dsimp only
      simp only [decide_eq_true z0, decide_eq_true z1, if_true, Res.bind_ok, Bool.not_true, Bool.false_eq_true, if_false]
      exact rfl
    · rintro (b | r) hb
      · have hb : b = (names, tab, (i : Int), (), (), ()) := hb
        subst hb
        exact rfl
      · exact hb.elim
  · rintro (b | r) hy
    · exact trivial
    · exact hy.elim
theorem scan_le : ∀ {row : Row} {c c' : Nat}, scan c row = some c' → c ≤ c'
  | [], c, c', h => by cases h; exact Nat.le_refl _
  | z :: row, c, c', h => by
    unfold scan at h
    split at h
    · exact scan_le h
    · split at h
      · exact Nat.le_of_succ_le (scan_le h)
      · cases h
def idm (c : Nat) : List (Int × Int) := (intsFrom 0 c).map fun x => (x, x)
theorem ints_snoc (c : Nat) : AC.intsFrom 0 (c + 1) = AC.intsFrom 0 c ++ [(c : Int)] := by
  unfold AC.intsFrom
  rw [List.range_succ, List.map_append]
  simp
theorem idm_snoc (c : Nat) : idm (c + 1) = idm c ++ [((c : Int), (c : Int))] := by
  unfold idm
  rw [ints_snoc, List.map_append]
  rfl
theorem idm_len (c : Nat) : (idm c).length = c := by unfold idm; rw [List.length_map, intsFrom_len]
theorem getD_snoc {xs : List (Int × Int)} {k v g : Int} : getD (xs ++ [(k, v)]) g = match getD xs g with | some z => some z | none => if k = g then some v else none := by
  unfold getD
  rw [List.find?_append]
  cases xs.find? fun e => decide (e.1 = g) with
  | some z => rfl
  | none =>
    by_cases e : k = g
    · simp [e]
    · simp [e]
theorem getD_idm : ∀ (c : Nat) (g : Int), getD (idm c) g = if 0 ≤ g ∧ g < (c : Int) then some g else none
  | 0, g => by
    have : idm 0 = [] := rfl
    rw [this, if_neg (by omega)]
    rfl
  | c + 1, g => by
    rw [idm_snoc, getD_snoc, getD_idm c g]
    by_cases h : 0 ≤ g ∧ g < (c : Int)
    · rw [if_pos h]
      show some g = _
      rw [if_pos (by omega)]
    · rw [if_neg h]
      show (if (c : Int) = g then some (c : Int) else none) = _
      by_cases e : (c : Int) = g
      · rw [if_pos e, if_pos (by omega), e]
      · rw [if_neg e, if_neg (by omega)]
theorem putO_idm {c : Nat} (h : c < 16777216) : putO (idm c) (c : Int) (c : Int) = some (idm (c + 1)) := by
  unfold putO
  rw [idm_len, if_pos h, idm_snoc]
  congr 1
  unfold putD
  rw [if_neg]
  intro ha
  obtain ⟨e, he, h2⟩ := List.any_eq_true.mp ha
  unfold idm at he
  obtain ⟨x, hx, rfl⟩ := List.mem_map.mp he
  obtain ⟨i, hi, e⟩ := List.mem_iff_getElem.mp hx
  obtain ⟨rfl, hi⟩ := ints_get (List.getElem?_eq_some_iff.mpr ⟨hi, e⟩)
  have : (i : Int) = (c : Int) := by simpa using h2
  omega
theorem table_reached_ok {rows ex : List Row} (cn : Canon rows) (h25 : rows.length ≤ 25) (hr : ∀ r ∈ rows, r.length ≤ 11) : F_table_reached (rows ++ ex) = .ok rows := by
  obtain ⟨cs, c0, c1, c2⟩ := cn.ex
  have mono : ∀ i, i ≤ rows.length → cs i ≤ rows.length := by
    intro i hi
    have key : ∀ k, i + k ≤ rows.length → cs i ≤ cs (i + k) := by
      intro k
      induction k with
      | zero => intro _; exact Nat.le_refl _
      | succ k ih =>
        intro hk
        have := c1 (i + k) _ (List.getElem?_eq_getElem (by omega))
        exact Nat.le_trans (ih (by omega)) (scan_le this.2)
    have := key (rows.length - i) (by omega)
    rw [show i + (rows.length - i) = rows.length by omega, c2] at this
    exact this
  refine ok_eq ?_
  unfold F_table_reached
  delta fb_table_reached
  dsimp only
  simp only [Res.bind_ok, Res.bind_assoc, Out.seq, Out.map, endV, ofO_some]
  rw [if_pos (by decide)]
  simp only [Res.bind_ok]
  refine ok_bind (ok_while (R := fun _ => False) (E := fun b => b.2.2.2.1 = rows) (fun k b => ∃ i, k = rows.length - i ∧ i ≤ rows.length ∧ b = (rows ++ ex, idm (cs i), intsFrom 0 (cs i), rows.take i, (), (), (), ())) rows.length ⟨0, rfl, Nat.zero_le _, by rw [c0]; rfl⟩ (by omega) ?_) ?_
  · rintro k b ⟨i, rfl, hi, rfl⟩
    dsimp only
    rw [intsFrom_len, List.length_take, Nat.min_eq_left hi]
    by_cases hlt : i < rows.length
    · have e1 : rows[i]? = some rows[i] := List.getElem?_eq_getElem hlt
      generalize hrow : rows[i] = row at e1
      obtain ⟨d1, d2⟩ := c1 i row e1
      have d3 : ((i : Int) < ((cs i : Nat) : Int)) := by omega
      simp only [decide_eq_true d3]
      have e2 : (rows ++ ex)[i]? = some row := by rw [List.getElem?_append_left hlt]; exact e1
      have m1 := mono (i + 1) (by omega)
      refine ⟨fun _ => ?_, fun h => Bool.noConfusion (show true = false from h)⟩
      dsimp only
      rw [List.length_take, Nat.min_eq_left hi]
      refine ok_ofO (atI_get (intsFrom_get d1)) ?_
      rw [Int.zero_add]
      refine ok_ofO (atI_get e2) ?_
      refine ok_bind (ok_for (R := fun _ => False) (fun j b => ∃ cj : Nat, scan cj (row.drop j) = some (cs (i + 1)) ∧ b = (rows ++ ex, idm cj, intsFrom 0 cj, rows.take i, row.take j, (), (), ())) ⟨cs i, d2, rfl⟩ ?_) ?_
      · rintro j z b hz ⟨cj, hsc, rfl⟩
        have hd : row.drop j = z :: row.drop (j + 1) := by
          obtain ⟨h1, h2⟩ := List.getElem?_eq_some_iff.mp hz
          rw [List.drop_eq_getElem_cons h1, h2]
        have ht : row.take (j + 1) = row.take j ++ [z] := by rw [List.take_succ, hz]; rfl
        have hcj := scan_le hsc
        have hrl := hr row (List.mem_of_getElem? e1)
        rw [hd] at hsc
        unfold scan at hsc
        dsimp only
        rw [getD_idm]
        by_cases hc : 0 ≤ z.1 ∧ z.1 < (cj : Int)
        · rw [if_pos hc] at hsc ⊢
          simp only [Option.isNone_some, Bool.false_eq_true, if_false, Res.bind_ok]
          refine ok_bind (Q := fun o => o = .nx (rows ++ ex, idm cj, intsFrom 0 cj, rows.take i, row.take (j + 1), z.1, z.2, ())) ?_ (fun o ho => by subst ho; exact ⟨cj, hsc, rfl⟩)
          refine ok_ofO (x := z.1) (by rw [getD_idm, if_pos hc]) ?_
          refine ok_ofO (appO_ok (by rw [List.length_take]; omega)) ?_
          rw [ht]
          exact rfl
        · rw [if_neg hc] at hsc ⊢
          simp only [Option.isNone_none, if_true, Res.bind_assoc]
          by_cases he : z.1 = (cj : Int)
          · rw [if_pos he] at hsc
            rw [intsFrom_len, he]
            refine ok_ofO (putO_idm (by omega)) ?_
            refine ok_ofO (appO_ok (by rw [intsFrom_len]; omega)) ?_
            simp only [Res.bind_ok]
            rw [← ints_snoc]
            refine ok_bind (Q := fun o => o = .nx (rows ++ ex, idm (cj + 1), intsFrom 0 (cj + 1), rows.take i, row.take (j + 1), z.1, z.2, ())) ?_ (fun o ho => by subst ho; exact ⟨cj + 1, hsc, rfl⟩)
            refine ok_ofO (x := (cj : Int)) (by rw [getD_idm, if_pos (by omega)]) ?_
            refine ok_ofO (appO_ok (by rw [List.length_take]; omega)) ?_
            rw [ht]
            obtain ⟨z1, z2⟩ := z
            have he : z1 = (cj : Int) := he
            subst he
            exact rfl
          · rw [if_neg he] at hsc; cases hsc
      · rintro (b | r) hy
        · obtain ⟨cj, hsc, rfl⟩ := hy
          rw [List.drop_length] at hsc
          cases hsc
          rw [List.take_length]
          refine ok_bind (Q := fun o => o = .nx (rows ++ ex, idm (cs (i + 1)), intsFrom 0 (cs (i + 1)), rows.take (i + 1), row, (), (), ())) ?_ (fun o ho => by subst ho; exact ⟨rows.length - (i + 1), by omega, i + 1, rfl, by omega, rfl⟩)
          refine ok_ofO (appO_ok (by rw [List.length_take]; omega)) ?_
          have ht : rows.take (i + 1) = rows.take i ++ [row] := by rw [List.take_succ, e1]; rfl
          rw [ht]
          exact rfl
        · exact hy.elim
    · have hi2 : i = rows.length := by omega
      subst hi2
      have d3 : ¬ (((rows.length : Nat) : Int) < ((cs rows.length : Nat) : Int)) := by rw [c2]; omega
      simp only [decide_eq_false d3]
      exact ⟨fun h => Bool.noConfusion (show false = true from h), fun _ => List.take_length⟩
  · rintro (b | r) hy
    · exact hy
    · exact hy.elim
theorem service_ok {plan : List Str × List Row} (g : GoodPlan plan) {ex : List Row} (h1 : ex.length ≤ 1) (h2 : ∀ x ∈ ex, x.length = plan.1.length ∧ ∀ z ∈ x, 0 ≤ z.1 ∧ z.1 < (plan.2.length : Int) + ex.length) : F_Service_init (plan.1, plan.2 ++ ex) = .ok (((), plan.1), plan.2) := by
  unfold F_Service_init
  delta fb_Service_init
  dsimp only
  have hl := g.len
  have hc := g.cnt
  simp only [Res.bind_ok, Res.bind_assoc, Out.seq, Out.map, endV, ofO_some, check_names_ok g.words g.nd (by omega)]
  rw [check_table_ok (by rw [List.length_append]; omega) fun r hr => by
    rw [List.length_append]
    rcases List.mem_append.mp hr with q | q
    · obtain ⟨a, b⟩ := g.tab.row r q
      exact ⟨a, fun z hz => by have := b z hz; omega⟩
    · obtain ⟨a, b⟩ := h2 r q
      exact ⟨a, fun z hz => by have := b z hz; omega⟩]
  simp only [Res.bind_ok]
  rw [table_reached_ok g.canon (by omega) fun r hr => by have := (g.tab.row r hr).1; omega]
  rfl
end Pf
set_option maxRecDepth 100000
set_option linter.all false
namespace Pf
open PySem L2 PyProof AC
def cell (r : Row) (k : Nat) : Int × Option Int := (r[k]?).getD (0, none)
/-- nothing changes at one state -/
def okc (rows : List Row) (i j : Nat) (r : Row) : Bool :=
  decide ((cell r i).2 = (cell (rowOf rows (cell r j).1) i).2 ∧ (cell r j).2 = (cell (rowOf rows (cell r i).1) j).2 ∧ (cell (rowOf rows (cell r i).1) j).1 = (cell (rowOf rows (cell r j).1) i).1)
theorem cell_at {r : Row} {m k : Nat} (hr : r.length = m) (hk : k < m) : r[k]? = some (cell r k) ∧ cell r k ∈ r := by
  have e : r[k]? = some r[k] := List.getElem?_eq_getElem (by omega)
  unfold cell
  rw [e]
  exact ⟨rfl, List.getElem_mem _⟩
theorem changes_ok {rows : List Row} {n m i j : Nat} (T : GoodTab n m rows) (hi : i < m) (hj : j < m) : F_changes_nothing (rows, (i : Int), (j : Int)) = .ok (rows.all (okc rows i j)) := by
  refine ok_eq ?_
  unfold F_changes_nothing
  delta fb_changes_nothing
  dsimp only
  simp only [Res.bind_ok, Res.bind_assoc, Out.seq, Out.map, endV, ofO_some]
  refine ok_bind (ok_forAll (r := false) (okc rows i j) ?_) ?_
  · intro r hr
    obtain ⟨r1, r2⟩ := T.row r hr
    obtain ⟨ci, mi⟩ := cell_at r1 hi
    obtain ⟨cj, mj⟩ := cell_at r1 hj
    obtain ⟨bi, ki⟩ := atI_row T (r2 _ mi).1 (r2 _ mi).2
    obtain ⟨bj, kj⟩ := atI_row T (r2 _ mj).1 (r2 _ mj).2
    obtain ⟨cij, _⟩ := cell_at (T.row _ ki).1 hj
    obtain ⟨cji, _⟩ := cell_at (T.row _ kj).1 hi
    refine ok_ofO (atI_get ci) ?_
    refine ok_ofO bi ?_
    refine ok_ofO (atI_get cj) ?_
    refine ok_ofO bj ?_
    refine ok_ofO (atI_get ci) ?_
    refine ok_ofO (atI_get cji) ?_
    simp only [eqO_t eqvt_optI, id]
    unfold okc
    by_cases h1 : (cell r i).2 = (cell (rowOf rows (cell r j).1) i).2
    · simp only [decide_eq_true h1, Bool.not_true, Bool.false_eq_true, if_false, Res.bind_assoc]
      refine ok_ofO (atI_get cj) ?_
      refine ok_ofO (atI_get cij) ?_
      simp only [Res.bind_ok]
      by_cases h2 : (cell r j).2 = (cell (rowOf rows (cell r i).1) j).2
      · simp only [decide_eq_true h2, Bool.not_true, Bool.false_eq_true, if_false, Res.bind_ok]
        refine ok_bind (Q := fun o => o = if (cell (rowOf rows (cell r i).1) j).1 = (cell (rowOf rows (cell r j).1) i).1 then .nx (rows, (i : Int), (j : Int), r, rowOf rows (cell r i).1, rowOf rows (cell r j).1, ()) else .rt false) ?_ ?_
        · refine ok_ofO (atI_get cij) ?_
          refine ok_ofO (atI_get cji) ?_
          by_cases h3 : (cell (rowOf rows (cell r i).1) j).1 = (cell (rowOf rows (cell r j).1) i).1
          · simp only [decide_eq_true h3, Bool.not_true, Bool.false_eq_true, if_false, if_pos h3]
            exact rfl
          · simp only [decide_eq_false h3, Bool.not_false, if_true, if_neg h3]
            exact rfl
        · intro o ho
          subst ho
          by_cases h3 : (cell (rowOf rows (cell r i).1) j).1 = (cell (rowOf rows (cell r j).1) i).1
          · rw [if_pos h3, if_pos (decide_eq_true ⟨h1, h2, h3⟩)]
            exact rfl
          · rw [if_neg h3, if_neg (by simp [h3])]
            exact rfl
      · simp only [decide_eq_false h2, Bool.not_false, if_true, Res.bind_ok]
        rw [if_neg (by simp [h2])]
        exact rfl
    · simp only [decide_eq_false h1, Bool.not_false, if_true, Res.bind_ok]
      rw [if_neg (by simp [h1])]
      exact rfl
  · intro o ho
    subst ho
    cases e : rows.all (okc rows i j) with
    | true => exact rfl
    | false => exact rfl
theorem done_ok {plan : List Str × List Row} {n m i j : Nat} {wi wj : Str} {s : Int} (T : GoodTab n m plan.2) (nd : plan.1.Nodup) (hi : plan.1[i]? = some wi) (hj : plan.1[j]? = some wj) (him : i < m) (hjm : j < m) (s0 : 0 ≤ s) (s1 : s < (n : Int)) :
    F__law_done (plan, [wi, wj], s) = .ok ([(cell (rowOf plan.2 s) i).2, (cell (rowOf plan.2 (cell (rowOf plan.2 s) i).1) j).2], (cell (rowOf plan.2 (cell (rowOf plan.2 s) i).1) j).1) := by
  obtain ⟨b1, k1⟩ := atI_row T s0 s1
  obtain ⟨r1, r2⟩ := T.row _ k1
  obtain ⟨c1, m1⟩ := cell_at r1 him
  obtain ⟨b2, k2⟩ := atI_row T (r2 _ m1).1 (r2 _ m1).2
  obtain ⟨c2, m2⟩ := cell_at (T.row _ k2).1 hjm
  refine ok_eq ?_
  unfold F__law_done
  delta fb__law_done
  dsimp only
  simp only [Res.bind_ok, Res.bind_assoc, Out.seq, Out.map, endV, ofO_some, forL, id]
  refine ok_ofO b1 ?_
  refine ok_ofO (idx_at eqvt_str nd hi) ?_
  refine ok_ofO (atI_get c1) ?_
  refine ok_ofO (appO_ok (by decide)) ?_
  simp only [Res.bind_ok, Res.bind_assoc, Out.seq, Out.map, endV, ofO_some, forL, id]
  refine ok_ofO b2 ?_
  refine ok_ofO (idx_at eqvt_str nd hj) ?_
  refine ok_ofO (atI_get c2) ?_
  refine ok_ofO (appO_ok (show 1 < 16777216 by decide)) ?_
  exact rfl
theorem all_rows {rows : List Row} (p : Row → Bool) : (intsFrom 0 rows.length).all (fun s => p (rowOf rows s)) = rows.all p := by
  have : (intsFrom 0 rows.length).map (rowOf rows) = rows := by
    apply List.ext_getElem?
    intro i
    by_cases hi : i < rows.length
    · rw [List.getElem?_map, intsFrom_get hi, Option.map_some]
      unfold rowOf
      rw [show ((0 : Int) + (i : Int)).toNat = i by omega, List.getElem?_eq_getElem hi]
      rfl
    · rw [List.getElem?_eq_none (by rw [List.length_map, intsFrom_len]; omega), List.getElem?_eq_none (by omega)]
  have e := List.all_map (f := rowOf rows) (p := p) (l := intsFrom 0 rows.length)
  rw [this] at e
  exact e.symm
theorem fair_ok {plan : List Str × List Row} {m i j : Nat} {wi wj : Str} (T : GoodTab plan.2.length m plan.2) (hn : plan.2.length ≤ 25) (nd : plan.1.Nodup) (hi : plan.1[i]? = some wi) (hj : plan.1[j]? = some wj) (him : i < m) (hjm : j < m) :
    F__law_fair (plan, wi, wj) = .ok (plan.2.all (okc plan.2 i j)) := by
  refine ok_eq ?_
  unfold F__law_fair
  delta fb__law_fair
  dsimp only
  simp only [Res.bind_ok, Res.bind_assoc, Out.seq, Out.map, endV, ofO_some, id, rng1_ok (show plan.2.length ≤ 16777216 by omega)]
  refine ok_bind (ok_forAll (r := false) (fun s => okc plan.2 i j (rowOf plan.2 s)) ?_) ?_
  · intro s hs
    obtain ⟨k, hk, e⟩ := List.mem_iff_getElem.mp hs
    obtain ⟨rfl, hk⟩ := ints_get (List.getElem?_eq_some_iff.mpr ⟨hk, e⟩)
    rw [done_ok T nd hi hj him hjm (by omega) (by omega), done_ok T nd hj hi hjm him (by omega) (by omega)]
    simp only [Res.bind_ok, eqO_t (eqvt_list eqvt_optI)]
    generalize rowOf plan.2 (k : Int) = r
    unfold okc
    by_cases h1 : (cell r i).2 = (cell (rowOf plan.2 (cell r j).1) i).2 ∧ (cell r j).2 = (cell (rowOf plan.2 (cell r i).1) j).2
    · have e1 : [(cell r i).2, (cell (rowOf plan.2 (cell r i).1) j).2] = [(cell r j).2, (cell (rowOf plan.2 (cell r j).1) i).2].reverse := by
        show _ = [_, _]
        rw [h1.1, h1.2]
      simp only [decide_eq_true e1, Bool.not_true, Bool.false_eq_true, if_false, Res.bind_ok]
      by_cases h3 : (cell (rowOf plan.2 (cell r i).1) j).1 = (cell (rowOf plan.2 (cell r j).1) i).1
      · simp only [decide_eq_true h3, Bool.not_true, Bool.false_eq_true, if_false, Res.bind_ok]
        rw [if_pos (decide_eq_true ⟨h1.1, h1.2, h3⟩)]
        exact rfl
      · simp only [decide_eq_false h3, Bool.not_false, if_true, Res.bind_ok]
        rw [if_neg (by simp [h3])]
        exact rfl
    · have e1 : ¬ [(cell r i).2, (cell (rowOf plan.2 (cell r i).1) j).2] = [(cell r j).2, (cell (rowOf plan.2 (cell r j).1) i).2].reverse := fun e => h1 (by
        have e : [(cell r i).2, (cell (rowOf plan.2 (cell r i).1) j).2] = [(cell (rowOf plan.2 (cell r j).1) i).2, (cell r j).2] := e
        simp only [List.cons.injEq, and_true] at e
        exact ⟨e.1, e.2.symm⟩)
      simp only [decide_eq_false e1, Bool.not_false, if_true, Res.bind_ok]
      rw [if_neg (by
        rw [decide_eq_true_eq]
        exact fun q => h1 ⟨q.1, q.2.1⟩)]
      exact rfl
  · intro o ho
    rw [all_rows (okc plan.2 i j)] at ho
    subst ho
    cases e : plan.2.all (okc plan.2 i j) with
    | true => exact rfl
    | false => exact rfl
end Pf
set_option maxRecDepth 100000
set_option linter.all false
namespace Pf
open PySem L2 PyProof AC
def pos (ws : List Str) (w : Str) : Nat := ((idxO PyData.str PyData.str ws w).getD 0).toNat
theorem pos_at {ws : List Str} {i : Nat} {w : Str} (nd : ws.Nodup) (h : ws[i]? = some w) : pos ws w = i := by
  unfold pos
  rw [idx_at eqvt_str nd h]
  rfl
def wat (ws : List Str) (i : Nat) : Str := (ws[i]?).getD ""
def gi (plan : List Str × List Row) (i : Nat) (w : Str) : Option (Str × Str) := if plan.2.all (okc plan.2 i (pos plan.1 w)) = true then some (wat plan.1 i, w) else none
def dues (plan : List Str × List Row) : Nat → List (Str × Str)
  | 0 => []
  | k + 1 => dues plan k ++ (plan.1.drop (k + 1)).filterMap (gi plan k)
theorem dues_len (plan : List Str × List Row) (hl : plan.1.length ≤ 11) : ∀ k, (dues plan k).length ≤ 11 * k
  | 0 => Nat.le_refl _
  | k + 1 => by
    show (dues plan k ++ _).length ≤ _
    have h1 := dues_len plan hl k
    have h2 := List.length_filterMap_le (gi plan k) (plan.1.drop (k + 1))
    rw [List.length_drop] at h2
    rw [List.length_append]
    omega
theorem dues_mem (plan : List Str × List Row) : ∀ k, k ≤ plan.1.length → ∀ e ∈ dues plan k, e.1 ∈ plan.1 ∧ e.2 ∈ plan.1
  | 0, _ => fun e he => by cases he
  | k + 1, hk => fun e he => by
    rcases List.mem_append.mp he with q | q
    · exact dues_mem plan k (by omega) e q
    · obtain ⟨w, hw, e2⟩ := List.mem_filterMap.mp q
      unfold gi at e2
      split at e2
      · cases e2
        refine ⟨?_, List.mem_of_mem_drop hw⟩
        unfold wat
        rw [List.getElem?_eq_getElem (show k < plan.1.length by omega)]
        exact List.getElem_mem _
      · cases e2
theorem rng2_ok {i m : Nat} (h : i ≤ m) (hm : m ≤ 1000) : rng2O (i : Int) (m : Int) = .ok (AC.intsFrom (i : Int) (m - i)) := by
  unfold rng2O
  rw [if_pos (by omega)]
  congr 2
  omega
theorem may_ok {plan : List Str × List Row} (g : GoodPlan plan) : F_may_change (((), plan.1), plan.2) = .ok (dues plan plan.1.length) := by
  have hl := g.len
  have T := g.tab
  refine ok_eq ?_
  unfold F_may_change
  delta fb_may_change
  dsimp only
  simp only [Res.bind_ok, Res.bind_assoc, Out.seq, Out.map, endV, ofO_some, id, rng1_ok (show plan.1.length ≤ 16777216 by omega)]
  refine ok_bind (ok_for (R := fun _ => False) (fun i b => b = ((((), plan.1), plan.2), (), plan.1, dues plan i, (), ())) rfl ?_) ?_
  · rintro i x b hx rfl
    obtain ⟨rfl, hi⟩ := ints_get hx
    have wi : plan.1[i]? = some (wat plan.1 i) := by
      unfold wat
      rw [List.getElem?_eq_getElem hi]
      rfl
    dsimp only
    rw [show ((i : Int) + 1) = ((i + 1 : Nat) : Int) by omega, rng2_ok (by omega) (by omega)]
    simp only [Res.bind_ok]
    have hd := dues_len plan hl i
    refine ok_bind (ok_for (R := fun _ => False) (fun k b => b = ((((), plan.1), plan.2), (i : Int), plan.1, dues plan i ++ ((plan.1.drop (i + 1)).take k).filterMap (gi plan i), (), ())) (by rw [List.take_zero, List.filterMap_nil, List.append_nil]; rfl) ?_) ?_
    · rintro k x b hx rfl
      have hk : k < plan.1.length - (i + 1) := by
        have := (List.getElem?_eq_some_iff.mp hx).1
        rwa [intsFrom_len] at this
      rw [intsFrom_get hk] at hx
      cases hx
      have e0 : (((i + 1 : Nat) : Int) + (k : Int)) = ((i + 1 + k : Nat) : Int) := by omega
      rw [e0]
      dsimp only
      have wj : plan.1[i + 1 + k]? = some (wat plan.1 (i + 1 + k)) := by
        unfold wat
        rw [List.getElem?_eq_getElem (by omega)]
        rfl
      have ht : (plan.1.drop (i + 1)).take (k + 1) = (plan.1.drop (i + 1)).take k ++ [wat plan.1 (i + 1 + k)] := by
        rw [List.take_succ, List.getElem?_drop, wj]
        rfl
      rw [changes_ok T hi (by omega), ht, List.filterMap_append, ← List.append_assoc]
      simp only [Res.bind_ok]
      have e1 : gi plan i (wat plan.1 (i + 1 + k)) = if plan.2.all (okc plan.2 i (i + 1 + k)) = true then some (wat plan.1 i, wat plan.1 (i + 1 + k)) else none := by
        unfold gi
        rw [pos_at g.nd wj]
      by_cases hc : plan.2.all (okc plan.2 i (i + 1 + k)) = true
      · rw [if_pos hc] at e1
        simp only [if_pos hc, Res.bind_assoc]
        refine ok_ofO (atI_get wi) ?_
        refine ok_ofO (atI_get wj) ?_
        refine ok_ofO (appO_ok (by
          have h2 := List.length_filterMap_le (gi plan i) ((plan.1.drop (i + 1)).take k)
          rw [List.length_take, List.length_drop] at h2
          rw [List.length_append]
          omega)) ?_
        rw [List.filterMap_cons, e1]
        exact rfl
      · rw [if_neg hc] at e1
        simp only [if_neg hc, Res.bind_ok]
        rw [List.filterMap_cons, e1]
        show Ok _ _
        simp only [List.filterMap_nil, List.append_nil]
        exact rfl
    · rintro (b | r) hy
      · have hy : b = ((((), plan.1), plan.2), (i : Int), plan.1, dues plan i ++ ((plan.1.drop (i + 1)).take (AC.intsFrom ((i + 1 : Nat) : Int) (plan.1.length - (i + 1))).length).filterMap (gi plan i), (), ()) := hy
        rw [intsFrom_len, List.take_of_length_le (by rw [List.length_drop]; omega)] at hy
        subst hy
        exact rfl
      · exact hy.elim
  · rintro (b | r) hy
    · have hy : b = ((((), plan.1), plan.2), (), plan.1, dues plan (AC.intsFrom 0 plan.1.length).length, (), ()) := hy
      rw [intsFrom_len] at hy
      subst hy
      exact rfl
    · exact hy.elim
def pairD (x : Str × Str) : PyData := .tuple [.str x.1, .str x.2]
theorem pair_shw {plan : List Str × List Row} (g : GoodPlan plan) : ∀ e ∈ dues plan plan.1.length, Shw 100 (pairD e) := fun e he => by
  obtain ⟨h1, h2⟩ := dues_mem plan _ (Nat.le_refl _) e he
  have hw : ∀ w ∈ WORDS, w.cps.toList.all (fun c => decide (c < 16 ^ 8)) = true ∧ w.cps.size ≤ 8 := by decide +kernel
  have := shw_tup (t := PyData.str) (n := 8) (xs := [e.1, e.2]) fun x hx => by
    have hm : x ∈ WORDS := by
      rcases List.mem_cons.mp hx with rfl | hx
      · exact g.words _ h1
      · have : x = e.2 := by simpa using hx
        rw [this]; exact g.words _ h2
    exact shw_str (hw x hm).1 (hw x hm).2
  exact this.mono (show (8 + 1) * 2 ≤ 100 by decide)
theorem due_shw {plan : List Str × List Row} (g : GoodPlan plan) : Shw 20000 (.list ((dues plan plan.1.length).map pairD)) := by
  have hl := dues_len plan g.len plan.1.length
  have := g.len
  have h := shw_list (pair_shw g)
  refine h.mono ?_
  have : (dues plan plan.1.length).length ≤ 121 := by omega
  calc (100 + 1) * (dues plan plan.1.length).length ≤ 101 * 121 := Nat.mul_le_mul_left _ this
    _ ≤ 20000 := by decide
theorem due2_shw {plan : List Str × List Row} (g : GoodPlan plan) : Shw 50000 (.list ([dues plan plan.1.length, dues plan plan.1.length].map fun xs => .list (xs.map pairD))) := by
  have h := shw_list (t := fun xs : List (Str × Str) => PyData.list (xs.map pairD)) (n := 20000) (xs := [dues plan plan.1.length, dues plan plan.1.length]) fun x hx => by
    have : x = dues plan plan.1.length := by simpa using hx
    rw [this]; exact due_shw g
  exact h.mono (show (20000 + 1) * 2 ≤ 50000 by decide)
theorem right_ok {n : Nat} {w : List Int} (hw : Wl n w) (hn : n + 20000 < 2 ^ 40) : Ok (F__law_right w ()) fun r => r.1 = true ∧ Wl (n + 5000) r.2 := by
  unfold F__law_right
  delta fb__law_right
  dsimp only
  simp only [Res.bind_ok, Res.bind_assoc, Out.seq, Out.map, endV, ofO_some, id]
  refine ok_bind (dip_ok hw (by omega) (by decide) (by decide)) ?_
  rintro ⟨z, w1⟩ ⟨a1, a2, a3⟩
  dsimp only at *
  refine ok_bind (Q := fun r => ∃ (plan : List Str × List Row) (w2 : List Int), r = (plan, w2, (), (), (), (), (), (), (), ()) ∧ GoodPlan plan ∧ Wl (n + 4001) w2) ?_ ?_
  · by_cases hz : z = 0
    · simp only [decide_eq_true hz, if_true]
      refine ok_bind (plan_ok a3 (by omega) (by decide) (by decide) (by decide) (by decide)) ?_
      rintro ⟨plan, w2⟩ ⟨q1, q2⟩
      exact ⟨plan, w2, rfl, q1, q2.mono (by omega)⟩
    · simp only [decide_eq_false hz, Bool.false_eq_true, if_false]
      refine ok_bind (plan_ok a3 (by omega) (by decide) (by decide) (by decide) (by decide)) ?_
      rintro ⟨plan, w2⟩ ⟨q1, q2⟩
      exact ⟨plan, w2, rfl, q1, q2.mono (by omega)⟩
  rintro _ ⟨plan, w2, rfl, g, h2⟩
  dsimp only
  refine ok_bind (more_ok h2 (by omega) g) ?_
  rintro ⟨tab, w3⟩ ⟨⟨ex, e0, x1, x2⟩, h3⟩
  have e0 : tab = plan.2 ++ ex := e0
  subst e0
  dsimp only at *
  rw [service_ok g x1 x2]
  simp only [Res.bind_ok]
  have hl := g.len
  refine ok_bind (ok_for (R := fun _ => False) (fun i b => b = (w3, (((), plan.1), plan.2), (), plan, dues plan i, (), (), (), ())) rfl ?_) ?_
  · rintro i x b hx rfl
    have hi : i < plan.1.length := by
      have := (List.getElem?_eq_some_iff.mp hx).1
      rwa [enumL_len] at this
    have wi : plan.1[i]? = some (wat plan.1 i) := by
      unfold wat
      rw [List.getElem?_eq_getElem hi]
      rfl
    rw [enumL_get wi] at hx
    cases hx
    dsimp only
    rw [show ((i : Int) + 1) = ((i + 1 : Nat) : Int) by omega, cut_drop (by omega)]
    refine ok_bind (ok_lcP (gi plan i) ?_) ?_
    · intro x hx
      obtain ⟨k, hk, e⟩ := List.mem_iff_getElem.mp hx
      have hk2 : k < plan.1.length - (i + 1) := by rwa [List.length_drop] at hk
      have wj : plan.1[i + 1 + k]? = some x := by
        rw [← List.getElem?_drop]
        exact List.getElem?_eq_some_iff.mpr ⟨hk, e⟩
      dsimp only
      rw [fair_ok g.tab g.cnt.2 g.nd wi wj hi (by omega)]
      simp only [Res.bind_ok]
      have e1 : gi plan i x = if plan.2.all (okc plan.2 i (i + 1 + k)) = true then some (wat plan.1 i, x) else none := by
        unfold gi
        rw [pos_at g.nd wj]
      rw [e1]
      by_cases hc : plan.2.all (okc plan.2 i (i + 1 + k)) = true
      · rw [if_pos hc, if_pos hc]; exact rfl
      · rw [if_neg hc, if_neg hc]; exact rfl
    · rintro _ rfl
      dsimp only
      have hd := dues_len plan hl i
      refine ok_ofO (catO_ok (by
        have h2 := List.length_filterMap_le (gi plan i) (plan.1.drop (i + 1))
        rw [List.length_drop] at h2
        omega)) ?_
      exact rfl
  · rintro (b | r) hy
    · have hy : b = (w3, (((), plan.1), plan.2), (), plan, dues plan (enumL plan.1).length, (), (), (), ()) := hy
      rw [enumL_len] at hy
      subst hy
      dsimp only
      simp only [may_ok g, Res.bind_ok]
      have r1 := reprO_ok (due2_shw g) (by decide)
      have r2 := reprO_ok (due_shw g) (by decide)
      refine ok_bind (Q := fun o => o = .rt (true, w3)) ?_ (fun o ho => by subst ho; exact ⟨rfl, h3.mono (by omega)⟩)
      refine ok_ofO (x := _) (by
        rw [List.map_id_fun]
        exact r1) ?_
      refine ok_ofO r1 ?_
      rw [decide_eq_true rfl]
      simp only [Bool.not_true, Bool.false_eq_true, if_false, Res.bind_ok, Out.seq]
      refine ok_ofO (x := (dues plan plan.1.length).map pairD) rfl ?_
      refine ok_ofO (appO_ok (by rw [List.length_map]; have := dues_len plan hl plan.1.length; omega)) ?_
      rw [may_ok g]
      simp only [Res.bind_ok]
      refine ok_ofO r2 ?_
      refine ok_ofO r2 ?_
      rw [decide_eq_true rfl]
      exact rfl
    · exact hy.elim
theorem law_true : ∀ ns : List Int, ns.length ≤ 63 → F_law ns = .ok true := by
  intro ns hns
  refine ok_eq ?_
  unfold F_law
  delta fb_law
  dsimp only
  obtain ⟨c, hc, hc2⟩ : ∃ c : Nat, (if (if (ns.length : Int) < 16 then (ns.length : Int) else 16) > 1 then (if (ns.length : Int) < 16 then (ns.length : Int) else 16) else 1) = (c : Int) ∧ c ≤ 16 := by
    refine ⟨(if (if (ns.length : Int) < 16 then (ns.length : Int) else 16) > 1 then (if (ns.length : Int) < 16 then (ns.length : Int) else 16) else 1).toNat, ?_, ?_⟩
    · split <;> split <;> omega
    · split <;> split <;> omega
  simp only [Res.bind_ok, Res.bind_assoc, Out.seq, Out.map, endV, ofO_some, id]
  rw [hc, rng1_ok (by omega)]
  simp only [Res.bind_ok]
  refine ok_bind (ok_for (R := fun _ => False) (fun i b => b = (ns, (), (), (), ())) rfl ?_) ?_
  · rintro i x b hx rfl
    obtain ⟨rfl, hi⟩ := ints_get hx
    dsimp only
    refine ok_bind (well_ok (by omega)) ?_
    intro w hw
    rw [show (2 : Int) = ((2 : Nat) : Int) from rfl, rng1_ok (by decide)]
    simp only [Res.bind_ok]
    refine ok_bind (ok_for (R := fun _ => False) (fun k b => ∃ w' : List Int, b = (ns, (i : Int), w', (), ()) ∧ Wl (5000 * k) w') ⟨w, rfl, hw⟩ ?_) ?_
    · rintro k x b hx ⟨w', rfl, h1⟩
      have hk : k < 2 := by
        have := (List.getElem?_eq_some_iff.mp hx).1
        rwa [intsFrom_len] at this
      dsimp only
      refine ok_bind (right_ok h1 (by omega)) ?_
      rintro ⟨r, w2⟩ ⟨q1, q2⟩
      have q1 : r = true := q1
      subst q1
      exact ⟨w2, rfl, q2.mono (by omega)⟩
    · rintro (b | r) hy
      · obtain ⟨w', rfl, _⟩ := hy
        exact rfl
      · exact hy.elim
  · rintro (b | r) hy
    · exact rfl
    · exact hy.elim
end Pf
namespace Pf
open PySem L2 PyProof PyProof.Rows AC
def dd_is_name : He.DefD := ⟨("is_name", none), "is_name", "is_name", defArgs s_is_name, defBody s_is_name, defScope s_is_name, [], []⟩
def dd_check_names : He.DefD := ⟨("check_names", none), "check_names", "check_names", defArgs s_check_names, defBody s_check_names, defScope s_check_names, [], []⟩
def dd_check_table : He.DefD := ⟨("check_table", none), "check_table", "check_table", defArgs s_check_table, defBody s_check_table, defScope s_check_table, [], []⟩
def dd_table_reached : He.DefD := ⟨("table_reached", none), "table_reached", "table_reached", defArgs s_table_reached, defBody s_table_reached, defScope s_table_reached, [], []⟩
def dd_Service_init : He.DefD := ⟨("Service", some "__init__"), "__init__", "Service.__init__", defArgs s_Service_init, defBody s_Service_init, defScope s_Service_init, [], []⟩
def dd_changes_nothing : He.DefD := ⟨("changes_nothing", none), "changes_nothing", "changes_nothing", defArgs s_changes_nothing, defBody s_changes_nothing, defScope s_changes_nothing, [], []⟩
def dd_may_change : He.DefD := ⟨("may_change", none), "may_change", "may_change", defArgs s_may_change, defBody s_may_change, defScope s_may_change, [], []⟩
def dd__law_well : He.DefD := ⟨("_law_well", none), "_law_well", "_law_well", defArgs s__law_well, defBody s__law_well, defScope s__law_well, [], []⟩
def dd__law_dip : He.DefD := ⟨("_law_dip", none), "_law_dip", "_law_dip", defArgs s__law_dip, defBody s__law_dip, defScope s__law_dip, [], []⟩
def dd__law_words : He.DefD := ⟨("_law_words", none), "_law_words", "_law_words", defArgs s__law_words, defBody s__law_words, defScope s__law_words, [], []⟩
def dd__law_column : He.DefD := ⟨("_law_column", none), "_law_column", "_law_column", defArgs s__law_column, defBody s__law_column, defScope s__law_column, [], []⟩
def dd__law_reached : He.DefD := ⟨("_law_reached", none), "_law_reached", "_law_reached", defArgs s__law_reached, defBody s__law_reached, defScope s__law_reached, [], []⟩
def dd__law_plan : He.DefD := ⟨("_law_plan", none), "_law_plan", "_law_plan", defArgs s__law_plan, defBody s__law_plan, defScope s__law_plan, [], []⟩
def dd__law_done : He.DefD := ⟨("_law_done", none), "_law_done", "_law_done", defArgs s__law_done, defBody s__law_done, defScope s__law_done, [], []⟩
def dd__law_more : He.DefD := ⟨("_law_more", none), "_law_more", "_law_more", defArgs s__law_more, defBody s__law_more, defScope s__law_more, [], []⟩
def dd__law_fair : He.DefD := ⟨("_law_fair", none), "_law_fair", "_law_fair", defArgs s__law_fair, defBody s__law_fair, defScope s__law_fair, [], []⟩
def dd__law_right : He.DefD := ⟨("_law_right", none), "_law_right", "_law_right", defArgs s__law_right, defBody s__law_right, defScope s__law_right, [], []⟩
def dd_law : He.DefD := ⟨("law", none), "law", "law", defArgs s_law, defBody s_law, defScope s_law, [], []⟩
def fn : List He.DefD := [dd_is_name, dd_check_names, dd_check_table, dd_table_reached, dd_Service_init, dd_changes_nothing, dd_may_change, dd__law_well, dd__law_dip, dd__law_words, dd__law_column, dd__law_reached, dd__law_plan, dd__law_done, dd__law_more, dd__law_fair, dd__law_right, dd_law]
def fas : List He.Fa := [.free "all", .str "LETTERS" lettersS, .free "len", .free "range", .free "tuple", .glo "Service", .cls "Service", .noat "Service" "kept_names", .noat "Service" "kept_table", .free "int", .free "max", .free "abs", .free "list", .free "enumerate", .free "repr", .free "min", .glo "is_name", .glo "check_names", .glo "check_table", .glo "table_reached", .mkr "Service", .glo "changes_nothing", .glo "may_change", .glo "_law_well", .glo "_law_dip", .glo "_law_words", .glo "_law_column", .glo "_law_reached", .glo "_law_plan", .glo "_law_done", .glo "_law_more", .glo "_law_fair", .glo "_law_right", .glo "law"]
abbrev Rw : PySem.W.OpenRow := PySem.W.OpenLaw.row PySem.Challenge.rw_anycut_k37_calls_that_may_change_places
abbrev hk : PySem.W.Hook := He.hookD 4 fas fn
def ob (s : PySem.W.SharedT) : He.AlD := He.obsDG 4 fas fn (HandSHeadRun.getT s)
theorem ob_eq (s : PySem.W.SharedT) : ob s = hk.obs s.abs := He.obsDG_eq (HandSHeadRun.getT_eq s)
def loose0 : List Str := ["_wall", "CutError", "InvalidName", "DoubleName", "InvalidStep", "InvalidState", "UnknownCall", "LETTERS", "is_name", "check_names", "check_table", "table_reached", "Service", "changes_nothing", "may_change", "_law_well", "_law_dip", "_law_words", "_law_column", "_law_reached", "_law_plan", "_law_done", "_law_more", "_law_fair", "_law_right"]
theorem run (w : World) : HandSHeadRun.RunEq Rw (PySem.W.view Rw.prog [29]) hk ob 3000 ["_wall", "CutError", "InvalidName", "DoubleName", "InvalidStep", "InvalidState", "UnknownCall", "LETTERS", "is_name", "check_names", "check_table", "table_reached", "Service", "changes_nothing", "may_change", "_law_well", "_law_dip", "_law_words", "_law_column", "_law_reached", "_law_plan", "_law_done", "_law_more", "_law_fair", "_law_right"] w := by
  intro os
  kernel_rfl
theorem facts {P : Program} {w : World} {K : Frag} {h : Heap} {mg : Str → Option Value} {f : Addr} (X : K.In h) (Gn : h.Ns mainGlobals mg) (hfa : mg ("law" : Str) = some (.ref f)) (c : He.SaysD fas fn K) :
    ∃ fd : FuncData, (∀ (s : Shared) (v : Value), BindsTo s fd ⟨[v], []⟩ [("script", v)]) ∧ ∀ base : Heap, K.In base → base.Ns mainGlobals mg → FnG P w K mg base 6 f fd ["script"] (spP K (He.ga K) (aOne (cLK cI)) (rV cB) F_law) := by
  obtain ⟨fd_is_name, B_is_name⟩ := c.def_ 0 (d := dd_is_name) rfl
  obtain ⟨fd_check_names, B_check_names⟩ := c.def_ 1 (d := dd_check_names) rfl
  obtain ⟨fd_check_table, B_check_table⟩ := c.def_ 2 (d := dd_check_table) rfl
  obtain ⟨fd_table_reached, B_table_reached⟩ := c.def_ 3 (d := dd_table_reached) rfl
  obtain ⟨fd_Service_init, B_Service_init⟩ := c.def_ 4 (d := dd_Service_init) rfl
  obtain ⟨fd_changes_nothing, B_changes_nothing⟩ := c.def_ 5 (d := dd_changes_nothing) rfl
  obtain ⟨fd_may_change, B_may_change⟩ := c.def_ 6 (d := dd_may_change) rfl
  obtain ⟨fd__law_well, B__law_well⟩ := c.def_ 7 (d := dd__law_well) rfl
  obtain ⟨fd__law_dip, B__law_dip⟩ := c.def_ 8 (d := dd__law_dip) rfl
  obtain ⟨fd__law_words, B__law_words⟩ := c.def_ 9 (d := dd__law_words) rfl
  obtain ⟨fd__law_column, B__law_column⟩ := c.def_ 10 (d := dd__law_column) rfl
  obtain ⟨fd__law_reached, B__law_reached⟩ := c.def_ 11 (d := dd__law_reached) rfl
  obtain ⟨fd__law_plan, B__law_plan⟩ := c.def_ 12 (d := dd__law_plan) rfl
  obtain ⟨fd__law_done, B__law_done⟩ := c.def_ 13 (d := dd__law_done) rfl
  obtain ⟨fd__law_more, B__law_more⟩ := c.def_ 14 (d := dd__law_more) rfl
  obtain ⟨fd__law_fair, B__law_fair⟩ := c.def_ 15 (d := dd__law_fair) rfl
  obtain ⟨fd__law_right, B__law_right⟩ := c.def_ 16 (d := dd__law_right) rfl
  obtain ⟨fd_law, B_law⟩ := c.def_ 17 (d := dd_law) rfl
  have M_all := He.free_ok X Gn (c.fact 0 (f := .free "all") rfl)
  have M_LETTERS := He.str_ok X Gn (c.fact 1 (f := .str "LETTERS" lettersS) rfl)
  have M_len := He.free_ok X Gn (c.fact 2 (f := .free "len") rfl)
  have M_range := He.free_ok X Gn (c.fact 3 (f := .free "range") rfl)
  have M_tuple := He.free_ok X Gn (c.fact 4 (f := .free "tuple") rfl)
  have C_Service : ClsG K mg "Service" (He.ga K "Service") := ⟨He.glo_ok X Gn (c.fact 5 (f := .glo "Service") rfl), He.cls_ok (c.fact 6 (f := .cls "Service") rfl)⟩
  have NA_Service_kept_names := He.noat_ok (c.fact 7 (f := .noat "Service" "kept_names") rfl)
  have NA_Service_kept_table := He.noat_ok (c.fact 8 (f := .noat "Service" "kept_table") rfl)
  have M_int := He.free_ok X Gn (c.fact 9 (f := .free "int") rfl)
  have M_max := He.free_ok X Gn (c.fact 10 (f := .free "max") rfl)
  have M_abs := He.free_ok X Gn (c.fact 11 (f := .free "abs") rfl)
  have M_list := He.free_ok X Gn (c.fact 12 (f := .free "list") rfl)
  have M_enumerate := He.free_ok X Gn (c.fact 13 (f := .free "enumerate") rfl)
  have M_repr := He.free_ok X Gn (c.fact 14 (f := .free "repr") rfl)
  have M_min := He.free_ok X Gn (c.fact 15 (f := .free "min") rfl)
  have e := hfa.symm.trans (He.glo_ok X Gn (c.fact 33 (f := .glo "law") rfl))
  cases e
  refine ⟨fd_law, fun s v => FunD.bindsA (ps := ["script"]) B_law (fun _ _ _ _ _ _ us hl => match us, hl with | [_], _ => rfl) s [v] rfl, fun base _ _ => ?_⟩
  have D_is_name := ok_is_name (P := P) (w := w) (base := base) (ca := He.ga K)  B_is_name M_all M_LETTERS M_len (He.glo_ok X Gn (c.fact 16 (f := .glo "is_name") rfl))
  have D_check_names := ok_check_names (P := P) (w := w) (base := base) (ca := He.ga K)  B_check_names M_range M_len D_is_name (He.glo_ok X Gn (c.fact 17 (f := .glo "check_names") rfl))
  have D_check_table := ok_check_table (P := P) (w := w) (base := base) (ca := He.ga K)  B_check_table M_range M_len (He.glo_ok X Gn (c.fact 18 (f := .glo "check_table") rfl))
  have D_table_reached := ok_table_reached (P := P) (w := w) (base := base) (ca := He.ga K)  B_table_reached M_len M_tuple (He.glo_ok X Gn (c.fact 19 (f := .glo "table_reached") rfl))
  have K_Service := ok_Service_init (P := P) (w := w) (base := base) (ca := He.ga K) (A_Service := He.ga K "Service") B_Service_init D_check_names D_check_table M_tuple C_Service NA_Service_kept_names D_table_reached NA_Service_kept_table (He.glo_ok X Gn (c.fact 5 (f := .glo "Service") rfl)) (He.mkr_ok (c.fact 20 (f := .mkr "Service") rfl))
  have D_changes_nothing := ok_changes_nothing (P := P) (w := w) (base := base) (ca := He.ga K)  B_changes_nothing  (He.glo_ok X Gn (c.fact 21 (f := .glo "changes_nothing") rfl))
  have D_may_change := ok_may_change (P := P) (w := w) (base := base) (ca := He.ga K) (A_Service := He.ga K "Service") B_may_change C_Service NA_Service_kept_names M_range M_len D_changes_nothing NA_Service_kept_table (He.glo_ok X Gn (c.fact 22 (f := .glo "may_change") rfl))
  have D__law_well := ok__law_well (P := P) (w := w) (base := base) (ca := He.ga K)  B__law_well M_len M_int M_max M_abs (He.glo_ok X Gn (c.fact 23 (f := .glo "_law_well") rfl))
  have D__law_dip := ok__law_dip (P := P) (w := w) (base := base) (ca := He.ga K)  B__law_dip M_int (He.glo_ok X Gn (c.fact 24 (f := .glo "_law_dip") rfl))
  have D__law_words := ok__law_words (P := P) (w := w) (base := base) (ca := He.ga K)  B__law_words M_range D__law_dip M_len (He.glo_ok X Gn (c.fact 25 (f := .glo "_law_words") rfl))
  have D__law_column := ok__law_column (P := P) (w := w) (base := base) (ca := He.ga K)  B__law_column D__law_dip M_range M_int (He.glo_ok X Gn (c.fact 26 (f := .glo "_law_column") rfl))
  have D__law_reached := ok__law_reached (P := P) (w := w) (base := base) (ca := He.ga K)  B__law_reached M_range M_len (He.glo_ok X Gn (c.fact 27 (f := .glo "_law_reached") rfl))
  have D__law_plan := ok__law_plan (P := P) (w := w) (base := base) (ca := He.ga K)  B__law_plan D__law_dip M_range D__law_column D__law_words D__law_reached (He.glo_ok X Gn (c.fact 28 (f := .glo "_law_plan") rfl))
  have D__law_done := ok__law_done (P := P) (w := w) (base := base) (ca := He.ga K)  B__law_done  (He.glo_ok X Gn (c.fact 29 (f := .glo "_law_done") rfl))
  have D__law_more := ok__law_more (P := P) (w := w) (base := base) (ca := He.ga K)  B__law_more M_len D__law_dip M_list (He.glo_ok X Gn (c.fact 30 (f := .glo "_law_more") rfl))
  have D__law_fair := ok__law_fair (P := P) (w := w) (base := base) (ca := He.ga K)  B__law_fair M_range M_len D__law_done (He.glo_ok X Gn (c.fact 31 (f := .glo "_law_fair") rfl))
  have D__law_right := ok__law_right (P := P) (w := w) (base := base) (ca := He.ga K) (A_Service := He.ga K "Service") B__law_right D__law_plan D__law_dip K_Service M_list D__law_more M_enumerate D__law_fair D_may_change M_repr (He.glo_ok X Gn (c.fact 32 (f := .glo "_law_right") rfl))
  exact okg_law (A_Service := He.ga K "Service") B_law M_range M_max M_min M_len D__law_well D__law_right
end Pf
open PySem PySem.W PySem.Calls PyProof.Rows
theorem PySem.Challenge.cw_anycut_k37_calls_that_may_change_places_holds : PySem.Challenge.rw_anycut_k37_calls_that_may_change_places.Holds := by
  w_on; o_law
  refine HandSHeadRun.head_any (r := OpenLaw.row PySem.Challenge.rw_anycut_k37_calls_that_may_change_places) (q := view (OpenLaw.row PySem.Challenge.rw_anycut_k37_calls_that_may_change_places).prog [29]) (H := Pf.hk) (ob := Pf.ob) (M := 3000) (loose := ["_wall", "CutError", "InvalidName", "DoubleName", "InvalidStep", "InvalidState", "UnknownCall", "LETTERS", "is_name", "check_names", "check_table", "table_reached", "Service", "changes_nothing", "may_change", "_law_well", "_law_dip", "_law_words", "_law_column", "_law_reached", "_law_plan", "_law_done", "_law_more", "_law_fair", "_law_right"]) (d := HandSHeadRun.topDef (OpenLaw.row PySem.Challenge.rw_anycut_k37_calls_that_may_change_places).prog 29) (kwd := []) Pf.ob_eq
    (by kernel_rfl) (fun s => by kernel_rfl) Pf.run (by kernel_rfl) (by kernel_rfl) (by kernel_rfl) (by rfl) (by first | assumption | decide +kernel) (by decide +kernel) ⟨rfl, rfl, rfl, rfl, rfl, by decide +kernel⟩ ?hw ?hc
  case hw => w_witness2
  case hc =>
    refine AC.walk_G (l := PySem.Challenge.rw_anycut_k37_calls_that_may_change_places) (n := 63) (k := 6) (x := "script") rfl (by decide) (by kernel_rfl) ⟨rfl, by decide, by decide⟩ ?F
    intro w mg fa h Y G hmg0
    obtain ⟨K, KX, c⟩ := Y
    have hmg : mg ("law" : PySem.Str) = some (.ref fa) := by
      have e : (HandSHeadRun.topDef (OpenLaw.row PySem.Challenge.rw_anycut_k37_calls_that_may_change_places).prog 29).name = ("law" : PySem.Str) := by kernel_rfl
      rw [← e]
      exact hmg0
    obtain ⟨fd, hb, hF⟩ := Pf.facts (P := (PySem.Challenge.rw_anycut_k37_calls_that_may_change_places).prog) (w := w) KX G hmg c
    exact ⟨K, fd, _, KX, hb, fun H a ns hl _ hS => AC.sp_law Pf.law_true (by decide) H a ns hl hS, hF⟩
