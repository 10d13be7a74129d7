import PyProof.Rows.All
import Wide.All
import OpenK.AllK
import Wide.FinOn
import KE.KStateDown
import HandS.ForMost
import HandS.ForSpec
import HandS.CallSlots
import HandS.Wide
import HandS.Walk
import HandS.WordsExc
import HandS.Defaults
import HandS.HeadHook2
import HandS.Deep
import HandS.Style
import HandS.Strs
import HandS.Text
import HandS.Dict
import HandS.List
import HandS.HeadEnd
import HandS.Head0
import HandS.Head1
import HandS.Head2
import HandS.HeadHook1
import HandS.Iter
import HandS.Property
import HandS.OwnEq
import OpenK.KOps
import HandS.MakeKw
import HandS.IsInst
import KE.KIndexWalk
import HandS.Conv
import HandS.SetFor
import KE.SortData
import HandS.DictTup
import HandS.DictComp
import PyProof.InstNe
import PyProof.TupleOfSeq
import KE.KDictPairs
import HandS.NoneIn
import HandS.Finally
import PyProof.NeData
import PyProof.EqKinds
import HandS.ExcInit
import HandS.ExcField
import HandS.ExcIs
import KE.KExcIs
import PyProof.CallFns
import HandS.ListItems
import HandS.WordsDict
import KE.KDictDisplayH
import KE.KDictWalk
import KE.KeyNested
import HandS.TupLen
import HandS.Star
import KE.KDictSum
import KE.KDictCopyH
import HandS.TupMul
import HandS.WideBits
import KE.DataCmp
import PyProof.ReprRoads
import HandS.DictEq
import HandS.Zip
import OpenK.KMeth
import HandS.TupAny
import PyProof.Rows.SeqMore
import HandS.Set
import PyProof.NeKinds
import PyProof.StrLawsRepr
import PyProof.Rows.ReprOcc
import PySem.Challenge.RW_anycut_k06_errors_of_rows_and_names
set_option Elab.async false
set_option linter.all false
set_option maxRecDepth 100000
/-! TL1: results, labels, codecs, slots, the typed state; the canonical readings. -/
namespace AC
open PySem L2
structure Exn where
  cls : Str
  val : PyData
inductive Res (α : Type) where
  | ok (a : α) | exc (e : Exn) | bad
def Res.bind {α β : Type} : Res α → (α → Res β) → Res β
  | .ok a, f => f a
  | .exc e, _ => .exc e
  | .bad, _ => .bad
def Res.noexc {α : Type} : Res α → Res α
  | .exc _ => .bad
  | r => r
instance : Monad Res where
  pure := .ok
  bind := Res.bind
theorem Res.bind_ok {α β : Type} (a : α) (f : α → Res β) : Res.bind (.ok a) f = f a := rfl
theorem Res.bind_assoc {α β γ : Type} (m : Res α) (f : α → Res β) (g : β → Res γ) : Res.bind (Res.bind m f) g = Res.bind m fun x => Res.bind (f x) g := by
  cases m <;> rfl
abbrev Frag := PySem.W.Frag
/-- who owns an address: 0 what may be read, i + 1 the i-th slot -/
abbrev Lab := Addr → Option (Nat × List Nat)
def rd (L : Lab) (H : Hp) : Hp := fun a => match L a with
  | some (0, _) => H a
  | _ => none
def sub (L : Lab) (k : Nat) : Addr → Option (List Nat) := fun a => match L a with
  | some (j, l) => if j = k then some l else none
  | none => none
/-- what may change: lists, dicts, sets -/
def SoftO : HO → Prop
  | .lst _ => True
  | .dK _ => True
  | .dT _ => True
  | .set _ _ => True
  | .ext _ => True
  | _ => False
/-- a path that stands for an instance under way, or its dict -/
def insL (l : List Nat) : Bool := l.head? == some 999
def NonTup (l : List Nat) : Option HO → Prop
  | some o => if insL l then (∀ xs, o ≠ .tup xs) else SoftO o
  | none => False
structure Wf (L : Lab) (H : Hp) : Prop where
  dom : ∀ a, L a ≠ none → H a ≠ none
  soft : ∀ a k l, L a = some (k + 1, l) → NonTup l (H a)
/-- not to be touched: known to nobody here, or only to be read -/
def Frm (L : Lab) (H : Hp) (a : Addr) : Prop := H a ≠ none ∧ (L a = none ∨ ∃ l, L a = some (0, l))
def Stp (L : Lab) (H : Hp) (L' : Lab) (H' : Hp) : Prop := ∀ a, Frm L H a → L' a = L a ∧ H' a = H a
/-- nothing at all is touched -/
def Ext (L : Lab) (H : Hp) (L' : Lab) (H' : Hp) : Prop := ∀ a, H a ≠ none → L' a = L a ∧ H' a = H a
theorem Stp.refl {L : Lab} {H : Hp} : Stp L H L H := fun _ _ => ⟨rfl, rfl⟩
theorem Ext.refl {L : Lab} {H : Hp} : Ext L H L H := fun _ _ => ⟨rfl, rfl⟩
theorem Ext.stp {L L' : Lab} {H H' : Hp} (e : Ext L H L' H') : Stp L H L' H' := fun a f => e a f.1
theorem Stp.frm {L L' : Lab} {H H' : Hp} (s : Stp L H L' H') {a : Addr} (f : Frm L H a) : Frm L' H' a := by
  obtain ⟨e1, e2⟩ := s a f
  exact ⟨by rw [e2]; exact f.1, by rw [e1]; exact f.2⟩
theorem Stp.trans {L L1 L2 : Lab} {H H1 H2 : Hp} (s : Stp L H L1 H1) (t : Stp L1 H1 L2 H2) : Stp L H L2 H2 := fun a f => by
  obtain ⟨e1, e2⟩ := s a f
  obtain ⟨e3, e4⟩ := t a (s.frm f)
  exact ⟨e3.trans e1, e4.trans e2⟩
theorem Ext.trans {L L1 L2 : Lab} {H H1 H2 : Hp} (s : Ext L H L1 H1) (t : Ext L1 H1 L2 H2) : Ext L H L2 H2 := fun a f => by
  obtain ⟨e1, e2⟩ := s a f
  obtain ⟨e3, e4⟩ := t a (by rw [e2]; exact f)
  exact ⟨e3.trans e1, e4.trans e2⟩
theorem rd_of {L : Lab} {H : Hp} {a : Addr} {o : HO} (h : rd L H a = some o) : (∃ l, L a = some (0, l)) ∧ H a = some o := by
  unfold rd at h
  split at h
  · rename_i l e
    exact ⟨⟨l, e⟩, h⟩
  · cases h
theorem rd_mk {L : Lab} {H : Hp} {a : Addr} {o : HO} {l : List Nat} (h1 : L a = some (0, l)) (h2 : H a = some o) : rd L H a = some o := by
  unfold rd; rw [h1]; exact h2
theorem Stp.rd {L L' : Lab} {H H' : Hp} (s : Stp L H L' H') : Same (rd L H) (rd L' H') := fun a o h => by
  obtain ⟨⟨l, e⟩, h2⟩ := rd_of h
  obtain ⟨e1, e2⟩ := s a ⟨by rw [h2]; simp, .inr ⟨l, e⟩⟩
  exact rd_mk (e1.trans e) (e2.trans h2)
theorem rd_sub {L : Lab} {H : Hp} : Same (rd L H) H := fun _ _ h => (rd_of h).2
theorem sub_of {L : Lab} {k : Nat} {a : Addr} {l : List Nat} (h : sub L k a = some l) : L a = some (k, l) := by
  unfold sub at h
  split at h
  · rename_i j l' e
    split at h
    · rename_i ej; cases h; rw [e, ej]
    · cases h
  · cases h
theorem sub_mk {L : Lab} {k : Nat} {a : Addr} {l : List Nat} (h : L a = some (k, l)) : sub L k a = some l := by
  unfold sub; rw [h]; simp
/-! ### codecs -/
structure Cod (α : Type) where
  see : Frag → Hp → V → α → Prop
  mono : ∀ (K : Frag) (R R' : Hp) (v : V) (x : α), Same R R' → see K R v x → see K R' v x
structure OCod (α : Type) where
  own : Frag → Hp → (Addr → Option (List Nat)) → Hp → List Nat → V → α → Prop
  mono : ∀ (K : Frag) (R R' : Hp) (M M' : Addr → Option (List Nat)) (H H' : Hp) (l : List Nat) (v : V) (x : α), Same R R' → (∀ a m, M a = some m → M' a = some m ∧ H' a = H a) → own K R M H l v x → own K R' M' H' l v x
/-- what a slot is known to hold -/
structure Slot where
  T : Type
  rel : Frag → Nat → T → Lab → Hp → Option (Option V) → Prop
  keep : ∀ (K : Frag) (k : Nat) (x : T) (L : Lab) (H : Hp) (L' : Lab) (H' : Hp) (o : Option (Option V)), Same (rd L H) (rd L' H') → (∀ a l, L a = some (k + 1, l) → L' a = L a ∧ H' a = H a) → rel K k x L H o → rel K k x L' H' o
abbrev sAny : Slot := ⟨Unit, fun _ _ _ _ _ _ => True, fun _ _ _ _ _ _ _ _ _ _ h => h⟩
abbrev sVal {α : Type} (c : Cod α) : Slot := ⟨α, fun K _ x L H o => ∃ v, o = some (some v) ∧ c.see K (rd L H) v x, fun K _ x L H L' H' o s _ ⟨v, e, h⟩ => ⟨v, e, c.mono K _ _ v x s h⟩⟩
abbrev sOwn {α : Type} (P : V → Prop) (c : OCod α) : Slot := ⟨α, fun K k x L H o => ∃ v, P v ∧ o = some (some v) ∧ c.own K (rd L H) (sub L (k + 1)) H [] v x, fun K k x L H L' H' o s t ⟨v, p, e, h⟩ =>
  ⟨v, p, e, c.mono K _ _ _ _ _ _ _ v x s (fun a m hm => ⟨sub_mk ((t a m (sub_of hm)).1.trans (sub_of hm)), (t a m (sub_of hm)).2⟩) h⟩⟩
abbrev PAny : V → Prop := fun _ => True
abbrev Ctx := List Slot
@[reducible] def CT : Ctx → Type
  | [] => Unit
  | s :: G => s.T × CT G
def CR (K : Frag) : Nat → (G : Ctx) → CT G → Lab → Hp → St → Prop
  | k, [], _, _, _, o => k ≤ o.length
  | k, s :: G, r, L, H, o => s.rel K k r.1 L H o[k]? ∧ CR K (k + 1) G r.2 L H o
theorem CR.keep {K : Frag} {L L' : Lab} {H H' : Hp} {o : St} (s : Same (rd L H) (rd L' H')) : ∀ {k : Nat} {G : Ctx} {r : CT G}, (∀ a j l, k ≤ j → L a = some (j + 1, l) → L' a = L a ∧ H' a = H a) → CR K k G r L H o → CR K k G r L' H' o
  | _, [], _, _, c => c
  | k, t :: G, r, h, c => ⟨t.keep K k r.1 L H L' H' _ s (fun a l e => h a k l (Nat.le_refl _) e) c.1, CR.keep s (fun a j l hj e => h a j l (Nat.le_of_succ_le hj) e) c.2⟩
theorem CR.ext {K : Frag} {L L' : Lab} {H H' : Hp} {o : St} {k : Nat} {G : Ctx} {r : CT G} (w : Wf L H) (e : Ext L H L' H') (c : CR K k G r L H o) : CR K k G r L' H' o :=
  c.keep e.stp.rd fun a j l _ ea => e a (w.dom a (by rw [ea]; simp))
/-! ### what an expression gives -/
structure Rt (α : Type) where
  rel : Frag → Lab → Hp → Lab → Hp → V → α → Prop
  post : ∀ (K : Frag) (L : Lab) (H : Hp) (L1 : Lab) (H1 : Hp) (L2 : Lab) (H2 : Hp) (v : V) (x : α), Stp L1 H1 L2 H2 → rel K L H L1 H1 v x → rel K L H L2 H2 v x
  pre : ∀ (K : Frag) (L : Lab) (H : Hp) (L1 : Lab) (H1 : Hp) (L2 : Lab) (H2 : Hp) (v : V) (x : α), Stp L H L1 H1 → rel K L1 H1 L2 H2 v x → rel K L H L2 H2 v x
def rV {α : Type} (c : Cod α) : Rt α := ⟨fun K _ _ L' H' v x => c.see K (rd L' H') v x, fun K _ _ _ _ _ _ v x s h => c.mono K _ _ v x s.rd h, fun _ _ _ _ _ _ _ _ _ _ h => h⟩
def OwnAt {α : Type} (c : OCod α) (K : Frag) (L : Lab) (H : Hp) (L' : Lab) (H' : Hp) (v : V) (x : α) : Prop :=
  ∃ M : Addr → Option (List Nat), (∀ a m, M a = some m → L' a = none ∧ NonTup m (H' a) ∧ ¬ Frm L H a) ∧ c.own K (rd L' H') M H' [] v x
theorem NonTup.ne {l : List Nat} {o : Option HO} (h : NonTup l o) : o ≠ none := by
  cases o with
  | none => exact h.elim
  | some _ => simp
def rO {α : Type} (c : OCod α) : Rt α := ⟨fun K L H L' H' v x => OwnAt c K L H L' H' v x, fun K L H L1 H1 L2 H2 v x s ⟨M, hM, h⟩ => ⟨M, fun a m e => by
    obtain ⟨h1, h2, h3⟩ := hM a m e
    obtain ⟨e1, e2⟩ := s a ⟨h2.ne, .inl h1⟩
    exact ⟨e1.trans h1, by rw [e2]; exact h2, h3⟩,
  c.mono K _ _ _ _ _ _ _ v x s.rd (fun a m e => ⟨e, (s a ⟨(hM a m e).2.1.ne, .inl (hM a m e).1⟩).2⟩) h⟩, fun K L H L1 H1 L2 H2 v x s ⟨M, hM, h⟩ => ⟨M, fun a m e => by
    obtain ⟨h1, h2, h3⟩ := hM a m e
    exact ⟨h1, h2, fun f => h3 (s.frm f)⟩, h⟩⟩
/-! ### the surroundings -/
structure Amb where
  X : Cx
  W : WX
  tk : Takes X W
  calm : X.calm = true
  hp : PassesOwn (model X.prog X.w) X.A X.env X.xe
  nd : X.N.Nodup
  ca : Str → Addr
  S : Nat → Prop
  lv : Nat
  room : Room lv X.A
  gd : X.A.guards = some []
/-- an exception as it leaves: nothing that is to stay was touched -/
def RzK (K : Frag) (ca : Str → Addr) (L : Lab) (H : Hp) (e : Exn) (cls : Value) (d : Addr) (H' : Hp) : Prop :=
  cls = .ref (ca e.cls) ∧ (∀ a, Frm L H a → H' a = H a) ∧ ¬ Frm L H d ∧ ∃ v, H' d = some (.xd [("value", v)]) ∧ ∃ R : Hp, Same R H' ∧ Same (rd L H) R ∧ (∀ a o, R a = some o → rd L H a = some o ∨ ¬ Frm L H a) ∧ Dp K R v e.val
abbrev Rz (A : Amb) (L : Lab) (H : Hp) (e : Exn) (cls : Value) (d : Addr) (H' : Hp) : Prop := RzK A.X.K A.ca L H e cls d H'
def Amb.raises (A : Amb) (e : Exn) (L : Lab) (H : Hp) (o : St) : Prop := ∀ cls d H', Rz A L H e cls d H' → ∀ o', (∀ i, ¬ A.S i → o'[i]? = o[i]?) → A.W cls (some d) o' H'
theorem Amb.raises.mono {A : Amb} {e : Exn} {L L1 : Lab} {H H1 : Hp} {o o1 : St} (s : Stp L H L1 H1) (ho : ∀ i, ¬ A.S i → o1[i]? = o[i]?) (r : A.raises e L H o) : A.raises e L1 H1 o1 := fun cls d H' ⟨h1, h2, h3, v, h4, R, h5, h6, h7, h8⟩ o' h' =>
  r cls d H' ⟨h1, fun a f => (h2 a (s.frm f)).trans (s a f).2, fun f => h3 (s.frm f), v, h4, R, h5, fun a o q => h6 a o (s.rd a o q), fun a o q => by
    rcases h7 a o q with z | z
    · by_cases f : Frm L H a
      · refine .inl ?_
        obtain ⟨e1, e2⟩ := s a f
        obtain ⟨⟨l, z1⟩, z2⟩ := rd_of z
        exact rd_mk (e1.symm.trans z1) (e2.symm.trans z2)
      · exact .inr f
    · exact .inr fun f => z (s.frm f), h8⟩ o' fun i hi => (h' i hi).trans (ho i hi)
def Good (A : Amb) {α : Type} (m : Res α) (L : Lab) (H : Hp) (o : St) (P : α → Prop) : Prop := match m with
  | .ok a => P a
  | .exc e => A.raises e L H o
  | .bad => False
theorem Good.imp {A : Amb} {α : Type} {m : Res α} {L : Lab} {H : Hp} {o : St} {P Q : α → Prop} (h : Good A m L H o P) (i : ∀ a, m = .ok a → P a → Q a) : Good A m L H o Q := by
  cases m with
  | ok a => exact i a rfl h
  | exc e => exact h
  | bad => exact h
theorem Good.step {A : Amb} {α : Type} {m : Res α} {L L1 : Lab} {H H1 : Hp} {o : St} {P : α → Prop} (s : Stp L H L1 H1) (h : Good A m L H o P) : Good A m L1 H1 o P := by
  cases m with
  | ok a => exact h
  | exc e => exact Amb.raises.mono s (fun _ _ => rfl) h
  | bad => exact h
theorem Good.bind {A : Amb} {α β : Type} {m : Res α} {f : α → Res β} {L : Lab} {H : Hp} {o : St} {P : β → Prop} (h : Good A (Res.bind m f) L H o P) : Good A m L H o fun a => Good A (f a) L H o P := by
  cases m with
  | ok a => exact h
  | exc e => exact h
  | bad => exact h
section
variable (A : Amb)
/-- the canonical reading of an expression -/
def tE {α : Type} (G : Ctx) (r : Rt α) (f : CT G → Res (α × CT G)) : L2.TE := fun o H Q =>
  ∃ (p : CT G) (L : Lab), Wf L H ∧ CR A.X.K 0 G p L H o ∧ Good A (f p) L H o fun y => ∀ (v : V) (L' : Lab) (H' : Hp), Stp L H L' H' → Wf L' H' → CR A.X.K 0 G y.2 L' H' o → r.rel A.X.K L H L' H' v y.1 → Q v H'
def tT (G : Ctx) (f : CT G → Res (Bool × CT G)) : L2.TT := fun o H Q =>
  ∃ (p : CT G) (L : Lab), Wf L H ∧ CR A.X.K 0 G p L H o ∧ Good A (f p) L H o fun y => ∀ (L' : Lab) (H' : Hp), Stp L H L' H' → Wf L' H' → CR A.X.K 0 G y.2 L' H' o → Q y.1 H'
end
/-- an expression: e gives what f says -/
def EX (A : Amb) (G : Ctx) (e : Expr) {α : Type} (r : Rt α) (f : CT G → Res (α × CT G)) : Prop := PE A.X e (tE A G r f)
def TX (A : Amb) (G : Ctx) (e : Expr) (f : CT G → Res (Bool × CT G)) : Prop := PT A.X e (tT A G f)
theorem pe_weak {X : Cx} {e : Expr} {t t' : L2.TE} (h : PE X e t) (i : ∀ o H Q, t' o H Q → t o H Q) : PE X e t' := ⟨fun pins s o H Q I q => h.run pins s o H Q I (i _ _ _ q)⟩
theorem pt_weak {X : Cx} {e : Expr} {t t' : L2.TT} (h : PT X e t) (i : ∀ o H Q, t' o H Q → t o H Q) : PT X e t' := ⟨fun pins s o H Q I q => h.run pins s o H Q I (i _ _ _ q)⟩
/-- one part -/
theorem run1 {A : Amb} {G : Ctx} {α β : Type} {r : Rt α} {f : CT G → Res (α × CT G)} {g : α × CT G → Res β} {o : St} {H : Hp} {Q : VK} {p : CT G} {L : Lab} {P : β → Prop} (w : Wf L H) (c : CR A.X.K 0 G p L H o) (h : Good A (Res.bind (f p) g) L H o P)
    (k : ∀ x p' v L' H', Stp L H L' H' → Wf L' H' → CR A.X.K 0 G p' L' H' o → r.rel A.X.K L H L' H' v x → Good A (g (x, p')) L' H' o P → Q v H') : tE A G r f o H Q :=
  ⟨p, L, w, c, h.bind.imp fun y _ hy v L' H' s w' c' rl => k y.1 y.2 v L' H' s w' c' rl (hy.step s)⟩
end AC
set_option Elab.async false
set_option linter.all false
set_option maxRecDepth 100000
/-! TL2: codecs; expressions: names, constants, operators, comparisons, tests. -/
namespace AC
open PySem L2 PyProof
/-! ### codecs -/
def SeeT (K : Frag) (R : Hp) (a : Addr) (xs : List V) : Prop :=
  R a = some (.tup xs) ∨ (∃ o, R a = some (.frz o (.tup xs))) ∨ ∃ (o : Obj) (its : Array Value) (n : Nat), K.lookup a = some o ∧ o.cls = .type "tuple" ∧ o.data = .seq its n ∧ its.size ≤ sizeLine ∧ Vals xs its.toList
theorem SeeT.same {K : Frag} {R R' : Hp} {a : Addr} {xs : List V} (s : Same R R') : SeeT K R a xs → SeeT K R' a xs
  | .inl h => .inl (s _ _ h)
  | .inr (.inl ⟨o, h⟩) => .inr (.inl ⟨o, s _ _ h⟩)
  | .inr (.inr h) => .inr (.inr h)
theorem SeeT.sq {K : Frag} {R : Hp} {a : Addr} {xs : List V} : SeeT K R a xs → SqT K R a xs
  | .inl h => .inl (.inl h)
  | .inr (.inl h) => .inl (.inr h)
  | .inr (.inr h) => .inr h
theorem paired_mono {α β : Type} {F G : α → β → Prop} (i : ∀ a b, F a b → G a b) : ∀ {l : List α} {m : List β}, Paired F l m → Paired G l m
  | _, _, .nil => .nil
  | _, _, .cons r t => .cons (i _ _ r) (paired_mono i t)
theorem paired_len {α β : Type} {F : α → β → Prop} : ∀ {l : List α} {m : List β}, Paired F l m → l.length = m.length
  | _, _, .nil => rfl
  | _, _, .cons _ t => by rw [List.length_cons, List.length_cons, paired_len t]
theorem paired_get {α β : Type} {F : α → β → Prop} : ∀ {l : List α} {m : List β} {i : Nat} {y : β}, Paired F l m → m[i]? = some y → ∃ x, l[i]? = some x ∧ F x y
  | _, _, _, _, .nil, h => by simp at h
  | _, _, 0, y, .cons r t, h => by simp at h; subst h; exact ⟨_, rfl, r⟩
  | _, _, i + 1, y, .cons r t, h => by
    obtain ⟨x, h1, h2⟩ := paired_get (i := i) t (by simpa using h)
    exact ⟨x, by simpa using h1, h2⟩
theorem paired_getL {α β : Type} {F : α → β → Prop} : ∀ {l : List α} {m : List β} {i : Nat} {x : α}, Paired F l m → l[i]? = some x → ∃ y, m[i]? = some y ∧ F x y
  | _, _, _, _, .nil, h => by simp at h
  | _, _, 0, y, .cons r t, h => by simp at h; subst h; exact ⟨_, rfl, r⟩
  | _, _, i + 1, y, .cons r t, h => by
    obtain ⟨x, h1, h2⟩ := paired_getL (i := i) t (by simpa using h)
    exact ⟨x, by simpa using h1, h2⟩
theorem paired_append {α β : Type} {F : α → β → Prop} : ∀ {l l' : List α} {m m' : List β}, Paired F l m → Paired F l' m' → Paired F (l ++ l') (m ++ m')
  | _, _, _, _, .nil, q => q
  | _, _, _, _, .cons r t, q => .cons r (paired_append t q)
theorem paired_drop {α β : Type} {F : α → β → Prop} : ∀ {l : List α} {m : List β} (n : Nat), Paired F l m → Paired F (l.drop n) (m.drop n)
  | _, _, 0, p => p
  | _, _, _ + 1, .nil => .nil
  | _, _, n + 1, .cons _ t => paired_drop n t
theorem paired_take {α β : Type} {F : α → β → Prop} : ∀ {l : List α} {m : List β} (n : Nat), Paired F l m → Paired F (l.take n) (m.take n)
  | _, _, 0, p => .nil
  | _, _, _ + 1, .nil => .nil
  | _, _, n + 1, .cons r t => .cons r (paired_take n t)
theorem paired_at {α β : Type} {F : α → β → Prop} {l : List α} {m : List β} {i : Int} {y : β} (p : Paired F l m) (h : atI m i = some y) : ∃ x, atI l i = some x ∧ F x y := by
  unfold atI at h ⊢
  rw [paired_len p]
  cases e : ixN m.length i with
  | none => rw [e] at h; cases h
  | some j =>
    rw [e] at h
    exact paired_get p h
theorem paired_iff_map {α β γ : Type} {F : α → β → Prop} {g : β → γ} {G : α → γ → Prop} (i : ∀ a b, F a b → G a (g b)) : ∀ {l : List α} {m : List β}, Paired F l m → Paired G l (m.map g)
  | _, _, .nil => .nil
  | _, _, .cons r t => .cons (i _ _ r) (paired_iff_map i t)
def cI : Cod Int := ⟨fun _ _ v x => v = .int x, fun _ _ _ _ _ _ h => h⟩
def cB : Cod Bool := ⟨fun _ _ v x => v = .bl x, fun _ _ _ _ _ _ h => h⟩
def cN : Cod Unit := ⟨fun _ _ v _ => v = .non, fun _ _ _ _ _ _ h => h⟩
def cS : Cod Str := ⟨fun _ _ v x => v = .str x ∧ PyData.strOk x = true ∧ x.length ≤ sizeLine, fun _ _ _ _ _ _ h => h⟩
def oSee {α : Type} (c : Cod α) (K : Frag) (R : Hp) (v : V) : Option α → Prop
  | none => v = .non
  | some x => c.see K R v x
def cO {α : Type} (c : Cod α) : Cod (Option α) := ⟨fun K R v x => oSee c K R v x, fun K R R' v x s h => by
  cases x with
  | none => exact h
  | some x => exact c.mono K R R' v x s h⟩
/-- some values in a row -/
structure ArgC (α : Type) where
  n : Nat
  see : Frag → Hp → List V → α → Prop
  mono : ∀ (K : Frag) (R R' : Hp) (vs : List V) (x : α), Same R R' → see K R vs x → see K R' vs x
  len : ∀ (K : Frag) (R : Hp) (vs : List V) (x : α), see K R vs x → vs.length = n
def aNil : ArgC Unit := ⟨0, fun _ _ vs _ => vs = [], fun _ _ _ _ _ _ h => h, fun _ _ _ _ h => by rw [h]; rfl⟩
def aOne {α : Type} (c : Cod α) : ArgC α := ⟨1, fun K R vs x => ∃ v, vs = [v] ∧ c.see K R v x, fun K R R' vs x s ⟨v, e, h⟩ => ⟨v, e, c.mono K R R' v x s h⟩, fun _ _ _ _ ⟨_, e, _⟩ => by rw [e]; rfl⟩
def aCons {α β : Type} (c : Cod α) (as : ArgC β) : ArgC (α × β) := ⟨as.n + 1, fun K R vs x => ∃ v ws, vs = v :: ws ∧ c.see K R v x.1 ∧ as.see K R ws x.2, fun K R R' vs x s ⟨v, ws, e, h, h'⟩ => ⟨v, ws, e, c.mono K R R' v _ s h, as.mono K R R' ws _ s h'⟩,
  fun K R vs x ⟨v, ws, e, _, h⟩ => by rw [e, List.length_cons, as.len K R ws _ h]⟩
/-- so many values of one kind -/
def aAll {α : Type} (c : Cod α) (n : Nat) : ArgC (List α) := ⟨n, fun K R vs xs => vs.length = n ∧ Paired (fun v x => c.see K R v x) vs xs, fun K R R' vs xs s ⟨h1, h2⟩ => ⟨h1, paired_mono (fun _ _ q => c.mono K R R' _ _ s q) h2⟩, fun _ _ _ _ h => h.1⟩
/-- a tuple of so many places -/
def cT {α : Type} (as : ArgC α) : Cod α := ⟨fun K R v x => ∃ a vs, v = .ref a ∧ SeeT K R a vs ∧ as.see K R vs x, fun K R R' v x s ⟨a, vs, e, h, h'⟩ => ⟨a, vs, e, h.same s, as.mono K R R' vs x s h'⟩⟩
/-- a tuple of any length, of one kind -/
def cTV {α : Type} (c : Cod α) : Cod (List α) := ⟨fun K R v xs => ∃ a vs, v = .ref a ∧ SeeT K R a vs ∧ vs.length ≤ sizeLine ∧ Paired (fun v x => c.see K R v x) vs xs, fun K R R' v x s ⟨a, vs, e, h, hl, h'⟩ => ⟨a, vs, e, h.same s, hl, paired_mono (fun _ _ q => c.mono K R R' _ _ s q) h'⟩⟩
/-- a list that stays as it is -/
def cL {α : Type} (c : Cod α) : Cod (List α) := ⟨fun K R v xs => ∃ a vs, v = .ref a ∧ R a = some (.lst vs) ∧ vs.length ≤ sizeLine ∧ Paired (fun v x => c.see K R v x) vs xs, fun K R R' v x s ⟨a, vs, e, h, hl, h'⟩ => ⟨a, vs, e, s _ _ h, hl, paired_mono (fun _ _ q => c.mono K R R' _ _ s q) h'⟩⟩
/-- a list that came from without -/
def cLK {α : Type} (c : Cod α) : Cod (List α) := ⟨fun K R v xs => ∃ a vs, v = .ref a ∧ SqL K R a vs ∧ vs.length ≤ sizeLine ∧ Paired (fun v x => c.see K R v x) vs xs, fun K R R' v x s ⟨a, vs, e, h, hl, h'⟩ => ⟨a, vs, e, s.seq h, hl, paired_mono (fun _ _ q => c.mono K R R' _ _ s q) h'⟩⟩
/-- a list of one's own -/
def oL {α : Type} (c : Cod α) : OCod (List α) := ⟨fun K R M H l v xs => ∃ p vs, v = .ref p ∧ M p = some l ∧ H p = some (.lst vs) ∧ vs.length ≤ sizeLine ∧ Paired (fun v x => c.see K R v x) vs xs,
  fun K R R' M M' H H' l v x s t ⟨p, vs, e, hm, hp, hl, h'⟩ => ⟨p, vs, e, (t p l hm).1, (t p l hm).2.trans hp, hl, paired_mono (fun _ _ q => c.mono K R R' _ _ s q) h'⟩⟩
/-! ### data -/
/-- what a value is as data, how deep -/
def DC {α : Type} (c : Cod α) (t : α → PyData) (n : Nat) : Prop := ∀ K R v x, c.see K R v x → Dp K R v (t x) ∧ (t x).canLay0 = true ∧ (t x).depth ≤ n
theorem dc_i : DC cI .int 0 := fun K R v x h => by cases h; exact ⟨.int x, by simp [PyData.canLay0], by simp [PyData.depth]⟩
theorem dc_b : DC cB .bool 0 := fun K R v x h => by cases h; exact ⟨.bl x, by simp [PyData.canLay0], by simp [PyData.depth]⟩
theorem dc_s : DC cS .str 0 := fun K R v x h => by obtain ⟨rfl, h, _⟩ := h; exact ⟨.str x, by simpa [PyData.canLay0] using h, by simp [PyData.depth]⟩
def tO {α : Type} (t : α → PyData) : Option α → PyData
  | none => .none
  | some x => t x
theorem dc_o {α : Type} {c : Cod α} {t : α → PyData} {n : Nat} (h : DC c t n) : DC (cO c) (tO t) n := fun K R v x q => by
  cases x with
  | none => cases q; exact ⟨.non, by simp [tO, PyData.canLay0], by simp [tO, PyData.depth]⟩
  | some x => exact h K R v x q
def DA {α : Type} (c : ArgC α) (t : α → List PyData) (n : Nat) : Prop := ∀ K R vs x, c.see K R vs x → DpAll K R vs (t x) ∧ PyData.canLayAll0 (t x) = true ∧ PyData.depthAll (t x) ≤ n
theorem da_one {α : Type} {c : Cod α} {t : α → PyData} {n : Nat} (h : DC c t n) : DA (aOne c) (fun x => [t x]) n := fun K R vs x ⟨v, e, q⟩ => by
  subst e
  obtain ⟨h1, h2, h3⟩ := h K R v x q
  exact ⟨.cons h1 .nil, by simp [PyData.canLayAll0, h2], by simp [PyData.depthAll]; omega⟩
theorem da_cons {α β : Type} {c : Cod α} {as : ArgC β} {t : α → PyData} {u : β → List PyData} {n m : Nat} (h : DC c t n) (h' : DA as u m) : DA (aCons c as) (fun x => t x.1 :: u x.2) (max n m) := fun K R vs x ⟨v, ws, e, q, q'⟩ => by
  subst e
  obtain ⟨h1, h2, h3⟩ := h K R v x.1 q
  obtain ⟨g1, g2, g3⟩ := h' K R ws x.2 q'
  exact ⟨.cons h1 g1, by simp [PyData.canLayAll0, h2, g2], by simp only [PyData.depthAll]; omega⟩
theorem dc_t {α : Type} {as : ArgC α} {t : α → List PyData} {n : Nat} (h : DA as t n) : DC (cT as) (fun x => .tuple (t x)) (n + 1) := fun K R v x ⟨a, vs, e, q, q'⟩ => by
  subst e
  obtain ⟨h1, h2, h3⟩ := h K R vs x q'
  exact ⟨.tup q.sq h1, by simp [PyData.canLay0, h2], by simp only [PyData.depth]; omega⟩
theorem dc_all {α : Type} {c : Cod α} {t : α → PyData} {n : Nat} (h : DC c t n) {K : Frag} {R : Hp} : ∀ {vs : List V} {xs : List α}, Paired (fun v x => c.see K R v x) vs xs → DpAll K R vs (xs.map t) ∧ PyData.canLayAll0 (xs.map t) = true ∧ PyData.depthAll (xs.map t) ≤ n
  | _, _, .nil => ⟨.nil, by simp [PyData.canLayAll0], by simp [PyData.depthAll]⟩
  | _, _, .cons r p => by
    obtain ⟨h1, h2, h3⟩ := h K R _ _ r
    obtain ⟨g1, g2, g3⟩ := dc_all h p
    exact ⟨.cons h1 g1, by simp only [List.map_cons, PyData.canLayAll0, h2, g2, Bool.and_self], by simp only [List.map_cons, PyData.depthAll]; omega⟩
theorem dc_l {α : Type} {c : Cod α} {t : α → PyData} {n : Nat} (h : DC c t n) : DC (cL c) (fun xs => .list (xs.map t)) (n + 1) := fun K R v x ⟨a, vs, e, q, _, q'⟩ => by
  subst e
  obtain ⟨h1, h2, h3⟩ := dc_all h q'
  exact ⟨.lst (.inl (.inl q)) h1, by simp [PyData.canLay0, h2], by simp only [PyData.depth]; omega⟩
theorem dc_tv {α : Type} {c : Cod α} {t : α → PyData} {n : Nat} (h : DC c t n) : DC (cTV c) (fun xs => .tuple (xs.map t)) (n + 1) := fun K R v x ⟨a, vs, e, q, _, q'⟩ => by
  subst e
  obtain ⟨h1, h2, h3⟩ := dc_all h q'
  exact ⟨.tup q.sq h1, by simp [PyData.canLay0, h2], by simp only [PyData.depth]; omega⟩
/-! ### slots -/
structure At (G : Ctx) (i : Nat) (s : Slot) (g : CT G → s.T) : Prop where
  ok : ∀ (K : Frag) (k : Nat) (p : CT G) (L : Lab) (H : Hp) (o : St), CR K k G p L H o → s.rel K (k + i) (g p) L H o[k + i]?
theorem at_z {G : Ctx} {s : Slot} : At (s :: G) 0 s (fun p => p.1) := ⟨fun _ _ _ _ _ _ c => c.1⟩
theorem at_s {G : Ctx} {i : Nat} {s t : Slot} {g : CT G → s.T} (h : At G i s g) : At (t :: G) (i + 1) s (fun p => g p.2) := ⟨fun K k p L H o c => by
  have q := h.ok K (k + 1) p.2 L H o c.2
  rw [show k + (i + 1) = k + 1 + i by omega]
  exact q⟩
section
variable {A : Amb} {G : Ctx}
/-- a name -/
theorem ex_var {α : Type} {c : Cod α} {i : Nat} {x : Str} {pos : Pos} {g : CT G → α} (h : At G i (sVal c) g) (hN : A.X.N[i]? = some x) (hv : Vis A.X.env.scope x) (hd : (x == ("__debug__" : Str)) = false := by decide) (hcd : (x == ("__classdict__" : Str)) = false := by decide) :
    EX A G (.Name x pos) (rV c) (fun p => .ok (g p, p)) := pe_weak (pe_var hN hv hd hcd) fun o H Q ⟨p, L, w, cr, k⟩ => by
  obtain ⟨v, e, q⟩ := h.ok _ _ _ _ _ _ cr
  rw [Nat.zero_add] at e
  exact ⟨v, e, k v L H Stp.refl w cr q⟩
theorem ex_c {α : Type} {c : Cod α} {e : Expr} {v : V} {x : α} (h : PE A.X e (tC v)) (hs : ∀ K R, c.see K R v x) : EX A G e (rV c) (fun p => .ok (x, p)) := pe_weak h fun o H Q ⟨p, L, w, cr, k⟩ => k v L H Stp.refl w cr (hs _ _)
theorem ex_int {i j pos} : EX A G (.Constant (.int i) j pos) (rV cI) (fun p => .ok (i, p)) := ex_c pe_int fun _ _ => rfl
theorem ex_bool {b j pos} : EX A G (.Constant (.bool b) j pos) (rV cB) (fun p => .ok (b, p)) := ex_c pe_bl fun _ _ => rfl
theorem ex_none {j pos} : EX A G (.Constant .none j pos) (rV cN) (fun p => .ok ((), p)) := ex_c pe_non fun _ _ => rfl
theorem ex_str {x j pos} (h1 : PyData.strOk x = true) (h2 : x.length ≤ sizeLine) : EX A G (.Constant (.str x) j pos) (rV cS) (fun p => .ok (x, p)) := ex_c pe_str fun _ _ => ⟨rfl, h1, h2⟩
/-- the same value read otherwise -/
def Sub {α β : Type} (c : Cod α) (d : Cod β) (g : α → β) : Prop := ∀ K R v x, c.see K R v x → d.see K R v (g x)
theorem ex_sub {α β : Type} {c : Cod α} {d : Cod β} {g : α → β} {e : Expr} {f : CT G → Res (α × CT G)} (s : Sub c d g) (h : EX A G e (rV c) f) : EX A G e (rV d) (fun p => Res.bind (f p) fun y => .ok (g y.1, y.2)) :=
  pe_weak h fun o H Q ⟨p, L, w, cr, k⟩ => run1 w cr k fun x p' v L' H' st w' c' rl gd => gd v L' H' st w' c' (s _ _ _ _ rl)
theorem sub_none {α : Type} {c : Cod α} : Sub cN (cO c) (fun _ => none) := fun _ _ _ _ h => h
theorem sub_some {α : Type} {c : Cod α} : Sub c (cO c) some := fun _ _ _ _ h => h
def ofO {α : Type} : Option α → Res α
  | some x => .ok x
  | none => .bad
theorem good_ofO {α β : Type} {z : Option α} {f : α → Res β} {L : Lab} {H : Hp} {o : St} {P : β → Prop} (h : Good A (Res.bind (ofO z) f) L H o P) : ∃ x, z = some x ∧ Good A (f x) L H o P := by
  cases z with
  | none => exact h.elim
  | some x => exact ⟨x, rfl, h⟩
/-! ### operators by values -/
def OpT (A : Amb) (F : Value → Value → Sem Value) {α β γ : Type} (c : Cod α) (d : Cod β) (k : α → β → Option γ) (r : Rt γ) : Prop :=
  ∃ r2 : R2, OpR A.X F r2 ∧ ∀ (L : Lab) (H : Hp) (vx vy : V) (x : α) (y : β) (z : γ) (Q : VK), Wf L H → c.see A.X.K (rd L H) vx x → d.see A.X.K (rd L H) vy y → k x y = some z →
    (∀ v L' H', Ext L H L' H' → Wf L' H' → r.rel A.X.K L H L' H' v z → Q v H') → r2 vx vy H Q
/-- two parts, then an operation by values -/
theorem bin_core {α β γ : Type} {c : Cod α} {d : Cod β} {k : α → β → Option γ} {r : Rt γ} {r2 : V → V → Hp → VK → Prop} {f : CT G → Res (α × CT G)} {g : CT G → Res (β × CT G)} {o : St} {H : Hp} {Q : VK}
    (pr : ∀ (L : Lab) (H : Hp) (vx vy : V) (x : α) (y : β) (z : γ) (Q : VK), Wf L H → c.see A.X.K (rd L H) vx x → d.see A.X.K (rd L H) vy y → k x y = some z →
      (∀ v L' H', Ext L H L' H' → Wf L' H' → r.rel A.X.K L H L' H' v z → Q v H') → r2 vx vy H Q)
    (h : tE A G r (fun p => Res.bind (f p) fun y => Res.bind (g y.2) fun z => Res.bind (ofO (k y.1 z.1)) fun w => .ok (w, z.2)) o H Q) :
    tE A G (rV c) f o H fun x H1 => tE A G (rV d) g o H1 fun y H2 => r2 x y H2 Q := by
  obtain ⟨p, L, w, cr, kk⟩ := h
  refine run1 w cr kk fun x p1 vx L1 H1 s1 w1 c1 r1 g1 => ?_
  refine run1 w1 c1 g1 fun y p2 vy L2 H2 s2 w2 c2 r2' g2 => ?_
  obtain ⟨z, e, g3⟩ := good_ofO g2
  exact pr L2 H2 vx vy x y z Q w2 (c.mono _ _ _ _ _ s2.rd r1) r2' e fun v L' H' ex w' rl => g3 v L' H' ((s1.trans s2).trans ex.stp) w' (c2.ext w2 ex) (r.pre _ _ _ _ _ _ _ _ _ (s1.trans s2) rl)
theorem ex_op {α β γ : Type} {c : Cod α} {d : Cod β} {k : α → β → Option γ} {r : Rt γ} {op : Operator} {a b : Expr} {pos : Pos} {f : CT G → Res (α × CT G)} {g : CT G → Res (β × CT G)} (h : OpT A (binaryOp op) c d k r) (ha : EX A G a (rV c) f) (hb : EX A G b (rV d) g) :
    EX A G (.BinOp a op b pos) r (fun p => Res.bind (f p) fun y => Res.bind (g y.2) fun z => Res.bind (ofO (k y.1 z.1)) fun w => .ok (w, z.2)) := by
  obtain ⟨r2, ho, pr⟩ := h
  exact pe_weak (pe_op ho ha hb) fun o H Q q => bin_core pr q
theorem ex_cmp {α β γ : Type} {c : Cod α} {d : Cod β} {k : α → β → Option γ} {r : Rt γ} {op : CmpOp} {a b : Expr} {pos : Pos} {f : CT G → Res (α × CT G)} {g : CT G → Res (β × CT G)} (h : OpT A (compareOp op) c d k r) (ha : EX A G a (rV c) f) (hb : EX A G b (rV d) g)
    (hm : behindInMarks op b = false) :
    EX A G (.Compare a [op] [b] pos) r (fun p => Res.bind (f p) fun y => Res.bind (g y.2) fun z => Res.bind (ofO (k y.1 z.1)) fun w => .ok (w, z.2)) := by
  obtain ⟨r2, ho, pr⟩ := h
  exact pe_weak (pe_cmpR ho ha hb hm) fun o H Q q => bin_core pr q
/-- from a value's reading to a test's -/
theorem tT_of {f : CT G → Res (Bool × CT G)} {o : St} {H : Hp} {Q : Bool → Hp → Prop} (h : tT A G f o H Q) : tE A G (rV cB) f o H fun x H1 => ∃ k, x = .bl k ∧ Q k H1 := by
  obtain ⟨p, L, w, cr, kk⟩ := h
  exact ⟨p, L, w, cr, kk.imp fun y _ q v L' H' s w' c' rl => ⟨y.1, rl, q L' H' s w' c'⟩⟩
theorem tx_cmp {α β : Type} {c : Cod α} {d : Cod β} {k : α → β → Option Bool} {op : CmpOp} {a b : Expr} {pos : Pos} {f : CT G → Res (α × CT G)} {g : CT G → Res (β × CT G)} (h : OpT A (compareOp op) c d k (rV cB)) (ha : EX A G a (rV c) f) (hb : EX A G b (rV d) g)
    (hm : behindInMarks op b = false) :
    TX A G (.Compare a [op] [b] pos) (fun p => Res.bind (f p) fun y => Res.bind (g y.2) fun z => Res.bind (ofO (k y.1 z.1)) fun w => .ok (w, z.2)) := by
  obtain ⟨r2, ho, pr⟩ := h
  exact pt_weak (pt_cmpR ho ha hb hm) fun o H Q q => bin_core pr (tT_of q)
/-- a bool's expression as a test -/
theorem tx_val {e : Expr} {f : CT G → Res (Bool × CT G)} (h : EX A G e (rV cB) f) (he : ∀ whole, isTrue e A.X.env whole = (do let v ← whole; standAt e.pos; holding [v] (truthy v)) := by intro _; rfl) : TX A G e f :=
  pt_weak (pt_val h he) fun o H Q q => tT_of q
theorem tx_not {a : Expr} {pos : Pos} {f : CT G → Res (Bool × CT G)} (h : TX A G a f) : TX A G (.UnaryOp .Not a pos) (fun p => Res.bind (f p) fun y => .ok (!y.1, y.2)) :=
  pt_weak (pt_not h) fun o H Q ⟨p, L, w, cr, kk⟩ => ⟨p, L, w, cr, kk.bind.imp fun y _ q L' H' s w' c' => q L' H' s w' c'⟩
/-! ints -/
theorem op_of {F : Value → Value → Sem Value} {α β γ : Type} {c : Cod α} {d : Cod β} {e : Cod γ} {k : α → β → Option γ} {r2 : R2} (h : OpR A.X F r2)
    (pr : ∀ (L : Lab) (H : Hp) (vx vy : V) (x : α) (y : β) (z : γ) (Q : VK), Wf L H → c.see A.X.K (rd L H) vx x → d.see A.X.K (rd L H) vy y → k x y = some z → (∀ v, e.see A.X.K (rd L H) v z → Q v H) → r2 vx vy H Q) : OpT A F c d k (rV e) :=
  ⟨r2, h, fun L H vx vy x y z Q w h1 h2 h3 q => pr L H vx vy x y z Q w h1 h2 h3 fun v hv => q v L H Ext.refl w hv⟩
theorem ot_add : OpT A (binaryOp .Add) cI cI (fun x y => some (x + y)) (rV cI) := op_of op_add fun L H vx vy x y z Q w h1 h2 h3 q => by
  cases h1; cases h2; cases h3; exact ⟨_, _, rfl, rfl, q _ rfl⟩
theorem ot_sub : OpT A (binaryOp .Sub) cI cI (fun x y => some (x - y)) (rV cI) := op_of op_sub fun L H vx vy x y z Q w h1 h2 h3 q => by
  cases h1; cases h2; cases h3; exact ⟨_, _, rfl, rfl, q _ rfl⟩
def mulO (x y : Int) : Option Int := if Builtin.Int.intBits x ≤ 64 ∨ Builtin.Int.intBits y ≤ 64 ∨ x.natAbs.log2 + y.natAbs.log2 < 1000000 then some (x * y) else none
theorem op_mulZ {X : Cx} : OpR X (binaryOp .Mult) (rI IntMulOk fun i j => .int (i * j)) := opI fun _ _ _ _ _ _ _ hc q => PyProof.Rows.mul_int q hc
theorem ot_mul : OpT A (binaryOp .Mult) cI cI mulO (rV cI) := op_of op_mulZ fun L H vx vy x y z Q w h1 h2 h3 q => by
  cases h1; cases h2
  unfold mulO at h3
  split at h3
  · rename_i hc
    cases h3
    refine ⟨_, _, rfl, rfl, ?_, q _ rfl⟩
    rcases hc with hc | hc | hc
    · exact .of_left hc
    · exact .of_right hc
    · exact CMulW.ok hc
  · cases h3
def modO (x y : Int) : Option Int := if 0 < y then some (x % y) else none
theorem ot_mod : OpT A (binaryOp .Mod) cI cI modO (rV cI) := op_of op_mod fun L H vx vy x y z Q w h1 h2 h3 q => by
  cases h1; cases h2
  unfold modO at h3
  split at h3
  · rename_i hc; cases h3; exact ⟨_, _, rfl, rfl, hc, q _ rfl⟩
  · cases h3
def divO (x y : Int) : Option Int := if 0 < y ∧ y.natAbs.log2 < 9000 then some (x / y) else none
theorem ot_div : OpT A (binaryOp .FloorDiv) cI cI divO (rV cI) := op_of op_fdivW fun L H vx vy x y z Q w h1 h2 h3 q => by
  cases h1; cases h2
  unfold divO at h3
  split at h3
  · rename_i hc; cases h3; exact ⟨_, _, rfl, rfl, hc, q _ rfl⟩
  · cases h3
def powO (x y : Int) : Option Int := if 0 ≤ y ∧ (Builtin.Int.intBits x : Int) * y ≤ 2 ^ 27 then some (x ^ y.toNat) else none
theorem op_powW {X : Cx} : OpR X (binaryOp .Pow) (rI (fun i j => 0 ≤ j ∧ (Builtin.Int.intBits i : Int) * j ≤ 2 ^ 27) fun i j => .int (i ^ j.toNat)) := opI fun _ _ _ _ _ _ _ hc q => PyProof.Rows.pow_int hc.1 hc.2 q
theorem ot_pow : OpT A (binaryOp .Pow) cI cI powO (rV cI) := op_of op_powW fun L H vx vy x y z Q w h1 h2 h3 q => by
  cases h1; cases h2
  unfold powO at h3
  split at h3
  · rename_i hc; cases h3; exact ⟨_, _, rfl, rfl, hc, q _ rfl⟩
  · cases h3
theorem ot_and : OpT A (binaryOp .BitAnd) cI cI (fun x y => some (Builtin.bitAnd x y)) (rV cI) := op_of op_and fun L H vx vy x y z Q w h1 h2 h3 q => by
  cases h1; cases h2; cases h3; exact ⟨_, _, rfl, rfl, q _ rfl⟩
theorem ot_lt : OpT A (compareOp .Lt) cI cI (fun x y => some (decide (x < y))) (rV cB) := op_of op_lt fun L H vx vy x y z Q w h1 h2 h3 q => by
  cases h1; cases h2; cases h3; exact ⟨_, _, rfl, rfl, q _ rfl⟩
theorem ot_le : OpT A (compareOp .LtE) cI cI (fun x y => some (decide (x ≤ y))) (rV cB) := op_of op_le fun L H vx vy x y z Q w h1 h2 h3 q => by
  cases h1; cases h2; cases h3; exact ⟨_, _, rfl, rfl, q _ rfl⟩
theorem ot_gt : OpT A (compareOp .Gt) cI cI (fun x y => some (decide (y < x))) (rV cB) := op_of op_gt fun L H vx vy x y z Q w h1 h2 h3 q => by
  cases h1; cases h2; cases h3; exact ⟨_, _, rfl, rfl, q _ rfl⟩
theorem ot_ge : OpT A (compareOp .GtE) cI cI (fun x y => some (decide (y ≤ x))) (rV cB) := op_of op_ge fun L H vx vy x y z Q w h1 h2 h3 q => by
  cases h1; cases h2; cases h3; exact ⟨_, _, rfl, rfl, q _ rfl⟩
theorem ot_eq : OpT A (compareOp .Eq) cI cI (fun x y => some (decide (x = y))) (rV cB) := op_of op_eq fun L H vx vy x y z Q w h1 h2 h3 q => by
  cases h1; cases h2; cases h3; exact ⟨rfl, q _ (by show V.bl _ = V.bl _; simp)⟩
theorem ot_ne : OpT A (compareOp .NotEq) cI cI (fun x y => some (!decide (x = y))) (rV cB) := op_of op_ne fun L H vx vy x y z Q w h1 h2 h3 q => by
  cases h1; cases h2; cases h3; exact ⟨rfl, q _ (by show V.bl _ = V.bl _; simp)⟩
end
end AC
set_option Elab.async false
set_option linter.all false
set_option maxRecDepth 100000
/-! TL3: argument lists, displays, built-ins by values, subscripts, and / or, conditional expressions, chains. -/
namespace AC
open PySem L2 PyProof
section
variable {A : Amb} {G : Ctx}
/-! ### argument lists -/
def tA (A : Amb) {α : Type} (G : Ctx) (as : ArgC α) (f : CT G → Res (α × CT G)) : L2.TA := fun o H Q =>
  ∃ (p : CT G) (L : Lab), Wf L H ∧ CR A.X.K 0 G p L H o ∧ Good A (f p) L H o fun y => ∀ (vs : List V) (L' : Lab) (H' : Hp), Stp L H L' H' → Wf L' H' → CR A.X.K 0 G y.2 L' H' o → as.see A.X.K (rd L' H') vs y.1 → Q vs H'
def AX (A : Amb) (G : Ctx) (es : List Expr) {α : Type} (as : ArgC α) (f : CT G → Res (α × CT G)) : Prop := PA A.X es (tA A G as f)
theorem pa_weak {X : Cx} {es : List Expr} {t t' : L2.TA} (h : PA X es t) (i : ∀ o H Q, t' o H Q → t o H Q) : PA X es t' := ⟨fun pos pins s o H Q I q => h.run pos pins s o H Q I (i _ _ _ q)⟩
theorem ax_nil : AX A G [] aNil (fun p => .ok ((), p)) := pa_weak pa_nil fun o H Q ⟨p, L, w, cr, k⟩ => k [] L H Stp.refl w cr rfl
theorem ax_nilA {α : Type} {c : Cod α} : AX A G [] (aAll c 0) (fun p => .ok ([], p)) := pa_weak pa_nil fun o H Q ⟨p, L, w, cr, k⟩ => k [] L H Stp.refl w cr ⟨rfl, .nil⟩
theorem ax_core {α β γ : Type} {c : Cod α} {as : ArgC β} {bs : ArgC γ} {m : α → β → γ} {f : CT G → Res (α × CT G)} {g : CT G → Res (β × CT G)} (hm : ∀ K R v vs x y, c.see K R v x → as.see K R vs y → bs.see K R (v :: vs) (m x y)) {o : St} {H : Hp} {Q : List V → Hp → Prop}
    (h : tA A G bs (fun p => Res.bind (f p) fun y => Res.bind (g y.2) fun z => .ok (m y.1 z.1, z.2)) o H Q) : tE A G (rV c) f o H fun x H1 => tA A G as g o H1 fun xs H2 => Q (x :: xs) H2 := by
  obtain ⟨p, L, w, cr, kk⟩ := h
  refine run1 w cr kk fun x p1 v L1 H1 s1 w1 c1 r1 g1 => ?_
  exact ⟨p1, L1, w1, c1, g1.bind.imp fun z _ gz vs L2 H2 s2 w2 c2 r2 => gz (v :: vs) L2 H2 (s1.trans s2) w2 c2 (hm _ _ _ _ _ _ (c.mono _ _ _ _ _ s2.rd r1) r2)⟩
theorem ax_cons {α β : Type} {c : Cod α} {as : ArgC β} {e : Expr} {es : List Expr} {f : CT G → Res (α × CT G)} {g : CT G → Res (β × CT G)} (h : EX A G e (rV c) f) (hr : AX A G es as g) (hs : starEach (e :: es) A.X.env = (false, eval e A.X.env) :: starEach es A.X.env := by rfl) :
    AX A G (e :: es) (aCons c as) (fun p => Res.bind (f p) fun y => Res.bind (g y.2) fun z => .ok ((y.1, z.1), z.2)) :=
  pa_weak (pa_cons h hr hs) fun o H Q q => ax_core (as := as) (bs := aCons c as) (m := Prod.mk) (fun K R v vs x y h1 h2 => ⟨v, vs, rfl, h1, h2⟩) q
theorem ax_one {α : Type} {c : Cod α} {e : Expr} {f : CT G → Res (α × CT G)} (h : EX A G e (rV c) f) (hs : starEach [e] A.X.env = (false, eval e A.X.env) :: starEach [] A.X.env := by rfl) : AX A G [e] (aOne c) f :=
  pa_weak (pa_cons h pa_nil hs) fun o H Q ⟨p, L, w, cr, kk⟩ => ⟨p, L, w, cr, kk.imp fun y _ q v L' H' s w' c' rl => q [v] L' H' s w' c' ⟨v, rfl, rl⟩⟩
theorem ax_consA {α : Type} {c : Cod α} {n : Nat} {e : Expr} {es : List Expr} {f : CT G → Res (α × CT G)} {g : CT G → Res (List α × CT G)} (h : EX A G e (rV c) f) (hr : AX A G es (aAll c n) g) (hs : starEach (e :: es) A.X.env = (false, eval e A.X.env) :: starEach es A.X.env := by rfl) :
    AX A G (e :: es) (aAll c (n + 1)) (fun p => Res.bind (f p) fun y => Res.bind (g y.2) fun z => .ok (y.1 :: z.1, z.2)) :=
  pa_weak (pa_cons h hr hs) fun o H Q q => ax_core (as := aAll c n) (bs := aAll c (n + 1)) (m := List.cons) (fun K R v vs x y h1 h2 => ⟨by rw [List.length_cons, h2.1], .cons h1 h2.2⟩) q
/-! ### new objects -/
def setL (L : Lab) (p : Addr) (x : Nat × List Nat) : Lab := fun a => if a = p then some x else L a
theorem setL_same {L : Lab} {p : Addr} {x : Nat × List Nat} : setL L p x p = some x := by unfold setL; rw [if_pos rfl]
theorem setL_ne {L : Lab} {p a : Addr} {x : Nat × List Nat} (h : a ≠ p) : setL L p x a = L a := by unfold setL; rw [if_neg h]
theorem Wf.none {L : Lab} {H : Hp} (w : Wf L H) {p : Addr} (h : H p = none) : L p = none := by
  cases e : L p with
  | none => rfl
  | some x => exact absurd h (w.dom p (by rw [e]; simp))
theorem ext_new {L : Lab} {H : Hp} (w : Wf L H) {p : Addr} {o : HO} (h : H p = none) : Ext L H L (upd H p o) ∧ Wf L (upd H p o) := by
  refine ⟨fun a ha => ⟨rfl, upd_ne fun e => ha (by rw [e]; exact h)⟩, fun a ha => ?_, fun a k l e => ?_⟩
  · rw [upd_ne fun e => ha (by rw [e]; exact w.none h)]
    exact w.dom a ha
  · rw [upd_ne fun e' => by rw [e', w.none h] at e; cases e]
    exact w.soft a k l e
theorem ext_val {L : Lab} {H : Hp} (w : Wf L H) {p : Addr} {o : HO} (h : H p = none) : Ext L H (setL L p (0, [])) (upd H p o) ∧ Wf (setL L p (0, [])) (upd H p o) := by
  refine ⟨fun a ha => ?_, fun a ha => ?_, fun a k l e => ?_⟩
  · have ne : a ≠ p := fun e => ha (by rw [e]; exact h)
    exact ⟨setL_ne ne, upd_ne ne⟩
  · by_cases e : a = p
    · rw [e, upd_same]; simp
    · rw [upd_ne e]
      rw [setL_ne e] at ha
      exact w.dom a ha
  · by_cases e' : a = p
    · rw [e', setL_same] at e
      cases e
    · rw [setL_ne e'] at e
      rw [upd_ne e']
      exact w.soft a k l e
theorem own_new {α : Type} {c : Cod α} {K : Frag} {L : Lab} {H : Hp} (w : Wf L H) {p : Addr} {vs : List V} {xs : List α} (h : H p = none) (hl : vs.length ≤ sizeLine) (hp : Paired (fun v x => c.see K (rd L H) v x) vs xs) : OwnAt (oL c) K L H L (upd H p (.lst vs)) (.ref p) xs := by
  refine ⟨fun a => if a = p then some [] else none, fun a m e => ?_, p, vs, rfl, if_pos rfl, upd_same, hl, paired_mono (fun _ _ q => c.mono _ _ _ _ _ (ext_new w h).1.stp.rd q) hp⟩
  have e : (if a = p then some ([] : List Nat) else none) = some m := e
  by_cases ea : a = p
  · rw [if_pos ea] at e; cases e
    rw [ea, upd_same]
    exact ⟨w.none h, trivial, fun f => f.1 h⟩
  · rw [if_neg ea] at e; cases e
/-- a tuple's display -/
theorem ex_tup {α : Type} {as : ArgC α} {es : List Expr} {x1 pos} {f : CT G → Res (α × CT G)} (h : AX A G es as f) (hn : as.n ≤ sizeLine := by decide) : EX A G (.Tuple es x1 pos) (rV (cT as)) f :=
  pe_weak (pe_tup h) fun o H Q ⟨p, L, w, cr, kk⟩ => ⟨p, L, w, cr, kk.imp fun y _ q vs L' H' s w' c' rl => ⟨by rw [as.len _ _ _ _ rl]; exact hn, fun a ha => by
    obtain ⟨e1, e2⟩ := ext_val (o := .tup vs) w' ha
    exact q _ _ _ (s.trans e1.stp) e2 (c'.ext w' e1) ⟨a, vs, rfl, .inl (rd_mk setL_same upd_same), as.mono _ _ _ _ _ e1.stp.rd rl⟩⟩⟩
/-- a list's display -/
theorem ex_list {α : Type} {c : Cod α} {n : Nat} {es : List Expr} {pos} {f : CT G → Res (List α × CT G)} (h : AX A G es (aAll c n) f) (hn : n ≤ sizeLine := by decide) : EX A G (.List es pos) (rO (oL c)) f :=
  pe_weak (pe_lst h) fun o H Q ⟨p, L, w, cr, kk⟩ => ⟨p, L, w, cr, kk.imp fun y _ q vs L' H' s w' c' rl => ⟨by rw [rl.1]; exact hn, fun a ha => by
    obtain ⟨e1, e2⟩ := ext_new (o := .lst vs) w' ha
    exact q _ _ _ (s.trans e1.stp) e2 (c'.ext w' e1) ((rO (oL c)).pre _ _ _ _ _ _ _ _ _ s (own_new w' ha (by rw [rl.1]; exact hn) rl.2))⟩⟩
/-- a list of unlike things, that stays -/
def cH {α : Type} (as : ArgC α) : Cod α := ⟨fun K R v x => ∃ a vs, v = .ref a ∧ SqL K R a vs ∧ as.see K R vs x, fun K R R' v x s ⟨a, vs, e, h, h'⟩ => ⟨a, vs, e, s.seq h, as.mono K R R' vs x s h'⟩⟩
theorem ex_hlist {α : Type} {as : ArgC α} {es : List Expr} {pos} {f : CT G → Res (α × CT G)} (h : AX A G es as f) (hn : as.n ≤ sizeLine := by decide) : EX A G (.List es pos) (rV (cH as)) f :=
  pe_weak (pe_lst h) fun o H Q ⟨p, L, w, cr, kk⟩ => ⟨p, L, w, cr, kk.imp fun y _ q vs L' H' s w' c' rl => ⟨by rw [as.len _ _ _ _ rl]; exact hn, fun a ha => by
    obtain ⟨e1, e2⟩ := ext_val (o := .lst vs) w' ha
    exact q _ _ _ (s.trans e1.stp) e2 (c'.ext w' e1) ⟨a, vs, rfl, .inl (.inl (rd_mk setL_same upd_same)), as.mono _ _ _ _ _ e1.stp.rd rl⟩⟩⟩
theorem dc_h {α : Type} {as : ArgC α} {t : α → List PyData} {n : Nat} (h : DA as t n) : DC (cH as) (fun x => .list (t x)) (n + 1) := fun K R v x ⟨a, vs, e, q, q'⟩ => by
  subst e
  obtain ⟨h1, h2, h3⟩ := h K R vs x q'
  exact ⟨.lst q h1, by simp [PyData.canLay0, h2], by simp only [PyData.depth]; omega⟩
/-- what is one's own is left as it is from now on -/
def Frz {α : Type} (o : OCod α) (c : Cod α) : Prop := ∀ K R R' M H v x, Same R R' → (∀ a m, M a = some m → insL m = false → R' a = H a) → o.own K R M H [] v x → c.see K R' v x
theorem frz_l {α : Type} {c : Cod α} : Frz (oL c) (cL c) := fun K R R' M H v x s t ⟨p, vs, e, hm, hp, hl, h'⟩ => ⟨p, vs, e, (t p _ hm rfl).trans hp, hl, paired_mono (fun _ _ q => c.mono _ _ _ _ _ s q) h'⟩
theorem frz_own {α : Type} {oc : OCod α} {c : Cod α} (fz : Frz oc c) {K : Frag} {L : Lab} {H : Hp} {L' : Lab} {H' : Hp} {v : V} {x : α} (w : Wf L' H') (h : OwnAt oc K L H L' H' v x) :
    ∃ L'', (∀ a, L'' a = L' a ∨ (L' a = none ∧ L'' a = some (0, []) ∧ ¬ Frm L H a)) ∧ Wf L'' H' ∧ Same (rd L' H') (rd L'' H') ∧ c.see K (rd L'' H') v x := by
  classical
  obtain ⟨M, hM, ho⟩ := h
  refine ⟨fun a => match M a with | some _ => some (0, []) | none => L' a, fun a => ?_, ⟨fun a ha => ?_, fun a k l e => ?_⟩, fun a o q => ?_, ?_⟩
  · show (match M a with | some _ => some (0, []) | none => L' a) = _ ∨ _
    cases e : M a with
    | none => exact .inl rfl
    | some m => exact .inr ⟨(hM a m e).1, by simp only [e], (hM a m e).2.2⟩
  · cases e : M a with
    | none => simp only [e] at ha; exact w.dom a ha
    | some m => exact (hM a m e).2.1.ne
  · cases e' : M a with
    | none => simp only [e'] at e; exact w.soft a k l e
    | some m => simp only [e'] at e; cases e
  · obtain ⟨⟨l, e1⟩, e2⟩ := rd_of q
    have e3 : M a = none := by
      cases e : M a with
      | none => rfl
      | some m => rw [(hM a m e).1] at e1; cases e1
    exact rd_mk (l := l) (by simp only [e3]; exact e1) e2
  · refine fz K _ _ M H' v x (fun a o q => ?_) (fun a m e _ => ?_) ho
    · obtain ⟨⟨l, e1⟩, e2⟩ := rd_of q
      have e3 : M a = none := by
        cases e : M a with
        | none => rfl
        | some m => rw [(hM a m e).1] at e1; cases e1
      exact rd_mk (l := l) (by simp only [e3]; exact e1) e2
    · unfold rd
      simp only [e]
theorem ex_frz {α : Type} {oc : OCod α} {c : Cod α} {e : Expr} {f : CT G → Res (α × CT G)} (fz : Frz oc c) (h : EX A G e (rO oc) f) : EX A G e (rV c) f :=
  pe_weak h fun o H Q ⟨p, L, w, cr, kk⟩ => ⟨p, L, w, cr, kk.imp fun y _ q v L' H' s w' c' rl => by
    obtain ⟨L'', h1, h2, h3, h4⟩ := frz_own fz w' rl
    refine q v L'' H' (fun a f => ?_) h2 (c'.keep h3 fun a j l _ e => ?_) h4
    · rcases h1 a with z | z
      · exact ⟨z.trans (s a f).1, (s a f).2⟩
      · exact absurd f z.2.2
    · rcases h1 a with z | z
      · exact ⟨z, rfl⟩
      · rw [z.1] at e; cases e⟩
/-! ### calls of built-ins by values -/
def CalT (A : Amb) (F : Value) {α β : Type} (as : ArgC α) (k : α → Option β) (r : Rt β) : Prop :=
  ∃ t : List V → Hp → VK → Prop, CallR A.X F t ∧ ∀ (L : Lab) (H : Hp) (vs : List V) (x : α) (z : β) (Q : VK), Wf L H → as.see A.X.K (rd L H) vs x → k x = some z → (∀ v L' H', Ext L H L' H' → Wf L' H' → r.rel A.X.K L H L' H' v z → Q v H') → t vs H Q
theorem call_core {α β : Type} {as : ArgC α} {k : α → Option β} {r : Rt β} {t : List V → Hp → VK → Prop} {f : CT G → Res (α × CT G)} {o : St} {H : Hp} {Q : VK}
    (pr : ∀ (L : Lab) (H : Hp) (vs : List V) (x : α) (z : β) (Q : VK), Wf L H → as.see A.X.K (rd L H) vs x → k x = some z → (∀ v L' H', Ext L H L' H' → Wf L' H' → r.rel A.X.K L H L' H' v z → Q v H') → t vs H Q)
    (h : tE A G r (fun p => Res.bind (f p) fun y => Res.bind (ofO (k y.1)) fun w => .ok (w, y.2)) o H Q) : tA A G as f o H fun vs H1 => t vs H1 Q := by
  obtain ⟨p, L, w, cr, kk⟩ := h
  refine ⟨p, L, w, cr, kk.bind.imp fun y _ g vs L' H' s w' c' rl => ?_⟩
  obtain ⟨z, e, g3⟩ := good_ofO g
  exact pr L' H' vs y.1 z Q w' rl e fun v L2 H2 ex w2 rl2 => g3 v L2 H2 (s.trans ex.stp) w2 (c'.ext w' ex) (r.pre _ _ _ _ _ _ _ _ _ s rl2)
theorem ex_callB {α β : Type} {as : ArgC α} {k : α → Option β} {r : Rt β} {id : String} {x : Str} {p pos : Pos} {e : Expr} {es : List Expr} {f : CT G → Res (α × CT G)} (h : CalT A (.builtin id) as k r) (hg : Gl A.X x) (hm : A.X.mg x = none) (hv : bootBuiltins x = some (.builtin id)) (ha : AX A G (e :: es) as f)
    (hn : x ≠ "__name__" := by decide) (hd : (x == ("__debug__" : Str)) = false := by decide) (he : starEach (e :: es) A.X.env = (false, eval e A.X.env) :: starEach es A.X.env := by rfl) (hpl : (backTo pos (starEach es A.X.env)).any (·.1) = false := by rfl) :
    EX A G (.Call (.Name x p) (e :: es) [] pos) r (fun p => Res.bind (f p) fun y => Res.bind (ofO (k y.1)) fun w => .ok (w, y.2)) := by
  obtain ⟨t, ho, pr⟩ := h
  exact pe_weak (pe_callB ho hg hm hv ha (hn := hn) (hdb := hd) (he := he) (hpl := hpl)) fun o H Q q => call_core pr q
theorem ex_callTy {α β : Type} {as : ArgC α} {k : α → Option β} {r : Rt β} {T : String} {x : Str} {p pos : Pos} {e : Expr} {es : List Expr} {f : CT G → Res (α × CT G)} (h : CalT A (.type T) as k r) (hg : Gl A.X x) (hm : A.X.mg x = none) (hv : bootBuiltins x = some (.type T)) (ha : AX A G (e :: es) as f)
    (hn : x ≠ "__name__" := by decide) (hd : (x == ("__debug__" : Str)) = false := by decide) (he : starEach (e :: es) A.X.env = (false, eval e A.X.env) :: starEach es A.X.env := by rfl) (hpl : (backTo pos (starEach es A.X.env)).any (·.1) = false := by rfl) :
    EX A G (.Call (.Name x p) (e :: es) [] pos) r (fun p => Res.bind (f p) fun y => Res.bind (ofO (k y.1)) fun w => .ok (w, y.2)) := by
  obtain ⟨t, ho, pr⟩ := h
  exact pe_weak (pe_callTy ho hg hm hv ha (hn := hn) (hdb := hd) (he := he) (hpl := hpl)) fun o H Q q => call_core pr q
theorem cal_of {F : Value} {α β : Type} {as : ArgC α} {k : α → Option β} {c : Cod β} {t : List V → Hp → VK → Prop} (h : CallR A.X F t)
    (pr : ∀ (L : Lab) (H : Hp) (vs : List V) (x : α) (z : β) (Q : VK), Wf L H → as.see A.X.K (rd L H) vs x → k x = some z → (∀ v, c.see A.X.K (rd L H) v z → Q v H) → t vs H Q) : CalT A F as k (rV c) :=
  ⟨t, h, fun L H vs x z Q w h1 h2 q => pr L H vs x z Q w h1 h2 fun v hv => q v L H Ext.refl w hv⟩
theorem ct_lenK {α : Type} {c : Cod α} : CalT A (.builtin "len") (aOne (cLK c)) (fun x => some ((x.length : Nat) : Int)) (rV cI) := cal_of call_len_seq fun L H vs x z Q w h1 h2 q => by
  obtain ⟨v, rfl, a, ws, rfl, hs, hl, hp⟩ := h1
  cases h2
  exact ⟨a, ws, rfl, .inl (rd_sub.seq hs), q _ (by show V.int _ = V.int _; rw [paired_len hp])⟩
theorem ct_lenL {α : Type} {c : Cod α} : CalT A (.builtin "len") (aOne (cL c)) (fun x => some ((x.length : Nat) : Int)) (rV cI) := cal_of call_len_seq fun L H vs x z Q w h1 h2 q => by
  obtain ⟨v, rfl, a, ws, rfl, hs, hl, hp⟩ := h1
  cases h2
  exact ⟨a, ws, rfl, .inl (SqL.of (rd_sub _ _ hs)), q _ (by show V.int _ = V.int _; rw [paired_len hp])⟩
theorem ct_lenT {α : Type} {c : Cod α} : CalT A (.builtin "len") (aOne (cTV c)) (fun x => some ((x.length : Nat) : Int)) (rV cI) := cal_of call_len_seq fun L H vs x z Q w h1 h2 q => by
  obtain ⟨v, rfl, a, ws, rfl, hs, hl, hp⟩ := h1
  cases h2
  exact ⟨a, ws, rfl, .inr (hs.same rd_sub).sq, q _ (by show V.int _ = V.int _; rw [paired_len hp])⟩
theorem ct_lenS : CalT A (.builtin "len") (aOne cS) (fun x => some ((x.length : Nat) : Int)) (rV cI) := cal_of call_len fun L H vs x z Q w h1 h2 q => by
  obtain ⟨v, rfl, rfl, h3, h4⟩ := h1
  cases h2
  exact ⟨_, _, rfl, ⟨h4, rfl⟩, q _ rfl⟩
theorem ct_intI : CalT A (.type "int") (aOne cI) (fun x => some x) (rV cI) := cal_of call_int1 fun L H vs x z Q w h1 h2 q => by
  obtain ⟨v, rfl, rfl⟩ := h1
  cases h2
  exact .inl ⟨_, rfl, q _ rfl⟩
theorem ct_intB : CalT A (.type "int") (aOne cB) (fun x => some (if x then (1 : Int) else 0)) (rV cI) := cal_of call_int1 fun L H vs x z Q w h1 h2 q => by
  obtain ⟨v, rfl, rfl⟩ := h1
  cases h2
  exact .inr ⟨_, rfl, q _ rfl⟩
theorem ct_abs : CalT A (.builtin "abs") (aOne cI) (fun x => some (if x < 0 then -x else x)) (rV cI) := cal_of call_abs fun L H vs x z Q w h1 h2 q => by
  obtain ⟨v, rfl, rfl⟩ := h1
  cases h2
  exact ⟨_, rfl, q _ rfl⟩
theorem ct_max2 : CalT A (.builtin "max") (aCons cI (aOne cI)) (fun x => some (if x.2 > x.1 then x.2 else x.1)) (rV cI) := cal_of (call_max2 A.calm) fun L H vs x z Q w h1 h2 q => by
  obtain ⟨v, _, rfl, rfl, v', rfl, rfl⟩ := h1
  cases h2
  exact ⟨_, _, rfl, q _ rfl⟩
theorem ct_min2 : CalT A (.builtin "min") (aCons cI (aOne cI)) (fun x => some (if x.2 < x.1 then x.2 else x.1)) (rV cI) := cal_of (call_min2 A.calm) fun L H vs x z Q w h1 h2 q => by
  obtain ⟨v, _, rfl, rfl, v', rfl, rfl⟩ := h1
  cases h2
  exact ⟨_, _, rfl, q _ rfl⟩
theorem bls_of {A : Amb} {K : Frag} {R : Hp} : ∀ {vs : List V} {xs : List Bool}, Paired (fun v x => cB.see K R v x) vs xs → vs = xs.map V.bl
  | _, _, .nil => rfl
  | _, _, .cons r t => by cases r; rw [bls_of (A := A) t]; rfl
theorem ct_all : CalT A (.builtin "all") (aOne (cL cB)) (fun x => some (x.all id)) (rV cB) := cal_of (cr_all A.calm) fun L H vs x z Q w h1 h2 q => by
  obtain ⟨v, rfl, a, ws, rfl, hs, hl, hp⟩ := h1
  cases h2
  exact ⟨a, x, rfl, by rw [← bls_of (A := A) hp]; exact SqL.of (rd_sub _ _ hs), q _ rfl⟩
/-! ### subscripts -/
theorem ex_ixK {α : Type} {c : Cod α} {a b : Expr} {pos : Pos} {f : CT G → Res (List α × CT G)} {g : CT G → Res (Int × CT G)} (ha : EX A G a (rV (cLK c)) f) (hb : EX A G b (rV cI) g) (hs : PlainIx b) :
    EX A G (.Subscript a b pos) (rV c) (fun p => Res.bind (f p) fun y => Res.bind (g y.2) fun z => Res.bind (ofO (atI y.1 z.1)) fun w => .ok (w, z.2)) :=
  pe_weak (pe_ix ix_list ha hb hs) fun o H Q q => bin_core (r := rV c) (fun L H vx vy x y z Q w h1 h2 h3 q => by
    obtain ⟨a, vs, rfl, hq, hl, hp⟩ := h1
    cases h2
    obtain ⟨v, e, hv⟩ := paired_at hp h3
    exact ⟨a, vs, _, v, rfl, rfl, rd_sub.seq hq, e, q v L H Ext.refl w hv⟩) q
theorem ex_ixL {α : Type} {c : Cod α} {a b : Expr} {pos : Pos} {f : CT G → Res (List α × CT G)} {g : CT G → Res (Int × CT G)} (ha : EX A G a (rV (cL c)) f) (hb : EX A G b (rV cI) g) (hs : PlainIx b) :
    EX A G (.Subscript a b pos) (rV c) (fun p => Res.bind (f p) fun y => Res.bind (g y.2) fun z => Res.bind (ofO (atI y.1 z.1)) fun w => .ok (w, z.2)) :=
  pe_weak (pe_ix ix_list ha hb hs) fun o H Q q => bin_core (r := rV c) (fun L H vx vy x y z Q w h1 h2 h3 q => by
    obtain ⟨a, vs, rfl, hq, hl, hp⟩ := h1
    cases h2
    obtain ⟨v, e, hv⟩ := paired_at hp h3
    exact ⟨a, vs, _, v, rfl, rfl, SqL.of (rd_sub _ _ hq), e, q v L H Ext.refl w hv⟩) q
theorem ex_ixT {α : Type} {c : Cod α} {a b : Expr} {pos : Pos} {f : CT G → Res (List α × CT G)} {g : CT G → Res (Int × CT G)} (ha : EX A G a (rV (cTV c)) f) (hb : EX A G b (rV cI) g) (hs : PlainIx b) :
    EX A G (.Subscript a b pos) (rV c) (fun p => Res.bind (f p) fun y => Res.bind (g y.2) fun z => Res.bind (ofO (atI y.1 z.1)) fun w => .ok (w, z.2)) :=
  pe_weak (pe_ix ix_tup ha hb hs) fun o H Q q => bin_core (r := rV c) (fun L H vx vy x y z Q w h1 h2 h3 q => by
    obtain ⟨a, vs, rfl, hq, hl, hp⟩ := h1
    cases h2
    obtain ⟨v, e, hv⟩ := paired_at hp h3
    exact ⟨a, vs, _, v, rfl, rfl, (hq.same rd_sub).sq, e, q v L H Ext.refl w hv⟩) q
def sAt (z : Str) (i : Int) : Option Str := (atI z.cps.toList i).map fun c => ⟨#[c]⟩
theorem ex_ixS {a b : Expr} {pos : Pos} {f : CT G → Res (Str × CT G)} {g : CT G → Res (Int × CT G)} (ha : EX A G a (rV cS) f) (hb : EX A G b (rV cI) g) (hs : PlainIx b) :
    EX A G (.Subscript a b pos) (rV cS) (fun p => Res.bind (f p) fun y => Res.bind (g y.2) fun z => Res.bind (ofO (sAt y.1 z.1)) fun w => .ok (w, z.2)) :=
  pe_weak (pe_ix ix_str ha hb hs) fun o H Q q => bin_core (r := rV cS) (fun L H vx vy x y z Q w h1 h2 h3 q => by
    obtain ⟨rfl, hk, hl⟩ := h1
    cases h2
    unfold sAt at h3
    cases e : atI x.cps.toList y with
    | none => rw [e] at h3; cases h3
    | some c =>
      rw [e] at h3; cases h3
      refine ⟨x, y, c, rfl, rfl, hl, e, q _ L H Ext.refl w ⟨rfl, ?_, show 1 ≤ sizeLine by decide⟩⟩
      obtain ⟨j, _, hj, _⟩ := atI_get e
      have hm : c ∈ x.cps := by simpa using List.mem_of_getElem? hj
      have := Array.all_eq_true_iff_forall_mem.mp hk c hm
      simpa [PyData.strOk] using this) q
/-! ### and, or, conditional -/
def WXj (A : Amb) (G : Ctx) (e : Expr) (f : CT G → Res (Bool × CT G)) : Prop := PW A.X e (tT A G f)
theorem tx_w {e : Expr} {f : CT G → Res (Bool × CT G)} (h : WXj A G e f) : TX A G e f := PW.pt h
theorem pw_weak {X : Cx} {e : Expr} {t t' : L2.TT} (h : PW X e t) (i : ∀ o H Q, t' o H Q → t o H Q) : PW X e t' := ⟨fun wh pins s o H Q I q => h.run wh pins s o H Q I (i _ _ _ q)⟩
theorem wx_and1 {a : Expr} {pos : Pos} {f : CT G → Res (Bool × CT G)} (h : TX A G a f) : WXj A G (.BoolOp .And [a] pos) f := pw_and1 h
theorem wx_or1 {a : Expr} {pos : Pos} {f : CT G → Res (Bool × CT G)} (h : TX A G a f) : WXj A G (.BoolOp .Or [a] pos) f := pw_or1 h
theorem wx_and {a b : Expr} {rest : List Expr} {pos : Pos} {f g : CT G → Res (Bool × CT G)} (ha : TX A G a f) (hb : WXj A G (.BoolOp .And (b :: rest) pos) g) :
    WXj A G (.BoolOp .And (a :: b :: rest) pos) (fun p => Res.bind (f p) fun y => if y.1 = true then g y.2 else .ok (false, y.2)) :=
  pw_weak (pw_and ha hb) fun o H Q ⟨p, L, w, cr, kk⟩ => ⟨p, L, w, cr, kk.bind.imp fun y _ gd L' H' s w' c' => by
    obtain ⟨b, p'⟩ := y
    cases b with
    | true => exact iteT ⟨p', L', w', c', (gd.step s).imp fun z _ q L2 H2 s2 w2 c2 => q L2 H2 (s.trans s2) w2 c2⟩
    | false => exact iteF (gd L' H' s w' c')⟩
theorem wx_or {a b : Expr} {rest : List Expr} {pos : Pos} {f g : CT G → Res (Bool × CT G)} (ha : TX A G a f) (hb : WXj A G (.BoolOp .Or (b :: rest) pos) g) :
    WXj A G (.BoolOp .Or (a :: b :: rest) pos) (fun p => Res.bind (f p) fun y => if y.1 = true then .ok (true, y.2) else g y.2) :=
  pw_weak (pw_or ha hb) fun o H Q ⟨p, L, w, cr, kk⟩ => ⟨p, L, w, cr, kk.bind.imp fun y _ gd L' H' s w' c' => by
    obtain ⟨b, p'⟩ := y
    cases b with
    | true => exact iteT (gd L' H' s w' c')
    | false => exact iteF ⟨p', L', w', c', (gd.step s).imp fun z _ q L2 H2 s2 w2 c2 => q L2 H2 (s.trans s2) w2 c2⟩⟩
theorem ex_if {α : Type} {r : Rt α} {t a b : Expr} {pos : Pos} {ft : CT G → Res (Bool × CT G)} {f g : CT G → Res (α × CT G)} (ht : TX A G t ft) (ha : EX A G a r f) (hb : EX A G b r g) :
    EX A G (.IfExp t a b pos) r (fun p => Res.bind (ft p) fun y => if y.1 = true then f y.2 else g y.2) :=
  pe_weak (pe_ifExp ht ha hb) fun o H Q ⟨p, L, w, cr, kk⟩ => ⟨p, L, w, cr, kk.bind.imp fun y _ gd L' H' s w' c' => by
    obtain ⟨b, p'⟩ := y
    cases b with
    | true => exact iteT ⟨p', L', w', c', (gd.step s).imp fun z _ q v L2 H2 s2 w2 c2 rl => q v L2 H2 (s.trans s2) w2 c2 (r.pre _ _ _ _ _ _ _ _ _ s rl)⟩
    | false => exact iteF ⟨p', L', w', c', (gd.step s).imp fun z _ q v L2 H2 s2 w2 c2 rl => q v L2 H2 (s.trans s2) w2 c2 (r.pre _ _ _ _ _ _ _ _ _ s rl)⟩⟩
theorem ex_and1 {op} {α : Type} {r : Rt α} {a : Expr} {pos : Pos} {f : CT G → Res (α × CT G)} (h : EX A G a r f) : EX A G (.BoolOp op [a] pos) r f := pe_one h
theorem ex_and {a b : Expr} {rest : List Expr} {pos : Pos} {f g : CT G → Res (Bool × CT G)} (ha : EX A G a (rV cB) f) (hb : EX A G (.BoolOp .And (b :: rest) pos) (rV cB) g) :
    EX A G (.BoolOp .And (a :: b :: rest) pos) (rV cB) (fun p => Res.bind (f p) fun y => if y.1 = true then g y.2 else .ok (false, y.2)) :=
  pe_weak (pe_and ha hb) fun o H Q ⟨p, L, w, cr, kk⟩ => run1 w cr kk fun x p' v L' H' s w' c' rl gd => by
    cases rl
    refine ⟨x, rfl, ?_⟩
    cases x with
    | true => exact iteT ⟨p', L', w', c', (show Good A (g p') L' H' o _ from gd).imp fun z _ q v L2 H2 s2 w2 c2 rl => q v L2 H2 (s.trans s2) w2 c2 rl⟩
    | false => exact iteF ((show ∀ v L' H', _ from gd) _ L' H' s w' c' rfl)
/-- a < b < c -/
theorem chain_core {α β γ : Type} {c : Cod α} {d : Cod β} {d' : Cod γ} {k1 : α → β → Option Bool} {k2 : β → γ → Option Bool} {r1 r2 : R2} {f : CT G → Res (α × CT G)} {g : CT G → Res (β × CT G)} {h : CT G → Res (γ × CT G)} {o : St} {H : Hp} {Q : VK}
    (p1 : ∀ (L : Lab) (H : Hp) (vx vy : V) (x : α) (y : β) (z : Bool) (Q : VK), Wf L H → c.see A.X.K (rd L H) vx x → d.see A.X.K (rd L H) vy y → k1 x y = some z → (∀ v L' H', Ext L H L' H' → Wf L' H' → (rV cB).rel A.X.K L H L' H' v z → Q v H') → r1 vx vy H Q)
    (p2 : ∀ (L : Lab) (H : Hp) (vx vy : V) (x : β) (y : γ) (z : Bool) (Q : VK), Wf L H → d.see A.X.K (rd L H) vx x → d'.see A.X.K (rd L H) vy y → k2 x y = some z → (∀ v L' H', Ext L H L' H' → Wf L' H' → (rV cB).rel A.X.K L H L' H' v z → Q v H') → r2 vx vy H Q)
    (q : tE A G (rV cB) (fun p => Res.bind (f p) fun y => Res.bind (g y.2) fun z => Res.bind (ofO (k1 y.1 z.1)) fun w => if w = true then Res.bind (h z.2) fun u => Res.bind (ofO (k2 z.1 u.1)) fun w' => .ok (w', u.2) else .ok (false, z.2)) o H Q) :
    tChain r1 r2 (tE A G (rV c) f) (tE A G (rV d) g) (tE A G (rV d') h) o H Q := by
  obtain ⟨p, L, w, cr, kk⟩ := q
  refine run1 w cr kk fun x p1' vx L1 H1 s1 w1 c1 rl1 g1 => ?_
  refine run1 w1 c1 g1 fun y p2' vy L2 H2 s2 w2 c2 rl2 g2 => ?_
  obtain ⟨z, e, g3⟩ := good_ofO g2
  refine p1 L2 H2 vx vy x y z _ w2 (c.mono _ _ _ _ _ s2.rd rl1) rl2 e fun v L3 H3 ex w3 rl => ?_
  cases rl
  refine ⟨z, rfl, ?_⟩
  have c3 := c2.ext w2 ex
  have s3 := (s1.trans s2).trans ex.stp
  cases z with
  | false => exact iteF ((show ∀ v L' H', _ from g3) _ L3 H3 s3 w3 c3 rfl)
  | true =>
    refine iteT (run1 w3 c3 ((show Good A (Res.bind (h p2') _) L2 H2 o _ from g3).step ex.stp) fun u p4 vu L4 H4 s4 w4 c4 rl4 g4 => ?_)
    obtain ⟨z', e', g5⟩ := good_ofO g4
    exact p2 L4 H4 vy vu y u z' Q w4 (d.mono _ _ _ _ _ (ex.stp.trans s4).rd rl2) rl4 e' fun v L5 H5 ex' w5 rl5 => g5 v L5 H5 ((s3.trans s4).trans ex'.stp) w5 (c4.ext w4 ex') rl5
theorem ex_chain {α β γ : Type} {c : Cod α} {d : Cod β} {d' : Cod γ} {k1 : α → β → Option Bool} {k2 : β → γ → Option Bool} {op op' : CmpOp} {ea eb ec : Expr} {pos : Pos} {f : CT G → Res (α × CT G)} {g : CT G → Res (β × CT G)} {h : CT G → Res (γ × CT G)}
    (h1 : OpT A (compareOp op) c d k1 (rV cB)) (h2 : OpT A (compareOp op') d d' k2 (rV cB)) (ha : EX A G ea (rV c) f) (hb : EX A G eb (rV d) g) (hc : EX A G ec (rV d') h) (hm : lastMarks [op, op'] [eb, ec] = false) :
    EX A G (.Compare ea [op, op'] [eb, ec] pos) (rV cB) (fun p => Res.bind (f p) fun y => Res.bind (g y.2) fun z => Res.bind (ofO (k1 y.1 z.1)) fun w => if w = true then Res.bind (h z.2) fun u => Res.bind (ofO (k2 z.1 u.1)) fun w' => .ok (w', u.2) else .ok (false, z.2)) := by
  obtain ⟨r1, o1, p1⟩ := h1
  obtain ⟨r2, o2, p2⟩ := h2
  exact pe_weak (pe_chain o1 o2 ha hb hc (hm := hm)) fun o H Q q => chain_core p1 p2 q
theorem tx_chain {α β γ : Type} {c : Cod α} {d : Cod β} {d' : Cod γ} {k1 : α → β → Option Bool} {k2 : β → γ → Option Bool} {op op' : CmpOp} {ea eb ec : Expr} {pos : Pos} {f : CT G → Res (α × CT G)} {g : CT G → Res (β × CT G)} {h : CT G → Res (γ × CT G)}
    (h1 : OpT A (compareOp op) c d k1 (rV cB)) (h2 : OpT A (compareOp op') d d' k2 (rV cB)) (ha : EX A G ea (rV c) f) (hb : EX A G eb (rV d) g) (hc : EX A G ec (rV d') h) (hm : lastMarks [op, op'] [eb, ec] = false) :
    TX A G (.Compare ea [op, op'] [eb, ec] pos) (fun p => Res.bind (f p) fun y => Res.bind (g y.2) fun z => Res.bind (ofO (k1 y.1 z.1)) fun w => if w = true then Res.bind (h z.2) fun u => Res.bind (ofO (k2 z.1 u.1)) fun w' => .ok (w', u.2) else .ok (false, z.2)) := by
  obtain ⟨r1, o1, p1⟩ := h1
  obtain ⟨r2, o2, p2⟩ := h2
  exact pt_weak (pt_chain o1 o2 ha hb hc (hm := hm)) fun o H Q q => chain_core p1 p2 (tT_of q)
end
end AC
set_option Elab.async false
set_option linter.all false
set_option maxRecDepth 100000
/-! TL4: what is walked, targets, comprehensions, statements, loops. -/
namespace AC
open PySem L2 PyProof
inductive Out (β ρ : Type) where
  | nx (b : β) | rt (r : ρ)
def Out.seq {β β' ρ : Type} (g : β → Res (Out β' ρ)) : Out β ρ → Res (Out β' ρ)
  | .nx q => g q
  | .rt r => .ok (.rt r)
/-- what a def gives back -/
structure Rr (ρ : Type) where
  rel : Frag → Lab → Hp → Lab → Hp → V → ρ → Prop
  pre : ∀ (K : Frag) (L : Lab) (H : Hp) (L1 : Lab) (H1 : Hp) (L2 : Lab) (H2 : Hp) (v : V) (x : ρ), Stp L H L1 H1 → rel K L1 H1 L2 H2 v x → rel K L H L2 H2 v x
def rrP {α : Type} (r : Rt α) : Rr α := ⟨r.rel, r.pre⟩
/-- with a list (or the like) that is changed: the first argument -/
def rrI {α κ : Type} (r : Rt α) (oc : OCod κ) (v0 : V) : Rr (α × κ) := ⟨fun K L H L' H' v x => r.rel K L H L' H' v x.1 ∧ oc.own K (rd L' H') (sub L' 1) H' [] v0 x.2, fun K L H L1 H1 L2 H2 v x s h => ⟨r.pre _ _ _ _ _ _ _ _ _ s h.1, h.2⟩⟩
/-! ### slots that change -/
structure Upd (G : Ctx) (i : Nat) (s : Slot) (G' : Ctx) (put : CT G → s.T → CT G') : Prop where
  ok : ∀ (K : Frag) (k : Nat) (p : CT G) (x : s.T) (v : V) (L : Lab) (H : Hp) (o : St), CR K k G p L H o → s.rel K (k + i) x L H (some (some v)) → CR K k G' (put p x) L H (o.set (k + i) (some v))
theorem CR.len {K : Frag} {L : Lab} {H : Hp} {o : St} : ∀ {k : Nat} {G : Ctx} {p : CT G}, CR K k G p L H o → k + G.length ≤ o.length
  | k, [], _, c => c
  | k, s :: G, p, c => by
    have := CR.len c.2
    rw [List.length_cons]
    omega
theorem CR.off {K : Frag} {L : Lab} {H : Hp} {o : St} {j : Nat} {v : Option V} : ∀ {k : Nat} {G : Ctx} {p : CT G}, j < k → CR K k G p L H o → CR K k G p L H (o.set j v)
  | k, [], _, h, c => by
    show k ≤ (o.set j v).length
    rw [List.length_set]
    exact c
  | k, s :: G, p, h, c => ⟨by rw [List.getElem?_set_ne (by omega)]; exact c.1, CR.off (by omega) c.2⟩
theorem up_z {G : Ctx} {s t : Slot} : Upd (t :: G) 0 s (s :: G) (fun p x => (x, p.2)) := ⟨fun K k p x v L H o c r => by
  have hl := CR.len c
  rw [List.length_cons] at hl
  exact ⟨by rw [Nat.add_zero, List.getElem?_set_self (by omega)]; exact r, CR.off (by omega) c.2⟩⟩
theorem up_s {G G' : Ctx} {i : Nat} {s t : Slot} {put : CT G → s.T → CT G'} (h : Upd G i s G' put) : Upd (t :: G) (i + 1) s (t :: G') (fun p x => (p.1, put p.2 x)) := ⟨fun K k p x v L H o c r => by
  rw [show k + (i + 1) = k + 1 + i by omega] at r ⊢
  exact ⟨by rw [List.getElem?_set_ne (by omega)]; exact c.1, h.ok K (k + 1) p.2 x v L H o c.2 r⟩⟩
/-- knowing less -/
structure SubC (G G' : Ctx) (g : CT G → CT G') : Prop where
  ok : ∀ (K : Frag) (k : Nat) (p : CT G) (L : Lab) (H : Hp) (o : St), Wf L H → CR K k G p L H o → ∃ L', (∀ a, L' a = L a ∨ ((∃ j l, k ≤ j ∧ L a = some (j + 1, l)) ∧ L' a = some (0, []))) ∧ CR K k G' (g p) L' H o
theorem sc_id {G : Ctx} : SubC G G id := ⟨fun K k p L H o w c => ⟨L, fun _ => .inl rfl, c⟩⟩
theorem same_of_frz {L L' : Lab} {H : Hp} {k : Nat} (h : ∀ a, L' a = L a ∨ ((∃ j l, k ≤ j ∧ L a = some (j + 1, l)) ∧ L' a = some (0, []))) : Same (rd L H) (rd L' H) := fun a o q => by
  obtain ⟨⟨l, e1⟩, e2⟩ := rd_of q
  rcases h a with z | ⟨⟨j, l', _, z⟩, _⟩
  · exact rd_mk (z.trans e1) e2
  · rw [z] at e1; cases e1
theorem wf_of_frz {L L' : Lab} {H : Hp} {k : Nat} (w : Wf L H) (h : ∀ a, L' a = L a ∨ ((∃ j l, k ≤ j ∧ L a = some (j + 1, l)) ∧ L' a = some (0, []))) : Wf L' H := ⟨fun a ha => by
  rcases h a with z | ⟨⟨j, l', _, z⟩, _⟩
  · exact w.dom a (by rw [← z]; exact ha)
  · exact w.dom a (by rw [z]; simp), fun a j l e => by
  rcases h a with z | ⟨_, z⟩
  · exact w.soft a j l (z.symm.trans e)
  · rw [z] at e; cases e⟩
theorem stp_of_frz {L L' : Lab} {H : Hp} {k : Nat} (h : ∀ a, L' a = L a ∨ ((∃ j l, k ≤ j ∧ L a = some (j + 1, l)) ∧ L' a = some (0, []))) : Stp L H L' H := fun a f => by
  rcases h a with z | ⟨⟨j, l', _, z⟩, _⟩
  · exact ⟨z, rfl⟩
  · rcases f.2 with q | ⟨l, q⟩
    · rw [q] at z; cases z
    · rw [q] at z; cases z
theorem sc_same {s : Slot} {G G' : Ctx} {g : CT G → CT G'} (h : SubC G G' g) : SubC (s :: G) (s :: G') (fun p => (p.1, g p.2)) := ⟨fun K k p L H o w c => by
  obtain ⟨L', h1, h2⟩ := h.ok K (k + 1) p.2 L H o w c.2
  have h1' : ∀ a, L' a = L a ∨ ((∃ j l, k ≤ j ∧ L a = some (j + 1, l)) ∧ L' a = some (0, [])) := fun a => (h1 a).imp id fun ⟨⟨j, l, hj, z⟩, q⟩ => ⟨⟨j, l, by omega, z⟩, q⟩
  refine ⟨L', h1', s.keep K k p.1 L H L' H _ (same_of_frz h1') (fun a l e => ?_) c.1, h2⟩
  rcases h1 a with z | ⟨⟨j, l', hj, z⟩, _⟩
  · exact ⟨z, rfl⟩
  · rw [e] at z; cases z; omega⟩
theorem sc_any {s : Slot} {G G' : Ctx} {g : CT G → CT G'} (h : SubC G G' g) : SubC (s :: G) (sAny :: G') (fun p => ((), g p.2)) := ⟨fun K k p L H o w c => by
  obtain ⟨L', h1, h2⟩ := h.ok K (k + 1) p.2 L H o w c.2
  exact ⟨L', fun a => (h1 a).imp id fun ⟨⟨j, l, hj, z⟩, q⟩ => ⟨⟨j, l, by omega, z⟩, q⟩, trivial, h2⟩⟩
/-- a list of one's own stays as it is from now on -/
theorem sc_frz {α : Type} {P : V → Prop} {oc : OCod α} {c : Cod α} {G G' : Ctx} {g : CT G → CT G'} (fz : Frz oc c) (h : SubC G G' g) : SubC (sOwn P oc :: G) (sVal c :: G') (fun p => (p.1, g p.2)) := ⟨fun K k p L H o w cr => by
  obtain ⟨⟨v, _, e, q⟩, c2⟩ := cr
  obtain ⟨L', h1, h2⟩ := h.ok K (k + 1) p.2 L H o w c2
  have hk : ∀ a l, L a = some (k + 1, l) → L' a = some (k + 1, l) := fun a l ea => by
    rcases h1 a with z | ⟨⟨j, l', hj, z⟩, _⟩
    · exact z.trans ea
    · rw [ea] at z; cases z; omega
  have hs : Same (rd L H) (rd L' H) := same_of_frz (k := k + 1) h1
  refine ⟨fun a => match L' a with | some (j, l) => if j = k + 1 then some (0, []) else some (j, l) | none => none, fun a => ?_, ⟨v, e, ?_⟩, ?_⟩
  · show (match L' a with | some (j, l) => if j = k + 1 then some (0, []) else some (j, l) | none => none) = _ ∨ (_ ∧ (match L' a with | some (j, l) => if j = k + 1 then some (0, []) else some (j, l) | none => none) = _)
    rcases h1 a with z | ⟨⟨j, l', hj, z⟩, q0⟩
    · cases ea : L' a with
      | none => left; simp only; rw [← z, ea]
      | some x =>
        obtain ⟨j, l⟩ := x
        by_cases ej : j = k + 1
        · right
          simp only [ej, if_true]
          exact ⟨⟨k, l, Nat.le_refl _, by rw [← z, ea, ej]⟩, trivial⟩
        · left
          simp only [if_neg ej]
          rw [← z, ea]
    · right
      rw [q0]
      exact ⟨⟨j, l', by omega, z⟩, by simp⟩
  · refine fz K _ _ _ H v p.1 (fun a ob qa => ?_) (fun a m em _ => ?_) q
    · obtain ⟨⟨l, e1⟩, e2⟩ := rd_of (hs a ob qa)
      refine rd_mk (l := l) ?_ e2
      simp only [e1]
      rw [if_neg (by omega)]
    · have e1 := hk a m (sub_of em)
      unfold rd
      simp only [e1, if_true]
  · refine h2.keep (fun a ob qa => ?_) fun a j l hj ea => ?_
    · obtain ⟨⟨l, e1⟩, e2⟩ := rd_of qa
      refine rd_mk (l := l) ?_ e2
      simp only [e1]
      rw [if_neg (by omega)]
    · refine ⟨?_, rfl⟩
      show (match L' a with | some (j, l) => if j = k + 1 then some (0, []) else some (j, l) | none => none) = L' a
      simp only [ea]
      rw [if_neg (by omega)]⟩
section
variable {A : Amb} {G G' : Ctx} {ρ : Type} {R : Rr ρ}
/-! ### statements -/
structure Keeps (S : Nat → Prop) (o o' : St) : Prop where
  at_ : ∀ i, ¬ S i → o'[i]? = o[i]?
  len : o'.length = o.length
theorem Keeps.refl {S : Nat → Prop} {o : St} : Keeps S o o := ⟨fun _ _ => rfl, rfl⟩
theorem Keeps.trans {S : Nat → Prop} {o o1 o2 : St} (a : Keeps S o o1) (b : Keeps S o1 o2) : Keeps S o o2 := ⟨fun i h => (b.at_ i h).trans (a.at_ i h), b.len.trans a.len⟩
theorem Keeps.set {S : Nat → Prop} {o : St} {i : Nat} {v : Option V} (hS : S i) : Keeps S o (o.set i v) := ⟨fun j hj => List.getElem?_set_ne fun (e : i = j) => hj (e ▸ hS), List.length_set⟩
def nxP (A : Amb) (G' : Ctx) (R : Rr ρ) (L : Lab) (H : Hp) (o : St) (D : Ends) : Out (CT G') ρ → Prop
  | .nx p' => ∀ o' L' H', Stp L H L' H' → Wf L' H' → CR A.X.K 0 G' p' L' H' o' → Keeps A.S o o' → D.nx o' H'
  | .rt r => ∀ v L' H', Stp L H L' H' → Wf L' H' → R.rel A.X.K L H L' H' v r → D.rt v H'
def tS (A : Amb) (G G' : Ctx) (R : Rr ρ) (f : CT G → Res (Out (CT G') ρ)) : L2.TS := fun D o H =>
  ∃ (p : CT G) (L : Lab), Wf L H ∧ CR A.X.K 0 G p L H o ∧ Good A (f p) L H o (nxP A G' R L H o D)
def SX (A : Amb) (G : Ctx) (st : Stmt) (G' : Ctx) (R : Rr ρ) (f : CT G → Res (Out (CT G') ρ)) : Prop := PS A.X st (tS A G G' R f)
def BX (A : Amb) (G : Ctx) (sts : List Stmt) (G' : Ctx) (R : Rr ρ) (f : CT G → Res (Out (CT G') ρ)) : Prop := PSs A.X sts (tS A G G' R f)
theorem ps_weak {X : Cx} {st : Stmt} {t t' : L2.TS} (h : PS X st t) (i : ∀ D o H, t' D o H → t D o H) : PS X st t' := ⟨fun pins s o H D I q => h.run pins s o H D I (i _ _ _ q)⟩
theorem pss_weak {X : Cx} {sts : List Stmt} {t t' : L2.TS} (h : PSs X sts t) (i : ∀ D o H, t' D o H → t D o H) : PSs X sts t' := ⟨fun pins s o H D I q => h.run pins s o H D I (i _ _ _ q)⟩
/-- going on from a later state -/
theorem nxP.from_ {L L1 : Lab} {H H1 : Hp} {o o1 : St} {D : Ends} {y : Out (CT G') ρ} (s : Stp L H L1 H1) (k : Keeps A.S o o1) (h : nxP A G' R L H o D y) : nxP A G' R L1 H1 o1 D y := by
  cases y with
  | nx p' => exact fun o' L' H' s' w' c' k' => h o' L' H' (s.trans s') w' c' (k.trans k')
  | rt r => exact fun v L' H' s' w' rl => h v L' H' (s.trans s') w' (R.pre _ _ _ _ _ _ _ _ _ s rl)
theorem Good.from_ {α : Type} {m : Res α} {L L1 : Lab} {H H1 : Hp} {o o1 : St} {P : α → Prop} (s : Stp L H L1 H1) (k : Keeps A.S o o1) (h : Good A m L H o P) : Good A m L1 H1 o1 P := by
  cases m with
  | ok a => exact h
  | exc e => exact Amb.raises.mono s k.at_ h
  | bad => exact h
theorem bx_nil : BX A G [] G R (fun p => .ok (.nx p)) := pss_weak pss_nil fun D o H ⟨p, L, w, cr, k⟩ => k o L H Stp.refl w cr Keeps.refl
theorem bx_cons {st : Stmt} {sts : List Stmt} {G1 : Ctx} {f : CT G → Res (Out (CT G1) ρ)} {g : CT G1 → Res (Out (CT G') ρ)} (h : SX A G st G1 R f) (hr : BX A G1 sts G' R g) : BX A G (st :: sts) G' R (fun p => Res.bind (f p) (Out.seq g)) :=
  pss_weak (pss_cons h hr) fun D o H ⟨p, L, w, cr, k⟩ => ⟨p, L, w, cr, k.bind.imp fun y _ q => by
    cases y with
    | nx p' => exact fun o' L' H' s w' c' kp => ⟨p', L', w', c', (Good.from_ s kp (show Good A (g p') L H o _ from q)).imp fun z _ n => nxP.from_ s kp n⟩
    | rt r => exact q⟩
theorem bx_one {st : Stmt} {f : CT G → Res (Out (CT G') ρ)} (h : SX A G st G' R f) : BX A G [st] G' R f := pss_one h
/-- a block seen with less -/
theorem bx_sub {G1 : Ctx} {sts : List Stmt} {g : CT G → CT G1} {f : CT G1 → Res (Out (CT G') ρ)} (s : SubC G G1 g) (h : BX A G1 sts G' R f) : BX A G sts G' R (fun p => f (g p)) :=
  pss_weak h fun D o H ⟨p, L, w, cr, k⟩ => by
    obtain ⟨L', h1, h2⟩ := s.ok _ _ _ _ _ _ w cr
    exact ⟨g p, L', wf_of_frz w h1, h2, (Good.from_ (stp_of_frz h1) Keeps.refl k).imp fun y _ n => nxP.from_ (stp_of_frz h1) Keeps.refl n⟩
def Out.map {β β' ρ : Type} (g : β → β') : Out β ρ → Out β' ρ
  | .nx q => .nx (g q)
  | .rt r => .rt r
theorem nxP.sub {G1 : Ctx} {g : CT G1 → CT G'} (s : SubC G1 G' g) {L : Lab} {H : Hp} {o : St} {D : Ends} {y : Out (CT G1) ρ} (h : nxP A G' R L H o D (y.map g)) : nxP A G1 R L H o D y := by
  cases y with
  | nx p' =>
    intro o' L' H' s' w' c' k'
    obtain ⟨L2, h1, h2⟩ := s.ok _ _ _ _ _ _ w' c'
    exact h o' L2 H' (s'.trans (stp_of_frz h1)) (wf_of_frz w' h1) h2 k'
  | rt r => exact h
theorem bx_post {G1 : Ctx} {sts : List Stmt} {g : CT G1 → CT G'} {f : CT G → Res (Out (CT G1) ρ)} (h : BX A G sts G1 R f) (s : SubC G1 G' g) : BX A G sts G' R (fun p => Res.bind (f p) fun y => .ok (y.map g)) :=
  pss_weak h fun D o H ⟨p, L, w, cr, k⟩ => ⟨p, L, w, cr, k.bind.imp fun y _ q => nxP.sub s q⟩
/-- return e -/
theorem sx_ret {α : Type} {r : Rt α} {e : Expr} {pos : Pos} {f : CT G → Res (α × CT G)} (h : EX A G e r f) : SX A G (.Return (some e) pos) G' (rrP r) (fun p => Res.bind (f p) fun y => .ok (.rt y.1)) :=
  ps_weak (ps_ret h) fun D o H ⟨p, L, w, cr, k⟩ => ⟨p, L, w, cr, k.bind.imp fun y _ q v L' H' s w' c' rl => q v L' H' s w' rl⟩
theorem sx_retI {α κ : Type} {r : Rt α} {oc : OCod κ} {v0 : V} {e : Expr} {pos : Pos} {f : CT G → Res (α × CT G)} {g0 : CT G → κ} (a0 : At G 0 (sOwn (fun v => v = v0) oc) g0) (h : EX A G e r f) :
    SX A G (.Return (some e) pos) G' (rrI r oc v0) (fun p => Res.bind (f p) fun y => .ok (.rt (y.1, g0 y.2))) :=
  ps_weak (ps_ret h) fun D o H ⟨p, L, w, cr, k⟩ => ⟨p, L, w, cr, k.bind.imp fun y _ q v L' H' s w' c' rl => q v L' H' s w' ⟨rl, by
    obtain ⟨v1, rfl, _, h⟩ := a0.ok _ _ _ _ _ _ c'
    exact h⟩⟩
/-- return x, x one's own -/
theorem sx_retO {α : Type} {P : V → Prop} {oc : OCod α} {i : Nat} {x : Str} {pos pos' : Pos} {g : CT G → α} (h : At G i (sOwn P oc) g) (hN : A.X.N[i]? = some x) (hv : Vis A.X.env.scope x) (hd : (x == ("__debug__" : Str)) = false := by decide) (hcd : (x == ("__classdict__" : Str)) = false := by decide) :
    SX A G (.Return (some (.Name x pos')) pos) G' (rrP (rO oc)) (fun p => .ok (.rt (g p))) :=
  ps_weak (ps_ret (pe_var hN hv hd hcd)) fun D o H ⟨p, L, w, cr, k⟩ => by
    obtain ⟨v, _, e, q⟩ := h.ok _ _ _ _ _ _ cr
    rw [Nat.zero_add] at e q
    have ne : ∀ a, (match L a with | some (j, l) => if j = i + 1 then none else some (j, l) | none => none) ≠ none → L a ≠ none ∧ (match L a with | some (j, l) => if j = i + 1 then none else some (j, l) | none => none) = L a := fun a => by
      cases ea : L a with
      | none => simp
      | some y =>
        obtain ⟨j, l⟩ := y
        by_cases ej : j = i + 1
        · simp [ej]
        · simp [ej]
    refine ⟨v, e, k v (fun a => match L a with | some (j, l) => if j = i + 1 then none else some (j, l) | none => none) H (fun a f => ⟨?_, rfl⟩) ⟨fun a ha => w.dom a (ne a ha).1, fun a j l ea => ?_⟩ ?_⟩
    · rcases f.2 with z | ⟨l, z⟩
      · simp only [z]
      · simp only [z]
        rw [if_neg (by omega)]
    · exact w.soft a j l (by rw [← (ne a (by rw [ea]; simp)).2]; exact ea)
    · refine ⟨sub L (i + 1), fun a m em => ?_, oc.mono _ _ _ _ _ _ _ _ _ _ (fun a ob qa => ?_) (fun a m em => ⟨em, rfl⟩) q⟩
      · have e1 := sub_of em
        refine ⟨by simp [e1], w.soft a i m e1, fun f => ?_⟩
        rcases f.2 with z | ⟨l, z⟩
        · rw [e1] at z; cases z
        · rw [e1] at z; cases z
      · obtain ⟨⟨l, e1⟩, e2⟩ := rd_of qa
        refine rd_mk (l := l) ?_ e2
        simp only [e1]
        rw [if_neg (by omega)]
/-- x = e, a value -/
theorem sx_set {α : Type} {c : Cod α} {i : Nat} {x : Str} {e : Expr} {pos pos' : Pos} {f : CT G → Res (α × CT G)} {put : CT G → α → CT G'} (u : Upd G i (sVal c) G' put) (hi : A.X.N[i]? = some x) (hx : Loc A.X.env.scope x) (h : EX A G e (rV c) f) (hS : A.S i)
    (hs : swapsWith e (some (.Name x pos')) pos.line A.X.env = pure false) (hf : A.X.fn x = true ∨ A.X.env.scope.names.lookup x = some .local) :
    SX A G (.Assign [.Name x pos'] e pos) G' R (fun p => Res.bind (f p) fun y => .ok (.nx (put y.2 y.1))) :=
  ps_weak (ps_set A.nd hi hx h hs hf) fun D o H ⟨p, L, w, cr, k⟩ => ⟨p, L, w, cr, k.bind.imp fun y _ q v L' H' s w' c' rl => q _ L' H' s w' (by
    have := u.ok _ _ _ y.1 v _ _ _ c' ⟨v, rfl, rl⟩
    rwa [Nat.zero_add] at this) (Keeps.set hS)⟩
theorem lab_own {α : Type} {oc : OCod α} {K : Frag} {L : Lab} {H : Hp} {L' : Lab} {H' : Hp} {v : V} {x : α} (i : Nat) (w : Wf L' H') (h : OwnAt oc K L H L' H' v x) :
    ∃ L'', (∀ a, L'' a = L' a ∨ (L' a = none ∧ ¬ Frm L H a)) ∧ (∀ a, L' a ≠ none → L'' a = L' a) ∧ Wf L'' H' ∧ oc.own K (rd L'' H') (sub L'' (i + 1)) H' [] v x := by
  obtain ⟨M, hM, ho⟩ := h
  have hk : ∀ a, L' a ≠ none → M a = none := fun a ha => by
    cases e : M a with
    | none => rfl
    | some m => exact absurd (hM a m e).1 ha
  refine ⟨fun a => match M a with | some m => some (i + 1, m) | none => L' a, fun a => ?_, fun a ha => ?_, ⟨fun a ha => ?_, fun a k l e => ?_⟩, ?_⟩
  · show (match M a with | some m => some (i + 1, m) | none => L' a) = _ ∨ _
    cases e : M a with
    | none => exact .inl rfl
    | some m => exact .inr ⟨(hM a m e).1, (hM a m e).2.2⟩
  · simp only [hk a ha]
  · cases e : M a with
    | none => simp only [e] at ha; exact w.dom a ha
    | some m => exact (hM a m e).2.1.ne
  · cases e' : M a with
    | none => simp only [e'] at e; exact w.soft a k l e
    | some m1 =>
      simp only [e', Option.some.injEq, Prod.mk.injEq] at e
      rw [← e.2]
      exact (hM a m1 e').2.1
  · refine oc.mono K _ _ _ _ _ _ _ _ _ (fun a ob qa => ?_) (fun a m e => ⟨sub_mk (by simp only [e]), rfl⟩) ho
    obtain ⟨⟨l, e1⟩, e2⟩ := rd_of qa
    exact rd_mk (l := l) (by simp only [hk a (by rw [e1]; simp)]; exact e1) e2
/-- x = e, one's own from now on -/
theorem sx_setO {α : Type} {oc : OCod α} {i : Nat} {x : Str} {e : Expr} {pos pos' : Pos} {f : CT G → Res (α × CT G)} {put : CT G → α → CT G'} (u : Upd G i (sOwn PAny oc) G' put) (hi : A.X.N[i]? = some x) (hx : Loc A.X.env.scope x) (h : EX A G e (rO oc) f) (hS : A.S i)
    (hs : swapsWith e (some (.Name x pos')) pos.line A.X.env = pure false) (hf : A.X.fn x = true ∨ A.X.env.scope.names.lookup x = some .local) :
    SX A G (.Assign [.Name x pos'] e pos) G' R (fun p => Res.bind (f p) fun y => .ok (.nx (put y.2 y.1))) :=
  ps_weak (ps_set A.nd hi hx h hs hf) fun D o H ⟨p, L, w, cr, k⟩ => ⟨p, L, w, cr, k.bind.imp fun y _ q v L' H' s w' c' rl => by
    obtain ⟨L2, h1, h2, h3, h4⟩ := lab_own i w' rl
    have hs2 : Same (rd L' H') (rd L2 H') := fun a ob qa => by
      obtain ⟨⟨l, e1⟩, e2⟩ := rd_of qa
      exact rd_mk ((h2 a (by rw [e1]; simp)).trans e1) e2
    have c2 : CR A.X.K 0 G y.2 L2 H' o := c'.keep hs2 fun a j l _ ea => ⟨h2 a (by rw [ea]; simp), rfl⟩
    refine q _ L2 H' (fun a fr => ?_) h3 (by
      have := u.ok _ _ _ y.1 v _ _ _ c2 ⟨v, trivial, rfl, by rw [Nat.zero_add]; exact h4⟩
      rwa [Nat.zero_add] at this) (Keeps.set hS)
    rcases h1 a with z | z
    · exact ⟨z.trans (s a fr).1, (s a fr).2⟩
    · exact absurd fr z.2⟩
/-- an expression alone -/
theorem sx_expr {α : Type} {r : Rt α} {e : Expr} {pos : Pos} {f : CT G → Res (α × CT G)} (h : EX A G e r f) (hs : swapsWith e none pos.line A.X.env = pure false := by rfl) : SX A G (.Expr e pos) G R (fun p => Res.bind (f p) fun y => .ok (.nx y.2)) :=
  ps_weak (ps_expr h hs) fun D o H ⟨p, L, w, cr, k⟩ => ⟨p, L, w, cr, k.bind.imp fun y _ q v L' H' s w' c' _ => q o L' H' s w' c' Keeps.refl⟩
theorem sx_if {t : Expr} {a b : List Stmt} {pos : Pos} {ft : CT G → Res (Bool × CT G)} {f g : CT G → Res (Out (CT G') ρ)} (ht : TX A G t ft) (ha : BX A G a G' R f) (hb : BX A G b G' R g) :
    SX A G (.If t a b pos) G' R (fun p => Res.bind (ft p) fun y => if y.1 = true then f y.2 else g y.2) :=
  ps_weak (ps_if ht ha hb) fun D o H ⟨p, L, w, cr, k⟩ => ⟨p, L, w, cr, k.bind.imp fun y _ q L' H' s w' c' => by
    obtain ⟨b, p'⟩ := y
    cases b with
    | true => exact iteT ⟨p', L', w', c', (Good.from_ s Keeps.refl (show Good A (f p') L H o _ from q)).imp fun z _ n => nxP.from_ s Keeps.refl n⟩
    | false => exact iteF ⟨p', L', w', c', (Good.from_ s Keeps.refl (show Good A (g p') L H o _ from q)).imp fun z _ n => nxP.from_ s Keeps.refl n⟩⟩
end
end AC
set_option Elab.async false
set_option linter.all false
set_option maxRecDepth 100000
/-! TL5: what is walked, targets, loops, comprehensions. -/
namespace AC
open PySem L2 PyProof
section
variable {A : Amb} {G G' : Ctx} {ρ : Type} {R : Rr ρ}
/-! ### what is walked -/
structure WalkT (A : Amb) {α : Type} (c : Cod α) (L : Lab) (H : Hp) (xs : List α) (J : It) (Gd : Hp → Prop) (Y : Nat → Hp → V → Hp → Prop) : Prop where
  walk : Walk J xs.length Gd Y
  line : xs.length ≤ sizeLine
  stays : ∀ L2 H2, Stp L H L2 H2 → Gd H2
  gives : ∀ i L2 H2 v H3, i < xs.length → Stp L H L2 H2 → Wf L2 H2 → Y i H2 v H3 → ∃ L3 x, Ext L2 H2 L3 H3 ∧ Wf L3 H3 ∧ xs[i]? = some x ∧ c.see A.X.K (rd L3 H3) v x
def tI (A : Amb) {α : Type} (G : Ctx) (c : Cod α) (f : CT G → Res (List α × CT G)) : L2.TI := fun o H Q =>
  ∃ (p : CT G) (L : Lab), Wf L H ∧ CR A.X.K 0 G p L H o ∧ Good A (f p) L H o fun y => ∀ L' H' J Gd Y, Stp L H L' H' → Wf L' H' → CR A.X.K 0 G y.2 L' H' o → WalkT A c L' H' y.1 J Gd Y → Q J H'
def IX (A : Amb) (G : Ctx) (tg iter : Expr) {α : Type} (c : Cod α) (f : CT G → Res (List α × CT G)) : Prop := PI A.X tg iter (tI A G c f)
theorem pi_weak {X : Cx} {tg e : Expr} {t t' : L2.TI} (h : PI X tg e t) (i : ∀ o H Q, t' o H Q → t o H Q) : PI X tg e t' := ⟨fun pins s o H Q I q => h.run pins s o H Q I (i _ _ _ q)⟩
theorem ix_l {α : Type} {c : Cod α} {tg e : Expr} {f : CT G → Res (List α × CT G)} (h : EX A G e (rV (cL c)) f) : IX A G tg e c f :=
  pi_weak (pi_list h) fun o H Q ⟨p, L, w, cr, k⟩ => ⟨p, L, w, cr, k.imp fun y _ q v L' H' s w' c' ⟨a, vs, e, hs, hl, hp⟩ => ⟨a, e, ⟨vs, SqL.of (rd_sub _ _ hs)⟩, q L' H' _ (fun H => SqL A.X.K H a vs) (YAt vs) s w' c'
    ⟨by rw [← paired_len hp]; exact walk_list (xs := vs), by rw [← paired_len hp]; exact hl, fun L2 H2 s2 => SqL.of (rd_sub _ _ (s2.rd _ _ hs)), fun i L2 H2 v H3 hi s2 w2 ⟨e3, hv⟩ => by
      subst e3
      obtain ⟨x, hx, hc⟩ := paired_getL hp hv
      exact ⟨L2, x, Ext.refl, w2, hx, c.mono _ _ _ _ _ s2.rd hc⟩⟩⟩⟩
theorem ix_t {α : Type} {c : Cod α} {tg e : Expr} {f : CT G → Res (List α × CT G)} (h : EX A G e (rV (cTV c)) f) : IX A G tg e c f :=
  pi_weak (pi_tup h) fun o H Q ⟨p, L, w, cr, k⟩ => ⟨p, L, w, cr, k.imp fun y _ q v L' H' s w' c' ⟨a, vs, e, hs, hl, hp⟩ => ⟨a, e, ⟨vs, (hs.same rd_sub).sq⟩, q L' H' _ (fun H => SqT A.X.K H a vs) (YAt vs) s w' c'
    ⟨by rw [← paired_len hp]; exact walk_tup (xs := vs), by rw [← paired_len hp]; exact hl, fun L2 H2 s2 => ((hs.same s2.rd).same rd_sub).sq, fun i L2 H2 v H3 hi s2 w2 ⟨e3, hv⟩ => by
      subst e3
      obtain ⟨x, hx, hc⟩ := paired_getL hp hv
      exact ⟨L2, x, Ext.refl, w2, hx, c.mono _ _ _ _ _ s2.rd hc⟩⟩⟩⟩
/-- m, m + 1, .. so many -/
def intsFrom (m : Int) (n : Nat) : List Int := (List.range n).map fun (i : Nat) => m + (i : Int)
theorem intsFrom_len (m : Int) (n : Nat) : (intsFrom m n).length = n := by unfold intsFrom; rw [List.length_map, List.length_range]
theorem intsFrom_get {m : Int} {n i : Nat} (h : i < n) : (intsFrom m n)[i]? = some (m + (i : Int)) := by unfold intsFrom; rw [List.getElem?_map, List.getElem?_range h]; rfl
def rng1O (n : Int) : Res (List Int) := if -(2 ^ 61) ≤ n ∧ n ≤ 16777216 then .ok (intsFrom 0 n.toNat) else .bad
theorem line_eq : sizeLine = 16777216 := by decide
theorem good_if {α β : Type} {c : Prop} [Decidable c] {x : α} {f : α → Res β} {L : Lab} {H : Hp} {o : St} {P : β → Prop} (h : Good A (Res.bind (if c then Res.ok x else .bad) f) L H o P) : c ∧ Good A (f x) L H o P := by
  by_cases hc : c
  · rw [if_pos hc] at h; exact ⟨hc, h⟩
  · rw [if_neg hc] at h; exact h.elim
theorem walk_rng {L : Lab} {H : Hp} {lo : Int} {n : Nat} (hn : n ≤ sizeLine) : WalkT A cI L H (intsFrom lo n) (Itr lo n) (fun _ => True) (YFn fun i => .int (lo + i)) :=
  ⟨by rw [intsFrom_len]; exact walk_range, by rw [intsFrom_len]; exact hn, fun _ _ _ => trivial, fun i L2 H2 v H3 hi s2 w2 ⟨e3, hv⟩ => by
    subst e3
    rw [intsFrom_len] at hi
    exact ⟨L2, _, Ext.refl, w2, intsFrom_get hi, hv⟩⟩
theorem ix_r1 {tg a : Expr} {p pos : Pos} {f : CT G → Res (Int × CT G)} (hg : Gl A.X "range") (hm : A.X.mg "range" = none) (h : EX A G a (rV cI) f) (hs : starEach [a] A.X.env = [(false, eval a A.X.env)] := by rfl) :
    IX A G tg (.Call (.Name "range" p) [a] [] pos) cI (fun p => Res.bind (f p) fun y => Res.bind (rng1O y.1) fun z => .ok (z, y.2)) :=
  pi_weak (pi_range1 hg hm (ax_one h (by rw [hs]; rfl)) hs) fun o H Q ⟨p, L, w, cr, k⟩ => ⟨p, L, w, cr, k.bind.imp fun y _ q vs L' H' s w' c' ⟨v, e, hv⟩ => by
    have hv : v = .int y.1 := hv
    subst hv
    obtain ⟨⟨hb0, hb⟩, q⟩ := good_if q
    have hl := line_eq
    exact ⟨y.1, e, by omega, by omega, q L' H' (Itr 0 y.1.toNat) (fun _ => True) (YFn fun i => .int (0 + i)) s w' c' (walk_rng (by omega))⟩⟩
def strL (z : Str) : List Str := z.cps.toList.map fun c => ⟨#[c]⟩
theorem ix_s {tg e : Expr} {f : CT G → Res (Str × CT G)} (h : EX A G e (rV cS) f) : IX A G tg e cS (fun p => Res.bind (f p) fun y => .ok (strL y.1, y.2)) :=
  pi_weak (pi_str h) fun o H Q ⟨p, L, w, cr, k⟩ => ⟨p, L, w, cr, k.bind.imp fun y _ q v L' H' s w' c' ⟨e, h1, h2⟩ => ⟨y.1, e, q L' H' (Its y.1) (fun _ => True) (fun i H v H' => H' = H ∧ ∃ c, y.1.cps[i]? = some c ∧ v = .str ⟨#[c]⟩) s w' c' ⟨by unfold strL; rw [List.length_map, Array.length_toList]; exact walk_str, by unfold strL; rw [List.length_map, Array.length_toList]; exact h2, fun _ _ _ => trivial, fun i L2 H2 v H3 hi s2 w2 ⟨e3, c, hc, hv⟩ => by
      subst e3 hv
      refine ⟨L2, ⟨#[c]⟩, Ext.refl, w2, ?_, rfl, ?_, show 1 ≤ sizeLine by decide⟩
      · unfold strL
        rw [List.getElem?_map, Array.getElem?_toList, hc]; rfl
      · have hm : c ∈ y.1.cps := Array.mem_of_getElem? hc
        have := Array.all_eq_true_iff_forall_mem.mp h1 c hm
        simpa [PyData.strOk] using this⟩⟩⟩
/-! ### targets -/
def tG (A : Amb) {α : Type} (c : Cod α) (G G' : Ctx) (put : CT G → α → CT G') : L2.TG := fun v o H Q =>
  ∃ (p : CT G) (L : Lab) (x : α), Wf L H ∧ CR A.X.K 0 G p L H o ∧ c.see A.X.K (rd L H) v x ∧ ∀ o', CR A.X.K 0 G' (put p x) L H o' → Keeps A.S o o' → Q o' H
def GX (A : Amb) (G : Ctx) (tg : Expr) {α : Type} (c : Cod α) (G' : Ctx) (put : CT G → α → CT G') : Prop := PG A.X tg (tG A c G G' put)
theorem pg_weak {X : Cx} {e : Expr} {t t' : L2.TG} (h : PG X e t) (i : ∀ v o H Q, t' v o H Q → t v o H Q) : PG X e t' := ⟨fun pins s o H v u Q I r q => h.run pins s o H v u Q I r (i _ _ _ _ q)⟩
theorem gx_name {α : Type} {c : Cod α} {i : Nat} {x : Str} {pos : Pos} {put : CT G → α → CT G'} (u : Upd G i (sVal c) G' put) (hi : A.X.N[i]? = some x) (hx : Loc A.X.env.scope x) (hS : A.S i) (hf : A.X.fn x = true ∨ A.X.env.scope.names.lookup x = some .local) : GX A G (.Name x pos) c G' put :=
  pg_weak (pg_name A.nd hi hx hf) fun v o H Q ⟨p, L, x, w, cr, h, q⟩ => q _ (by
    have := u.ok _ _ _ x v _ _ _ cr ⟨v, rfl, h⟩
    rwa [Nat.zero_add] at this) (Keeps.set hS)
def tGs (A : Amb) {α : Type} (as : ArgC α) (G G' : Ctx) (put : CT G → α → CT G') : L2.TGs := fun vs o H Q =>
  ∃ (p : CT G) (L : Lab) (x : α), Wf L H ∧ CR A.X.K 0 G p L H o ∧ as.see A.X.K (rd L H) vs x ∧ ∀ o', CR A.X.K 0 G' (put p x) L H o' → Keeps A.S o o' → Q o' H
def GXs (A : Amb) (G : Ctx) (tgs : List Expr) {α : Type} (as : ArgC α) (G' : Ctx) (put : CT G → α → CT G') : Prop := PGs A.X tgs (tGs A as G G' put)
theorem pgs_weak {X : Cx} {e : List Expr} {t t' : L2.TGs} (h : PGs X e t) (i : ∀ v o H Q, t' v o H Q → t v o H Q) : PGs X e t' := ⟨fun pins s o H v u Q I r q => h.run pins s o H v u Q I r (i _ _ _ _ q)⟩
theorem gxs_one {α : Type} {c : Cod α} {e : Expr} {put : CT G → α → CT G'} (h : GX A G e c G' put) (hs : (assignEach [e] A.X.env).map (·.2) = assign e A.X.env :: (assignEach [] A.X.env).map (·.2) := by rfl) : GXs A G [e] (aOne c) G' put :=
  pgs_weak (pgs_cons h pgs_nil hs) fun vs o H Q ⟨p, L, x, w, cr, ⟨v, e, h⟩, q⟩ => ⟨v, [], e, p, L, x, w, cr, h, fun o' c' k' => ⟨rfl, q o' c' k'⟩⟩
theorem gxs_cons {α β : Type} {c : Cod α} {as : ArgC β} {e : Expr} {es : List Expr} {G1 : Ctx} {put : CT G → α → CT G1} {put2 : CT G1 → β → CT G'} (h : GX A G e c G1 put) (hr : GXs A G1 es as G' put2) (hs : (assignEach (e :: es) A.X.env).map (·.2) = assign e A.X.env :: (assignEach es A.X.env).map (·.2) := by rfl) :
    GXs A G (e :: es) (aCons c as) G' (fun p x => put2 (put p x.1) x.2) :=
  pgs_weak (pgs_cons h hr hs) fun vs o H Q ⟨p, L, x, w, cr, ⟨v, ws, e, h1, h2⟩, q⟩ => ⟨v, ws, e, p, L, x.1, w, cr, h1, fun o' c' k' => ⟨_, L, x.2, w, c', h2, fun o2 c2 k2 => q o2 c2 (k'.trans k2)⟩⟩
theorem gx_tup {α : Type} {as : ArgC α} {es : List Expr} {kk : Nat} {pos : Pos} {put : CT G → α → CT G'} (h : GXs A G es as G' put) (hn : (assignEach es A.X.env).length = as.n := by rfl) (hst : (assignEach es A.X.env).findIdx? (·.1) = none := by rfl) : GX A G (.Tuple es kk pos) (cT as) G' put :=
  pg_weak (pg_tup A.calm h hn hst) fun v o H Q ⟨p, L, x, w, cr, ⟨a, vs, e, h1, h2⟩, q⟩ => ⟨a, vs, e, (h1.same rd_sub).sq, as.len _ _ _ _ h2, p, L, x, w, cr, h2, q⟩
/-- target = e, by values -/
theorem sx_asg {α : Type} {c : Cod α} {tg e : Expr} {pos : Pos} {f : CT G → Res (α × CT G)} {put : CT G → α → CT G'} (h : EX A G e (rV c) f) (hg : GX A G tg c G' put) (hs : swapsWithSole [tg] e pos.line A.X.env = pure false := by rfl) (hw : swappedStores [tg] e A.X.env = pure none := by rfl)
    (h1 : (assignEach [tg] A.X.env).map (·.2) = [assign tg A.X.env] := by rfl) : SX A G (.Assign [tg] e pos) G' R (fun p => Res.bind (f p) fun y => .ok (.nx (put y.2 y.1))) :=
  ps_weak (ps_asg h hg hs hw h1) fun D o H ⟨p, L, w, cr, k⟩ => ⟨p, L, w, cr, k.bind.imp fun y _ q v L' H' s w' c' rl => ⟨y.2, L', y.1, w', c', rl, fun o' c2 k2 => q o' L' H' s w' c2 k2⟩⟩
/-! ### for -/
def forL {α β ρ : Type} : List α → (α → β → Res (Out β ρ)) → β → Res (Out β ρ)
  | [], _, b => .ok (.nx b)
  | x :: xs, f, b => Res.bind (f x b) (Out.seq (forL xs f))
theorem sx_for {α : Type} {c : Cod α} {tg iter : Expr} {body : List Stmt} {pos : Pos} {fi : CT G → Res (List α × CT G)} {G1 G2 : Ctx} {put : CT G → α → CT G1} {fb : CT G1 → Res (Out (CT G2) ρ)} {back : CT G2 → CT G}
    (hi : IX A G tg iter c fi) (hg : GX A G tg c G1 put) (hb : BX A G1 body G2 R fb) (sb : SubC G2 G back) (hs : ∀ x, foldedSetIterable iter A.X.env x = pure x := by intro _; rfl) :
    SX A G (.For tg iter body [] pos) G R (fun p => Res.bind (fi p) fun y => forL y.1 (fun x q => Res.bind (fb (put q x)) fun z => .ok (z.map back)) y.2) := by
  refine ps_weak (ps_for A.hp A.calm hi hg hb hs) fun D o H ⟨p, L, w, cr, k⟩ => ⟨p, L, w, cr, k.bind.imp fun y _ q L' H' J Gd Y s w' c' wt => ?_⟩
  generalize hbody : (fun (x : α) (q : CT G) => Res.bind (fb (put q x)) fun z => Res.ok (z.map back)) = body' at q
  refine for_it wt.walk (fun i o1 H1 => ∃ (q1 : CT G) (L1 : Lab), Wf L1 H1 ∧ CR A.X.K 0 G q1 L1 H1 o1 ∧ Stp L' H' L1 H1 ∧ Keeps A.S o o1 ∧ Good A (forL (y.1.drop i) body' q1) L H o (nxP A G R L H o D)) ?_ ?_ ?_ ?_
  · exact ⟨y.2, L', w', c', Stp.refl, Keeps.refl, by rw [List.drop_zero]; exact q⟩
  · rintro i o1 H1 _ ⟨q1, L1, w1, c1, s1, _, _⟩
    exact wt.stays L1 H1 s1
  · rintro i v o1 H1 H2 hi ⟨q1, L1, w1, c1, s1, k1, g1⟩ hy
    obtain ⟨L2, x, ex, w2, hx, hc⟩ := wt.gives i L1 H1 v H2 hi s1 w1 hy
    have hd : y.1.drop i = x :: y.1.drop (i + 1) := by
      obtain ⟨h1, h2⟩ := List.getElem?_eq_some_iff.mp hx
      rw [List.drop_eq_getElem_cons h1, h2]
    rw [hd] at g1
    have g2 : Good A (Res.bind (body' x q1) (Out.seq (forL (y.1.drop (i + 1)) body'))) L H o (nxP A G R L H o D) := g1
    rw [← hbody] at g2
    rw [hbody] at g2
    have g3 := g2.bind
    rw [← hbody, hbody] at g3
    refine ⟨q1, L2, x, w2, c1.ext w1 ex, hc, fun o2 c2 k2 => ⟨put q1 x, L2, w2, c2, ?_⟩⟩
    have st : Stp L H L2 H2 := (s.trans s1).trans ex.stp
    have g4 : Good A (Res.bind (fb (put q1 x)) fun z => Res.ok (z.map back)) L H o fun a => Good A (Out.seq (forL (y.1.drop (i + 1)) body') a) L H o (nxP A G R L H o D) := by
      have : body' x q1 = Res.bind (fb (put q1 x)) fun z => Res.ok (z.map back) := by rw [← hbody]
      rw [this] at g3
      exact g3
    refine (Good.from_ st (k1.trans k2) g4.bind).imp fun z _ gz => ?_
    cases z with
    | nx p3 =>
      intro o3 L3 H3 s3 w3 c3 k3
      obtain ⟨L4, h41, h42⟩ := sb.ok _ _ _ _ _ _ w3 c3
      exact ⟨back p3, L4, wf_of_frz w3 h41, h42, ((s1.trans ex.stp).trans s3).trans (stp_of_frz h41), (k1.trans k2).trans k3, gz⟩
    | rt r =>
      intro v L3 H3 s3 w3 rl
      exact (show nxP A G R L H o D (.rt r) from gz) v L3 H3 (st.trans s3) w3 (R.pre _ _ _ _ _ _ _ _ _ st rl)
  · rintro o1 H1 ⟨q1, L1, w1, c1, s1, k1, g1⟩
    rw [List.drop_length] at g1
    exact (show nxP A G R L H o D (.nx q1) from g1) o1 L1 H1 (s.trans s1) w1 c1 k1
/-! ### while -/
def whileN {β ρ : Type} (c : β → Res (Bool × β)) (b : β → Res (Out β ρ)) : Nat → β → Res (Out β ρ)
  | 0, _ => .bad
  | n + 1, s => Res.bind (c s) fun t => if t.1 = true then Res.bind (b t.2) (Out.seq (whileN c b n)) else .ok (.nx t.2)
/-- more turns than any loop here has -/
def wfuel : Nat := 2 ^ 40
@[irreducible] def whileR {β ρ : Type} (c : β → Res (Bool × β)) (b : β → Res (Out β ρ)) (s : β) : Res (Out β ρ) := whileN c b wfuel s
theorem sx_while {t : Expr} {body : List Stmt} {pos : Pos} {ft : CT G → Res (Bool × CT G)} {G2 : Ctx} {fb : CT G → Res (Out (CT G2) ρ)} {back : CT G2 → CT G} (ht : TX A G t ft) (hb : BX A G body G2 R fb) (sb : SubC G2 G back) :
    SX A G (.While t body [] pos) G R (whileR ft fun p => Res.bind (fb p) fun z => .ok (z.map back)) := by
  refine ps_weak (ps_while A.hp ht hb) fun D o H ⟨p, L, w, cr, k⟩ => ?_
  unfold whileR at k
  refine ⟨fun m o1 H1 => ∃ (q1 : CT G) (L1 : Lab), Wf L1 H1 ∧ CR A.X.K 0 G q1 L1 H1 o1 ∧ Stp L H L1 H1 ∧ Keeps A.S o o1 ∧ Good A (whileN ft (fun p => Res.bind (fb p) fun z => .ok (z.map back)) m q1) L H o (nxP A G R L H o D), ⟨wfuel, p, L, w, cr, Stp.refl, Keeps.refl, k⟩, ?_⟩
  rintro m o1 H1 ⟨q1, L1, w1, c1, s1, k1, g1⟩
  cases m with
  | zero => exact g1.elim
  | succ m =>
    refine ⟨q1, L1, w1, c1, (Good.from_ s1 k1 (show Good A (Res.bind (ft q1) _) L H o _ from g1).bind).imp fun y _ gy L2 H2 s2 w2 c2 => ?_⟩
    obtain ⟨b, q2⟩ := y
    cases b with
    | false => exact iteF ((show nxP A G R L H o D (.nx q2) from gy) o1 L2 H2 (s1.trans s2) w2 c2 k1)
    | true =>
      refine iteT ⟨fun o' H' => ∃ (q1 : CT G) (L1 : Lab), Wf L1 H' ∧ CR A.X.K 0 G q1 L1 H' o' ∧ Stp L H L1 H' ∧ Keeps A.S o o' ∧ Good A (whileN ft (fun p => Res.bind (fb p) fun z => .ok (z.map back)) m q1) L H o (nxP A G R L H o D), fun o' H' h => ⟨m, Nat.lt_succ_self m, h⟩, q2, L2, w2, c2, ?_⟩
      refine (Good.from_ (s1.trans s2) k1 (show Good A (Res.bind (Res.bind (fb q2) fun z => Res.ok (z.map back)) (Out.seq (whileN ft _ m))) L H o _ from gy).bind.bind).imp fun z _ gz => ?_
      cases z with
      | nx p3 =>
        intro o3 L3 H3 s3 w3 c3 k3
        obtain ⟨L4, h41, h42⟩ := sb.ok _ _ _ _ _ _ w3 c3
        exact ⟨back p3, L4, wf_of_frz w3 h41, h42, ((s1.trans s2).trans s3).trans (stp_of_frz h41), k1.trans k3, gz⟩
      | rt r =>
        intro v L3 H3 s3 w3 rl
        exact (show nxP A G R L H o D (.rt r) from gz) v L3 H3 ((s1.trans s2).trans s3) w3 (R.pre _ _ _ _ _ _ _ _ _ (s1.trans s2) rl)
end
end AC
set_option Elab.async false
set_option linter.all false
set_option maxRecDepth 100000
/-! TL6: comprehensions. -/
namespace AC
open PySem L2 PyProof
theorem wipe_ne {o : St} {k : Nat} : ∀ {vs : List Nat}, k ∉ vs → (wipe o vs)[k]? = o[k]?
  | [], _ => rfl
  | v :: vs, h => by
    unfold wipe
    rw [List.getElem?_set_ne (fun e => h (by rw [e]; exact List.mem_cons_self))]
    exact wipe_ne fun m => h (List.mem_cons_of_mem _ m)
theorem wipe_in {o : St} {k : Nat} : ∀ {vs : List Nat}, k ∈ vs → (wipe o vs)[k]? = if k < o.length then some none else none
  | v :: vs, h => by
    unfold wipe
    by_cases e : v = k
    · subst e
      by_cases hl : v < o.length
      · rw [if_pos hl, List.getElem?_set_self (by rw [wipe_length]; exact hl)]
      · rw [if_neg hl, List.getElem?_eq_none (by rw [List.length_set, wipe_length]; omega)]
    · rw [List.getElem?_set_ne e]
      exact wipe_in ((List.mem_cons.mp h).resolve_left fun q => e q.symm)
theorem wipe_eq {o o' : St} {vs : List Nat} (hl : o'.length = o.length) (h : ∀ i, i ∉ vs → o'[i]? = o[i]?) : wipe o' vs = wipe o vs := by
  apply List.ext_getElem?
  intro i
  by_cases hi : i ∈ vs
  · rw [wipe_in hi, wipe_in hi, hl]
  · rw [wipe_ne hi, wipe_ne hi]
    exact h i hi
/-- the names of a comprehension are hidden -/
structure WipeC (k : Nat) (vs : List Nat) (G G0 : Ctx) (dn : CT G → CT G0) (bk : CT G → CT G0 → CT G) : Prop where
  dn_ok : ∀ (K : Frag) (p : CT G) (L : Lab) (H : Hp) (o : St), CR K k G p L H o → CR K k G0 (dn p) L H (wipe o vs)
  bk_ok : ∀ (K : Frag) (p : CT G) (q : CT G0) (L : Lab) (H : Hp) (L' : Lab) (H' : Hp) (o : St), Same (rd L H) (rd L' H') → CR K k G p L H o → CR K k G0 q L' H' (wipe o vs) → CR K k G (bk p q) L' H' o
theorem wc_nil {k : Nat} {vs : List Nat} : WipeC k vs [] [] (fun p => p) (fun p _ => p) := ⟨fun K p L H o c => by
  show k ≤ (wipe o vs).length
  rw [wipe_length]; exact c, fun K p q L H L' H' o s c c' => c⟩
theorem wc_keep {k : Nat} {vs : List Nat} {s : Slot} {G G0 : Ctx} {dn : CT G → CT G0} {bk : CT G → CT G0 → CT G} (hk : k ∉ vs) (h : WipeC (k + 1) vs G G0 dn bk) : WipeC k vs (s :: G) (s :: G0) (fun p => (p.1, dn p.2)) (fun p q => (q.1, bk p.2 q.2)) :=
  ⟨fun K p L H o c => ⟨by rw [wipe_ne hk]; exact c.1, h.dn_ok K p.2 L H o c.2⟩, fun K p q L H L' H' o s c c' => ⟨by have := c'.1; rw [wipe_ne hk] at this; exact this, h.bk_ok K p.2 q.2 L H L' H' o s c.2 c'.2⟩⟩
theorem wc_any {k : Nat} {vs : List Nat} {G G0 : Ctx} {dn : CT G → CT G0} {bk : CT G → CT G0 → CT G} (h : WipeC (k + 1) vs G G0 dn bk) : WipeC k vs (sAny :: G) (sAny :: G0) (fun p => ((), dn p.2)) (fun p q => ((), bk p.2 q.2)) :=
  ⟨fun K p L H o c => ⟨trivial, h.dn_ok K p.2 L H o c.2⟩, fun K p q L H L' H' o s c c' => ⟨trivial, h.bk_ok K p.2 q.2 L H L' H' o s c.2 c'.2⟩⟩
theorem wc_val {k : Nat} {vs : List Nat} {α : Type} {c : Cod α} {G G0 : Ctx} {dn : CT G → CT G0} {bk : CT G → CT G0 → CT G} (h : WipeC (k + 1) vs G G0 dn bk) : WipeC k vs (sVal c :: G) (sAny :: G0) (fun p => ((), dn p.2)) (fun p q => (p.1, bk p.2 q.2)) :=
  ⟨fun K p L H o c => ⟨trivial, h.dn_ok K p.2 L H o c.2⟩, fun K p q L H L' H' o s c c' => ⟨let ⟨v, e, hv⟩ := c.1; ⟨v, e, Cod.mono _ K _ _ v _ s hv⟩, h.bk_ok K p.2 q.2 L H L' H' o s c.2 c'.2⟩⟩
/-- [.. for ..]: an item or none each turn -/
def lcL {α β γ : Type} : List α → (α → β → Res (Option γ × β)) → β → Res (List γ × β)
  | [], _, b => .ok ([], b)
  | x :: xs, f, b => Res.bind (Res.noexc (f x b)) fun r => Res.bind (lcL xs f r.2) fun z => .ok (match r.1 with | some y => y :: z.1 | none => z.1, z.2)
def mapR {α β γ : Type} : List α → (α → β → Res (γ × β)) → β → Res (List γ × β)
  | [], _, b => .ok ([], b)
  | x :: xs, f, b => Res.bind (Res.noexc (f x b)) fun r => Res.bind (mapR xs f r.2) fun z => .ok (r.1 :: z.1, z.2)
theorem lcL_some {α β γ : Type} {f : α → β → Res (γ × β)} : ∀ {xs : List α} {b : β}, lcL xs (fun x b => Res.bind (f x b) fun r => .ok (some r.1, r.2)) b = mapR xs f b
  | [], _ => rfl
  | x :: xs, b => by
    show Res.bind (Res.noexc (Res.bind (f x b) fun r => .ok (some r.1, r.2))) _ = Res.bind (Res.noexc (f x b)) _
    cases f x b with
    | ok r =>
      show Res.bind (lcL xs (fun x b => Res.bind (f x b) fun r => .ok (some r.1, r.2)) r.2) (fun z => .ok (r.1 :: z.1, z.2)) = Res.bind (mapR xs f r.2) fun z => .ok (r.1 :: z.1, z.2)
      rw [lcL_some]
    | exc e => rfl
    | bad => rfl
/-- the surroundings of a comprehension's block -/
def Amb.blk (A : Amb) (vs : List Nat) (s : Shared) (H : Hp) (scope : Scope) (C : Addr) (cl : List (Str × Addr)) (fp : List Addr) : Amb where
  X := A.X.blk s H scope (compEnvC scope cl C A.X.env) fp
  W := fun _ _ _ _ => False
  tk := takes0
  calm := A.calm
  hp := PassesOwn.never
  nd := A.nd
  ca := A.ca
  S := fun i => i ∈ vs
  lv := A.lv
  room := A.room
  gd := A.gd
section
variable {A : Amb} {G : Ctx}
/-- what one turn of a comprehension is to do, in the block's surroundings -/
theorem lc_reads {α β : Type} {ci : Cod α} {ce : Cod β} {G0 G1 : Ctx} {vs : List Nat} {fi : CT G → Res (List α × CT G)} {dn : CT G → CT G0} {bk : CT G → CT G0 → CT G} {put : CT G0 → α → CT G1} {ft : CT G1 → Res (Bool × CT G1)} {fe : CT G1 → Res (β × CT G1)} {dn1 : CT G1 → CT G0} {bk1 : CT G1 → CT G0 → CT G1}
    (B : Amb) (hB : B.X.K = A.X.K) (hBS : ∀ i, ¬ i ∈ vs → ¬ B.S i)
    (wc : WipeC 0 vs G G0 dn bk) (wc1 : WipeC 0 vs G1 G0 dn1 bk1) {o : St} {H : Hp} {Q : VK}
    (q : tE A G (rO (oL ce)) (fun p => Res.bind (fi p) fun y => Res.bind (lcL y.1 (fun x q => Res.bind (ft (put q x)) fun t => if t.1 = true then Res.bind (fe t.2) fun z => .ok (some z.1, dn1 z.2) else .ok (none, dn1 t.2)) (dn y.2)) fun z => .ok (z.1, bk y.2 z.2)) o H Q) :
    tLc (tI A G ci fi) (tG B ci G0 G1 put) (tT B G1 ft) (tE B G1 (rV ce) fe) vs o H Q := by
  obtain ⟨p, L, w, cr, k⟩ := q
  refine ⟨p, L, w, cr, k.bind.imp fun y _ gy L1 H1 J Gd Y s1 w1 c1 wt D hD => ?_⟩
  generalize hbody : (fun (x : α) (q : CT G0) => Res.bind (ft (put q x)) fun t => if t.1 = true then Res.bind (fe t.2) fun z => Res.ok (some z.1, dn1 z.2) else Res.ok ((none : Option β), dn1 t.2)) = body at gy
  have hnb : L1 D = none := w1.none hD
  -- the state with the list so far
  refine lc_it wt.walk (fun i H2 => ∃ (q2 : CT G0) (L2 : Lab) (acc : List V) (ys : List β), Wf L2 H2 ∧ CR A.X.K 0 G0 q2 L2 H2 (wipe o vs) ∧ Stp L1 H1 L2 H2 ∧ L2 D = none ∧ H2 D = some (.lst acc) ∧ acc.length ≤ i ∧ Paired (fun v x => ce.see A.X.K (rd L2 H2) v x) acc ys ∧
      Good A (Res.bind (lcL (y.1.drop i) body q2) fun z => .ok (ys ++ z.1, bk y.2 z.2)) L H o fun y => ∀ (v : V) (L' : Lab) (H' : Hp), Stp L H L' H' → Wf L' H' → CR A.X.K 0 G y.2 L' H' o → (rO (oL ce)).rel A.X.K L H L' H' v y.1 → Q v H') ?_ ?_ ?_ ?_
  · obtain ⟨e1, e2⟩ := ext_new (o := .lst []) w1 hD
    refine ⟨dn y.2, L1, [], [], e2, (wc.dn_ok _ _ _ _ _ c1).ext w1 e1, e1.stp, hnb, upd_same, Nat.zero_le _, .nil, ?_⟩
    rw [List.drop_zero]
    exact gy
  · rintro i H2 _ ⟨q2, L2, acc, ys, w2, c2, s2, _⟩
    exact wt.stays L2 H2 s2
  · rintro i v H2 H3 hi ⟨q2, L2, acc, ys, w2, c2, s2, n2, d2, l2, pp, g2⟩ hy
    obtain ⟨L3, x, ex, w3, hx, hc⟩ := wt.gives i L2 H2 v H3 hi s2 w2 hy
    have hd : y.1.drop i = x :: y.1.drop (i + 1) := by
      obtain ⟨h1, h2⟩ := List.getElem?_eq_some_iff.mp hx
      rw [List.drop_eq_getElem_cons h1, h2]
    have fD : Frm L2 H2 D := ⟨by rw [d2]; simp, .inl n2⟩
    have n3 : L3 D = none := (ex.stp D fD).1.trans n2
    have d3 : H3 D = some (.lst acc) := (ex.stp D fD).2.trans d2
    have fD3 : Frm L3 H3 D := ex.stp.frm fD
    -- the turn's value
    have gturn : ∃ r, body x q2 = .ok r ∧ Good A (Res.bind (lcL (y.1.drop (i + 1)) body r.2) fun z => .ok (ys ++ (match r.1 with | some y => y :: z.1 | none => z.1), bk y.2 z.2)) L H o fun y => ∀ (v : V) (L' : Lab) (H' : Hp), Stp L H L' H' → Wf L' H' → CR A.X.K 0 G y.2 L' H' o → (rO (oL ce)).rel A.X.K L H L' H' v y.1 → Q v H' := by
      rw [hd] at g2
      unfold lcL at g2
      cases e : body x q2 with
      | ok r =>
        rw [e] at g2
        refine ⟨r, rfl, ?_⟩
        simp only [Res.noexc, Res.bind_ok, Res.bind_assoc] at g2
        exact g2
      | exc e' => rw [e] at g2; exact g2.elim
      | bad => rw [e] at g2; exact g2.elim
    obtain ⟨r, er, g3⟩ := gturn
    have er2 : (Res.bind (ft (put q2 x)) fun t => if t.1 = true then Res.bind (fe t.2) fun z => Res.ok (some z.1, dn1 z.2) else Res.ok ((none : Option β), dn1 t.2)) = .ok r := by rw [← er, ← hbody]
    refine ⟨q2, L3, x, w3, by rw [hB]; exact c2.ext w2 ex, by rw [hB]; exact hc, fun o3 c3 k3 => ?_⟩
    have hw : wipe o3 vs = wipe o vs := by
      have h1 : wipe o3 vs = wipe (wipe o vs) vs := wipe_eq k3.len fun i hi => k3.at_ i (hBS i hi)
      rw [h1]
      exact wipe_eq (wipe_length _ _) fun i hi => wipe_ne hi
    refine ⟨hw, ?_⟩
    rw [hB] at c3
    cases et : ft (put q2 x) with
    | bad => rw [et] at er2; cases er2
    | exc e => rw [et] at er2; cases er2
    | ok t =>
      rw [et, Res.bind_ok] at er2
      obtain ⟨tb, t2⟩ := t
      refine ⟨put q2 x, L3, w3, by rw [hB]; exact c3, ?_⟩
      rw [et]
      intro L4 H4 s4 w4 c4
      rw [hB] at c4
      cases tb with
      | false =>
        rw [if_neg Bool.false_ne_true] at er2
        cases er2
        refine (iteF ?_ : if false = true then _ else _)
        refine ⟨dn1 t2, L4, acc, ys, w4, ?_, (s2.trans ex.stp).trans s4, (s4 D fD3).1.trans n3, (s4 D fD3).2.trans d3, by omega, paired_mono (fun _ _ q => ce.mono _ _ _ _ _ (ex.stp.trans s4).rd q) pp, g3⟩
        rw [← hw]
        exact wc1.dn_ok _ _ _ _ _ c4
      | true =>
        rw [if_pos rfl] at er2
        cases ee : fe t2 with
        | bad => rw [ee] at er2; cases er2
        | exc e => rw [ee] at er2; cases er2
        | ok z =>
          rw [ee, Res.bind_ok] at er2
          cases er2
          refine (iteT ?_ : if true = true then _ else _)
          refine ⟨t2, L4, w4, by rw [hB]; exact c4, ?_⟩
          rw [ee]
          intro u L5 H5 s5 w5 c5 r5
          have r5 : ce.see B.X.K (rd L5 H5) u z.1 := r5
          rw [hB] at c5 r5
          have s45 := s4.trans s5
          have n5 : L5 D = none := (s45 D fD3).1.trans n3
          have d5 : H5 D = some (.lst acc) := (s45 D fD3).2.trans d3
          have lx : y.1.length ≤ sizeLine := wt.line
          have sm : Same (rd L5 H5) (rd L5 (upd H5 D (.lst (acc ++ [u])))) := fun a ob qa => by
            obtain ⟨⟨l, e1⟩, e2⟩ := rd_of qa
            refine rd_mk e1 ?_
            rw [upd_ne fun e => by rw [e, n5] at e1; cases e1]
            exact e2
          refine ⟨acc, d5, by omega, dn1 z.2, L5, acc ++ [u], ys ++ [z.1], ⟨fun a ha => ?_, fun a k l e => ?_⟩, ?_, fun a fa => ?_, n5, upd_same, by rw [List.length_append, List.length_singleton]; omega, ?_, ?_⟩
          · rw [upd_ne fun e => ha (by rw [e]; exact n5)]
            exact w5.dom a ha
          · rw [upd_ne fun e' => by rw [e', n5] at e; cases e]
            exact w5.soft a k l e
          · rw [← hw]
            exact (wc1.dn_ok _ _ _ _ _ c5).keep sm fun a j l _ e => ⟨rfl, upd_ne fun e' => by rw [e', n5] at e; cases e⟩
          · obtain ⟨e1, e2⟩ := ((s2.trans ex.stp).trans s45) a fa
            exact ⟨e1, by rw [upd_ne fun e => fa.1 (by rw [e]; exact hD)]; exact e2⟩
          · exact paired_append (paired_mono (fun _ _ q => ce.mono _ _ _ _ _ (fun a ob h => sm a ob ((ex.stp.trans s45).rd a ob h)) q) pp) (.cons (ce.mono _ _ _ _ _ sm r5) .nil)
          · simp only [List.append_assoc, List.singleton_append]
            exact g3
  · rintro H2 ⟨q2, L2, acc, ys, w2, c2, s2, n2, d2, l2, pp, g2⟩
    rw [List.drop_length] at g2
    have g3 : ∀ (v : V) (L' : Lab) (H' : Hp), Stp L H L' H' → Wf L' H' → CR A.X.K 0 G (bk y.2 q2) L' H' o → (rO (oL ce)).rel A.X.K L H L' H' v (ys ++ []) → Q v H' := g2
    rw [List.append_nil] at g3
    refine g3 (.ref D) L2 H2 (s1.trans s2) w2 (wc.bk_ok _ _ _ _ _ _ _ _ s2.rd c1 c2) ⟨fun a => if a = D then some [] else none, fun a m e => ?_, D, acc, rfl, if_pos rfl, d2, ?_, pp⟩
    · have e : (if a = D then some ([] : List Nat) else none) = some m := e
      by_cases ea : a = D
      · rw [if_pos ea] at e; cases e
        rw [ea, d2]
        exact ⟨n2, trivial, fun f => (s1.frm f).1 hD⟩
      · rw [if_neg ea] at e; cases e
    · have := wt.line
      omega
theorem pts_weak {X : Cx} {es : List Expr} {t t' : L2.TT} (h : PTs X es t) (i : ∀ o H Q, t' o H Q → t o H Q) : PTs X es t' := ⟨fun pins s o H Q I q => h.run pins s o H Q I (i _ _ _ q)⟩
theorem blk_S {vs : List Nat} {s : Shared} {H : Hp} {scope : Scope} {C : Addr} {cl : List (Str × Addr)} {fp : List Addr} : ∀ i, ¬ i ∈ vs → ¬ (A.blk vs s H scope C cl fp).S i := fun _ h => h
/-- [e for t in xs if c] -/
theorem ex_lcIf {α β : Type} {ci : Cod α} {ce : Cod β} {G0 G1 : Ctx} {elt tg iter c : Expr} {scope : Scope} {own : List (Str × Nat)} {pos : Pos} {fi : CT G → Res (List α × CT G)} {dn : CT G → CT G0} {bk : CT G → CT G0 → CT G} {put : CT G0 → α → CT G1} {ft : CT G1 → Res (Bool × CT G1)} {fe : CT G1 → Res (β × CT G1)} {dn1 : CT G1 → CT G0} {bk1 : CT G1 → CT G0 → CT G1}
    (hi : IX A G tg iter ci fi) (ok : BlkOk A.X.N A.X.env.scope scope own) (wc : WipeC 0 (own.map (fun x : Str × Nat => x.2)) G G0 dn bk)
    (hg : ∀ s H C cl fp, GX (A.blk (own.map (fun x : Str × Nat => x.2)) s H scope C cl fp) G0 tg ci G1 put) (ht : ∀ s H C cl fp, TX (A.blk (own.map (fun x : Str × Nat => x.2)) s H scope C cl fp) G1 c ft) (he : ∀ s H C cl fp, EX (A.blk (own.map (fun x : Str × Nat => x.2)) s H scope C cl fp) G1 elt (rV ce) fe)
    (wc1 : WipeC 0 (own.map (fun x : Str × Nat => x.2)) G1 G0 dn1 bk1) (hs : ∀ x, foldedSetIterable iter A.X.env x = pure x := by intro _; rfl) :
    EX A G (.ListComp elt [⟨tg, iter, [c], 0⟩] scope pos) (rO (oL ce)) (fun p => Res.bind (fi p) fun y => Res.bind (lcL y.1 (fun x q => Res.bind (ft (put q x)) fun t => if t.1 = true then Res.bind (fe t.2) fun z => .ok (some z.1, dn1 z.2) else .ok (none, dn1 t.2)) (dn y.2)) fun z => .ok (z.1, bk y.2 z.2)) :=
  pe_weak (pe_lc A.calm A.nd hi ok (g := tG (A.blk (own.map (fun x : Str × Nat => x.2)) A.X.s_0 A.X.H_0 scope 0 [] []) ci G0 G1 put) (tt := tT (A.blk (own.map (fun x : Str × Nat => x.2)) A.X.s_0 A.X.H_0 scope 0 [] []) G1 ft) (te := tE (A.blk (own.map (fun x : Str × Nat => x.2)) A.X.s_0 A.X.H_0 scope 0 [] []) G1 (rV ce) fe)
    (fun s H C cl fp => hg s H C cl fp) (fun s H C cl fp => pts_one (ht s H C cl fp)) (fun s H C cl fp => he s H C cl fp) hs) fun o H Q q => lc_reads (A := A) (A.blk (own.map (fun x : Str × Nat => x.2)) A.X.s_0 A.X.H_0 scope 0 [] []) rfl blk_S wc wc1 q
/-- [e for t in xs] -/
theorem ex_lc {α β : Type} {ci : Cod α} {ce : Cod β} {G0 G1 : Ctx} {elt tg iter : Expr} {scope : Scope} {own : List (Str × Nat)} {pos : Pos} {fi : CT G → Res (List α × CT G)} {dn : CT G → CT G0} {bk : CT G → CT G0 → CT G} {put : CT G0 → α → CT G1} {fe : CT G1 → Res (β × CT G1)} {dn1 : CT G1 → CT G0} {bk1 : CT G1 → CT G0 → CT G1}
    (hi : IX A G tg iter ci fi) (ok : BlkOk A.X.N A.X.env.scope scope own) (wc : WipeC 0 (own.map (fun x : Str × Nat => x.2)) G G0 dn bk)
    (hg : ∀ s H C cl fp, GX (A.blk (own.map (fun x : Str × Nat => x.2)) s H scope C cl fp) G0 tg ci G1 put) (he : ∀ s H C cl fp, EX (A.blk (own.map (fun x : Str × Nat => x.2)) s H scope C cl fp) G1 elt (rV ce) fe)
    (wc1 : WipeC 0 (own.map (fun x : Str × Nat => x.2)) G1 G0 dn1 bk1) (hs : ∀ x, foldedSetIterable iter A.X.env x = pure x := by intro _; rfl) :
    EX A G (.ListComp elt [⟨tg, iter, [], 0⟩] scope pos) (rO (oL ce)) (fun p => Res.bind (fi p) fun y => Res.bind (mapR y.1 (fun x q => Res.bind (fe (put q x)) fun z => .ok (z.1, dn1 z.2)) (dn y.2)) fun z => .ok (z.1, bk y.2 z.2)) := by
  refine pe_weak (pe_lc A.calm A.nd hi ok (g := tG (A.blk (own.map (fun x : Str × Nat => x.2)) A.X.s_0 A.X.H_0 scope 0 [] []) ci G0 G1 put) (tt := tT (A.blk (own.map (fun x : Str × Nat => x.2)) A.X.s_0 A.X.H_0 scope 0 [] []) G1 (fun q => .ok (true, q))) (te := tE (A.blk (own.map (fun x : Str × Nat => x.2)) A.X.s_0 A.X.H_0 scope 0 [] []) G1 (rV ce) fe)
    (fun s H C cl fp => hg s H C cl fp) (fun s H C cl fp => pts_weak pts_nil fun o H Q ⟨p, L, w, cr, k⟩ => k L H Stp.refl w cr) (fun s H C cl fp => he s H C cl fp) hs) fun o H Q q => lc_reads (A := A) (A.blk (own.map (fun x : Str × Nat => x.2)) A.X.s_0 A.X.H_0 scope 0 [] []) rfl blk_S wc wc1 ?_
  have e : ∀ (y : List α) (b : CT G0), lcL y (fun x q => Res.bind ((fun q => Res.ok (true, q)) (put q x)) fun t => if t.1 = true then Res.bind (fe t.2) fun z => .ok (some z.1, dn1 z.2) else .ok (none, dn1 t.2)) b = mapR y (fun x q => Res.bind (fe (put q x)) fun z => .ok (z.1, dn1 z.2)) b := fun y b => by
    rw [← lcL_some]
    simp only [Res.bind_ok, Res.bind_assoc, if_true]
  simp only [e]
  exact q
end
end AC
set_option Elab.async false
set_option linter.all false
set_option maxRecDepth 100000
/-! TL7: defs: what they promise, how they are called. -/
namespace AC
open PySem L2 PyProof
/-! ### promises -/
def EndF {α : Type} (K : Frag) (ca : Str → Addr) (L : Lab) (H : Hp) (E : XK) (m : Res α) (P : α → Prop) : Prop := match m with
  | .ok y => P y
  | .exc e => ∀ cls d H', RzK K ca L H e cls d H' → E cls (some d) H'
  | .bad => False
/-- values in, a value out -/
def spP (K : Frag) (ca : Str → Addr) {α β : Type} (as : ArgC α) (r : Rt β) (F : α → Res β) : Sp := fun vs H Q E =>
  ∃ (x : α) (L : Lab), Wf L H ∧ as.see K (rd L H) vs x ∧ EndF K ca L H E (F x) fun y => ∀ (v : V) (L' : Lab) (H' : Hp), Stp L H L' H' → Wf L' H' → r.rel K L H L' H' v y → Q v H'
/-- the first argument is one's own, and is changed -/
def spI (K : Frag) (ca : Str → Addr) {κ α β : Type} (oc : OCod κ) (as : ArgC α) (r : Rt β) (F : κ → α → Res (β × κ)) : Sp := fun vs H Q E =>
  ∃ (v0 : V) (ws : List V) (k : κ) (x : α) (L : Lab), vs = v0 :: ws ∧ Wf L H ∧ oc.own K (rd L H) (sub L 1) H [] v0 k ∧ as.see K (rd L H) ws x ∧
    EndF K ca L H E (F k x) fun y => ∀ (v : V) (L' : Lab) (H' : Hp), Stp L H L' H' → Wf L' H' → r.rel K L H L' H' v y.1 → oc.own K (rd L' H') (sub L' 1) H' [] v0 y.2 → Q v H'
/-- nothing is one's own -/
def strip (L : Lab) : Lab := fun a => match L a with
  | some (0, l) => some (0, l)
  | _ => none
theorem strip_0 {L : Lab} {a : Addr} {l : List Nat} (h : L a = some (0, l)) : strip L a = some (0, l) := by unfold strip; rw [h]; rfl
theorem strip_s {L : Lab} {a : Addr} {k : Nat} {l : List Nat} (h : L a = some (k + 1, l)) : strip L a = none := by unfold strip; rw [h]; rfl
theorem strip_n {L : Lab} {a : Addr} (h : L a = none) : strip L a = none := by unfold strip; rw [h]
theorem strip_of {L : Lab} {a : Addr} {k : Nat} {l : List Nat} (h : strip L a = some (k, l)) : k = 0 ∧ L a = some (0, l) := by
  cases e : L a with
  | none => rw [strip_n e] at h; cases h
  | some x =>
    obtain ⟨j, m⟩ := x
    cases j with
    | zero => rw [strip_0 e] at h; cases h; exact ⟨rfl, rfl⟩
    | succ j => rw [strip_s e] at h; cases h
theorem rd_strip {L : Lab} {H : Hp} : rd (strip L) H = rd L H := by
  funext a
  unfold rd
  cases e : L a with
  | none => rw [strip_n e]
  | some x =>
    obtain ⟨j, m⟩ := x
    cases j with
    | zero => rw [strip_0 e]
    | succ j => rw [strip_s e]; rfl
theorem wf_strip {L : Lab} {H : Hp} (w : Wf L H) : Wf (strip L) H := ⟨fun a ha => by
  cases e : strip L a with
  | none => exact absurd e ha
  | some x =>
    obtain ⟨j, m⟩ := x
    exact w.dom a (by rw [(strip_of e).2]; simp), fun a k l e => absurd (strip_of e).1 (by omega)⟩
theorem frm_strip {L : Lab} {H : Hp} {a : Addr} (h : H a ≠ none) : Frm (strip L) H a := ⟨h, by
  cases e : strip L a with
  | none => exact .inl rfl
  | some x =>
    obtain ⟨j, m⟩ := x
    obtain ⟨rfl, _⟩ := strip_of e
    exact .inr ⟨m, rfl⟩⟩
theorem frm_to_strip {L : Lab} {H : Hp} {a : Addr} (h : Frm L H a) : Frm (strip L) H a := frm_strip h.1
theorem rz_strip {K : Frag} {ca : Str → Addr} {L : Lab} {H : Hp} {e : Exn} {cls : Value} {d : Addr} {H' : Hp} (h : RzK K ca (strip L) H e cls d H') : RzK K ca L H e cls d H' := by
  obtain ⟨h1, h2, h3, v, h4, R, h5, h6, h7, h8⟩ := h
  rw [rd_strip] at h6 h7
  exact ⟨h1, fun a f => h2 a (frm_to_strip f), fun f => h3 (frm_to_strip f), v, h4, R, h5, h6, fun a o q => (h7 a o q).imp id fun z f => z (frm_to_strip f), h8⟩
/-- behind a call: what was one's own is so again -/
def unstrip (L L' : Lab) : Lab := fun a => match L a with
  | some (k + 1, l) => some (k + 1, l)
  | _ => strip L' a
theorem un_s {L L' : Lab} {a : Addr} {k : Nat} {l : List Nat} (h : L a = some (k + 1, l)) : unstrip L L' a = some (k + 1, l) := by unfold unstrip; rw [h]
theorem un_0 {L L' : Lab} {a : Addr} {l : List Nat} (h : L a = some (0, l)) : unstrip L L' a = strip L' a := by unfold unstrip; rw [h]
theorem un_n {L L' : Lab} {a : Addr} (h : L a = none) : unstrip L L' a = strip L' a := by unfold unstrip; rw [h]
section
variable {L L' : Lab} {H H' : Hp}
theorem un_ext (w : Wf L H) (s : Stp (strip L) H L' H') : Ext L H (unstrip L L') H' := fun a ha => by
  obtain ⟨e1, e2⟩ := s a (frm_strip ha)
  refine ⟨?_, e2⟩
  cases e : L a with
  | none => rw [un_n e, strip_n (e1.trans (strip_n e))]
  | some x =>
    obtain ⟨j, m⟩ := x
    cases j with
    | zero => rw [un_0 e, strip_0 (e1.trans (strip_0 e))]
    | succ j => rw [un_s e]
theorem un_rd (w : Wf L H) (s : Stp (strip L) H L' H') : rd (unstrip L L') H' = rd L' H' := by
  funext a
  by_cases ha : H a = none
  · unfold rd
    rw [un_n (w.none ha)]
    cases e : L' a with
    | none => rw [strip_n e]
    | some x =>
      obtain ⟨j, m⟩ := x
      cases j with
      | zero => rw [strip_0 e]
      | succ j => rw [strip_s e]; rfl
  · obtain ⟨e1, e2⟩ := s a (frm_strip ha)
    unfold rd
    rw [e1, (un_ext w s a ha).1]
    cases e : L a with
    | none => rw [strip_n e]
    | some x =>
      obtain ⟨j, m⟩ := x
      cases j with
      | zero => rw [strip_0 e]
      | succ j => rw [strip_s e]; rfl
theorem un_wf (w : Wf L H) (w' : Wf L' H') (s : Stp (strip L) H L' H') : Wf (unstrip L L') H' := by
  have key : ∀ a k l, unstrip L L' a = some (k, l) → (∃ k', k = k' + 1 ∧ L a = some (k, l)) ∨ (k = 0 ∧ L' a = some (0, l)) := fun a k l e => by
    cases e' : L a with
    | none => rw [un_n e'] at e; exact .inr ⟨(strip_of e).1, (strip_of e).2⟩
    | some x =>
      obtain ⟨j, m⟩ := x
      cases j with
      | zero => rw [un_0 e'] at e; exact .inr ⟨(strip_of e).1, (strip_of e).2⟩
      | succ j => rw [un_s e'] at e; cases e; exact .inl ⟨j, rfl, rfl⟩
  refine ⟨fun a ha => ?_, fun a k l e => ?_⟩
  · cases e : unstrip L L' a with
    | none => exact absurd e ha
    | some x =>
      obtain ⟨k, l⟩ := x
      rcases key a k l e with ⟨_, _, z⟩ | ⟨_, z⟩
      · have h := w.dom a (by rw [z]; simp)
        rw [(s a (frm_strip h)).2]
        exact h
      · exact w'.dom a (by rw [z]; simp)
  · rcases key a _ l e with ⟨_, _, z⟩ | ⟨h, _⟩
    · have h := w.dom a (by rw [z]; simp)
      rw [(s a (frm_strip h)).2]
      exact w.soft a k l z
    · omega
end
/-- a result, seen from the caller -/
theorem un_rel {β : Type} {c : Cod β} {K : Frag} {L L' : Lab} {H H' : Hp} {v : V} {y : β} (w : Wf L H) (s : Stp (strip L) H L' H') (h : (rV c).rel K (strip L) H L' H' v y) : (rV c).rel K L H (unstrip L L') H' v y := by
  show c.see K (rd (unstrip L L') H') v y
  rw [un_rd w s]
  exact h
theorem un_relO {β : Type} {c : OCod β} {K : Frag} {L L' : Lab} {H H' : Hp} {v : V} {y : β} (w : Wf L H) (s : Stp (strip L) H L' H') (h : (rO c).rel K (strip L) H L' H' v y) : (rO c).rel K L H (unstrip L L') H' v y := by
  obtain ⟨M, hM, ho⟩ := h
  refine ⟨M, fun a m e => ?_, by rw [un_rd w s]; exact ho⟩
  obtain ⟨h1, h2, h3⟩ := hM a m e
  have hn : H a = none := by
    cases q : H a with
    | none => rfl
    | some o => exact absurd (frm_strip (by rw [q]; simp)) h3
  exact ⟨by rw [un_n (w.none hn), strip_n h1], h2, fun f => f.1 hn⟩
/-- results that may be handed over -/
structure RtOk {β : Type} (r : Rt β) : Prop where
  un : ∀ {K : Frag} {L L' : Lab} {H H' : Hp} {v : V} {y : β}, Wf L H → Stp (strip L) H L' H' → r.rel K (strip L) H L' H' v y → r.rel K L H (unstrip L L') H' v y
theorem rtv {β : Type} {c : Cod β} : RtOk (rV c) := ⟨un_rel⟩
theorem rto {β : Type} {c : OCod β} : RtOk (rO c) := ⟨un_relO⟩
/-! ### calls -/
/-- f may be called here -/
def CallAt (A : Amb) (f : Addr) (sp : Sp) : Prop := ∀ (pins : List (Addr × Obj)) (o : St) (H : Hp) (s : Shared) (Q : VK) (us : List Value) (vs : List V), Inv A.X pins o H s → Vals vs us → sp vs H Q (WE A.W o) →
  wpAny (model A.X.prog A.X.w) A.X.A (call (.ref f) us) (EP A.X pins o Q) A.X.xe s
/-- a def's promise where no repr is under way -/
structure FnG (P : Program) (w : World) (K : Frag) (mg : Str → Option Value) (base : Heap) (k : Nat) (f : Addr) (fd : FuncData) (ps : List Str) (sp : Sp) : Prop where
  len : ∀ vs H Q E, sp vs H Q E → vs.length = ps.length
  go : ∀ (B : Around) (up : List Env) (s : Shared) (H : Hp) (args : Args) (us : List Value) (vs : List V) (Q : VK) (E : XK), B.guards = some [] → Room k B → Env0 P w K mg base B up s H → BindsTo s fd args (ps.zip us) → Vals vs us → sp vs H Q E →
    codeAny (model P w) B (.call (.ref f) args) (L2.CR (L2.CX P w) up P w H s Q E) s
theorem FnG.mono {P : Program} {w : World} {K : Frag} {mg : Str → Option Value} {base : Heap} {j k : Nat} {f : Addr} {fd : FuncData} {ps : List Str} {sp : Sp} (F : FnG P w K mg base j f fd ps sp) (h : j ≤ k) : FnG P w K mg base k f fd ps sp :=
  ⟨F.len, fun B up s H args us vs Q E hg hr => F.go B up s H args us vs Q E hg (hr.mono h)⟩
theorem callAtK {A : Amb} {k : Nat} {f : Addr} {fd : FuncData} {ps : List Str} {sp : Sp} (F : FnG A.X.prog A.X.w A.X.K A.X.mg A.X.base k f fd ps sp) (hk : k ≤ A.lv) {pins : List (Addr × Obj)} {o : St} {H : Hp} {s : Shared} {Q : VK} {us ws : List Value} {vs : List V} {kw : List (Str × Value)}
    (I : Inv A.X pins o H s) (hb : BindsTo s fd ⟨us, kw⟩ (ps.zip ws)) (r : Vals vs ws) (h : sp vs H Q (WE A.W o)) : wpAny (model A.X.prog A.X.w) A.X.A (call (.ref f) us kw) (EP A.X pins o Q) A.X.xe s := by
  refine wpAny_call (codeAny_mono (F.go A.X.A A.X.stack s H ⟨us, kw⟩ ws vs Q _ A.gd (A.room.mono hk) I.env0 hb r h) fun y s' hq => ?_)
  rcases y with e | fl
  · exact passAt A.tk o pins H s e s' I hq
  · rcases fl with _ | _ | _ | u
    · exact False.elim hq
    · exact False.elim hq
    · exact False.elim hq
    · exact I.after hq
theorem callAt {A : Amb} {k : Nat} {f : Addr} {fd : FuncData} {ps : List Str} {sp : Sp} (F : FnG A.X.prog A.X.w A.X.K A.X.mg A.X.base k f fd ps sp) (hb : Binds A.X.K fd ps []) (hk : k ≤ A.lv) : CallAt A f sp :=
  fun pins o H s Q us vs I r h => by
    have hl : us.length = ps.length := r.length.symm.trans (F.len _ _ _ _ h)
    have b := hb s us I.kIn ((congrArg List.length (List.append_nil us)).trans hl)
    rw [List.append_nil] at b
    exact callAtK F hk I b r h
/-- a global name that stands for a def -/
structure GlobF (A : Amb) (x : Str) (f : Addr) : Prop where
  gl : Gl A.X x
  mg : A.X.mg x = some (.ref f)
  kp : PySem.W.keepIn A.X.K (.ref f) = true
section
variable {A : Amb} {G : Ctx}
theorem call_reads {α β : Type} {as : ArgC α} {r : Rt β} {F : α → Res β} {fa : CT G → Res (α × CT G)} {o : St} {H : Hp} {Q : VK} (hr : RtOk r)
    (q : tE A G r (fun p => Res.bind (fa p) fun y => Res.bind (F y.1) fun z => .ok (z, y.2)) o H Q) : tA A G as fa o H fun vs H1 => spP A.X.K A.ca as r F vs H1 Q (WE A.W o) := by
  obtain ⟨p, L, w, cr, k⟩ := q
  refine ⟨p, L, w, cr, k.bind.imp fun y _ gy vs L1 H1 s1 w1 c1 h1 => ⟨y.1, strip L1, wf_strip w1, by rw [rd_strip]; exact h1, ?_⟩⟩
  have gy := gy.step s1
  cases e : F y.1 with
  | bad => rw [e] at gy; exact gy.elim
  | exc ex =>
    rw [e] at gy
    exact fun cls d H' hz => (show A.raises ex L1 H1 o from gy) cls d H' (rz_strip hz) o fun _ _ => rfl
  | ok z =>
    rw [e] at gy
    exact fun v L2 H2 s2 w2 rl => (show ∀ v L' H', _ from gy) v (unstrip L1 L2) H2 (s1.trans (un_ext w1 s2).stp) (un_wf w1 w2 s2) (c1.ext w1 (un_ext w1 s2)) (r.pre _ _ _ _ _ _ _ _ _ s1 (hr.un w1 s2 rl))
theorem ex_call {α β : Type} {as : ArgC α} {r : Rt β} {F : α → Res β} {f : Addr} {x : Str} {p pos : Pos} {e : Expr} {es : List Expr} {fa : CT G → Res (α × CT G)} (hg : GlobF A x f) (hc : CallAt A f (spP A.X.K A.ca as r F)) (hr : RtOk r) (ha : AX A G (e :: es) as fa)
    (hdb : (x == ("__debug__" : Str)) = false := by decide) (he : starEach (e :: es) A.X.env = (false, eval e A.X.env) :: starEach es A.X.env := by rfl) (hpl : (backTo pos (starEach es A.X.env)).any (·.1) = false := by rfl) :
    EX A G (.Call (.Name x p) (e :: es) [] pos) r (fun p => Res.bind (fa p) fun y => Res.bind (F y.1) fun z => .ok (z, y.2)) := by
  refine ⟨fun pins s o H Q I q => wpAny_Call_Name_kw (ld_glob I hg.gl hg.mg (PySem.W.callWith_K (h₀ := A.X.base) I.ok.mod.kin hg.kp ?_ he hpl) hdb)⟩
  exact thn (ha.run pos pins s o H _ I (call_reads hr q)) fun us s1 hu => by
    obtain ⟨vs, H1, I1, hv, hsp⟩ := hu
    exact ⟨I1.kIn, hc pins o H1 s1 Q us vs I1 hv hsp⟩
/-! ### the first argument is one's own -/
/-- the i-th slot's own things become the first argument's -/
def lend1 (i : Nat) (L : Lab) : Lab := fun a => match L a with
  | none => none
  | some (k, l) => if k = 0 then some (0, l) else if k = i + 1 then some (1, l) else none
def tr1 (i : Nat) : Option (Nat × List Nat) → Option (Nat × List Nat)
  | none => none
  | some (k, l) => if k = 0 then some (0, l) else if k = 1 then some (i + 1, l) else none
def back1 (i : Nat) (L L' : Lab) : Lab := fun a => match L a with
  | none => tr1 i (L' a)
  | some (k, l) => if k = 0 ∨ k = i + 1 then tr1 i (L' a) else some (k, l)
section
variable {i : Nat} {L L' : Lab} {H H' : Hp}
theorem lend1_n {a : Addr} (h : L a = none) : lend1 i L a = none := by unfold lend1; rw [h]
theorem lend1_0 {a : Addr} {l : List Nat} (h : L a = some (0, l)) : lend1 i L a = some (0, l) := by unfold lend1; rw [h]; exact if_pos rfl
theorem lend1_i {a : Addr} {l : List Nat} (h : L a = some (i + 1, l)) : lend1 i L a = some (1, l) := by
  unfold lend1
  rw [h]
  show (if i + 1 = 0 then _ else if i + 1 = i + 1 then some (1, l) else none) = _
  rw [if_neg (by omega), if_pos rfl]
theorem lend1_o {a : Addr} {k : Nat} {l : List Nat} (h : L a = some (k, l)) (h0 : k ≠ 0) (hi : k ≠ i + 1) : lend1 i L a = none := by
  unfold lend1
  rw [h]
  show (if k = 0 then _ else if k = i + 1 then some (1, l) else none) = _
  rw [if_neg h0, if_neg hi]
/-- the four cases -/
theorem lend1_cases (a : Addr) : (L a = none ∧ lend1 i L a = none) ∨ (∃ l, L a = some (0, l) ∧ lend1 i L a = some (0, l)) ∨ (∃ l, L a = some (i + 1, l) ∧ lend1 i L a = some (1, l)) ∨ (∃ k l, k ≠ 0 ∧ k ≠ i + 1 ∧ L a = some (k, l) ∧ lend1 i L a = none) := by
  cases e : L a with
  | none => exact .inl ⟨rfl, lend1_n e⟩
  | some x =>
    obtain ⟨k, l⟩ := x
    by_cases h0 : k = 0
    · subst h0; exact .inr (.inl ⟨l, rfl, lend1_0 e⟩)
    · by_cases hi : k = i + 1
      · subst hi; exact .inr (.inr (.inl ⟨l, rfl, lend1_i e⟩))
      · exact .inr (.inr (.inr ⟨k, l, h0, hi, rfl, lend1_o e h0 hi⟩))
theorem rd_lend1 : rd (lend1 i L) H = rd L H := by
  funext a
  unfold rd
  rcases lend1_cases (i := i) (L := L) a with ⟨e1, e2⟩ | ⟨l, e1, e2⟩ | ⟨l, e1, e2⟩ | ⟨k, l, h0, hi, e1, e2⟩
  · rw [e1, e2]
  · rw [e1, e2]
  · rw [e1, e2]; rfl
  · rw [e1, e2]
    cases k with
    | zero => exact absurd rfl h0
    | succ k => rfl
theorem wf_lend1 (w : Wf L H) : Wf (lend1 i L) H := by
  refine ⟨fun a ha => ?_, fun a k l e => ?_⟩
  · rcases lend1_cases (i := i) (L := L) a with ⟨e1, e2⟩ | ⟨l, e1, e2⟩ | ⟨l, e1, e2⟩ | ⟨k, l, h0, hi, e1, e2⟩
    · exact absurd e2 ha
    · exact w.dom a (by rw [e1]; simp)
    · exact w.dom a (by rw [e1]; simp)
    · exact absurd e2 ha
  · rcases lend1_cases (i := i) (L := L) a with ⟨e1, e2⟩ | ⟨l', e1, e2⟩ | ⟨l', e1, e2⟩ | ⟨k', l', h0, hi, e1, e2⟩
    · rw [e2] at e; cases e
    · rw [e2] at e; cases e
    · rw [e2] at e; cases e; exact w.soft a i l e1
    · rw [e2] at e; cases e
theorem sub_lend1 : sub (lend1 i L) 1 = sub L (i + 1) := by
  funext a
  unfold sub
  rcases lend1_cases (i := i) (L := L) a with ⟨e1, e2⟩ | ⟨l, e1, e2⟩ | ⟨l, e1, e2⟩ | ⟨k, l, h0, hi, e1, e2⟩
  · rw [e1, e2]
  · rw [e1, e2]; simp
  · rw [e1, e2]; simp
  · rw [e1, e2]; simp [hi]
theorem frm_lend1 {a : Addr} (f : Frm L H a) : Frm (lend1 i L) H a ∧ lend1 i L a = L a := by
  rcases lend1_cases (i := i) (L := L) a with ⟨e1, e2⟩ | ⟨l, e1, e2⟩ | ⟨l, e1, e2⟩ | ⟨k, l, h0, hi, e1, e2⟩
  · exact ⟨⟨f.1, .inl e2⟩, e2.trans e1.symm⟩
  · exact ⟨⟨f.1, .inr ⟨l, e2⟩⟩, e2.trans e1.symm⟩
  · rcases f.2 with z | ⟨l', z⟩
    · rw [e1] at z; cases z
    · rw [e1] at z; cases z
  · rcases f.2 with z | ⟨l', z⟩
    · rw [e1] at z; cases z
    · rw [e1] at z; cases z; exact absurd rfl h0
theorem frm_lend1o (w : Wf L H) {a : Addr} {k : Nat} {l : List Nat} (h : L a = some (k, l)) (h0 : k ≠ 0) (hi : k ≠ i + 1) : Frm (lend1 i L) H a := ⟨w.dom a (by rw [h]; simp), .inl (lend1_o h h0 hi)⟩
theorem back1_o {a : Addr} {k : Nat} {l : List Nat} (h : L a = some (k, l)) (h0 : k ≠ 0) (hi : k ≠ i + 1) : back1 i L L' a = some (k, l) := by
  unfold back1
  rw [h]
  show (if k = 0 ∨ k = i + 1 then _ else some (k, l)) = _
  rw [if_neg (by omega)]
theorem back1_t {a : Addr} (h : ∀ k l, L a = some (k, l) → k = 0 ∨ k = i + 1) : back1 i L L' a = tr1 i (L' a) := by
  unfold back1
  cases e : L a with
  | none => rfl
  | some x =>
    obtain ⟨k, l⟩ := x
    exact if_pos (h k l e)
theorem tr1_0 {l : List Nat} : tr1 i (some (0, l)) = some (0, l) := by simp [tr1]
theorem tr1_1 {l : List Nat} : tr1 i (some (1, l)) = some (i + 1, l) := by simp [tr1]
theorem tr1_some {y : Option (Nat × List Nat)} {k : Nat} {l : List Nat} (h : tr1 i y = some (k, l)) : (k = 0 ∧ y = some (0, l)) ∨ (k = i + 1 ∧ y = some (1, l)) := by
  cases y with
  | none => cases h
  | some x =>
    obtain ⟨j, m⟩ := x
    have h : (if j = 0 then some (0, m) else if j = 1 then some (i + 1, m) else none) = some (k, l) := h
    by_cases h0 : j = 0
    · rw [if_pos h0] at h; cases h; exact .inl ⟨rfl, by rw [h0]⟩
    · rw [if_neg h0] at h
      by_cases h1 : j = 1
      · rw [if_pos h1] at h; cases h; exact .inr ⟨rfl, by rw [h1]⟩
      · rw [if_neg h1] at h; cases h
/-- either another slot's own, as it was; or as the callee left it -/
theorem back1_cases (w : Wf L H) (s : Stp (lend1 i L) H L' H') (a : Addr) : (∃ k l, k ≠ 0 ∧ k ≠ i + 1 ∧ L a = some (k, l) ∧ back1 i L L' a = some (k, l) ∧ L' a = none ∧ H' a = H a) ∨ ((∀ k l, L a = some (k, l) → k = 0 ∨ k = i + 1) ∧ back1 i L L' a = tr1 i (L' a)) := by
  by_cases h : ∀ k l, L a = some (k, l) → k = 0 ∨ k = i + 1
  · exact .inr ⟨h, back1_t h⟩
  · have : ∃ k l, L a = some (k, l) ∧ ¬ (k = 0 ∨ k = i + 1) := by
      cases e : L a with
      | none => exact absurd (fun k l z => by rw [e] at z; cases z) h
      | some x =>
        obtain ⟨k, l⟩ := x
        refine ⟨k, l, rfl, fun q => h fun k' l' z => ?_⟩
        rw [e] at z; cases z; exact q
    obtain ⟨k, l, e, hk⟩ := this
    have f := frm_lend1o (i := i) w e (by omega) (by omega)
    exact .inl ⟨k, l, by omega, by omega, e, back1_o e (by omega) (by omega), (s a f).1.trans (lend1_o e (by omega) (by omega)), (s a f).2⟩
theorem rd_back1 (w : Wf L H) (s : Stp (lend1 i L) H L' H') : rd (back1 i L L') H' = rd L' H' := by
  funext a
  unfold rd
  rcases back1_cases w s a with ⟨k, l, h0, hi, e1, e2, e3, e4⟩ | ⟨h, e2⟩
  · rw [e2, e3]
    cases k with
    | zero => exact absurd rfl h0
    | succ k => rfl
  · rw [e2]
    cases e : L' a with
    | none => rfl
    | some x =>
      obtain ⟨j, m⟩ := x
      cases j with
      | zero => rw [tr1_0]
      | succ j =>
        cases q : tr1 i (some (j + 1, m)) with
        | none => rfl
        | some y =>
          obtain ⟨k, l⟩ := y
          rcases tr1_some q with ⟨rfl, z⟩ | ⟨rfl, z⟩
          · cases z
          · rfl
theorem wf_back1 (w : Wf L H) (w' : Wf L' H') (s : Stp (lend1 i L) H L' H') : Wf (back1 i L L') H' := by
  refine ⟨fun a ha => ?_, fun a k l e => ?_⟩
  · rcases back1_cases w s a with ⟨k, l, h0, hi, e1, e2, e3, e4⟩ | ⟨h, e2⟩
    · rw [e4]; exact w.dom a (by rw [e1]; simp)
    · refine w'.dom a fun z => ha ?_
      rw [e2, z]; rfl
  · rcases back1_cases w s a with ⟨k', l', h0, hi, e1, e2, e3, e4⟩ | ⟨h, e2⟩
    · rw [e2] at e; cases e; rw [e4]; exact w.soft a k l e1
    · rw [e2] at e
      rcases tr1_some e with ⟨z, _⟩ | ⟨_, z⟩
      · omega
      · exact w'.soft a 0 l z
theorem stp_back1 (w : Wf L H) (s : Stp (lend1 i L) H L' H') : Stp L H (back1 i L L') H' := fun a f => by
  obtain ⟨f1, e1⟩ := frm_lend1 (i := i) f
  obtain ⟨e2, e3⟩ := s a f1
  refine ⟨?_, e3⟩
  rw [back1_t fun k l e => ?_, e2, e1]
  · rcases f.2 with z | ⟨l, z⟩
    · rw [z]; rfl
    · rw [z, tr1_0]
  · rcases f.2 with z | ⟨l, z⟩
    · rw [z] at e; cases e
    · rw [z] at e; cases e; exact .inl rfl
theorem sub_back1 (w : Wf L H) (s : Stp (lend1 i L) H L' H') {a : Addr} {m : List Nat} (h : sub L' 1 a = some m) : sub (back1 i L L') (i + 1) a = some m := by
  have e := sub_of h
  rcases back1_cases w s a with ⟨k', l', h0, hi, e1, e2, e3, e4⟩ | ⟨_, e2⟩
  · rw [e3] at e; cases e
  · exact sub_mk (by rw [e2, e, tr1_1])
end
theorem rel_back1 {β : Type} {c : Cod β} {K : Frag} {i : Nat} {L L' : Lab} {H H' : Hp} {v : V} {y : β} (w : Wf L H) (s : Stp (lend1 i L) H L' H') (h : (rV c).rel K (lend1 i L) H L' H' v y) : (rV c).rel K L H (back1 i L L') H' v y := by
  show c.see K (rd (back1 i L L') H') v y
  rw [rd_back1 w s]
  exact h
structure RtOkI {β : Type} (r : Rt β) : Prop where
  un : ∀ {K : Frag} {i : Nat} {L L' : Lab} {H H' : Hp} {v : V} {y : β}, Wf L H → Stp (lend1 i L) H L' H' → r.rel K (lend1 i L) H L' H' v y → r.rel K L H (back1 i L L') H' v y
theorem rtvI {β : Type} {c : Cod β} : RtOkI (rV c) := ⟨rel_back1⟩
theorem rz_lend1 {K : Frag} {ca : Str → Addr} {i : Nat} {L : Lab} {H : Hp} {e : Exn} {cls : Value} {d : Addr} {H' : Hp} (h : RzK K ca (lend1 i L) H e cls d H') : RzK K ca L H e cls d H' := by
  obtain ⟨h1, h2, h3, v, h4, R, h5, h6, h7, h8⟩ := h
  rw [rd_lend1] at h6 h7
  exact ⟨h1, fun a f => h2 a (frm_lend1 f).1, fun f => h3 (frm_lend1 f).1, v, h4, R, h5, h6, fun a o q => (h7 a o q).imp id fun z f => z (frm_lend1 f).1, h8⟩
structure Mod (G : Ctx) (i : Nat) (s : Slot) (put : CT G → s.T → CT G) : Prop where
  ok : ∀ (K : Frag) (k : Nat) (p : CT G) (x : s.T) (L : Lab) (H : Hp) (L' : Lab) (H' : Hp) (o : St), CR K k G p L H o → Same (rd L H) (rd L' H') → (∀ a j l, k ≤ j → j ≠ k + i → L a = some (j + 1, l) → L' a = L a ∧ H' a = H a) → s.rel K (k + i) x L' H' o[k + i]? → CR K k G (put p x) L' H' o
theorem md_z {G : Ctx} {s : Slot} : Mod (s :: G) 0 s (fun p x => (x, p.2)) := ⟨fun K k p x L H L' H' o c sm h r => ⟨r, c.2.keep sm fun a j l hj e => h a j l (by omega) (by omega) e⟩⟩
theorem md_s {G : Ctx} {i : Nat} {s t : Slot} {put : CT G → s.T → CT G} (h : Mod G i s put) : Mod (t :: G) (i + 1) s (fun p x => (p.1, put p.2 x)) := ⟨fun K k p x L H L' H' o c sm hk r => by
  rw [show k + (i + 1) = k + 1 + i by omega] at r hk
  exact ⟨t.keep K k p.1 L H L' H' _ sm (fun a l e => hk a k l (Nat.le_refl _) (by omega) e) c.1, h.ok K (k + 1) p.2 x L H L' H' o c.2 sm (fun a j l hj hn e => hk a j l (by omega) hn e) r⟩⟩
theorem callI_reads {α β κ : Type} {as : ArgC α} {oc : OCod κ} {P : V → Prop} {r : Rt β} {F : κ → α → Res (β × κ)} {i : Nat} {g : CT G → κ} {put : CT G → κ → CT G} {fa : CT G → Res (α × CT G)} {o : St} {H : Hp} {Q : VK} (a : At G i (sOwn P oc) g) (m : Mod G i (sOwn P oc) put) (hr : RtOkI r)
    (q : tE A G r (fun p => Res.bind (fa p) fun y => Res.bind (F (g y.2) y.1) fun z => .ok (z.1, put y.2 z.2)) o H Q) : tCons (tVar i) (tA A G as fa) o H fun vs H1 => spI A.X.K A.ca oc as r F vs H1 Q (WE A.W o) := by
  obtain ⟨p, L, w, cr, k⟩ := q
  obtain ⟨v0, _, ev, _⟩ := a.ok _ _ _ _ _ _ cr
  rw [Nat.zero_add] at ev
  refine ⟨v0, ev, p, L, w, cr, k.bind.imp fun y _ gy vs L1 H1 s1 w1 c1 h1 => ?_⟩
  obtain ⟨v1, hP, ev1, ho⟩ := a.ok _ _ _ _ _ _ c1
  rw [Nat.zero_add] at ev1 ho
  rw [ev] at ev1
  cases ev1
  refine ⟨v0, vs, g y.2, y.1, lend1 i L1, rfl, wf_lend1 w1, by rw [rd_lend1, sub_lend1]; exact ho, by rw [rd_lend1]; exact h1, ?_⟩
  have gy := gy.step s1
  cases e : F (g y.2) y.1 with
  | bad => rw [e] at gy; exact gy.elim
  | exc ex =>
    rw [e] at gy
    exact fun cls d H' hz => (show A.raises ex L1 H1 o from gy) cls d H' (rz_lend1 hz) o fun _ _ => rfl
  | ok z =>
    rw [e] at gy
    intro v L2 H2 s2 w2 rl oc2
    have sb := stp_back1 w1 s2
    refine (show ∀ v L' H', _ from gy) v (back1 i L1 L2) H2 (s1.trans sb) (wf_back1 w1 w2 s2) (m.ok _ _ _ _ _ _ _ _ _ c1 sb.rd (fun x j l hj hn ex => ?_) ⟨v0, hP, by rw [Nat.zero_add]; exact ev, ?_⟩) (r.pre _ _ _ _ _ _ _ _ _ s1 (hr.un w1 s2 rl))
    · rcases back1_cases w1 s2 x with ⟨k', l', h0, hi, e1, e2, e3, e4⟩ | ⟨h, _⟩
      · rw [ex] at e1; cases e1; exact ⟨e2.trans ex.symm, e4⟩
      · have := h _ _ ex
        omega
    · rw [Nat.zero_add]
      exact oc.mono _ _ _ _ _ _ _ _ _ _ (by rw [rd_back1 w1 s2]; exact fun _ _ z => z) (fun x m' hm => ⟨sub_back1 w1 s2 hm, rfl⟩) oc2
theorem ex_callI {α β κ : Type} {as : ArgC α} {oc : OCod κ} {P : V → Prop} {r : Rt β} {F : κ → α → Res (β × κ)} {i : Nat} {g : CT G → κ} {put : CT G → κ → CT G} {f : Addr} {x y : Str} {p p1 pos : Pos} {es : List Expr} {fa : CT G → Res (α × CT G)} (a : At G i (sOwn P oc) g) (m : Mod G i (sOwn P oc) put)
    (hg : GlobF A x f) (hc : CallAt A f (spI A.X.K A.ca oc as r F)) (hr : RtOkI r) (hN : A.X.N[i]? = some y) (hv : Vis A.X.env.scope y) (ha : AX A G es as fa)
    (hd : (y == ("__debug__" : Str)) = false := by decide) (hcd : (y == ("__classdict__" : Str)) = false := by decide) (hdb : (x == ("__debug__" : Str)) = false := by decide) (he : starEach (.Name y p1 :: es) A.X.env = (false, eval (.Name y p1) A.X.env) :: starEach es A.X.env := by rfl) (hpl : (backTo pos (starEach es A.X.env)).any (·.1) = false := by rfl) :
    EX A G (.Call (.Name x p) (.Name y p1 :: es) [] pos) r (fun p => Res.bind (fa p) fun y => Res.bind (F (g y.2) y.1) fun z => .ok (z.1, put y.2 z.2)) := by
  refine ⟨fun pins s o H Q I q => wpAny_Call_Name_kw (ld_glob I hg.gl hg.mg (PySem.W.callWith_K (h₀ := A.X.base) I.ok.mod.kin hg.kp ?_ he hpl) hdb)⟩
  exact thn ((pa_cons (pe_var hN hv hd hcd) ha he).run pos pins s o H _ I (callI_reads a m hr q)) fun us s1 hu => by
    obtain ⟨vs, H1, I1, hvs, hsp⟩ := hu
    exact ⟨I1.kIn, hc pins o H1 s1 Q us vs I1 hvs hsp⟩
end
end AC
set_option Elab.async false
set_option linter.all false
set_option maxRecDepth 100000
/-! TL8: a def keeps its promise, by its body. -/
namespace AC
open PySem L2 PyProof PyProof.Rows
section
variable {P : Program} {w : World} {K : Frag} {mg : Str → Option Value} {base : Heap}
/-- the surroundings of a def's body -/
def ambOf (P : Program) (w : World) (K : Frag) (mg : Str → Option Value) (base : Heap) (ca : Str → Addr) (N : List Str) (nd : N.Nodup) (lv : Nat) (qual : Str) (scope : Scope) (f : Addr) (cd : Value) (A : Around) (outer : List Env) (s : Shared) (H : Hp) (E : XK)
    (hr : Room lv (A.deeper (envOfC qual scope s.heap.objs.size f cd))) (hgd : A.guards = some []) : Amb where
  X := cxOf (L2.CX P w) P w K mg base N qual scope f cd A outer s H E
  W := fun cls d _ H => E cls d H
  tk := takes_of rfl rfl rfl rfl
  calm := rfl
  hp := passes_of rfl
  nd := nd
  ca := ca
  S := fun _ => True
  lv := lv
  room := hr
  gd := hgd
def endV {β ρ : Type} : Out β ρ → Res ρ
  | .rt r => .ok r
  | .nx _ => .bad
def endU {β : Type} : Out β Unit → Res Unit
  | .rt r => .ok r
  | .nx _ => .ok ()
variable {x qual : Str} {params : Arguments} {body : List Stmt} {scope : Scope} {dvs : List V} {kws : List (Str × V)} {f : Addr} {fd : FuncData} {N ps : List Str} {k : Nat} {ca : Str → Addr}
/-- a def keeps its promise, by its body, where no repr is under way -/
theorem fn_G {sp : Sp} (F0 : FunD K x qual params body scope dvs kws f fd) (S : FnScope N ps scope) (hlen : ∀ vs H Q E, sp vs H Q E → vs.length = ps.length)
    (hbody : ∀ (cd : Value) (B : Around) (up : List Env) (s : Shared) (H : Hp) (vs : List V) (Q : VK) (E : XK), B.guards = some [] → Room k (B.deeper (envOfC qual scope s.heap.objs.size f cd)) → sp vs H Q E →
      ∃ t, PSs (cxOf (L2.CX P w) P w K mg base N qual scope f cd B up s H E) body t ∧ t ⟨fun _ H' => Q .non H', Q, fun _ _ => False, fun _ _ => False⟩ (start N vs) H) : FnG P w K mg base (k + 1) f fd ps sp := by
  obtain ⟨oc, od, dV, kV, doc, pm, an, cd, ct, osl, e0, lk, hcd, _, _⟩ := F0.ex
  subst e0
  refine ⟨hlen, fun B up s H args us vs Q E hgd hr e0 hb rv hsp => ?_⟩
  have kin : K.In s.heap := e0.mod.kin.keeps fun b o e => (e0.bs b o e).1
  have nol : s.heap.NoLimit := e0.mod.nolimit.keeps fun b o e => (e0.bs b o e).1
  have kinds : ∀ z ∈ ps.zip us, scope.names.lookup z.1 = some .local ∨ (scope.names.lookup z.1 = some .cell ∧ ((cellsFrom (s.heap.objs.size + 1) scope.names []).lookup z.1).isSome = true) := fun z hz =>
    (S.par z.1 (List.of_mem_zip (show (z.1, z.2) ∈ _ from hz)).1).imp id fun q => ⟨q, PySem.W.cellsFrom_some _ _ _ (Or.inl q)⟩
  refine codeAny_call_function hr.depth (kin _ _ lk) rfl S.co S.gen rfl (PySem.W.codeRec_of kin hcd) (hb _ _ _ _ ?_)
  refine wpAny_newFunctionEnv_cells S.kind kinds fun env he s1 x => ?_
  subst he
  refine ⟨nol.keeps x.toInCall.keep, codeAny_func ?_⟩
  obtain ⟨t, ht, hq⟩ := hbody cd B up s H vs Q E hgd (hr.deeper _) hsp
  refine wpAny_mono (ht.run [] s1 (start N vs) H _ (inv_start S hr.hd e0 (hlen _ _ _ _ hsp) rv x) hq) (fun fl s' hs => ?_) fun e s' hs => hs
  have done : ∀ (o' : L2.St) (H' : Hp) (v : V) (u : Value), Inv (cxOf (L2.CX P w) P w K mg base N qual scope f cd B up s H E) [] o' H' s' → RelV v u → Q v H' → CE up P w H s Q u s' := fun o' H' v u J r q => ⟨v, H', J.os, J.bare, J.base, J.hok, r, q⟩
  rcases fl with _ | _ | _ | u
  · obtain ⟨o', H', J, q⟩ := hs
    exact done o' H' .non .none J rfl q
  · obtain ⟨_, _, _, q⟩ := hs
    exact q.elim
  · obtain ⟨_, _, _, q⟩ := hs
    exact q.elim
  · obtain ⟨v, o', H', J, r, q⟩ := hs
    exact done o' H' v u J r q
theorem fn_P {α β : Type} {as : ArgC α} {r : Rt β} {G0 G' : Ctx} {ini : α → CT G0} {fb : CT G0 → Res (Out (CT G') β)} {F : α → Res β} (F0 : FunD K x qual params body scope dvs kws f fd) (S : FnScope N ps scope) (hn : as.n = ps.length)
    (h0 : ∀ L H vs y, Wf L H → as.see K (rd L H) vs y → CR K 0 G0 (ini y) L H (start N vs))
    (hB : ∀ nd cd A outer s H E hr hgd, BX (ambOf P w K mg base ca N nd k qual scope f cd A outer s H E hr hgd) G0 body G' (rrP r) fb) (hF : ∀ y, F y = Res.bind (fb (ini y)) endV) : FnG P w K mg base (k + 1) f fd ps (spP K ca as r F) := by
  refine fn_G F0 S (fun vs H Q E ⟨y, L, _, h, _⟩ => by rw [as.len _ _ _ _ h, hn]) fun cd A outer s H vs Q E hgd hr ⟨y, L, wf, h, q⟩ => ⟨_, hB S.nd cd A outer s H E hr hgd, ini y, L, wf, h0 L H vs y wf h, ?_⟩
  rw [hF y] at q
  cases e : fb (ini y) with
  | bad => rw [e] at q; exact q.elim
  | exc ex =>
    rw [e] at q
    exact fun cls d H' hz o' _ => (show ∀ cls d H', _ from q) cls d H' hz
  | ok z =>
    rw [e] at q
    cases z with
    | rt y' => exact fun v L' H' st w' rl => (show ∀ v L' H', _ from q) v L' H' st w' rl
    | nx p' => exact q.elim
theorem fn_U {α : Type} {as : ArgC α} {G0 G' : Ctx} {ini : α → CT G0} {fb : CT G0 → Res (Out (CT G') Unit)} {F : α → Res Unit} (F0 : FunD K x qual params body scope dvs kws f fd) (S : FnScope N ps scope) (hn : as.n = ps.length)
    (h0 : ∀ L H vs y, Wf L H → as.see K (rd L H) vs y → CR K 0 G0 (ini y) L H (start N vs))
    (hB : ∀ nd cd A outer s H E hr hgd, BX (ambOf P w K mg base ca N nd k qual scope f cd A outer s H E hr hgd) G0 body G' (rrP (rV cN)) fb) (hF : ∀ y, F y = Res.bind (fb (ini y)) endU) : FnG P w K mg base (k + 1) f fd ps (spP K ca as (rV cN) F) := by
  refine fn_G F0 S (fun vs H Q E ⟨y, L, _, h, _⟩ => by rw [as.len _ _ _ _ h, hn]) fun cd A outer s H vs Q E hgd hr ⟨y, L, wf, h, q⟩ => ⟨_, hB S.nd cd A outer s H E hr hgd, ini y, L, wf, h0 L H vs y wf h, ?_⟩
  rw [hF y] at q
  cases e : fb (ini y) with
  | bad => rw [e] at q; exact q.elim
  | exc ex =>
    rw [e] at q
    exact fun cls d H' hz o' _ => (show ∀ cls d H', _ from q) cls d H' hz
  | ok z =>
    rw [e] at q
    cases z with
    | rt y' => exact fun v L' H' st w' rl => (show ∀ v L' H', _ from q) v L' H' st w' rl
    | nx p' => exact fun o' L' H' st w' _ _ => (show ∀ v L' H', _ from q) .non L' H' st w' rfl
theorem fn_I {α β κ : Type} {oc : OCod κ} {as : ArgC α} {r : Rt β} {G1 : Ctx} {G' : V → Ctx} {ini : α → CT G1} {fb : (v0 : V) → κ × CT G1 → Res (Out (CT (G' v0)) (β × κ))} {F : κ → α → Res (β × κ)} (F0 : FunD K x qual params body scope dvs kws f fd) (S : FnScope N ps scope) (hn : as.n + 1 = ps.length)
    (h0 : ∀ L H v0 ws y, Wf L H → as.see K (rd L H) ws y → CR K 1 G1 (ini y) L H (start N (v0 :: ws)))
    (hB : ∀ v0 nd cd A outer s H E hr hgd, BX (ambOf P w K mg base ca N nd k qual scope f cd A outer s H E hr hgd) (sOwn (fun v => v = v0) oc :: G1) body (G' v0) (rrI r oc v0) (fb v0)) (hF : ∀ v0 k y, F k y = Res.bind (fb v0 (k, ini y)) endV) : FnG P w K mg base (k + 1) f fd ps (spI K ca oc as r F) := by
  refine fn_G F0 S (fun vs H Q E ⟨v0, ws, kk, y, L, e, _, _, h, _⟩ => by rw [e, List.length_cons, as.len _ _ _ _ h, hn]) fun cd A outer s H vs Q E hgd hr ⟨v0, ws, kk, y, L, e, wf, ho, h, q⟩ => ?_
  subst e
  refine ⟨_, hB v0 S.nd cd A outer s H E hr hgd, (kk, ini y), L, wf, ⟨⟨v0, rfl, rfl, ho⟩, h0 L H v0 ws y wf h⟩, ?_⟩
  rw [hF v0 kk y] at q
  cases e : fb v0 (kk, ini y) with
  | bad => rw [e] at q; exact q.elim
  | exc ex =>
    rw [e] at q
    exact fun cls d H' hz o' _ => (show ∀ cls d H', _ from q) cls d H' hz
  | ok z =>
    rw [e] at q
    cases z with
    | rt y' => exact fun v L' H' st w' rl => (show ∀ v L' H', _ from q) v L' H' st w' rl.1 rl.2
    | nx p' => exact q.elim
end
end AC
set_option Elab.async false
set_option linter.all false
set_option maxRecDepth 100000
/-! TL9: one's own things are read for a while (lent). -/
namespace AC
open PySem L2 PyProof
/-- known whatever lists and dicts are forgotten -/
def HardC {α : Type} (c : Cod α) : Prop := ∀ K R1 R2 v x, (∀ a o, R1 a = some o → ¬ SoftO o → R2 a = some o) → c.see K R1 v x → c.see K R2 v x
def HardA {α : Type} (c : ArgC α) : Prop := ∀ K R1 R2 v x, (∀ a o, R1 a = some o → ¬ SoftO o → R2 a = some o) → c.see K R1 v x → c.see K R2 v x
def HardO {α : Type} (c : OCod α) : Prop := ∀ K R1 R2 M H l v x, (∀ a o, R1 a = some o → ¬ SoftO o → R2 a = some o) → c.own K R1 M H l v x → c.own K R2 M H l v x
theorem hd_i : HardC cI := fun _ _ _ _ _ _ h => h
theorem hd_b : HardC cB := fun _ _ _ _ _ _ h => h
theorem hd_s : HardC cS := fun _ _ _ _ _ _ h => h
theorem hd_o {α : Type} {c : Cod α} (h : HardC c) : HardC (cO c) := fun K R1 R2 v x s q => by
  cases x with
  | none => exact q
  | some x => exact h K R1 R2 v x s q
theorem ha_one {α : Type} {c : Cod α} (h : HardC c) : HardA (aOne c) := fun K R1 R2 vs x s ⟨v, e, q⟩ => ⟨v, e, h K R1 R2 v x s q⟩
theorem ha_cons {α β : Type} {c : Cod α} {as : ArgC β} (h : HardC c) (h' : HardA as) : HardA (aCons c as) := fun K R1 R2 vs x s ⟨v, ws, e, q, q'⟩ => ⟨v, ws, e, h K R1 R2 v _ s q, h' K R1 R2 ws _ s q'⟩
theorem hd_t {α : Type} {as : ArgC α} (h : HardA as) : HardC (cT as) := fun K R1 R2 v x s ⟨a, vs, e, q, q'⟩ => ⟨a, vs, e, q.imp (fun z => s a _ z fun h => h) (Or.imp (fun ⟨o, z⟩ => ⟨o, s a _ z fun h => h⟩) id), h K R1 R2 vs x s q'⟩
theorem hd_tv {α : Type} {c : Cod α} (h : HardC c) : HardC (cTV c) := fun K R1 R2 v x s ⟨a, vs, e, q, hl, q'⟩ => ⟨a, vs, e, q.imp (fun z => s a _ z fun h => h) (Or.imp (fun ⟨o, z⟩ => ⟨o, s a _ z fun h => h⟩) id), hl, paired_mono (fun _ _ z => h K R1 R2 _ _ s z) q'⟩
theorem ho_l {α : Type} {c : Cod α} (h : HardC c) : HardO (oL c) := fun K R1 R2 M H l v x s ⟨p, vs, e, hm, hp, hl, q⟩ => ⟨p, vs, e, hm, hp, hl, paired_mono (fun _ _ z => h K R1 R2 _ _ s z) q⟩
/-- S: lent; T: hidden -/
def lendL (S T : List Nat) (L : Lab) : Lab := fun a => match L a with
  | none => none
  | some (k, l) => if k = 0 then some (0, l) else if k - 1 ∈ S then (if insL l = true then none else some (0, [])) else if k - 1 ∈ T then none else some (k, l)
def backL (S T : List Nat) (L L' : Lab) : Lab := fun a => match L a with
  | none => L' a
  | some (k, l) => if k ≠ 0 ∧ (k - 1 ∈ S ∨ k - 1 ∈ T) then some (k, l) else L' a
section
variable {S T : List Nat} {L L' : Lab} {H H' : Hp}
theorem lendL_cases (a : Addr) : (L a = none ∧ lendL S T L a = none) ∨ (∃ l, L a = some (0, l) ∧ lendL S T L a = some (0, l)) ∨ (∃ k l, L a = some (k + 1, l) ∧ k ∈ S ∧ insL l = true ∧ lendL S T L a = none) ∨ (∃ k l, L a = some (k + 1, l) ∧ k ∈ S ∧ insL l = false ∧ lendL S T L a = some (0, [])) ∨
    (∃ k l, L a = some (k + 1, l) ∧ k ∉ S ∧ k ∈ T ∧ lendL S T L a = none) ∨ (∃ k l, L a = some (k + 1, l) ∧ k ∉ S ∧ k ∉ T ∧ lendL S T L a = some (k + 1, l)) := by
  cases e : L a with
  | none => exact .inl ⟨rfl, by unfold lendL; rw [e]⟩
  | some x =>
    obtain ⟨k, l⟩ := x
    cases k with
    | zero => exact .inr (.inl ⟨l, rfl, by unfold lendL; rw [e]; exact if_pos rfl⟩)
    | succ k =>
      have red : lendL S T L a = if k ∈ S then (if insL l = true then none else some (0, [])) else if k ∈ T then none else some (k + 1, l) := by
        unfold lendL
        rw [e]
        show (if k + 1 = 0 then _ else if k + 1 - 1 ∈ S then _ else if k + 1 - 1 ∈ T then none else some (k + 1, l)) = _
        rw [if_neg (by omega)]
        rfl
      by_cases hS : k ∈ S
      · by_cases hl : insL l = true
        · exact .inr (.inr (.inl ⟨k, l, rfl, hS, hl, by rw [red, if_pos hS, if_pos hl]⟩))
        · exact .inr (.inr (.inr (.inl ⟨k, l, rfl, hS, by simpa using hl, by rw [red, if_pos hS, if_neg hl]⟩)))
      · by_cases hT : k ∈ T
        · exact .inr (.inr (.inr (.inr (.inl ⟨k, l, rfl, hS, hT, by rw [red, if_neg hS, if_pos hT]⟩))))
        · exact .inr (.inr (.inr (.inr (.inr ⟨k, l, rfl, hS, hT, by rw [red, if_neg hS, if_neg hT]⟩))))
theorem wf_lendL (w : Wf L H) : Wf (lendL S T L) H := by
  refine ⟨fun a ha => ?_, fun a k l e => ?_⟩
  · rcases lendL_cases (S := S) (T := T) (L := L) a with ⟨e1, e2⟩ | ⟨l, e1, e2⟩ | ⟨k, l, e1, _, _, e2⟩ | ⟨k, l, e1, _, _, e2⟩ | ⟨k, l, e1, _, _, e2⟩ | ⟨k, l, e1, _, _, e2⟩
    · exact absurd e2 ha
    all_goals exact w.dom a (by rw [e1]; simp)
  · rcases lendL_cases (S := S) (T := T) (L := L) a with ⟨e1, e2⟩ | ⟨l, e1, e2⟩ | ⟨k', l', e1, _, _, e2⟩ | ⟨k', l', e1, _, _, e2⟩ | ⟨k', l', e1, _, _, e2⟩ | ⟨k', l', e1, _, _, e2⟩
    · rw [e2] at e; cases e
    · rw [e2] at e; cases e
    · rw [e2] at e; cases e
    · rw [e2] at e; cases e
    · rw [e2] at e; cases e
    · rw [e2] at e; cases e; exact w.soft a k l e1
theorem rd_lendL : Same (rd L H) (rd (lendL S T L) H) := fun a o q => by
  obtain ⟨⟨l, e1⟩, e2⟩ := rd_of q
  rcases lendL_cases (S := S) (T := T) (L := L) a with ⟨e, _⟩ | ⟨l', e, e'⟩ | ⟨k, l', e, _⟩ | ⟨k, l', e, _⟩ | ⟨k, l', e, _⟩ | ⟨k, l', e, _⟩
  · rw [e] at e1; cases e1
  · exact rd_mk e' e2
  all_goals (rw [e] at e1; cases e1)
theorem frm_lendL {a : Addr} (f : Frm L H a) : Frm (lendL S T L) H a ∧ lendL S T L a = L a := by
  rcases lendL_cases (S := S) (T := T) (L := L) a with ⟨e, e'⟩ | ⟨l', e, e'⟩ | ⟨k, l', e, _⟩ | ⟨k, l', e, _⟩ | ⟨k, l', e, _⟩ | ⟨k, l', e, _⟩
  · exact ⟨⟨f.1, .inl e'⟩, e'.trans e.symm⟩
  · exact ⟨⟨f.1, .inr ⟨l', e'⟩⟩, e'.trans e.symm⟩
  all_goals
    rcases f.2 with z | ⟨l, z⟩
    · rw [e] at z; cases z
    · rw [e] at z; cases z
/-- of the lent and the hidden nothing is touched -/
theorem lent_stay (w : Wf L H) (s : Stp (lendL S T L) H L' H') {a : Addr} {k : Nat} {l : List Nat} (e : L a = some (k + 1, l)) (hk : k ∈ S ∨ k ∈ T) : backL S T L L' a = some (k + 1, l) ∧ H' a = H a := by
  refine ⟨?_, (s a ⟨w.dom a (by rw [e]; simp), ?_⟩).2⟩
  · unfold backL
    rw [e]
    show (if k + 1 ≠ 0 ∧ (k + 1 - 1 ∈ S ∨ k + 1 - 1 ∈ T) then some (k + 1, l) else _) = _
    rw [if_pos ⟨by omega, hk⟩]
  · rcases lendL_cases (S := S) (T := T) (L := L) a with ⟨e1, _⟩ | ⟨l', e1, e'⟩ | ⟨k', l', e1, _, _, e'⟩ | ⟨k', l', e1, _, _, e'⟩ | ⟨k', l', e1, _, _, e'⟩ | ⟨k', l', e1, h1, h2, e'⟩
    · rw [e] at e1; cases e1
    · rw [e] at e1; cases e1
    · exact .inl e'
    · exact .inr ⟨_, e'⟩
    · exact .inl e'
    · rw [e] at e1; cases e1
      rcases hk with z | z
      · exact absurd z h1
      · exact absurd z h2
theorem backL_other {a : Addr} (h : ∀ k l, L a = some (k + 1, l) → k ∉ S ∧ k ∉ T) : backL S T L L' a = L' a := by
  unfold backL
  cases e : L a with
  | none => rfl
  | some x =>
    obtain ⟨k, l⟩ := x
    cases k with
    | zero => exact if_neg fun z => z.1 rfl
    | succ k =>
      show (if k + 1 ≠ 0 ∧ (k + 1 - 1 ∈ S ∨ k + 1 - 1 ∈ T) then some (k + 1, l) else _) = _
      rw [if_neg fun z => z.2.elim (h k l e).1 (h k l e).2]
theorem backL_cases (w : Wf L H) (s : Stp (lendL S T L) H L' H') (a : Addr) : (∃ k l, L a = some (k + 1, l) ∧ (k ∈ S ∨ k ∈ T) ∧ backL S T L L' a = some (k + 1, l) ∧ H' a = H a) ∨ ((∀ k l, L a = some (k + 1, l) → k ∉ S ∧ k ∉ T) ∧ backL S T L L' a = L' a) := by
  by_cases h : ∀ k l, L a = some (k + 1, l) → k ∉ S ∧ k ∉ T
  · exact .inr ⟨h, backL_other h⟩
  · have : ∃ k l, L a = some (k + 1, l) ∧ (k ∈ S ∨ k ∈ T) := by
      cases e : L a with
      | none => exact absurd (fun k l z => by rw [e] at z; cases z) h
      | some x =>
        obtain ⟨k, l⟩ := x
        cases k with
        | zero => exact absurd (fun k l z => by rw [e] at z; cases z) h
        | succ k =>
          refine ⟨k, l, rfl, ?_⟩
          by_cases q : k ∈ S ∨ k ∈ T
          · exact q
          · refine absurd (fun k' l' z => ?_) h
            rw [e] at z; cases z
            exact ⟨fun z => q (.inl z), fun z => q (.inr z)⟩
    obtain ⟨k, l, e, hk⟩ := this
    obtain ⟨e1, e2⟩ := lent_stay w s e hk
    exact .inl ⟨k, l, e, hk, e1, e2⟩
theorem wf_backL (w : Wf L H) (w' : Wf L' H') (s : Stp (lendL S T L) H L' H') : Wf (backL S T L L') H' := by
  refine ⟨fun a ha => ?_, fun a k l e => ?_⟩
  · rcases backL_cases w s a with ⟨k, l, e1, _, e2, e3⟩ | ⟨_, e2⟩
    · rw [e3]; exact w.dom a (by rw [e1]; simp)
    · exact w'.dom a (by rw [← e2]; exact ha)
  · rcases backL_cases w s a with ⟨k', l', e1, _, e2, e3⟩ | ⟨_, e2⟩
    · rw [e2] at e; cases e; rw [e3]; exact w.soft a k l e1
    · rw [e2] at e; exact w'.soft a k l e
theorem stp_backL (w : Wf L H) (s : Stp (lendL S T L) H L' H') : Stp L H (backL S T L L') H' := fun a f => by
  obtain ⟨f1, e1⟩ := frm_lendL (S := S) (T := T) f
  obtain ⟨e2, e3⟩ := s a f1
  refine ⟨?_, e3⟩
  rw [backL_other fun k l e => ?_, e2, e1]
  rcases f.2 with z | ⟨l', z⟩
  · rw [z] at e; cases e
  · rw [z] at e; cases e
theorem rd_backL (w : Wf L H) (s : Stp (lendL S T L) H L' H') : ∀ a o, rd L' H' a = some o → ¬ SoftO o → rd (backL S T L L') H' a = some o := fun a o q ns => by
  obtain ⟨⟨l, e1⟩, e2⟩ := rd_of q
  rcases backL_cases w s a with ⟨k, l', e3, hk, e4, e5⟩ | ⟨_, e3⟩
  · -- it was lent
    rcases lendL_cases (S := S) (T := T) (L := L) a with ⟨z, _⟩ | ⟨_, z, _⟩ | ⟨k', l2, z, h1, h2, h3⟩ | ⟨k', l2, z, h1, h2, h3⟩ | ⟨k', l2, z, h1, h2, h3⟩ | ⟨k', l2, z, h1, h2, h3⟩
    · rw [e3] at z; cases z
    · rw [e3] at z; cases z
    · have f : Frm (lendL S T L) H a := ⟨w.dom a (by rw [e3]; simp), .inl h3⟩
      rw [(s a f).1, h3] at e1; cases e1
    · rw [e3] at z; cases z
      have := w.soft a k l' e3
      rw [← e5, e2] at this
      unfold NonTup at this
      rw [h2] at this
      exact absurd this ns
    · have f : Frm (lendL S T L) H a := ⟨w.dom a (by rw [e3]; simp), .inl h3⟩
      rw [(s a f).1, h3] at e1; cases e1
    · rw [e3] at z; cases z
      rcases hk with y | y
      · exact absurd y h1
      · exact absurd y h2
  · exact rd_mk (e3.trans e1) e2
end
structure LendC (S T : List Nat) (k : Nat) (G G1 : Ctx) (to : CT G → CT G1) (bk : CT G → CT G1 → CT G) : Prop where
  to_ok : ∀ (K : Frag) (p : CT G) (L : Lab) (H : Hp) (o : St), Wf L H → CR K k G p L H o → CR K k G1 (to p) (lendL S T L) H o
  bk_ok : ∀ (K : Frag) (p : CT G) (q : CT G1) (L : Lab) (H : Hp) (L' : Lab) (H' : Hp) (o : St), Wf L H → Stp (lendL S T L) H L' H' → CR K k G p L H o → CR K k G1 q L' H' o → CR K k G (bk p q) (backL S T L L') H' o
section
variable {S T : List Nat} {k : Nat} {G G1 : Ctx} {to : CT G → CT G1} {bk : CT G → CT G1 → CT G}
theorem ln_nil : LendC S T k [] [] (fun p => p) (fun p _ => p) := ⟨fun K p L H o w c => c, fun K p q L H L' H' o w s c c' => c⟩
theorem ln_any (h : LendC S T (k + 1) G G1 to bk) : LendC S T k (sAny :: G) (sAny :: G1) (fun p => ((), to p.2)) (fun p q => ((), bk p.2 q.2)) :=
  ⟨fun K p L H o w c => ⟨trivial, h.to_ok K p.2 L H o w c.2⟩, fun K p q L H L' H' o w s c c' => ⟨trivial, h.bk_ok K p.2 q.2 L H L' H' o w s c.2 c'.2⟩⟩
theorem ln_val {α : Type} {c : Cod α} (h : LendC S T (k + 1) G G1 to bk) : LendC S T k (sVal c :: G) (sVal c :: G1) (fun p => (p.1, to p.2)) (fun p q => (p.1, bk p.2 q.2)) :=
  ⟨fun K p L H o w cr => ⟨let ⟨v, e, hv⟩ := cr.1; ⟨v, e, c.mono _ _ _ _ _ rd_lendL hv⟩, h.to_ok K p.2 L H o w cr.2⟩, fun K p q L H L' H' o w s cr c' => ⟨let ⟨v, e, hv⟩ := cr.1; ⟨v, e, c.mono _ _ _ _ _ (stp_backL w s).rd hv⟩, h.bk_ok K p.2 q.2 L H L' H' o w s cr.2 c'.2⟩⟩
theorem ln_own {α : Type} {P : V → Prop} {oc : OCod α} {c : Cod α} (fz : Frz oc c) (hk : k ∈ S) (h : LendC S T (k + 1) G G1 to bk) : LendC S T k (sOwn P oc :: G) (sVal c :: G1) (fun p => (p.1, to p.2)) (fun p q => (p.1, bk p.2 q.2)) :=
  ⟨fun K p L H o w cr => ⟨let ⟨v, _, e, hv⟩ := cr.1; ⟨v, e, fz K _ _ _ H v p.1 rd_lendL (fun a m em hm => by
      have e1 := sub_of em
      rcases lendL_cases (S := S) (T := T) (L := L) a with ⟨z, _⟩ | ⟨_, z, _⟩ | ⟨k', l2, z, h1, h2, h3⟩ | ⟨k', l2, z, h1, h2, h3⟩ | ⟨k', l2, z, h1, h2, h3⟩ | ⟨k', l2, z, h1, h2, h3⟩
      · rw [e1] at z; cases z
      · rw [e1] at z; cases z
      · rw [e1] at z; cases z; rw [hm] at h2; cases h2
      · unfold rd; rw [h3]; rfl
      · rw [e1] at z; cases z; exact absurd hk h1
      · rw [e1] at z; cases z; exact absurd hk h1) hv⟩, h.to_ok K p.2 L H o w cr.2⟩,
   fun K p q L H L' H' o w s cr c' => ⟨let ⟨v, hp, e, hv⟩ := cr.1; ⟨v, hp, e, oc.mono _ _ _ _ _ _ _ _ _ _ (stp_backL w s).rd (fun a m em => by
      obtain ⟨e1, e2⟩ := lent_stay w s (sub_of em) (.inl hk)
      exact ⟨sub_mk e1, e2⟩) hv⟩, h.bk_ok K p.2 q.2 L H L' H' o w s cr.2 c'.2⟩⟩
theorem ln_hide {α : Type} {P : V → Prop} {oc : OCod α} (hk : k ∈ T) (h : LendC S T (k + 1) G G1 to bk) : LendC S T k (sOwn P oc :: G) (sAny :: G1) (fun p => ((), to p.2)) (fun p q => (p.1, bk p.2 q.2)) :=
  ⟨fun K p L H o w cr => ⟨trivial, h.to_ok K p.2 L H o w cr.2⟩,
   fun K p q L H L' H' o w s cr c' => ⟨let ⟨v, hp, e, hv⟩ := cr.1; ⟨v, hp, e, oc.mono _ _ _ _ _ _ _ _ _ _ (stp_backL w s).rd (fun a m em => by
      obtain ⟨e1, e2⟩ := lent_stay w s (sub_of em) (.inr hk)
      exact ⟨sub_mk e1, e2⟩) hv⟩, h.bk_ok K p.2 q.2 L H L' H' o w s cr.2 c'.2⟩⟩
theorem ln_hold {α : Type} {P : V → Prop} {oc : OCod α} (hd : HardO oc) (hS : k ∉ S) (hT : k ∉ T) (h : LendC S T (k + 1) G G1 to bk) : LendC S T k (sOwn P oc :: G) (sOwn P oc :: G1) (fun p => (p.1, to p.2)) (fun p q => (q.1, bk p.2 q.2)) :=
  ⟨fun K p L H o w cr => ⟨let ⟨v, hp, e, hv⟩ := cr.1; ⟨v, hp, e, oc.mono _ _ _ _ _ _ _ _ _ _ rd_lendL (fun a m em => by
      have e1 := sub_of em
      rcases lendL_cases (S := S) (T := T) (L := L) a with ⟨z, _⟩ | ⟨_, z, _⟩ | ⟨k', l2, z, h1, h2, h3⟩ | ⟨k', l2, z, h1, h2, h3⟩ | ⟨k', l2, z, h1, h2, h3⟩ | ⟨k', l2, z, h1, h2, h3⟩
      · rw [e1] at z; cases z
      · rw [e1] at z; cases z
      · rw [e1] at z; cases z; exact absurd h1 hS
      · rw [e1] at z; cases z; exact absurd h1 hS
      · rw [e1] at z; cases z; exact absurd h2 hT
      · rw [e1] at z; cases z; exact ⟨sub_mk h3, rfl⟩) hv⟩, h.to_ok K p.2 L H o w cr.2⟩,
   fun K p q L H L' H' o w s cr c' => ⟨let ⟨v, hp, e, hv⟩ := c'.1; ⟨v, hp, e, oc.mono _ _ _ _ _ _ _ _ _ _ (fun _ _ z => z) (fun a m em => ⟨sub_mk (by
      have e1 := sub_of em
      rcases backL_cases w s a with ⟨k', l', e3, hk, e4, e5⟩ | ⟨_, e3⟩
      · -- a lent or hidden thing is not labelled so
        rcases lendL_cases (S := S) (T := T) (L := L) a with ⟨z, _⟩ | ⟨_, z, _⟩ | ⟨k2, l2, z, h1, h2, h3⟩ | ⟨k2, l2, z, h1, h2, h3⟩ | ⟨k2, l2, z, h1, h2, h3⟩ | ⟨k2, l2, z, h1, h2, h3⟩
        · rw [e3] at z; cases z
        · rw [e3] at z; cases z
        · rw [(s a ⟨w.dom a (by rw [e3]; simp), .inl h3⟩).1, h3] at e1; cases e1
        · rw [(s a ⟨w.dom a (by rw [e3]; simp), .inr ⟨_, h3⟩⟩).1, h3] at e1; cases e1
        · rw [(s a ⟨w.dom a (by rw [e3]; simp), .inl h3⟩).1, h3] at e1; cases e1
        · rw [e3] at z; cases z
          rcases hk with y | y
          · exact absurd y h1
          · exact absurd y h2
      · exact e3.trans e1), rfl⟩) (hd _ _ _ _ _ _ _ _ (rd_backL w s) hv)⟩, h.bk_ok K p.2 q.2 L H L' H' o w s cr.2 c'.2⟩⟩
end
/-- results that outlive the lending -/
structure RtHard {β : Type} (r : Rt β) : Prop where
  bk : ∀ {K : Frag} {S T : List Nat} {L L' : Lab} {H H' : Hp} {v : V} {y : β}, Wf L H → Stp (lendL S T L) H L' H' → r.rel K (lendL S T L) H L' H' v y → r.rel K L H (backL S T L L') H' v y
theorem rh_v {β : Type} {c : Cod β} (h : HardC c) : RtHard (rV c) := ⟨fun w s q => h _ _ _ _ _ (rd_backL w s) q⟩
theorem rh_o {β : Type} {c : OCod β} (h : HardO c) : RtHard (rO c) := ⟨fun {K S T L L' H H' v y} w s ⟨M, hM, ho⟩ => ⟨M, fun a m e => by
    obtain ⟨h1, h2, h3⟩ := hM a m e
    refine ⟨?_, h2, fun f => h3 (frm_lendL f).1⟩
    rcases backL_cases w s a with ⟨k, l, e1, hk, e2, e3⟩ | ⟨_, e2⟩
    · refine absurd ⟨w.dom a (by rw [e1]; simp), ?_⟩ h3
      rcases lendL_cases (S := S) (T := T) (L := L) a with ⟨z, _⟩ | ⟨_, z, _⟩ | ⟨k2, l2, z, q1, q2, q3⟩ | ⟨k2, l2, z, q1, q2, q3⟩ | ⟨k2, l2, z, q1, q2, q3⟩ | ⟨k2, l2, z, q1, q2, q3⟩
      · rw [e1] at z; cases z
      · rw [e1] at z; cases z
      · exact .inl q3
      · exact .inr ⟨_, q3⟩
      · exact .inl q3
      · rw [e1] at z; cases z
        rcases hk with y | y
        · exact absurd y q1
        · exact absurd y q2
    · exact e2.trans h1, h _ _ _ _ _ _ _ _ (rd_backL w s) ho⟩⟩
section
variable {A : Amb} {G G1 : Ctx} {S T : List Nat} {to : CT G → CT G1} {bk : CT G → CT G1 → CT G}
theorem raises_lend {e : Exn} {L : Lab} {H : Hp} {o : St} (w : Wf L H) (r : A.raises e L H o) : A.raises e (lendL S T L) H o := fun cls d H' ⟨h1, h2, h3, v, h4, R, h5, h6, h7, h8⟩ o' ho =>
  r cls d H' ⟨h1, fun a f => h2 a (frm_lendL f).1, fun f => h3 (frm_lendL f).1, v, h4, R, h5, fun a ob q => h6 a ob (rd_lendL a ob q), fun a ob q => by
    rcases h7 a ob q with z | z
    · obtain ⟨⟨l, e1⟩, e2⟩ := rd_of z
      by_cases f : Frm L H a
      · refine .inl ?_
        rw [(frm_lendL (S := S) (T := T) f).2] at e1
        exact rd_mk e1 e2
      · exact .inr f
    · exact .inr fun f => z (frm_lendL f).1, h8⟩ o' ho
theorem Good.lend {α : Type} {m : Res α} {L : Lab} {H : Hp} {o : St} {P : α → Prop} (w : Wf L H) (h : Good A m L H o P) : Good A m (lendL S T L) H o P := by
  cases m with
  | ok a => exact h
  | exc e => exact raises_lend w h
  | bad => exact h
theorem ex_lend {α : Type} {r : Rt α} {e : Expr} {f : CT G1 → Res (α × CT G1)} (ln : LendC S T 0 G G1 to bk) (hr : RtHard r) (h : EX A G1 e r f) : EX A G e r (fun p => Res.bind (f (to p)) fun y => .ok (y.1, bk p y.2)) :=
  pe_weak h fun o H Q ⟨p, L, w, cr, k⟩ => ⟨to p, lendL S T L, wf_lendL w, ln.to_ok _ _ _ _ _ w cr, (Good.lend w k.bind).imp fun y _ q v L' H' s w' c' rl => q v (backL S T L L') H' (stp_backL w s) (wf_backL w w' s) (ln.bk_ok _ _ _ _ _ _ _ _ w s cr c') (hr.bk w s rl)⟩
theorem tx_lend {e : Expr} {f : CT G1 → Res (Bool × CT G1)} (ln : LendC S T 0 G G1 to bk) (h : TX A G1 e f) : TX A G e (fun p => Res.bind (f (to p)) fun y => .ok (y.1, bk p y.2)) :=
  pt_weak h fun o H Q ⟨p, L, w, cr, k⟩ => ⟨to p, lendL S T L, wf_lendL w, ln.to_ok _ _ _ _ _ w cr, (Good.lend w k.bind).imp fun y _ q L' H' s w' c' => q (backL S T L L') H' (stp_backL w s) (wf_backL w w' s) (ln.bk_ok _ _ _ _ _ _ _ _ w s cr c')⟩
end
end AC
set_option Elab.async false
set_option linter.all false
set_option maxRecDepth 100000
/-! TL10: lists: one's own changed, joined, cut; in, ==; texts. -/
namespace AC
open PySem L2 PyProof
section
variable {A : Amb} {G G' : Ctx} {ρ : Type} {R : Rr ρ}
/-! ### a list of one's own is changed -/
theorem own_set {α : Type} {c : Cod α} {P : V → Prop} {i : Nat} {g : CT G → List α} {put : CT G → List α → CT G} {p : CT G} {L : Lab} {H : Hp} {o : St} {l : Addr} {vs' : List V} {xs' : List α} (m : Mod G i (sOwn P (oL c)) put) (w : Wf L H) (cr : CR A.X.K 0 G p L H o)
    (hP : P (.ref l)) (ho : o[i]? = some (some (.ref l))) (hl : L l = some (i + 1, [])) (hn : vs'.length ≤ sizeLine) (hp : Paired (fun v x => c.see A.X.K (rd L H) v x) vs' xs') :
    Stp L H L (upd H l (.lst vs')) ∧ Wf L (upd H l (.lst vs')) ∧ CR A.X.K 0 G (put p xs') L (upd H l (.lst vs')) o ∧ Same (rd L H) (rd L (upd H l (.lst vs'))) := by
  have sm : Same (rd L H) (rd L (upd H l (.lst vs'))) := fun a ob qa => by
    obtain ⟨⟨l', e1⟩, e2⟩ := rd_of qa
    refine rd_mk e1 ?_
    rw [upd_ne fun e => by rw [e, hl] at e1; cases e1]
    exact e2
  refine ⟨fun a f => ⟨rfl, upd_ne fun e => ?_⟩, ⟨fun a ha => ?_, fun a k l' e => ?_⟩, m.ok _ _ _ _ _ _ _ _ _ cr sm (fun a j l' _ hj e => ⟨rfl, upd_ne fun e' => ?_⟩) ⟨.ref l, hP, by rw [Nat.zero_add]; exact ho, l, vs', rfl, sub_mk (by rw [Nat.zero_add]; exact hl), upd_same, hn, paired_mono (fun _ _ q => c.mono _ _ _ _ _ sm q) hp⟩, sm⟩
  · rcases f.2 with z | ⟨l', z⟩
    · rw [e, hl] at z; cases z
    · rw [e, hl] at z; cases z
  · by_cases ea : a = l
    · rw [ea, upd_same]; simp
    · rw [upd_ne ea]; exact w.dom a ha
  · by_cases ea : a = l
    · rw [ea, hl] at e; cases e
      rw [ea, upd_same]
      trivial
    · rw [upd_ne ea]; exact w.soft a k l' e
  · rw [e', hl] at e
    have := (Prod.mk.inj (Option.some.inj e)).1
    omega
/-- a method of a list of one's own, with arguments -/
def MtT (A : Amb) (id : String) {α β γ : Type} (c : Cod α) (as : ArgC β) (k : List α → β → Option (γ × List α)) (rc : Cod γ) : Prop :=
  ∃ r, MtR A.X id r ∧ ∀ (L : Lab) (H : Hp) (l : Addr) (vs ws : List V) (xs xs' : List α) (y : β) (z : γ) (Q : VK), Wf L H → H l = some (.lst vs) → vs.length ≤ sizeLine → Paired (fun v x => c.see A.X.K (rd L H) v x) vs xs → as.see A.X.K (rd L H) ws y → k xs y = some (z, xs') →
    (∀ v vs', vs'.length ≤ sizeLine → Paired (fun v x => c.see A.X.K (rd L H) v x) vs' xs' → rc.see A.X.K (rd L H) v z → Q v (upd H l (.lst vs'))) → r (.ref l) ws H Q
theorem own_reads {α β γ : Type} {c : Cod α} {as : ArgC β} {k : List α → β → Option (γ × List α)} {rc : Cod γ} {P : V → Prop} {i : Nat} {g : CT G → List α} {put : CT G → List α → CT G} {fa : CT G → Res (β × CT G)} {r : V → List V → Hp → VK → Prop} (a : At G i (sOwn P (oL c)) g) (m : Mod G i (sOwn P (oL c)) put)
    (pr : ∀ (L : Lab) (H : Hp) (l : Addr) (vs ws : List V) (xs xs' : List α) (y : β) (z : γ) (Q : VK), Wf L H → H l = some (.lst vs) → vs.length ≤ sizeLine → Paired (fun v x => c.see A.X.K (rd L H) v x) vs xs → as.see A.X.K (rd L H) ws y → k xs y = some (z, xs') →
      (∀ v vs', vs'.length ≤ sizeLine → Paired (fun v x => c.see A.X.K (rd L H) v x) vs' xs' → rc.see A.X.K (rd L H) v z → Q v (upd H l (.lst vs'))) → r (.ref l) ws H Q) {o : St} {H : Hp} {Q : VK}
    (q : tE A G (rV rc) (fun p => Res.bind (fa p) fun y => Res.bind (ofO (k (g y.2) y.1)) fun z => .ok (z.1, put y.2 z.2)) o H Q) : ∃ v, o[i]? = some (some v) ∧ tyV A.X.K "list" v H ∧ tA A G as fa o H fun ws H1 => r v ws H1 Q := by
  obtain ⟨p, L, w, cr, kk⟩ := q
  obtain ⟨v0, _, ev, l0, vs0, e0, hm0, hp0, _⟩ := a.ok _ _ _ _ _ _ cr
  rw [Nat.zero_add] at ev
  subst e0
  refine ⟨.ref l0, ev, .inl ⟨rfl, _, SqL.of hp0⟩, p, L, w, cr, kk.bind.imp fun y _ gy ws L1 H1 s1 w1 c1 h1 => ?_⟩
  obtain ⟨v1, hP, ev1, l, vs, e1, hm, hp, hl, hpp⟩ := a.ok _ _ _ _ _ _ c1
  rw [Nat.zero_add] at ev1 hm
  subst e1
  rw [ev] at ev1
  cases ev1
  obtain ⟨z, ez, gz⟩ := good_ofO gy
  refine pr L1 H1 l0 vs ws (g y.2) z.2 y.1 z.1 Q w1 hp hl hpp h1 ez fun v vs' hn hp' hz => ?_
  obtain ⟨t1, t2, t3, t4⟩ := own_set (g := g) m w1 c1 hP ev (sub_of hm) hn hp'
  exact (show ∀ v L' H', _ from gz) v L1 _ (s1.trans t1) t2 t3 (rc.mono _ _ _ _ _ t4 hz)
theorem ex_ownM {α β γ : Type} {id : String} {name x : Str} {p1 ap cp : Pos} {e : Expr} {es : List Expr} {c : Cod α} {as : ArgC β} {k : List α → β → Option (γ × List α)} {rc : Cod γ} {P : V → Prop} {i : Nat} {g : CT G → List α} {put : CT G → List α → CT G} {fa : CT G → Res (β × CT G)} (h : MtT A id c as k rc)
    (slot : PySem.Slot "list" name id) (hty : typeOf (.builtin id) = pure (.type "method_descriptor")) (a : At G i (sOwn P (oL c)) g) (m : Mod G i (sOwn P (oL c)) put) (hN : A.X.N[i]? = some x) (hv : Vis A.X.env.scope x) (ha : AX A G (e :: es) as fa)
    (hd : (x == ("__debug__" : Str)) = false := by decide) (hcd : (x == ("__classdict__" : Str)) = false := by decide)
    (hbase : attributeBase (.Name x p1) name A.X.env (eval (.Name x p1) A.X.env) = eval (.Name x p1) A.X.env := by rfl)
    (hfew : ((backTo cp (starEach (e :: es) A.X.env)).all (fun x => !x.1) && (backToKw cp (keywordEach [] A.X.env)).all (fun x => x.1.isSome) && decide ((e :: es).length + ([] : List Keyword).length + (if ([] : List Keyword).isEmpty then 0 else 1) < 30)) = true := by rfl)
    (hline : (ap.endLine == cp.line) = true := by rfl) (hs : starEach (e :: es) A.X.env = (false, eval e A.X.env) :: starEach es A.X.env := by rfl) (hplain : (backTo cp (starEach es A.X.env)).any (·.1) = false := by rfl) :
    EX A G (.Call (.Attribute (.Name x p1) name ap) (e :: es) [] cp) (rV rc) (fun p => Res.bind (fa p) fun y => Res.bind (ofO (k (g y.2) y.1)) fun z => .ok (z.1, put y.2 z.2)) := by
  obtain ⟨r, hr, pr⟩ := h
  refine pe_weak (pe_bm PySem.F.plainAttrs_list slot hty hr (pe_var hN hv hd hcd) ha hbase hfew hline hs hplain) fun o H Q q => ?_
  obtain ⟨v, ev, ty, t⟩ := own_reads a m pr q
  exact ⟨v, ev, ty, t⟩
theorem ex_ownM0 {α γ : Type} {id : String} {name x : Str} {p1 ap cp : Pos} {c : Cod α} {k : List α → Unit → Option (γ × List α)} {rc : Cod γ} {P : V → Prop} {i : Nat} {g : CT G → List α} {put : CT G → List α → CT G} (h : MtT A id c aNil k rc)
    (slot : PySem.Slot "list" name id) (hty : typeOf (.builtin id) = pure (.type "method_descriptor")) (a : At G i (sOwn P (oL c)) g) (m : Mod G i (sOwn P (oL c)) put) (hN : A.X.N[i]? = some x) (hv : Vis A.X.env.scope x)
    (hd : (x == ("__debug__" : Str)) = false := by decide) (hcd : (x == ("__classdict__" : Str)) = false := by decide)
    (hbase : attributeBase (.Name x p1) name A.X.env (eval (.Name x p1) A.X.env) = eval (.Name x p1) A.X.env := by rfl) (hline : (ap.endLine == cp.line) = true := by rfl) :
    EX A G (.Call (.Attribute (.Name x p1) name ap) [] [] cp) (rV rc) (fun p => Res.bind (ofO (k (g p) ())) fun z => .ok (z.1, put p z.2)) := by
  obtain ⟨r, hr, pr⟩ := h
  refine pe_weak (pe_bm0 PySem.F.plainAttrs_list slot hty hr (pe_var hN hv hd hcd) hbase hline) fun o H Q q => ?_
  obtain ⟨v, ev, ty, p, L, w, cr, t⟩ := own_reads (fa := fun p => .ok ((), p)) a m pr q
  exact ⟨v, ev, ty, t [] L H Stp.refl w cr rfl⟩
def appO {α : Type} (xs : List α) (y : α) : Option (Unit × List α) := if xs.length < 16777216 then some ((), xs ++ [y]) else none
theorem mt_app {α : Type} {c : Cod α} : MtT A "list.append" c (aOne c) appO cN := ⟨_, mt_append, fun L H l vs ws xs xs' y z Q w h1 h2 h3 ⟨v, ew, hv⟩ hk q => by
  subst ew
  unfold appO at hk
  have hl := line_eq
  have hn := paired_len h3
  split at hk
  · rename_i hc
    cases hk
    exact ⟨l, vs, v, rfl, rfl, h1, by omega, q _ _ (by rw [List.length_append, List.length_singleton]; omega) (paired_append h3 (.cons hv .nil)) rfl⟩
  · cases hk⟩
theorem mt_clearT {α : Type} {c : Cod α} : MtT A "list.clear" c aNil (fun _ _ => some ((), [])) cN := ⟨_, mt_clear, fun L H l vs ws xs xs' y z Q w h1 h2 h3 ew hk q => by
  have ew : ws = [] := ew
  subst ew
  cases hk
  exact ⟨l, vs, rfl, rfl, h1, q _ _ (Nat.zero_le _) .nil rfl⟩⟩
/-- xs[i] = e, xs one's own -/
def setI {α : Type} (xs : List α) (i : Int) (v : α) : Option (List α) := (ixN xs.length i).map fun j => xs.set j v
theorem paired_set {α β : Type} {F : α → β → Prop} {x : α} {y : β} (h : F x y) : ∀ {l : List α} {m : List β} (j : Nat), Paired F l m → Paired F (l.set j x) (m.set j y)
  | _, _, _, .nil => .nil
  | _, _, 0, .cons r t => .cons h t
  | _, _, j + 1, .cons r t => .cons r (paired_set h j t)
theorem sx_setI {α : Type} {c : Cod α} {P : V → Prop} {i : Nat} {x : Str} {ei e : Expr} {p1 p2 pos : Pos} {g : CT G → List α} {put : CT G → List α → CT G} {fe : CT G → Res (α × CT G)} {fi : CT G → Res (Int × CT G)} (a : At G i (sOwn P (oL c)) g) (m : Mod G i (sOwn P (oL c)) put) (hN : A.X.N[i]? = some x) (hv : Vis A.X.env.scope x)
    (he : EX A G e (rV c) fe) (hi : EX A G ei (rV cI) fi) (hd : (x == ("__debug__" : Str)) = false := by decide) (hcd : (x == ("__classdict__" : Str)) = false := by decide)
    (hsub : ∀ v, assign (.Subscript (.Name x p1) ei p2) A.X.env v = (do
      let ov ← holding [v] (eval (.Name x p1) A.X.env)
      let iv ← holding [v, ov] (eval ei A.X.env)
      standAt p2
      holding [v, ov, iv] (setItem ov iv v)
      release [v, ov, iv] []) := by intro _; rfl)
    (hs : swapsWithSole [.Subscript (.Name x p1) ei p2] e pos.line A.X.env = pure false := by rfl) (hw : swappedStores [.Subscript (.Name x p1) ei p2] e A.X.env = pure none := by rfl)
    (h1 : (assignEach [.Subscript (.Name x p1) ei p2] A.X.env).map (·.2) = [assign (.Subscript (.Name x p1) ei p2) A.X.env] := by rfl) :
    SX A G (.Assign [.Subscript (.Name x p1) ei p2] e pos) G R (fun p => Res.bind (fe p) fun y => Res.bind (fi y.2) fun z => Res.bind (ofO (setI (g z.2) z.1 y.1)) fun xs => .ok (.nx (put z.2 xs))) := by
  refine ps_weak (ps_asg he (pg_sub (pe_var hN hv hd hcd) hi set_list hsub) hs hw h1) fun D o H ⟨p, L, w, cr, k⟩ => ⟨p, L, w, cr, k.bind.imp fun y _ gy v L1 H1 s1 w1 c1 r1 => ?_⟩
  obtain ⟨v0, _, ev, l0, vs0, e0, hm0, hp0, _⟩ := a.ok _ _ _ _ _ _ c1
  rw [Nat.zero_add] at ev
  subst e0
  refine ⟨.ref l0, ev, y.2, L1, w1, c1, (gy.bind.step s1).imp fun z _ gz vi L2 H2 s2 w2 c2 r2 => ?_⟩
  have r2 : vi = .int z.1 := r2
  subst r2
  obtain ⟨xs, ex, gx⟩ := good_ofO gz
  obtain ⟨v1, hP, ev1, l, vs, e1, hm, hp, hl, hpp⟩ := a.ok _ _ _ _ _ _ c2
  rw [Nat.zero_add] at ev1 hm
  subst e1
  rw [ev] at ev1
  cases ev1
  unfold setI at ex
  cases ej : ixN (g z.2).length z.1 with
  | none => rw [ej] at ex; cases ex
  | some j =>
    rw [ej] at ex; cases ex
    refine ⟨l0, vs, z.1, j, rfl, rfl, hp, by rw [paired_len hpp]; exact ej, ?_⟩
    obtain ⟨t1, t2, t3, t4⟩ := own_set (g := g) (vs' := vs.set j v) m w2 c2 hP ev (sub_of hm) (by rw [List.length_set]; exact hl) (paired_set (F := fun v x => c.see A.X.K (rd L2 H2) v x) (c.mono _ _ _ _ _ s2.rd r1) j hpp)
    exact (show nxP A G R L H o D (.nx (put z.2 ((g z.2).set j y.1))) from gx) o L2 _ ((s1.trans s2).trans t1) t2 t3 Keeps.refl
/-! ### new lists of old ones -/
def catO {α : Type} (xs ys : List α) : Option (List α) := if xs.length + ys.length ≤ 16777216 then some (xs ++ ys) else none
theorem ot_cat {α : Type} {c : Cod α} : OpT A (binaryOp .Add) (cL c) (cL c) catO (rO (oL c)) := ⟨_, op_cat, fun L H vx vy x y z Q w ⟨a, vs, e1, h1, l1, p1⟩ ⟨b, ws, e2, h2, l2, p2⟩ h3 q => by
  subst e1 e2
  unfold catO at h3
  have hl := line_eq
  have n1 := paired_len p1
  have n2 := paired_len p2
  split at h3
  · rename_i hc
    cases h3
    refine ⟨a, b, vs, ws, rfl, rfl, rd_sub _ _ h1, rd_sub _ _ h2, by omega, fun p hp => ?_⟩
    obtain ⟨t1, t2⟩ := ext_new (o := .lst (vs ++ ws)) w hp
    exact q _ _ _ t1 t2 (own_new w hp (by rw [List.length_append]; omega) (paired_append p1 p2))
  · cases h3⟩
theorem ct_listL {α : Type} {c : Cod α} : CalT A (.type "list") (aOne (cL c)) (fun xs => some xs) (rO (oL c)) := ⟨_, call_list_of, fun L H vs x z Q w ⟨v, e, a, ws, e1, h1, l1, p1⟩ h2 q => by
  subst e e1
  cases h2
  refine ⟨a, ws, rfl, .inl (SqL.of (rd_sub _ _ h1)), fun p hp => ?_⟩
  obtain ⟨t1, t2⟩ := ext_new (o := .lst ws) w hp
  exact q _ _ _ t1 t2 (own_new w hp l1 p1)⟩
theorem ct_tupleL {α : Type} {c : Cod α} : CalT A (.type "tuple") (aOne (cL c)) (fun xs => some xs) (rV (cTV c)) := ⟨_, call_tuple_of, fun L H vs x z Q w ⟨v, e, a, ws, e1, h1, l1, p1⟩ h2 q => by
  subst e e1
  cases h2
  refine ⟨a, ws, rfl, .inl ⟨SqL.of (rd_sub _ _ h1), fun p hp => ?_⟩⟩
  obtain ⟨t1, t2⟩ := ext_val (o := .tup ws) w hp
  exact q _ _ _ t1 t2 ⟨p, ws, rfl, .inl (rd_mk setL_same upd_same), l1, paired_mono (fun _ _ q => c.mono _ _ _ _ _ t1.stp.rd q) p1⟩⟩
/-- parts of slices -/
def tP (A : Amb) (G : Ctx) (f : CT G → Res (Option Int × CT G)) : L2.TO := fun o H Q =>
  ∃ (p : CT G) (L : Lab), Wf L H ∧ CR A.X.K 0 G p L H o ∧ Good A (f p) L H o fun y => ∀ (L' : Lab) (H' : Hp), Stp L H L' H' → Wf L' H' → CR A.X.K 0 G y.2 L' H' o → Q y.1 H'
def OX (A : Amb) (G : Ctx) (e : Option Expr) (f : CT G → Res (Option Int × CT G)) : Prop := PO A.X e (tP A G f)
theorem po_weak {X : Cx} {e : Option Expr} {t t' : L2.TO} (h : PO X e t) (i : ∀ o H Q, t' o H Q → t o H Q) : PO X e t' := ⟨fun pins s o H Q I q => h.run pins s o H Q I (i _ _ _ q)⟩
theorem ox_none : OX A G none (fun p => .ok (none, p)) := po_weak po_none fun o H Q ⟨p, L, w, cr, k⟩ => k L H Stp.refl w cr
theorem ox_some {e : Expr} {f : CT G → Res (Int × CT G)} (h : EX A G e (rV cI) f) : OX A G (some e) (fun p => Res.bind (f p) fun y => .ok (some y.1, y.2)) :=
  po_weak (po_some h) fun o H Q ⟨p, L, w, cr, k⟩ => ⟨p, L, w, cr, k.bind.imp fun y _ q v L' H' s w' c' rl => ⟨y.1, rl, q L' H' s w' c'⟩⟩
def cutL {α : Type} (xs : List α) (lo hi : Option Int) : List α := (xs.drop (HT.sIx xs.length 0 lo)).take (HT.sIx xs.length xs.length hi - HT.sIx xs.length 0 lo)
theorem paired_cut {α : Type} {F : V → α → Prop} {l : List V} {m : List α} (p : Paired F l m) (lo hi : Option Int) : Paired F (cutV l lo hi) (cutL m lo hi) := by
  unfold cutV cutL
  rw [paired_len p]
  exact paired_take _ (paired_drop _ p)
theorem ex_cutL {α : Type} {c : Cod α} {e : Expr} {lo hi : Option Expr} {p2 pos : Pos} {f : CT G → Res (List α × CT G)} {fl fh : CT G → Res (Option Int × CT G)} (h : EX A G e (rV (cL c)) f) (hl : OX A G lo fl) (hh : OX A G hi fh) :
    EX A G (.Subscript e (.Slice lo hi none p2) pos) (rO (oL c)) (fun p => Res.bind (f p) fun y => Res.bind (fl y.2) fun z => Res.bind (fh z.2) fun u => .ok (cutL y.1 z.1 u.1, u.2)) :=
  pe_weak (pe_slice sl_list h hl hh) fun o H Q ⟨p, L, w, cr, k⟩ => ⟨p, L, w, cr, k.bind.imp fun y _ gy v L1 H1 s1 w1 c1 ⟨a, vs, e1, h1, l1, p1⟩ => ⟨y.2, L1, w1, c1, (gy.bind.step s1).imp fun z _ gz L2 H2 s2 w2 c2 => ⟨z.2, L2, w2, c2, (gz.bind.step (s1.trans s2)).imp fun u _ gu L3 H3 s3 w3 c3 => by
    subst e1
    have s23 := s2.trans s3
    refine ⟨a, vs, rfl, SqL.of (rd_sub _ _ (s23.rd _ _ h1)), fun q hq => ?_⟩
    obtain ⟨t1, t2⟩ := ext_new (o := .lst (cutV vs z.1 u.1)) w3 hq
    exact (show ∀ v L' H', _ from gu) _ _ _ ((s1.trans s23).trans t1.stp) t2 (c3.ext w3 t1) ((rO (oL c)).pre _ _ _ _ _ _ _ _ _ (s1.trans s23) (own_new w3 hq (Nat.le_trans (cutV_length _ _ _) l1) (paired_cut (paired_mono (fun _ _ q => c.mono _ _ _ _ _ s23.rd q) p1) _ _)))⟩⟩⟩
/-! ### data: ==, in, index, repr -/
theorem shaped_of {α : Type} {c : Cod α} {t : α → PyData} {n : Nat} (h : DC c t n) (hn : n ≤ 64) {K : Frag} {R : Hp} {v : V} {x : α} (q : c.see K R v x) : SeqAt.shaped (t x) = true := by
  obtain ⟨_, h2, h3⟩ := h K R v x q
  unfold SeqAt.shaped
  rw [h2, Bool.true_and, decide_eq_true_eq]
  omega
theorem dp_same {K : Frag} {R R' : Hp} (s : Same R R') : (∀ {v : V} {d : PyData}, Dp K R v d → Dp K R' v d) := fun {v d} h => by
  refine Dp.rec (motive_1 := fun v d _ => Dp K R' v d) (motive_2 := fun vs ds _ => DpAll K R' vs ds) .non (fun b => .bl b) (fun i => .int i) (fun x => .str x) (fun hq _ ih => .lst (s.seq hq) ih) (fun hq _ ih => .tup ?_ ih) .nil (fun _ _ h1 h2 => .cons h1 h2) h
  rcases hq with (z | ⟨o, z⟩) | z
  · exact .inl (.inl (s _ _ z))
  · exact .inl (.inr ⟨o, s _ _ z⟩)
  · exact .inr z
def eqO {α β : Type} (t : α → PyData) (u : β → PyData) (x : α) (y : β) : Bool := PyData.eqv (t x) (u y)
theorem ot_eqD {α β : Type} {c : Cod α} {d : Cod β} {t : α → PyData} {u : β → PyData} {n m : Nat} (h1 : DC c t n) (h2 : DC d u m) (hn : n ≤ 64) (hm : m ≤ 64) : OpT A (compareOp .Eq) c d (fun x y => some (eqO t u x y)) (rV cB) :=
  ⟨_, op_eqD A.room.units, fun L H vx vy x y z Q w q1 q2 q3 q => by
    cases q3
    exact ⟨t x, u y, dp_same rd_sub (h1 _ _ _ _ q1).1, dp_same rd_sub (h2 _ _ _ _ q2).1, shaped_of h1 hn q1, shaped_of h2 hm q2, q _ L H Ext.refl w rfl⟩⟩
theorem ot_neD {α β : Type} {c : Cod α} {d : Cod β} {t : α → PyData} {u : β → PyData} {n m : Nat} (h1 : DC c t n) (h2 : DC d u m) (hn : n ≤ 64) (hm : m ≤ 64) : OpT A (compareOp .NotEq) c d (fun x y => some (!eqO t u x y)) (rV cB) :=
  ⟨_, op_neD A.room.units, fun L H vx vy x y z Q w q1 q2 q3 q => by
    cases q3
    exact ⟨t x, u y, dp_same rd_sub (h1 _ _ _ _ q1).1, dp_same rd_sub (h2 _ _ _ _ q2).1, shaped_of h1 hn q1, shaped_of h2 hm q2, q _ L H Ext.refl w rfl⟩⟩
theorem room65 : A.X.A.units + 65 < cLine := by have := A.room.un; omega
end
end AC
set_option Elab.async false
set_option linter.all false
set_option maxRecDepth 100000
/-! TL11: texts; several targets. -/
namespace AC
open PySem L2 PyProof
section
variable {A : Amb} {G G' : Ctx} {ρ : Type} {R : Rr ρ}
/-- one sign in a text -/
def sgnIn (x y : Str) : Option Bool := match x.cps.toList with
  | [c] => some (decide (c ∈ y.cps.toList))
  | _ => none
theorem one_sign {x : Str} {c : Nat} (h : x.cps.toList = [c]) : x = ⟨#[c]⟩ := by
  obtain ⟨⟨l⟩⟩ := x
  have h : l = [c] := h
  rw [h]
theorem ot_sgnIn : OpT A (compareOp .In) cS cS sgnIn (rV cB) := op_of op_in_sign fun L H vx vy x y z Q w h1 h2 h3 q => by
  obtain ⟨rfl, _⟩ := h1; obtain ⟨rfl, _⟩ := h2
  unfold sgnIn at h3
  split at h3
  · rename_i c e
    cases h3
    rw [one_sign e]
    exact ⟨c, y, rfl, rfl, q _ rfl⟩
  · cases h3
theorem ex_gstr {x z : Str} {t : Tok} {pos : Pos} (hg : Gl A.X x) (hm : A.X.mg x = some (.str z t)) (h1 : PyData.strOk z = true) (h2 : z.length ≤ sizeLine) (hd : (x == ("__debug__" : Str)) = false := by decide) : EX A G (.Name x pos) (rV cS) (fun p => .ok (z, p)) :=
  ex_c (pe_glob hg hm (v := .str z) ⟨t, rfl⟩ hd) fun _ _ => ⟨rfl, h1, h2⟩
end
end AC
set_option Elab.async false
set_option linter.all false
set_option maxRecDepth 100000
/-! TL12: defs by name; several targets; comprehensions stored; enumerate; index; in. -/
namespace AC
open PySem L2 PyProof
/-- a def by its name -/
structure DefG (P : Program) (w : World) (K : Frag) (mg : Str → Option Value) (base : Heap) (k : Nat) (x : Str) (ps : List Str) (sp : Sp) : Prop where
  ex : ∃ f fd, FnG P w K mg base k f fd ps sp ∧ mg x = some (.ref f) ∧ PySem.W.keepIn K (.ref f) = true ∧ Binds K fd ps [] ∧ ∀ (s : Shared) (us : List Value), us.length = ps.length → BindsTo s fd ⟨[], ps.zip us⟩ (ps.zip us)
section
variable {A : Amb} {G G' : Ctx} {ρ : Type} {R : Rr ρ}
abbrev DefA (A : Amb) (k : Nat) (x : Str) (ps : List Str) (sp : Sp) : Prop := DefG A.X.prog A.X.w A.X.K A.X.mg A.X.base k x ps sp
theorem ex_cal {α β : Type} {as : ArgC α} {r : Rt β} {F : α → Res β} {k : Nat} {ps : List Str} {x : Str} {p pos : Pos} {e : Expr} {es : List Expr} {fa : CT G → Res (α × CT G)} (D : DefA A k x ps (spP A.X.K A.ca as r F)) (hk : k ≤ A.lv) (gl : Gl A.X x) (hr : RtOk r) (ha : AX A G (e :: es) as fa)
    (hdb : (x == ("__debug__" : Str)) = false := by decide) (he : starEach (e :: es) A.X.env = (false, eval e A.X.env) :: starEach es A.X.env := by rfl) (hpl : (backTo pos (starEach es A.X.env)).any (·.1) = false := by rfl) :
    EX A G (.Call (.Name x p) (e :: es) [] pos) r (fun p => Res.bind (fa p) fun y => Res.bind (F y.1) fun z => .ok (z, y.2)) := by
  obtain ⟨f, fd, F1, h2, h3, h4, _⟩ := D.ex
  exact ex_call ⟨gl, h2, h3⟩ (callAt F1 h4 hk) hr ha hdb he hpl
theorem ex_calI {α β κ : Type} {as : ArgC α} {oc : OCod κ} {P : V → Prop} {r : Rt β} {F : κ → α → Res (β × κ)} {i : Nat} {g : CT G → κ} {put : CT G → κ → CT G} {k : Nat} {ps : List Str} {x y : Str} {p p1 pos : Pos} {es : List Expr} {fa : CT G → Res (α × CT G)} (a : At G i (sOwn P oc) g) (m : Mod G i (sOwn P oc) put)
    (D : DefA A k x ps (spI A.X.K A.ca oc as r F)) (hk : k ≤ A.lv) (gl : Gl A.X x) (hr : RtOkI r) (hN : A.X.N[i]? = some y) (hv : Vis A.X.env.scope y) (ha : AX A G es as fa)
    (hd : (y == ("__debug__" : Str)) = false := by decide) (hcd : (y == ("__classdict__" : Str)) = false := by decide) (hdb : (x == ("__debug__" : Str)) = false := by decide) (he : starEach (.Name y p1 :: es) A.X.env = (false, eval (.Name y p1) A.X.env) :: starEach es A.X.env := by rfl) (hpl : (backTo pos (starEach es A.X.env)).any (·.1) = false := by rfl) :
    EX A G (.Call (.Name x p) (.Name y p1 :: es) [] pos) r (fun p => Res.bind (fa p) fun y => Res.bind (F (g y.2) y.1) fun z => .ok (z.1, put y.2 z.2)) := by
  obtain ⟨f, fd, F1, h2, h3, h4, _⟩ := D.ex
  exact ex_callI a m ⟨gl, h2, h3⟩ (callAt F1 h4 hk) hr hN hv ha hd hcd hdb he hpl
/-! ### storing -/
structure StR (s : Slot) (r : Rt s.T) : Prop where
  ok : ∀ (K : Frag) (i : Nat) (L : Lab) (H : Hp) (L1 : Lab) (H1 : Hp) (v : V) (x : s.T), Wf L1 H1 → r.rel K L H L1 H1 v x → ∃ L2, (∀ a, L2 a = L1 a ∨ (L1 a = none ∧ ¬ Frm L H a)) ∧ (∀ a, L1 a ≠ none → L2 a = L1 a) ∧ Wf L2 H1 ∧ s.rel K i x L2 H1 (some (some v))
theorem st_v {α : Type} {c : Cod α} : StR (sVal c) (rV c) := ⟨fun K i L H L1 H1 v x w h => ⟨L1, fun _ => .inl rfl, fun _ _ => rfl, w, v, rfl, h⟩⟩
theorem st_o {α : Type} {c : OCod α} : StR (sOwn PAny c) (rO c) := ⟨fun K i L H L1 H1 v x w h => by
  obtain ⟨L2, h1, h2, h3, h4⟩ := lab_own i w h
  exact ⟨L2, h1, h2, h3, v, trivial, rfl, h4⟩⟩
theorem rd_more {L1 L2 : Lab} {H : Hp} (h : ∀ a, L1 a ≠ none → L2 a = L1 a) : Same (rd L1 H) (rd L2 H) := fun a ob qa => by
  obtain ⟨⟨l, e1⟩, e2⟩ := rd_of qa
  exact rd_mk ((h a (by rw [e1]; simp)).trans e1) e2
theorem cr_more {K : Frag} {p : CT G} {L1 L2 : Lab} {H : Hp} {o : St} (h : ∀ a, L1 a ≠ none → L2 a = L1 a) (c : CR K 0 G p L1 H o) : CR K 0 G p L2 H o := c.keep (rd_more h) fun a j l _ ea => ⟨h a (by rw [ea]; simp), rfl⟩
theorem stp_more {L0 L1 L2 : Lab} {H0 H1 : Hp} (s : Stp L0 H0 L1 H1) (h : ∀ a, L2 a = L1 a ∨ (L1 a = none ∧ ¬ Frm L0 H0 a)) : Stp L0 H0 L2 H1 := fun a fr => by
  rcases h a with z | z
  · exact ⟨z.trans (s a fr).1, (s a fr).2⟩
  · exact absurd fr z.2
/-- a, b = e1, e2 -/
theorem par_core {s1 s2 : Slot} {r1 : Rt s1.T} {r2 : Rt s2.T} {G1 : Ctx} {i j : Nat} {f1 : CT G → Res (s1.T × CT G)} {f2 : CT G → Res (s2.T × CT G)} {put2 : CT G → s2.T → CT G1} {put1 : CT G1 → s1.T → CT G'} (q1 : StR s1 r1) (q2 : StR s2 r2) (u2 : Upd G j s2 G1 put2) (u1 : Upd G1 i s1 G' put1) (hij : i ≠ j) (hS : A.S i ∧ A.S j)
    {o : St} {H : Hp} {D : Ends} (h : tS A G G' R (fun p => Res.bind (f1 p) fun y => Res.bind (f2 y.2) fun z => .ok (.nx (put1 (put2 z.2 z.1) y.1))) D o H) :
    tE A G r1 f1 o H fun v H1 => tE A G r2 f2 o H1 fun w H2 => D.nx ((o.set i (some v)).set j (some w)) H2 := by
  obtain ⟨p, L, w, cr, k⟩ := h
  refine ⟨p, L, w, cr, k.bind.imp fun y _ gy v L1 H1 s1' w1 c1 rl1 => ⟨y.2, L1, w1, c1, (gy.bind.step s1').imp fun z _ gz v2 L2 H2 s2' w2 c2 rl2 => ?_⟩⟩
  obtain ⟨L3, a1, a2, a3, a4⟩ := q2.ok A.X.K (0 + j) L1 H1 L2 H2 v2 z.1 w2 rl2
  have s13 : Stp L1 H1 L3 H2 := stp_more s2' a1
  have c3 := u2.ok _ _ _ z.1 v2 _ _ _ (cr_more a2 c2) a4
  obtain ⟨L4, b1, b2, b3, b4⟩ := q1.ok A.X.K (0 + i) L H L3 H2 v y.1 a3 (r1.post _ _ _ _ _ _ _ _ _ s13 rl1)
  have c4 := u1.ok _ _ _ y.1 v _ _ _ (cr_more b2 c3) b4
  rw [Nat.zero_add, Nat.zero_add, List.set_comm _ _ hij.symm] at c4
  exact (show nxP A G' R L H o D (.nx _) from gz) _ L4 H2 (stp_more (s1'.trans s13) b1) b3 c4 ((Keeps.set hS.1).trans (Keeps.set hS.2))
theorem sx_par {s1 s2 : Slot} {r1 : Rt s1.T} {r2 : Rt s2.T} {G1 : Ctx} {i j : Nat} {f1 : CT G → Res (s1.T × CT G)} {f2 : CT G → Res (s2.T × CT G)} {put2 : CT G → s2.T → CT G1} {put1 : CT G1 → s1.T → CT G'} {x y : Str} {a b : Expr} {px py pt pos : Pos} {kt k2 pt2} (q1 : StR s1 r1) (q2 : StR s2 r2) (u2 : Upd G j s2 G1 put2) (u1 : Upd G1 i s1 G' put1) (hij : i ≠ j) (hS : A.S i ∧ A.S j)
    (hi : A.X.N[i]? = some x) (hj : A.X.N[j]? = some y) (hx : A.X.env.scope.names.lookup x = some .local) (hy : A.X.env.scope.names.lookup y = some .local) (h1 : EX A G a r1 f1) (h2 : EX A G b r2 f2)
    (hw : swappedStores [.Tuple [.Name x px, .Name y py] kt pt] (.Tuple [a, b] k2 pt2) A.X.env = pure (some [x, y]))
    (hs : swapsWithSole [.Tuple [.Name x px, .Name y py] kt pt] (.Tuple [a, b] k2 pt2) pos.line A.X.env = pure false := by rfl)
    (sa : starEach [a, b] A.X.env = (false, eval a A.X.env) :: starEach [b] A.X.env := by rfl) (sb : starEach [b] A.X.env = (false, eval b A.X.env) :: starEach [] A.X.env := by rfl) :
    SX A G (.Assign [.Tuple [.Name x px, .Name y py] kt pt] (.Tuple [a, b] k2 pt2) pos) G' R (fun p => Res.bind (f1 p) fun y => Res.bind (f2 y.2) fun z => .ok (.nx (put1 (put2 z.2 z.1) y.1))) :=
  ps_weak (ps_par A.calm A.nd hi hj hij hx hy (pa_cons h1 (pa_cons h2 pa_nil sb) sa) hw hs) fun D o H q => by
    have := par_core q1 q2 u2 u1 hij hS q
    obtain ⟨p, L, w, cr, k⟩ := this
    exact ⟨p, L, w, cr, k.imp fun y _ g v L' H' s' w' c' rl => by
      obtain ⟨p2, L2, w2, c2, k2⟩ := g v L' H' s' w' c' rl
      exact ⟨p2, L2, w2, c2, k2.imp fun z _ g2 v2 L3 H3 s3 w3 c3 rl3 => ⟨v, v2, rfl, g2 v2 L3 H3 s3 w3 c3 rl3⟩⟩⟩
theorem par3_core {s1 s2 s3 : Slot} {r1 : Rt s1.T} {r2 : Rt s2.T} {r3 : Rt s3.T} {G1 G2 : Ctx} {i j l : Nat} {f1 : CT G → Res (s1.T × CT G)} {f2 : CT G → Res (s2.T × CT G)} {f3 : CT G → Res (s3.T × CT G)} {put3 : CT G → s3.T → CT G1} {put2 : CT G1 → s2.T → CT G2} {put1 : CT G2 → s1.T → CT G'}
    (q1 : StR s1 r1) (q2 : StR s2 r2) (q3 : StR s3 r3) (u3 : Upd G l s3 G1 put3) (u2 : Upd G1 j s2 G2 put2) (u1 : Upd G2 i s1 G' put1) (hij : i ≠ j ∧ i ≠ l ∧ j ≠ l) (hS : A.S i ∧ A.S j ∧ A.S l)
    {o : St} {H : Hp} {D : Ends} (h : tS A G G' R (fun p => Res.bind (f1 p) fun y => Res.bind (f2 y.2) fun z => Res.bind (f3 z.2) fun u => .ok (.nx (put1 (put2 (put3 u.2 u.1) z.1) y.1))) D o H) :
    tE A G r1 f1 o H fun v H1 => tE A G r2 f2 o H1 fun w H2 => tE A G r3 f3 o H2 fun u H3 => D.nx (((o.set i (some v)).set j (some w)).set l (some u)) H3 := by
  obtain ⟨p, L, w, cr, k⟩ := h
  refine ⟨p, L, w, cr, k.bind.imp fun y _ gy v L1 H1 s1' w1 c1 rl1 => ⟨y.2, L1, w1, c1, (gy.bind.step s1').imp fun z _ gz v2 L2 H2 s2' w2 c2 rl2 => ⟨z.2, L2, w2, c2, (gz.bind.step (s1'.trans s2')).imp fun u _ gu v3 L3 H3 s3' w3 c3 rl3 => ?_⟩⟩⟩
  obtain ⟨L4, a1, a2, a3, a4⟩ := q3.ok A.X.K (0 + l) L2 H2 L3 H3 v3 u.1 w3 rl3
  have t24 : Stp L2 H2 L4 H3 := stp_more s3' a1
  have c4 := u3.ok _ _ _ u.1 v3 _ _ _ (cr_more a2 c3) a4
  obtain ⟨L5, b1, b2, b3, b4⟩ := q2.ok A.X.K (0 + j) L1 H1 L4 H3 v2 z.1 a3 (r2.post _ _ _ _ _ _ _ _ _ t24 rl2)
  have t15 : Stp L1 H1 L5 H3 := stp_more (s2'.trans t24) b1
  have c5 := u2.ok _ _ _ z.1 v2 _ _ _ (cr_more b2 c4) b4
  obtain ⟨L6, d1, d2, d3, d4⟩ := q1.ok A.X.K (0 + i) L H L5 H3 v y.1 b3 (r1.post _ _ _ _ _ _ _ _ _ t15 rl1)
  have c6 := u1.ok _ _ _ y.1 v _ _ _ (cr_more d2 c5) d4
  rw [Nat.zero_add, Nat.zero_add, Nat.zero_add, List.set_comm _ _ hij.2.2.symm, List.set_comm _ _ hij.2.1.symm, List.set_comm _ _ hij.1.symm] at c6
  exact (show nxP A G' R L H o D (.nx _) from gu) _ L6 H3 (stp_more (s1'.trans t15) d1) d3 c6 (((Keeps.set hS.1).trans (Keeps.set hS.2.1)).trans (Keeps.set hS.2.2))
theorem sx_par3 {s1 s2 s3 : Slot} {r1 : Rt s1.T} {r2 : Rt s2.T} {r3 : Rt s3.T} {G1 G2 : Ctx} {i j l : Nat} {f1 : CT G → Res (s1.T × CT G)} {f2 : CT G → Res (s2.T × CT G)} {f3 : CT G → Res (s3.T × CT G)} {put3 : CT G → s3.T → CT G1} {put2 : CT G1 → s2.T → CT G2} {put1 : CT G2 → s1.T → CT G'} {x y z : Str} {a b c : Expr} {px py pz pt pos : Pos} {kt k2 pt2}
    (q1 : StR s1 r1) (q2 : StR s2 r2) (q3 : StR s3 r3) (u3 : Upd G l s3 G1 put3) (u2 : Upd G1 j s2 G2 put2) (u1 : Upd G2 i s1 G' put1) (hij : i ≠ j ∧ i ≠ l ∧ j ≠ l) (hS : A.S i ∧ A.S j ∧ A.S l)
    (hi : A.X.N[i]? = some x) (hj : A.X.N[j]? = some y) (hl : A.X.N[l]? = some z) (hx : A.X.env.scope.names.lookup x = some .local) (hy : A.X.env.scope.names.lookup y = some .local) (hz : A.X.env.scope.names.lookup z = some .local) (h1 : EX A G a r1 f1) (h2 : EX A G b r2 f2) (h3 : EX A G c r3 f3)
    (hw : swappedStores [.Tuple [.Name x px, .Name y py, .Name z pz] kt pt] (.Tuple [a, b, c] k2 pt2) A.X.env = pure (some [x, y, z]))
    (hs : swapsWithSole [.Tuple [.Name x px, .Name y py, .Name z pz] kt pt] (.Tuple [a, b, c] k2 pt2) pos.line A.X.env = pure false := by rfl)
    (sa : starEach [a, b, c] A.X.env = (false, eval a A.X.env) :: starEach [b, c] A.X.env := by rfl) (sb : starEach [b, c] A.X.env = (false, eval b A.X.env) :: starEach [c] A.X.env := by rfl) (sc : starEach [c] A.X.env = (false, eval c A.X.env) :: starEach [] A.X.env := by rfl) :
    SX A G (.Assign [.Tuple [.Name x px, .Name y py, .Name z pz] kt pt] (.Tuple [a, b, c] k2 pt2) pos) G' R (fun p => Res.bind (f1 p) fun y => Res.bind (f2 y.2) fun z => Res.bind (f3 z.2) fun u => .ok (.nx (put1 (put2 (put3 u.2 u.1) z.1) y.1))) :=
  ps_weak (ps_par3 A.calm A.nd hi hj hl hij.1 hij.2.1 hij.2.2 hx hy hz (pa_cons h1 (pa_cons h2 (pa_cons h3 pa_nil sc) sb) sa) hw hs) fun D o H q => by
    obtain ⟨p, L, w, cr, k⟩ := par3_core q1 q2 q3 u3 u2 u1 hij hS q
    exact ⟨p, L, w, cr, k.imp fun y _ g v L' H' s' w' c' rl => by
      obtain ⟨p2, L2, w2, c2, k2⟩ := g v L' H' s' w' c' rl
      refine ⟨p2, L2, w2, c2, k2.imp fun z _ g2 v2 L3 H3 s3 w3 c3 rl3 => ?_⟩
      obtain ⟨p3, L4, w4, c4, k4⟩ := g2 v2 L3 H3 s3 w3 c3 rl3
      exact ⟨p3, L4, w4, c4, k4.imp fun u _ g4 v3 L5 H5 s5 w5 c5 rl5 => ⟨v, v2, v3, rfl, g4 v3 L5 H5 s5 w5 c5 rl5⟩⟩⟩
/-- x = [.. for ..] on one line -/
theorem st_reads {s : Slot} {r : Rt s.T} {te : TE} {i : Nat} {f : CT G → Res (s.T × CT G)} {put : CT G → s.T → CT G'} (q1 : StR s r) (u : Upd G i s G' put) (hS : A.S i) (ht : ∀ o H Q, tE A G r f o H Q → te o H Q) {D : Ends} {o : St} {H : Hp}
    (h : tS A G G' R (fun p => Res.bind (f p) fun y => .ok (.nx (put y.2 y.1))) D o H) : tAsg te (gName i) D o H := by
  obtain ⟨p, L, w, cr, k⟩ := h
  refine ht o H _ ⟨p, L, w, cr, k.bind.imp fun y _ g v L1 H1 s1 w1 c1 rl => ?_⟩
  obtain ⟨L2, a1, a2, a3, a4⟩ := q1.ok A.X.K (0 + i) L H L1 H1 v y.1 w1 rl
  have c2 := u.ok _ _ _ y.1 v _ _ _ (cr_more a2 c1) a4
  rw [Nat.zero_add] at c2
  exact (show nxP A G' R L H o D (.nx _) from g) _ L2 H1 (stp_more s1 a1) a3 c2 (Keeps.set hS)
theorem sx_setLc {α β : Type} {ci : Cod α} {ce : Cod β} {G0 G1 : Ctx} {i : Nat} {x : Str} {px spos : Pos} {elt tg iter : Expr} {scope : Scope} {own : List (Str × Nat)} {pos : Pos} {fi : CT G → Res (List α × CT G)} {dn : CT G → CT G0} {bk : CT G → CT G0 → CT G} {pu : CT G0 → α → CT G1} {fe : CT G1 → Res (β × CT G1)} {dn1 : CT G1 → CT G0} {bk1 : CT G1 → CT G0 → CT G1} {put : CT G → List β → CT G'}
    (u : Upd G i (sOwn PAny (oL ce)) G' put) (hx : A.X.N[i]? = some x) (hxl : A.X.env.scope.names.lookup x = some .local) (hS : A.S i)
    (hi : IX A G tg iter ci fi) (ok : BlkOk A.X.N A.X.env.scope scope own) (wc : WipeC 0 (own.map (fun x : Str × Nat => x.2)) G G0 dn bk)
    (hg : ∀ s H C cl fp, GX (A.blk (own.map (fun x : Str × Nat => x.2)) s H scope C cl fp) G0 tg ci G1 pu) (he : ∀ s H C cl fp, EX (A.blk (own.map (fun x : Str × Nat => x.2)) s H scope C cl fp) G1 elt (rV ce) fe)
    (wc1 : WipeC 0 (own.map (fun x : Str × Nat => x.2)) G1 G0 dn1 bk1) (hsw : swapsWith (.ListComp elt [⟨tg, iter, [], 0⟩] scope pos) (some (.Name x px)) spos.line A.X.env = pure true) (hs : ∀ x, foldedSetIterable iter A.X.env x = pure x := by intro _; rfl) :
    SX A G (.Assign [.Name x px] (.ListComp elt [⟨tg, iter, [], 0⟩] scope pos) spos) G' R (fun p => Res.bind (Res.bind (fi p) fun y => Res.bind (mapR y.1 (fun x q => Res.bind (fe (pu q x)) fun z => .ok (z.1, dn1 z.2)) (dn y.2)) fun z => .ok (z.1, bk y.2 z.2)) fun y => .ok (.nx (put y.2 y.1))) := by
  refine ps_weak (ps_setLc A.calm A.nd hx hxl hsw hi ok (g := tG (A.blk (own.map (fun x : Str × Nat => x.2)) A.X.s_0 A.X.H_0 scope 0 [] []) ci G0 G1 pu) (tt := tT (A.blk (own.map (fun x : Str × Nat => x.2)) A.X.s_0 A.X.H_0 scope 0 [] []) G1 (fun q => .ok (true, q))) (te := tE (A.blk (own.map (fun x : Str × Nat => x.2)) A.X.s_0 A.X.H_0 scope 0 [] []) G1 (rV ce) fe)
    (fun s H C cl fp => hg s H C cl fp) (fun s H C cl fp => pts_weak pts_nil fun o H Q ⟨p, L, w, cr, k⟩ => k L H Stp.refl w cr) (fun s H C cl fp => he s H C cl fp) hs) fun D o H q => st_reads st_o u hS (fun o H Q q => lc_reads (A := A) (A.blk (own.map (fun x : Str × Nat => x.2)) A.X.s_0 A.X.H_0 scope 0 [] []) rfl blk_S wc wc1 ?_) q
  have e : ∀ (y : List α) (b : CT G0), lcL y (fun x q => Res.bind ((fun q => Res.ok (true, q)) (pu q x)) fun t => if t.1 = true then Res.bind (fe t.2) fun z => .ok (some z.1, dn1 z.2) else .ok (none, dn1 t.2)) b = mapR y (fun x q => Res.bind (fe (pu q x)) fun z => .ok (z.1, dn1 z.2)) b := fun y b => by
    rw [← lcL_some]
    simp only [Res.bind_ok, Res.bind_assoc, if_true]
  simp only [e]
  exact q
/-! ### enumerate -/
/-! ### methods of values -/
/-- a method that changes nothing -/
def MtV (A : Amb) (T id : String) {α β γ : Type} (c : Cod α) (as : ArgC β) (k : α → β → Option γ) (r : Rt γ) : Prop :=
  ∃ t, MtR A.X id t ∧ (∀ L H v x, c.see A.X.K (rd L H) v x → tyV A.X.K T v H) ∧ ∀ (L : Lab) (H : Hp) (v : V) (ws : List V) (x : α) (y : β) (z : γ) (Q : VK), Wf L H → c.see A.X.K (rd L H) v x → as.see A.X.K (rd L H) ws y → k x y = some z →
    (∀ v L' H', Ext L H L' H' → Wf L' H' → r.rel A.X.K L H L' H' v z → Q v H') → t v ws H Q
theorem mtv_core {α β γ : Type} {c : Cod α} {as : ArgC β} {k : α → β → Option γ} {r : Rt γ} {T : String} {t : V → List V → Hp → VK → Prop} {f : CT G → Res (α × CT G)} {fa : CT G → Res (β × CT G)} (ty : ∀ L H v x, c.see A.X.K (rd L H) v x → tyV A.X.K T v H)
    (pr : ∀ (L : Lab) (H : Hp) (v : V) (ws : List V) (x : α) (y : β) (z : γ) (Q : VK), Wf L H → c.see A.X.K (rd L H) v x → as.see A.X.K (rd L H) ws y → k x y = some z → (∀ v L' H', Ext L H L' H' → Wf L' H' → r.rel A.X.K L H L' H' v z → Q v H') → t v ws H Q) {o : St} {H : Hp} {Q : VK}
    (q : tE A G r (fun p => Res.bind (f p) fun y => Res.bind (fa y.2) fun z => Res.bind (ofO (k y.1 z.1)) fun w => .ok (w, z.2)) o H Q) : tE A G (rV c) f o H fun x H1 => tyV A.X.K T x H1 ∧ tA A G as fa o H1 fun xs H2 => t x xs H2 Q := by
  obtain ⟨p, L, w, cr, kk⟩ := q
  refine run1 w cr kk fun x p1 v L1 H1 s1 w1 c1 r1 g1 => ⟨ty _ _ _ _ r1, p1, L1, w1, c1, g1.bind.imp fun y _ gy ws L2 H2 s2 w2 c2 r2 => ?_⟩
  obtain ⟨z, e, g3⟩ := good_ofO gy
  exact pr L2 H2 v ws x y.1 z Q w2 (c.mono _ _ _ _ _ s2.rd r1) r2 e fun v L' H' ex w' rl => g3 v L' H' ((s1.trans s2).trans ex.stp) w' (c2.ext w2 ex) (r.pre _ _ _ _ _ _ _ _ _ (s1.trans s2) rl)
theorem ex_mv {α β γ : Type} {T id : String} {name : Str} {a e : Expr} {es : List Expr} {ap cp : Pos} {c : Cod α} {as : ArgC β} {k : α → β → Option γ} {r : Rt γ} {f : CT G → Res (α × CT G)} {fa : CT G → Res (β × CT G)} (h : MtV A T id c as k r)
    (pa : PlainAttrs T) (slot : PySem.Slot T name id) (hty : typeOf (.builtin id) = pure (.type "method_descriptor")) (ho : EX A G a (rV c) f) (ha : AX A G (e :: es) as fa)
    (hbase : attributeBase a name A.X.env (eval a A.X.env) = eval a A.X.env := by rfl)
    (hfew : ((backTo cp (starEach (e :: es) A.X.env)).all (fun x => !x.1) && (backToKw cp (keywordEach [] A.X.env)).all (fun x => x.1.isSome) && decide ((e :: es).length + ([] : List Keyword).length + (if ([] : List Keyword).isEmpty then 0 else 1) < 30)) = true := by rfl)
    (hline : (ap.endLine == cp.line) = true := by rfl) (hs : starEach (e :: es) A.X.env = (false, eval e A.X.env) :: starEach es A.X.env := by rfl) (hplain : (backTo cp (starEach es A.X.env)).any (·.1) = false := by rfl) :
    EX A G (.Call (.Attribute a name ap) (e :: es) [] cp) r (fun p => Res.bind (f p) fun y => Res.bind (fa y.2) fun z => Res.bind (ofO (k y.1 z.1)) fun w => .ok (w, z.2)) := by
  obtain ⟨t, hr, ty, pr⟩ := h
  exact pe_weak (pe_bm pa slot hty hr ho ha hbase hfew hline hs hplain) fun o H Q q => mtv_core ty pr q
/-- the first place of an equal one -/
def idxO {α β : Type} (t : α → PyData) (u : β → PyData) (xs : List α) (y : β) : Option Int := (xs.findIdx? fun x => PyData.eqv (t x) (u y)).map fun j => (j : Int)
theorem mv_index {α β : Type} {c : Cod α} {d : Cod β} {t : α → PyData} {u : β → PyData} {n m : Nat} (h1 : DC c t n) (h2 : DC d u m) (hn : n + 1 ≤ 64) (hm : m ≤ 64) : MtV A "list" "list.index" (cL c) (aOne d) (idxO t u) (rV cI) :=
  ⟨_, mt_indexD room65, fun L H v x ⟨a, vs, e, hq, _⟩ => by subst e; exact .inl ⟨rfl, _, SqL.of (rd_sub _ _ hq)⟩, fun L H v ws x y z Q w q1 ⟨v2, e2, q2⟩ hk q => by
    subst e2
    unfold idxO at hk
    cases ej : x.findIdx? fun z => PyData.eqv (t z) (u y) with
    | none => rw [ej] at hk; cases hk
    | some j =>
      rw [ej] at hk
      cases hk
      obtain ⟨hj, hp, hno⟩ := List.findIdx?_eq_some_iff_getElem.mp ej
      have D1 := dc_l h1 _ _ _ _ q1
      have Z1 := shaped_of (dc_l h1) hn q1
      obtain ⟨a, vs, rfl, _⟩ := q1
      exact ⟨a, v2, u y, x.map t, j, t x[j], rfl, rfl, dp_same rd_sub D1.1, dp_same rd_sub (h2 _ _ _ _ q2).1, Z1, shaped_of h2 hm q2, by rw [List.getElem?_map, List.getElem?_eq_getElem hj]; rfl, by simpa using hp, fun i z' hi hz => by
        have hil : i < x.length := by omega
        rw [List.getElem?_map, List.getElem?_eq_getElem hil] at hz
        cases hz
        simpa using hno i hi, q _ L H Ext.refl w rfl⟩⟩
/-! ### in, for tuples of flat things -/
def FlatQ {α : Type} [DecidableEq α] (c : Cod α) : Prop := ∀ K R v w x y, c.see K R v x → c.see K R w y → flatV v = true ∧ eqV w v = decide (x = y)
theorem fq_i : FlatQ cI := fun K R v w x y h1 h2 => by
  cases h1; cases h2
  refine ⟨rfl, ?_⟩
  show decide (y = x) = _
  exact decide_eq_decide.mpr eq_comm
theorem fq_s : FlatQ cS := fun K R v w x y h1 h2 => by
  obtain ⟨rfl, _⟩ := h1; obtain ⟨rfl, _⟩ := h2
  refine ⟨rfl, ?_⟩
  show (y == x) = _
  by_cases h : x = y
  · rw [decide_eq_true h, h]; exact beq_self_eq_true y
  · rw [decide_eq_false h]; exact beq_false_of_ne fun e => h e.symm
theorem flat_all {α : Type} [DecidableEq α] {c : Cod α} (h : FlatQ c) {K : Frag} {R : Hp} {v : V} {x : α} (hv : c.see K R v x) : ∀ {vs : List V} {xs : List α}, Paired (fun v x => c.see K R v x) vs xs → vs.all flatV = true ∧ inV v vs = decide (x ∈ xs)
  | _, _, .nil => ⟨rfl, by simp [inV]⟩
  | _, _, .cons r t => by
    obtain ⟨h1, h2⟩ := flat_all h hv t
    obtain ⟨h3, _⟩ := h K R _ _ _ _ r r
    obtain ⟨_, h4⟩ := h K R _ _ _ _ hv r
    refine ⟨by rw [List.all_cons, h3, h1]; rfl, ?_⟩
    show (eqV _ v || inV v _) = _
    rw [h2, h4, ← Bool.decide_or]
    exact decide_eq_decide.mpr List.mem_cons.symm
theorem ot_notInTV {α : Type} [DecidableEq α] {c : Cod α} (h : FlatQ c) : OpT A (compareOp .NotIn) c (cTV c) (fun x ys => some (!decide (x ∈ ys))) (rV cB) := ⟨_, op_notIn_seq, fun L H vx vy x y z Q w q1 ⟨a, vs, e, hs, hl, hp⟩ h3 q => by
  subst e
  cases h3
  obtain ⟨t1, t2⟩ := flat_all h q1 hp
  exact ⟨a, vs, rfl, .inr (hs.same rd_sub).sq, (h _ _ _ _ _ _ q1 q1).1, t1, q _ L H Ext.refl w (by show V.bl _ = V.bl _; rw [if_pos rfl, t2])⟩⟩
theorem ot_inLF {α : Type} [DecidableEq α] {c : Cod α} (h : FlatQ c) : OpT A (compareOp .In) c (cL c) (fun x ys => some (decide (x ∈ ys))) (rV cB) := ⟨_, op_in_seq, fun L H vx vy x y z Q w q1 ⟨a, vs, e, hs, hl, hp⟩ h3 q => by
  subst e
  cases h3
  obtain ⟨t1, t2⟩ := flat_all h q1 hp
  exact ⟨a, vs, rfl, .inl (SqL.of (rd_sub _ _ hs)), (h _ _ _ _ _ _ q1 q1).1, t1, q _ L H Ext.refl w (by show V.bl _ = V.bl _; rw [if_neg Bool.false_ne_true, t2])⟩⟩
theorem ot_notInLF {α : Type} [DecidableEq α] {c : Cod α} (h : FlatQ c) : OpT A (compareOp .NotIn) c (cL c) (fun x ys => some (!decide (x ∈ ys))) (rV cB) := ⟨_, op_notIn_seq, fun L H vx vy x y z Q w q1 ⟨a, vs, e, hs, hl, hp⟩ h3 q => by
  subst e
  cases h3
  obtain ⟨t1, t2⟩ := flat_all h q1 hp
  exact ⟨a, vs, rfl, .inl (SqL.of (rd_sub _ _ hs)), (h _ _ _ _ _ _ q1 q1).1, t1, q _ L H Ext.refl w (by show V.bl _ = V.bl _; rw [if_pos rfl, t2])⟩⟩
theorem sub_ttv {α : Type} {c : Cod α} {n : Nat} (hn : n ≤ sizeLine) : Sub (cT (aAll c n)) (cTV c) id := fun K R v x ⟨a, vs, e, h, h1, h2⟩ => ⟨a, vs, e, h, by rw [h1]; exact hn, h2⟩
end
end AC
set_option Elab.async false
set_option linter.all false
set_option maxRecDepth 100000
/-! TL13: dicts, instances, repr. -/
namespace AC
open PySem L2 PyProof
/-! ### dicts -/
/-- keys: ints or texts -/
structure KeyC (κ : Type) where
  c : Cod κ
  key : κ → Key
  inj : ∀ a b, key a = key b → a = b
  is : ∀ K R v x, c.see K R v x → v = kV (key x)
  fixed : ∀ K R R' v x, c.see K R v x → c.see K R' v x
def kI : KeyC Int := ⟨cI, .inl, fun _ _ h => Sum.inl.inj h, fun _ _ _ _ h => h, fun _ _ _ _ _ h => h⟩
def EntR {κ α : Type} (kc : KeyC κ) (c : Cod α) (K : Frag) (R : Hp) (e : Key × V) (x : κ × α) : Prop := e.1 = kc.key x.1 ∧ kc.c.see K R (kV e.1) x.1 ∧ c.see K R e.2 x.2
theorem EntR.mono {κ α : Type} {kc : KeyC κ} {c : Cod α} {K : Frag} {R R' : Hp} (s : Same R R') {e : Key × V} {x : κ × α} (h : EntR kc c K R e x) : EntR kc c K R' e x := ⟨h.1, kc.fixed _ _ _ _ _ h.2.1, c.mono _ _ _ _ _ s h.2.2⟩
/-- a dict that stays as it is -/
def cD {κ α : Type} (kc : KeyC κ) (c : Cod α) : Cod (List (κ × α)) := ⟨fun K R v xs => ∃ a kvs, v = .ref a ∧ R a = some (.dK kvs) ∧ kvs.length ≤ sizeLine ∧ Paired (EntR kc c K R) kvs xs, fun K R R' v x s ⟨a, kvs, e, h, hl, h'⟩ => ⟨a, kvs, e, s _ _ h, hl, paired_mono (fun _ _ q => q.mono s) h'⟩⟩
def oD {κ α : Type} (kc : KeyC κ) (c : Cod α) : OCod (List (κ × α)) := ⟨fun K R M H l v xs => ∃ p kvs, v = .ref p ∧ M p = some l ∧ H p = some (.dK kvs) ∧ kvs.length ≤ sizeLine ∧ Paired (EntR kc c K R) kvs xs,
  fun K R R' M M' H H' l v x s t ⟨p, kvs, e, hm, hp, hl, h'⟩ => ⟨p, kvs, e, (t p l hm).1, (t p l hm).2.trans hp, hl, paired_mono (fun _ _ q => q.mono s) h'⟩⟩
theorem frz_d {κ α : Type} {kc : KeyC κ} {c : Cod α} : Frz (oD kc c) (cD kc c) := fun K R R' M H v x s t ⟨p, kvs, e, hm, hp, hl, h'⟩ => ⟨p, kvs, e, (t p _ hm rfl).trans hp, hl, paired_mono (fun _ _ q => q.mono s) h'⟩
theorem ho_d {κ α : Type} {kc : KeyC κ} {c : Cod α} (h : HardC c) : HardO (oD kc c) := fun K R1 R2 M H l v x s ⟨p, kvs, e, hm, hp, hl, q⟩ => ⟨p, kvs, e, hm, hp, hl, paired_mono (fun _ _ z => ⟨z.1, kc.fixed _ _ _ _ _ z.2.1, h K R1 R2 _ _ s z.2.2⟩) q⟩
def getD {κ α : Type} [DecidableEq κ] (xs : List (κ × α)) (k : κ) : Option α := (xs.find? fun e => decide (e.1 = k)).map (·.2)
def putD {κ α : Type} [DecidableEq κ] (xs : List (κ × α)) (k : κ) (v : α) : List (κ × α) := if (xs.any fun e => decide (e.1 = k)) = true then xs.map (fun e => if e.1 = k then (e.1, v) else e) else xs ++ [(k, v)]
section
variable {κ α : Type} [DecidableEq κ] {kc : KeyC κ} {c : Cod α} {K : Frag} {R : Hp}
theorem key_dec {e : Key × V} {x : κ × α} (h : EntR kc c K R e x) (k : κ) : decide (e.1 = kc.key k) = decide (x.1 = k) := by
  rw [h.1]
  exact decide_eq_decide.mpr ⟨fun z => kc.inj _ _ z, fun z => by rw [z]⟩
theorem ent_get (k : κ) : ∀ {kvs : List (Key × V)} {xs : List (κ × α)}, Paired (EntR kc c K R) kvs xs → match getD xs k with | some x => ∃ v, valV kvs (kc.key k) = some v ∧ c.see K R v x | none => valV kvs (kc.key k) = none
  | _, _, .nil => rfl
  | e :: kvs, x :: xs, .cons r t => by
    have ih := ent_get k t
    have hd := key_dec r k
    by_cases hx : x.1 = k
    · have e1 : getD (x :: xs) k = some x.2 := by unfold getD; rw [List.find?_cons_of_pos (by simpa using hx)]; rfl
      rw [e1]
      exact ⟨e.2, valV_pos (by rw [r.1, hx]), r.2.2⟩
    · have e1 : getD (x :: xs) k = getD xs k := by unfold getD; rw [List.find?_cons_of_neg (by simpa using hx)]
      rw [e1, valV_neg (fun z => hx (kc.inj _ _ (r.1.symm.trans z)))]
      exact ih
theorem ent_any (k : κ) : ∀ {kvs : List (Key × V)} {xs : List (κ × α)}, Paired (EntR kc c K R) kvs xs → (kvs.any fun e => decide (e.1 = kc.key k)) = xs.any fun e => decide (e.1 = k)
  | _, _, .nil => rfl
  | e :: kvs, x :: xs, .cons r t => by rw [List.any_cons, List.any_cons, ent_any k t, key_dec r k]
theorem ent_map {k : κ} {v : V} {y : α} (hv : c.see K R v y) : ∀ {kvs : List (Key × V)} {xs : List (κ × α)}, Paired (EntR kc c K R) kvs xs → Paired (EntR kc c K R) (kvs.map fun e => if e.1 = kc.key k then (e.1, v) else e) (xs.map fun e => if e.1 = k then (e.1, y) else e)
  | _, _, .nil => .nil
  | e :: kvs, x :: xs, .cons r t => by
    refine .cons ?_ (ent_map hv t)
    show EntR kc c K R (if e.1 = kc.key k then (e.1, v) else e) (if x.1 = k then (x.1, y) else x)
    by_cases hx : x.1 = k
    · rw [if_pos hx, if_pos (by rw [r.1, hx])]
      exact ⟨r.1, r.2.1, hv⟩
    · rw [if_neg hx, if_neg (fun z => hx (kc.inj _ _ (r.1.symm.trans z)))]
      exact r
theorem ent_put {k : κ} {w v : V} {y : α} (hk : kc.c.see K R w k) (hv : c.see K R v y) {kvs : List (Key × V)} {xs : List (κ × α)} (h : Paired (EntR kc c K R) kvs xs) : Paired (EntR kc c K R) (putK kvs (kc.key k) v) (putD xs k y) := by
  unfold putK putD
  rw [ent_any k h]
  split
  · exact ent_map hv h
  · exact paired_append h (.cons ⟨rfl, by rw [← kc.is _ _ _ _ hk]; exact hk, hv⟩ .nil)
theorem ent_merge : ∀ {kvs : List (Key × V)} {xs : List (κ × α)} {kvs0 : List (Key × V)} {xs0 : List (κ × α)}, Paired (EntR kc c K R) kvs xs → Paired (EntR kc c K R) kvs0 xs0 → Paired (EntR kc c K R) (mergeK kvs0 kvs) (xs.foldl (fun acc e => putD acc e.1 e.2) xs0)
  | _, _, _, _, .nil, h => h
  | e :: kvs, x :: xs, _, _, .cons r t, h => by
    show Paired _ (mergeK (putK _ e.1 e.2) kvs) (xs.foldl (fun acc e => putD acc e.1 e.2) (putD _ x.1 x.2))
    refine ent_merge t ?_
    have := ent_put (k := x.1) r.2.1 r.2.2 h
    rw [← r.1] at this
    exact this
end
section
variable {A : Amb} {G G' : Ctx} {ρ : Type} {R : Rr ρ}
theorem room1 : A.X.A.units + 1 < cLine := by have := A.room.un; omega
/-- d[k] -/
theorem ex_ixD {κ α : Type} [DecidableEq κ] {kc : KeyC κ} {c : Cod α} {a b : Expr} {pos : Pos} {f : CT G → Res (List (κ × α) × CT G)} {g : CT G → Res (κ × CT G)} (ha : EX A G a (rV (cD kc c)) f) (hb : EX A G b (rV kc.c) g) (hs : NoSl b) :
    EX A G (.Subscript a b pos) (rV c) (fun p => Res.bind (f p) fun y => Res.bind (g y.2) fun z => Res.bind (ofO (getD y.1 z.1)) fun w => .ok (w, z.2)) :=
  pe_weak (pe_dget room1 ha hb hs) fun o H Q q => bin_core (r := rV c) (r2 := fun x y H2 Q => ∃ a v, x = .ref a ∧ DGet H2 a y (some v) ∧ Q v H2) (fun L H vx vy x y z Q w h1 h2 h3 q => by
    obtain ⟨a, kvs, rfl, hq, hl, hp⟩ := h1
    have := ent_get y hp
    rw [h3] at this
    obtain ⟨v, e1, e2⟩ := this
    refine ⟨a, v, rfl, ?_, q v L H Ext.refl w e2⟩
    rw [kc.is _ _ _ _ h2, ← e1]
    exact DGet.k (rd_sub _ _ hq)) q
theorem ot_notInD {κ α : Type} [DecidableEq κ] {kc : KeyC κ} {c : Cod α} : OpT A (compareOp .NotIn) kc.c (cD kc c) (fun k xs => some (getD xs k).isNone) (rV cB) :=
  ⟨fun y x H Q => ∃ a o, x = .ref a ∧ DGet H a y o ∧ Q (.bl (!o.isSome)) H, fun pins s o H x y v u Q I rx ry ⟨a, ov, ex, g, q⟩ => by
    subst ex
    obtain rfl : u = Value.ref a := ry
    exact d_notIn room1 I g rx fun s3 I3 => ⟨.bl (!ov.isSome), H, I3, rfl, q⟩, fun L H vx vy x y z Q w h1 h2 h3 q => by
    obtain ⟨a, kvs, rfl, hq, hl, hp⟩ := h2
    cases h3
    refine ⟨a, _, rfl, by rw [kc.is _ _ _ _ h1]; exact DGet.k (rd_sub _ _ hq), q _ L H Ext.refl w ?_⟩
    have := ent_get x hp
    cases e : getD y x with
    | none => rw [e] at this; show V.bl _ = V.bl _; rw [this]; rfl
    | some z => rw [e] at this; obtain ⟨v, e1, _⟩ := this; show V.bl _ = V.bl _; rw [e1]; rfl⟩
/-- displays of dicts -/
def tK {κ α : Type} (A : Amb) (G : Ctx) (kc : KeyC κ) (c : Cod α) (f : CT G → Res (List (κ × α) × CT G)) (o : St) (H : Hp) (Q : List (V × V) → Hp → Prop) : Prop :=
  ∃ (p : CT G) (L : Lab), Wf L H ∧ CR A.X.K 0 G p L H o ∧ Good A (f p) L H o fun y => ∀ (ps : List (V × V)) (L' : Lab) (H' : Hp), Stp L H L' H' → Wf L' H' → CR A.X.K 0 G y.2 L' H' o → Paired (fun (q : V × V) x => kc.c.see A.X.K (rd L' H') q.1 x.1 ∧ c.see A.X.K (rd L' H') q.2 x.2) ps y.1 → Q ps H'
def KX {κ α : Type} (A : Amb) (G : Ctx) (pos : Pos) (keys : List (Option Expr)) (vals : List Expr) (kc : KeyC κ) (c : Cod α) (f : CT G → Res (List (κ × α) × CT G)) : Prop := ∃ trs, PPs A.X pos keys vals trs ∧ ∀ o H Q, tK A G kc c f o H Q → tPairs trs o H Q
theorem kx_nil {κ α : Type} {kc : KeyC κ} {c : Cod α} {pos : Pos} : KX A G pos [] [] kc c (fun p => .ok ([], p)) := ⟨[], pps_nil, fun o H Q ⟨p, L, w, cr, k⟩ => k [] L H Stp.refl w cr .nil⟩
theorem kx_cons {κ α : Type} {kc : KeyC κ} {c : Cod α} {pos : Pos} {a b : Expr} {keys : List (Option Expr)} {vals : List Expr} {f : CT G → Res (κ × CT G)} {g : CT G → Res (α × CT G)} {h : CT G → Res (List (κ × α) × CT G)} (ha : EX A G a (rV kc.c) f) (hb : EX A G b (rV c) g) (hr : KX A G pos keys vals kc c h) :
    KX A G pos (some a :: keys) (b :: vals) kc c (fun p => Res.bind (f p) fun y => Res.bind (g y.2) fun z => Res.bind (h z.2) fun u => .ok ((y.1, z.1) :: u.1, u.2)) := by
  obtain ⟨trs, h1, h2⟩ := hr
  refine ⟨_, pps_cons ha hb h1, fun o H Q ⟨p, L, w, cr, k⟩ => ?_⟩
  refine run1 w cr k fun x p1 v L1 H1 s1 w1 c1 r1 g1 => run1 w1 c1 g1 fun y p2 u L2 H2 s2 w2 c2 r2 g2 => ?_
  exact h2 _ _ _ ⟨p2, L2, w2, c2, g2.bind.imp fun z _ gz ps L3 H3 s3 w3 c3 r3 => gz ((v, u) :: ps) L3 H3 ((s1.trans s2).trans s3) w3 c3 (.cons ⟨kc.fixed _ _ _ _ _ r1, c.mono _ _ _ _ _ s3.rd r2⟩ r3)⟩
theorem ent_of {κ α : Type} {kc : KeyC κ} {c : Cod α} {K : Frag} {R : Hp} : ∀ {ps : List (V × V)} {xs : List (κ × α)}, Paired (fun (q : V × V) x => kc.c.see K R q.1 x.1 ∧ c.see K R q.2 x.2) ps xs → ∃ kvs : List (Key × V), ps = kvs.map (fun kv => (kV kv.1, kv.2)) ∧ Paired (EntR kc c K R) kvs xs
  | _, _, .nil => ⟨[], rfl, .nil⟩
  | q :: ps, x :: xs, .cons r t => by
    obtain ⟨kvs, e1, e2⟩ := ent_of t
    have hk := kc.is _ _ _ _ r.1
    refine ⟨(kc.key x.1, q.2) :: kvs, ?_, .cons ⟨rfl, by rw [← hk]; exact r.1, r.2⟩ e2⟩
    rw [List.map_cons, ← e1, ← hk]
theorem own_newD {κ α : Type} {kc : KeyC κ} {c : Cod α} {K : Frag} {L0 L : Lab} {H0 H : Hp} (w : Wf L H) {p : Addr} {kvs : List (Key × V)} {xs : List (κ × α)} (hL : L p = none) (hf : ¬ Frm L0 H0 p) (hl : kvs.length ≤ sizeLine) (hp : Paired (EntR kc c K (rd L H)) kvs xs) : OwnAt (oD kc c) K L0 H0 L (upd H p (.dK kvs)) (.ref p) xs := by
  have sm : Same (rd L H) (rd L (upd H p (.dK kvs))) := fun a ob qa => by
    obtain ⟨⟨l', e1⟩, e2⟩ := rd_of qa
    exact rd_mk e1 (by rw [upd_ne fun e => by rw [e, hL] at e1; cases e1]; exact e2)
  refine ⟨fun a => if a = p then some [] else none, fun a m e => ?_, p, kvs, rfl, if_pos rfl, upd_same, hl, paired_mono (fun _ _ q => q.mono sm) hp⟩
  have e : (if a = p then some ([] : List Nat) else none) = some m := e
  by_cases ea : a = p
  · rw [if_pos ea] at e; cases e
    rw [ea, upd_same]
    exact ⟨hL, trivial, hf⟩
  · rw [if_neg ea] at e; cases e
theorem ex_disp {κ α : Type} [DecidableEq κ] {kc : KeyC κ} {c : Cod α} {keys : List (Option Expr)} {vals : List Expr} {pos : Pos} {f : CT G → Res (List (κ × α) × CT G)} (h : KX A G pos keys vals kc c f) (hall : keys.all (·.isSome) = true := by rfl) (hl : keys.length = vals.length := by rfl) (h0 : keys ≠ [] := by exact fun e => nomatch e) (h15 : keys.length ≤ 15 := by decide) :
    EX A G (.Dict keys vals pos) (rO (oD kc c)) (fun p => Res.bind (f p) fun y => if y.1.length ≤ 15 then .ok (y.1.foldl (fun acc e => putD acc e.1 e.2) [], y.2) else .bad) := by
  obtain ⟨trs, h1, h2⟩ := h
  refine pe_weak (pe_disp h1 hall hl h0 h15) fun o H Q ⟨p, L, w, cr, k⟩ q hq => ?_
  obtain ⟨t1, t2⟩ := ext_new (o := .dK []) w hq
  refine h2 _ _ _ ⟨p, L, t2, cr.ext w t1, (k.bind.step t1.stp).imp fun y _ gy ps L' H' s' w' c' hp => ?_⟩
  have fq : Frm L (upd H q (.dK [])) q := ⟨by rw [upd_same]; simp, .inl (w.none hq)⟩
  obtain ⟨e1, e2⟩ := s' q fq
  rw [upd_same] at e2
  have e1 : L' q = none := e1.trans (w.none hq)
  obtain ⟨kvs, ek, he⟩ := ent_of hp
  have hlen := paired_len he
  by_cases hc : y.1.length ≤ 15
  · rw [if_pos hc] at gy
    refine ⟨e2, kvs, ek, by omega, ?_⟩
    have s2 : Stp L H L' (upd H' q (.dK (mergeK [] kvs))) := fun a f => by
      have ne : a ≠ q := fun e => f.1 (by rw [e]; exact hq)
      obtain ⟨z1, z2⟩ := s' a (t1.stp.frm f)
      exact ⟨z1, by rw [upd_ne ne, z2, upd_ne ne]⟩
    have w2 : Wf L' (upd H' q (.dK (mergeK [] kvs))) := ⟨fun a ha => by
      rw [upd_ne fun e => ha (by rw [e]; exact e1)]; exact w'.dom a ha, fun a k' l e => by
      rw [upd_ne fun e' => by rw [e', e1] at e; cases e]; exact w'.soft a k' l e⟩
    have sm : Same (rd L' H') (rd L' (upd H' q (.dK (mergeK [] kvs)))) := fun a ob qa => by
      obtain ⟨⟨l', z1⟩, z2⟩ := rd_of qa
      exact rd_mk z1 (by rw [upd_ne fun e => by rw [e, e1] at z1; cases z1]; exact z2)
    refine (show ∀ v L' H', _ from gy) (.ref q) L' _ s2 w2 (c'.keep sm fun a j l _ e => ⟨rfl, upd_ne fun e' => by rw [e', e1] at e; cases e⟩) ?_
    refine own_newD (L0 := L) (H0 := H) w' e1 (fun f => f.1 hq) ?_ (ent_merge he .nil)
    have := length_mergeK kvs []
    rw [List.length_nil] at this
    rw [line_eq]; omega
  · rw [if_neg hc] at gy; exact gy.elim
/-- x[k] = e, x a dict of one's own -/
def putO {κ α : Type} [DecidableEq κ] (xs : List (κ × α)) (k : κ) (v : α) : Option (List (κ × α)) := if xs.length < 16777216 then some (putD xs k v) else none
theorem sx_setD {κ α : Type} [DecidableEq κ] {kc : KeyC κ} {c : Cod α} {P : V → Prop} {i : Nat} {x : Str} {ek e : Expr} {p1 p2 pos : Pos} {g : CT G → List (κ × α)} {put : CT G → List (κ × α) → CT G} {fe : CT G → Res (α × CT G)} {fk : CT G → Res (κ × CT G)} (a : At G i (sOwn P (oD kc c)) g) (m : Mod G i (sOwn P (oD kc c)) put) (hN : A.X.N[i]? = some x) (hv : Vis A.X.env.scope x)
    (he : EX A G e (rV c) fe) (hk : EX A G ek (rV kc.c) fk) (hs : swapsWith e (some (.Subscript (.Name x p1) ek p2)) pos.line A.X.env = pure false) (hd : (x == ("__debug__" : Str)) = false := by decide) (hcd : (x == ("__classdict__" : Str)) = false := by decide) :
    SX A G (.Assign [.Subscript (.Name x p1) ek p2] e pos) G R (fun p => Res.bind (fe p) fun y => Res.bind (fk y.2) fun z => Res.bind (ofO (putO (g z.2) z.1 y.1)) fun xs => .ok (.nx (put z.2 xs))) := by
  refine ps_weak (ps_dput room1 (pe_var hN hv hd hcd) hk he hs) fun D o H ⟨p, L, w, cr, k⟩ => ⟨p, L, w, cr, k.bind.imp fun y _ gy v L1 H1 s1 w1 c1 r1 => ?_⟩
  obtain ⟨v0, _, ev, l0, vs0, e0, hm0, hp0, _⟩ := a.ok _ _ _ _ _ _ c1
  rw [Nat.zero_add] at ev
  subst e0
  refine ⟨.ref l0, ev, y.2, L1, w1, c1, (gy.bind.step s1).imp fun z _ gz vi L2 H2 s2 w2 c2 r2 => ?_⟩
  obtain ⟨xs, ex, gx⟩ := good_ofO gz
  obtain ⟨v1, hP, ev1, l, vs, e1, hm, hp, hl, hpp⟩ := a.ok _ _ _ _ _ _ c2
  rw [Nat.zero_add] at ev1 hm
  subst e1
  rw [ev] at ev1
  cases ev1
  unfold putO at ex
  have hlen := paired_len hpp
  have hll := line_eq
  have hL := sub_of hm
  by_cases hc : (g z.2).length < 16777216
  · rw [if_pos hc] at ex
    cases ex
    have hn : (putK vs (kc.key z.1) v).length ≤ sizeLine := by have := length_putK vs (kc.key z.1) v; omega
    refine ⟨l0, _, rfl, by rw [kc.is _ _ _ _ r2]; exact DPut.k (v := v) hp (by omega), ?_⟩
    have sm : Same (rd L2 H2) (rd L2 (upd H2 l0 (.dK (putK vs (kc.key z.1) v)))) := fun a ob qa => by
      obtain ⟨⟨l', z1⟩, z2⟩ := rd_of qa
      exact rd_mk z1 (by rw [upd_ne fun e => by rw [e, hL] at z1; cases z1]; exact z2)
    refine (show nxP A G R L H o D (.nx _) from gx) o L2 _ ((s1.trans s2).trans fun a f => ⟨rfl, upd_ne fun e => ?_⟩) ⟨fun a ha => ?_, fun a k' l' e => ?_⟩ (m.ok _ _ _ _ _ _ _ _ _ c2 sm (fun a j l' _ hj e => ⟨rfl, upd_ne fun e' => ?_⟩) ⟨.ref l0, hP, by rw [Nat.zero_add]; exact ev, l0, _, rfl, sub_mk (by rw [Nat.zero_add]; exact hL), upd_same, hn, ?_⟩) Keeps.refl
    · rcases f.2 with z | ⟨l', z⟩
      · rw [e, hL] at z; cases z
      · rw [e, hL] at z; cases z
    · by_cases ea : a = l0
      · rw [ea, upd_same]; simp
      · rw [upd_ne ea]; exact w2.dom a ha
    · by_cases ea : a = l0
      · rw [ea, hL] at e; cases e
        rw [ea, upd_same]
        trivial
      · rw [upd_ne ea]; exact w2.soft a k' l' e
    · rw [e', hL] at e
      have := (Prod.mk.inj (Option.some.inj e)).1
      omega
    · exact paired_mono (fun _ _ q => q.mono sm) (ent_put r2 (c.mono _ _ _ _ _ s2.rd r1) hpp)
  · rw [if_neg hc] at ex; cases ex
/-! ### instances -/
structure FldC (α : Type) where
  see : Frag → Hp → List (Str × V) → α → Prop
  mono : ∀ (K : Frag) (R R' : Hp) (fs : List (Str × V)) (x : α), Same R R' → see K R fs x → see K R' fs x
def fNil : FldC Unit := ⟨fun _ _ fs _ => fs = [], fun _ _ _ _ _ _ h => h⟩
def fSnoc {α β : Type} (fc : FldC α) (n : Str) (c : Cod β) : FldC (α × β) := ⟨fun K R fs x => ∃ fs' v, fs = fs' ++ [(n, v)] ∧ fc.see K R fs' x.1 ∧ c.see K R v x.2, fun K R R' fs x s ⟨fs', v, e, h1, h2⟩ => ⟨fs', v, e, fc.mono K R R' fs' _ s h1, c.mono K R R' v _ s h2⟩⟩
/-- an instance of the class at C that stays as it is -/
def cIns (C : Addr) {α : Type} (fc : FldC α) : Cod α := ⟨fun K R v x => ∃ a dx fs, v = .ref a ∧ R a = some (.ins C dx fs) ∧ fc.see K R fs x, fun K R R' v x s ⟨a, dx, fs, e, h1, h2⟩ => ⟨a, dx, fs, e, s _ _ h1, fc.mono K R R' fs x s h2⟩⟩
/-- the name is none of them -/
def NoKey {α : Type} (fc : FldC α) (n : Str) : Prop := ∀ K R fs x, fc.see K R fs x → (∀ e ∈ fs, e.1 ≠ n)
theorem nk_nil {n : Str} : NoKey fNil n := fun K R fs x h e he => by
  have h : fs = [] := h
  subst h
  cases he
theorem nk_snoc {α β : Type} {fc : FldC α} {n m : Str} {c : Cod β} (h : NoKey fc n) (hn : m ≠ n) : NoKey (fSnoc fc m c) n := fun K R fs x ⟨fs', v, e, h1, h2⟩ z hz => by
  subst e
  rcases List.mem_append.mp hz with q | q
  · exact h K R fs' _ h1 z q
  · have : z = (m, v) := by simpa using q
    rw [this]; exact hn
theorem look_none {n : Str} : ∀ {fs : List (Str × V)}, (∀ e ∈ fs, e.1 ≠ n) → fs.lookup n = none
  | [], _ => rfl
  | (k, v) :: fs, h => by
    have hk : (n == k) = false := beq_eq_false_iff_ne.mpr fun e => h (k, v) List.mem_cons_self e.symm
    simp only [List.lookup, hk]
    exact look_none fun e he => h e (List.mem_cons_of_mem _ he)
theorem look_snoc {n : Str} {v : V} : ∀ {fs : List (Str × V)}, (∀ e ∈ fs, e.1 ≠ n) → (fs ++ [(n, v)]).lookup n = some v
  | [], _ => by simp [List.lookup]
  | (k, w) :: fs, h => by
    have hk : (n == k) = false := beq_eq_false_iff_ne.mpr fun e => h (k, w) List.mem_cons_self e.symm
    rw [List.cons_append]
    simp only [List.lookup, hk]
    exact look_snoc fun e he => h e (List.mem_cons_of_mem _ he)
theorem look_app {n m : Str} {v : V} (hn : m ≠ n) : ∀ {fs : List (Str × V)}, (fs ++ [(m, v)]).lookup n = fs.lookup n
  | [] => by
    have hk : (n == m) = false := beq_eq_false_iff_ne.mpr fun e => hn e.symm
    show List.lookup n [(m, v)] = _
    simp only [List.lookup, hk]
  | (k, w) :: fs => by
    rw [List.cons_append]
    by_cases e : n = k
    · have hk : (n == k) = true := beq_iff_eq.mpr e
      simp only [List.lookup, hk]
    · have hk : (n == k) = false := beq_eq_false_iff_ne.mpr e
      simp only [List.lookup, hk]
      exact look_app hn
theorem put_snoc {n : Str} {v : V} : ∀ {fs : List (Str × V)}, (∀ e ∈ fs, e.1 ≠ n) → putF n v fs = fs ++ [(n, v)]
  | [], _ => rfl
  | (k, w) :: fs, h => by
    show (if k = n then (k, v) :: fs else (k, w) :: putF n v fs) = _
    rw [if_neg (h (k, w) List.mem_cons_self), put_snoc fun e he => h e (List.mem_cons_of_mem _ he)]
    rfl
/-- an attribute -/
def FPj {α β : Type} (fc : FldC α) (n : Str) (c : Cod β) (g : α → β) : Prop := ∀ K R fs x, fc.see K R fs x → ∃ v, fs.lookup n = some v ∧ c.see K R v (g x)
theorem fp_z {α β : Type} {fc : FldC α} {n : Str} {c : Cod β} (h : NoKey fc n) : FPj (fSnoc fc n c) n c Prod.snd := fun K R fs x ⟨fs', v, e, h1, h2⟩ => ⟨v, by rw [e]; exact look_snoc (h K R fs' _ h1), h2⟩
theorem fp_s {α β γ : Type} {fc : FldC α} {n m : Str} {c : Cod β} {d : Cod γ} {g : α → β} (h : FPj fc n c g) (hn : m ≠ n) : FPj (fSnoc fc m d) n c (fun x => g x.1) := fun K R fs x ⟨fs', v, e, h1, h2⟩ => by
  obtain ⟨u, e1, e2⟩ := h K R fs' _ h1
  exact ⟨u, by rw [e, look_app hn]; exact e1, e2⟩
theorem ex_fld {α β : Type} {C : Addr} {fc : FldC α} {n : Str} {c : Cod β} {gj : α → β} {e : Expr} {pos : Pos} {f : CT G → Res (α × CT G)} (cl : Cls A.X.K C) (na : NoAttr A.X.K C n) (hj : FPj fc n c gj) (h : EX A G e (rV (cIns C fc)) f) (hb : attributeBase e n A.X.env (eval e A.X.env) = eval e A.X.env := by rfl) :
    EX A G (.Attribute e n pos) (rV c) (fun p => Res.bind (f p) fun y => .ok (gj y.1, y.2)) :=
  pe_weak (pe_fld h hb) fun o H Q ⟨p, L, w, cr, k⟩ => run1 w cr k fun x p' v L' H' st w' c' rl gd => by
    obtain ⟨a, dx, fs, rfl, h1, h2⟩ := rl
    obtain ⟨u, e1, e2⟩ := hj _ _ _ _ h2
    exact ⟨a, C, dx, fs, u, rfl, rd_sub _ _ h1, cl, na, e1, (show ∀ v L' H', _ from gd) u L' H' st w' c' e2⟩
/-- the instance under way -/
abbrev sSelf (C : Addr) {α : Type} (P : V → Prop) (fc : FldC α) : Slot := ⟨α, fun K k x L H o => ∃ a dx fs, P (.ref a) ∧ o = some (some (.ref a)) ∧ L a = some (k + 1, [999]) ∧ H a = some (.ins C dx fs) ∧ fs.length < 900 ∧ fc.see K (rd L H) fs x,
  fun K k x L H L' H' o s t ⟨a, dx, fs, p, e, h1, h2, h3, h4⟩ => ⟨a, dx, fs, p, e, (t a _ h1).1.trans h1, (t a _ h1).2.trans h2, h3, fc.mono _ _ _ _ _ s h4⟩⟩
/-- self.n = e, e a value; a new attribute -/
theorem sx_fld {α β : Type} {C : Addr} {fc : FldC α} {n : Str} {c : Cod β} {i : Nat} {P : V → Prop} {x : Str} {e : Expr} {p1 p2 pos : Pos} {g : CT G → α} {put : CT G → α × β → CT G'} {fe : CT G → Res (β × CT G)} (a : At G i (sSelf C P fc) g) (hN : A.X.N[i]? = some x) (hv : Vis A.X.env.scope x) (cl : Cls A.X.K C) (na : NoAttr A.X.K C n) (nk : NoKey fc n)
    (mo : ∀ (K : Frag) (p : CT G) (y : α × β) (L : Lab) (H H' : Hp) (o : St), CR K 0 G p L H o → Same (rd L H) (rd L H') → (∀ a j l, j ≠ i → L a = some (j + 1, l) → H' a = H a) → (sSelf C P (fSnoc fc n c)).rel K i y L H' o[i]? → CR K 0 G' (put p y) L H' o)
    (hlen : ∀ K R fs x, fc.see K R fs x → fs.length < 800) (he : EX A G e (rV c) fe) (hs : swapsWith e (some (.Attribute (.Name x p1) n p2)) pos.line A.X.env = pure false) (hd : (x == ("__debug__" : Str)) = false := by decide) (hcd : (x == ("__classdict__" : Str)) = false := by decide) :
    SX A G (.Assign [.Attribute (.Name x p1) n p2] e pos) G' R (fun p => Res.bind (fe p) fun y => .ok (.nx (put y.2 (g y.2, y.1)))) :=
  ps_weak (ps_fld (pe_var hN hv hd hcd) he hs) fun D o H ⟨p, L, w, cr, k⟩ => ⟨p, L, w, cr, k.bind.imp fun y _ gy v L1 H1 s1 w1 c1 r1 => by
    obtain ⟨b, dx, fs, hP, eo, h1, h2, h3, h4⟩ := a.ok _ _ _ _ _ _ c1
    rw [Nat.zero_add] at eo h1
    refine ⟨.ref b, eo, b, C, dx, fs, rfl, h2, cl, na, by omega, ?_⟩
    have ep := put_snoc (v := v) (nk _ _ _ _ h4)
    rw [ep]
    have sm : Same (rd L1 H1) (rd L1 (upd H1 b (.ins C dx (fs ++ [(n, v)])))) := fun a ob qa => by
      obtain ⟨⟨l', z1⟩, z2⟩ := rd_of qa
      exact rd_mk z1 (by rw [upd_ne fun e => by rw [e, h1] at z1; cases z1]; exact z2)
    refine (show nxP A G' R L H o D (.nx _) from gy) o L1 _ (s1.trans fun a f => ⟨rfl, upd_ne fun e => ?_⟩) ⟨fun a ha => ?_, fun a k' l' e => ?_⟩ (mo _ _ _ _ _ _ _ c1 sm (fun a j l' hj e => upd_ne fun e' => ?_) ⟨b, dx, fs ++ [(n, v)], hP, eo, h1, upd_same, ?_, fs, v, rfl, fc.mono _ _ _ _ _ sm h4, c.mono _ _ _ _ _ sm r1⟩) Keeps.refl
    · rcases f.2 with z | ⟨l', z⟩
      · rw [e, h1] at z; cases z
      · rw [e, h1] at z; cases z
    · by_cases ea : a = b
      · rw [ea, upd_same]; simp
      · rw [upd_ne ea]; exact w1.dom a ha
    · by_cases ea : a = b
      · rw [ea, h1] at e; cases e
        rw [ea, upd_same]
        exact fun xs e => nomatch e
      · rw [upd_ne ea]; exact w1.soft a k' l' e
    · rw [e', h1] at e
      have := (Prod.mk.inj (Option.some.inj e)).1
      omega
    · have := hlen _ _ _ _ h4
      rw [List.length_append, List.length_singleton]
      omega⟩
end
end AC
set_option Elab.async false
set_option linter.all false
set_option maxRecDepth 100000
/-! TL14: instances made; repr; calls by keywords; lists of lists of one's own. -/
namespace AC
open PySem L2 PyProof
section
theorem mo_self {C : Addr} {α β : Type} {P : V → Prop} {fc : FldC α} {n : Str} {c : Cod β} {G : Ctx} (K : Frag) (p : CT (sSelf C P fc :: G)) (y : α × β) (L : Lab) (H H' : Hp) (o : St) (cr : CR K 0 (sSelf C P fc :: G) p L H o) (sm : Same (rd L H) (rd L H')) (h : ∀ a j l, j ≠ 0 → L a = some (j + 1, l) → H' a = H a)
    (r : (sSelf C P (fSnoc fc n c)).rel K 0 y L H' o[0]?) : CR K 0 (sSelf C P (fSnoc fc n c) :: G) ((fun p y => (y, p.2)) p y) L H' o :=
  ⟨r, cr.2.keep sm fun a j l hj e => ⟨rfl, h a j l (by omega) e⟩⟩
end
/-! ### __init__ -/
/-- what __init__ promises -/
def spN (K : Frag) (ca : Str → Addr) (C : Addr) {α β : Type} (as : ArgC α) (fc : FldC β) (F : α → Res β) : Sp := fun vs H Q E =>
  ∃ (a dx : Addr) (ws : List V) (x : α) (L : Lab), vs = .ref a :: ws ∧ Wf L H ∧ L a = some (1, [999]) ∧ H a = some (.ins C dx []) ∧ as.see K (rd L H) ws x ∧
    EndF K ca L H E (F x) fun y => ∀ (L' : Lab) (H' : Hp) (dx' : Addr) (fs : List (Str × V)), Stp L H L' H' → Wf L' H' → L' a = some (1, [999]) → H' a = some (.ins C dx' fs) → fc.see K (rd L' H') fs y → Q .non H'
def endX {β γ : Type} : Out (β × γ) Unit → Res β
  | .nx p => .ok p.1
  | .rt _ => .bad
abbrev endN {C : Addr} {β : Type} {P : V → Prop} {fc : FldC β} {G : Ctx} (x : Out (CT (sSelf C P fc :: G)) Unit) : Res β := endX (β := β) (γ := CT G) x
section
variable {P : Program} {w : World} {K : Frag} {mg : Str → Option Value} {base : Heap}
variable {x qual : Str} {params : Arguments} {body : List Stmt} {scope : Scope} {dvs : List V} {kws : List (Str × V)} {f : Addr} {fd : FuncData} {N ps : List Str} {k : Nat} {ca : Str → Addr}
theorem fn_N {α β : Type} {C : Addr} {as : ArgC α} {fc : FldC β} {G1 G' : Ctx} {ini : α → CT G1} {fb : ∀ v0 : V, Unit × CT G1 → Res (Out (CT (sSelf C (fun v => v = v0) fc :: G')) Unit)} {F : α → Res β} (F0 : FunD K x qual params body scope dvs kws f fd) (S : FnScope N ps scope) (hn : as.n + 1 = ps.length)
    (h0 : ∀ L H v0 ws y, Wf L H → as.see K (rd L H) ws y → CR K 1 G1 (ini y) L H (start N (v0 :: ws)))
    (hB : ∀ v0 nd cd A outer s H E hr hgd, BX (ambOf P w K mg base ca N nd k qual scope f cd A outer s H E hr hgd) (sSelf C (fun v => v = v0) fNil :: G1) body (sSelf C (fun v => v = v0) fc :: G') (rrP (rV cN)) (fb v0)) (hF : ∀ v0 y, F y = Res.bind (fb v0 ((), ini y)) endN) : FnG P w K mg base (k + 1) f fd ps (spN K ca C as fc F) := by
  refine fn_G F0 S (fun vs H Q E ⟨a, dx, ws, y, L, e, _, _, _, h, _⟩ => by rw [e, List.length_cons, as.len _ _ _ _ h, hn]) fun cd A outer s H vs Q E hgd hr ⟨a, dx, ws, y, L, e, wf, hL, hH, h, q⟩ => ?_
  subst e
  refine ⟨_, hB (.ref a) S.nd cd A outer s H E hr hgd, ((), ini y), L, wf, ⟨⟨a, dx, [], rfl, rfl, hL, hH, by decide, rfl⟩, h0 L H _ ws y wf h⟩, ?_⟩
  rw [hF (.ref a) y] at q
  cases e : fb (.ref a) ((), ini y) with
  | bad => rw [e] at q; exact q
  | exc ex =>
    rw [e] at q
    exact fun cls d H' hz o' _ => (show ∀ cls d H', _ from q) cls d H' hz
  | ok z =>
    rw [e] at q
    cases z with
    | rt y' => exact q.elim
    | nx p' =>
      intro o' L' H' st w' cr _
      obtain ⟨b, dx', fs, hb, _, h1, h2, _, h4⟩ := cr.1
      cases hb
      exact (show ∀ L' H' dx' fs, _ from q) L' H' dx' fs st w' h1 h2 h4
end
/-- a class by its name -/
structure ClsG (K : Frag) (mg : Str → Option Value) (x : Str) (C : Addr) : Prop where
  mg : mg x = some (.ref C)
  cls : Cls K C
/-- a class that is made by its __init__ -/
structure MakG (P : Program) (w : World) (K : Frag) (mg : Str → Option Value) (base : Heap) (k : Nat) (x : Str) (C : Addr) (ps : List Str) (sp : Sp) : Prop where
  ex : ∃ f fd, FnG P w K mg base k f fd ps sp ∧ Binds K fd ps [] ∧ Mk K C f
  mg : mg x = some (.ref C)
section
variable {A : Amb} {G G' : Ctx} {ρ : Type} {R : Rr ρ}
abbrev MakA (A : Amb) (k : Nat) (x : Str) (C : Addr) (ps : List Str) (sp : Sp) : Prop := MakG A.X.prog A.X.w A.X.K A.X.mg A.X.base k x C ps sp
/-- the instance is made and given to its __init__ -/
theorem run_mk {k : Nat} {C : Addr} {f : Addr} {fd : FuncData} {ps : List Str} {sp : Sp} (M : Mk A.X.K C f) (F : FnG A.X.prog A.X.w A.X.K A.X.mg A.X.base k f fd ps sp) (hk : k + 1 ≤ A.lv) {pins : List (Addr × Obj)} {o : St} {H : Hp} {s : Shared} {Q : VK} {us us' : List Value} {vs' : List V} {kw : List (Str × Value)} (I : Inv A.X pins o H s)
    (h : ∀ x dx, H x = none → H dx = none → dx ≠ x → sp (.ref x :: vs') (upd (upd H dx (.own x)) x (.ins C dx [])) (fun v H2 => v = .non ∧ Q (.ref x) H2) (WE A.W o)) (hv : Vals vs' us')
    (hb : ∀ (s2 : Shared) (z : Value), A.X.K.In s2.heap → (z :: us').length = ps.length → BindsTo s2 fd ⟨z :: us, kw⟩ (ps.zip (z :: us'))) :
    wpAny (model A.X.prog A.X.w) A.X.A (call (.ref C) us kw) (EP A.X pins o Q) A.X.xe s := by
  have h1 := h (s.heap.objs.size + 1) s.heap.objs.size (I.hok.fresh (Nat.le_succ _)) (I.hok.fresh (Nat.le_refl _)) (Nat.ne_of_lt (Nat.lt_succ_self _))
  have J := Inv.made (C := C) I
  have rv : Vals (V.ref (s.heap.objs.size + 1) :: vs') (Value.ref (s.heap.objs.size + 1) :: us') := .cons rfl hv
  have hgu : (A.X.A.under (.builtin "type.__call__" ⟨.ref C :: us, kw⟩)).guards = some [] := by
    first
      | (simp [Around.under, A.gd, pushGuards, Code.guards, Code.isGuard, guardIds])
      | (unfold Around.under; simp only; rw [A.gd]; decide)
  refine wpAny_call (make_map (f := f) I.kIn M.makes M.init (beq_iff_eq.mp M.fn) (codeAny_mono (F.go _ A.X.stack _ _ ⟨Value.ref (s.heap.objs.size + 1) :: us, kw⟩ (Value.ref (s.heap.objs.size + 1) :: us') _ _ (WE A.W o) hgu ((A.room.mono hk).make C us kw)
    (J.env0.make C us kw) (hb _ _ J.kIn (rv.length.symm.trans (F.len _ _ _ _ h1))) rv h1) fun y s' hq => ?_))
  rcases y with e | fl
  · exact passAt A.tk o pins _ _ e s' J hq
  · rcases fl with _ | _ | _ | u
    · exact False.elim hq
    · exact False.elim hq
    · exact False.elim hq
    · obtain ⟨v, H', J', ru, ev, q3⟩ := J.after hq
      subst ev
      exact ⟨ru, V.ref (s.heap.objs.size + 1), H', J', rfl, q3⟩
theorem make_reads {α β : Type} {C : Addr} {as : ArgC α} {fc : FldC β} {F : α → Res β} {L : Lab} {H : Hp} {o : St} {vs : List V} {y : α} {p : CT G} {Q : VK} {Pg : β → Prop} (w : Wf L H) (cr : CR A.X.K 0 G p L H o) (h1 : as.see A.X.K (rd L H) vs y)
    (gy : Good A (F y) L H o fun z => ∀ v L' H', Stp L H L' H' → Wf L' H' → CR A.X.K 0 G p L' H' o → (cIns C fc).see A.X.K (rd L' H') v z → Q v H') (x dx : Addr) (hx : H x = none) (hdx : H dx = none) (hne : dx ≠ x) :
    spN A.X.K A.ca C as fc F (.ref x :: vs) (upd (upd H dx (.own x)) x (.ins C dx [])) (fun v H2 => v = .non ∧ Q (.ref x) H2) (WE A.W o) := by
  generalize hH2 : upd (upd H dx (.own x)) x (.ins C dx []) = H2
  have k2 : ∀ a, H a ≠ none → H2 a = H a := fun a ha => by
    rw [← hH2, upd_ne fun e => ha (by rw [e]; exact hx), upd_ne fun e => ha (by rw [e]; exact hdx)]
  have kx : H2 x = some (.ins C dx []) := by rw [← hH2, upd_same]
  have lx := w.none hx
  have ws : Wf (strip L) H := wf_strip w
  have w2 : Wf (setL (strip L) x (1, [999])) H2 := ⟨fun a ha => by
    by_cases e : a = x
    · rw [e, kx]; simp
    · rw [setL_ne e] at ha
      rw [k2 a (ws.dom a ha)]; exact ws.dom a ha, fun a k l e => by
    by_cases ea : a = x
    · rw [ea, setL_same] at e
      cases e
      rw [ea, kx]
      exact fun xs e => nomatch e
    · rw [setL_ne ea] at e
      exact absurd (strip_of e).1 (by omega)⟩
  have r2 : Same (rd L H) (rd (setL (strip L) x (1, [999])) H2) := fun a ob q => by
    rw [← rd_strip] at q
    obtain ⟨⟨l, e1⟩, e2⟩ := rd_of q
    have ha : H a ≠ none := by rw [e2]; simp
    exact rd_mk ((setL_ne fun e => ha (by rw [e]; exact hx)).trans e1) ((k2 a ha).trans e2)
  have fr : ∀ a, H a ≠ none → Frm (setL (strip L) x (1, [999])) H2 a ∧ setL (strip L) x (1, [999]) a = strip L a := fun a ha => by
    have ne : a ≠ x := fun e => ha (by rw [e]; exact hx)
    have := frm_strip (L := L) ha
    exact ⟨⟨by rw [k2 a ha]; exact ha, by rw [setL_ne ne]; exact this.2⟩, setL_ne ne⟩
  refine ⟨x, dx, vs, y, _, rfl, w2, setL_same, kx, as.mono _ _ _ _ _ r2 h1, ?_⟩
  cases e : F y with
  | bad => rw [e] at gy; exact gy.elim
  | exc ex =>
    rw [e] at gy
    intro cls d H' hz
    obtain ⟨z1, z2, z3, v, z4, R', z5, z6, z7, z8⟩ := hz
    refine (show A.raises ex L H o from gy) cls d H' ⟨z1, fun a f => (z2 a (fr a f.1).1).trans (k2 a f.1), fun f => z3 (fr d f.1).1, v, z4, R', z5, fun a ob q => z6 a ob (r2 a ob q), fun a ob q => ?_, z8⟩ o fun _ _ => rfl
    rcases z7 a ob q with u | u
    · by_cases f : Frm L H a
      · left
        obtain ⟨⟨l, e1⟩, e2⟩ := rd_of u
        rw [(fr a f.1).2] at e1
        rw [k2 a f.1] at e2
        exact rd_mk (strip_of e1).2 e2
      · exact .inr f
    · exact .inr fun f => u (fr a f.1).1
  | ok z =>
    rw [e] at gy
    intro L' H' dx' fs s' w' l1 h2 h4
    refine ⟨rfl, ?_⟩
    generalize hLn : (fun a => if a = x then some ((0, []) : Nat × List Nat) else unstrip L L' a) = Ln
    have lnx : Ln x = some (0, []) := by rw [← hLn]; exact if_pos rfl
    have lno : ∀ a, a ≠ x → Ln a = unstrip L L' a := fun a e => by rw [← hLn]; exact if_neg e
    have old : ∀ a, H a ≠ none → a ≠ x ∧ L' a = strip L a ∧ H' a = H a := fun a ha => by
      obtain ⟨f1, f2⟩ := fr a ha
      obtain ⟨g1, g2⟩ := s' a f1
      exact ⟨fun e => ha (by rw [e]; exact hx), g1.trans f2, g2.trans (k2 a ha)⟩
    have ex : Ext L H Ln H' := fun a ha => by
      obtain ⟨g0, g1, g2⟩ := old a ha
      refine ⟨?_, g2⟩
      rw [lno a g0]
      cases e : L a with
      | none => rw [un_n e, strip_n (g1.trans (strip_n e))]
      | some z =>
        obtain ⟨j, m⟩ := z
        cases j with
        | zero => rw [un_0 e, strip_0 (g1.trans (strip_0 e))]
        | succ j => rw [un_s e]
    have key : ∀ a k l, a ≠ x → Ln a = some (k, l) → (∃ k', k = k' + 1 ∧ L a = some (k, l)) ∨ (k = 0 ∧ L' a = some (0, l)) := fun a k l ne e => by
      rw [lno a ne] at e
      cases e' : L a with
      | none => rw [un_n e'] at e; exact .inr (strip_of e)
      | some z =>
        obtain ⟨j, m⟩ := z
        cases j with
        | zero => rw [un_0 e'] at e; exact .inr (strip_of e)
        | succ j => rw [un_s e'] at e; cases e; exact .inl ⟨j, rfl, rfl⟩
    have wn : Wf Ln H' := ⟨fun a ha => by
      by_cases ea : a = x
      · rw [ea, h2]; simp
      · cases e : Ln a with
        | none => exact absurd e ha
        | some z =>
          obtain ⟨k, l⟩ := z
          rcases key a k l ea e with ⟨_, _, u⟩ | ⟨_, u⟩
          · have hh := w.dom a (by rw [u]; simp)
            rw [(old a hh).2.2]; exact hh
          · exact w'.dom a (by rw [u]; simp), fun a k l e => by
      by_cases ea : a = x
      · rw [ea, lnx] at e; cases e
      · rcases key a _ l ea e with ⟨_, _, u⟩ | ⟨u, _⟩
        · have hh := w.dom a (by rw [u]; simp)
          rw [(old a hh).2.2]; exact w.soft a k l u
        · omega⟩
    have rn : Same (rd L' H') (rd Ln H') := fun a ob q => by
      obtain ⟨⟨l, e1⟩, e2⟩ := rd_of q
      have ne : a ≠ x := fun e => by rw [e, l1] at e1; cases e1
      by_cases ha : H a = none
      · refine rd_mk (l := l) ?_ e2
        rw [lno a ne, un_n (w.none ha), strip_0 e1]
      · obtain ⟨g0, g1, g2⟩ := old a ha
        refine rd_mk (l := l) ?_ e2
        rw [(ex a ha).1]
        exact (strip_of (g1.symm.trans e1)).2
    exact (show ∀ v L' H', _ from gy) (.ref x) Ln H' ex.stp wn (cr.ext w ex) ⟨x, dx', fs, rfl, rd_mk lnx h2, fc.mono _ _ _ _ _ rn h4⟩
theorem ex_make {α β : Type} {C : Addr} {as : ArgC α} {fc : FldC β} {F : α → Res β} {k : Nat} {ps : List Str} {x : Str} {p pos : Pos} {e : Expr} {es : List Expr} {fa : CT G → Res (α × CT G)} (D : MakA A k x C ps (spN A.X.K A.ca C as fc F)) (hk : k + 1 ≤ A.lv) (gl : Gl A.X x) (ha : AX A G (e :: es) as fa)
    (hdb : (x == ("__debug__" : Str)) = false := by decide) (he : starEach (e :: es) A.X.env = (false, eval e A.X.env) :: starEach es A.X.env := by rfl) (hpl : (backTo pos (starEach es A.X.env)).any (·.1) = false := by rfl) :
    EX A G (.Call (.Name x p) (e :: es) [] pos) (rV (cIns C fc)) (fun p => Res.bind (fa p) fun y => Res.bind (F y.1) fun z => .ok (z, y.2)) := by
  obtain ⟨f, fd, F1, hb, M⟩ := D.ex
  refine ⟨fun pins s o H Q I ⟨p, L, w, cr, q⟩ => wpAny_Call_Name_kw (ld_glob I gl D.mg (PySem.W.callWith_K (h₀ := A.X.base) I.ok.mod.kin M.kp ?_ he hpl) hdb)⟩
  have hA : tA A G as fa o H fun vs H1 => ∀ x dx, H1 x = none → H1 dx = none → dx ≠ x → spN A.X.K A.ca C as fc F (.ref x :: vs) (upd (upd H1 dx (.own x)) x (.ins C dx [])) (fun v H2 => v = .non ∧ Q (.ref x) H2) (WE A.W o) :=
    ⟨p, L, w, cr, q.bind.imp fun y _ gy vs L1 H1 s1 w1 c1 h1 => make_reads (F := F) (Pg := fun _ => True) w1 c1 h1 ((gy.bind.step s1).imp fun z _ gz v L2 H2 s2 w2 c2 r2 => gz v L2 H2 (s1.trans s2) w2 c2 r2)⟩
  refine thn (ha.run pos pins s o H _ I hA) fun us s1 ⟨vs, H1, I1, rv, hsp⟩ => ⟨I1.kIn, ?_⟩
  exact run_mk (us' := us) M F1 hk I1 hsp rv fun s2 z kin hl => by
    have b := hb s2 (z :: us) kin (by rw [List.append_nil]; exact hl)
    rw [List.append_nil] at b
    exact b
/-! ### repr -/
/-- a text of which only its signs count -/
def cW : Cod Str := ⟨fun _ _ v x => v = .str x, fun _ _ _ _ _ _ h => h⟩
theorem ot_eqW : OpT A (compareOp .Eq) cW cW (fun x y => some (decide (x = y))) (rV cB) := op_of op_eq fun L H vx vy x y z Q w h1 h2 h3 q => by
  cases h1; cases h2; cases h3; exact ⟨rfl, q _ (by show V.bl _ = V.bl _; simp)⟩
theorem ot_neW : OpT A (compareOp .NotEq) cW cW (fun x y => some (!decide (x = y))) (rV cB) := op_of op_ne fun L H vx vy x y z Q w h1 h2 h3 q => by
  cases h1; cases h2; cases h3; exact ⟨rfl, q _ (by show V.bl _ = V.bl _; simp)⟩
def reprO (d : PyData) : Option Str := if d.showable = true ∧ d.hasDict = false ∧ d.shown.length ≤ sizeLine then some d.shown else none
theorem call_reprD : CallR A.X (.builtin "repr") (fun xs H Q => ∃ a d, xs = [.ref a] ∧ Dp A.X.K H (.ref a) d ∧ d.showable = true ∧ d.hasDict = false ∧ d.shown.length ≤ sizeLine ∧ d.depth ≤ 64 ∧ Q (.str d.shown) H) := by
  intro pins s o H xs us Q I rx ⟨a, d, ex, hd, h1, h2, h3, h4, q⟩
  subst ex
  cases rx with
  | cons r t =>
    cases t
    cases r
    obtain ⟨as, rr⟩ := Dp.reads I d _ _ hd rfl
    refine repr_of_reads' rr h1 (fun e => by rw [h2] at e; cases e) A.gd (by have := A.room.un; omega) (fun b ob e => e) (fun h' u tk hk => ?_) h3
    exact ⟨.str d.shown, H, I.kept (h' := h') (t' := tk) hk, ⟨_, rfl⟩, q⟩
theorem ct_repr {α : Type} {c : Cod α} {t : α → PyData} {n : Nat} (h : DC c t n) (hn : n ≤ 64) (hr : ∀ K R v x, c.see K R v x → ∃ a, v = .ref a) : CalT A (.builtin "repr") (aOne c) (fun x => reprO (t x)) (rV cW) := cal_of call_reprD fun L H vs x z Q w ⟨v, e, h1⟩ h2 q => by
  subst e
  obtain ⟨a, rfl⟩ := hr _ _ _ _ h1
  obtain ⟨d1, d2, d3⟩ := h _ _ _ _ h1
  unfold reprO at h2
  split at h2
  · rename_i hc
    cases h2
    exact ⟨a, t x, rfl, dp_same rd_sub d1, hc.1, hc.2.1, hc.2.2, by omega, q _ rfl⟩
  · cases h2
theorem rf_h {α : Type} {as : ArgC α} : ∀ K R v x, (cH as).see K R v x → ∃ a, v = .ref a := fun K R v x ⟨a, vs, e, _⟩ => ⟨a, e⟩
theorem rf_t {α : Type} {as : ArgC α} : ∀ K R v x, (cT as).see K R v x → ∃ a, v = .ref a := fun K R v x ⟨a, vs, e, _⟩ => ⟨a, e⟩
/-! ### calls by keywords alone -/
/-- the keywords' values -/
def KWX (A : Amb) (G : Ctx) (kws : List Keyword) {α : Type} (as : ArgC α) (f : CT G → Res (α × CT G)) : Prop := PK A.X kws (tA A G as f)
theorem pk_weak {X : Cx} {kws : List Keyword} {t t' : L2.TA} (h : PK X kws t) (i : ∀ o H Q, t' o H Q → t o H Q) : PK X kws t' := ⟨fun pos pins s o H Q I q => h.run pos pins s o H Q I (i _ _ _ q)⟩
theorem kw_one {α : Type} {c : Cod α} {e : Expr} {nm : Option Str} {kp : Pos} {f : CT G → Res (α × CT G)} (h : EX A G e (rV c) f) : KWX A G [⟨nm, e, kp⟩] (aOne c) f :=
  pk_weak (pk_cons h pk_nil) fun o H Q ⟨p, L, w, cr, kk⟩ => ⟨p, L, w, cr, kk.imp fun y _ q v L' H' s w' c' rl => q [v] L' H' s w' c' ⟨v, rfl, rl⟩⟩
theorem kw_cons {α β : Type} {c : Cod α} {as : ArgC β} {e : Expr} {nm : Option Str} {kp : Pos} {kws : List Keyword} {f : CT G → Res (α × CT G)} {g : CT G → Res (β × CT G)} (h : EX A G e (rV c) f) (hr : KWX A G kws as g) : KWX A G (⟨nm, e, kp⟩ :: kws) (aCons c as) (fun p => Res.bind (f p) fun y => Res.bind (g y.2) fun z => .ok ((y.1, z.1), z.2)) :=
  pk_weak (pk_cons h hr) fun o H Q q => ax_core (as := as) (bs := aCons c as) (m := Prod.mk) (fun K R v vs x y h1 h2 => ⟨v, vs, rfl, h1, h2⟩) q
end
end AC
set_option Elab.async false
set_option linter.all false
set_option maxRecDepth 100000
/-! TL15: data; lists of lists of one's own. -/
namespace AC
open PySem L2 PyProof
/-- any data of bounded depth -/
def cDat (n : Nat) : Cod PyData := ⟨fun K R v d => Dp K R v d ∧ d.canLay0 = true ∧ d.depth ≤ n, fun K R R' v d s h => ⟨dp_same s h.1, h.2⟩⟩
theorem dc_dat {n : Nat} : DC (cDat n) id n := fun K R v x h => h
/-- paths may be longer -/
def ShO {α : Type} (oc : OCod α) : Prop := ∀ K R M H m v x l, oc.own K R M H m v x → oc.own K R (fun a => (M a).map (· ++ l)) H (m ++ l) v x
theorem sh_l {α : Type} {c : Cod α} : ShO (oL c) := fun K R M H m v x l ⟨p, vs, e, h1, h2, h3, h4⟩ => ⟨p, vs, e, by show (M p).map (· ++ l) = _; rw [h1]; rfl, h2, h3, h4⟩
/-- frozen at any path -/
def FrzP {α : Type} (o : OCod α) (c : Cod α) : Prop := ∀ K R R' M H l v x, insL l = false → Same R R' → (∀ a m, M a = some m → insL m = false → R' a = H a) → o.own K R M H l v x → c.see K R' v x
theorem frzp_l {α : Type} {c : Cod α} : FrzP (oL c) (cL c) := fun K R R' M H l v x hl s t ⟨p, vs, e, hm, hp, hz, h'⟩ => ⟨p, vs, e, (t p _ hm hl).trans hp, hz, paired_mono (fun _ _ q => c.mono _ _ _ _ _ s q) h'⟩
theorem frz_p {α : Type} {oc : OCod α} {c : Cod α} (h : FrzP oc c) : Frz oc c := fun K R R' M H v x s t q => h K R R' M H [] v x rfl s t q
end AC
set_option Elab.async false
set_option linter.all false
set_option maxRecDepth 100000
/-! TL16: what the printed derivations ask for besides. -/
namespace AC
open PySem L2 PyProof
theorem sub_datm {α : Type} {c : Cod α} {t : α → PyData} {n m : Nat} (h : DC c t n) (hm : n ≤ m) : Sub c (cDat m) t := fun K R v x q => by
  obtain ⟨h1, h2, h3⟩ := h K R v x q
  exact ⟨h1, h2, by omega⟩
theorem hd_w : HardC cW := fun _ _ _ _ _ _ h => h
def FLen {α : Type} (fc : FldC α) (n : Nat) : Prop := ∀ K R fs x, fc.see K R fs x → fs.length = n
theorem len_nil : FLen fNil 0 := fun K R fs x h => by have h : fs = [] := h; rw [h]; rfl
theorem len_snoc {α β : Type} {fc : FldC α} {n : Nat} {m : Str} {c : Cod β} (h : FLen fc n) : FLen (fSnoc fc m c) (n + 1) := fun K R fs x ⟨fs', v, e, h1, h2⟩ => by rw [e, List.length_append, h K R fs' _ h1]; rfl
theorem len_ok {α : Type} {fc : FldC α} {n : Nat} (h : FLen fc n) (hn : n < 800) : ∀ K R fs x, fc.see K R fs x → fs.length < 800 := fun K R fs x q => by rw [h K R fs x q]; exact hn
section
variable {A : Amb} {G G' : Ctx} {ρ : Type} {R : Rr ρ}
theorem bx_bad {sts : List Stmt} : BX A G sts G' R (fun _ => .bad) := ⟨fun pins s o H D I ⟨p, L, w, cr, k⟩ => k.elim⟩
/-- a, b = e1, e2 by a tuple of its own (a name of them is a cell) -/
theorem sx_parC {s1 s2 : Slot} {r1 : Rt s1.T} {r2 : Rt s2.T} {G1 : Ctx} {i j : Nat} {f1 : CT G → Res (s1.T × CT G)} {f2 : CT G → Res (s2.T × CT G)} {put2 : CT G → s2.T → CT G1} {put1 : CT G1 → s1.T → CT G'} {x y : Str} {a b : Expr} {px py pt pos : Pos} {kt k2 pt2} (q1 : StR s1 r1) (q2 : StR s2 r2) (u2 : Upd G j s2 G1 put2) (u1 : Upd G1 i s1 G' put1) (hij : i ≠ j) (hS : A.S i ∧ A.S j)
    (hi : A.X.N[i]? = some x) (hj : A.X.N[j]? = some y) (hx : Loc A.X.env.scope x) (hy : Loc A.X.env.scope y) (h1 : EX A G a r1 f1) (h2 : EX A G b r2 f2)
    (hw : swappedStores [.Tuple [.Name x px, .Name y py] kt pt] (.Tuple [a, b] k2 pt2) A.X.env = pure none) (fx : A.X.fn x = true) (fy : A.X.fn y = true)
    (hs : swapsWithSole [.Tuple [.Name x px, .Name y py] kt pt] (.Tuple [a, b] k2 pt2) pos.line A.X.env = pure false := by rfl)
    (sa : starEach [a, b] A.X.env = (false, eval a A.X.env) :: starEach [b] A.X.env := by rfl) (sb : starEach [b] A.X.env = (false, eval b A.X.env) :: starEach [] A.X.env := by rfl) :
    SX A G (.Assign [.Tuple [.Name x px, .Name y py] kt pt] (.Tuple [a, b] k2 pt2) pos) G' R (fun p => Res.bind (f1 p) fun y => Res.bind (f2 y.2) fun z => .ok (.nx (put1 (put2 z.2 z.1) y.1))) :=
  ps_weak (ps_asg (pe_tup (pa_cons h1 (pa_cons h2 pa_nil sb) sa)) (pg_tup A.calm (pgs_cons (pg_name A.nd hi hx (.inl fx)) (pgs_cons (pg_name A.nd hj hy (.inl fy)) pgs_nil))) hs hw) fun D o H ⟨p, L, w, cr, k⟩ => ⟨p, L, w, cr, k.bind.imp fun y _ gy v L1 H1 s1' w1 c1 rl1 => ⟨y.2, L1, w1, c1, (gy.bind.step s1').imp fun z _ gz v2 L2 H2 s2' w2 c2 rl2 => ⟨by show 2 ≤ sizeLine; decide, fun ad ha => by
    obtain ⟨e1, e2⟩ := ext_new (o := .tup [v, v2]) w2 ha
    refine ⟨ad, [v, v2], rfl, .inl (.inl upd_same), rfl, v, [v2], rfl, v2, [], rfl, rfl, ?_⟩
    obtain ⟨L3, a1, a2, a3, a4⟩ := q2.ok A.X.K (0 + j) L1 H1 L2 _ v2 z.1 e2 (r2.post _ _ _ _ _ _ _ _ _ e1.stp rl2)
    have s13 : Stp L1 H1 L3 _ := stp_more (s2'.trans e1.stp) a1
    have c3 := u2.ok _ _ _ z.1 v2 _ _ _ (cr_more a2 (c2.ext w2 e1)) a4
    obtain ⟨L4, b1, b2, b3, b4⟩ := q1.ok A.X.K (0 + i) L H L3 _ v y.1 a3 (r1.post _ _ _ _ _ _ _ _ _ s13 rl1)
    have c4 := u1.ok _ _ _ y.1 v _ _ _ (cr_more b2 c3) b4
    rw [Nat.zero_add, Nat.zero_add, List.set_comm _ _ hij.symm] at c4
    exact (show nxP A G' R L H o D (.nx _) from gz) _ L4 _ (stp_more (s1'.trans s13) b1) b3 c4 ((Keeps.set hS.1).trans (Keeps.set hS.2))⟩⟩⟩
end
end AC
set_option Elab.async false
set_option linter.all false
set_option maxRecDepth 100000
/-! TL17: a law's end. -/
namespace AC
open PySem L2 PyProof PyProof.Rows PySem.Spec
/-- keywords alone, in the parameters' order -/
theorem kw_binds {K : Frag} {x qual : Str} {params : Arguments} {body : List Stmt} {scope : Scope} {kws : List (Str × V)} {f : Addr} {fd : FuncData} {ps : List Str} (F : FunD K x qual params body scope [] kws f fd)
    (h : ∀ (kV doc pm : Value) (an : Option Addr) (cd ct : Value) (us : List Value), us.length = ps.length → bindArgs (PySem.W.fnOf x qual params body scope .none kV doc pm an cd ct) ⟨[], ps.zip us⟩ = pure (ps.zip us)) : ∀ (s : Shared) (us : List Value), us.length = ps.length → BindsTo s fd ⟨[], ps.zip us⟩ (ps.zip us) := fun s us hl => by
  obtain ⟨oc, od, dV, kV, doc, pm, an, cd, ct, osl, e0, lk, hcd, hD, hK⟩ := F.ex
  subst e0
  rcases hD with ⟨_, e1⟩ | ⟨e1, _⟩
  · subst e1
    exact .of_eq (h kV doc pm an cd ct us hl)
  · exact absurd rfl e1
theorem ints_paired {K : Frag} {R : Hp} : ∀ ns : List Int, Paired (fun v x => cI.see K R v x) (ns.map V.int) ns
  | [] => .nil
  | _ :: ns => .cons rfl (ints_paired ns)
/-- the law's promise where nothing but the script is known -/
theorem sp_law {K : Frag} {ca : Str → Addr} {n : Nat} {F : List Int → Res Bool} (hF : ∀ ns : List Int, ns.length ≤ n → F ns = .ok true) (hn : n ≤ sizeLine) (H : Hp) (a : Addr) (ns : List Int) (hl : ns.length ≤ n) (hS : SqL K H a (ns.map V.int)) :
    spP K ca (aOne (cLK cI)) (rV cB) F [.ref a] H (fun v _ => v = .bl true) fun _ _ _ => False := by
  classical
  have rdH : rd (fun b => if H b = none then none else some (0, [])) H = H := by
    funext b
    unfold rd
    by_cases e : H b = none
    · simp only [e, if_true]
    · simp only [if_neg e]
  refine ⟨ns, fun b => if H b = none then none else some (0, []), ⟨fun b hb e => hb (if_pos e), fun b k l e => ?_⟩, ⟨.ref a, rfl, a, ns.map V.int, rfl, by rw [rdH]; exact hS, by rw [List.length_map]; omega, ?_⟩, ?_⟩
  · have e : (if H b = none then none else some (0, ([] : List Nat))) = some (k + 1, l) := e
    by_cases eb : H b = none
    · rw [if_pos eb] at e; cases e
    · rw [if_neg eb] at e; cases e
  · exact ints_paired ns
  · rw [hF ns hl]
    exact fun v L' H' _ _ h => h
/-- the law is called behind the top -/
theorem law_G {P : Program} {w : World} {K : Frag} {gm bm : Str → Option Value} {k : Nat} {fa a : Addr} {fd : FuncData} {x : Str} {sp : Sp} {st : Shared} {us : List Value} {ns : List Int}
    (kin : K.In st.heap) (gns : st.heap.Ns mainGlobals gm) (bns : st.heap.Ns builtinsNs bm) (bbt : ∀ x : Str, x ≠ "__name__" → bm x = bootBuiltins x) (nol : st.heap.NoLimit) (gen0 : st.gens = #[])
    (ga : st.heap.get? a = some { cls := .type "list", data := .seq us.toArray }) (ia : IntsAre us ns) (ln : ns.length ≤ sizeLine) (rm : Room k callerA)
    (F : ∀ base : Heap, K.In base → base.Ns mainGlobals gm → FnG P w K gm base k fa fd [x] sp) (bnd : ∀ (s : Shared) (u : Value), BindsTo s fd ⟨[u], []⟩ [(x, u)])
    (prm : ∀ H : Hp, Only H → SqL K H a (ns.map V.int) → sp [.ref a] H (fun v _ => v = .bl true) fun _ _ _ => False) :
    codeAny (model P w) callerA (.call (.ref fa) ⟨[.ref a], []⟩) (fun r s' => r = .ok (.ret (.bool true)) ∧ OldK st.heap s'.heap ∧ s'.os = st.os ∧ AllBare s'.gens) st := by
  have rvals := vals_ints ia
  have lens := ia.length
  have main_ : ∀ H : Hp, Only H → SqL K H a (ns.map V.int) → HOk P w H st.heap → (∀ b, H b ≠ none → b = a) → (H a ≠ none → K.lookup a = none) →
      codeAny (model P w) callerA (.call (.ref fa) ⟨[.ref a], []⟩) (fun r s' => r = .ok (.ret (.bool true)) ∧ OldK st.heap s'.heap ∧ s'.os = st.os ∧ AllBare s'.gens) st := by
    intro H only seen hokH atA notK
    have keepB : ∀ {b : Addr} {o : Obj}, st.heap.get? b = some o → H b = none → (hidT st.heap H).get? b = some o := fun e n => hidT_get e n
    have noDict : ∀ {b : Addr} {o : Obj} {es : Array DictEntry} {ep : Nat}, st.heap.get? b = some o → o.data = .dict es ep → H b = none := fun {b o es ep} e d => by
      cases q : H b with
      | none => rfl
      | some z =>
        obtain rfl : b = a := atA b (by rw [q]; simp)
        rw [ga] at e
        cases e
        exact Data.noConfusion (show Data.seq us.toArray _ = Data.dict es ep from d)
    have nsB : ∀ {b : Addr} {m : Str → Option Value}, st.heap.Ns b m → (hidT st.heap H).Ns b m := fun {b m} ⟨o, es, ep, e, d, r⟩ => ⟨o, es, ep, keepB e (noDict e d), d, r⟩
    have kinB : K.In (hidT st.heap H) := fun b o e => keepB (kin b o e) (by
      cases q : H b with
      | none => rfl
      | some z =>
        obtain rfl : b = a := atA b (by rw [q]; simp)
        have := notK (by rw [q]; simp)
        rw [this] at e
        cases e)
    have modB : L2.Mod K gm (hidT st.heap H) := ⟨kinB, nsB gns, ⟨bm, nsB bns, bbt⟩, let ⟨mc, h1, h2⟩ := nol; ⟨mc, nsB h1, h2⟩⟩
    have envB : Env0 P w K gm (hidT st.heap H) callerA [] st H := ⟨rfl, modB, fun b o e => of_hidT e, Nat.le_of_eq (hidT_size _ _), trivial, fun b z => absurd (show b ∈ ([] : List Addr) from z) (by simp), hokH, .of_eq gen0⟩
    refine codeAny_mono ((F _ kinB (nsB gns)).go callerA [] st H ⟨[.ref a], []⟩ [.ref a] [.ref a] _ _ rfl rm envB (bnd st (.ref a)) (.cons rfl .nil) (prm H only seen)) fun r s' h => ?_
    rcases r with e | fl
    · obtain ⟨_, _, _, _, _, _, _, _, _, _, _, _, z⟩ := (show L2.CX P w [] H st (fun _ _ _ => False) e s' from h)
      exact z.elim
    · rcases fl with _ | _ | _ | u
      · exact False.elim h
      · exact False.elim h
      · exact False.elim h
      · obtain ⟨v, H', osE, bareE, unE, hokE, rE, qE⟩ := h
        obtain rfl : v = V.bl true := qE
        obtain rfl : u = Value.bool true := rE
        refine ⟨rfl, OldK.of_keep fun b o e => ?_, osE, bareE⟩
        cases q : H b with
        | none => exact unE.keep b o e q (fun z => absurd (show b ∈ ([] : List Addr) from z) (by simp)) (by simp)
        | some z =>
          rcases only b with y | ⟨ob, xs, y⟩
          · rw [q] at y; cases y
          · obtain ⟨t1, _⟩ := hokH b _ y
            obtain ⟨t2, _⟩ := hokE b _ (unE.frzs b ob _ y)
            rw [e] at t1
            cases t1
            exact t2
  cases inK : K.lookup a with
  | some o =>
    have e := kin a o inK
    rw [ga] at e
    cases e
    exact main_ (fun _ => none) (fun _ => Or.inl rfl) (Or.inr ⟨_, us.toArray, _, inK, rfl, rfl, rfl, by rw [List.size_toArray, lens]; exact ln, by simpa using rvals⟩) (fun b u z => absurd (show (none : Option HO) = some u from z) (by simp)) (fun b z => absurd rfl z) fun z => absurd rfl z
  | none =>
    refine main_ (fun b => if b = a then some (.frz { cls := .type "list", data := .seq us.toArray } (.lst (ns.map V.int))) else none) (fun b => ?_) (Or.inl (Or.inr ⟨{ cls := .type "list", data := .seq us.toArray }, if_pos rfl⟩)) (fun b u z => ?_) (fun b z => ?_) fun _ => inK
    · by_cases e : b = a
      · exact Or.inr ⟨_, _, if_pos e⟩
      · exact Or.inl (if_neg e)
    · by_cases e : b = a
      · have y := (if_pos e).symm.trans z
        cases y
        subst e
        exact ⟨ga, by rw [List.length_map]; exact ln, us, _, rvals, ga⟩
      · have y := (if_neg e).symm.trans z
        cases y
    · by_cases e : b = a
      · exact e
      · exact absurd (if_neg e) z
/-- a law over a head by facts -/
theorem walk_G {l : PySem.W.OpenLaw} {n k : Nat} {q : Program} {loose : List Str} {XP : (Str → Option Value) → Heap → Prop} {YP : World → Heap → Prop} {d : DefRec} {x : Str}
    (most : l.most = some n) (small : n ≤ sizeLine) (nodf : d.params.defaults = []) (rm : Room k callerA)
    (F : ∀ (w : World) (gm : Str → Option Value) (fa : Addr) (h : Heap), YP w h → h.Ns mainGlobals gm → gm d.name = some (.ref fa) →
      ∃ (K : Frag) (fd : FuncData) (sp : Sp), K.In h ∧ (∀ (s : Shared) (u : Value), BindsTo s fd ⟨[u], []⟩ [(x, u)]) ∧
        (∀ (H : Hp) (a : Addr) (ns : List Int), ns.length ≤ n → Only H → SqL K H a (ns.map V.int) → sp [.ref a] H (fun v _ => v = .bl true) fun _ _ _ => False) ∧
        ∀ base : Heap, K.In base → base.Ns mainGlobals gm → FnG l.prog w K gm base k fa fd [x] sp) :
    PySem.W.WalkO q loose XP YP l.row.toRowW d [] (fun f vs => PySem.call f vs) := by
  refine Att.attach_call most nodf fun w s₀ st gm bm fa o pm cd doc a us ns G Y ho hd hcd hgm hobj hints hlen hg => ?_
  obtain ⟨K, fd, sp, kin, bnd, prm, hF⟩ := F w gm fa _ Y G.T.g hgm
  exact law_G kin G.T.g G.T.b G.T.builtins G.T.nolimit hg hobj hints (Nat.le_trans hlen small) rm hF bnd fun H hO hS => prm H a ns hlen hO hS
end AC
set_option Elab.async false
set_option linter.all false
set_option maxRecDepth 100000
/-! TL18: texts; unary minus; zip. -/
namespace AC
open PySem L2 PyProof
section
variable {A : Amb} {G G' : Ctx} {ρ : Type} {R : Rr ρ}
theorem ex_neg {a : Expr} {pos : Pos} {f : CT G → Res (Int × CT G)} (h : EX A G a (rV cI) f) : EX A G (.UnaryOp .USub a pos) (rV cI) (fun p => Res.bind (f p) fun y => .ok (-y.1, y.2)) :=
  pe_weak (pe_un un_neg h) fun o H Q ⟨p, L, w, cr, kk⟩ => run1 w cr kk fun x p' v L' H' s w' c' rl gd => by
    cases rl
    exact ⟨x, rfl, (show ∀ v L' H', _ from gd) _ L' H' s w' c' rfl⟩
/-- a text as a result: of allowed signs, not too long -/
def okS (z : Str) : Option Str := if PyData.strOk z = true ∧ z.length ≤ 16777216 then some z else none
theorem okS_see {z x : Str} (h : okS z = some x) {K : Frag} {R : Hp} : x = z ∧ cS.see K R (.str z) x ∧ z.length ≤ sizeLine := by
  unfold okS at h
  split at h
  · rename_i hc
    cases h
    have hl := line_eq
    exact ⟨rfl, ⟨rfl, hc.1, by omega⟩, by omega⟩
  · cases h
def addSO (x y : Str) : Option Str := if x.length + y.length ≤ 16777216 then okS (x ++ y) else none
theorem ot_addS : OpT A (binaryOp .Add) cS cS addSO (rV cS) := op_of op_add_str fun L H vx vy x y z Q w h1 h2 h3 q => by
  obtain ⟨rfl, _⟩ := h1; obtain ⟨rfl, _⟩ := h2
  unfold addSO at h3
  split at h3
  · rename_i hc
    have hl := line_eq
    obtain ⟨rfl, h4, h5⟩ := okS_see (K := A.X.K) (R := rd L H) h3
    exact ⟨x, y, rfl, rfl, by omega, q _ h4⟩
  · cases h3
def repS (x : Str) (n : Int) : Str := if n < 1 then Str.empty else if (n == 1 || x.length == 0) = true then x else ⟨(List.replicate n.toNat x.cps).foldl (· ++ ·) #[]⟩
def mulSO (x : Str) (n : Int) : Option Str := if -(2 ^ 63) ≤ n ∧ n < 2 ^ 63 ∧ (x.length : Int) * n ≤ 16777216 then okS (repS x n) else none
theorem op_mulS {X : Cx} : OpR X (binaryOp .Mult) (fun x y H Q => ∃ (z : Str) (n : Int), x = .str z ∧ y = .int n ∧ -(2 ^ 63) ≤ n ∧ n < 2 ^ 63 ∧ (z.length : Int) * n ≤ 16777216 ∧ (repS z n).length ≤ sizeLine ∧ Q (.str (repS z n)) H) := by
  intro pins s o H x y v u Q I rx ry ⟨z, n, ex, ey, h1, h2, h3, h4, q⟩
  subst ex ey
  obtain ⟨t, rfl⟩ := (show ∃ t, v = Value.str z t from rx)
  obtain ⟨t', rfl⟩ := (show ∃ t, u = Value.int n t from ry)
  have hl := line_eq
  have pos_ : ¬ n < 1 → (n == 1 || z.length == 0) = false → 1 ≤ z.length ∧ n ≤ 16777216 := fun a b => by
    rw [Bool.or_eq_false_iff] at b
    have hz : z.length ≠ 0 := fun e => by have := b.2; rw [e] at this; simp at this
    refine ⟨by omega, ?_⟩
    have : (1 : Int) * n ≤ (z.length : Int) * n := Int.mul_le_mul_of_nonneg_right (by omega) (by omega)
    omega
  refine PySem.P.mul_str (by rw [decide_eq_false (by omega), decide_eq_false (by omega)]; rfl) (fun a b => ?_) (fun a b => ?_) ?_
  · obtain ⟨c, d⟩ := pos_ a b
    have e1 : (z.length : Int) ≤ 16777216 := by
      have : (z.length : Int) * 1 ≤ (z.length : Int) * n := Int.mul_le_mul_of_nonneg_left (by omega) (by omega)
      omega
    have : (2 ^ 63 - 1) / 16777216 ≤ (2 ^ 63 - 1) / n := by
      rw [Int.le_ediv_iff_mul_le (by omega)]
      calc (2 ^ 63 - 1) / 16777216 * n ≤ (2 ^ 63 - 1) / 16777216 * 16777216 := Int.mul_le_mul_of_nonneg_left d (by decide)
        _ ≤ 2 ^ 63 - 1 := by decide
    omega
  · obtain ⟨c, d⟩ := pos_ a b
    have e1 : z.length * n.toNat ≤ 16777216 := by
      obtain ⟨k, rfl⟩ := Int.eq_ofNat_of_zero_le (show 0 ≤ n by omega)
      have e : (Int.toNat (k : Int)) = k := rfl
      rw [e]
      have h3' : ((z.length * k : Nat) : Int) ≤ 16777216 := by rw [Int.natCast_mul]; exact h3
      omega
    unfold Builtin.Str.tooLong
    rw [decide_eq_false (by omega)]
  · unfold repS at h4 q
    split
    · rename_i hn
      rw [if_pos hn] at q h4
      exact ⟨by decide, .str Str.empty, H, I.tok _, ⟨_, rfl⟩, q⟩
    · rename_i hn
      rw [if_neg hn] at q h4
      split
      · rename_i hm
        rw [if_pos hm] at q
        exact ⟨.str z, H, I, ⟨_, rfl⟩, q⟩
      · rename_i hm
        rw [if_neg hm] at q h4
        exact ⟨h4, .str _, H, I.tok _, ⟨_, rfl⟩, q⟩
theorem ot_mulS : OpT A (binaryOp .Mult) cS cI mulSO (rV cS) := op_of op_mulS fun L H vx vy x y z Q w h1 h2 h3 q => by
  obtain ⟨rfl, _⟩ := h1; cases h2
  unfold mulSO at h3
  split at h3
  · rename_i hc
    obtain ⟨rfl, h4, h5⟩ := okS_see (K := A.X.K) (R := rd L H) h3
    exact ⟨x, y, rfl, rfl, hc.1, hc.2.1, hc.2.2, h5, q _ h4⟩
  · cases h3
/-- z[lo:hi] -/
theorem ex_cutS {e : Expr} {lo hi : Option Expr} {p2 pos : Pos} {f : CT G → Res (Str × CT G)} {fl fh : CT G → Res (Option Int × CT G)} (h : EX A G e (rV cS) f) (hl : OX A G lo fl) (hh : OX A G hi fh) :
    EX A G (.Subscript e (.Slice lo hi none p2) pos) (rV cS) (fun p => Res.bind (f p) fun y => Res.bind (fl y.2) fun z => Res.bind (fh z.2) fun u => Res.bind (ofO (okS (cutS y.1 z.1 u.1))) fun w => .ok (w, u.2)) :=
  pe_weak (pe_slice sl_str h hl hh) fun o H Q ⟨p, L, w, cr, k⟩ => ⟨p, L, w, cr, k.bind.imp fun y _ gy v L1 H1 s1 w1 c1 ⟨e1, h1, l1⟩ => ⟨y.2, L1, w1, c1, (gy.bind.step s1).imp fun z _ gz L2 H2 s2 w2 c2 => ⟨z.2, L2, w2, c2, (gz.bind.step (s1.trans s2)).imp fun u _ gu L3 H3 s3 w3 c3 => by
    subst e1
    obtain ⟨x, ex, gx⟩ := good_ofO gu
    obtain ⟨rfl, h4, h5⟩ := okS_see (K := A.X.K) (R := rd L3 H3) ex
    exact ⟨y.1, rfl, l1, (show ∀ v L' H', _ from gx) _ L3 H3 ((s1.trans s2).trans s3) w3 c3 h4⟩⟩⟩⟩
theorem strs_of {K : Frag} {R : Hp} : ∀ {vs : List V} {xs : List Str}, Paired (fun v x => cS.see K R v x) vs xs → vs = xs.map V.str
  | _, _, .nil => rfl
  | _, _, .cons r t => by obtain ⟨rfl, _⟩ := r; rw [strs_of t]; rfl
def joinO (a : Str) (ys : List Str) : Option Str := if (ys.map (·.length)).sum + ys.length * a.length ≤ 16777216 then okS (Txt.join a ys) else none
theorem mv_join : MtV A "str" "str.join" cS (aOne (cL cS)) joinO (rV cS) := ⟨_, mt_join, fun L H v x ⟨e, _⟩ => by subst e; exact rfl, fun L H v ws x y z Q w ⟨e, _⟩ ⟨v2, e2, a, vs, e3, hq, hl, hp⟩ hk q => by
  subst e e2 e3
  unfold joinO at hk
  split at hk
  · rename_i hc
    obtain ⟨rfl, h4, h5⟩ := okS_see (K := A.X.K) (R := rd L H) hk
    have := strs_of hp
    subst this
    exact ⟨x, a, y, rfl, rfl, .inl (SqL.of (rd_sub _ _ hq)), hc, q _ L H Ext.refl w h4⟩
  · cases hk⟩
theorem sx_parC3 {s1 s2 s3 : Slot} {r1 : Rt s1.T} {r2 : Rt s2.T} {r3 : Rt s3.T} {G1 G2 : Ctx} {i j l : Nat} {f1 : CT G → Res (s1.T × CT G)} {f2 : CT G → Res (s2.T × CT G)} {f3 : CT G → Res (s3.T × CT G)} {put3 : CT G → s3.T → CT G1} {put2 : CT G1 → s2.T → CT G2} {put1 : CT G2 → s1.T → CT G'} {x y z : Str} {a b c : Expr} {px py pz pt pos : Pos} {kt k2 pt2}
    (q1 : StR s1 r1) (q2 : StR s2 r2) (q3 : StR s3 r3) (u3 : Upd G l s3 G1 put3) (u2 : Upd G1 j s2 G2 put2) (u1 : Upd G2 i s1 G' put1) (hij : i ≠ j ∧ i ≠ l ∧ j ≠ l) (hS : A.S i ∧ A.S j ∧ A.S l)
    (hi : A.X.N[i]? = some x) (hj : A.X.N[j]? = some y) (hl : A.X.N[l]? = some z) (hx : Loc A.X.env.scope x) (hy : Loc A.X.env.scope y) (hz : Loc A.X.env.scope z) (h1 : EX A G a r1 f1) (h2 : EX A G b r2 f2) (h3 : EX A G c r3 f3)
    (hw : swappedStores [.Tuple [.Name x px, .Name y py, .Name z pz] kt pt] (.Tuple [a, b, c] k2 pt2) A.X.env = pure none) (fx : A.X.fn x = true) (fy : A.X.fn y = true) (fz : A.X.fn z = true)
    (hs : swapsWithSole [.Tuple [.Name x px, .Name y py, .Name z pz] kt pt] (.Tuple [a, b, c] k2 pt2) pos.line A.X.env = pure false := by rfl)
    (sa : starEach [a, b, c] A.X.env = (false, eval a A.X.env) :: starEach [b, c] A.X.env := by rfl) (sb : starEach [b, c] A.X.env = (false, eval b A.X.env) :: starEach [c] A.X.env := by rfl) (sc : starEach [c] A.X.env = (false, eval c A.X.env) :: starEach [] A.X.env := by rfl) :
    SX A G (.Assign [.Tuple [.Name x px, .Name y py, .Name z pz] kt pt] (.Tuple [a, b, c] k2 pt2) pos) G' R (fun p => Res.bind (f1 p) fun y => Res.bind (f2 y.2) fun z => Res.bind (f3 z.2) fun u => .ok (.nx (put1 (put2 (put3 u.2 u.1) z.1) y.1))) :=
  ps_weak (ps_asg (pe_tup (pa_cons h1 (pa_cons h2 (pa_cons h3 pa_nil sc) sb) sa)) (pg_tup A.calm (pgs_cons (pg_name A.nd hi hx (.inl fx)) (pgs_cons (pg_name A.nd hj hy (.inl fy)) (pgs_cons (pg_name A.nd hl hz (.inl fz)) pgs_nil)))) hs hw) fun D o H ⟨p, L, w, cr, k⟩ => ⟨p, L, w, cr, k.bind.imp fun y _ gy v L1 H1 s1' w1 c1 rl1 => ⟨y.2, L1, w1, c1, (gy.bind.step s1').imp fun z _ gz v2 L2 H2 s2' w2 c2 rl2 => ⟨z.2, L2, w2, c2, (gz.bind.step (s1'.trans s2')).imp fun u _ gu v3 L3 H3 s3' w3 c3 rl3 => ⟨by show 3 ≤ sizeLine; decide, fun ad ha => by
    obtain ⟨e1, e2⟩ := ext_new (o := .tup [v, v2, v3]) w3 ha
    refine ⟨ad, [v, v2, v3], rfl, .inl (.inl upd_same), rfl, v, [v2, v3], rfl, v2, [v3], rfl, v3, [], rfl, rfl, ?_⟩
    obtain ⟨L4, a1, a2, a3, a4⟩ := q3.ok A.X.K (0 + l) L2 H2 L3 _ v3 u.1 e2 (r3.post _ _ _ _ _ _ _ _ _ e1.stp rl3)
    have t24 : Stp L2 H2 L4 _ := stp_more (s3'.trans e1.stp) a1
    have c4 := u3.ok _ _ _ u.1 v3 _ _ _ (cr_more a2 (c3.ext w3 e1)) a4
    obtain ⟨L5, b1, b2, b3, b4⟩ := q2.ok A.X.K (0 + j) L1 H1 L4 _ v2 z.1 a3 (r2.post _ _ _ _ _ _ _ _ _ t24 rl2)
    have t15 : Stp L1 H1 L5 _ := stp_more (s2'.trans t24) b1
    have c5 := u2.ok _ _ _ z.1 v2 _ _ _ (cr_more b2 c4) b4
    obtain ⟨L6, d1, d2, d3, d4⟩ := q1.ok A.X.K (0 + i) L H L5 _ v y.1 b3 (r1.post _ _ _ _ _ _ _ _ _ t15 rl1)
    have c6 := u1.ok _ _ _ y.1 v _ _ _ (cr_more d2 c5) d4
    rw [Nat.zero_add, Nat.zero_add, Nat.zero_add, List.set_comm _ _ hij.2.2.symm, List.set_comm _ _ hij.2.1.symm, List.set_comm _ _ hij.1.symm] at c6
    exact (show nxP A G' R L H o D (.nx _) from gu) _ L6 _ (stp_more (s1'.trans t15) d1) d3 c6 (((Keeps.set hS.1).trans (Keeps.set hS.2.1)).trans (Keeps.set hS.2.2))⟩⟩⟩⟩
end
end AC
set_option Elab.async false
set_option linter.all false
set_option maxRecDepth 100000
/-! TL19: methods and properties of instances. -/
namespace AC
open PySem L2 PyProof
/-- a method of the class at C -/
structure MetG (P : Program) (w : World) (K : Frag) (mg : Str → Option Value) (base : Heap) (k : Nat) (C : Addr) (m : Str) (ps : List Str) (sp : Sp) : Prop where
  ex : ∃ f fd, FnG P w K mg base k f fd ps sp ∧ Meth K C m f ∧ Binds K fd ps []
section
variable {A : Amb} {G G' : Ctx} {ρ : Type} {R : Rr ρ}
abbrev MetA (A : Amb) (k : Nat) (C : Addr) (m : Str) (ps : List Str) (sp : Sp) : Prop := MetG A.X.prog A.X.w A.X.K A.X.mg A.X.base k C m ps sp
/-- from the arguments' values on -/
theorem sp_end {α β : Type} {as : ArgC α} {r : Rt β} {F : α → Res β} (hr : RtOk r) {p : CT G} {y : α} {vs : List V} {L0 L L1 : Lab} {H0 H H1 : Hp} {o : St} {Q : VK} (s0 : Stp L0 H0 L1 H1) (s1 : Stp L H L1 H1) (w1 : Wf L1 H1) (c1 : CR A.X.K 0 G p L1 H1 o) (h1 : as.see A.X.K (rd L1 H1) vs y)
    (gy : Good A (Res.bind (F y) fun z => Res.ok (z, p)) L0 H0 o fun y => ∀ (v : V) (L' : Lab) (H' : Hp), Stp L H L' H' → Wf L' H' → CR A.X.K 0 G y.2 L' H' o → r.rel A.X.K L H L' H' v y.1 → Q v H') : spP A.X.K A.ca as r F vs H1 Q (WE A.W o) := by
  refine ⟨y, strip L1, wf_strip w1, by rw [rd_strip]; exact h1, ?_⟩
  have gy := gy.step s0
  cases e : F y with
  | bad => rw [e] at gy; exact gy.elim
  | exc ex =>
    rw [e] at gy
    exact fun cls d H' hz => (show A.raises ex L1 H1 o from gy) cls d H' (rz_strip hz) o fun _ _ => rfl
  | ok z =>
    rw [e] at gy
    exact fun v L2 H2 s2 w2 rl => (show ∀ v L' H', _ from gy) v (unstrip L1 L2) H2 (s1.trans (un_ext w1 s2).stp) (un_wf w1 w2 s2) (c1.ext w1 (un_ext w1 s2)) (r.pre _ _ _ _ _ _ _ _ _ s1 (hr.un w1 s2 rl))
end
end AC
set_option Elab.async false
set_option linter.all false
set_option maxRecDepth 100000
/-! TL20: len and == of instances by their own methods. -/
namespace AC
open PySem L2 PyProof
section
variable {A : Amb} {G G' : Ctx} {ρ : Type} {R : Rr ρ}
def okO {α : Type} : Res α → Option α
  | .ok x => some x
  | _ => none
/-- a promise by values, from within an operation -/
theorem sp_op {α β : Type} {as : ArgC α} {r : Rt β} {F : α → Res β} (hr : RtOk r) {y : α} {z : β} {vs : List V} {L : Lab} {H : Hp} {Q : VK} (w : Wf L H) (h1 : as.see A.X.K (rd L H) vs y) (e : okO (F y) = some z)
    (q : ∀ v L' H', Ext L H L' H' → Wf L' H' → r.rel A.X.K L H L' H' v z → Q v H') : spP A.X.K A.ca as r F vs H Q (fun _ _ _ => False) := by
  refine ⟨y, strip L, wf_strip w, by rw [rd_strip]; exact h1, ?_⟩
  cases e1 : F y with
  | bad => rw [e1] at e; cases e
  | exc ex => rw [e1] at e; cases e
  | ok z' =>
    rw [e1] at e
    cases e
    exact fun v L2 H2 s2 w2 rl => q v (unstrip L L2) H2 (un_ext w s2) (un_wf w w2 s2) (hr.un w s2 rl)
/-- a special method is called -/
theorem run_sp {k : Nat} {g : Addr} {fd : FuncData} {ps : List Str} {sp : Sp} {pins : List (Addr × Obj)} {o : St} {H : Hp} {s : Shared} {Q : VK} {us : List Value} {vs : List V} {B : Around} {E' : Value → Shared → Prop} (I : Inv A.X pins o H s) (F : FnG A.X.prog A.X.w A.X.K A.X.mg A.X.base k g fd ps sp) (hg : B.guards = some []) (rm : Room k B) (e0 : B.frames = A.X.A.frames) (hb : Binds A.X.K fd ps []) (rv : Vals vs us) (h : sp vs H Q fun _ _ _ => False) :
    wpAny (model A.X.prog A.X.w) B (call (.ref g) us) (EP A.X pins o Q) E' s := by
  have hl : us.length = ps.length := rv.length.symm.trans (F.len _ _ _ _ h)
  have bd := hb s us I.kIn (by rw [List.append_nil]; exact hl)
  rw [List.append_nil] at bd
  have en : Env0 A.X.prog A.X.w A.X.K A.X.mg A.X.base B A.X.stack s H := by
    have e := I.env0
    exact ⟨by rw [e0]; exact e.frames, e.mod, e.bs, e.bsz, e.funs, e.frf, e.hok, e.bare⟩
  refine wpAny_call (codeAny_mono (F.go B A.X.stack s H ⟨us, []⟩ us vs Q _ hg rm en bd rv h) fun y s' hq => ?_)
  rcases y with e | fl
  · obtain ⟨_, _, _, _, _, _, _, _, _, _, _, _, z⟩ := (show L2.CX A.X.prog A.X.w A.X.stack H s (fun _ _ _ => False) e s' from hq)
    exact z.elim
  · rcases fl with _ | _ | _ | u
    · exact False.elim hq
    · exact False.elim hq
    · exact False.elim hq
    · exact I.after hq
/-- x == y by the class's own __eq__ -/
theorem ot_eqOwn {α : Type} {C : Addr} {fc : FldC α} {F : α × α → Res Bool} {k : Nat} {ps : List Str} (D : MetA A k C "__eq__" ps (spP A.X.K A.ca (aCons (cIns C fc) (aOne (cIns C fc))) (rV cB) F)) (hk : k ≤ A.lv) : OpT A (compareOp .Eq) (cIns C fc) (cIns C fc) (fun x y => okO (F (x, y))) (rV cB) := by
  obtain ⟨g, fd, F1, hm, hb⟩ := D.ex
  refine ⟨fun x y H Q => ∃ a b dx dy fs gs, x = .ref a ∧ y = .ref b ∧ H a = some (.ins C dx fs) ∧ H b = some (.ins C dy gs) ∧ spP A.X.K A.ca (aCons (cIns C fc) (aOne (cIns C fc))) (rV cB) F [.ref a, .ref b] H (fun v H' => (∃ t, v = .bl t) ∧ Q v H') (fun _ _ _ => False), ?_, ?_⟩
  · intro pins s o H x y u v Q I rx ry ⟨a, b, dx, dy, fs, gs, ex, ey, ha, hb', hsp⟩
    subst ex ey
    obtain rfl : u = Value.ref a := rx
    obtain rfl : v = Value.ref b := ry
    obtain ⟨mA, J, _⟩ := ins_get I.hok ha
    obtain ⟨mB, J', _⟩ := ins_get I.hok hb'
    obtain ⟨od, J, _⟩ := J.look
    obtain ⟨od', J', _⟩ := J'.look
    obtain ⟨m, hF⟩ := I.fr
    refine PySem.W.cmp_K (op := .Eq) (tb := .ref C) A.room.units0 hF I.ok.mod.kin J J'.type (by simp [PySem.W.notFirst]) hm.at_ hm.fn ?_
    refine wpAny_mono (run_sp (B := A.X.A) I F1 A.gd (A.room.mono hk) rfl hb (us := [.ref a, .ref b]) (vs := [.ref a, .ref b]) (.cons rfl (.cons rfl .nil)) hsp) (fun r s' hq => ?_) fun _ _ e => e
    obtain ⟨v, H', I', rv, ⟨t, rfl⟩, q⟩ := hq
    cases rv
    exact ⟨.bl t, H', I', rfl, q⟩
  · intro L H vx vy x y z Q w h1 h2 e q
    have r1 := h1
    have r2 := h2
    obtain ⟨a, dx, fs, rfl, ha, _⟩ := h1
    obtain ⟨b, dy, gs, rfl, hb', _⟩ := h2
    exact ⟨a, b, dx, dy, fs, gs, rfl, rfl, rd_sub _ _ ha, rd_sub _ _ hb', sp_op (as := aCons (cIns C fc) (aOne (cIns C fc))) (y := (x, y)) rtv w ⟨.ref a, [.ref b], rfl, r1, .ref b, rfl, r2⟩ e fun v L' H' ex w' rl => ⟨⟨z, rl⟩, q v L' H' ex w' rl⟩⟩
end
end AC
set_option Elab.async false
set_option linter.all false
set_option maxRecDepth 100000
/-! TL21: calls by position, by name, with defaults: of defs, methods, classes. -/
namespace AC
open PySem L2 PyProof
/-- what comes to a parameter: a positional value, one by name, a default -/
inductive Sel where
  | p (i : Nat) | k (i : Nat) | d (i : Nat)
def Sel.at_ {α : Type} (us ds ws : List α) : Sel → Option α
  | .p i => us[i]?
  | .k i => ws[i]?
  | .d i => ds[i]?
def selL {α : Type} (ss : List Sel) (us ds ws : List α) : List α := ss.filterMap (Sel.at_ us ds ws)
theorem vals_get {vs : List V} {us : List Value} (h : Vals vs us) : ∀ i : Nat, (vs[i]? = none ∧ us[i]? = none) ∨ ∃ v u, vs[i]? = some v ∧ us[i]? = some u ∧ RelV v u := by
  induction h with
  | nil => exact fun i => .inl ⟨rfl, rfl⟩
  | cons r t ih =>
    intro i
    cases i with
    | zero => exact .inr ⟨_, _, rfl, rfl, r⟩
    | succ i => exact ih i
theorem selL_rel {vs ds zs : List V} {us its ws : List Value} (h1 : Vals vs us) (h2 : Vals ds its) (h3 : Vals zs ws) : ∀ ss : List Sel, Vals (selL ss vs ds zs) (selL ss us its ws)
  | [] => .nil
  | s :: ss => by
    have hs : (Sel.at_ vs ds zs s = none ∧ Sel.at_ us its ws s = none) ∨ ∃ v u, Sel.at_ vs ds zs s = some v ∧ Sel.at_ us its ws s = some u ∧ RelV v u := by
      cases s with
      | p i => exact vals_get h1 i
      | k i => exact vals_get h3 i
      | d i => exact vals_get h2 i
    have ih := selL_rel h1 h2 h3 ss
    unfold selL at ih ⊢
    rcases hs with ⟨e1, e2⟩ | ⟨v, u, e1, e2, r⟩
    · rw [List.filterMap_cons, List.filterMap_cons, e1, e2]; exact ih
    · rw [List.filterMap_cons, List.filterMap_cons, e1, e2]; exact .cons r ih
/-- a way to call a def -/
abbrev PatG (K : Frag) (fd : FuncData) (ps : List Str) (n : Nat) (ks : List Str) (gV : List V → List V → List V) : Prop := ∃ g, KBn K fd ps n ks g gV
theorem pat_d {K : Frag} {x qual : Str} {params : Arguments} {body : List Stmt} {scope : Scope} {dvs : List V} {kws : List (Str × V)} {f : Addr} {fd : FuncData} {ps : List Str} (F : FunD K x qual params body scope dvs kws f fd) (n : Nat) (ks : List Str) (ss : List Sel) (hd : dvs ≠ [])
    (h : ∀ (T : Addr) (kV doc pm : Value) (an : Option Addr) (cdv ct : Value) (us its ws : List Value), us.length = n → its.length = dvs.length → ws.length = ks.length →
      ∃ k, bindArgs (PySem.W.fnOf x qual params body scope (.ref T) kV doc pm an cdv ct) ⟨us, ks.zip ws⟩ = seqItems? (.ref T) >>= k ∧ k (some its.toArray) = pure (ps.zip (selL ss us its ws))) : PatG K fd ps n ks (fun vs zs => selL ss vs dvs zs) := by
  obtain ⟨its, q⟩ := FunD.kbindsD F n ks (fun us ds ws => selL ss us ds ws) hd (fun h1 h2 h3 => selL_rel h1 h2 h3 ss) h
  exact ⟨_, q⟩
/-! ### arguments as written -/
section
variable {A : Amb} {G G' : Ctx} {ρ : Type} {R : Rr ρ}
def tAB (A : Amb) {α β : Type} (G : Ctx) (as : ArgC α) (bs : ArgC β) (f : CT G → Res ((α × β) × CT G)) (o : St) (H : Hp) (Q : List V → List V → Hp → Prop) : Prop :=
  ∃ (p : CT G) (L : Lab), Wf L H ∧ CR A.X.K 0 G p L H o ∧ Good A (f p) L H o fun y => ∀ (vs zs : List V) (L' : Lab) (H' : Hp), Stp L H L' H' → Wf L' H' → CR A.X.K 0 G y.2 L' H' o → as.see A.X.K (rd L' H') vs y.1.1 → bs.see A.X.K (rd L' H') zs y.1.2 → Q vs zs H'
structure CAX (A : Amb) (G : Ctx) (pos : Pos) (es : List Expr) (kws : List Keyword) (ks : List Str) {α β : Type} (as : ArgC α) (bs : ArgC β) (f : CT G → Res ((α × β) × CT G)) : Prop where
  run : ∀ (pins : List (Addr × Obj)) (s : Shared) (o : St) (H : Hp) (Rk : List V → List V → Hp → Prop) (fv : Value) (first : List Value) (Qf : Value → Shared → Prop), Inv A.X pins o H s → PySem.W.keepIn A.X.K fv = true → tAB A G as bs f o H Rk →
    (∀ (us ws : List Value) (vs zs : List V) (H1 : Hp) (s1 : Shared), Inv A.X pins o H1 s1 → Vals vs us → Vals zs ws → vs.length = as.n → zs.length = bs.n → Rk vs zs H1 → wpAny (model A.X.prog A.X.w) A.X.A (call fv (first ++ us) (ks.zip ws)) Qf A.X.xe s1) →
    wpAny (model A.X.prog A.X.w) A.X.A (callWith pos fv first (backTo pos (starEach es A.X.env)) (backToKw pos (keywordEach kws A.X.env))) Qf A.X.xe s
theorem ca_pos {α : Type} {as : ArgC α} {pos : Pos} {e : Expr} {es : List Expr} {fa : CT G → Res (α × CT G)} (ha : AX A G (e :: es) as fa) (he : starEach (e :: es) A.X.env = (false, eval e A.X.env) :: starEach es A.X.env := by rfl) (hpl : (backTo pos (starEach es A.X.env)).any (·.1) = false := by rfl) :
    CAX A G pos (e :: es) [] [] as aNil (fun p => Res.bind (fa p) fun y => .ok ((y.1, ()), y.2)) := by
  refine ⟨fun pins s o H Rk fv first Qf I kp ⟨p, L, w, cr, g⟩ hk => ?_⟩
  refine PySem.W.callWith_K (h₀ := A.X.base) I.ok.mod.kin kp ?_ he hpl
  refine thn (ha.run pos pins s o H (fun vs H1 => vs.length = as.n ∧ Rk vs [] H1) I ⟨p, L, w, cr, g.bind.imp fun y _ gy vs L' H' s' w' c' hv => ⟨as.len _ _ _ _ hv, gy vs [] L' H' s' w' c' hv rfl⟩⟩) fun us s1 ⟨vs, H1, I1, rv, hl, q⟩ => ⟨I1.kIn, ?_⟩
  exact hk us [] vs [] H1 s1 I1 rv .nil hl rfl q
theorem ca_kw {β : Type} {bs : ArgC β} {pos : Pos} {kws : List Keyword} {ks : List Str} {fb : CT G → Res (β × CT G)} (hb : KWX A G kws bs fb) (hall : (backToKw pos (keywordEach kws A.X.env)).all (·.1.isSome) = true := by rfl) (hks : (backToKw pos (keywordEach kws A.X.env)).filterMap (·.1) = ks := by rfl) (hpl : (backToKw pos (keywordEach kws A.X.env)).any (·.1.isNone) = false := by rfl) :
    CAX A G pos [] kws ks aNil bs (fun p => Res.bind (fb p) fun y => .ok (((), y.1), y.2)) := by
  refine ⟨fun pins s o H Rk fv first Qf I kp ⟨p, L, w, cr, g⟩ hk => ?_⟩
  refine PySem.W.callWith_KW0 (h₀ := A.X.base) I.ok.mod.kin kp hall ?_ hpl
  refine thn (hb.run pos pins s o H (fun zs H1 => zs.length = bs.n ∧ Rk [] zs H1) I ⟨p, L, w, cr, g.bind.imp fun y _ gy zs L' H' s' w' c' hv => ⟨bs.len _ _ _ _ hv, gy [] zs L' H' s' w' c' rfl hv⟩⟩) fun ws s1 ⟨zs, H1, I1, rz, hl, q⟩ => ⟨I1.kIn, ?_⟩
  rw [hks]
  exact hk [] ws [] zs H1 s1 I1 .nil rz rfl hl q
/-! ### the calls -/
/-- a method, called so (n: self counts) -/
structure MetP (P : Program) (w : World) (K : Frag) (mg : Str → Option Value) (base : Heap) (k : Nat) (C : Addr) (m : Str) (n : Nat) (ks : List Str) (gV : List V → List V → List V) (sp : Sp) : Prop where
  ex : ∃ f fd ps, FnG P w K mg base k f fd ps sp ∧ Meth K C m f ∧ PatG K fd ps n ks gV
abbrev MetQ (A : Amb) (k : Nat) (C : Addr) (m : Str) (n : Nat) (ks : List Str) (gV : List V → List V → List V) (sp : Sp) : Prop := MetP A.X.prog A.X.w A.X.K A.X.mg A.X.base k C m n ks gV sp
theorem ex_metP {α β γ δ ε : Type} {as : ArgC α} {bs : ArgC β} {cs : ArgC γ} {fc : FldC ε} {r : Rt δ} {F : γ → Res δ} {k n : Nat} {C : Addr} {m : Str} {ks : List Str} {gV : List V → List V → List V} {ob : Expr} {es : List Expr} {kws : List Keyword} {ap pos : Pos} {f : CT G → Res (ε × CT G)} {fa : CT G → Res ((α × β) × CT G)} {pl : Sem Bool} (mp : ε → α → β → γ) (D : MetQ A k C m n ks gV (spP A.X.K A.ca cs r F)) (hk : k ≤ A.lv) (cl : Cls A.X.K C) (nk : NoKey fc m) (hr : RtOk r) (ho : EX A G ob (rV (cIns C fc)) f) (ha : CAX A G pos es kws ks as bs fa) (hn : as.n + 1 = n) (hm : bs.n = ks.length)
    (see : ∀ K R v vs zs u x y, (cIns C fc).see K R v u → as.see K R vs x → bs.see K R zs y → cs.see K R (gV (v :: vs) zs) (mp u x y))
    (ht : eval (.Call (.Attribute ob m ap) es kws pos) A.X.env = (do
      let recv ← eval ob A.X.env
      standAt ap.atName
      let (fn, first) ← holding [recv] (getMethod recv m pl)
      callWith pos fn first (backTo pos (starEach es A.X.env)) (backToKw pos (keywordEach kws A.X.env))) := by rfl) :
    EX A G (.Call (.Attribute ob m ap) es kws pos) r (fun p => Res.bind (f p) fun y => Res.bind (fa y.2) fun z => Res.bind (F (mp y.1 z.1.1 z.1.2)) fun u => .ok (u, z.2)) := by
  obtain ⟨g, fd, ps, F1, hmt, g', hb⟩ := D.ex
  refine ⟨fun pins s o H Q I ⟨p, L, w, cr, q⟩ => ?_⟩
  have hR : tE A G (rV (cIns C fc)) f o H fun x H1 => ∃ a dx fs, x = .ref a ∧ H1 a = some (.ins C dx fs) ∧ fs.lookup m = none ∧ tAB A G as bs fa o H1 fun vs zs H2 => spP A.X.K A.ca cs r F (gV (x :: vs) zs) H2 Q (WE A.W o) :=
    run1 w cr q fun x p1 v L1 H1 s1 w1 c1 r1 g1 => by
      have r0 := r1
      obtain ⟨a, dx, fs, e1, h1, h2⟩ := r1
      subst e1
      refine ⟨a, dx, fs, rfl, rd_sub _ _ h1, look_none (nk _ _ _ _ h2), p1, L1, w1, c1, g1.bind.imp fun z _ gz vs zs L2 H2 s2 w2 c2 h3 h4 => ?_⟩
      exact sp_end (F := F) hr s2 (s1.trans s2) w2 c2 (see _ _ _ _ _ _ _ _ ((cIns C fc).mono _ _ _ _ _ s2.rd r0) h3 h4) gz
  refine PySem.W.methodCall_KW (pl := pl) (thn (ho.run pins s o H _ I hR) fun u s1 ⟨x, H1, I1, rx, a, dx, fs, ex, ea, l, q⟩ => ?_) ht
  subst ex
  obtain rfl : u = Value.ref a := rx
  refine getmeth_ok I1 ea cl hmt l ?_
  refine ha.run pins s1 o H1 _ (.ref g) [.ref a] _ I1 hmt.kp q ?_
  intro us ws vs zs H2 s2 I2 rv rz l1 l2 hsp
  have rv' : Vals (V.ref a :: vs) (Value.ref a :: us) := .cons rfl rv
  exact callAtK F1 hk I2 (hb.to s2 (.ref a :: us) ws I2.kIn (by rw [← hn, ← l1, List.length_cons, rv.length]) (rz.length.symm.trans (l2.trans hm))) (hb.rel rv' rz) hsp
end
end AC
set_option Elab.async false
set_option linter.all false
set_option maxRecDepth 100000
/-! TL22: isinstance. -/
namespace AC
open PySem L2 PyProof
/-- a class as a value -/
def cCls (C : Addr) : Cod Unit := ⟨fun _ _ v _ => v = .ref C, fun _ _ _ _ _ _ h => h⟩
/-- what isinstance asks of an own class -/
structure IsiC (K : Frag) (C : Addr) : Prop where
  cl : Cls K C
  ha : PySem.W.findIn K (.ref C) "__class__" = some (some (.builtin "object.__class__"))
  hn : PySem.W.specialIn K (.builtin "object.__class__") "__get__" = some (some (.builtin "getset_descriptor.__get__"))
  htk : PySem.W.takesIn K (.builtin "object.__class__") = some true
  hm : PySem.W.mroIn K C (.type "object") = some true
theorem ty_ins {α : Type} {C : Addr} {fc : FldC α} {K : Frag} (q : IsiC K C) : ∀ R H v x, Same R H → (cIns C fc).see K R v x → TyX K H v (.ref C) := fun R H v x s ⟨a, dx, fs, e, h, _⟩ => by
  subst e
  exact .base (.ins (s _ _ h) q.cl q.ha q.hn q.htk q.hm)
section
variable {A : Amb} {G G' : Ctx} {ρ : Type} {R : Rr ρ}
theorem ex_cls {x : Str} {C : Addr} {pos : Pos} (hg : Gl A.X x) (D : ClsG A.X.K A.X.mg x C) (hd : (x == ("__debug__" : Str)) = false := by decide) : EX A G (.Name x pos) (rV (cCls C)) (fun p => .ok ((), p)) :=
  ex_c (pe_glob hg D.mg (v := .ref C) rfl hd) fun _ _ => rfl
/-- isinstance(x, C) of an instance of an own class -/
theorem ct_isiI {α : Type} {C D : Addr} {fc : FldC α} {b : Bool} (h : IsiC A.X.K C) (hk : PySem.W.kitOne A.X.K (.ref C) (.ref D) = some b) : CalT A (.builtin "isinstance") (aCons (cIns C fc) (aOne (cCls D))) (fun _ => some b) (rV cB) := cal_of call_isi fun L H vs x z Q w ⟨v, ws, e, h1, v2, e2, h2⟩ hz q => by
  subst e e2
  cases h2
  cases hz
  exact ⟨v, .ref D, .ref C, .ref D, b, rfl, .own D, ty_ins h _ _ _ _ rd_sub h1, hk, q _ rfl⟩
end
end AC
set_option Elab.async false
set_option linter.all false
set_option maxRecDepth 100000
/-! TL23: a head's facts, widened: getters, isinstance. -/
namespace AC
open PySem L2 PyProof PyProof.Rows PySem.Spec
/-- where a def stands: a name of the module's, a method, a property's getter -/
inductive Ad where
  | glo (x : Str) | met (x m : Str) | gtr (x m : Str)
def gtrA (K : Frag) (x m : Str) : Addr := match PySem.W.recIn K (He.ma K (He.ga K x) m) "property" with
  | some (.ref g :: _) => g
  | _ => 0
def Ad.ad (K : Frag) : Ad → Addr
  | .glo x => He.ga K x
  | .met x m => He.ma K (He.ga K x) m
  | .gtr x m => gtrA K x m
structure DfE where
  at_ : Ad
  name : Str
  qual : Str
  params : Arguments
  body : List Stmt
  scope : Scope
  dfl : List He.Dv
def fdE (K : Frag) (a : Addr) : Option FuncData := match K.lookup a with
  | some ⟨_, _, .func fd, _⟩ => some fd
  | _ => none
def DfE.dvs (K : Frag) (d : DfE) : List V := d.dfl.map (He.Dv.v K)
def fwE (K : Frag) (p : Ad) : He.FnW := (fdE K (p.ad K)).map fun q => (q.name, q.qualname, q.params, q.body, q.scope, q.globals, q.closure, q.builtins)
def DfE.val (d : DfE) : He.FnW := some (d.name, d.qual, d.params, .stmts d.body, d.scope, mainGlobals, [], builtinsNs)
def DfE.ok (K : Frag) (d : DfE) : Bool := PySem.W.keepIn K (.ref (d.at_.ad K)) && match fdE K (d.at_.ad K) with
  | some q => PySem.W.codeIn K q.code d.qual && He.dflB K q.defaults (d.dvs K)
  | none => false
theorem DfE.fun_ {K : Frag} {d : DfE} (e : fwE K d.at_ = d.val) (c : d.ok K = true) : ∃ fd, FunD K d.name d.qual d.params d.body d.scope (d.dvs K) [] (d.at_.ad K) fd := by
  obtain ⟨kp, c2⟩ := He.ba c
  unfold fwE at e
  cases q : fdE K (d.at_.ad K) with
  | none => rw [q] at c2; cases c2
  | some fd =>
    rw [q] at c2 e
    have hl : ∃ oc od osl, K.lookup (d.at_.ad K) = some ⟨oc, od, .func fd, osl⟩ := by
      unfold fdE at q
      split at q
      · rename_i oc od fd' osl e'
        cases q
        exact ⟨_, _, _, e'⟩
      · cases q
    obtain ⟨oc, od, osl, hl⟩ := hl
    obtain ⟨m1, m2, m3, m4, m5, m6, m7, m8, m9, m10, m11, m12, m13, m14, m15⟩ := fd
    have e2 : (some (m1, m2, m3, m4, m5, m6, m7, m15) : He.FnW) = some (d.name, d.qual, d.params, .stmts d.body, d.scope, mainGlobals, [], builtinsNs) := e
    simp only [Option.some.injEq, Prod.mk.injEq] at e2
    obtain ⟨h1, h2, h3, h4, h5, h6, h7, h8⟩ := e2
    subst h1 h2 h3 h4 h5 h6 h7 h8
    obtain ⟨k1, k2⟩ := He.ba (show (PySem.W.codeIn K m13 d.qual && He.dflB K m8 (d.dvs K)) = true from c2)
    exact ⟨_, ⟨⟨oc, od, m8, m9, m10, m11, m12, m13, m14, osl, rfl, hl, k1, He.dflB_ok k2, .inl rfl⟩, kp⟩⟩
def hdR : Option (List Value) → Bool
  | some (.ref _ :: _) => true
  | _ => false
/-- an empty tuple -/
def tzB (K : Frag) (a : Addr) : Bool := match K.lookup a with
  | some ⟨.type c, _, .seq its _, _⟩ => decide (c = "tuple") && decide (its.toList = [])
  | _ => false
/-- more facts -/
inductive Fe where
  | prop (x m : Str) | isi (x : Str) | kit (x y : Str) (b : Bool) | kty (n : String) (y : Str) (b : Bool) | nee (x : Str) | tz (p : Frag → Addr) | raw (p : Frag → Bool)
def Fe.ok (K : Frag) : Fe → Bool
  | .prop x m => He.eqO (PySem.W.findIn K (.ref (He.ga K x)) m) (some (some (.ref (He.ma K (He.ga K x) m)))) && (He.eqO (PySem.W.specialIn K (.ref (He.ma K (He.ga K x) m)) "__get__") (some (some (.builtin "property.__get__"))) && (decide (PySem.W.takesIn K (.ref (He.ma K (He.ga K x) m)) = some true) && hdR (PySem.W.recIn K (He.ma K (He.ga K x) m) "property")))
  | .isi x => He.eqO (PySem.W.findIn K (.ref (He.ga K x)) "__class__") (some (some (.builtin "object.__class__"))) && (He.eqO (PySem.W.specialIn K (.builtin "object.__class__") "__get__") (some (some (.builtin "getset_descriptor.__get__"))) && (decide (PySem.W.takesIn K (.builtin "object.__class__") = some true) && decide (PySem.W.mroIn K (He.ga K x) (.type "object") = some true)))
  | .kit x y b => decide (PySem.W.kitOne K (.ref (He.ga K x)) (.ref (He.ga K y)) = some b)
  | .kty n y b => decide (PySem.W.kitOne K (.type n) (.ref (He.ga K y)) = some b)
  | .nee x => He.eqO (PySem.W.findIn K (.ref (He.ga K x)) "__ne__") (some (some (.builtin "object.__ne__"))) && decide (PySem.W.mroIn K (He.ga K x) (.type "object") = some true)
  | .tz p => tzB K (p K)
  | .raw p => p K
section
variable {K : Frag}
theorem isi_ok {x : Str} (cl : Cls K (He.ga K x)) (c : (Fe.isi x).ok K = true) : IsiC K (He.ga K x) := by
  obtain ⟨c1, c⟩ := He.ba c
  obtain ⟨c2, c⟩ := He.ba c
  obtain ⟨c3, c4⟩ := He.ba c
  exact ⟨cl, He.eqO_ok c1, He.eqO_ok c2, of_decide_eq_true c3, of_decide_eq_true c4⟩
theorem kit_ok {x y : Str} {b : Bool} (c : (Fe.kit x y b).ok K = true) : PySem.W.kitOne K (.ref (He.ga K x)) (.ref (He.ga K y)) = some b := of_decide_eq_true c
end
/-! ### the hook -/
abbrev AlE : Type := Bool × List He.FnW
def obsF (fa : List He.Fa) (fe : List Fe) (fn : List DfE) (K : Frag) : AlE := ((fa.all (·.ok K)) && ((fe.all (·.ok K)) && fn.all (·.ok K)), fn.map fun d => fwE K d.at_)
def valE (fn : List DfE) : AlE := (true, fn.map DfE.val)
def obsE (n : Nat) (fa : List He.Fa) (fe : List Fe) (fn : List DfE) (g : Addr → Option Obj) : AlE := obsF fa fe fn (He.frG g (He.asD g n))
def SaysE (fa : List He.Fa) (fe : List Fe) (fn : List DfE) (K : Frag) : Prop := obsF fa fe fn K = valE fn
def hookE (n : Nat) (fa : List He.Fa) (fe : List Fe) (fn : List DfE) : PySem.W.Hook :=
  { α := AlE, obs := fun st => obsE n fa fe fn st.heap.get?, val := fun _ => valE fn, says := fun _ hp => ∃ K : Frag, K.In hp ∧ SaysE fa fe fn K, of := fun _ _ q => ⟨_, He.frG_in, q⟩, keeps := fun _ _ _ ⟨K, hK, c⟩ kk => ⟨K, PySem.W.Frag.In.keeps hK kk, c⟩ }
theorem obsE_eq {n : Nat} {fa : List He.Fa} {fe : List Fe} {fn : List DfE} {g : Addr → Option Obj} {st : Shared} (h : ∀ a, g a = st.heap.get? a) : obsE n fa fe fn g = (hookE n fa fe fn).obs st := by
  obtain rfl : g = st.heap.get? := funext h
  rfl
section
variable {fa : List He.Fa} {fe : List Fe} {fn : List DfE} {K : Frag}
theorem SaysE.bits (c : SaysE fa fe fn K) : fa.all (·.ok K) = true ∧ fe.all (·.ok K) = true ∧ fn.all (·.ok K) = true := by
  obtain ⟨h1, h2⟩ := He.ba (show (fa.all (·.ok K) && (fe.all (·.ok K) && fn.all (·.ok K))) = true from congrArg (fun z : AlE => z.1) c)
  exact ⟨h1, He.ba h2⟩
theorem SaysE.fact (c : SaysE fa fe fn K) (i : Nat) {f : He.Fa} (h : fa[i]? = some f) : f.ok K = true := List.all_eq_true.mp c.bits.1 f (List.mem_of_getElem? h)
theorem SaysE.more (c : SaysE fa fe fn K) (i : Nat) {f : Fe} (h : fe[i]? = some f) : f.ok K = true := List.all_eq_true.mp c.bits.2.1 f (List.mem_of_getElem? h)
theorem SaysE.def_ (c : SaysE fa fe fn K) (i : Nat) {d : DfE} (h : fn[i]? = some d) : ∃ fd, FunD K d.name d.qual d.params d.body d.scope (d.dvs K) [] (d.at_.ad K) fd := by
  have e : (fn.map fun d => fwE K d.at_)[i]? = (fn.map DfE.val)[i]? := congrArg (fun z : AlE => z.2[i]?) c
  rw [List.getElem?_map, List.getElem?_map, h] at e
  exact DfE.fun_ (Option.some.inj e) (List.all_eq_true.mp c.bits.2.2 d (List.mem_of_getElem? h))
end
end AC
set_option Elab.async false
set_option linter.all false
set_option maxRecDepth 100000
/-! TL24: tuples made by tuple(..), that are known to have no dict: their methods. -/
namespace AC
open PySem L2 PyProof PyProof.Rows PySem.Spec
/-- a tuple without a dict -/
def cTN {α : Type} (c : Cod α) : Cod (List α) := ⟨fun K R v xs => ∃ a o vs, v = .ref a ∧ R a = some (.frz o (.tup vs)) ∧ o.dict = none ∧ vs.length ≤ sizeLine ∧ Paired (fun v x => c.see K R v x) vs xs, fun K R R' v x s ⟨a, o, vs, e, h, hd, hl, h'⟩ => ⟨a, o, vs, e, s _ _ h, hd, hl, paired_mono (fun _ _ q => c.mono K R R' _ _ s q) h'⟩⟩
theorem sub_tn {α : Type} {c : Cod α} : Sub (cTN c) (cTV c) id := fun K R v x ⟨a, o, vs, e, h, hd, hl, h'⟩ => ⟨a, vs, e, .inr (.inl ⟨o, h⟩), hl, h'⟩
theorem hd_tn {α : Type} {c : Cod α} (h : HardC c) : HardC (cTN c) := fun K R1 R2 v x s ⟨a, o, vs, e, q, hd, hl, q'⟩ => ⟨a, o, vs, e, s a _ q fun h => h, hd, hl, paired_mono (fun _ _ z => h K R1 R2 _ _ s z) q'⟩
section
variable {A : Amb} {G G' : Ctx}
theorem call_tupleN {X : Cx} : CallR X (.type "tuple") (fun xs H Q => ∃ p ys, xs = [.ref p] ∧ SqL X.K H p ys ∧ ∀ l o, o.dict = none → H l = none → Q (.ref l) (upd H l (.frz o (.tup ys)))) := by
  intro pins s σ H xs us Q I r ⟨p, ys, ex, hq, q⟩
  subst ex
  obtain ⟨u, rfl, rx⟩ := vals1 r
  cases rx
  obtain ⟨its, r', pl, hz⟩ := I.list hq
  have hlen := r'.length
  refine call_tuple_list pl.isList (fun h' kp => ?_) (by simp only [List.size_toArray]; omega)
  have I1 : Inv X pins σ H { s with heap := h' } := I.kept (t' := s.toks) kp
  have I2 : Inv X pins σ (upd H h'.objs.size (.frz { cls := .type "tuple", data := .seq its.toArray } (.tup ys))) { s with heap := h'.push { cls := .type "tuple", data := .seq its.toArray } } :=
    I1.laid (t' := s.toks) (fun b o e => Heap.get?_push_of_some _ e) (Nat.le_refl _) (show ObjOk X.prog X.w _ _ _ (.frz _ (.tup ys)) from ⟨Heap.get?_push_size _ rfl, hz, its, r', IsTup.new _ _⟩)
  exact ⟨.ref h'.objs.size, _, I2, rfl, q _ _ rfl (I1.hok.fresh (Nat.le_refl _))⟩
theorem ct_tupleN {α : Type} {c : Cod α} : CalT A (.type "tuple") (aOne (cL c)) (fun xs => some xs) (rV (cTN c)) := ⟨_, call_tupleN, fun L H vs x z Q w ⟨v, e, a, ws, e1, h1, l1, p1⟩ h2 q => by
  subst e e1
  cases h2
  refine ⟨a, ws, rfl, SqL.of (rd_sub _ _ h1), fun p o hd hp => ?_⟩
  obtain ⟨t1, t2⟩ := ext_val (o := .frz o (.tup ws)) w hp
  exact q _ _ _ t1 t2 ⟨p, o, ws, rfl, rd_mk setL_same upd_same, hd, l1, paired_mono (fun _ _ q => c.mono _ _ _ _ _ t1.stp.rd q) p1⟩⟩
/-- a tuple of H without a dict -/
def tyN (x : V) (H : Hp) : Prop := ∃ a o vs, x = .ref a ∧ H a = some (.frz o (.tup vs)) ∧ o.dict = none
theorem tyN_is {X : Cx} {pins : List (Addr × Obj)} {o : L2.St} {H : Hp} {s : Shared} {x : V} {v : Value} (I : Inv X pins o H s) (r : RelV x v) (ty : tyN x H) : s.TypeIs v "tuple" ∧ ∀ a, v = .ref a → ∃ ob, s.heap.get? a = some ob ∧ ob.dict = none := by
  obtain ⟨a, ob, vs, rfl, ha, hd⟩ := ty
  obtain rfl : v = Value.ref a := r
  obtain ⟨h0, _, its, _, o2, h1, h2, _⟩ := (show ObjOk X.prog X.w H s.heap a (.frz ob (.tup vs)) from I.hok a _ ha)
  exact ⟨⟨o2, h1, h2⟩, fun b e => by cases e; exact ⟨ob, h0, hd⟩⟩
def idxS (xs : List Str) (y : Str) : Option Int := (xs.findIdx? fun x => decide (x = y)).map fun j => (j : Int)
/-- t.index(z) -/
theorem ex_indexN {a e : Expr} {ap cp : Pos} {f : CT G → Res (List Str × CT G)} {fa : CT G → Res (Str × CT G)} (ho : EX A G a (rV (cTN cS)) f) (ha : EX A G e (rV cS) fa)
    (hbase : attributeBase a "index" A.X.env (eval a A.X.env) = eval a A.X.env := by rfl)
    (hfew : ((backTo cp (starEach [e] A.X.env)).all (fun x => !x.1) && (backToKw cp (keywordEach [] A.X.env)).all (fun x => x.1.isSome) && decide ([e].length + ([] : List Keyword).length + (if ([] : List Keyword).isEmpty then 0 else 1) < 30)) = true := by rfl)
    (hline : (ap.endLine == cp.line) = true := by rfl) (hs : starEach [e] A.X.env = (false, eval e A.X.env) :: starEach [] A.X.env := by rfl) (hplain : (backTo cp (starEach [] A.X.env)).any (·.1) = false := by rfl) :
    EX A G (.Call (.Attribute a "index" ap) [e] [] cp) (rV cI) (fun p => Res.bind (f p) fun y => Res.bind (fa y.2) fun z => Res.bind (ofO (idxS y.1 z.1)) fun w => .ok (w, z.2)) := by
  refine ⟨fun pins s o H Q I ⟨p, L, w, cr, kk⟩ => ?_⟩
  have hR : tE A G (rV (cTN cS)) f o H fun x H1 => tyN x H1 ∧ tA A G (aOne cS) (fun p => fa p) o H1 fun xs H2 => ∃ p, ∃ ys : List Str, ∃ z j, x = .ref p ∧ xs = [.str z] ∧ SqT A.X.K H2 p (ys.map V.str) ∧ ys[j]? = some z ∧ (∀ m, m < j → ys[m]? ≠ some z) ∧ Q (.int (j : Nat)) H2 :=
    run1 w cr kk fun x p1 v L1 H1 s1 w1 c1 r1 g1 => by
      obtain ⟨b, ob, vs, e1, h1, hd, hl, hp⟩ := r1
      subst e1
      refine ⟨⟨b, ob, vs, rfl, rd_sub _ _ h1, hd⟩, p1, L1, w1, c1, g1.bind.imp fun y _ gy ws L2 H2 s2 w2 c2 ⟨v2, e2, r2⟩ => ?_⟩
      subst e2
      obtain ⟨z, ez, g3⟩ := good_ofO gy
      unfold idxS at ez
      cases ej : x.findIdx? fun z => decide (z = y.1) with
      | none => rw [ej] at ez; cases ez
      | some j =>
        rw [ej] at ez
        cases ez
        obtain ⟨hj, hpj, hno⟩ := List.findIdx?_eq_some_iff_getElem.mp ej
        have e := strs_of hp
        subst e
        obtain ⟨rfl, _⟩ := r2
        refine ⟨b, x, y.1, j, rfl, rfl, .inl (.inr ⟨ob, rd_sub _ _ (s2.rd _ _ h1)⟩), ?_, fun m hm he => ?_, g3 (.int (j : Nat)) L2 H2 (s1.trans s2) w2 c2 rfl⟩
        · rw [List.getElem?_eq_getElem hj]
          exact congrArg some (of_decide_eq_true hpj)
        · have hl : m < x.length := by omega
          rw [List.getElem?_eq_getElem hl] at he
          have := hno m hm
          simp [Option.some.inj he] at this
  refine wpAny_Call_method_late hbase hfew hline rfl (thn (ho.run pins s o H _ I hR) fun v s1 ⟨x, H1, I1, r1, ty, q1⟩ => ?_)
  obtain ⟨h1, h2⟩ := tyN_is I1 r1 ty
  refine ⟨"tuple", "tuple.index", PySem.F.plainAttrs_tuple, PySem.F.slot_tuple_index, rfl, h1, h2, ?_⟩
  have hA := (ax_one (c := cS) ha hs).run cp pins s1 o H1 _ I1 (by exact q1)
  rw [hs] at hA ⊢
  refine Calls.callWith_builtin (by show (false || (backTo cp (starEach [] A.X.env)).any (·.1)) = false; rw [hplain] <;> rfl) (Calls.evalArgs_plain ?_)
  exact thn hA fun us s2 ⟨vs, H2, I2, r2, q2⟩ => mt_tup_index pins s2 o H2 x vs v us Q I2 r1 r2 q2
end
end AC
set_option Elab.async false
set_option linter.all false
set_option maxRecDepth 100000
/-! TL25: trees of one's own: tuples with own parts, places within. -/
namespace AC
open PySem L2 PyProof
/-! ### some things in a row, of which some are one's own -/
structure OArg (α : Type) where
  own : Frag → Hp → (Addr → Option (List Nat)) → Hp → List Nat → Nat → List V → α → Prop
  mono : ∀ (K : Frag) (R R' : Hp) (M M' : Addr → Option (List Nat)) (H H' : Hp) (l : List Nat) (k : Nat) (vs : List V) (x : α), Same R R' → (∀ a m, M a = some m → M' a = some m ∧ H' a = H a) → own K R M H l k vs x → own K R' M' H' l k vs x
  n : Nat
  len : ∀ K R M H l k vs x, own K R M H l k vs x → vs.length = n
def oV1 {α : Type} (c : Cod α) : OArg α := ⟨fun K R _ _ _ _ vs x => ∃ v, vs = [v] ∧ c.see K R v x, fun K R R' _ _ _ _ _ _ vs x s _ ⟨v, e, h⟩ => ⟨v, e, c.mono _ _ _ _ _ s h⟩, 1, fun _ _ _ _ _ _ _ _ ⟨_, e, _⟩ => by rw [e]; rfl⟩
def oOc {α β : Type} (oc : OCod α) (as : OArg β) : OArg (α × β) := ⟨fun K R M H l k vs x => ∃ v ws, vs = v :: ws ∧ oc.own K R M H (0 :: k :: l) v x.1 ∧ as.own K R M H l (k + 1) ws x.2, fun K R R' _ _ _ _ _ _ vs x s t ⟨v, ws, e, h, h'⟩ => ⟨v, ws, e, oc.mono _ _ _ _ _ _ _ _ _ _ s t h, as.mono _ _ _ _ _ _ _ _ _ _ _ s t h'⟩, as.n + 1,
  fun _ _ _ _ _ _ _ _ ⟨_, _, e, _, h⟩ => by rw [e, List.length_cons, as.len _ _ _ _ _ _ _ _ h]⟩
/-- a tuple with parts of one's own: the tuple itself may be read -/
def oT {α : Type} (as : OArg α) : OCod α := ⟨fun K R M H l v x => ∃ a vs, v = .ref a ∧ SeeT K R a vs ∧ as.own K R M H l 0 vs x, fun K R R' M M' H H' l v x s t ⟨a, vs, e, h, h'⟩ => ⟨a, vs, e, h.same s, as.mono _ _ _ _ _ _ _ _ _ _ _ s t h'⟩⟩
def FrzA {α : Type} (as : OArg α) (cs : ArgC α) : Prop := ∀ K R R' M H l k vs x, Same R R' → (∀ a m, M a = some m → insL m = false → R' a = H a) → as.own K R M H l k vs x → cs.see K R' vs x
theorem fa_v1 {α : Type} {c : Cod α} : FrzA (oV1 c) (aOne c) := fun K R R' M H l k vs x s t ⟨v, e, q⟩ => ⟨v, e, c.mono _ _ _ _ _ s q⟩
theorem fa_oc {α β : Type} {oc : OCod α} {c : Cod α} {as : OArg β} {cs : ArgC β} (h0 : FrzP oc c) (h : FrzA as cs) : FrzA (oOc oc as) (aCons c cs) := fun K R R' M H l k vs x s t ⟨v, ws, e, q, q'⟩ => ⟨v, ws, e, h0 _ _ _ _ _ _ _ _ rfl s t q, h _ _ _ _ _ _ _ _ _ s t q'⟩
theorem frzp_t {α : Type} {as : OArg α} {cs : ArgC α} (h : FrzA as cs) : FrzP (oT as) (cT cs) := fun K R R' M H l v x hl s t ⟨a, vs, e, q, q'⟩ => ⟨a, vs, e, q.same s, h _ _ _ _ _ _ _ _ _ s t q'⟩
theorem frz_t {α : Type} {as : OArg α} {cs : ArgC α} (h : FrzA as cs) : Frz (oT as) (cT cs) := frz_p (frzp_t h)
def HardOA {α : Type} (as : OArg α) : Prop := ∀ K R1 R2 M H l k vs x, (∀ a o, R1 a = some o → ¬ SoftO o → R2 a = some o) → as.own K R1 M H l k vs x → as.own K R2 M H l k vs x
theorem hoa_v1 {α : Type} {c : Cod α} (h : HardC c) : HardOA (oV1 c) := fun K R1 R2 M H l k vs x s ⟨v, e, q⟩ => ⟨v, e, h _ _ _ _ _ s q⟩
theorem hoa_oc {α β : Type} {oc : OCod α} {as : OArg β} (h0 : HardO oc) (h : HardOA as) : HardOA (oOc oc as) := fun K R1 R2 M H l k vs x s ⟨v, ws, e, q, q'⟩ => ⟨v, ws, e, h0 _ _ _ _ _ _ _ _ s q, h _ _ _ _ _ _ _ _ _ s q'⟩
theorem ho_t {α : Type} {as : OArg α} (h : HardOA as) : HardO (oT as) := fun K R1 R2 M H l v x s ⟨a, vs, e, q, q'⟩ => ⟨a, vs, e, q.imp (fun z => s a _ z fun h => h) (Or.imp (fun ⟨o, z⟩ => ⟨o, s a _ z fun h => h⟩) id), h _ _ _ _ _ _ _ _ _ s q'⟩
/-! ### displays -/
section
variable {A : Amb} {G G' : Ctx} {ρ : Type} {R : Rr ρ}
def ROa {α : Type} (as : OArg α) (k : Nat) (K : Frag) (L : Lab) (H : Hp) (L' : Lab) (H' : Hp) (vs : List V) (x : α) : Prop :=
  ∃ M : Addr → Option (List Nat), (∀ a m, M a = some m → L' a = none ∧ NonTup m (H' a) ∧ ¬ Frm L H a ∧ m.length ≥ 2) ∧ as.own K (rd L' H') M H' [] k vs x
def tAT (A : Amb) {α : Type} (G : Ctx) (as : OArg α) (k : Nat) (f : CT G → Res (α × CT G)) : L2.TA := fun o H Q =>
  ∃ (p : CT G) (L : Lab), Wf L H ∧ CR A.X.K 0 G p L H o ∧ Good A (f p) L H o fun y => ∀ (vs : List V) (L' : Lab) (H' : Hp), Stp L H L' H' → Wf L' H' → CR A.X.K 0 G y.2 L' H' o → ROa as k A.X.K L H L' H' vs y.1 → Q vs H'
def AXT (A : Amb) (G : Ctx) (es : List Expr) {α : Type} (as : OArg α) (k : Nat) (f : CT G → Res (α × CT G)) : Prop := PA A.X es (tAT A G as k f)
theorem roa_own {α : Type} {oc : OCod α} {K : Frag} {L : Lab} {H : Hp} {L' : Lab} {H' : Hp} {v : V} {x : α} (sh : ShO oc) (k : Nat) (h : OwnAt oc K L H L' H' v x) :
    ∃ M : Addr → Option (List Nat), (∀ a m, M a = some m → L' a = none ∧ NonTup m (H' a) ∧ ¬ Frm L H a ∧ m.length ≥ 2) ∧ oc.own K (rd L' H') M H' [0, k] v x := by
  obtain ⟨M, h1, h2⟩ := h
  refine ⟨fun a => (M a).map (· ++ [0, k]), fun a m em => ?_, sh _ _ _ _ _ _ _ [0, k] h2⟩
  have em : (M a).map (· ++ [0, k]) = some m := em
  cases e : M a with
  | none => rw [e] at em; cases em
  | some m' =>
    rw [e] at em
    have em : some (m' ++ [0, k]) = some m := em
    cases em
    obtain ⟨q1, q2, q3⟩ := h1 a m' e
    refine ⟨q1, ?_, q3, by simp⟩
    cases m' with
    | nil => exact q2
    | cons b bs => exact q2
theorem axt_v1 {α : Type} {c : Cod α} {k : Nat} {e : Expr} {f : CT G → Res (α × CT G)} (h : EX A G e (rV c) f) (hs : starEach [e] A.X.env = (false, eval e A.X.env) :: starEach [] A.X.env := by rfl) : AXT A G [e] (oV1 c) k f :=
  pa_weak (pa_cons h pa_nil hs) fun o H Q ⟨p, L, w, cr, kk⟩ => ⟨p, L, w, cr, kk.imp fun y _ q v L' H' s w' c' rl => q [v] L' H' s w' c' ⟨fun _ => none, fun a m e => absurd (show (none : Option (List Nat)) = some m from e) (by simp), v, rfl, rl⟩⟩
theorem axt_oc {α β : Type} {oc : OCod α} {as : OArg β} {k : Nat} {e : Expr} {es : List Expr} {f : CT G → Res (α × CT G)} {g : CT G → Res (β × CT G)} (sh : ShO oc) (h : EX A G e (rO oc) f) (hr : AXT A G es as (k + 1) g) (hs : starEach (e :: es) A.X.env = (false, eval e A.X.env) :: starEach es A.X.env := by rfl) :
    AXT A G (e :: es) (oOc oc as) k (fun p => Res.bind (f p) fun y => Res.bind (g y.2) fun z => .ok ((y.1, z.1), z.2)) :=
  pa_weak (pa_cons h hr hs) fun o H Q ⟨p, L, w, cr, kk⟩ => run1 w cr kk fun x p1 v L1 H1 s1 w1 c1 r1 g1 => ⟨p1, L1, w1, c1, g1.bind.imp fun z _ gz vs L2 H2 s2 w2 c2 ⟨M2, m2, o2⟩ => by
    obtain ⟨M1, m1, o1⟩ := roa_own sh k r1
    have f1 : ∀ a m, M1 a = some m → L2 a = none ∧ H2 a = H1 a ∧ Frm L1 H1 a := fun a m em => by
      obtain ⟨q1, q2, q3, _⟩ := m1 a m em
      have f : Frm L1 H1 a := ⟨q2.ne, .inl q1⟩
      exact ⟨(s2 a f).1.trans q1, (s2 a f).2, f⟩
    have n2 : ∀ a m, M2 a = some m → M1 a = none := fun a m em => by
      cases e : M1 a with
      | none => rfl
      | some m' => exact absurd (f1 a m' e).2.2 (m2 a m em).2.2.1
    refine gz (v :: vs) L2 H2 (s1.trans s2) w2 c2 ⟨fun a => match M1 a with | some m => some m | none => M2 a, fun a m em => ?_, v, vs, rfl, ?_, ?_⟩
    · cases e : M1 a with
      | none =>
        simp only [e] at em
        obtain ⟨q1, q2, q3, q4⟩ := m2 a m em
        exact ⟨q1, q2, fun f => q3 (s1.frm f), q4⟩
      | some m' =>
        simp only [e, Option.some.injEq] at em
        subst em
        obtain ⟨q1, q2, q3⟩ := f1 a m' e
        obtain ⟨_, t2, t3, t4⟩ := m1 a m' e
        exact ⟨q1, by rw [q2]; exact t2, t3, t4⟩
    · exact oc.mono _ _ _ _ _ _ _ _ _ _ s2.rd (fun a m em => ⟨by simp only [em], (f1 a m em).2.1⟩) o1
    · exact as.mono _ _ _ _ _ _ _ _ _ _ _ (fun _ _ q => q) (fun a m em => ⟨by simp only [n2 a m em]; exact em, rfl⟩) o2⟩
/-- a tuple's display, with parts of one's own -/
theorem ex_tupO {α : Type} {as : OArg α} {es : List Expr} {x1 pos} {f : CT G → Res (α × CT G)} (h : AXT A G es as 0 f) (hn : as.n ≤ sizeLine := by decide) : EX A G (.Tuple es x1 pos) (rO (oT as)) f :=
  pe_weak (pe_tup h) fun o H Q ⟨p, L, w, cr, kk⟩ => ⟨p, L, w, cr, kk.imp fun y _ q vs L' H' s w' c' ⟨M, m1, m2⟩ => ⟨by rw [as.len _ _ _ _ _ _ _ _ m2]; exact hn, fun a ha => by
    obtain ⟨e1, e2⟩ := ext_val (o := .tup vs) w' ha
    have na : ∀ b m, M b = some m → b ≠ a := fun b m em e => by
      subst e
      exact (m1 b m em).2.1.ne ha
    refine q _ _ _ (s.trans e1.stp) e2 (c'.ext w' e1) ⟨M, fun b m em => ?_, a, vs, rfl, .inl (rd_mk setL_same upd_same), as.mono _ _ _ _ _ _ _ _ _ _ _ e1.stp.rd (fun b m em => ⟨em, upd_ne (na b m em)⟩) m2⟩
    obtain ⟨q1, q2, q3, _⟩ := m1 b m em
    exact ⟨(setL_ne (na b m em)).trans q1, by rw [upd_ne (na b m em)]; exact q2, q3⟩⟩⟩
/-! ### places -/
/-- y (at v', under the path π) is a part of what the slot holds; pt puts another one there -/
def Plc {α β : Type} (oc : OCod α) (oc' : OCod β) (K : Frag) (R : Hp) (M : Addr → Option (List Nat)) (H : Hp) (v : V) (π : List Nat) (v' : V) (y : β) (pt : β → α) : Prop :=
  oc'.own K R M H π v' y ∧ ∀ R' M' H' y', Same R R' → (∀ a m, ¬ (π <:+ m) → M a = some m → M' a = some m ∧ H' a = H a) → oc'.own K R' M' H' π v' y' → oc.own K R' M' H' [] v (pt y')
theorem plc_refl {α : Type} {oc : OCod α} {K : Frag} {R : Hp} {M : Addr → Option (List Nat)} {H : Hp} {v : V} {x : α} (h : oc.own K R M H [] v x) : Plc oc oc K R M H v [] v x id := ⟨h, fun _ _ _ _ _ _ h => h⟩
theorem Plc.mono {α β : Type} {oc : OCod α} {oc' : OCod β} {K : Frag} {R R' : Hp} {M M' : Addr → Option (List Nat)} {H H' : Hp} {v : V} {π : List Nat} {v' : V} {y : β} {pt : β → α} (s : Same R R') (t : ∀ a m, M a = some m → M' a = some m ∧ H' a = H a) (h : Plc oc oc' K R M H v π v' y pt) : Plc oc oc' K R' M' H' v π v' y pt :=
  ⟨oc'.mono _ _ _ _ _ _ _ _ _ _ s t h.1, fun R2 M2 H2 y' s2 t2 q => h.2 R2 M2 H2 y' (fun a o z => s2 a o (s a o z)) (fun a m hm em => by
    obtain ⟨e1, e2⟩ := t a m em
    obtain ⟨e3, e4⟩ := t2 a m hm e1
    exact ⟨e3, e4.trans e2⟩) q⟩
end
end AC
set_option Elab.async false
set_option linter.all false
set_option maxRecDepth 100000
/-! TL26: places are found and changed. -/
namespace AC
open PySem L2 PyProof
section
variable {A : Amb} {G G' G1 G2 : Ctx} {ρ : Type} {R : Rr ρ} {S T S2 T2 : List Nat} {to : CT G → CT G1} {bk : CT G → CT G1 → CT G} {to2 : CT G → CT G2} {bk2 : CT G → CT G2 → CT G}
def tPl (A : Amb) (G : Ctx) (i : Nat) {α β : Type} (oc : OCod α) (oc' : OCod β) (f : CT G → Res ((β × (β → α)) × CT G)) : L2.TE := fun o H Q =>
  ∃ (p : CT G) (L : Lab), Wf L H ∧ CR A.X.K 0 G p L H o ∧ Good A (f p) L H o fun y => ∀ (v' : V) (L' : Lab) (H' : Hp), Stp L H L' H' → Wf L' H' → CR A.X.K 0 G y.2 L' H' o → (∃ π v, insL π = false ∧ o[i]? = some (some v) ∧ Plc oc oc' A.X.K (rd L' H') (sub L' (i + 1)) H' v π v' y.1.1 y.1.2) → Q v' H'
def PX (A : Amb) (G : Ctx) (i : Nat) {α β : Type} (oc : OCod α) (oc' : OCod β) (e : Expr) (f : CT G → Res ((β × (β → α)) × CT G)) : Prop := PE A.X e (tPl A G i oc oc' f)
/-! ### methods of a list at a place -/
/-! ### storing at a place -/
end
end AC
set_option Elab.async false
set_option linter.all false
set_option maxRecDepth 100000
/-! TL27: what is moved; loops over things of one's own. -/
namespace AC
open PySem L2 PyProof
def cutP (l m : List Nat) : Option (List Nat) := if l <:+ m then some (m.take (m.length - l.length)) else none
theorem cut_app {l t : List Nat} : cutP l (t ++ l) = some t := by
  unfold cutP
  rw [if_pos (List.suffix_append t l), List.length_append, Nat.add_sub_cancel, List.take_left]
theorem cut_of {l m t : List Nat} (h : cutP l m = some t) : m = t ++ l := by
  unfold cutP at h
  split at h
  · rename_i hc
    obtain ⟨u, rfl⟩ := hc
    rw [List.length_append, Nat.add_sub_cancel, List.take_left] at h
    cases h
    rfl
  · cases h
/-- paths may be shorter -/
def UnO {α : Type} (oc : OCod α) : Prop := ∀ K R M H m l v x, oc.own K R M H (m ++ l) v x → oc.own K R (fun a => (M a).bind (cutP l)) H m v x
theorem un_at {M : Addr → Option (List Nat)} {p : Addr} {m l : List Nat} (h : M p = some (m ++ l)) : (fun a => (M a).bind (cutP l)) p = some m := by
  show (M p).bind (cutP l) = some m
  rw [h]
  exact cut_app
theorem uo_l {α : Type} {c : Cod α} : UnO (oL c) := fun K R M H m l v x ⟨p, vs, e, h1, h2, h3, h4⟩ => ⟨p, vs, e, un_at h1, h2, h3, h4⟩
/-! ### moves -/
def optRel {α : Type} (oc : OCod α) (K : Frag) (k : Nat) (x : Option α) (L : Lab) (H : Hp) (o : Option (Option V)) : Prop := match x with
  | none => True
  | some x => (sOwn PAny oc).rel K k x L H o
abbrev sOpt {α : Type} (oc : OCod α) : Slot := ⟨Option α, fun K k x L H o => optRel oc K k x L H o, fun K k x L H L' H' o s t h => by
  cases x with
  | none => trivial
  | some x => exact (sOwn PAny oc).keep K k x L H L' H' o s t h⟩
theorem sc_opt {α : Type} {oc : OCod α} {P : V → Prop} {G G' : Ctx} {g : CT G → CT G'} (h : SubC G G' g) : SubC (sOwn P oc :: G) (sOpt oc :: G') (fun p => (some p.1, g p.2)) := ⟨fun K k p L H o w c => by
  obtain ⟨L', h1, h2⟩ := (sc_same (s := sOwn P oc) h).ok K k p L H o w c
  obtain ⟨v, _, e, q⟩ := h2.1
  exact ⟨L', h1, ⟨v, trivial, e, q⟩, h2.2⟩⟩
def dropL (i : Nat) (L : Lab) : Lab := fun a => match L a with
  | some (k, l) => if k = i + 1 then none else some (k, l)
  | none => none
section
variable {i : Nat} {L : Lab} {H : Hp}
theorem dropL_cases (a : Addr) : (∃ l, L a = some (i + 1, l) ∧ dropL i L a = none) ∨ ((∀ l, L a ≠ some (i + 1, l)) ∧ dropL i L a = L a) := by
  cases e : L a with
  | none => exact .inr ⟨fun l z => (nomatch z), by unfold dropL; rw [e]⟩
  | some x =>
    obtain ⟨k, l⟩ := x
    by_cases hk : k = i + 1
    · subst hk
      exact .inl ⟨l, rfl, by unfold dropL; rw [e]; exact if_pos rfl⟩
    · exact .inr ⟨fun l' z => hk (Prod.mk.inj (Option.some.inj z)).1, by unfold dropL; rw [e]; exact if_neg hk⟩
theorem dropL_k {a : Addr} {j : Nat} {l : List Nat} (e : L a = some (j, l)) (h : j ≠ i + 1) : dropL i L a = L a := by
  rcases dropL_cases (i := i) (L := L) a with ⟨l', z, _⟩ | ⟨_, z⟩
  · rw [e] at z; cases z; exact absurd rfl h
  · exact z
theorem stp_drop : Stp L H (dropL i L) H := fun a f => ⟨by
  rcases dropL_cases (i := i) (L := L) a with ⟨l, z, _⟩ | ⟨_, z⟩
  · rcases f.2 with y | ⟨l', y⟩
    · rw [z] at y; cases y
    · rw [z] at y; cases y
  · exact z, rfl⟩
theorem wf_drop (w : Wf L H) : Wf (dropL i L) H := ⟨fun a ha => by
  rcases dropL_cases (i := i) (L := L) a with ⟨l, _, z⟩ | ⟨_, z⟩
  · exact absurd z ha
  · rw [z] at ha; exact w.dom a ha, fun a k l e => by
  rcases dropL_cases (i := i) (L := L) a with ⟨l', _, z⟩ | ⟨_, z⟩
  · rw [z] at e; cases e
  · rw [z] at e; exact w.soft a k l e⟩
end
section
variable {A : Amb} {G G' G1 G2 : Ctx} {ρ : Type} {R : Rr ρ} {S T : List Nat} {to : CT G → CT G1} {bk : CT G → CT G1 → CT G}
theorem mv_core {α : Type} {oc : OCod α} {i : Nat} {put : CT G → Option α → CT G} (m : Mod G i (sOpt oc) put) {p : CT G} {L : Lab} {H : Hp} {o : St} (cr : CR A.X.K 0 G p L H o) : CR A.X.K 0 G (put p none) (dropL i L) H o :=
  m.ok _ _ _ none _ _ _ _ _ cr stp_drop.rd (fun a j l _ hj e => ⟨dropL_k e (by omega), rfl⟩) trivial
theorem mv_own {β : Type} {oc : OCod β} {K : Frag} {i : Nat} {L : Lab} {H : Hp} {π : List Nat} {v : V} {y : β} (hπ : insL π = false) (un : UnO oc) (w : Wf L H) (h : oc.own K (rd L H) (sub L (i + 1)) H π v y) : OwnAt oc K L H (dropL i L) H v y := by
  have h2 := un K _ _ _ [] π v y h
  refine ⟨_, fun a m em => ?_, oc.mono _ _ _ _ _ _ _ _ _ _ (stp_drop (i := i)).rd (fun a m em => ⟨em, rfl⟩) h2⟩
  have em : (sub L (i + 1) a).bind (cutP π) = some m := em
  cases e : sub L (i + 1) a with
  | none => rw [e] at em; cases em
  | some m' =>
    rw [e] at em
    have hm := cut_of (show cutP π m' = some m from em)
    have eL := sub_of e
    refine ⟨?_, ?_, fun f => ?_⟩
    · rcases dropL_cases (i := i) (L := L) a with ⟨l', _, z⟩ | ⟨z, _⟩
      · exact z
      · exact absurd eL (z _)
    · have := w.soft a i m' eL
      subst hm
      cases m with
      | cons b bs => exact this
      | nil =>
        cases ho : H a with
        | none => rw [ho] at this; exact this.elim
        | some ob =>
          rw [ho] at this
          have this : if insL π = true then (∀ xs, ob ≠ .tup xs) else SoftO ob := this
          rw [hπ] at this
          exact this
    · rcases f.2 with y | ⟨l', y⟩
      · rw [eL] at y; cases y
      · rw [eL] at y; cases y
/-- a place within what may be moved -/
theorem px_nameO {α : Type} {oc : OCod α} {i : Nat} {x : Str} {pos : Pos} {g : CT G → Option α} (a : At G i (sOpt oc) g) (hN : A.X.N[i]? = some x) (hv : Vis A.X.env.scope x) (hd : (x == ("__debug__" : Str)) = false := by decide) (hcd : (x == ("__classdict__" : Str)) = false := by decide) :
    PX A G i oc oc (.Name x pos) (fun p => Res.bind (ofO (g p)) fun y => .ok ((y, id), p)) := pe_weak (pe_var hN hv hd hcd) fun o H Q ⟨p, L, w, cr, k⟩ => by
  obtain ⟨y, ey, gy⟩ := good_ofO k
  have h := a.ok _ _ _ _ _ _ cr
  rw [ey] at h
  obtain ⟨v, _, e, q⟩ := h
  rw [Nat.zero_add] at e q
  exact ⟨v, e, (show ∀ v L' H', _ from gy) v L H Stp.refl w cr ⟨[], v, rfl, e, plc_refl q⟩⟩
/-- a part of one's own is moved out; the rest is lost -/
theorem ex_mvPl {α β : Type} {oc : OCod α} {oc' : OCod β} {i : Nat} {e : Expr} {put : CT G → Option α → CT G} {f : CT G → Res ((β × (β → α)) × CT G)} (un : UnO oc') (m : Mod G i (sOpt oc) put) (pl : PX A G i oc oc' e f) :
    EX A G e (rO oc') (fun p => Res.bind (f p) fun y => .ok (y.1.1, put y.2 none)) :=
  pe_weak pl fun o H Q ⟨p, L, w, cr, k⟩ => ⟨p, L, w, cr, k.bind.imp fun y _ gy v' L1 H1 s1 w1 c1 ⟨π, v, hπ, ev, pc⟩ =>
    gy v' (dropL i L1) H1 (s1.trans stp_drop) (wf_drop w1) (mv_core m c1) ((rO oc').pre _ _ _ _ _ _ _ _ _ s1 (mv_own hπ un w1 pc.1))⟩
end
end AC
set_option Elab.async false
set_option linter.all false
set_option maxRecDepth 100000
/-! TL28: loops over things of one's own. -/
namespace AC
open PySem L2 PyProof
/-! ### parts of a slot's things become other slots' for a while -/
/-! ### contexts -/
def Amb.keep (A : Amb) (js : List Nat) : Amb := { A with S := fun i => A.S i ∧ i ∉ js }
end AC
set_option Elab.async false
set_option linter.all false
set_option maxRecDepth 100000
/-! TL29: lists and tuples of ranges; how many unlike ints; lists of things of one's own cleared, turned. -/
namespace AC
open PySem L2 PyProof PyProof.Rows PySem.Spec
section
variable {A : Amb} {G G' : Ctx} {ρ : Type} {R : Rr ρ}
/-! ### how many unlike ones -/
def dd {α : Type} [DecidableEq α] : List α → List α
  | [] => []
  | x :: xs => if x ∈ xs then dd xs else x :: dd xs
/-! ### lists of things of one's own -/
end
end AC
set_option Elab.async false
set_option linter.all false
set_option maxRecDepth 100000
/-! TL30: more of lending; tuples without a dict as data; own things read otherwise. -/
namespace AC
open PySem L2 PyProof
/-! own things read otherwise -/
end AC
set_option Elab.async false
set_option linter.all false
set_option maxRecDepth 100000
/-! TL31: pop(i); instances hold no list. -/
namespace AC
open PySem L2 PyProof
def HardF {α : Type} (fc : FldC α) : Prop := ∀ K R1 R2 fs x, (∀ a o, R1 a = some o → ¬ SoftO o → R2 a = some o) → fc.see K R1 fs x → fc.see K R2 fs x
theorem hf_nil : HardF fNil := fun _ _ _ _ _ _ h => h
theorem hf_snoc {α β : Type} {fc : FldC α} {n : Str} {c : Cod β} (h : HardF fc) (h' : HardC c) : HardF (fSnoc fc n c) := fun K R1 R2 fs x s ⟨fs', v, e, q1, q2⟩ => ⟨fs', v, e, h K R1 R2 fs' _ s q1, h' K R1 R2 v _ s q2⟩
theorem hd_ins {α : Type} {C : Addr} {fc : FldC α} (h : HardF fc) : HardC (cIns C fc) := fun K R1 R2 v x s ⟨a, dx, fs, e, q, q'⟩ => ⟨a, dx, fs, e, s a _ q fun h => h, h K R1 R2 fs x s q'⟩
end AC
set_option Elab.async false
set_option linter.all false
set_option maxRecDepth 100000
/-! TL32: parts that only read (printed by gen/mkrx.py). -/
namespace AC
open PySem L2 PyProof PyProof.Rows PySem.Spec
theorem rbok {α β : Type} (a : α) (f : α → Res β) : Res.bind (.ok a) f = f a := Eq.trans rfl rfl
theorem bind_ite {α β : Type} {c : Prop} [Decidable c] {x y : Res α} {k : α → Res β} : Res.bind (if c then x else y) k = if c then Res.bind x k else Res.bind y k := by
  split <;> rfl
theorem bind_bad {α β : Type} {k : α → Res β} : Res.bind .bad k = .bad := rfl
section
variable {A : Amb} {G G' : Ctx} {ρ : Type} {R : Rr ρ}
theorem ex_eq {α : Type} {r : Rt α} {e : Expr} {f g : CT G → Res (α × CT G)} (h : ∀ p, f p = g p) (x : EX A G e r f) : EX A G e r g := (funext h : f = g) ▸ x
theorem tx_eq {e : Expr} {f g : CT G → Res (Bool × CT G)} (h : ∀ p, f p = g p) (x : TX A G e f) : TX A G e g := (funext h : f = g) ▸ x
theorem wx_eq {e : Expr} {f g : CT G → Res (Bool × CT G)} (h : ∀ p, f p = g p) (x : WXj A G e f) : WXj A G e g := (funext h : f = g) ▸ x
theorem ax_eq {α : Type} {as : ArgC α} {es : List Expr} {f g : CT G → Res (α × CT G)} (h : ∀ p, f p = g p) (x : AX A G es as f) : AX A G es as g := (funext h : f = g) ▸ x
theorem ix_eq {α : Type} {c : Cod α} {tg e : Expr} {f g : CT G → Res (List α × CT G)} (h : ∀ p, f p = g p) (x : IX A G tg e c f) : IX A G tg e c g := (funext h : f = g) ▸ x
theorem ox_eq {e : Option Expr} {f g : CT G → Res (Option Int × CT G)} (h : ∀ p, f p = g p) (x : OX A G e f) : OX A G e g := (funext h : f = g) ▸ x
theorem kx_eq {κ α : Type} {pos : Pos} {keys : List (Option Expr)} {vals : List Expr} {kc : KeyC κ} {c : Cod α} {f g : CT G → Res (List (κ × α) × CT G)} (h : ∀ p, f p = g p) (x : KX A G pos keys vals kc c f) : KX A G pos keys vals kc c g := (funext h : f = g) ▸ x
theorem kw_eq {α : Type} {as : ArgC α} {kws : List Keyword} {f g : CT G → Res (α × CT G)} (h : ∀ p, f p = g p) (x : KWX A G kws as f) : KWX A G kws as g := (funext h : f = g) ▸ x
theorem ca_eq {α β : Type} {as : ArgC α} {bs : ArgC β} {pos : Pos} {es : List Expr} {kws : List Keyword} {ks : List Str} {f g : CT G → Res ((α × β) × CT G)} (h : ∀ p, f p = g p) (x : CAX A G pos es kws ks as bs f) : CAX A G pos es kws ks as bs g := (funext h : f = g) ▸ x
theorem axt_eq {α : Type} {as : OArg α} {k : Nat} {es : List Expr} {f g : CT G → Res (α × CT G)} (h : ∀ p, f p = g p) (x : AXT A G es as k f) : AXT A G es as k g := (funext h : f = g) ▸ x
abbrev RX (A : Amb) (G : Ctx) (e : Expr) {α : Type} (r : Rt α) (h : CT G → Res α) : Prop := EX A G e r (fun p => Res.bind (h p) fun x => .ok (x, p))
abbrev RTX (A : Amb) (G : Ctx) (e : Expr) (h : CT G → Res Bool) : Prop := TX A G e (fun p => Res.bind (h p) fun x => .ok (x, p))
abbrev RWX (A : Amb) (G : Ctx) (e : Expr) (h : CT G → Res Bool) : Prop := WXj A G e (fun p => Res.bind (h p) fun x => .ok (x, p))
abbrev RAX (A : Amb) (G : Ctx) (es : List Expr) {α : Type} (as : ArgC α) (h : CT G → Res α) : Prop := AX A G es as (fun p => Res.bind (h p) fun x => .ok (x, p))
abbrev RIX (A : Amb) (G : Ctx) (tg e : Expr) {α : Type} (c : Cod α) (h : CT G → Res (List α)) : Prop := IX A G tg e c (fun p => Res.bind (h p) fun x => .ok (x, p))
abbrev ROX (A : Amb) (G : Ctx) (e : Option Expr) (h : CT G → Res (Option Int)) : Prop := OX A G e (fun p => Res.bind (h p) fun x => .ok (x, p))
abbrev RKX {κ α : Type} (A : Amb) (G : Ctx) (pos : Pos) (keys : List (Option Expr)) (vals : List Expr) (kc : KeyC κ) (c : Cod α) (h : CT G → Res (List (κ × α))) : Prop := KX A G pos keys vals kc c (fun p => Res.bind (h p) fun x => .ok (x, p))
abbrev RKW (A : Amb) (G : Ctx) (kws : List Keyword) {α : Type} (as : ArgC α) (h : CT G → Res α) : Prop := KWX A G kws as (fun p => Res.bind (h p) fun x => .ok (x, p))
abbrev RCA (A : Amb) (G : Ctx) (pos : Pos) (es : List Expr) (kws : List Keyword) (ks : List Str) {α β : Type} (as : ArgC α) (bs : ArgC β) (h : CT G → Res (α × β)) : Prop := CAX A G pos es kws ks as bs (fun p => Res.bind (h p) fun x => .ok (x, p))
abbrev RAT (A : Amb) (G : Ctx) (es : List Expr) {α : Type} (as : OArg α) (k : Nat) (h : CT G → Res α) : Prop := AXT A G es as k (fun p => Res.bind (h p) fun x => .ok (x, p))
theorem rex_var {α : Type} {c : Cod α} {i : Nat} {x : Str} {pos : Pos} {g : CT G → α} (h : At G i (sVal c) g) (hN : A.X.N[i]? = some x) (hv : Vis A.X.env.scope x) (hd : (x == ("__debug__" : Str)) = false := by decide) (hcd : (x == ("__classdict__" : Str)) = false := by decide) : RX A G (.Name x pos) (rV c) (fun p => .ok (g p)) := ex_eq (fun p => by first | simp only [rbok, Res.bind_assoc, bind_ite, bind_bad] | rfl) (ex_var (h := h) (hN := hN) (hv := hv) (hd := hd) (hcd := hcd))
theorem rex_int {i j pos} : RX A G (.Constant (.int i) j pos) (rV cI) (fun _ => .ok i) := ex_eq (fun p => by first | simp only [rbok, Res.bind_assoc, bind_ite, bind_bad] | rfl) (ex_int )
theorem rex_bool {b j pos} : RX A G (.Constant (.bool b) j pos) (rV cB) (fun _ => .ok b) := ex_eq (fun p => by first | simp only [rbok, Res.bind_assoc, bind_ite, bind_bad] | rfl) (ex_bool )
theorem rex_none {j pos} : RX A G (.Constant .none j pos) (rV cN) (fun _ => .ok ()) := ex_eq (fun p => by first | simp only [rbok, Res.bind_assoc, bind_ite, bind_bad] | rfl) (ex_none )
theorem rex_str {x j pos} (h1 : PyData.strOk x = true) (h2 : x.length ≤ sizeLine) : RX A G (.Constant (.str x) j pos) (rV cS) (fun _ => .ok x) := ex_eq (fun p => by first | simp only [rbok, Res.bind_assoc, bind_ite, bind_bad] | rfl) (ex_str (h1 := h1) (h2 := h2))
theorem rex_gstr {x z : Str} {t : Tok} {pos : Pos} (hg : Gl A.X x) (hm : A.X.mg x = some (.str z t)) (h1 : PyData.strOk z = true) (h2 : z.length ≤ sizeLine) (hd : (x == ("__debug__" : Str)) = false := by decide) : RX A G (.Name x pos) (rV cS) (fun _ => .ok z) := ex_eq (fun p => by first | simp only [rbok, Res.bind_assoc, bind_ite, bind_bad] | rfl) (ex_gstr (hg := hg) (hm := hm) (h1 := h1) (h2 := h2) (hd := hd))
theorem rex_sub {α β : Type} {c : Cod α} {d : Cod β} {g : α → β} {e : Expr} {f : CT G → Res (α)} (s : Sub c d g) (h : RX A G e (rV c) f) : RX A G e (rV d) (fun p => Res.bind (f p) fun x => .ok (g x)) := ex_eq (fun p => by first | simp only [rbok, Res.bind_assoc, bind_ite, bind_bad] | rfl) (ex_sub (s := s) (h := h))
theorem rex_frz {α : Type} {oc : OCod α} {c : Cod α} {e : Expr} {f : CT G → Res (α)} (fz : Frz oc c) (h : RX A G e (rO oc) f) : RX A G e (rV c) (f) := ex_eq (fun p => by first | simp only [rbok, Res.bind_assoc, bind_ite, bind_bad] | rfl) (ex_frz (fz := fz) (h := h))
theorem rex_op {α β γ : Type} {c : Cod α} {d : Cod β} {k : α → β → Option γ} {r : Rt γ} {op : Operator} {a b : Expr} {pos : Pos} {f : CT G → Res (α)} {g : CT G → Res (β)} (h : OpT A (binaryOp op) c d k r) (ha : RX A G a (rV c) f) (hb : RX A G b (rV d) g) : RX A G (.BinOp a op b pos) r (fun p => Res.bind (f p) fun x => Res.bind (g p) fun y => ofO (k x y)) := ex_eq (fun p => by first | simp only [rbok, Res.bind_assoc, bind_ite, bind_bad] | rfl) (ex_op (h := h) (ha := ha) (hb := hb))
theorem rex_cmp {α β γ : Type} {c : Cod α} {d : Cod β} {k : α → β → Option γ} {r : Rt γ} {op : CmpOp} {a b : Expr} {pos : Pos} {f : CT G → Res (α)} {g : CT G → Res (β)} (h : OpT A (compareOp op) c d k r) (ha : RX A G a (rV c) f) (hb : RX A G b (rV d) g) (hm : behindInMarks op b = false) : RX A G (.Compare a [op] [b] pos) r (fun p => Res.bind (f p) fun x => Res.bind (g p) fun y => ofO (k x y)) := ex_eq (fun p => by first | simp only [rbok, Res.bind_assoc, bind_ite, bind_bad] | rfl) (ex_cmp (h := h) (ha := ha) (hb := hb) (hm := hm))
theorem rex_chain {α β γ : Type} {c : Cod α} {d : Cod β} {d' : Cod γ} {k1 : α → β → Option Bool} {k2 : β → γ → Option Bool} {op op' : CmpOp} {ea eb ec : Expr} {pos : Pos} {f : CT G → Res (α)} {g : CT G → Res (β)} {h : CT G → Res (γ)} (h1 : OpT A (compareOp op) c d k1 (rV cB)) (h2 : OpT A (compareOp op') d d' k2 (rV cB)) (ha : RX A G ea (rV c) f) (hb : RX A G eb (rV d) g) (hc : RX A G ec (rV d') h) (hm : lastMarks [op, op'] [eb, ec] = false) : RX A G (.Compare ea [op, op'] [eb, ec] pos) (rV cB) (fun p => Res.bind (f p) fun x => Res.bind (g p) fun y => Res.bind (ofO (k1 x y)) fun w => if w = true then Res.bind (h p) fun u => ofO (k2 y u) else .ok false) := ex_eq (fun p => by first | simp only [rbok, Res.bind_assoc, bind_ite, bind_bad] | rfl) (ex_chain (h1 := h1) (h2 := h2) (ha := ha) (hb := hb) (hc := hc) (hm := hm))
theorem rex_and1 {op} {α : Type} {r : Rt α} {a : Expr} {pos : Pos} {f : CT G → Res (α)} (h : RX A G a r f) : RX A G (.BoolOp op [a] pos) r (f) := ex_eq (fun p => by first | simp only [rbok, Res.bind_assoc, bind_ite, bind_bad] | rfl) (ex_and1 (h := h))
theorem rex_and {a b : Expr} {rest : List Expr} {pos : Pos} {f g : CT G → Res (Bool)} (ha : RX A G a (rV cB) f) (hb : RX A G (.BoolOp .And (b :: rest) pos) (rV cB) g) : RX A G (.BoolOp .And (a :: b :: rest) pos) (rV cB) (fun p => Res.bind (f p) fun x => if x = true then g p else .ok false) := ex_eq (fun p => by first | simp only [rbok, Res.bind_assoc, bind_ite, bind_bad] | rfl) (ex_and (ha := ha) (hb := hb))
theorem rex_if {α : Type} {r : Rt α} {t a b : Expr} {pos : Pos} {ft : CT G → Res (Bool)} {f g : CT G → Res (α)} (ht : RTX A G t ft) (ha : RX A G a r f) (hb : RX A G b r g) : RX A G (.IfExp t a b pos) r (fun p => Res.bind (ft p) fun t => if t = true then f p else g p) := ex_eq (fun p => by first | simp only [rbok, Res.bind_assoc, bind_ite, bind_bad] | rfl) (ex_if (ht := ht) (ha := ha) (hb := hb))
theorem rex_neg {a : Expr} {pos : Pos} {f : CT G → Res (Int)} (h : RX A G a (rV cI) f) : RX A G (.UnaryOp .USub a pos) (rV cI) (fun p => Res.bind (f p) fun x => .ok (-x)) := ex_eq (fun p => by first | simp only [rbok, Res.bind_assoc, bind_ite, bind_bad] | rfl) (ex_neg (h := h))
theorem rex_tup {α : Type} {as : ArgC α} {es : List Expr} {x1 pos} {f : CT G → Res (α)} (h : RAX A G es as f) (hn : as.n ≤ sizeLine := by decide) : RX A G (.Tuple es x1 pos) (rV (cT as)) (f) := ex_eq (fun p => by first | simp only [rbok, Res.bind_assoc, bind_ite, bind_bad] | rfl) (ex_tup (h := h) (hn := hn))
theorem rex_list {α : Type} {c : Cod α} {n : Nat} {es : List Expr} {pos} {f : CT G → Res (List α)} (h : RAX A G es (aAll c n) f) (hn : n ≤ sizeLine := by decide) : RX A G (.List es pos) (rO (oL c)) (f) := ex_eq (fun p => by first | simp only [rbok, Res.bind_assoc, bind_ite, bind_bad] | rfl) (ex_list (h := h) (hn := hn))
theorem rex_hlist {α : Type} {as : ArgC α} {es : List Expr} {pos} {f : CT G → Res (α)} (h : RAX A G es as f) (hn : as.n ≤ sizeLine := by decide) : RX A G (.List es pos) (rV (cH as)) (f) := ex_eq (fun p => by first | simp only [rbok, Res.bind_assoc, bind_ite, bind_bad] | rfl) (ex_hlist (h := h) (hn := hn))
theorem rex_ixK {α : Type} {c : Cod α} {a b : Expr} {pos : Pos} {f : CT G → Res (List α)} {g : CT G → Res (Int)} (ha : RX A G a (rV (cLK c)) f) (hb : RX A G b (rV cI) g) (hs : PlainIx b) : RX A G (.Subscript a b pos) (rV c) (fun p => Res.bind (f p) fun x => Res.bind (g p) fun i => ofO (atI x i)) := ex_eq (fun p => by first | simp only [rbok, Res.bind_assoc, bind_ite, bind_bad] | rfl) (ex_ixK (ha := ha) (hb := hb) (hs := hs))
theorem rex_ixL {α : Type} {c : Cod α} {a b : Expr} {pos : Pos} {f : CT G → Res (List α)} {g : CT G → Res (Int)} (ha : RX A G a (rV (cL c)) f) (hb : RX A G b (rV cI) g) (hs : PlainIx b) : RX A G (.Subscript a b pos) (rV c) (fun p => Res.bind (f p) fun x => Res.bind (g p) fun i => ofO (atI x i)) := ex_eq (fun p => by first | simp only [rbok, Res.bind_assoc, bind_ite, bind_bad] | rfl) (ex_ixL (ha := ha) (hb := hb) (hs := hs))
theorem rex_ixT {α : Type} {c : Cod α} {a b : Expr} {pos : Pos} {f : CT G → Res (List α)} {g : CT G → Res (Int)} (ha : RX A G a (rV (cTV c)) f) (hb : RX A G b (rV cI) g) (hs : PlainIx b) : RX A G (.Subscript a b pos) (rV c) (fun p => Res.bind (f p) fun x => Res.bind (g p) fun i => ofO (atI x i)) := ex_eq (fun p => by first | simp only [rbok, Res.bind_assoc, bind_ite, bind_bad] | rfl) (ex_ixT (ha := ha) (hb := hb) (hs := hs))
theorem rex_ixS {a b : Expr} {pos : Pos} {f : CT G → Res (Str)} {g : CT G → Res (Int)} (ha : RX A G a (rV cS) f) (hb : RX A G b (rV cI) g) (hs : PlainIx b) : RX A G (.Subscript a b pos) (rV cS) (fun p => Res.bind (f p) fun x => Res.bind (g p) fun i => ofO (sAt x i)) := ex_eq (fun p => by first | simp only [rbok, Res.bind_assoc, bind_ite, bind_bad] | rfl) (ex_ixS (ha := ha) (hb := hb) (hs := hs))
theorem rex_ixD {κ α : Type} [DecidableEq κ] {kc : KeyC κ} {c : Cod α} {a b : Expr} {pos : Pos} {f : CT G → Res (List (κ × α))} {g : CT G → Res (κ)} (ha : RX A G a (rV (cD kc c)) f) (hb : RX A G b (rV kc.c) g) (hs : NoSl b) : RX A G (.Subscript a b pos) (rV c) (fun p => Res.bind (f p) fun x => Res.bind (g p) fun i => ofO (getD x i)) := ex_eq (fun p => by first | simp only [rbok, Res.bind_assoc, bind_ite, bind_bad] | rfl) (ex_ixD (ha := ha) (hb := hb) (hs := hs))
theorem rex_cutL {α : Type} {c : Cod α} {e : Expr} {lo hi : Option Expr} {p2 pos : Pos} {f : CT G → Res (List α)} {fl fh : CT G → Res (Option Int)} (h : RX A G e (rV (cL c)) f) (hl : ROX A G lo fl) (hh : ROX A G hi fh) : RX A G (.Subscript e (.Slice lo hi none p2) pos) (rO (oL c)) (fun p => Res.bind (f p) fun x => Res.bind (fl p) fun lo => Res.bind (fh p) fun hi => .ok (cutL x lo hi)) := ex_eq (fun p => by first | simp only [rbok, Res.bind_assoc, bind_ite, bind_bad] | rfl) (ex_cutL (h := h) (hl := hl) (hh := hh))
theorem rex_cutS {e : Expr} {lo hi : Option Expr} {p2 pos : Pos} {f : CT G → Res (Str)} {fl fh : CT G → Res (Option Int)} (h : RX A G e (rV cS) f) (hl : ROX A G lo fl) (hh : ROX A G hi fh) : RX A G (.Subscript e (.Slice lo hi none p2) pos) (rV cS) (fun p => Res.bind (f p) fun x => Res.bind (fl p) fun lo => Res.bind (fh p) fun hi => ofO (okS (cutS x lo hi))) := ex_eq (fun p => by first | simp only [rbok, Res.bind_assoc, bind_ite, bind_bad] | rfl) (ex_cutS (h := h) (hl := hl) (hh := hh))
theorem rex_fld {α β : Type} {C : Addr} {fc : FldC α} {n : Str} {c : Cod β} {gj : α → β} {e : Expr} {pos : Pos} {f : CT G → Res (α)} (cl : Cls A.X.K C) (na : NoAttr A.X.K C n) (hj : FPj fc n c gj) (h : RX A G e (rV (cIns C fc)) f) (hb : attributeBase e n A.X.env (eval e A.X.env) = eval e A.X.env := by rfl) : RX A G (.Attribute e n pos) (rV c) (fun p => Res.bind (f p) fun x => .ok (gj x)) := ex_eq (fun p => by first | simp only [rbok, Res.bind_assoc, bind_ite, bind_bad] | rfl) (ex_fld (cl := cl) (na := na) (hj := hj) (h := h) (hb := hb))
theorem rex_callB {α β : Type} {as : ArgC α} {k : α → Option β} {r : Rt β} {id : String} {x : Str} {p pos : Pos} {e : Expr} {es : List Expr} {f : CT G → Res (α)} (h : CalT A (.builtin id) as k r) (hg : Gl A.X x) (hm : A.X.mg x = none) (hv : bootBuiltins x = some (.builtin id)) (ha : RAX A G (e :: es) as f) (hn : x ≠ "__name__" := by decide) (hd : (x == ("__debug__" : Str)) = false := by decide) (he : starEach (e :: es) A.X.env = (false, eval e A.X.env) :: starEach es A.X.env := by rfl) (hpl : (backTo pos (starEach es A.X.env)).any (·.1) = false := by rfl) : RX A G (.Call (.Name x p) (e :: es) [] pos) r (fun p => Res.bind (f p) fun x => ofO (k x)) := ex_eq (fun p => by first | simp only [rbok, Res.bind_assoc, bind_ite, bind_bad] | rfl) (ex_callB (h := h) (hg := hg) (hm := hm) (hv := hv) (ha := ha) (hn := hn) (hd := hd) (he := he) (hpl := hpl))
theorem rex_callTy {α β : Type} {as : ArgC α} {k : α → Option β} {r : Rt β} {T : String} {x : Str} {p pos : Pos} {e : Expr} {es : List Expr} {f : CT G → Res (α)} (h : CalT A (.type T) as k r) (hg : Gl A.X x) (hm : A.X.mg x = none) (hv : bootBuiltins x = some (.type T)) (ha : RAX A G (e :: es) as f) (hn : x ≠ "__name__" := by decide) (hd : (x == ("__debug__" : Str)) = false := by decide) (he : starEach (e :: es) A.X.env = (false, eval e A.X.env) :: starEach es A.X.env := by rfl) (hpl : (backTo pos (starEach es A.X.env)).any (·.1) = false := by rfl) : RX A G (.Call (.Name x p) (e :: es) [] pos) r (fun p => Res.bind (f p) fun x => ofO (k x)) := ex_eq (fun p => by first | simp only [rbok, Res.bind_assoc, bind_ite, bind_bad] | rfl) (ex_callTy (h := h) (hg := hg) (hm := hm) (hv := hv) (ha := ha) (hn := hn) (hd := hd) (he := he) (hpl := hpl))
theorem rex_cal {α β : Type} {as : ArgC α} {r : Rt β} {F : α → Res β} {k : Nat} {ps : List Str} {x : Str} {p pos : Pos} {e : Expr} {es : List Expr} {fa : CT G → Res (α)} (D : DefA A k x ps (spP A.X.K A.ca as r F)) (hk : k ≤ A.lv) (gl : Gl A.X x) (hr : RtOk r) (ha : RAX A G (e :: es) as fa) (hdb : (x == ("__debug__" : Str)) = false := by decide) (he : starEach (e :: es) A.X.env = (false, eval e A.X.env) :: starEach es A.X.env := by rfl) (hpl : (backTo pos (starEach es A.X.env)).any (·.1) = false := by rfl) : RX A G (.Call (.Name x p) (e :: es) [] pos) r (fun p => Res.bind (fa p) fun x => F x) := ex_eq (fun p => by first | simp only [rbok, Res.bind_assoc, bind_ite, bind_bad] | rfl) (ex_cal (D := D) (hk := hk) (gl := gl) (hr := hr) (ha := ha) (hdb := hdb) (he := he) (hpl := hpl))
theorem rex_metP {α β γ δ ε : Type} {as : ArgC α} {bs : ArgC β} {cs : ArgC γ} {fc : FldC ε} {r : Rt δ} {F : γ → Res δ} {k n : Nat} {C : Addr} {m : Str} {ks : List Str} {gV : List V → List V → List V} {ob : Expr} {es : List Expr} {kws : List Keyword} {ap pos : Pos} {f : CT G → Res (ε)} {fa : CT G → Res ((α × β))} {pl : Sem Bool} (mp : ε → α → β → γ) (D : MetQ A k C m n ks gV (spP A.X.K A.ca cs r F)) (hk : k ≤ A.lv) (cl : Cls A.X.K C) (nk : NoKey fc m) (hr : RtOk r) (ho : RX A G ob (rV (cIns C fc)) f) (ha : RCA A G pos es kws ks as bs fa) (hn : as.n + 1 = n) (hm : bs.n = ks.length) (see : ∀ K R v vs zs u x y, (cIns C fc).see K R v u → as.see K R vs x → bs.see K R zs y → cs.see K R (gV (v :: vs) zs) (mp u x y)) (ht : eval (.Call (.Attribute ob m ap) es kws pos) A.X.env = (do
      let recv ← eval ob A.X.env
      standAt ap.atName
      let (fn, first) ← holding [recv] (getMethod recv m pl)
      callWith pos fn first (backTo pos (starEach es A.X.env)) (backToKw pos (keywordEach kws A.X.env))) := by rfl) : RX A G (.Call (.Attribute ob m ap) es kws pos) r (fun p => Res.bind (f p) fun u => Res.bind (fa p) fun x => F (mp u x.1 x.2)) := ex_eq (fun p => by first | simp only [rbok, Res.bind_assoc, bind_ite, bind_bad] | rfl) (ex_metP (mp := mp) (D := D) (hk := hk) (cl := cl) (nk := nk) (hr := hr) (ho := ho) (ha := ha) (hn := hn) (hm := hm) (see := see) (ht := ht))
theorem rex_make {α β : Type} {C : Addr} {as : ArgC α} {fc : FldC β} {F : α → Res β} {k : Nat} {ps : List Str} {x : Str} {p pos : Pos} {e : Expr} {es : List Expr} {fa : CT G → Res (α)} (D : MakA A k x C ps (spN A.X.K A.ca C as fc F)) (hk : k + 1 ≤ A.lv) (gl : Gl A.X x) (ha : RAX A G (e :: es) as fa) (hdb : (x == ("__debug__" : Str)) = false := by decide) (he : starEach (e :: es) A.X.env = (false, eval e A.X.env) :: starEach es A.X.env := by rfl) (hpl : (backTo pos (starEach es A.X.env)).any (·.1) = false := by rfl) : RX A G (.Call (.Name x p) (e :: es) [] pos) (rV (cIns C fc)) (fun p => Res.bind (fa p) fun x => F x) := ex_eq (fun p => by first | simp only [rbok, Res.bind_assoc, bind_ite, bind_bad] | rfl) (ex_make (D := D) (hk := hk) (gl := gl) (ha := ha) (hdb := hdb) (he := he) (hpl := hpl))
theorem rex_mv {α β γ : Type} {T id : String} {name : Str} {a e : Expr} {es : List Expr} {ap cp : Pos} {c : Cod α} {as : ArgC β} {k : α → β → Option γ} {r : Rt γ} {f : CT G → Res (α)} {fa : CT G → Res (β)} (h : MtV A T id c as k r) (pa : PlainAttrs T) (slot : PySem.Slot T name id) (hty : typeOf (.builtin id) = pure (.type "method_descriptor")) (ho : RX A G a (rV c) f) (ha : RAX A G (e :: es) as fa) (hbase : attributeBase a name A.X.env (eval a A.X.env) = eval a A.X.env := by rfl) (hfew : ((backTo cp (starEach (e :: es) A.X.env)).all (fun x => !x.1) && (backToKw cp (keywordEach [] A.X.env)).all (fun x => x.1.isSome) && decide ((e :: es).length + ([] : List Keyword).length + (if ([] : List Keyword).isEmpty then 0 else 1) < 30)) = true := by rfl) (hline : (ap.endLine == cp.line) = true := by rfl) (hs : starEach (e :: es) A.X.env = (false, eval e A.X.env) :: starEach es A.X.env := by rfl) (hplain : (backTo cp (starEach es A.X.env)).any (·.1) = false := by rfl) : RX A G (.Call (.Attribute a name ap) (e :: es) [] cp) r (fun p => Res.bind (f p) fun x => Res.bind (fa p) fun y => ofO (k x y)) := ex_eq (fun p => by first | simp only [rbok, Res.bind_assoc, bind_ite, bind_bad] | rfl) (ex_mv (h := h) (pa := pa) (slot := slot) (hty := hty) (ho := ho) (ha := ha) (hbase := hbase) (hfew := hfew) (hline := hline) (hs := hs) (hplain := hplain))
theorem rex_indexN {a e : Expr} {ap cp : Pos} {f : CT G → Res (List Str)} {fa : CT G → Res (Str)} (ho : RX A G a (rV (cTN cS)) f) (ha : RX A G e (rV cS) fa) (hbase : attributeBase a "index" A.X.env (eval a A.X.env) = eval a A.X.env := by rfl) (hfew : ((backTo cp (starEach [e] A.X.env)).all (fun x => !x.1) && (backToKw cp (keywordEach [] A.X.env)).all (fun x => x.1.isSome) && decide ([e].length + ([] : List Keyword).length + (if ([] : List Keyword).isEmpty then 0 else 1) < 30)) = true := by rfl) (hline : (ap.endLine == cp.line) = true := by rfl) (hs : starEach [e] A.X.env = (false, eval e A.X.env) :: starEach [] A.X.env := by rfl) (hplain : (backTo cp (starEach [] A.X.env)).any (·.1) = false := by rfl) : RX A G (.Call (.Attribute a "index" ap) [e] [] cp) (rV cI) (fun p => Res.bind (f p) fun x => Res.bind (fa p) fun y => ofO (idxS x y)) := ex_eq (fun p => by first | simp only [rbok, Res.bind_assoc, bind_ite, bind_bad] | rfl) (ex_indexN (ho := ho) (ha := ha) (hbase := hbase) (hfew := hfew) (hline := hline) (hs := hs) (hplain := hplain))
theorem rex_cls {x : Str} {C : Addr} {pos : Pos} (hg : Gl A.X x) (D : ClsG A.X.K A.X.mg x C) (hd : (x == ("__debug__" : Str)) = false := by decide) : RX A G (.Name x pos) (rV (cCls C)) (fun _ => .ok ()) := ex_eq (fun p => by first | simp only [rbok, Res.bind_assoc, bind_ite, bind_bad] | rfl) (ex_cls (hg := hg) (D := D) (hd := hd))
theorem rex_disp {κ α : Type} [DecidableEq κ] {kc : KeyC κ} {c : Cod α} {keys : List (Option Expr)} {vals : List Expr} {pos : Pos} {f : CT G → Res (List (κ × α))} (h : RKX A G pos keys vals kc c f) (hall : keys.all (·.isSome) = true := by rfl) (hl : keys.length = vals.length := by rfl) (h0 : keys ≠ [] := by exact fun e => nomatch e) (h15 : keys.length ≤ 15 := by decide) : RX A G (.Dict keys vals pos) (rO (oD kc c)) (fun p => Res.bind (f p) fun x => if x.length ≤ 15 then .ok (x.foldl (fun acc e => putD acc e.1 e.2) []) else .bad) := ex_eq (fun p => by first | simp only [rbok, Res.bind_assoc, bind_ite, bind_bad] | rfl) (ex_disp (h := h) (hall := hall) (hl := hl) (h0 := h0) (h15 := h15))
theorem rtx_val {e : Expr} {f : CT G → Res (Bool)} (h : RX A G e (rV cB) f) (he : ∀ whole, isTrue e A.X.env whole = (do let v ← whole; standAt e.pos; holding [v] (truthy v)) := by intro _; rfl) : RTX A G e (f) := tx_eq (fun p => by first | simp only [rbok, Res.bind_assoc, bind_ite, bind_bad] | rfl) (tx_val (h := h) (he := he))
theorem rtx_cmp {α β : Type} {c : Cod α} {d : Cod β} {k : α → β → Option Bool} {op : CmpOp} {a b : Expr} {pos : Pos} {f : CT G → Res (α)} {g : CT G → Res (β)} (h : OpT A (compareOp op) c d k (rV cB)) (ha : RX A G a (rV c) f) (hb : RX A G b (rV d) g) (hm : behindInMarks op b = false) : RTX A G (.Compare a [op] [b] pos) (fun p => Res.bind (f p) fun x => Res.bind (g p) fun y => ofO (k x y)) := tx_eq (fun p => by first | simp only [rbok, Res.bind_assoc, bind_ite, bind_bad] | rfl) (tx_cmp (h := h) (ha := ha) (hb := hb) (hm := hm))
theorem rtx_chain {α β γ : Type} {c : Cod α} {d : Cod β} {d' : Cod γ} {k1 : α → β → Option Bool} {k2 : β → γ → Option Bool} {op op' : CmpOp} {ea eb ec : Expr} {pos : Pos} {f : CT G → Res (α)} {g : CT G → Res (β)} {h : CT G → Res (γ)} (h1 : OpT A (compareOp op) c d k1 (rV cB)) (h2 : OpT A (compareOp op') d d' k2 (rV cB)) (ha : RX A G ea (rV c) f) (hb : RX A G eb (rV d) g) (hc : RX A G ec (rV d') h) (hm : lastMarks [op, op'] [eb, ec] = false) : RTX A G (.Compare ea [op, op'] [eb, ec] pos) (fun p => Res.bind (f p) fun x => Res.bind (g p) fun y => Res.bind (ofO (k1 x y)) fun w => if w = true then Res.bind (h p) fun u => ofO (k2 y u) else .ok false) := tx_eq (fun p => by first | simp only [rbok, Res.bind_assoc, bind_ite, bind_bad] | rfl) (tx_chain (h1 := h1) (h2 := h2) (ha := ha) (hb := hb) (hc := hc) (hm := hm))
theorem rtx_not {a : Expr} {pos : Pos} {f : CT G → Res (Bool)} (h : RTX A G a f) : RTX A G (.UnaryOp .Not a pos) (fun p => Res.bind (f p) fun x => .ok (!x)) := tx_eq (fun p => by first | simp only [rbok, Res.bind_assoc, bind_ite, bind_bad] | rfl) (tx_not (h := h))
theorem rtx_w {e : Expr} {f : CT G → Res (Bool)} (h : RWX A G e f) : RTX A G e (f) := tx_eq (fun p => by first | simp only [rbok, Res.bind_assoc, bind_ite, bind_bad] | rfl) (tx_w (h := h))
theorem rwx_and1 {a : Expr} {pos : Pos} {f : CT G → Res (Bool)} (h : RTX A G a f) : RWX A G (.BoolOp .And [a] pos) (f) := wx_eq (fun p => by first | simp only [rbok, Res.bind_assoc, bind_ite, bind_bad] | rfl) (wx_and1 (h := h))
theorem rwx_or1 {a : Expr} {pos : Pos} {f : CT G → Res (Bool)} (h : RTX A G a f) : RWX A G (.BoolOp .Or [a] pos) (f) := wx_eq (fun p => by first | simp only [rbok, Res.bind_assoc, bind_ite, bind_bad] | rfl) (wx_or1 (h := h))
theorem rwx_and {a b : Expr} {rest : List Expr} {pos : Pos} {f g : CT G → Res (Bool)} (ha : RTX A G a f) (hb : RWX A G (.BoolOp .And (b :: rest) pos) g) : RWX A G (.BoolOp .And (a :: b :: rest) pos) (fun p => Res.bind (f p) fun x => if x = true then g p else .ok false) := wx_eq (fun p => by first | simp only [rbok, Res.bind_assoc, bind_ite, bind_bad] | rfl) (wx_and (ha := ha) (hb := hb))
theorem rwx_or {a b : Expr} {rest : List Expr} {pos : Pos} {f g : CT G → Res (Bool)} (ha : RTX A G a f) (hb : RWX A G (.BoolOp .Or (b :: rest) pos) g) : RWX A G (.BoolOp .Or (a :: b :: rest) pos) (fun p => Res.bind (f p) fun x => if x = true then .ok true else g p) := wx_eq (fun p => by first | simp only [rbok, Res.bind_assoc, bind_ite, bind_bad] | rfl) (wx_or (ha := ha) (hb := hb))
theorem rax_nil  : RAX A G [] aNil (fun _ => .ok ()) := ax_eq (fun p => by first | simp only [rbok, Res.bind_assoc, bind_ite, bind_bad] | rfl) (ax_nil )
theorem rax_one {α : Type} {c : Cod α} {e : Expr} {f : CT G → Res (α)} (h : RX A G e (rV c) f) (hs : starEach [e] A.X.env = (false, eval e A.X.env) :: starEach [] A.X.env := by rfl) : RAX A G [e] (aOne c) (f) := ax_eq (fun p => by first | simp only [rbok, Res.bind_assoc, bind_ite, bind_bad] | rfl) (ax_one (h := h) (hs := hs))
theorem rax_cons {α β : Type} {c : Cod α} {as : ArgC β} {e : Expr} {es : List Expr} {f : CT G → Res (α)} {g : CT G → Res (β)} (h : RX A G e (rV c) f) (hr : RAX A G es as g) (hs : starEach (e :: es) A.X.env = (false, eval e A.X.env) :: starEach es A.X.env := by rfl) : RAX A G (e :: es) (aCons c as) (fun p => Res.bind (f p) fun x => Res.bind (g p) fun y => .ok (x, y)) := ax_eq (fun p => by first | simp only [rbok, Res.bind_assoc, bind_ite, bind_bad] | rfl) (ax_cons (h := h) (hr := hr) (hs := hs))
theorem rax_nilA {α : Type} {c : Cod α} : RAX A G [] (aAll c 0) (fun _ => .ok []) := ax_eq (fun p => by first | simp only [rbok, Res.bind_assoc, bind_ite, bind_bad] | rfl) (ax_nilA )
theorem rax_consA {α : Type} {c : Cod α} {n : Nat} {e : Expr} {es : List Expr} {f : CT G → Res (α)} {g : CT G → Res (List α)} (h : RX A G e (rV c) f) (hr : RAX A G es (aAll c n) g) (hs : starEach (e :: es) A.X.env = (false, eval e A.X.env) :: starEach es A.X.env := by rfl) : RAX A G (e :: es) (aAll c (n + 1)) (fun p => Res.bind (f p) fun x => Res.bind (g p) fun y => .ok (x :: y)) := ax_eq (fun p => by first | simp only [rbok, Res.bind_assoc, bind_ite, bind_bad] | rfl) (ax_consA (h := h) (hr := hr) (hs := hs))
theorem raxt_v1 {α : Type} {c : Cod α} {k : Nat} {e : Expr} {f : CT G → Res (α)} (h : RX A G e (rV c) f) (hs : starEach [e] A.X.env = (false, eval e A.X.env) :: starEach [] A.X.env := by rfl) : RAT A G [e] (oV1 c) k (f) := axt_eq (fun p => by first | simp only [rbok, Res.bind_assoc, bind_ite, bind_bad] | rfl) (axt_v1 (h := h) (hs := hs))
theorem rkw_one {α : Type} {c : Cod α} {e : Expr} {nm : Option Str} {kp : Pos} {f : CT G → Res (α)} (h : RX A G e (rV c) f) : RKW A G [⟨nm, e, kp⟩] (aOne c) (f) := kw_eq (fun p => by first | simp only [rbok, Res.bind_assoc, bind_ite, bind_bad] | rfl) (kw_one (h := h))
theorem rkw_cons {α β : Type} {c : Cod α} {as : ArgC β} {e : Expr} {nm : Option Str} {kp : Pos} {kws : List Keyword} {f : CT G → Res (α)} {g : CT G → Res (β)} (h : RX A G e (rV c) f) (hr : RKW A G kws as g) : RKW A G (⟨nm, e, kp⟩ :: kws) (aCons c as) (fun p => Res.bind (f p) fun x => Res.bind (g p) fun y => .ok (x, y)) := kw_eq (fun p => by first | simp only [rbok, Res.bind_assoc, bind_ite, bind_bad] | rfl) (kw_cons (h := h) (hr := hr))
theorem rca_pos {α : Type} {as : ArgC α} {pos : Pos} {e : Expr} {es : List Expr} {fa : CT G → Res (α)} (ha : RAX A G (e :: es) as fa) (he : starEach (e :: es) A.X.env = (false, eval e A.X.env) :: starEach es A.X.env := by rfl) (hpl : (backTo pos (starEach es A.X.env)).any (·.1) = false := by rfl) : RCA A G pos (e :: es) [] [] as aNil (fun p => Res.bind (fa p) fun x => .ok (x, ())) := ca_eq (fun p => by first | simp only [rbok, Res.bind_assoc, bind_ite, bind_bad] | rfl) (ca_pos (ha := ha) (he := he) (hpl := hpl))
theorem rca_kw {β : Type} {bs : ArgC β} {pos : Pos} {kws : List Keyword} {ks : List Str} {fb : CT G → Res (β)} (hb : RKW A G kws bs fb) (hall : (backToKw pos (keywordEach kws A.X.env)).all (·.1.isSome) = true := by rfl) (hks : (backToKw pos (keywordEach kws A.X.env)).filterMap (·.1) = ks := by rfl) (hpl : (backToKw pos (keywordEach kws A.X.env)).any (·.1.isNone) = false := by rfl) : RCA A G pos [] kws ks aNil bs (fun p => Res.bind (fb p) fun x => .ok ((), x)) := ca_eq (fun p => by first | simp only [rbok, Res.bind_assoc, bind_ite, bind_bad] | rfl) (ca_kw (hb := hb) (hall := hall) (hks := hks) (hpl := hpl))
theorem rix_l {α : Type} {c : Cod α} {tg e : Expr} {f : CT G → Res (List α)} (h : RX A G e (rV (cL c)) f) : RIX A G tg e c (f) := ix_eq (fun p => by first | simp only [rbok, Res.bind_assoc, bind_ite, bind_bad] | rfl) (ix_l (h := h))
theorem rix_t {α : Type} {c : Cod α} {tg e : Expr} {f : CT G → Res (List α)} (h : RX A G e (rV (cTV c)) f) : RIX A G tg e c (f) := ix_eq (fun p => by first | simp only [rbok, Res.bind_assoc, bind_ite, bind_bad] | rfl) (ix_t (h := h))
theorem rix_s {tg e : Expr} {f : CT G → Res (Str)} (h : RX A G e (rV cS) f) : RIX A G tg e cS (fun p => Res.bind (f p) fun x => .ok (strL x)) := ix_eq (fun p => by first | simp only [rbok, Res.bind_assoc, bind_ite, bind_bad] | rfl) (ix_s (h := h))
theorem rix_r1 {tg a : Expr} {p pos : Pos} {f : CT G → Res (Int)} (hg : Gl A.X "range") (hm : A.X.mg "range" = none) (h : RX A G a (rV cI) f) (hs : starEach [a] A.X.env = [(false, eval a A.X.env)] := by rfl) : RIX A G tg (.Call (.Name "range" p) [a] [] pos) cI (fun p => Res.bind (f p) fun x => rng1O x) := ix_eq (fun p => by first | simp only [rbok, Res.bind_assoc, bind_ite, bind_bad] | rfl) (ix_r1 (hg := hg) (hm := hm) (h := h) (hs := hs))
theorem rox_none  : ROX A G none (fun _ => .ok none) := ox_eq (fun p => by first | simp only [rbok, Res.bind_assoc, bind_ite, bind_bad] | rfl) (ox_none )
theorem rox_some {e : Expr} {f : CT G → Res (Int)} (h : RX A G e (rV cI) f) : ROX A G (some e) (fun p => Res.bind (f p) fun x => .ok (some x)) := ox_eq (fun p => by first | simp only [rbok, Res.bind_assoc, bind_ite, bind_bad] | rfl) (ox_some (h := h))
theorem rkx_nil {κ α : Type} {kc : KeyC κ} {c : Cod α} {pos : Pos} : RKX A G pos [] [] kc c (fun _ => .ok []) := kx_eq (fun p => by first | simp only [rbok, Res.bind_assoc, bind_ite, bind_bad] | rfl) (kx_nil )
theorem rkx_cons {κ α : Type} {kc : KeyC κ} {c : Cod α} {pos : Pos} {a b : Expr} {keys : List (Option Expr)} {vals : List Expr} {f : CT G → Res (κ)} {g : CT G → Res (α)} {h : CT G → Res (List (κ × α))} (ha : RX A G a (rV kc.c) f) (hb : RX A G b (rV c) g) (hr : RKX A G pos keys vals kc c h) : RKX A G pos (some a :: keys) (b :: vals) kc c (fun p => Res.bind (f p) fun x => Res.bind (g p) fun y => Res.bind (h p) fun z => .ok ((x, y) :: z)) := kx_eq (fun p => by first | simp only [rbok, Res.bind_assoc, bind_ite, bind_bad] | rfl) (kx_cons (ha := ha) (hb := hb) (hr := hr))
/-! lending, and comprehensions of what only reads -/
theorem rex_lend {G1 : Ctx} {S T : List Nat} {to : CT G → CT G1} {bk : CT G → CT G1 → CT G} {α : Type} {r : Rt α} {e : Expr} {f : CT G1 → Res α} (ln : LendC S T 0 G G1 to bk) (hr : RtHard r) (h : RX A G1 e r f) (hb : ∀ p, bk p (to p) = p := by intro _; rfl) : RX A G e r (fun p => f (to p)) :=
  ex_eq (fun p => by simp only [rbok, Res.bind_assoc, hb]) (ex_lend ln hr h)
theorem rtx_lend {G1 : Ctx} {S T : List Nat} {to : CT G → CT G1} {bk : CT G → CT G1 → CT G} {e : Expr} {f : CT G1 → Res Bool} (ln : LendC S T 0 G G1 to bk) (h : RTX A G1 e f) (hb : ∀ p, bk p (to p) = p := by intro _; rfl) : RTX A G e (fun p => f (to p)) :=
  tx_eq (fun p => by simp only [rbok, Res.bind_assoc, hb]) (tx_lend ln h)
def mapP {α γ : Type} (f : α → Res γ) : List α → Res (List γ)
  | [] => .ok []
  | x :: xs => Res.bind (Res.noexc (f x)) fun y => Res.bind (mapP f xs) fun ys => .ok (y :: ys)
def lcP {α γ : Type} (t : α → Res Bool) (f : α → Res γ) : List α → Res (List γ)
  | [] => .ok []
  | x :: xs => Res.bind (Res.noexc (t x)) fun b => if b = true then Res.bind (Res.noexc (f x)) fun y => Res.bind (lcP t f xs) fun ys => .ok (y :: ys) else lcP t f xs
theorem noexc_bind {α β : Type} {m : Res α} {k : α → Res β} : Res.noexc (Res.bind m k) = Res.bind (Res.noexc m) fun x => Res.noexc (k x) := by cases m <;> rfl
theorem noexc_ok {α : Type} {x : α} : Res.noexc (.ok x) = .ok x := rfl
theorem mapR_P {α β γ : Type} {f : α → β → Res (γ × β)} {g : α → Res γ} {b : β} (h : ∀ x, f x b = Res.bind (g x) fun z => .ok (z, b)) : ∀ xs : List α, mapR xs f b = Res.bind (mapP g xs) fun ys => .ok (ys, b)
  | [] => rfl
  | x :: xs => by
    unfold mapR mapP
    rw [h x, noexc_bind]
    simp only [noexc_ok, rbok, Res.bind_assoc]
    congr 1
    funext z
    rw [mapR_P h xs]
    simp only [rbok, Res.bind_assoc]
theorem lcL_P {α β γ : Type} {f : α → β → Res (Option γ × β)} {t : α → Res Bool} {g : α → Res γ} {b : β} (h : ∀ x, f x b = Res.bind (t x) fun c => if c = true then Res.bind (g x) fun z => .ok (some z, b) else .ok (none, b)) : ∀ xs : List α, lcL xs f b = Res.bind (lcP t g xs) fun ys => .ok (ys, b)
  | [] => rfl
  | x :: xs => by
    unfold lcL lcP
    rw [h x, noexc_bind]
    simp only [Res.bind_assoc]
    congr 1
    funext c
    cases c with
    | false =>
      simp only [Bool.false_eq_true, if_false, noexc_ok, rbok]
      rw [lcL_P h xs]
      simp only [rbok, Res.bind_assoc]
    | true =>
      simp only [if_true, noexc_bind, noexc_ok, rbok, Res.bind_assoc]
      congr 1
      funext z
      rw [lcL_P h xs]
      simp only [rbok, Res.bind_assoc]
theorem rex_lc {α β : Type} {ci : Cod α} {ce : Cod β} {G0 G1 : Ctx} {elt tg iter : Expr} {scope : Scope} {own : List (Str × Nat)} {pos : Pos} {fi : CT G → Res (List α)} {dn : CT G → CT G0} {bk : CT G → CT G0 → CT G} {put : CT G0 → α → CT G1} {fe : CT G1 → Res β} {dn1 : CT G1 → CT G0} {bk1 : CT G1 → CT G0 → CT G1}
    (hi : RIX A G tg iter ci fi) (ok : BlkOk A.X.N A.X.env.scope scope own) (wc : WipeC 0 (own.map (fun x : Str × Nat => x.2)) G G0 dn bk)
    (hg : ∀ s H C cl fp, GX (A.blk (own.map (fun x : Str × Nat => x.2)) s H scope C cl fp) G0 tg ci G1 put) (he : ∀ s H C cl fp, RX (A.blk (own.map (fun x : Str × Nat => x.2)) s H scope C cl fp) G1 elt (rV ce) fe)
    (wc1 : WipeC 0 (own.map (fun x : Str × Nat => x.2)) G1 G0 dn1 bk1) (h1 : ∀ q x, dn1 (put q x) = q := by intros; rfl) (h2 : ∀ p, bk p (dn p) = p := by intros; rfl) (hs : ∀ x, foldedSetIterable iter A.X.env x = pure x := by intro _; rfl) :
    RX A G (.ListComp elt [⟨tg, iter, [], 0⟩] scope pos) (rO (oL ce)) (fun p => Res.bind (fi p) fun xs => mapP (fun x => fe (put (dn p) x)) xs) :=
  ex_eq (fun p => by
    simp only [rbok, Res.bind_assoc, h1]
    congr 1
    funext xs
    rw [mapR_P (g := fun x => fe (put (dn p) x)) (fun x => rfl)]
    simp only [rbok, Res.bind_assoc, h2]) (ex_lc hi ok wc hg he wc1 hs)
theorem rex_lcIf {α β : Type} {ci : Cod α} {ce : Cod β} {G0 G1 : Ctx} {elt tg iter c : Expr} {scope : Scope} {own : List (Str × Nat)} {pos : Pos} {fi : CT G → Res (List α)} {dn : CT G → CT G0} {bk : CT G → CT G0 → CT G} {put : CT G0 → α → CT G1} {ft : CT G1 → Res Bool} {fe : CT G1 → Res β} {dn1 : CT G1 → CT G0} {bk1 : CT G1 → CT G0 → CT G1}
    (hi : RIX A G tg iter ci fi) (ok : BlkOk A.X.N A.X.env.scope scope own) (wc : WipeC 0 (own.map (fun x : Str × Nat => x.2)) G G0 dn bk)
    (hg : ∀ s H C cl fp, GX (A.blk (own.map (fun x : Str × Nat => x.2)) s H scope C cl fp) G0 tg ci G1 put) (ht : ∀ s H C cl fp, RTX (A.blk (own.map (fun x : Str × Nat => x.2)) s H scope C cl fp) G1 c ft) (he : ∀ s H C cl fp, RX (A.blk (own.map (fun x : Str × Nat => x.2)) s H scope C cl fp) G1 elt (rV ce) fe)
    (wc1 : WipeC 0 (own.map (fun x : Str × Nat => x.2)) G1 G0 dn1 bk1) (h1 : ∀ q x, dn1 (put q x) = q := by intros; rfl) (h2 : ∀ p, bk p (dn p) = p := by intros; rfl) (hs : ∀ x, foldedSetIterable iter A.X.env x = pure x := by intro _; rfl) :
    RX A G (.ListComp elt [⟨tg, iter, [c], 0⟩] scope pos) (rO (oL ce)) (fun p => Res.bind (fi p) fun xs => lcP (fun x => ft (put (dn p) x)) (fun x => fe (put (dn p) x)) xs) :=
  ex_eq (fun p => by
    simp only [rbok, Res.bind_assoc, h1]
    congr 1
    funext xs
    rw [lcL_P (t := fun x => ft (put (dn p) x)) (g := fun x => fe (put (dn p) x)) (fun x => rfl)]
    simp only [rbok, Res.bind_assoc, h2]) (ex_lcIf hi ok wc hg ht he wc1 hs)
end
end AC
set_option Elab.async false
set_option linter.all false
set_option maxRecDepth 100000
/-! TL33: loops over own tuples, one part of which is changed in the body. -/
namespace AC
open PySem L2 PyProof
/-! ### the tuple's parts, one of which is a slot's -/
end AC
set_option Elab.async false
set_option linter.all false
set_option maxRecDepth 100000
/-! TL34: sorted. -/
namespace L2
open PySem PySem.Spec PySem.W PyProof.Rows
end L2
namespace AC
open PySem L2 PyProof PySem.W
end AC
set_option Elab.async false
set_option linter.all false
set_option maxRecDepth 100000
set_option maxHeartbeats 1000000
/-! TL35: sorted(d.items()), d with keys that are texts or ints. -/
namespace L2
open PySem PySem.Spec PySem.W PyProof.Rows
end L2
set_option Elab.async false
set_option linter.all false
set_option maxRecDepth 100000
set_option maxHeartbeats 1000000
/-! TL36: dicts: sorted, items, dict(pairs), get with a default. -/
namespace L2
open PySem PySem.Spec PySem.W PyProof.Rows
end L2
namespace AC
open PySem L2 PyProof PySem.W
end AC
set_option Elab.async false
set_option linter.all false
set_option maxRecDepth 100000
set_option maxHeartbeats 1000000
/-! TL37: dict(pairs), d.get, dict comprehensions, narrowing. -/
namespace AC
open PySem L2 PyProof PySem.W
end AC
set_option Elab.async false
set_option linter.all false
set_option maxRecDepth 100000
set_option maxHeartbeats 1000000
/-! TL38: x != y by the class's own __eq__. -/
namespace L2
open PySem PySem.Spec PySem.W PyProof.Rows
end L2
namespace AC
open PySem L2 PyProof
end AC
set_option Elab.async false
set_option linter.all false
set_option maxRecDepth 100000
/-! TL39: reading forms of the rules on dicts. -/
namespace AC
open PySem L2 PyProof
end AC
set_option Elab.async false
set_option linter.all false
set_option maxRecDepth 100000
set_option maxHeartbeats 1000000
/-! TL40: sorted of a tuple; an empty tuple as a default. -/
namespace L2
open PySem PySem.Spec PySem.W PyProof.Rows
end L2
namespace AC
open PySem L2 PyProof PySem.W
end AC
set_option Elab.async false
set_option linter.all false
set_option maxRecDepth 100000
set_option maxHeartbeats 1000000
/-! TL41: a display of several things taken apart into names; slices of tuples. -/
namespace AC
open PySem L2 PyProof
end AC
set_option Elab.async false
set_option linter.all false
set_option maxRecDepth 100000
set_option maxHeartbeats 1000000
/-! TL42: x = {k: v for ..} on one line; classes called with a default that is a tuple. -/
namespace L2
open PySem PySem.Spec PyProof.Rows
end L2
namespace AC
open PySem L2 PyProof
end AC
set_option Elab.async false
set_option linter.all false
set_option maxRecDepth 100000
set_option maxHeartbeats 1000000
/-! TL43: dict(t) of a tuple of pairs. -/
namespace AC
open PySem L2 PyProof PySem.W
end AC
set_option Elab.async false
set_option linter.all false
set_option maxRecDepth 100000
set_option maxHeartbeats 1000000
/-! TL44: lists of one's own with unlike parts. -/
namespace AC
open PySem L2 PyProof
end AC
set_option Elab.async false
set_option linter.all false
set_option maxRecDepth 100000
set_option maxHeartbeats 1000000
/-! TL45: lists of texts of which only the signs count, compared. -/
namespace AC
open PySem L2 PyProof PySem.SeqAt
end AC
set_option Elab.async false
set_option linter.all false
set_option maxRecDepth 100000
set_option maxHeartbeats 1000000
/-! TL46: x, xs[i] = .. (a tuple); a list that is spoilt. -/
namespace AC
open PySem L2 PyProof
end AC
set_option Elab.async false
set_option linter.all false
set_option maxRecDepth 100000
set_option maxHeartbeats 1000000
/-! TL47: exceptions of the program, with a value: made and raised. -/
namespace AC
open PySem L2 PyProof
section
variable {P : Program} {w : World} {K : Frag} {mg : Str → Option Value} {base : Heap}
variable {x qual : Str} {params : Arguments} {body : List Stmt} {scope : Scope} {dvs : List V} {kws : List (Str × V)} {f : Addr} {fd : FuncData} {N ps : List Str} {k : Nat}
/-- a def keeps its promise, by its body -/
theorem fn_O {sp : Sp} (F0 : FunD K x qual params body scope dvs kws f fd) (S : FnScope N ps scope) (hlen : ∀ vs H Q E, sp vs H Q E → vs.length = ps.length)
    (hbody : ∀ (cd : Value) (B : Around) (up : List Env) (s : Shared) (H : Hp) (vs : List V) (Q : VK) (E : XK), sp vs H Q E →
      ∃ t, PSs (cxOf (L2.CX P w) P w K mg base N qual scope f cd B up s H E) body t ∧ t ⟨fun _ H' => Q .non H', Q, fun _ _ => False, fun _ _ => False⟩ (start N vs) H) : FnOk P w K mg base (L2.CX P w) (k + 1) f fd ps sp := by
  obtain ⟨oc, od, dV, kV, doc, pm, an, cd, ct, osl, e0, lk, hcd, _, _⟩ := F0.ex
  subst e0
  refine ⟨hlen, fun B up s H args us vs Q E hr e0 hb rv hsp => ?_⟩
  have kin : K.In s.heap := e0.mod.kin.keeps fun b o e => (e0.bs b o e).1
  have nol : s.heap.NoLimit := e0.mod.nolimit.keeps fun b o e => (e0.bs b o e).1
  have kinds : ∀ z ∈ ps.zip us, scope.names.lookup z.1 = some .local ∨ (scope.names.lookup z.1 = some .cell ∧ ((cellsFrom (s.heap.objs.size + 1) scope.names []).lookup z.1).isSome = true) := fun z hz =>
    (S.par z.1 (List.of_mem_zip (show (z.1, z.2) ∈ _ from hz)).1).imp id fun q => ⟨q, PySem.W.cellsFrom_some _ _ _ (Or.inl q)⟩
  refine codeAny_call_function hr.depth (kin _ _ lk) rfl S.co S.gen rfl (PySem.W.codeRec_of kin hcd) (hb _ _ _ _ ?_)
  refine wpAny_newFunctionEnv_cells S.kind kinds fun env he s1 x => ?_
  subst he
  refine ⟨nol.keeps x.toInCall.keep, codeAny_func ?_⟩
  obtain ⟨t, ht, hq⟩ := hbody cd B up s H vs Q E hsp
  refine wpAny_mono (ht.run [] s1 (start N vs) H _ (inv_start S hr.hd e0 (hlen _ _ _ _ hsp) rv x) hq) (fun fl s' hs => ?_) fun e s' hs => hs
  have done : ∀ (o' : L2.St) (H' : Hp) (v : V) (u : Value), Inv (cxOf (L2.CX P w) P w K mg base N qual scope f cd B up s H E) [] o' H' s' → RelV v u → Q v H' → CE up P w H s Q u s' := fun o' H' v u J r q => ⟨v, H', J.os, J.bare, J.base, J.hok, r, q⟩
  rcases fl with _ | _ | _ | u
  · obtain ⟨o', H', J, q⟩ := hs
    exact done o' H' .non .none J rfl q
  · obtain ⟨_, _, _, q⟩ := hs
    exact q.elim
  · obtain ⟨_, _, _, q⟩ := hs
    exact q.elim
  · obtain ⟨v, o', H', J, r, q⟩ := hs
    exact done o' H' v u J r q
/-- self.value = value -/
def initSp (K : Frag) : Sp := fun vs H Q _ => ∃ (a C : Addr) (v : V), vs = [.ref a, v] ∧ H a = some (exo a C none) ∧ OexC K C ∧ PySem.W.findIn K (.ref C) "value" = some none ∧
  ∀ dx, H dx = none → dx ≠ a → Q .non (upd (upd H dx (exd dx [("value", v)])) a (exo a C (some dx)))
theorem init_O {p1 p2 p3 p4 : Pos} (F0 : FunD K x qual params [.Assign [.Attribute (.Name "self" p1) "value" p2] (.Name "value" p3) p4] scope dvs kws f fd) (S : FnScope ["self", "value"] ["self", "value"] scope)
    (h1 : scope.names.lookup ("self" : Str) = some .local) (h2 : scope.names.lookup ("value" : Str) = some .local) : FnOk P w K mg base (L2.CX P w) (k + 1) f fd ["self", "value"] (initSp K) := by
  refine fn_O F0 S (fun vs H Q E ⟨a, C, v, e, _⟩ => by rw [e]; rfl) fun cd B up s H vs Q E ⟨a, C, v, e, ha, T, hno, q⟩ => ?_
  subst e
  refine ⟨_, pss_one (ps_ost (pe_var (i := 0) rfl (.inl h1)) (pe_var (i := 1) rfl (.inl h2)) (by rfl)), ?_⟩
  exact ⟨v, rfl, .ref a, rfl, a, C, rfl, T, hno, .inl ⟨ha, fun dx n ne => q dx n ne⟩⟩
/-- a class of exceptions with a value -/
structure ExnG (P : Program) (w : World) (K : Frag) (mg : Str → Option Value) (base : Heap) (k : Nat) (ca : Str → Addr) (x : Str) : Prop where
  gm : mg x = some (.ref (ca x))
  T : OexC K (ca x)
  no : PySem.W.findIn K (.ref (ca x)) "value" = some none
  ex : ∃ f fd, PySem.W.findIn K (.ref (ca x)) "__init__" = some (some (.ref f)) ∧ PySem.W.typeIn K (.ref f) = some (.type "function") ∧ FnOk P w K mg base (L2.CX P w) k f fd ["self", "value"] (initSp K) ∧ Binds K fd ["self", "value"] []
/-! ### facts, by a look -/
def oexB (K : Frag) (C : Addr) : Bool := match K.lookup C with
  | some ⟨.type "type", _, .cls cd, sl⟩ => (match cd.mro, sl.toList with
    | .ref C' :: bm, [_, _, _, _, some (.builtin n), _] => decide (C' = C) && (decide (n = "ValueError.__new__") && (!cd.hasDel && (cd.hasDict && PySem.HandSPX.refsVE bm)))
    | _, _ => false)
  | _ => false
theorem oexB_ok {K : Frag} {C : Addr} (q : oexB K C = true) : ∃ nm q N bs bm sn sub ab col dd k0 k1 k2 k3 k5, K.lookup C = some (PySem.excClassObj nm q C N bs bm true sn sub ab col dd k0 k1 k2 k3 k5 "ValueError.__new__") ∧ PySem.HandSPX.refsVE bm = true := by
  unfold oexB at q
  split at q
  · rename_i dd cd sl ho
    split at q
    · rename_i C' bm k0 k1 k2 k3 n k5 hm hs
      obtain ⟨q1, q⟩ := He.ba q
      obtain ⟨q2, q⟩ := He.ba q
      obtain ⟨q3, q⟩ := He.ba q
      obtain ⟨q4, q5⟩ := He.ba q
      have q1 := of_decide_eq_true q1
      have q2 := of_decide_eq_true q2
      subst q1 q2
      obtain ⟨nm, bs, mro, ns, qn, hd, sn, sub, ab, col, del⟩ := cd
      dsimp only at hm q3 q4
      have q3 : del = false := by simpa using q3
      subst hm q3 q4
      have hsl : sl = #[k0, k1, k2, k3, some (.builtin "ValueError.__new__"), k5] := by
        obtain ⟨l⟩ := sl
        simp only at hs
        rw [hs]
      subst hsl
      exact ⟨nm, qn, ns, bs, bm, sn, sub, ab, col, dd, k0, k1, k2, k3, k5, ho, q5⟩
    · cases q
  · cases q
def noneB (x : Option (Option Value)) : Bool := match x with
  | some none => true
  | _ => false
theorem noneB_ok {x : Option (Option Value)} (h : noneB x = true) : x = some none := by
  unfold noneB at h
  split at h
  · rfl
  · cases h
def exnB (b x : Str) (K : Frag) : Bool := oexB K (He.ga K x) && (He.eqO (PySem.W.findIn K (.ref (He.ga K x)) "__setattr__") (some (some (.builtin "object.__setattr__"))) && (decide (PySem.W.subIn K (.ref (He.ga K x)) (.type "BaseException") = some true) && (tyB (PySem.W.typeIn K (.ref (He.ga K x))) "type" && (PySem.W.keepIn K (.ref (He.ga K x)) &&
  (noneB (PySem.W.findIn K (.ref (He.ga K x)) "value") && (He.eqO (PySem.W.findIn K (.ref (He.ga K x)) "__init__") (some (some (.ref (He.ma K (He.ga K b) "__init__")))) && tyB (PySem.W.typeIn K (.ref (He.ma K (He.ga K b) "__init__"))) "function"))))))
where tyB (v : Option Value) (n : String) : Bool := match v with
  | some (.type m) => decide (m = n)
  | _ => false
theorem tyB_ok {v : Option Value} {n : String} (h : exnB.tyB v n = true) : v = some (.type n) := by
  unfold exnB.tyB at h
  split at h
  · rw [of_decide_eq_true h]
  · cases h
theorem exn_mk {b x : Str} {fd : FuncData} (c : exnB b x K = true) (hm : mg x = some (.ref (He.ga K x))) (F : FnOk P w K mg base (L2.CX P w) k (He.ma K (He.ga K b) "__init__") fd ["self", "value"] (initSp K)) (hb : Binds K fd ["self", "value"] []) : ExnG P w K mg base k (He.ga K) x := by
  unfold exnB at c
  obtain ⟨c1, c⟩ := He.ba c
  obtain ⟨c2, c⟩ := He.ba c
  obtain ⟨c3, c⟩ := He.ba c
  obtain ⟨c4, c⟩ := He.ba c
  obtain ⟨c5, c⟩ := He.ba c
  obtain ⟨c6, c⟩ := He.ba c
  obtain ⟨c7, c8⟩ := He.ba c
  exact ⟨hm, ⟨oexB_ok c1, He.eqO_ok c2, of_decide_eq_true c3, tyB_ok c4, c5⟩, noneB_ok c6, _, fd, He.eqO_ok c7, tyB_ok c8, F, hb⟩
end
section
variable {A : Amb} {G G' : Ctx} {ρ : Type} {R : Rr ρ}
abbrev ExnA (A : Amb) (k : Nat) (x : Str) : Prop := ExnG A.X.prog A.X.w A.X.K A.X.mg A.X.base k A.ca x
theorem sx_raise {α : Type} {c : Cod α} {t : α → PyData} {n k : Nat} {x : Str} {p pos pos2 : Pos} {e : Expr} {f : CT G → Res (α × CT G)} (D : ExnA A k x) (hk : k + 1 ≤ A.lv) (gl : Gl A.X x) (dcp : DC c t n) (h : EX A G e (rV c) f)
    (hdb : (x == ("__debug__" : Str)) = false := by decide) (he : starEach [e] A.X.env = (false, eval e A.X.env) :: starEach [] A.X.env := by rfl) (hpl : (backTo pos (starEach [] A.X.env)).any (·.1) = false := by rfl) :
    SX A G (.Raise (some (.Call (.Name x p) [e] [] pos)) none pos2) G' R (fun q => Res.bind (f q) fun y => .exc ⟨x, t y.1⟩) := by
  obtain ⟨f1, fd, h1, h2, F1, hb⟩ := D.ex
  refine ps_weak (ps_raise A.calm A.tk (pmk_oex D.T h1 h2 F1 (A.room.mono hk) hb .nil (passes_call A.tk fun _ _ _ _ h => h.elim) gl D.gm (pa_cons h pa_nil he) hdb he hpl)) fun Dd o H ⟨p, L, w, cr, k⟩ => ⟨p, L, w, cr, k.bind.imp fun y _ gy v L1 H1 s1 w1 c1 r1 => ⟨by show 1 ≤ 1000; decide, fun a ha => ⟨a, A.ca x, v, rfl, upd_same, D.T, D.no, fun dx hdx hne => ?_⟩⟩⟩
  have hdx1 : H1 dx = none := by rwa [upd_ne hne] at hdx
  refine ⟨rfl, dx, [("value", v)], upd_same, by rw [upd_ne hne, upd_same], hdx1, ?_⟩
  have far : ∀ b, H1 b ≠ none → upd (del (upd (upd (upd H1 a (exo a (A.ca x) none)) dx (exd dx [("value", v)])) a (exo a (A.ca x) (some dx))) a) dx (.xd [("value", v)]) b = H1 b := fun b hb => by
    have na : b ≠ a := fun z => hb (by rw [z]; exact ha)
    have nd : b ≠ dx := fun z => hb (by rw [z]; exact hdx1)
    rw [upd_ne nd, del_ne na, upd_ne na, upd_ne nd, upd_ne na]
  refine (show A.raises ⟨x, t y.1⟩ L H o from gy) (.ref (A.ca x)) dx _ ⟨rfl, fun b fb => ?_, fun fb => ?_, v, upd_same, rd L1 H1, fun b ob q => ?_, s1.rd, fun b ob q => ?_, (dcp _ _ _ _ r1).1⟩ o fun _ _ => rfl
  · rw [far b (by rw [(s1 b fb).2]; exact fb.1)]
    exact (s1 b fb).2
  · have := (s1 dx fb).2
    rw [hdx1] at this
    exact fb.1 this.symm
  · obtain ⟨_, q2⟩ := rd_of q
    rw [far b (by rw [q2]; simp), q2]
  · by_cases fb : Frm L H b
    · refine .inl ?_
      obtain ⟨e1, e2⟩ := s1 b fb
      obtain ⟨⟨l, z1⟩, z2⟩ := rd_of q
      exact rd_mk (e1.symm.trans z1) (e2.symm.trans z2)
    · exact .inr fb
end
end AC
set_option Elab.async false
set_option linter.all false
set_option maxRecDepth 100000
set_option maxHeartbeats 2000000
/-! TL48: try, except X as e: y = [isinstance(e, A), .., e.value]. -/
namespace AC
open PySem L2 PyProof
/-- what is known of the classes -/
structure ExcsF (K : Frag) (ca : Str → Addr) (b : Str) (ns : List Str) : Prop where
  te : ∀ n ∈ ns, PySem.W.exmOne K (.ref (ca n)) (.ref (ca b)) = some true
  xf : ∀ n ∈ ns, XfC K (ca n)
  no : ∀ n ∈ ns, PySem.W.findIn K (.ref (ca n)) "value" = some none
  ec : ∀ n ∈ ns, ExcC K (ca n)
  is : ∀ n ∈ ns, ∀ m ∈ ns, PySem.W.kitOne K (.ref (ca n)) (.ref (ca m)) = some (decide (n = m))
def ecB (K : Frag) (D : Addr) : Bool := He.eqO (PySem.W.findIn K (.ref D) "__getattribute__") (some (some (.builtin "BaseException.__getattribute__"))) && (noneB (PySem.W.findIn K (.ref D) "__getattr__") && (decide (PySem.W.subIn K (.ref D) (.type "BaseException") = some true) && (PySem.W.hasDictIn K D && (He.eqO (PySem.W.findIn K (.ref D) "__class__") (some (some (.builtin "object.__class__"))) &&
  (He.eqO (PySem.W.specialIn K (.builtin "object.__class__") "__get__") (some (some (.builtin "getset_descriptor.__get__"))) && (decide (PySem.W.takesIn K (.builtin "object.__class__") = some true) && decide (PySem.W.mroIn K D (.type "object") = some true)))))))
theorem ecB_ok {K : Frag} {D : Addr} (c : ecB K D = true) : ExcC K D := by
  unfold ecB at c
  obtain ⟨c1, c⟩ := He.ba c
  obtain ⟨c2, c⟩ := He.ba c
  obtain ⟨c3, c⟩ := He.ba c
  obtain ⟨c4, c⟩ := He.ba c
  obtain ⟨c5, c⟩ := He.ba c
  obtain ⟨c6, c⟩ := He.ba c
  obtain ⟨c7, c8⟩ := He.ba c
  exact ⟨He.eqO_ok c1, noneB_ok c2, of_decide_eq_true c3, c4, He.eqO_ok c5, He.eqO_ok c6, of_decide_eq_true c7, of_decide_eq_true c8⟩
def exsB (b : Str) (ns : List Str) (K : Frag) : Bool := ns.all fun n => decide (PySem.W.exmOne K (.ref (He.ga K n)) (.ref (He.ga K b)) = some true) && (noneB (PySem.W.findIn K (.ref (He.ga K n)) "value") && (ecB K (He.ga K n) && ns.all fun m => decide (PySem.W.kitOne K (.ref (He.ga K n)) (.ref (He.ga K m)) = some (decide (n = m)))))
theorem exs_ok {K : Frag} {b : Str} {ns : List Str} (c : exsB b ns K = true) : ExcsF K (He.ga K) b ns := by
  unfold exsB at c
  have h := List.all_eq_true.mp c
  refine ⟨fun n hn => ?_, fun n hn => ?_, fun n hn => ?_, fun n hn => ?_, fun n hn m hm => ?_⟩ <;> obtain ⟨c1, c⟩ := He.ba (h n hn) <;> obtain ⟨c2, c⟩ := He.ba c <;> obtain ⟨c3, c4⟩ := He.ba c
  · exact of_decide_eq_true c1
  · have e := ecB_ok c3
    exact ⟨e.hg, e.hk, e.hs, e.hd⟩
  · exact noneB_ok c2
  · exact ecB_ok c3
  · exact of_decide_eq_true (List.all_eq_true.mp c4 m hm)
def rIsD (K : Frag) (D a dd : Addr) : List V → Hp → VK → Prop := fun xs H Q => ∃ (c : V) (cv : Value) (b : Bool) (fs : List (Str × V)), xs = [.ref a, c] ∧ (∀ u, RelV c u → u = cv) ∧ PySem.W.kitOne K (.ref D) cv = some b ∧ H dd = some (.xd fs) ∧ Q (.bl b) H
theorem call_isD {X : Cx} {a D dd : Addr} {oe : Obj} {pn : List (Addr × Obj)} (C : ExcC X.K D) (hz : Zc (.ref D) (some dd) oe) (hf : ∃ vs, oe.data = .fields vs) : CallR (X.suite a ((a, oe) :: pn)) (.builtin "isinstance") (rIsD X.K D a dd) := by
  intro pins s σ H xs us Q I r h
  obtain ⟨c, cv, b, fs, rfl, hcv, e, ea, q⟩ := h
  cases r with
  | cons rx rr =>
    cases rr with
    | cons rt rr =>
      cases rr
      cases rx
      have ec := hcv _ rt
      subst ec
      obtain ⟨hget, _⟩ := I.pin (a, oe) (List.mem_append.mpr (.inl List.mem_cons_self))
      obtain ⟨vs, hv⟩ := hf
      have hx : ObjOk X.prog X.w H s.heap dd (.xd fs) := I.hok dd _ ea
      obtain ⟨mA, hns, hr⟩ := hx
      obtain ⟨od, ho, hl⟩ := lookIn_ns hns
      have J : PySem.W.InstAt s.heap a oe D (some od) := ⟨hget, hz.1, by unfold PySem.W.notCls; rw [hv] <;> rfl, by rw [hz.2]; exact ho⟩
      obtain ⟨cdD, hcD, _⟩ := PySem.W.any_some C.hd
      exact PySem.W.kia_one (PySem.W.kitx_exc (by rw [hcD]; rfl) C.hg C.hk C.hs C.ha C.hn C.ht C.hm) I.kIn J e (fun z => nomatch z) fun tk => ⟨.bl b, H, I.kept (t' := tk) fun _ _ z => z, rfl, q⟩
/-! ### what is displayed -/
@[reducible] def IsT : List Str → Type
  | [] => PyData
  | _ :: ms => Bool × IsT ms
@[reducible] def isA : (ms : List Str) → ArgC (IsT ms)
  | [] => aOne (cDat 0)
  | _ :: ms => aCons cB (isA ms)
def isV (n : Str) (d : PyData) : (ms : List Str) → IsT ms
  | [] => d
  | m :: ms => (decide (n = m), isV n d ms)
def isL (n : Str) (v : V) : List Str → List V
  | [] => [v]
  | m :: ms => .bl (decide (n = m)) :: isL n v ms
theorem isL_len {n : Str} {v : V} : ∀ {ms : List Str}, (isL n v ms).length = ms.length + 1
  | [] => rfl
  | m :: ms => by show (isL n v ms).length + 1 = _; rw [isL_len]; rfl
theorem isL_see {K : Frag} {R : Hp} {n : Str} {v : V} {d : PyData} (h : (cDat 0).see K R v d) : ∀ {ms : List Str}, (isA ms).see K R (isL n v ms) (isV n d ms)
  | [] => ⟨v, rfl, h⟩
  | m :: ms => ⟨.bl (decide (n = m)), isL n v ms, rfl, rfl, isL_see h⟩
section
variable {X : Cx} {a : Addr} {oe : Obj} {pn : List (Addr × Obj)} {i : Nat} {n x : Str} {dd : Addr}
def tIs (a dd : Addr) (i : Nat) (n : Str) (ms : List Str) : L2.TA := fun σ H Q => ∃ v : V, σ[i]? = some (some (.ref a)) ∧ H dd = some (.xd [("value", v)]) ∧ Q (isL n v ms) H
theorem pa_val {ca : Str → Addr} {b : Str} {ns : List Str} {p pos : Pos} (F : ExcsF X.K ca b ns) (hn : n ∈ ns) (hz : Zc (.ref (ca n)) (some dd) oe) (hf : ∃ vs, oe.data = .fields vs) (hN : X.N[i]? = some x) (hv : Vis X.env.scope x)
    (hd : (x == ("__debug__" : Str)) = false := by decide) (hcd : (x == ("__classdict__" : Str)) = false := by decide)
    (hb : attributeBase (.Name x p) "value" X.env (eval (.Name x p) X.env) = eval (.Name x p) X.env := by rfl) (hs : starEach [.Attribute (.Name x p) "value" pos] X.env = (false, eval (.Attribute (.Name x p) "value" pos) X.env) :: starEach [] X.env := by rfl) :
    PA (X.suite a ((a, oe) :: pn)) [.Attribute (.Name x p) "value" pos] (tIs a dd i n []) :=
  pa_weak (pa_cons (pe_xf (F.xf n hn) (F.no n hn) hz hf (pe_var (X := X.suite a ((a, oe) :: pn)) hN hv hd hcd) hb) pa_nil hs) fun σ H Q ⟨v, h1, h2, q⟩ => ⟨.ref a, h1, rfl, rfl, dd, _, v, rfl, h2, by simp [List.lookup], q⟩
theorem pa_isx {ca : Str → Addr} {b m : Str} {ms : List Str} {ns : List Str} {es : List Expr} {p1 p2 p3 pos : Pos} (F : ExcsF X.K ca b ns) (hn : n ∈ ns) (hm : m ∈ ns) (gm : Gl X m) (mm : X.mg m = some (.ref (ca m))) (gi : Gl X "isinstance") (mi : X.mg "isinstance" = none)
    (hz : Zc (.ref (ca n)) (some dd) oe) (hf : ∃ vs, oe.data = .fields vs) (hN : X.N[i]? = some x) (hv : Vis X.env.scope x) (hr : PA (X.suite a ((a, oe) :: pn)) es (tIs a dd i n ms))
    (hd : (x == ("__debug__" : Str)) = false := by decide) (hcd : (x == ("__classdict__" : Str)) = false := by decide) (hdm : (m == ("__debug__" : Str)) = false := by decide) (hboot : bootBuiltins "isinstance" = some (.builtin "isinstance") := by decide +kernel)
    (h1 : starEach [.Name x p2, .Name m p3] X.env = (false, eval (.Name x p2) X.env) :: starEach [.Name m p3] X.env := by rfl) (h2 : starEach [.Name m p3] X.env = (false, eval (.Name m p3) X.env) :: starEach [] X.env := by rfl)
    (hpl : (backTo pos (starEach [.Name m p3] X.env)).any (·.1) = false := by rfl)
    (hs : starEach (.Call (.Name "isinstance" p1) [.Name x p2, .Name m p3] [] pos :: es) X.env = (false, eval (.Call (.Name "isinstance" p1) [.Name x p2, .Name m p3] [] pos) X.env) :: starEach es X.env := by rfl) :
    PA (X.suite a ((a, oe) :: pn)) (.Call (.Name "isinstance" p1) [.Name x p2, .Name m p3] [] pos :: es) (tIs a dd i n (m :: ms)) :=
  pa_weak (pa_cons (pe_callB (X := X.suite a ((a, oe) :: pn)) (call_isD (F.ec n hn) hz hf) gi mi hboot (pa_cons (pe_var (X := X.suite a ((a, oe) :: pn)) hN hv hd hcd) (pa_cons (pe_glob (X := X.suite a ((a, oe) :: pn)) (v := .ref (ca m)) gm mm rfl hdm) pa_nil h2) h1) (by decide) (by decide) h1 hpl) hr hs) fun σ H Q ⟨v, e1, e2, q⟩ =>
    ⟨.ref a, e1, .ref (ca m), .ref (ca m), decide (n = m), _, rfl, fun u hu => hu, F.is n hn m hm, e2, v, e1, e2, q⟩
end
/-! ### try -/
def tryA (A : Amb) (js : List Nat) (pn : List (Addr × Obj)) (xe : Value → Shared → Prop) (W : WX) (tk : Takes (A.X.tr pn xe) W) (hp : PassesOwn (model A.X.prog A.X.w) A.X.A A.X.env xe) : Amb where
  X := A.X.tr pn xe
  W := W
  tk := tk
  calm := A.calm
  hp := hp
  nd := A.nd
  ca := A.ca
  S := fun i => A.S i ∧ i ∈ js
  lv := A.lv
  room := A.room
  gd := A.gd
/-- what is known behind an exception -/
structure TryC (js : List Nat) (k : Nat) (G Gh : Ctx) (low : CT G → CT Gh) : Prop where
  ok : ∀ (K : Frag) (p : CT G) (L : Lab) (H : Hp) (L' : Lab) (H' : Hp) (o o' : St), Same (rd L H) (rd L' H') → (∀ n, k ≤ n → n ∉ js → o'[n]? = o[n]?) → o'.length = o.length → CR K k G p L H o → CR K k Gh (low p) L' H' o'
section
variable {js : List Nat} {k : Nat} {G Gh : Ctx} {low : CT G → CT Gh}
theorem tc_nil : TryC js k [] [] (fun p => p) := ⟨fun K p L H L' H' o o' s t hl c => by
  show k ≤ o'.length
  rw [hl]
  exact c⟩
theorem tc_any {s : Slot} (h : TryC js (k + 1) G Gh low) : TryC js k (s :: G) (sAny :: Gh) (fun p => ((), low p.2)) := ⟨fun K p L H L' H' o o' s t hl c => ⟨trivial, h.ok K p.2 L H L' H' o o' s (fun n hn => t n (by omega)) hl c.2⟩⟩
theorem tc_val {α : Type} {c : Cod α} (hk : k ∉ js) (h : TryC js (k + 1) G Gh low) : TryC js k (sVal c :: G) (sVal c :: Gh) (fun p => (p.1, low p.2)) := ⟨fun K p L H L' H' o o' s t hl cr => ⟨by
  obtain ⟨v, e, q⟩ := cr.1
  exact ⟨v, by rw [t k (Nat.le_refl _) hk]; exact e, c.mono _ _ _ _ _ s q⟩, h.ok K p.2 L H L' H' o o' s (fun n hn => t n (by omega)) hl cr.2⟩⟩
end
def scalB : PyData → Bool
  | .int _ => true
  | .str s => (PyData.str s).canLay0
  | _ => false
def excOk (ns : List Str) (e : Exn) : Bool := decide (e.cls ∈ ns) && scalB e.val
def tryR {β ρ : Type} (m : Res (Out β ρ)) (h : Exn → Res (Out β ρ)) : Res (Out β ρ) := match m with
  | .exc e => h e
  | .ok x => .ok x
  | .bad => .bad
theorem scal_see {K : Frag} {R R' : Hp} {v : V} {d : PyData} (h : scalB d = true) (q : Dp K R v d) : (cDat 0).see K R' v d := by
  cases d with
  | int z =>
    cases q
    exact ⟨.int z, by simp [PyData.canLay0], by simp [PyData.depth]⟩
  | str z =>
    cases q
    exact ⟨.str z, h, by simp [PyData.depth]⟩
  | _ => cases h
theorem strip_stp {L : Lab} {H H' : Hp} (h : ∀ a, Frm L H a → H' a = H a) : Stp L H (strip L) H' := fun a f => ⟨by
  rcases f.2 with z | ⟨l, z⟩
  · rw [z]; unfold strip; rw [z]
  · rw [z]; exact strip_0 z, h a f⟩
theorem strip_cases {L : Lab} {a : Addr} : strip L a = none ∨ ∃ l, strip L a = some (0, l) ∧ L a = some (0, l) := by
  unfold strip
  cases e : L a with
  | none => exact .inl rfl
  | some y =>
    obtain ⟨k, l⟩ := y
    cases k with
    | zero => exact .inr ⟨l, rfl, rfl⟩
    | succ k => exact .inl rfl
theorem strip_wf {L : Lab} {H H' : Hp} (w : Wf L H) (h : ∀ a, Frm L H a → H' a = H a) : Wf (strip L) H' := ⟨fun a ha => by
  rcases strip_cases (L := L) (a := a) with z | ⟨l, _, z⟩
  · exact absurd z ha
  · have hd := w.dom a (by rw [z]; simp)
    rw [h a ⟨hd, .inr ⟨l, z⟩⟩]
    exact hd, fun a k l e => by
  rcases strip_cases (L := L) (a := a) with z | ⟨l', z, _⟩
  · rw [z] at e; cases e
  · rw [z] at e; cases e⟩
section
variable {A : Amb} {G G1 G' Gh : Ctx} {ρ : Type} {R : Rr ρ}
theorem sx_try {γ : Type} {rc : Cod γ} {val : Str → PyData → γ} {i j : Nat} {js : List Nat} {b n y : Str} {ns : List Str} {body : List Stmt} {disp : Expr} {bp yp ap pos pos' : Pos} {fb : CT G → Res (Out (CT G1) ρ)} {back : CT G1 → CT G'} {low : CT G → CT Gh} {put : CT Gh → γ → CT G'} (tD : Addr → Addr → Str → L2.TE)
    (F : ExcsF A.X.K A.ca b ns) (gb : Gl A.X b) (mb : A.X.mg b = some (.ref (A.ca b))) (hst : A.X.stack = A.X.env :: A.X.outer) (hfr : A.X.env.frame = some A.X.env.locals) (hNi : A.X.N[i]? = some n) (hln : A.X.env.kindOf n = some .local)
    (hSi : A.S i) (hSj : A.S j) (hij : i ≠ j) (hNj : A.X.N[j]? = some y) (hy : Loc A.X.env.scope y) (hfy : A.X.fn y = true ∨ A.X.env.scope.names.lookup y = some .local)
    (hb : ∀ (W : WX) (pn : List (Addr × Obj)) (xe : Value → Shared → Prop) (tk : Takes (A.X.tr pn xe) W) (hp : PassesOwn (model A.X.prog A.X.w) A.X.A A.X.env xe), BX (tryA A js pn xe W tk hp) G body G1 R fb) (sb : SubC G1 G' back)
    (tc : TryC (i :: j :: js) 0 G Gh low) (u : Upd Gh j (sVal rc) G' put)
    (hD : ∀ (a : Addr) (oe : Obj) (dd : Addr) (m : Str) (pn : List (Addr × Obj)), m ∈ ns → Zc (.ref (A.ca m)) (some dd) oe → (∃ vs, oe.data = .fields vs) → PE (A.X.suite a ((a, oe) :: pn)) disp (tD a dd m))
    (hT : ∀ (a dd : Addr) (m : Str) (v : V) (d : PyData) (σ : St) (H : Hp) (L : Lab) (Q : VK), Wf L H → σ[i]? = some (some (.ref a)) → H dd = some (.xd [("value", v)]) → (∀ R, (cDat 0).see A.X.K R v d) → (∀ v' L' H', Ext L H L' H' → Wf L' H' → rc.see A.X.K (rd L' H') v' (val m d) → Q v' H') → tD a dd m σ H Q)
    (hsw : swapsWith disp (some (.Name y yp)) ap.line A.X.env = pure false := by rfl) (hdb : (b == ("__debug__" : Str)) = false := by decide) :
    SX A G (.Try body [.ExceptHandler (some (.Name b bp)) (some n) [.Assign [.Name y yp] disp ap] pos'] [] [] pos) G' R (fun p => tryR (Res.bind (fb p) fun z => .ok (z.map back)) fun e => if excOk ns e = true then .ok (.nx (put (low p) (val e.cls e.val))) else .bad) := by
  let tb : WX → L2.TS := fun W D o H => ∃ (p : CT G) (L : Lab), Wf L H ∧ CR A.X.K 0 G p L H o ∧ (match fb p with
    | .ok (.nx q) => ∀ o' L' H', Stp L H L' H' → Wf L' H' → CR A.X.K 0 G1 q L' H' o' → Keeps (fun i => A.S i ∧ i ∈ js) o o' → D.nx o' H'
    | .ok (.rt r) => ∀ v L' H', Stp L H L' H' → Wf L' H' → R.rel A.X.K L H L' H' v r → D.rt v H'
    | .exc e => ∀ cls d H', RzK A.X.K A.ca L H e cls d H' → ∀ o', (∀ i, ¬ (A.S i ∧ i ∈ js) → o'[i]? = o[i]?) → W cls (some d) o' H'
    | .bad => False)
  let ts : Addr → Value → Option Addr → L2.TS := fun a cls d D σ H => σ.length = A.X.N.length → ∃ (m : Str) (dd : Addr), m ∈ ns ∧ cls = .ref (A.ca m) ∧ d = some dd ∧ tAsg (tD a dd m) (gName j) D σ H
  have hbody : ∀ (W : WX) (pn : List (Addr × Obj)) (xe : Value → Shared → Prop), Takes (A.X.tr pn xe) W → PassesOwn (model A.X.prog A.X.w) A.X.A A.X.env xe → PSs (A.X.tr pn xe) body (tb W) := fun W pn xe tk hp => pss_weak (hb W pn xe tk hp) fun D o H ⟨p, L, w, cr, k⟩ => ⟨p, L, w, cr, by
    cases e : fb p with
    | bad => rw [e] at k; exact k
    | exc ex => rw [e] at k; exact k
    | ok z =>
      rw [e] at k
      cases z with
      | nx q => exact k
      | rt r => exact k⟩
  have hsuite : ∀ (a : Addr) (oe : Obj) (cls : Value) (d : Option Addr) (pn : List (Addr × Obj)), Zc cls d oe → (∃ vs, oe.data = .fields vs) → PSs (A.X.suite a ((a, oe) :: pn)) [.Assign [.Name y yp] disp ap] (ts a cls d) := fun a oe cls d pn hz hf => ⟨fun pins s σ H D I hq => by
    obtain ⟨m, dd, hm, hc, hd, q⟩ := hq I.len
    subst hc hd
    exact (pss_one (ps_set (X := A.X.suite a ((a, oe) :: pn)) A.nd hNj hy (hD a oe dd m pn hm hz hf) hsw hfy)).run pins s σ H D I q⟩
  refine ⟨fun pins s o H D I ⟨p, L, w, cr, k⟩ => (ps_try_as hst hfr A.nd hNi hln ⟨gb, hdb, .inl mb⟩ A.tk hbody hsuite).run pins s o H D I ?_⟩
  have hol : o.length = A.X.N.length := I.len
  have k : Good A (tryR (Res.bind (fb p) fun z => .ok (z.map back)) fun e => if excOk ns e = true then .ok (.nx (put (low p) (val e.cls e.val))) else .bad) L H o (nxP A G' R L H o D) := k
  refine ⟨p, L, w, cr, ?_⟩
  cases e : fb p with
  | bad => rw [e] at k; exact k
  | ok z =>
    rw [e] at k
    cases z with
    | nx q =>
      intro o' L' H' s' w' c' kp
      obtain ⟨L2, h1, h2⟩ := sb.ok _ _ _ _ _ _ w' c'
      exact (show nxP A G' R L H o D (.nx (back q)) from k) o' L2 H' (s'.trans (stp_of_frz h1)) (wf_of_frz w' h1) h2 ⟨fun n hn => kp.at_ n fun z => hn z.1, kp.len⟩
    | rt r => exact fun v L' H' s' w' rl => (show nxP A G' R L H o D (.rt r) from k) v L' H' s' w' rl
  | exc ex =>
    rw [e] at k
    have k : Good A (if excOk ns ex = true then Res.ok (Out.nx (put (low p) (val ex.cls ex.val))) else .bad) L H o (nxP A G' R L H o D) := k
    by_cases hx : excOk ns ex = true
    · rw [if_pos hx] at k
      obtain ⟨hx1, hx2⟩ := Bool.and_eq_true_iff.mp hx
      have hmem : ex.cls ∈ ns := of_decide_eq_true hx1
      intro cls d H' ⟨hc, hfm, hnd, v, hd, R2, r1, r2, r3, hdp⟩ o' ho'
      subst hc
      refine ⟨true, F.te _ hmem, fun _ a ha => ?_, fun z => nomatch z⟩
      intro hlen
      refine ⟨ex.cls, d, hmem, rfl, rfl, ?_⟩
      have hlen' : o'.length = A.X.N.length := by rwa [List.length_set] at hlen
      have hiN : i < A.X.N.length := (List.getElem?_eq_some_iff.mp hNi).1
      have s1 : Stp L H (strip L) H' := strip_stp hfm
      have w1 : Wf (strip L) H' := strip_wf w hfm
      refine hT a d ex.cls v ex.val (o'.set i (some (.ref a))) H' (strip L) _ w1 (List.getElem?_set_self (by omega)) hd (fun R' => scal_see hx2 hdp) fun v' L' H'' e1 w2 hv => ?_
      have sm : Same (rd L H) (rd L' H'') := fun b ob q => e1.stp.rd b ob (s1.rd b ob q)
      have c0 : CR A.X.K 0 Gh (low p) L' H'' (o'.set i none) := tc.ok _ _ _ _ _ _ _ _ sm (fun n _ hn => by
        have hni : i ≠ n := fun z => hn (by rw [z]; exact List.mem_cons_self)
        rw [List.getElem?_set_ne hni]
        exact ho' n fun z => hn (List.mem_cons_of_mem _ (List.mem_cons_of_mem _ z.2))) (by rw [List.length_set, hlen', hol]) cr
      have c1 := u.ok _ 0 _ (val ex.cls ex.val) v' _ _ _ c0 ⟨v', rfl, hv⟩
      rw [Nat.zero_add] at c1
      have hcomm : ((o'.set i (some (.ref a))).set j (some v')).set i none = (o'.set i none).set j (some v') := by
        rw [List.set_comm _ _ hij.symm, List.set_set]
      refine (show nxP A G' R L H o D (.nx _) from k) _ L' H'' (s1.trans e1.stp) w2 ?_ ⟨fun n hn => ?_, by rw [List.length_set, List.length_set, List.length_set, hlen', hol]⟩
      · rw [hcomm]; exact c1
      · have h1 : i ≠ n := fun z => hn (by rw [← z]; exact hSi)
        have h2 : j ≠ n := fun z => hn (by rw [← z]; exact hSj)
        rw [List.getElem?_set_ne h1, List.getElem?_set_ne h2, List.getElem?_set_ne h1]
        exact ho' n fun z => hn z.1
    · rw [if_neg hx] at k
      exact k.elim
def PaE (A : Amb) (i : Nat) (ns : List Str) (es : List Expr) (ms : List Str) : Prop := ∀ (a : Addr) (oe : Obj) (dd : Addr) (m : Str) (pn : List (Addr × Obj)), m ∈ ns → Zc (.ref (A.ca m)) (some dd) oe → (∃ vs, oe.data = .fields vs) → PA (A.X.suite a ((a, oe) :: pn)) es (tIs a dd i m ms)
theorem pae_v {i : Nat} {x b : Str} {ns : List Str} {p pos : Pos} (F : ExcsF A.X.K A.ca b ns) (hN : A.X.N[i]? = some x) (hv : Vis A.X.env.scope x)
    (hd : (x == ("__debug__" : Str)) = false := by decide) (hcd : (x == ("__classdict__" : Str)) = false := by decide)
    (hb : attributeBase (.Name x p) "value" A.X.env (eval (.Name x p) A.X.env) = eval (.Name x p) A.X.env := by rfl) (hs : starEach [.Attribute (.Name x p) "value" pos] A.X.env = (false, eval (.Attribute (.Name x p) "value" pos) A.X.env) :: starEach [] A.X.env := by rfl) :
    PaE A i ns [.Attribute (.Name x p) "value" pos] [] := fun a oe dd m pn hm hz hf => pa_val F hm hz hf hN hv hd hcd hb hs
theorem pae_is {i : Nat} {x b m : Str} {ms : List Str} {ns : List Str} {es : List Expr} {p1 p2 p3 pos : Pos} (F : ExcsF A.X.K A.ca b ns) (hm : m ∈ ns) (gm : Gl A.X m) (mm : A.X.mg m = some (.ref (A.ca m))) (gi : Gl A.X "isinstance") (mi : A.X.mg "isinstance" = none)
    (hN : A.X.N[i]? = some x) (hv : Vis A.X.env.scope x) (hr : PaE A i ns es ms)
    (hd : (x == ("__debug__" : Str)) = false := by decide) (hcd : (x == ("__classdict__" : Str)) = false := by decide) (hdm : (m == ("__debug__" : Str)) = false := by decide) (hboot : bootBuiltins "isinstance" = some (.builtin "isinstance") := by decide +kernel)
    (h1 : starEach [.Name x p2, .Name m p3] A.X.env = (false, eval (.Name x p2) A.X.env) :: starEach [.Name m p3] A.X.env := by rfl) (h2 : starEach [.Name m p3] A.X.env = (false, eval (.Name m p3) A.X.env) :: starEach [] A.X.env := by rfl)
    (hpl : (backTo pos (starEach [.Name m p3] A.X.env)).any (·.1) = false := by rfl)
    (hs : starEach (.Call (.Name "isinstance" p1) [.Name x p2, .Name m p3] [] pos :: es) A.X.env = (false, eval (.Call (.Name "isinstance" p1) [.Name x p2, .Name m p3] [] pos) A.X.env) :: starEach es A.X.env := by rfl) :
    PaE A i ns (.Call (.Name "isinstance" p1) [.Name x p2, .Name m p3] [] pos :: es) (m :: ms) := fun a oe dd n pn hn hz hf => pa_isx F hn hm gm mm gi mi hz hf hN hv (hr a oe dd n pn hn hz hf) hd hcd hdm hboot h1 h2 hpl hs
theorem sx_tryL {i j : Nat} {js : List Nat} {b n y : Str} {ns ms : List Str} {body : List Stmt} {es : List Expr} {lp bp yp ap pos pos' : Pos} {fb : CT G → Res (Out (CT G1) ρ)} {back : CT G1 → CT G'} {low : CT G → CT Gh} {put : CT Gh → Option (IsT ms) → CT G'}
    (F : ExcsF A.X.K A.ca b ns) (gb : Gl A.X b) (mb : A.X.mg b = some (.ref (A.ca b))) (hst : A.X.stack = A.X.env :: A.X.outer) (hfr : A.X.env.frame = some A.X.env.locals) (hNi : A.X.N[i]? = some n) (hln : A.X.env.kindOf n = some .local)
    (hSi : A.S i) (hSj : A.S j) (hij : i ≠ j) (hNj : A.X.N[j]? = some y) (hy : Loc A.X.env.scope y) (hfy : A.X.fn y = true ∨ A.X.env.scope.names.lookup y = some .local)
    (hb : ∀ (W : WX) (pn : List (Addr × Obj)) (xe : Value → Shared → Prop) (tk : Takes (A.X.tr pn xe) W) (hp : PassesOwn (model A.X.prog A.X.w) A.X.A A.X.env xe), BX (tryA A js pn xe W tk hp) G body G1 R fb) (sb : SubC G1 G' back)
    (tc : TryC (i :: j :: js) 0 G Gh low) (u : Upd Gh j (sVal (cO (cH (isA ms)))) G' put) (hp : PaE A i ns es ms) (hlm : ms.length ≤ 1000 := by decide)
    (hsw : swapsWith (.List es lp) (some (.Name y yp)) ap.line A.X.env = pure false := by rfl) (hdb : (b == ("__debug__" : Str)) = false := by decide) :
    SX A G (.Try body [.ExceptHandler (some (.Name b bp)) (some n) [.Assign [.Name y yp] (.List es lp) ap] pos'] [] [] pos) G' R (fun p => tryR (Res.bind (fb p) fun z => .ok (z.map back)) fun e => if excOk ns e = true then .ok (.nx (put (low p) (some (isV e.cls e.val ms)))) else .bad) :=
  sx_try (rc := cO (cH (isA ms))) (val := fun m d => some (isV m d ms)) (fun a dd m => tLst (tIs a dd i m ms)) F gb mb hst hfr hNi hln hSi hSj hij hNj hy hfy hb sb tc u (fun a oe dd m pn hm hz hf => pe_lst (hp a oe dd m pn hm hz hf)) (fun a dd m v d σ H L Q w h1 h2 h3 q => ⟨v, h1, h2, by
    have := line_eq
    rw [isL_len]; omega, fun a2 ha => by
    obtain ⟨e1, e2⟩ := ext_val (o := .lst (isL m v ms)) w ha
    exact q _ _ _ e1 e2 ⟨a2, _, rfl, SqL.of (rd_mk setL_same upd_same), isL_see (h3 _)⟩⟩) hsw hdb
end
end AC
set_option Elab.async false
set_option linter.all false
set_option maxRecDepth 100000
/-! TL49: repr of what may be None. -/
namespace AC
open PySem L2 PyProof
section
variable {A : Amb}
theorem call_reprN : CallR A.X (.builtin "repr") (fun xs H Q => xs = [.non] ∧ Q (.str "None") H) := by
  intro pins s o H xs us Q I rx ⟨ex, q⟩
  subst ex
  cases rx with
  | cons r t =>
    cases t
    cases r
    exact PySem.P.repr_of_none ⟨.str "None", H, I.tok _, ⟨_, rfl⟩, q⟩
theorem call_or {X : Cx} {v : Value} {r1 r2 : List V → Hp → VK → Prop} (h1 : CallR X v r1) (h2 : CallR X v r2) : CallR X v (fun xs H Q => r1 xs H Q ∨ r2 xs H Q) := by
  intro pins s o H xs us Q I rx h
  rcases h with h | h
  · exact h1 pins s o H xs us Q I rx h
  · exact h2 pins s o H xs us Q I rx h
theorem ct_reprO {α : Type} {c : Cod α} {t : α → PyData} {n : Nat} (h : DC c t n) (hn : n ≤ 64) (hr : ∀ K R v x, c.see K R v x → ∃ a, v = .ref a) : CalT A (.builtin "repr") (aOne (cO c)) (fun x => reprO (tO t x)) (rV cW) := cal_of (call_or call_reprD call_reprN) fun L H vs x z Q w ⟨v, e, h1⟩ h2 q => by
  subst e
  cases x with
  | none =>
    have h1 : v = .non := h1
    subst h1
    refine .inr ⟨rfl, q _ ?_⟩
    unfold reprO at h2
    split at h2
    · cases h2
      show V.str _ = V.str _
      simp only [tO, PyData.shown]
    · cases h2
  | some y =>
    have h1 : c.see _ _ v y := h1
    obtain ⟨a, rfl⟩ := hr _ _ _ _ h1
    obtain ⟨d1, d2, d3⟩ := h _ _ _ _ h1
    unfold reprO at h2
    split at h2
    · rename_i hc
      cases h2
      exact .inl ⟨a, t y, rfl, dp_same rd_sub d1, hc.1, hc.2.1, hc.2.2, by omega, q _ rfl⟩
    · cases h2
end
end AC
set_option Elab.async false
set_option linter.all false
set_option maxRecDepth 100000
set_option maxHeartbeats 1000000
/-! TL50: lists of instances compared by their own ==, where all are equal. -/
namespace AC
open PySem L2 PyProof
end AC
set_option Elab.async false
set_option linter.all false
set_option maxRecDepth 100000
/-! TL51: a value of which nothing is known. -/
namespace AC
open PySem L2 PyProof
def cX : Cod Unit := ⟨fun _ _ _ _ => True, fun _ _ _ _ _ _ h => h⟩
theorem sub_any {α : Type} {c : Cod α} : Sub c cX (fun _ => ()) := fun _ _ _ _ _ => trivial
end AC
set_option Elab.async false
set_option linter.all false
set_option maxRecDepth 100000
set_option maxHeartbeats 1000000
/-! TL52: list(d.items()). -/
namespace AC
open PySem L2 PyProof PySem.W
end AC
set_option Elab.async false
set_option linter.all false
set_option maxRecDepth 100000
set_option maxHeartbeats 1000000
/-! TL53: d.get(k). -/
namespace AC
open PySem L2 PyProof PySem.W
end AC
set_option Elab.async false
set_option linter.all false
set_option maxRecDepth 100000
set_option maxHeartbeats 1000000
/-! TL54: comprehensions of things of one's own. -/
namespace AC
open PySem L2 PyProof
/-- the things of one's own gathered so far, none of them the list itself -/
def RAcc {α : Type} (oc : OCod α) (K : Frag) (L : Lab) (H : Hp) (L' : Lab) (H' : Hp) (D : Addr) (vs : List V) (xs : List α) : Prop :=
  ∃ M : Addr → Option (List Nat), (∀ a m, M a = some m → L' a = none ∧ NonTup m (H' a) ∧ ¬ Frm L H a ∧ 2 ≤ m.length) ∧ M D = none ∧ vs.length = xs.length ∧ ∀ i v x, vs[i]? = some v → xs[i]? = some x → oc.own K (rd L' H') M H' [0, i] v x
theorem RAcc.stp {α : Type} {oc : OCod α} {K : Frag} {L L1 L2 : Lab} {H H1 H2 : Hp} {D : Addr} {vs : List V} {xs : List α} (r : RAcc oc K L H L1 H1 D vs xs) (s : Stp L1 H1 L2 H2) : RAcc oc K L H L2 H2 D vs xs := by
  obtain ⟨M, m1, mD, m2, m3⟩ := r
  have f : ∀ a m, M a = some m → Frm L1 H1 a := fun a m e => ⟨(m1 a m e).2.1.ne, .inl (m1 a m e).1⟩
  refine ⟨M, fun a m e => ?_, mD, m2, fun i v x q1 q2 => oc.mono _ _ _ _ _ _ _ _ _ _ s.rd (fun a m e => ⟨e, (s a (f a m e)).2⟩) (m3 i v x q1 q2)⟩
  obtain ⟨q1, q2, q3, q4⟩ := m1 a m e
  obtain ⟨e1, e2⟩ := s a (f a m e)
  exact ⟨e1.trans q1, by rw [e2]; exact q2, q3, q4⟩
end AC
set_option Elab.async false
set_option linter.all false
set_option maxRecDepth 100000
/-! TL55: len of a dict. -/
namespace AC
open PySem L2 PyProof
end AC
set_option Elab.async false
set_option linter.all false
set_option maxRecDepth 100000
/-! TL56: repr of a bool. -/
namespace AC
open PySem L2 PyProof
end AC
set_option Elab.async false
set_option linter.all false
set_option maxRecDepth 100000
/-! TL57: for n, x in enumerate(things of one's own). -/
namespace AC
open PySem L2 PyProof
end AC
set_option Elab.async false
set_option linter.all false
set_option maxRecDepth 100000
/-! TL58: dicts whose keys are tuples, nested: what they are, look-ups, stores. -/
namespace AC
open PySem L2 PyProof
/-! ### keys -/
mutual
inductive Nd (K : PySem.W.Frag) (H : Hp) : V → NestedKey → Prop
  | non : Nd K H .non .none
  | bl (b : Bool) : Nd K H (.bl b) (.num (if b = true then 1 else 0))
  | int (i : Int) : Nd K H (.int i) (.num i)
  | str (x : Str) : Nd K H (.str x) (.text x)
  | tup {a : Addr} {xs : List V} {ks : List NestedKey} : SqT K H a xs → NdAll K H xs ks → Nd K H (.ref a) (.tup ks)
inductive NdAll (K : PySem.W.Frag) (H : Hp) : List V → List NestedKey → Prop
  | nil : NdAll K H [] []
  | cons {v : V} {vs : List V} {k : NestedKey} {ks : List NestedKey} : Nd K H v k → NdAll K H vs ks → NdAll K H (v :: vs) (k :: ks)
end
section
variable {X : Cx} {pins : List (Addr × Obj)} {σ : St} {H : Hp} {s : Shared}
mutual
theorem Nd.is (I : Inv X pins σ H s) : ∀ (k : NestedKey) (v : V) (u : Value), Nd X.K H v k → RelV v u → NestedIs s.heap k u
  | .none, _, _, h, r => by
    cases h
    cases r
    exact .none
  | .num i, _, _, h, r => by
    cases h with
    | bl b => cases r; exact .bool rfl
    | int => obtain ⟨t, rfl⟩ := r; exact .int i t
  | .text x, _, _, h, r => by
    cases h
    obtain ⟨t, rfl⟩ := r
    exact .text x t
  | .tup ks, _, _, h, r => by
    cases h with
    | tup hs ha =>
      cases r
      obtain ⟨its, rv, ⟨o, ho, hc, n, hd⟩, _⟩ := I.tuple hs
      exact .tup ho hc hd (NdAll.is I ks _ _ ha rv)
theorem NdAll.is (I : Inv X pins σ H s) : ∀ (ks : List NestedKey) (vs : List V) (us : List Value), NdAll X.K H vs ks → Vals vs us → NestedAll s.heap ks us
  | [], _, _, h, r => by
    cases h
    cases r
    exact .nil
  | k :: ks, _, _, h, r => by
    cases h with
    | cons h1 h2 =>
      cases r with
      | cons r1 r2 => exact .cons (Nd.is I k _ _ h1 r1) (NdAll.is I ks _ _ h2 r2)
end
end
theorem sqt_same {K : PySem.W.Frag} {R R' : Hp} (s : Same R R') {a : Addr} {xs : List V} (h : SqT K R a xs) : SqT K R' a xs := by
  rcases h with (h | ⟨o, h⟩) | h
  · exact .inl (.inl (s _ _ h))
  · exact .inl (.inr ⟨o, s _ _ h⟩)
  · exact .inr h
mutual
theorem Nd.same {K : PySem.W.Frag} {R R' : Hp} (s : Same R R') : ∀ (k : NestedKey) (v : V), Nd K R v k → Nd K R' v k
  | .none, _, h => by cases h; exact .non
  | .num i, _, h => by
    cases h with
    | bl b => exact .bl b
    | int => exact .int i
  | .text x, _, h => by cases h; exact .str x
  | .tup ks, _, h => by
    cases h with
    | tup hs ha => exact .tup (sqt_same s hs) (NdAll.same s ks _ ha)
theorem NdAll.same {K : PySem.W.Frag} {R R' : Hp} (s : Same R R') : ∀ (ks : List NestedKey) (vs : List V), NdAll K R vs ks → NdAll K R' vs ks
  | [], _, h => by cases h; exact .nil
  | k :: ks, _, h => by
    cases h with
    | cons h1 h2 => exact .cons (Nd.same s k _ h1) (NdAll.same s ks _ h2)
end
/-! unlike values are unlike keys -/
def Inj {α β : Type} (t : α → β) : Prop := ∀ a b, t a = t b → a = b
structure NKC (κ : Type) where
  c : Cod κ
  key : κ → NestedKey
  inj : Inj key
  sees : ∀ K R v x, c.see K R v x → (∃ q, v = .ref q) ∧ Nd K R v (key x) ∧ (key x).depth ≤ 8
/-! ### the dict -/
abbrev EnG := NestedKey × Addr × V
def RG (e : EnG) (q : NestedKey × Addr × Value) : Prop := e.1 = q.1 ∧ e.2.1 = q.2.1 ∧ RelV e.2.2 q.2.2
structure DNo (w : World) (o : Obj) (es : List EnG) : Prop where
  len : es.length ≤ sizeLine
  ex : ∃ (xs : List (NestedKey × Addr × Value)) (raw : Array DictEntry) (ep : Nat), o.ExactDict ∧ o.data = .dict raw ep ∧ raw.toList = xs.map (fun x => ⟨x.1.hash w, .ref x.2.1, x.2.2⟩) ∧ (xs.map (·.1)).Nodup ∧ Paired RG es xs
abbrev exG (a : Addr) (o : Obj) : HO := .ext fun h => h.get? a = some o
def EntG {κ α : Type} (kc : NKC κ) (c : Cod α) (K : Frag) (R : Hp) (e : EnG) (x : κ × α) : Prop := e.1 = kc.key x.1 ∧ kc.c.see K R (.ref e.2.1) x.1 ∧ c.see K R e.2.2 x.2
theorem EntG.mono {κ α : Type} {kc : NKC κ} {c : Cod α} {K : Frag} {R R' : Hp} (s : Same R R') {e : EnG} {x : κ × α} (h : EntG kc c K R e x) : EntG kc c K R' e x := ⟨h.1, kc.c.mono _ _ _ _ _ s h.2.1, c.mono _ _ _ _ _ s h.2.2⟩
section
variable {X : Cx} {pins : List (Addr × Obj)} {σ : St} {H : Hp} {s : Shared} {a : Addr} {o : Obj} {es : List EnG}
theorem gd_of (I : Inv X pins σ H s) (h : H a = some (exG a o)) (d : DNo X.w o es) (hk : ∀ e ∈ es, Nd X.K H (.ref e.2.1) e.1 ∧ e.1.depth ≤ 8) : ∃ xs, s.heap.DictOfH (nestedKind X.prog X.w) a xs ∧ Paired RG es xs := by
  have ho : s.heap.get? a = some o := (show ObjOk X.prog X.w H s.heap a (exG a o) from I.hok a _ h).1
  obtain ⟨xs, raw, ep, h1, h2, h3, h4, h5⟩ := d.ex
  refine ⟨xs, ⟨o, raw, ep, ho, h1, h2, h3, fun x hx => ?_, h4⟩, h5⟩
  obtain ⟨i, hi⟩ := List.mem_iff_getElem?.mp hx
  obtain ⟨e, he, r⟩ := paired_get h5 hi
  obtain ⟨q1, q2⟩ := hk e (List.mem_of_getElem? he)
  rw [← r.1, ← r.2.1]
  exact ⟨Nd.is I _ _ _ q1 rfl, q2⟩
end
end AC
set_option Elab.async false
set_option linter.all false
set_option maxRecDepth 100000
/-! TL59: dicts whose keys are tuples: new ones, displays of one pair, look-ups, stores, walks. -/
namespace L2
open PySem PySem.W PyProof AC
structure GAt (X : Cx) (H : Hp) (a : Addr) (ob : Obj) (es : List EnG) : Prop where
  ns : (a == sysModules) = false
  at_ : H a = some (exG a ob)
  d : DNo X.w ob es
  ks : ∀ e ∈ es, Nd X.K H (.ref e.2.1) e.1 ∧ e.1.depth ≤ 8
def KAt (X : Cx) (H : Hp) (y : V) (q : Addr) (k : NestedKey) : Prop := y = .ref q ∧ Nd X.K H y k ∧ k.depth ≤ 8
section
variable {X : Cx} {pins : List (Addr × Obj)} {σ : St} {H : Hp} {s : Shared} {a : Addr} {o : Obj} {es : List EnG}
theorem GAt.dict (I : Inv X pins σ H s) (g : GAt X H a o es) : ∃ xs, s.heap.DictOfH (nestedKind X.prog X.w) a xs ∧ Paired RG es xs := gd_of I g.at_ g.d g.ks
theorem KAt.is {y : V} {q : Addr} {k : NestedKey} (I : Inv X pins σ H s) (h : KAt X H y q k) : (nestedKind X.prog X.w).is s.heap k q := by
  obtain ⟨rfl, h1, h2⟩ := h
  exact ⟨Nd.is I _ _ _ h1 rfl, h2⟩
end
/-! ### walks -/
end L2
set_option Elab.async false
set_option linter.all false
set_option maxRecDepth 100000
/-! TL60: dicts whose keys are tuples, typed. -/
namespace L2
open PySem PySem.W PyProof AC PySem.Spec PyProof.Rows
end L2
namespace AC
open PySem L2 PyProof
end AC
set_option Elab.async false
set_option linter.all false
set_option maxRecDepth 100000
/-! TL61: displays with stars. -/
namespace AC
open PySem L2 PyProof
end AC
namespace AC
/-- a world, where any will do -/
def w0 : PySem.World := ⟨fun _ _ => 0, { strHash := fun _ => 0, shareClass := fun _ => 0, mergeTok := id, idOf := fun _ => 0, idOfShared := fun _ _ => 0, followText := fun _ => false, idOfImm := fun _ => 0 }⟩
end AC
set_option Elab.async false
set_option linter.all false
set_option maxRecDepth 100000
set_option maxHeartbeats 1000000
/-! TL62: sorted(d), d a dict with tuples as keys; what is copied or moved of such a dict. -/
namespace L2
open PySem PySem.Spec PySem.W PyProof.Rows AC
end L2
namespace AC
open PySem L2 PyProof PySem.W
end AC
set_option Elab.async false
set_option linter.all false
set_option maxRecDepth 100000
/-! TL63: lists and tuples so many times; shifts. -/
namespace AC
open PySem L2 PyProof
end AC
set_option Elab.async false
set_option linter.all false
set_option maxRecDepth 100000
/-! TL64: loops over own tuples, both parts of which are changed in the body. -/
namespace AC
open PySem L2 PyProof
end AC
set_option Elab.async false
set_option linter.all false
set_option maxRecDepth 100000
set_option maxHeartbeats 1000000
/-! TL65: dict comprehensions without a test whose keys are tuples. -/
namespace L2
open PySem PySem.W PySem.Spec PyProof PyProof.Rows AC
end L2
set_option Elab.async false
set_option linter.all false
set_option maxRecDepth 100000
set_option maxHeartbeats 1000000
/-! TL66: {k: v for target in xs}, the keys tuples. -/
namespace AC
open PySem L2 PyProof PySem.W
end AC
set_option Elab.async false
set_option linter.all false
set_option maxRecDepth 100000
/-! TL67: data compared by their order. -/
namespace L2
open PySem PySem.W PyProof
end L2
namespace AC
open PySem PySem.W L2 PyProof
end AC
set_option Elab.async false
set_option linter.all false
set_option maxRecDepth 100000
set_option maxHeartbeats 2000000
/-! TL68: data with shown texts within, its repr; try, except X as e: y = ["word", e.value]. -/
namespace AC
open PySem L2 PyProof
end AC
set_option Elab.async false
set_option linter.all false
set_option maxRecDepth 100000
set_option maxHeartbeats 2000000
/-! TL69: trees of tuples, ints and None (NestedKey); parts read as something; attributes of an instance under way. -/
namespace AC
open PySem L2 PyProof
mutual
inductive Tr (K : Frag) (H : Hp) : V → NestedKey → Prop
  | non : Tr K H .non .none
  | int (i : Int) : Tr K H (.int i) (.num i)
  | tup {a : Addr} {xs : List V} {ks : List NestedKey} : SeeT K H a xs → xs.length ≤ sizeLine → TrAll K H xs ks → Tr K H (.ref a) (.tup ks)
inductive TrAll (K : Frag) (H : Hp) : List V → List NestedKey → Prop
  | nil : TrAll K H [] []
  | cons {v : V} {vs : List V} {k : NestedKey} {ks : List NestedKey} : Tr K H v k → TrAll K H vs ks → TrAll K H (v :: vs) (k :: ks)
end
mutual
theorem Tr.same {K : Frag} {R R' : Hp} (s : Same R R') : ∀ (k : NestedKey) (v : V), Tr K R v k → Tr K R' v k
  | .none, _, h => by cases h; exact .non
  | .num i, _, h => by cases h; exact .int i
  | .text x, _, h => by cases h
  | .tup ks, _, h => by
    cases h with
    | tup hs hl ha => exact .tup (hs.same s) hl (TrAll.same s ks _ ha)
theorem TrAll.same {K : Frag} {R R' : Hp} (s : Same R R') : ∀ (ks : List NestedKey) (vs : List V), TrAll K R vs ks → TrAll K R' vs ks
  | [], _, h => by cases h; exact .nil
  | k :: ks, _, h => by
    cases h with
    | cons h1 h2 => exact .cons (Tr.same s k _ h1) (TrAll.same s ks _ h2)
end
mutual
theorem Tr.nd {K : Frag} {R : Hp} : ∀ (k : NestedKey) (v : V), Tr K R v k → Nd K R v k
  | .none, _, h => by cases h; exact .non
  | .num i, _, h => by cases h; exact .int i
  | .text x, _, h => by cases h
  | .tup ks, _, h => by
    cases h with
    | tup hs hl ha => exact .tup hs.sq (TrAll.nd ks _ ha)
theorem TrAll.nd {K : Frag} {R : Hp} : ∀ (ks : List NestedKey) (vs : List V), TrAll K R vs ks → NdAll K R vs ks
  | [], _, h => by cases h; exact .nil
  | k :: ks, _, h => by
    cases h with
    | cons h1 h2 => exact .cons (Tr.nd k _ h1) (TrAll.nd ks _ h2)
end
/-! a tree as data -/
def TA {α : Type} (as : ArgC α) (t : α → List NestedKey) (n : Nat) : Prop := ∀ K R vs x, as.see K R vs x → TrAll K R vs (t x) ∧ NestedKey.depthAll (t x) ≤ n
/-! a value read as something, where it is that -/
end AC
set_option Elab.async false
set_option linter.all false
set_option maxRecDepth 100000
set_option maxHeartbeats 2000000
/-! TL70: repr of what holds dicts (with int or text keys). -/
namespace AC
open PySem L2 PyProof
/-! codecs with dicts -/
end AC
set_option Elab.async false
set_option linter.all false
set_option maxRecDepth 100000
set_option maxHeartbeats 2000000
/-! TL71: len(set(a list of ints)), data compared by >. -/
namespace AC
open PySem L2 PyProof PyProof.Rows PySem.Spec
end AC
namespace L2
open PySem PySem.W PyProof
end L2
namespace AC
open PySem PySem.W L2 PyProof
end AC
set_option Elab.async false
set_option linter.all false
set_option maxRecDepth 100000
set_option maxHeartbeats 1000000
/-! TL72: x[e] by the class's own __getitem__. -/
namespace AC
open PySem L2 PyProof
section
variable {A : Amb} {G : Ctx}
/-- the class has a __getitem__ of its own, a plain def -/
structure GetF (K : Frag) (C : Addr) : Prop where
  ex : ∃ g, PySem.W.findIn K (.ref C) "__getitem__" = some (some (.ref g)) ∧ PySem.W.fnIn K g = true
def getFB (K : Frag) (C : Addr) : Bool := match PySem.W.findIn K (.ref C) "__getitem__" with
  | some (some (.ref g)) => PySem.W.fnIn K g
  | _ => false
theorem getF_ok {K : Frag} {C : Addr} (c : getFB K C = true) : GetF K C := by
  unfold getFB at c
  split at c
  · rename_i g e
    exact ⟨g, e, c⟩
  · cases c
def SubSl (e : Expr) : Prop := ∀ o i, subscripted e true o i = runValue (.builtin "lifetime.subscript" ⟨[o, i], []⟩)
theorem ex_getI {α β γ : Type} {c : Cod α} {fc : FldC γ} {r : Rt β} {F : γ × α → Res β} {k : Nat} {C : Addr} {ps : List Str} {pos : Pos} {ob e : Expr} {f : CT G → Res (γ × CT G)} {fa : CT G → Res (α × CT G)} (D : MetA A k C "__getitem__" ps (spP A.X.K A.ca (aCons (cIns C fc) (aOne c)) r F)) (gf : GetF A.X.K C) (hk : k + 1 ≤ A.lv) (hr : RtOk r)
    (ho : EX A G ob (rV (cIns C fc)) f) (ha : EX A G e (rV c) fa) (hs : SubSl e) :
    EX A G (.Subscript ob e pos) r (fun p => Res.bind (f p) fun y => Res.bind (fa y.2) fun z => Res.bind (F (y.1, z.1)) fun u => .ok (u, z.2)) := by
  obtain ⟨g, fd, F1, hm, hb⟩ := D.ex
  have hfi : PySem.W.fnIn A.X.K g = true := by
    obtain ⟨g', e, h⟩ := gf.ex
    rw [hm.at_] at e
    cases e
    exact h
  refine ⟨fun pins s o H Q I ⟨p, L, w, cr, q⟩ => ?_⟩
  have hR : tE A G (rV (cIns C fc)) f o H fun x H1 => tE A G (rV c) fa o H1 fun y H2 => ∃ a dx fs, x = .ref a ∧ H2 a = some (.ins C dx fs) ∧ spP A.X.K A.ca (aCons (cIns C fc) (aOne c)) r F [.ref a, y] H2 Q (WE A.W o) :=
    run1 w cr q fun x p1 v L1 H1 s1 w1 c1 r1 g1 => by
      have r0 := r1
      obtain ⟨a, dx, fs, e1, h1, h2⟩ := r1
      subst e1
      refine ⟨p1, L1, w1, c1, g1.bind.imp fun z _ gz v2 L2 H2 s2 w2 c2 h3 => ⟨a, dx, fs, rfl, rd_sub _ _ (s2.rd _ _ h1), ?_⟩⟩
      exact sp_end (as := aCons (cIns C fc) (aOne c)) (F := F) (y := (x, z.1)) hr s2 (s1.trans s2) w2 c2 ⟨.ref a, [v2], rfl, (cIns C fc).mono _ _ _ _ _ s2.rd r0, v2, rfl, h3⟩ gz
  refine PyProof.Rows.Subscript_ (binT ho ha I (R := fun x y H2 => ∃ a dx fs, x = .ref a ∧ H2 a = some (.ins C dx fs) ∧ spP A.X.K A.ca (aCons (cIns C fc) (aOne c)) r F [.ref a, y] H2 Q (WE A.W o)) hR fun v u s2 x y H2 I2 rx ry q => ?_)
  obtain ⟨a, dx, fs, ex, ea, q⟩ := q
  subst ex
  obtain rfl : v = Value.ref a := rx
  obtain ⟨mA, O, _⟩ := ins_get I2.hok ea
  obtain ⟨od, J, _⟩ := O.look
  obtain ⟨m, hF⟩ := I2.fr
  refine PySem.W.sub_K hF I2.ok.mod.kin J hm.at_ hfi hm.fn ?_ (hs _ _)
  have hl : [Value.ref a, u].length = ps.length := F1.len _ _ _ _ q
  have bd := hb s2 [.ref a, u] I2.kIn (by rw [List.append_nil]; exact hl)
  rw [List.append_nil] at bd
  refine wpAny_call (codeAny_mono (F1.go A.X.A.in1 A.X.stack s2 H2 ⟨[.ref a, u], []⟩ [.ref a, u] [.ref a, y] Q _ A.gd (A.room.mono hk).in1 I2.env0.in1 bd (.cons rfl (.cons ry .nil)) q) fun y s' hq => ?_)
  rcases y with e | fl
  · exact passAt A.tk o pins H2 s2 e s' I2 hq
  · rcases fl with _ | _ | _ | u
    · exact False.elim hq
    · exact False.elim hq
    · exact False.elim hq
    · exact I2.after hq
end
end AC
set_option Elab.async false
set_option linter.all false
set_option maxRecDepth 100000
set_option maxHeartbeats 1000000
/-! TL73: tuples put together; the greatest one of a list. -/
namespace AC
open PySem L2 PyProof
end AC
set_option Elab.async false
set_option linter.all false
set_option maxRecDepth 100000
set_option maxHeartbeats 1000000
/-! TL74: places in own lists with unlike parts; own things told more weakly. -/
namespace AC
open PySem L2 PyProof
section
variable {A : Amb} {G G' : Ctx}
/-- told more weakly -/
def OSub {α β : Type} (oc : OCod α) (od : OCod β) (f : α → β) : Prop := ∀ K R M H l v x, oc.own K R M H l v x → od.own K R M H l v (f x)
theorem os_l {α β : Type} {c : Cod α} {d : Cod β} {f : α → β} (s : Sub c d f) : OSub (oL c) (oL d) (List.map f) := fun K R M H l v x ⟨p, vs, e, h1, h2, h3, h4⟩ => ⟨p, vs, e, h1, h2, h3, paired_iff_map (fun _ _ q => s _ _ _ _ q) h4⟩
theorem sc_own {α β : Type} {P : V → Prop} {oc : OCod α} {od : OCod β} {f : α → β} {g : CT G → CT G'} (s : OSub oc od f) (h : SubC G G' g) : SubC (sOwn P oc :: G) (sOwn P od :: G') (fun p => (f p.1, g p.2)) := ⟨fun K k p L H o w c => by
  obtain ⟨⟨v, hP, ev, ho⟩, c2⟩ := c
  obtain ⟨L', h1, h2⟩ := h.ok K (k + 1) p.2 L H o w c2
  refine ⟨L', fun a => (h1 a).imp id fun ⟨⟨j, l, hj, e⟩, z⟩ => ⟨⟨j, l, by omega, e⟩, z⟩, ⟨v, hP, ev, ?_⟩, h2⟩
  have hk : ∀ a m, sub L (k + 1) a = some m → sub L' (k + 1) a = some m ∧ H a = H a := fun a m e => by
    have e1 := sub_of e
    rcases h1 a with z | ⟨⟨j, l, hj, z⟩, _⟩
    · exact ⟨sub_mk (z.trans e1), rfl⟩
    · rw [e1] at z
      have := (Prod.mk.inj (Option.some.inj z)).1
      omega
  exact od.mono _ _ _ _ _ _ _ _ _ _ (same_of_frz h1) hk (s _ _ _ _ _ _ _ ho)⟩
end
end AC
set_option Elab.async false
set_option linter.all false
set_option maxRecDepth 100000
set_option maxHeartbeats 1000000
/-! TL75: an item of a list of one's own, the index drawn at once. -/
namespace AC
open PySem L2 PyProof
end AC
set_option Elab.async false
set_option linter.all false
set_option maxRecDepth 100000
set_option maxHeartbeats 1000000
/-! TL76: lists of unlike things put together. -/
namespace AC
open PySem L2 PyProof
end AC
set_option Elab.async false
set_option linter.all false
set_option maxRecDepth 100000
set_option maxHeartbeats 2000000
/-! TL77: try with one name set in it; except suites that set a name to e.value; values of two kinds. -/
namespace AC
open PySem L2 PyProof
/-! values of two kinds -/
end AC
set_option Elab.async false
set_option linter.all false
set_option maxRecDepth 100000
set_option maxHeartbeats 1000000
/-! TL78: a statement by which one of one's own things is left alone. -/
namespace AC
open PySem L2 PyProof
end AC
set_option Elab.async false
set_option linter.all false
set_option maxRecDepth 100000
set_option maxHeartbeats 2000000
/-! TL79: sorted(set(xs)), of ints and of texts. -/
namespace AC
open PySem PySem.Spec PySem.W L2 PyProof PyProof.Rows
/-! ### sorted -/
/-! ### typed -/
end AC
set_option Elab.async false
set_option linter.all false
set_option maxRecDepth 100000
set_option maxHeartbeats 2000000
/-! TL80: except suites of several statements. -/
namespace AC
open PySem L2 PyProof
end AC
set_option Elab.async false
set_option linter.all false
set_option maxRecDepth 100000
set_option maxHeartbeats 2000000
/-! TL81: instances beside things of built-in types: ==, !=, isinstance. -/
namespace L2
open PySem PySem.Spec PySem.W PyProof.Rows
open PySem.AutoSeq1 (wpAny_loadPart')
end L2
namespace AC
open PySem L2 PyProof
/-- things of built-in types -/
inductive OthX (K : PySem.W.Frag) (H : Hp) : V → String → Prop where
  | non : OthX K H .non "NoneType"
  | int (i : Int) : OthX K H (.int i) "int"
  | str (x : Str) : OthX K H (.str x) "str"
  | list {a : Addr} {vs : List V} (h : SqL K H a vs) : OthX K H (.ref a) "list"
  | tuple {a : Addr} {vs : List V} (h : SeeT K H a vs) : OthX K H (.ref a) "tuple"
  | dict {a : Addr} {kvs : List (Key × V)} (h : H a = some (.dK kvs)) : OthX K H (.ref a) "dict"
  | fdict {a : Addr} {o : Obj} {kvs : List (Key × V)} (h : H a = some (.frz o (.dK kvs))) : OthX K H (.ref a) "dict"
theorem OthX.same {K : PySem.W.Frag} {R H : Hp} {x : V} {n : String} (s : Same R H) (h : OthX K R x n) : OthX K H x n := by
  cases h with
  | non => exact .non
  | int i => exact .int i
  | str y => exact .str y
  | list e => exact .list (s.seq e)
  | tuple e => exact .tuple (e.same s)
  | dict e => exact .dict (s _ _ e)
  | fdict e => exact .fdict (s _ _ e)
end AC
namespace L2
open PySem PySem.Spec PySem.W PyProof.Rows
end L2
namespace AC
open PySem L2 PyProof
end AC
set_option Elab.async false
set_option linter.all false
set_option maxRecDepth 100000
set_option maxHeartbeats 2000000
/-! TL82: data read as texts, numbers, pairs. -/
namespace AC
open PySem L2 PyProof
end AC
set_option Elab.async false
set_option linter.all false
set_option maxRecDepth 100000
set_option maxHeartbeats 2000000
/-! TL83: tuples of unlike things told as one of like things, and read back. -/
namespace AC
open PySem L2 PyProof
end AC
namespace AC
open PySem L2 PyProof
theorem hd_dat0 : HardC (cDat 0) := fun K R1 R2 v x s ⟨q1, q2, q3⟩ => by
  refine ⟨?_, q2, q3⟩
  cases x with
  | none => cases q1; exact .non
  | bool b => cases q1; exact .bl b
  | int z => cases q1; exact .int z
  | str z => cases q1; exact .str z
  | list xs => simp [PyData.depth] at q3
  | tuple xs => simp [PyData.depth] at q3
  | dict xs => simp [PyData.depth] at q3
def flat0 : PyData → Bool
  | .none => true
  | .bool _ => true
  | .int _ => true
  | .str _ => true
  | _ => false
def flat1 : PyData → Bool
  | .tuple xs => xs.all flat0
  | d => flat0 d
def F0 {α : Type} (c : Cod α) (t : α → PyData) : Prop := ∀ K R v x, c.see K R v x → flat0 (t x) = true
def F1 {α : Type} (c : Cod α) (t : α → PyData) : Prop := ∀ K R v x, c.see K R v x → flat1 (t x) = true
end AC
set_option Elab.async false
set_option linter.all false
set_option maxRecDepth 100000
set_option maxHeartbeats 2000000
/-! TL84: None, looked for among dicts. -/
namespace L2
open PySem PySem.Spec PySem.W PyProof.Rows PySem.SeqAt
end L2
namespace AC
open PySem L2 PyProof
end AC
set_option Elab.async false
set_option linter.all false
set_option maxRecDepth 100000
/-! TL85: an argument behind others is one's own, and is changed. -/
namespace AC
open PySem L2 PyProof
/-- the i-th slot's own things become the first argument's -/
def lendJ (i nn : Nat) (L : Lab) : Lab := fun a => match L a with
  | none => none
  | some (k, l) => if k = 0 then some (0, l) else if k = i + 1 then some (nn + 1, l) else none
def trJ (i nn : Nat) : Option (Nat × List Nat) → Option (Nat × List Nat)
  | none => none
  | some (k, l) => if k = 0 then some (0, l) else if k = nn + 1 then some (i + 1, l) else none
def backJ (i nn : Nat) (L L' : Lab) : Lab := fun a => match L a with
  | none => trJ i nn (L' a)
  | some (k, l) => if k = 0 ∨ k = i + 1 then trJ i nn (L' a) else some (k, l)
section
variable {i nn : Nat} {L L' : Lab} {H H' : Hp}
theorem lendJ_n {a : Addr} (h : L a = none) : lendJ i nn L a = none := by unfold lendJ; rw [h]
theorem lendJ_0 {a : Addr} {l : List Nat} (h : L a = some (0, l)) : lendJ i nn L a = some (0, l) := by unfold lendJ; rw [h]; exact if_pos rfl
theorem lendJ_i {a : Addr} {l : List Nat} (h : L a = some (i + 1, l)) : lendJ i nn L a = some (nn + 1, l) := by
  unfold lendJ
  rw [h]
  show (if i + 1 = 0 then _ else if i + 1 = i + 1 then some (nn + 1, l) else none) = _
  rw [if_neg (by omega), if_pos rfl]
theorem lendJ_o {a : Addr} {k : Nat} {l : List Nat} (h : L a = some (k, l)) (h0 : k ≠ 0) (hi : k ≠ i + 1) : lendJ i nn L a = none := by
  unfold lendJ
  rw [h]
  show (if k = 0 then _ else if k = i + 1 then some (nn + 1, l) else none) = _
  rw [if_neg h0, if_neg hi]
/-- the four cases -/
theorem lendJ_cases (a : Addr) : (L a = none ∧ lendJ i nn L a = none) ∨ (∃ l, L a = some (0, l) ∧ lendJ i nn L a = some (0, l)) ∨ (∃ l, L a = some (i + 1, l) ∧ lendJ i nn L a = some (nn + 1, l)) ∨ (∃ k l, k ≠ 0 ∧ k ≠ i + 1 ∧ L a = some (k, l) ∧ lendJ i nn L a = none) := by
  cases e : L a with
  | none => exact .inl ⟨rfl, lendJ_n e⟩
  | some x =>
    obtain ⟨k, l⟩ := x
    by_cases h0 : k = 0
    · subst h0; exact .inr (.inl ⟨l, rfl, lendJ_0 e⟩)
    · by_cases hi : k = i + 1
      · subst hi; exact .inr (.inr (.inl ⟨l, rfl, lendJ_i e⟩))
      · exact .inr (.inr (.inr ⟨k, l, h0, hi, rfl, lendJ_o e h0 hi⟩))
theorem rd_lendJ : rd (lendJ i nn L) H = rd L H := by
  funext a
  unfold rd
  rcases lendJ_cases (i := i) (nn := nn) (L := L) a with ⟨e1, e2⟩ | ⟨l, e1, e2⟩ | ⟨l, e1, e2⟩ | ⟨k, l, h0, hi, e1, e2⟩
  · rw [e1, e2]
  · rw [e1, e2]
  · rw [e1, e2]; rfl
  · rw [e1, e2]
    cases k with
    | zero => exact absurd rfl h0
    | succ k => rfl
theorem wf_lendJ (w : Wf L H) : Wf (lendJ i nn L) H := by
  refine ⟨fun a ha => ?_, fun a k l e => ?_⟩
  · rcases lendJ_cases (i := i) (nn := nn) (L := L) a with ⟨e1, e2⟩ | ⟨l, e1, e2⟩ | ⟨l, e1, e2⟩ | ⟨k, l, h0, hi, e1, e2⟩
    · exact absurd e2 ha
    · exact w.dom a (by rw [e1]; simp)
    · exact w.dom a (by rw [e1]; simp)
    · exact absurd e2 ha
  · rcases lendJ_cases (i := i) (nn := nn) (L := L) a with ⟨e1, e2⟩ | ⟨l', e1, e2⟩ | ⟨l', e1, e2⟩ | ⟨k', l', h0, hi, e1, e2⟩
    · rw [e2] at e; cases e
    · rw [e2] at e; cases e
    · rw [e2] at e; cases e; exact w.soft a i l e1
    · rw [e2] at e; cases e
theorem sub_lendJ : sub (lendJ i nn L) (nn + 1) = sub L (i + 1) := by
  funext a
  unfold sub
  rcases lendJ_cases (i := i) (nn := nn) (L := L) a with ⟨e1, e2⟩ | ⟨l, e1, e2⟩ | ⟨l, e1, e2⟩ | ⟨k, l, h0, hi, e1, e2⟩
  · rw [e1, e2]
  · rw [e1, e2]; simp
  · rw [e1, e2]; simp
  · rw [e1, e2]; simp [hi]
theorem frm_lendJ {a : Addr} (f : Frm L H a) : Frm (lendJ i nn L) H a ∧ lendJ i nn L a = L a := by
  rcases lendJ_cases (i := i) (nn := nn) (L := L) a with ⟨e1, e2⟩ | ⟨l, e1, e2⟩ | ⟨l, e1, e2⟩ | ⟨k, l, h0, hi, e1, e2⟩
  · exact ⟨⟨f.1, .inl e2⟩, e2.trans e1.symm⟩
  · exact ⟨⟨f.1, .inr ⟨l, e2⟩⟩, e2.trans e1.symm⟩
  · rcases f.2 with z | ⟨l', z⟩
    · rw [e1] at z; cases z
    · rw [e1] at z; cases z
  · rcases f.2 with z | ⟨l', z⟩
    · rw [e1] at z; cases z
    · rw [e1] at z; cases z; exact absurd rfl h0
theorem frm_lendJo (w : Wf L H) {a : Addr} {k : Nat} {l : List Nat} (h : L a = some (k, l)) (h0 : k ≠ 0) (hi : k ≠ i + 1) : Frm (lendJ i nn L) H a := ⟨w.dom a (by rw [h]; simp), .inl (lendJ_o h h0 hi)⟩
theorem backJ_o {a : Addr} {k : Nat} {l : List Nat} (h : L a = some (k, l)) (h0 : k ≠ 0) (hi : k ≠ i + 1) : backJ i nn L L' a = some (k, l) := by
  unfold backJ
  rw [h]
  show (if k = 0 ∨ k = i + 1 then _ else some (k, l)) = _
  rw [if_neg (by omega)]
theorem backJ_t {a : Addr} (h : ∀ k l, L a = some (k, l) → k = 0 ∨ k = i + 1) : backJ i nn L L' a = trJ i nn (L' a) := by
  unfold backJ
  cases e : L a with
  | none => rfl
  | some x =>
    obtain ⟨k, l⟩ := x
    exact if_pos (h k l e)
theorem trJ_0 {l : List Nat} : trJ i nn (some (0, l)) = some (0, l) := by simp [trJ]
theorem trJ_1 {l : List Nat} : trJ i nn (some (nn + 1, l)) = some (i + 1, l) := by simp [trJ]
theorem trJ_some {y : Option (Nat × List Nat)} {k : Nat} {l : List Nat} (h : trJ i nn y = some (k, l)) : (k = 0 ∧ y = some (0, l)) ∨ (k = i + 1 ∧ y = some (nn + 1, l)) := by
  cases y with
  | none => cases h
  | some x =>
    obtain ⟨j, m⟩ := x
    have h : (if j = 0 then some (0, m) else if j = nn + 1 then some (i + 1, m) else none) = some (k, l) := h
    by_cases h0 : j = 0
    · rw [if_pos h0] at h; cases h; exact .inl ⟨rfl, by rw [h0]⟩
    · rw [if_neg h0] at h
      by_cases h1 : j = nn + 1
      · rw [if_pos h1] at h; cases h; exact .inr ⟨rfl, by rw [h1]⟩
      · rw [if_neg h1] at h; cases h
/-- either another slot's own, as it was; or as the callee left it -/
theorem backJ_cases (w : Wf L H) (s : Stp (lendJ i nn L) H L' H') (a : Addr) : (∃ k l, k ≠ 0 ∧ k ≠ i + 1 ∧ L a = some (k, l) ∧ backJ i nn L L' a = some (k, l) ∧ L' a = none ∧ H' a = H a) ∨ ((∀ k l, L a = some (k, l) → k = 0 ∨ k = i + 1) ∧ backJ i nn L L' a = trJ i nn (L' a)) := by
  by_cases h : ∀ k l, L a = some (k, l) → k = 0 ∨ k = i + 1
  · exact .inr ⟨h, backJ_t h⟩
  · have : ∃ k l, L a = some (k, l) ∧ ¬ (k = 0 ∨ k = i + 1) := by
      cases e : L a with
      | none => exact absurd (fun k l z => by rw [e] at z; cases z) h
      | some x =>
        obtain ⟨k, l⟩ := x
        refine ⟨k, l, rfl, fun q => h fun k' l' z => ?_⟩
        rw [e] at z; cases z; exact q
    obtain ⟨k, l, e, hk⟩ := this
    have f := frm_lendJo (i := i) (nn := nn) w e (by omega) (by omega)
    exact .inl ⟨k, l, by omega, by omega, e, backJ_o e (by omega) (by omega), (s a f).1.trans (lendJ_o e (by omega) (by omega)), (s a f).2⟩
theorem rd_backJ (w : Wf L H) (s : Stp (lendJ i nn L) H L' H') : rd (backJ i nn L L') H' = rd L' H' := by
  funext a
  unfold rd
  rcases backJ_cases w s a with ⟨k, l, h0, hi, e1, e2, e3, e4⟩ | ⟨h, e2⟩
  · rw [e2, e3]
    cases k with
    | zero => exact absurd rfl h0
    | succ k => rfl
  · rw [e2]
    cases e : L' a with
    | none => rfl
    | some x =>
      obtain ⟨j, m⟩ := x
      cases j with
      | zero => rw [trJ_0]
      | succ j =>
        cases q : trJ i nn (some (j + 1, m)) with
        | none => rfl
        | some y =>
          obtain ⟨k, l⟩ := y
          rcases trJ_some q with ⟨rfl, z⟩ | ⟨rfl, z⟩
          · cases z
          · rfl
theorem wf_backJ (w : Wf L H) (w' : Wf L' H') (s : Stp (lendJ i nn L) H L' H') : Wf (backJ i nn L L') H' := by
  refine ⟨fun a ha => ?_, fun a k l e => ?_⟩
  · rcases backJ_cases w s a with ⟨k, l, h0, hi, e1, e2, e3, e4⟩ | ⟨h, e2⟩
    · rw [e4]; exact w.dom a (by rw [e1]; simp)
    · refine w'.dom a fun z => ha ?_
      rw [e2, z]; rfl
  · rcases backJ_cases w s a with ⟨k', l', h0, hi, e1, e2, e3, e4⟩ | ⟨h, e2⟩
    · rw [e2] at e; cases e; rw [e4]; exact w.soft a k l e1
    · rw [e2] at e
      rcases trJ_some e with ⟨z, _⟩ | ⟨_, z⟩
      · omega
      · exact w'.soft a nn l z
theorem stp_backJ (w : Wf L H) (s : Stp (lendJ i nn L) H L' H') : Stp L H (backJ i nn L L') H' := fun a f => by
  obtain ⟨f1, e1⟩ := frm_lendJ (i := i) (nn := nn) f
  obtain ⟨e2, e3⟩ := s a f1
  refine ⟨?_, e3⟩
  rw [backJ_t fun k l e => ?_, e2, e1]
  · rcases f.2 with z | ⟨l, z⟩
    · rw [z]; rfl
    · rw [z, trJ_0]
  · rcases f.2 with z | ⟨l, z⟩
    · rw [z] at e; cases e
    · rw [z] at e; cases e; exact .inl rfl
theorem sub_backJ (w : Wf L H) (s : Stp (lendJ i nn L) H L' H') {a : Addr} {m : List Nat} (h : sub L' (nn + 1) a = some m) : sub (backJ i nn L L') (i + 1) a = some m := by
  have e := sub_of h
  rcases backJ_cases w s a with ⟨k', l', h0, hi, e1, e2, e3, e4⟩ | ⟨_, e2⟩
  · rw [e3] at e; cases e
  · exact sub_mk (by rw [e2, e, trJ_1])
end
theorem rel_backJ {β : Type} {c : Cod β} {K : Frag} {i nn : Nat} {L L' : Lab} {H H' : Hp} {v : V} {y : β} (w : Wf L H) (s : Stp (lendJ i nn L) H L' H') (h : (rV c).rel K (lendJ i nn L) H L' H' v y) : (rV c).rel K L H (backJ i nn L L') H' v y := by
  show c.see K (rd (backJ i nn L L') H') v y
  rw [rd_backJ w s]
  exact h
structure RtOkJ {β : Type} (r : Rt β) : Prop where
  un : ∀ {K : Frag} {i nn : Nat} {L L' : Lab} {H H' : Hp} {v : V} {y : β}, Wf L H → Stp (lendJ i nn L) H L' H' → r.rel K (lendJ i nn L) H L' H' v y → r.rel K L H (backJ i nn L L') H' v y
theorem rtvJ {β : Type} {c : Cod β} : RtOkJ (rV c) := ⟨rel_backJ⟩
theorem rz_lendJ {K : Frag} {ca : Str → Addr} {i nn : Nat} {L : Lab} {H : Hp} {e : Exn} {cls : Value} {d : Addr} {H' : Hp} (h : RzK K ca (lendJ i nn L) H e cls d H') : RzK K ca L H e cls d H' := by
  obtain ⟨h1, h2, h3, v, h4, R, h5, h6, h7, h8⟩ := h
  rw [rd_lendJ] at h6 h7
  exact ⟨h1, fun a f => h2 a (frm_lendJ f).1, fun f => h3 (frm_lendJ f).1, v, h4, R, h5, h6, fun a o q => (h7 a o q).imp id fun z f => z (frm_lendJ f).1, h8⟩
/-- an argument behind others is one's own, and is changed -/
def spJ (K : Frag) (ca : Str → Addr) {κ α α' β : Type} (oc : OCod κ) (as : ArgC α) (bs : ArgC α') (r : Rt β) (F : κ → α × α' → Res (β × κ)) : Sp := fun vs H Q E =>
  ∃ (ws : List V) (v0 : V) (zs : List V) (k : κ) (x : α) (y : α') (L : Lab), vs = ws ++ v0 :: zs ∧ Wf L H ∧ oc.own K (rd L H) (sub L (as.n + 1)) H [] v0 k ∧ as.see K (rd L H) ws x ∧ bs.see K (rd L H) zs y ∧
    EndF K ca L H E (F k (x, y)) fun y => ∀ (v : V) (L' : Lab) (H' : Hp), Stp L H L' H' → Wf L' H' → r.rel K L H L' H' v y.1 → oc.own K (rd L' H') (sub L' (as.n + 1)) H' [] v0 y.2 → Q v H'
def rrJ {α κ : Type} (r : Rt α) (oc : OCod κ) (v0 : V) (n : Nat) : Rr (α × κ) := ⟨fun K L H L' H' v x => r.rel K L H L' H' v x.1 ∧ oc.own K (rd L' H') (sub L' (n + 1)) H' [] v0 x.2, fun K L H L1 H1 L2 H2 v x s h => ⟨r.pre _ _ _ _ _ _ _ _ _ s h.1, h.2⟩⟩
section
variable {A : Amb} {G : Ctx}
def tJ (A : Amb) (G : Ctx) {α : Type} (as : ArgC α) (f : CT G → Res (α × CT G)) (t : L2.TA) : L2.TA := fun o H Q => tA A G as f o H fun ws H1 => t o H1 fun vs H2 => Q (ws ++ vs) H2
theorem axj_cons {α β : Type} {c : Cod α} {as : ArgC β} {e : Expr} {es : List Expr} {f : CT G → Res (α × CT G)} {g : CT G → Res (β × CT G)} {t : L2.TA} (h : EX A G e (rV c) f) (hr : PA A.X es (tJ A G as g t)) (hs : starEach (e :: es) A.X.env = (false, eval e A.X.env) :: starEach es A.X.env := by rfl) :
    PA A.X (e :: es) (tJ A G (aCons c as) (fun p => Res.bind (f p) fun y => Res.bind (g y.2) fun z => .ok ((y.1, z.1), z.2)) t) :=
  pa_weak (pa_cons h hr hs) fun o H Q q => ax_core (as := as) (bs := aCons c as) (m := Prod.mk) (Q := fun ws H1 => t o H1 fun vs H2 => Q (ws ++ vs) H2) (fun K R v vs x y h1 h2 => ⟨v, vs, rfl, h1, h2⟩) q
theorem axj_one {α : Type} {c : Cod α} {e : Expr} {es : List Expr} {f : CT G → Res (α × CT G)} {t : L2.TA} (h : EX A G e (rV c) f) (hr : PA A.X es t) (hs : starEach (e :: es) A.X.env = (false, eval e A.X.env) :: starEach es A.X.env := by rfl) :
    PA A.X (e :: es) (tJ A G (aOne c) f t) :=
  pa_weak (pa_cons h hr hs) fun o H Q ⟨p, L, w, cr, kk⟩ => ⟨p, L, w, cr, kk.imp fun y _ q v L' H' s w' c' rl => q [v] L' H' s w' c' ⟨v, rfl, rl⟩⟩
theorem callJ_reads {α α' β κ : Type} {as : ArgC α} {bs : ArgC α'} {oc : OCod κ} {P : V → Prop} {r : Rt β} {F : κ → α × α' → Res (β × κ)} {i : Nat} {g : CT G → κ} {put : CT G → κ → CT G} {fa : CT G → Res (α × CT G)} {fb : CT G → Res (α' × CT G)} {o : St} {H : Hp} {Q : VK} (a : At G i (sOwn P oc) g) (m : Mod G i (sOwn P oc) put) (hr : RtOkJ r)
    (q : tE A G r (fun p => Res.bind (fa p) fun x => Res.bind (fb x.2) fun y => Res.bind (F (g y.2) (x.1, y.1)) fun z => .ok (z.1, put y.2 z.2)) o H Q) : tJ A G as fa (tCons (tVar i) (tA A G bs fb)) o H fun vs H1 => spJ A.X.K A.ca oc as bs r F vs H1 Q (WE A.W o) := by
  obtain ⟨p, L, w, cr, k⟩ := q
  refine ⟨p, L, w, cr, k.bind.imp fun x _ gx ws L0 H0 s0 w0 c0 h0 => ?_⟩
  have gx := gx.step s0
  obtain ⟨v0, _, ev, _⟩ := a.ok _ _ _ _ _ _ c0
  rw [Nat.zero_add] at ev
  refine ⟨v0, ev, x.2, L0, w0, c0, gx.bind.imp fun y _ gy vs L1 H1 s1 w1 c1 h1 => ?_⟩
  obtain ⟨v1, hP, ev1, ho⟩ := a.ok _ _ _ _ _ _ c1
  rw [Nat.zero_add] at ev1 ho
  rw [ev] at ev1
  cases ev1
  refine ⟨ws, v0, vs, g y.2, x.1, y.1, lendJ i as.n L1, rfl, wf_lendJ w1, by rw [rd_lendJ, sub_lendJ]; exact ho, by rw [rd_lendJ]; exact as.mono _ _ _ _ _ s1.rd h0, by rw [rd_lendJ]; exact h1, ?_⟩
  have gy := gy.step s1
  cases e : F (g y.2) (x.1, y.1) with
  | bad => rw [e] at gy; exact gy.elim
  | exc ex =>
    rw [e] at gy
    exact fun cls d H' hz => (show A.raises ex L1 H1 o from gy) cls d H' (rz_lendJ hz) o fun _ _ => rfl
  | ok z =>
    rw [e] at gy
    intro v L2 H2 s2 w2 rl oc2
    have sb := stp_backJ w1 s2
    refine (show ∀ v L' H', _ from gy) v (backJ i as.n L1 L2) H2 ((s0.trans s1).trans sb) (wf_backJ w1 w2 s2) (m.ok _ _ _ _ _ _ _ _ _ c1 sb.rd (fun x j l hj hn ex => ?_) ⟨v0, hP, by rw [Nat.zero_add]; exact ev, ?_⟩) (r.pre _ _ _ _ _ _ _ _ _ (s0.trans s1) (hr.un w1 s2 rl))
    · rcases backJ_cases w1 s2 x with ⟨k', l', h0, hi, e1, e2, e3, e4⟩ | ⟨h, _⟩
      · rw [ex] at e1; cases e1; exact ⟨e2.trans ex.symm, e4⟩
      · have := h _ _ ex
        omega
    · rw [Nat.zero_add]
      exact oc.mono _ _ _ _ _ _ _ _ _ _ (by rw [rd_backJ w1 s2]; exact fun _ _ z => z) (fun x m' hm => ⟨sub_backJ w1 s2 hm, rfl⟩) oc2
theorem ex_callJ {α α' β κ : Type} {as : ArgC α} {bs : ArgC α'} {oc : OCod κ} {P : V → Prop} {r : Rt β} {F : κ → α × α' → Res (β × κ)} {i : Nat} {g : CT G → κ} {put : CT G → κ → CT G} {f : Addr} {x : Str} {p pos : Pos} {e : Expr} {es : List Expr} {fa : CT G → Res (α × CT G)} {fb : CT G → Res (α' × CT G)} (a : At G i (sOwn P oc) g) (m : Mod G i (sOwn P oc) put)
    (hg : GlobF A x f) (hc : CallAt A f (spJ A.X.K A.ca oc as bs r F)) (hr : RtOkJ r) (ha : PA A.X (e :: es) (tJ A G as fa (tCons (tVar i) (tA A G bs fb))))
    (hdb : (x == ("__debug__" : Str)) = false := by decide) (he : starEach (e :: es) A.X.env = (false, eval e A.X.env) :: starEach es A.X.env := by rfl) (hpl : (backTo pos (starEach es A.X.env)).any (·.1) = false := by rfl) :
    EX A G (.Call (.Name x p) (e :: es) [] pos) r (fun p => Res.bind (fa p) fun x => Res.bind (fb x.2) fun y => Res.bind (F (g y.2) (x.1, y.1)) fun z => .ok (z.1, put y.2 z.2)) := by
  refine ⟨fun pins s o H Q I q => wpAny_Call_Name_kw (ld_glob I hg.gl hg.mg (PySem.W.callWith_K (h₀ := A.X.base) I.ok.mod.kin hg.kp ?_ he hpl) hdb)⟩
  exact thn (ha.run pos pins s o H _ I (callJ_reads a m hr q)) fun us s1 hu => by
    obtain ⟨vs, H1, I1, hvs, hsp⟩ := hu
    exact ⟨I1.kIn, hc pins o H1 s1 Q us vs I1 hvs hsp⟩
/-- the own variable and what stands behind it -/
theorem paj {α' : Type} {bs : ArgC α'} {i : Nat} {y : Str} {p1 : Pos} {es : List Expr} {fb : CT G → Res (α' × CT G)} (hN : A.X.N[i]? = some y) (hv : Vis A.X.env.scope y) (ha : AX A G es bs fb)
    (hd : (y == ("__debug__" : Str)) = false := by decide) (hcd : (y == ("__classdict__" : Str)) = false := by decide) (he : starEach (.Name y p1 :: es) A.X.env = (false, eval (.Name y p1) A.X.env) :: starEach es A.X.env := by rfl) : PA A.X (.Name y p1 :: es) (tCons (tVar i) (tA A G bs fb)) := pa_cons (pe_var hN hv hd hcd) ha he
end
section
variable {P : Program} {w : World} {K : Frag} {mg : Str → Option Value} {base : Heap}
variable {x qual : Str} {params : Arguments} {body : List Stmt} {scope : Scope} {dvs : List V} {kws : List (Str × V)} {f : Addr} {fd : FuncData} {N ps : List Str} {k : Nat} {ca : Str → Addr}
theorem fn_J {α α' β κ : Type} {oc : OCod κ} {as : ArgC α} {bs : ArgC α'} {r : Rt β} {G0 : V → Ctx} {G' : V → Ctx} {ini : (v0 : V) → κ → α × α' → CT (G0 v0)} {fb : (v0 : V) → CT (G0 v0) → Res (Out (CT (G' v0)) (β × κ))} {F : κ → α × α' → Res (β × κ)} (F0 : FunD K x qual params body scope dvs kws f fd) (S : FnScope N ps scope) (hn : as.n + (bs.n + 1) = ps.length)
    (h0 : ∀ L H v0 ws zs k y, Wf L H → oc.own K (rd L H) (sub L (as.n + 1)) H [] v0 k → as.see K (rd L H) ws y.1 → bs.see K (rd L H) zs y.2 → CR K 0 (G0 v0) (ini v0 k y) L H (start N (ws ++ v0 :: zs)))
    (hB : ∀ v0 nd cd A outer s H E hr hgd, BX (ambOf P w K mg base ca N nd k qual scope f cd A outer s H E hr hgd) (G0 v0) body (G' v0) (rrJ r oc v0 as.n) (fb v0)) (hF : ∀ v0 k y, F k y = Res.bind (fb v0 (ini v0 k y)) endV) : FnG P w K mg base (k + 1) f fd ps (spJ K ca oc as bs r F) := by
  refine fn_G F0 S (fun vs H Q E ⟨ws, v0, zs, kk, y, y', L, e, _, _, h, h', _⟩ => by rw [e, List.length_append, List.length_cons, as.len _ _ _ _ h, bs.len _ _ _ _ h', hn]) fun cd A outer s H vs Q E hgd hr ⟨ws, v0, zs, kk, y, y', L, e, wf, ho, h, h', q⟩ => ?_
  subst e
  refine ⟨_, hB v0 S.nd cd A outer s H E hr hgd, ini v0 kk (y, y'), L, wf, h0 L H v0 ws zs kk (y, y') wf ho h h', ?_⟩
  rw [hF v0 kk (y, y')] at q
  cases e : fb v0 (ini v0 kk (y, y')) with
  | bad => rw [e] at q; exact q.elim
  | exc ex =>
    rw [e] at q
    exact fun cls d H' hz o' _ => (show ∀ cls d H', _ from q) cls d H' hz
  | ok z =>
    rw [e] at q
    cases z with
    | rt y' => exact fun v L' H' st w' rl => (show ∀ v L' H', _ from q) v L' H' st w' rl.1 rl.2
    | nx p' => exact q.elim
end
section
variable {A : Amb} {G G' : Ctx}
theorem sx_retJ {α κ : Type} {r : Rt α} {oc : OCod κ} {v0 : V} {e : Expr} {pos : Pos} {f : CT G → Res (α × CT G)} {g0 : CT G → κ} {i : Nat} (a0 : At G i (sOwn (fun v => v = v0) oc) g0) (h : EX A G e r f) :
    SX A G (.Return (some e) pos) G' (rrJ r oc v0 i) (fun p => Res.bind (f p) fun y => .ok (.rt (y.1, g0 y.2))) :=
  ps_weak (ps_ret h) fun D o H ⟨p, L, w, cr, k⟩ => ⟨p, L, w, cr, k.bind.imp fun y _ q v L' H' s w' c' rl => q v L' H' s w' ⟨rl, by
    obtain ⟨v1, rfl, _, h⟩ := a0.ok _ _ _ _ _ _ c'
    rw [Nat.zero_add] at h
    exact h⟩⟩
theorem ex_calJ {α α' β κ : Type} {as : ArgC α} {bs : ArgC α'} {oc : OCod κ} {P : V → Prop} {r : Rt β} {F : κ → α × α' → Res (β × κ)} {i : Nat} {g : CT G → κ} {put : CT G → κ → CT G} {k : Nat} {ps : List Str} {x : Str} {p pos : Pos} {e : Expr} {es : List Expr} {fa : CT G → Res (α × CT G)} {fb : CT G → Res (α' × CT G)} (a : At G i (sOwn P oc) g) (m : Mod G i (sOwn P oc) put)
    (D : DefA A k x ps (spJ A.X.K A.ca oc as bs r F)) (hk : k ≤ A.lv) (gl : Gl A.X x) (hr : RtOkJ r) (ha : PA A.X (e :: es) (tJ A G as fa (tCons (tVar i) (tA A G bs fb))))
    (hdb : (x == ("__debug__" : Str)) = false := by decide) (he : starEach (e :: es) A.X.env = (false, eval e A.X.env) :: starEach es A.X.env := by rfl) (hpl : (backTo pos (starEach es A.X.env)).any (·.1) = false := by rfl) :
    EX A G (.Call (.Name x p) (e :: es) [] pos) r (fun p => Res.bind (fa p) fun x => Res.bind (fb x.2) fun y => Res.bind (F (g y.2) (x.1, y.1)) fun z => .ok (z.1, put y.2 z.2)) := by
  obtain ⟨f, fd, F1, h2, h3, h4, _⟩ := D.ex
  exact ex_callJ a m ⟨gl, h2, h3⟩ (callAt F1 h4 hk) hr ha hdb he hpl
end
end AC
set_option Elab.async false
set_option linter.all false
set_option maxRecDepth 100000
/-! TL86: x = [.. for .. in one's own], lent for the while. -/
namespace AC
open PySem L2 PyProof
theorem lend_reads {A : Amb} {G G1 : Ctx} {S T : List Nat} {to : CT G → CT G1} {bk : CT G → CT G1 → CT G} {α : Type} {r : Rt α} {f : CT G1 → Res (α × CT G1)} (ln : LendC S T 0 G G1 to bk) (hr : RtHard r) {o : St} {H : Hp} {Q : VK} (q : tE A G r (fun p => Res.bind (f (to p)) fun y => .ok (y.1, bk p y.2)) o H Q) : tE A G1 r f o H Q := by
  obtain ⟨p, L, w, cr, k⟩ := q
  exact ⟨to p, lendL S T L, wf_lendL w, ln.to_ok _ _ _ _ _ w cr, (Good.lend w k.bind).imp fun y _ q v L' H' s w' c' rl => q v (backL S T L L') H' (stp_backL w s) (wf_backL w w' s) (ln.bk_ok _ _ _ _ _ _ _ _ w s cr c') (hr.bk w s rl)⟩
section
variable {A : Amb} {G G' : Ctx} {ρ : Type} {R : Rr ρ}
theorem sx_setLcIfLd {Gl : Ctx} {S T : List Nat} {tol : CT G → CT Gl} {bkl : CT G → CT Gl → CT G} {α β : Type} {ci : Cod α} {ce : Cod β} {G0 G1 : Ctx} {i : Nat} {x : Str} {px spos : Pos} {elt tg iter c : Expr} {scope : Scope} {own : List (Str × Nat)} {pos : Pos} {fi : CT Gl → Res (List α × CT Gl)} {dn : CT Gl → CT G0} {bk : CT Gl → CT G0 → CT Gl} {pu : CT G0 → α → CT G1} {ft : CT G1 → Res (Bool × CT G1)} {fe : CT G1 → Res (β × CT G1)} {dn1 : CT G1 → CT G0} {bk1 : CT G1 → CT G0 → CT G1} {put : CT G → List β → CT G'}
    (u : Upd G i (sOwn PAny (oL ce)) G' put) (hx : A.X.N[i]? = some x) (hxl : A.X.env.scope.names.lookup x = some .local) (hS : A.S i)
    (ln : LendC S T 0 G Gl tol bkl) (hr : RtHard (rO (oL ce))) (hi : IX A Gl tg iter ci fi) (ok : BlkOk A.X.N A.X.env.scope scope own) (wc : WipeC 0 (own.map (fun x : Str × Nat => x.2)) Gl G0 dn bk)
    (hg : ∀ s H C cl fp, GX (A.blk (own.map (fun x : Str × Nat => x.2)) s H scope C cl fp) G0 tg ci G1 pu) (ht : ∀ s H C cl fp, TX (A.blk (own.map (fun x : Str × Nat => x.2)) s H scope C cl fp) G1 c ft) (he : ∀ s H C cl fp, EX (A.blk (own.map (fun x : Str × Nat => x.2)) s H scope C cl fp) G1 elt (rV ce) fe)
    (wc1 : WipeC 0 (own.map (fun x : Str × Nat => x.2)) G1 G0 dn1 bk1) (hsw : swapsWith (.ListComp elt [⟨tg, iter, [c], 0⟩] scope pos) (some (.Name x px)) spos.line A.X.env = pure true) (hs : ∀ x, foldedSetIterable iter A.X.env x = pure x := by intro _; rfl) :
    SX A G (.Assign [.Name x px] (.ListComp elt [⟨tg, iter, [c], 0⟩] scope pos) spos) G' R (fun p => Res.bind (Res.bind (Res.bind (fi (tol p)) fun y => Res.bind (lcL y.1 (fun x q => Res.bind (ft (pu q x)) fun t => if t.1 = true then Res.bind (fe t.2) fun z => .ok (some z.1, dn1 z.2) else .ok (none, dn1 t.2)) (dn y.2)) fun z => .ok (z.1, bk y.2 z.2)) fun y => .ok (y.1, bkl p y.2)) fun y => .ok (.nx (put y.2 y.1))) :=
  ps_weak (ps_setLc A.calm A.nd hx hxl hsw hi ok (g := tG (A.blk (own.map (fun x : Str × Nat => x.2)) A.X.s_0 A.X.H_0 scope 0 [] []) ci G0 G1 pu) (tt := tT (A.blk (own.map (fun x : Str × Nat => x.2)) A.X.s_0 A.X.H_0 scope 0 [] []) G1 ft) (te := tE (A.blk (own.map (fun x : Str × Nat => x.2)) A.X.s_0 A.X.H_0 scope 0 [] []) G1 (rV ce) fe)
    (fun s H C cl fp => hg s H C cl fp) (fun s H C cl fp => pts_one (ht s H C cl fp)) (fun s H C cl fp => he s H C cl fp) hs) fun D o H q => st_reads st_o u hS (fun o H Q q => lc_reads (A := A) (G := Gl) (A.blk (own.map (fun x : Str × Nat => x.2)) A.X.s_0 A.X.H_0 scope 0 [] []) rfl blk_S wc wc1 (lend_reads ln hr q)) q
end
end AC
set_option Elab.async false
set_option linter.all false
set_option maxRecDepth 100000
set_option maxHeartbeats 4000000
/-! TL87: a text turned round. -/
namespace AC
open PySem L2 PyProof PySem.Spec PyProof.Rows
def revS (z : Str) : Str := ⟨((Builtin.Str.strSliceIndices none none (-1) z.length).filterMap (z.cps[·]?)).toArray⟩
def tRevS (te : TE) : TE := fun σ H Q => te σ H fun x H1 => ∃ z, x = .str z ∧ (revS z).length ≤ sizeLine ∧ Q (.str (revS z)) H1
theorem pe_revS {X : Cx} {e : Expr} {te : TE} {k : Nat} {p1 p2 p3 pos : Pos} (he : PE X e te) : PE X (.Subscript e (.Slice none none (some (.UnaryOp .USub (.Constant (.int 1) k p1) p2)) p3) pos) (tRevS te) := by
  have back : PO X (some (.UnaryOp .USub (.Constant (.int 1) k p1) p2)) (tPart (tUn (rU fun i => .int (-i)) (tC (.int 1)))) := po_some (pe_un un_neg pe_int)
  constructor
  intro ps0 sh0 st hp0 Q0 inv0 start
  apply Subscript_
  apply thn (he.run ps0 sh0 st hp0 _ inv0 start)
  rintro _ shA ⟨_, hpA, invA, told, z, rfl, small, post⟩
  obtain ⟨tok, rfl⟩ := told
  apply wpAny_Slice
  apply thn (po_none.run ps0 shA st hpA (fun part hp => part = none ∧ hp = hpA) invA ⟨rfl, rfl⟩)
  rintro lowV shB ⟨_, _, invB, lowP, rfl, rfl⟩
  apply thn (po_none.run ps0 shB st _ (fun part hp => part = none ∧ hp = _) invB ⟨rfl, rfl⟩)
  rintro highV shC ⟨_, _, invC, highP, rfl, rfl⟩
  apply thn (back.run ps0 shC st _ (fun part hp => part = some (-1) ∧ hp = _) invC ⟨1, rfl, -1, rfl, rfl, rfl⟩)
  rintro stepV shD ⟨_, hpD, invD, stepP, rfl, rfl⟩
  have invE := invD.kept (t' := shD.toks) (h' := shD.heap.push { cls := .type "slice", data := .fields #[lowV, highV, stepV] }) fun _ _ there => Heap.get?_push_of_some _ there
  apply tail_any (ops := [.str z tok, .ref shD.heap.objs.size]) (typeIs_str _ _ _) F.slot_str_getitem.lookup
  · obtain ⟨lo, rfl, lo0⟩ := IsPart.raw lowP
    obtain ⟨hi, rfl, hi0⟩ := IsPart.raw highP
    obtain ⟨by_, rfl, by0⟩ := IsPart.raw stepP
    have one : (by_.map (·.1)).getD 1 = -1 := by rw [by0]; rfl
    have picked : slicePicked z lo hi by_ = Builtin.Str.strSliceIndices none none (-1) z.length := by
      unfold slicePicked
      rw [lo0, hi0, one]
    apply wpAny_getItem_str_slice (l := lo) (u := hi) (st := by_) ⟨_, Heap.get?_push_size _ rfl, rfl, rfl⟩ (by rw [one]; decide)
    unfold sliceMade
    rw [one, picked, if_neg (by simp)]
    exact ⟨small, .str _, _, invE.tok _, ⟨_, rfl⟩, post⟩
  · with_unfolding_all rfl
section
variable {A : Amb} {G : Ctx}
/-- z[::-1] -/
theorem ex_revS {e : Expr} {kk : Nat} {p1 p2 p3 pos : Pos} {f : CT G → Res (Str × CT G)} (h : EX A G e (rV cS) f) : EX A G (.Subscript e (.Slice none none (some (.UnaryOp .USub (.Constant (.int 1) kk p1) p2)) p3) pos) (rV cS) (fun p => Res.bind (f p) fun y => Res.bind (ofO (okS (revS y.1))) fun z => .ok (z, y.2)) :=
  pe_weak (pe_revS h) fun o H Q ⟨p, L, w, cr, k⟩ => ⟨p, L, w, cr, k.bind.imp fun y _ gy v L1 H1 s1 w1 c1 ⟨e1, h1, l1⟩ => by
    subst e1
    obtain ⟨x, ex, gx⟩ := good_ofO gy
    obtain ⟨rfl, h4, h5⟩ := okS_see (K := A.X.K) (R := rd L1 H1) ex
    exact ⟨y.1, rfl, h5, (show ∀ v L' H', _ from gx) _ L1 H1 s1 w1 c1 h4⟩⟩
end
end AC
set_option Elab.async false
set_option linter.all false
set_option maxRecDepth 100000
set_option maxHeartbeats 4000000
namespace Pf
open PySem L2 PyProof PyProof.Rows AC
def top (i : Nat) : Stmt := PySem.Challenge.pw_anycut_k06_errors_of_rows_and_names.main.body.getD i (.Pass ⟨0, 0, 0, 0⟩)
def sub (i j : Nat) : Stmt := match top i with
  | .ClassDef (body := b) .. => b.getD j (.Pass ⟨0, 0, 0, 0⟩)
  | _ => .Pass ⟨0, 0, 0, 0⟩
def lettersS : Str := "abcdefghijklmnopqrstuvwxyz"
/-! is_name -/
abbrev s_is_name : Stmt := top 10
abbrev N_is_name : List Str := ["name", "letter"]
theorem sc_is_name : FnScope N_is_name ["name"] (defScope s_is_name) := ⟨rfl, rfl, rfl, by decide +kernel, rfl, by decide +kernel, by decide +kernel⟩
def fb_is_name : {fb : CT [sVal cS, sAny] → Res (Out (CT [sVal cS, sAny]) Bool) // ∀ {P : Program} {w : World} {K : Frag} {mg : Str → Option Value} {base : Heap} {ca : Str → Addr} (M_all : mg "all" = none) (M_LETTERS : ∃ t, mg "LETTERS" = some (.str lettersS t)) (M_len : mg "len" = none) (f : Addr) (nd : N_is_name.Nodup) cd A outer s H E hr hgd, BX (ambOf P w K mg base ca N_is_name nd 0 "is_name" (defScope s_is_name) f cd A outer s H E hr hgd) [sVal cS, sAny] (defBody s_is_name) [sVal cS, sAny] (rrP (rV cB)) fb} := ⟨_, by
  intro P w K mg base ca M_all M_LETTERS M_len f nd cd A outer s H E hr hgd
  obtain ⟨_, M_LETTERS⟩ := M_LETTERS
  refine' bx_one ?_
  exact sx_ret (rex_and (rex_chain ot_le ot_le rex_int (rex_callB ct_lenS (by rfl) (by exact M_len) (by decide +kernel) (rax_one (rex_var at_z (by rfl) (by first | exact Or.inl rfl | exact Or.inr (Or.inl rfl) | exact Or.inr (Or.inr rfl))))) rex_int (by rfl)) (rex_and1 (rex_callB ct_all (by rfl) (by exact M_all) (by decide +kernel) (rax_one (rex_frz frz_l (rex_lc (own := [("letter", 1)]) (rix_s (rex_var at_z (by rfl) (by first | exact Or.inl rfl | exact Or.inr (Or.inl rfl) | exact Or.inr (Or.inr rfl)))) (blkOk_by (by rfl)) (wc_keep (by decide) (wc_any wc_nil)) (fun _ _ _ _ _ => (gx_name (up_s up_z) (by rfl) (by first | exact Or.inl rfl | exact Or.inr rfl) (by show (1 : Nat) ∈ [1]; decide) (by first | exact Or.inl rfl | exact Or.inr rfl))) (fun _ _ _ _ _ => (rex_cmp ot_sgnIn (rex_var (at_s at_z) (by rfl) (by first | exact Or.inl rfl | exact Or.inr (Or.inl rfl) | exact Or.inr (Or.inr rfl))) (rex_gstr (by rfl) (by exact M_LETTERS) (by decide +kernel) (by decide +kernel)) (by rfl))) (wc_keep (by decide) (wc_val wc_nil))))))))⟩
def F_is_name (y : Str) : Res Bool := Res.bind ((fb_is_name ).1 (y, ((), ()))) endV
theorem okF_is_name {P : Program} {w : World} {K : Frag} {mg : Str → Option Value} {base : Heap} {ca : Str → Addr} {fa : Addr} {dvs : List V} {kws : List (Str × V)} {fd : FuncData} (F0 : FunD K "is_name" "is_name" (defArgs s_is_name) (defBody s_is_name) (defScope s_is_name) dvs kws fa fd) (M_all : mg "all" = none) (M_LETTERS : ∃ t, mg "LETTERS" = some (.str lettersS t)) (M_len : mg "len" = none) : FnG P w K mg base 1 fa fd ["name"] (spP K ca (aOne cS) (rV cB) F_is_name) :=
  fn_P (as := (aOne cS)) (G0 := [sVal cS, sAny]) (ini := (fun y => (y, ((), ())))) (fb := (fb_is_name ).1) F0 sc_is_name (by rfl) (fun L H vs y wf h => by obtain ⟨v1, rfl, h1⟩ := h; exact ⟨⟨v1, rfl, h1⟩, trivial, Nat.le_of_ble_eq_true (by rfl)⟩) (fun nd cd A outer s H E hr hgd => (fb_is_name ).2 M_all M_LETTERS M_len fa nd cd A outer s H E hr hgd) (fun y => rfl)
theorem ok_is_name {P : Program} {w : World} {K : Frag} {mg : Str → Option Value} {base : Heap} {ca : Str → Addr} {fa : Addr} {fd : FuncData} (F0 : FunD K "is_name" "is_name" (defArgs s_is_name) (defBody s_is_name) (defScope s_is_name) [] [] fa fd) (M_all : mg "all" = none) (M_LETTERS : ∃ t, mg "LETTERS" = some (.str lettersS t)) (M_len : mg "len" = none) (hm : mg "is_name" = some (.ref fa)) : DefG P w K mg base 1 "is_name" ["name"] (spP K ca (aOne cS) (rV cB) F_is_name) :=
  ⟨fa, fd, okF_is_name  F0 M_all M_LETTERS M_len, hm, F0.kp, (F0.bindsN (ps := ["name"]) fun _ _ _ _ _ _ us hl => match us, hl with | [_], _ => rfl), (kw_binds (ps := ["name"]) F0 fun _ _ _ _ _ _ us hl => match us, hl with | [_], _ => rfl)⟩
/-! check_names -/
abbrev s_check_names : Stmt := top 11
abbrev N_check_names : List Str := ["names", "at"]
theorem sc_check_names : FnScope N_check_names ["names"] (defScope s_check_names) := ⟨rfl, rfl, rfl, by decide +kernel, rfl, by decide +kernel, by decide +kernel⟩
def fb_check_names : {fb : CT [sVal (cL cS), sAny] → Res (Out (CT [sVal (cL cS), sAny]) Unit) // ∀ {P : Program} {w : World} {K : Frag} {mg : Str → Option Value} {base : Heap} {ca : Str → Addr} (M_range : mg "range" = none) (M_len : mg "len" = none) (D_is_name : DefG P w K mg base 1 "is_name" ["name"] (spP K ca (aOne cS) (rV cB) F_is_name)) (EXN_InvalidName : ExnG P w K mg base 1 ca "InvalidName") (EXN_DoubleName : ExnG P w K mg base 1 ca "DoubleName") (f : Addr) (nd : N_check_names.Nodup) cd A outer s H E hr hgd, BX (ambOf P w K mg base ca N_check_names nd 2 "check_names" (defScope s_check_names) f cd A outer s H E hr hgd) [sVal (cL cS), sAny] (defBody s_check_names) [sVal (cL cS), sAny] (rrP (rV cN)) fb} := ⟨_, by
  intro P w K mg base ca M_range M_len D_is_name EXN_InvalidName EXN_DoubleName f nd cd A outer s H E hr hgd
  refine' bx_one ?_
  refine' sx_for (G1 := [sVal (cL cS), sVal cI]) (G2 := [sVal (cL cS), sVal cI]) (rix_r1 (by rfl) (by exact M_range) (rex_callB ct_lenL (by rfl) (by exact M_len) (by decide +kernel) (rax_one (rex_var at_z (by rfl) (by first | exact Or.inl rfl | exact Or.inr (Or.inl rfl) | exact Or.inr (Or.inr rfl)))))) (gx_name (up_s up_z) (by rfl) (by first | exact Or.inl rfl | exact Or.inr rfl) (by exact trivial) (by first | exact Or.inl rfl | exact Or.inr rfl)) ?g7 (sc_same (sc_any sc_id))
  case g7 =>
    refine' bx_cons (G1 := [sVal (cL cS), sVal cI]) ?g5 ?g6
    case g5 =>
      refine' sx_if (G' := [sVal (cL cS), sVal cI]) (rtx_not (rtx_val (rex_cal D_is_name (Nat.le_of_ble_eq_true (by rfl)) (by rfl) rtv (rax_one (rex_ixL (rex_var at_z (by rfl) (by first | exact Or.inl rfl | exact Or.inr (Or.inl rfl) | exact Or.inr (Or.inr rfl))) (rex_var (at_s at_z) (by rfl) (by first | exact Or.inl rfl | exact Or.inr (Or.inl rfl) | exact Or.inr (Or.inr rfl))) (by intro _ _; rfl)))))) ?g1 ?g2
      case g1 =>
        refine' bx_one ?_
        exact sx_raise EXN_InvalidName (Nat.le_of_ble_eq_true (by rfl)) (by rfl) dc_s (rex_ixL (rex_var at_z (by rfl) (by first | exact Or.inl rfl | exact Or.inr (Or.inl rfl) | exact Or.inr (Or.inr rfl))) (rex_var (at_s at_z) (by rfl) (by first | exact Or.inl rfl | exact Or.inr (Or.inl rfl) | exact Or.inr (Or.inr rfl))) (by intro _ _; rfl))
      case g2 =>
        exact bx_nil
    case g6 =>
      refine' bx_one ?_
      refine' sx_if (G' := [sVal (cL cS), sVal cI]) (rtx_cmp (ot_inLF fq_s) (rex_ixL (rex_var at_z (by rfl) (by first | exact Or.inl rfl | exact Or.inr (Or.inl rfl) | exact Or.inr (Or.inr rfl))) (rex_var (at_s at_z) (by rfl) (by first | exact Or.inl rfl | exact Or.inr (Or.inl rfl) | exact Or.inr (Or.inr rfl))) (by intro _ _; rfl)) (rex_frz frz_l (rex_cutL (rex_var at_z (by rfl) (by first | exact Or.inl rfl | exact Or.inr (Or.inl rfl) | exact Or.inr (Or.inr rfl))) rox_none (rox_some (rex_var (at_s at_z) (by rfl) (by first | exact Or.inl rfl | exact Or.inr (Or.inl rfl) | exact Or.inr (Or.inr rfl)))))) (by rfl)) ?g3 ?g4
      case g3 =>
        refine' bx_one ?_
        exact sx_raise EXN_DoubleName (Nat.le_of_ble_eq_true (by rfl)) (by rfl) dc_s (rex_ixL (rex_var at_z (by rfl) (by first | exact Or.inl rfl | exact Or.inr (Or.inl rfl) | exact Or.inr (Or.inr rfl))) (rex_var (at_s at_z) (by rfl) (by first | exact Or.inl rfl | exact Or.inr (Or.inl rfl) | exact Or.inr (Or.inr rfl))) (by intro _ _; rfl))
      case g4 =>
        exact bx_nil⟩
def F_check_names (y : (List Str)) : Res Unit := Res.bind ((fb_check_names ).1 (y, ((), ()))) endU
theorem okF_check_names {P : Program} {w : World} {K : Frag} {mg : Str → Option Value} {base : Heap} {ca : Str → Addr} {fa : Addr} {dvs : List V} {kws : List (Str × V)} {fd : FuncData} (F0 : FunD K "check_names" "check_names" (defArgs s_check_names) (defBody s_check_names) (defScope s_check_names) dvs kws fa fd) (M_range : mg "range" = none) (M_len : mg "len" = none) (D_is_name : DefG P w K mg base 1 "is_name" ["name"] (spP K ca (aOne cS) (rV cB) F_is_name)) (EXN_InvalidName : ExnG P w K mg base 1 ca "InvalidName") (EXN_DoubleName : ExnG P w K mg base 1 ca "DoubleName") : FnG P w K mg base 3 fa fd ["names"] (spP K ca (aOne (cL cS)) (rV cN) F_check_names) :=
  fn_U (as := (aOne (cL cS))) (G0 := [sVal (cL cS), sAny]) (ini := (fun y => (y, ((), ())))) (fb := (fb_check_names ).1) F0 sc_check_names (by rfl) (fun L H vs y wf h => by obtain ⟨v1, rfl, h1⟩ := h; exact ⟨⟨v1, rfl, h1⟩, trivial, Nat.le_of_ble_eq_true (by rfl)⟩) (fun nd cd A outer s H E hr hgd => (fb_check_names ).2 M_range M_len D_is_name EXN_InvalidName EXN_DoubleName fa nd cd A outer s H E hr hgd) (fun y => rfl)
theorem ok_check_names {P : Program} {w : World} {K : Frag} {mg : Str → Option Value} {base : Heap} {ca : Str → Addr} {fa : Addr} {fd : FuncData} (F0 : FunD K "check_names" "check_names" (defArgs s_check_names) (defBody s_check_names) (defScope s_check_names) [] [] fa fd) (M_range : mg "range" = none) (M_len : mg "len" = none) (D_is_name : DefG P w K mg base 1 "is_name" ["name"] (spP K ca (aOne cS) (rV cB) F_is_name)) (EXN_InvalidName : ExnG P w K mg base 1 ca "InvalidName") (EXN_DoubleName : ExnG P w K mg base 1 ca "DoubleName") (hm : mg "check_names" = some (.ref fa)) : DefG P w K mg base 3 "check_names" ["names"] (spP K ca (aOne (cL cS)) (rV cN) F_check_names) :=
  ⟨fa, fd, okF_check_names  F0 M_range M_len D_is_name EXN_InvalidName EXN_DoubleName, hm, F0.kp, (F0.bindsN (ps := ["names"]) fun _ _ _ _ _ _ us hl => match us, hl with | [_], _ => rfl), (kw_binds (ps := ["names"]) F0 fun _ _ _ _ _ _ us hl => match us, hl with | [_], _ => rfl)⟩
/-! check_table -/
abbrev s_check_table : Stmt := top 12
abbrev N_check_table : List Str := ["names", "table", "index", "follow", "answer"]
theorem sc_check_table : FnScope N_check_table ["names", "table"] (defScope s_check_table) := ⟨rfl, rfl, rfl, by decide +kernel, rfl, by decide +kernel, by decide +kernel⟩
def fb_check_table : {fb : CT [sVal (cL cS), sVal (cL (cL (cT (aCons cI (aOne (cO cI)))))), sAny, sAny, sAny] → Res (Out (CT [sVal (cL cS), sVal (cL (cL (cT (aCons cI (aOne (cO cI)))))), sAny, sAny, sAny]) Unit) // ∀ {P : Program} {w : World} {K : Frag} {mg : Str → Option Value} {base : Heap} {ca : Str → Addr} (M_range : mg "range" = none) (M_len : mg "len" = none) (EXN_InvalidState : ExnG P w K mg base 1 ca "InvalidState") (EXN_InvalidStep : ExnG P w K mg base 1 ca "InvalidStep") (f : Addr) (nd : N_check_table.Nodup) cd A outer s H E hr hgd, BX (ambOf P w K mg base ca N_check_table nd 2 "check_table" (defScope s_check_table) f cd A outer s H E hr hgd) [sVal (cL cS), sVal (cL (cL (cT (aCons cI (aOne (cO cI)))))), sAny, sAny, sAny] (defBody s_check_table) [sVal (cL cS), sVal (cL (cL (cT (aCons cI (aOne (cO cI)))))), sAny, sAny, sAny] (rrP (rV cN)) fb} := ⟨_, by
  intro P w K mg base ca M_range M_len EXN_InvalidState EXN_InvalidStep f nd cd A outer s H E hr hgd
  refine' bx_one ?_
  refine' sx_for (G1 := [sVal (cL cS), sVal (cL (cL (cT (aCons cI (aOne (cO cI)))))), sVal cI, sAny, sAny]) (G2 := [sVal (cL cS), sVal (cL (cL (cT (aCons cI (aOne (cO cI)))))), sVal cI, sAny, sAny]) (rix_r1 (by rfl) (by exact M_range) (rex_callB ct_lenL (by rfl) (by exact M_len) (by decide +kernel) (rax_one (rex_var (at_s at_z) (by rfl) (by first | exact Or.inl rfl | exact Or.inr (Or.inl rfl) | exact Or.inr (Or.inr rfl)))))) (gx_name (up_s (up_s up_z)) (by rfl) (by first | exact Or.inl rfl | exact Or.inr rfl) (by exact trivial) (by first | exact Or.inl rfl | exact Or.inr rfl)) ?g15 (sc_same (sc_same (sc_any sc_id)))
  case g15 =>
    refine' bx_cons (G1 := [sVal (cL cS), sVal (cL (cL (cT (aCons cI (aOne (cO cI)))))), sVal cI, sAny, sAny]) ?g13 ?g14
    case g13 =>
      refine' sx_if (G' := [sVal (cL cS), sVal (cL (cL (cT (aCons cI (aOne (cO cI)))))), sVal cI, sAny, sAny]) (rtx_cmp ot_ne (rex_callB ct_lenL (by rfl) (by exact M_len) (by decide +kernel) (rax_one (rex_ixL (rex_var (at_s at_z) (by rfl) (by first | exact Or.inl rfl | exact Or.inr (Or.inl rfl) | exact Or.inr (Or.inr rfl))) (rex_var (at_s (at_s at_z)) (by rfl) (by first | exact Or.inl rfl | exact Or.inr (Or.inl rfl) | exact Or.inr (Or.inr rfl))) (by intro _ _; rfl)))) (rex_callB ct_lenL (by rfl) (by exact M_len) (by decide +kernel) (rax_one (rex_var at_z (by rfl) (by first | exact Or.inl rfl | exact Or.inr (Or.inl rfl) | exact Or.inr (Or.inr rfl))))) (by rfl)) ?g8 ?g9
      case g8 =>
        refine' bx_one ?_
        exact sx_raise EXN_InvalidState (Nat.le_of_ble_eq_true (by rfl)) (by rfl) dc_i (rex_var (at_s (at_s at_z)) (by rfl) (by first | exact Or.inl rfl | exact Or.inr (Or.inl rfl) | exact Or.inr (Or.inr rfl)))
      case g9 =>
        exact bx_nil
    case g14 =>
      refine' bx_one ?_
      refine' sx_for (G1 := [sVal (cL cS), sVal (cL (cL (cT (aCons cI (aOne (cO cI)))))), sVal cI, sVal cI, sVal (cO cI)]) (G2 := [sVal (cL cS), sVal (cL (cL (cT (aCons cI (aOne (cO cI)))))), sVal cI, sVal cI, sVal (cO cI)]) (rix_l (rex_ixL (rex_var (at_s at_z) (by rfl) (by first | exact Or.inl rfl | exact Or.inr (Or.inl rfl) | exact Or.inr (Or.inr rfl))) (rex_var (at_s (at_s at_z)) (by rfl) (by first | exact Or.inl rfl | exact Or.inr (Or.inl rfl) | exact Or.inr (Or.inr rfl))) (by intro _ _; rfl))) (gx_tup (gxs_cons (gx_name (up_s (up_s (up_s up_z))) (by rfl) (by first | exact Or.inl rfl | exact Or.inr rfl) (by exact trivial) (by first | exact Or.inl rfl | exact Or.inr rfl)) (gxs_one (gx_name (up_s (up_s (up_s (up_s up_z)))) (by rfl) (by first | exact Or.inl rfl | exact Or.inr rfl) (by exact trivial) (by first | exact Or.inl rfl | exact Or.inr rfl))))) ?g12 (sc_same (sc_same (sc_same (sc_any (sc_any sc_id)))))
      case g12 =>
        refine' bx_one ?_
        refine' sx_if (G' := [sVal (cL cS), sVal (cL (cL (cT (aCons cI (aOne (cO cI)))))), sVal cI, sVal cI, sVal (cO cI)]) (rtx_not (rtx_chain ot_le ot_lt rex_int (rex_var (at_s (at_s (at_s at_z))) (by rfl) (by first | exact Or.inl rfl | exact Or.inr (Or.inl rfl) | exact Or.inr (Or.inr rfl))) (rex_callB ct_lenL (by rfl) (by exact M_len) (by decide +kernel) (rax_one (rex_var (at_s at_z) (by rfl) (by first | exact Or.inl rfl | exact Or.inr (Or.inl rfl) | exact Or.inr (Or.inr rfl))))) (by rfl))) ?g10 ?g11
        case g10 =>
          refine' bx_one ?_
          exact sx_raise EXN_InvalidStep (Nat.le_of_ble_eq_true (by rfl)) (by rfl) (dc_t (da_cons dc_i (da_one (dc_o dc_i)))) (rex_tup (rax_cons (rex_var (at_s (at_s (at_s at_z))) (by rfl) (by first | exact Or.inl rfl | exact Or.inr (Or.inl rfl) | exact Or.inr (Or.inr rfl))) (rax_one (rex_var (at_s (at_s (at_s (at_s at_z)))) (by rfl) (by first | exact Or.inl rfl | exact Or.inr (Or.inl rfl) | exact Or.inr (Or.inr rfl))))))
        case g11 =>
          exact bx_nil⟩
def F_check_table (y : (List Str) × (List (List (Int × (Option Int))))) : Res Unit := Res.bind ((fb_check_table ).1 (y.1, (y.2, ((), ((), ((), ())))))) endU
theorem okF_check_table {P : Program} {w : World} {K : Frag} {mg : Str → Option Value} {base : Heap} {ca : Str → Addr} {fa : Addr} {dvs : List V} {kws : List (Str × V)} {fd : FuncData} (F0 : FunD K "check_table" "check_table" (defArgs s_check_table) (defBody s_check_table) (defScope s_check_table) dvs kws fa fd) (M_range : mg "range" = none) (M_len : mg "len" = none) (EXN_InvalidState : ExnG P w K mg base 1 ca "InvalidState") (EXN_InvalidStep : ExnG P w K mg base 1 ca "InvalidStep") : FnG P w K mg base 3 fa fd ["names", "table"] (spP K ca (aCons (cL cS) (aOne (cL (cL (cT (aCons cI (aOne (cO cI)))))))) (rV cN) F_check_table) :=
  fn_U (as := (aCons (cL cS) (aOne (cL (cL (cT (aCons cI (aOne (cO cI))))))))) (G0 := [sVal (cL cS), sVal (cL (cL (cT (aCons cI (aOne (cO cI)))))), sAny, sAny, sAny]) (ini := (fun y => (y.1, (y.2, ((), ((), ((), ()))))))) (fb := (fb_check_table ).1) F0 sc_check_table (by rfl) (fun L H vs y wf h => by obtain ⟨v1, _, rfl, h1, v2, rfl, h2⟩ := h; exact ⟨⟨v1, rfl, h1⟩, ⟨v2, rfl, h2⟩, trivial, trivial, trivial, Nat.le_of_ble_eq_true (by rfl)⟩) (fun nd cd A outer s H E hr hgd => (fb_check_table ).2 M_range M_len EXN_InvalidState EXN_InvalidStep fa nd cd A outer s H E hr hgd) (fun y => rfl)
theorem ok_check_table {P : Program} {w : World} {K : Frag} {mg : Str → Option Value} {base : Heap} {ca : Str → Addr} {fa : Addr} {fd : FuncData} (F0 : FunD K "check_table" "check_table" (defArgs s_check_table) (defBody s_check_table) (defScope s_check_table) [] [] fa fd) (M_range : mg "range" = none) (M_len : mg "len" = none) (EXN_InvalidState : ExnG P w K mg base 1 ca "InvalidState") (EXN_InvalidStep : ExnG P w K mg base 1 ca "InvalidStep") (hm : mg "check_table" = some (.ref fa)) : DefG P w K mg base 3 "check_table" ["names", "table"] (spP K ca (aCons (cL cS) (aOne (cL (cL (cT (aCons cI (aOne (cO cI)))))))) (rV cN) F_check_table) :=
  ⟨fa, fd, okF_check_table  F0 M_range M_len EXN_InvalidState EXN_InvalidStep, hm, F0.kp, (F0.bindsN (ps := ["names", "table"]) fun _ _ _ _ _ _ us hl => match us, hl with | [_, _], _ => rfl), (kw_binds (ps := ["names", "table"]) F0 fun _ _ _ _ _ _ us hl => match us, hl with | [_, _], _ => rfl)⟩
/-! table_reached -/
abbrev s_table_reached : Stmt := top 13
abbrev N_table_reached : List Str := ["table", "places", "order", "found", "steps", "follow", "answer"]
theorem sc_table_reached : FnScope N_table_reached ["table"] (defScope s_table_reached) := ⟨rfl, rfl, rfl, by decide +kernel, rfl, by decide +kernel, by decide +kernel⟩
def fb_table_reached : {fb : CT [sVal (cL (cL (cT (aCons cI (aOne (cO cI)))))), sAny, sAny, sAny, sAny, sAny, sAny] → Res (Out (CT [sVal (cL (cL (cT (aCons cI (aOne (cO cI)))))), sAny, sAny, sAny, sAny, sAny, sAny]) (List (List (Int × (Option Int))))) // ∀ {P : Program} {w : World} {K : Frag} {mg : Str → Option Value} {base : Heap} {ca : Str → Addr} (M_len : mg "len" = none) (M_tuple : mg "tuple" = none) (f : Addr) (nd : N_table_reached.Nodup) cd A outer s H E hr hgd, BX (ambOf P w K mg base ca N_table_reached nd 0 "table_reached" (defScope s_table_reached) f cd A outer s H E hr hgd) [sVal (cL (cL (cT (aCons cI (aOne (cO cI)))))), sAny, sAny, sAny, sAny, sAny, sAny] (defBody s_table_reached) [sVal (cL (cL (cT (aCons cI (aOne (cO cI)))))), sAny, sAny, sAny, sAny, sAny, sAny] (rrP (rV (cTV (cTV (cT (aCons cI (aOne (cO cI)))))))) fb} := ⟨_, by
  intro P w K mg base ca M_len M_tuple f nd cd A outer s H E hr hgd
  refine' bx_cons (G1 := [sVal (cL (cL (cT (aCons cI (aOne (cO cI)))))), sOwn PAny (oD kI cI), sAny, sAny, sAny, sAny, sAny]) ?g34 ?g35
  case g34 =>
    exact sx_setO (up_s up_z) (by rfl) (by first | exact Or.inl rfl | exact Or.inr rfl) (rex_disp (rkx_cons rex_int rex_int (rkx_nil (kc := kI) (c := cI)))) (by exact trivial) (by rfl) (by first | exact Or.inl rfl | exact Or.inr rfl)
  case g35 =>
    refine' bx_cons (G1 := [sVal (cL (cL (cT (aCons cI (aOne (cO cI)))))), sOwn PAny (oD kI cI), sOwn PAny (oL cI), sAny, sAny, sAny, sAny]) ?g32 ?g33
    case g32 =>
      exact sx_setO (up_s (up_s up_z)) (by rfl) (by first | exact Or.inl rfl | exact Or.inr rfl) (rex_list (rax_consA rex_int rax_nilA)) (by exact trivial) (by rfl) (by first | exact Or.inl rfl | exact Or.inr rfl)
    case g33 =>
      refine' bx_cons (G1 := [sVal (cL (cL (cT (aCons cI (aOne (cO cI)))))), sOwn PAny (oD kI cI), sOwn PAny (oL cI), sOwn PAny (oL (cTV (cT (aCons cI (aOne (cO cI)))))), sAny, sAny, sAny]) ?g30 ?g31
      case g30 =>
        exact sx_setO (up_s (up_s (up_s up_z))) (by rfl) (by first | exact Or.inl rfl | exact Or.inr rfl) (rex_list (c := (cTV (cT (aCons cI (aOne (cO cI)))))) rax_nilA) (by exact trivial) (by rfl) (by first | exact Or.inl rfl | exact Or.inr rfl)
      case g31 =>
        refine' bx_cons (G1 := [sVal (cL (cL (cT (aCons cI (aOne (cO cI)))))), sOwn PAny (oD kI cI), sOwn PAny (oL cI), sOwn PAny (oL (cTV (cT (aCons cI (aOne (cO cI)))))), sAny, sAny, sAny]) ?g28 ?g29
        case g28 =>
          refine' sx_while (G2 := [sVal (cL (cL (cT (aCons cI (aOne (cO cI)))))), sOwn PAny (oD kI cI), sOwn PAny (oL cI), sOwn PAny (oL (cTV (cT (aCons cI (aOne (cO cI)))))), sOwn PAny (oL (cT (aCons cI (aOne (cO cI))))), sAny, sAny]) (rtx_cmp ot_lt (rex_lend (S := [3]) (T := []) (ln_val (ln_hold (ho_d hd_i) (by decide) (by decide) (ln_hold (ho_l hd_i) (by decide) (by decide) (ln_own frz_l (by decide) (ln_any (ln_any (ln_any ln_nil))))))) (rh_v hd_i) (rex_callB ct_lenL (by rfl) (by exact M_len) (by decide +kernel) (rax_one (rex_var (at_s (at_s (at_s at_z))) (by rfl) (by first | exact Or.inl rfl | exact Or.inr (Or.inl rfl) | exact Or.inr (Or.inr rfl)))))) (rex_lend (S := [2]) (T := []) (ln_val (ln_hold (ho_d hd_i) (by decide) (by decide) (ln_own frz_l (by decide) (ln_hold (ho_l (hd_tv (hd_t (ha_cons hd_i (ha_one (hd_o hd_i)))))) (by decide) (by decide) (ln_any (ln_any (ln_any ln_nil))))))) (rh_v hd_i) (rex_callB ct_lenL (by rfl) (by exact M_len) (by decide +kernel) (rax_one (rex_var (at_s (at_s at_z)) (by rfl) (by first | exact Or.inl rfl | exact Or.inr (Or.inl rfl) | exact Or.inr (Or.inr rfl)))))) (by rfl)) ?g27 (sc_same (sc_same (sc_same (sc_same (sc_any sc_id)))))
          case g27 =>
            refine' bx_cons (G1 := [sVal (cL (cL (cT (aCons cI (aOne (cO cI)))))), sOwn PAny (oD kI cI), sOwn PAny (oL cI), sOwn PAny (oL (cTV (cT (aCons cI (aOne (cO cI)))))), sOwn PAny (oL (cT (aCons cI (aOne (cO cI))))), sAny, sAny]) ?g25 ?g26
            case g25 =>
              exact sx_setO (up_s (up_s (up_s (up_s up_z)))) (by rfl) (by first | exact Or.inl rfl | exact Or.inr rfl) (rex_list (c := (cT (aCons cI (aOne (cO cI))))) rax_nilA) (by exact trivial) (by rfl) (by first | exact Or.inl rfl | exact Or.inr rfl)
            case g26 =>
              refine' bx_cons (G1 := [sVal (cL (cL (cT (aCons cI (aOne (cO cI)))))), sOwn PAny (oD kI cI), sOwn PAny (oL cI), sOwn PAny (oL (cTV (cT (aCons cI (aOne (cO cI)))))), sOwn PAny (oL (cT (aCons cI (aOne (cO cI))))), sAny, sAny]) ?g23 ?g24
              case g23 =>
                refine' sx_for (G1 := [sVal (cL (cL (cT (aCons cI (aOne (cO cI)))))), sOwn PAny (oD kI cI), sOwn PAny (oL cI), sOwn PAny (oL (cTV (cT (aCons cI (aOne (cO cI)))))), sOwn PAny (oL (cT (aCons cI (aOne (cO cI))))), sVal cI, sVal (cO cI)]) (G2 := [sVal (cL (cL (cT (aCons cI (aOne (cO cI)))))), sOwn PAny (oD kI cI), sOwn PAny (oL cI), sOwn PAny (oL (cTV (cT (aCons cI (aOne (cO cI)))))), sOwn PAny (oL (cT (aCons cI (aOne (cO cI))))), sVal cI, sVal (cO cI)]) (rix_l (rex_ixL (rex_var at_z (by rfl) (by first | exact Or.inl rfl | exact Or.inr (Or.inl rfl) | exact Or.inr (Or.inr rfl))) (rex_lend (S := [2]) (T := []) (ln_val (ln_hold (ho_d hd_i) (by decide) (by decide) (ln_own frz_l (by decide) (ln_hold (ho_l (hd_tv (hd_t (ha_cons hd_i (ha_one (hd_o hd_i)))))) (by decide) (by decide) (ln_hold (ho_l (hd_t (ha_cons hd_i (ha_one (hd_o hd_i))))) (by decide) (by decide) (ln_any (ln_any ln_nil))))))) (rh_v hd_i) (rex_ixL (rex_var (at_s (at_s at_z)) (by rfl) (by first | exact Or.inl rfl | exact Or.inr (Or.inl rfl) | exact Or.inr (Or.inr rfl))) (rex_lend (S := [3]) (T := []) (ln_val (ln_hold (ho_d hd_i) (by decide) (by decide) (ln_val (ln_own frz_l (by decide) (ln_hold (ho_l (hd_t (ha_cons hd_i (ha_one (hd_o hd_i))))) (by decide) (by decide) (ln_any (ln_any ln_nil))))))) (rh_v hd_i) (rex_callB ct_lenL (by rfl) (by exact M_len) (by decide +kernel) (rax_one (rex_var (at_s (at_s (at_s at_z))) (by rfl) (by first | exact Or.inl rfl | exact Or.inr (Or.inl rfl) | exact Or.inr (Or.inr rfl)))))) (by intro _ _; rfl))) (by intro _ _; rfl))) (gx_tup (gxs_cons (gx_name (up_s (up_s (up_s (up_s (up_s up_z))))) (by rfl) (by first | exact Or.inl rfl | exact Or.inr rfl) (by exact trivial) (by first | exact Or.inl rfl | exact Or.inr rfl)) (gxs_one (gx_name (up_s (up_s (up_s (up_s (up_s (up_s up_z)))))) (by rfl) (by first | exact Or.inl rfl | exact Or.inr rfl) (by exact trivial) (by first | exact Or.inl rfl | exact Or.inr rfl))))) ?g22 (sc_same (sc_same (sc_same (sc_same (sc_same (sc_any (sc_any sc_id)))))))
                case g22 =>
                  refine' bx_cons (G1 := [sVal (cL (cL (cT (aCons cI (aOne (cO cI)))))), sOwn PAny (oD kI cI), sOwn PAny (oL cI), sOwn PAny (oL (cTV (cT (aCons cI (aOne (cO cI)))))), sOwn PAny (oL (cT (aCons cI (aOne (cO cI))))), sVal cI, sVal (cO cI)]) ?g20 ?g21
                  case g20 =>
                    refine' sx_if (G' := [sVal (cL (cL (cT (aCons cI (aOne (cO cI)))))), sOwn PAny (oD kI cI), sOwn PAny (oL cI), sOwn PAny (oL (cTV (cT (aCons cI (aOne (cO cI)))))), sOwn PAny (oL (cT (aCons cI (aOne (cO cI))))), sVal cI, sVal (cO cI)]) (rtx_lend (S := [1]) (T := []) (ln_val (ln_own frz_d (by decide) (ln_hold (ho_l hd_i) (by decide) (by decide) (ln_hold (ho_l (hd_tv (hd_t (ha_cons hd_i (ha_one (hd_o hd_i)))))) (by decide) (by decide) (ln_hold (ho_l (hd_t (ha_cons hd_i (ha_one (hd_o hd_i))))) (by decide) (by decide) (ln_val (ln_val ln_nil))))))) (rtx_cmp ot_notInD (rex_var (at_s (at_s (at_s (at_s (at_s at_z))))) (by rfl) (by first | exact Or.inl rfl | exact Or.inr (Or.inl rfl) | exact Or.inr (Or.inr rfl))) (rex_var (at_s at_z) (by rfl) (by first | exact Or.inl rfl | exact Or.inr (Or.inl rfl) | exact Or.inr (Or.inr rfl))) (by rfl))) ?g18 ?g19
                    case g18 =>
                      refine' bx_cons (G1 := [sVal (cL (cL (cT (aCons cI (aOne (cO cI)))))), sOwn PAny (oD kI cI), sOwn PAny (oL cI), sOwn PAny (oL (cTV (cT (aCons cI (aOne (cO cI)))))), sOwn PAny (oL (cT (aCons cI (aOne (cO cI))))), sVal cI, sVal (cO cI)]) ?g16 ?g17
                      case g16 =>
                        exact sx_setD (at_s at_z) (md_s md_z) (by rfl) (by first | exact Or.inl rfl | exact Or.inr (Or.inl rfl) | exact Or.inr (Or.inr rfl)) (rex_lend (S := [2]) (T := []) (ln_val (ln_hold (ho_d hd_i) (by decide) (by decide) (ln_own frz_l (by decide) (ln_hold (ho_l (hd_tv (hd_t (ha_cons hd_i (ha_one (hd_o hd_i)))))) (by decide) (by decide) (ln_hold (ho_l (hd_t (ha_cons hd_i (ha_one (hd_o hd_i))))) (by decide) (by decide) (ln_val (ln_val ln_nil))))))) (rh_v hd_i) (rex_callB ct_lenL (by rfl) (by exact M_len) (by decide +kernel) (rax_one (rex_var (at_s (at_s at_z)) (by rfl) (by first | exact Or.inl rfl | exact Or.inr (Or.inl rfl) | exact Or.inr (Or.inr rfl)))))) (rex_var (at_s (at_s (at_s (at_s (at_s at_z))))) (by rfl) (by first | exact Or.inl rfl | exact Or.inr (Or.inl rfl) | exact Or.inr (Or.inr rfl))) (by rfl)
                      case g17 =>
                        refine' bx_one ?_
                        exact sx_expr (ex_ownM mt_app PySem.F.slot_list_append (by rfl) (at_s (at_s at_z)) (md_s (md_s md_z)) (by rfl) (by first | exact Or.inl rfl | exact Or.inr (Or.inl rfl) | exact Or.inr (Or.inr rfl)) (rax_one (rex_var (at_s (at_s (at_s (at_s (at_s at_z))))) (by rfl) (by first | exact Or.inl rfl | exact Or.inr (Or.inl rfl) | exact Or.inr (Or.inr rfl)))))
                    case g19 =>
                      exact bx_nil
                  case g21 =>
                    refine' bx_one ?_
                    exact sx_expr (ex_ownM mt_app PySem.F.slot_list_append (by rfl) (at_s (at_s (at_s (at_s at_z)))) (md_s (md_s (md_s (md_s md_z)))) (by rfl) (by first | exact Or.inl rfl | exact Or.inr (Or.inl rfl) | exact Or.inr (Or.inr rfl)) (rax_one (rex_tup (rax_cons (rex_lend (S := [1]) (T := []) (ln_val (ln_own frz_d (by decide) (ln_hold (ho_l hd_i) (by decide) (by decide) (ln_hold (ho_l (hd_tv (hd_t (ha_cons hd_i (ha_one (hd_o hd_i)))))) (by decide) (by decide) (ln_hold (ho_l (hd_t (ha_cons hd_i (ha_one (hd_o hd_i))))) (by decide) (by decide) (ln_val (ln_val ln_nil))))))) (rh_v hd_i) (rex_ixD (rex_var (at_s at_z) (by rfl) (by first | exact Or.inl rfl | exact Or.inr (Or.inl rfl) | exact Or.inr (Or.inr rfl))) (rex_var (at_s (at_s (at_s (at_s (at_s at_z))))) (by rfl) (by first | exact Or.inl rfl | exact Or.inr (Or.inl rfl) | exact Or.inr (Or.inr rfl))) (by intro _ _; rfl))) (rax_one (rex_var (at_s (at_s (at_s (at_s (at_s (at_s at_z)))))) (by rfl) (by first | exact Or.inl rfl | exact Or.inr (Or.inl rfl) | exact Or.inr (Or.inr rfl))))))))
              case g24 =>
                refine' bx_one ?_
                exact sx_expr (ex_ownM mt_app PySem.F.slot_list_append (by rfl) (at_s (at_s (at_s at_z))) (md_s (md_s (md_s md_z))) (by rfl) (by first | exact Or.inl rfl | exact Or.inr (Or.inl rfl) | exact Or.inr (Or.inr rfl)) (rax_one (rex_lend (S := [4]) (T := []) (ln_val (ln_hold (ho_d hd_i) (by decide) (by decide) (ln_hold (ho_l hd_i) (by decide) (by decide) (ln_hold (ho_l (hd_tv (hd_t (ha_cons hd_i (ha_one (hd_o hd_i)))))) (by decide) (by decide) (ln_own frz_l (by decide) (ln_any (ln_any ln_nil))))))) (rh_v (hd_tv (hd_t (ha_cons hd_i (ha_one (hd_o hd_i)))))) (rex_callTy ct_tupleL (by rfl) (by exact M_tuple) (by decide +kernel) (rax_one (rex_var (at_s (at_s (at_s (at_s at_z)))) (by rfl) (by first | exact Or.inl rfl | exact Or.inr (Or.inl rfl) | exact Or.inr (Or.inr rfl))))))))
        case g29 =>
          refine' bx_one ?_
          exact sx_ret (rex_lend (S := [3]) (T := []) (ln_val (ln_hold (ho_d hd_i) (by decide) (by decide) (ln_hold (ho_l hd_i) (by decide) (by decide) (ln_own frz_l (by decide) (ln_any (ln_any (ln_any ln_nil))))))) (rh_v (hd_tv (hd_tv (hd_t (ha_cons hd_i (ha_one (hd_o hd_i))))))) (rex_callTy ct_tupleL (by rfl) (by exact M_tuple) (by decide +kernel) (rax_one (rex_var (at_s (at_s (at_s at_z))) (by rfl) (by first | exact Or.inl rfl | exact Or.inr (Or.inl rfl) | exact Or.inr (Or.inr rfl))))))⟩
def F_table_reached (y : (List (List (Int × (Option Int))))) : Res (List (List (Int × (Option Int)))) := Res.bind ((fb_table_reached ).1 (y, ((), ((), ((), ((), ((), ((), ())))))))) endV
theorem okF_table_reached {P : Program} {w : World} {K : Frag} {mg : Str → Option Value} {base : Heap} {ca : Str → Addr} {fa : Addr} {dvs : List V} {kws : List (Str × V)} {fd : FuncData} (F0 : FunD K "table_reached" "table_reached" (defArgs s_table_reached) (defBody s_table_reached) (defScope s_table_reached) dvs kws fa fd) (M_len : mg "len" = none) (M_tuple : mg "tuple" = none) : FnG P w K mg base 1 fa fd ["table"] (spP K ca (aOne (cL (cL (cT (aCons cI (aOne (cO cI))))))) (rV (cTV (cTV (cT (aCons cI (aOne (cO cI))))))) F_table_reached) :=
  fn_P (as := (aOne (cL (cL (cT (aCons cI (aOne (cO cI)))))))) (G0 := [sVal (cL (cL (cT (aCons cI (aOne (cO cI)))))), sAny, sAny, sAny, sAny, sAny, sAny]) (ini := (fun y => (y, ((), ((), ((), ((), ((), ((), ()))))))))) (fb := (fb_table_reached ).1) F0 sc_table_reached (by rfl) (fun L H vs y wf h => by obtain ⟨v1, rfl, h1⟩ := h; exact ⟨⟨v1, rfl, h1⟩, trivial, trivial, trivial, trivial, trivial, trivial, Nat.le_of_ble_eq_true (by rfl)⟩) (fun nd cd A outer s H E hr hgd => (fb_table_reached ).2 M_len M_tuple fa nd cd A outer s H E hr hgd) (fun y => rfl)
theorem ok_table_reached {P : Program} {w : World} {K : Frag} {mg : Str → Option Value} {base : Heap} {ca : Str → Addr} {fa : Addr} {fd : FuncData} (F0 : FunD K "table_reached" "table_reached" (defArgs s_table_reached) (defBody s_table_reached) (defScope s_table_reached) [] [] fa fd) (M_len : mg "len" = none) (M_tuple : mg "tuple" = none) (hm : mg "table_reached" = some (.ref fa)) : DefG P w K mg base 1 "table_reached" ["table"] (spP K ca (aOne (cL (cL (cT (aCons cI (aOne (cO cI))))))) (rV (cTV (cTV (cT (aCons cI (aOne (cO cI))))))) F_table_reached) :=
  ⟨fa, fd, okF_table_reached  F0 M_len M_tuple, hm, F0.kp, (F0.bindsN (ps := ["table"]) fun _ _ _ _ _ _ us hl => match us, hl with | [_], _ => rfl), (kw_binds (ps := ["table"]) F0 fun _ _ _ _ _ _ us hl => match us, hl with | [_], _ => rfl)⟩
/-! Service.__init__ -/
abbrev s_Service_init : Stmt := sub 14 0
abbrev N_Service_init : List Str := ["self", "names", "table"]
theorem sc_Service_init : FnScope N_Service_init ["self", "names", "table"] (defScope s_Service_init) := ⟨rfl, rfl, rfl, by decide +kernel, rfl, by decide +kernel, by decide +kernel⟩
def fb_Service_init (A_Service : Addr) : {fb : (v0 : V) → CT [sSelf A_Service (fun v => v = v0) fNil, sVal (cL cS), sVal (cL (cL (cT (aCons cI (aOne (cO cI))))))] → Res (Out (CT [sSelf A_Service (fun v => v = v0) (fSnoc (fSnoc fNil "kept_names" (cTN cS)) "kept_table" (cTV (cTV (cT (aCons cI (aOne (cO cI))))))), sVal (cL cS), sVal (cL (cL (cT (aCons cI (aOne (cO cI))))))]) Unit) // ∀ {P : Program} {w : World} {K : Frag} {mg : Str → Option Value} {base : Heap} {ca : Str → Addr} (D_check_names : DefG P w K mg base 3 "check_names" ["names"] (spP K ca (aOne (cL cS)) (rV cN) F_check_names)) (D_check_table : DefG P w K mg base 3 "check_table" ["names", "table"] (spP K ca (aCons (cL cS) (aOne (cL (cL (cT (aCons cI (aOne (cO cI)))))))) (rV cN) F_check_table)) (M_tuple : mg "tuple" = none) (C_Service : ClsG K mg "Service" A_Service) (NA_Service_kept_names : NoAttr K A_Service "kept_names") (D_table_reached : DefG P w K mg base 1 "table_reached" ["table"] (spP K ca (aOne (cL (cL (cT (aCons cI (aOne (cO cI))))))) (rV (cTV (cTV (cT (aCons cI (aOne (cO cI))))))) F_table_reached)) (NA_Service_kept_table : NoAttr K A_Service "kept_table") (f : Addr) (v0 : V) (nd : N_Service_init.Nodup) cd A outer s H E hr hgd, BX (ambOf P w K mg base ca N_Service_init nd 3 "Service.__init__" (defScope s_Service_init) f cd A outer s H E hr hgd) [sSelf A_Service (fun v => v = v0) fNil, sVal (cL cS), sVal (cL (cL (cT (aCons cI (aOne (cO cI))))))] (defBody s_Service_init) [sSelf A_Service (fun v => v = v0) (fSnoc (fSnoc fNil "kept_names" (cTN cS)) "kept_table" (cTV (cTV (cT (aCons cI (aOne (cO cI))))))), sVal (cL cS), sVal (cL (cL (cT (aCons cI (aOne (cO cI))))))] (rrP (rV cN)) (fb v0)} := ⟨_, by
  intro P w K mg base ca D_check_names D_check_table M_tuple C_Service NA_Service_kept_names D_table_reached NA_Service_kept_table f v0 nd cd A outer s H E hr hgd
  refine' bx_cons (G1 := [sSelf A_Service (fun v => v = v0) fNil, sVal (cL cS), sVal (cL (cL (cT (aCons cI (aOne (cO cI))))))]) ?g40 ?g41
  case g40 =>
    exact sx_expr (rex_cal D_check_names (Nat.le_of_ble_eq_true (by rfl)) (by rfl) rtv (rax_one (rex_var (at_s at_z) (by rfl) (by first | exact Or.inl rfl | exact Or.inr (Or.inl rfl) | exact Or.inr (Or.inr rfl)))))
  case g41 =>
    refine' bx_cons (G1 := [sSelf A_Service (fun v => v = v0) fNil, sVal (cL cS), sVal (cL (cL (cT (aCons cI (aOne (cO cI))))))]) ?g38 ?g39
    case g38 =>
      exact sx_expr (rex_cal D_check_table (Nat.le_of_ble_eq_true (by rfl)) (by rfl) rtv (rax_cons (rex_var (at_s at_z) (by rfl) (by first | exact Or.inl rfl | exact Or.inr (Or.inl rfl) | exact Or.inr (Or.inr rfl))) (rax_one (rex_var (at_s (at_s at_z)) (by rfl) (by first | exact Or.inl rfl | exact Or.inr (Or.inl rfl) | exact Or.inr (Or.inr rfl))))))
    case g39 =>
      refine' bx_cons (G1 := [sSelf A_Service (fun v => v = v0) (fSnoc fNil "kept_names" (cTN cS)), sVal (cL cS), sVal (cL (cL (cT (aCons cI (aOne (cO cI))))))]) ?g36 ?g37
      case g36 =>
        exact sx_fld at_z (by rfl) (by first | exact Or.inl rfl | exact Or.inr (Or.inl rfl) | exact Or.inr (Or.inr rfl)) C_Service.cls NA_Service_kept_names nk_nil mo_self (len_ok len_nil (by decide)) (rex_callTy ct_tupleN (by rfl) (by exact M_tuple) (by decide +kernel) (rax_one (rex_var (at_s at_z) (by rfl) (by first | exact Or.inl rfl | exact Or.inr (Or.inl rfl) | exact Or.inr (Or.inr rfl))))) (by rfl)
      case g37 =>
        refine' bx_one ?_
        exact sx_fld at_z (by rfl) (by first | exact Or.inl rfl | exact Or.inr (Or.inl rfl) | exact Or.inr (Or.inr rfl)) C_Service.cls NA_Service_kept_table (nk_snoc nk_nil (by decide)) mo_self (len_ok (len_snoc len_nil) (by decide)) (rex_cal D_table_reached (Nat.le_of_ble_eq_true (by rfl)) (by rfl) rtv (rax_one (rex_var (at_s (at_s at_z)) (by rfl) (by first | exact Or.inl rfl | exact Or.inr (Or.inl rfl) | exact Or.inr (Or.inr rfl))))) (by rfl)⟩
def F_Service_init (y : (List Str) × (List (List (Int × (Option Int))))) : Res ((Unit × (List Str)) × (List (List (Int × (Option Int))))) := Res.bind ((fb_Service_init 0 ).1 .non ((), (y.1, (y.2, ())))) endN
theorem okF_Service_init {P : Program} {w : World} {K : Frag} {mg : Str → Option Value} {base : Heap} {ca : Str → Addr} {fa : Addr} {dvs : List V} {kws : List (Str × V)} {fd : FuncData} {A_Service : Addr} (F0 : FunD K "__init__" "Service.__init__" (defArgs s_Service_init) (defBody s_Service_init) (defScope s_Service_init) dvs kws fa fd) (D_check_names : DefG P w K mg base 3 "check_names" ["names"] (spP K ca (aOne (cL cS)) (rV cN) F_check_names)) (D_check_table : DefG P w K mg base 3 "check_table" ["names", "table"] (spP K ca (aCons (cL cS) (aOne (cL (cL (cT (aCons cI (aOne (cO cI)))))))) (rV cN) F_check_table)) (M_tuple : mg "tuple" = none) (C_Service : ClsG K mg "Service" A_Service) (NA_Service_kept_names : NoAttr K A_Service "kept_names") (D_table_reached : DefG P w K mg base 1 "table_reached" ["table"] (spP K ca (aOne (cL (cL (cT (aCons cI (aOne (cO cI))))))) (rV (cTV (cTV (cT (aCons cI (aOne (cO cI))))))) F_table_reached)) (NA_Service_kept_table : NoAttr K A_Service "kept_table") : FnG P w K mg base 4 fa fd ["self", "names", "table"] (spN K ca A_Service (aCons (cL cS) (aOne (cL (cL (cT (aCons cI (aOne (cO cI)))))))) (fSnoc (fSnoc fNil "kept_names" (cTN cS)) "kept_table" (cTV (cTV (cT (aCons cI (aOne (cO cI))))))) F_Service_init) :=
  fn_N (as := (aCons (cL cS) (aOne (cL (cL (cT (aCons cI (aOne (cO cI))))))))) (G1 := [sVal (cL cS), sVal (cL (cL (cT (aCons cI (aOne (cO cI))))))]) (ini := (fun y => (y.1, (y.2, ())))) (fb := (fb_Service_init A_Service ).1) F0 sc_Service_init (by rfl) (fun L H v0 ws y wf h => by obtain ⟨v1, _, rfl, h1, v2, rfl, h2⟩ := h; exact ⟨⟨v1, rfl, h1⟩, ⟨v2, rfl, h2⟩, Nat.le_of_ble_eq_true (by rfl)⟩) (fun v0 nd cd A outer s H E hr hgd => (fb_Service_init A_Service ).2 D_check_names D_check_table M_tuple C_Service NA_Service_kept_names D_table_reached NA_Service_kept_table fa v0 nd cd A outer s H E hr hgd) (fun v0 y => rfl)
theorem ok_Service_init {P : Program} {w : World} {K : Frag} {mg : Str → Option Value} {base : Heap} {ca : Str → Addr} {fa : Addr} {fd : FuncData} {A_Service : Addr} (F0 : FunD K "__init__" "Service.__init__" (defArgs s_Service_init) (defBody s_Service_init) (defScope s_Service_init) [] [] fa fd) (D_check_names : DefG P w K mg base 3 "check_names" ["names"] (spP K ca (aOne (cL cS)) (rV cN) F_check_names)) (D_check_table : DefG P w K mg base 3 "check_table" ["names", "table"] (spP K ca (aCons (cL cS) (aOne (cL (cL (cT (aCons cI (aOne (cO cI)))))))) (rV cN) F_check_table)) (M_tuple : mg "tuple" = none) (C_Service : ClsG K mg "Service" A_Service) (NA_Service_kept_names : NoAttr K A_Service "kept_names") (D_table_reached : DefG P w K mg base 1 "table_reached" ["table"] (spP K ca (aOne (cL (cL (cT (aCons cI (aOne (cO cI))))))) (rV (cTV (cTV (cT (aCons cI (aOne (cO cI))))))) F_table_reached)) (NA_Service_kept_table : NoAttr K A_Service "kept_table") (hm : mg "Service" = some (.ref A_Service)) (M : Mk K A_Service fa) : MakG P w K mg base 4 "Service" A_Service ["self", "names", "table"] (spN K ca A_Service (aCons (cL cS) (aOne (cL (cL (cT (aCons cI (aOne (cO cI)))))))) (fSnoc (fSnoc fNil "kept_names" (cTN cS)) "kept_table" (cTV (cTV (cT (aCons cI (aOne (cO cI))))))) F_Service_init) :=
  ⟨⟨fa, fd, okF_Service_init (A_Service := A_Service) F0 D_check_names D_check_table M_tuple C_Service NA_Service_kept_names D_table_reached NA_Service_kept_table, (F0.bindsN (ps := ["self", "names", "table"]) fun _ _ _ _ _ _ us hl => match us, hl with | [_, _, _], _ => rfl), M⟩, hm⟩
/-! Service.__eq__ -/
abbrev s_Service___eq__ : Stmt := sub 14 6
abbrev N_Service___eq__ : List Str := ["self", "other"]
theorem sc_Service___eq__ : FnScope N_Service___eq__ ["self", "other"] (defScope s_Service___eq__) := ⟨rfl, rfl, rfl, by decide +kernel, rfl, by decide +kernel, by decide +kernel⟩
def fb_Service___eq__ (A_Service : Addr) : {fb : CT [sVal (cIns A_Service (fSnoc (fSnoc fNil "kept_names" (cTN cS)) "kept_table" (cTV (cTV (cT (aCons cI (aOne (cO cI)))))))), sVal (cIns A_Service (fSnoc (fSnoc fNil "kept_names" (cTN cS)) "kept_table" (cTV (cTV (cT (aCons cI (aOne (cO cI))))))))] → Res (Out (CT [sVal (cIns A_Service (fSnoc (fSnoc fNil "kept_names" (cTN cS)) "kept_table" (cTV (cTV (cT (aCons cI (aOne (cO cI)))))))), sVal (cIns A_Service (fSnoc (fSnoc fNil "kept_names" (cTN cS)) "kept_table" (cTV (cTV (cT (aCons cI (aOne (cO cI))))))))]) Bool) // ∀ {P : Program} {w : World} {K : Frag} {mg : Str → Option Value} {base : Heap} {ca : Str → Addr} (C_Service : ClsG K mg "Service" A_Service) (ISI_Service : IsiC K A_Service) (KIT_Service_Service : PySem.W.kitOne K (.ref A_Service) (.ref A_Service) = some true) (M_isinstance : mg "isinstance" = none) (NA_Service_kept_table : NoAttr K A_Service "kept_table") (NA_Service_kept_names : NoAttr K A_Service "kept_names") (f : Addr) (nd : N_Service___eq__.Nodup) cd A outer s H E hr hgd, BX (ambOf P w K mg base ca N_Service___eq__ nd 0 "Service.__eq__" (defScope s_Service___eq__) f cd A outer s H E hr hgd) [sVal (cIns A_Service (fSnoc (fSnoc fNil "kept_names" (cTN cS)) "kept_table" (cTV (cTV (cT (aCons cI (aOne (cO cI)))))))), sVal (cIns A_Service (fSnoc (fSnoc fNil "kept_names" (cTN cS)) "kept_table" (cTV (cTV (cT (aCons cI (aOne (cO cI))))))))] (defBody s_Service___eq__) [sVal (cIns A_Service (fSnoc (fSnoc fNil "kept_names" (cTN cS)) "kept_table" (cTV (cTV (cT (aCons cI (aOne (cO cI)))))))), sVal (cIns A_Service (fSnoc (fSnoc fNil "kept_names" (cTN cS)) "kept_table" (cTV (cTV (cT (aCons cI (aOne (cO cI))))))))] (rrP (rV cB)) fb} := ⟨_, by
  intro P w K mg base ca C_Service ISI_Service KIT_Service_Service M_isinstance NA_Service_kept_table NA_Service_kept_names f nd cd A outer s H E hr hgd
  refine' bx_cons (G1 := [sVal (cIns A_Service (fSnoc (fSnoc fNil "kept_names" (cTN cS)) "kept_table" (cTV (cTV (cT (aCons cI (aOne (cO cI)))))))), sVal (cIns A_Service (fSnoc (fSnoc fNil "kept_names" (cTN cS)) "kept_table" (cTV (cTV (cT (aCons cI (aOne (cO cI))))))))]) ?g44 ?g45
  case g44 =>
    refine' sx_if (G' := [sVal (cIns A_Service (fSnoc (fSnoc fNil "kept_names" (cTN cS)) "kept_table" (cTV (cTV (cT (aCons cI (aOne (cO cI)))))))), sVal (cIns A_Service (fSnoc (fSnoc fNil "kept_names" (cTN cS)) "kept_table" (cTV (cTV (cT (aCons cI (aOne (cO cI))))))))]) (rtx_not (rtx_val (rex_callB (ct_isiI (b := true) ISI_Service KIT_Service_Service) (by rfl) (by exact M_isinstance) (by decide +kernel) (rax_cons (rex_var (at_s at_z) (by rfl) (by first | exact Or.inl rfl | exact Or.inr (Or.inl rfl) | exact Or.inr (Or.inr rfl))) (rax_one (rex_cls (by rfl) C_Service)))))) ?g42 ?g43
    case g42 =>
      refine' bx_one ?_
      exact sx_ret rex_bool
    case g43 =>
      exact bx_nil
  case g45 =>
    refine' bx_one ?_
    exact sx_ret (rex_and (rex_cmp (ot_eqD (dc_tv dc_s) (dc_tv dc_s) (by decide) (by decide)) (rex_sub sub_tn (rex_fld C_Service.cls NA_Service_kept_names (fp_s (fp_z nk_nil) (by decide)) (rex_var at_z (by rfl) (by first | exact Or.inl rfl | exact Or.inr (Or.inl rfl) | exact Or.inr (Or.inr rfl))))) (rex_sub sub_tn (rex_fld C_Service.cls NA_Service_kept_names (fp_s (fp_z nk_nil) (by decide)) (rex_var (at_s at_z) (by rfl) (by first | exact Or.inl rfl | exact Or.inr (Or.inl rfl) | exact Or.inr (Or.inr rfl))))) (by rfl)) (rex_and1 (rex_cmp (ot_eqD (dc_tv (dc_tv (dc_t (da_cons dc_i (da_one (dc_o dc_i)))))) (dc_tv (dc_tv (dc_t (da_cons dc_i (da_one (dc_o dc_i)))))) (by decide) (by decide)) (rex_fld C_Service.cls NA_Service_kept_table (fp_z (nk_snoc nk_nil (by decide))) (rex_var at_z (by rfl) (by first | exact Or.inl rfl | exact Or.inr (Or.inl rfl) | exact Or.inr (Or.inr rfl)))) (rex_fld C_Service.cls NA_Service_kept_table (fp_z (nk_snoc nk_nil (by decide))) (rex_var (at_s at_z) (by rfl) (by first | exact Or.inl rfl | exact Or.inr (Or.inl rfl) | exact Or.inr (Or.inr rfl)))) (by rfl))))⟩
def F_Service___eq__ (y : ((Unit × (List Str)) × (List (List (Int × (Option Int))))) × ((Unit × (List Str)) × (List (List (Int × (Option Int)))))) : Res Bool := Res.bind ((fb_Service___eq__ 0 ).1 (y.1, (y.2, ()))) endV
theorem okF_Service___eq__ {P : Program} {w : World} {K : Frag} {mg : Str → Option Value} {base : Heap} {ca : Str → Addr} {fa : Addr} {dvs : List V} {kws : List (Str × V)} {fd : FuncData} {A_Service : Addr} (F0 : FunD K "__eq__" "Service.__eq__" (defArgs s_Service___eq__) (defBody s_Service___eq__) (defScope s_Service___eq__) dvs kws fa fd) (C_Service : ClsG K mg "Service" A_Service) (ISI_Service : IsiC K A_Service) (KIT_Service_Service : PySem.W.kitOne K (.ref A_Service) (.ref A_Service) = some true) (M_isinstance : mg "isinstance" = none) (NA_Service_kept_table : NoAttr K A_Service "kept_table") (NA_Service_kept_names : NoAttr K A_Service "kept_names") : FnG P w K mg base 1 fa fd ["self", "other"] (spP K ca (aCons (cIns A_Service (fSnoc (fSnoc fNil "kept_names" (cTN cS)) "kept_table" (cTV (cTV (cT (aCons cI (aOne (cO cI)))))))) (aOne (cIns A_Service (fSnoc (fSnoc fNil "kept_names" (cTN cS)) "kept_table" (cTV (cTV (cT (aCons cI (aOne (cO cI)))))))))) (rV cB) F_Service___eq__) :=
  fn_P (as := (aCons (cIns A_Service (fSnoc (fSnoc fNil "kept_names" (cTN cS)) "kept_table" (cTV (cTV (cT (aCons cI (aOne (cO cI)))))))) (aOne (cIns A_Service (fSnoc (fSnoc fNil "kept_names" (cTN cS)) "kept_table" (cTV (cTV (cT (aCons cI (aOne (cO cI))))))))))) (G0 := [sVal (cIns A_Service (fSnoc (fSnoc fNil "kept_names" (cTN cS)) "kept_table" (cTV (cTV (cT (aCons cI (aOne (cO cI)))))))), sVal (cIns A_Service (fSnoc (fSnoc fNil "kept_names" (cTN cS)) "kept_table" (cTV (cTV (cT (aCons cI (aOne (cO cI))))))))]) (ini := (fun y => (y.1, (y.2, ())))) (fb := (fb_Service___eq__ A_Service ).1) F0 sc_Service___eq__ (by rfl) (fun L H vs y wf h => by obtain ⟨v1, _, rfl, h1, v2, rfl, h2⟩ := h; exact ⟨⟨v1, rfl, h1⟩, ⟨v2, rfl, h2⟩, Nat.le_of_ble_eq_true (by rfl)⟩) (fun nd cd A outer s H E hr hgd => (fb_Service___eq__ A_Service ).2 C_Service ISI_Service KIT_Service_Service M_isinstance NA_Service_kept_table NA_Service_kept_names fa nd cd A outer s H E hr hgd) (fun y => rfl)
/-! Service.__getitem__ -/
abbrev s_Service___getitem__ : Stmt := sub 14 4
abbrev N_Service___getitem__ : List Str := ["self", "name", "index", "steps"]
theorem sc_Service___getitem__ : FnScope N_Service___getitem__ ["self", "name"] (defScope s_Service___getitem__) := ⟨rfl, rfl, rfl, by decide +kernel, rfl, by decide +kernel, by decide +kernel⟩
def fb_Service___getitem__ (A_Service : Addr) : {fb : CT [sVal (cIns A_Service (fSnoc (fSnoc fNil "kept_names" (cTN cS)) "kept_table" (cTV (cTV (cT (aCons cI (aOne (cO cI)))))))), sVal cS, sAny, sAny] → Res (Out (CT [sVal (cIns A_Service (fSnoc (fSnoc fNil "kept_names" (cTN cS)) "kept_table" (cTV (cTV (cT (aCons cI (aOne (cO cI)))))))), sVal cS, sAny, sAny]) (List (Int × (Option Int)))) // ∀ {P : Program} {w : World} {K : Frag} {mg : Str → Option Value} {base : Heap} {ca : Str → Addr} (C_Service : ClsG K mg "Service" A_Service) (NA_Service_kept_names : NoAttr K A_Service "kept_names") (EXN_UnknownCall : ExnG P w K mg base 1 ca "UnknownCall") (NA_Service_kept_table : NoAttr K A_Service "kept_table") (f : Addr) (nd : N_Service___getitem__.Nodup) cd A outer s H E hr hgd, BX (ambOf P w K mg base ca N_Service___getitem__ nd 2 "Service.__getitem__" (defScope s_Service___getitem__) f cd A outer s H E hr hgd) [sVal (cIns A_Service (fSnoc (fSnoc fNil "kept_names" (cTN cS)) "kept_table" (cTV (cTV (cT (aCons cI (aOne (cO cI)))))))), sVal cS, sAny, sAny] (defBody s_Service___getitem__) [sVal (cIns A_Service (fSnoc (fSnoc fNil "kept_names" (cTN cS)) "kept_table" (cTV (cTV (cT (aCons cI (aOne (cO cI)))))))), sVal cS, sAny, sAny] (rrP (rO (oL (cT (aCons cI (aOne (cO cI))))))) fb} := ⟨_, by
  intro P w K mg base ca C_Service NA_Service_kept_names EXN_UnknownCall NA_Service_kept_table f nd cd A outer s H E hr hgd
  refine' bx_cons (G1 := [sVal (cIns A_Service (fSnoc (fSnoc fNil "kept_names" (cTN cS)) "kept_table" (cTV (cTV (cT (aCons cI (aOne (cO cI)))))))), sVal cS, sAny, sAny]) ?g50 ?g51
  case g50 =>
    refine' sx_if (G' := [sVal (cIns A_Service (fSnoc (fSnoc fNil "kept_names" (cTN cS)) "kept_table" (cTV (cTV (cT (aCons cI (aOne (cO cI)))))))), sVal cS, sAny, sAny]) (rtx_cmp (ot_notInTV fq_s) (rex_var (at_s at_z) (by rfl) (by first | exact Or.inl rfl | exact Or.inr (Or.inl rfl) | exact Or.inr (Or.inr rfl))) (rex_sub sub_tn (rex_fld C_Service.cls NA_Service_kept_names (fp_s (fp_z nk_nil) (by decide)) (rex_var at_z (by rfl) (by first | exact Or.inl rfl | exact Or.inr (Or.inl rfl) | exact Or.inr (Or.inr rfl))))) (by rfl)) ?g46 ?g47
    case g46 =>
      refine' bx_one ?_
      exact sx_raise EXN_UnknownCall (Nat.le_of_ble_eq_true (by rfl)) (by rfl) dc_s (rex_var (at_s at_z) (by rfl) (by first | exact Or.inl rfl | exact Or.inr (Or.inl rfl) | exact Or.inr (Or.inr rfl)))
    case g47 =>
      exact bx_nil
  case g51 =>
    refine' bx_cons (G1 := [sVal (cIns A_Service (fSnoc (fSnoc fNil "kept_names" (cTN cS)) "kept_table" (cTV (cTV (cT (aCons cI (aOne (cO cI)))))))), sVal cS, sVal cI, sAny]) ?g48 ?g49
    case g48 =>
      exact sx_set (up_s (up_s up_z)) (by rfl) (by first | exact Or.inl rfl | exact Or.inr rfl) (rex_indexN (rex_fld C_Service.cls NA_Service_kept_names (fp_s (fp_z nk_nil) (by decide)) (rex_var at_z (by rfl) (by first | exact Or.inl rfl | exact Or.inr (Or.inl rfl) | exact Or.inr (Or.inr rfl)))) (rex_var (at_s at_z) (by rfl) (by first | exact Or.inl rfl | exact Or.inr (Or.inl rfl) | exact Or.inr (Or.inr rfl)))) (by exact trivial) (by rfl) (by first | exact Or.inl rfl | exact Or.inr rfl)
    case g49 =>
      refine' bx_one ?_
      exact sx_ret (rex_lc (own := [("steps", 3)]) (rix_t (rex_fld C_Service.cls NA_Service_kept_table (fp_z (nk_snoc nk_nil (by decide))) (rex_var at_z (by rfl) (by first | exact Or.inl rfl | exact Or.inr (Or.inl rfl) | exact Or.inr (Or.inr rfl))))) (blkOk_by (by rfl)) (wc_keep (by decide) (wc_keep (by decide) (wc_keep (by decide) (wc_any wc_nil)))) (fun _ _ _ _ _ => (gx_name (up_s (up_s (up_s up_z))) (by rfl) (by first | exact Or.inl rfl | exact Or.inr rfl) (by show (3 : Nat) ∈ [3]; decide) (by first | exact Or.inl rfl | exact Or.inr rfl))) (fun _ _ _ _ _ => (rex_ixT (rex_var (at_s (at_s (at_s at_z))) (by rfl) (by first | exact Or.inl rfl | exact Or.inr (Or.inl rfl) | exact Or.inr (Or.inr rfl))) (rex_var (at_s (at_s at_z)) (by rfl) (by first | exact Or.inl rfl | exact Or.inr (Or.inl rfl) | exact Or.inr (Or.inr rfl))) (by intro _ _; rfl))) (wc_keep (by decide) (wc_keep (by decide) (wc_keep (by decide) (wc_val wc_nil)))))⟩
def F_Service___getitem__ (y : ((Unit × (List Str)) × (List (List (Int × (Option Int))))) × Str) : Res (List (Int × (Option Int))) := Res.bind ((fb_Service___getitem__ 0 ).1 (y.1, (y.2, ((), ((), ()))))) endV
theorem okF_Service___getitem__ {P : Program} {w : World} {K : Frag} {mg : Str → Option Value} {base : Heap} {ca : Str → Addr} {fa : Addr} {dvs : List V} {kws : List (Str × V)} {fd : FuncData} {A_Service : Addr} (F0 : FunD K "__getitem__" "Service.__getitem__" (defArgs s_Service___getitem__) (defBody s_Service___getitem__) (defScope s_Service___getitem__) dvs kws fa fd) (C_Service : ClsG K mg "Service" A_Service) (NA_Service_kept_names : NoAttr K A_Service "kept_names") (EXN_UnknownCall : ExnG P w K mg base 1 ca "UnknownCall") (NA_Service_kept_table : NoAttr K A_Service "kept_table") : FnG P w K mg base 3 fa fd ["self", "name"] (spP K ca (aCons (cIns A_Service (fSnoc (fSnoc fNil "kept_names" (cTN cS)) "kept_table" (cTV (cTV (cT (aCons cI (aOne (cO cI)))))))) (aOne cS)) (rO (oL (cT (aCons cI (aOne (cO cI)))))) F_Service___getitem__) :=
  fn_P (as := (aCons (cIns A_Service (fSnoc (fSnoc fNil "kept_names" (cTN cS)) "kept_table" (cTV (cTV (cT (aCons cI (aOne (cO cI)))))))) (aOne cS))) (G0 := [sVal (cIns A_Service (fSnoc (fSnoc fNil "kept_names" (cTN cS)) "kept_table" (cTV (cTV (cT (aCons cI (aOne (cO cI)))))))), sVal cS, sAny, sAny]) (ini := (fun y => (y.1, (y.2, ((), ((), ())))))) (fb := (fb_Service___getitem__ A_Service ).1) F0 sc_Service___getitem__ (by rfl) (fun L H vs y wf h => by obtain ⟨v1, _, rfl, h1, v2, rfl, h2⟩ := h; exact ⟨⟨v1, rfl, h1⟩, ⟨v2, rfl, h2⟩, trivial, trivial, Nat.le_of_ble_eq_true (by rfl)⟩) (fun nd cd A outer s H E hr hgd => (fb_Service___getitem__ A_Service ).2 C_Service NA_Service_kept_names EXN_UnknownCall NA_Service_kept_table fa nd cd A outer s H E hr hgd) (fun y => rfl)
/-! Service.run -/
abbrev s_Service_run : Stmt := sub 14 7
abbrev N_Service_run : List Str := ["self", "row", "state", "name", "answers", "answer"]
theorem sc_Service_run : FnScope N_Service_run ["self", "row", "state"] (defScope s_Service_run) := ⟨rfl, rfl, rfl, by decide +kernel, rfl, by decide +kernel, by decide +kernel⟩
def fb_Service_run (A_Service : Addr) : {fb : CT [sVal (cIns A_Service (fSnoc (fSnoc fNil "kept_names" (cTN cS)) "kept_table" (cTV (cTV (cT (aCons cI (aOne (cO cI)))))))), sVal (cL cS), sVal cI, sAny, sAny, sAny] → Res (Out (CT [sVal (cIns A_Service (fSnoc (fSnoc fNil "kept_names" (cTN cS)) "kept_table" (cTV (cTV (cT (aCons cI (aOne (cO cI)))))))), sVal (cL cS), sVal cI, sAny, sAny, sAny]) ((List (Option Int)) × Int)) // ∀ {P : Program} {w : World} {K : Frag} {mg : Str → Option Value} {base : Heap} {ca : Str → Addr} (C_Service : ClsG K mg "Service" A_Service) (NA_Service_kept_table : NoAttr K A_Service "kept_table") (M_len : mg "len" = none) (EXN_InvalidState : ExnG P w K mg base 1 ca "InvalidState") (NA_Service_kept_names : NoAttr K A_Service "kept_names") (EXN_UnknownCall : ExnG P w K mg base 1 ca "UnknownCall") (f : Addr) (nd : N_Service_run.Nodup) cd A outer s H E hr hgd, BX (ambOf P w K mg base ca N_Service_run nd 2 "Service.run" (defScope s_Service_run) f cd A outer s H E hr hgd) [sVal (cIns A_Service (fSnoc (fSnoc fNil "kept_names" (cTN cS)) "kept_table" (cTV (cTV (cT (aCons cI (aOne (cO cI)))))))), sVal (cL cS), sVal cI, sAny, sAny, sAny] (defBody s_Service_run) [sVal (cIns A_Service (fSnoc (fSnoc fNil "kept_names" (cTN cS)) "kept_table" (cTV (cTV (cT (aCons cI (aOne (cO cI)))))))), sVal (cL cS), sVal cI, sAny, sAny, sAny] (rrP (rO (oT (oOc (oL (cO cI)) (oV1 cI))))) fb} := ⟨_, by
  intro P w K mg base ca C_Service NA_Service_kept_table M_len EXN_InvalidState NA_Service_kept_names EXN_UnknownCall f nd cd A outer s H E hr hgd
  refine' bx_cons (G1 := [sVal (cIns A_Service (fSnoc (fSnoc fNil "kept_names" (cTN cS)) "kept_table" (cTV (cTV (cT (aCons cI (aOne (cO cI)))))))), sVal (cL cS), sVal cI, sAny, sAny, sAny]) ?g67 ?g68
  case g67 =>
    refine' sx_if (G' := [sVal (cIns A_Service (fSnoc (fSnoc fNil "kept_names" (cTN cS)) "kept_table" (cTV (cTV (cT (aCons cI (aOne (cO cI)))))))), sVal (cL cS), sVal cI, sAny, sAny, sAny]) (rtx_not (rtx_chain ot_le ot_lt rex_int (rex_var (at_s (at_s at_z)) (by rfl) (by first | exact Or.inl rfl | exact Or.inr (Or.inl rfl) | exact Or.inr (Or.inr rfl))) (rex_callB ct_lenT (by rfl) (by exact M_len) (by decide +kernel) (rax_one (rex_fld C_Service.cls NA_Service_kept_table (fp_z (nk_snoc nk_nil (by decide))) (rex_var at_z (by rfl) (by first | exact Or.inl rfl | exact Or.inr (Or.inl rfl) | exact Or.inr (Or.inr rfl)))))) (by rfl))) ?g52 ?g53
    case g52 =>
      refine' bx_one ?_
      exact sx_raise EXN_InvalidState (Nat.le_of_ble_eq_true (by rfl)) (by rfl) dc_i (rex_var (at_s (at_s at_z)) (by rfl) (by first | exact Or.inl rfl | exact Or.inr (Or.inl rfl) | exact Or.inr (Or.inr rfl)))
    case g53 =>
      exact bx_nil
  case g68 =>
    refine' bx_cons (G1 := [sVal (cIns A_Service (fSnoc (fSnoc fNil "kept_names" (cTN cS)) "kept_table" (cTV (cTV (cT (aCons cI (aOne (cO cI)))))))), sVal (cL cS), sVal cI, sAny, sAny, sAny]) ?g65 ?g66
    case g65 =>
      refine' sx_for (G1 := [sVal (cIns A_Service (fSnoc (fSnoc fNil "kept_names" (cTN cS)) "kept_table" (cTV (cTV (cT (aCons cI (aOne (cO cI)))))))), sVal (cL cS), sVal cI, sVal cS, sAny, sAny]) (G2 := [sVal (cIns A_Service (fSnoc (fSnoc fNil "kept_names" (cTN cS)) "kept_table" (cTV (cTV (cT (aCons cI (aOne (cO cI)))))))), sVal (cL cS), sVal cI, sVal cS, sAny, sAny]) (rix_l (rex_var (at_s at_z) (by rfl) (by first | exact Or.inl rfl | exact Or.inr (Or.inl rfl) | exact Or.inr (Or.inr rfl)))) (gx_name (up_s (up_s (up_s up_z))) (by rfl) (by first | exact Or.inl rfl | exact Or.inr rfl) (by exact trivial) (by first | exact Or.inl rfl | exact Or.inr rfl)) ?g56 (sc_same (sc_same (sc_same (sc_any sc_id))))
      case g56 =>
        refine' bx_one ?_
        refine' sx_if (G' := [sVal (cIns A_Service (fSnoc (fSnoc fNil "kept_names" (cTN cS)) "kept_table" (cTV (cTV (cT (aCons cI (aOne (cO cI)))))))), sVal (cL cS), sVal cI, sVal cS, sAny, sAny]) (rtx_cmp (ot_notInTV fq_s) (rex_var (at_s (at_s (at_s at_z))) (by rfl) (by first | exact Or.inl rfl | exact Or.inr (Or.inl rfl) | exact Or.inr (Or.inr rfl))) (rex_sub sub_tn (rex_fld C_Service.cls NA_Service_kept_names (fp_s (fp_z nk_nil) (by decide)) (rex_var at_z (by rfl) (by first | exact Or.inl rfl | exact Or.inr (Or.inl rfl) | exact Or.inr (Or.inr rfl))))) (by rfl)) ?g54 ?g55
        case g54 =>
          refine' bx_one ?_
          exact sx_raise EXN_UnknownCall (Nat.le_of_ble_eq_true (by rfl)) (by rfl) dc_s (rex_var (at_s (at_s (at_s at_z))) (by rfl) (by first | exact Or.inl rfl | exact Or.inr (Or.inl rfl) | exact Or.inr (Or.inr rfl)))
        case g55 =>
          exact bx_nil
    case g66 =>
      refine' bx_cons (G1 := [sVal (cIns A_Service (fSnoc (fSnoc fNil "kept_names" (cTN cS)) "kept_table" (cTV (cTV (cT (aCons cI (aOne (cO cI)))))))), sVal (cL cS), sVal cI, sAny, sOwn PAny (oL (cO cI)), sAny]) ?g63 ?g64
      case g63 =>
        exact sx_setO (up_s (up_s (up_s (up_s up_z)))) (by rfl) (by first | exact Or.inl rfl | exact Or.inr rfl) (rex_list (c := (cO cI)) rax_nilA) (by exact trivial) (by rfl) (by first | exact Or.inl rfl | exact Or.inr rfl)
      case g64 =>
        refine' bx_cons (G1 := [sVal (cIns A_Service (fSnoc (fSnoc fNil "kept_names" (cTN cS)) "kept_table" (cTV (cTV (cT (aCons cI (aOne (cO cI)))))))), sVal (cL cS), sVal cI, sAny, sOwn PAny (oL (cO cI)), sAny]) ?g61 ?g62
        case g61 =>
          refine' sx_for (G1 := [sVal (cIns A_Service (fSnoc (fSnoc fNil "kept_names" (cTN cS)) "kept_table" (cTV (cTV (cT (aCons cI (aOne (cO cI)))))))), sVal (cL cS), sVal cI, sVal cS, sOwn PAny (oL (cO cI)), sAny]) (G2 := [sVal (cIns A_Service (fSnoc (fSnoc fNil "kept_names" (cTN cS)) "kept_table" (cTV (cTV (cT (aCons cI (aOne (cO cI)))))))), sVal (cL cS), sVal cI, sVal cS, sOwn PAny (oL (cO cI)), sVal (cO cI)]) (rix_l (rex_var (at_s at_z) (by rfl) (by first | exact Or.inl rfl | exact Or.inr (Or.inl rfl) | exact Or.inr (Or.inr rfl)))) (gx_name (up_s (up_s (up_s up_z))) (by rfl) (by first | exact Or.inl rfl | exact Or.inr rfl) (by exact trivial) (by first | exact Or.inl rfl | exact Or.inr rfl)) ?g59 (sc_same (sc_same (sc_same (sc_any (sc_same (sc_any sc_id))))))
          case g59 =>
            refine' bx_cons (G1 := [sVal (cIns A_Service (fSnoc (fSnoc fNil "kept_names" (cTN cS)) "kept_table" (cTV (cTV (cT (aCons cI (aOne (cO cI)))))))), sVal (cL cS), sVal cI, sVal cS, sOwn PAny (oL (cO cI)), sVal (cO cI)]) ?g57 ?g58
            case g57 =>
              exact sx_asg (rex_ixT (rex_ixT (rex_fld C_Service.cls NA_Service_kept_table (fp_z (nk_snoc nk_nil (by decide))) (rex_var at_z (by rfl) (by first | exact Or.inl rfl | exact Or.inr (Or.inl rfl) | exact Or.inr (Or.inr rfl)))) (rex_var (at_s (at_s at_z)) (by rfl) (by first | exact Or.inl rfl | exact Or.inr (Or.inl rfl) | exact Or.inr (Or.inr rfl))) (by intro _ _; rfl)) (rex_indexN (rex_fld C_Service.cls NA_Service_kept_names (fp_s (fp_z nk_nil) (by decide)) (rex_var at_z (by rfl) (by first | exact Or.inl rfl | exact Or.inr (Or.inl rfl) | exact Or.inr (Or.inr rfl)))) (rex_var (at_s (at_s (at_s at_z))) (by rfl) (by first | exact Or.inl rfl | exact Or.inr (Or.inl rfl) | exact Or.inr (Or.inr rfl)))) (by intro _ _; rfl)) (gx_tup (gxs_cons (gx_name (up_s (up_s up_z)) (by rfl) (by first | exact Or.inl rfl | exact Or.inr rfl) (by exact trivial) (by first | exact Or.inl rfl | exact Or.inr rfl)) (gxs_one (gx_name (up_s (up_s (up_s (up_s (up_s up_z))))) (by rfl) (by first | exact Or.inl rfl | exact Or.inr rfl) (by exact trivial) (by first | exact Or.inl rfl | exact Or.inr rfl)))))
            case g58 =>
              refine' bx_one ?_
              exact sx_expr (ex_ownM mt_app PySem.F.slot_list_append (by rfl) (at_s (at_s (at_s (at_s at_z)))) (md_s (md_s (md_s (md_s md_z)))) (by rfl) (by first | exact Or.inl rfl | exact Or.inr (Or.inl rfl) | exact Or.inr (Or.inr rfl)) (rax_one (rex_var (at_s (at_s (at_s (at_s (at_s at_z))))) (by rfl) (by first | exact Or.inl rfl | exact Or.inr (Or.inl rfl) | exact Or.inr (Or.inr rfl)))))
        case g62 =>
          refine' bx_sub (G1 := [sVal (cIns A_Service (fSnoc (fSnoc fNil "kept_names" (cTN cS)) "kept_table" (cTV (cTV (cT (aCons cI (aOne (cO cI)))))))), sVal (cL cS), sVal cI, sAny, sOpt (oL (cO cI)), sAny]) (sc_same (sc_same (sc_same (sc_same (sc_opt sc_id))))) ?g60
          case g60 =>
            refine' bx_one ?_
            exact sx_ret (ex_tupO (axt_oc sh_l (ex_mvPl uo_l (md_s (md_s (md_s (md_s md_z)))) (px_nameO (at_s (at_s (at_s (at_s at_z)))) (by rfl) (by first | exact Or.inl rfl | exact Or.inr (Or.inl rfl) | exact Or.inr (Or.inr rfl)))) (raxt_v1 (rex_var (at_s (at_s at_z)) (by rfl) (by first | exact Or.inl rfl | exact Or.inr (Or.inl rfl) | exact Or.inr (Or.inr rfl))))))⟩
def F_Service_run (y : ((Unit × (List Str)) × (List (List (Int × (Option Int))))) × (List Str) × Int) : Res ((List (Option Int)) × Int) := Res.bind ((fb_Service_run 0 ).1 (y.1, (y.2.1, (y.2.2, ((), ((), ((), ()))))))) endV
theorem okF_Service_run {P : Program} {w : World} {K : Frag} {mg : Str → Option Value} {base : Heap} {ca : Str → Addr} {fa : Addr} {dvs : List V} {kws : List (Str × V)} {fd : FuncData} {A_Service : Addr} (F0 : FunD K "run" "Service.run" (defArgs s_Service_run) (defBody s_Service_run) (defScope s_Service_run) dvs kws fa fd) (C_Service : ClsG K mg "Service" A_Service) (NA_Service_kept_table : NoAttr K A_Service "kept_table") (M_len : mg "len" = none) (EXN_InvalidState : ExnG P w K mg base 1 ca "InvalidState") (NA_Service_kept_names : NoAttr K A_Service "kept_names") (EXN_UnknownCall : ExnG P w K mg base 1 ca "UnknownCall") : FnG P w K mg base 3 fa fd ["self", "row", "state"] (spP K ca (aCons (cIns A_Service (fSnoc (fSnoc fNil "kept_names" (cTN cS)) "kept_table" (cTV (cTV (cT (aCons cI (aOne (cO cI)))))))) (aCons (cL cS) (aOne cI))) (rO (oT (oOc (oL (cO cI)) (oV1 cI)))) F_Service_run) :=
  fn_P (as := (aCons (cIns A_Service (fSnoc (fSnoc fNil "kept_names" (cTN cS)) "kept_table" (cTV (cTV (cT (aCons cI (aOne (cO cI)))))))) (aCons (cL cS) (aOne cI)))) (G0 := [sVal (cIns A_Service (fSnoc (fSnoc fNil "kept_names" (cTN cS)) "kept_table" (cTV (cTV (cT (aCons cI (aOne (cO cI)))))))), sVal (cL cS), sVal cI, sAny, sAny, sAny]) (ini := (fun y => (y.1, (y.2.1, (y.2.2, ((), ((), ((), ())))))))) (fb := (fb_Service_run A_Service ).1) F0 sc_Service_run (by rfl) (fun L H vs y wf h => by obtain ⟨v1, _, rfl, h1, v2, _, rfl, h2, v3, rfl, h3⟩ := h; exact ⟨⟨v1, rfl, h1⟩, ⟨v2, rfl, h2⟩, ⟨v3, rfl, h3⟩, trivial, trivial, trivial, Nat.le_of_ble_eq_true (by rfl)⟩) (fun nd cd A outer s H E hr hgd => (fb_Service_run A_Service ).2 C_Service NA_Service_kept_table M_len EXN_InvalidState NA_Service_kept_names EXN_UnknownCall fa nd cd A outer s H E hr hgd) (fun y => rfl)
/-! _law_kit -/
abbrev s__law_kit : Stmt := top 16
abbrev N__law_kit : List Str := ["script", "place", "figure", "start"]
theorem sc__law_kit : FnScope N__law_kit ["script", "place"] (defScope s__law_kit) := ⟨rfl, rfl, rfl, by decide +kernel, rfl, by decide +kernel, by decide +kernel⟩
def fb__law_kit : {fb : CT [sVal (cLK cI), sVal cI, sAny, sAny] → Res (Out (CT [sVal (cLK cI), sVal cI, sAny, sAny]) (List Int)) // ∀ {P : Program} {w : World} {K : Frag} {mg : Str → Option Value} {base : Heap} {ca : Str → Addr} (M_len : mg "len" = none) (M_abs : mg "abs" = none) (M_int : mg "int" = none) (f : Addr) (nd : N__law_kit.Nodup) cd A outer s H E hr hgd, BX (ambOf P w K mg base ca N__law_kit nd 0 "_law_kit" (defScope s__law_kit) f cd A outer s H E hr hgd) [sVal (cLK cI), sVal cI, sAny, sAny] (defBody s__law_kit) [sVal (cLK cI), sVal cI, sAny, sAny] (rrP (rO (oL cI))) fb} := ⟨_, by
  intro P w K mg base ca M_len M_abs M_int f nd cd A outer s H E hr hgd
  refine' bx_cons (G1 := [sVal (cLK cI), sVal cI, sVal cI, sAny]) ?g75 ?g76
  case g75 =>
    exact sx_set (up_s (up_s up_z)) (by rfl) (by first | exact Or.inl rfl | exact Or.inr rfl) rex_int (by exact trivial) (by rfl) (by first | exact Or.inl rfl | exact Or.inr rfl)
  case g76 =>
    refine' bx_cons (G1 := [sVal (cLK cI), sVal cI, sVal cI, sAny]) ?g73 ?g74
    case g73 =>
      refine' sx_if (G' := [sVal (cLK cI), sVal cI, sVal cI, sAny]) (rtx_cmp ot_lt (rex_var (at_s at_z) (by rfl) (by first | exact Or.inl rfl | exact Or.inr (Or.inl rfl) | exact Or.inr (Or.inr rfl))) (rex_callB ct_lenK (by rfl) (by exact M_len) (by decide +kernel) (rax_one (rex_var at_z (by rfl) (by first | exact Or.inl rfl | exact Or.inr (Or.inl rfl) | exact Or.inr (Or.inr rfl))))) (by rfl)) ?g69 ?g70
      case g69 =>
        refine' bx_one ?_
        exact sx_set (up_s (up_s up_z)) (by rfl) (by first | exact Or.inl rfl | exact Or.inr rfl) (rex_ixK (rex_var at_z (by rfl) (by first | exact Or.inl rfl | exact Or.inr (Or.inl rfl) | exact Or.inr (Or.inr rfl))) (rex_var (at_s at_z) (by rfl) (by first | exact Or.inl rfl | exact Or.inr (Or.inl rfl) | exact Or.inr (Or.inr rfl))) (by intro _ _; rfl)) (by exact trivial) (by rfl) (by first | exact Or.inl rfl | exact Or.inr rfl)
      case g70 =>
        exact bx_nil
    case g74 =>
      refine' bx_cons (G1 := [sVal (cLK cI), sVal cI, sVal cI, sVal cI]) ?g71 ?g72
      case g71 =>
        exact sx_set (up_s (up_s (up_s up_z))) (by rfl) (by first | exact Or.inl rfl | exact Or.inr rfl) (rex_op ot_mod (rex_callTy ct_intI (by rfl) (by exact M_int) (by decide +kernel) (rax_one (rex_op ot_add (rex_op ot_mul (rex_callB ct_abs (by rfl) (by exact M_abs) (by decide +kernel) (rax_one (rex_var (at_s (at_s at_z)) (by rfl) (by first | exact Or.inl rfl | exact Or.inr (Or.inl rfl) | exact Or.inr (Or.inr rfl))))) rex_int) (rex_callTy ct_intB (by rfl) (by exact M_int) (by decide +kernel) (rax_one (rex_cmp ot_lt (rex_var (at_s (at_s at_z)) (by rfl) (by first | exact Or.inl rfl | exact Or.inr (Or.inl rfl) | exact Or.inr (Or.inr rfl))) rex_int (by rfl))))))) rex_int) (by exact trivial) (by rfl) (by first | exact Or.inl rfl | exact Or.inr rfl)
      case g72 =>
        refine' bx_one ?_
        exact sx_ret (rex_list (rax_consA (rex_op ot_mul (rex_var (at_s (at_s at_z)) (by rfl) (by first | exact Or.inl rfl | exact Or.inr (Or.inl rfl) | exact Or.inr (Or.inr rfl))) (rex_callTy ct_intB (by rfl) (by exact M_int) (by decide +kernel) (rax_one (rex_cmp ot_ge (rex_var (at_s (at_s at_z)) (by rfl) (by first | exact Or.inl rfl | exact Or.inr (Or.inl rfl) | exact Or.inr (Or.inr rfl))) (rex_op ot_pow rex_int rex_int) (by rfl))))) (rax_consA (rex_op ot_add (rex_var (at_s (at_s (at_s at_z))) (by rfl) (by first | exact Or.inl rfl | exact Or.inr (Or.inl rfl) | exact Or.inr (Or.inr rfl))) (rex_op ot_mul rex_int (rex_var (at_s at_z) (by rfl) (by first | exact Or.inl rfl | exact Or.inr (Or.inl rfl) | exact Or.inr (Or.inr rfl))))) (rax_consA rex_int rax_nilA))))⟩
def F__law_kit (y : (List Int) × Int) : Res (List Int) := Res.bind ((fb__law_kit ).1 (y.1, (y.2, ((), ((), ()))))) endV
theorem okF__law_kit {P : Program} {w : World} {K : Frag} {mg : Str → Option Value} {base : Heap} {ca : Str → Addr} {fa : Addr} {dvs : List V} {kws : List (Str × V)} {fd : FuncData} (F0 : FunD K "_law_kit" "_law_kit" (defArgs s__law_kit) (defBody s__law_kit) (defScope s__law_kit) dvs kws fa fd) (M_len : mg "len" = none) (M_abs : mg "abs" = none) (M_int : mg "int" = none) : FnG P w K mg base 1 fa fd ["script", "place"] (spP K ca (aCons (cLK cI) (aOne cI)) (rO (oL cI)) F__law_kit) :=
  fn_P (as := (aCons (cLK cI) (aOne cI))) (G0 := [sVal (cLK cI), sVal cI, sAny, sAny]) (ini := (fun y => (y.1, (y.2, ((), ((), ())))))) (fb := (fb__law_kit ).1) F0 sc__law_kit (by rfl) (fun L H vs y wf h => by obtain ⟨v1, _, rfl, h1, v2, rfl, h2⟩ := h; exact ⟨⟨v1, rfl, h1⟩, ⟨v2, rfl, h2⟩, trivial, trivial, Nat.le_of_ble_eq_true (by rfl)⟩) (fun nd cd A outer s H E hr hgd => (fb__law_kit ).2 M_len M_abs M_int fa nd cd A outer s H E hr hgd) (fun y => rfl)
theorem ok__law_kit {P : Program} {w : World} {K : Frag} {mg : Str → Option Value} {base : Heap} {ca : Str → Addr} {fa : Addr} {fd : FuncData} (F0 : FunD K "_law_kit" "_law_kit" (defArgs s__law_kit) (defBody s__law_kit) (defScope s__law_kit) [] [] fa fd) (M_len : mg "len" = none) (M_abs : mg "abs" = none) (M_int : mg "int" = none) (hm : mg "_law_kit" = some (.ref fa)) : DefG P w K mg base 1 "_law_kit" ["script", "place"] (spP K ca (aCons (cLK cI) (aOne cI)) (rO (oL cI)) F__law_kit) :=
  ⟨fa, fd, okF__law_kit  F0 M_len M_abs M_int, hm, F0.kp, (F0.bindsN (ps := ["script", "place"]) fun _ _ _ _ _ _ us hl => match us, hl with | [_, _], _ => rfl), (kw_binds (ps := ["script", "place"]) F0 fun _ _ _ _ _ _ us hl => match us, hl with | [_, _], _ => rfl)⟩
/-! _law_toss -/
abbrev s__law_toss : Stmt := top 17
abbrev N__law_toss : List Str := ["kit", "many", "mixed", "taken"]
theorem sc__law_toss : FnScope N__law_toss ["kit", "many"] (defScope s__law_toss) := ⟨rfl, rfl, rfl, by decide +kernel, rfl, by decide +kernel, by decide +kernel⟩
def fb__law_toss : {fb : (v0 : V) → CT [sOwn (fun v => v = v0) (oL cI), sVal cI, sAny, sAny] → Res (Out (CT [sOwn (fun v => v = v0) (oL cI), sVal cI, sAny, sAny]) (Int × (List Int))) // ∀ {P : Program} {w : World} {K : Frag} {mg : Str → Option Value} {base : Heap} {ca : Str → Addr} (M_int : mg "int" = none) (f : Addr) (v0 : V) (nd : N__law_toss.Nodup) cd A outer s H E hr hgd, BX (ambOf P w K mg base ca N__law_toss nd 0 "_law_toss" (defScope s__law_toss) f cd A outer s H E hr hgd) [sOwn (fun v => v = v0) (oL cI), sVal cI, sAny, sAny] (defBody s__law_toss) [sOwn (fun v => v = v0) (oL cI), sVal cI, sAny, sAny] (rrI (rV cI) (oL cI) v0) (fb v0)} := ⟨_, by
  intro P w K mg base ca M_int f v0 nd cd A outer s H E hr hgd
  refine' bx_cons (G1 := [sOwn (fun v => v = v0) (oL cI), sVal cI, sAny, sAny]) ?g91 ?g92
  case g91 =>
    refine' sx_if (G' := [sOwn (fun v => v = v0) (oL cI), sVal cI, sAny, sAny]) (rtx_cmp ot_gt (rex_lend (S := [0]) (T := []) (ln_own frz_l (by decide) (ln_val (ln_any (ln_any ln_nil)))) (rh_v hd_i) (rex_ixL (rex_var at_z (by rfl) (by first | exact Or.inl rfl | exact Or.inr (Or.inl rfl) | exact Or.inr (Or.inr rfl))) rex_int (by intro _ _; rfl))) rex_int (by rfl)) ?g81 ?g82
    case g81 =>
      refine' bx_cons (G1 := [sOwn (fun v => v = v0) (oL cI), sVal cI, sAny, sVal cI]) ?g79 ?g80
      case g79 =>
        exact sx_set (up_s (up_s (up_s up_z))) (by rfl) (by first | exact Or.inl rfl | exact Or.inr rfl) (rex_op ot_mod (rex_callTy ct_intI (by rfl) (by exact M_int) (by decide +kernel) (rax_one (rex_lend (S := [0]) (T := []) (ln_own frz_l (by decide) (ln_val (ln_any (ln_any ln_nil)))) (rh_v hd_i) (rex_ixL (rex_var at_z (by rfl) (by first | exact Or.inl rfl | exact Or.inr (Or.inl rfl) | exact Or.inr (Or.inr rfl))) rex_int (by intro _ _; rfl))))) (rex_var (at_s at_z) (by rfl) (by first | exact Or.inl rfl | exact Or.inr (Or.inl rfl) | exact Or.inr (Or.inr rfl)))) (by exact trivial) (by rfl) (by first | exact Or.inl rfl | exact Or.inr rfl)
      case g80 =>
        refine' bx_cons (G1 := [sOwn (fun v => v = v0) (oL cI), sVal cI, sAny, sVal cI]) ?g77 ?g78
        case g77 =>
          exact sx_setI at_z md_z (by rfl) (by first | exact Or.inl rfl | exact Or.inr (Or.inl rfl) | exact Or.inr (Or.inr rfl)) (rex_op ot_div (rex_lend (S := [0]) (T := []) (ln_own frz_l (by decide) (ln_val (ln_any (ln_val ln_nil)))) (rh_v hd_i) (rex_ixL (rex_var at_z (by rfl) (by first | exact Or.inl rfl | exact Or.inr (Or.inl rfl) | exact Or.inr (Or.inr rfl))) rex_int (by intro _ _; rfl))) (rex_var (at_s at_z) (by rfl) (by first | exact Or.inl rfl | exact Or.inr (Or.inl rfl) | exact Or.inr (Or.inr rfl)))) rex_int
        case g78 =>
          refine' bx_one ?_
          exact sx_retI at_z (rex_var (at_s (at_s (at_s at_z))) (by rfl) (by first | exact Or.inl rfl | exact Or.inr (Or.inl rfl) | exact Or.inr (Or.inr rfl)))
    case g82 =>
      exact bx_nil
  case g92 =>
    refine' bx_cons (G1 := [sOwn (fun v => v = v0) (oL cI), sVal cI, sAny, sAny]) ?g89 ?g90
    case g89 =>
      exact sx_setI at_z md_z (by rfl) (by first | exact Or.inl rfl | exact Or.inr (Or.inl rfl) | exact Or.inr (Or.inr rfl)) (rex_op ot_add (rex_lend (S := [0]) (T := []) (ln_own frz_l (by decide) (ln_val (ln_any (ln_any ln_nil)))) (rh_v hd_i) (rex_ixL (rex_var at_z (by rfl) (by first | exact Or.inl rfl | exact Or.inr (Or.inl rfl) | exact Or.inr (Or.inr rfl))) rex_int (by intro _ _; rfl))) rex_int) rex_int
    case g90 =>
      refine' bx_cons (G1 := [sOwn (fun v => v = v0) (oL cI), sVal cI, sVal cI, sAny]) ?g87 ?g88
      case g87 =>
        exact sx_set (up_s (up_s up_z)) (by rfl) (by first | exact Or.inl rfl | exact Or.inr rfl) (rex_op ot_add (rex_op ot_pow (rex_op ot_add (rex_lend (S := [0]) (T := []) (ln_own frz_l (by decide) (ln_val (ln_any (ln_any ln_nil)))) (rh_v hd_i) (rex_ixL (rex_var at_z (by rfl) (by first | exact Or.inl rfl | exact Or.inr (Or.inl rfl) | exact Or.inr (Or.inr rfl))) rex_int (by intro _ _; rfl))) (rex_op ot_mul rex_int (rex_lend (S := [0]) (T := []) (ln_own frz_l (by decide) (ln_val (ln_any (ln_any ln_nil)))) (rh_v hd_i) (rex_ixL (rex_var at_z (by rfl) (by first | exact Or.inl rfl | exact Or.inr (Or.inl rfl) | exact Or.inr (Or.inr rfl))) rex_int (by intro _ _; rfl))))) rex_int) (rex_op ot_mul rex_int (rex_lend (S := [0]) (T := []) (ln_own frz_l (by decide) (ln_val (ln_any (ln_any ln_nil)))) (rh_v hd_i) (rex_ixL (rex_var at_z (by rfl) (by first | exact Or.inl rfl | exact Or.inr (Or.inl rfl) | exact Or.inr (Or.inr rfl))) rex_int (by intro _ _; rfl))))) (by exact trivial) (by rfl) (by first | exact Or.inl rfl | exact Or.inr rfl)
      case g88 =>
        refine' bx_cons (G1 := [sOwn (fun v => v = v0) (oL cI), sVal cI, sVal cI, sAny]) ?g85 ?g86
        case g85 =>
          exact sx_set (up_s (up_s up_z)) (by rfl) (by first | exact Or.inl rfl | exact Or.inr rfl) (rex_op ot_add (rex_op ot_mod (rex_callTy ct_intI (by rfl) (by exact M_int) (by decide +kernel) (rax_one (rex_var (at_s (at_s at_z)) (by rfl) (by first | exact Or.inl rfl | exact Or.inr (Or.inl rfl) | exact Or.inr (Or.inr rfl))))) rex_int) (rex_op ot_mul rex_int (rex_lend (S := [0]) (T := []) (ln_own frz_l (by decide) (ln_val (ln_val (ln_any ln_nil)))) (rh_v hd_i) (rex_ixL (rex_var at_z (by rfl) (by first | exact Or.inl rfl | exact Or.inr (Or.inl rfl) | exact Or.inr (Or.inr rfl))) rex_int (by intro _ _; rfl))))) (by exact trivial) (by rfl) (by first | exact Or.inl rfl | exact Or.inr rfl)
        case g86 =>
          refine' bx_cons (G1 := [sOwn (fun v => v = v0) (oL cI), sVal cI, sVal cI, sAny]) ?g83 ?g84
          case g83 =>
            exact sx_set (up_s (up_s up_z)) (by rfl) (by first | exact Or.inl rfl | exact Or.inr rfl) (rex_op ot_mod (rex_callTy ct_intI (by rfl) (by exact M_int) (by decide +kernel) (rax_one (rex_op ot_pow (rex_var (at_s (at_s at_z)) (by rfl) (by first | exact Or.inl rfl | exact Or.inr (Or.inl rfl) | exact Or.inr (Or.inr rfl))) rex_int))) rex_int) (by exact trivial) (by rfl) (by first | exact Or.inl rfl | exact Or.inr rfl)
          case g84 =>
            refine' bx_one ?_
            exact sx_retI at_z (rex_op ot_mod (rex_callTy ct_intI (by rfl) (by exact M_int) (by decide +kernel) (rax_one (rex_op ot_div (rex_var (at_s (at_s at_z)) (by rfl) (by first | exact Or.inl rfl | exact Or.inr (Or.inl rfl) | exact Or.inr (Or.inr rfl))) rex_int))) (rex_var (at_s at_z) (by rfl) (by first | exact Or.inl rfl | exact Or.inr (Or.inl rfl) | exact Or.inr (Or.inr rfl))))⟩
def F__law_toss (k : (List Int)) (y : Int) : Res (Int × (List Int)) := Res.bind ((fb__law_toss ).1 .non (k, (y, ((), ((), ()))))) endV
theorem okF__law_toss {P : Program} {w : World} {K : Frag} {mg : Str → Option Value} {base : Heap} {ca : Str → Addr} {fa : Addr} {dvs : List V} {kws : List (Str × V)} {fd : FuncData} (F0 : FunD K "_law_toss" "_law_toss" (defArgs s__law_toss) (defBody s__law_toss) (defScope s__law_toss) dvs kws fa fd) (M_int : mg "int" = none) : FnG P w K mg base 1 fa fd ["kit", "many"] (spI K ca (oL cI) (aOne cI) (rV cI) F__law_toss) :=
  fn_I (as := (aOne cI)) (G1 := [sVal cI, sAny, sAny]) (G' := fun v0 => [sOwn (fun v => v = v0) (oL cI), sVal cI, sAny, sAny]) (κ := (List Int)) (β := Int) (oc := (oL cI)) (r := (rV cI)) (ini := (fun y => (y, ((), ((), ()))))) (fb := (fb__law_toss ).1) F0 sc__law_toss (by rfl) (fun L H v0 ws y wf h => by obtain ⟨v1, rfl, h1⟩ := h; exact ⟨⟨v1, rfl, h1⟩, trivial, trivial, Nat.le_of_ble_eq_true (by rfl)⟩) (fun v0 nd cd A outer s H E hr hgd => (fb__law_toss ).2 M_int fa v0 nd cd A outer s H E hr hgd) (fun v0 k y => rfl)
theorem ok__law_toss {P : Program} {w : World} {K : Frag} {mg : Str → Option Value} {base : Heap} {ca : Str → Addr} {fa : Addr} {fd : FuncData} (F0 : FunD K "_law_toss" "_law_toss" (defArgs s__law_toss) (defBody s__law_toss) (defScope s__law_toss) [] [] fa fd) (M_int : mg "int" = none) (hm : mg "_law_toss" = some (.ref fa)) : DefG P w K mg base 1 "_law_toss" ["kit", "many"] (spI K ca (oL cI) (aOne cI) (rV cI) F__law_toss) :=
  ⟨fa, fd, okF__law_toss  F0 M_int, hm, F0.kp, (F0.bindsN (ps := ["kit", "many"]) fun _ _ _ _ _ _ us hl => match us, hl with | [_, _], _ => rfl), (kw_binds (ps := ["kit", "many"]) F0 fun _ _ _ _ _ _ us hl => match us, hl with | [_, _], _ => rfl)⟩
/-! _law_tags -/
abbrev s__law_tags : Stmt := top 18
abbrev N__law_tags : List Str := ["kit", "many", "stem", "letters", "way", "at", "texts_here", "spot", "pace", "k", "turn"]
theorem sc__law_tags : FnScope N__law_tags ["kit", "many"] (defScope s__law_tags) := ⟨rfl, rfl, rfl, by decide +kernel, rfl, by decide +kernel, by decide +kernel⟩
def fb__law_tags : {fb : (v0 : V) → CT [sOwn (fun v => v = v0) (oL cI), sVal cI, sAny, sAny, sAny, sAny, sAny, sAny, sAny, sAny, sAny] → Res (Out (CT [sOwn (fun v => v = v0) (oL cI), sVal cI, sAny, sAny, sAny, sAny, sAny, sAny, sAny, sAny, sAny]) ((List Str) × (List Int))) // ∀ {P : Program} {w : World} {K : Frag} {mg : Str → Option Value} {base : Heap} {ca : Str → Addr} (D__law_toss : DefG P w K mg base 1 "_law_toss" ["kit", "many"] (spI K ca (oL cI) (aOne cI) (rV cI) F__law_toss)) (M_range : mg "range" = none) (M_int : mg "int" = none) (M_len : mg "len" = none) (f : Addr) (v0 : V) (nd : N__law_tags.Nodup) cd A outer s H E hr hgd, BX (ambOf P w K mg base ca N__law_tags nd 1 "_law_tags" (defScope s__law_tags) f cd A outer s H E hr hgd) [sOwn (fun v => v = v0) (oL cI), sVal cI, sAny, sAny, sAny, sAny, sAny, sAny, sAny, sAny, sAny] (defBody s__law_tags) [sOwn (fun v => v = v0) (oL cI), sVal cI, sAny, sAny, sAny, sAny, sAny, sAny, sAny, sAny, sAny] (rrI (rV (cL cS)) (oL cI) v0) (fb v0)} := ⟨_, by
  intro P w K mg base ca D__law_toss M_range M_int M_len f v0 nd cd A outer s H E hr hgd
  refine' bx_cons (G1 := [sOwn (fun v => v = v0) (oL cI), sVal cI, sAny, sVal cS, sVal cI, sVal cI, sAny, sAny, sAny, sAny, sAny]) ?g107 ?g108
  case g107 =>
    first | exact sx_par3 st_v st_v st_v (up_s (up_s (up_s (up_s (up_s up_z))))) (up_s (up_s (up_s (up_s up_z)))) (up_s (up_s (up_s up_z))) (by decide) (by exact ⟨trivial, trivial, trivial⟩) (by rfl) (by rfl) (by rfl) (by rfl) (by rfl) (by rfl) (rex_str (by decide +kernel) (by decide +kernel)) (ex_calI at_z md_z D__law_toss (Nat.le_of_ble_eq_true (by rfl)) (by rfl) rtvI (by rfl) (by first | exact Or.inl rfl | exact Or.inr (Or.inl rfl) | exact Or.inr (Or.inr rfl)) (rax_one rex_int)) (ex_calI at_z md_z D__law_toss (Nat.le_of_ble_eq_true (by rfl)) (by rfl) rtvI (by rfl) (by first | exact Or.inl rfl | exact Or.inr (Or.inl rfl) | exact Or.inr (Or.inr rfl)) (rax_one rex_int)) (by rfl) | exact sx_parC3 st_v st_v st_v (up_s (up_s (up_s (up_s (up_s up_z))))) (up_s (up_s (up_s (up_s up_z)))) (up_s (up_s (up_s up_z))) (by decide) (by exact ⟨trivial, trivial, trivial⟩) (by rfl) (by rfl) (by rfl) (by first | exact Or.inl rfl | exact Or.inr rfl) (by first | exact Or.inl rfl | exact Or.inr rfl) (by first | exact Or.inl rfl | exact Or.inr rfl) (rex_str (by decide +kernel) (by decide +kernel)) (ex_calI at_z md_z D__law_toss (Nat.le_of_ble_eq_true (by rfl)) (by rfl) rtvI (by rfl) (by first | exact Or.inl rfl | exact Or.inr (Or.inl rfl) | exact Or.inr (Or.inr rfl)) (rax_one rex_int)) (ex_calI at_z md_z D__law_toss (Nat.le_of_ble_eq_true (by rfl)) (by rfl) rtvI (by rfl) (by first | exact Or.inl rfl | exact Or.inr (Or.inl rfl) | exact Or.inr (Or.inr rfl)) (rax_one rex_int)) (by rfl) (by rfl) (by rfl) (by rfl)
  case g108 =>
    refine' bx_cons (G1 := [sOwn (fun v => v = v0) (oL cI), sVal cI, sAny, sVal cS, sVal cI, sVal cI, sAny, sAny, sAny, sAny, sAny]) ?g105 ?g106
    case g105 =>
      refine' sx_if (G' := [sOwn (fun v => v = v0) (oL cI), sVal cI, sAny, sVal cS, sVal cI, sVal cI, sAny, sAny, sAny, sAny, sAny]) (rtx_w (rwx_and (rtx_cmp ot_eq (rex_var (at_s (at_s (at_s (at_s at_z)))) (by rfl) (by first | exact Or.inl rfl | exact Or.inr (Or.inl rfl) | exact Or.inr (Or.inr rfl))) rex_int (by rfl)) (rwx_and1 (rtx_cmp ot_lt (rex_var (at_s at_z) (by rfl) (by first | exact Or.inl rfl | exact Or.inr (Or.inl rfl) | exact Or.inr (Or.inr rfl))) rex_int (by rfl))))) ?g93 ?g94
      case g93 =>
        refine' bx_one ?_
        exact sx_retI at_z (rex_frz frz_l (rex_lc (own := [("k", 9)]) (rix_r1 (by rfl) (by exact M_range) (rex_var (at_s at_z) (by rfl) (by first | exact Or.inl rfl | exact Or.inr (Or.inl rfl) | exact Or.inr (Or.inr rfl)))) (blkOk_by (by rfl)) (wc_keep (by decide) (wc_keep (by decide) (wc_keep (by decide) (wc_keep (by decide) (wc_keep (by decide) (wc_keep (by decide) (wc_keep (by decide) (wc_keep (by decide) (wc_keep (by decide) (wc_any (wc_keep (by decide) wc_nil))))))))))) (fun _ _ _ _ _ => (gx_name (up_s (up_s (up_s (up_s (up_s (up_s (up_s (up_s (up_s up_z))))))))) (by rfl) (by first | exact Or.inl rfl | exact Or.inr rfl) (by show (9 : Nat) ∈ [9]; decide) (by first | exact Or.inl rfl | exact Or.inr rfl))) (fun _ _ _ _ _ => (rex_op ot_mulS (rex_ixS (rex_var (at_s (at_s (at_s at_z))) (by rfl) (by first | exact Or.inl rfl | exact Or.inr (Or.inl rfl) | exact Or.inr (Or.inr rfl))) (rex_var (at_s (at_s (at_s (at_s (at_s at_z))))) (by rfl) (by first | exact Or.inl rfl | exact Or.inr (Or.inl rfl) | exact Or.inr (Or.inr rfl))) (by intro _ _; rfl)) (rex_op ot_add (rex_var (at_s (at_s (at_s (at_s (at_s (at_s (at_s (at_s (at_s at_z))))))))) (by rfl) (by first | exact Or.inl rfl | exact Or.inr (Or.inl rfl) | exact Or.inr (Or.inr rfl))) rex_int))) (wc_keep (by decide) (wc_keep (by decide) (wc_keep (by decide) (wc_keep (by decide) (wc_keep (by decide) (wc_keep (by decide) (wc_keep (by decide) (wc_keep (by decide) (wc_keep (by decide) (wc_val (wc_keep (by decide) wc_nil)))))))))))))
      case g94 =>
        exact bx_nil
    case g106 =>
      refine' bx_cons (G1 := [sOwn (fun v => v = v0) (oL cI), sVal cI, sAny, sVal cS, sVal cI, sVal cI, sAny, sAny, sAny, sAny, sAny]) ?g103 ?g104
      case g103 =>
        refine' sx_if (G' := [sOwn (fun v => v = v0) (oL cI), sVal cI, sAny, sVal cS, sVal cI, sVal cI, sAny, sAny, sAny, sAny, sAny]) (rtx_cmp ot_eq (rex_var (at_s (at_s (at_s (at_s at_z)))) (by rfl) (by first | exact Or.inl rfl | exact Or.inr (Or.inl rfl) | exact Or.inr (Or.inr rfl))) rex_int (by rfl)) ?g97 ?g98
        case g97 =>
          refine' bx_cons (G1 := [sOwn (fun v => v = v0) (oL cI), sVal cI, sAny, sVal cS, sVal cI, sVal cI, sOwn PAny (oL cS), sAny, sAny, sAny, sAny]) ?g95 ?g96
          case g95 =>
            exact sx_setO (up_s (up_s (up_s (up_s (up_s (up_s up_z)))))) (by rfl) (by first | exact Or.inl rfl | exact Or.inr rfl) (rex_list (rax_consA (rex_str (by decide +kernel) (by decide +kernel)) (rax_consA (rex_str (by decide +kernel) (by decide +kernel)) (rax_consA (rex_str (by decide +kernel) (by decide +kernel)) (rax_consA (rex_str (by decide +kernel) (by decide +kernel)) (rax_consA (rex_str (by decide +kernel) (by decide +kernel)) (rax_consA (rex_str (by decide +kernel) (by decide +kernel)) (rax_consA (rex_str (by decide +kernel) (by decide +kernel)) (rax_consA (rex_str (by decide +kernel) (by decide +kernel)) (rax_consA (rex_str (by decide +kernel) (by decide +kernel)) (rax_consA (rex_str (by decide +kernel) (by decide +kernel)) (rax_consA (rex_str (by decide +kernel) (by decide +kernel)) (rax_consA (rex_str (by decide +kernel) (by decide +kernel)) rax_nilA))))))))))))) (by exact trivial) (by rfl) (by first | exact Or.inl rfl | exact Or.inr rfl)
          case g96 =>
            refine' bx_one ?_
            exact sx_retI at_z (rex_frz frz_l (rex_lc (own := [("k", 9)]) (rix_r1 (by rfl) (by exact M_range) (rex_var (at_s at_z) (by rfl) (by first | exact Or.inl rfl | exact Or.inr (Or.inl rfl) | exact Or.inr (Or.inr rfl)))) (blkOk_by (by rfl)) (wc_keep (by decide) (wc_keep (by decide) (wc_keep (by decide) (wc_keep (by decide) (wc_keep (by decide) (wc_keep (by decide) (wc_keep (by decide) (wc_keep (by decide) (wc_keep (by decide) (wc_any (wc_keep (by decide) wc_nil))))))))))) (fun _ _ _ _ _ => (gx_name (up_s (up_s (up_s (up_s (up_s (up_s (up_s (up_s (up_s up_z))))))))) (by rfl) (by first | exact Or.inl rfl | exact Or.inr rfl) (by show (9 : Nat) ∈ [9]; decide) (by first | exact Or.inl rfl | exact Or.inr rfl))) (fun _ _ _ _ _ => (rex_lend (S := [6]) (T := []) (ln_hold (ho_l hd_i) (by decide) (by decide) (ln_val (ln_any (ln_val (ln_val (ln_val (ln_own frz_l (by decide) (ln_any (ln_any (ln_val (ln_any ln_nil))))))))))) (rh_v hd_s) (rex_ixL (rex_var (at_s (at_s (at_s (at_s (at_s (at_s at_z)))))) (by rfl) (by first | exact Or.inl rfl | exact Or.inr (Or.inl rfl) | exact Or.inr (Or.inr rfl))) (rex_op ot_mod (rex_callTy ct_intI (by rfl) (by exact M_int) (by decide +kernel) (rax_one (rex_op ot_add (rex_var (at_s (at_s (at_s (at_s (at_s at_z))))) (by rfl) (by first | exact Or.inl rfl | exact Or.inr (Or.inl rfl) | exact Or.inr (Or.inr rfl))) (rex_op ot_mul rex_int (rex_var (at_s (at_s (at_s (at_s (at_s (at_s (at_s (at_s (at_s at_z))))))))) (by rfl) (by first | exact Or.inl rfl | exact Or.inr (Or.inl rfl) | exact Or.inr (Or.inr rfl))))))) rex_int) (by intro _ _; rfl)))) (wc_keep (by decide) (wc_keep (by decide) (wc_keep (by decide) (wc_keep (by decide) (wc_keep (by decide) (wc_keep (by decide) (wc_keep (by decide) (wc_keep (by decide) (wc_keep (by decide) (wc_val (wc_keep (by decide) wc_nil)))))))))))))
        case g98 =>
          exact bx_nil
      case g104 =>
        refine' bx_cons (G1 := [sOwn (fun v => v = v0) (oL cI), sVal cI, sVal cS, sVal cS, sVal cI, sVal cI, sAny, sAny, sAny, sAny, sAny]) ?g101 ?g102
        case g101 =>
          exact sx_set (up_s (up_s up_z)) (by rfl) (by first | exact Or.inl rfl | exact Or.inr rfl) (ex_mv mv_join PySem.F.plainAttrs_str PySem.F.slot_str_join (by rfl) (rex_str (by decide +kernel) (by decide +kernel)) (ax_one (ex_frz frz_l (ex_lc (own := [("turn", 10)]) (ix_r1 (by rfl) (by exact M_range) (ex_op ot_add rex_int (ex_calI at_z md_z D__law_toss (Nat.le_of_ble_eq_true (by rfl)) (by rfl) rtvI (by rfl) (by first | exact Or.inl rfl | exact Or.inr (Or.inl rfl) | exact Or.inr (Or.inr rfl)) (rax_one rex_int)))) (blkOk_by (by rfl)) (wc_keep (by decide) (wc_keep (by decide) (wc_keep (by decide) (wc_keep (by decide) (wc_keep (by decide) (wc_keep (by decide) (wc_keep (by decide) (wc_keep (by decide) (wc_keep (by decide) (wc_keep (by decide) (wc_any wc_nil))))))))))) (fun _ _ _ _ _ => (gx_name (up_s (up_s (up_s (up_s (up_s (up_s (up_s (up_s (up_s (up_s up_z)))))))))) (by rfl) (by first | exact Or.inl rfl | exact Or.inr rfl) (by show (10 : Nat) ∈ [10]; decide) (by first | exact Or.inl rfl | exact Or.inr rfl))) (fun _ _ _ _ _ => (ex_ixS (rex_var (at_s (at_s (at_s at_z))) (by rfl) (by first | exact Or.inl rfl | exact Or.inr (Or.inl rfl) | exact Or.inr (Or.inr rfl))) (ex_calI at_z md_z D__law_toss (Nat.le_of_ble_eq_true (by rfl)) (by rfl) rtvI (by rfl) (by first | exact Or.inl rfl | exact Or.inr (Or.inl rfl) | exact Or.inr (Or.inr rfl)) (rax_one rex_int)) (by intro _ _; rfl))) (wc_keep (by decide) (wc_keep (by decide) (wc_keep (by decide) (wc_keep (by decide) (wc_keep (by decide) (wc_keep (by decide) (wc_keep (by decide) (wc_keep (by decide) (wc_keep (by decide) (wc_keep (by decide) (wc_val wc_nil))))))))))))))) (by exact trivial) (by rfl) (by first | exact Or.inl rfl | exact Or.inr rfl)
        case g102 =>
          refine' bx_cons (G1 := [sOwn (fun v => v = v0) (oL cI), sVal cI, sVal cS, sVal cS, sVal cI, sVal cI, sAny, sVal cI, sVal cI, sAny, sAny]) ?g99 ?g100
          case g99 =>
            first | exact sx_par st_v st_v (up_s (up_s (up_s (up_s (up_s (up_s (up_s (up_s up_z)))))))) (up_s (up_s (up_s (up_s (up_s (up_s (up_s up_z))))))) (by decide) (by exact ⟨trivial, trivial⟩) (by rfl) (by rfl) (by rfl) (by rfl) (ex_calI at_z md_z D__law_toss (Nat.le_of_ble_eq_true (by rfl)) (by rfl) rtvI (by rfl) (by first | exact Or.inl rfl | exact Or.inr (Or.inl rfl) | exact Or.inr (Or.inr rfl)) (rax_one (rex_callB ct_lenS (by rfl) (by exact M_len) (by decide +kernel) (rax_one (rex_var (at_s (at_s at_z)) (by rfl) (by first | exact Or.inl rfl | exact Or.inr (Or.inl rfl) | exact Or.inr (Or.inr rfl))))))) (ex_ixL (rex_frz frz_l (rex_list (rax_consA rex_int (rax_consA rex_int (rax_consA rex_int (rax_consA rex_int (rax_consA rex_int rax_nilA))))))) (ex_calI at_z md_z D__law_toss (Nat.le_of_ble_eq_true (by rfl)) (by rfl) rtvI (by rfl) (by first | exact Or.inl rfl | exact Or.inr (Or.inl rfl) | exact Or.inr (Or.inr rfl)) (rax_one rex_int)) (by intro _ _; rfl)) (by rfl) | exact sx_parC st_v st_v (up_s (up_s (up_s (up_s (up_s (up_s (up_s (up_s up_z)))))))) (up_s (up_s (up_s (up_s (up_s (up_s (up_s up_z))))))) (by decide) (by exact ⟨trivial, trivial⟩) (by rfl) (by rfl) (by first | exact Or.inl rfl | exact Or.inr rfl) (by first | exact Or.inl rfl | exact Or.inr rfl) (ex_calI at_z md_z D__law_toss (Nat.le_of_ble_eq_true (by rfl)) (by rfl) rtvI (by rfl) (by first | exact Or.inl rfl | exact Or.inr (Or.inl rfl) | exact Or.inr (Or.inr rfl)) (rax_one (rex_callB ct_lenS (by rfl) (by exact M_len) (by decide +kernel) (rax_one (rex_var (at_s (at_s at_z)) (by rfl) (by first | exact Or.inl rfl | exact Or.inr (Or.inl rfl) | exact Or.inr (Or.inr rfl))))))) (ex_ixL (rex_frz frz_l (rex_list (rax_consA rex_int (rax_consA rex_int (rax_consA rex_int (rax_consA rex_int (rax_consA rex_int rax_nilA))))))) (ex_calI at_z md_z D__law_toss (Nat.le_of_ble_eq_true (by rfl)) (by rfl) rtvI (by rfl) (by first | exact Or.inl rfl | exact Or.inr (Or.inl rfl) | exact Or.inr (Or.inr rfl)) (rax_one rex_int)) (by intro _ _; rfl)) (by rfl) (by rfl) (by rfl)
          case g100 =>
            refine' bx_one ?_
            exact sx_retI at_z (rex_frz frz_l (rex_lc (own := [("k", 9)]) (rix_r1 (by rfl) (by exact M_range) (rex_var (at_s at_z) (by rfl) (by first | exact Or.inl rfl | exact Or.inr (Or.inl rfl) | exact Or.inr (Or.inr rfl)))) (blkOk_by (by rfl)) (wc_keep (by decide) (wc_keep (by decide) (wc_keep (by decide) (wc_keep (by decide) (wc_keep (by decide) (wc_keep (by decide) (wc_keep (by decide) (wc_keep (by decide) (wc_keep (by decide) (wc_any (wc_keep (by decide) wc_nil))))))))))) (fun _ _ _ _ _ => (gx_name (up_s (up_s (up_s (up_s (up_s (up_s (up_s (up_s (up_s up_z))))))))) (by rfl) (by first | exact Or.inl rfl | exact Or.inr rfl) (by show (9 : Nat) ∈ [9]; decide) (by first | exact Or.inl rfl | exact Or.inr rfl))) (fun _ _ _ _ _ => (rex_op ot_addS (rex_op ot_addS (rex_cutS (rex_var (at_s (at_s at_z)) (by rfl) (by first | exact Or.inl rfl | exact Or.inr (Or.inl rfl) | exact Or.inr (Or.inr rfl))) rox_none (rox_some (rex_var (at_s (at_s (at_s (at_s (at_s (at_s (at_s at_z))))))) (by rfl) (by first | exact Or.inl rfl | exact Or.inr (Or.inl rfl) | exact Or.inr (Or.inr rfl))))) (rex_ixS (rex_var (at_s (at_s (at_s at_z))) (by rfl) (by first | exact Or.inl rfl | exact Or.inr (Or.inl rfl) | exact Or.inr (Or.inr rfl))) (rex_op ot_mod (rex_callTy ct_intI (by rfl) (by exact M_int) (by decide +kernel) (rax_one (rex_op ot_add (rex_var (at_s (at_s (at_s (at_s (at_s at_z))))) (by rfl) (by first | exact Or.inl rfl | exact Or.inr (Or.inl rfl) | exact Or.inr (Or.inr rfl))) (rex_op ot_mul (rex_var (at_s (at_s (at_s (at_s (at_s (at_s (at_s (at_s at_z)))))))) (by rfl) (by first | exact Or.inl rfl | exact Or.inr (Or.inl rfl) | exact Or.inr (Or.inr rfl))) (rex_var (at_s (at_s (at_s (at_s (at_s (at_s (at_s (at_s (at_s at_z))))))))) (by rfl) (by first | exact Or.inl rfl | exact Or.inr (Or.inl rfl) | exact Or.inr (Or.inr rfl))))))) rex_int) (by intro _ _; rfl))) (rex_cutS (rex_var (at_s (at_s at_z)) (by rfl) (by first | exact Or.inl rfl | exact Or.inr (Or.inl rfl) | exact Or.inr (Or.inr rfl))) (rox_some (rex_op ot_add (rex_var (at_s (at_s (at_s (at_s (at_s (at_s (at_s at_z))))))) (by rfl) (by first | exact Or.inl rfl | exact Or.inr (Or.inl rfl) | exact Or.inr (Or.inr rfl))) rex_int)) rox_none))) (wc_keep (by decide) (wc_keep (by decide) (wc_keep (by decide) (wc_keep (by decide) (wc_keep (by decide) (wc_keep (by decide) (wc_keep (by decide) (wc_keep (by decide) (wc_keep (by decide) (wc_val (wc_keep (by decide) wc_nil)))))))))))))⟩
def F__law_tags (k : (List Int)) (y : Int) : Res ((List Str) × (List Int)) := Res.bind ((fb__law_tags ).1 .non (k, (y, ((), ((), ((), ((), ((), ((), ((), ((), ((), ())))))))))))) endV
theorem okF__law_tags {P : Program} {w : World} {K : Frag} {mg : Str → Option Value} {base : Heap} {ca : Str → Addr} {fa : Addr} {dvs : List V} {kws : List (Str × V)} {fd : FuncData} (F0 : FunD K "_law_tags" "_law_tags" (defArgs s__law_tags) (defBody s__law_tags) (defScope s__law_tags) dvs kws fa fd) (D__law_toss : DefG P w K mg base 1 "_law_toss" ["kit", "many"] (spI K ca (oL cI) (aOne cI) (rV cI) F__law_toss)) (M_range : mg "range" = none) (M_int : mg "int" = none) (M_len : mg "len" = none) : FnG P w K mg base 2 fa fd ["kit", "many"] (spI K ca (oL cI) (aOne cI) (rV (cL cS)) F__law_tags) :=
  fn_I (as := (aOne cI)) (G1 := [sVal cI, sAny, sAny, sAny, sAny, sAny, sAny, sAny, sAny, sAny]) (G' := fun v0 => [sOwn (fun v => v = v0) (oL cI), sVal cI, sAny, sAny, sAny, sAny, sAny, sAny, sAny, sAny, sAny]) (κ := (List Int)) (β := (List Str)) (oc := (oL cI)) (r := (rV (cL cS))) (ini := (fun y => (y, ((), ((), ((), ((), ((), ((), ((), ((), ((), ())))))))))))) (fb := (fb__law_tags ).1) F0 sc__law_tags (by rfl) (fun L H v0 ws y wf h => by obtain ⟨v1, rfl, h1⟩ := h; exact ⟨⟨v1, rfl, h1⟩, trivial, trivial, trivial, trivial, trivial, trivial, trivial, trivial, trivial, Nat.le_of_ble_eq_true (by rfl)⟩) (fun v0 nd cd A outer s H E hr hgd => (fb__law_tags ).2 D__law_toss M_range M_int M_len fa v0 nd cd A outer s H E hr hgd) (fun v0 k y => rfl)
theorem ok__law_tags {P : Program} {w : World} {K : Frag} {mg : Str → Option Value} {base : Heap} {ca : Str → Addr} {fa : Addr} {fd : FuncData} (F0 : FunD K "_law_tags" "_law_tags" (defArgs s__law_tags) (defBody s__law_tags) (defScope s__law_tags) [] [] fa fd) (D__law_toss : DefG P w K mg base 1 "_law_toss" ["kit", "many"] (spI K ca (oL cI) (aOne cI) (rV cI) F__law_toss)) (M_range : mg "range" = none) (M_int : mg "int" = none) (M_len : mg "len" = none) (hm : mg "_law_tags" = some (.ref fa)) : DefG P w K mg base 2 "_law_tags" ["kit", "many"] (spI K ca (oL cI) (aOne cI) (rV (cL cS)) F__law_tags) :=
  ⟨fa, fd, okF__law_tags  F0 D__law_toss M_range M_int M_len, hm, F0.kp, (F0.bindsN (ps := ["kit", "many"]) fun _ _ _ _ _ _ us hl => match us, hl with | [_, _], _ => rfl), (kw_binds (ps := ["kit", "many"]) F0 fun _ _ _ _ _ _ us hl => match us, hl with | [_, _], _ => rfl)⟩
/-! _law_answer -/
abbrev s__law_answer : Stmt := top 19
abbrev N__law_answer : List Str := ["kit"]
theorem sc__law_answer : FnScope N__law_answer ["kit"] (defScope s__law_answer) := ⟨rfl, rfl, rfl, by decide +kernel, rfl, by decide +kernel, by decide +kernel⟩
def fb__law_answer : {fb : (v0 : V) → CT [sOwn (fun v => v = v0) (oL cI)] → Res (Out (CT [sOwn (fun v => v = v0) (oL cI)]) ((Option Int) × (List Int))) // ∀ {P : Program} {w : World} {K : Frag} {mg : Str → Option Value} {base : Heap} {ca : Str → Addr} (D__law_toss : DefG P w K mg base 1 "_law_toss" ["kit", "many"] (spI K ca (oL cI) (aOne cI) (rV cI) F__law_toss)) (f : Addr) (v0 : V) (nd : N__law_answer.Nodup) cd A outer s H E hr hgd, BX (ambOf P w K mg base ca N__law_answer nd 1 "_law_answer" (defScope s__law_answer) f cd A outer s H E hr hgd) [sOwn (fun v => v = v0) (oL cI)] (defBody s__law_answer) [sOwn (fun v => v = v0) (oL cI)] (rrI (rV (cO cI)) (oL cI) v0) (fb v0)} := ⟨_, by
  intro P w K mg base ca D__law_toss f v0 nd cd A outer s H E hr hgd
  refine' bx_one ?_
  exact sx_retI at_z (ex_ixL (ex_frz frz_l (ex_list (ax_consA (rex_sub (sub_none (c := cI)) rex_none) (ax_consA (rex_sub (sub_none (c := cI)) rex_none) (ax_consA (rex_sub sub_some rex_int) (ax_consA (rex_sub sub_some rex_int) (ax_consA (ex_sub sub_some (ex_op ot_sub (ex_calI at_z md_z D__law_toss (Nat.le_of_ble_eq_true (by rfl)) (by rfl) rtvI (by rfl) (by first | exact Or.inl rfl | exact Or.inr (Or.inl rfl) | exact Or.inr (Or.inr rfl)) (rax_one rex_int)) rex_int)) (ax_consA (ex_sub sub_some (ex_op ot_sub (ex_calI at_z md_z D__law_toss (Nat.le_of_ble_eq_true (by rfl)) (by rfl) rtvI (by rfl) (by first | exact Or.inl rfl | exact Or.inr (Or.inl rfl) | exact Or.inr (Or.inr rfl)) (rax_one rex_int)) rex_int)) rax_nilA)))))))) (ex_calI at_z md_z D__law_toss (Nat.le_of_ble_eq_true (by rfl)) (by rfl) rtvI (by rfl) (by first | exact Or.inl rfl | exact Or.inr (Or.inl rfl) | exact Or.inr (Or.inr rfl)) (rax_one rex_int)) (by intro _ _; rfl))⟩
def F__law_answer (k : (List Int)) (y : Unit) : Res ((Option Int) × (List Int)) := Res.bind ((fb__law_answer ).1 .non (k, ())) endV
theorem okF__law_answer {P : Program} {w : World} {K : Frag} {mg : Str → Option Value} {base : Heap} {ca : Str → Addr} {fa : Addr} {dvs : List V} {kws : List (Str × V)} {fd : FuncData} (F0 : FunD K "_law_answer" "_law_answer" (defArgs s__law_answer) (defBody s__law_answer) (defScope s__law_answer) dvs kws fa fd) (D__law_toss : DefG P w K mg base 1 "_law_toss" ["kit", "many"] (spI K ca (oL cI) (aOne cI) (rV cI) F__law_toss)) : FnG P w K mg base 2 fa fd ["kit"] (spI K ca (oL cI) aNil (rV (cO cI)) F__law_answer) :=
  fn_I (as := aNil) (G1 := []) (G' := fun v0 => [sOwn (fun v => v = v0) (oL cI)]) (κ := (List Int)) (β := (Option Int)) (oc := (oL cI)) (r := (rV (cO cI))) (ini := (fun y => ())) (fb := (fb__law_answer ).1) F0 sc__law_answer (by rfl) (fun L H v0 ws y wf h => by have h0 : _ = [] := h; subst h0; exact Nat.le_of_ble_eq_true (by rfl)) (fun v0 nd cd A outer s H E hr hgd => (fb__law_answer ).2 D__law_toss fa v0 nd cd A outer s H E hr hgd) (fun v0 k y => rfl)
theorem ok__law_answer {P : Program} {w : World} {K : Frag} {mg : Str → Option Value} {base : Heap} {ca : Str → Addr} {fa : Addr} {fd : FuncData} (F0 : FunD K "_law_answer" "_law_answer" (defArgs s__law_answer) (defBody s__law_answer) (defScope s__law_answer) [] [] fa fd) (D__law_toss : DefG P w K mg base 1 "_law_toss" ["kit", "many"] (spI K ca (oL cI) (aOne cI) (rV cI) F__law_toss)) (hm : mg "_law_answer" = some (.ref fa)) : DefG P w K mg base 2 "_law_answer" ["kit"] (spI K ca (oL cI) aNil (rV (cO cI)) F__law_answer) :=
  ⟨fa, fd, okF__law_answer  F0 D__law_toss, hm, F0.kp, (F0.bindsN (ps := ["kit"]) fun _ _ _ _ _ _ us hl => match us, hl with | [_], _ => rfl), (kw_binds (ps := ["kit"]) F0 fun _ _ _ _ _ _ us hl => match us, hl with | [_], _ => rfl)⟩
/-! _law_column -/
abbrev s__law_column : Stmt := top 20
abbrev N__law_column : List Str := ["kit", "many", "way", "goal", "shared", "at"]
theorem sc__law_column : FnScope N__law_column ["kit", "many"] (defScope s__law_column) := ⟨rfl, rfl, rfl, by decide +kernel, rfl, by decide +kernel, by decide +kernel⟩
def fb__law_column : {fb : (v0 : V) → CT [sOwn (fun v => v = v0) (oL cI), sVal cI, sAny, sAny, sAny, sAny] → Res (Out (CT [sOwn (fun v => v = v0) (oL cI), sVal cI, sAny, sAny, sAny, sAny]) ((List (Int × (Option Int))) × (List Int))) // ∀ {P : Program} {w : World} {K : Frag} {mg : Str → Option Value} {base : Heap} {ca : Str → Addr} (D__law_toss : DefG P w K mg base 1 "_law_toss" ["kit", "many"] (spI K ca (oL cI) (aOne cI) (rV cI) F__law_toss)) (D__law_answer : DefG P w K mg base 2 "_law_answer" ["kit"] (spI K ca (oL cI) aNil (rV (cO cI)) F__law_answer)) (M_range : mg "range" = none) (M_int : mg "int" = none) (M_min : mg "min" = none) (f : Addr) (v0 : V) (nd : N__law_column.Nodup) cd A outer s H E hr hgd, BX (ambOf P w K mg base ca N__law_column nd 2 "_law_column" (defScope s__law_column) f cd A outer s H E hr hgd) [sOwn (fun v => v = v0) (oL cI), sVal cI, sAny, sAny, sAny, sAny] (defBody s__law_column) [sOwn (fun v => v = v0) (oL cI), sVal cI, sAny, sAny, sAny, sAny] (rrI (rV (cL (cT (aCons cI (aOne (cO cI)))))) (oL cI) v0) (fb v0)} := ⟨_, by
  intro P w K mg base ca D__law_toss D__law_answer M_range M_int M_min f v0 nd cd A outer s H E hr hgd
  refine' bx_cons (G1 := [sOwn (fun v => v = v0) (oL cI), sVal cI, sVal cI, sVal cI, sVal (cO cI), sAny]) ?g125 ?g126
  case g125 =>
    first | exact sx_par3 st_v st_v st_v (up_s (up_s (up_s (up_s up_z)))) (up_s (up_s (up_s up_z))) (up_s (up_s up_z)) (by decide) (by exact ⟨trivial, trivial, trivial⟩) (by rfl) (by rfl) (by rfl) (by rfl) (by rfl) (by rfl) (ex_calI at_z md_z D__law_toss (Nat.le_of_ble_eq_true (by rfl)) (by rfl) rtvI (by rfl) (by first | exact Or.inl rfl | exact Or.inr (Or.inl rfl) | exact Or.inr (Or.inr rfl)) (rax_one rex_int)) (ex_calI at_z md_z D__law_toss (Nat.le_of_ble_eq_true (by rfl)) (by rfl) rtvI (by rfl) (by first | exact Or.inl rfl | exact Or.inr (Or.inl rfl) | exact Or.inr (Or.inr rfl)) (rax_one (rex_var (at_s at_z) (by rfl) (by first | exact Or.inl rfl | exact Or.inr (Or.inl rfl) | exact Or.inr (Or.inr rfl))))) (ex_calI at_z md_z D__law_answer (Nat.le_of_ble_eq_true (by rfl)) (by rfl) rtvI (by rfl) (by first | exact Or.inl rfl | exact Or.inr (Or.inl rfl) | exact Or.inr (Or.inr rfl)) rax_nil) (by rfl) | exact sx_parC3 st_v st_v st_v (up_s (up_s (up_s (up_s up_z)))) (up_s (up_s (up_s up_z))) (up_s (up_s up_z)) (by decide) (by exact ⟨trivial, trivial, trivial⟩) (by rfl) (by rfl) (by rfl) (by first | exact Or.inl rfl | exact Or.inr rfl) (by first | exact Or.inl rfl | exact Or.inr rfl) (by first | exact Or.inl rfl | exact Or.inr rfl) (ex_calI at_z md_z D__law_toss (Nat.le_of_ble_eq_true (by rfl)) (by rfl) rtvI (by rfl) (by first | exact Or.inl rfl | exact Or.inr (Or.inl rfl) | exact Or.inr (Or.inr rfl)) (rax_one rex_int)) (ex_calI at_z md_z D__law_toss (Nat.le_of_ble_eq_true (by rfl)) (by rfl) rtvI (by rfl) (by first | exact Or.inl rfl | exact Or.inr (Or.inl rfl) | exact Or.inr (Or.inr rfl)) (rax_one (rex_var (at_s at_z) (by rfl) (by first | exact Or.inl rfl | exact Or.inr (Or.inl rfl) | exact Or.inr (Or.inr rfl))))) (ex_calI at_z md_z D__law_answer (Nat.le_of_ble_eq_true (by rfl)) (by rfl) rtvI (by rfl) (by first | exact Or.inl rfl | exact Or.inr (Or.inl rfl) | exact Or.inr (Or.inr rfl)) rax_nil) (by rfl) (by rfl) (by rfl) (by rfl)
  case g126 =>
    refine' bx_cons (G1 := [sOwn (fun v => v = v0) (oL cI), sVal cI, sVal cI, sVal cI, sVal (cO cI), sAny]) ?g123 ?g124
    case g123 =>
      refine' sx_if (G' := [sOwn (fun v => v = v0) (oL cI), sVal cI, sVal cI, sVal cI, sVal (cO cI), sAny]) (rtx_cmp ot_eq (rex_var (at_s (at_s at_z)) (by rfl) (by first | exact Or.inl rfl | exact Or.inr (Or.inl rfl) | exact Or.inr (Or.inr rfl))) rex_int (by rfl)) ?g109 ?g110
      case g109 =>
        refine' bx_one ?_
        exact sx_retI at_z (rex_frz frz_l (rex_lc (own := [("at", 5)]) (rix_r1 (by rfl) (by exact M_range) (rex_var (at_s at_z) (by rfl) (by first | exact Or.inl rfl | exact Or.inr (Or.inl rfl) | exact Or.inr (Or.inr rfl)))) (blkOk_by (by rfl)) (wc_keep (by decide) (wc_keep (by decide) (wc_keep (by decide) (wc_keep (by decide) (wc_keep (by decide) (wc_any wc_nil)))))) (fun _ _ _ _ _ => (gx_name (up_s (up_s (up_s (up_s (up_s up_z))))) (by rfl) (by first | exact Or.inl rfl | exact Or.inr rfl) (by show (5 : Nat) ∈ [5]; decide) (by first | exact Or.inl rfl | exact Or.inr rfl))) (fun _ _ _ _ _ => (rex_tup (rax_cons (rex_var (at_s (at_s (at_s at_z))) (by rfl) (by first | exact Or.inl rfl | exact Or.inr (Or.inl rfl) | exact Or.inr (Or.inr rfl))) (rax_one (rex_var (at_s (at_s (at_s (at_s at_z)))) (by rfl) (by first | exact Or.inl rfl | exact Or.inr (Or.inl rfl) | exact Or.inr (Or.inr rfl))))))) (wc_keep (by decide) (wc_keep (by decide) (wc_keep (by decide) (wc_keep (by decide) (wc_keep (by decide) (wc_val wc_nil))))))))
      case g110 =>
        exact bx_nil
    case g124 =>
      refine' bx_cons (G1 := [sOwn (fun v => v = v0) (oL cI), sVal cI, sVal cI, sVal cI, sVal (cO cI), sAny]) ?g121 ?g122
      case g121 =>
        refine' sx_if (G' := [sOwn (fun v => v = v0) (oL cI), sVal cI, sVal cI, sVal cI, sVal (cO cI), sAny]) (rtx_cmp ot_eq (rex_var (at_s (at_s at_z)) (by rfl) (by first | exact Or.inl rfl | exact Or.inr (Or.inl rfl) | exact Or.inr (Or.inr rfl))) rex_int (by rfl)) ?g111 ?g112
        case g111 =>
          refine' bx_one ?_
          exact sx_retI at_z (rex_frz frz_l (rex_lc (own := [("at", 5)]) (rix_r1 (by rfl) (by exact M_range) (rex_var (at_s at_z) (by rfl) (by first | exact Or.inl rfl | exact Or.inr (Or.inl rfl) | exact Or.inr (Or.inr rfl)))) (blkOk_by (by rfl)) (wc_keep (by decide) (wc_keep (by decide) (wc_keep (by decide) (wc_keep (by decide) (wc_keep (by decide) (wc_any wc_nil)))))) (fun _ _ _ _ _ => (gx_name (up_s (up_s (up_s (up_s (up_s up_z))))) (by rfl) (by first | exact Or.inl rfl | exact Or.inr rfl) (by show (5 : Nat) ∈ [5]; decide) (by first | exact Or.inl rfl | exact Or.inr rfl))) (fun _ _ _ _ _ => (rex_tup (rax_cons (rex_var (at_s (at_s (at_s (at_s (at_s at_z))))) (by rfl) (by first | exact Or.inl rfl | exact Or.inr (Or.inl rfl) | exact Or.inr (Or.inr rfl))) (rax_one (rex_ixL (rex_frz frz_l (rex_list (rax_consA (rex_sub sub_some (rex_var (at_s (at_s (at_s (at_s (at_s at_z))))) (by rfl) (by first | exact Or.inl rfl | exact Or.inr (Or.inl rfl) | exact Or.inr (Or.inr rfl)))) (rax_consA (rex_sub sub_some (rex_callTy ct_intB (by rfl) (by exact M_int) (by decide +kernel) (rax_one (rex_cmp ot_eq (rex_var (at_s (at_s (at_s (at_s (at_s at_z))))) (by rfl) (by first | exact Or.inl rfl | exact Or.inr (Or.inl rfl) | exact Or.inr (Or.inr rfl))) (rex_var (at_s (at_s (at_s at_z))) (by rfl) (by first | exact Or.inl rfl | exact Or.inr (Or.inl rfl) | exact Or.inr (Or.inr rfl))) (by rfl))))) (rax_consA (rex_var (at_s (at_s (at_s (at_s at_z)))) (by rfl) (by first | exact Or.inl rfl | exact Or.inr (Or.inl rfl) | exact Or.inr (Or.inr rfl))) rax_nilA))))) (rex_op ot_mod (rex_callTy ct_intI (by rfl) (by exact M_int) (by decide +kernel) (rax_one (rex_var (at_s (at_s (at_s at_z))) (by rfl) (by first | exact Or.inl rfl | exact Or.inr (Or.inl rfl) | exact Or.inr (Or.inr rfl))))) rex_int) (by intro _ _; rfl)))))) (wc_keep (by decide) (wc_keep (by decide) (wc_keep (by decide) (wc_keep (by decide) (wc_keep (by decide) (wc_val wc_nil))))))))
        case g112 =>
          exact bx_nil
      case g122 =>
        refine' bx_cons (G1 := [sOwn (fun v => v = v0) (oL cI), sVal cI, sVal cI, sVal cI, sVal (cO cI), sAny]) ?g119 ?g120
        case g119 =>
          refine' sx_if (G' := [sOwn (fun v => v = v0) (oL cI), sVal cI, sVal cI, sVal cI, sVal (cO cI), sAny]) (rtx_cmp ot_eq (rex_var (at_s (at_s at_z)) (by rfl) (by first | exact Or.inl rfl | exact Or.inr (Or.inl rfl) | exact Or.inr (Or.inr rfl))) rex_int (by rfl)) ?g113 ?g114
          case g113 =>
            refine' bx_one ?_
            exact sx_retI at_z (rex_frz frz_l (rex_lc (own := [("at", 5)]) (rix_r1 (by rfl) (by exact M_range) (rex_var (at_s at_z) (by rfl) (by first | exact Or.inl rfl | exact Or.inr (Or.inl rfl) | exact Or.inr (Or.inr rfl)))) (blkOk_by (by rfl)) (wc_keep (by decide) (wc_keep (by decide) (wc_keep (by decide) (wc_keep (by decide) (wc_keep (by decide) (wc_any wc_nil)))))) (fun _ _ _ _ _ => (gx_name (up_s (up_s (up_s (up_s (up_s up_z))))) (by rfl) (by first | exact Or.inl rfl | exact Or.inr rfl) (by show (5 : Nat) ∈ [5]; decide) (by first | exact Or.inl rfl | exact Or.inr rfl))) (fun _ _ _ _ _ => (rex_tup (rax_cons (rex_op ot_mod (rex_callTy ct_intI (by rfl) (by exact M_int) (by decide +kernel) (rax_one (rex_op ot_add (rex_var (at_s (at_s (at_s (at_s (at_s at_z))))) (by rfl) (by first | exact Or.inl rfl | exact Or.inr (Or.inl rfl) | exact Or.inr (Or.inr rfl))) (rex_var (at_s (at_s (at_s at_z))) (by rfl) (by first | exact Or.inl rfl | exact Or.inr (Or.inl rfl) | exact Or.inr (Or.inr rfl)))))) (rex_var (at_s at_z) (by rfl) (by first | exact Or.inl rfl | exact Or.inr (Or.inl rfl) | exact Or.inr (Or.inr rfl)))) (rax_one (rex_ixL (rex_frz frz_l (rex_list (rax_consA (rex_var (at_s (at_s (at_s (at_s at_z)))) (by rfl) (by first | exact Or.inl rfl | exact Or.inr (Or.inl rfl) | exact Or.inr (Or.inr rfl))) (rax_consA (rex_sub sub_some (rex_var (at_s (at_s (at_s (at_s (at_s at_z))))) (by rfl) (by first | exact Or.inl rfl | exact Or.inr (Or.inl rfl) | exact Or.inr (Or.inr rfl)))) rax_nilA)))) (rex_op ot_and (rex_callTy ct_intI (by rfl) (by exact M_int) (by decide +kernel) (rax_one (rex_var (at_s (at_s (at_s at_z))) (by rfl) (by first | exact Or.inl rfl | exact Or.inr (Or.inl rfl) | exact Or.inr (Or.inr rfl))))) rex_int) (by intro _ _; rfl)))))) (wc_keep (by decide) (wc_keep (by decide) (wc_keep (by decide) (wc_keep (by decide) (wc_keep (by decide) (wc_val wc_nil))))))))
          case g114 =>
            exact bx_nil
        case g120 =>
          refine' bx_cons (G1 := [sOwn (fun v => v = v0) (oL cI), sVal cI, sVal cI, sVal cI, sVal (cO cI), sAny]) ?g117 ?g118
          case g117 =>
            refine' sx_if (G' := [sOwn (fun v => v = v0) (oL cI), sVal cI, sVal cI, sVal cI, sVal (cO cI), sAny]) (rtx_cmp ot_eq (rex_var (at_s (at_s at_z)) (by rfl) (by first | exact Or.inl rfl | exact Or.inr (Or.inl rfl) | exact Or.inr (Or.inr rfl))) rex_int (by rfl)) ?g115 ?g116
            case g115 =>
              refine' bx_one ?_
              exact sx_retI at_z (rex_frz frz_l (rex_lc (own := [("at", 5)]) (rix_r1 (by rfl) (by exact M_range) (rex_var (at_s at_z) (by rfl) (by first | exact Or.inl rfl | exact Or.inr (Or.inl rfl) | exact Or.inr (Or.inr rfl)))) (blkOk_by (by rfl)) (wc_keep (by decide) (wc_keep (by decide) (wc_keep (by decide) (wc_keep (by decide) (wc_keep (by decide) (wc_any wc_nil)))))) (fun _ _ _ _ _ => (gx_name (up_s (up_s (up_s (up_s (up_s up_z))))) (by rfl) (by first | exact Or.inl rfl | exact Or.inr rfl) (by show (5 : Nat) ∈ [5]; decide) (by first | exact Or.inl rfl | exact Or.inr rfl))) (fun _ _ _ _ _ => (rex_tup (rax_cons (rex_callB ct_min2 (by rfl) (by exact M_min) (by decide +kernel) (rax_cons (rex_op ot_add (rex_var (at_s (at_s (at_s (at_s (at_s at_z))))) (by rfl) (by first | exact Or.inl rfl | exact Or.inr (Or.inl rfl) | exact Or.inr (Or.inr rfl))) rex_int) (rax_one (rex_op ot_sub (rex_var (at_s at_z) (by rfl) (by first | exact Or.inl rfl | exact Or.inr (Or.inl rfl) | exact Or.inr (Or.inr rfl))) rex_int)))) (rax_one (rex_ixL (rex_frz frz_l (rex_list (rax_consA (rex_var (at_s (at_s (at_s (at_s at_z)))) (by rfl) (by first | exact Or.inl rfl | exact Or.inr (Or.inl rfl) | exact Or.inr (Or.inr rfl))) (rax_consA (rex_sub sub_some (rex_callTy ct_intB (by rfl) (by exact M_int) (by decide +kernel) (rax_one (rex_cmp ot_eq (rex_var (at_s (at_s (at_s (at_s (at_s at_z))))) (by rfl) (by first | exact Or.inl rfl | exact Or.inr (Or.inl rfl) | exact Or.inr (Or.inr rfl))) (rex_var (at_s (at_s (at_s at_z))) (by rfl) (by first | exact Or.inl rfl | exact Or.inr (Or.inl rfl) | exact Or.inr (Or.inr rfl))) (by rfl))))) rax_nilA)))) (rex_op ot_and (rex_callTy ct_intI (by rfl) (by exact M_int) (by decide +kernel) (rax_one (rex_var (at_s (at_s (at_s at_z))) (by rfl) (by first | exact Or.inl rfl | exact Or.inr (Or.inl rfl) | exact Or.inr (Or.inr rfl))))) rex_int) (by intro _ _; rfl)))))) (wc_keep (by decide) (wc_keep (by decide) (wc_keep (by decide) (wc_keep (by decide) (wc_keep (by decide) (wc_val wc_nil))))))))
            case g116 =>
              exact bx_nil
          case g118 =>
            refine' bx_one ?_
            exact sx_retI at_z (ex_frz frz_l (ex_lc (own := [("at", 5)]) (rix_r1 (by rfl) (by exact M_range) (rex_var (at_s at_z) (by rfl) (by first | exact Or.inl rfl | exact Or.inr (Or.inl rfl) | exact Or.inr (Or.inr rfl)))) (blkOk_by (by rfl)) (wc_keep (by decide) (wc_keep (by decide) (wc_keep (by decide) (wc_keep (by decide) (wc_keep (by decide) (wc_any wc_nil)))))) (fun _ _ _ _ _ => (gx_name (up_s (up_s (up_s (up_s (up_s up_z))))) (by rfl) (by first | exact Or.inl rfl | exact Or.inr rfl) (by show (5 : Nat) ∈ [5]; decide) (by first | exact Or.inl rfl | exact Or.inr rfl))) (fun _ _ _ _ _ => (ex_tup (ax_cons (ex_calI at_z md_z D__law_toss (Nat.le_of_ble_eq_true (by rfl)) (by rfl) rtvI (by rfl) (by first | exact Or.inl rfl | exact Or.inr (Or.inl rfl) | exact Or.inr (Or.inr rfl)) (rax_one (rex_var (at_s at_z) (by rfl) (by first | exact Or.inl rfl | exact Or.inr (Or.inl rfl) | exact Or.inr (Or.inr rfl))))) (ax_one (ex_calI at_z md_z D__law_answer (Nat.le_of_ble_eq_true (by rfl)) (by rfl) rtvI (by rfl) (by first | exact Or.inl rfl | exact Or.inr (Or.inl rfl) | exact Or.inr (Or.inr rfl)) rax_nil))))) (wc_keep (by decide) (wc_keep (by decide) (wc_keep (by decide) (wc_keep (by decide) (wc_keep (by decide) (wc_val wc_nil))))))))⟩
def F__law_column (k : (List Int)) (y : Int) : Res ((List (Int × (Option Int))) × (List Int)) := Res.bind ((fb__law_column ).1 .non (k, (y, ((), ((), ((), ((), ()))))))) endV
theorem okF__law_column {P : Program} {w : World} {K : Frag} {mg : Str → Option Value} {base : Heap} {ca : Str → Addr} {fa : Addr} {dvs : List V} {kws : List (Str × V)} {fd : FuncData} (F0 : FunD K "_law_column" "_law_column" (defArgs s__law_column) (defBody s__law_column) (defScope s__law_column) dvs kws fa fd) (D__law_toss : DefG P w K mg base 1 "_law_toss" ["kit", "many"] (spI K ca (oL cI) (aOne cI) (rV cI) F__law_toss)) (D__law_answer : DefG P w K mg base 2 "_law_answer" ["kit"] (spI K ca (oL cI) aNil (rV (cO cI)) F__law_answer)) (M_range : mg "range" = none) (M_int : mg "int" = none) (M_min : mg "min" = none) : FnG P w K mg base 3 fa fd ["kit", "many"] (spI K ca (oL cI) (aOne cI) (rV (cL (cT (aCons cI (aOne (cO cI)))))) F__law_column) :=
  fn_I (as := (aOne cI)) (G1 := [sVal cI, sAny, sAny, sAny, sAny]) (G' := fun v0 => [sOwn (fun v => v = v0) (oL cI), sVal cI, sAny, sAny, sAny, sAny]) (κ := (List Int)) (β := (List (Int × (Option Int)))) (oc := (oL cI)) (r := (rV (cL (cT (aCons cI (aOne (cO cI))))))) (ini := (fun y => (y, ((), ((), ((), ((), ()))))))) (fb := (fb__law_column ).1) F0 sc__law_column (by rfl) (fun L H v0 ws y wf h => by obtain ⟨v1, rfl, h1⟩ := h; exact ⟨⟨v1, rfl, h1⟩, trivial, trivial, trivial, trivial, Nat.le_of_ble_eq_true (by rfl)⟩) (fun v0 nd cd A outer s H E hr hgd => (fb__law_column ).2 D__law_toss D__law_answer M_range M_int M_min fa v0 nd cd A outer s H E hr hgd) (fun v0 k y => rfl)
theorem ok__law_column {P : Program} {w : World} {K : Frag} {mg : Str → Option Value} {base : Heap} {ca : Str → Addr} {fa : Addr} {fd : FuncData} (F0 : FunD K "_law_column" "_law_column" (defArgs s__law_column) (defBody s__law_column) (defScope s__law_column) [] [] fa fd) (D__law_toss : DefG P w K mg base 1 "_law_toss" ["kit", "many"] (spI K ca (oL cI) (aOne cI) (rV cI) F__law_toss)) (D__law_answer : DefG P w K mg base 2 "_law_answer" ["kit"] (spI K ca (oL cI) aNil (rV (cO cI)) F__law_answer)) (M_range : mg "range" = none) (M_int : mg "int" = none) (M_min : mg "min" = none) (hm : mg "_law_column" = some (.ref fa)) : DefG P w K mg base 3 "_law_column" ["kit", "many"] (spI K ca (oL cI) (aOne cI) (rV (cL (cT (aCons cI (aOne (cO cI)))))) F__law_column) :=
  ⟨fa, fd, okF__law_column  F0 D__law_toss D__law_answer M_range M_int M_min, hm, F0.kp, (F0.bindsN (ps := ["kit", "many"]) fun _ _ _ _ _ _ us hl => match us, hl with | [_, _], _ => rfl), (kw_binds (ps := ["kit", "many"]) F0 fun _ _ _ _ _ _ us hl => match us, hl with | [_, _], _ => rfl)⟩
/-! _law_grid -/
abbrev s__law_grid : Stmt := top 21
abbrev N__law_grid : List Str := ["kit", "many", "count", "columns", "turn", "at", "column"]
theorem sc__law_grid : FnScope N__law_grid ["kit", "many", "count"] (defScope s__law_grid) := ⟨rfl, rfl, rfl, by decide +kernel, rfl, by decide +kernel, by decide +kernel⟩
def fb__law_grid : {fb : (v0 : V) → CT [sOwn (fun v => v = v0) (oL cI), sVal cI, sVal cI, sAny, sAny, sAny, sAny] → Res (Out (CT [sOwn (fun v => v = v0) (oL cI), sVal cI, sVal cI, sAny, sAny, sAny, sAny]) ((List (List (Int × (Option Int)))) × (List Int))) // ∀ {P : Program} {w : World} {K : Frag} {mg : Str → Option Value} {base : Heap} {ca : Str → Addr} (M_range : mg "range" = none) (D__law_column : DefG P w K mg base 3 "_law_column" ["kit", "many"] (spI K ca (oL cI) (aOne cI) (rV (cL (cT (aCons cI (aOne (cO cI)))))) F__law_column)) (f : Addr) (v0 : V) (nd : N__law_grid.Nodup) cd A outer s H E hr hgd, BX (ambOf P w K mg base ca N__law_grid nd 3 "_law_grid" (defScope s__law_grid) f cd A outer s H E hr hgd) [sOwn (fun v => v = v0) (oL cI), sVal cI, sVal cI, sAny, sAny, sAny, sAny] (defBody s__law_grid) [sOwn (fun v => v = v0) (oL cI), sVal cI, sVal cI, sAny, sAny, sAny, sAny] (rrI (rV (cL (cL (cT (aCons cI (aOne (cO cI))))))) (oL cI) v0) (fb v0)} := ⟨_, by
  intro P w K mg base ca M_range D__law_column f v0 nd cd A outer s H E hr hgd
  refine' bx_cons (G1 := [sOwn (fun v => v = v0) (oL cI), sVal cI, sVal cI, sOwn PAny (oL (cL (cT (aCons cI (aOne (cO cI)))))), sAny, sAny, sAny]) ?g127 ?g128
  case g127 =>
    first | exact sx_setLc (own := [("turn", 4)]) (up_s (up_s (up_s up_z))) (by rfl) (by rfl) (by exact trivial) (rix_r1 (by rfl) (by exact M_range) (rex_var (at_s (at_s at_z)) (by rfl) (by first | exact Or.inl rfl | exact Or.inr (Or.inl rfl) | exact Or.inr (Or.inr rfl)))) (blkOk_by (by rfl)) (wc_keep (by decide) (wc_keep (by decide) (wc_keep (by decide) (wc_keep (by decide) (wc_any (wc_keep (by decide) (wc_keep (by decide) wc_nil))))))) (fun _ _ _ _ _ => (gx_name (up_s (up_s (up_s (up_s up_z)))) (by rfl) (by first | exact Or.inl rfl | exact Or.inr rfl) (by show (4 : Nat) ∈ [4]; decide) (by first | exact Or.inl rfl | exact Or.inr rfl))) (fun _ _ _ _ _ => (ex_calI at_z md_z D__law_column (Nat.le_of_ble_eq_true (by rfl)) (by rfl) rtvI (by rfl) (by first | exact Or.inl rfl | exact Or.inr (Or.inl rfl) | exact Or.inr (Or.inr rfl)) (rax_one (rex_var (at_s at_z) (by rfl) (by first | exact Or.inl rfl | exact Or.inr (Or.inl rfl) | exact Or.inr (Or.inr rfl)))))) (wc_keep (by decide) (wc_keep (by decide) (wc_keep (by decide) (wc_keep (by decide) (wc_val (wc_keep (by decide) (wc_keep (by decide) wc_nil))))))) (by rfl) | exact sx_setO (up_s (up_s (up_s up_z))) (by rfl) (by first | exact Or.inl rfl | exact Or.inr rfl) (ex_lc (own := [("turn", 4)]) (rix_r1 (by rfl) (by exact M_range) (rex_var (at_s (at_s at_z)) (by rfl) (by first | exact Or.inl rfl | exact Or.inr (Or.inl rfl) | exact Or.inr (Or.inr rfl)))) (blkOk_by (by rfl)) (wc_keep (by decide) (wc_keep (by decide) (wc_keep (by decide) (wc_keep (by decide) (wc_any (wc_keep (by decide) (wc_keep (by decide) wc_nil))))))) (fun _ _ _ _ _ => (gx_name (up_s (up_s (up_s (up_s up_z)))) (by rfl) (by first | exact Or.inl rfl | exact Or.inr rfl) (by show (4 : Nat) ∈ [4]; decide) (by first | exact Or.inl rfl | exact Or.inr rfl))) (fun _ _ _ _ _ => (ex_calI at_z md_z D__law_column (Nat.le_of_ble_eq_true (by rfl)) (by rfl) rtvI (by rfl) (by first | exact Or.inl rfl | exact Or.inr (Or.inl rfl) | exact Or.inr (Or.inr rfl)) (rax_one (rex_var (at_s at_z) (by rfl) (by first | exact Or.inl rfl | exact Or.inr (Or.inl rfl) | exact Or.inr (Or.inr rfl)))))) (wc_keep (by decide) (wc_keep (by decide) (wc_keep (by decide) (wc_keep (by decide) (wc_val (wc_keep (by decide) (wc_keep (by decide) wc_nil)))))))) (by exact trivial) (by rfl) (by first | exact Or.inl rfl | exact Or.inr rfl)
  case g128 =>
    refine' bx_one ?_
    exact sx_retI at_z (rex_frz frz_l (rex_lc (own := [("at", 5)]) (rix_r1 (by rfl) (by exact M_range) (rex_var (at_s at_z) (by rfl) (by first | exact Or.inl rfl | exact Or.inr (Or.inl rfl) | exact Or.inr (Or.inr rfl)))) (blkOk_by (by rfl)) (wc_keep (by decide) (wc_keep (by decide) (wc_keep (by decide) (wc_keep (by decide) (wc_keep (by decide) (wc_any (wc_keep (by decide) wc_nil))))))) (fun _ _ _ _ _ => (gx_name (up_s (up_s (up_s (up_s (up_s up_z))))) (by rfl) (by first | exact Or.inl rfl | exact Or.inr rfl) (by show (5 : Nat) ∈ [5]; decide) (by first | exact Or.inl rfl | exact Or.inr rfl))) (fun _ _ _ _ _ => (rex_frz frz_l (rex_lend (S := [3]) (T := []) (ln_hold (ho_l hd_i) (by decide) (by decide) (ln_val (ln_val (ln_own frz_l (by decide) (ln_any (ln_val (ln_any ln_nil))))))) (rh_o (ho_l (hd_t (ha_cons hd_i (ha_one (hd_o hd_i)))))) (rex_lc (own := [("column", 6)]) (rix_l (rex_var (at_s (at_s (at_s at_z))) (by rfl) (by first | exact Or.inl rfl | exact Or.inr (Or.inl rfl) | exact Or.inr (Or.inr rfl)))) (blkOk_by (by rfl)) (wc_keep (by decide) (wc_keep (by decide) (wc_keep (by decide) (wc_keep (by decide) (wc_keep (by decide) (wc_keep (by decide) (wc_any wc_nil))))))) (fun _ _ _ _ _ => (gx_name (up_s (up_s (up_s (up_s (up_s (up_s up_z)))))) (by rfl) (by first | exact Or.inl rfl | exact Or.inr rfl) (by show (6 : Nat) ∈ [6]; decide) (by first | exact Or.inl rfl | exact Or.inr rfl))) (fun _ _ _ _ _ => (rex_ixL (rex_var (at_s (at_s (at_s (at_s (at_s (at_s at_z)))))) (by rfl) (by first | exact Or.inl rfl | exact Or.inr (Or.inl rfl) | exact Or.inr (Or.inr rfl))) (rex_var (at_s (at_s (at_s (at_s (at_s at_z))))) (by rfl) (by first | exact Or.inl rfl | exact Or.inr (Or.inl rfl) | exact Or.inr (Or.inr rfl))) (by intro _ _; rfl))) (wc_keep (by decide) (wc_keep (by decide) (wc_keep (by decide) (wc_keep (by decide) (wc_keep (by decide) (wc_keep (by decide) (wc_val wc_nil))))))))))) (wc_keep (by decide) (wc_keep (by decide) (wc_keep (by decide) (wc_keep (by decide) (wc_keep (by decide) (wc_val (wc_keep (by decide) wc_nil)))))))))⟩
def F__law_grid (k : (List Int)) (y : Int × Int) : Res ((List (List (Int × (Option Int)))) × (List Int)) := Res.bind ((fb__law_grid ).1 .non (k, (y.1, (y.2, ((), ((), ((), ((), ())))))))) endV
theorem okF__law_grid {P : Program} {w : World} {K : Frag} {mg : Str → Option Value} {base : Heap} {ca : Str → Addr} {fa : Addr} {dvs : List V} {kws : List (Str × V)} {fd : FuncData} (F0 : FunD K "_law_grid" "_law_grid" (defArgs s__law_grid) (defBody s__law_grid) (defScope s__law_grid) dvs kws fa fd) (M_range : mg "range" = none) (D__law_column : DefG P w K mg base 3 "_law_column" ["kit", "many"] (spI K ca (oL cI) (aOne cI) (rV (cL (cT (aCons cI (aOne (cO cI)))))) F__law_column)) : FnG P w K mg base 4 fa fd ["kit", "many", "count"] (spI K ca (oL cI) (aCons cI (aOne cI)) (rV (cL (cL (cT (aCons cI (aOne (cO cI))))))) F__law_grid) :=
  fn_I (as := (aCons cI (aOne cI))) (G1 := [sVal cI, sVal cI, sAny, sAny, sAny, sAny]) (G' := fun v0 => [sOwn (fun v => v = v0) (oL cI), sVal cI, sVal cI, sAny, sAny, sAny, sAny]) (κ := (List Int)) (β := (List (List (Int × (Option Int))))) (oc := (oL cI)) (r := (rV (cL (cL (cT (aCons cI (aOne (cO cI)))))))) (ini := (fun y => (y.1, (y.2, ((), ((), ((), ((), ())))))))) (fb := (fb__law_grid ).1) F0 sc__law_grid (by rfl) (fun L H v0 ws y wf h => by obtain ⟨v1, _, rfl, h1, v2, rfl, h2⟩ := h; exact ⟨⟨v1, rfl, h1⟩, ⟨v2, rfl, h2⟩, trivial, trivial, trivial, trivial, Nat.le_of_ble_eq_true (by rfl)⟩) (fun v0 nd cd A outer s H E hr hgd => (fb__law_grid ).2 M_range D__law_column fa v0 nd cd A outer s H E hr hgd) (fun v0 k y => rfl)
theorem ok__law_grid {P : Program} {w : World} {K : Frag} {mg : Str → Option Value} {base : Heap} {ca : Str → Addr} {fa : Addr} {fd : FuncData} (F0 : FunD K "_law_grid" "_law_grid" (defArgs s__law_grid) (defBody s__law_grid) (defScope s__law_grid) [] [] fa fd) (M_range : mg "range" = none) (D__law_column : DefG P w K mg base 3 "_law_column" ["kit", "many"] (spI K ca (oL cI) (aOne cI) (rV (cL (cT (aCons cI (aOne (cO cI)))))) F__law_column)) (hm : mg "_law_grid" = some (.ref fa)) : DefG P w K mg base 4 "_law_grid" ["kit", "many", "count"] (spI K ca (oL cI) (aCons cI (aOne cI)) (rV (cL (cL (cT (aCons cI (aOne (cO cI))))))) F__law_grid) :=
  ⟨fa, fd, okF__law_grid  F0 M_range D__law_column, hm, F0.kp, (F0.bindsN (ps := ["kit", "many", "count"]) fun _ _ _ _ _ _ us hl => match us, hl with | [_, _, _], _ => rfl), (kw_binds (ps := ["kit", "many", "count"]) F0 fun _ _ _ _ _ _ us hl => match us, hl with | [_, _, _], _ => rfl)⟩
/-! _law_walked -/
abbrev s__law_walked : Stmt := top 22
abbrev N__law_walked : List Str := ["grid", "turn", "order", "found", "line", "follow", "answer"]
theorem sc__law_walked : FnScope N__law_walked ["grid"] (defScope s__law_walked) := ⟨rfl, rfl, rfl, by decide +kernel, rfl, by decide +kernel, by decide +kernel⟩
def fb__law_walked : {fb : CT [sVal (cL (cL (cT (aCons cI (aOne (cO cI)))))), sAny, sAny, sAny, sAny, sAny, sAny] → Res (Out (CT [sVal (cL (cL (cT (aCons cI (aOne (cO cI)))))), sAny, sAny, sAny, sAny, sAny, sAny]) (List (List (Int × (Option Int))))) // ∀ {P : Program} {w : World} {K : Frag} {mg : Str → Option Value} {base : Heap} {ca : Str → Addr} (M_range : mg "range" = none) (M_len : mg "len" = none) (f : Addr) (nd : N__law_walked.Nodup) cd A outer s H E hr hgd, BX (ambOf P w K mg base ca N__law_walked nd 0 "_law_walked" (defScope s__law_walked) f cd A outer s H E hr hgd) [sVal (cL (cL (cT (aCons cI (aOne (cO cI)))))), sAny, sAny, sAny, sAny, sAny, sAny] (defBody s__law_walked) [sVal (cL (cL (cT (aCons cI (aOne (cO cI)))))), sAny, sAny, sAny, sAny, sAny, sAny] (rrP (rO (oL (cL (cT (aCons cI (aOne (cO cI)))))))) fb} := ⟨_, by
  intro P w K mg base ca M_range M_len f nd cd A outer s H E hr hgd
  refine' bx_cons (G1 := [sVal (cL (cL (cT (aCons cI (aOne (cO cI)))))), sAny, sOwn PAny (oL cI), sOwn PAny (oL (cL (cT (aCons cI (aOne (cO cI)))))), sAny, sAny, sAny]) ?g145 ?g146
  case g145 =>
    first | exact sx_par st_o st_o (up_s (up_s (up_s up_z))) (up_s (up_s up_z)) (by decide) (by exact ⟨trivial, trivial⟩) (by rfl) (by rfl) (by rfl) (by rfl) (rex_list (rax_consA rex_int rax_nilA)) (rex_list (c := (cL (cT (aCons cI (aOne (cO cI)))))) rax_nilA) (by rfl) | exact sx_parC st_o st_o (up_s (up_s (up_s up_z))) (up_s (up_s up_z)) (by decide) (by exact ⟨trivial, trivial⟩) (by rfl) (by rfl) (by first | exact Or.inl rfl | exact Or.inr rfl) (by first | exact Or.inl rfl | exact Or.inr rfl) (rex_list (rax_consA rex_int rax_nilA)) (rex_list (c := (cL (cT (aCons cI (aOne (cO cI)))))) rax_nilA) (by rfl) (by rfl) (by rfl)
  case g146 =>
    refine' bx_cons (G1 := [sVal (cL (cL (cT (aCons cI (aOne (cO cI)))))), sAny, sOwn PAny (oL cI), sOwn PAny (oL (cL (cT (aCons cI (aOne (cO cI)))))), sAny, sAny, sAny]) ?g143 ?g144
    case g143 =>
      refine' sx_for (G1 := [sVal (cL (cL (cT (aCons cI (aOne (cO cI)))))), sVal cI, sOwn PAny (oL cI), sOwn PAny (oL (cL (cT (aCons cI (aOne (cO cI)))))), sAny, sAny, sAny]) (G2 := [sVal (cL (cL (cT (aCons cI (aOne (cO cI)))))), sVal cI, sOwn PAny (oL cI), sOwn PAny (oL (cL (cT (aCons cI (aOne (cO cI)))))), sAny, sAny, sAny]) (rix_r1 (by rfl) (by exact M_range) (rex_callB ct_lenL (by rfl) (by exact M_len) (by decide +kernel) (rax_one (rex_var at_z (by rfl) (by first | exact Or.inl rfl | exact Or.inr (Or.inl rfl) | exact Or.inr (Or.inr rfl)))))) (gx_name (up_s up_z) (by rfl) (by first | exact Or.inl rfl | exact Or.inr rfl) (by exact trivial) (by first | exact Or.inl rfl | exact Or.inr rfl)) ?g142 (sc_same (sc_any sc_id))
      case g142 =>
        refine' bx_one ?_
        refine' sx_if (G' := [sVal (cL (cL (cT (aCons cI (aOne (cO cI)))))), sVal cI, sOwn PAny (oL cI), sOwn PAny (oL (cL (cT (aCons cI (aOne (cO cI)))))), sAny, sAny, sAny]) (rtx_cmp ot_lt (rex_var (at_s at_z) (by rfl) (by first | exact Or.inl rfl | exact Or.inr (Or.inl rfl) | exact Or.inr (Or.inr rfl))) (rex_lend (S := [2]) (T := [3]) (ln_val (ln_val (ln_own frz_l (by decide) (ln_hide (by decide) (ln_any (ln_any (ln_any ln_nil))))))) (rh_v hd_i) (rex_callB ct_lenL (by rfl) (by exact M_len) (by decide +kernel) (rax_one (rex_var (at_s (at_s at_z)) (by rfl) (by first | exact Or.inl rfl | exact Or.inr (Or.inl rfl) | exact Or.inr (Or.inr rfl)))))) (by rfl)) ?g139 ?g140
        case g139 =>
          refine' bx_post (G1 := [sVal (cL (cL (cT (aCons cI (aOne (cO cI)))))), sVal cI, sOwn PAny (oL cI), sOwn PAny (oL (cL (cT (aCons cI (aOne (cO cI)))))), sVal (cL (cT (aCons cI (aOne (cO cI))))), sAny, sAny]) ?g141 (sc_same (sc_same (sc_same (sc_same (sc_any sc_id)))))
          case g141 =>
            refine' bx_cons (G1 := [sVal (cL (cL (cT (aCons cI (aOne (cO cI)))))), sVal cI, sOwn PAny (oL cI), sOwn PAny (oL (cL (cT (aCons cI (aOne (cO cI)))))), sOwn PAny (oL (cT (aCons cI (aOne (cO cI))))), sAny, sAny]) ?g137 ?g138
            case g137 =>
              exact sx_setO (up_s (up_s (up_s (up_s up_z)))) (by rfl) (by first | exact Or.inl rfl | exact Or.inr rfl) (rex_list (c := (cT (aCons cI (aOne (cO cI))))) rax_nilA) (by exact trivial) (by rfl) (by first | exact Or.inl rfl | exact Or.inr rfl)
            case g138 =>
              refine' bx_cons (G1 := [sVal (cL (cL (cT (aCons cI (aOne (cO cI)))))), sVal cI, sOwn PAny (oL cI), sOwn PAny (oL (cL (cT (aCons cI (aOne (cO cI)))))), sOwn PAny (oL (cT (aCons cI (aOne (cO cI))))), sAny, sAny]) ?g135 ?g136
              case g135 =>
                refine' sx_for (G1 := [sVal (cL (cL (cT (aCons cI (aOne (cO cI)))))), sVal cI, sOwn PAny (oL cI), sOwn PAny (oL (cL (cT (aCons cI (aOne (cO cI)))))), sOwn PAny (oL (cT (aCons cI (aOne (cO cI))))), sVal cI, sVal (cO cI)]) (G2 := [sVal (cL (cL (cT (aCons cI (aOne (cO cI)))))), sVal cI, sOwn PAny (oL cI), sOwn PAny (oL (cL (cT (aCons cI (aOne (cO cI)))))), sOwn PAny (oL (cT (aCons cI (aOne (cO cI))))), sVal cI, sVal (cO cI)]) (rix_l (rex_ixL (rex_var at_z (by rfl) (by first | exact Or.inl rfl | exact Or.inr (Or.inl rfl) | exact Or.inr (Or.inr rfl))) (rex_lend (S := [2]) (T := [3]) (ln_val (ln_val (ln_own frz_l (by decide) (ln_hide (by decide) (ln_hold (ho_l (hd_t (ha_cons hd_i (ha_one (hd_o hd_i))))) (by decide) (by decide) (ln_any (ln_any ln_nil))))))) (rh_v hd_i) (rex_ixL (rex_var (at_s (at_s at_z)) (by rfl) (by first | exact Or.inl rfl | exact Or.inr (Or.inl rfl) | exact Or.inr (Or.inr rfl))) (rex_var (at_s at_z) (by rfl) (by first | exact Or.inl rfl | exact Or.inr (Or.inl rfl) | exact Or.inr (Or.inr rfl))) (by intro _ _; rfl))) (by intro _ _; rfl))) (gx_tup (gxs_cons (gx_name (up_s (up_s (up_s (up_s (up_s up_z))))) (by rfl) (by first | exact Or.inl rfl | exact Or.inr rfl) (by exact trivial) (by first | exact Or.inl rfl | exact Or.inr rfl)) (gxs_one (gx_name (up_s (up_s (up_s (up_s (up_s (up_s up_z)))))) (by rfl) (by first | exact Or.inl rfl | exact Or.inr rfl) (by exact trivial) (by first | exact Or.inl rfl | exact Or.inr rfl))))) ?g133 (sc_same (sc_same (sc_same (sc_same (sc_same (sc_any (sc_any sc_id)))))))
                case g133 =>
                  refine' bx_cons (G1 := [sVal (cL (cL (cT (aCons cI (aOne (cO cI)))))), sVal cI, sOwn PAny (oL cI), sOwn PAny (oL (cL (cT (aCons cI (aOne (cO cI)))))), sOwn PAny (oL (cT (aCons cI (aOne (cO cI))))), sVal cI, sVal (cO cI)]) ?g131 ?g132
                  case g131 =>
                    refine' sx_if (G' := [sVal (cL (cL (cT (aCons cI (aOne (cO cI)))))), sVal cI, sOwn PAny (oL cI), sOwn PAny (oL (cL (cT (aCons cI (aOne (cO cI)))))), sOwn PAny (oL (cT (aCons cI (aOne (cO cI))))), sVal cI, sVal (cO cI)]) (rtx_lend (S := [2]) (T := [3]) (ln_val (ln_val (ln_own frz_l (by decide) (ln_hide (by decide) (ln_hold (ho_l (hd_t (ha_cons hd_i (ha_one (hd_o hd_i))))) (by decide) (by decide) (ln_val (ln_val ln_nil))))))) (rtx_cmp (ot_notInLF fq_i) (rex_var (at_s (at_s (at_s (at_s (at_s at_z))))) (by rfl) (by first | exact Or.inl rfl | exact Or.inr (Or.inl rfl) | exact Or.inr (Or.inr rfl))) (rex_var (at_s (at_s at_z)) (by rfl) (by first | exact Or.inl rfl | exact Or.inr (Or.inl rfl) | exact Or.inr (Or.inr rfl))) (by rfl))) ?g129 ?g130
                    case g129 =>
                      refine' bx_one ?_
                      exact sx_expr (ex_ownM mt_app PySem.F.slot_list_append (by rfl) (at_s (at_s at_z)) (md_s (md_s md_z)) (by rfl) (by first | exact Or.inl rfl | exact Or.inr (Or.inl rfl) | exact Or.inr (Or.inr rfl)) (rax_one (rex_var (at_s (at_s (at_s (at_s (at_s at_z))))) (by rfl) (by first | exact Or.inl rfl | exact Or.inr (Or.inl rfl) | exact Or.inr (Or.inr rfl)))))
                    case g130 =>
                      exact bx_nil
                  case g132 =>
                    refine' bx_one ?_
                    exact sx_expr (ex_ownM mt_app PySem.F.slot_list_append (by rfl) (at_s (at_s (at_s (at_s at_z)))) (md_s (md_s (md_s (md_s md_z)))) (by rfl) (by first | exact Or.inl rfl | exact Or.inr (Or.inl rfl) | exact Or.inr (Or.inr rfl)) (rax_one (rex_tup (rax_cons (rex_lend (S := [2]) (T := [3]) (ln_val (ln_val (ln_own frz_l (by decide) (ln_hide (by decide) (ln_hold (ho_l (hd_t (ha_cons hd_i (ha_one (hd_o hd_i))))) (by decide) (by decide) (ln_val (ln_val ln_nil))))))) (rh_v hd_i) (rex_mv (mv_index dc_i dc_i (by decide) (by decide)) PySem.F.plainAttrs_list PySem.F.slot_list_index (by rfl) (rex_var (at_s (at_s at_z)) (by rfl) (by first | exact Or.inl rfl | exact Or.inr (Or.inl rfl) | exact Or.inr (Or.inr rfl))) (rax_one (rex_var (at_s (at_s (at_s (at_s (at_s at_z))))) (by rfl) (by first | exact Or.inl rfl | exact Or.inr (Or.inl rfl) | exact Or.inr (Or.inr rfl)))))) (rax_one (rex_var (at_s (at_s (at_s (at_s (at_s (at_s at_z)))))) (by rfl) (by first | exact Or.inl rfl | exact Or.inr (Or.inl rfl) | exact Or.inr (Or.inr rfl))))))))
              case g136 =>
                refine' bx_sub (G1 := [sVal (cL (cL (cT (aCons cI (aOne (cO cI)))))), sVal cI, sOwn PAny (oL cI), sOwn PAny (oL (cL (cT (aCons cI (aOne (cO cI)))))), sVal (cL (cT (aCons cI (aOne (cO cI))))), sAny, sAny]) (sc_same (sc_same (sc_same (sc_same (sc_frz frz_l sc_id))))) ?g134
                case g134 =>
                  refine' bx_one ?_
                  exact sx_expr (ex_ownM mt_app PySem.F.slot_list_append (by rfl) (at_s (at_s (at_s at_z))) (md_s (md_s (md_s md_z))) (by rfl) (by first | exact Or.inl rfl | exact Or.inr (Or.inl rfl) | exact Or.inr (Or.inr rfl)) (rax_one (rex_var (at_s (at_s (at_s (at_s at_z)))) (by rfl) (by first | exact Or.inl rfl | exact Or.inr (Or.inl rfl) | exact Or.inr (Or.inr rfl)))))
        case g140 =>
          exact bx_nil
    case g144 =>
      refine' bx_one ?_
      exact sx_retO (at_s (at_s (at_s at_z))) (by rfl) (by first | exact Or.inl rfl | exact Or.inr (Or.inl rfl) | exact Or.inr (Or.inr rfl))⟩
def F__law_walked (y : (List (List (Int × (Option Int))))) : Res (List (List (Int × (Option Int)))) := Res.bind ((fb__law_walked ).1 (y, ((), ((), ((), ((), ((), ((), ())))))))) endV
theorem okF__law_walked {P : Program} {w : World} {K : Frag} {mg : Str → Option Value} {base : Heap} {ca : Str → Addr} {fa : Addr} {dvs : List V} {kws : List (Str × V)} {fd : FuncData} (F0 : FunD K "_law_walked" "_law_walked" (defArgs s__law_walked) (defBody s__law_walked) (defScope s__law_walked) dvs kws fa fd) (M_range : mg "range" = none) (M_len : mg "len" = none) : FnG P w K mg base 1 fa fd ["grid"] (spP K ca (aOne (cL (cL (cT (aCons cI (aOne (cO cI))))))) (rO (oL (cL (cT (aCons cI (aOne (cO cI))))))) F__law_walked) :=
  fn_P (as := (aOne (cL (cL (cT (aCons cI (aOne (cO cI)))))))) (G0 := [sVal (cL (cL (cT (aCons cI (aOne (cO cI)))))), sAny, sAny, sAny, sAny, sAny, sAny]) (ini := (fun y => (y, ((), ((), ((), ((), ((), ((), ()))))))))) (fb := (fb__law_walked ).1) F0 sc__law_walked (by rfl) (fun L H vs y wf h => by obtain ⟨v1, rfl, h1⟩ := h; exact ⟨⟨v1, rfl, h1⟩, trivial, trivial, trivial, trivial, trivial, trivial, Nat.le_of_ble_eq_true (by rfl)⟩) (fun nd cd A outer s H E hr hgd => (fb__law_walked ).2 M_range M_len fa nd cd A outer s H E hr hgd) (fun y => rfl)
theorem ok__law_walked {P : Program} {w : World} {K : Frag} {mg : Str → Option Value} {base : Heap} {ca : Str → Addr} {fa : Addr} {fd : FuncData} (F0 : FunD K "_law_walked" "_law_walked" (defArgs s__law_walked) (defBody s__law_walked) (defScope s__law_walked) [] [] fa fd) (M_range : mg "range" = none) (M_len : mg "len" = none) (hm : mg "_law_walked" = some (.ref fa)) : DefG P w K mg base 1 "_law_walked" ["grid"] (spP K ca (aOne (cL (cL (cT (aCons cI (aOne (cO cI))))))) (rO (oL (cL (cT (aCons cI (aOne (cO cI))))))) F__law_walked) :=
  ⟨fa, fd, okF__law_walked  F0 M_range M_len, hm, F0.kp, (F0.bindsN (ps := ["grid"]) fun _ _ _ _ _ _ us hl => match us, hl with | [_], _ => rfl), (kw_binds (ps := ["grid"]) F0 fun _ _ _ _ _ _ us hl => match us, hl with | [_], _ => rfl)⟩
/-! _law_ran -/
abbrev s__law_ran : Stmt := top 23
abbrev N__law_ran : List Str := ["names_here", "grid", "row_here", "at", "told", "label", "answer"]
theorem sc__law_ran : FnScope N__law_ran ["names_here", "grid", "row_here", "at"] (defScope s__law_ran) := ⟨rfl, rfl, rfl, by decide +kernel, rfl, by decide +kernel, by decide +kernel⟩
def fb__law_ran : {fb : CT [sVal (cL cS), sVal (cL (cL (cT (aCons cI (aOne (cO cI)))))), sVal (cL cS), sVal cI, sAny, sAny, sAny] → Res (Out (CT [sVal (cL cS), sVal (cL (cL (cT (aCons cI (aOne (cO cI)))))), sVal (cL cS), sVal cI, sAny, sAny, sAny]) ((List (Option Int)) × Int)) // ∀ {P : Program} {w : World} {K : Frag} {mg : Str → Option Value} {base : Heap} {ca : Str → Addr}  (f : Addr) (nd : N__law_ran.Nodup) cd A outer s H E hr hgd, BX (ambOf P w K mg base ca N__law_ran nd 0 "_law_ran" (defScope s__law_ran) f cd A outer s H E hr hgd) [sVal (cL cS), sVal (cL (cL (cT (aCons cI (aOne (cO cI)))))), sVal (cL cS), sVal cI, sAny, sAny, sAny] (defBody s__law_ran) [sVal (cL cS), sVal (cL (cL (cT (aCons cI (aOne (cO cI)))))), sVal (cL cS), sVal cI, sAny, sAny, sAny] (rrP (rO (oT (oOc (oL (cO cI)) (oV1 cI))))) fb} := ⟨_, by
  intro P w K mg base ca  f nd cd A outer s H E hr hgd
  refine' bx_cons (G1 := [sVal (cL cS), sVal (cL (cL (cT (aCons cI (aOne (cO cI)))))), sVal (cL cS), sVal cI, sOwn PAny (oL (cO cI)), sAny, sAny]) ?g153 ?g154
  case g153 =>
    exact sx_setO (up_s (up_s (up_s (up_s up_z)))) (by rfl) (by first | exact Or.inl rfl | exact Or.inr rfl) (rex_list (c := (cO cI)) rax_nilA) (by exact trivial) (by rfl) (by first | exact Or.inl rfl | exact Or.inr rfl)
  case g154 =>
    refine' bx_cons (G1 := [sVal (cL cS), sVal (cL (cL (cT (aCons cI (aOne (cO cI)))))), sVal (cL cS), sVal cI, sOwn PAny (oL (cO cI)), sAny, sAny]) ?g151 ?g152
    case g151 =>
      refine' sx_for (G1 := [sVal (cL cS), sVal (cL (cL (cT (aCons cI (aOne (cO cI)))))), sVal (cL cS), sVal cI, sOwn PAny (oL (cO cI)), sVal cS, sAny]) (G2 := [sVal (cL cS), sVal (cL (cL (cT (aCons cI (aOne (cO cI)))))), sVal (cL cS), sVal cI, sOwn PAny (oL (cO cI)), sVal cS, sVal (cO cI)]) (rix_l (rex_var (at_s (at_s at_z)) (by rfl) (by first | exact Or.inl rfl | exact Or.inr (Or.inl rfl) | exact Or.inr (Or.inr rfl)))) (gx_name (up_s (up_s (up_s (up_s (up_s up_z))))) (by rfl) (by first | exact Or.inl rfl | exact Or.inr rfl) (by exact trivial) (by first | exact Or.inl rfl | exact Or.inr rfl)) ?g149 (sc_same (sc_same (sc_same (sc_same (sc_same (sc_any (sc_any sc_id)))))))
      case g149 =>
        refine' bx_cons (G1 := [sVal (cL cS), sVal (cL (cL (cT (aCons cI (aOne (cO cI)))))), sVal (cL cS), sVal cI, sOwn PAny (oL (cO cI)), sVal cS, sVal (cO cI)]) ?g147 ?g148
        case g147 =>
          exact sx_asg (rex_ixL (rex_ixL (rex_var (at_s at_z) (by rfl) (by first | exact Or.inl rfl | exact Or.inr (Or.inl rfl) | exact Or.inr (Or.inr rfl))) (rex_var (at_s (at_s (at_s at_z))) (by rfl) (by first | exact Or.inl rfl | exact Or.inr (Or.inl rfl) | exact Or.inr (Or.inr rfl))) (by intro _ _; rfl)) (rex_mv (mv_index dc_s dc_s (by decide) (by decide)) PySem.F.plainAttrs_list PySem.F.slot_list_index (by rfl) (rex_var at_z (by rfl) (by first | exact Or.inl rfl | exact Or.inr (Or.inl rfl) | exact Or.inr (Or.inr rfl))) (rax_one (rex_var (at_s (at_s (at_s (at_s (at_s at_z))))) (by rfl) (by first | exact Or.inl rfl | exact Or.inr (Or.inl rfl) | exact Or.inr (Or.inr rfl))))) (by intro _ _; rfl)) (gx_tup (gxs_cons (gx_name (up_s (up_s (up_s up_z))) (by rfl) (by first | exact Or.inl rfl | exact Or.inr rfl) (by exact trivial) (by first | exact Or.inl rfl | exact Or.inr rfl)) (gxs_one (gx_name (up_s (up_s (up_s (up_s (up_s (up_s up_z)))))) (by rfl) (by first | exact Or.inl rfl | exact Or.inr rfl) (by exact trivial) (by first | exact Or.inl rfl | exact Or.inr rfl)))))
        case g148 =>
          refine' bx_one ?_
          exact sx_expr (ex_ownM mt_app PySem.F.slot_list_append (by rfl) (at_s (at_s (at_s (at_s at_z)))) (md_s (md_s (md_s (md_s md_z)))) (by rfl) (by first | exact Or.inl rfl | exact Or.inr (Or.inl rfl) | exact Or.inr (Or.inr rfl)) (rax_one (rex_var (at_s (at_s (at_s (at_s (at_s (at_s at_z)))))) (by rfl) (by first | exact Or.inl rfl | exact Or.inr (Or.inl rfl) | exact Or.inr (Or.inr rfl)))))
    case g152 =>
      refine' bx_sub (G1 := [sVal (cL cS), sVal (cL (cL (cT (aCons cI (aOne (cO cI)))))), sVal (cL cS), sVal cI, sOpt (oL (cO cI)), sAny, sAny]) (sc_same (sc_same (sc_same (sc_same (sc_opt sc_id))))) ?g150
      case g150 =>
        refine' bx_one ?_
        exact sx_ret (ex_tupO (axt_oc sh_l (ex_mvPl uo_l (md_s (md_s (md_s (md_s md_z)))) (px_nameO (at_s (at_s (at_s (at_s at_z)))) (by rfl) (by first | exact Or.inl rfl | exact Or.inr (Or.inl rfl) | exact Or.inr (Or.inr rfl)))) (raxt_v1 (rex_var (at_s (at_s (at_s at_z))) (by rfl) (by first | exact Or.inl rfl | exact Or.inr (Or.inl rfl) | exact Or.inr (Or.inr rfl))))))⟩
def F__law_ran (y : (List Str) × (List (List (Int × (Option Int)))) × (List Str) × Int) : Res ((List (Option Int)) × Int) := Res.bind ((fb__law_ran ).1 (y.1, (y.2.1, (y.2.2.1, (y.2.2.2, ((), ((), ((), ())))))))) endV
theorem okF__law_ran {P : Program} {w : World} {K : Frag} {mg : Str → Option Value} {base : Heap} {ca : Str → Addr} {fa : Addr} {dvs : List V} {kws : List (Str × V)} {fd : FuncData} (F0 : FunD K "_law_ran" "_law_ran" (defArgs s__law_ran) (defBody s__law_ran) (defScope s__law_ran) dvs kws fa fd)  : FnG P w K mg base 1 fa fd ["names_here", "grid", "row_here", "at"] (spP K ca (aCons (cL cS) (aCons (cL (cL (cT (aCons cI (aOne (cO cI)))))) (aCons (cL cS) (aOne cI)))) (rO (oT (oOc (oL (cO cI)) (oV1 cI)))) F__law_ran) :=
  fn_P (as := (aCons (cL cS) (aCons (cL (cL (cT (aCons cI (aOne (cO cI)))))) (aCons (cL cS) (aOne cI))))) (G0 := [sVal (cL cS), sVal (cL (cL (cT (aCons cI (aOne (cO cI)))))), sVal (cL cS), sVal cI, sAny, sAny, sAny]) (ini := (fun y => (y.1, (y.2.1, (y.2.2.1, (y.2.2.2, ((), ((), ((), ()))))))))) (fb := (fb__law_ran ).1) F0 sc__law_ran (by rfl) (fun L H vs y wf h => by obtain ⟨v1, _, rfl, h1, v2, _, rfl, h2, v3, _, rfl, h3, v4, rfl, h4⟩ := h; exact ⟨⟨v1, rfl, h1⟩, ⟨v2, rfl, h2⟩, ⟨v3, rfl, h3⟩, ⟨v4, rfl, h4⟩, trivial, trivial, trivial, Nat.le_of_ble_eq_true (by rfl)⟩) (fun nd cd A outer s H E hr hgd => (fb__law_ran ).2  fa nd cd A outer s H E hr hgd) (fun y => rfl)
theorem ok__law_ran {P : Program} {w : World} {K : Frag} {mg : Str → Option Value} {base : Heap} {ca : Str → Addr} {fa : Addr} {fd : FuncData} (F0 : FunD K "_law_ran" "_law_ran" (defArgs s__law_ran) (defBody s__law_ran) (defScope s__law_ran) [] [] fa fd)  (hm : mg "_law_ran" = some (.ref fa)) : DefG P w K mg base 1 "_law_ran" ["names_here", "grid", "row_here", "at"] (spP K ca (aCons (cL cS) (aCons (cL (cL (cT (aCons cI (aOne (cO cI)))))) (aCons (cL cS) (aOne cI)))) (rO (oT (oOc (oL (cO cI)) (oV1 cI)))) F__law_ran) :=
  ⟨fa, fd, okF__law_ran  F0 , hm, F0.kp, (F0.bindsN (ps := ["names_here", "grid", "row_here", "at"]) fun _ _ _ _ _ _ us hl => match us, hl with | [_, _, _, _], _ => rfl), (kw_binds (ps := ["names_here", "grid", "row_here", "at"]) F0 fun _ _ _ _ _ _ us hl => match us, hl with | [_, _, _, _], _ => rfl)⟩
/-! _law_built -/
abbrev s__law_built : Stmt := top 24
abbrev N__law_built : List Str := ["names_here", "grid", "line"]
theorem sc__law_built : FnScope N__law_built ["names_here", "grid"] (defScope s__law_built) := ⟨rfl, rfl, rfl, by decide +kernel, rfl, by decide +kernel, by decide +kernel⟩
def fb__law_built (A_Service : Addr) : {fb : CT [sVal (cL cS), sVal (cL (cL (cT (aCons cI (aOne (cO cI)))))), sAny] → Res (Out (CT [sVal (cL cS), sVal (cL (cL (cT (aCons cI (aOne (cO cI)))))), sAny]) ((Unit × (List Str)) × (List (List (Int × (Option Int)))))) // ∀ {P : Program} {w : World} {K : Frag} {mg : Str → Option Value} {base : Heap} {ca : Str → Addr} (K_Service : MakG P w K mg base 4 "Service" A_Service ["self", "names", "table"] (spN K ca A_Service (aCons (cL cS) (aOne (cL (cL (cT (aCons cI (aOne (cO cI)))))))) (fSnoc (fSnoc fNil "kept_names" (cTN cS)) "kept_table" (cTV (cTV (cT (aCons cI (aOne (cO cI))))))) F_Service_init)) (M_list : mg "list" = none) (f : Addr) (nd : N__law_built.Nodup) cd A outer s H E hr hgd, BX (ambOf P w K mg base ca N__law_built nd 5 "_law_built" (defScope s__law_built) f cd A outer s H E hr hgd) [sVal (cL cS), sVal (cL (cL (cT (aCons cI (aOne (cO cI)))))), sAny] (defBody s__law_built) [sVal (cL cS), sVal (cL (cL (cT (aCons cI (aOne (cO cI)))))), sAny] (rrP (rV (cIns A_Service (fSnoc (fSnoc fNil "kept_names" (cTN cS)) "kept_table" (cTV (cTV (cT (aCons cI (aOne (cO cI)))))))))) fb} := ⟨_, by
  intro P w K mg base ca K_Service M_list f nd cd A outer s H E hr hgd
  refine' bx_one ?_
  exact sx_ret (rex_make K_Service (Nat.le_of_ble_eq_true (by rfl)) (by rfl) (rax_cons (rex_frz frz_l (rex_callTy ct_listL (by rfl) (by exact M_list) (by decide +kernel) (rax_one (rex_var at_z (by rfl) (by first | exact Or.inl rfl | exact Or.inr (Or.inl rfl) | exact Or.inr (Or.inr rfl)))))) (rax_one (rex_frz frz_l (rex_lc (own := [("line", 2)]) (rix_l (rex_var (at_s at_z) (by rfl) (by first | exact Or.inl rfl | exact Or.inr (Or.inl rfl) | exact Or.inr (Or.inr rfl)))) (blkOk_by (by rfl)) (wc_keep (by decide) (wc_keep (by decide) (wc_any wc_nil))) (fun _ _ _ _ _ => (gx_name (up_s (up_s up_z)) (by rfl) (by first | exact Or.inl rfl | exact Or.inr rfl) (by show (2 : Nat) ∈ [2]; decide) (by first | exact Or.inl rfl | exact Or.inr rfl))) (fun _ _ _ _ _ => (rex_frz frz_l (rex_callTy ct_listL (by rfl) (by exact M_list) (by decide +kernel) (rax_one (rex_var (at_s (at_s at_z)) (by rfl) (by first | exact Or.inl rfl | exact Or.inr (Or.inl rfl) | exact Or.inr (Or.inr rfl))))))) (wc_keep (by decide) (wc_keep (by decide) (wc_val wc_nil))))))))⟩
def F__law_built (y : (List Str) × (List (List (Int × (Option Int))))) : Res ((Unit × (List Str)) × (List (List (Int × (Option Int))))) := Res.bind ((fb__law_built 0 ).1 (y.1, (y.2, ((), ())))) endV
theorem okF__law_built {P : Program} {w : World} {K : Frag} {mg : Str → Option Value} {base : Heap} {ca : Str → Addr} {fa : Addr} {dvs : List V} {kws : List (Str × V)} {fd : FuncData} {A_Service : Addr} (F0 : FunD K "_law_built" "_law_built" (defArgs s__law_built) (defBody s__law_built) (defScope s__law_built) dvs kws fa fd) (K_Service : MakG P w K mg base 4 "Service" A_Service ["self", "names", "table"] (spN K ca A_Service (aCons (cL cS) (aOne (cL (cL (cT (aCons cI (aOne (cO cI)))))))) (fSnoc (fSnoc fNil "kept_names" (cTN cS)) "kept_table" (cTV (cTV (cT (aCons cI (aOne (cO cI))))))) F_Service_init)) (M_list : mg "list" = none) : FnG P w K mg base 6 fa fd ["names_here", "grid"] (spP K ca (aCons (cL cS) (aOne (cL (cL (cT (aCons cI (aOne (cO cI)))))))) (rV (cIns A_Service (fSnoc (fSnoc fNil "kept_names" (cTN cS)) "kept_table" (cTV (cTV (cT (aCons cI (aOne (cO cI))))))))) F__law_built) :=
  fn_P (as := (aCons (cL cS) (aOne (cL (cL (cT (aCons cI (aOne (cO cI))))))))) (G0 := [sVal (cL cS), sVal (cL (cL (cT (aCons cI (aOne (cO cI)))))), sAny]) (ini := (fun y => (y.1, (y.2, ((), ()))))) (fb := (fb__law_built A_Service ).1) F0 sc__law_built (by rfl) (fun L H vs y wf h => by obtain ⟨v1, _, rfl, h1, v2, rfl, h2⟩ := h; exact ⟨⟨v1, rfl, h1⟩, ⟨v2, rfl, h2⟩, trivial, Nat.le_of_ble_eq_true (by rfl)⟩) (fun nd cd A outer s H E hr hgd => (fb__law_built A_Service ).2 K_Service M_list fa nd cd A outer s H E hr hgd) (fun y => rfl)
theorem ok__law_built {P : Program} {w : World} {K : Frag} {mg : Str → Option Value} {base : Heap} {ca : Str → Addr} {fa : Addr} {fd : FuncData} {A_Service : Addr} (F0 : FunD K "_law_built" "_law_built" (defArgs s__law_built) (defBody s__law_built) (defScope s__law_built) [] [] fa fd) (K_Service : MakG P w K mg base 4 "Service" A_Service ["self", "names", "table"] (spN K ca A_Service (aCons (cL cS) (aOne (cL (cL (cT (aCons cI (aOne (cO cI)))))))) (fSnoc (fSnoc fNil "kept_names" (cTN cS)) "kept_table" (cTV (cTV (cT (aCons cI (aOne (cO cI))))))) F_Service_init)) (M_list : mg "list" = none) (hm : mg "_law_built" = some (.ref fa)) : DefG P w K mg base 6 "_law_built" ["names_here", "grid"] (spP K ca (aCons (cL cS) (aOne (cL (cL (cT (aCons cI (aOne (cO cI)))))))) (rV (cIns A_Service (fSnoc (fSnoc fNil "kept_names" (cTN cS)) "kept_table" (cTV (cTV (cT (aCons cI (aOne (cO cI))))))))) F__law_built) :=
  ⟨fa, fd, okF__law_built (A_Service := A_Service) F0 K_Service M_list, hm, F0.kp, (F0.bindsN (ps := ["names_here", "grid"]) fun _ _ _ _ _ _ us hl => match us, hl with | [_, _], _ => rfl), (kw_binds (ps := ["names_here", "grid"]) F0 fun _ _ _ _ _ _ us hl => match us, hl with | [_, _], _ => rfl)⟩
/-! _law_caught -/
abbrev s__law_caught : Stmt := top 25
abbrev N__law_caught : List Str := ["way", "made", "line", "at", "caught", "e", "held"]
theorem sc__law_caught : FnScope N__law_caught ["way", "made", "line", "at"] (defScope s__law_caught) := ⟨rfl, rfl, rfl, by decide +kernel, rfl, by decide +kernel, by decide +kernel⟩
def fb__law_caught (A_Service : Addr) : {fb : CT [sVal cI, sVal (cIns A_Service (fSnoc (fSnoc fNil "kept_names" (cTN cS)) "kept_table" (cTV (cTV (cT (aCons cI (aOne (cO cI)))))))), sVal (cL cS), sVal cI, sAny, sAny, sAny] → Res (Out (CT [sVal cI, sVal (cIns A_Service (fSnoc (fSnoc fNil "kept_names" (cTN cS)) "kept_table" (cTV (cTV (cT (aCons cI (aOne (cO cI)))))))), sVal (cL cS), sVal cI, sAny, sAny, sAny]) (Option (Bool × Bool × PyData))) // ∀ {P : Program} {w : World} {K : Frag} {mg : Str → Option Value} {base : Heap} {ca : Str → Addr} (EXS : ExcsF K ca "CutError" ["InvalidName", "DoubleName", "InvalidStep", "InvalidState", "UnknownCall"]) (GCL_UnknownCall : mg "UnknownCall" = some (.ref (ca "UnknownCall"))) (M_isinstance : mg "isinstance" = none) (GCL_InvalidState : mg "InvalidState" = some (.ref (ca "InvalidState"))) (GCL_CutError : mg "CutError" = some (.ref (ca "CutError"))) (C_Service : ClsG K mg "Service" A_Service) (MP_Service_run_p0p1p2 : MetP P w K mg base 3 A_Service "run" 3 [] (fun vs zs => selL [.p 0, .p 1, .p 2] vs [.int 0] zs) (spP K ca (aCons (cIns A_Service (fSnoc (fSnoc fNil "kept_names" (cTN cS)) "kept_table" (cTV (cTV (cT (aCons cI (aOne (cO cI)))))))) (aCons (cL cS) (aOne cI))) (rO (oT (oOc (oL (cO cI)) (oV1 cI)))) F_Service_run)) (MP_Service_run_p0k1k0 : MetP P w K mg base 3 A_Service "run" 1 ["state", "row"] (fun vs zs => selL [.p 0, .k 1, .k 0] vs [.int 0] zs) (spP K ca (aCons (cIns A_Service (fSnoc (fSnoc fNil "kept_names" (cTN cS)) "kept_table" (cTV (cTV (cT (aCons cI (aOne (cO cI)))))))) (aCons (cL cS) (aOne cI))) (rO (oT (oOc (oL (cO cI)) (oV1 cI)))) F_Service_run)) (MET_Service___getitem__ : MetG P w K mg base 3 A_Service "__getitem__" ["self", "name"] (spP K ca (aCons (cIns A_Service (fSnoc (fSnoc fNil "kept_names" (cTN cS)) "kept_table" (cTV (cTV (cT (aCons cI (aOne (cO cI)))))))) (aOne cS)) (rO (oL (cT (aCons cI (aOne (cO cI)))))) F_Service___getitem__)) (GTF_Service : GetF K A_Service) (f : Addr) (nd : N__law_caught.Nodup) cd A outer s H E hr hgd, BX (ambOf P w K mg base ca N__law_caught nd 4 "_law_caught" (defScope s__law_caught) f cd A outer s H E hr hgd) [sVal cI, sVal (cIns A_Service (fSnoc (fSnoc fNil "kept_names" (cTN cS)) "kept_table" (cTV (cTV (cT (aCons cI (aOne (cO cI)))))))), sVal (cL cS), sVal cI, sAny, sAny, sAny] (defBody s__law_caught) [sVal cI, sVal (cIns A_Service (fSnoc (fSnoc fNil "kept_names" (cTN cS)) "kept_table" (cTV (cTV (cT (aCons cI (aOne (cO cI)))))))), sVal (cL cS), sVal cI, sAny, sAny, sAny] (rrP (rV (cO (cH (aCons cB (aCons cB (aOne (cDat 0)))))))) fb} := ⟨_, by
  intro P w K mg base ca EXS GCL_UnknownCall M_isinstance GCL_InvalidState GCL_CutError C_Service MP_Service_run_p0p1p2 MP_Service_run_p0k1k0 MET_Service___getitem__ GTF_Service f nd cd A outer s H E hr hgd
  refine' bx_cons (G1 := [sVal cI, sVal (cIns A_Service (fSnoc (fSnoc fNil "kept_names" (cTN cS)) "kept_table" (cTV (cTV (cT (aCons cI (aOne (cO cI)))))))), sVal (cL cS), sVal cI, sVal (cO (cH (aCons cB (aCons cB (aOne (cDat 0)))))), sAny, sAny]) ?g162 ?g163
  case g162 =>
    exact sx_set (up_s (up_s (up_s (up_s up_z)))) (by rfl) (by first | exact Or.inl rfl | exact Or.inr rfl) (rex_sub (sub_none (c := (cH (aCons cB (aCons cB (aOne (cDat 0))))))) rex_none) (by exact trivial) (by rfl) (by first | exact Or.inl rfl | exact Or.inr rfl)
  case g163 =>
    refine' bx_cons (G1 := [sVal cI, sVal (cIns A_Service (fSnoc (fSnoc fNil "kept_names" (cTN cS)) "kept_table" (cTV (cTV (cT (aCons cI (aOne (cO cI)))))))), sVal (cL cS), sVal cI, sVal (cO (cH (aCons cB (aCons cB (aOne (cDat 0)))))), sAny, sAny]) ?g160 ?g161
    case g160 =>
      refine' sx_tryL (i := 5) (j := 4) (js := [6]) (ms := ["InvalidState", "UnknownCall"]) (G1 := [sVal cI, sVal (cIns A_Service (fSnoc (fSnoc fNil "kept_names" (cTN cS)) "kept_table" (cTV (cTV (cT (aCons cI (aOne (cO cI)))))))), sVal (cL cS), sVal cI, sVal (cO (cH (aCons cB (aCons cB (aOne (cDat 0)))))), sAny, sAny]) (Gh := [sVal cI, sVal (cIns A_Service (fSnoc (fSnoc fNil "kept_names" (cTN cS)) "kept_table" (cTV (cTV (cT (aCons cI (aOne (cO cI)))))))), sVal (cL cS), sVal cI, sAny, sAny, sAny]) (G' := [sVal cI, sVal (cIns A_Service (fSnoc (fSnoc fNil "kept_names" (cTN cS)) "kept_table" (cTV (cTV (cT (aCons cI (aOne (cO cI)))))))), sVal (cL cS), sVal cI, sVal (cO (cH (aCons cB (aCons cB (aOne (cDat 0)))))), sAny, sAny]) EXS (by rfl) GCL_CutError (by rfl) (by rfl) (by rfl) (by rfl) (by exact trivial) (by exact trivial) (by decide) (by rfl) (by first | exact Or.inl rfl | exact Or.inr rfl) (by first | exact Or.inl rfl | exact Or.inr rfl) ?g159 sc_id (tc_val (by decide) (tc_val (by decide) (tc_val (by decide) (tc_val (by decide) (tc_any (tc_any (tc_any tc_nil))))))) (up_s (up_s (up_s (up_s up_z)))) (pae_is EXS (by decide) (by rfl) GCL_InvalidState (by rfl) M_isinstance (by rfl) (by first | exact Or.inl rfl | exact Or.inr (Or.inl rfl) | exact Or.inr (Or.inr rfl)) (pae_is EXS (by decide) (by rfl) GCL_UnknownCall (by rfl) M_isinstance (by rfl) (by first | exact Or.inl rfl | exact Or.inr (Or.inl rfl) | exact Or.inr (Or.inr rfl)) (pae_v EXS (by rfl) (by first | exact Or.inl rfl | exact Or.inr (Or.inl rfl) | exact Or.inr (Or.inr rfl)))))
      case g159 =>
        intro W pn xe tk hp
        refine' bx_one ?_
        refine' sx_if (G' := [sVal cI, sVal (cIns A_Service (fSnoc (fSnoc fNil "kept_names" (cTN cS)) "kept_table" (cTV (cTV (cT (aCons cI (aOne (cO cI)))))))), sVal (cL cS), sVal cI, sVal (cO (cH (aCons cB (aCons cB (aOne (cDat 0)))))), sAny, sAny]) (rtx_cmp ot_eq (rex_var at_z (by rfl) (by first | exact Or.inl rfl | exact Or.inr (Or.inl rfl) | exact Or.inr (Or.inr rfl))) rex_int (by rfl)) ?g157 ?g158
        case g157 =>
          refine' bx_one ?_
          exact sx_expr (rex_metP (fun u x y => (u, (x.1, x.2))) MP_Service_run_p0p1p2 (Nat.le_of_ble_eq_true (by rfl)) C_Service.cls (nk_snoc (nk_snoc nk_nil (by decide)) (by decide)) rto (rex_var (at_s at_z) (by rfl) (by first | exact Or.inl rfl | exact Or.inr (Or.inl rfl) | exact Or.inr (Or.inr rfl))) (rca_pos (rax_cons (rex_var (at_s (at_s at_z)) (by rfl) (by first | exact Or.inl rfl | exact Or.inr (Or.inl rfl) | exact Or.inr (Or.inr rfl))) (rax_one (rex_var (at_s (at_s (at_s at_z))) (by rfl) (by first | exact Or.inl rfl | exact Or.inr (Or.inl rfl) | exact Or.inr (Or.inr rfl)))))) (by rfl) (by rfl) (by intro K R v vs zs u x y h0 h1 h2; obtain ⟨wa0, _, rfl, a0, wa1, rfl, a1⟩ := h1; have h2 : _ = [] := h2; subst h2; exact ⟨_, _, rfl, h0, _, _, rfl, a0, _, rfl, a1⟩) (by rfl))
        case g158 =>
          refine' bx_one ?_
          refine' sx_if (G' := [sVal cI, sVal (cIns A_Service (fSnoc (fSnoc fNil "kept_names" (cTN cS)) "kept_table" (cTV (cTV (cT (aCons cI (aOne (cO cI)))))))), sVal (cL cS), sVal cI, sVal (cO (cH (aCons cB (aCons cB (aOne (cDat 0)))))), sAny, sAny]) (rtx_cmp ot_eq (rex_var at_z (by rfl) (by first | exact Or.inl rfl | exact Or.inr (Or.inl rfl) | exact Or.inr (Or.inr rfl))) rex_int (by rfl)) ?g155 ?g156
          case g155 =>
            refine' bx_one ?_
            exact sx_expr (rex_metP (fun u x y => (u, (y.2, y.1))) MP_Service_run_p0k1k0 (Nat.le_of_ble_eq_true (by rfl)) C_Service.cls (nk_snoc (nk_snoc nk_nil (by decide)) (by decide)) rto (rex_var (at_s at_z) (by rfl) (by first | exact Or.inl rfl | exact Or.inr (Or.inl rfl) | exact Or.inr (Or.inr rfl))) (rca_kw (rkw_cons (rex_var (at_s (at_s (at_s at_z))) (by rfl) (by first | exact Or.inl rfl | exact Or.inr (Or.inl rfl) | exact Or.inr (Or.inr rfl))) (rkw_one (rex_var (at_s (at_s at_z)) (by rfl) (by first | exact Or.inl rfl | exact Or.inr (Or.inl rfl) | exact Or.inr (Or.inr rfl)))))) (by rfl) (by rfl) (by intro K R v vs zs u x y h0 h1 h2; have h1 : _ = [] := h1; subst h1; obtain ⟨wb0, _, rfl, b0, wb1, rfl, b1⟩ := h2; exact ⟨_, _, rfl, h0, _, _, rfl, b1, _, rfl, b0⟩) (by rfl))
          case g156 =>
            exact bx_bad
    case g161 =>
      refine' bx_one ?_
      exact sx_ret (rex_var (at_s (at_s (at_s (at_s at_z)))) (by rfl) (by first | exact Or.inl rfl | exact Or.inr (Or.inl rfl) | exact Or.inr (Or.inr rfl)))⟩
def F__law_caught (y : Int × ((Unit × (List Str)) × (List (List (Int × (Option Int))))) × (List Str) × Int) : Res (Option (Bool × Bool × PyData)) := Res.bind ((fb__law_caught 0 ).1 (y.1, (y.2.1, (y.2.2.1, (y.2.2.2, ((), ((), ((), ())))))))) endV
theorem okF__law_caught {P : Program} {w : World} {K : Frag} {mg : Str → Option Value} {base : Heap} {ca : Str → Addr} {fa : Addr} {dvs : List V} {kws : List (Str × V)} {fd : FuncData} {A_Service : Addr} (F0 : FunD K "_law_caught" "_law_caught" (defArgs s__law_caught) (defBody s__law_caught) (defScope s__law_caught) dvs kws fa fd) (EXS : ExcsF K ca "CutError" ["InvalidName", "DoubleName", "InvalidStep", "InvalidState", "UnknownCall"]) (GCL_UnknownCall : mg "UnknownCall" = some (.ref (ca "UnknownCall"))) (M_isinstance : mg "isinstance" = none) (GCL_InvalidState : mg "InvalidState" = some (.ref (ca "InvalidState"))) (GCL_CutError : mg "CutError" = some (.ref (ca "CutError"))) (C_Service : ClsG K mg "Service" A_Service) (MP_Service_run_p0p1p2 : MetP P w K mg base 3 A_Service "run" 3 [] (fun vs zs => selL [.p 0, .p 1, .p 2] vs [.int 0] zs) (spP K ca (aCons (cIns A_Service (fSnoc (fSnoc fNil "kept_names" (cTN cS)) "kept_table" (cTV (cTV (cT (aCons cI (aOne (cO cI)))))))) (aCons (cL cS) (aOne cI))) (rO (oT (oOc (oL (cO cI)) (oV1 cI)))) F_Service_run)) (MP_Service_run_p0k1k0 : MetP P w K mg base 3 A_Service "run" 1 ["state", "row"] (fun vs zs => selL [.p 0, .k 1, .k 0] vs [.int 0] zs) (spP K ca (aCons (cIns A_Service (fSnoc (fSnoc fNil "kept_names" (cTN cS)) "kept_table" (cTV (cTV (cT (aCons cI (aOne (cO cI)))))))) (aCons (cL cS) (aOne cI))) (rO (oT (oOc (oL (cO cI)) (oV1 cI)))) F_Service_run)) (MET_Service___getitem__ : MetG P w K mg base 3 A_Service "__getitem__" ["self", "name"] (spP K ca (aCons (cIns A_Service (fSnoc (fSnoc fNil "kept_names" (cTN cS)) "kept_table" (cTV (cTV (cT (aCons cI (aOne (cO cI)))))))) (aOne cS)) (rO (oL (cT (aCons cI (aOne (cO cI)))))) F_Service___getitem__)) (GTF_Service : GetF K A_Service) : FnG P w K mg base 5 fa fd ["way", "made", "line", "at"] (spP K ca (aCons cI (aCons (cIns A_Service (fSnoc (fSnoc fNil "kept_names" (cTN cS)) "kept_table" (cTV (cTV (cT (aCons cI (aOne (cO cI)))))))) (aCons (cL cS) (aOne cI)))) (rV (cO (cH (aCons cB (aCons cB (aOne (cDat 0))))))) F__law_caught) :=
  fn_P (as := (aCons cI (aCons (cIns A_Service (fSnoc (fSnoc fNil "kept_names" (cTN cS)) "kept_table" (cTV (cTV (cT (aCons cI (aOne (cO cI)))))))) (aCons (cL cS) (aOne cI))))) (G0 := [sVal cI, sVal (cIns A_Service (fSnoc (fSnoc fNil "kept_names" (cTN cS)) "kept_table" (cTV (cTV (cT (aCons cI (aOne (cO cI)))))))), sVal (cL cS), sVal cI, sAny, sAny, sAny]) (ini := (fun y => (y.1, (y.2.1, (y.2.2.1, (y.2.2.2, ((), ((), ((), ()))))))))) (fb := (fb__law_caught A_Service ).1) F0 sc__law_caught (by rfl) (fun L H vs y wf h => by obtain ⟨v1, _, rfl, h1, v2, _, rfl, h2, v3, _, rfl, h3, v4, rfl, h4⟩ := h; exact ⟨⟨v1, rfl, h1⟩, ⟨v2, rfl, h2⟩, ⟨v3, rfl, h3⟩, ⟨v4, rfl, h4⟩, trivial, trivial, trivial, Nat.le_of_ble_eq_true (by rfl)⟩) (fun nd cd A outer s H E hr hgd => (fb__law_caught A_Service ).2 EXS GCL_UnknownCall M_isinstance GCL_InvalidState GCL_CutError C_Service MP_Service_run_p0p1p2 MP_Service_run_p0k1k0 MET_Service___getitem__ GTF_Service fa nd cd A outer s H E hr hgd) (fun y => rfl)
theorem ok__law_caught {P : Program} {w : World} {K : Frag} {mg : Str → Option Value} {base : Heap} {ca : Str → Addr} {fa : Addr} {fd : FuncData} {A_Service : Addr} (F0 : FunD K "_law_caught" "_law_caught" (defArgs s__law_caught) (defBody s__law_caught) (defScope s__law_caught) [] [] fa fd) (EXS : ExcsF K ca "CutError" ["InvalidName", "DoubleName", "InvalidStep", "InvalidState", "UnknownCall"]) (GCL_UnknownCall : mg "UnknownCall" = some (.ref (ca "UnknownCall"))) (M_isinstance : mg "isinstance" = none) (GCL_InvalidState : mg "InvalidState" = some (.ref (ca "InvalidState"))) (GCL_CutError : mg "CutError" = some (.ref (ca "CutError"))) (C_Service : ClsG K mg "Service" A_Service) (MP_Service_run_p0p1p2 : MetP P w K mg base 3 A_Service "run" 3 [] (fun vs zs => selL [.p 0, .p 1, .p 2] vs [.int 0] zs) (spP K ca (aCons (cIns A_Service (fSnoc (fSnoc fNil "kept_names" (cTN cS)) "kept_table" (cTV (cTV (cT (aCons cI (aOne (cO cI)))))))) (aCons (cL cS) (aOne cI))) (rO (oT (oOc (oL (cO cI)) (oV1 cI)))) F_Service_run)) (MP_Service_run_p0k1k0 : MetP P w K mg base 3 A_Service "run" 1 ["state", "row"] (fun vs zs => selL [.p 0, .k 1, .k 0] vs [.int 0] zs) (spP K ca (aCons (cIns A_Service (fSnoc (fSnoc fNil "kept_names" (cTN cS)) "kept_table" (cTV (cTV (cT (aCons cI (aOne (cO cI)))))))) (aCons (cL cS) (aOne cI))) (rO (oT (oOc (oL (cO cI)) (oV1 cI)))) F_Service_run)) (MET_Service___getitem__ : MetG P w K mg base 3 A_Service "__getitem__" ["self", "name"] (spP K ca (aCons (cIns A_Service (fSnoc (fSnoc fNil "kept_names" (cTN cS)) "kept_table" (cTV (cTV (cT (aCons cI (aOne (cO cI)))))))) (aOne cS)) (rO (oL (cT (aCons cI (aOne (cO cI)))))) F_Service___getitem__)) (GTF_Service : GetF K A_Service) (hm : mg "_law_caught" = some (.ref fa)) : DefG P w K mg base 5 "_law_caught" ["way", "made", "line", "at"] (spP K ca (aCons cI (aCons (cIns A_Service (fSnoc (fSnoc fNil "kept_names" (cTN cS)) "kept_table" (cTV (cTV (cT (aCons cI (aOne (cO cI)))))))) (aCons (cL cS) (aOne cI)))) (rV (cO (cH (aCons cB (aCons cB (aOne (cDat 0))))))) F__law_caught) :=
  ⟨fa, fd, okF__law_caught (A_Service := A_Service) F0 EXS GCL_UnknownCall M_isinstance GCL_InvalidState GCL_CutError C_Service MP_Service_run_p0p1p2 MP_Service_run_p0k1k0 MET_Service___getitem__ GTF_Service, hm, F0.kp, (F0.bindsN (ps := ["way", "made", "line", "at"]) fun _ _ _ _ _ _ us hl => match us, hl with | [_, _, _, _], _ => rfl), (kw_binds (ps := ["way", "made", "line", "at"]) F0 fun _ _ _ _ _ _ us hl => match us, hl with | [_, _, _, _], _ => rfl)⟩
/-! _law_caught@t -/
abbrev s__law_caught_o_t : Stmt := top 25
abbrev N__law_caught_o_t : List Str := ["way", "made", "line", "at", "caught", "e", "held"]
theorem sc__law_caught_o_t : FnScope N__law_caught_o_t ["way", "made", "line", "at"] (defScope s__law_caught_o_t) := ⟨rfl, rfl, rfl, by decide +kernel, rfl, by decide +kernel, by decide +kernel⟩
def fb__law_caught_o_t (A_Service : Addr) : {fb : CT [sVal cI, sVal (cIns A_Service (fSnoc (fSnoc fNil "kept_names" (cTN cS)) "kept_table" (cTV (cTV (cT (aCons cI (aOne (cO cI)))))))), sVal cS, sVal cI, sAny, sAny, sAny] → Res (Out (CT [sVal cI, sVal (cIns A_Service (fSnoc (fSnoc fNil "kept_names" (cTN cS)) "kept_table" (cTV (cTV (cT (aCons cI (aOne (cO cI)))))))), sVal cS, sVal cI, sAny, sAny, sAny]) (Option (Bool × Bool × PyData))) // ∀ {P : Program} {w : World} {K : Frag} {mg : Str → Option Value} {base : Heap} {ca : Str → Addr} (EXS : ExcsF K ca "CutError" ["InvalidName", "DoubleName", "InvalidStep", "InvalidState", "UnknownCall"]) (GCL_UnknownCall : mg "UnknownCall" = some (.ref (ca "UnknownCall"))) (M_isinstance : mg "isinstance" = none) (GCL_InvalidState : mg "InvalidState" = some (.ref (ca "InvalidState"))) (GCL_CutError : mg "CutError" = some (.ref (ca "CutError"))) (C_Service : ClsG K mg "Service" A_Service) (MET_Service___getitem__ : MetG P w K mg base 3 A_Service "__getitem__" ["self", "name"] (spP K ca (aCons (cIns A_Service (fSnoc (fSnoc fNil "kept_names" (cTN cS)) "kept_table" (cTV (cTV (cT (aCons cI (aOne (cO cI)))))))) (aOne cS)) (rO (oL (cT (aCons cI (aOne (cO cI)))))) F_Service___getitem__)) (GTF_Service : GetF K A_Service) (f : Addr) (nd : N__law_caught_o_t.Nodup) cd A outer s H E hr hgd, BX (ambOf P w K mg base ca N__law_caught_o_t nd 4 "_law_caught" (defScope s__law_caught_o_t) f cd A outer s H E hr hgd) [sVal cI, sVal (cIns A_Service (fSnoc (fSnoc fNil "kept_names" (cTN cS)) "kept_table" (cTV (cTV (cT (aCons cI (aOne (cO cI)))))))), sVal cS, sVal cI, sAny, sAny, sAny] (defBody s__law_caught_o_t) [sVal cI, sVal (cIns A_Service (fSnoc (fSnoc fNil "kept_names" (cTN cS)) "kept_table" (cTV (cTV (cT (aCons cI (aOne (cO cI)))))))), sVal cS, sVal cI, sAny, sAny, sAny] (rrP (rV (cO (cH (aCons cB (aCons cB (aOne (cDat 0)))))))) fb} := ⟨_, by
  intro P w K mg base ca EXS GCL_UnknownCall M_isinstance GCL_InvalidState GCL_CutError C_Service MET_Service___getitem__ GTF_Service f nd cd A outer s H E hr hgd
  refine' bx_cons (G1 := [sVal cI, sVal (cIns A_Service (fSnoc (fSnoc fNil "kept_names" (cTN cS)) "kept_table" (cTV (cTV (cT (aCons cI (aOne (cO cI)))))))), sVal cS, sVal cI, sVal (cO (cH (aCons cB (aCons cB (aOne (cDat 0)))))), sAny, sAny]) ?g174 ?g175
  case g174 =>
    exact sx_set (up_s (up_s (up_s (up_s up_z)))) (by rfl) (by first | exact Or.inl rfl | exact Or.inr rfl) (rex_sub (sub_none (c := (cH (aCons cB (aCons cB (aOne (cDat 0))))))) rex_none) (by exact trivial) (by rfl) (by first | exact Or.inl rfl | exact Or.inr rfl)
  case g175 =>
    refine' bx_cons (G1 := [sVal cI, sVal (cIns A_Service (fSnoc (fSnoc fNil "kept_names" (cTN cS)) "kept_table" (cTV (cTV (cT (aCons cI (aOne (cO cI)))))))), sVal cS, sVal cI, sVal (cO (cH (aCons cB (aCons cB (aOne (cDat 0)))))), sAny, sAny]) ?g172 ?g173
    case g172 =>
      refine' sx_tryL (i := 5) (j := 4) (js := [6]) (ms := ["InvalidState", "UnknownCall"]) (G1 := [sVal cI, sVal (cIns A_Service (fSnoc (fSnoc fNil "kept_names" (cTN cS)) "kept_table" (cTV (cTV (cT (aCons cI (aOne (cO cI)))))))), sVal cS, sVal cI, sVal (cO (cH (aCons cB (aCons cB (aOne (cDat 0)))))), sAny, sOwn PAny (oL cX)]) (Gh := [sVal cI, sVal (cIns A_Service (fSnoc (fSnoc fNil "kept_names" (cTN cS)) "kept_table" (cTV (cTV (cT (aCons cI (aOne (cO cI)))))))), sVal cS, sVal cI, sAny, sAny, sAny]) (G' := [sVal cI, sVal (cIns A_Service (fSnoc (fSnoc fNil "kept_names" (cTN cS)) "kept_table" (cTV (cTV (cT (aCons cI (aOne (cO cI)))))))), sVal cS, sVal cI, sVal (cO (cH (aCons cB (aCons cB (aOne (cDat 0)))))), sAny, sAny]) EXS (by rfl) GCL_CutError (by rfl) (by rfl) (by rfl) (by rfl) (by exact trivial) (by exact trivial) (by decide) (by rfl) (by first | exact Or.inl rfl | exact Or.inr rfl) (by first | exact Or.inl rfl | exact Or.inr rfl) ?g171 (sc_same (sc_same (sc_same (sc_same (sc_same (sc_same (sc_any sc_id))))))) (tc_val (by decide) (tc_val (by decide) (tc_val (by decide) (tc_val (by decide) (tc_any (tc_any (tc_any tc_nil))))))) (up_s (up_s (up_s (up_s up_z)))) (pae_is EXS (by decide) (by rfl) GCL_InvalidState (by rfl) M_isinstance (by rfl) (by first | exact Or.inl rfl | exact Or.inr (Or.inl rfl) | exact Or.inr (Or.inr rfl)) (pae_is EXS (by decide) (by rfl) GCL_UnknownCall (by rfl) M_isinstance (by rfl) (by first | exact Or.inl rfl | exact Or.inr (Or.inl rfl) | exact Or.inr (Or.inr rfl)) (pae_v EXS (by rfl) (by first | exact Or.inl rfl | exact Or.inr (Or.inl rfl) | exact Or.inr (Or.inr rfl)))))
      case g171 =>
        intro W pn xe tk hp
        refine' bx_one ?_
        refine' sx_if (G' := [sVal cI, sVal (cIns A_Service (fSnoc (fSnoc fNil "kept_names" (cTN cS)) "kept_table" (cTV (cTV (cT (aCons cI (aOne (cO cI)))))))), sVal cS, sVal cI, sVal (cO (cH (aCons cB (aCons cB (aOne (cDat 0)))))), sAny, sOwn PAny (oL cX)]) (rtx_cmp ot_eq (rex_var at_z (by rfl) (by first | exact Or.inl rfl | exact Or.inr (Or.inl rfl) | exact Or.inr (Or.inr rfl))) rex_int (by rfl)) ?g169 ?g170
        case g169 =>
          exact bx_bad
        case g170 =>
          refine' bx_one ?_
          refine' sx_if (G' := [sVal cI, sVal (cIns A_Service (fSnoc (fSnoc fNil "kept_names" (cTN cS)) "kept_table" (cTV (cTV (cT (aCons cI (aOne (cO cI)))))))), sVal cS, sVal cI, sVal (cO (cH (aCons cB (aCons cB (aOne (cDat 0)))))), sAny, sOwn PAny (oL cX)]) (rtx_cmp ot_eq (rex_var at_z (by rfl) (by first | exact Or.inl rfl | exact Or.inr (Or.inl rfl) | exact Or.inr (Or.inr rfl))) rex_int (by rfl)) ?g167 ?g168
          case g167 =>
            exact bx_bad
          case g168 =>
            refine' bx_cons (G1 := [sVal cI, sVal (cIns A_Service (fSnoc (fSnoc fNil "kept_names" (cTN cS)) "kept_table" (cTV (cTV (cT (aCons cI (aOne (cO cI)))))))), sVal cS, sVal cI, sVal (cO (cH (aCons cB (aCons cB (aOne (cDat 0)))))), sAny, sOwn PAny (oL (cT (aCons cI (aOne (cO cI)))))]) ?g165 ?g166
            case g165 =>
              exact sx_setO (up_s (up_s (up_s (up_s (up_s (up_s up_z)))))) (by rfl) (by first | exact Or.inl rfl | exact Or.inr rfl) (ex_getI MET_Service___getitem__ GTF_Service (Nat.le_of_ble_eq_true (by rfl)) rto (rex_var (at_s at_z) (by rfl) (by first | exact Or.inl rfl | exact Or.inr (Or.inl rfl) | exact Or.inr (Or.inr rfl))) (rex_var (at_s (at_s at_z)) (by rfl) (by first | exact Or.inl rfl | exact Or.inr (Or.inl rfl) | exact Or.inr (Or.inr rfl))) (by intro _ _; rfl)) (by exact ⟨trivial, by decide⟩) (by rfl) (by first | exact Or.inl rfl | exact Or.inr rfl)
            case g166 =>
              refine' bx_sub (G1 := [sVal cI, sVal (cIns A_Service (fSnoc (fSnoc fNil "kept_names" (cTN cS)) "kept_table" (cTV (cTV (cT (aCons cI (aOne (cO cI)))))))), sVal cS, sVal cI, sVal (cO (cH (aCons cB (aCons cB (aOne (cDat 0)))))), sAny, sOwn PAny (oL cX)]) (sc_same (sc_same (sc_same (sc_same (sc_same (sc_same (sc_own (os_l sub_any) sc_id))))))) ?g164
              case g164 =>
                refine' bx_one ?_
                exact sx_expr (ex_ownM mt_app PySem.F.slot_list_append (by rfl) (at_s (at_s (at_s (at_s (at_s (at_s at_z)))))) (md_s (md_s (md_s (md_s (md_s (md_s md_z)))))) (by rfl) (by first | exact Or.inl rfl | exact Or.inr (Or.inl rfl) | exact Or.inr (Or.inr rfl)) (rax_one (rex_sub sub_any rex_int)))
    case g173 =>
      refine' bx_one ?_
      exact sx_ret (rex_var (at_s (at_s (at_s (at_s at_z)))) (by rfl) (by first | exact Or.inl rfl | exact Or.inr (Or.inl rfl) | exact Or.inr (Or.inr rfl)))⟩
def F__law_caught_o_t (y : Int × ((Unit × (List Str)) × (List (List (Int × (Option Int))))) × Str × Int) : Res (Option (Bool × Bool × PyData)) := Res.bind ((fb__law_caught_o_t 0 ).1 (y.1, (y.2.1, (y.2.2.1, (y.2.2.2, ((), ((), ((), ())))))))) endV
theorem okF__law_caught_o_t {P : Program} {w : World} {K : Frag} {mg : Str → Option Value} {base : Heap} {ca : Str → Addr} {fa : Addr} {dvs : List V} {kws : List (Str × V)} {fd : FuncData} {A_Service : Addr} (F0 : FunD K "_law_caught" "_law_caught" (defArgs s__law_caught_o_t) (defBody s__law_caught_o_t) (defScope s__law_caught_o_t) dvs kws fa fd) (EXS : ExcsF K ca "CutError" ["InvalidName", "DoubleName", "InvalidStep", "InvalidState", "UnknownCall"]) (GCL_UnknownCall : mg "UnknownCall" = some (.ref (ca "UnknownCall"))) (M_isinstance : mg "isinstance" = none) (GCL_InvalidState : mg "InvalidState" = some (.ref (ca "InvalidState"))) (GCL_CutError : mg "CutError" = some (.ref (ca "CutError"))) (C_Service : ClsG K mg "Service" A_Service) (MET_Service___getitem__ : MetG P w K mg base 3 A_Service "__getitem__" ["self", "name"] (spP K ca (aCons (cIns A_Service (fSnoc (fSnoc fNil "kept_names" (cTN cS)) "kept_table" (cTV (cTV (cT (aCons cI (aOne (cO cI)))))))) (aOne cS)) (rO (oL (cT (aCons cI (aOne (cO cI)))))) F_Service___getitem__)) (GTF_Service : GetF K A_Service) : FnG P w K mg base 5 fa fd ["way", "made", "line", "at"] (spP K ca (aCons cI (aCons (cIns A_Service (fSnoc (fSnoc fNil "kept_names" (cTN cS)) "kept_table" (cTV (cTV (cT (aCons cI (aOne (cO cI)))))))) (aCons cS (aOne cI)))) (rV (cO (cH (aCons cB (aCons cB (aOne (cDat 0))))))) F__law_caught_o_t) :=
  fn_P (as := (aCons cI (aCons (cIns A_Service (fSnoc (fSnoc fNil "kept_names" (cTN cS)) "kept_table" (cTV (cTV (cT (aCons cI (aOne (cO cI)))))))) (aCons cS (aOne cI))))) (G0 := [sVal cI, sVal (cIns A_Service (fSnoc (fSnoc fNil "kept_names" (cTN cS)) "kept_table" (cTV (cTV (cT (aCons cI (aOne (cO cI)))))))), sVal cS, sVal cI, sAny, sAny, sAny]) (ini := (fun y => (y.1, (y.2.1, (y.2.2.1, (y.2.2.2, ((), ((), ((), ()))))))))) (fb := (fb__law_caught_o_t A_Service ).1) F0 sc__law_caught_o_t (by rfl) (fun L H vs y wf h => by obtain ⟨v1, _, rfl, h1, v2, _, rfl, h2, v3, _, rfl, h3, v4, rfl, h4⟩ := h; exact ⟨⟨v1, rfl, h1⟩, ⟨v2, rfl, h2⟩, ⟨v3, rfl, h3⟩, ⟨v4, rfl, h4⟩, trivial, trivial, trivial, Nat.le_of_ble_eq_true (by rfl)⟩) (fun nd cd A outer s H E hr hgd => (fb__law_caught_o_t A_Service ).2 EXS GCL_UnknownCall M_isinstance GCL_InvalidState GCL_CutError C_Service MET_Service___getitem__ GTF_Service fa nd cd A outer s H E hr hgd) (fun y => rfl)
theorem ok__law_caught_o_t {P : Program} {w : World} {K : Frag} {mg : Str → Option Value} {base : Heap} {ca : Str → Addr} {fa : Addr} {fd : FuncData} {A_Service : Addr} (F0 : FunD K "_law_caught" "_law_caught" (defArgs s__law_caught_o_t) (defBody s__law_caught_o_t) (defScope s__law_caught_o_t) [] [] fa fd) (EXS : ExcsF K ca "CutError" ["InvalidName", "DoubleName", "InvalidStep", "InvalidState", "UnknownCall"]) (GCL_UnknownCall : mg "UnknownCall" = some (.ref (ca "UnknownCall"))) (M_isinstance : mg "isinstance" = none) (GCL_InvalidState : mg "InvalidState" = some (.ref (ca "InvalidState"))) (GCL_CutError : mg "CutError" = some (.ref (ca "CutError"))) (C_Service : ClsG K mg "Service" A_Service) (MET_Service___getitem__ : MetG P w K mg base 3 A_Service "__getitem__" ["self", "name"] (spP K ca (aCons (cIns A_Service (fSnoc (fSnoc fNil "kept_names" (cTN cS)) "kept_table" (cTV (cTV (cT (aCons cI (aOne (cO cI)))))))) (aOne cS)) (rO (oL (cT (aCons cI (aOne (cO cI)))))) F_Service___getitem__)) (GTF_Service : GetF K A_Service) (hm : mg "_law_caught" = some (.ref fa)) : DefG P w K mg base 5 "_law_caught" ["way", "made", "line", "at"] (spP K ca (aCons cI (aCons (cIns A_Service (fSnoc (fSnoc fNil "kept_names" (cTN cS)) "kept_table" (cTV (cTV (cT (aCons cI (aOne (cO cI)))))))) (aCons cS (aOne cI)))) (rV (cO (cH (aCons cB (aCons cB (aOne (cDat 0))))))) F__law_caught_o_t) :=
  ⟨fa, fd, okF__law_caught_o_t (A_Service := A_Service) F0 EXS GCL_UnknownCall M_isinstance GCL_InvalidState GCL_CutError C_Service MET_Service___getitem__ GTF_Service, hm, F0.kp, (F0.bindsN (ps := ["way", "made", "line", "at"]) fun _ _ _ _ _ _ us hl => match us, hl with | [_, _, _, _], _ => rfl), (kw_binds (ps := ["way", "made", "line", "at"]) F0 fun _ _ _ _ _ _ us hl => match us, hl with | [_, _, _, _], _ => rfl)⟩
/-! _law_mended_right -/
abbrev s__law_mended_right : Stmt := top 26
abbrev N__law_mended_right : List Str := ["made", "names_here", "least", "line", "at", "good", "label"]
theorem sc__law_mended_right : FnScope N__law_mended_right ["made", "names_here", "least", "line", "at"] (defScope s__law_mended_right) := ⟨rfl, rfl, rfl, by decide +kernel, rfl, by decide +kernel, by decide +kernel⟩
def fb__law_mended_right (A_Service : Addr) : {fb : (v0 : V) → CT [sVal (cIns A_Service (fSnoc (fSnoc fNil "kept_names" (cTN cS)) "kept_table" (cTV (cTV (cT (aCons cI (aOne (cO cI)))))))), sVal (cL cS), sVal (cL (cL (cT (aCons cI (aOne (cO cI)))))), sOwn (fun v => v = v0) (oL cS), sVal cI, sAny, sAny] → Res (Out (CT [sVal (cIns A_Service (fSnoc (fSnoc fNil "kept_names" (cTN cS)) "kept_table" (cTV (cTV (cT (aCons cI (aOne (cO cI)))))))), sVal (cL cS), sVal (cL (cL (cT (aCons cI (aOne (cO cI)))))), sOwn (fun v => v = v0) (oL cS), sVal cI, sAny, sAny]) (Bool × (List Str))) // ∀ {P : Program} {w : World} {K : Frag} {mg : Str → Option Value} {base : Heap} {ca : Str → Addr} (C_Service : ClsG K mg "Service" A_Service) (MP_Service_run_p0p1p2 : MetP P w K mg base 3 A_Service "run" 3 [] (fun vs zs => selL [.p 0, .p 1, .p 2] vs [.int 0] zs) (spP K ca (aCons (cIns A_Service (fSnoc (fSnoc fNil "kept_names" (cTN cS)) "kept_table" (cTV (cTV (cT (aCons cI (aOne (cO cI)))))))) (aCons (cL cS) (aOne cI))) (rO (oT (oOc (oL (cO cI)) (oV1 cI)))) F_Service_run)) (M_repr : mg "repr" = none) (D__law_ran : DefG P w K mg base 1 "_law_ran" ["names_here", "grid", "row_here", "at"] (spP K ca (aCons (cL cS) (aCons (cL (cL (cT (aCons cI (aOne (cO cI)))))) (aCons (cL cS) (aOne cI)))) (rO (oT (oOc (oL (cO cI)) (oV1 cI)))) F__law_ran)) (f : Addr) (v0 : V) (nd : N__law_mended_right.Nodup) cd A outer s H E hr hgd, BX (ambOf P w K mg base ca N__law_mended_right nd 3 "_law_mended_right" (defScope s__law_mended_right) f cd A outer s H E hr hgd) [sVal (cIns A_Service (fSnoc (fSnoc fNil "kept_names" (cTN cS)) "kept_table" (cTV (cTV (cT (aCons cI (aOne (cO cI)))))))), sVal (cL cS), sVal (cL (cL (cT (aCons cI (aOne (cO cI)))))), sOwn (fun v => v = v0) (oL cS), sVal cI, sAny, sAny] (defBody s__law_mended_right) [sVal (cIns A_Service (fSnoc (fSnoc fNil "kept_names" (cTN cS)) "kept_table" (cTV (cTV (cT (aCons cI (aOne (cO cI)))))))), sVal (cL cS), sVal (cL (cL (cT (aCons cI (aOne (cO cI)))))), sOwn (fun v => v = v0) (oL cS), sVal cI, sAny, sAny] (rrJ (rV cB) (oL cS) v0 3) (fb v0)} := ⟨_, by
  intro P w K mg base ca C_Service MP_Service_run_p0p1p2 M_repr D__law_ran f v0 nd cd A outer s H E hr hgd
  refine' bx_cons (G1 := [sVal (cIns A_Service (fSnoc (fSnoc fNil "kept_names" (cTN cS)) "kept_table" (cTV (cTV (cT (aCons cI (aOne (cO cI)))))))), sVal (cL cS), sVal (cL (cL (cT (aCons cI (aOne (cO cI)))))), sOwn (fun v => v = v0) (oL cS), sVal cI, sOwn PAny (oL cS), sAny]) ?g182 ?g183
  case g182 =>
    first | exact sx_setLcIfLd (S := [3]) (T := []) (own := [("label", 6)]) (up_s (up_s (up_s (up_s (up_s up_z))))) (by rfl) (by rfl) (by exact trivial) (ln_val (ln_val (ln_val (ln_own frz_l (by decide) (ln_val (ln_any (ln_any ln_nil))))))) (rh_o (ho_l hd_s)) (rix_l (rex_var (at_s (at_s (at_s at_z))) (by rfl) (by first | exact Or.inl rfl | exact Or.inr (Or.inl rfl) | exact Or.inr (Or.inr rfl)))) (blkOk_by (by rfl)) (wc_keep (by decide) (wc_keep (by decide) (wc_keep (by decide) (wc_keep (by decide) (wc_keep (by decide) (wc_keep (by decide) (wc_any wc_nil))))))) (fun _ _ _ _ _ => (gx_name (up_s (up_s (up_s (up_s (up_s (up_s up_z)))))) (by rfl) (by first | exact Or.inl rfl | exact Or.inr rfl) (by show (6 : Nat) ∈ [6]; decide) (by first | exact Or.inl rfl | exact Or.inr rfl))) (fun _ _ _ _ _ => (rtx_cmp (ot_inLF fq_s) (rex_var (at_s (at_s (at_s (at_s (at_s (at_s at_z)))))) (by rfl) (by first | exact Or.inl rfl | exact Or.inr (Or.inl rfl) | exact Or.inr (Or.inr rfl))) (rex_var (at_s at_z) (by rfl) (by first | exact Or.inl rfl | exact Or.inr (Or.inl rfl) | exact Or.inr (Or.inr rfl))) (by rfl))) (fun _ _ _ _ _ => (rex_var (at_s (at_s (at_s (at_s (at_s (at_s at_z)))))) (by rfl) (by first | exact Or.inl rfl | exact Or.inr (Or.inl rfl) | exact Or.inr (Or.inr rfl)))) (wc_keep (by decide) (wc_keep (by decide) (wc_keep (by decide) (wc_keep (by decide) (wc_keep (by decide) (wc_keep (by decide) (wc_val wc_nil))))))) (by rfl) | exact sx_setO (up_s (up_s (up_s (up_s (up_s up_z))))) (by rfl) (by first | exact Or.inl rfl | exact Or.inr rfl) (rex_lend (S := [3]) (T := []) (ln_val (ln_val (ln_val (ln_own frz_l (by decide) (ln_val (ln_any (ln_any ln_nil))))))) (rh_o (ho_l hd_s)) (rex_lcIf (own := [("label", 6)]) (rix_l (rex_var (at_s (at_s (at_s at_z))) (by rfl) (by first | exact Or.inl rfl | exact Or.inr (Or.inl rfl) | exact Or.inr (Or.inr rfl)))) (blkOk_by (by rfl)) (wc_keep (by decide) (wc_keep (by decide) (wc_keep (by decide) (wc_keep (by decide) (wc_keep (by decide) (wc_keep (by decide) (wc_any wc_nil))))))) (fun _ _ _ _ _ => (gx_name (up_s (up_s (up_s (up_s (up_s (up_s up_z)))))) (by rfl) (by first | exact Or.inl rfl | exact Or.inr rfl) (by show (6 : Nat) ∈ [6]; decide) (by first | exact Or.inl rfl | exact Or.inr rfl))) (fun _ _ _ _ _ => (rtx_cmp (ot_inLF fq_s) (rex_var (at_s (at_s (at_s (at_s (at_s (at_s at_z)))))) (by rfl) (by first | exact Or.inl rfl | exact Or.inr (Or.inl rfl) | exact Or.inr (Or.inr rfl))) (rex_var (at_s at_z) (by rfl) (by first | exact Or.inl rfl | exact Or.inr (Or.inl rfl) | exact Or.inr (Or.inr rfl))) (by rfl))) (fun _ _ _ _ _ => (rex_var (at_s (at_s (at_s (at_s (at_s (at_s at_z)))))) (by rfl) (by first | exact Or.inl rfl | exact Or.inr (Or.inl rfl) | exact Or.inr (Or.inr rfl)))) (wc_keep (by decide) (wc_keep (by decide) (wc_keep (by decide) (wc_keep (by decide) (wc_keep (by decide) (wc_keep (by decide) (wc_val wc_nil))))))))) (by exact trivial) (by rfl) (by first | exact Or.inl rfl | exact Or.inr rfl)
  case g183 =>
    refine' bx_cons (G1 := [sVal (cIns A_Service (fSnoc (fSnoc fNil "kept_names" (cTN cS)) "kept_table" (cTV (cTV (cT (aCons cI (aOne (cO cI)))))))), sVal (cL cS), sVal (cL (cL (cT (aCons cI (aOne (cO cI)))))), sOwn (fun v => v = v0) (oL cS), sVal cI, sOwn PAny (oL cS), sAny]) ?g180 ?g181
    case g180 =>
      exact sx_expr (ex_ownM0 mt_clearT PySem.F.slot_list_clear (by rfl) (at_s (at_s (at_s at_z))) (md_s (md_s (md_s md_z))) (by rfl) (by first | exact Or.inl rfl | exact Or.inr (Or.inl rfl) | exact Or.inr (Or.inr rfl)))
    case g181 =>
      refine' bx_sub (G1 := [sVal (cIns A_Service (fSnoc (fSnoc fNil "kept_names" (cTN cS)) "kept_table" (cTV (cTV (cT (aCons cI (aOne (cO cI)))))))), sVal (cL cS), sVal (cL (cL (cT (aCons cI (aOne (cO cI)))))), sOwn (fun v => v = v0) (oL cS), sVal cI, sVal (cL cS), sAny]) (sc_same (sc_same (sc_same (sc_same (sc_same (sc_frz frz_l sc_id)))))) ?g176
      case g176 =>
        refine' bx_cons (G1 := [sVal (cIns A_Service (fSnoc (fSnoc fNil "kept_names" (cTN cS)) "kept_table" (cTV (cTV (cT (aCons cI (aOne (cO cI)))))))), sVal (cL cS), sVal (cL (cL (cT (aCons cI (aOne (cO cI)))))), sOwn (fun v => v = v0) (oL cS), sVal cI, sVal (cL cS), sAny]) ?g178 ?g179
        case g178 =>
          refine' sx_for (G1 := [sVal (cIns A_Service (fSnoc (fSnoc fNil "kept_names" (cTN cS)) "kept_table" (cTV (cTV (cT (aCons cI (aOne (cO cI)))))))), sVal (cL cS), sVal (cL (cL (cT (aCons cI (aOne (cO cI)))))), sOwn (fun v => v = v0) (oL cS), sVal cI, sVal (cL cS), sVal cS]) (G2 := [sVal (cIns A_Service (fSnoc (fSnoc fNil "kept_names" (cTN cS)) "kept_table" (cTV (cTV (cT (aCons cI (aOne (cO cI)))))))), sVal (cL cS), sVal (cL (cL (cT (aCons cI (aOne (cO cI)))))), sOwn (fun v => v = v0) (oL cS), sVal cI, sVal (cL cS), sVal cS]) (rix_l (rex_var (at_s (at_s (at_s (at_s (at_s at_z))))) (by rfl) (by first | exact Or.inl rfl | exact Or.inr (Or.inl rfl) | exact Or.inr (Or.inr rfl)))) (gx_name (up_s (up_s (up_s (up_s (up_s (up_s up_z)))))) (by rfl) (by first | exact Or.inl rfl | exact Or.inr rfl) (by exact trivial) (by first | exact Or.inl rfl | exact Or.inr rfl)) ?g177 (sc_same (sc_same (sc_same (sc_same (sc_same (sc_same (sc_any sc_id)))))))
          case g177 =>
            refine' bx_one ?_
            exact sx_expr (ex_ownM mt_app PySem.F.slot_list_append (by rfl) (at_s (at_s (at_s at_z))) (md_s (md_s (md_s md_z))) (by rfl) (by first | exact Or.inl rfl | exact Or.inr (Or.inl rfl) | exact Or.inr (Or.inr rfl)) (rax_one (rex_var (at_s (at_s (at_s (at_s (at_s (at_s at_z)))))) (by rfl) (by first | exact Or.inl rfl | exact Or.inr (Or.inl rfl) | exact Or.inr (Or.inr rfl)))))
        case g179 =>
          refine' bx_one ?_
          exact sx_retJ (at_s (at_s (at_s at_z))) (rex_cmp ot_eqW (rex_callB (ct_repr (dc_t (da_cons (dc_l (dc_o dc_i)) (da_one dc_i))) (by decide) rf_t) (by rfl) (by exact M_repr) (by decide +kernel) (rax_one (rex_frz (frz_t (fa_oc frzp_l fa_v1)) (rex_lend (S := [3]) (T := []) (ln_val (ln_val (ln_val (ln_own frz_l (by decide) (ln_val (ln_val (ln_any ln_nil))))))) (rh_o (ho_t (hoa_oc (ho_l (hd_o hd_i)) (hoa_v1 hd_i)))) (rex_metP (fun u x y => (u, (x.1, x.2))) MP_Service_run_p0p1p2 (Nat.le_of_ble_eq_true (by rfl)) C_Service.cls (nk_snoc (nk_snoc nk_nil (by decide)) (by decide)) rto (rex_var at_z (by rfl) (by first | exact Or.inl rfl | exact Or.inr (Or.inl rfl) | exact Or.inr (Or.inr rfl))) (rca_pos (rax_cons (rex_var (at_s (at_s (at_s at_z))) (by rfl) (by first | exact Or.inl rfl | exact Or.inr (Or.inl rfl) | exact Or.inr (Or.inr rfl))) (rax_one (rex_var (at_s (at_s (at_s (at_s at_z)))) (by rfl) (by first | exact Or.inl rfl | exact Or.inr (Or.inl rfl) | exact Or.inr (Or.inr rfl)))))) (by rfl) (by rfl) (by intro K R v vs zs u x y h0 h1 h2; obtain ⟨wa0, _, rfl, a0, wa1, rfl, a1⟩ := h1; have h2 : _ = [] := h2; subst h2; exact ⟨_, _, rfl, h0, _, _, rfl, a0, _, rfl, a1⟩) (by rfl)))))) (rex_callB (ct_repr (dc_t (da_cons (dc_l (dc_o dc_i)) (da_one dc_i))) (by decide) rf_t) (by rfl) (by exact M_repr) (by decide +kernel) (rax_one (rex_frz (frz_t (fa_oc frzp_l fa_v1)) (rex_cal D__law_ran (Nat.le_of_ble_eq_true (by rfl)) (by rfl) rto (rax_cons (rex_var (at_s at_z) (by rfl) (by first | exact Or.inl rfl | exact Or.inr (Or.inl rfl) | exact Or.inr (Or.inr rfl))) (rax_cons (rex_var (at_s (at_s at_z)) (by rfl) (by first | exact Or.inl rfl | exact Or.inr (Or.inl rfl) | exact Or.inr (Or.inr rfl))) (rax_cons (rex_var (at_s (at_s (at_s (at_s (at_s at_z))))) (by rfl) (by first | exact Or.inl rfl | exact Or.inr (Or.inl rfl) | exact Or.inr (Or.inr rfl))) (rax_one (rex_var (at_s (at_s (at_s (at_s at_z)))) (by rfl) (by first | exact Or.inl rfl | exact Or.inr (Or.inl rfl) | exact Or.inr (Or.inr rfl))))))))))) (by rfl))⟩
def F__law_mended_right (k : (List Str)) (y : (((Unit × (List Str)) × (List (List (Int × (Option Int))))) × (List Str) × (List (List (Int × (Option Int))))) × (Int)) : Res (Bool × (List Str)) := Res.bind ((fb__law_mended_right 0 ).1 .non (y.1.1, (y.1.2.1, (y.1.2.2, (k, (y.2, ((), ((), ())))))))) endV
theorem okF__law_mended_right {P : Program} {w : World} {K : Frag} {mg : Str → Option Value} {base : Heap} {ca : Str → Addr} {fa : Addr} {dvs : List V} {kws : List (Str × V)} {fd : FuncData} {A_Service : Addr} (F0 : FunD K "_law_mended_right" "_law_mended_right" (defArgs s__law_mended_right) (defBody s__law_mended_right) (defScope s__law_mended_right) dvs kws fa fd) (C_Service : ClsG K mg "Service" A_Service) (MP_Service_run_p0p1p2 : MetP P w K mg base 3 A_Service "run" 3 [] (fun vs zs => selL [.p 0, .p 1, .p 2] vs [.int 0] zs) (spP K ca (aCons (cIns A_Service (fSnoc (fSnoc fNil "kept_names" (cTN cS)) "kept_table" (cTV (cTV (cT (aCons cI (aOne (cO cI)))))))) (aCons (cL cS) (aOne cI))) (rO (oT (oOc (oL (cO cI)) (oV1 cI)))) F_Service_run)) (M_repr : mg "repr" = none) (D__law_ran : DefG P w K mg base 1 "_law_ran" ["names_here", "grid", "row_here", "at"] (spP K ca (aCons (cL cS) (aCons (cL (cL (cT (aCons cI (aOne (cO cI)))))) (aCons (cL cS) (aOne cI)))) (rO (oT (oOc (oL (cO cI)) (oV1 cI)))) F__law_ran)) : FnG P w K mg base 4 fa fd ["made", "names_here", "least", "line", "at"] (spJ K ca (oL cS) (aCons (cIns A_Service (fSnoc (fSnoc fNil "kept_names" (cTN cS)) "kept_table" (cTV (cTV (cT (aCons cI (aOne (cO cI)))))))) (aCons (cL cS) (aOne (cL (cL (cT (aCons cI (aOne (cO cI))))))))) (aOne cI) (rV cB) F__law_mended_right) :=
  fn_J (as := (aCons (cIns A_Service (fSnoc (fSnoc fNil "kept_names" (cTN cS)) "kept_table" (cTV (cTV (cT (aCons cI (aOne (cO cI)))))))) (aCons (cL cS) (aOne (cL (cL (cT (aCons cI (aOne (cO cI)))))))))) (bs := (aOne cI)) (G0 := fun v0 => [sVal (cIns A_Service (fSnoc (fSnoc fNil "kept_names" (cTN cS)) "kept_table" (cTV (cTV (cT (aCons cI (aOne (cO cI)))))))), sVal (cL cS), sVal (cL (cL (cT (aCons cI (aOne (cO cI)))))), sOwn (fun v => v = v0) (oL cS), sVal cI, sAny, sAny]) (G' := fun v0 => [sVal (cIns A_Service (fSnoc (fSnoc fNil "kept_names" (cTN cS)) "kept_table" (cTV (cTV (cT (aCons cI (aOne (cO cI)))))))), sVal (cL cS), sVal (cL (cL (cT (aCons cI (aOne (cO cI)))))), sOwn (fun v => v = v0) (oL cS), sVal cI, sAny, sAny]) (κ := (List Str)) (β := Bool) (oc := (oL cS)) (r := (rV cB)) (ini := (fun v0 k y => (y.1.1, (y.1.2.1, (y.1.2.2, (k, (y.2, ((), ((), ()))))))))) (fb := (fb__law_mended_right A_Service ).1) F0 sc__law_mended_right (by rfl) (fun L H v0 ws zs k y wf ho h h' => by obtain ⟨v1, _, rfl, h1, v2, _, rfl, h2, v3, rfl, h3⟩ := h; obtain ⟨u1, rfl, q1⟩ := h'; exact ⟨⟨v1, rfl, h1⟩, ⟨v2, rfl, h2⟩, ⟨v3, rfl, h3⟩, ⟨v0, rfl, rfl, ho⟩, ⟨u1, rfl, q1⟩, trivial, trivial, Nat.le_of_ble_eq_true (by rfl)⟩) (fun v0 nd cd A outer s H E hr hgd => (fb__law_mended_right A_Service ).2 C_Service MP_Service_run_p0p1p2 M_repr D__law_ran fa v0 nd cd A outer s H E hr hgd) (fun v0 k y => rfl)
theorem ok__law_mended_right {P : Program} {w : World} {K : Frag} {mg : Str → Option Value} {base : Heap} {ca : Str → Addr} {fa : Addr} {fd : FuncData} {A_Service : Addr} (F0 : FunD K "_law_mended_right" "_law_mended_right" (defArgs s__law_mended_right) (defBody s__law_mended_right) (defScope s__law_mended_right) [] [] fa fd) (C_Service : ClsG K mg "Service" A_Service) (MP_Service_run_p0p1p2 : MetP P w K mg base 3 A_Service "run" 3 [] (fun vs zs => selL [.p 0, .p 1, .p 2] vs [.int 0] zs) (spP K ca (aCons (cIns A_Service (fSnoc (fSnoc fNil "kept_names" (cTN cS)) "kept_table" (cTV (cTV (cT (aCons cI (aOne (cO cI)))))))) (aCons (cL cS) (aOne cI))) (rO (oT (oOc (oL (cO cI)) (oV1 cI)))) F_Service_run)) (M_repr : mg "repr" = none) (D__law_ran : DefG P w K mg base 1 "_law_ran" ["names_here", "grid", "row_here", "at"] (spP K ca (aCons (cL cS) (aCons (cL (cL (cT (aCons cI (aOne (cO cI)))))) (aCons (cL cS) (aOne cI)))) (rO (oT (oOc (oL (cO cI)) (oV1 cI)))) F__law_ran)) (hm : mg "_law_mended_right" = some (.ref fa)) : DefG P w K mg base 4 "_law_mended_right" ["made", "names_here", "least", "line", "at"] (spJ K ca (oL cS) (aCons (cIns A_Service (fSnoc (fSnoc fNil "kept_names" (cTN cS)) "kept_table" (cTV (cTV (cT (aCons cI (aOne (cO cI)))))))) (aCons (cL cS) (aOne (cL (cL (cT (aCons cI (aOne (cO cI))))))))) (aOne cI) (rV cB) F__law_mended_right) :=
  ⟨fa, fd, okF__law_mended_right (A_Service := A_Service) F0 C_Service MP_Service_run_p0p1p2 M_repr D__law_ran, hm, F0.kp, (F0.bindsN (ps := ["made", "names_here", "least", "line", "at"]) fun _ _ _ _ _ _ us hl => match us, hl with | [_, _, _, _, _], _ => rfl), (kw_binds (ps := ["made", "names_here", "least", "line", "at"]) F0 fun _ _ _ _ _ _ us hl => match us, hl with | [_, _, _, _, _], _ => rfl)⟩
/-! _law_fits -/
abbrev s__law_fits : Stmt := top 27
abbrev N__law_fits : List Str := ["kit", "names_here", "grid", "strange", "turn", "made", "least", "line", "step", "far", "way", "label", "due", "spot", "at", "kept", "wrong"]
theorem sc__law_fits : FnScope N__law_fits ["kit"] (defScope s__law_fits) := ⟨rfl, rfl, rfl, by decide +kernel, rfl, by decide +kernel, by decide +kernel⟩
def fb__law_fits (A_Service : Addr) : {fb : (v0 : V) → CT [sOwn (fun v => v = v0) (oL cI), sAny, sAny, sAny, sAny, sAny, sAny, sAny, sAny, sAny, sAny, sAny, sAny, sAny, sAny, sAny, sAny] → Res (Out (CT [sOwn (fun v => v = v0) (oL cI), sAny, sAny, sAny, sAny, sAny, sAny, sAny, sAny, sAny, sAny, sAny, sAny, sAny, sAny, sAny, sAny]) (Bool × (List Int))) // ∀ {P : Program} {w : World} {K : Frag} {mg : Str → Option Value} {base : Heap} {ca : Str → Addr} (D__law_tags : DefG P w K mg base 2 "_law_tags" ["kit", "many"] (spI K ca (oL cI) (aOne cI) (rV (cL cS)) F__law_tags)) (D__law_toss : DefG P w K mg base 1 "_law_toss" ["kit", "many"] (spI K ca (oL cI) (aOne cI) (rV cI) F__law_toss)) (D__law_grid : DefG P w K mg base 4 "_law_grid" ["kit", "many", "count"] (spI K ca (oL cI) (aCons cI (aOne cI)) (rV (cL (cL (cT (aCons cI (aOne (cO cI))))))) F__law_grid)) (M_len : mg "len" = none) (D__law_built : DefG P w K mg base 6 "_law_built" ["names_here", "grid"] (spP K ca (aCons (cL cS) (aOne (cL (cL (cT (aCons cI (aOne (cO cI)))))))) (rV (cIns A_Service (fSnoc (fSnoc fNil "kept_names" (cTN cS)) "kept_table" (cTV (cTV (cT (aCons cI (aOne (cO cI))))))))) F__law_built)) (D__law_walked : DefG P w K mg base 1 "_law_walked" ["grid"] (spP K ca (aOne (cL (cL (cT (aCons cI (aOne (cO cI))))))) (rO (oL (cL (cT (aCons cI (aOne (cO cI))))))) F__law_walked)) (M_range : mg "range" = none) (M_list : mg "list" = none) (D__law_caught : DefG P w K mg base 5 "_law_caught" ["way", "made", "line", "at"] (spP K ca (aCons cI (aCons (cIns A_Service (fSnoc (fSnoc fNil "kept_names" (cTN cS)) "kept_table" (cTV (cTV (cT (aCons cI (aOne (cO cI)))))))) (aCons (cL cS) (aOne cI)))) (rV (cO (cH (aCons cB (aCons cB (aOne (cDat 0))))))) F__law_caught)) (M_repr : mg "repr" = none) (D__law_caught_o_t : DefG P w K mg base 5 "_law_caught" ["way", "made", "line", "at"] (spP K ca (aCons cI (aCons (cIns A_Service (fSnoc (fSnoc fNil "kept_names" (cTN cS)) "kept_table" (cTV (cTV (cT (aCons cI (aOne (cO cI)))))))) (aCons cS (aOne cI)))) (rV (cO (cH (aCons cB (aCons cB (aOne (cDat 0))))))) F__law_caught_o_t)) (D__law_mended_right : DefG P w K mg base 4 "_law_mended_right" ["made", "names_here", "least", "line", "at"] (spJ K ca (oL cS) (aCons (cIns A_Service (fSnoc (fSnoc fNil "kept_names" (cTN cS)) "kept_table" (cTV (cTV (cT (aCons cI (aOne (cO cI)))))))) (aCons (cL cS) (aOne (cL (cL (cT (aCons cI (aOne (cO cI))))))))) (aOne cI) (rV cB) F__law_mended_right)) (C_Service : ClsG K mg "Service" A_Service) (MET_Service___eq__ : MetG P w K mg base 1 A_Service "__eq__" ["self", "other"] (spP K ca (aCons (cIns A_Service (fSnoc (fSnoc fNil "kept_names" (cTN cS)) "kept_table" (cTV (cTV (cT (aCons cI (aOne (cO cI)))))))) (aOne (cIns A_Service (fSnoc (fSnoc fNil "kept_names" (cTN cS)) "kept_table" (cTV (cTV (cT (aCons cI (aOne (cO cI)))))))))) (rV cB) F_Service___eq__)) (f : Addr) (v0 : V) (nd : N__law_fits.Nodup) cd A outer s H E hr hgd, BX (ambOf P w K mg base ca N__law_fits nd 6 "_law_fits" (defScope s__law_fits) f cd A outer s H E hr hgd) [sOwn (fun v => v = v0) (oL cI), sAny, sAny, sAny, sAny, sAny, sAny, sAny, sAny, sAny, sAny, sAny, sAny, sAny, sAny, sAny, sAny] (defBody s__law_fits) [sOwn (fun v => v = v0) (oL cI), sAny, sAny, sAny, sAny, sAny, sAny, sAny, sAny, sAny, sAny, sAny, sAny, sAny, sAny, sAny, sAny] (rrI (rV cB) (oL cI) v0) (fb v0)} := ⟨_, by
  intro P w K mg base ca D__law_tags D__law_toss D__law_grid M_len D__law_built D__law_walked M_range M_list D__law_caught M_repr D__law_caught_o_t D__law_mended_right C_Service MET_Service___eq__ f v0 nd cd A outer s H E hr hgd
  refine' bx_cons (G1 := [sOwn (fun v => v = v0) (oL cI), sVal (cL cS), sAny, sAny, sAny, sAny, sAny, sAny, sAny, sAny, sAny, sAny, sAny, sAny, sAny, sAny, sAny]) ?g231 ?g232
  case g231 =>
    exact sx_set (up_s up_z) (by rfl) (by first | exact Or.inl rfl | exact Or.inr rfl) (ex_calI at_z md_z D__law_tags (Nat.le_of_ble_eq_true (by rfl)) (by rfl) rtvI (by rfl) (by first | exact Or.inl rfl | exact Or.inr (Or.inl rfl) | exact Or.inr (Or.inr rfl)) (ax_one (ex_op ot_add rex_int (ex_calI at_z md_z D__law_toss (Nat.le_of_ble_eq_true (by rfl)) (by rfl) rtvI (by rfl) (by first | exact Or.inl rfl | exact Or.inr (Or.inl rfl) | exact Or.inr (Or.inr rfl)) (rax_one rex_int))))) (by exact trivial) (by rfl) (by first | exact Or.inl rfl | exact Or.inr rfl)
  case g232 =>
    refine' bx_cons (G1 := [sOwn (fun v => v = v0) (oL cI), sVal (cL cS), sVal (cL (cL (cT (aCons cI (aOne (cO cI)))))), sAny, sAny, sAny, sAny, sAny, sAny, sAny, sAny, sAny, sAny, sAny, sAny, sAny, sAny]) ?g229 ?g230
    case g229 =>
      exact sx_set (up_s (up_s up_z)) (by rfl) (by first | exact Or.inl rfl | exact Or.inr rfl) (ex_calI at_z md_z D__law_grid (Nat.le_of_ble_eq_true (by rfl)) (by rfl) rtvI (by rfl) (by first | exact Or.inl rfl | exact Or.inr (Or.inl rfl) | exact Or.inr (Or.inr rfl)) (ax_cons (ex_op ot_add rex_int (ex_calI at_z md_z D__law_toss (Nat.le_of_ble_eq_true (by rfl)) (by rfl) rtvI (by rfl) (by first | exact Or.inl rfl | exact Or.inr (Or.inl rfl) | exact Or.inr (Or.inr rfl)) (rax_one rex_int))) (rax_one (rex_callB ct_lenL (by rfl) (by exact M_len) (by decide +kernel) (rax_one (rex_var (at_s at_z) (by rfl) (by first | exact Or.inl rfl | exact Or.inr (Or.inl rfl) | exact Or.inr (Or.inr rfl)))))))) (by exact trivial) (by rfl) (by first | exact Or.inl rfl | exact Or.inr rfl)
    case g230 =>
      refine' bx_cons (G1 := [sOwn (fun v => v = v0) (oL cI), sVal (cL cS), sVal (cL (cL (cT (aCons cI (aOne (cO cI)))))), sAny, sAny, sVal (cIns A_Service (fSnoc (fSnoc fNil "kept_names" (cTN cS)) "kept_table" (cTV (cTV (cT (aCons cI (aOne (cO cI)))))))), sOwn PAny (oL (cL (cT (aCons cI (aOne (cO cI)))))), sAny, sAny, sAny, sAny, sAny, sAny, sAny, sAny, sAny, sAny]) ?g227 ?g228
      case g227 =>
        first | exact sx_par st_v st_o (up_s (up_s (up_s (up_s (up_s (up_s up_z)))))) (up_s (up_s (up_s (up_s (up_s up_z))))) (by decide) (by exact ⟨trivial, trivial⟩) (by rfl) (by rfl) (by rfl) (by rfl) (rex_cal D__law_built (Nat.le_of_ble_eq_true (by rfl)) (by rfl) rtv (rax_cons (rex_var (at_s at_z) (by rfl) (by first | exact Or.inl rfl | exact Or.inr (Or.inl rfl) | exact Or.inr (Or.inr rfl))) (rax_one (rex_var (at_s (at_s at_z)) (by rfl) (by first | exact Or.inl rfl | exact Or.inr (Or.inl rfl) | exact Or.inr (Or.inr rfl)))))) (rex_cal D__law_walked (Nat.le_of_ble_eq_true (by rfl)) (by rfl) rto (rax_one (rex_var (at_s (at_s at_z)) (by rfl) (by first | exact Or.inl rfl | exact Or.inr (Or.inl rfl) | exact Or.inr (Or.inr rfl))))) (by rfl) | exact sx_parC st_v st_o (up_s (up_s (up_s (up_s (up_s (up_s up_z)))))) (up_s (up_s (up_s (up_s (up_s up_z))))) (by decide) (by exact ⟨trivial, trivial⟩) (by rfl) (by rfl) (by first | exact Or.inl rfl | exact Or.inr rfl) (by first | exact Or.inl rfl | exact Or.inr rfl) (rex_cal D__law_built (Nat.le_of_ble_eq_true (by rfl)) (by rfl) rtv (rax_cons (rex_var (at_s at_z) (by rfl) (by first | exact Or.inl rfl | exact Or.inr (Or.inl rfl) | exact Or.inr (Or.inr rfl))) (rax_one (rex_var (at_s (at_s at_z)) (by rfl) (by first | exact Or.inl rfl | exact Or.inr (Or.inl rfl) | exact Or.inr (Or.inr rfl)))))) (rex_cal D__law_walked (Nat.le_of_ble_eq_true (by rfl)) (by rfl) rto (rax_one (rex_var (at_s (at_s at_z)) (by rfl) (by first | exact Or.inl rfl | exact Or.inr (Or.inl rfl) | exact Or.inr (Or.inr rfl))))) (by rfl) (by rfl) (by rfl)
      case g228 =>
        refine' bx_cons (G1 := [sOwn (fun v => v = v0) (oL cI), sVal (cL cS), sVal (cL (cL (cT (aCons cI (aOne (cO cI)))))), sOwn PAny (oL cS), sAny, sVal (cIns A_Service (fSnoc (fSnoc fNil "kept_names" (cTN cS)) "kept_table" (cTV (cTV (cT (aCons cI (aOne (cO cI)))))))), sOwn PAny (oL (cL (cT (aCons cI (aOne (cO cI)))))), sAny, sAny, sAny, sAny, sAny, sAny, sAny, sAny, sAny, sAny]) ?g225 ?g226
        case g225 =>
          exact sx_setO (up_s (up_s (up_s up_z))) (by rfl) (by first | exact Or.inl rfl | exact Or.inr rfl) (rex_list (rax_consA (rex_str (by decide +kernel) (by decide +kernel)) (rax_consA (rex_str (by decide +kernel) (by decide +kernel)) (rax_consA (rex_str (by decide +kernel) (by decide +kernel)) (rax_consA (rex_op ot_addS (rex_ixL (rex_var (at_s at_z) (by rfl) (by first | exact Or.inl rfl | exact Or.inr (Or.inl rfl) | exact Or.inr (Or.inr rfl))) rex_int (by intro _ _; rfl)) (rex_str (by decide +kernel) (by decide +kernel))) (rax_consA (rex_cutS (rex_ixL (rex_var (at_s at_z) (by rfl) (by first | exact Or.inl rfl | exact Or.inr (Or.inl rfl) | exact Or.inr (Or.inr rfl))) (rex_neg rex_int) (by intro _ _; rfl)) rox_none (rox_some (rex_neg rex_int))) (rax_consA (rex_op ot_addS (rex_str (by decide +kernel) (by decide +kernel)) (rex_ixL (rex_var (at_s at_z) (by rfl) (by first | exact Or.inl rfl | exact Or.inr (Or.inl rfl) | exact Or.inr (Or.inr rfl))) rex_int (by intro _ _; rfl))) rax_nilA))))))) (by exact trivial) (by rfl) (by first | exact Or.inl rfl | exact Or.inr rfl)
        case g226 =>
          refine' bx_cons (G1 := [sOwn (fun v => v = v0) (oL cI), sVal (cL cS), sVal (cL (cL (cT (aCons cI (aOne (cO cI)))))), sOwn PAny (oL cS), sAny, sVal (cIns A_Service (fSnoc (fSnoc fNil "kept_names" (cTN cS)) "kept_table" (cTV (cTV (cT (aCons cI (aOne (cO cI)))))))), sOwn PAny (oL (cL (cT (aCons cI (aOne (cO cI)))))), sAny, sAny, sAny, sAny, sAny, sAny, sAny, sAny, sAny, sAny]) ?g223 ?g224
          case g223 =>
            exact sx_setO (up_s (up_s (up_s up_z))) (by rfl) (by first | exact Or.inl rfl | exact Or.inr rfl) (ex_lend (S := [3]) (T := [6]) (ln_hold (ho_l hd_i) (by decide) (by decide) (ln_val (ln_val (ln_own frz_l (by decide) (ln_any (ln_val (ln_hide (by decide) (ln_any (ln_any (ln_any (ln_any (ln_any (ln_any (ln_any (ln_any (ln_any (ln_any ln_nil))))))))))))))))) (rh_o (ho_l hd_s)) (ex_op ot_cat (rex_var (at_s (at_s (at_s at_z))) (by rfl) (by first | exact Or.inl rfl | exact Or.inr (Or.inl rfl) | exact Or.inr (Or.inr rfl))) (ex_frz frz_l (ex_list (ax_consA (ex_revS (rex_ixL (rex_var (at_s at_z) (by rfl) (by first | exact Or.inl rfl | exact Or.inr (Or.inl rfl) | exact Or.inr (Or.inr rfl))) rex_int (by intro _ _; rfl))) (rax_consA (rex_op ot_addS (rex_str (by decide +kernel) (by decide +kernel)) (rex_ixL (rex_var (at_s at_z) (by rfl) (by first | exact Or.inl rfl | exact Or.inr (Or.inl rfl) | exact Or.inr (Or.inr rfl))) rex_int (by intro _ _; rfl))) (rax_consA (rex_op ot_addS (rex_ixL (rex_var (at_s at_z) (by rfl) (by first | exact Or.inl rfl | exact Or.inr (Or.inl rfl) | exact Or.inr (Or.inr rfl))) (rex_neg rex_int) (by intro _ _; rfl)) (rex_str (by decide +kernel) (by decide +kernel))) (rax_consA (rex_op ot_addS (rex_ixL (rex_var (at_s at_z) (by rfl) (by first | exact Or.inl rfl | exact Or.inr (Or.inl rfl) | exact Or.inr (Or.inr rfl))) rex_int (by intro _ _; rfl)) (rex_str (by decide +kernel) (by decide +kernel))) rax_nilA)))))))) (by exact trivial) (by rfl) (by first | exact Or.inl rfl | exact Or.inr rfl)
          case g224 =>
            refine' bx_cons (G1 := [sOwn (fun v => v = v0) (oL cI), sVal (cL cS), sVal (cL (cL (cT (aCons cI (aOne (cO cI)))))), sOwn PAny (oL cS), sAny, sVal (cIns A_Service (fSnoc (fSnoc fNil "kept_names" (cTN cS)) "kept_table" (cTV (cTV (cT (aCons cI (aOne (cO cI)))))))), sOwn PAny (oL (cL (cT (aCons cI (aOne (cO cI)))))), sAny, sAny, sAny, sAny, sAny, sAny, sAny, sAny, sAny, sAny]) ?g221 ?g222
            case g221 =>
              first | exact sx_setLcIfLd (S := [3]) (T := [6]) (own := [("label", 11)]) (up_s (up_s (up_s up_z))) (by rfl) (by rfl) (by exact trivial) (ln_hold (ho_l hd_i) (by decide) (by decide) (ln_val (ln_val (ln_own frz_l (by decide) (ln_any (ln_val (ln_hide (by decide) (ln_any (ln_any (ln_any (ln_any (ln_any (ln_any (ln_any (ln_any (ln_any (ln_any ln_nil))))))))))))))))) (rh_o (ho_l hd_s)) (rix_l (rex_var (at_s (at_s (at_s at_z))) (by rfl) (by first | exact Or.inl rfl | exact Or.inr (Or.inl rfl) | exact Or.inr (Or.inr rfl)))) (blkOk_by (by rfl)) (wc_keep (by decide) (wc_keep (by decide) (wc_keep (by decide) (wc_keep (by decide) (wc_keep (by decide) (wc_keep (by decide) (wc_keep (by decide) (wc_keep (by decide) (wc_keep (by decide) (wc_keep (by decide) (wc_keep (by decide) (wc_any (wc_keep (by decide) (wc_keep (by decide) (wc_keep (by decide) (wc_keep (by decide) (wc_keep (by decide) wc_nil))))))))))))))))) (fun _ _ _ _ _ => (gx_name (up_s (up_s (up_s (up_s (up_s (up_s (up_s (up_s (up_s (up_s (up_s up_z))))))))))) (by rfl) (by first | exact Or.inl rfl | exact Or.inr rfl) (by show (11 : Nat) ∈ [11]; decide) (by first | exact Or.inl rfl | exact Or.inr rfl))) (fun _ _ _ _ _ => (rtx_cmp (ot_notInLF fq_s) (rex_var (at_s (at_s (at_s (at_s (at_s (at_s (at_s (at_s (at_s (at_s (at_s at_z))))))))))) (by rfl) (by first | exact Or.inl rfl | exact Or.inr (Or.inl rfl) | exact Or.inr (Or.inr rfl))) (rex_var (at_s at_z) (by rfl) (by first | exact Or.inl rfl | exact Or.inr (Or.inl rfl) | exact Or.inr (Or.inr rfl))) (by rfl))) (fun _ _ _ _ _ => (rex_var (at_s (at_s (at_s (at_s (at_s (at_s (at_s (at_s (at_s (at_s (at_s at_z))))))))))) (by rfl) (by first | exact Or.inl rfl | exact Or.inr (Or.inl rfl) | exact Or.inr (Or.inr rfl)))) (wc_keep (by decide) (wc_keep (by decide) (wc_keep (by decide) (wc_keep (by decide) (wc_keep (by decide) (wc_keep (by decide) (wc_keep (by decide) (wc_keep (by decide) (wc_keep (by decide) (wc_keep (by decide) (wc_keep (by decide) (wc_val (wc_keep (by decide) (wc_keep (by decide) (wc_keep (by decide) (wc_keep (by decide) (wc_keep (by decide) wc_nil))))))))))))))))) (by rfl) | exact sx_setO (up_s (up_s (up_s up_z))) (by rfl) (by first | exact Or.inl rfl | exact Or.inr rfl) (rex_lend (S := [3]) (T := [6]) (ln_hold (ho_l hd_i) (by decide) (by decide) (ln_val (ln_val (ln_own frz_l (by decide) (ln_any (ln_val (ln_hide (by decide) (ln_any (ln_any (ln_any (ln_any (ln_any (ln_any (ln_any (ln_any (ln_any (ln_any ln_nil))))))))))))))))) (rh_o (ho_l hd_s)) (rex_lcIf (own := [("label", 11)]) (rix_l (rex_var (at_s (at_s (at_s at_z))) (by rfl) (by first | exact Or.inl rfl | exact Or.inr (Or.inl rfl) | exact Or.inr (Or.inr rfl)))) (blkOk_by (by rfl)) (wc_keep (by decide) (wc_keep (by decide) (wc_keep (by decide) (wc_keep (by decide) (wc_keep (by decide) (wc_keep (by decide) (wc_keep (by decide) (wc_keep (by decide) (wc_keep (by decide) (wc_keep (by decide) (wc_keep (by decide) (wc_any (wc_keep (by decide) (wc_keep (by decide) (wc_keep (by decide) (wc_keep (by decide) (wc_keep (by decide) wc_nil))))))))))))))))) (fun _ _ _ _ _ => (gx_name (up_s (up_s (up_s (up_s (up_s (up_s (up_s (up_s (up_s (up_s (up_s up_z))))))))))) (by rfl) (by first | exact Or.inl rfl | exact Or.inr rfl) (by show (11 : Nat) ∈ [11]; decide) (by first | exact Or.inl rfl | exact Or.inr rfl))) (fun _ _ _ _ _ => (rtx_cmp (ot_notInLF fq_s) (rex_var (at_s (at_s (at_s (at_s (at_s (at_s (at_s (at_s (at_s (at_s (at_s at_z))))))))))) (by rfl) (by first | exact Or.inl rfl | exact Or.inr (Or.inl rfl) | exact Or.inr (Or.inr rfl))) (rex_var (at_s at_z) (by rfl) (by first | exact Or.inl rfl | exact Or.inr (Or.inl rfl) | exact Or.inr (Or.inr rfl))) (by rfl))) (fun _ _ _ _ _ => (rex_var (at_s (at_s (at_s (at_s (at_s (at_s (at_s (at_s (at_s (at_s (at_s at_z))))))))))) (by rfl) (by first | exact Or.inl rfl | exact Or.inr (Or.inl rfl) | exact Or.inr (Or.inr rfl)))) (wc_keep (by decide) (wc_keep (by decide) (wc_keep (by decide) (wc_keep (by decide) (wc_keep (by decide) (wc_keep (by decide) (wc_keep (by decide) (wc_keep (by decide) (wc_keep (by decide) (wc_keep (by decide) (wc_keep (by decide) (wc_val (wc_keep (by decide) (wc_keep (by decide) (wc_keep (by decide) (wc_keep (by decide) (wc_keep (by decide) wc_nil))))))))))))))))))) (by exact trivial) (by rfl) (by first | exact Or.inl rfl | exact Or.inr rfl)
            case g222 =>
              refine' bx_cons (G1 := [sOwn (fun v => v = v0) (oL cI), sVal (cL cS), sVal (cL (cL (cT (aCons cI (aOne (cO cI)))))), sOwn PAny (oL cS), sAny, sVal (cIns A_Service (fSnoc (fSnoc fNil "kept_names" (cTN cS)) "kept_table" (cTV (cTV (cT (aCons cI (aOne (cO cI)))))))), sOwn PAny (oL (cL (cT (aCons cI (aOne (cO cI)))))), sAny, sAny, sAny, sAny, sAny, sAny, sAny, sAny, sAny, sAny]) ?g219 ?g220
              case g219 =>
                refine' sx_for (G1 := [sOwn (fun v => v = v0) (oL cI), sVal (cL cS), sVal (cL (cL (cT (aCons cI (aOne (cO cI)))))), sOwn PAny (oL cS), sVal cI, sVal (cIns A_Service (fSnoc (fSnoc fNil "kept_names" (cTN cS)) "kept_table" (cTV (cTV (cT (aCons cI (aOne (cO cI)))))))), sOwn PAny (oL (cL (cT (aCons cI (aOne (cO cI)))))), sAny, sAny, sAny, sAny, sAny, sAny, sAny, sAny, sAny, sAny]) (G2 := [sOwn (fun v => v = v0) (oL cI), sVal (cL cS), sVal (cL (cL (cT (aCons cI (aOne (cO cI)))))), sOwn PAny (oL cS), sVal cI, sVal (cIns A_Service (fSnoc (fSnoc fNil "kept_names" (cTN cS)) "kept_table" (cTV (cTV (cT (aCons cI (aOne (cO cI)))))))), sOwn PAny (oL (cL (cT (aCons cI (aOne (cO cI)))))), sOwn PAny (oL cS), sAny, sOwn PAny (oL cI), sAny, sVal cS, sVal (cO (cH (aCons cB (aCons cB (aOne (cDat 0)))))), sAny, sVal cI, sOwn PAny (oL cS), sOwn PAny (oL cS)]) (rix_r1 (by rfl) (by exact M_range) rex_int) (gx_name (up_s (up_s (up_s (up_s up_z)))) (by rfl) (by first | exact Or.inl rfl | exact Or.inr rfl) (by exact trivial) (by first | exact Or.inl rfl | exact Or.inr rfl)) ?g218 (sc_same (sc_same (sc_same (sc_same (sc_any (sc_same (sc_same (sc_any (sc_same (sc_any (sc_same (sc_any (sc_any (sc_same (sc_any (sc_any (sc_any sc_id)))))))))))))))))
                case g218 =>
                  refine' bx_cons (G1 := [sOwn (fun v => v = v0) (oL cI), sVal (cL cS), sVal (cL (cL (cT (aCons cI (aOne (cO cI)))))), sOwn PAny (oL cS), sVal cI, sVal (cIns A_Service (fSnoc (fSnoc fNil "kept_names" (cTN cS)) "kept_table" (cTV (cTV (cT (aCons cI (aOne (cO cI)))))))), sOwn PAny (oL (cL (cT (aCons cI (aOne (cO cI)))))), sOwn PAny (oL cS), sAny, sAny, sAny, sAny, sAny, sAny, sAny, sAny, sAny]) ?g216 ?g217
                  case g216 =>
                    first | exact sx_setLc (own := [("step", 8)]) (up_s (up_s (up_s (up_s (up_s (up_s (up_s up_z))))))) (by rfl) (by rfl) (by exact trivial) (ix_r1 (by rfl) (by exact M_range) (ex_calI at_z md_z D__law_toss (Nat.le_of_ble_eq_true (by rfl)) (by rfl) rtvI (by rfl) (by first | exact Or.inl rfl | exact Or.inr (Or.inl rfl) | exact Or.inr (Or.inr rfl)) (rax_one rex_int))) (blkOk_by (by rfl)) (wc_keep (by decide) (wc_keep (by decide) (wc_keep (by decide) (wc_keep (by decide) (wc_keep (by decide) (wc_keep (by decide) (wc_keep (by decide) (wc_keep (by decide) (wc_any (wc_keep (by decide) (wc_keep (by decide) (wc_keep (by decide) (wc_keep (by decide) (wc_keep (by decide) (wc_keep (by decide) (wc_keep (by decide) (wc_keep (by decide) wc_nil))))))))))))))))) (fun _ _ _ _ _ => (gx_name (up_s (up_s (up_s (up_s (up_s (up_s (up_s (up_s up_z)))))))) (by rfl) (by first | exact Or.inl rfl | exact Or.inr rfl) (by show (8 : Nat) ∈ [8]; decide) (by first | exact Or.inl rfl | exact Or.inr rfl))) (fun _ _ _ _ _ => (ex_ixL (rex_var (at_s at_z) (by rfl) (by first | exact Or.inl rfl | exact Or.inr (Or.inl rfl) | exact Or.inr (Or.inr rfl))) (ex_calI at_z md_z D__law_toss (Nat.le_of_ble_eq_true (by rfl)) (by rfl) rtvI (by rfl) (by first | exact Or.inl rfl | exact Or.inr (Or.inl rfl) | exact Or.inr (Or.inr rfl)) (rax_one (rex_callB ct_lenL (by rfl) (by exact M_len) (by decide +kernel) (rax_one (rex_var (at_s at_z) (by rfl) (by first | exact Or.inl rfl | exact Or.inr (Or.inl rfl) | exact Or.inr (Or.inr rfl))))))) (by intro _ _; rfl))) (wc_keep (by decide) (wc_keep (by decide) (wc_keep (by decide) (wc_keep (by decide) (wc_keep (by decide) (wc_keep (by decide) (wc_keep (by decide) (wc_keep (by decide) (wc_val (wc_keep (by decide) (wc_keep (by decide) (wc_keep (by decide) (wc_keep (by decide) (wc_keep (by decide) (wc_keep (by decide) (wc_keep (by decide) (wc_keep (by decide) wc_nil))))))))))))))))) (by rfl) | exact sx_setO (up_s (up_s (up_s (up_s (up_s (up_s (up_s up_z))))))) (by rfl) (by first | exact Or.inl rfl | exact Or.inr rfl) (ex_lc (own := [("step", 8)]) (ix_r1 (by rfl) (by exact M_range) (ex_calI at_z md_z D__law_toss (Nat.le_of_ble_eq_true (by rfl)) (by rfl) rtvI (by rfl) (by first | exact Or.inl rfl | exact Or.inr (Or.inl rfl) | exact Or.inr (Or.inr rfl)) (rax_one rex_int))) (blkOk_by (by rfl)) (wc_keep (by decide) (wc_keep (by decide) (wc_keep (by decide) (wc_keep (by decide) (wc_keep (by decide) (wc_keep (by decide) (wc_keep (by decide) (wc_keep (by decide) (wc_any (wc_keep (by decide) (wc_keep (by decide) (wc_keep (by decide) (wc_keep (by decide) (wc_keep (by decide) (wc_keep (by decide) (wc_keep (by decide) (wc_keep (by decide) wc_nil))))))))))))))))) (fun _ _ _ _ _ => (gx_name (up_s (up_s (up_s (up_s (up_s (up_s (up_s (up_s up_z)))))))) (by rfl) (by first | exact Or.inl rfl | exact Or.inr rfl) (by show (8 : Nat) ∈ [8]; decide) (by first | exact Or.inl rfl | exact Or.inr rfl))) (fun _ _ _ _ _ => (ex_ixL (rex_var (at_s at_z) (by rfl) (by first | exact Or.inl rfl | exact Or.inr (Or.inl rfl) | exact Or.inr (Or.inr rfl))) (ex_calI at_z md_z D__law_toss (Nat.le_of_ble_eq_true (by rfl)) (by rfl) rtvI (by rfl) (by first | exact Or.inl rfl | exact Or.inr (Or.inl rfl) | exact Or.inr (Or.inr rfl)) (rax_one (rex_callB ct_lenL (by rfl) (by exact M_len) (by decide +kernel) (rax_one (rex_var (at_s at_z) (by rfl) (by first | exact Or.inl rfl | exact Or.inr (Or.inl rfl) | exact Or.inr (Or.inr rfl))))))) (by intro _ _; rfl))) (wc_keep (by decide) (wc_keep (by decide) (wc_keep (by decide) (wc_keep (by decide) (wc_keep (by decide) (wc_keep (by decide) (wc_keep (by decide) (wc_keep (by decide) (wc_val (wc_keep (by decide) (wc_keep (by decide) (wc_keep (by decide) (wc_keep (by decide) (wc_keep (by decide) (wc_keep (by decide) (wc_keep (by decide) (wc_keep (by decide) wc_nil)))))))))))))))))) (by exact trivial) (by rfl) (by first | exact Or.inl rfl | exact Or.inr rfl)
                  case g217 =>
                    refine' bx_cons (G1 := [sOwn (fun v => v = v0) (oL cI), sVal (cL cS), sVal (cL (cL (cT (aCons cI (aOne (cO cI)))))), sOwn PAny (oL cS), sVal cI, sVal (cIns A_Service (fSnoc (fSnoc fNil "kept_names" (cTN cS)) "kept_table" (cTV (cTV (cT (aCons cI (aOne (cO cI)))))))), sOwn PAny (oL (cL (cT (aCons cI (aOne (cO cI)))))), sOwn PAny (oL cS), sAny, sAny, sAny, sAny, sAny, sAny, sAny, sAny, sAny]) ?g214 ?g215
                    case g214 =>
                      refine' sx_for (G1 := [sOwn (fun v => v = v0) (oL cI), sVal (cL cS), sVal (cL (cL (cT (aCons cI (aOne (cO cI)))))), sOwn PAny (oL cS), sVal cI, sVal (cIns A_Service (fSnoc (fSnoc fNil "kept_names" (cTN cS)) "kept_table" (cTV (cTV (cT (aCons cI (aOne (cO cI)))))))), sOwn PAny (oL (cL (cT (aCons cI (aOne (cO cI)))))), sOwn PAny (oL cS), sVal cI, sAny, sAny, sAny, sAny, sAny, sAny, sAny, sAny]) (G2 := [sOwn (fun v => v = v0) (oL cI), sVal (cL cS), sVal (cL (cL (cT (aCons cI (aOne (cO cI)))))), sOwn PAny (oL cS), sVal cI, sVal (cIns A_Service (fSnoc (fSnoc fNil "kept_names" (cTN cS)) "kept_table" (cTV (cTV (cT (aCons cI (aOne (cO cI)))))))), sOwn PAny (oL (cL (cT (aCons cI (aOne (cO cI)))))), sOwn PAny (oL cS), sVal cI, sAny, sAny, sAny, sAny, sVal cI, sAny, sAny, sAny]) (ix_r1 (by rfl) (by exact M_range) (ex_calI at_z md_z D__law_toss (Nat.le_of_ble_eq_true (by rfl)) (by rfl) rtvI (by rfl) (by first | exact Or.inl rfl | exact Or.inr (Or.inl rfl) | exact Or.inr (Or.inr rfl)) (rax_one rex_int))) (gx_name (up_s (up_s (up_s (up_s (up_s (up_s (up_s (up_s up_z)))))))) (by rfl) (by first | exact Or.inl rfl | exact Or.inr rfl) (by exact trivial) (by first | exact Or.inl rfl | exact Or.inr rfl)) ?g186 (sc_same (sc_same (sc_same (sc_same (sc_same (sc_same (sc_same (sc_same (sc_any (sc_same (sc_same (sc_same (sc_same (sc_any sc_id))))))))))))))
                      case g186 =>
                        refine' bx_cons (G1 := [sOwn (fun v => v = v0) (oL cI), sVal (cL cS), sVal (cL (cL (cT (aCons cI (aOne (cO cI)))))), sOwn PAny (oL cS), sVal cI, sVal (cIns A_Service (fSnoc (fSnoc fNil "kept_names" (cTN cS)) "kept_table" (cTV (cTV (cT (aCons cI (aOne (cO cI)))))))), sOwn PAny (oL (cL (cT (aCons cI (aOne (cO cI)))))), sOwn PAny (oL cS), sVal cI, sAny, sAny, sAny, sAny, sVal cI, sAny, sAny, sAny]) ?g184 ?g185
                        case g184 =>
                          exact sx_set (up_s (up_s (up_s (up_s (up_s (up_s (up_s (up_s (up_s (up_s (up_s (up_s (up_s up_z))))))))))))) (by rfl) (by first | exact Or.inl rfl | exact Or.inr rfl) (ex_calI at_z md_z D__law_toss (Nat.le_of_ble_eq_true (by rfl)) (by rfl) rtvI (by rfl) (by first | exact Or.inl rfl | exact Or.inr (Or.inl rfl) | exact Or.inr (Or.inr rfl)) (rax_one (rex_op ot_add (rex_lend (S := [7]) (T := [6]) (ln_hold (ho_l hd_i) (by decide) (by decide) (ln_val (ln_val (ln_hold (ho_l hd_s) (by decide) (by decide) (ln_val (ln_val (ln_hide (by decide) (ln_own frz_l (by decide) (ln_val (ln_any (ln_any (ln_any (ln_any (ln_any (ln_any (ln_any (ln_any ln_nil))))))))))))))))) (rh_v hd_i) (rex_callB ct_lenL (by rfl) (by exact M_len) (by decide +kernel) (rax_one (rex_var (at_s (at_s (at_s (at_s (at_s (at_s (at_s at_z))))))) (by rfl) (by first | exact Or.inl rfl | exact Or.inr (Or.inl rfl) | exact Or.inr (Or.inr rfl)))))) rex_int))) (by exact trivial) (by rfl) (by first | exact Or.inl rfl | exact Or.inr rfl)
                        case g185 =>
                          refine' bx_one ?_
                          exact sx_setO (up_s (up_s (up_s (up_s (up_s (up_s (up_s up_z))))))) (by rfl) (by first | exact Or.inl rfl | exact Or.inr rfl) (ex_op ot_cat (ex_frz frz_l (ex_op ot_cat (rex_frz frz_l (rex_lend (S := [7]) (T := [6]) (ln_hold (ho_l hd_i) (by decide) (by decide) (ln_val (ln_val (ln_hold (ho_l hd_s) (by decide) (by decide) (ln_val (ln_val (ln_hide (by decide) (ln_own frz_l (by decide) (ln_val (ln_any (ln_any (ln_any (ln_any (ln_val (ln_any (ln_any (ln_any ln_nil))))))))))))))))) (rh_o (ho_l hd_s)) (rex_cutL (rex_var (at_s (at_s (at_s (at_s (at_s (at_s (at_s at_z))))))) (by rfl) (by first | exact Or.inl rfl | exact Or.inr (Or.inl rfl) | exact Or.inr (Or.inr rfl))) rox_none (rox_some (rex_var (at_s (at_s (at_s (at_s (at_s (at_s (at_s (at_s (at_s (at_s (at_s (at_s (at_s at_z))))))))))))) (by rfl) (by first | exact Or.inl rfl | exact Or.inr (Or.inl rfl) | exact Or.inr (Or.inr rfl))))))) (ex_frz frz_l (ex_list (ax_consA (ex_lend (S := [3]) (T := [6]) (ln_hold (ho_l hd_i) (by decide) (by decide) (ln_val (ln_val (ln_own frz_l (by decide) (ln_val (ln_val (ln_hide (by decide) (ln_hold (ho_l hd_s) (by decide) (by decide) (ln_val (ln_any (ln_any (ln_any (ln_any (ln_val (ln_any (ln_any (ln_any ln_nil))))))))))))))))) (rh_v hd_s) (ex_ixL (rex_var (at_s (at_s (at_s at_z))) (by rfl) (by first | exact Or.inl rfl | exact Or.inr (Or.inl rfl) | exact Or.inr (Or.inr rfl))) (ex_calI at_z md_z D__law_toss (Nat.le_of_ble_eq_true (by rfl)) (by rfl) rtvI (by rfl) (by first | exact Or.inl rfl | exact Or.inr (Or.inl rfl) | exact Or.inr (Or.inr rfl)) (rax_one (rex_callB ct_lenL (by rfl) (by exact M_len) (by decide +kernel) (rax_one (rex_var (at_s (at_s (at_s at_z))) (by rfl) (by first | exact Or.inl rfl | exact Or.inr (Or.inl rfl) | exact Or.inr (Or.inr rfl))))))) (by intro _ _; rfl))) rax_nilA))))) (rex_frz frz_l (rex_lend (S := [7]) (T := [6]) (ln_hold (ho_l hd_i) (by decide) (by decide) (ln_val (ln_val (ln_hold (ho_l hd_s) (by decide) (by decide) (ln_val (ln_val (ln_hide (by decide) (ln_own frz_l (by decide) (ln_val (ln_any (ln_any (ln_any (ln_any (ln_val (ln_any (ln_any (ln_any ln_nil))))))))))))))))) (rh_o (ho_l hd_s)) (rex_cutL (rex_var (at_s (at_s (at_s (at_s (at_s (at_s (at_s at_z))))))) (by rfl) (by first | exact Or.inl rfl | exact Or.inr (Or.inl rfl) | exact Or.inr (Or.inr rfl))) (rox_some (rex_var (at_s (at_s (at_s (at_s (at_s (at_s (at_s (at_s (at_s (at_s (at_s (at_s (at_s at_z))))))))))))) (by rfl) (by first | exact Or.inl rfl | exact Or.inr (Or.inl rfl) | exact Or.inr (Or.inr rfl)))) rox_none)))) (by exact trivial) (by rfl) (by first | exact Or.inl rfl | exact Or.inr rfl)
                    case g215 =>
                      refine' bx_cons (G1 := [sOwn (fun v => v = v0) (oL cI), sVal (cL cS), sVal (cL (cL (cT (aCons cI (aOne (cO cI)))))), sOwn PAny (oL cS), sVal cI, sVal (cIns A_Service (fSnoc (fSnoc fNil "kept_names" (cTN cS)) "kept_table" (cTV (cTV (cT (aCons cI (aOne (cO cI)))))))), sOwn PAny (oL (cL (cT (aCons cI (aOne (cO cI)))))), sOwn PAny (oL cS), sAny, sOwn PAny (oL cI), sAny, sAny, sAny, sAny, sAny, sAny, sAny]) ?g212 ?g213
                      case g212 =>
                        exact sx_setO (up_s (up_s (up_s (up_s (up_s (up_s (up_s (up_s (up_s up_z))))))))) (by rfl) (by first | exact Or.inl rfl | exact Or.inr rfl) (ex_list (ax_consA (rex_neg rex_int) (ax_consA (rex_lend (S := [6]) (T := []) (ln_hold (ho_l hd_i) (by decide) (by decide) (ln_val (ln_val (ln_hold (ho_l hd_s) (by decide) (by decide) (ln_val (ln_val (ln_own frz_l (by decide) (ln_hold (ho_l hd_s) (by decide) (by decide) (ln_any (ln_any (ln_any (ln_any (ln_any (ln_any (ln_any (ln_any (ln_any ln_nil))))))))))))))))) (rh_v hd_i) (rex_callB ct_lenL (by rfl) (by exact M_len) (by decide +kernel) (rax_one (rex_var (at_s (at_s (at_s (at_s (at_s (at_s at_z)))))) (by rfl) (by first | exact Or.inl rfl | exact Or.inr (Or.inl rfl) | exact Or.inr (Or.inr rfl)))))) (ax_consA (ex_op ot_add (rex_lend (S := [6]) (T := []) (ln_hold (ho_l hd_i) (by decide) (by decide) (ln_val (ln_val (ln_hold (ho_l hd_s) (by decide) (by decide) (ln_val (ln_val (ln_own frz_l (by decide) (ln_hold (ho_l hd_s) (by decide) (by decide) (ln_any (ln_any (ln_any (ln_any (ln_any (ln_any (ln_any (ln_any (ln_any ln_nil))))))))))))))))) (rh_v hd_i) (rex_callB ct_lenL (by rfl) (by exact M_len) (by decide +kernel) (rax_one (rex_var (at_s (at_s (at_s (at_s (at_s (at_s at_z)))))) (by rfl) (by first | exact Or.inl rfl | exact Or.inr (Or.inl rfl) | exact Or.inr (Or.inr rfl)))))) (ex_calI at_z md_z D__law_toss (Nat.le_of_ble_eq_true (by rfl)) (by rfl) rtvI (by rfl) (by first | exact Or.inl rfl | exact Or.inr (Or.inl rfl) | exact Or.inr (Or.inr rfl)) (rax_one (rex_op ot_pow rex_int rex_int)))) (rax_consA (rex_op ot_sub (rex_callB ct_lenL (by rfl) (by exact M_len) (by decide +kernel) (rax_one (rex_var (at_s (at_s at_z)) (by rfl) (by first | exact Or.inl rfl | exact Or.inr (Or.inl rfl) | exact Or.inr (Or.inr rfl))))) rex_int) (rax_consA rex_int (rax_consA rex_int (rax_consA (rex_neg (rex_lend (S := [6]) (T := []) (ln_hold (ho_l hd_i) (by decide) (by decide) (ln_val (ln_val (ln_hold (ho_l hd_s) (by decide) (by decide) (ln_val (ln_val (ln_own frz_l (by decide) (ln_hold (ho_l hd_s) (by decide) (by decide) (ln_any (ln_any (ln_any (ln_any (ln_any (ln_any (ln_any (ln_any (ln_any ln_nil))))))))))))))))) (rh_v hd_i) (rex_callB ct_lenL (by rfl) (by exact M_len) (by decide +kernel) (rax_one (rex_var (at_s (at_s (at_s (at_s (at_s (at_s at_z)))))) (by rfl) (by first | exact Or.inl rfl | exact Or.inr (Or.inl rfl) | exact Or.inr (Or.inr rfl))))))) rax_nilA)))))))) (by exact trivial) (by rfl) (by first | exact Or.inl rfl | exact Or.inr rfl)
                      case g213 =>
                        refine' bx_cons (G1 := [sOwn (fun v => v = v0) (oL cI), sVal (cL cS), sVal (cL (cL (cT (aCons cI (aOne (cO cI)))))), sOwn PAny (oL cS), sVal cI, sVal (cIns A_Service (fSnoc (fSnoc fNil "kept_names" (cTN cS)) "kept_table" (cTV (cTV (cT (aCons cI (aOne (cO cI)))))))), sOwn PAny (oL (cL (cT (aCons cI (aOne (cO cI)))))), sOwn PAny (oL cS), sAny, sOwn PAny (oL cI), sAny, sAny, sAny, sAny, sVal cI, sOwn PAny (oL cS), sAny]) ?g210 ?g211
                        case g210 =>
                          first | exact sx_par st_v st_o (up_s (up_s (up_s (up_s (up_s (up_s (up_s (up_s (up_s (up_s (up_s (up_s (up_s (up_s (up_s up_z))))))))))))))) (up_s (up_s (up_s (up_s (up_s (up_s (up_s (up_s (up_s (up_s (up_s (up_s (up_s (up_s up_z)))))))))))))) (by decide) (by exact ⟨trivial, trivial⟩) (by rfl) (by rfl) (by rfl) (by rfl) (ex_ixL (ex_frz frz_l (ex_lend (S := [9]) (T := [6]) (ln_hold (ho_l hd_i) (by decide) (by decide) (ln_val (ln_val (ln_hold (ho_l hd_s) (by decide) (by decide) (ln_val (ln_val (ln_hide (by decide) (ln_hold (ho_l hd_s) (by decide) (by decide) (ln_any (ln_own frz_l (by decide) (ln_any (ln_any (ln_any (ln_any (ln_any (ln_any (ln_any ln_nil))))))))))))))))) (rh_o (ho_l hd_i)) (ex_op ot_cat (rex_var (at_s (at_s (at_s (at_s (at_s (at_s (at_s (at_s (at_s at_z))))))))) (by rfl) (by first | exact Or.inl rfl | exact Or.inr (Or.inl rfl) | exact Or.inr (Or.inr rfl))) (ex_frz frz_l (ex_list (ax_consA (ex_op ot_sub (rex_neg rex_int) (ex_calI at_z md_z D__law_toss (Nat.le_of_ble_eq_true (by rfl)) (by rfl) rtvI (by rfl) (by first | exact Or.inl rfl | exact Or.inr (Or.inl rfl) | exact Or.inr (Or.inr rfl)) (rax_one (rex_op ot_pow rex_int rex_int)))) (rax_consA rex_int rax_nilA))))))) (ex_calI at_z md_z D__law_toss (Nat.le_of_ble_eq_true (by rfl)) (by rfl) rtvI (by rfl) (by first | exact Or.inl rfl | exact Or.inr (Or.inl rfl) | exact Or.inr (Or.inr rfl)) (rax_one rex_int)) (by intro _ _; rfl)) (rex_lend (S := [7]) (T := [6]) (ln_hold (ho_l hd_i) (by decide) (by decide) (ln_val (ln_val (ln_hold (ho_l hd_s) (by decide) (by decide) (ln_val (ln_val (ln_hide (by decide) (ln_own frz_l (by decide) (ln_any (ln_hold (ho_l hd_i) (by decide) (by decide) (ln_any (ln_any (ln_any (ln_any (ln_any (ln_any (ln_any ln_nil))))))))))))))))) (rh_o (ho_l hd_s)) (rex_callTy ct_listL (by rfl) (by exact M_list) (by decide +kernel) (rax_one (rex_var (at_s (at_s (at_s (at_s (at_s (at_s (at_s at_z))))))) (by rfl) (by first | exact Or.inl rfl | exact Or.inr (Or.inl rfl) | exact Or.inr (Or.inr rfl)))))) (by rfl) | exact sx_parC st_v st_o (up_s (up_s (up_s (up_s (up_s (up_s (up_s (up_s (up_s (up_s (up_s (up_s (up_s (up_s (up_s up_z))))))))))))))) (up_s (up_s (up_s (up_s (up_s (up_s (up_s (up_s (up_s (up_s (up_s (up_s (up_s (up_s up_z)))))))))))))) (by decide) (by exact ⟨trivial, trivial⟩) (by rfl) (by rfl) (by first | exact Or.inl rfl | exact Or.inr rfl) (by first | exact Or.inl rfl | exact Or.inr rfl) (ex_ixL (ex_frz frz_l (ex_lend (S := [9]) (T := [6]) (ln_hold (ho_l hd_i) (by decide) (by decide) (ln_val (ln_val (ln_hold (ho_l hd_s) (by decide) (by decide) (ln_val (ln_val (ln_hide (by decide) (ln_hold (ho_l hd_s) (by decide) (by decide) (ln_any (ln_own frz_l (by decide) (ln_any (ln_any (ln_any (ln_any (ln_any (ln_any (ln_any ln_nil))))))))))))))))) (rh_o (ho_l hd_i)) (ex_op ot_cat (rex_var (at_s (at_s (at_s (at_s (at_s (at_s (at_s (at_s (at_s at_z))))))))) (by rfl) (by first | exact Or.inl rfl | exact Or.inr (Or.inl rfl) | exact Or.inr (Or.inr rfl))) (ex_frz frz_l (ex_list (ax_consA (ex_op ot_sub (rex_neg rex_int) (ex_calI at_z md_z D__law_toss (Nat.le_of_ble_eq_true (by rfl)) (by rfl) rtvI (by rfl) (by first | exact Or.inl rfl | exact Or.inr (Or.inl rfl) | exact Or.inr (Or.inr rfl)) (rax_one (rex_op ot_pow rex_int rex_int)))) (rax_consA rex_int rax_nilA))))))) (ex_calI at_z md_z D__law_toss (Nat.le_of_ble_eq_true (by rfl)) (by rfl) rtvI (by rfl) (by first | exact Or.inl rfl | exact Or.inr (Or.inl rfl) | exact Or.inr (Or.inr rfl)) (rax_one rex_int)) (by intro _ _; rfl)) (rex_lend (S := [7]) (T := [6]) (ln_hold (ho_l hd_i) (by decide) (by decide) (ln_val (ln_val (ln_hold (ho_l hd_s) (by decide) (by decide) (ln_val (ln_val (ln_hide (by decide) (ln_own frz_l (by decide) (ln_any (ln_hold (ho_l hd_i) (by decide) (by decide) (ln_any (ln_any (ln_any (ln_any (ln_any (ln_any (ln_any ln_nil))))))))))))))))) (rh_o (ho_l hd_s)) (rex_callTy ct_listL (by rfl) (by exact M_list) (by decide +kernel) (rax_one (rex_var (at_s (at_s (at_s (at_s (at_s (at_s (at_s at_z))))))) (by rfl) (by first | exact Or.inl rfl | exact Or.inr (Or.inl rfl) | exact Or.inr (Or.inr rfl)))))) (by rfl) (by rfl) (by rfl)
                        case g211 =>
                          refine' bx_cons (G1 := [sOwn (fun v => v = v0) (oL cI), sVal (cL cS), sVal (cL (cL (cT (aCons cI (aOne (cO cI)))))), sOwn PAny (oL cS), sVal cI, sVal (cIns A_Service (fSnoc (fSnoc fNil "kept_names" (cTN cS)) "kept_table" (cTV (cTV (cT (aCons cI (aOne (cO cI)))))))), sOwn PAny (oL (cL (cT (aCons cI (aOne (cO cI)))))), sOwn PAny (oL cS), sAny, sOwn PAny (oL cI), sAny, sAny, sVal (cO (cH (aCons cB (aCons cB (aOne (cDat 0)))))), sAny, sVal cI, sOwn PAny (oL cS), sOwn PAny (oL cS)]) ?g208 ?g209
                          case g208 =>
                            first | exact sx_par st_o st_v (up_s (up_s (up_s (up_s (up_s (up_s (up_s (up_s (up_s (up_s (up_s (up_s up_z)))))))))))) (up_s (up_s (up_s (up_s (up_s (up_s (up_s (up_s (up_s (up_s (up_s (up_s (up_s (up_s (up_s (up_s up_z)))))))))))))))) (by decide) (by exact ⟨trivial, trivial⟩) (by rfl) (by rfl) (by rfl) (by rfl) (rex_lend (S := [7]) (T := [6]) (ln_hold (ho_l hd_i) (by decide) (by decide) (ln_val (ln_val (ln_hold (ho_l hd_s) (by decide) (by decide) (ln_val (ln_val (ln_hide (by decide) (ln_own frz_l (by decide) (ln_any (ln_hold (ho_l hd_i) (by decide) (by decide) (ln_any (ln_any (ln_any (ln_any (ln_val (ln_hold (ho_l hd_s) (by decide) (by decide) (ln_any ln_nil))))))))))))))))) (rh_o (ho_l hd_s)) (rex_lcIf (own := [("label", 11)]) (rix_l (rex_var (at_s (at_s (at_s (at_s (at_s (at_s (at_s at_z))))))) (by rfl) (by first | exact Or.inl rfl | exact Or.inr (Or.inl rfl) | exact Or.inr (Or.inr rfl)))) (blkOk_by (by rfl)) (wc_keep (by decide) (wc_keep (by decide) (wc_keep (by decide) (wc_keep (by decide) (wc_keep (by decide) (wc_keep (by decide) (wc_keep (by decide) (wc_keep (by decide) (wc_keep (by decide) (wc_keep (by decide) (wc_keep (by decide) (wc_any (wc_keep (by decide) (wc_keep (by decide) (wc_keep (by decide) (wc_keep (by decide) (wc_keep (by decide) wc_nil))))))))))))))))) (fun _ _ _ _ _ => (gx_name (up_s (up_s (up_s (up_s (up_s (up_s (up_s (up_s (up_s (up_s (up_s up_z))))))))))) (by rfl) (by first | exact Or.inl rfl | exact Or.inr rfl) (by show (11 : Nat) ∈ [11]; decide) (by first | exact Or.inl rfl | exact Or.inr rfl))) (fun _ _ _ _ _ => (rtx_cmp (ot_notInLF fq_s) (rex_var (at_s (at_s (at_s (at_s (at_s (at_s (at_s (at_s (at_s (at_s (at_s at_z))))))))))) (by rfl) (by first | exact Or.inl rfl | exact Or.inr (Or.inl rfl) | exact Or.inr (Or.inr rfl))) (rex_var (at_s at_z) (by rfl) (by first | exact Or.inl rfl | exact Or.inr (Or.inl rfl) | exact Or.inr (Or.inr rfl))) (by rfl))) (fun _ _ _ _ _ => (rex_var (at_s (at_s (at_s (at_s (at_s (at_s (at_s (at_s (at_s (at_s (at_s at_z))))))))))) (by rfl) (by first | exact Or.inl rfl | exact Or.inr (Or.inl rfl) | exact Or.inr (Or.inr rfl)))) (wc_keep (by decide) (wc_keep (by decide) (wc_keep (by decide) (wc_keep (by decide) (wc_keep (by decide) (wc_keep (by decide) (wc_keep (by decide) (wc_keep (by decide) (wc_keep (by decide) (wc_keep (by decide) (wc_keep (by decide) (wc_val (wc_keep (by decide) (wc_keep (by decide) (wc_keep (by decide) (wc_keep (by decide) (wc_keep (by decide) wc_nil))))))))))))))))))) (rex_sub (sub_none (c := (cH (aCons cB (aCons cB (aOne (cDat 0))))))) rex_none) (by rfl) | exact sx_parC st_o st_v (up_s (up_s (up_s (up_s (up_s (up_s (up_s (up_s (up_s (up_s (up_s (up_s up_z)))))))))))) (up_s (up_s (up_s (up_s (up_s (up_s (up_s (up_s (up_s (up_s (up_s (up_s (up_s (up_s (up_s (up_s up_z)))))))))))))))) (by decide) (by exact ⟨trivial, trivial⟩) (by rfl) (by rfl) (by first | exact Or.inl rfl | exact Or.inr rfl) (by first | exact Or.inl rfl | exact Or.inr rfl) (rex_lend (S := [7]) (T := [6]) (ln_hold (ho_l hd_i) (by decide) (by decide) (ln_val (ln_val (ln_hold (ho_l hd_s) (by decide) (by decide) (ln_val (ln_val (ln_hide (by decide) (ln_own frz_l (by decide) (ln_any (ln_hold (ho_l hd_i) (by decide) (by decide) (ln_any (ln_any (ln_any (ln_any (ln_val (ln_hold (ho_l hd_s) (by decide) (by decide) (ln_any ln_nil))))))))))))))))) (rh_o (ho_l hd_s)) (rex_lcIf (own := [("label", 11)]) (rix_l (rex_var (at_s (at_s (at_s (at_s (at_s (at_s (at_s at_z))))))) (by rfl) (by first | exact Or.inl rfl | exact Or.inr (Or.inl rfl) | exact Or.inr (Or.inr rfl)))) (blkOk_by (by rfl)) (wc_keep (by decide) (wc_keep (by decide) (wc_keep (by decide) (wc_keep (by decide) (wc_keep (by decide) (wc_keep (by decide) (wc_keep (by decide) (wc_keep (by decide) (wc_keep (by decide) (wc_keep (by decide) (wc_keep (by decide) (wc_any (wc_keep (by decide) (wc_keep (by decide) (wc_keep (by decide) (wc_keep (by decide) (wc_keep (by decide) wc_nil))))))))))))))))) (fun _ _ _ _ _ => (gx_name (up_s (up_s (up_s (up_s (up_s (up_s (up_s (up_s (up_s (up_s (up_s up_z))))))))))) (by rfl) (by first | exact Or.inl rfl | exact Or.inr rfl) (by show (11 : Nat) ∈ [11]; decide) (by first | exact Or.inl rfl | exact Or.inr rfl))) (fun _ _ _ _ _ => (rtx_cmp (ot_notInLF fq_s) (rex_var (at_s (at_s (at_s (at_s (at_s (at_s (at_s (at_s (at_s (at_s (at_s at_z))))))))))) (by rfl) (by first | exact Or.inl rfl | exact Or.inr (Or.inl rfl) | exact Or.inr (Or.inr rfl))) (rex_var (at_s at_z) (by rfl) (by first | exact Or.inl rfl | exact Or.inr (Or.inl rfl) | exact Or.inr (Or.inr rfl))) (by rfl))) (fun _ _ _ _ _ => (rex_var (at_s (at_s (at_s (at_s (at_s (at_s (at_s (at_s (at_s (at_s (at_s at_z))))))))))) (by rfl) (by first | exact Or.inl rfl | exact Or.inr (Or.inl rfl) | exact Or.inr (Or.inr rfl)))) (wc_keep (by decide) (wc_keep (by decide) (wc_keep (by decide) (wc_keep (by decide) (wc_keep (by decide) (wc_keep (by decide) (wc_keep (by decide) (wc_keep (by decide) (wc_keep (by decide) (wc_keep (by decide) (wc_keep (by decide) (wc_val (wc_keep (by decide) (wc_keep (by decide) (wc_keep (by decide) (wc_keep (by decide) (wc_keep (by decide) wc_nil))))))))))))))))))) (rex_sub (sub_none (c := (cH (aCons cB (aCons cB (aOne (cDat 0))))))) rex_none) (by rfl) (by rfl) (by rfl)
                          case g209 =>
                            refine' bx_cons (G1 := [sOwn (fun v => v = v0) (oL cI), sVal (cL cS), sVal (cL (cL (cT (aCons cI (aOne (cO cI)))))), sOwn PAny (oL cS), sVal cI, sVal (cIns A_Service (fSnoc (fSnoc fNil "kept_names" (cTN cS)) "kept_table" (cTV (cTV (cT (aCons cI (aOne (cO cI)))))))), sOwn PAny (oL (cL (cT (aCons cI (aOne (cO cI)))))), sOwn PAny (oL cS), sAny, sOwn PAny (oL cI), sAny, sAny, sVal (cO (cH (aCons cB (aCons cB (aOne (cDat 0)))))), sAny, sVal cI, sOwn PAny (oL cS), sOwn PAny (oL cS)]) ?g206 ?g207
                            case g206 =>
                              refine' sx_if (G' := [sOwn (fun v => v = v0) (oL cI), sVal (cL cS), sVal (cL (cL (cT (aCons cI (aOne (cO cI)))))), sOwn PAny (oL cS), sVal cI, sVal (cIns A_Service (fSnoc (fSnoc fNil "kept_names" (cTN cS)) "kept_table" (cTV (cTV (cT (aCons cI (aOne (cO cI)))))))), sOwn PAny (oL (cL (cT (aCons cI (aOne (cO cI)))))), sOwn PAny (oL cS), sAny, sOwn PAny (oL cI), sAny, sAny, sVal (cO (cH (aCons cB (aCons cB (aOne (cDat 0)))))), sAny, sVal cI, sOwn PAny (oL cS), sOwn PAny (oL cS)]) (rtx_w (rwx_or (rtx_cmp ot_lt (rex_var (at_s (at_s (at_s (at_s (at_s (at_s (at_s (at_s (at_s (at_s (at_s (at_s (at_s (at_s at_z)))))))))))))) (by rfl) (by first | exact Or.inl rfl | exact Or.inr (Or.inl rfl) | exact Or.inr (Or.inr rfl))) rex_int (by rfl)) (rwx_or1 (rtx_cmp ot_ge (rex_var (at_s (at_s (at_s (at_s (at_s (at_s (at_s (at_s (at_s (at_s (at_s (at_s (at_s (at_s at_z)))))))))))))) (by rfl) (by first | exact Or.inl rfl | exact Or.inr (Or.inl rfl) | exact Or.inr (Or.inr rfl))) (rex_lend (S := [6]) (T := []) (ln_hold (ho_l hd_i) (by decide) (by decide) (ln_val (ln_val (ln_hold (ho_l hd_s) (by decide) (by decide) (ln_val (ln_val (ln_own frz_l (by decide) (ln_hold (ho_l hd_s) (by decide) (by decide) (ln_any (ln_hold (ho_l hd_i) (by decide) (by decide) (ln_any (ln_any (ln_val (ln_any (ln_val (ln_hold (ho_l hd_s) (by decide) (by decide) (ln_hold (ho_l hd_s) (by decide) (by decide) ln_nil))))))))))))))))) (rh_v hd_i) (rex_callB ct_lenL (by rfl) (by exact M_len) (by decide +kernel) (rax_one (rex_var (at_s (at_s (at_s (at_s (at_s (at_s at_z)))))) (by rfl) (by first | exact Or.inl rfl | exact Or.inr (Or.inl rfl) | exact Or.inr (Or.inr rfl)))))) (by rfl))))) ?g189 ?g190
                              case g189 =>
                                refine' bx_one ?_
                                exact sx_set (up_s (up_s (up_s (up_s (up_s (up_s (up_s (up_s (up_s (up_s (up_s (up_s up_z)))))))))))) (by rfl) (by first | exact Or.inl rfl | exact Or.inr rfl) (rex_sub sub_some (rex_hlist (rax_cons rex_bool (rax_cons rex_bool (rax_one (rex_sub (sub_datm dc_i (by decide)) (rex_var (at_s (at_s (at_s (at_s (at_s (at_s (at_s (at_s (at_s (at_s (at_s (at_s (at_s (at_s at_z)))))))))))))) (by rfl) (by first | exact Or.inl rfl | exact Or.inr (Or.inl rfl) | exact Or.inr (Or.inr rfl))))))))) (by exact trivial) (by rfl) (by first | exact Or.inl rfl | exact Or.inr rfl)
                              case g190 =>
                                refine' bx_one ?_
                                refine' sx_if (G' := [sOwn (fun v => v = v0) (oL cI), sVal (cL cS), sVal (cL (cL (cT (aCons cI (aOne (cO cI)))))), sOwn PAny (oL cS), sVal cI, sVal (cIns A_Service (fSnoc (fSnoc fNil "kept_names" (cTN cS)) "kept_table" (cTV (cTV (cT (aCons cI (aOne (cO cI)))))))), sOwn PAny (oL (cL (cT (aCons cI (aOne (cO cI)))))), sOwn PAny (oL cS), sAny, sOwn PAny (oL cI), sAny, sAny, sVal (cO (cH (aCons cB (aCons cB (aOne (cDat 0)))))), sAny, sVal cI, sOwn PAny (oL cS), sOwn PAny (oL cS)]) (rtx_lend (S := [16]) (T := [6]) (ln_hold (ho_l hd_i) (by decide) (by decide) (ln_val (ln_val (ln_hold (ho_l hd_s) (by decide) (by decide) (ln_val (ln_val (ln_hide (by decide) (ln_hold (ho_l hd_s) (by decide) (by decide) (ln_any (ln_hold (ho_l hd_i) (by decide) (by decide) (ln_any (ln_any (ln_val (ln_any (ln_val (ln_hold (ho_l hd_s) (by decide) (by decide) (ln_own frz_l (by decide) ln_nil))))))))))))))))) (rtx_cmp (ot_neD (dc_l dc_s) (dc_l dc_s) (by decide) (by decide)) (rex_var (at_s (at_s (at_s (at_s (at_s (at_s (at_s (at_s (at_s (at_s (at_s (at_s (at_s (at_s (at_s (at_s at_z)))))))))))))))) (by rfl) (by first | exact Or.inl rfl | exact Or.inr (Or.inl rfl) | exact Or.inr (Or.inr rfl))) (rex_frz frz_l (rex_list (c := cS) rax_nilA)) (by rfl))) ?g187 ?g188
                                case g187 =>
                                  refine' bx_one ?_
                                  exact sx_set (up_s (up_s (up_s (up_s (up_s (up_s (up_s (up_s (up_s (up_s (up_s (up_s up_z)))))))))))) (by rfl) (by first | exact Or.inl rfl | exact Or.inr rfl) (rex_sub sub_some (rex_hlist (rax_cons rex_bool (rax_cons rex_bool (rax_one (rex_lend (S := [16]) (T := [6]) (ln_hold (ho_l hd_i) (by decide) (by decide) (ln_val (ln_val (ln_hold (ho_l hd_s) (by decide) (by decide) (ln_val (ln_val (ln_hide (by decide) (ln_hold (ho_l hd_s) (by decide) (by decide) (ln_any (ln_hold (ho_l hd_i) (by decide) (by decide) (ln_any (ln_any (ln_val (ln_any (ln_val (ln_hold (ho_l hd_s) (by decide) (by decide) (ln_own frz_l (by decide) ln_nil))))))))))))))))) (rh_v hd_dat0) (rex_sub (sub_datm dc_s (by decide)) (rex_ixL (rex_var (at_s (at_s (at_s (at_s (at_s (at_s (at_s (at_s (at_s (at_s (at_s (at_s (at_s (at_s (at_s (at_s at_z)))))))))))))))) (by rfl) (by first | exact Or.inl rfl | exact Or.inr (Or.inl rfl) | exact Or.inr (Or.inr rfl))) rex_int (by intro _ _; rfl))))))))) (by exact trivial) (by rfl) (by first | exact Or.inl rfl | exact Or.inr rfl)
                                case g188 =>
                                  exact bx_nil
                            case g207 =>
                              refine' bx_cons (G1 := [sOwn (fun v => v = v0) (oL cI), sVal (cL cS), sVal (cL (cL (cT (aCons cI (aOne (cO cI)))))), sOwn PAny (oL cS), sVal cI, sVal (cIns A_Service (fSnoc (fSnoc fNil "kept_names" (cTN cS)) "kept_table" (cTV (cTV (cT (aCons cI (aOne (cO cI)))))))), sOwn PAny (oL (cL (cT (aCons cI (aOne (cO cI)))))), sOwn PAny (oL cS), sAny, sOwn PAny (oL cI), sAny, sAny, sVal (cO (cH (aCons cB (aCons cB (aOne (cDat 0)))))), sAny, sVal cI, sOwn PAny (oL cS), sOwn PAny (oL cS)]) ?g204 ?g205
                              case g204 =>
                                refine' sx_for (G1 := [sOwn (fun v => v = v0) (oL cI), sVal (cL cS), sVal (cL (cL (cT (aCons cI (aOne (cO cI)))))), sOwn PAny (oL cS), sVal cI, sVal (cIns A_Service (fSnoc (fSnoc fNil "kept_names" (cTN cS)) "kept_table" (cTV (cTV (cT (aCons cI (aOne (cO cI)))))))), sOwn PAny (oL (cL (cT (aCons cI (aOne (cO cI)))))), sOwn PAny (oL cS), sAny, sOwn PAny (oL cI), sVal cI, sAny, sVal (cO (cH (aCons cB (aCons cB (aOne (cDat 0)))))), sAny, sVal cI, sOwn PAny (oL cS), sOwn PAny (oL cS)]) (G2 := [sOwn (fun v => v = v0) (oL cI), sVal (cL cS), sVal (cL (cL (cT (aCons cI (aOne (cO cI)))))), sOwn PAny (oL cS), sVal cI, sVal (cIns A_Service (fSnoc (fSnoc fNil "kept_names" (cTN cS)) "kept_table" (cTV (cTV (cT (aCons cI (aOne (cO cI)))))))), sOwn PAny (oL (cL (cT (aCons cI (aOne (cO cI)))))), sOwn PAny (oL cS), sAny, sOwn PAny (oL cI), sVal cI, sAny, sVal (cO (cH (aCons cB (aCons cB (aOne (cDat 0)))))), sAny, sVal cI, sOwn PAny (oL cS), sOwn PAny (oL cS)]) (rix_t (rex_sub (sub_ttv (by decide)) (rex_tup (hn := Nat.le_of_ble_eq_true (by rfl)) (rax_consA rex_int (rax_consA rex_int (rax_consA rex_int (rax_nilA (c := cI)))))))) (gx_name (up_s (up_s (up_s (up_s (up_s (up_s (up_s (up_s (up_s (up_s up_z)))))))))) (by rfl) (by first | exact Or.inl rfl | exact Or.inr rfl) (by exact trivial) (by first | exact Or.inl rfl | exact Or.inr rfl)) ?g193 (sc_same (sc_same (sc_same (sc_same (sc_same (sc_same (sc_same (sc_same (sc_same (sc_same (sc_any sc_id)))))))))))
                                case g193 =>
                                  refine' bx_one ?_
                                  refine' sx_if (G' := [sOwn (fun v => v = v0) (oL cI), sVal (cL cS), sVal (cL (cL (cT (aCons cI (aOne (cO cI)))))), sOwn PAny (oL cS), sVal cI, sVal (cIns A_Service (fSnoc (fSnoc fNil "kept_names" (cTN cS)) "kept_table" (cTV (cTV (cT (aCons cI (aOne (cO cI)))))))), sOwn PAny (oL (cL (cT (aCons cI (aOne (cO cI)))))), sOwn PAny (oL cS), sAny, sOwn PAny (oL cI), sVal cI, sAny, sVal (cO (cH (aCons cB (aCons cB (aOne (cDat 0)))))), sAny, sVal cI, sOwn PAny (oL cS), sOwn PAny (oL cS)]) (rtx_w (rwx_or (rtx_cmp ot_neW (rex_lend (S := [7]) (T := [6]) (ln_hold (ho_l hd_i) (by decide) (by decide) (ln_val (ln_val (ln_hold (ho_l hd_s) (by decide) (by decide) (ln_val (ln_val (ln_hide (by decide) (ln_own frz_l (by decide) (ln_any (ln_hold (ho_l hd_i) (by decide) (by decide) (ln_val (ln_any (ln_val (ln_any (ln_val (ln_hold (ho_l hd_s) (by decide) (by decide) (ln_hold (ho_l hd_s) (by decide) (by decide) ln_nil))))))))))))))))) (rh_v hd_w) (rex_callB (ct_reprO (dc_h (da_cons dc_b (da_cons dc_b (da_one (dc_dat (n := 0)))))) (by decide) rf_h) (by rfl) (by exact M_repr) (by decide +kernel) (rax_one (rex_cal D__law_caught (Nat.le_of_ble_eq_true (by rfl)) (by rfl) rtv (rax_cons (rex_var (at_s (at_s (at_s (at_s (at_s (at_s (at_s (at_s (at_s (at_s at_z)))))))))) (by rfl) (by first | exact Or.inl rfl | exact Or.inr (Or.inl rfl) | exact Or.inr (Or.inr rfl))) (rax_cons (rex_var (at_s (at_s (at_s (at_s (at_s at_z))))) (by rfl) (by first | exact Or.inl rfl | exact Or.inr (Or.inl rfl) | exact Or.inr (Or.inr rfl))) (rax_cons (rex_var (at_s (at_s (at_s (at_s (at_s (at_s (at_s at_z))))))) (by rfl) (by first | exact Or.inl rfl | exact Or.inr (Or.inl rfl) | exact Or.inr (Or.inr rfl))) (rax_one (rex_var (at_s (at_s (at_s (at_s (at_s (at_s (at_s (at_s (at_s (at_s (at_s (at_s (at_s (at_s at_z)))))))))))))) (by rfl) (by first | exact Or.inl rfl | exact Or.inr (Or.inl rfl) | exact Or.inr (Or.inr rfl))))))))))) (rex_callB (ct_reprO (dc_h (da_cons dc_b (da_cons dc_b (da_one (dc_dat (n := 0)))))) (by decide) rf_h) (by rfl) (by exact M_repr) (by decide +kernel) (rax_one (rex_var (at_s (at_s (at_s (at_s (at_s (at_s (at_s (at_s (at_s (at_s (at_s (at_s at_z)))))))))))) (by rfl) (by first | exact Or.inl rfl | exact Or.inr (Or.inl rfl) | exact Or.inr (Or.inr rfl))))) (by rfl)) (rwx_or1 (rtx_lend (S := [7, 15]) (T := [6]) (ln_hold (ho_l hd_i) (by decide) (by decide) (ln_val (ln_val (ln_hold (ho_l hd_s) (by decide) (by decide) (ln_val (ln_val (ln_hide (by decide) (ln_own frz_l (by decide) (ln_any (ln_hold (ho_l hd_i) (by decide) (by decide) (ln_val (ln_any (ln_val (ln_any (ln_val (ln_own frz_l (by decide) (ln_hold (ho_l hd_s) (by decide) (by decide) ln_nil))))))))))))))))) (rtx_cmp (ot_neD (dc_l dc_s) (dc_l dc_s) (by decide) (by decide)) (rex_var (at_s (at_s (at_s (at_s (at_s (at_s (at_s at_z))))))) (by rfl) (by first | exact Or.inl rfl | exact Or.inr (Or.inl rfl) | exact Or.inr (Or.inr rfl))) (rex_var (at_s (at_s (at_s (at_s (at_s (at_s (at_s (at_s (at_s (at_s (at_s (at_s (at_s (at_s (at_s at_z))))))))))))))) (by rfl) (by first | exact Or.inl rfl | exact Or.inr (Or.inl rfl) | exact Or.inr (Or.inr rfl))) (by rfl)))))) ?g191 ?g192
                                  case g191 =>
                                    refine' bx_one ?_
                                    exact sx_retI at_z rex_bool
                                  case g192 =>
                                    exact bx_nil
                              case g205 =>
                                refine' bx_cons (G1 := [sOwn (fun v => v = v0) (oL cI), sVal (cL cS), sVal (cL (cL (cT (aCons cI (aOne (cO cI)))))), sOwn PAny (oL cS), sVal cI, sVal (cIns A_Service (fSnoc (fSnoc fNil "kept_names" (cTN cS)) "kept_table" (cTV (cTV (cT (aCons cI (aOne (cO cI)))))))), sOwn PAny (oL (cL (cT (aCons cI (aOne (cO cI)))))), sOwn PAny (oL cS), sAny, sOwn PAny (oL cI), sAny, sVal cS, sVal (cO (cH (aCons cB (aCons cB (aOne (cDat 0)))))), sAny, sVal cI, sOwn PAny (oL cS), sOwn PAny (oL cS)]) ?g202 ?g203
                                case g202 =>
                                  exact sx_set (up_s (up_s (up_s (up_s (up_s (up_s (up_s (up_s (up_s (up_s (up_s up_z))))))))))) (by rfl) (by first | exact Or.inl rfl | exact Or.inr rfl) (ex_ixL (rex_frz frz_l (rex_lend (S := [3]) (T := [6]) (ln_hold (ho_l hd_i) (by decide) (by decide) (ln_val (ln_val (ln_own frz_l (by decide) (ln_val (ln_val (ln_hide (by decide) (ln_hold (ho_l hd_s) (by decide) (by decide) (ln_any (ln_hold (ho_l hd_i) (by decide) (by decide) (ln_any (ln_any (ln_val (ln_any (ln_val (ln_hold (ho_l hd_s) (by decide) (by decide) (ln_hold (ho_l hd_s) (by decide) (by decide) ln_nil))))))))))))))))) (rh_o (ho_l hd_s)) (rex_op ot_cat (rex_var (at_s (at_s (at_s at_z))) (by rfl) (by first | exact Or.inl rfl | exact Or.inr (Or.inl rfl) | exact Or.inr (Or.inr rfl))) (rex_var (at_s at_z) (by rfl) (by first | exact Or.inl rfl | exact Or.inr (Or.inl rfl) | exact Or.inr (Or.inr rfl)))))) (ex_calI at_z md_z D__law_toss (Nat.le_of_ble_eq_true (by rfl)) (by rfl) rtvI (by rfl) (by first | exact Or.inl rfl | exact Or.inr (Or.inl rfl) | exact Or.inr (Or.inr rfl)) (rax_one (rex_op ot_add (rex_lend (S := [3]) (T := [6]) (ln_hold (ho_l hd_i) (by decide) (by decide) (ln_val (ln_val (ln_own frz_l (by decide) (ln_val (ln_val (ln_hide (by decide) (ln_hold (ho_l hd_s) (by decide) (by decide) (ln_any (ln_hold (ho_l hd_i) (by decide) (by decide) (ln_any (ln_any (ln_val (ln_any (ln_val (ln_hold (ho_l hd_s) (by decide) (by decide) (ln_hold (ho_l hd_s) (by decide) (by decide) ln_nil))))))))))))))))) (rh_v hd_i) (rex_callB ct_lenL (by rfl) (by exact M_len) (by decide +kernel) (rax_one (rex_var (at_s (at_s (at_s at_z))) (by rfl) (by first | exact Or.inl rfl | exact Or.inr (Or.inl rfl) | exact Or.inr (Or.inr rfl)))))) (rex_callB ct_lenL (by rfl) (by exact M_len) (by decide +kernel) (rax_one (rex_var (at_s at_z) (by rfl) (by first | exact Or.inl rfl | exact Or.inr (Or.inl rfl) | exact Or.inr (Or.inr rfl)))))))) (by intro _ _; rfl)) (by exact trivial) (by rfl) (by first | exact Or.inl rfl | exact Or.inr rfl)
                                case g203 =>
                                  refine' bx_cons (G1 := [sOwn (fun v => v = v0) (oL cI), sVal (cL cS), sVal (cL (cL (cT (aCons cI (aOne (cO cI)))))), sOwn PAny (oL cS), sVal cI, sVal (cIns A_Service (fSnoc (fSnoc fNil "kept_names" (cTN cS)) "kept_table" (cTV (cTV (cT (aCons cI (aOne (cO cI)))))))), sOwn PAny (oL (cL (cT (aCons cI (aOne (cO cI)))))), sOwn PAny (oL cS), sAny, sOwn PAny (oL cI), sAny, sVal cS, sVal (cO (cH (aCons cB (aCons cB (aOne (cDat 0)))))), sAny, sVal cI, sOwn PAny (oL cS), sOwn PAny (oL cS)]) ?g200 ?g201
                                  case g200 =>
                                    exact sx_set (up_s (up_s (up_s (up_s (up_s (up_s (up_s (up_s (up_s (up_s (up_s (up_s up_z)))))))))))) (by rfl) (by first | exact Or.inl rfl | exact Or.inr rfl) (rex_if (rtx_lend (S := [3]) (T := [6]) (ln_hold (ho_l hd_i) (by decide) (by decide) (ln_val (ln_val (ln_own frz_l (by decide) (ln_val (ln_val (ln_hide (by decide) (ln_hold (ho_l hd_s) (by decide) (by decide) (ln_any (ln_hold (ho_l hd_i) (by decide) (by decide) (ln_any (ln_val (ln_val (ln_any (ln_val (ln_hold (ho_l hd_s) (by decide) (by decide) (ln_hold (ho_l hd_s) (by decide) (by decide) ln_nil))))))))))))))))) (rtx_cmp (ot_inLF fq_s) (rex_var (at_s (at_s (at_s (at_s (at_s (at_s (at_s (at_s (at_s (at_s (at_s at_z))))))))))) (by rfl) (by first | exact Or.inl rfl | exact Or.inr (Or.inl rfl) | exact Or.inr (Or.inr rfl))) (rex_var (at_s (at_s (at_s at_z))) (by rfl) (by first | exact Or.inl rfl | exact Or.inr (Or.inl rfl) | exact Or.inr (Or.inr rfl))) (by rfl))) (rex_sub sub_some (rex_hlist (rax_cons rex_bool (rax_cons rex_bool (rax_one (rex_sub (sub_datm dc_s (by decide)) (rex_var (at_s (at_s (at_s (at_s (at_s (at_s (at_s (at_s (at_s (at_s (at_s at_z))))))))))) (by rfl) (by first | exact Or.inl rfl | exact Or.inr (Or.inl rfl) | exact Or.inr (Or.inr rfl))))))))) (rex_sub (sub_none (c := (cH (aCons cB (aCons cB (aOne (cDat 0))))))) rex_none)) (by exact trivial) (by rfl) (by first | exact Or.inl rfl | exact Or.inr rfl)
                                  case g201 =>
                                    refine' bx_cons (G1 := [sOwn (fun v => v = v0) (oL cI), sVal (cL cS), sVal (cL (cL (cT (aCons cI (aOne (cO cI)))))), sOwn PAny (oL cS), sVal cI, sVal (cIns A_Service (fSnoc (fSnoc fNil "kept_names" (cTN cS)) "kept_table" (cTV (cTV (cT (aCons cI (aOne (cO cI)))))))), sOwn PAny (oL (cL (cT (aCons cI (aOne (cO cI)))))), sOwn PAny (oL cS), sAny, sOwn PAny (oL cI), sAny, sVal cS, sVal (cO (cH (aCons cB (aCons cB (aOne (cDat 0)))))), sAny, sVal cI, sOwn PAny (oL cS), sOwn PAny (oL cS)]) ?g198 ?g199
                                    case g198 =>
                                      refine' sx_if (G' := [sOwn (fun v => v = v0) (oL cI), sVal (cL cS), sVal (cL (cL (cT (aCons cI (aOne (cO cI)))))), sOwn PAny (oL cS), sVal cI, sVal (cIns A_Service (fSnoc (fSnoc fNil "kept_names" (cTN cS)) "kept_table" (cTV (cTV (cT (aCons cI (aOne (cO cI)))))))), sOwn PAny (oL (cL (cT (aCons cI (aOne (cO cI)))))), sOwn PAny (oL cS), sAny, sOwn PAny (oL cI), sAny, sVal cS, sVal (cO (cH (aCons cB (aCons cB (aOne (cDat 0)))))), sAny, sVal cI, sOwn PAny (oL cS), sOwn PAny (oL cS)]) (rtx_cmp ot_neW (rex_callB (ct_reprO (dc_h (da_cons dc_b (da_cons dc_b (da_one (dc_dat (n := 0)))))) (by decide) rf_h) (by rfl) (by exact M_repr) (by decide +kernel) (rax_one (rex_cal D__law_caught_o_t (Nat.le_of_ble_eq_true (by rfl)) (by rfl) rtv (rax_cons rex_int (rax_cons (rex_var (at_s (at_s (at_s (at_s (at_s at_z))))) (by rfl) (by first | exact Or.inl rfl | exact Or.inr (Or.inl rfl) | exact Or.inr (Or.inr rfl))) (rax_cons (rex_var (at_s (at_s (at_s (at_s (at_s (at_s (at_s (at_s (at_s (at_s (at_s at_z))))))))))) (by rfl) (by first | exact Or.inl rfl | exact Or.inr (Or.inl rfl) | exact Or.inr (Or.inr rfl))) (rax_one rex_int))))))) (rex_callB (ct_reprO (dc_h (da_cons dc_b (da_cons dc_b (da_one (dc_dat (n := 0)))))) (by decide) rf_h) (by rfl) (by exact M_repr) (by decide +kernel) (rax_one (rex_var (at_s (at_s (at_s (at_s (at_s (at_s (at_s (at_s (at_s (at_s (at_s (at_s at_z)))))))))))) (by rfl) (by first | exact Or.inl rfl | exact Or.inr (Or.inl rfl) | exact Or.inr (Or.inr rfl))))) (by rfl)) ?g194 ?g195
                                      case g194 =>
                                        refine' bx_one ?_
                                        exact sx_retI at_z rex_bool
                                      case g195 =>
                                        exact bx_nil
                                    case g199 =>
                                      refine' bx_one ?_
                                      refine' sx_if (G' := [sOwn (fun v => v = v0) (oL cI), sVal (cL cS), sVal (cL (cL (cT (aCons cI (aOne (cO cI)))))), sOwn PAny (oL cS), sVal cI, sVal (cIns A_Service (fSnoc (fSnoc fNil "kept_names" (cTN cS)) "kept_table" (cTV (cTV (cT (aCons cI (aOne (cO cI)))))))), sOwn PAny (oL (cL (cT (aCons cI (aOne (cO cI)))))), sOwn PAny (oL cS), sAny, sOwn PAny (oL cI), sAny, sVal cS, sVal (cO (cH (aCons cB (aCons cB (aOne (cDat 0)))))), sAny, sVal cI, sOwn PAny (oL cS), sOwn PAny (oL cS)]) (tx_w (wx_and (rtx_lend (S := [16]) (T := [6]) (ln_hold (ho_l hd_i) (by decide) (by decide) (ln_val (ln_val (ln_hold (ho_l hd_s) (by decide) (by decide) (ln_val (ln_val (ln_hide (by decide) (ln_hold (ho_l hd_s) (by decide) (by decide) (ln_any (ln_hold (ho_l hd_i) (by decide) (by decide) (ln_any (ln_val (ln_val (ln_any (ln_val (ln_hold (ho_l hd_s) (by decide) (by decide) (ln_own frz_l (by decide) ln_nil))))))))))))))))) (rtx_cmp (ot_neD (dc_l dc_s) (dc_l dc_s) (by decide) (by decide)) (rex_var (at_s (at_s (at_s (at_s (at_s (at_s (at_s (at_s (at_s (at_s (at_s (at_s (at_s (at_s (at_s (at_s at_z)))))))))))))))) (by rfl) (by first | exact Or.inl rfl | exact Or.inr (Or.inl rfl) | exact Or.inr (Or.inr rfl))) (rex_frz frz_l (rex_list (c := cS) rax_nilA)) (by rfl))) (wx_and (rtx_chain ot_le ot_lt rex_int (rex_var (at_s (at_s (at_s (at_s (at_s (at_s (at_s (at_s (at_s (at_s (at_s (at_s (at_s (at_s at_z)))))))))))))) (by rfl) (by first | exact Or.inl rfl | exact Or.inr (Or.inl rfl) | exact Or.inr (Or.inr rfl))) (rex_lend (S := [6]) (T := []) (ln_hold (ho_l hd_i) (by decide) (by decide) (ln_val (ln_val (ln_hold (ho_l hd_s) (by decide) (by decide) (ln_val (ln_val (ln_own frz_l (by decide) (ln_hold (ho_l hd_s) (by decide) (by decide) (ln_any (ln_hold (ho_l hd_i) (by decide) (by decide) (ln_any (ln_val (ln_val (ln_any (ln_val (ln_hold (ho_l hd_s) (by decide) (by decide) (ln_hold (ho_l hd_s) (by decide) (by decide) ln_nil))))))))))))))))) (rh_v hd_i) (rex_callB ct_lenL (by rfl) (by exact M_len) (by decide +kernel) (rax_one (rex_var (at_s (at_s (at_s (at_s (at_s (at_s at_z)))))) (by rfl) (by first | exact Or.inl rfl | exact Or.inr (Or.inl rfl) | exact Or.inr (Or.inr rfl)))))) (by rfl)) (wx_and1 (tx_not (tx_val (ex_lend (S := [6]) (T := []) (ln_hold (ho_l hd_i) (by decide) (by decide) (ln_val (ln_val (ln_hold (ho_l hd_s) (by decide) (by decide) (ln_val (ln_val (ln_own frz_l (by decide) (ln_hold (ho_l hd_s) (by decide) (by decide) (ln_any (ln_hold (ho_l hd_i) (by decide) (by decide) (ln_any (ln_val (ln_val (ln_any (ln_val (ln_hold (ho_l hd_s) (by decide) (by decide) (ln_hold (ho_l hd_s) (by decide) (by decide) ln_nil))))))))))))))))) (rh_v hd_b) (ex_calJ (at_s (at_s (at_s (at_s (at_s (at_s (at_s at_z))))))) (md_s (md_s (md_s (md_s (md_s (md_s (md_s md_z))))))) D__law_mended_right (Nat.le_of_ble_eq_true (by rfl)) (by rfl) rtvJ (axj_cons (rex_var (at_s (at_s (at_s (at_s (at_s at_z))))) (by rfl) (by first | exact Or.inl rfl | exact Or.inr (Or.inl rfl) | exact Or.inr (Or.inr rfl))) (axj_cons (rex_var (at_s at_z) (by rfl) (by first | exact Or.inl rfl | exact Or.inr (Or.inl rfl) | exact Or.inr (Or.inr rfl))) (axj_one (rex_var (at_s (at_s (at_s (at_s (at_s (at_s at_z)))))) (by rfl) (by first | exact Or.inl rfl | exact Or.inr (Or.inl rfl) | exact Or.inr (Or.inr rfl))) (paj (by rfl) (by first | exact Or.inl rfl | exact Or.inr (Or.inl rfl) | exact Or.inr (Or.inr rfl)) (rax_one (rex_var (at_s (at_s (at_s (at_s (at_s (at_s (at_s (at_s (at_s (at_s (at_s (at_s (at_s (at_s at_z)))))))))))))) (by rfl) (by first | exact Or.inl rfl | exact Or.inr (Or.inl rfl) | exact Or.inr (Or.inr rfl)))))))))))))))) ?g196 ?g197
                                      case g196 =>
                                        refine' bx_one ?_
                                        exact sx_retI at_z rex_bool
                                      case g197 =>
                                        exact bx_nil
              case g220 =>
                refine' bx_one ?_
                exact sx_retI at_z (rex_cmp (ot_eqOwn MET_Service___eq__ (Nat.le_of_ble_eq_true (by rfl))) (rex_var (at_s (at_s (at_s (at_s (at_s at_z))))) (by rfl) (by first | exact Or.inl rfl | exact Or.inr (Or.inl rfl) | exact Or.inr (Or.inr rfl))) (rex_lend (S := [6]) (T := []) (ln_hold (ho_l hd_i) (by decide) (by decide) (ln_val (ln_val (ln_hold (ho_l hd_s) (by decide) (by decide) (ln_any (ln_val (ln_own frz_l (by decide) (ln_any (ln_any (ln_any (ln_any (ln_any (ln_any (ln_any (ln_any (ln_any (ln_any ln_nil))))))))))))))))) (rh_v (hd_ins (hf_snoc (hf_snoc hf_nil (hd_tn hd_s)) (hd_tv (hd_tv (hd_t (ha_cons hd_i (ha_one (hd_o hd_i))))))))) (rex_cal D__law_built (Nat.le_of_ble_eq_true (by rfl)) (by rfl) rtv (rax_cons (rex_var (at_s at_z) (by rfl) (by first | exact Or.inl rfl | exact Or.inr (Or.inl rfl) | exact Or.inr (Or.inr rfl))) (rax_one (rex_var (at_s (at_s (at_s (at_s (at_s (at_s at_z)))))) (by rfl) (by first | exact Or.inl rfl | exact Or.inr (Or.inl rfl) | exact Or.inr (Or.inr rfl))))))) (by rfl))⟩
def F__law_fits (k : (List Int)) (y : Unit) : Res (Bool × (List Int)) := Res.bind ((fb__law_fits 0 ).1 .non (k, ((), ((), ((), ((), ((), ((), ((), ((), ((), ((), ((), ((), ((), ((), ((), ((), ())))))))))))))))))) endV
theorem okF__law_fits {P : Program} {w : World} {K : Frag} {mg : Str → Option Value} {base : Heap} {ca : Str → Addr} {fa : Addr} {dvs : List V} {kws : List (Str × V)} {fd : FuncData} {A_Service : Addr} (F0 : FunD K "_law_fits" "_law_fits" (defArgs s__law_fits) (defBody s__law_fits) (defScope s__law_fits) dvs kws fa fd) (D__law_tags : DefG P w K mg base 2 "_law_tags" ["kit", "many"] (spI K ca (oL cI) (aOne cI) (rV (cL cS)) F__law_tags)) (D__law_toss : DefG P w K mg base 1 "_law_toss" ["kit", "many"] (spI K ca (oL cI) (aOne cI) (rV cI) F__law_toss)) (D__law_grid : DefG P w K mg base 4 "_law_grid" ["kit", "many", "count"] (spI K ca (oL cI) (aCons cI (aOne cI)) (rV (cL (cL (cT (aCons cI (aOne (cO cI))))))) F__law_grid)) (M_len : mg "len" = none) (D__law_built : DefG P w K mg base 6 "_law_built" ["names_here", "grid"] (spP K ca (aCons (cL cS) (aOne (cL (cL (cT (aCons cI (aOne (cO cI)))))))) (rV (cIns A_Service (fSnoc (fSnoc fNil "kept_names" (cTN cS)) "kept_table" (cTV (cTV (cT (aCons cI (aOne (cO cI))))))))) F__law_built)) (D__law_walked : DefG P w K mg base 1 "_law_walked" ["grid"] (spP K ca (aOne (cL (cL (cT (aCons cI (aOne (cO cI))))))) (rO (oL (cL (cT (aCons cI (aOne (cO cI))))))) F__law_walked)) (M_range : mg "range" = none) (M_list : mg "list" = none) (D__law_caught : DefG P w K mg base 5 "_law_caught" ["way", "made", "line", "at"] (spP K ca (aCons cI (aCons (cIns A_Service (fSnoc (fSnoc fNil "kept_names" (cTN cS)) "kept_table" (cTV (cTV (cT (aCons cI (aOne (cO cI)))))))) (aCons (cL cS) (aOne cI)))) (rV (cO (cH (aCons cB (aCons cB (aOne (cDat 0))))))) F__law_caught)) (M_repr : mg "repr" = none) (D__law_caught_o_t : DefG P w K mg base 5 "_law_caught" ["way", "made", "line", "at"] (spP K ca (aCons cI (aCons (cIns A_Service (fSnoc (fSnoc fNil "kept_names" (cTN cS)) "kept_table" (cTV (cTV (cT (aCons cI (aOne (cO cI)))))))) (aCons cS (aOne cI)))) (rV (cO (cH (aCons cB (aCons cB (aOne (cDat 0))))))) F__law_caught_o_t)) (D__law_mended_right : DefG P w K mg base 4 "_law_mended_right" ["made", "names_here", "least", "line", "at"] (spJ K ca (oL cS) (aCons (cIns A_Service (fSnoc (fSnoc fNil "kept_names" (cTN cS)) "kept_table" (cTV (cTV (cT (aCons cI (aOne (cO cI)))))))) (aCons (cL cS) (aOne (cL (cL (cT (aCons cI (aOne (cO cI))))))))) (aOne cI) (rV cB) F__law_mended_right)) (C_Service : ClsG K mg "Service" A_Service) (MET_Service___eq__ : MetG P w K mg base 1 A_Service "__eq__" ["self", "other"] (spP K ca (aCons (cIns A_Service (fSnoc (fSnoc fNil "kept_names" (cTN cS)) "kept_table" (cTV (cTV (cT (aCons cI (aOne (cO cI)))))))) (aOne (cIns A_Service (fSnoc (fSnoc fNil "kept_names" (cTN cS)) "kept_table" (cTV (cTV (cT (aCons cI (aOne (cO cI)))))))))) (rV cB) F_Service___eq__)) : FnG P w K mg base 7 fa fd ["kit"] (spI K ca (oL cI) aNil (rV cB) F__law_fits) :=
  fn_I (as := aNil) (G1 := [sAny, sAny, sAny, sAny, sAny, sAny, sAny, sAny, sAny, sAny, sAny, sAny, sAny, sAny, sAny, sAny]) (G' := fun v0 => [sOwn (fun v => v = v0) (oL cI), sAny, sAny, sAny, sAny, sAny, sAny, sAny, sAny, sAny, sAny, sAny, sAny, sAny, sAny, sAny, sAny]) (κ := (List Int)) (β := Bool) (oc := (oL cI)) (r := (rV cB)) (ini := (fun y => ((), ((), ((), ((), ((), ((), ((), ((), ((), ((), ((), ((), ((), ((), ((), ((), ())))))))))))))))))) (fb := (fb__law_fits A_Service ).1) F0 sc__law_fits (by rfl) (fun L H v0 ws y wf h => by have h0 : _ = [] := h; subst h0; exact ⟨trivial, trivial, trivial, trivial, trivial, trivial, trivial, trivial, trivial, trivial, trivial, trivial, trivial, trivial, trivial, trivial, Nat.le_of_ble_eq_true (by rfl)⟩) (fun v0 nd cd A outer s H E hr hgd => (fb__law_fits A_Service ).2 D__law_tags D__law_toss D__law_grid M_len D__law_built D__law_walked M_range M_list D__law_caught M_repr D__law_caught_o_t D__law_mended_right C_Service MET_Service___eq__ fa v0 nd cd A outer s H E hr hgd) (fun v0 k y => rfl)
theorem ok__law_fits {P : Program} {w : World} {K : Frag} {mg : Str → Option Value} {base : Heap} {ca : Str → Addr} {fa : Addr} {fd : FuncData} {A_Service : Addr} (F0 : FunD K "_law_fits" "_law_fits" (defArgs s__law_fits) (defBody s__law_fits) (defScope s__law_fits) [] [] fa fd) (D__law_tags : DefG P w K mg base 2 "_law_tags" ["kit", "many"] (spI K ca (oL cI) (aOne cI) (rV (cL cS)) F__law_tags)) (D__law_toss : DefG P w K mg base 1 "_law_toss" ["kit", "many"] (spI K ca (oL cI) (aOne cI) (rV cI) F__law_toss)) (D__law_grid : DefG P w K mg base 4 "_law_grid" ["kit", "many", "count"] (spI K ca (oL cI) (aCons cI (aOne cI)) (rV (cL (cL (cT (aCons cI (aOne (cO cI))))))) F__law_grid)) (M_len : mg "len" = none) (D__law_built : DefG P w K mg base 6 "_law_built" ["names_here", "grid"] (spP K ca (aCons (cL cS) (aOne (cL (cL (cT (aCons cI (aOne (cO cI)))))))) (rV (cIns A_Service (fSnoc (fSnoc fNil "kept_names" (cTN cS)) "kept_table" (cTV (cTV (cT (aCons cI (aOne (cO cI))))))))) F__law_built)) (D__law_walked : DefG P w K mg base 1 "_law_walked" ["grid"] (spP K ca (aOne (cL (cL (cT (aCons cI (aOne (cO cI))))))) (rO (oL (cL (cT (aCons cI (aOne (cO cI))))))) F__law_walked)) (M_range : mg "range" = none) (M_list : mg "list" = none) (D__law_caught : DefG P w K mg base 5 "_law_caught" ["way", "made", "line", "at"] (spP K ca (aCons cI (aCons (cIns A_Service (fSnoc (fSnoc fNil "kept_names" (cTN cS)) "kept_table" (cTV (cTV (cT (aCons cI (aOne (cO cI)))))))) (aCons (cL cS) (aOne cI)))) (rV (cO (cH (aCons cB (aCons cB (aOne (cDat 0))))))) F__law_caught)) (M_repr : mg "repr" = none) (D__law_caught_o_t : DefG P w K mg base 5 "_law_caught" ["way", "made", "line", "at"] (spP K ca (aCons cI (aCons (cIns A_Service (fSnoc (fSnoc fNil "kept_names" (cTN cS)) "kept_table" (cTV (cTV (cT (aCons cI (aOne (cO cI)))))))) (aCons cS (aOne cI)))) (rV (cO (cH (aCons cB (aCons cB (aOne (cDat 0))))))) F__law_caught_o_t)) (D__law_mended_right : DefG P w K mg base 4 "_law_mended_right" ["made", "names_here", "least", "line", "at"] (spJ K ca (oL cS) (aCons (cIns A_Service (fSnoc (fSnoc fNil "kept_names" (cTN cS)) "kept_table" (cTV (cTV (cT (aCons cI (aOne (cO cI)))))))) (aCons (cL cS) (aOne (cL (cL (cT (aCons cI (aOne (cO cI))))))))) (aOne cI) (rV cB) F__law_mended_right)) (C_Service : ClsG K mg "Service" A_Service) (MET_Service___eq__ : MetG P w K mg base 1 A_Service "__eq__" ["self", "other"] (spP K ca (aCons (cIns A_Service (fSnoc (fSnoc fNil "kept_names" (cTN cS)) "kept_table" (cTV (cTV (cT (aCons cI (aOne (cO cI)))))))) (aOne (cIns A_Service (fSnoc (fSnoc fNil "kept_names" (cTN cS)) "kept_table" (cTV (cTV (cT (aCons cI (aOne (cO cI)))))))))) (rV cB) F_Service___eq__)) (hm : mg "_law_fits" = some (.ref fa)) : DefG P w K mg base 7 "_law_fits" ["kit"] (spI K ca (oL cI) aNil (rV cB) F__law_fits) :=
  ⟨fa, fd, okF__law_fits (A_Service := A_Service) F0 D__law_tags D__law_toss D__law_grid M_len D__law_built D__law_walked M_range M_list D__law_caught M_repr D__law_caught_o_t D__law_mended_right C_Service MET_Service___eq__, hm, F0.kp, (F0.bindsN (ps := ["kit"]) fun _ _ _ _ _ _ us hl => match us, hl with | [_], _ => rfl), (kw_binds (ps := ["kit"]) F0 fun _ _ _ _ _ _ us hl => match us, hl with | [_], _ => rfl)⟩
/-! law -/
abbrev s_law : Stmt := top 28
abbrev N_law : List Str := ["script", "place", "kit", "turn"]
theorem sc_law : FnScope N_law ["script"] (defScope s_law) := ⟨rfl, rfl, rfl, by decide +kernel, rfl, by decide +kernel, by decide +kernel⟩
def fb_law (A_Service : Addr) : {fb : CT [sVal (cLK cI), sAny, sAny, sAny] → Res (Out (CT [sVal (cLK cI), sAny, sAny, sAny]) Bool) // ∀ {P : Program} {w : World} {K : Frag} {mg : Str → Option Value} {base : Heap} {ca : Str → Addr} (M_range : mg "range" = none) (M_max : mg "max" = none) (M_min : mg "min" = none) (M_len : mg "len" = none) (D__law_kit : DefG P w K mg base 1 "_law_kit" ["script", "place"] (spP K ca (aCons (cLK cI) (aOne cI)) (rO (oL cI)) F__law_kit)) (D__law_fits : DefG P w K mg base 7 "_law_fits" ["kit"] (spI K ca (oL cI) aNil (rV cB) F__law_fits)) (f : Addr) (nd : N_law.Nodup) cd A outer s H E hr hgd, BX (ambOf P w K mg base ca N_law nd 7 "law" (defScope s_law) f cd A outer s H E hr hgd) [sVal (cLK cI), sAny, sAny, sAny] (defBody s_law) [sVal (cLK cI), sAny, sAny, sAny] (rrP (rV cB)) fb} := ⟨_, by
  intro P w K mg base ca M_range M_max M_min M_len D__law_kit D__law_fits f nd cd A outer s H E hr hgd
  refine' bx_cons (G1 := [sVal (cLK cI), sAny, sAny, sAny]) ?g239 ?g240
  case g239 =>
    refine' sx_for (G1 := [sVal (cLK cI), sVal cI, sAny, sAny]) (G2 := [sVal (cLK cI), sVal cI, sOwn PAny (oL cI), sAny]) (rix_r1 (by rfl) (by exact M_range) (rex_callB ct_max2 (by rfl) (by exact M_max) (by decide +kernel) (rax_cons rex_int (rax_one (rex_callB ct_min2 (by rfl) (by exact M_min) (by decide +kernel) (rax_cons rex_int (rax_one (rex_callB ct_lenK (by rfl) (by exact M_len) (by decide +kernel) (rax_one (rex_var at_z (by rfl) (by first | exact Or.inl rfl | exact Or.inr (Or.inl rfl) | exact Or.inr (Or.inr rfl)))))))))))) (gx_name (up_s up_z) (by rfl) (by first | exact Or.inl rfl | exact Or.inr rfl) (by exact trivial) (by first | exact Or.inl rfl | exact Or.inr rfl)) ?g238 (sc_same (sc_any (sc_any sc_id)))
    case g238 =>
      refine' bx_cons (G1 := [sVal (cLK cI), sVal cI, sOwn PAny (oL cI), sAny]) ?g236 ?g237
      case g236 =>
        exact sx_setO (up_s (up_s up_z)) (by rfl) (by first | exact Or.inl rfl | exact Or.inr rfl) (rex_cal D__law_kit (Nat.le_of_ble_eq_true (by rfl)) (by rfl) rto (rax_cons (rex_var at_z (by rfl) (by first | exact Or.inl rfl | exact Or.inr (Or.inl rfl) | exact Or.inr (Or.inr rfl))) (rax_one (rex_var (at_s at_z) (by rfl) (by first | exact Or.inl rfl | exact Or.inr (Or.inl rfl) | exact Or.inr (Or.inr rfl)))))) (by exact trivial) (by rfl) (by first | exact Or.inl rfl | exact Or.inr rfl)
      case g237 =>
        refine' bx_one ?_
        refine' sx_for (G1 := [sVal (cLK cI), sVal cI, sOwn PAny (oL cI), sVal cI]) (G2 := [sVal (cLK cI), sVal cI, sOwn PAny (oL cI), sVal cI]) (rix_r1 (by rfl) (by exact M_range) rex_int) (gx_name (up_s (up_s (up_s up_z))) (by rfl) (by first | exact Or.inl rfl | exact Or.inr rfl) (by exact trivial) (by first | exact Or.inl rfl | exact Or.inr rfl)) ?g235 (sc_same (sc_same (sc_same (sc_any sc_id))))
        case g235 =>
          refine' bx_one ?_
          refine' sx_if (G' := [sVal (cLK cI), sVal cI, sOwn PAny (oL cI), sVal cI]) (tx_not (tx_val (ex_calI (at_s (at_s at_z)) (md_s (md_s md_z)) D__law_fits (Nat.le_of_ble_eq_true (by rfl)) (by rfl) rtvI (by rfl) (by first | exact Or.inl rfl | exact Or.inr (Or.inl rfl) | exact Or.inr (Or.inr rfl)) rax_nil))) ?g233 ?g234
          case g233 =>
            refine' bx_one ?_
            exact sx_ret rex_bool
          case g234 =>
            exact bx_nil
  case g240 =>
    refine' bx_one ?_
    exact sx_ret rex_bool⟩
def F_law (y : (List Int)) : Res Bool := Res.bind ((fb_law 0 ).1 (y, ((), ((), ((), ()))))) endV
theorem okF_law {P : Program} {w : World} {K : Frag} {mg : Str → Option Value} {base : Heap} {ca : Str → Addr} {fa : Addr} {dvs : List V} {kws : List (Str × V)} {fd : FuncData} {A_Service : Addr} (F0 : FunD K "law" "law" (defArgs s_law) (defBody s_law) (defScope s_law) dvs kws fa fd) (M_range : mg "range" = none) (M_max : mg "max" = none) (M_min : mg "min" = none) (M_len : mg "len" = none) (D__law_kit : DefG P w K mg base 1 "_law_kit" ["script", "place"] (spP K ca (aCons (cLK cI) (aOne cI)) (rO (oL cI)) F__law_kit)) (D__law_fits : DefG P w K mg base 7 "_law_fits" ["kit"] (spI K ca (oL cI) aNil (rV cB) F__law_fits)) : FnG P w K mg base 8 fa fd ["script"] (spP K ca (aOne (cLK cI)) (rV cB) F_law) :=
  fn_P (as := (aOne (cLK cI))) (G0 := [sVal (cLK cI), sAny, sAny, sAny]) (ini := (fun y => (y, ((), ((), ((), ())))))) (fb := (fb_law A_Service ).1) F0 sc_law (by rfl) (fun L H vs y wf h => by obtain ⟨v1, rfl, h1⟩ := h; exact ⟨⟨v1, rfl, h1⟩, trivial, trivial, trivial, Nat.le_of_ble_eq_true (by rfl)⟩) (fun nd cd A outer s H E hr hgd => (fb_law A_Service ).2 M_range M_max M_min M_len D__law_kit D__law_fits fa nd cd A outer s H E hr hgd) (fun y => rfl)
end Pf
set_option Elab.async false
set_option linter.all false
set_option maxRecDepth 100000
/-! TM1: plain laws of results. -/
namespace AC
open PySem L2 PyProof
/-- it ends well, and so -/
def Ok {α : Type} (m : Res α) (P : α → Prop) : Prop := match m with
  | .ok x => P x
  | _ => False
theorem ok_ok {α : Type} {x : α} {P : α → Prop} (h : P x) : Ok (.ok x) P := h
theorem Ok.imp {α : Type} {m : Res α} {P Q : α → Prop} (h : Ok m P) (i : ∀ x, P x → Q x) : Ok m Q := by
  cases m with
  | ok x => exact i x h
  | exc e => exact h
  | bad => exact h
theorem Ok.bind {α β : Type} {m : Res α} {f : α → Res β} {P : β → Prop} (h : Ok m fun x => Ok (f x) P) : Ok (Res.bind m f) P := by
  cases m with
  | ok x => exact h
  | exc e => exact h
  | bad => exact h
theorem ok_bind {α β : Type} {m : Res α} {f : α → Res β} {Q : α → Prop} {P : β → Prop} (h : Ok m Q) (k : ∀ x, Q x → Ok (f x) P) : Ok (Res.bind m f) P := (h.imp k).bind
theorem ok_ofO {α β : Type} {o : Option α} {x : α} {f : α → Res β} {P : β → Prop} (h : o = some x) (k : Ok (f x) P) : Ok (Res.bind (ofO o) f) P := by
  subst h; exact k
theorem Ok.get {α : Type} {m : Res α} {P : α → Prop} (h : Ok m P) : ∃ x, m = .ok x ∧ P x := by
  cases m with
  | ok x => exact ⟨x, rfl, h⟩
  | exc e => exact h.elim
  | bad => exact h.elim
theorem ok_eq {α : Type} {m : Res α} {x : α} (h : Ok m fun y => y = x) : m = .ok x := by
  obtain ⟨y, e, q⟩ := h.get
  rw [e, q]
theorem ok_noexc {α β : Type} {m : Res α} {f : α → Res β} {P : β → Prop} (h : Ok m fun x => Ok (f x) P) : Ok (Res.bind (Res.noexc m) f) P := by
  cases m with
  | ok x => exact h
  | exc e => exact h.elim
  | bad => exact h.elim
/-! equations that are not taken for unfolding -/
theorem bok {α β : Type} (a : α) (f : α → Res β) : Res.bind (.ok a) f = f a := Eq.trans rfl rfl
theorem seqN {β β' ρ : Type} {g : β → Res (Out β' ρ)} {q : β} : Out.seq g (.nx q) = g q := Eq.trans rfl rfl
theorem seqR {β β' ρ : Type} {g : β → Res (Out β' ρ)} {r : ρ} : Out.seq g (.rt r) = .ok (.rt r) := Eq.trans rfl rfl
theorem mapN {β β' ρ : Type} {g : β → β'} {q : β} : (Out.nx q : Out β ρ).map g = .nx (g q) := Eq.trans rfl rfl
theorem mapRt {β β' ρ : Type} {g : β → β'} {r : ρ} : (Out.rt r : Out β ρ).map g = .rt r := Eq.trans rfl rfl
theorem endR {β ρ : Type} {r : ρ} : endV (.rt r : Out β ρ) = .ok r := Eq.trans rfl rfl
theorem ofS {α : Type} {x : α} : ofO (some x) = .ok x := Eq.trans rfl rfl
/-- what a loop leaves -/
def OutP {β ρ : Type} (I : β → Prop) (R : ρ → Prop) : Out β ρ → Prop
  | .nx b => I b
  | .rt r => R r
theorem ok_seq {β β' ρ : Type} {m : Res (Out β ρ)} {g : β → Res (Out β' ρ)} {I : β → Prop} {R : ρ → Prop} {P : Out β' ρ → Prop} (h : Ok m (OutP I R)) (hn : ∀ b, I b → Ok (g b) P) (hr : ∀ r, R r → P (.rt r)) : Ok (Res.bind m (Out.seq g)) P := by
  refine ok_bind h fun y q => ?_
  cases y with
  | nx b => exact hn b q
  | rt r => exact hr r q
/-- for, with an invariant -/
theorem ok_forG {α β ρ : Type} {f : α → β → Res (Out β ρ)} {R : ρ → Prop} : ∀ (xs : List α) (k : Nat) (I : Nat → β → Prop) (b : β), I k b → (∀ i x b, xs[i]? = some x → I (k + i) b → Ok (f x b) (OutP (I (k + i + 1)) R)) → Ok (forL xs f b) (OutP (I (k + xs.length)) R)
  | [], k, I, b, h0, _ => h0
  | x :: xs, k, I, b, h0, hs => by
    refine ok_seq (hs 0 x b rfl h0) (fun b' hb => ?_) fun r hr => hr
    have := ok_forG xs (k + 1) I b' hb fun i y b hy hI => by
      have := hs (i + 1) y b (by simpa using hy) (by rw [show k + (i + 1) = k + 1 + i by omega]; exact hI)
      rw [show k + (i + 1) + 1 = k + 1 + i + 1 by omega] at this
      exact this
    rw [List.length_cons, show k + (xs.length + 1) = k + 1 + xs.length by omega]
    exact this
theorem ok_for {α β ρ : Type} {f : α → β → Res (Out β ρ)} {R : ρ → Prop} {xs : List α} {b : β} (I : Nat → β → Prop) (h0 : I 0 b) (hs : ∀ i x b, xs[i]? = some x → I i b → Ok (f x b) (OutP (I (i + 1)) R)) : Ok (forL xs f b) (OutP (I xs.length) R) := by
  have := ok_forG xs 0 I b h0 fun i x b hx hI => by
    rw [Nat.zero_add] at hI ⊢
    exact hs i x b hx hI
  rw [Nat.zero_add] at this
  exact this
/-- [.. for ..], with an invariant -/
theorem ok_mapG {α β γ : Type} {f : α → β → Res (γ × β)} {Q : Nat → γ → Prop} : ∀ (xs : List α) (k : Nat) (I : Nat → β → Prop) (b : β), I k b → (∀ i x b, xs[i]? = some x → I (k + i) b → Ok (f x b) fun r => Q (k + i) r.1 ∧ I (k + i + 1) r.2) →
    Ok (mapR xs f b) fun z => z.1.length = xs.length ∧ (∀ i y, z.1[i]? = some y → Q (k + i) y) ∧ I (k + xs.length) z.2
  | [], k, I, b, h0, _ => ⟨rfl, fun i y e => by simp at e, h0⟩
  | x :: xs, k, I, b, h0, hs => by
    refine ok_noexc ((hs 0 x b rfl h0).imp fun r hr => ?_)
    have := ok_mapG (Q := Q) xs (k + 1) I r.2 hr.2 fun i y b hy hI => by
      have := hs (i + 1) y b (by simpa using hy) (by rw [show k + (i + 1) = k + 1 + i by omega]; exact hI)
      rw [show k + (i + 1) = k + 1 + i by omega] at this
      exact this
    refine ok_bind this fun z hz => ⟨by show (r.1 :: z.1).length = _; rw [List.length_cons, List.length_cons, hz.1], fun i y e => ?_, ?_⟩
    · cases i with
      | zero =>
        have e : r.1 = y := by simpa using e
        rw [← e]; exact hr.1
      | succ i =>
        have := hz.2.1 i y (by simpa using e)
        rw [show k + 1 + i = k + (i + 1) by omega] at this
        exact this
    · rw [List.length_cons, show k + (xs.length + 1) = k + 1 + xs.length by omega]
      exact hz.2.2
theorem ok_map {α β γ : Type} {f : α → β → Res (γ × β)} {xs : List α} {b : β} (I : Nat → β → Prop) (Q : Nat → γ → Prop) (h0 : I 0 b) (hs : ∀ i x b, xs[i]? = some x → I i b → Ok (f x b) fun r => Q i r.1 ∧ I (i + 1) r.2) :
    Ok (mapR xs f b) fun z => z.1.length = xs.length ∧ (∀ i y, z.1[i]? = some y → Q i y) ∧ I xs.length z.2 := by
  have := ok_mapG (Q := Q) xs 0 I b h0 fun i x b hx hI => by
    rw [Nat.zero_add] at hI ⊢
    exact hs i x b hx hI
  simp only [Nat.zero_add] at this
  exact this
/-- while, with a measure -/
theorem ok_whileN {β ρ : Type} {c : β → Res (Bool × β)} {f : β → Res (Out β ρ)} {R : ρ → Prop} {E : β → Prop} (I : Nat → β → Prop) : ∀ (n k : Nat) (b : β), I k b → k < n → (∀ k b, I k b → Ok (c b) fun t => (t.1 = true → Ok (f t.2) (OutP (fun b' => ∃ k', k' < k ∧ I k' b') R)) ∧ (t.1 = false → E t.2)) → Ok (whileN c f n b) (OutP E R)
  | 0, k, b, h, hk, _ => by omega
  | n + 1, k, b, h, hk, hs => by
    refine ok_bind (hs k b h) fun t ht => ?_
    by_cases e : t.1 = true
    · rw [if_pos e]
      exact ok_seq (ht.1 e) (fun b' ⟨k', h1, h2⟩ => ok_whileN I n k' b' h2 (by omega) hs) fun r hr => hr
    · rw [if_neg e]
      exact ht.2 (by simpa using e)
theorem ok_while {β ρ : Type} {c : β → Res (Bool × β)} {f : β → Res (Out β ρ)} {R : ρ → Prop} {E : β → Prop} (I : Nat → β → Prop) (k : Nat) {b : β} (h : I k b) (hk : k < 2 ^ 40) (hs : ∀ k b, I k b → Ok (c b) fun t => (t.1 = true → Ok (f t.2) (OutP (fun b' => ∃ k', k' < k ∧ I k' b') R)) ∧ (t.1 = false → E t.2)) : Ok (whileR c f b) (OutP E R) := by
  unfold whileR
  exact ok_whileN I wfuel k b h hk hs
theorem ofO_some {α : Type} {x : α} : ofO (some x) = .ok x := rfl
/-! ### small facts -/
theorem ixN_nat {n i : Nat} (h : i < n) : ixN n (i : Int) = some i := by
  unfold ixN
  rw [if_pos (by omega), if_pos (by omega)]
  simp
theorem atI_get {α : Type} {xs : List α} {i : Nat} {x : α} (h : xs[i]? = some x) : atI xs (i : Int) = some x := by
  have hl := (List.getElem?_eq_some_iff.mp h).1
  unfold atI
  rw [ixN_nat hl]
  exact h
theorem atI_i {α : Type} {xs : List α} {i : Int} {x : α} (h0 : 0 ≤ i) (h : xs[i.toNat]? = some x) : atI xs i = some x := by
  have := atI_get h
  rwa [Int.toNat_of_nonneg h0] at this
/-- no bits to speak of -/
theorem log2_lt {x : Int} {n : Nat} (h0 : 0 ≤ x) (h : x < 2 ^ n) (hn : 0 < n) : x.natAbs.log2 < n := by
  by_cases hx : x.natAbs = 0
  · rw [hx]; simpa using hn
  · rw [Nat.log2_lt hx]
    have : (x.natAbs : Int) < 2 ^ n := by omega
    exact_mod_cast this
theorem mulO_small {x y : Int} (h1 : -(2 ^ 64) < y) (h2 : y < 2 ^ 64) : mulO x y = some (x * y) := by
  unfold mulO
  rw [if_pos (.inr (.inl (intBits_le_64 h1 h2)))]
theorem mulO_smallL {x y : Int} (h1 : -(2 ^ 64) < x) (h2 : x < 2 ^ 64) : mulO x y = some (x * y) := by
  unfold mulO
  rw [if_pos (.inl (intBits_le_64 h1 h2))]
theorem modO_ok {x y : Int} (h : 0 < y) : modO x y = some (x % y) := by
  unfold modO; rw [if_pos h]
theorem divO_ok {x y : Int} {m : Nat} (h : 0 < y) (hy2 : y < 2 ^ m) (hm : 0 < m) (hl : m < 9000) : divO x y = some (x / y) := by
  unfold divO
  have := log2_lt (by omega) hy2 hm
  rw [if_pos ⟨h, by omega⟩]
theorem appO_ok {α : Type} {xs : List α} {y : α} (h : xs.length < 16777216) : appO xs y = some ((), xs ++ [y]) := by
  unfold appO; rw [if_pos h]
theorem catO_ok {α : Type} {xs ys : List α} (h : xs.length + ys.length ≤ 16777216) : catO xs ys = some (xs ++ ys) := by
  unfold catO; rw [if_pos h]
theorem rng1_ok {n : Nat} (h : n ≤ 16777216) : rng1O (n : Int) = .ok (intsFrom 0 n) := by
  unfold rng1O
  rw [if_pos (by omega)]
  simp
theorem ints_get {n i : Nat} {x : Int} (h : (intsFrom 0 n)[i]? = some x) : x = (i : Int) ∧ i < n := by
  have hl := (List.getElem?_eq_some_iff.mp h).1
  rw [intsFrom_len] at hl
  rw [intsFrom_get hl] at h
  exact ⟨by simpa using h.symm, hl⟩
theorem cut_take {α : Type} {xs : List α} {i : Nat} (h : i ≤ xs.length) : cutL xs none (some (i : Int)) = xs.take i := by
  unfold cutL
  rw [HT.sIx_none, HT.sIx_nat, Nat.min_eq_left h]
  rfl
theorem cut_drop {α : Type} {xs : List α} {i : Nat} (h : i ≤ xs.length) : cutL xs (some (i : Int)) none = xs.drop i := by
  unfold cutL
  rw [HT.sIx_none, HT.sIx_nat, Nat.min_eq_left h]
  exact List.take_of_length_le (by rw [List.length_drop]; omega)
theorem eqv_int {x y : Int} : PyData.eqv (.int x) (.int y) = decide (x = y) := by
  show (x == y) = _
  exact Bool.beq_eq_decide_eq x y
theorem eqv_str {x y : Str} : PyData.eqv (.str x) (.str y) = decide (x = y) := by
  show (x == y) = _
  by_cases h : x = y
  · rw [decide_eq_true h, h]; exact beq_self_eq_true y
  · rw [decide_eq_false h]; exact beq_false_of_ne h
theorem eqv_optI {x y : Option Int} : PyData.eqv (tO .int x) (tO .int y) = decide (x = y) := by
  cases x with
  | none => cases y with
    | none => simp [tO, PyData.eqv]
    | some b => simp [tO, PyData.eqv]
  | some a => cases y with
    | none => simp [tO, PyData.eqv]
    | some b =>
      show PyData.eqv (.int a) (.int b) = _
      rw [eqv_int]
      exact decide_eq_decide.mpr ⟨fun h => by rw [h], fun h => Option.some.inj h⟩
/-- == of data that stands for the values -/
def EqvT {α : Type} (t : α → PyData) : Prop := ∀ x y, PyData.eqv (t x) (t y) = true ↔ x = y
theorem eqvt_int : EqvT PyData.int := fun x y => by rw [eqv_int, decide_eq_true_eq]
theorem eqvt_str : EqvT PyData.str := fun x y => by rw [eqv_str, decide_eq_true_eq]
theorem eqvAll_iff {α : Type} {t : α → PyData} (h : EqvT t) : ∀ {xs ys : List α}, PyData.eqvAll (xs.map t) (ys.map t) = true ↔ xs = ys
  | [], [] => by simp [PyData.eqvAll]
  | [], y :: ys => by simp [PyData.eqvAll]
  | x :: xs, [] => by simp [PyData.eqvAll]
  | x :: xs, y :: ys => by
    rw [List.map_cons, List.map_cons]
    simp only [PyData.eqvAll, Bool.and_eq_true, List.cons.injEq]
    rw [h x y, eqvAll_iff h]
theorem eqvt_list {α : Type} {t : α → PyData} (h : EqvT t) : EqvT fun xs : List α => PyData.list (xs.map t) := fun xs ys => by
  show PyData.eqvAll _ _ = true ↔ _
  exact eqvAll_iff h
theorem eqO_t {α : Type} [DecidableEq α] {t : α → PyData} (h : EqvT t) {x y : α} : eqO t t x y = decide (x = y) := by
  unfold eqO
  by_cases e : x = y
  · rw [decide_eq_true e]; exact (h x y).mpr e
  · rw [decide_eq_false e]
    cases q : PyData.eqv (t x) (t y) with
    | false => rfl
    | true => exact absurd ((h x y).mp q) e
theorem nodup_get {α : Type} : ∀ {xs : List α} {i j : Nat} {x : α}, xs.Nodup → xs[i]? = some x → xs[j]? = some x → i = j
  | [], i, j, x, _, h, _ => by simp at h
  | y :: xs, 0, 0, x, _, _, _ => rfl
  | y :: xs, 0, j + 1, x, nd, h1, h2 => by
    have e : y = x := by simpa using h1
    exact absurd (List.mem_of_getElem? (by simpa using h2 : xs[j]? = some x)) (by rw [← e]; exact (List.nodup_cons.mp nd).1)
  | y :: xs, i + 1, 0, x, nd, h1, h2 => by
    have e : y = x := by simpa using h2
    exact absurd (List.mem_of_getElem? (by simpa using h1 : xs[i]? = some x)) (by rw [← e]; exact (List.nodup_cons.mp nd).1)
  | y :: xs, i + 1, j + 1, x, nd, h1, h2 => congrArg Nat.succ (nodup_get (List.nodup_cons.mp nd).2 (by simpa using h1 : xs[i]? = some x) (by simpa using h2 : xs[j]? = some x))
/-- the place of what stands once -/
theorem idx_at {α : Type} {t : α → PyData} (h : EqvT t) {xs : List α} (nd : xs.Nodup) {i : Nat} {x : α} (hx : xs[i]? = some x) : idxO t t xs x = some (i : Int) := by
  obtain ⟨hi, hv⟩ := List.getElem?_eq_some_iff.mp hx
  have e : xs.findIdx? (fun z => PyData.eqv (t z) (t x)) = some i := by
    rw [List.findIdx?_eq_some_iff_getElem]
    refine ⟨hi, by rw [hv]; exact (h x x).mpr rfl, fun j hj => ?_⟩
    rw [h]
    intro e
    have := nodup_get nd (List.getElem?_eq_some_iff.mpr ⟨by omega, e⟩) hx
    omega
  unfold idxO
  rw [e]
  rfl
/-- what repr shows without trouble -/
structure Shw (n : Nat) (d : PyData) : Prop where
  sh : d.showable = true
  nd : d.hasDict = false
  lv : d.leavesShort 13 = true
  bk : d.bulk ≤ n
theorem Shw.mono {n m : Nat} {d : PyData} (h : Shw n d) (hm : n ≤ m) : Shw m d := ⟨h.sh, h.nd, h.lv, Nat.le_trans h.bk hm⟩
end AC
set_option maxRecDepth 100000
set_option linter.all false
namespace Pf
open PySem L2 PyProof AC
abbrev Row := List (Int × Option Int)
theorem nodup_len {α : Type} [DecidableEq α] : ∀ {l s : List α}, l.Nodup → (∀ x ∈ l, x ∈ s) → l.length ≤ s.length
  | [], s, _, _ => Nat.zero_le _
  | x :: l, s, nd, h => by
    obtain ⟨h1, h2⟩ := List.nodup_cons.mp nd
    have hx := h x List.mem_cons_self
    have := nodup_len (l := l) (s := s.erase x) h2 fun y hy => (List.mem_erase_of_ne (fun e => h1 (by rw [← e]; exact hy))).mpr (h y (List.mem_cons_of_mem _ hy))
    rw [List.length_erase_of_mem hx] at this
    have : 0 < s.length := List.length_pos_of_mem hx
    rw [List.length_cons]; omega
def stp (o : List Int) (z : Int × Option Int) : List Int := if z.1 ∈ o then o else o ++ [z.1]
def grow (o : List Int) (row : Row) : List Int := row.foldl stp o
theorem stp_pre (o : List Int) (z : Int × Option Int) : o <+: stp o z := by
  unfold stp; split
  · exact List.prefix_rfl
  · exact List.prefix_append _ _
theorem grow_pre : ∀ (row : Row) (o : List Int), o <+: grow o row
  | [], o => List.prefix_rfl
  | z :: row, o => (stp_pre o z).trans (grow_pre row (stp o z))
theorem stp_nd {o : List Int} {z : Int × Option Int} (h : o.Nodup) : (stp o z).Nodup := by
  unfold stp; split
  · exact h
  · rename_i hz
    exact List.nodup_append.mpr ⟨h, by simp, fun a ha b hb e => hz (by
      have : b = z.1 := by simpa using hb
      rw [← this, ← e]; exact ha)⟩
theorem grow_nd : ∀ {row : Row} {o : List Int}, o.Nodup → (grow o row).Nodup
  | [], o, h => h
  | z :: row, o, h => grow_nd (row := row) (stp_nd h)
theorem stp_mem {o : List Int} {z : Int × Option Int} {P : Int → Prop} (h : ∀ x ∈ o, P x) (hz : P z.1) : ∀ x ∈ stp o z, P x := by
  unfold stp; split
  · exact h
  · intro x hx
    rcases List.mem_append.mp hx with q | q
    · exact h x q
    · have : x = z.1 := by simpa using q
      rw [this]; exact hz
theorem grow_mem {P : Int → Prop} : ∀ {row : Row} {o : List Int}, (∀ x ∈ o, P x) → (∀ z ∈ row, P z.1) → ∀ x ∈ grow o row, P x
  | [], o, h, _ => h
  | z :: row, o, h, hr => grow_mem (row := row) (stp_mem h (hr z List.mem_cons_self)) fun y hy => hr y (List.mem_cons_of_mem _ hy)
theorem grow_has : ∀ {row : Row} {o : List Int} {z : Int × Option Int}, z ∈ row → z.1 ∈ grow o row
  | y :: row, o, z, h => by
    rcases List.mem_cons.mp h with rfl | h
    · refine (grow_pre row _).subset ?_
      unfold stp; split
      · assumption
      · exact List.mem_append_right _ List.mem_cons_self
    · exact grow_has (row := row) h
theorem grow_snoc {row : Row} {o : List Int} {z : Int × Option Int} : grow o (row ++ [z]) = stp (grow o row) z := by
  unfold grow
  rw [List.foldl_append]
  rfl
/-- goals counted up as they come -/
def scan : Nat → Row → Option Nat
  | c, [] => some c
  | c, z :: row => if 0 ≤ z.1 ∧ z.1 < (c : Int) then scan c row else if z.1 = (c : Int) then scan (c + 1) row else none
/-- the places of F -/
theorem scan_grow {F : List Int} {ix : Int → Int} (hix : ∀ (i : Nat) g, F[i]? = some g → ix g = (i : Int)) : ∀ {row : Row} {o : List Int}, grow o row <+: F → scan o.length (row.map fun z => (ix z.1, z.2)) = some (grow o row).length
  | [], o, _ => rfl
  | z :: row, o, h => by
    have h1 : stp o z <+: F := (grow_pre row _).trans h
    have ih := scan_grow hix (row := row) (o := stp o z) h
    have at_ : ∀ (l : List Int), l <+: F → ∀ (i : Nat) g, l[i]? = some g → F[i]? = some g := fun l ⟨t, ht⟩ i g hg => by
      rw [← ht, List.getElem?_append_left (List.getElem?_eq_some_iff.mp hg).1]
      exact hg
    rw [List.map_cons]
    unfold scan
    dsimp only
    by_cases hm : z.1 ∈ o
    · have e : stp o z = o := by unfold stp; rw [if_pos hm]
      obtain ⟨i, hi, e2⟩ := List.mem_iff_getElem.mp hm
      have := hix i z.1 (at_ o ((stp_pre o z).trans h1) i z.1 (List.getElem?_eq_some_iff.mpr ⟨hi, e2⟩))
      rw [this, if_pos (by omega)]
      rw [e] at ih
      rw [ih]
      show _ = some (grow (stp o z) row).length
      rw [e]
    · have e : stp o z = o ++ [z.1] := by unfold stp; rw [if_neg hm]
      have := hix o.length z.1 (at_ _ h1 o.length z.1 (by rw [e, List.getElem?_append_right (Nat.le_refl _)]; simp))
      rw [this, if_neg (by omega), if_pos rfl]
      rw [e, List.length_append, List.length_singleton] at ih
      rw [ih]
      show _ = some (grow (stp o z) row).length
      rw [e]
/-- rows whose states are numbered as they are met -/
structure Canon (rows : List Row) : Prop where
  ex : ∃ cs : Nat → Nat, cs 0 = 1 ∧ (∀ i row, rows[i]? = some row → i < cs i ∧ scan (cs i) row = some (cs (i + 1))) ∧ cs rows.length = rows.length
structure GoodTab (n : Nat) (m : Nat) (tab : List Row) : Prop where
  len : tab.length = n
  row : ∀ r ∈ tab, r.length = m ∧ ∀ z ∈ r, 0 ≤ z.1 ∧ z.1 < (n : Int)
def rowOf (tab : List Row) (s : Int) : Row := (tab[s.toNat]?).getD []
def ords (tab : List Row) : Nat → List Int
  | 0 => [0]
  | j + 1 => match (ords tab j)[j]? with
    | some s => grow (ords tab j) (rowOf tab s)
    | none => ords tab j
theorem ords_pre1 (tab : List Row) (j : Nat) : ords tab j <+: ords tab (j + 1) := by
  show _ <+: (match (ords tab j)[j]? with
    | some s => grow (ords tab j) (rowOf tab s)
    | none => ords tab j)
  split
  · exact grow_pre _ _
  · exact List.prefix_rfl
theorem ords_pre (tab : List Row) {i j : Nat} (h : i ≤ j) : ords tab i <+: ords tab j := by
  induction j with
  | zero => rw [show i = 0 by omega]; exact List.prefix_rfl
  | succ j ih =>
    by_cases e : i = j + 1
    · rw [e]; exact List.prefix_rfl
    · exact (ih (by omega)).trans (ords_pre1 tab j)
theorem ords_nd (tab : List Row) : ∀ j, (ords tab j).Nodup
  | 0 => by simp [ords]
  | j + 1 => by
    show (match (ords tab j)[j]? with
      | some s => grow (ords tab j) (rowOf tab s)
      | none => ords tab j).Nodup
    split
    · exact grow_nd (ords_nd tab j)
    · exact ords_nd tab j
section
variable {tab : List Row} {n m : Nat}
theorem row_in (T : GoodTab n m tab) {s : Int} : ∀ z ∈ rowOf tab s, 0 ≤ z.1 ∧ z.1 < (n : Int) := by
  unfold rowOf
  cases e : tab[s.toNat]? with
  | none => intro z hz; cases hz
  | some r => exact (T.row r (List.mem_of_getElem? e)).2
theorem ords_in (T : GoodTab n m tab) (hn : 0 < n) : ∀ j, ∀ x ∈ ords tab j, 0 ≤ x ∧ x < (n : Int)
  | 0 => by intro x hx; have : x = 0 := by simpa [ords] using hx
            omega
  | j + 1 => by
    show ∀ x ∈ (match (ords tab j)[j]? with
      | some s => grow (ords tab j) (rowOf tab s)
      | none => ords tab j), _
    split
    · exact grow_mem (ords_in T hn j) (row_in T)
    · exact ords_in T hn j
theorem ords_len (T : GoodTab n m tab) (hn : 0 < n) (j : Nat) : (ords tab j).length ≤ n := by
  have := nodup_len (s := intsFrom 0 n) (ords_nd tab j) fun x hx => by
    obtain ⟨h1, h2⟩ := ords_in T hn j x hx
    obtain ⟨k, rfl⟩ := Int.eq_ofNat_of_zero_le h1
    have := intsFrom_get (m := 0) (show k < n by omega)
    rw [Int.zero_add] at this
    exact List.mem_of_getElem? this
  rwa [intsFrom_len] at this
theorem ords_stop {j : Nat} (h : (ords tab j).length ≤ j) : ∀ k, j ≤ k → ords tab k = ords tab j
  | 0, hk => by rw [show j = 0 by omega]
  | k + 1, hk => by
    by_cases e : j = k + 1
    · rw [e]
    · have ih := ords_stop h k (by omega)
      show (match (ords tab k)[k]? with
        | some s => grow (ords tab k) (rowOf tab s)
        | none => ords tab k) = _
      rw [ih, List.getElem?_eq_none (by omega)]
theorem ords_go {j k : Nat} (hjk : j ≤ k) (h : j < (ords tab k).length) : j < (ords tab j).length := by
  rcases Nat.lt_or_ge j (ords tab j).length with q | q
  · exact q
  · rw [ords_stop q k hjk] at h; omega
theorem pre_get {l F : List Int} (h : l <+: F) {i : Nat} {g : Int} (hg : l[i]? = some g) : F[i]? = some g := by
  obtain ⟨t, ht⟩ := h
  rw [← ht, List.getElem?_append_left (List.getElem?_eq_some_iff.mp hg).1]
  exact hg
/-- the rows of what is reached are numbered as they are met -/
theorem canon_of (T : GoodTab n m tab) (hn : 0 < n) {ix : Int → Int} (hix : ∀ (i : Nat) g, (ords tab n)[i]? = some g → ix g = (i : Int)) : Canon ((ords tab n).map fun s => (rowOf tab s).map fun z => (ix z.1, z.2)) := by
  refine ⟨fun j => (ords tab j).length, rfl, fun i row hr => ?_, ?_⟩
  · rw [List.getElem?_map] at hr
    cases e : (ords tab n)[i]? with
    | none => rw [e] at hr; cases hr
    | some s =>
      rw [e] at hr
      cases hr
      have hl := (List.getElem?_eq_some_iff.mp e).1
      have hln := ords_len T hn n
      have h1 := ords_go (j := i) (k := n) (by omega) hl
      refine ⟨h1, ?_⟩
      have e1 : (ords tab i)[i]? = some s := by
        have := pre_get (ords_pre tab (show i ≤ n by omega)) (List.getElem?_eq_getElem h1)
        rw [List.getElem?_eq_getElem h1, ← this, e]
      have e2 : ords tab (i + 1) = grow (ords tab i) (rowOf tab s) := by
        show (match (ords tab i)[i]? with
          | some s => grow (ords tab i) (rowOf tab s)
          | none => ords tab i) = _
        rw [e1]
      show scan (ords tab i).length _ = some (ords tab (i + 1)).length
      rw [e2]
      refine scan_grow hix ?_
      rw [← e2]
      exact ords_pre tab (by omega)
  · rw [List.length_map]
    have hln := ords_len T hn n
    have hp := (ords_pre tab hln).length_le
    rcases Nat.lt_or_ge (ords tab (ords tab n).length).length (ords tab n).length with q | q
    · have := ords_stop (tab := tab) (j := (ords tab n).length) (by omega) n hln
      rw [← this] at q
      have e : (ords tab (ords tab n).length).length = (ords tab n).length := by rw [← this]
      omega
    · exact Nat.le_antisymm hp q
end
end Pf
set_option Elab.async false
set_option linter.all false
set_option maxRecDepth 100000
/-! TM2: more plain laws. -/
namespace AC
open PySem L2 PyProof
end AC
namespace AC
open PySem L2 PyProof
theorem mapP_ok {α γ : Type} {f : α → Res γ} (g : α → γ) : ∀ {xs : List α}, (∀ x ∈ xs, f x = .ok (g x)) → mapP f xs = .ok (xs.map g)
  | [], _ => rfl
  | x :: xs, h => by
    unfold mapP
    rw [h x List.mem_cons_self, mapP_ok g fun y hy => h y (List.mem_cons_of_mem _ hy)]
    rfl
theorem lcP_ok {α γ : Type} {t : α → Res Bool} {f : α → Res γ} (p : α → Bool) (g : α → γ) : ∀ {xs : List α}, (∀ x ∈ xs, t x = .ok (p x)) → (∀ x ∈ xs, p x = true → f x = .ok (g x)) → lcP t f xs = .ok ((xs.filter p).map g)
  | [], _, _ => rfl
  | x :: xs, h, h' => by
    unfold lcP
    rw [h x List.mem_cons_self]
    have ih := lcP_ok p g (xs := xs) (fun y hy => h y (List.mem_cons_of_mem _ hy)) fun y hy => h' y (List.mem_cons_of_mem _ hy)
    rw [ih]
    show (if p x = true then Res.bind (Res.noexc (f x)) fun y => Res.bind (Res.ok ((xs.filter p).map g)) fun ys => .ok (y :: ys) else .ok ((xs.filter p).map g)) = _
    rw [List.filter_cons]
    by_cases hp : p x = true
    · rw [if_pos hp, if_pos hp, h' x List.mem_cons_self hp]
      rfl
    · rw [if_neg hp, if_neg hp]
theorem ok_mapPP {α γ : Type} {f : α → Res γ} (g : α → γ) {xs : List α} (h : ∀ x ∈ xs, f x = .ok (g x)) : Ok (mapP f xs) fun ys => ys = xs.map g := by rw [mapP_ok g h]; exact rfl
/-- an item's property -/
theorem ok_mapQ {α γ : Type} {f : α → Res γ} (Q : Nat → γ → Prop) : ∀ (xs : List α) (k : Nat), (∀ i x, xs[i]? = some x → Ok (f x) (Q (k + i))) → Ok (mapP f xs) fun ys => ys.length = xs.length ∧ ∀ i y, ys[i]? = some y → Q (k + i) y
  | [], k, _ => ⟨rfl, fun i y h => by simp at h⟩
  | x :: xs, k, h => by
    unfold mapP
    refine ok_noexc ((h 0 x rfl).imp fun y hy => ?_)
    refine ok_bind (ok_mapQ Q xs (k + 1) fun i z hz => by have := h (i + 1) z (by simpa using hz); rwa [show k + (i + 1) = k + 1 + i by omega] at this) fun ys ⟨e1, e2⟩ => ?_
    refine ⟨by rw [List.length_cons, List.length_cons, e1], fun i u hu => ?_⟩
    cases i with
    | zero =>
      have : y = u := by simpa using hu
      subst this; exact hy
    | succ i =>
      have := e2 i u (by simpa using hu)
      rwa [show k + 1 + i = k + (i + 1) by omega] at this
end AC
namespace AC
theorem ok_ofE {α : Type} {o : Option α} {x : α} {P : α → Prop} (h : o = some x) (k : P x) : Ok (ofO o) P := by subst h; exact k
theorem ok_mapE {α γ : Type} {f : α → Res γ} (g : α → γ) {xs : List α} (h : ∀ x ∈ xs, Ok (f x) fun y => y = g x) : Ok (mapP f xs) fun ys => ys = xs.map g := ok_mapPP g fun x hx => ok_eq (h x hx)
end AC
namespace AC
theorem mapP_id {α : Type} {xs : List α} : mapP (fun x => Res.ok x) xs = .ok xs := by
  have := mapP_ok (f := fun x : α => Res.ok x) id (xs := xs) fun x _ => rfl
  rwa [List.map_id] at this
end AC
namespace AC
end AC
namespace AC
end AC
namespace AC
theorem rng1_lit {i : Int} {n : Nat} (e : i = (n : Int)) (h : n ≤ 16777216) : rng1O i = .ok (AC.intsFrom 0 n) := by
  subst e
  exact rng1_ok h
end AC
namespace AC
end AC
set_option maxRecDepth 100000
set_option linter.all false
namespace Pf
open PySem L2 PyProof AC
def mk (l : List Nat) : Str := ⟨l.toArray⟩
theorem mk_len (l : List Nat) : (mk l).length = l.length := by show l.toArray.size = _; simp
theorem mk_inj {a b : List Nat} (h : mk a = mk b) : a = b := by
  have : (mk a).cps.toList = (mk b).cps.toList := by rw [h]
  simpa [mk] using this
abbrev Chars (l : List Nat) : Prop := ∀ c ∈ l, 97 ≤ c ∧ c ≤ 122
theorem okS_mk {l : List Nat} (h : Chars l) (hl : l.length ≤ 1000) : okS (mk l) = some (mk l) := by
  unfold okS
  rw [if_pos]
  refine ⟨?_, by rw [mk_len]; omega⟩
  show l.toArray.all _ = true
  rw [List.all_toArray, List.all_eq_true]
  intro c hc
  have := h c hc
  rw [decide_eq_true_eq]; omega
theorem add_mk {a b : List Nat} (ha : Chars a) (hb : Chars b) (hl : a.length + b.length ≤ 1000) : addSO (mk a) (mk b) = some (mk (a ++ b)) := by
  unfold addSO
  rw [mk_len, mk_len, if_pos (by omega)]
  have e : mk a ++ mk b = mk (a ++ b) := by
    show (⟨a.toArray ++ b.toArray⟩ : Str) = ⟨(a ++ b).toArray⟩
    simp
  rw [e]
  exact okS_mk (fun c hc => (List.mem_append.mp hc).elim (ha c) (hb c)) (by rw [List.length_append]; omega)
theorem cut_mk1 {l : List Nat} {i : Nat} (h : i ≤ l.length) : cutS (mk l) none (some (i : Int)) = mk (l.take i) := by
  unfold cutS
  rw [HT.sIx_none, HT.sIx_nat, mk_len, Nat.min_eq_left h]
  rfl
theorem cut_mk2 {l : List Nat} {i : Nat} (h : i ≤ l.length) : cutS (mk l) (some (i : Int)) none = mk (l.drop i) := by
  unfold cutS
  rw [HT.sIx_none, HT.sIx_nat, mk_len, Nat.min_eq_left h]
  show mk ((l.drop i).take (l.length - i)) = _
  rw [List.take_of_length_le (by rw [List.length_drop]; omega)]
def abc : Str := "abcdefghijklmnopqrstuvwxyz"
theorem abc_list : abc.cps.toList = (List.range 26).map (97 + ·) := by decide +kernel
theorem abc_at {i : Int} (h0 : 0 ≤ i) (h : i < 26) : sAt abc i = some (mk [97 + i.toNat]) := by
  obtain ⟨k, rfl⟩ := Int.eq_ofNat_of_zero_le h0
  have hk : k < 26 := by omega
  unfold sAt
  rw [abc_list, atI_get (x := 97 + k) (by rw [List.getElem?_map, List.getElem?_range hk]; rfl)]
  rfl
theorem rep_mk {c n : Nat} (hc : 97 ≤ c ∧ c ≤ 122) (h1 : 1 ≤ n) (h8 : n ≤ 8) : mulSO (mk [c]) (n : Int) = some (mk (List.replicate n c)) := by
  have e : repS (mk [c]) (n : Int) = mk (List.replicate n c) := by
    obtain rfl | rfl | rfl | rfl | rfl | rfl | rfl | rfl : n = 1 ∨ n = 2 ∨ n = 3 ∨ n = 4 ∨ n = 5 ∨ n = 6 ∨ n = 7 ∨ n = 8 := by omega
    all_goals rfl
  unfold mulSO
  rw [e, mk_len, if_pos (by refine ⟨by omega, by omega, ?_⟩; show (1 : Int) * (n : Int) ≤ _; omega)]
  exact okS_mk (fun x hx => by rw [List.eq_of_mem_replicate hx]; exact hc) (by rw [List.length_replicate]; omega)
theorem join_mk : ∀ (l : List Nat), TL.joinL [] (l.map fun c => [c]) = l
  | [] => rfl
  | [c] => rfl
  | c :: d :: l => by
    have ih := join_mk (d :: l)
    show [c] ++ ([] ++ TL.joinL [] ([d] :: l.map fun c => [c])) = _
    rw [List.nil_append]
    have : TL.joinL [] ([d] :: l.map fun c => [c]) = d :: l := ih
    rw [this]
    rfl
theorem joinO_mk {l : List Nat} (h : Chars l) (hl : l.length ≤ 100) : joinO (mk []) (l.map fun c => mk [c]) = some (mk l) := by
  have e : Txt.join (mk []) (l.map fun c => mk [c]) = mk l := by
    have e1 := TL.tl_join (mk []) (l.map fun c => mk [c])
    have e2 : (l.map fun c => mk [c]).map TL.tl = l.map fun c => [c] := by
      rw [List.map_map]
      rfl
    rw [e2] at e1
    have e3 : TL.tl (mk []) = [] := rfl
    rw [e3, join_mk] at e1
    exact TL.ext_tl ((congrArg TL.tl (TL.join_eq (mk []) _)).trans e1)
  unfold joinO
  rw [e, if_pos]
  · exact okS_mk h (by omega)
  · have : ((l.map fun c => mk [c]).map (·.length)).sum = l.length := by
      rw [List.map_map]
      have : ((fun x => Str.length x) ∘ fun c => mk [c]) = fun _ => 1 := by funext c; exact mk_len [c]
      rw [this]
      clear e h hl this
      induction l with
      | nil => rfl
      | cons c l ih => rw [List.map_cons, List.sum_cons, ih, List.length_cons]; omega
    rw [this, mk_len]
    show l.length + _ * 0 ≤ _
    omega
theorem nodup_ints {α : Type} {m : Nat} {g : Int → α} (h : ∀ i j : Nat, i < j → j < m → g (i : Int) ≠ g (j : Int)) : ((intsFrom 0 m).map g).Nodup := by
  unfold AC.intsFrom
  rw [List.map_map]
  refine List.pairwise_map.mpr ?_
  refine List.Pairwise.imp_of_mem ?_ (List.pairwise_lt_range (n := m))
  intro a b ha hb hab
  have := h a b hab (List.mem_range.mp hb)
  simpa using this
/-- short words of small letters -/
structure Low (w : Str) : Prop where
  ex : ∃ l, w = mk l ∧ 1 ≤ l.length ∧ l.length ≤ 8 ∧ Chars l
def GoodN (m : Nat) (ws : List Str) : Prop := ws.length = m ∧ ws.Nodup ∧ ∀ x ∈ ws, Low x
def TEXTS : List Str := ["early", "keyed", "ranks", "plain", "look", "off", "on", "add", "state", "cut", "done", "run"]
theorem texts_low : ∀ x ∈ TEXTS, Low x := by
  have h : ∀ x ∈ TEXTS, 1 ≤ x.cps.toList.length ∧ x.cps.toList.length ≤ 8 ∧ Chars x.cps.toList := by decide +kernel
  intro x hx
  obtain ⟨h1, h2, h3⟩ := h x hx
  exact ⟨x.cps.toList, by cases x; simp [mk], h1, h2, h3⟩
theorem texts_nd : TEXTS.Nodup := by decide +kernel
end Pf
set_option maxRecDepth 100000
set_option linter.all false
namespace Pf
open PySem L2 PyProof AC
theorem atI_line {tab : List Row} {n m : Nat} (T : GoodTab n m tab) {s : Int} (h0 : 0 ≤ s) (h : s < (n : Int)) : atI tab s = some (rowOf tab s) ∧ rowOf tab s ∈ tab := by
  have hl := T.len
  have hk : s.toNat < tab.length := by omega
  have e : tab[s.toNat]? = some tab[s.toNat] := List.getElem?_eq_getElem hk
  unfold rowOf
  rw [e]
  exact ⟨atI_i h0 e, List.getElem_mem hk⟩
theorem in_len {n : Nat} {l : List Int} (nd : l.Nodup) (h : ∀ x ∈ l, 0 ≤ x ∧ x < (n : Int)) : l.length ≤ n := by
  have := nodup_len (s := intsFrom 0 n) nd fun x hx => by
    obtain ⟨h1, h2⟩ := h x hx
    obtain ⟨k, rfl⟩ := Int.eq_ofNat_of_zero_le h1
    have := intsFrom_get (m := 0) (show k < n by omega)
    rw [Int.zero_add] at this
    exact List.mem_of_getElem? this
  rwa [intsFrom_len] at this
/-- the place of a state among those that are reached -/
def ixR (tab : List Row) (g : Int) : Int := (idxO PyData.int PyData.int (ords tab tab.length) g).getD 0
/-- the table of the states that come about -/
def walkR (tab : List Row) : List Row := (ords tab tab.length).map fun s => (rowOf tab s).map fun z => (ixR tab z.1, z.2)
theorem ixR_at {tab : List Row} {i : Nat} {g : Int} (hg : (ords tab tab.length)[i]? = some g) : ixR tab g = (i : Int) := by
  unfold ixR
  rw [idx_at eqvt_int (ords_nd tab _) hg]; rfl
theorem ords_has {tab : List Row} {n m : Nat} (T : GoodTab n m tab) (hn : 0 < n) : ∀ s ∈ ords tab n, ∀ z ∈ rowOf tab s, z.1 ∈ ords tab n := fun s hs z hz => by
  have hlen := ords_len T hn n
  obtain ⟨i, hi, e⟩ := List.mem_iff_getElem.mp hs
  have h1 := ords_go (j := i) (k := n) (by omega) hi
  have e1 : (ords tab i)[i]? = some s := by
    have := pre_get (ords_pre tab (show i ≤ n by omega)) (List.getElem?_eq_getElem h1)
    rw [List.getElem?_eq_getElem h1, ← this, ← e, List.getElem?_eq_getElem hi]
  have e2 : ords tab (i + 1) = grow (ords tab i) (rowOf tab s) := by
    show (match (ords tab i)[i]? with
      | some s => grow (ords tab i) (rowOf tab s)
      | none => ords tab i) = _
    rw [e1]
  refine (ords_pre tab (show i + 1 ≤ n by omega)).subset ?_
  rw [e2]
  exact grow_has hz
theorem walk_canon {tab : List Row} {n m : Nat} (T : GoodTab n m tab) (hn : 0 < n) : Canon (walkR tab) := by
  have hl := T.len
  unfold walkR
  rw [hl]
  exact canon_of T hn fun i g hg => ixR_at (by rw [hl]; exact hg)
theorem walk_len {tab : List Row} {n m : Nat} (T : GoodTab n m tab) (hn : 0 < n) : 1 ≤ (walkR tab).length ∧ (walkR tab).length ≤ n := by
  have hl := T.len
  unfold walkR
  rw [hl, List.length_map]
  exact ⟨(ords_pre tab (Nat.zero_le n)).length_le, ords_len T hn n⟩
theorem walk_row {tab : List Row} {n m : Nat} (T : GoodTab n m tab) (hn : 0 < n) {P : Row → Prop} {Q : Option Int → Prop} (h : ∀ r ∈ tab, ∀ z ∈ r, Q z.2) : ∀ r ∈ walkR tab, r.length = m ∧ ∀ z ∈ r, (0 ≤ z.1 ∧ z.1 < ((walkR tab).length : Int)) ∧ Q z.2 := by
  have hl := T.len
  unfold walkR
  rw [hl, List.length_map]
  intro r hr
  obtain ⟨s, hs, rfl⟩ := List.mem_map.mp hr
  obtain ⟨s0, s1⟩ := ords_in T hn n s hs
  have hm := (atI_line T s0 s1).2
  refine ⟨by rw [List.length_map]; exact (T.row _ hm).1, fun z hz => ?_⟩
  obtain ⟨y, hy, rfl⟩ := List.mem_map.mp hz
  obtain ⟨k, hk, e⟩ := List.mem_iff_getElem.mp (ords_has T hn s hs y hy)
  have := ixR_at (tab := tab) (i := k) (g := y.1) (by rw [hl]; exact List.getElem?_eq_some_iff.mpr ⟨hk, e⟩)
  refine ⟨?_, h _ hm y hy⟩
  dsimp only
  rw [this]
  omega
theorem walk_tab {tab : List Row} {n m : Nat} (T : GoodTab n m tab) (hn : 0 < n) : GoodTab (walkR tab).length m (walkR tab) := ⟨rfl, fun r hr => by
  obtain ⟨h1, h2⟩ := walk_row (P := fun _ => True) (Q := fun _ => True) T hn (fun _ _ _ _ => trivial) r hr
  exact ⟨h1, fun z hz => (h2 z hz).1⟩⟩
end Pf
set_option maxRecDepth 100000
set_option linter.all false
namespace Pf
open PySem L2 PyProof AC
/-- places of what is reached -/
def pl (o : List Int) : List (Int × Int) := o.zipIdx.map fun z => (z.1, (z.2 : Int))
theorem pl_len (o : List Int) : (pl o).length = o.length := by unfold pl; rw [List.length_map, List.length_zipIdx]
theorem pl_snoc (o : List Int) (g : Int) : pl (o ++ [g]) = pl o ++ [(g, (o.length : Int))] := by
  unfold pl
  rw [List.zipIdx_append, List.map_append]
  simp
theorem getD_none {o : List Int} {g : Int} (h : g ∉ o) : getD (pl o) g = none := by
  unfold getD
  rw [Option.map_eq_none_iff, List.find?_eq_none]
  intro e he z
  unfold pl at he
  obtain ⟨⟨x, i⟩, hx, rfl⟩ := List.mem_map.mp he
  have := List.fst_mem_of_mem_zipIdx hx
  have hz : x = g := by simpa using z
  exact h (by rw [← hz]; exact this)
theorem find_pl {g : Int} : ∀ {o : List Int} {i k : Nat}, o.Nodup → o[i]? = some g → ((o.zipIdx k).map fun z => (z.1, (z.2 : Int))).find? (fun e => decide (e.1 = g)) = some (g, ((k + i : Nat) : Int))
  | [], i, k, _, h => by simp at h
  | a :: l, 0, k, nd, h => by
    have h : a = g := by simpa using h
    subst h
    rw [List.zipIdx_cons, List.map_cons, List.find?_cons_of_pos (by simp)]
    rfl
  | a :: l, i + 1, k, nd, h => by
    have hm : g ∈ l := List.mem_of_getElem? (by simpa using h : l[i]? = some g)
    have na : a ≠ g := fun e => (List.nodup_cons.mp nd).1 (by rw [e]; exact hm)
    rw [List.zipIdx_cons, List.map_cons, List.find?_cons_of_neg (by simpa using na), find_pl (List.nodup_cons.mp nd).2 (by simpa using h : l[i]? = some g)]
    rw [show k + 1 + i = k + (i + 1) by omega]
theorem getD_pl {o : List Int} {i : Nat} {g : Int} (nd : o.Nodup) (h : o[i]? = some g) : getD (pl o) g = some (i : Int) := by
  unfold getD pl
  rw [find_pl nd h, Nat.zero_add]
  rfl
theorem putO_pl {o : List Int} {g : Int} (h : g ∉ o) (hl : o.length < 16777216) : putO (pl o) g (o.length : Int) = some (pl (o ++ [g])) := by
  unfold putO
  rw [pl_len, if_pos hl, pl_snoc]
  congr 1
  unfold putD
  rw [if_neg]
  intro ha
  obtain ⟨e, he, h2⟩ := List.any_eq_true.mp ha
  unfold pl at he
  obtain ⟨⟨x, i⟩, hx, rfl⟩ := List.mem_map.mp he
  have := List.fst_mem_of_mem_zipIdx hx
  have hz : x = g := by simpa using h2
  exact h (by rw [← hz]; exact this)
theorem grow_sub {o : List Int} {l1 l2 : Row} : grow o l1 <+: grow o (l1 ++ l2) := by
  unfold grow
  rw [List.foldl_append]
  exact grow_pre l2 _
/-- the program's table -/
theorem reached_eq {tab : List Row} {n m : Nat} (T : GoodTab n m tab) (hn : 0 < n) (hn2 : n ≤ 1000) (hm : m ≤ 1000) : F_table_reached tab = .ok (walkR tab) := by
  have hl := T.len
  refine ok_eq ?_
  unfold F_table_reached
  delta fb_table_reached
  dsimp only
  simp only [Res.bind_ok, Res.bind_assoc, Out.seq, Out.map, endV, ofO_some]
  rw [if_pos (by decide)]
  simp only [Res.bind_ok]
  have rowsR : ∀ i, ((ords tab i).take i).map (fun s => (rowOf tab s).map fun z => (ixR tab z.1, z.2)) = ((ords tab i).take i).map (fun s => (rowOf tab s).map fun z => (ixR tab z.1, z.2)) := fun _ => rfl
  refine ok_bind (ok_while (R := fun _ => False) (E := fun b => b.2.2.2.1 = walkR tab) (fun k b => ∃ i, k = n - i ∧ i ≤ (ords tab i).length ∧ b = (tab, pl (ords tab i), ords tab i, ((ords tab i).take i).map (fun s => (rowOf tab s).map fun z => (ixR tab z.1, z.2)), (), (), (), ())) n ⟨0, rfl, Nat.zero_le _, rfl⟩ (by omega) ?_) ?_
  · rintro k b ⟨i, rfl, hi, rfl⟩
    have hlen := ords_len T hn i
    dsimp only
    rw [List.length_map, List.length_take, Nat.min_eq_left hi]
    by_cases hlt : i < (ords tab i).length
    · have e1 : (ords tab i)[i]? = some (ords tab i)[i] := List.getElem?_eq_getElem hlt
      generalize hs : (ords tab i)[i] = s at e1
      have e2 : ords tab (i + 1) = grow (ords tab i) (rowOf tab s) := by
        show (match (ords tab i)[i]? with
          | some s => grow (ords tab i) (rowOf tab s)
          | none => ords tab i) = _
        rw [e1]
      obtain ⟨s0, s1⟩ := ords_in T hn i s (List.mem_of_getElem? e1)
      obtain ⟨r1, r2⟩ := atI_line T s0 s1
      have rl := (T.row _ r2).1
      have d3 : ((i : Int) < (((ords tab i).length : Nat) : Int)) := by omega
      simp only [decide_eq_true d3]
      refine ⟨fun _ => ?_, fun h => Bool.noConfusion (show true = false from h)⟩
      dsimp only
      rw [List.length_map, List.length_take, Nat.min_eq_left hi]
      refine ok_ofO (atI_get e1) ?_
      refine ok_ofO r1 ?_
      have hpre : ∀ j, grow (ords tab i) ((rowOf tab s).take j) <+: ords tab n := fun j => by
        refine List.IsPrefix.trans ?_ (ords_pre tab (show i + 1 ≤ n by omega))
        rw [e2]
        have := grow_sub (o := ords tab i) (l1 := (rowOf tab s).take j) (l2 := (rowOf tab s).drop j)
        rwa [List.take_append_drop] at this
      have hin : ∀ j, (grow (ords tab i) ((rowOf tab s).take j)).length ≤ n := fun j => by
        have h1 := (hpre j).length_le
        have h2 := ords_len T hn n
        omega
      refine ok_bind (ok_for (R := fun _ => False) (fun j b => b = (tab, pl (grow (ords tab i) ((rowOf tab s).take j)), grow (ords tab i) ((rowOf tab s).take j), ((ords tab i).take i).map (fun s => (rowOf tab s).map fun z => (ixR tab z.1, z.2)), ((rowOf tab s).take j).map (fun z => (ixR tab z.1, z.2)), (), (), ())) rfl ?_) ?_
      · rintro j z b hz rfl
        have hj := (List.getElem?_eq_some_iff.mp hz).1
        have ht : (rowOf tab s).take (j + 1) = (rowOf tab s).take j ++ [z] := by rw [List.take_succ, hz]; rfl
        have hp1 := hpre (j + 1)
        have hb := hin j
        have hb1 := hin (j + 1)
        dsimp only
        rw [ht, grow_snoc] at hp1 hb1
        rw [ht, grow_snoc, List.map_append]
        have nd := grow_nd (row := (rowOf tab s).take j) (ords_nd tab i)
        have nd1 : (stp (grow (ords tab i) ((rowOf tab s).take j)) z).Nodup := stp_nd nd
        have hinz : z.1 ∈ stp (grow (ords tab i) ((rowOf tab s).take j)) z := by
          unfold stp; split
          · assumption
          · exact List.mem_append_right _ List.mem_cons_self
        have hget : getD (pl (stp (grow (ords tab i) ((rowOf tab s).take j)) z)) z.1 = some (ixR tab z.1) := by
          obtain ⟨k, hk, e⟩ := List.mem_iff_getElem.mp hinz
          have h1 := List.getElem?_eq_some_iff.mpr ⟨hk, e⟩
          rw [getD_pl nd1 h1, ixR_at (i := k) (by rw [hl]; exact pre_get hp1 h1)]
        refine ok_bind (Q := fun o => o = .nx (tab, pl (stp (grow (ords tab i) ((rowOf tab s).take j)) z), stp (grow (ords tab i) ((rowOf tab s).take j)) z, ((ords tab i).take i).map (fun s => (rowOf tab s).map fun z => (ixR tab z.1, z.2)), ((rowOf tab s).take j).map (fun z => (ixR tab z.1, z.2)), z.1, z.2, ())) ?_ ?_
        · unfold stp
          by_cases hm : z.1 ∈ grow (ords tab i) ((rowOf tab s).take j)
          · obtain ⟨k, hk, e⟩ := List.mem_iff_getElem.mp hm
            rw [getD_pl nd (List.getElem?_eq_some_iff.mpr ⟨hk, e⟩)]
            simp only [Option.isNone_some, Bool.false_eq_true, if_false, if_pos hm]
            exact rfl
          · rw [getD_none hm]
            simp only [Option.isNone_none, if_true, if_neg hm]
            refine ok_ofO (putO_pl hm (by omega)) ?_
            refine ok_ofO (appO_ok (by omega)) ?_
            exact rfl
        · rintro _ rfl
          refine ok_bind (Q := fun o => o = .nx (tab, pl (stp (grow (ords tab i) ((rowOf tab s).take j)) z), stp (grow (ords tab i) ((rowOf tab s).take j)) z, ((ords tab i).take i).map (fun s => (rowOf tab s).map fun z => (ixR tab z.1, z.2)), ((rowOf tab s).take j).map (fun z => (ixR tab z.1, z.2)) ++ [(ixR tab z.1, z.2)], z.1, z.2, ())) ?_ (fun o ho => by subst ho; exact rfl)
          refine ok_ofO hget ?_
          refine ok_ofO (appO_ok (by rw [List.length_map, List.length_take]; omega)) ?_
          exact rfl
      · rintro (b | r) hy
        · have hy : b = (tab, pl (grow (ords tab i) ((rowOf tab s).take (rowOf tab s).length)), grow (ords tab i) ((rowOf tab s).take (rowOf tab s).length), ((ords tab i).take i).map (fun s => (rowOf tab s).map fun z => (ixR tab z.1, z.2)), ((rowOf tab s).take (rowOf tab s).length).map (fun z => (ixR tab z.1, z.2)), (), (), ()) := hy
          subst hy
          rw [List.take_length, ← e2]
          have e3 := pre_get (ords_pre1 tab i) e1
          have t1 : (ords tab (i + 1)).take (i + 1) = (ords tab i).take i ++ [s] := by
            rw [List.take_succ, e3]
            obtain ⟨t, ht⟩ := ords_pre1 tab i
            rw [← ht, List.take_append_of_le_length (by omega)]
            rfl
          have h5 := (List.getElem?_eq_some_iff.mp e3).1
          refine ok_bind (Q := fun o => o = .nx (tab, pl (ords tab (i + 1)), ords tab (i + 1), ((ords tab (i + 1)).take (i + 1)).map (fun s => (rowOf tab s).map fun z => (ixR tab z.1, z.2)), (rowOf tab s).map (fun z => (ixR tab z.1, z.2)), (), (), ())) ?_ (fun o ho => by subst ho; exact ⟨n - (i + 1), by omega, i + 1, rfl, h5, rfl⟩)
          refine ok_ofO (appO_ok (by rw [List.length_map, List.length_take]; omega)) ?_
          rw [t1, List.map_append]
          exact rfl
        · exact hy.elim
    · have hi2 : i = (ords tab i).length := by omega
      have d3 : ¬ ((i : Int) < (((ords tab i).length : Nat) : Int)) := by omega
      simp only [decide_eq_false d3]
      refine ⟨fun h => Bool.noConfusion (show false = true from h), fun _ => ?_⟩
      have e9 := ords_stop (tab := tab) (j := i) (by omega) n (by omega)
      show List.map _ _ = walkR tab
      unfold walkR
      rw [hl, e9, List.take_of_length_le (by omega)]
  · rintro (b | r) hy
    · exact hy
    · exact hy.elim
end Pf
set_option maxRecDepth 100000
set_option linter.all false
namespace Pf
open PySem L2 PyProof AC
theorem abc_in {c : Nat} (h : 97 ≤ c ∧ c ≤ 122) : sgnIn ⟨#[c]⟩ lettersS = some true := by
  show (match ([c] : List Nat) with
    | [c] => some (decide (c ∈ lettersS.cps.toList))
    | _ => none) = some true
  have e : lettersS.cps.toList = (List.range 26).map (97 + ·) := by decide +kernel
  rw [e]
  have : c ∈ (List.range 26).map (97 + ·) := List.mem_map.mpr ⟨c - 97, List.mem_range.mpr (by omega), by omega⟩
  simp [this]
theorem low_name {w : Str} (h : Low w) : F_is_name w = .ok true := by
  obtain ⟨l, rfl, h1, h2, hc⟩ := h.ex
  refine ok_eq ?_
  unfold F_is_name
  delta fb_is_name
  dsimp only
  simp only [bok, Res.bind_assoc, seqN, seqR, mapN, mapRt, endR, ofS, id, mk_len]
  have a1 : (1 : Int) ≤ (l.length : Int) := by omega
  have a2 : (l.length : Int) ≤ 8 := by omega
  simp only [decide_eq_true a1, decide_eq_true a2, if_true, bok, Res.bind_assoc]
  rw [mapP_ok (fun _ => true) fun x hx => by
    obtain ⟨c, hcm, rfl⟩ := List.mem_map.mp (show x ∈ (mk l).cps.toList.map fun c => (⟨#[c]⟩ : Str) from hx)
    rw [abc_in (hc c (by simpa [mk] using hcm))]; rfl]
  simp only [bok]
  show (List.map (fun _ => true) (strL (mk l))).all id = true
  rw [List.all_map]
  exact List.all_eq_true.mpr fun _ _ => rfl
theorem check_names_ok {names : List Str} (hw : ∀ w ∈ names, Low w) (nd : names.Nodup) (hl : names.length ≤ 1000) : F_check_names names = .ok () := by
  refine ok_eq (m := F_check_names names) (x := ()) ?_
  unfold F_check_names
  delta fb_check_names
  dsimp only
  simp only [Res.bind_ok, Res.bind_assoc, Out.seq, Out.map, endV, ofO_some, rng1_ok (show names.length ≤ 16777216 by omega)]
  refine ok_bind (ok_for (R := fun _ => False) (fun _ b => b = (names, (), ())) rfl ?_) ?_
  · intro i x b hx hb
    subst hb
    obtain ⟨rfl, hi⟩ := ints_get hx
    refine ok_ofO (atI_get (List.getElem?_eq_getElem hi)) ?_
    rw [low_name (hw _ (List.getElem_mem hi))]
    simp only [Res.bind_ok, Bool.not_true, Bool.false_eq_true, if_false]
    refine ok_bind (Q := fun o => o = .nx (names, (i : Int), ())) ?_ (fun o ho => by subst ho; exact rfl)
    refine ok_ofO (atI_get (List.getElem?_eq_getElem hi)) ?_
    rw [cut_take (by omega)]
    have hn : names[i] ∉ names.take i := fun hm => by
      obtain ⟨j, hj, e⟩ := List.mem_take_iff_getElem.mp hm
      have := nodup_get nd (List.getElem?_eq_some_iff.mpr ⟨by omega, e⟩) (List.getElem?_eq_getElem hi)
      omega
    simp only [decide_eq_false hn, Bool.false_eq_true, if_false, Res.bind_ok]
    exact ok_ok rfl
  · intro y hy
    cases y with
    | nx b => exact trivial
    | rt r => exact hy.elim
theorem check_table_ok {names : List Str} {tab : List Row} (hl : tab.length ≤ 1000) (h : ∀ r ∈ tab, r.length = names.length ∧ ∀ z ∈ r, 0 ≤ z.1 ∧ z.1 < (tab.length : Int)) : F_check_table (names, tab) = .ok () := by
  refine ok_eq (m := F_check_table (names, tab)) (x := ()) ?_
  unfold F_check_table
  delta fb_check_table
  dsimp only
  simp only [Res.bind_ok, Res.bind_assoc, Out.seq, Out.map, endV, ofO_some, rng1_ok (show tab.length ≤ 16777216 by omega)]
  refine ok_bind (ok_for (R := fun _ => False) (fun i b => b = (names, tab, (), (), (), ())) rfl ?_) ?_
  · rintro i x b hx rfl
    obtain ⟨rfl, hi⟩ := ints_get hx
    have e1 : tab[i]? = some tab[i] := List.getElem?_eq_getElem hi
    obtain ⟨h1, h2⟩ := h _ (List.getElem_mem hi)
    dsimp only
    refine ok_ofO (atI_get e1) ?_
    have h3 : ((tab[i].length : Nat) : Int) = ((names.length : Nat) : Int) := by omega
    simp only [decide_eq_true h3, Bool.not_true, Bool.false_eq_true, if_false, Res.bind_ok]
    refine ok_bind (Q := fun o => o = .nx (names, tab, (i : Int), (), (), ())) ?_ (fun o ho => by subst ho; exact rfl)
    refine ok_ofO (atI_get e1) ?_
    refine (ok_for (R := fun _ => False) (fun j b => b = (names, tab, (i : Int), (), (), ())) rfl ?_).imp ?_
    · rintro j z b hz rfl
      obtain ⟨z0, z1⟩ := h2 z (List.mem_of_getElem? hz)
      dsimp only
      simp only [decide_eq_true z0, decide_eq_true z1, if_true, Res.bind_ok, Bool.not_true, Bool.false_eq_true, if_false]
      exact rfl
    · rintro (b | r) hb
      · have hb : b = (names, tab, (i : Int), (), (), ()) := hb
        subst hb
        exact rfl
      · exact hb.elim
  · rintro (b | r) hy
    · exact trivial
    · exact hy.elim
theorem service_eq {names : List Str} {tab : List Row} {n m : Nat} (gn : GoodN m names) (T : GoodTab n m tab) (hn : 0 < n) (hn2 : n ≤ 1000) (hm : m ≤ 1000) : F_Service_init (names, tab) = .ok (((), names), walkR tab) := by
  obtain ⟨g1, g2, g3⟩ := gn
  unfold F_Service_init
  delta fb_Service_init
  dsimp only
  simp only [Res.bind_ok, Res.bind_assoc, Out.seq, Out.map, endV, ofO_some, check_names_ok g3 g2 (by omega)]
  rw [check_table_ok (by rw [T.len]; omega) fun r hr => by
    obtain ⟨a, b⟩ := T.row r hr
    exact ⟨by omega, fun z hz => by rw [T.len]; exact b z hz⟩]
  simp only [Res.bind_ok]
  rw [reached_eq T hn hn2 hm]
  rfl
theorem scan_le : ∀ {row : Row} {c c' : Nat}, scan c row = some c' → c ≤ c'
  | [], c, c', h => by cases h; exact Nat.le_refl _
  | z :: row, c, c', h => by
    unfold scan at h
    split at h
    · exact scan_le h
    · split at h
      · exact Nat.le_of_succ_le (scan_le h)
      · cases h
def idm (c : Nat) : List (Int × Int) := (intsFrom 0 c).map fun x => (x, x)
theorem ints_snoc (c : Nat) : AC.intsFrom 0 (c + 1) = AC.intsFrom 0 c ++ [(c : Int)] := by
  unfold AC.intsFrom
  rw [List.range_succ, List.map_append]
  simp
theorem idm_snoc (c : Nat) : idm (c + 1) = idm c ++ [((c : Int), (c : Int))] := by
  unfold idm
  rw [ints_snoc, List.map_append]
  rfl
theorem idm_len (c : Nat) : (idm c).length = c := by unfold idm; rw [List.length_map, intsFrom_len]
theorem getD_snoc {xs : List (Int × Int)} {k v g : Int} : getD (xs ++ [(k, v)]) g = match getD xs g with | some z => some z | none => if k = g then some v else none := by
  unfold getD
  rw [List.find?_append]
  cases xs.find? fun e => decide (e.1 = g) with
  | some z => rfl
  | none =>
    by_cases e : k = g
    · simp [e]
    · simp [e]
theorem getD_idm : ∀ (c : Nat) (g : Int), getD (idm c) g = if 0 ≤ g ∧ g < (c : Int) then some g else none
  | 0, g => by
    have : idm 0 = [] := rfl
    rw [this, if_neg (by omega)]
    rfl
  | c + 1, g => by
    rw [idm_snoc, getD_snoc, getD_idm c g]
    by_cases h : 0 ≤ g ∧ g < (c : Int)
    · rw [if_pos h]
      show some g = _
      rw [if_pos (by omega)]
    · rw [if_neg h]
      show (if (c : Int) = g then some (c : Int) else none) = _
      by_cases e : (c : Int) = g
      · rw [if_pos e, if_pos (by omega), e]
      · rw [if_neg e, if_neg (by omega)]
theorem putO_idm {c : Nat} (h : c < 16777216) : putO (idm c) (c : Int) (c : Int) = some (idm (c + 1)) := by
  unfold putO
  rw [idm_len, if_pos h, idm_snoc]
  congr 1
  unfold putD
  rw [if_neg]
  intro ha
  obtain ⟨e, he, h2⟩ := List.any_eq_true.mp ha
  unfold idm at he
  obtain ⟨x, hx, rfl⟩ := List.mem_map.mp he
  obtain ⟨i, hi, e⟩ := List.mem_iff_getElem.mp hx
  obtain ⟨rfl, hi⟩ := ints_get (List.getElem?_eq_some_iff.mpr ⟨hi, e⟩)
  have : (i : Int) = (c : Int) := by simpa using h2
  omega
theorem canon_reached {rows ex : List Row} (cn : Canon rows) (h25 : rows.length ≤ 1000) (hr : ∀ r ∈ rows, r.length ≤ 1000) : F_table_reached (rows ++ ex) = .ok rows := by
  obtain ⟨cs, c0, c1, c2⟩ := cn.ex
  have mono : ∀ i, i ≤ rows.length → cs i ≤ rows.length := by
    intro i hi
    have key : ∀ k, i + k ≤ rows.length → cs i ≤ cs (i + k) := by
      intro k
      induction k with
      | zero => intro _; exact Nat.le_refl _
      | succ k ih =>
        intro hk
        have := c1 (i + k) _ (List.getElem?_eq_getElem (by omega))
        exact Nat.le_trans (ih (by omega)) (scan_le this.2)
    have := key (rows.length - i) (by omega)
    rw [show i + (rows.length - i) = rows.length by omega, c2] at this
    exact this
  refine ok_eq ?_
  unfold F_table_reached
  delta fb_table_reached
  dsimp only
  simp only [Res.bind_ok, Res.bind_assoc, Out.seq, Out.map, endV, ofO_some]
  rw [if_pos (by decide)]
  simp only [Res.bind_ok]
  refine ok_bind (ok_while (R := fun _ => False) (E := fun b => b.2.2.2.1 = rows) (fun k b => ∃ i, k = rows.length - i ∧ i ≤ rows.length ∧ b = (rows ++ ex, idm (cs i), intsFrom 0 (cs i), rows.take i, (), (), (), ())) rows.length ⟨0, rfl, Nat.zero_le _, by rw [c0]; rfl⟩ (by omega) ?_) ?_
  · rintro k b ⟨i, rfl, hi, rfl⟩
    dsimp only
    rw [intsFrom_len, List.length_take, Nat.min_eq_left hi]
    by_cases hlt : i < rows.length
    · have e1 : rows[i]? = some rows[i] := List.getElem?_eq_getElem hlt
      generalize hrow : rows[i] = row at e1
      obtain ⟨d1, d2⟩ := c1 i row e1
      have d3 : ((i : Int) < ((cs i : Nat) : Int)) := by omega
      simp only [decide_eq_true d3]
      have e2 : (rows ++ ex)[i]? = some row := by rw [List.getElem?_append_left hlt]; exact e1
      have m1 := mono (i + 1) (by omega)
      refine ⟨fun _ => ?_, fun h => Bool.noConfusion (show true = false from h)⟩
      dsimp only
      rw [List.length_take, Nat.min_eq_left hi]
      refine ok_ofO (atI_get (intsFrom_get d1)) ?_
      rw [Int.zero_add]
      refine ok_ofO (atI_get e2) ?_
      refine ok_bind (ok_for (R := fun _ => False) (fun j b => ∃ cj : Nat, scan cj (row.drop j) = some (cs (i + 1)) ∧ b = (rows ++ ex, idm cj, intsFrom 0 cj, rows.take i, row.take j, (), (), ())) ⟨cs i, d2, rfl⟩ ?_) ?_
      · rintro j z b hz ⟨cj, hsc, rfl⟩
        have hd : row.drop j = z :: row.drop (j + 1) := by
          obtain ⟨h1, h2⟩ := List.getElem?_eq_some_iff.mp hz
          rw [List.drop_eq_getElem_cons h1, h2]
        have ht : row.take (j + 1) = row.take j ++ [z] := by rw [List.take_succ, hz]; rfl
        have hcj := scan_le hsc
        have hrl := hr row (List.mem_of_getElem? e1)
        rw [hd] at hsc
        unfold scan at hsc
        dsimp only
        rw [getD_idm]
        by_cases hc : 0 ≤ z.1 ∧ z.1 < (cj : Int)
        · rw [if_pos hc] at hsc ⊢
          simp only [Option.isNone_some, Bool.false_eq_true, if_false, Res.bind_ok]
          refine ok_bind (Q := fun o => o = .nx (rows ++ ex, idm cj, intsFrom 0 cj, rows.take i, row.take (j + 1), z.1, z.2, ())) ?_ (fun o ho => by subst ho; exact ⟨cj, hsc, rfl⟩)
          refine ok_ofO (x := z.1) (by rw [getD_idm, if_pos hc]) ?_
          refine ok_ofO (appO_ok (by rw [List.length_take]; omega)) ?_
          rw [ht]
          exact rfl
        · rw [if_neg hc] at hsc ⊢
          simp only [Option.isNone_none, if_true, Res.bind_assoc]
          by_cases he : z.1 = (cj : Int)
          · rw [if_pos he] at hsc
            rw [intsFrom_len, he]
            refine ok_ofO (putO_idm (by omega)) ?_
            refine ok_ofO (appO_ok (by rw [intsFrom_len]; omega)) ?_
            simp only [Res.bind_ok]
            rw [← ints_snoc]
            refine ok_bind (Q := fun o => o = .nx (rows ++ ex, idm (cj + 1), intsFrom 0 (cj + 1), rows.take i, row.take (j + 1), z.1, z.2, ())) ?_ (fun o ho => by subst ho; exact ⟨cj + 1, hsc, rfl⟩)
            refine ok_ofO (x := (cj : Int)) (by rw [getD_idm, if_pos (by omega)]) ?_
            refine ok_ofO (appO_ok (by rw [List.length_take]; omega)) ?_
            rw [ht]
            obtain ⟨z1, z2⟩ := z
            have he : z1 = (cj : Int) := he
            subst he
            exact rfl
          · rw [if_neg he] at hsc; cases hsc
      · rintro (b | r) hy
        · obtain ⟨cj, hsc, rfl⟩ := hy
          rw [List.drop_length] at hsc
          cases hsc
          rw [List.take_length]
          refine ok_bind (Q := fun o => o = .nx (rows ++ ex, idm (cs (i + 1)), intsFrom 0 (cs (i + 1)), rows.take (i + 1), row, (), (), ())) ?_ (fun o ho => by subst ho; exact ⟨rows.length - (i + 1), by omega, i + 1, rfl, by omega, rfl⟩)
          refine ok_ofO (appO_ok (by rw [List.length_take]; omega)) ?_
          have ht : rows.take (i + 1) = rows.take i ++ [row] := by rw [List.take_succ, e1]; rfl
          rw [ht]
          exact rfl
        · exact hy.elim
    · have hi2 : i = rows.length := by omega
      subst hi2
      have d3 : ¬ (((rows.length : Nat) : Int) < ((cs rows.length : Nat) : Int)) := by rw [c2]; omega
      simp only [decide_eq_false d3]
      exact ⟨fun h => Bool.noConfusion (show false = true from h), fun _ => List.take_length⟩
  · rintro (b | r) hy
    · exact hy
    · exact hy.elim
/-- what is reached of what is reached -/
theorem walk_walk {tab : List Row} {n m : Nat} (T : GoodTab n m tab) (hn : 0 < n) (hn2 : n ≤ 1000) (hm : m ≤ 1000) : walkR (walkR tab) = walkR tab := by
  obtain ⟨w1, w2⟩ := walk_len T hn
  have T2 := walk_tab T hn
  have h1 := canon_reached (rows := walkR tab) (ex := []) (walk_canon T hn) (by omega) fun r hr => by have := (T2.row r hr).1; omega
  rw [List.append_nil, reached_eq T2 (by omega) (by omega) hm] at h1
  exact Res.ok.inj h1
def stD (z : Int × Option Int) : PyData := .tuple [.int z.1, tO .int z.2]
theorem eqvt_st : EqvT stD := fun x y => by
  show PyData.eqvAll [.int x.1, tO .int x.2] [.int y.1, tO .int y.2] = true ↔ _
  simp only [PyData.eqvAll, Bool.and_true, Bool.and_eq_true, eqv_int, eqv_optI, decide_eq_true_eq]
  exact ⟨fun h => Prod.ext h.1 h.2, fun h => by rw [h]; exact ⟨rfl, rfl⟩⟩
theorem eqvt_tup {α : Type} {t : α → PyData} (h : EqvT t) : EqvT fun xs : List α => PyData.tuple (xs.map t) := fun xs ys => by
  show PyData.eqvAll (xs.map t) (ys.map t) = true ↔ _
  exact eqvAll_iff h
end Pf
set_option maxRecDepth 100000
set_option linter.all false
namespace Pf
open PySem L2 PyProof AC
theorem sveq {a b : (Unit × List Str) × List Row} : F_Service___eq__ (a, b) = .ok (decide (a = b)) := by
  refine ok_eq ?_
  unfold F_Service___eq__
  delta fb_Service___eq__
  dsimp only
  simp only [bok, Res.bind_assoc, seqN, seqR, mapN, mapRt, endR, ofS, id, Bool.not_true, Bool.false_eq_true, if_false]
  have e1 : ∀ x y : List Str, eqO (fun xs => PyData.tuple (List.map PyData.str xs)) (fun xs => PyData.tuple (List.map PyData.str xs)) x y = decide (x = y) := fun x y => eqO_t (eqvt_tup eqvt_str)
  have e2 : ∀ x y : List Row, eqO (fun xs => PyData.tuple (List.map (fun xs => PyData.tuple (List.map stD xs)) xs)) (fun xs => PyData.tuple (List.map (fun xs => PyData.tuple (List.map stD xs)) xs)) x y = decide (x = y) := fun x y => eqO_t (eqvt_tup (eqvt_tup eqvt_st))
  obtain ⟨⟨⟨⟩, an⟩, at_⟩ := a
  obtain ⟨⟨⟨⟩, bn⟩, bt⟩ := b
  show Ok (Res.bind (if eqO _ _ an bn = true then Res.ok (eqO (fun xs => PyData.tuple (List.map (fun xs => PyData.tuple (List.map stD xs)) xs)) (fun xs => PyData.tuple (List.map (fun xs => PyData.tuple (List.map stD xs)) xs)) at_ bt) else Res.ok false) _) _
  rw [e1, e2]
  by_cases h : an = bn
  · simp only [decide_eq_true h, if_true, bok]
    show decide (at_ = bt) = _
    by_cases h2 : at_ = bt
    · rw [decide_eq_true h2, decide_eq_true (by rw [h, h2])]
    · rw [decide_eq_false h2, decide_eq_false fun e => h2 (Prod.mk.inj e).2]
  · simp only [decide_eq_false h, Bool.false_eq_true, if_false, bok]
    show false = _
    rw [decide_eq_false fun e => h (Prod.mk.inj (Prod.mk.inj e).1).2]
end Pf
set_option Elab.async false
set_option linter.all false
set_option maxRecDepth 100000
/-! SHW: what is shown is short. -/
namespace Pf
open PySem L2 PyProof AC PySem.W
def Big (z : Int) : Prop := -(10 ^ 21 : Int) < z ∧ z < 10 ^ 21
theorem big_small {z : Int} (h : -100000 ≤ z ∧ z ≤ 100000) : Big z := ⟨Int.lt_of_lt_of_le (by decide : -(10 ^ 21 : Int) < -100000) h.1, Int.lt_of_le_of_lt h.2 (by decide)⟩
structure Sh2 (n : Nat) (d : PyData) : Prop where
  sh : d.showable = true
  nd : d.hasDict = false
  lv : d.leavesShort 30 = true
  bk : d.bulk ≤ n
theorem Sh2.mono {n m : Nat} {d : PyData} (h : Sh2 n d) (hm : n ≤ m) : Sh2 m d := ⟨h.sh, h.nd, h.lv, Nat.le_trans h.bk hm⟩
theorem sh2_int {i : Int} (h : Big i) : Sh2 0 (.int i) := by
  obtain ⟨h1, h2⟩ := h
  have hn : i.natAbs < 10 ^ 21 := by omega
  refine ⟨?_, rfl, ?_, Nat.le_refl _⟩
  · have : i.natAbs.log2 < 1920 := by
      by_cases h0 : i.natAbs = 0
      · rw [h0]; decide
      · refine (Nat.log2_lt h0).mpr (Nat.lt_of_lt_of_le (Nat.lt_of_lt_of_le hn (show 10 ^ 21 ≤ 2 ^ 70 by decide)) (Nat.pow_le_pow_right (by decide) (by decide)))
    exact decide_eq_true this
  · have e := int_text_length_le10 (k := 21) (by decide) hn
    refine decide_eq_true ?_
    show (Str.ofString (toString i)).length ≤ 30
    rw [ofString_length]
    exact Nat.le_trans e (by decide)
end Pf
set_option maxRecDepth 100000
set_option linter.all false
/-! SV3: rows done one by one. -/
namespace Pf
open PySem L2 PyProof AC
def posOf (names : List Str) (w : Str) : Nat := (names.findIdx? fun x => decide (x = w)).getD 0
def cellOf (names : List Str) (tab : List Row) (s : Int) (w : Str) : Int × Option Int := ((rowOf tab s)[posOf names w]?).getD (0, none)
def stepsR (names : List Str) (tab : List Row) : List Str → Int → List (Option Int) × Int
  | [], s => ([], s)
  | w :: ws, s => ((cellOf names tab s w).2 :: (stepsR names tab ws (cellOf names tab s w).1).1, (stepsR names tab ws (cellOf names tab s w).1).2)
theorem steps_len {names : List Str} {tab : List Row} : ∀ (row : List Str) (s : Int), (stepsR names tab row s).1.length = row.length
  | [], _ => rfl
  | w :: ws, s => by
    show ((stepsR names tab ws (cellOf names tab s w).1).1).length + 1 = _
    rw [steps_len ws, List.length_cons]
theorem idxO_S {xs : List Str} {y : Str} : idxO PyData.str PyData.str xs y = idxS xs y := by
  unfold idxO idxS
  congr 1
theorem pos_in {names : List Str} {w : Str} (h : w ∈ names) : idxS names w = some (posOf names w : Int) ∧ names[posOf names w]? = some w := by
  unfold idxS posOf
  cases e : names.findIdx? fun x => decide (x = w) with
  | none =>
    rw [List.findIdx?_eq_none_iff] at e
    have := e w h
    simp at this
  | some i =>
    refine ⟨rfl, ?_⟩
    obtain ⟨h1, h2, _⟩ := List.findIdx?_eq_some_iff_getElem.mp e
    have h2 : names[i] = w := by simpa using h2
    show names[i]? = _
    rw [List.getElem?_eq_getElem h1, h2]
theorem cell_in {names : List Str} {tab : List Row} {c m : Nat} (T : GoodTab c m tab) (gl : names.length = m) {w : Str} (hw : w ∈ names) {s : Int} (h0 : 0 ≤ s) (h : s < (c : Int)) :
    atI tab s = some (rowOf tab s) ∧ idxS names w = some (posOf names w : Int) ∧ atI (rowOf tab s) (posOf names w : Int) = some (cellOf names tab s w) ∧ 0 ≤ (cellOf names tab s w).1 ∧ (cellOf names tab s w).1 < (c : Int) ∧ cellOf names tab s w ∈ rowOf tab s := by
  obtain ⟨a1, a2⟩ := atI_line T h0 h
  obtain ⟨b1, b2⟩ := pos_in hw
  have hl := (T.row _ a2).1
  have hp : posOf names w < (rowOf tab s).length := by
    have := (List.getElem?_eq_some_iff.mp b2).1
    omega
  have hc : (rowOf tab s)[posOf names w]? = some (cellOf names tab s w) := by
    unfold cellOf
    rw [List.getElem?_eq_getElem hp]; rfl
  have hm := List.mem_of_getElem? hc
  have := (T.row _ a2).2 _ hm
  exact ⟨a1, b1, atI_get hc, this.1, this.2, hm⟩
theorem steps_at {names : List Str} {tab : List Row} {c m : Nat} (T : GoodTab c m tab) (gl : names.length = m) : ∀ {row : List Str} {s : Int}, (∀ w ∈ row, w ∈ names) → 0 ≤ s → s < (c : Int) → 0 ≤ (stepsR names tab row s).2 ∧ (stepsR names tab row s).2 < (c : Int)
  | [], s, _, h0, h => ⟨h0, h⟩
  | w :: ws, s, hr, h0, h => by
    obtain ⟨_, _, _, c1, c2, _⟩ := cell_in T gl (hr w List.mem_cons_self) h0 h
    exact steps_at (row := ws) T gl (fun x hx => hr x (List.mem_cons_of_mem _ hx)) c1 c2
theorem forL_steps {β ρ : Type} {names : List Str} {tab : List Row} {c m : Nat} (T : GoodTab c m tab) (gl : names.length = m) (mk : Int → List (Option Int) → β) {f : Str → β → Res (Out β ρ)}
    (hf : ∀ w s acc, w ∈ names → 0 ≤ s → s < (c : Int) → acc.length < 16777216 → f w (mk s acc) = .ok (.nx (mk (cellOf names tab s w).1 (acc ++ [(cellOf names tab s w).2])))) :
    ∀ {row : List Str} {s : Int} {acc : List (Option Int)}, (∀ w ∈ row, w ∈ names) → 0 ≤ s → s < (c : Int) → row.length + acc.length ≤ 16777216 → forL row f (mk s acc) = .ok (.nx (mk (stepsR names tab row s).2 (acc ++ (stepsR names tab row s).1)))
  | [], s, acc, _, _, _, _ => by
    show Res.ok (Out.nx (mk s acc)) = Res.ok (Out.nx (mk s (acc ++ [])))
    rw [List.append_nil]
  | w :: ws, s, acc, hr, h0, h, hl => by
    rw [List.length_cons] at hl
    have hw := hr w List.mem_cons_self
    obtain ⟨_, _, _, c1, c2, _⟩ := cell_in T gl hw h0 h
    show (f w (mk s acc)).bind (Out.seq (forL ws f)) = _
    rw [hf w s acc hw h0 h (by omega)]
    show forL ws f (mk _ (acc ++ [_])) = _
    rw [forL_steps (row := ws) T gl mk hf (fun x hx => hr x (List.mem_cons_of_mem _ hx)) c1 c2 (by rw [List.length_append, List.length_singleton]; omega)]
    show _ = Res.ok (Out.nx (mk (stepsR names tab ws (cellOf names tab s w).1).2 (acc ++ ((cellOf names tab s w).2 :: (stepsR names tab ws (cellOf names tab s w).1).1))))
    rw [List.append_assoc]
    rfl
theorem forL_skip {α β ρ : Type} {f : α → β → Res (Out β ρ)} {b : β} : ∀ {xs : List α}, (∀ x ∈ xs, f x b = .ok (.nx b)) → forL xs f b = .ok (.nx b)
  | [], _ => rfl
  | x :: xs, h => by
    show (f x b).bind (Out.seq (forL xs f)) = _
    rw [h x List.mem_cons_self]
    exact forL_skip fun y hy => h y (List.mem_cons_of_mem _ hy)
theorem run_eq {names : List Str} {tab : List Row} {c m : Nat} (T : GoodTab c m tab) (gl : names.length = m) {row : List Str} {s : Int} (hr : ∀ w ∈ row, w ∈ names) (h0 : 0 ≤ s) (h : s < (c : Int)) (hl : row.length ≤ 1000000) : F_Service_run ((((), names), tab), row, s) = .ok (stepsR names tab row s) := by
  unfold F_Service_run
  delta fb_Service_run
  dsimp only
  simp only [bok, Res.bind_assoc, seqN, seqR, mapN, mapRt, endR, ofS, id]
  have hlt : s < (tab.length : Int) := by rw [T.len]; exact h
  simp only [decide_eq_true h0, decide_eq_true hlt, if_true, bok, Bool.not_true, Bool.false_eq_true, if_false, seqN]
  rw [forL_skip fun x hx => ?_]
  · simp only [bok, seqN]
    rw [forL_steps T gl (fun s acc => ((((), names), tab), row, s, (), acc, (), ())) (fun w s acc hw h0 h ha => ?_) hr h0 h (by simp only [List.length_nil]; omega)]
    · simp only [bok, Res.bind_assoc, seqN, seqR, mapN, mapRt, endR, ofS, id, List.nil_append]
    · obtain ⟨a1, a2, a3, _⟩ := cell_in T gl hw h0 h
      dsimp only
      rw [a1, ofS, bok, a2, ofS, bok, a3, ofS, bok, appO_ok ha, ofS, bok]
  · simp only [decide_eq_true (hr x hx), Bool.not_true, Bool.false_eq_true, if_false, bok, mapN]
end Pf
set_option Elab.async false
set_option linter.all false
set_option maxRecDepth 100000
/-! OKL: steps through a long def, one at a time, without a look at the whole. -/
namespace Pf
open PySem L2 PyProof AC
section
variable {α β γ ρ : Type} {P : γ → Prop}
theorem ok_res {m : Res α} {x : α} {f : α → Res γ} (h : m = .ok x) (k : Ok (f x) P) : Ok (Res.bind m f) P := by rw [h, bok]; exact k
theorem ok_assoc {m : Res α} {f : α → Res β} {g : β → Res γ} (h : Ok (Res.bind m fun x => Res.bind (f x) g) P) : Ok (Res.bind (Res.bind m f) g) P := by rw [Res.bind_assoc]; exact h
theorem ok_ret {x : α} {f : α → Res γ} (k : Ok (f x) P) : Ok (Res.bind (.ok x) f) P := k
theorem ok_snb {β' : Type} {q : β} {g : β → Res (Out β' ρ)} {f : Out β' ρ → Res γ} (k : Ok (Res.bind (g q) f) P) : Ok (Res.bind (Out.seq g (.nx q)) f) P := k
theorem ok_at {xs : List α} {i : Int} {f : α → Res γ} (h0 : 0 ≤ i) (h1 : i < (xs.length : Int)) (k : ∀ z, z ∈ xs → xs[i.toNat]? = some z → Ok (f z) P) : Ok (Res.bind (ofO (atI xs i)) f) P := by
  obtain ⟨n, rfl⟩ := Int.eq_ofNat_of_zero_le h0
  have hn : n < xs.length := by omega
  have e := List.getElem?_eq_getElem hn
  rw [atI_get e, ofS, bok]
  exact k _ (List.getElem_mem hn) e
theorem nat_of {x : Int} {P : Prop} (h : 0 ≤ x) (k : ∀ m : Nat, x = (m : Int) → P) : P := k x.toNat (by omega)
theorem ok_rng {n : Nat} {i : Int} {f : List Int → Res γ} (e : i = (n : Int)) (h : n ≤ 16777216) (k : ∀ L : List Int, L.length = n → (∀ (k : Nat) x, L[k]? = some x → x = (k : Int) ∧ k < n) → Ok (f L) P) : Ok (Res.bind (rng1O i) f) P := by
  subst e
  rw [rng1_ok h, bok]
  exact k _ (intsFrom_len 0 n) fun k x hx => ints_get hx
theorem ok_ifF {c : Bool} {a b : Res α} {f : α → Res γ} (h : c = false) (k : Ok (Res.bind b f) P) : Ok (Res.bind (if c = true then a else b) f) P := by rw [h, if_neg Bool.false_ne_true]; exact k
theorem ok_iF {c : Bool} {a b : Res γ} (h : c = false) (k : Ok b P) : Ok (if c = true then a else b) P := by rw [h, if_neg Bool.false_ne_true]; exact k
theorem ok_iT {c : Bool} {a b : Res γ} (h : c = true) (k : Ok a P) : Ok (if c = true then a else b) P := by rw [h, if_pos rfl]; exact k
/-- a loop whose states are st a -/
theorem ok_forS {σ : Type} {xs : List α} {f : α → β → Res (Out β ρ)} {g : Out β ρ → Res γ} (st : σ → β) (Q : Nat → σ → Prop) (a0 : σ) (h0 : Q 0 a0) (hs : ∀ i x a, xs[i]? = some x → Q i a → Ok (f x (st a)) fun o => ∃ a', o = .nx (st a') ∧ Q (i + 1) a') (k : ∀ a, Q xs.length a → Ok (g (.nx (st a))) P) : Ok (Res.bind (forL xs f (st a0)) g) P := by
  refine ok_bind (ok_for (R := fun _ => False) (fun i s => ∃ a, s = st a ∧ Q i a) ⟨a0, rfl, h0⟩ ?_) ?_
  · rintro i x b hx ⟨a, rfl, ha⟩
    refine (hs i x a hx ha).imp ?_
    rintro o ⟨a', rfl, h'⟩
    exact ⟨a', rfl, h'⟩
  · rintro (s | r) hy
    · obtain ⟨a, rfl, ha⟩ := hy
      exact k a ha
    · exact hy.elim
theorem ok_mapS {σ δ : Type} {xs : List α} {f : α → β → Res (δ × β)} {g : List δ × β → Res γ} (st : σ → β) (Q : Nat → σ → Prop) (R : δ → Prop) (a0 : σ) (h0 : Q 0 a0) (hs : ∀ i x a, xs[i]? = some x → Q i a → Ok (f x (st a)) fun r => R r.1 ∧ ∃ a', r.2 = st a' ∧ Q (i + 1) a') (k : ∀ L a, L.length = xs.length → (∀ y ∈ L, R y) → Q xs.length a → Ok (g (L, st a)) P) : Ok (Res.bind (mapR xs f (st a0)) g) P := by
  refine ok_bind (ok_map (fun i s => ∃ a, s = st a ∧ Q i a) (fun _ y => R y) ⟨a0, rfl, h0⟩ ?_) ?_
  · rintro i x b hx ⟨a, rfl, ha⟩
    exact hs i x a hx ha
  · rintro ⟨L, s⟩ ⟨h1, h2, a, e, h3⟩
    have e : s = st a := e
    subst e
    exact k L a h1 (fun y hy => by
      obtain ⟨i, hi⟩ := List.mem_iff_getElem?.mp hy
      exact h2 i y hi) h3
theorem ok_bS {σ δ : Type} {m : Res (δ × β)} {g : δ × β → Res γ} (st : σ → β) (R : δ → σ → Prop) (h : Ok m fun r => ∃ a, r.2 = st a ∧ R r.1 a) (k : ∀ d a, R d a → Ok (g (d, st a)) P) : Ok (Res.bind m g) P := by
  refine ok_bind h ?_
  rintro ⟨d, s⟩ ⟨a, e, ha⟩
  have e : s = st a := e
  subst e
  exact k d a ha
theorem ok_nxS {σ : Type} {m : Res (Out β ρ)} {g : Out β ρ → Res γ} (st : σ → β) (R : σ → Prop) (h : Ok m fun o => ∃ a, o = .nx (st a) ∧ R a) (k : ∀ a, R a → Ok (g (.nx (st a))) P) : Ok (Res.bind m g) P := by
  refine ok_bind h ?_
  rintro _ ⟨a, rfl, ha⟩
  exact k a ha
end
end Pf
set_option Elab.async false
set_option linter.all false
set_option maxRecDepth 100000
set_option maxHeartbeats 4000000
/-! REX0: what is raised by runs. -/
namespace Pf
open PySem L2 PyProof AC PySem.W
theorem bexc {α β : Type} (e : Exn) (f : α → Res β) : Res.bind (.exc e) f = .exc e := Eq.trans rfl rfl
theorem run_state {names : List Str} {tab : List Row} {path : List Str} {s : Int} (h : ¬ (0 ≤ s ∧ s < (tab.length : Int))) : F_Service_run ((((), names), tab), path, s) = .exc ⟨"InvalidState", .int s⟩ := by
  unfold F_Service_run
  delta fb_Service_run
  dsimp only
  simp only [bok, Res.bind_assoc, seqN, seqR, mapN, mapRt, endR, ofS, id]
  have e : (if decide (0 ≤ s) = true then Res.ok (decide (s < (tab.length : Int))) else Res.ok false) = Res.ok false := by
    by_cases h0 : 0 ≤ s
    · rw [if_pos (decide_eq_true h0), decide_eq_false fun q => h ⟨h0, q⟩]
    · rw [if_neg (by simp [h0])]
  rw [e, bok, if_pos (show (!false) = true from rfl), bexc]
theorem forL_call {names : List Str} {β ρ : Type} {f : Str → β → Res (Out β ρ)} {b : β} (hok : ∀ w, w ∈ names → f w b = .ok (.nx b)) (hbad : ∀ w, w ∉ names → f w b = .exc ⟨"UnknownCall", .str w⟩) : ∀ {path : List Str} {w : Str} {r : List Str}, path.filter (fun x => !decide (x ∈ names)) = w :: r → forL path f b = .exc ⟨"UnknownCall", .str w⟩
  | [], w, r, h => nomatch h
  | x :: path, w, r, h => by
    unfold forL
    by_cases hx : x ∈ names
    · rw [List.filter_cons_of_neg (by simp [hx])] at h
      rw [hok x hx, bok, seqN]
      exact forL_call hok hbad h
    · rw [List.filter_cons_of_pos (by simp [hx])] at h
      cases h
      rw [hbad x hx, bexc]
theorem run_call {names : List Str} {tab : List Row} {path : List Str} {s : Int} {w : Str} {r : List Str} (h0 : 0 ≤ s) (h1 : s < (tab.length : Int)) (h : path.filter (fun x => !decide (x ∈ names)) = w :: r) : F_Service_run ((((), names), tab), path, s) = .exc ⟨"UnknownCall", .str w⟩ := by
  unfold F_Service_run
  delta fb_Service_run
  dsimp only
  simp only [bok, Res.bind_assoc, seqN, seqR, mapN, mapRt, endR, ofS, id]
  rw [if_pos (decide_eq_true h0), bok, decide_eq_true h1, if_neg (by simp), bok, seqN]
  dsimp only
  rw [forL_call (names := names) (fun x hx => by
    dsimp only
    rw [if_neg (by simp [hx]), bok, AC.mapN]) (fun x hx => by
    dsimp only
    rw [if_pos (by simp [hx]), bexc]) h, bexc, bexc]
end Pf
set_option maxRecDepth 100000
set_option linter.all false
namespace Pf
open PySem L2 PyProof AC
structure Kl (n : Nat) (w : List Int) : Prop where
  ex : ∃ a b c : Int, w = [a, b, c] ∧ 0 ≤ a ∧ 0 ≤ b ∧ b < 2 ^ 62 ∧ 0 ≤ c ∧ c ≤ n
theorem Kl.mono {n m : Nat} {w : List Int} (h : Kl n w) (hm : n ≤ m) : Kl m w := by
  obtain ⟨a, b, c, e, h1, h2, h3, h4, h5⟩ := h.ex
  exact ⟨a, b, c, e, h1, h2, h3, h4, by omega⟩
theorem powC {x : Int} {n : Nat} (h0 : 0 ≤ x) (h : x < 2 ^ n) (hn : 0 < n) (hl : n < 40000000) : powO x 3 = some (x ^ 3) := by
  have := log2_lt h0 h hn
  unfold powO
  rw [if_pos ⟨by decide, by unfold Builtin.Int.intBits; split <;> omega⟩]
  rfl
theorem lkit_ok {script : List Int} {place : Nat} (h : place < 2 ^ 30) : Ok (F__law_kit (script, (place : Int))) fun r => Kl 0 r := by
  unfold F__law_kit
  delta fb__law_kit
  dsimp only
  simp only [Res.bind_ok, Res.bind_assoc, Out.seq, Out.map, endV, ofO_some]
  have key : ∀ z : Int, Ok (Res.bind (ofO (mulO (if z < 0 then -z else z) 2)) fun x => Res.bind (ofO (modO (x + if decide (z < 0) = true then 1 else 0) 2305843009213693951)) fun x => Res.bind (ofO (powO 10 18)) fun x_1 => Res.bind (ofO (mulO z (if decide (x_1 ≤ z) = true then 1 else 0))) fun x_2 => Res.bind (ofO (mulO 1000003 (place : Int))) fun x_3 => Res.ok [x_2, x + x_3, 0]) fun r => Kl 0 r := fun z => by
    refine ok_ofO (mulO_small (by decide) (by decide)) ?_
    refine ok_ofO (modO_ok (by decide)) ?_
    refine ok_ofO (x := 10 ^ 18) (by rfl) ?_
    refine ok_ofO (mulO_small (by split <;> decide) (by split <;> decide)) ?_
    refine ok_ofO (mulO_smallL (by decide) (by decide)) ?_
    generalize hm : ((if z < 0 then -z else z) * 2 + if decide (z < 0) = true then (1 : Int) else 0) = m
    have h1 : 0 ≤ m % 2305843009213693951 := Int.emod_nonneg _ (by decide)
    have h2 : m % 2305843009213693951 < 2305843009213693951 := Int.emod_lt_of_pos _ (by decide)
    refine ⟨_, _, _, rfl, ?_, by omega, by omega, by omega, by omega⟩
    by_cases hz : (10 : Int) ^ 18 ≤ z
    · rw [decide_eq_true hz, if_pos rfl]; omega
    · rw [decide_eq_false hz, if_neg Bool.false_ne_true]; omega
  by_cases hp : (place : Int) < (script.length : Int)
  · simp only [decide_eq_true hp, if_true, Res.bind_assoc, Res.bind_ok]
    refine ok_ofO (atI_get (List.getElem?_eq_getElem (by omega))) ?_
    exact key script[place]
  · simp only [decide_eq_false hp, Bool.false_eq_true, if_false, Res.bind_assoc, Res.bind_ok]
    exact key 0
theorem toss_ok {n : Nat} {w : List Int} {m : Int} (hw : Kl n w) (hn : n < 2 ^ 40) (h0 : 0 < m) (hm : m < 2 ^ 200) : Ok (F__law_toss w m) fun r => 0 ≤ r.1 ∧ r.1 < m ∧ Kl (n + 1) r.2 := by
  obtain ⟨a, b, c, rfl, ha, hb, hb2, hc, hc2⟩ := hw.ex
  unfold F__law_toss
  delta fb__law_toss
  dsimp only
  simp only [Res.bind_ok, Res.bind_assoc, Out.seq, Out.map, endV, ofO_some]
  refine ok_ofO (x := a) rfl ?_
  simp only [decide_eq_true_eq]
  by_cases hp : 0 < a
  · rw [if_pos hp]
    simp only [Res.bind_ok, Res.bind_assoc, Out.seq, Out.map, endV, ofO_some]
    refine ok_ofO (x := a) rfl ?_
    refine ok_ofO (modO_ok h0) ?_
    refine ok_ofO (x := a) rfl ?_
    refine ok_ofO (divO_ok h0 hm (by decide) (by decide)) ?_
    refine ok_ofO (x := [a / m, b, c]) rfl ?_
    exact ⟨Int.emod_nonneg _ (by omega), Int.emod_lt_of_pos _ h0, a / m, b, c, rfl, Int.ediv_nonneg ha (by omega), hb, hb2, hc, by omega⟩
  · rw [if_neg hp]
    simp only [Res.bind_ok, Res.bind_assoc, Out.seq, Out.map, endV, ofO_some]
    refine ok_ofO (x := c) rfl ?_
    refine ok_ofO (x := [a, b, c + 1]) rfl ?_
    refine ok_ofO (x := b) rfl ?_
    refine ok_ofO (x := c + 1) rfl ?_
    have q1 : c + 1 < 2 ^ 41 := by omega
    have q0 : 0 ≤ c + 1 := by omega
    refine ok_ofO (mulO_smallL (by decide) (by decide)) ?_
    have p3 : b + 6700417 * (c + 1) < 2 ^ 70 := by omega
    refine ok_ofO (powC (n := 70) (by omega) p3 (by decide) (by decide)) ?_
    refine ok_ofO (x := c + 1) rfl ?_
    refine ok_ofO (mulO_smallL (by decide) (by decide)) ?_
    refine ok_ofO (modO_ok (by decide)) ?_
    refine ok_ofO (x := c + 1) rfl ?_
    refine ok_ofO (mulO_smallL (by decide) (by decide)) ?_
    generalize hz : ((b + 6700417 * (c + 1)) ^ 3 + 97 * (c + 1)) % 2305843009213693951 = z
    have r0 : 0 ≤ z := by rw [← hz]; exact Int.emod_nonneg _ (by decide)
    have r1 : z < 2305843009213693951 := by rw [← hz]; exact Int.emod_lt_of_pos _ (by decide)
    have p6 : z + 2971215073 * (c + 1) < 2 ^ 80 := by omega
    refine ok_ofO (powC (n := 80) (by omega) p6 (by decide) (by decide)) ?_
    refine ok_ofO (modO_ok (by decide)) ?_
    refine ok_ofO (divO_ok (m := 20) (by decide) (by decide) (by decide) (by decide)) ?_
    refine ok_ofO (modO_ok h0) ?_
    exact ⟨Int.emod_nonneg _ (by omega), Int.emod_lt_of_pos _ h0, a, b, c + 1, rfl, ha, hb, hb2, q0, by omega⟩
theorem at_ok {α : Type} {xs : List α} {v : Int} (h0 : 0 ≤ v) (h : v < (xs.length : Int)) : ∃ z, atI xs v = some z ∧ xs[v.toNat]? = some z := by
  obtain ⟨k, rfl⟩ := Int.eq_ofNat_of_zero_le h0
  have hk : k < xs.length := by omega
  exact ⟨xs[k], atI_get (List.getElem?_eq_getElem hk), by simpa using List.getElem?_eq_getElem hk⟩
/-- an answer is None or small -/
def SmallA (y : Option Int) : Prop := ∀ z, y = some z → -1000 ≤ z ∧ z ≤ 1000
end Pf
set_option maxRecDepth 100000
set_option linter.all false
namespace Pf
open PySem L2 PyProof AC
theorem abc_nat {k : Nat} (h : k < 26) : sAt abc (k : Int) = some (mk [97 + k]) := by
  have := abc_at (i := (k : Int)) (by omega) (by omega)
  rw [Int.toNat_natCast] at this
  exact this
theorem mod_ne {p a : Int} {i j : Nat} {q : Int} (hq : 0 < q) (h : ∀ d : Int, 0 < d → d < 12 → (p * d) % q ≠ 0) (hij : i < j) (hj : j < 12) : (a + p * (i : Int)) % q ≠ (a + p * (j : Int)) % q := fun e => by
  have := h ((j : Int) - (i : Int)) (by omega) (by omega)
  apply this
  have e2 : ((a + p * (j : Int)) - (a + p * (i : Int))) % q = 0 := by
    rw [Int.sub_emod, e, Int.sub_self, Int.zero_emod]
  have e3 : (a + p * (j : Int)) - (a + p * (i : Int)) = p * ((j : Int) - (i : Int)) := by rw [Int.mul_sub]; omega
  rw [e3] at e2
  exact e2
theorem one_of {k : Int} {u : Int} (hu : u ∈ ([1, 3, 5, 7, 11] : List Int)) : ∀ d : Int, 0 < d → d < 12 → (u * d) % 26 ≠ 0 := by
  intro d h0 h1
  simp only [List.mem_cons, List.not_mem_nil, or_false] at hu
  rcases hu with rfl | rfl | rfl | rfl | rfl <;> omega
theorem tags_ok {n m : Nat} {w : List Int} (hw : Kl n w) (hn : n + 100 < 2 ^ 40) (h1 : 1 ≤ m) (hm : m ≤ 12) : Ok (F__law_tags w (m : Int)) fun r => GoodN m r.1 ∧ Kl (n + 30) r.2 := by
  unfold F__law_tags
  delta fb__law_tags
  dsimp only
  simp only [bok, Res.bind_assoc, seqN, seqR, mapN, mapRt, endR, ofS, id]
  refine ok_bind (toss_ok hw (by omega) (by decide) (by decide)) ?_
  rintro ⟨way, w1⟩ ⟨a1, a2, a3⟩
  dsimp only at *
  refine ok_bind (toss_ok a3 (by omega) (by decide) (by decide)) ?_
  rintro ⟨at_, w2⟩ ⟨b1, b2, b3⟩
  dsimp only at *
  refine ok_bind (Q := fun r => r = (decide (way = 0) && decide ((m : Int) < 9))) ?_ ?_
  · by_cases hz : way = 0
    · simp only [decide_eq_true hz, if_true, Bool.true_and]; exact rfl
    · simp only [decide_eq_false hz, Bool.false_eq_true, if_false, Bool.false_and]; exact rfl
  rintro _ rfl
  obtain ⟨k0, rfl⟩ := Int.eq_ofNat_of_zero_le b1
  have hk0 : k0 < 26 := by omega
  by_cases q0 : (decide (way = 0) && decide ((m : Int) < 9)) = true
  · simp only [q0, if_true, Res.bind_assoc, rng1_ok (show m ≤ 16777216 by omega), bok, seqN, seqR, endR]
    have hm8 : m ≤ 8 := by
      rw [Bool.and_eq_true] at q0
      have := of_decide_eq_true q0.2
      omega
    refine ok_bind (ok_mapE (fun x => mk (List.replicate (x.toNat + 1) (97 + k0))) ?_) ?_
    · intro x hx
      obtain ⟨i, hi, e⟩ := List.mem_iff_getElem.mp hx
      obtain ⟨rfl, hi⟩ := ints_get (List.getElem?_eq_some_iff.mpr ⟨hi, e⟩)
      refine ok_ofO (abc_nat hk0) ?_
      rw [show ((i : Int) + 1) = ((i + 1 : Nat) : Int) by omega]
      have hr := rep_mk (c := 97 + k0) (n := i + 1) (by omega) (by omega) (by omega)
      rw [hr]
      rw [Int.toNat_natCast]
      exact rfl
    rintro _ rfl
    refine ⟨⟨by show List.length (List.map _ _) = m; rw [List.length_map, intsFrom_len], nodup_ints fun i j hij hj e => ?_, fun x hx => ?_⟩, b3.mono (by omega)⟩
    · have := mk_inj e
      have := congrArg List.length this
      simp at this
      omega
    · obtain ⟨y, hy, rfl⟩ := List.mem_map.mp hx
      obtain ⟨i, hi, e⟩ := List.mem_iff_getElem.mp hy
      obtain ⟨rfl, hi⟩ := ints_get (List.getElem?_eq_some_iff.mpr ⟨hi, e⟩)
      exact ⟨_, rfl, by simp, by simp; omega, fun c hc => by rw [List.eq_of_mem_replicate hc]; omega⟩
  · simp only [if_neg q0, bok, Res.bind_assoc, seqN, seqR, endR]
    by_cases q1 : way = 1
    · simp only [decide_eq_true q1, if_true, bok, Res.bind_assoc, seqN, seqR, endR, rng1_ok (show m ≤ 16777216 by omega)]
      refine ok_bind (ok_mapE (fun x => (TEXTS[(((k0 : Int) + 5 * x) % 12).toNat]?).getD "") ?_) ?_
      · intro x hx
        obtain ⟨i, hi, e⟩ := List.mem_iff_getElem.mp hx
        obtain ⟨rfl, hi⟩ := ints_get (List.getElem?_eq_some_iff.mpr ⟨hi, e⟩)
        refine ok_ofO (mulO_smallL (by decide) (by decide)) ?_
        refine ok_ofO (modO_ok (by decide)) ?_
        obtain ⟨u, hu, hg⟩ := at_ok (xs := TEXTS) (v := ((k0 : Int) + 5 * (i : Int)) % 12) (Int.emod_nonneg _ (by decide)) (Int.emod_lt_of_pos _ (by decide))
        refine ok_ofE hu ?_
        rw [hg]
        exact rfl
      rintro _ rfl
      have hat : ∀ i : Nat, ∃ u, TEXTS[(((k0 : Int) + 5 * (i : Int)) % 12).toNat]? = some u := fun i => by
        obtain ⟨u, hu, hg⟩ := at_ok (xs := TEXTS) (v := ((k0 : Int) + 5 * (i : Int)) % 12) (Int.emod_nonneg _ (by decide)) (Int.emod_lt_of_pos _ (by decide))
        exact ⟨u, hg⟩
      refine ⟨⟨by show List.length (List.map _ _) = m; rw [List.length_map, intsFrom_len], nodup_ints fun i j hij hj e => ?_, fun x hx => ?_⟩, b3.mono (by omega)⟩
      · obtain ⟨u, hu⟩ := hat i
        obtain ⟨v, hv⟩ := hat j
        rw [hu, hv] at e
        have e : u = v := e
        subst e
        have := nodup_get texts_nd hu hv
        have hne := mod_ne (p := 5) (a := (k0 : Int)) (i := i) (j := j) (q := 12) (by decide) (fun d h0 h1 => by omega) hij (by omega)
        have g1 := Int.emod_nonneg ((k0 : Int) + 5 * (i : Int)) (show (12 : Int) ≠ 0 by decide)
        have g2 := Int.emod_nonneg ((k0 : Int) + 5 * (j : Int)) (show (12 : Int) ≠ 0 by decide)
        omega
      · obtain ⟨y, hy, rfl⟩ := List.mem_map.mp hx
        obtain ⟨i, hi, e⟩ := List.mem_iff_getElem.mp hy
        obtain ⟨rfl, hi⟩ := ints_get (List.getElem?_eq_some_iff.mpr ⟨hi, e⟩)
        obtain ⟨u, hu⟩ := hat i
        rw [hu]
        exact texts_low u (List.mem_of_getElem? hu)
    · simp only [decide_eq_false q1, Bool.false_eq_true, if_false, bok, Res.bind_assoc, seqN, seqR, endR]
      refine ok_bind (toss_ok b3 (by omega) (by decide) (by decide)) ?_
      rintro ⟨z, w3⟩ ⟨c1, c2, c3⟩
      dsimp only at *
      obtain ⟨t, ht⟩ : ∃ t : Nat, 1 + z = (t : Int) := ⟨(1 + z).toNat, by omega⟩
      rw [ht, rng1_ok (show t ≤ 16777216 by omega)]
      simp only [bok]
      refine ok_bind (ok_map (fun i b => ∃ w' : List Int, b = (w', (m : Int), (), abc, way, (k0 : Int), (), (), (), (), (), ()) ∧ Kl (n + 3 + i) w') (fun _ y => ∃ c : Nat, y = mk [c] ∧ 97 ≤ c ∧ c ≤ 122) ⟨w3, rfl, c3⟩ ?_) ?_
      · rintro i x b hx ⟨w', rfl, h⟩
        have hi := (ints_get hx).2
        dsimp only
        refine ok_bind (toss_ok h (by omega) (by decide) (by decide)) ?_
        rintro ⟨u, v⟩ ⟨d1, d2, d3⟩
        dsimp only at *
        refine ok_ofO (abc_at d1 d2) ?_
        exact ⟨⟨97 + u.toNat, rfl, by omega, by omega⟩, v, rfl, d3⟩
      rintro ⟨parts, b⟩ ⟨l1, l2, w4, rfl, h4⟩
      rw [intsFrom_len] at l1 h4
      dsimp only at l1 l2 ⊢
      obtain ⟨l, hl, hlen, hch⟩ : ∃ l : List Nat, parts = l.map (fun c => mk [c]) ∧ l.length = t ∧ Chars l := by
        clear h4
        have key : ∀ (ps : List Str), (∀ y ∈ ps, ∃ c : Nat, y = mk [c] ∧ 97 ≤ c ∧ c ≤ 122) → ∃ l : List Nat, ps = l.map (fun c => mk [c]) ∧ l.length = ps.length ∧ Chars l := by
          intro ps
          induction ps with
          | nil => exact fun _ => ⟨[], rfl, rfl, fun c hc => by cases hc⟩
          | cons y ps ih =>
            intro h
            obtain ⟨c, e1, e2, e3⟩ := h y List.mem_cons_self
            obtain ⟨l, g1, g2, g3⟩ := ih fun z hz => h z (List.mem_cons_of_mem _ hz)
            exact ⟨c :: l, by rw [List.map_cons, e1, g1], by rw [List.length_cons, List.length_cons, g2], fun d hd => by
              rcases List.mem_cons.mp hd with rfl | hd
              · exact ⟨e2, e3⟩
              · exact g3 d hd⟩
        obtain ⟨l, g1, g2, g3⟩ := key parts fun y hy => by
          obtain ⟨i, hi, e⟩ := List.mem_iff_getElem.mp hy
          exact l2 i y (List.getElem?_eq_some_iff.mpr ⟨hi, e⟩)
        exact ⟨l, g1, by rw [g2, l1], g3⟩
      subst hl
      refine ok_ofO (joinO_mk hch (by omega)) ?_
      rw [mk_len, hlen]
      refine ok_bind (toss_ok h4 (by omega) (by omega) (by omega)) ?_
      rintro ⟨sp, w5⟩ ⟨d1, d2, d3⟩
      dsimp only at *
      refine ok_bind (toss_ok d3 (by omega) (by decide) (by decide)) ?_
      rintro ⟨pi, w6⟩ ⟨e1, e2, e3⟩
      dsimp only at *
      obtain ⟨pc, hpc, hpg⟩ := at_ok (xs := ([1, 3, 5, 7, 11] : List Int)) e1 e2
      have hpm := List.mem_of_getElem? hpg
      refine ok_ofO hpc ?_
      obtain ⟨s, rfl⟩ := Int.eq_ofNat_of_zero_le d1
      simp only [rng1_ok (show m ≤ 16777216 by omega), bok, endR]
      refine ok_bind (ok_mapE (fun x => mk (l.take s ++ [97 + (((k0 : Int) + pc * x) % 26).toNat] ++ l.drop (s + 1))) ?_) ?_
      · intro x hx
        obtain ⟨i, hi, e⟩ := List.mem_iff_getElem.mp hx
        obtain ⟨rfl, hi⟩ := ints_get (List.getElem?_eq_some_iff.mpr ⟨hi, e⟩)
        rw [cut_mk1 (by omega), show ((s : Int) + 1) = ((s + 1 : Nat) : Int) by omega, cut_mk2 (by omega)]
        have g1 := Int.emod_nonneg ((k0 : Int) + pc * (i : Int)) (show (26 : Int) ≠ 0 by decide)
        have g2 := Int.emod_lt_of_pos ((k0 : Int) + pc * (i : Int)) (show (0 : Int) < 26 by decide)
        have ch1 : Chars (l.take s) := fun c hc => hch c (List.mem_of_mem_take hc)
        have ch2 : Chars (l.drop (s + 1)) := fun c hc => hch c (List.mem_of_mem_drop hc)
        have ch3 : Chars [97 + (((k0 : Int) + pc * (i : Int)) % 26).toNat] := fun c hc => by
          have : c = 97 + (((k0 : Int) + pc * (i : Int)) % 26).toNat := by simpa using hc
          omega
        refine ok_ofO (okS_mk ch1 (by rw [List.length_take]; omega)) ?_
        refine ok_ofO (mulO_small (by omega) (by omega)) ?_
        refine ok_ofO (modO_ok (by decide)) ?_
        refine ok_ofO (abc_at g1 g2) ?_
        refine ok_ofO (add_mk ch1 ch3 (by rw [List.length_take, List.length_singleton]; omega)) ?_
        refine ok_ofO (okS_mk ch2 (by rw [List.length_drop]; omega)) ?_
        refine ok_ofE (add_mk (fun c hc => (List.mem_append.mp hc).elim (ch1 c) (ch3 c)) ch2 (by rw [List.length_append, List.length_take, List.length_singleton, List.length_drop]; omega)) ?_
        exact rfl
      rintro _ rfl
      refine ⟨⟨by show List.length (List.map _ _) = m; rw [List.length_map, intsFrom_len], nodup_ints fun i j hij hj e => ?_, fun x hx => ?_⟩, e3.mono (by omega)⟩
      · have e := mk_inj e
        rw [List.append_assoc, List.append_assoc] at e
        have e := List.append_cancel_left e
        have e : 97 + (((k0 : Int) + pc * (i : Int)) % 26).toNat = 97 + (((k0 : Int) + pc * (j : Int)) % 26).toNat := (List.cons.inj e).1
        have hne := mod_ne (p := pc) (a := (k0 : Int)) (i := i) (j := j) (q := 26) (by decide) (one_of (k := 0) hpm) hij (by omega)
        have g1 := Int.emod_nonneg ((k0 : Int) + pc * (i : Int)) (show (26 : Int) ≠ 0 by decide)
        have g2 := Int.emod_nonneg ((k0 : Int) + pc * (j : Int)) (show (26 : Int) ≠ 0 by decide)
        omega
      · obtain ⟨y, hy, rfl⟩ := List.mem_map.mp hx
        have g1 := Int.emod_nonneg ((k0 : Int) + pc * y) (show (26 : Int) ≠ 0 by decide)
        have g2 := Int.emod_lt_of_pos ((k0 : Int) + pc * y) (show (0 : Int) < 26 by decide)
        refine ⟨_, rfl, by simp; omega, by rw [List.length_append, List.length_append, List.length_take, List.length_singleton, List.length_drop]; omega, fun c hc => ?_⟩
        rcases List.mem_append.mp hc with hc | hc
        · rcases List.mem_append.mp hc with hc | hc
          · exact hch c (List.mem_of_mem_take hc)
          · have : c = 97 + (((k0 : Int) + pc * y) % 26).toNat := by simpa using hc
            omega
        · exact hch c (List.mem_of_mem_drop hc)
end Pf
set_option maxRecDepth 100000
set_option linter.all false
namespace Pf
open PySem L2 PyProof AC
theorem answer_ok {n : Nat} {w : List Int} (hw : Kl n w) (hn : n + 10 < 2 ^ 40) : Ok (F__law_answer w ()) fun r => SmallA r.1 ∧ Kl (n + 3) r.2 := by
  unfold F__law_answer
  delta fb__law_answer
  dsimp only
  simp only [Res.bind_ok, Res.bind_assoc, Out.seq, Out.map, endV, ofO_some]
  refine ok_bind (toss_ok hw (by omega) (by decide) (by decide)) ?_
  rintro ⟨z1, w1⟩ ⟨a1, a2, a3⟩
  dsimp only at *
  refine ok_bind (toss_ok a3 (by omega) (by decide) (by decide)) ?_
  rintro ⟨z2, w2⟩ ⟨b1, b2, b3⟩
  dsimp only at *
  refine ok_bind (toss_ok b3 (by omega) (by decide) (by decide)) ?_
  rintro ⟨z3, w3⟩ ⟨c1, c2, c3⟩
  dsimp only at *
  obtain ⟨u, hu, hg⟩ := at_ok (xs := [none, none, some 0, some 1, some (z1 - 2), some (z2 - 1000)]) c1 c2
  refine ok_ofO hu ?_
  refine ⟨fun z e => ?_, c3⟩
  have hm := List.mem_of_getElem? hg
  have e : u = some z := e
  rw [e] at hm
  simp only [List.mem_cons, List.not_mem_nil, or_false, reduceCtorEq, false_or, Option.some.injEq] at hm
  omega
abbrev Line := List (Int × Option Int)
abbrev GoodC (c : Nat) (col : Line) : Prop := col.length = c ∧ ∀ (i : Nat) (y : Int × Option Int), col[i]? = some y → (0 ≤ y.1 ∧ y.1 < (c : Int)) ∧ SmallA y.2
theorem and1 (x : Int) : Builtin.bitAnd x 1 = x % 2 := by
  have := PySem.W.kbt_mask x 1
  simpa using this
theorem smallS {z : Int} (h : -1000 ≤ z ∧ z ≤ 1000) : SmallA (some z) := fun y e => by cases e; exact h
theorem column_ok {n c : Nat} {w : List Int} (hw : Kl n w) (hn : n + 1000 < 2 ^ 40) (hc1 : 1 ≤ c) (hc2 : c ≤ 40) : Ok (F__law_column w (c : Int)) fun r => GoodC c r.1 ∧ Kl (n + 200) r.2 := by
  unfold F__law_column
  delta fb__law_column
  dsimp only
  simp only [bok, Res.bind_assoc, seqN, seqR, mapN, mapRt, endR, ofS, id, rng1_ok (show c ≤ 16777216 by omega)]
  refine ok_bind (toss_ok hw (by omega) (by decide) (by decide)) ?_
  rintro ⟨way, w1⟩ ⟨a1, a2, a3⟩
  refine ok_bind (toss_ok a3 (by omega) (by omega) (by omega)) ?_
  rintro ⟨goal, w2⟩ ⟨b1, b2, b3⟩
  dsimp only at *
  refine ok_bind (answer_ok b3 (by omega)) ?_
  rintro ⟨sh, w3⟩ ⟨s1, s2⟩
  dsimp only at *
  by_cases q1 : way = 0
  · simp only [decide_eq_true q1, if_true, bok, Res.bind_assoc, seqN, seqR, endR, rng1_ok (show c ≤ 16777216 by omega)]
    refine ok_bind (ok_mapQ (fun _ y => y = (goal, sh)) _ 0 ?_) ?_
    · intro i x hx
      exact rfl
    rintro col ⟨l1, l2⟩
    rw [intsFrom_len] at l1
    exact ⟨⟨l1, fun i y hy => by rw [l2 i y hy]; exact ⟨⟨b1, b2⟩, s1⟩⟩, s2.mono (by omega)⟩
  · simp only [decide_eq_false q1, Bool.false_eq_true, if_false, bok, Res.bind_assoc, seqN, seqR, endR]
    by_cases q2 : way = 1
    · simp only [decide_eq_true q2, if_true, bok, Res.bind_assoc, seqN, seqR, endR, rng1_ok (show c ≤ 16777216 by omega)]
      refine ok_bind (ok_mapQ (fun i (y : Int × Option Int) => (0 ≤ y.1 ∧ y.1 < (c : Int)) ∧ SmallA y.2) _ 0 ?_) ?_
      · intro i x hx
        obtain ⟨rfl, hi⟩ := ints_get hx
        refine ok_ofO (modO_ok (by decide)) ?_
        obtain ⟨u, hu, hg⟩ := at_ok (xs := [some (i : Int), some (if decide ((i : Int) = goal) = true then 1 else 0), sh]) (v := goal % 3) (Int.emod_nonneg _ (by decide)) (Int.emod_lt_of_pos _ (by decide))
        refine ok_ofO hu ?_
        refine ⟨by show 0 ≤ (i : Int) ∧ (i : Int) < _; omega, ?_⟩
        have hm := List.mem_of_getElem? hg
        simp only [List.mem_cons, List.not_mem_nil, or_false] at hm
        rcases hm with rfl | rfl | rfl
        · exact smallS (by omega)
        · exact smallS (by split <;> omega)
        · exact s1
      rintro col ⟨l1, l2⟩
      rw [intsFrom_len] at l1
      exact ⟨⟨l1, l2⟩, s2.mono (by omega)⟩
    · simp only [decide_eq_false q2, Bool.false_eq_true, if_false, bok, Res.bind_assoc, seqN, seqR, endR]
      by_cases q3 : way = 2
      · simp only [decide_eq_true q3, if_true, bok, Res.bind_assoc, seqN, seqR, endR, rng1_ok (show c ≤ 16777216 by omega)]
        refine ok_bind (ok_mapQ (fun i (y : Int × Option Int) => (0 ≤ y.1 ∧ y.1 < (c : Int)) ∧ SmallA y.2) _ 0 ?_) ?_
        · intro i x hx
          obtain ⟨rfl, hi⟩ := ints_get hx
          refine ok_ofO (modO_ok (by omega)) ?_
          rw [and1]
          obtain ⟨u, hu, hg⟩ := at_ok (xs := [sh, some (i : Int)]) (v := goal % 2) (Int.emod_nonneg _ (by decide)) (Int.emod_lt_of_pos _ (by decide))
          refine ok_ofO hu ?_
          refine ⟨⟨Int.emod_nonneg _ (by omega), Int.emod_lt_of_pos _ (by omega)⟩, ?_⟩
          have hm := List.mem_of_getElem? hg
          simp only [List.mem_cons, List.not_mem_nil, or_false] at hm
          rcases hm with rfl | rfl
          · exact s1
          · exact smallS (by omega)
        rintro col ⟨l1, l2⟩
        rw [intsFrom_len] at l1
        exact ⟨⟨l1, l2⟩, s2.mono (by omega)⟩
      · simp only [decide_eq_false q3, Bool.false_eq_true, if_false, bok, Res.bind_assoc, seqN, seqR, endR]
        by_cases q4 : way = 3
        · simp only [decide_eq_true q4, if_true, bok, Res.bind_assoc, seqN, seqR, endR, rng1_ok (show c ≤ 16777216 by omega)]
          refine ok_bind (ok_mapQ (fun i (y : Int × Option Int) => (0 ≤ y.1 ∧ y.1 < (c : Int)) ∧ SmallA y.2) _ 0 ?_) ?_
          · intro i x hx
            obtain ⟨rfl, hi⟩ := ints_get hx
            rw [and1]
            obtain ⟨u, hu, hg⟩ := at_ok (xs := [sh, some (if decide ((i : Int) = goal) = true then (1 : Int) else 0)]) (v := goal % 2) (Int.emod_nonneg _ (by decide)) (Int.emod_lt_of_pos _ (by decide))
            refine ok_ofO hu ?_
            refine ⟨by dsimp only; split <;> omega, ?_⟩
            have hm := List.mem_of_getElem? hg
            simp only [List.mem_cons, List.not_mem_nil, or_false] at hm
            rcases hm with rfl | rfl
            · exact s1
            · exact smallS (by split <;> omega)
          rintro col ⟨l1, l2⟩
          rw [intsFrom_len] at l1
          exact ⟨⟨l1, l2⟩, s2.mono (by omega)⟩
        · simp only [decide_eq_false q4, Bool.false_eq_true, if_false, bok, Res.bind_assoc, seqN, seqR, endR, rng1_ok (show c ≤ 16777216 by omega)]
          refine ok_bind (ok_map (fun i b => ∃ w' : List Int, b = (w', (c : Int), way, goal, sh, (), ()) ∧ Kl (n + 5 + 4 * i) w') (fun i y => (0 ≤ y.1 ∧ y.1 < (c : Int)) ∧ SmallA y.2) ⟨w3, rfl, s2⟩ ?_) ?_
          · rintro i x b hx ⟨w', rfl, h1⟩
            obtain ⟨rfl, hi⟩ := ints_get hx
            dsimp only
            refine ok_bind (toss_ok h1 (by omega) (by omega) (by omega)) ?_
            rintro ⟨z1, v1⟩ ⟨d1, d2, d3⟩
            dsimp only at *
            refine ok_bind (answer_ok d3 (by omega)) ?_
            rintro ⟨an, v2⟩ ⟨e1, e2⟩
            exact ⟨⟨⟨d1, d2⟩, e1⟩, v2, rfl, e2⟩
          rintro ⟨col, b⟩ ⟨l1, l2, w4, rfl, h4⟩
          rw [intsFrom_len] at l1 h4
          exact ⟨⟨l1, l2⟩, h4.mono (by omega)⟩
structure GoodG (n : Nat) (m : Nat) (tab : List Line) : Prop where
  len : tab.length = n
  row : ∀ r ∈ tab, r.length = m ∧ ∀ z ∈ r, (0 ≤ z.1 ∧ z.1 < (n : Int)) ∧ SmallA z.2
theorem grid_ok {n c m : Nat} {w : List Int} (hw : Kl n w) (hn : n + 10000 < 2 ^ 40) (hc1 : 1 ≤ c) (hc2 : c ≤ 40) (hm : m ≤ 12) : Ok (F__law_grid w ((c : Int), (m : Int))) fun r => GoodG c m r.1 ∧ Kl (n + 2400) r.2 := by
  unfold F__law_grid
  delta fb__law_grid
  dsimp only
  simp only [bok, Res.bind_assoc, seqN, seqR, mapN, mapRt, endR, ofS, id, rng1_ok (show m ≤ 16777216 by omega)]
  refine ok_bind (ok_map (fun i b => ∃ w' : List Int, b = (w', (c : Int), (m : Int), (), (), (), (), ()) ∧ Kl (n + 200 * i) w') (fun _ col => GoodC c col) ⟨w, rfl, hw⟩ ?_) ?_
  · rintro i x b hx ⟨w', rfl, h⟩
    obtain ⟨rfl, hi⟩ := ints_get hx
    dsimp only
    refine ok_bind (column_ok h (by omega) hc1 hc2) ?_
    rintro ⟨col, v⟩ ⟨d1, d2⟩
    exact ⟨d1, v, rfl, d2⟩
  rintro ⟨cols, b⟩ ⟨l1, l2, w3, rfl, h5⟩
  rw [intsFrom_len] at l1 h5
  dsimp only at l1 l2 ⊢
  simp only [rng1_ok (show c ≤ 16777216 by omega), bok]
  refine ok_bind (ok_mapPP (fun s => cols.map fun col => (col[s.toNat]?).getD (0, none)) ?_) ?_
  · intro s hs
    obtain ⟨i, hi, e⟩ := List.mem_iff_getElem.mp hs
    obtain ⟨rfl, hi⟩ := ints_get (List.getElem?_eq_some_iff.mpr ⟨hi, e⟩)
    refine mapP_ok (fun col => (col[i]?).getD (0, none)) ?_
    intro col hcol
    obtain ⟨j, hj, e⟩ := List.mem_iff_getElem.mp hcol
    have gc := l2 j col (List.getElem?_eq_some_iff.mpr ⟨hj, e⟩)
    have e1 : col[i]? = some col[i] := List.getElem?_eq_getElem (by have := gc.1; omega)
    rw [atI_get e1, e1]
    rfl
  rintro _ rfl
  refine ⟨⟨by show List.length (List.map _ _) = _; rw [List.length_map, intsFrom_len], fun r hr => ?_⟩, h5.mono (by omega)⟩
  obtain ⟨s, hs, rfl⟩ := List.mem_map.mp hr
  obtain ⟨i, hi, e⟩ := List.mem_iff_getElem.mp hs
  obtain ⟨rfl, hi⟩ := ints_get (List.getElem?_eq_some_iff.mpr ⟨hi, e⟩)
  refine ⟨by rw [List.length_map]; exact l1, fun z hz => ?_⟩
  obtain ⟨col, hcol, rfl⟩ := List.mem_map.mp hz
  obtain ⟨j, hj, e⟩ := List.mem_iff_getElem.mp hcol
  have gc := l2 j col (List.getElem?_eq_some_iff.mpr ⟨hj, e⟩)
  have e1 : col[i]? = some col[i] := List.getElem?_eq_getElem (by have := gc.1; omega)
  rw [show ((i : Int)).toNat = i from rfl, e1]
  exact gc.2 i _ e1
end Pf
set_option maxRecDepth 100000
set_option linter.all false
namespace Pf
open PySem L2 PyProof AC
theorem GoodG.tab {n m : Nat} {tab : List Line} (T : GoodG n m tab) : GoodTab n m tab := ⟨T.len, fun r hr => ⟨(T.row r hr).1, fun z hz => ((T.row r hr).2 z hz).1⟩⟩
theorem walked_eq {tab : List Row} {n m : Nat} (T : GoodTab n m tab) (hn : 0 < n) (hn2 : n ≤ 1000) (hm : m ≤ 1000) : F__law_walked tab = .ok (walkR tab) := by
  refine ok_eq ?_
  unfold F__law_walked
  delta fb__law_walked
  dsimp only
  have hl := T.len
  simp only [Res.bind_ok, Res.bind_assoc, Out.seq, Out.map, endV, ofO_some, rng1_ok (show tab.length ≤ 16777216 by omega)]
  obtain ⟨ix, hixd⟩ : ∃ ix : Int → Int, ix = ixR tab := ⟨_, rfl⟩
  have hix : ∀ (i : Nat) g, (ords tab n)[i]? = some g → ix g = (i : Int) := fun i g hg => by
    rw [hixd]
    exact ixR_at (by rw [hl]; exact hg)
  refine ok_bind (ok_for (R := fun _ => False) (fun i b => b = (tab, (), ords tab i, ((ords tab i).take i).map (fun s => (rowOf tab s).map fun z => (ix z.1, z.2)), (), (), (), ())) rfl ?_) ?_
  · rintro i x b hx rfl
    obtain ⟨rfl, hi⟩ := ints_get hx
    dsimp only
    have hlen := ords_len T hn i
    by_cases hc : i < (ords tab i).length
    · have hc' : ((i : Int) < ((ords tab i).length : Int)) := by omega
      simp only [decide_eq_true hc', if_true, Res.bind_assoc]
      have e1 : (ords tab i)[i]? = some (ords tab i)[i] := List.getElem?_eq_getElem hc
      generalize hs : (ords tab i)[i] = s at e1
      have e2 : ords tab (i + 1) = grow (ords tab i) (rowOf tab s) := by
        show (match (ords tab i)[i]? with
          | some s => grow (ords tab i) (rowOf tab s)
          | none => ords tab i) = _
        rw [e1]
      obtain ⟨s0, s1⟩ := ords_in T hn i s (List.mem_of_getElem? e1)
      obtain ⟨r1, r2⟩ := atI_line T s0 s1
      have rl := (T.row _ r2).1
      refine ok_ofO (atI_get e1) ?_
      refine ok_ofO r1 ?_
      refine ok_bind (ok_for (R := fun _ => False) (fun j b => b = (tab, (i : Int), grow (ords tab i) ((rowOf tab s).take j), ((ords tab i).take i).map (fun s => (rowOf tab s).map fun z => (ix z.1, z.2)), ((rowOf tab s).take j).map (fun z => (ix z.1, z.2)), (), (), ())) rfl ?_) ?_
      · rintro j z b hz rfl
        have hj := (List.getElem?_eq_some_iff.mp hz).1
        have ht : (rowOf tab s).take (j + 1) = (rowOf tab s).take j ++ [z] := by rw [List.take_succ, hz]; rfl
        dsimp only
        rw [ht, grow_snoc, List.map_append]
        have gin : ∀ l : Row, (∀ z ∈ l, z ∈ rowOf tab s) → (grow (ords tab i) l).length ≤ n := fun l hl => in_len (grow_nd (ords_nd tab i)) (grow_mem (P := fun x => 0 ≤ x ∧ x < (n : Int)) (ords_in T hn i) (fun z hz => row_in T z (hl z hz)))
        have hb := gin ((rowOf tab s).take j) fun z hz => List.mem_of_mem_take hz
        have hpre : grow (ords tab i) ((rowOf tab s).take (j + 1)) <+: ords tab n := by
          refine List.IsPrefix.trans ?_ (ords_pre tab (show i + 1 ≤ n by omega))
          rw [e2]
          have : rowOf tab s = (rowOf tab s).take (j + 1) ++ (rowOf tab s).drop (j + 1) := (List.take_append_drop _ _).symm
          generalize (rowOf tab s).take (j + 1) = l1 at this ⊢
          generalize (rowOf tab s).drop (j + 1) = l2 at this
          rw [this]
          unfold grow
          rw [List.foldl_append]
          exact grow_pre l2 _
        rw [ht, grow_snoc] at hpre
        have hin : z.1 ∈ stp (grow (ords tab i) ((rowOf tab s).take j)) z := by
          unfold stp; split
          · assumption
          · exact List.mem_append_right _ List.mem_cons_self
        have nd1 : (stp (grow (ords tab i) ((rowOf tab s).take j)) z).Nodup := stp_nd (grow_nd (ords_nd tab i))
        have hidx : idxO PyData.int PyData.int (stp (grow (ords tab i) ((rowOf tab s).take j)) z) z.1 = some (ix z.1) := by
          obtain ⟨k, hk, e⟩ := List.mem_iff_getElem.mp hin
          have h1 := List.getElem?_eq_some_iff.mpr ⟨hk, e⟩
          rw [idx_at eqvt_int nd1 h1, hix k z.1 (pre_get hpre h1)]
        refine ok_bind (Q := fun o => o = .nx (tab, (i : Int), stp (grow (ords tab i) ((rowOf tab s).take j)) z, ((ords tab i).take i).map (fun s => (rowOf tab s).map fun z => (ix z.1, z.2)), ((rowOf tab s).take j).map (fun z => (ix z.1, z.2)), z.1, z.2, ())) ?_ ?_
        · unfold stp
          by_cases hm : z.1 ∈ grow (ords tab i) ((rowOf tab s).take j)
          · simp only [decide_eq_true hm, Bool.not_true, Bool.false_eq_true, if_false, if_pos hm]
            exact rfl
          · simp only [decide_eq_false hm, Bool.not_false, if_true, if_neg hm]
            refine ok_ofO (appO_ok (by omega)) ?_
            exact rfl
        · rintro _ rfl
          refine ok_bind (Q := fun o => o = .nx (tab, (i : Int), stp (grow (ords tab i) ((rowOf tab s).take j)) z, ((ords tab i).take i).map (fun s => (rowOf tab s).map fun z => (ix z.1, z.2)), ((rowOf tab s).take j).map (fun z => (ix z.1, z.2)) ++ [(ix z.1, z.2)], z.1, z.2, ())) ?_ (fun o ho => by subst ho; exact rfl)
          refine ok_ofO hidx ?_
          refine ok_ofO (appO_ok (by rw [List.length_map, List.length_take]; omega)) ?_
          exact rfl
      · rintro (b | r) hy
        · have hy : b = (tab, (i : Int), grow (ords tab i) ((rowOf tab s).take (rowOf tab s).length), ((ords tab i).take i).map (fun s => (rowOf tab s).map fun z => (ix z.1, z.2)), ((rowOf tab s).take (rowOf tab s).length).map (fun z => (ix z.1, z.2)), (), (), ()) := hy
          subst hy
          rw [List.take_length, ← e2]
          have e3 := pre_get (ords_pre1 tab i) e1
          have t1 : (ords tab (i + 1)).take (i + 1) = (ords tab i).take i ++ [s] := by
            rw [List.take_succ, e3]
            obtain ⟨t, ht⟩ := ords_pre1 tab i
            rw [← ht, List.take_append_of_le_length (by omega)]
            rfl
          rw [t1, List.map_append]
          refine ok_bind (Q := fun o => o = .nx (tab, (i : Int), ords tab (i + 1), ((ords tab i).take i).map (fun s => (rowOf tab s).map fun z => (ix z.1, z.2)) ++ [(rowOf tab s).map fun z => (ix z.1, z.2)], (rowOf tab s).map (fun z => (ix z.1, z.2)), (), (), ())) ?_ (fun o ho => by subst ho; exact rfl)
          refine ok_ofO (appO_ok (by rw [List.length_map, List.length_take]; omega)) ?_
          exact rfl
        · exact hy.elim
    · have hc' : ¬ ((i : Int) < ((ords tab i).length : Int)) := by omega
      simp only [decide_eq_false hc', Bool.false_eq_true, if_false, Res.bind_ok]
      have e2 := ords_stop (tab := tab) (j := i) (by omega) (i + 1) (by omega)
      rw [e2, List.take_of_length_le (by omega), List.take_of_length_le (by omega)]
      exact rfl
  · rintro (b | r) hy
    · have hy : b = (tab, (), ords tab (intsFrom 0 tab.length).length, ((ords tab (intsFrom 0 tab.length).length).take (intsFrom 0 tab.length).length).map (fun s => (rowOf tab s).map fun z => (ix z.1, z.2)), (), (), (), ()) := hy
      rw [intsFrom_len, hl] at hy
      have hlen := ords_len T hn n
      rw [List.take_of_length_le hlen] at hy
      subst hy
      show List.map _ _ = walkR tab
      unfold walkR
      rw [hl, ← hixd]
    · exact hy.elim
theorem walk_good {tab : List Row} {n m : Nat} (T : GoodG n m tab) (hn : 0 < n) : GoodG (walkR tab).length m (walkR tab) := ⟨rfl, fun r hr => by
  obtain ⟨h1, h2⟩ := walk_row (P := fun _ => True) (Q := SmallA) T.tab hn (fun r hr z hz => ((T.row r hr).2 z hz).2) r hr
  exact ⟨h1, h2⟩⟩
end Pf
set_option Elab.async false
set_option linter.all false
set_option maxRecDepth 100000
/-! SHA: what is shown by signs from the blank on: short, also shown twice. -/
namespace Pf
open PySem L2 PyProof AC PySem.W
def Asc (s : Str) : Prop := ∀ c ∈ s.cps.toList, 32 ≤ c ∧ c < 127
theorem asc_add {a b : Str} (ha : Asc a) (hb : Asc b) : Asc (a ++ b) := fun c hc => by
  have e : (a ++ b).cps.toList = a.cps.toList ++ b.cps.toList := by
    show (a.cps ++ b.cps).toList = _
    simp
  rw [e] at hc
  exact (List.mem_append.mp hc).elim (ha c) (hb c)
theorem asc_of {s : Str} (h : (s.cps.toList.all fun c => decide (32 ≤ c) && decide (c < 127)) = true) : Asc s := fun c hc => by
  have := List.all_eq_true.mp h c hc
  simpa using this
theorem asc_from : ∀ (ts : List Str) (k : Nat) (acc : Str), Asc acc → (∀ t ∈ ts, Asc t) → Asc (textFrom k acc ts)
  | [], _, _, h, _ => h
  | t :: ts, k, acc, h, q => asc_from ts (k + 1) _ (asc_add (asc_add h (by split <;> exact asc_of (by decide +kernel))) (q t List.mem_cons_self)) fun u hu => q u (List.mem_cons_of_mem _ hu)
theorem from_len : ∀ (ts : List Str) (k : Nat) (acc : Str), (textFrom k acc ts).length ≤ acc.length + piled ts
  | [], _, _ => Nat.le_add_right _ _
  | t :: ts, k, acc => by
    have ih := from_len ts (k + 1) (acc ++ (if k > 0 then ", " else "" : String) ++ t)
    have e : (acc ++ (if k > 0 then ", " else "" : String) ++ t).length ≤ acc.length + 2 + t.length := by
      rw [strLen_append, strLen_append]
      have : (Str.ofString (if k > 0 then ", " else "" : String)).length ≤ 2 := by split <;> decide +kernel
      omega
    rw [piled_cons]
    show (textFrom (k + 1) _ ts).length ≤ _
    omega
theorem asc_listText {ts : List Str} (h : ∀ t ∈ ts, Asc t) : Asc (listText ts) := asc_add (asc_from ts 0 _ (asc_of (by decide +kernel)) h) (asc_of (by decide +kernel))
theorem len_listText {ts : List Str} : (listText ts).length ≤ piled ts + 2 := by
  have h := from_len ts 0 (Str.ofString "[")
  have e1 : (Str.ofString "[").length = 1 := by decide +kernel
  have e2 : (Str.ofString "]").length = 1 := by decide +kernel
  unfold listText
  rw [strLen_append]
  omega
theorem asc_join : ∀ {ts : List Str}, (∀ t ∈ ts, Asc t) → Asc (Str.join ", " ts)
  | [], _ => asc_of (by decide +kernel)
  | [x], h => h x List.mem_cons_self
  | x :: y :: r, h => asc_add (asc_add (h x List.mem_cons_self) (asc_of (by decide +kernel))) (asc_join fun t ht => h t (List.mem_cons_of_mem _ ht))
theorem asc_tupleText {ts : List Str} (h : ∀ t ∈ ts, Asc t) : Asc (tupleText ts) := asc_add (asc_add (asc_of (by decide +kernel)) (asc_join h)) (by split <;> exact asc_of (by decide +kernel))
theorem len_tupleText {ts : List Str} : (tupleText ts).length ≤ piled ts + 3 := by
  have e1 : (Str.ofString "(").length = 1 := by decide +kernel
  have e2 : (Str.ofString (if ts.length == 1 then ",)" else ")" : String)).length ≤ 2 := by split <;> decide +kernel
  have e3 : (Str.join ", " ts).length ≤ piled ts := by
    cases ts with
    | nil => exact Nat.zero_le _
    | cons x r => have := join_length_add (x :: r) (by simp); omega
  unfold tupleText
  rw [strLen_append, strLen_append]
  omega
theorem chr_asc {q c : Nat} (hq : 32 ≤ q ∧ q < 127) (h : 32 ≤ c ∧ c < 127) : (∀ d ∈ Builtin.Str.reprChar q c, 32 ≤ d ∧ d < 127) ∧ (Builtin.Str.reprChar q c).length ≤ 2 := by
  have hp : Unicode.isPrintable c = true := by
    have key : ∀ c : Fin 127, 32 ≤ c.val → Unicode.isPrintable c.val = true := by decide +kernel
    exact key ⟨c, h.2⟩ h.1
  unfold Builtin.Str.reprChar
  dsimp only
  rw [hp]
  by_cases e : (c == q || c == 92) = true
  · rw [if_pos e]
    exact ⟨fun d hd => by
      rcases List.mem_cons.mp hd with rfl | hd
      · omega
      · rw [List.mem_singleton.mp hd]; exact h, Nat.le_refl _⟩
  · rw [if_neg e, if_neg (by simp; omega), if_neg (by simp; omega), if_neg (by simp; omega), if_pos rfl]
    exact ⟨fun d hd => by rw [List.mem_singleton.mp hd]; exact h, by simp⟩
theorem fold_asc (q : Nat) (hq : 32 ≤ q ∧ q < 127) : ∀ (l : List Nat) (acc : Array Nat), (∀ c ∈ l, 32 ≤ c ∧ c < 127) → (∀ c ∈ acc.toList, 32 ≤ c ∧ c < 127) →
    (∀ c ∈ (l.foldl (fun out c => out ++ (Builtin.Str.reprChar q c).toArray) acc).toList, 32 ≤ c ∧ c < 127) ∧ (l.foldl (fun out c => out ++ (Builtin.Str.reprChar q c).toArray) acc).size ≤ acc.size + 2 * l.length
  | [], acc, _, h => ⟨h, Nat.le_refl _⟩
  | c :: r, acc, hl, h => by
    obtain ⟨h1, h2⟩ := chr_asc hq (hl c List.mem_cons_self)
    obtain ⟨g1, g2⟩ := fold_asc q hq r (acc ++ (Builtin.Str.reprChar q c).toArray) (fun d hd => hl d (List.mem_cons_of_mem _ hd)) fun d hd => by
      have hd : d ∈ acc.toList ++ Builtin.Str.reprChar q c := by simpa using hd
      exact (List.mem_append.mp hd).elim (h d) (h1 d)
    refine ⟨g1, ?_⟩
    simp only [List.foldl_cons, List.length_cons]
    simp only [Array.size_append, List.size_toArray] at g2
    omega
theorem asc_repr {x : Str} (h : Asc x) : Asc (reprText x) ∧ (reprText x).length ≤ 2 * x.length + 2 := by
  have hq : 32 ≤ reprQuote x ∧ reprQuote x < 127 := by unfold reprQuote; split <;> omega
  obtain ⟨h1, h2⟩ := fold_asc (reprQuote x) hq x.cps.toList #[reprQuote x] h fun c hc => by
    have : c = reprQuote x := by simpa using hc
    rw [this]; exact hq
  unfold reprText
  rw [← Array.foldl_toList]
  refine ⟨fun c hc => ?_, ?_⟩
  · have hc : c ∈ (x.cps.toList.foldl (fun out c => out ++ (Builtin.Str.reprChar (reprQuote x) c).toArray) #[reprQuote x]).toList ++ [reprQuote x] := by simpa using hc
    rcases List.mem_append.mp hc with q | q
    · exact h1 c q
    · rw [List.mem_singleton.mp q]; exact hq
  · show ((x.cps.toList.foldl (fun out c => out ++ (Builtin.Str.reprChar (reprQuote x) c).toArray) #[reprQuote x]).push (reprQuote x)).size ≤ _
    rw [Array.size_push]
    have e : x.cps.toList.length = x.length := by simp [Str.length]
    have e1 : (#[reprQuote x] : Array Nat).size = 1 := rfl
    omega
/-- shown by such signs, so short -/
structure Sp (n : Nat) (d : PyData) : Prop where
  sh : d.showable = true
  nd : d.hasDict = false
  as : Asc d.shown
  ln : d.shown.length ≤ n
theorem Sp.mono {n m : Nat} {d : PyData} (h : Sp n d) (hm : n ≤ m) : Sp m d := ⟨h.sh, h.nd, h.as, Nat.le_trans h.ln hm⟩
theorem Sp.repr {n : Nat} {d : PyData} (h : Sp n d) (hn : n ≤ 16777216) : reprO d = some d.shown := by
  unfold reprO
  rw [if_pos ⟨h.sh, h.nd, by rw [show sizeLine = 16777216 from line_eq]; have := h.ln; omega⟩]
theorem sp_none : Sp 4 .none := ⟨rfl, rfl, asc_of (by decide +kernel), by decide +kernel⟩
theorem sp_bool {b : Bool} : Sp 5 (.bool b) := by cases b <;> exact ⟨rfl, rfl, asc_of (by decide +kernel), by decide +kernel⟩
theorem sp_str {x : Str} {n : Nat} (h : Asc x) (hl : 2 * x.length + 2 ≤ n) : Sp n (.str x) := ⟨rfl, rfl, by simp only [PyData.shown]; exact (asc_repr h).1, by simp only [PyData.shown]; exact Nat.le_trans (asc_repr h).2 hl⟩
theorem Sp.text {n : Nat} {d : PyData} (h : Sp n d) : Sp (2 * n + 2) (.str d.shown) := sp_str h.as (by have := h.ln; omega)
theorem sp_all {n : Nat} : ∀ {ds : List PyData}, (∀ d ∈ ds, Sp n d) → PyData.showableAll ds = true ∧ PyData.hasDictAll ds = false ∧ (∀ t ∈ PyData.shownAll ds, Asc t) ∧ piled (PyData.shownAll ds) ≤ (n + 2) * ds.length
  | [], _ => ⟨by simp [PyData.showableAll], by simp [PyData.hasDictAll], by simp [PyData.shownAll], by simp [PyData.shownAll, piled]⟩
  | d :: ds, h => by
    obtain ⟨h1, h2, h3, h4⟩ := h d List.mem_cons_self
    obtain ⟨g1, g2, g3, g4⟩ := sp_all (ds := ds) fun y hy => h y (List.mem_cons_of_mem _ hy)
    refine ⟨by simp only [PyData.showableAll, h1, g1, Bool.and_self], by simp only [PyData.hasDictAll, h2, g2, Bool.or_self], fun t ht => ?_, ?_⟩
    · simp only [PyData.shownAll] at ht
      rcases List.mem_cons.mp ht with rfl | ht
      · exact h3
      · exact g3 t ht
    · simp only [PyData.shownAll, piled_cons, List.length_cons, Nat.mul_add, Nat.mul_one]
      omega
theorem sp_list {n k : Nat} {ds : List PyData} (h : ∀ d ∈ ds, Sp n d) (hk : ds.length ≤ k) : Sp ((n + 2) * k + 2) (.list ds) := by
  obtain ⟨h1, h2, h3, h4⟩ := sp_all h
  have h5 : (n + 2) * ds.length ≤ (n + 2) * k := Nat.mul_le_mul_left _ hk
  refine ⟨by simpa only [PyData.showable] using h1, by simpa only [PyData.hasDict] using h2, by simp only [PyData.shown]; exact asc_listText h3, ?_⟩
  simp only [PyData.shown]
  have := len_listText (ts := PyData.shownAll ds)
  omega
theorem sp_tup {n k : Nat} {ds : List PyData} (h : ∀ d ∈ ds, Sp n d) (hk : ds.length ≤ k) : Sp ((n + 2) * k + 3) (.tuple ds) := by
  obtain ⟨h1, h2, h3, h4⟩ := sp_all h
  have h5 : (n + 2) * ds.length ≤ (n + 2) * k := Nat.mul_le_mul_left _ hk
  refine ⟨by simpa only [PyData.showable] using h1, by simpa only [PyData.hasDict] using h2, by simp only [PyData.shown]; exact asc_tupleText h3, ?_⟩
  simp only [PyData.shown]
  have := len_tupleText (ts := PyData.shownAll ds)
  omega
theorem asc_int (i : Int) : Asc (Str.ofString (toString i)) := fun c hc => by
  rw [Str.ofString_eq_toList] at hc
  have hc : c ∈ (toString i).toList.map Char.toNat := by simpa using hc
  obtain ⟨ch, h1, rfl⟩ := List.mem_map.mp hc
  rcases PyProof.Rows.int_sign i ch h1 with h | h
  · have := PyProof.Rows.digit_range h
    omega
  · subst h; decide
theorem sp_int {i : Int} (h : Big i) : Sp 30 (.int i) := by
  have h2 := sh2_int h
  refine ⟨h2.sh, h2.nd, ?_, ?_⟩
  · simp only [PyData.shown]
    exact asc_int i
  · have h3 := h2.lv
    simpa only [PyData.leavesShort, decide_eq_true_eq] using h3
structure AsW (w : Str) : Prop where
  asc : Asc w
  len : w.length ≤ 9
  lay : (PyData.str w).canLay0 = true
theorem asw_mk {l : List Nat} (h : Chars l) (hl : l.length ≤ 9) : AsW (mk l) := by
  have e : (mk l).cps.toList = l := by simp [mk]
  refine ⟨fun c hc => ?_, by rw [mk_len]; exact hl, ?_⟩
  · rw [e] at hc
    have := h c hc
    omega
  · show (mk l).cps.all (· < 0x110000) = true
    rw [Array.all_eq_true_iff_forall_mem]
    intro c hcm
    have : c ∈ l := by simpa [mk] using hcm
    exact decide_eq_true (by have := h c this; omega)
theorem low_asw {w : Str} (h : Low w) : AsW w := by
  obtain ⟨l, rfl, _, h2, hc⟩ := h.ex
  exact asw_mk hc (by omega)
theorem AsW.sp {w : Str} (h : AsW w) : Sp 20 (.str w) := sp_str h.asc (by have := h.len; omega)
theorem sp_pr {n : Nat} {a b : PyData} (ha : Sp n a) (hb : Sp n b) : Sp ((n + 2) * 2 + 3) (.tuple [a, b]) := sp_tup (fun d hd => by
  rcases List.mem_cons.mp hd with rfl | hd
  · exact ha
  · rw [List.mem_singleton.mp hd]; exact hb) (Nat.le_refl 2)
theorem sp_map {α : Type} {t : α → PyData} {xs : List α} {n k : Nat} (h : ∀ x ∈ xs, Sp n (t x)) (hk : xs.length ≤ k) : Sp ((n + 2) * k + 2) (.list (xs.map t)) := sp_list (fun d hd => by
  obtain ⟨x, hx, rfl⟩ := List.mem_map.mp hd
  exact h x hx) (by rw [List.length_map]; exact hk)
theorem sp_three {n : Nat} {a b c : PyData} (ha : Sp n a) (hb : Sp n b) (hc : Sp n c) : Sp ((n + 2) * 3 + 2) (.list [a, b, c]) := sp_list (fun d hd => by
  rcases List.mem_cons.mp hd with rfl | hd
  · exact ha
  rcases List.mem_cons.mp hd with rfl | hd
  · exact hb
  rw [List.mem_singleton.mp hd]; exact hc) (Nat.le_refl 3)
end Pf
set_option Elab.async false
set_option linter.all false
set_option maxRecDepth 100000
/-! K06W: words that are no names. -/
namespace Pf
open PySem L2 PyProof AC PySem.W
theorem asw_of {w : Str} (h : Asc w) (hl : w.length ≤ 9) : AsW w := ⟨h, hl, by
  show w.cps.all (· < 0x110000) = true
  rw [Array.all_eq_true_iff_forall_mem]
  intro c hcm
  exact decide_eq_true (by have := h c (by simpa using hcm); omega)⟩
theorem AsW.okS {w : Str} (h : AsW w) : okS w = some w := by
  unfold AC.okS
  have h1 : PyData.strOk w = true := h.lay
  have h2 := h.len
  rw [if_pos ⟨h1, by omega⟩]
theorem asw_add {a b : Str} (ha : Asc a) (hb : Asc b) (hl : a.length + b.length ≤ 9) : addSO a b = some (a ++ b) ∧ AsW (a ++ b) := by
  have h : AsW (a ++ b) := asw_of (asc_add ha hb) (by rw [strLen_append]; exact hl)
  refine ⟨?_, h⟩
  unfold addSO
  rw [if_pos (by omega), h.okS]
theorem asc_sub {a b : Str} (h : ∀ c ∈ b.cps.toList, c ∈ a.cps.toList) (ha : Asc a) : Asc b := fun c hc => ha c (h c hc)
theorem low_len {w : Str} (h : Low w) : w.length ≤ 8 := by
  obtain ⟨l, rfl, _, h2, _⟩ := h.ex
  rw [mk_len]; exact h2
theorem low_cut {w : Str} (h : Low w) : ∃ z, AC.okS (cutS w none (some (-1))) = some z ∧ AsW z := by
  obtain ⟨l, rfl, h1, h2, hc⟩ := h.ex
  have e : AsW (cutS (mk l) none (some (-1))) := asw_of (asc_sub (a := mk l) (fun c hm => by
    unfold cutS at hm
    simp only [List.toList_toArray] at hm
    exact List.mem_of_mem_drop (List.mem_of_mem_take hm)) (low_asw h).asc) (Nat.le_trans (cutS_length _ _ _) (low_asw h).len)
  exact ⟨_, e.okS, e⟩
theorem low_rev {w : Str} (h : Low w) : ∃ z, AC.okS (revS w) = some z ∧ AsW z := by
  have e : AsW (revS w) := by
    refine asw_of (asc_sub (a := w) (fun c hm => ?_) (low_asw h).asc) ?_
    · unfold revS at hm
      simp only [List.toList_toArray] at hm
      obtain ⟨i, _, hi⟩ := List.mem_filterMap.mp hm
      have := Array.mem_of_getElem? hi
      simpa using this
    · unfold revS
      show (List.toArray _).size ≤ 9
      rw [List.size_toArray]
      refine Nat.le_trans (List.length_filterMap_le _ _) ?_
      have hl := low_len h
      unfold Builtin.Str.strSliceIndices sliceRange
      dsimp only
      rw [List.length_map, List.length_range, if_neg (show ¬ ((-1 : Int) > 0) by decide), if_neg (show ¬ ((-1 : Int) > 0) by decide), if_neg (show ¬ ((-1 : Int) > 0) by decide)]
      split
      · rw [show - (-1 : Int) = 1 from rfl, Int.ediv_one]
        omega
      · omega
  exact ⟨_, e.okS, e⟩
end Pf
set_option Elab.async false
set_option linter.all false
set_option maxRecDepth 100000
set_option maxHeartbeats 2000000
/-! K06M: what is caught. -/
namespace Pf
open PySem L2 PyProof AC PySem.W
/-- the list of a call -/
def colR6 (names : List Str) (tab : List Row) (w : Str) : Row := tab.map fun r => (r[posOf names w]?).getD (0, none)
theorem get_eq6 {names : List Str} {tab : List Row} {c m : Nat} (T : GoodTab c m tab) (gl : names.length = m) {w : Str} (hw : w ∈ names) : F_Service___getitem__ ((((), names), tab), w) = .ok (colR6 names tab w) := by
  unfold F_Service___getitem__
  delta fb_Service___getitem__
  dsimp only
  simp only [bok, Res.bind_assoc, seqN, seqR, AC.mapN, mapRt, endR, ofS, id]
  rw [if_neg (by simp [hw]), bok, seqN]
  dsimp only
  obtain ⟨b1, b2⟩ := pos_in hw
  rw [b1, ofS, bok, mapP_ok (g := fun r => (r[posOf names w]?).getD (0, none)) (fun r hr => ?_), bok, bok]
  · rfl
  · have := (T.row r hr).1
    have hp : posOf names w < r.length := by
      have := (List.getElem?_eq_some_iff.mp b2).1
      omega
    rw [atI_get (List.getElem?_eq_getElem hp), List.getElem?_eq_getElem hp]
    rfl
theorem get_exc6 {names : List Str} {tab : List Row} {w : Str} (hw : w ∉ names) : F_Service___getitem__ ((((), names), tab), w) = .exc ⟨"UnknownCall", .str w⟩ := by
  unfold F_Service___getitem__
  delta fb_Service___getitem__
  dsimp only
  simp only [bok, Res.bind_assoc, seqN, seqR, AC.mapN, mapRt, endR, ofS, id]
  rw [if_pos (by simp [hw]), bexc]
def dueX (names : List Str) (n : Nat) (l : List Str) (a : Int) : Option (Bool × Bool × PyData) :=
  if a < 0 ∨ (n : Int) ≤ a then some (true, false, .int a) else match l.filter (fun x => !decide (x ∈ names)) with
    | [] => none
    | x :: _ => some (false, true, .str x)
theorem isV6_S {d : PyData} : isV (Str.ofString "InvalidState") d [Str.ofString "InvalidState", Str.ofString "UnknownCall"] = (true, false, d) := by
  show (decide (Str.ofString "InvalidState" = Str.ofString "InvalidState"), decide (Str.ofString "InvalidState" = Str.ofString "UnknownCall"), d) = _
  rw [show decide (Str.ofString "InvalidState" = Str.ofString "InvalidState") = true by decide +kernel, show decide (Str.ofString "InvalidState" = Str.ofString "UnknownCall") = false by decide +kernel]
theorem isV6_C {d : PyData} : isV (Str.ofString "UnknownCall") d [Str.ofString "InvalidState", Str.ofString "UnknownCall"] = (false, true, d) := by
  show (decide (Str.ofString "UnknownCall" = Str.ofString "InvalidState"), decide (Str.ofString "UnknownCall" = Str.ofString "UnknownCall"), d) = _
  rw [show decide (Str.ofString "UnknownCall" = Str.ofString "InvalidState") = false by decide +kernel, show decide (Str.ofString "UnknownCall" = Str.ofString "UnknownCall") = true by decide +kernel]
def NS6 : List Str := ["InvalidName", "DoubleName", "InvalidStep", "InvalidState", "UnknownCall"]
theorem exc6 {n : Str} {d : PyData} (hn : decide (n ∈ NS6) = true) (hd : scalB d = true) : excOk NS6 ⟨n, d⟩ = true := by
  unfold excOk
  rw [hn, hd]; rfl
theorem caught_exc {sv : (Unit × List Str) × List Row} {path : List Str} {s w : Int} {e : Exn} (hw : w = 0 ∨ w = 1) (h : F_Service_run (sv, path, s) = .exc e) (ho : excOk NS6 e = true) : F__law_caught (w, sv, path, s) = .ok (some (isV e.cls e.val [Str.ofString "InvalidState", Str.ofString "UnknownCall"])) := by
  unfold F__law_caught
  delta fb__law_caught
  dsimp only
  simp only [bok, Res.bind_assoc, seqN, seqR, AC.mapN, mapRt, endR, ofS, id]
  rw [h]
  have ho : excOk [Str.ofString "InvalidName", Str.ofString "DoubleName", Str.ofString "InvalidStep", Str.ofString "InvalidState", Str.ofString "UnknownCall"] e = true := ho
  rcases hw with rfl | rfl
  · rw [if_pos (decide_eq_true rfl)]
    simp only [bexc, tryR, ho, if_true, bok, seqN, endR]
  · rw [if_neg (show ¬ decide ((1 : Int) = 0) = true by decide), if_pos (decide_eq_true rfl)]
    simp only [bexc, tryR, ho, if_true, bok, seqN, endR]
theorem caught_no {sv : (Unit × List Str) × List Row} {path : List Str} {s w : Int} {z : List (Option Int) × Int} (hw : w = 0 ∨ w = 1) (h : F_Service_run (sv, path, s) = .ok z) : F__law_caught (w, sv, path, s) = .ok none := by
  unfold F__law_caught
  delta fb__law_caught
  dsimp only
  simp only [bok, Res.bind_assoc, seqN, seqR, AC.mapN, mapRt, endR, ofS, id]
  rw [h]
  rcases hw with rfl | rfl <;> rfl
theorem caught_eq {names : List Str} {tab : List Row} {c m : Nat} {l : List Str} {s w : Int} (hw : w = 0 ∨ w = 1) (T : GoodTab c m tab) (gl : names.length = m) (hl : l.length ≤ 1000) (lay : ∀ x ∈ l, AsW x) : F__law_caught (w, (((), names), tab), l, s) = .ok (dueX names tab.length l s) := by
  unfold dueX
  by_cases h : s < 0 ∨ (tab.length : Int) ≤ s
  · rw [if_pos h, caught_exc hw (run_state (by omega)) (exc6 (by decide +kernel) rfl), isV6_S]
  rw [if_neg h]
  cases hf : l.filter (fun x => !decide (x ∈ names)) with
  | nil =>
    have hin : ∀ v ∈ l, v ∈ names := fun v hv => by
      have := List.filter_eq_nil_iff.mp hf v hv
      simpa using this
    have hT := T.len
    rw [caught_no hw (run_eq T gl hin (by omega) (by omega) (by omega))]
  | cons x r =>
    have hx : x ∈ l := (List.mem_filter.mp (by rw [hf]; exact List.mem_cons_self)).1
    rw [caught_exc hw (run_call (by omega) (by omega) hf) (exc6 (by decide +kernel) (lay x hx).lay), isV6_C]
theorem caughtT_in {names : List Str} {tab : List Row} {c m : Nat} {x : Str} {a : Int} (T : GoodTab c m tab) (gl : names.length = m) (hc : c ≤ 1000) (h : x ∈ names) : F__law_caught_o_t (2, (((), names), tab), x, a) = .ok none := by
  have hg := get_eq6 T gl h
  unfold F__law_caught_o_t
  delta fb__law_caught_o_t
  dsimp only
  simp only [bok, Res.bind_assoc, seqN, seqR, AC.mapN, mapRt, endR, ofS, id]
  rw [if_neg (show ¬ decide ((2 : Int) = 0) = true by decide), if_neg (show ¬ decide ((2 : Int) = 1) = true by decide), hg, bok]
  have hT := T.len
  have hx : (List.map (fun _ => ()) (colR6 names tab x)).length ≤ 10000 := by
    unfold colR6
    rw [List.length_map, List.length_map]
    omega
  generalize List.map (fun _ => ()) (colR6 names tab x) = us at hx
  rw [appO_ok (by omega), ofS, bok, bok]
  exact Eq.trans rfl rfl
theorem caughtT_out {names : List Str} {tab : List Row} {x : Str} {a : Int} (h : x ∉ names) (hx : AsW x) : F__law_caught_o_t (2, (((), names), tab), x, a) = .ok (some (false, true, .str x)) := by
  have hg := get_exc6 (tab := tab) h
  unfold F__law_caught_o_t
  delta fb__law_caught_o_t
  dsimp only
  simp only [bok, Res.bind_assoc, seqN, seqR, AC.mapN, mapRt, endR, ofS, id]
  rw [if_neg (show ¬ decide ((2 : Int) = 0) = true by decide), if_neg (show ¬ decide ((2 : Int) = 1) = true by decide), hg]
  have ho : excOk [Str.ofString "InvalidName", Str.ofString "DoubleName", Str.ofString "InvalidStep", Str.ofString "InvalidState", Str.ofString "UnknownCall"] ⟨"UnknownCall", .str x⟩ = true := exc6 (by decide +kernel) hx.lay
  simp only [bexc, tryR, ho, if_true, bok, seqN, endR]
  show Res.ok (some (isV (Str.ofString "UnknownCall") (.str x) [Str.ofString "InvalidState", Str.ofString "UnknownCall"])) = _
  rw [isV6_C]
end Pf
set_option maxRecDepth 100000
set_option linter.all false
/-! SV3R: the law's own way, row by row. -/
namespace Pf
open PySem L2 PyProof AC PySem.W
theorem ran_eq {names : List Str} {tab : List Row} {c m : Nat} (T : GoodTab c m tab) (gl : names.length = m) {row : List Str} {s : Int} (hr : ∀ w ∈ row, w ∈ names) (h0 : 0 ≤ s) (h : s < (c : Int)) (hl : row.length ≤ 1000000) : F__law_ran (names, tab, row, s) = .ok (stepsR names tab row s) := by
  unfold F__law_ran
  delta fb__law_ran
  dsimp only
  simp only [bok, Res.bind_assoc, seqN, seqR, mapN, mapRt, endR, ofS, id]
  rw [forL_steps T gl (fun s acc => (names, tab, row, s, acc, (), (), ())) (fun w s acc hw h0 h ha => ?_) hr h0 h (by simp only [List.length_nil]; omega)]
  · simp only [bok, Res.bind_assoc, seqN, seqR, mapN, mapRt, endR, ofS, id, List.nil_append]
  · obtain ⟨a1, a2, a3, _⟩ := cell_in T gl hw h0 h
    dsimp only
    rw [a1, ofS, bok, idxO_S, a2, ofS, bok, a3, ofS, bok, appO_ok ha, ofS, bok]
end Pf
set_option Elab.async false
set_option linter.all false
set_option maxRecDepth 100000
set_option maxHeartbeats 1000000
/-! SVS: answers of rows are small; rows, tables as they are shown. -/
namespace Pf
open PySem L2 PyProof AC PySem.W
theorem steps_small {names : List Str} {tab : List Row} {c m : Nat} (T : GoodG c m tab) (gl : names.length = m) : ∀ {row : List Str} {s : Int}, (∀ w ∈ row, w ∈ names) → 0 ≤ s → s < (c : Int) → ∀ y ∈ (stepsR names tab row s).1, SmallA y
  | [], s, _, _, _, y, hy => by cases hy
  | w :: ws, s, hr, h0, h, y, hy => by
    obtain ⟨_, _, _, c1, c2, c3⟩ := cell_in T.tab gl (hr w List.mem_cons_self) h0 h
    have hy : y ∈ (cellOf names tab s w).2 :: (stepsR names tab ws (cellOf names tab s w).1).1 := hy
    rcases List.mem_cons.mp hy with rfl | hy
    · exact ((T.row _ (atI_line T.tab h0 h).2).2 _ c3).2
    · exact steps_small (row := ws) T gl (fun x hx => hr x (List.mem_cons_of_mem _ hx)) c1 c2 y hy
theorem sa_sp {y : Option Int} (h : SmallA y) : Sp 30 (tO PyData.int y) := by
  cases y with
  | none => exact sp_none.mono (by decide)
  | some z =>
    have := h z rfl
    exact sp_int (big_small ⟨by omega, by omega⟩)
theorem run_sp {names : List Str} {tab : List Row} {c m : Nat} (T : GoodG c m tab) (gl : names.length = m) (hc : c ≤ 1000) {row : List Str} {s : Int} (hr : ∀ w ∈ row, w ∈ names) (h0 : 0 ≤ s) (h : s < (c : Int)) {n : Nat} (hn : row.length ≤ n) : Sp (64 * n + 100) (.tuple [.list ((stepsR names tab row s).1.map (tO PyData.int)), .int (stepsR names tab row s).2]) := by
  have h3 := steps_at T.tab gl hr h0 h
  exact (sp_pr (n := 32 * n + 30) ((sp_map (n := 30) (k := n) (fun y hy => sa_sp (steps_small T gl hr h0 h y hy)) (by rw [steps_len]; exact hn)).mono (by omega)) ((sp_int (big_small ⟨by omega, by omega⟩)).mono (by omega))).mono (by omega)
end Pf
set_option Elab.async false
set_option linter.all false
set_option maxRecDepth 100000
/-! OKE: loops by enumerate over own things. -/
set_option Elab.async false
set_option linter.all false
set_option maxRecDepth 100000
set_option maxHeartbeats 2000000
/-! DDN: as many unlike ones as ones. -/
set_option Elab.async false
set_option linter.all false
set_option maxRecDepth 100000
set_option maxHeartbeats 2000000
/-! K06N: mended rows. -/
namespace Pf
open PySem L2 PyProof AC PySem.W
theorem lcL_pure {α β δ : Type} {f : α → β → Res (Option δ × β)} {b : β} (p : α → Option δ) : ∀ {xs : List α}, (∀ x ∈ xs, f x b = .ok (p x, b)) → lcL xs f b = .ok (xs.filterMap p, b)
  | [], _ => rfl
  | x :: xs, h => by
    unfold lcL
    rw [h x List.mem_cons_self, noexc_ok, bok, lcL_pure p fun y hy => h y (List.mem_cons_of_mem _ hy), bok, List.filterMap_cons]
    cases p x <;> rfl
theorem fm_if {α : Type} {xs : List α} {p : α → Bool} : (xs.filterMap fun x => if p x = true then some x else none) = xs.filter p := by
  induction xs with
  | nil => rfl
  | cons x xs ih =>
    rw [List.filterMap_cons, List.filter_cons, ih]
    cases p x <;> rfl
theorem mended_ok {names : List Str} {rows : List Row} {c m : Nat} {l : List Str} {a : Int} (T : GoodG c m rows) (gl : names.length = m) (hc : c ≤ 1000) (hl : l.length ≤ 20) (h0 : 0 ≤ a) (h1 : a < (c : Int)) : Ok (F__law_mended_right l (((((), names), rows), names, rows), a)) fun r => r.1 = true := by
  have hin : ∀ w ∈ l.filter (fun x => decide (x ∈ names)), w ∈ names := fun w hw => of_decide_eq_true (List.mem_filter.mp hw).2
  have hll : (l.filter (fun x => decide (x ∈ names))).length ≤ 20 := Nat.le_trans (List.length_filter_le _ _) hl
  unfold F__law_mended_right
  delta fb__law_mended_right
  dsimp only
  simp only [bok, Res.bind_assoc, seqN, seqR, AC.mapN, mapRt, endR, ofS, id]
  refine ok_res (lcL_pure (fun x => if decide (x ∈ names) = true then some x else none) fun x _ => ?_) ?_
  · dsimp only
    by_cases hx : x ∈ names
    · rw [if_pos (decide_eq_true hx), if_pos (decide_eq_true hx)]
    · rw [if_neg (by simp [hx]), if_neg (by simp [hx])]
  rw [fm_if]
  generalize l.filter (fun x => decide (x ∈ names)) = good at hin hll
  dsimp only
  refine ok_forS (σ := List Str) (fun q => ((((), names), rows), names, rows, q, a, good, (), ())) (fun i q => q = good.take i) [] rfl ?_ ?_
  · rintro i x q hx rfl
    have hi := (List.getElem?_eq_some_iff.mp hx).1
    dsimp only
    refine ok_ofO (appO_ok (by rw [List.length_take]; omega)) ?_
    exact ⟨good.take i ++ [x], rfl, by rw [List.take_add_one, hx]; rfl⟩
  rintro q rfl
  rw [List.take_length]
  refine ok_snb ?_
  dsimp only
  have hs := run_sp (n := 20) T gl hc hin h0 h1 hll
  refine ok_assoc ?_
  refine ok_res (run_eq T.tab gl hin h0 h1 (by omega)) ?_
  refine ok_assoc ?_
  refine ok_ofO (hs.repr (by decide)) ?_
  refine ok_assoc ?_
  refine ok_res (ran_eq T.tab gl hin h0 h1 (by omega)) ?_
  refine ok_assoc ?_
  refine ok_ofO (hs.repr (by decide)) ?_
  exact decide_eq_true rfl
end Pf
set_option maxRecDepth 100000
set_option linter.all false
namespace Pf
open PySem L2 PyProof AC
theorem built_eq {names : List Str} {tab : List Row} {n m : Nat} (gn : GoodN m names) (T : GoodTab n m tab) (hn : 0 < n) (hn2 : n ≤ 1000) (hm : m ≤ 1000) : F__law_built (names, tab) = .ok (((), names), walkR tab) := by
  refine ok_eq ?_
  unfold F__law_built
  delta fb__law_built
  dsimp only
  simp only [bok, Res.bind_assoc, seqN, seqR, mapN, mapRt, endR, ofS, id]
  rw [mapP_id, bok, service_eq gn T hn hn2 hm]
  exact rfl
end Pf
set_option Elab.async false
set_option linter.all false
set_option maxRecDepth 100000
set_option maxHeartbeats 1000000
/-! LKT: the kit's lemmas at numbers that are written. -/
namespace Pf
open PySem L2 PyProof AC
theorem lkitZ {script : List Int} {place : Int} (n : Nat) (e : place = (n : Int)) (h : n < 2 ^ 30) : Ok (F__law_kit (script, place)) fun r => Kl 0 r := by rw [e]; exact lkit_ok h
theorem tagsZ {n : Nat} {w : List Int} {i : Int} (m : Nat) (e : i = (m : Int)) (hw : Kl n w) (hn : n + 100 < 2 ^ 40) (h1 : 1 ≤ m) (hm : m ≤ 12) : Ok (F__law_tags w i) fun r => GoodN m r.1 ∧ Kl (n + 30) r.2 := by rw [e]; exact tags_ok hw hn h1 hm
end Pf
set_option Elab.async false
set_option linter.all false
set_option maxRecDepth 100000
set_option maxHeartbeats 1000000
/-! LKZ: grids at numbers that are written. -/
namespace Pf
open PySem L2 PyProof AC
theorem gridZ {n : Nat} {w : List Int} {i j : Int} (c m : Nat) (e : i = (c : Int)) (e2 : j = (m : Int)) (hw : Kl n w) (hn : n + 10000 < 2 ^ 40) (hc1 : 1 ≤ c) (hc2 : c ≤ 40) (hm : m ≤ 12) : Ok (F__law_grid w (i, j)) fun r => GoodG c m r.1 ∧ Kl (n + 2400) r.2 := by rw [e, e2]; exact grid_ok hw hn hc1 hc2 hm
end Pf
set_option Elab.async false
set_option linter.all false
set_option maxRecDepth 100000
set_option maxHeartbeats 2000000
/-! K06P: the law. -/
namespace Pf
open PySem L2 PyProof AC PySem.W
theorem ok_bp {α β γ : Type} {m : Res (α × β)} {f : α × β → Res γ} {R : α × β → Prop} {P : γ → Prop} (h : Ok m R) (k : ∀ a b, R (a, b) → Ok (f (a, b)) P) : Ok (Res.bind m f) P := ok_bind h fun z hz => k z.1 z.2 hz
theorem last_of {α : Type} {xs : List α} (h : 0 < xs.length) : ∃ z, atI xs (-1) = some z ∧ z ∈ xs := by
  have e : ixN xs.length (-1) = some (xs.length - 1) := by
    unfold ixN
    split
    · omega
    · split
      · congr 1; omega
      · omega
  have hl : xs.length - 1 < xs.length := by omega
  refine ⟨xs[xs.length - 1], ?_, List.getElem_mem hl⟩
  unfold atI
  rw [e]
  exact List.getElem?_eq_getElem hl
theorem eqLS6 {a b : List Str} : eqO (fun xs : List Str => PyData.list (List.map PyData.str xs)) (fun xs : List Str => PyData.list (List.map PyData.str xs)) a b = decide (a = b) := eqO_t (eqvt_list eqvt_str)
/-- what is owed, shown -/
def dueD (x : Option (Bool × Bool × PyData)) : PyData := tO (fun x : Bool × Bool × PyData => PyData.list [PyData.bool x.1, PyData.bool x.2.1, x.2.2]) x
theorem due_sp {names : List Str} {n : Nat} {l : List Str} {a : Int} (ha : Big a) (hl : ∀ x ∈ l, AsW x) : Sp 100 (dueD (dueX names n l a)) := by
  unfold dueX
  split
  · exact (sp_three (n := 30) (sp_bool.mono (by decide)) (sp_bool.mono (by decide)) (sp_int ha)).mono (by decide)
  · split
    · exact sp_none.mono (by decide)
    · rename_i x r hf
      exact (sp_three (n := 30) (sp_bool.mono (by decide)) (sp_bool.mono (by decide)) ((hl x (List.mem_filter.mp (by rw [hf]; exact List.mem_cons_self)).1).sp.mono (by decide))).mono (by decide)
theorem empty_out {names : List Str} {m : Nat} (h : GoodN m names) : Str.ofString "" ∉ names := fun hm => by
  obtain ⟨l, e, h1, _, _⟩ := (h.2.2 _ hm).ex
  have := congrArg Str.length e
  rw [mk_len] at this
  have e0 : (Str.ofString "").length = 0 := by decide +kernel
  omega
/-- the odd words -/
theorem odd_words {names : List Str} {m : Nat} (hN : GoodN m names) (h1 : 1 ≤ m) : ∃ w0 wl a b c d e f g i, atI names 0 = some w0 ∧ atI names (-1) = some wl ∧ addSO w0 (Str.ofString "q") = some a ∧ AC.okS (cutS wl none (some (-1))) = some b ∧ addSO (Str.ofString "q") w0 = some c ∧ AC.okS (revS w0) = some d ∧ addSO (Str.ofString " ") w0 = some e ∧ addSO wl (Str.ofString " ") = some f ∧ addSO w0 (Str.ofString ".") = some g ∧ i = [Str.ofString "", Str.ofString "A", Str.ofString "zzzzzzzzz", a, b, c] ++ [d, e, f, g] ∧ ∀ w ∈ i, AsW w := by
  have hl := hN.1
  have g0 : atI names 0 = some (names[0]'(by omega)) := atI_get (i := 0) (List.getElem?_eq_getElem (by omega))
  obtain ⟨wl, gl, hwl⟩ := last_of (xs := names) (by omega)
  have L0 : Low (names[0]'(by omega)) := hN.2.2 _ (List.getElem_mem _)
  have Ll : Low wl := hN.2.2 _ hwl
  generalize names[0]'(by omega) = w0 at g0 L0
  have l0 := low_len L0
  have ll := low_len Ll
  have a0 := (low_asw L0).asc
  have al := (low_asw Ll).asc
  have q1 : (Str.ofString "q").length = 1 := by decide +kernel
  have b1 : (Str.ofString " ").length = 1 := by decide +kernel
  have d1 : (Str.ofString ".").length = 1 := by decide +kernel
  have q2 : Asc (Str.ofString "q") := asc_of (by decide +kernel)
  have b2 : Asc (Str.ofString " ") := asc_of (by decide +kernel)
  have d2 : Asc (Str.ofString ".") := asc_of (by decide +kernel)
  obtain ⟨x1, y1⟩ := asw_add a0 q2 (by omega)
  obtain ⟨z2, x2, y2⟩ := low_cut Ll
  obtain ⟨x3, y3⟩ := asw_add q2 a0 (by omega)
  obtain ⟨z4, x4, y4⟩ := low_rev L0
  obtain ⟨x5, y5⟩ := asw_add b2 a0 (by omega)
  obtain ⟨x6, y6⟩ := asw_add al b2 (by omega)
  obtain ⟨x7, y7⟩ := asw_add a0 d2 (by omega)
  refine ⟨w0, wl, _, z2, _, z4, _, _, _, _, g0, gl, x1, x2, x3, x4, x5, x6, x7, rfl, fun w hw => ?_⟩
  simp only [List.cons_append, List.nil_append, List.mem_cons, List.not_mem_nil, or_false] at hw
  rcases hw with rfl | rfl | rfl | rfl | rfl | rfl | rfl | rfl | rfl | rfl
  · exact asw_of (asc_of (by decide +kernel)) (by decide +kernel)
  · exact asw_of (asc_of (by decide +kernel)) (by decide +kernel)
  · exact asw_of (asc_of (by decide +kernel)) (by decide +kernel)
  all_goals assumption
theorem right_ok {n : Nat} {w : List Int} (hw : Kl n w) (hn : n + 20000 < 2 ^ 40) : Ok (F__law_fits w ()) fun r => r.1 = true ∧ Kl (n + 3000) r.2 := by
  unfold F__law_fits
  delta fb__law_fits
  dsimp only
  simp only [bok, Res.bind_assoc, seqN, seqR, AC.mapN, mapRt, endR, ofS, id]
  refine ok_bp (toss_ok hw (by omega) (by decide) (by decide)) fun t k1 h1 => ?_
  have h10 := h1.1
  have h11 := h1.2.1
  refine nat_of (x := 1 + t) (by omega) fun m hm => ?_
  refine ok_bp (tagsZ m hm h1.2.2 (by omega) (by omega) (by omega)) fun names k2 h2 => ?_
  have hN : GoodN m names := h2.1
  have gl := hN.1
  refine ok_bp (toss_ok h2.2 (by omega) (by decide) (by decide)) fun u k3 h3 => ?_
  have h30 := h3.1
  have h31 := h3.2.1
  refine nat_of (x := 1 + u) (by omega) fun c hc => ?_
  refine ok_bp (gridZ c m hc (by rw [gl]) h3.2.2 (by omega) (by omega) (by omega) (by omega)) fun grid k4 h4 => ?_
  have hG : GoodG c m grid := h4.1
  have hk4 : Kl (n + 2500) k4 := h4.2.mono (by omega)
  have hgl := hG.tab.len
  have wl := walk_len hG.tab (by omega)
  have hR := walk_good hG (by omega)
  have hbu := built_eq hN hG.tab (by omega) (by omega) (by omega)
  have hbw : F__law_built (names, walkR grid) = .ok (((), names), walkR grid) := by
    rw [built_eq hN hR.tab (by omega) (by omega) (by omega), walk_walk hG.tab (by omega) (by omega) (by omega)]
  obtain ⟨w0, wL, a, b, cc, d, e, f, g, i, e0, eL, ea, eb, ec, ed, ee, ef, eg, ei, hi⟩ := odd_words hN (by omega)
  clear h1 h2 h3 h4
  dsimp only
  refine ok_res hbu ?_
  refine ok_res (walked_eq hG.tab (by omega) (by omega) (by omega)) ?_
  generalize walkR grid = rows at wl hR hbw
  refine ok_ofO e0 ?_
  refine ok_ofO ea ?_
  refine ok_ofO eL ?_
  refine ok_ofO eb ?_
  refine ok_ofO e0 ?_
  refine ok_ofO ec ?_
  refine ok_ofO e0 ?_
  refine ok_ofO ed ?_
  refine ok_ofO e0 ?_
  refine ok_ofO ee ?_
  refine ok_ofO eL ?_
  refine ok_ofO ef ?_
  refine ok_ofO e0 ?_
  refine ok_ofO eg ?_
  have il : i.length = 10 := by rw [ei]; rfl
  have i1 : Str.ofString "" ∈ i := by rw [ei]; exact List.mem_cons_self
  refine ok_ofO (x := i) (by rw [ei]; exact catO_ok (Nat.le_of_ble_eq_true rfl)) ?_
  clear e0 ea eL eb ec ed ee ef eg ei
  refine ok_res (lcL_pure (fun x => if (!decide (x ∈ names)) = true then some x else none) fun x _ => ?_) ?_
  · dsimp only
    by_cases hx : x ∈ names
    · rw [if_neg (by simp [hx]), if_neg (by simp [hx])]
    · rw [if_pos (by simp [hx]), if_pos (by simp [hx])]
  rw [fm_if]
  have hS1 : ∀ w ∈ i.filter (fun x => !decide (x ∈ names)), AsW w ∧ w ∉ names := fun w hw => ⟨hi w (List.mem_filter.mp hw).1, by simpa using (List.mem_filter.mp hw).2⟩
  have hS2 : 1 ≤ (i.filter (fun x => !decide (x ∈ names))).length := List.length_pos_of_mem (List.mem_filter.mpr ⟨i1, by simpa using empty_out hN⟩)
  have hS3 : (i.filter (fun x => !decide (x ∈ names))).length ≤ 10 := Nat.le_trans (List.length_filter_le _ _) (by omega)
  generalize i.filter (fun x => !decide (x ∈ names)) = strange at hS1 hS2 hS3
  clear hi i1 il
  dsimp only
  refine ok_rng (n := 4) rfl (by decide) fun L hL hLk => ?_
  refine ok_forS (σ := List Int) (fun k => (k, names, grid, strange, (), (((), names), rows), rows, (), (), (), (), (), (), (), (), (), (), ())) (fun i k => Kl (n + 2500 + 30 * i) k) k4 (hk4.mono (by omega)) ?_ ?_
  · intro i x k hx hk
    have hi := (hLk i x hx).2
    dsimp only at hk ⊢
    refine ok_bp (toss_ok hk (by omega) (by decide) (by decide)) fun t k2 h => ?_
    have h0 := h.1
    have h1 := h.2.1
    refine nat_of (x := t) h0 fun q hq => ?_
    refine ok_rng (n := q) hq (by omega) fun L2 hL2 hLk2 => ?_
    dsimp only
    refine ok_mapS (σ := List Int) (fun k => (k, names, grid, strange, x, (((), names), rows), rows, (), (), (), (), (), (), (), (), (), (), ())) (fun j k => Kl (n + 2500 + 30 * i + 1 + j) k) (fun v => v ∈ names) k2 h.2.2 ?_ ?_
    · rintro j y k hy hk
      have hj := (hLk2 j y hy).2
      dsimp only at hk ⊢
      refine ok_bp (toss_ok hk (by omega) (by omega) (by omega)) fun t k2 ht => ?_
      refine ok_at ht.1 ht.2.1 fun v hv _ => ?_
      exact ⟨hv, k2, rfl, ht.2.2⟩
    intro line k5 hl hlin hk5
    rw [hL2] at hl hk5
    dsimp only at hk5 ⊢
    refine ok_bp (toss_ok hk5 (by omega) (by decide) (by decide)) fun t k2 h => ?_
    have h0 := h.1
    have h1 := h.2.1
    refine nat_of (x := t) h0 fun q2 hq2 => ?_
    refine ok_rng (n := q2) hq2 (by omega) fun L3 hL3 hLk3 => ?_
    dsimp only
    refine ok_forS (σ := List Int × List Str) (fun z => (z.1, names, grid, strange, x, (((), names), rows), rows, z.2, (), (), (), (), (), (), (), (), (), ())) (fun j z => Kl (n + 2500 + 30 * i + 7 + 2 * j) z.1 ∧ z.2.length ≤ 5 + j ∧ ∀ w ∈ z.2, AsW w) (k2, line) ⟨h.2.2.mono (by omega), by dsimp only; omega, fun w hw => low_asw (hN.2.2 w (hlin w hw))⟩ ?_ ?_
    · rintro j y ⟨k, ln⟩ hy ⟨hk, hl, hlw⟩
      have hj := (hLk3 j y hy).2
      dsimp only at hk hl hlw ⊢
      refine ok_bp (toss_ok hk (by omega) (by omega) (by omega)) fun t k2 ht => ?_
      have t0 := ht.1
      have t1 := ht.2.1
      refine nat_of (x := t) t0 fun q hq => ?_
      refine ok_bp (toss_ok ht.2.2 (by omega) (by omega) (by omega)) fun t' k3 ht' => ?_
      refine ok_at ht'.1 ht'.2.1 fun v hv _ => ?_
      have c1 : cutL ln none (some t) = ln.take q := by rw [hq]; exact cut_take (by omega)
      have c2 : cutL ln (some t) none = ln.drop q := by rw [hq]; exact cut_drop (by omega)
      have l1 : (ln.take q).length ≤ ln.length := by rw [List.length_take]; omega
      have l2 : (ln.take q).length + (ln.drop q).length = ln.length := by rw [List.length_take, List.length_drop]; omega
      refine ok_ofO (x := ln.take q ++ [v]) (by rw [c1]; exact catO_ok (by rw [List.length_singleton]; omega)) ?_
      refine ok_ofO (x := ln.take q ++ [v] ++ ln.drop q) (by rw [c2]; exact catO_ok (by rw [List.length_append, List.length_singleton]; omega)) ?_
      refine ⟨(k3, ln.take q ++ [v] ++ ln.drop q), rfl, ht'.2.2.mono (by omega), by rw [List.length_append, List.length_append, List.length_singleton]; omega, fun w hw => ?_⟩
      rcases List.mem_append.mp hw with hw | hw
      · rcases List.mem_append.mp hw with hw | hw
        · exact hlw w (List.mem_of_mem_take hw)
        · rw [List.mem_singleton.mp hw]; exact (hS1 v hv).1
      · exact hlw w (List.mem_of_mem_drop hw)
    rintro ⟨k6, line⟩ ⟨hk6, hl6, hw6⟩
    rw [hL3] at hk6 hl6
    dsimp only at hk6 hl6 hw6 ⊢
    have hk6 : Kl (n + 2500 + 30 * i + 13) k6 := hk6.mono (by omega)
    refine ok_snb ?_
    dsimp only
    refine ok_assoc ?_
    refine ok_ofO (x := 10 ^ 20) (by decide +kernel) ?_
    refine ok_assoc ?_
    refine ok_bp (toss_ok hk6 (by omega) (by decide) (by decide)) fun t1 k7 h7 => ?_
    refine ok_assoc ?_
    refine ok_ofO (x := 10 ^ 20) (by decide +kernel) ?_
    refine ok_assoc ?_
    refine ok_bp (toss_ok h7.2.2 (by omega) (by decide) (by decide)) fun t2 k8 h8 => ?_
    have t10 := h7.1
    have t11 := h7.2.1
    have t20 := h8.1
    have t21 := h8.2.1
    refine ok_assoc ?_
    refine ok_ofO (catO_ok (Nat.le_of_ble_eq_true rfl)) ?_
    refine ok_assoc ?_
    refine ok_bp (toss_ok h8.2.2 (by omega) (by decide) (by decide)) fun t3 k9 h9 => ?_
    refine ok_assoc ?_
    refine ok_at h9.1 h9.2.1 fun a ha _ => ?_
    have hk9 : Kl (n + 2500 + 30 * i + 16) k9 := h9.2.2.mono (by omega)
    have hB : Big a := by
      simp only [List.cons_append, List.nil_append, List.mem_cons, List.not_mem_nil, or_false] at ha
      unfold Big
      rcases ha with rfl | rfl | rfl | rfl | rfl | rfl | rfl | rfl | rfl <;> omega
    clear ha
    refine ok_assoc ?_
    refine ok_res (x := line.filter fun v => !decide (v ∈ names)) (by rw [lcP_ok (fun v => !decide (v ∈ names)) (fun w => w) (fun _ _ => rfl) (fun _ _ _ => rfl), List.map_id']) ?_
    dsimp only
    refine ok_assoc ?_
    refine ok_res (x := decide (a < 0 ∨ (rows.length : Int) ≤ a)) ?_ ?_
    · by_cases h0 : a < 0
      · rw [if_pos (decide_eq_true h0), decide_eq_true (Or.inl h0)]
      · rw [if_neg (by simp [h0])]
        congr 1
        exact decide_eq_decide.mpr ⟨Or.inr, fun z => z.resolve_left h0⟩
    generalize hwr : (line.filter fun v => !decide (v ∈ names)) = wrong
    have hD := due_sp (names := names) (n := rows.length) hB hw6
    refine ok_assoc ?_
    refine ok_nxS (σ := Option (Bool × Bool × PyData)) (fun due => (k9, names, grid, strange, x, (((), names), rows), rows, line, (), [-1, (rows.length : Int), (rows.length : Int) + t1, (grid.length : Int) - 1, 0, 0, -(rows.length : Int)], (), (), due, (), a, line, wrong, ())) (fun due => due = dueX names rows.length line a) ?_ ?_
    · by_cases h0 : a < 0 ∨ (rows.length : Int) ≤ a
      · refine ok_iT (decide_eq_true h0) ?_
        exact ⟨_, rfl, by unfold dueX; rw [if_pos h0]⟩
      · refine ok_iF (decide_eq_false h0) ?_
        rw [eqLS6]
        cases wrong with
        | nil =>
          refine ok_iF (by simp) ?_
          exact ⟨none, rfl, by unfold dueX; rw [if_neg h0, hwr]⟩
        | cons x r =>
          refine ok_iT (by simp) ?_
          refine ok_ofO (x := x) (atI_get (i := 0) rfl) ?_
          exact ⟨some (false, true, .str x), rfl, by unfold dueX; rw [if_neg h0, hwr]⟩
    intro due hdue
    have hC : ∀ w, w = 0 ∨ w = 1 → F__law_caught (w, (((), names), rows), line, a) = .ok due := fun w hw => by rw [hdue]; exact caught_eq hw hR.tab gl (by omega) hw6
    rw [← hdue] at hD
    have hDr := hD.repr (by decide)
    unfold dueD at hDr
    refine ok_snb ?_
    dsimp only
    refine ok_assoc ?_
    refine ok_forS (σ := Unit) (fun _ => (k9, names, grid, strange, x, (((), names), rows), rows, line, (), [-1, (rows.length : Int), (rows.length : Int) + t1, (grid.length : Int) - 1, 0, 0, -(rows.length : Int)], (), (), due, (), a, line, wrong, ())) (fun _ _ => True) () trivial ?_ ?_
    · rintro j y _ hy _
      have hyw : y = 0 ∨ y = 1 := by
        have := List.mem_of_getElem? hy
        simp only [List.mem_cons, List.not_mem_nil, or_false] at this
        omega
      dsimp only
      refine ok_res (hC y hyw) ?_
      refine ok_ofO hDr ?_
      refine ok_ofO hDr ?_
      refine ok_res (x := false) (by rw [if_neg (by simp), eqLS6]; simp) ?_
      refine ok_ifF rfl ?_
      exact ⟨(), rfl, trivial⟩
    rintro _ _
    refine ok_snb ?_
    dsimp only
    refine ok_assoc ?_
    refine ok_ofO (catO_ok (by omega)) ?_
    refine ok_assoc ?_
    refine ok_bp (toss_ok hk9 (by omega) (by omega) (by omega)) fun t4 k10 h10 => ?_
    refine ok_assoc ?_
    refine ok_at h10.1 (by rw [List.length_append]; push_cast; exact h10.2.1) fun z hz _ => ?_
    refine ok_assoc ?_
    have hd2 : ∃ due2, (if decide (z ∈ strange) = true then Res.ok (some (false, true, PyData.str z)) else Res.ok none) = Res.ok due2 ∧ F__law_caught_o_t (2, (((), names), rows), z, 0) = .ok due2 ∧ Sp 100 (dueD due2) := by
      by_cases hs : z ∈ strange
      · refine ⟨some (false, true, .str z), by rw [if_pos (decide_eq_true hs)], caughtT_out (hS1 z hs).2 (hS1 z hs).1, ?_⟩
        exact (sp_three (n := 30) (sp_bool.mono (by decide)) (sp_bool.mono (by decide)) ((hS1 z hs).1.sp.mono (by decide))).mono (by decide)
      · have hn : z ∈ names := (List.mem_append.mp hz).resolve_left hs
        exact ⟨none, by rw [if_neg (by simp [hs])], caughtT_in hR.tab gl (by omega) hn, sp_none.mono (by decide)⟩
    obtain ⟨due2, d1, d2, d3⟩ := hd2
    have hDr2 := d3.repr (by decide)
    unfold dueD at hDr2
    refine ok_res d1 ?_
    refine ok_assoc ?_
    refine ok_res d2 ?_
    refine ok_assoc ?_
    refine ok_ofO hDr2 ?_
    refine ok_assoc ?_
    refine ok_ofO hDr2 ?_
    refine ok_assoc ?_
    refine ok_ifF (by simp) ?_
    refine ok_ret ?_
    refine ok_snb ?_
    dsimp only
    refine ok_assoc ?_
    refine ok_bS (σ := List Str) (fun ln => (k10, names, grid, strange, x, (((), names), rows), rows, ln, (), [-1, (rows.length : Int), (rows.length : Int) + t1, (grid.length : Int) - 1, 0, 0, -(rows.length : Int)], (), z, due2, (), a, line, wrong, ())) (fun b _ => b = false) ?_ ?_
    · rw [eqLS6]
      by_cases hw : wrong = []
      · refine ok_iF (by simp [hw]) ?_
        exact ⟨line, rfl, rfl⟩
      · refine ok_iT (by simp [hw]) ?_
        by_cases hin : 0 ≤ a ∧ a < (rows.length : Int)
        · refine ok_res (x := true) (by rw [if_pos (decide_eq_true hin.1), decide_eq_true hin.2]) ?_
          refine ok_iT rfl ?_
          refine ok_bp (mended_ok hR gl (by omega) (by omega) hin.1 hin.2) fun b ln hb => ?_
          have hb : b = true := hb
          subst hb
          exact ⟨ln, rfl, rfl⟩
        · refine ok_res (x := false) ?_ ?_
          · by_cases h0 : 0 ≤ a
            · rw [if_pos (decide_eq_true h0), decide_eq_false fun q => hin ⟨h0, q⟩]
            · rw [if_neg (by simp [h0])]
          refine ok_iF rfl ?_
          exact ⟨line, rfl, rfl⟩
    rintro b ln hb
    subst hb
    dsimp only
    refine ok_ifF rfl ?_
    exact ⟨k10, rfl, h10.2.2.mono (by omega)⟩
  intro k hk
  rw [hL] at hk
  have hk : Kl (n + 3000) k := hk.mono (by omega)
  refine ok_snb ?_
  dsimp only
  refine ok_assoc ?_
  refine ok_res hbw ?_
  refine ok_assoc ?_
  refine ok_ofO (x := true) (by rw [sveq, decide_eq_true rfl]; rfl) ?_
  exact And.intro rfl hk
end Pf
set_option Elab.async false
set_option linter.all false
set_option maxRecDepth 100000
set_option maxHeartbeats 1000000
/-! K06Q: the law. -/
namespace Pf
open PySem L2 PyProof AC PySem.W
theorem law_true : ∀ ns : List Int, ns.length ≤ 63 → F_law ns = .ok true := by
  intro ns hl
  refine ok_eq ?_
  unfold F_law
  delta fb_law
  dsimp only
  obtain ⟨c, hc, hc2⟩ : ∃ c : Nat, (if (if (ns.length : Int) < 24 then (ns.length : Int) else 24) > 1 then (if (ns.length : Int) < 24 then (ns.length : Int) else 24) else 1) = (c : Int) ∧ c ≤ 24 := by
    refine ⟨(if (if (ns.length : Int) < 24 then (ns.length : Int) else 24) > 1 then (if (ns.length : Int) < 24 then (ns.length : Int) else 24) else 1).toNat, ?_, ?_⟩
    · split <;> split <;> omega
    · split <;> split <;> omega
  simp only [bok, Res.bind_assoc, seqN, seqR, mapN, mapRt, endR, ofS, id]
  rw [hc, rng1_ok (by omega)]
  simp only [bok]
  refine ok_bind (ok_for (R := fun _ => False) (fun i b => b = (ns, (), (), (), ())) rfl ?_) ?_
  · rintro i x b hx rfl
    obtain ⟨rfl, hi⟩ := ints_get hx
    dsimp only
    refine ok_bind (lkitZ i rfl (by omega)) ?_
    intro w hw
    rw [rng1_lit (i := 1) (n := 1) (by decide) (by decide)]
    simp only [bok]
    obtain ⟨turns, ht, hlt⟩ : ∃ t, AC.intsFrom 0 1 = t ∧ t.length = 1 := ⟨_, rfl, intsFrom_len 0 1⟩
    rw [ht]
    refine ok_bind (ok_for (R := fun _ => False) (fun k b => ∃ w' : List Int, b = (ns, (i : Int), w', (), ()) ∧ Kl (3000 * k) w') ⟨w, rfl, hw⟩ ?_) ?_
    · rintro k x b hx ⟨w', rfl, h1⟩
      have hk : k < 1 := by
        have := (List.getElem?_eq_some_iff.mp hx).1
        rwa [hlt] at this
      dsimp only
      refine ok_bind (right_ok h1 (by omega)) ?_
      rintro ⟨r, w2⟩ ⟨q1, q2⟩
      have q1 : r = true := q1
      subst q1
      exact ⟨w2, rfl, q2.mono (by omega)⟩
    · rintro (b | r) hy
      · obtain ⟨w', rfl, _⟩ := hy
        exact rfl
      · exact hy.elim
  · rintro (b | r) hy
    · exact rfl
    · exact hy.elim
end Pf
set_option Elab.async false
set_option linter.all false
set_option maxRecDepth 100000
set_option maxHeartbeats 4000000
namespace Pf
open PySem L2 PyProof PyProof.Rows AC
def dd_is_name : DfE := ⟨.glo "is_name", "is_name", "is_name", defArgs s_is_name, defBody s_is_name, defScope s_is_name, []⟩
def dd_check_names : DfE := ⟨.glo "check_names", "check_names", "check_names", defArgs s_check_names, defBody s_check_names, defScope s_check_names, []⟩
def dd_check_table : DfE := ⟨.glo "check_table", "check_table", "check_table", defArgs s_check_table, defBody s_check_table, defScope s_check_table, []⟩
def dd_table_reached : DfE := ⟨.glo "table_reached", "table_reached", "table_reached", defArgs s_table_reached, defBody s_table_reached, defScope s_table_reached, []⟩
def dd_Service_init : DfE := ⟨.met "Service" "__init__", "__init__", "Service.__init__", defArgs s_Service_init, defBody s_Service_init, defScope s_Service_init, []⟩
def dd_Service___eq__ : DfE := ⟨.met "Service" "__eq__", "__eq__", "Service.__eq__", defArgs s_Service___eq__, defBody s_Service___eq__, defScope s_Service___eq__, []⟩
def dd_Service___getitem__ : DfE := ⟨.met "Service" "__getitem__", "__getitem__", "Service.__getitem__", defArgs s_Service___getitem__, defBody s_Service___getitem__, defScope s_Service___getitem__, []⟩
def dd_Service_run : DfE := ⟨.met "Service" "run", "run", "Service.run", defArgs s_Service_run, defBody s_Service_run, defScope s_Service_run, [.int 0]⟩
def dd__law_kit : DfE := ⟨.glo "_law_kit", "_law_kit", "_law_kit", defArgs s__law_kit, defBody s__law_kit, defScope s__law_kit, []⟩
def dd__law_toss : DfE := ⟨.glo "_law_toss", "_law_toss", "_law_toss", defArgs s__law_toss, defBody s__law_toss, defScope s__law_toss, []⟩
def dd__law_tags : DfE := ⟨.glo "_law_tags", "_law_tags", "_law_tags", defArgs s__law_tags, defBody s__law_tags, defScope s__law_tags, []⟩
def dd__law_answer : DfE := ⟨.glo "_law_answer", "_law_answer", "_law_answer", defArgs s__law_answer, defBody s__law_answer, defScope s__law_answer, []⟩
def dd__law_column : DfE := ⟨.glo "_law_column", "_law_column", "_law_column", defArgs s__law_column, defBody s__law_column, defScope s__law_column, []⟩
def dd__law_grid : DfE := ⟨.glo "_law_grid", "_law_grid", "_law_grid", defArgs s__law_grid, defBody s__law_grid, defScope s__law_grid, []⟩
def dd__law_walked : DfE := ⟨.glo "_law_walked", "_law_walked", "_law_walked", defArgs s__law_walked, defBody s__law_walked, defScope s__law_walked, []⟩
def dd__law_ran : DfE := ⟨.glo "_law_ran", "_law_ran", "_law_ran", defArgs s__law_ran, defBody s__law_ran, defScope s__law_ran, []⟩
def dd__law_built : DfE := ⟨.glo "_law_built", "_law_built", "_law_built", defArgs s__law_built, defBody s__law_built, defScope s__law_built, []⟩
def dd__law_caught : DfE := ⟨.glo "_law_caught", "_law_caught", "_law_caught", defArgs s__law_caught, defBody s__law_caught, defScope s__law_caught, []⟩
def dd__law_caught_o_t : DfE := ⟨.glo "_law_caught", "_law_caught", "_law_caught", defArgs s__law_caught_o_t, defBody s__law_caught_o_t, defScope s__law_caught_o_t, []⟩
def dd__law_mended_right : DfE := ⟨.glo "_law_mended_right", "_law_mended_right", "_law_mended_right", defArgs s__law_mended_right, defBody s__law_mended_right, defScope s__law_mended_right, []⟩
def dd__law_fits : DfE := ⟨.glo "_law_fits", "_law_fits", "_law_fits", defArgs s__law_fits, defBody s__law_fits, defScope s__law_fits, []⟩
def dd_law : DfE := ⟨.glo "law", "law", "law", defArgs s_law, defBody s_law, defScope s_law, []⟩
abbrev s_EXC_init : Stmt := sub 2 0
theorem sc_EXC_init : FnScope ["self", "value"] ["self", "value"] (defScope s_EXC_init) := ⟨rfl, rfl, rfl, by decide +kernel, rfl, by decide +kernel, by decide +kernel⟩
def dd_EXC_init : DfE := ⟨.met "CutError" "__init__", "__init__", "CutError.__init__", defArgs s_EXC_init, defBody s_EXC_init, defScope s_EXC_init, []⟩
def fn : List DfE := [dd_is_name, dd_check_names, dd_check_table, dd_table_reached, dd_Service_init, dd_Service___eq__, dd_Service___getitem__, dd_Service_run, dd__law_kit, dd__law_toss, dd__law_tags, dd__law_answer, dd__law_column, dd__law_grid, dd__law_walked, dd__law_ran, dd__law_built, dd__law_caught, dd__law_caught_o_t, dd__law_mended_right, dd__law_fits, dd_law, dd_EXC_init]
def fas : List He.Fa := [.free "all", .str "LETTERS" lettersS, .free "len", .free "range", .glo "InvalidName", .glo "DoubleName", .glo "InvalidState", .glo "InvalidStep", .free "tuple", .glo "Service", .cls "Service", .noat "Service" "kept_names", .noat "Service" "kept_table", .free "isinstance", .glo "UnknownCall", .free "abs", .free "int", .free "min", .free "list", .glo "CutError", .free "repr", .free "max", .glo "is_name", .glo "check_names", .glo "check_table", .glo "table_reached", .mkr "Service", .meth "Service" "__eq__", .meth "Service" "__getitem__", .meth "Service" "run", .glo "_law_kit", .glo "_law_toss", .glo "_law_tags", .glo "_law_answer", .glo "_law_column", .glo "_law_grid", .glo "_law_walked", .glo "_law_ran", .glo "_law_built", .glo "_law_caught", .glo "_law_mended_right", .glo "_law_fits", .glo "law"]
def fes : List Fe := [.raw (exnB "CutError" "InvalidName"), .raw (exnB "CutError" "DoubleName"), .raw (exnB "CutError" "InvalidState"), .raw (exnB "CutError" "InvalidStep"), .isi "Service", .kit "Service" "Service" true, .raw (exnB "CutError" "UnknownCall"), .raw (exsB "CutError" ["InvalidName", "DoubleName", "InvalidStep", "InvalidState", "UnknownCall"]), .raw (fun K => getFB K (He.ga K "Service"))]
abbrev Rw : PySem.W.OpenRow := PySem.W.OpenLaw.row PySem.Challenge.rw_anycut_k06_errors_of_rows_and_names
abbrev hk : PySem.W.Hook := hookE 5 fas fes fn
def ob (s : PySem.W.SharedT) : AlE := obsE 5 fas fes fn (HandSHeadRun.getT s)
theorem ob_eq (s : PySem.W.SharedT) : ob s = hk.obs s.abs := obsE_eq (HandSHeadRun.getT_eq s)
theorem run (w : World) : HandSHeadRun.RunEq Rw (PySem.W.view Rw.prog [28]) hk ob 6000 ["_wall", "CutError", "InvalidName", "DoubleName", "InvalidStep", "InvalidState", "UnknownCall", "LETTERS", "is_name", "check_names", "check_table", "table_reached", "Service", "_law_kit", "_law_toss", "_law_tags", "_law_answer", "_law_column", "_law_grid", "_law_walked", "_law_ran", "_law_built", "_law_caught", "_law_mended_right", "_law_fits"] w := by
  intro os
  kernel_rfl
theorem facts {P : Program} {w : World} {K : Frag} {h : Heap} {mg : Str → Option Value} {f : Addr} (X : K.In h) (Gn : h.Ns mainGlobals mg) (hfa : mg ("law" : Str) = some (.ref f)) (c : SaysE fas fes fn K) :
    ∃ fd : FuncData, (∀ (s : Shared) (v : Value), BindsTo s fd ⟨[v], []⟩ [("script", v)]) ∧ ∀ base : Heap, K.In base → base.Ns mainGlobals mg → FnG P w K mg base 8 f fd ["script"] (spP K (He.ga K) (aOne (cLK cI)) (rV cB) F_law) := by
  obtain ⟨fd_EXC_init, B_EXC_init⟩ := c.def_ 22 (d := dd_EXC_init) rfl
  obtain ⟨fd_is_name, B_is_name⟩ := c.def_ 0 (d := dd_is_name) rfl
  obtain ⟨fd_check_names, B_check_names⟩ := c.def_ 1 (d := dd_check_names) rfl
  obtain ⟨fd_check_table, B_check_table⟩ := c.def_ 2 (d := dd_check_table) rfl
  obtain ⟨fd_table_reached, B_table_reached⟩ := c.def_ 3 (d := dd_table_reached) rfl
  obtain ⟨fd_Service_init, B_Service_init⟩ := c.def_ 4 (d := dd_Service_init) rfl
  obtain ⟨fd_Service___eq__, B_Service___eq__⟩ := c.def_ 5 (d := dd_Service___eq__) rfl
  obtain ⟨fd_Service___getitem__, B_Service___getitem__⟩ := c.def_ 6 (d := dd_Service___getitem__) rfl
  obtain ⟨fd_Service_run, B_Service_run⟩ := c.def_ 7 (d := dd_Service_run) rfl
  obtain ⟨fd__law_kit, B__law_kit⟩ := c.def_ 8 (d := dd__law_kit) rfl
  obtain ⟨fd__law_toss, B__law_toss⟩ := c.def_ 9 (d := dd__law_toss) rfl
  obtain ⟨fd__law_tags, B__law_tags⟩ := c.def_ 10 (d := dd__law_tags) rfl
  obtain ⟨fd__law_answer, B__law_answer⟩ := c.def_ 11 (d := dd__law_answer) rfl
  obtain ⟨fd__law_column, B__law_column⟩ := c.def_ 12 (d := dd__law_column) rfl
  obtain ⟨fd__law_grid, B__law_grid⟩ := c.def_ 13 (d := dd__law_grid) rfl
  obtain ⟨fd__law_walked, B__law_walked⟩ := c.def_ 14 (d := dd__law_walked) rfl
  obtain ⟨fd__law_ran, B__law_ran⟩ := c.def_ 15 (d := dd__law_ran) rfl
  obtain ⟨fd__law_built, B__law_built⟩ := c.def_ 16 (d := dd__law_built) rfl
  obtain ⟨fd__law_caught, B__law_caught⟩ := c.def_ 17 (d := dd__law_caught) rfl
  obtain ⟨fd__law_caught_o_t, B__law_caught_o_t⟩ := c.def_ 18 (d := dd__law_caught_o_t) rfl
  obtain ⟨fd__law_mended_right, B__law_mended_right⟩ := c.def_ 19 (d := dd__law_mended_right) rfl
  obtain ⟨fd__law_fits, B__law_fits⟩ := c.def_ 20 (d := dd__law_fits) rfl
  obtain ⟨fd_law, B_law⟩ := c.def_ 21 (d := dd_law) rfl
  have M_all := He.free_ok X Gn (c.fact 0 (f := .free "all") rfl)
  have M_LETTERS := He.str_ok X Gn (c.fact 1 (f := .str "LETTERS" lettersS) rfl)
  have M_len := He.free_ok X Gn (c.fact 2 (f := .free "len") rfl)
  have M_range := He.free_ok X Gn (c.fact 3 (f := .free "range") rfl)
  have EXN_InvalidName : ∀ base : Heap, ExnG P w K mg base 1 (He.ga K) "InvalidName" := fun base => exn_mk (b := "CutError") (c.more 0 (f := .raw (exnB "CutError" "InvalidName")) rfl) (He.glo_ok X Gn (c.fact 4 (f := .glo "InvalidName") rfl)) (init_O (k := 0) B_EXC_init sc_EXC_init rfl rfl) (B_EXC_init.bindsN (ps := ["self", "value"]) fun _ _ _ _ _ _ us hl => match us, hl with | [_, _], _ => rfl)
  have EXN_DoubleName : ∀ base : Heap, ExnG P w K mg base 1 (He.ga K) "DoubleName" := fun base => exn_mk (b := "CutError") (c.more 1 (f := .raw (exnB "CutError" "DoubleName")) rfl) (He.glo_ok X Gn (c.fact 5 (f := .glo "DoubleName") rfl)) (init_O (k := 0) B_EXC_init sc_EXC_init rfl rfl) (B_EXC_init.bindsN (ps := ["self", "value"]) fun _ _ _ _ _ _ us hl => match us, hl with | [_, _], _ => rfl)
  have EXN_InvalidState : ∀ base : Heap, ExnG P w K mg base 1 (He.ga K) "InvalidState" := fun base => exn_mk (b := "CutError") (c.more 2 (f := .raw (exnB "CutError" "InvalidState")) rfl) (He.glo_ok X Gn (c.fact 6 (f := .glo "InvalidState") rfl)) (init_O (k := 0) B_EXC_init sc_EXC_init rfl rfl) (B_EXC_init.bindsN (ps := ["self", "value"]) fun _ _ _ _ _ _ us hl => match us, hl with | [_, _], _ => rfl)
  have EXN_InvalidStep : ∀ base : Heap, ExnG P w K mg base 1 (He.ga K) "InvalidStep" := fun base => exn_mk (b := "CutError") (c.more 3 (f := .raw (exnB "CutError" "InvalidStep")) rfl) (He.glo_ok X Gn (c.fact 7 (f := .glo "InvalidStep") rfl)) (init_O (k := 0) B_EXC_init sc_EXC_init rfl rfl) (B_EXC_init.bindsN (ps := ["self", "value"]) fun _ _ _ _ _ _ us hl => match us, hl with | [_, _], _ => rfl)
  have M_tuple := He.free_ok X Gn (c.fact 8 (f := .free "tuple") rfl)
  have C_Service : ClsG K mg "Service" (He.ga K "Service") := ⟨He.glo_ok X Gn (c.fact 9 (f := .glo "Service") rfl), He.cls_ok (c.fact 10 (f := .cls "Service") rfl)⟩
  have NA_Service_kept_names := He.noat_ok (c.fact 11 (f := .noat "Service" "kept_names") rfl)
  have NA_Service_kept_table := He.noat_ok (c.fact 12 (f := .noat "Service" "kept_table") rfl)
  have M_isinstance := He.free_ok X Gn (c.fact 13 (f := .free "isinstance") rfl)
  have ISI_Service := isi_ok (He.cls_ok (c.fact 10 (f := .cls "Service") rfl)) (c.more 4 (f := .isi "Service") rfl)
  have KIT_Service_Service := kit_ok (c.more 5 (f := .kit "Service" "Service" true) rfl)
  have EXN_UnknownCall : ∀ base : Heap, ExnG P w K mg base 1 (He.ga K) "UnknownCall" := fun base => exn_mk (b := "CutError") (c.more 6 (f := .raw (exnB "CutError" "UnknownCall")) rfl) (He.glo_ok X Gn (c.fact 14 (f := .glo "UnknownCall") rfl)) (init_O (k := 0) B_EXC_init sc_EXC_init rfl rfl) (B_EXC_init.bindsN (ps := ["self", "value"]) fun _ _ _ _ _ _ us hl => match us, hl with | [_, _], _ => rfl)
  have M_abs := He.free_ok X Gn (c.fact 15 (f := .free "abs") rfl)
  have M_int := He.free_ok X Gn (c.fact 16 (f := .free "int") rfl)
  have M_min := He.free_ok X Gn (c.fact 17 (f := .free "min") rfl)
  have M_list := He.free_ok X Gn (c.fact 18 (f := .free "list") rfl)
  have EXS := exs_ok (c.more 7 (f := .raw (exsB "CutError" ["InvalidName", "DoubleName", "InvalidStep", "InvalidState", "UnknownCall"])) rfl)
  have GCL_UnknownCall := He.glo_ok X Gn (c.fact 14 (f := .glo "UnknownCall") rfl)
  have GCL_InvalidState := He.glo_ok X Gn (c.fact 6 (f := .glo "InvalidState") rfl)
  have GCL_CutError := He.glo_ok X Gn (c.fact 19 (f := .glo "CutError") rfl)
  have GTF_Service := getF_ok (c.more 8 (f := .raw (fun K => getFB K (He.ga K "Service"))) rfl)
  have M_repr := He.free_ok X Gn (c.fact 20 (f := .free "repr") rfl)
  have M_max := He.free_ok X Gn (c.fact 21 (f := .free "max") rfl)
  have e := hfa.symm.trans (He.glo_ok X Gn (c.fact 42 (f := .glo "law") rfl))
  cases e
  refine ⟨fd_law, fun s v => FunD.bindsA (ps := ["script"]) B_law (fun _ _ _ _ _ _ us hl => match us, hl with | [_], _ => rfl) s [v] rfl, fun base _ _ => ?_⟩
  have EXN_InvalidName := EXN_InvalidName base
  have EXN_DoubleName := EXN_DoubleName base
  have EXN_InvalidState := EXN_InvalidState base
  have EXN_InvalidStep := EXN_InvalidStep base
  have EXN_UnknownCall := EXN_UnknownCall base
  have D_is_name := ok_is_name (P := P) (w := w) (base := base) (ca := He.ga K)  B_is_name M_all M_LETTERS M_len (He.glo_ok X Gn (c.fact 22 (f := .glo "is_name") rfl))
  have D_check_names := ok_check_names (P := P) (w := w) (base := base) (ca := He.ga K)  B_check_names M_range M_len D_is_name EXN_InvalidName EXN_DoubleName (He.glo_ok X Gn (c.fact 23 (f := .glo "check_names") rfl))
  have D_check_table := ok_check_table (P := P) (w := w) (base := base) (ca := He.ga K)  B_check_table M_range M_len EXN_InvalidState EXN_InvalidStep (He.glo_ok X Gn (c.fact 24 (f := .glo "check_table") rfl))
  have D_table_reached := ok_table_reached (P := P) (w := w) (base := base) (ca := He.ga K)  B_table_reached M_len M_tuple (He.glo_ok X Gn (c.fact 25 (f := .glo "table_reached") rfl))
  have K_Service := ok_Service_init (P := P) (w := w) (base := base) (ca := He.ga K) (A_Service := He.ga K "Service") B_Service_init D_check_names D_check_table M_tuple C_Service NA_Service_kept_names D_table_reached NA_Service_kept_table (He.glo_ok X Gn (c.fact 9 (f := .glo "Service") rfl)) (He.mkr_ok (c.fact 26 (f := .mkr "Service") rfl))
  have MET_Service___eq__ : MetG P w K mg base _ _ _ _ _ := ⟨⟨_, _, (okF_Service___eq__ (P := P) (w := w) (base := base) (ca := He.ga K) (A_Service := He.ga K "Service") B_Service___eq__ C_Service ISI_Service KIT_Service_Service M_isinstance NA_Service_kept_table NA_Service_kept_names), He.meth_ok (c.fact 27 (f := .meth "Service" "__eq__") rfl), (B_Service___eq__.bindsN (ps := ["self", "other"]) fun _ _ _ _ _ _ us hl => match us, hl with | [_, _], _ => rfl)⟩⟩
  have MET_Service___getitem__ : MetG P w K mg base _ _ _ _ _ := ⟨⟨_, _, (okF_Service___getitem__ (P := P) (w := w) (base := base) (ca := He.ga K) (A_Service := He.ga K "Service") B_Service___getitem__ C_Service NA_Service_kept_names EXN_UnknownCall NA_Service_kept_table), He.meth_ok (c.fact 28 (f := .meth "Service" "__getitem__") rfl), (B_Service___getitem__.bindsN (ps := ["self", "name"]) fun _ _ _ _ _ _ us hl => match us, hl with | [_, _], _ => rfl)⟩⟩
  have MP_Service_run_p0p1p2 : MetP P w K mg base _ _ _ _ _ (fun vs zs => selL [.p 0, .p 1, .p 2] vs [.int 0] zs) _ := ⟨⟨_, _, _, (okF_Service_run (P := P) (w := w) (base := base) (ca := He.ga K) (A_Service := He.ga K "Service") B_Service_run C_Service NA_Service_kept_table M_len EXN_InvalidState NA_Service_kept_names EXN_UnknownCall), He.meth_ok (c.fact 29 (f := .meth "Service" "run") rfl), (pat_d (ps := ["self", "row", "state"]) B_Service_run 3 [] [.p 0, .p 1, .p 2] (by intro e; cases e) fun _ _ _ _ _ _ _ us its ws h1 h2 h3 => match us, h1, its, h2, ws, h3 with | [_, _, _], _, [_], _, [], _ => ⟨_, rfl, rfl⟩)⟩⟩
  have MP_Service_run_p0k1k0 : MetP P w K mg base _ _ _ _ _ (fun vs zs => selL [.p 0, .k 1, .k 0] vs [.int 0] zs) _ := ⟨⟨_, _, _, (okF_Service_run (P := P) (w := w) (base := base) (ca := He.ga K) (A_Service := He.ga K "Service") B_Service_run C_Service NA_Service_kept_table M_len EXN_InvalidState NA_Service_kept_names EXN_UnknownCall), He.meth_ok (c.fact 29 (f := .meth "Service" "run") rfl), (pat_d (ps := ["self", "row", "state"]) B_Service_run 1 ["state", "row"] [.p 0, .k 1, .k 0] (by intro e; cases e) fun _ _ _ _ _ _ _ us its ws h1 h2 h3 => match us, h1, its, h2, ws, h3 with | [_], _, [_], _, [_, _], _ => ⟨_, rfl, rfl⟩)⟩⟩
  have D__law_kit := ok__law_kit (P := P) (w := w) (base := base) (ca := He.ga K)  B__law_kit M_len M_abs M_int (He.glo_ok X Gn (c.fact 30 (f := .glo "_law_kit") rfl))
  have D__law_toss := ok__law_toss (P := P) (w := w) (base := base) (ca := He.ga K)  B__law_toss M_int (He.glo_ok X Gn (c.fact 31 (f := .glo "_law_toss") rfl))
  have D__law_tags := ok__law_tags (P := P) (w := w) (base := base) (ca := He.ga K)  B__law_tags D__law_toss M_range M_int M_len (He.glo_ok X Gn (c.fact 32 (f := .glo "_law_tags") rfl))
  have D__law_answer := ok__law_answer (P := P) (w := w) (base := base) (ca := He.ga K)  B__law_answer D__law_toss (He.glo_ok X Gn (c.fact 33 (f := .glo "_law_answer") rfl))
  have D__law_column := ok__law_column (P := P) (w := w) (base := base) (ca := He.ga K)  B__law_column D__law_toss D__law_answer M_range M_int M_min (He.glo_ok X Gn (c.fact 34 (f := .glo "_law_column") rfl))
  have D__law_grid := ok__law_grid (P := P) (w := w) (base := base) (ca := He.ga K)  B__law_grid M_range D__law_column (He.glo_ok X Gn (c.fact 35 (f := .glo "_law_grid") rfl))
  have D__law_walked := ok__law_walked (P := P) (w := w) (base := base) (ca := He.ga K)  B__law_walked M_range M_len (He.glo_ok X Gn (c.fact 36 (f := .glo "_law_walked") rfl))
  have D__law_ran := ok__law_ran (P := P) (w := w) (base := base) (ca := He.ga K)  B__law_ran  (He.glo_ok X Gn (c.fact 37 (f := .glo "_law_ran") rfl))
  have D__law_built := ok__law_built (P := P) (w := w) (base := base) (ca := He.ga K) (A_Service := He.ga K "Service") B__law_built K_Service M_list (He.glo_ok X Gn (c.fact 38 (f := .glo "_law_built") rfl))
  have D__law_caught := ok__law_caught (P := P) (w := w) (base := base) (ca := He.ga K) (A_Service := He.ga K "Service") B__law_caught EXS GCL_UnknownCall M_isinstance GCL_InvalidState GCL_CutError C_Service MP_Service_run_p0p1p2 MP_Service_run_p0k1k0 MET_Service___getitem__ GTF_Service (He.glo_ok X Gn (c.fact 39 (f := .glo "_law_caught") rfl))
  have D__law_caught_o_t := ok__law_caught_o_t (P := P) (w := w) (base := base) (ca := He.ga K) (A_Service := He.ga K "Service") B__law_caught_o_t EXS GCL_UnknownCall M_isinstance GCL_InvalidState GCL_CutError C_Service MET_Service___getitem__ GTF_Service (He.glo_ok X Gn (c.fact 39 (f := .glo "_law_caught") rfl))
  have D__law_mended_right := ok__law_mended_right (P := P) (w := w) (base := base) (ca := He.ga K) (A_Service := He.ga K "Service") B__law_mended_right C_Service MP_Service_run_p0p1p2 M_repr D__law_ran (He.glo_ok X Gn (c.fact 40 (f := .glo "_law_mended_right") rfl))
  have D__law_fits := ok__law_fits (P := P) (w := w) (base := base) (ca := He.ga K) (A_Service := He.ga K "Service") B__law_fits D__law_tags D__law_toss D__law_grid M_len D__law_built D__law_walked M_range M_list D__law_caught M_repr D__law_caught_o_t D__law_mended_right C_Service MET_Service___eq__ (He.glo_ok X Gn (c.fact 41 (f := .glo "_law_fits") rfl))
  exact okF_law (A_Service := He.ga K "Service") B_law M_range M_max M_min M_len D__law_kit D__law_fits
end Pf
open PySem PySem.W PySem.Calls PyProof.Rows
theorem PySem.Challenge.cw_anycut_k06_errors_of_rows_and_names_holds : PySem.Challenge.rw_anycut_k06_errors_of_rows_and_names.Holds := by
  w_on; o_law
  refine HandSHeadRun.head_any (r := OpenLaw.row PySem.Challenge.rw_anycut_k06_errors_of_rows_and_names) (q := view (OpenLaw.row PySem.Challenge.rw_anycut_k06_errors_of_rows_and_names).prog [28]) (H := Pf.hk) (ob := Pf.ob) (M := 6000) (loose := ["_wall", "CutError", "InvalidName", "DoubleName", "InvalidStep", "InvalidState", "UnknownCall", "LETTERS", "is_name", "check_names", "check_table", "table_reached", "Service", "_law_kit", "_law_toss", "_law_tags", "_law_answer", "_law_column", "_law_grid", "_law_walked", "_law_ran", "_law_built", "_law_caught", "_law_mended_right", "_law_fits"]) (d := HandSHeadRun.topDef (OpenLaw.row PySem.Challenge.rw_anycut_k06_errors_of_rows_and_names).prog 28) (kwd := []) Pf.ob_eq
    (by kernel_rfl) (fun s => by kernel_rfl) Pf.run (by kernel_rfl) (by kernel_rfl) (by kernel_rfl) (by rfl) (by first | assumption | decide +kernel) (by decide +kernel) ⟨rfl, rfl, rfl, rfl, rfl, by decide +kernel⟩ ?hw ?hc
  case hw => w_witness2
  case hc =>
    refine AC.walk_G (l := PySem.Challenge.rw_anycut_k06_errors_of_rows_and_names) (n := 63) (k := 8) (x := "script") rfl (by decide) (by kernel_rfl) ⟨rfl, by decide, by decide⟩ ?F
    intro w mg fa h Y G hmg0
    obtain ⟨K, KX, c⟩ := Y
    have hmg : mg ("law" : PySem.Str) = some (.ref fa) := by
      have e : (HandSHeadRun.topDef (OpenLaw.row PySem.Challenge.rw_anycut_k06_errors_of_rows_and_names).prog 28).name = ("law" : PySem.Str) := by kernel_rfl
      rw [← e]
      exact hmg0
    obtain ⟨fd, hb, hF⟩ := Pf.facts (P := (PySem.Challenge.rw_anycut_k06_errors_of_rows_and_names).prog) (w := w) KX G hmg c
    exact ⟨K, fd, _, KX, hb, fun H a ns hl _ hS => AC.sp_law Pf.law_true (by decide) H a ns hl hS, hF⟩
