import PyProof.Rows.All
import HandS.ForMost
import HandS.TupAny
import HandS.Style
import HandS.Wide
import HandS.Gcd
import HandS.TupMul
import KE.GoesEnum
import PyProof.EnumFor
import HandS.TupLen
import HandS.NoneIn
import HandS.Star
import HandS.WordsDict
import KE.DataMinMax
import KE.SortData
import HandS.SortKw
import HandS.Iter
import KE.KDictWalk
import HandS.DictTup
import HandS.Conv
import PyProof.ReprRoads
import PyProof.CallFns
import PyProof.Rows.Digits
import HandS.Ends
import HandS.EndBits
import HandS.IsInst
import HandS.TupLe
import HandS.Dict
import PyProof.NeKinds
import PySem.Challenge.RW_drawntables_k50_falling_products_and_row
import Wide.All
import OpenK.AllK
import Wide.FinOn
set_option Elab.async false
set_option linter.all false
set_option maxRecDepth 100000
set_option maxHeartbeats 4000000
/-! Values: plain data W, what stands in a slot, the relation to HandS's V and Hp. -/
namespace Vy
open PySem PySem.Spec PyProof.Rows L2

/-- a dict's keys: ints and texts, or tuples of these -/
inductive Kys where
  | k (l : List Key)
  | t (l : List (List Key))
  deriving Inhabited, DecidableEq
/-- plain data; ref n: the n-th shared object; scr: the script -/
inductive W where
  | non
  | bl (b : Bool)
  | int (i : Int)
  | str (x : Str)
  | tup (xs : List W)
  | lst (xs : List W)
  | dct (ks : Kys) (vs : List W)
  | ref (n : Nat)
  | scr (ns : List Int)
  deriving Inhabited

/-- an object that may change -/
inductive Ob where
  | lst (xs : List W)
  | dct (ks : Kys) (vs : List W)
  deriving Inhabited
def Ob.toW : Ob → W
  | .lst xs => .lst xs
  | .dct ks vs => .dct ks vs

/-- a slot: empty, a value, an object that this slot alone knows -/
inductive Sl where
  | no
  | val (w : W)
  | own (o : Ob)
  deriving Inhabited
abbrev Frame := List Sl
abbrev Store := List Ob

def keyW : Key → W
  | .inl i => .int i
  | .inr x => .str x
def tkeyW (k : List Key) : W := .tup (k.map keyW)

abbrev Mp := Nat → Option Addr
abbrev Op := Addr → Prop
/-- a is no shared object's address -/
def NoImg (m : Mp) (a : Addr) : Prop := ∀ n, m n ≠ some a

/-- the dict at a: its keys, its values -/
def DictAt (H : Hp) (a : Addr) (ks : Kys) (vs : List V) : Prop := match ks with
  | .k l => ∃ kvs : List (Key × V), l = kvs.map (·.1) ∧ vs = kvs.map (·.2) ∧ Rd H a (.dK kvs)
  | .t l => ∃ kvs : List (List Key × V), l = kvs.map (·.1) ∧ vs = kvs.map (·.2) ∧ Rd H a (.dT kvs)

/-- .. and nobody walks it -/
def DictIs (H : Hp) (a : Addr) (ks : Kys) (vs : List V) : Prop := match ks with
  | .k l => ∃ kvs : List (Key × V), l = kvs.map (·.1) ∧ vs = kvs.map (·.2) ∧ H a = some (.dK kvs)
  | .t l => ∃ kvs : List (List Key × V), l = kvs.map (·.1) ∧ vs = kvs.map (·.2) ∧ H a = some (.dT kvs)

mutual
def Den (K : PySem.W.Frag) (m : Mp) (O : Op) (H : Hp) : W → V → Prop
  | .non, v => v = .non
  | .bl b, v => v = .bl b
  | .int i, v => v = .int i
  | .str x, v => v = .str x
  | .ref n, v => ∃ a, m n = some a ∧ v = .ref a
  | .scr ns, v => ∃ a, v = .ref a ∧ ((¬ O a ∧ Rd H a (.lst (ns.map V.int))) ∨ ∀ H', SqL K H' a (ns.map V.int))
  | .tup ws, v => ∃ a vs, v = .ref a ∧ H a = some (.tup vs) ∧ Dens K m O H ws vs
  | .lst ws, v => ∃ a vs, v = .ref a ∧ ¬ O a ∧ H a = some (.lst vs) ∧ Dens K m O H ws vs
  | .dct ks ws, v => ∃ a vs, v = .ref a ∧ ¬ O a ∧ DictAt H a ks vs ∧ Dens K m O H ws vs
def Dens (K : PySem.W.Frag) (m : Mp) (O : Op) (H : Hp) : List W → List V → Prop
  | [], vs => vs = []
  | w :: ws, vs => ∃ v r, vs = v :: r ∧ Den K m O H w v ∧ Dens K m O H ws r
end

/-- the object at a -/
def ObAt (K : PySem.W.Frag) (m : Mp) (O : Op) (H : Hp) (a : Addr) : Ob → Prop
  | .lst ws => ∃ vs, H a = some (.lst vs) ∧ Dens K m O H ws vs
  | .dct ks ws => ∃ vs, DictIs H a ks vs ∧ Dens K m O H ws vs

/-- a value that is only looked at: its own object may be an open one -/
def LDen (K : PySem.W.Frag) (m : Mp) (O : Op) (H : Hp) : W → V → Prop
  | .lst ws, v => ∃ a, v = .ref a ∧ NoImg m a ∧ ObAt K m O H a (.lst ws)
  | .dct ks ws, v => ∃ a, v = .ref a ∧ NoImg m a ∧ ∃ vs, DictAt H a ks vs ∧ Dens K m O H ws vs
  | w, v => Den K m O H w v

/-- what may have happened between two states; F: what is kept of the open ones -/
structure GrowF (F : Op) (m : Mp) (O : Op) (H : Hp) (m' : Mp) (O' : Op) (H' : Hp) : Prop where
  mm : ∀ n a, m n = some a → m' n = some a
  new : ∀ n b, m' n = some b → m n = some b ∨ H b = none
  keep : ∀ b o, H b = some o → (¬ O b ∨ F b) → NoImg m b → H' b = some o
  opn : ∀ b, O' b → O b ∨ H b = none
  there : ∀ b o, H b = some o → ∃ o', H' b = some o'
  tups : ∀ b vs, H b = some (.tup vs) → H' b = some (.tup vs)
abbrev allA : Op := fun _ => True
/-- all open ones but the shared are kept -/
abbrev Grow (m : Mp) (O : Op) (H : Hp) (m' : Mp) (O' : Op) (H' : Hp) : Prop := GrowF allA m O H m' O' H'

section
variable {K : PySem.W.Frag} {m m' m2 : Mp} {O O' O2 : Op} {H H' H2 : Hp} {a b : Addr} {G : Op}

theorem GrowF.refl : GrowF G m O H m O H := ⟨fun _ _ e => e, fun _ _ e => .inl e, fun _ _ e _ _ => e, fun _ e => .inl e, fun _ o e => ⟨o, e⟩, fun _ _ e => e⟩
theorem Grow.refl : Grow m O H m O H := GrowF.refl
theorem GrowF.noimg (g : GrowF G m O H m' O' H') (h : NoImg m a) {o : HO} (e : H a = some o) : NoImg m' a := fun n q => by
  rcases g.new n a q with z | z
  · exact h n z
  · rw [e] at z; cases z
theorem GrowF.trans (g : GrowF G m O H m' O' H') (f : GrowF G m' O' H' m2 O2 H2) : GrowF G m O H m2 O2 H2 where
  mm := fun n a e => f.mm n a (g.mm n a e)
  new := fun n b e => by
    rcases f.new n b e with z | z
    · exact g.new n b z
    · cases q : H b with
      | none => exact .inr rfl
      | some o => obtain ⟨o', e'⟩ := g.there b o q; rw [z] at e'; cases e'
  keep := fun b o e c h => f.keep b o (g.keep b o e c h) (c.elim (fun c => .inl fun z => (g.opn b z).elim c fun q => by rw [e] at q; cases q) .inr) (g.noimg h e)
  opn := fun b e => by
    rcases f.opn b e with z | z
    · exact g.opn b z
    · cases q : H b with
      | none => exact .inr rfl
      | some o => obtain ⟨o', e'⟩ := g.there b o q; rw [z] at e'; cases e'
  there := fun b o e => by
    obtain ⟨o', e'⟩ := g.there b o e
    exact f.there b o' e'
  tups := fun b vs e => f.tups b vs (g.tups b vs e)
/-- fewer are promised to be kept -/
theorem GrowF.less (g : Grow m O H m' O' H') : GrowF G m O H m' O' H' := ⟨g.mm, g.new, fun b o e _ h => g.keep b o e (.inr trivial) h, g.opn, g.there, g.tups⟩
/-- all that stood stands -/
theorem GrowF.ext (h : ∀ b o, H b = some o → H' b = some o) : GrowF G m O H m O H' :=
  ⟨fun _ _ e => e, fun _ _ e => .inl e, fun b o e _ _ => h b o e, fun _ e => .inl e, fun b o e => ⟨o, h b o e⟩, fun b vs e => h b _ e⟩
theorem GrowF.shut (h : ∀ b, O' b → O b) : GrowF G m O H m O' H :=
  ⟨fun _ _ e => e, fun _ _ e => .inl e, fun b o e _ _ => e, fun b e => .inl (h b e), fun b o e => ⟨o, e⟩, fun b vs e => e⟩
theorem Grow.ext (h : ∀ b o, H b = some o → H' b = some o) : Grow m O H m O H' := GrowF.ext h
theorem Grow.shut (h : ∀ b, O' b → O b) : Grow m O H m O' H := GrowF.shut h

theorem DictAt.at {ks : Kys} {vs : List V} (d : DictAt H a ks vs) (h : ∀ o, H a = some o → H' a = some o) : DictAt H' a ks vs := by
  cases ks with
  | k l =>
    obtain ⟨kvs, e1, e2, e⟩ := d
    exact ⟨kvs, e1, e2, e.imp (h _) fun ⟨o, e⟩ => ⟨o, h _ e⟩⟩
  | t l =>
    obtain ⟨kvs, e1, e2, e⟩ := d
    exact ⟨kvs, e1, e2, e.imp (h _) fun ⟨o, e⟩ => ⟨o, h _ e⟩⟩
theorem DictAt.ex {ks : Kys} {vs : List V} (d : DictAt H a ks vs) : ∃ o, H a = some o ∧ ∀ xs, o ≠ .tup xs := by
  cases ks with
  | k l =>
    obtain ⟨kvs, e1, e2, e | ⟨o, e⟩⟩ := d
    · exact ⟨_, e, fun _ q => nomatch q⟩
    · exact ⟨_, e, fun _ q => nomatch q⟩
  | t l =>
    obtain ⟨kvs, e1, e2, e | ⟨o, e⟩⟩ := d
    · exact ⟨_, e, fun _ q => nomatch q⟩
    · exact ⟨_, e, fun _ q => nomatch q⟩
theorem DictIs.to {ks : Kys} {vs : List V} (d : DictIs H a ks vs) : DictAt H a ks vs := by
  cases ks with
  | k l =>
    obtain ⟨kvs, e1, e2, e⟩ := d
    exact ⟨kvs, e1, e2, .inl e⟩
  | t l =>
    obtain ⟨kvs, e1, e2, e⟩ := d
    exact ⟨kvs, e1, e2, .inl e⟩
theorem DictIs.ex {ks : Kys} {vs : List V} (d : DictIs H a ks vs) : ∃ o, H a = some o ∧ ∀ xs, o ≠ .tup xs := d.to.ex
theorem DictIs.at {ks : Kys} {vs : List V} (d : DictIs H a ks vs) (h : ∀ o, H a = some o → H' a = some o) : DictIs H' a ks vs := by
  cases ks with
  | k l =>
    obtain ⟨kvs, e1, e2, e⟩ := d
    exact ⟨kvs, e1, e2, h _ e⟩
  | t l =>
    obtain ⟨kvs, e1, e2, e⟩ := d
    exact ⟨kvs, e1, e2, h _ e⟩
theorem ObAt.ex {o : Ob} (d : ObAt K m O H a o) : ∃ u, H a = some u := by
  cases o with
  | lst ws => obtain ⟨vs, e, _⟩ := d; exact ⟨_, e⟩
  | dct ks ws => obtain ⟨vs, e, _⟩ := d; obtain ⟨o, e, _⟩ := e.ex; exact ⟨o, e⟩

mutual
theorem Den.grow (g : GrowF G m O H m' O' H') (hm : ∀ n a, m n = some a → O a) : ∀ (w : W) (v : V), Den K m O H w v → Den K m' O' H' w v
  | .non, v, h => by unfold Den at h ⊢; exact h
  | .bl b, v, h => by unfold Den at h ⊢; exact h
  | .int i, v, h => by unfold Den at h ⊢; exact h
  | .str x, v, h => by unfold Den at h ⊢; exact h
  | .ref n, v, h => by
    unfold Den at h ⊢
    obtain ⟨a, e, q⟩ := h
    exact ⟨a, g.mm n a e, q⟩
  | .scr ns, v, h => by
    unfold Den at h ⊢
    obtain ⟨a, e, s⟩ := h
    rcases s with ⟨q, s⟩ | s
    · have ni : NoImg m a := fun n z => q (hm n a z)
      have ex : ∃ u, H a = some u := by
        rcases s with s | ⟨o, s⟩
        · exact ⟨_, s⟩
        · exact ⟨_, s⟩
      obtain ⟨u, eu⟩ := ex
      refine ⟨a, e, .inl ⟨fun z => ?_, ?_⟩⟩
      · rcases g.opn a z with z | z
        · exact q z
        · rw [eu] at z; cases z
      · rcases s with s | ⟨o, s⟩
        · exact .inl (g.keep _ _ s (.inl q) ni)
        · exact .inr ⟨o, g.keep _ _ s (.inl q) ni⟩
    · exact ⟨a, e, .inr s⟩
  | .tup ws, v, h => by
    unfold Den at h ⊢
    obtain ⟨a, vs, e, q, d⟩ := h
    exact ⟨a, vs, e, g.tups _ _ q, Dens.grow g hm ws vs d⟩
  | .lst ws, v, h => by
    unfold Den at h ⊢
    obtain ⟨a, vs, e, q, s, d⟩ := h
    refine ⟨a, vs, e, fun z => ?_, g.keep _ _ s (.inl q) fun n z => q (hm n a z), Dens.grow g hm ws vs d⟩
    rcases g.opn a z with z | z
    · exact q z
    · rw [s] at z; cases z
  | .dct ks ws, v, h => by
    unfold Den at h ⊢
    obtain ⟨a, vs, e, q, s, d⟩ := h
    refine ⟨a, vs, e, fun z => ?_, s.at fun o z => g.keep _ _ z (.inl q) fun n z => q (hm n a z), Dens.grow g hm ws vs d⟩
    obtain ⟨o, s', _⟩ := s.ex
    rcases g.opn a z with z | z
    · exact q z
    · rw [s'] at z; cases z
theorem Dens.grow (g : GrowF G m O H m' O' H') (hm : ∀ n a, m n = some a → O a) : ∀ (ws : List W) (vs : List V), Dens K m O H ws vs → Dens K m' O' H' ws vs
  | [], vs, h => by unfold Dens at h ⊢; exact h
  | w :: ws, vs, h => by
    unfold Dens at h ⊢
    obtain ⟨v, r, e, d, ds⟩ := h
    exact ⟨v, r, e, Den.grow g hm w v d, Dens.grow g hm ws r ds⟩
end

theorem ObAt.grow (g : Grow m O H m' O' H') (hm : ∀ n a, m n = some a → O a) (ni : NoImg m a) {o : Ob} (h : ObAt K m O H a o) : ObAt K m' O' H' a o := by
  cases o with
  | lst ws =>
    obtain ⟨vs, e, d⟩ := h
    exact ⟨vs, g.keep _ _ e (.inr trivial) ni, Dens.grow g hm ws vs d⟩
  | dct ks ws =>
    obtain ⟨vs, e, d⟩ := h
    exact ⟨vs, e.at fun o z => g.keep _ _ z (.inr trivial) ni, Dens.grow g hm ws vs d⟩
theorem LDen.grow (g : Grow m O H m' O' H') (hm : ∀ n a, m n = some a → O a) {w : W} {v : V} (h : LDen K m O H w v) : LDen K m' O' H' w v := by
  cases w with
  | lst ws =>
    obtain ⟨a, e, ni, d⟩ := h
    obtain ⟨u, eu⟩ := d.ex
    exact ⟨a, e, g.noimg ni eu, d.grow g hm ni⟩
  | dct ks ws =>
    obtain ⟨a, e, ni, vs, s, d⟩ := h
    obtain ⟨u, eu, _⟩ := s.ex
    exact ⟨a, e, g.noimg ni eu, vs, s.at fun o z => g.keep _ _ z (.inr trivial) ni, Dens.grow g hm ws vs d⟩
  | _ => exact Den.grow g hm _ v h
theorem Den.loose (hm : ∀ n a, m n = some a → O a) {w : W} {v : V} (h : Den K m O H w v) : LDen K m O H w v := by
  cases w with
  | lst ws =>
    unfold Den at h
    obtain ⟨a, vs, e, q, s, d⟩ := h
    exact ⟨a, e, fun n z => q (hm n a z), vs, s, d⟩
  | dct ks ws =>
    unfold Den at h
    obtain ⟨a, vs, e, q, s, d⟩ := h
    exact ⟨a, e, fun n z => q (hm n a z), vs, s, d⟩
  | _ => exact h
/-- fewer open addresses -/
theorem Den.shut (h : ∀ b, O' b → O b) (hm : ∀ n a, m n = some a → O a) {w : W} {v : V} (d : Den K m O H w v) : Den K m O' H w v := Den.grow (Grow.shut h) hm w v d

/-- the state: F the floor (open ahead of the def), O the open addresses -/
structure Sto (K : PySem.W.Frag) (m : Mp) (F O : Op) (H : Hp) (st : Store) : Prop where
  mO : ∀ n a, m n = some a → O a
  flo : ∀ b, F b → O b
  inj : ∀ n k a, m n = some a → m k = some a → n = k
  dom : ∀ n, n < st.length → ∃ a, m n = some a
  trk : ∀ b, O b → ∃ o, H b = some o
  obj : ∀ n a, m n = some a → ∃ o, st[n]? = some o ∧ ObAt K m O H a o
def SlOk (K : PySem.W.Frag) (m : Mp) (F O : Op) (H : Hp) (x : Option (Option V)) : Sl → Prop
  | .no => True
  | .val w => ∃ v, x = some (some v) ∧ Den K m O H w v
  | .own o => ∃ a, x = some (some (V.ref a)) ∧ O a ∧ ¬ F a ∧ NoImg m a ∧ ObAt K m O H a o
structure Rel (K : PySem.W.Frag) (m : Mp) (F O : Op) (σ : L2.St) (H : Hp) (fr : Frame) (st : Store) : Prop extends Sto K m F O H st where
  sl : ∀ (i : Nat) (s : Sl), fr[i]? = some s → SlOk K m F O H σ[i]? s
  len : fr.length ≤ σ.length
  sep : ∀ (i j : Nat) (o u : Ob) (a : Addr), fr[i]? = some (Sl.own o) → fr[j]? = some (Sl.own u) → σ[i]? = some (some (V.ref a)) → σ[j]? = some (some (V.ref a)) → i = j
/-- a new object: known to nobody -/
structure Fresh (m : Mp) (F O : Op) (σ : L2.St) (fr : Frame) (a : Addr) : Prop where
  op : O a
  nf : ¬ F a
  ni : NoImg m a
  no : ∀ (i : Nat) (o : Ob), fr[i]? = some (Sl.own o) → σ[i]? ≠ some (some (V.ref a))

/-- how a value came: a new object, a value, an own slot's object looked at -/
inductive Kd where
  | fr | st | pk
  deriving DecidableEq
def RDen (K : PySem.W.Frag) (m : Mp) (F O : Op) (σ : L2.St) (H : Hp) (fr : Frame) : Kd → W → V → Prop
  | .st, w, v => Den K m O H w v
  | .pk, w, v => LDen K m O H w v
  | .fr, w, v => ∃ a o, w = Ob.toW o ∧ v = .ref a ∧ Fresh m F O σ fr a ∧ ObAt K m O H a o

variable {F : Op} {σ : L2.St} {fr : Frame} {st : Store}
theorem ObAt.loose {o : Ob} (ni : NoImg m a) (h : ObAt K m O H a o) : LDen K m O H o.toW (.ref a) := by
  cases o with
  | lst ws => exact ⟨a, rfl, ni, h⟩
  | dct ks ws => obtain ⟨vs, z, d⟩ := h; exact ⟨a, rfl, ni, vs, z.to, d⟩
theorem RDen.loose (R : Sto K m F O H st) {k : Kd} {w : W} {v : V} (h : RDen K m F O σ H fr k w v) : LDen K m O H w v := by
  cases k with
  | fr =>
    obtain ⟨a, o, rfl, rfl, f, d⟩ := h
    exact d.loose f.ni
  | st => exact Den.loose R.mO h
  | pk => exact h

/-- all that stood stands -/
theorem Sto.ext (R : Sto K m F O H st) (h : ∀ b o, H b = some o → H' b = some o) : Sto K m F O H' st where
  mO := R.mO
  flo := R.flo
  inj := R.inj
  dom := R.dom
  trk := fun b z => let ⟨o, e⟩ := R.trk b z; ⟨o, h b o e⟩
  obj := fun n a e => by
    obtain ⟨o, e1, d⟩ := R.obj n a e
    refine ⟨o, e1, ?_⟩
    cases o with
    | lst ws => obtain ⟨vs, e2, d⟩ := d; exact ⟨vs, h _ _ e2, Dens.grow (Grow.ext h) R.mO ws vs d⟩
    | dct ks ws => obtain ⟨vs, e2, d⟩ := d; exact ⟨vs, e2.at fun o z => h _ _ z, Dens.grow (Grow.ext h) R.mO ws vs d⟩
theorem Rel.ext (R : Rel K m F O σ H fr st) (h : ∀ b o, H b = some o → H' b = some o) : Rel K m F O σ H' fr st where
  toSto := R.toSto.ext h
  sl := fun i s e => by
    have z := R.sl i s e
    cases s with
    | no => exact trivial
    | val w => obtain ⟨v, e1, d⟩ := z; exact ⟨v, e1, Den.grow (Grow.ext h) R.mO w v d⟩
    | own o => obtain ⟨a, e1, h1, h2, h3, d⟩ := z; exact ⟨a, e1, h1, h2, h3, d.grow (Grow.ext h) R.mO h3⟩
  len := R.len
  sep := R.sep
/-- fewer open addresses, the shared and the own ones still among them -/
theorem Sto.shut (R : Sto K m F O H st) (h : ∀ b, O' b → O b) (hm : ∀ n a, m n = some a → O' a) (hf : ∀ b, F b → O' b) : Sto K m F O' H st where
  mO := hm
  flo := hf
  inj := R.inj
  dom := R.dom
  trk := fun b z => R.trk b (h b z)
  obj := fun n a e => by
    obtain ⟨o, e1, d⟩ := R.obj n a e
    refine ⟨o, e1, ?_⟩
    cases o with
    | lst ws => obtain ⟨vs, e2, d⟩ := d; exact ⟨vs, e2, Dens.grow (Grow.shut h) R.mO ws vs d⟩
    | dct ks ws => obtain ⟨vs, e2, d⟩ := d; exact ⟨vs, e2, Dens.grow (Grow.shut h) R.mO ws vs d⟩
theorem Rel.shut (R : Rel K m F O σ H fr st) (h : ∀ b, O' b → O b) (hm : ∀ n a, m n = some a → O' a) (hf : ∀ b, F b → O' b)
    (ho : ∀ (i : Nat) (o : Ob) (a : Addr), fr[i]? = some (Sl.own o) → σ[i]? = some (some (V.ref a)) → O' a) : Rel K m F O' σ H fr st where
  toSto := R.toSto.shut h hm hf
  sl := fun i s e => by
    have z := R.sl i s e
    cases s with
    | no => exact trivial
    | val w => obtain ⟨v, e1, d⟩ := z; exact ⟨v, e1, d.shut h R.mO⟩
    | own o => obtain ⟨a, e1, h1, h2, h3, d⟩ := z; exact ⟨a, e1, ho i o a e e1, h2, h3, d.grow (Grow.shut h) R.mO h3⟩
  len := R.len
  sep := R.sep
/-- a new object at a, open -/
theorem Grow.add {o : HO} (hn : H a = none) : GrowF G m O H m (fun b => O b ∨ b = a) (upd H a o) where
  mm := fun _ _ e => e
  new := fun _ _ e => .inl e
  keep := fun b u e _ _ => by rw [upd_ne (ne_of_none e hn)]; exact e
  opn := fun b e => by
    rcases e with e | rfl
    · exact .inl e
    · exact .inr hn
  there := fun b u e => ⟨u, by rw [upd_ne (ne_of_none e hn)]; exact e⟩
  tups := fun b vs e => by rw [upd_ne (ne_of_none e hn)]; exact e
theorem Grow.laid {o : HO} (hn : H a = none) : GrowF G m O H m O (upd H a o) := GrowF.ext fun b u e => by rw [upd_ne (ne_of_none e hn)]; exact e
theorem Sto.new (R : Sto K m F O H st) (hn : H a = none) : ¬ O a := fun z => by
  obtain ⟨o, e⟩ := R.trk a z
  rw [hn] at e; cases e
theorem Sto.noimg (R : Sto K m F O H st) (hn : H a = none) : NoImg m a := fun n z => R.new hn (R.mO n a z)
theorem Rel.add {o : HO} (R : Rel K m F O σ H fr st) (hn : H a = none) : Rel K m F (fun b => O b ∨ b = a) σ (upd H a o) fr st where
  mO := fun n b e => .inl (R.mO n b e)
  flo := fun b z => .inl (R.flo b z)
  inj := R.inj
  dom := R.dom
  trk := fun b z => by
    rcases z with z | rfl
    · obtain ⟨u, e⟩ := R.trk b z
      exact ⟨u, by rw [upd_ne (ne_of_none e hn)]; exact e⟩
    · exact ⟨o, upd_same⟩
  obj := fun n b e => by
    obtain ⟨u, e1, d⟩ := R.obj n b e
    refine ⟨u, e1, ?_⟩
    obtain ⟨x, ex⟩ := d.ex
    have hb : b ≠ a := ne_of_none ex hn
    cases u with
    | lst ws => obtain ⟨vs, e2, d⟩ := d; exact ⟨vs, by rw [upd_ne hb]; exact e2, Dens.grow (G := allA) (Grow.add hn) R.mO ws vs d⟩
    | dct ks ws => obtain ⟨vs, e2, d⟩ := d; exact ⟨vs, e2.at fun o z => by rw [upd_ne hb]; exact z, Dens.grow (G := allA) (Grow.add hn) R.mO ws vs d⟩
  sl := fun i s e => by
    have z := R.sl i s e
    cases s with
    | no => exact trivial
    | val w => obtain ⟨v, e1, d⟩ := z; exact ⟨v, e1, Den.grow (G := allA) (Grow.add hn) R.mO w v d⟩
    | own o => obtain ⟨a, e1, h1, h2, h3, d⟩ := z; exact ⟨a, e1, .inl h1, h2, h3, d.grow (Grow.add hn) R.mO h3⟩
  len := R.len
  sep := R.sep
theorem Rel.fresh (R : Rel K m F O σ H fr st) (hn : H a = none) : Fresh m F (fun b => O b ∨ b = a) σ fr a where
  op := .inr rfl
  nf := fun z => R.new hn (R.flo a z)
  ni := R.noimg hn
  no := fun i o e q => by
    obtain ⟨b, e1, h1, _⟩ := R.sl i _ e
    rw [q] at e1
    cases e1
    exact R.new hn h1

/-- no list, no dict in it -/
def W.flat : W → Bool
  | .non => true | .bl _ => true | .int _ => true | .str _ => true
  | .tup ws => flats ws
  | _ => false
where flats : List W → Bool
  | [] => true
  | w :: ws => w.flat && flats ws
/-- may it be kept -/
def keepOk (k : Kd) (w : W) : Bool := match k with
  | .pk => match w with | .lst _ => false | .dct _ _ => false | _ => true
  | _ => true
/-- to keep a value: a new object is shut -/
theorem RDen.strict (R : Rel K m F O σ H fr st) {k : Kd} {w : W} {v : V} (h : RDen K m F O σ H fr k w v) (ok : keepOk k w = true) :
    ∃ O', (∀ b, O' b → O b) ∧ Rel K m F O' σ H fr st ∧ Den K m O' H w v := by
  cases k with
  | st => exact ⟨O, fun _ z => z, R, h⟩
  | pk =>
    refine ⟨O, fun _ z => z, R, ?_⟩
    cases w <;> first
      | exact h
      | cases ok
  | fr =>
    obtain ⟨a, o, rfl, rfl, f, d⟩ := h
    have sh : ∀ b, (O b ∧ b ≠ a) → O b := fun b z => z.1
    refine ⟨fun b => O b ∧ b ≠ a, sh, R.shut sh (fun n b e => ⟨R.mO n b e, fun z => f.ni n (z ▸ e)⟩) (fun b z => ⟨R.flo b z, fun q => f.nf (q ▸ z)⟩) (fun i o b e1 e2 => ?_), ?_⟩
    · obtain ⟨c, e3, h1, _⟩ := R.sl i _ e1
      rw [e2] at e3
      cases e3
      exact ⟨h1, fun z => f.no i o e1 (z ▸ e2)⟩
    · have d' := d.grow (Grow.shut sh) R.mO f.ni
      cases o with
      | lst ws =>
        obtain ⟨vs, e, d'⟩ := d'
        unfold Ob.toW Den
        exact ⟨a, vs, rfl, fun z => z.2 rfl, e, d'⟩
      | dct ks ws =>
        obtain ⟨vs, e, d'⟩ := d'
        unfold Ob.toW Den
        exact ⟨a, vs, rfl, fun z => z.2 rfl, e.to, d'⟩

/-- a new object that waits is held by the floor -/
theorem Rel.hold (R : Rel K m F O σ H fr st) (f : Fresh m F O σ fr a) : Rel K m (fun b => F b ∨ b = a) O σ H fr st where
  mO := R.mO
  flo := fun b z => z.elim (R.flo b) fun z => z ▸ f.op
  inj := R.inj
  dom := R.dom
  trk := R.trk
  obj := R.obj
  sl := fun i s e => by
    have z := R.sl i s e
    cases s with
    | no => exact trivial
    | val w => exact z
    | own o =>
      obtain ⟨b, e1, h1, h2, h3, d⟩ := z
      exact ⟨b, e1, h1, fun z => z.elim h2 fun z => f.no i o e (z ▸ e1), h3, d⟩
  len := R.len
  sep := R.sep
theorem Rel.unhold {F' : Op} (R : Rel K m F' O σ H fr st) (h : ∀ b, F b → F' b) : Rel K m F O σ H fr st where
  mO := R.mO
  flo := fun b z => R.flo b (h b z)
  inj := R.inj
  dom := R.dom
  trk := R.trk
  obj := R.obj
  sl := fun i s e => by
    have z := R.sl i s e
    cases s with
    | no => exact trivial
    | val w => exact z
    | own o =>
      obtain ⟨b, e1, h1, h2, h3, d⟩ := z
      exact ⟨b, e1, h1, fun z => h2 (h b z), h3, d⟩
  len := R.len
  sep := R.sep
theorem RDen.unhold {F' : Op} {k : Kd} {w : W} {v : V} (h : ∀ b, F b → F' b) (d : RDen K m F' O σ H fr k w v) : RDen K m F O σ H fr k w v := by
  cases k with
  | st => exact d
  | pk => exact d
  | fr =>
    obtain ⟨a, o, e1, e2, f, d⟩ := d
    exact ⟨a, o, e1, e2, ⟨f.op, fun z => f.nf (h a z), f.ni, f.no⟩, d⟩
/-- behind a call, a block: the slots are as they were -/
theorem Rel.after {st' : Store} (R : Rel K m F O σ H fr st) (g : Grow m O H m' O' H') (S : Sto K m' O O' H' st') : Rel K m' F O' σ H' fr st' where
  mO := S.mO
  flo := fun b z => S.flo b (R.flo b z)
  inj := S.inj
  dom := S.dom
  trk := S.trk
  obj := S.obj
  sl := fun i s e => by
    have z := R.sl i s e
    cases s with
    | no => exact trivial
    | val w => obtain ⟨v, e1, d⟩ := z; exact ⟨v, e1, Den.grow g R.mO w v d⟩
    | own o =>
      obtain ⟨b, e1, h1, h2, h3, d⟩ := z
      obtain ⟨u, eu⟩ := d.ex
      exact ⟨b, e1, S.flo b h1, h2, g.noimg h3 eu, d.grow g R.mO h3⟩
  len := R.len
  sep := R.sep
/-- a slot set to a value; to a new object -/
theorem Rel.setVal {w : W} {v : V} (R : Rel K m F O σ H fr st) (d : Den K m O H w v) (i : Nat) : Rel K m F O (σ.set i (some v)) H (fr.set i (.val w)) st where
  toSto := R.toSto
  sl := fun j s e => by
    by_cases h : i = j
    · subst h
      have hi : i < fr.length := by
        have := (List.getElem?_eq_some_iff.mp e).1
        simpa using this
      rw [List.getElem?_set_self hi] at e
      cases e
      exact ⟨v, List.getElem?_set_self (Nat.lt_of_lt_of_le hi R.len), d⟩
    · rw [List.getElem?_set_ne h] at e
      rw [List.getElem?_set_ne h]
      exact R.sl j s e
  len := by rw [List.length_set, List.length_set]; exact R.len
  sep := fun j l o u b e1 e2 h1 h2 => by
    have nj : i ≠ j := fun h => by
      subst h
      have hi : i < fr.length := by simpa using (List.getElem?_eq_some_iff.mp e1).1
      rw [List.getElem?_set_self hi] at e1; cases e1
    have nl : i ≠ l := fun h => by
      subst h
      have hi : i < fr.length := by simpa using (List.getElem?_eq_some_iff.mp e2).1
      rw [List.getElem?_set_self hi] at e2; cases e2
    rw [List.getElem?_set_ne nj] at e1 h1
    rw [List.getElem?_set_ne nl] at e2 h2
    exact R.sep j l o u b e1 e2 h1 h2
theorem Rel.setOwn {o : Ob} (R : Rel K m F O σ H fr st) (f : Fresh m F O σ fr a) (d : ObAt K m O H a o) (i : Nat) : Rel K m F O (σ.set i (some (V.ref a))) H (fr.set i (.own o)) st where
  toSto := R.toSto
  sl := fun j s e => by
    by_cases h : i = j
    · subst h
      have hi : i < fr.length := by simpa using (List.getElem?_eq_some_iff.mp e).1
      rw [List.getElem?_set_self hi] at e
      cases e
      exact ⟨a, List.getElem?_set_self (Nat.lt_of_lt_of_le hi R.len), f.op, f.nf, f.ni, d⟩
    · rw [List.getElem?_set_ne h] at e
      rw [List.getElem?_set_ne h]
      exact R.sl j s e
  len := by rw [List.length_set, List.length_set]; exact R.len
  sep := fun j l o1 u b e1 e2 h1 h2 => by
    have key : ∀ (x : Nat) (y : Ob), i ≠ x → (fr.set i (.own o))[x]? = some (Sl.own y) → (σ.set i (some (V.ref a)))[x]? = some (some (V.ref b)) → b ≠ a := fun x y nx q1 q2 z => by
      rw [List.getElem?_set_ne nx] at q1 q2
      exact f.no x y q1 (z ▸ q2)
    have self : ∀ (x : Nat) (y : Ob), i = x → (fr.set i (.own o))[x]? = some (Sl.own y) → (σ.set i (some (V.ref a)))[x]? = some (some (V.ref b)) → b = a := fun x y ex q1 q2 => by
      subst ex
      have hi : i < fr.length := by simpa using (List.getElem?_eq_some_iff.mp q1).1
      rw [List.getElem?_set_self (Nat.lt_of_lt_of_le hi R.len)] at q2
      cases q2; rfl
    by_cases hj : i = j
    · by_cases hl : i = l
      · exact hj.symm.trans hl
      · exact (key l u hl e2 h2 (self j o1 hj e1 h1)).elim
    · by_cases hl : i = l
      · exact (key j o1 hj e1 h1 (self l u hl e2 h2)).elim
      · rw [List.getElem?_set_ne hj] at e1 h1
        rw [List.getElem?_set_ne hl] at e2 h2
        exact R.sep j l o1 u b e1 e2 h1 h2
/-- an own object is shut: from now on a value -/
theorem Rel.freeze {o : Ob} {i : Nat} (R : Rel K m F O σ H fr st) (e : fr[i]? = some (Sl.own o)) : ∃ O', (∀ b, O' b → O b) ∧ Rel K m F O' σ H (fr.set i (.val o.toW)) st := by
  obtain ⟨a, e1, h1, h2, h3, d⟩ := R.sl i _ e
  have hi : i < fr.length := (List.getElem?_eq_some_iff.mp e).1
  have sh : ∀ b, (O b ∧ b ≠ a) → O b := fun b z => z.1
  have mO' : ∀ n b, m n = some b → O b ∧ b ≠ a := fun n b e => ⟨R.mO n b e, fun z => h3 n (z ▸ e)⟩
  refine ⟨fun b => O b ∧ b ≠ a, sh, ⟨R.toSto.shut sh mO' fun b z => ⟨R.flo b z, fun q => h2 (q ▸ z)⟩, fun j s q => ?_, by rw [List.length_set]; exact R.len, fun j l o1 u b q1 q2 r1 r2 => ?_⟩⟩
  · by_cases h : i = j
    · subst h
      rw [List.getElem?_set_self hi] at q
      cases q
      refine ⟨.ref a, e1, ?_⟩
      have d' := d.grow (Grow.shut sh) R.mO h3
      cases o with
      | lst ws => obtain ⟨vs, z, d'⟩ := d'; unfold Ob.toW Den; exact ⟨a, vs, rfl, fun z => z.2 rfl, z, d'⟩
      | dct ks ws => obtain ⟨vs, z, d'⟩ := d'; unfold Ob.toW Den; exact ⟨a, vs, rfl, fun z => z.2 rfl, z.to, d'⟩
    · rw [List.getElem?_set_ne h] at q
      have z := R.sl j s q
      cases s with
      | no => exact trivial
      | val w => obtain ⟨v, z1, d⟩ := z; exact ⟨v, z1, d.shut sh R.mO⟩
      | own u =>
        obtain ⟨b, z1, k1, k2, k3, d⟩ := z
        exact ⟨b, z1, ⟨k1, fun y => h (R.sep i j o u a e q e1 (y ▸ z1))⟩, k2, k3, d.grow (Grow.shut sh) R.mO k3⟩
  · have nj : i ≠ j := fun h => by subst h; rw [List.getElem?_set_self hi] at q1; cases q1
    have nl : i ≠ l := fun h => by subst h; rw [List.getElem?_set_self hi] at q2; cases q2
    rw [List.getElem?_set_ne nj] at q1
    rw [List.getElem?_set_ne nl] at q2
    exact R.sep j l o1 u b q1 q2 r1 r2
/-- an open address is changed: what is denoted does not look there -/
theorem GrowF.put {u : HO} (ha : O a) (hf : ¬ G a) (nt : ∀ vs, H a ≠ some (.tup vs)) : GrowF G m O H m O (upd H a u) where
  mm := fun _ _ e => e
  new := fun _ _ e => .inl e
  keep := fun b o e c _ => by
    have nb : b ≠ a := fun z => by
      subst z
      exact c.elim (fun c => c ha) hf
    rw [upd_ne nb]; exact e
  opn := fun _ e => .inl e
  there := fun b o e => by
    by_cases nb : b = a
    · subst nb; exact ⟨u, upd_same⟩
    · exact ⟨o, by rw [upd_ne nb]; exact e⟩
  tups := fun b vs e => by
    have nb : b ≠ a := fun z => by subst z; exact nt vs e
    rw [upd_ne nb]; exact e
theorem ObAt.notup {o : Ob} (d : ObAt K m O H a o) : ∀ vs, H a ≠ some (.tup vs) := fun vs z => by
  cases o with
  | lst ws => obtain ⟨x, e, _⟩ := d; rw [z] at e; cases e
  | dct ks ws =>
    obtain ⟨x, e, _⟩ := d
    obtain ⟨o, e, n⟩ := e.ex
    rw [z] at e
    exact n vs (Option.some.inj e).symm
/-- an object elsewhere stays as it is -/
theorem ObAt.put {o : Ob} {u : HO} (hm : ∀ n a, m n = some a → O a) (ha : O a) (nt : ∀ vs, H a ≠ some (.tup vs)) (hb : b ≠ a) (d : ObAt K m O H b o) : ObAt K m O (upd H a u) b o := by
  have g : GrowF (fun _ => False) m O H m O (upd H a u) := GrowF.put ha (fun z => z) nt
  cases o with
  | lst ws => obtain ⟨vs, e, d⟩ := d; exact ⟨vs, by rw [upd_ne hb]; exact e, Dens.grow g hm ws vs d⟩
  | dct ks ws => obtain ⟨vs, e, d⟩ := d; exact ⟨vs, e.at fun o z => by rw [upd_ne hb]; exact z, Dens.grow g hm ws vs d⟩
/-- the object of an own slot is changed -/
theorem Rel.putOwn {o o' : Ob} {i : Nat} {u : HO} (R : Rel K m F O σ H fr st) (e : fr[i]? = some (Sl.own o)) (ea : σ[i]? = some (some (V.ref a)))
    (d : ObAt K m O (upd H a u) a o') : GrowF F m O H m O (upd H a u) ∧ Rel K m F O σ (upd H a u) (fr.set i (.own o')) st := by
  obtain ⟨a', e1, h1, h2, h3, d0⟩ := R.sl i _ e
  rw [ea] at e1
  cases e1
  have hi : i < fr.length := (List.getElem?_eq_some_iff.mp e).1
  have nt := d0.notup
  have g : GrowF F m O H m O (upd H a u) := GrowF.put h1 h2 nt
  refine ⟨g, ⟨⟨R.mO, R.flo, R.inj, R.dom, fun b z => ?_, fun n b z => ?_⟩, fun j s q => ?_, by rw [List.length_set]; exact R.len, fun j l o1 u1 b q1 q2 r1 r2 => ?_⟩⟩
  · obtain ⟨x, ex⟩ := R.trk b z
    exact g.there b x ex
  · obtain ⟨x, ex, dx⟩ := R.obj n b z
    exact ⟨x, ex, dx.put R.mO h1 nt fun y => h3 n (y ▸ z)⟩
  · by_cases h : i = j
    · subst h
      rw [List.getElem?_set_self hi] at q
      cases q
      exact ⟨a, ea, h1, h2, h3, d⟩
    · rw [List.getElem?_set_ne h] at q
      have z := R.sl j s q
      cases s with
      | no => exact trivial
      | val w => obtain ⟨v, z1, d⟩ := z; exact ⟨v, z1, Den.grow g R.mO w v d⟩
      | own x =>
        obtain ⟨b, z1, k1, k2, k3, dx⟩ := z
        exact ⟨b, z1, k1, k2, k3, dx.put R.mO h1 nt fun y => h (R.sep i j o x a e q ea (y ▸ z1))⟩
  · have key : ∀ (x : Nat) (y : Ob), (fr.set i (.own o'))[x]? = some (Sl.own y) → ∃ y', fr[x]? = some (Sl.own y') := fun x y q => by
      by_cases h : i = x
      · subst h; exact ⟨o, e⟩
      · rw [List.getElem?_set_ne h] at q; exact ⟨y, q⟩
    obtain ⟨y1, q1⟩ := key j o1 q1
    obtain ⟨y2, q2⟩ := key l u1 q2
    exact R.sep j l y1 y2 b q1 q2 r1 r2
/-- a shared object is changed -/
theorem Rel.putSh {o' : Ob} {n : Nat} {u : HO} (R : Rel K m F O σ H fr st) (en : m n = some a) (d : ObAt K m O (upd H a u) a o') (hn : n < st.length) :
    Grow m O H m O (upd H a u) ∧ Rel K m F O σ (upd H a u) fr (st.set n o') := by
  obtain ⟨o, eo, d0⟩ := R.obj n a en
  have h1 := R.mO n a en
  have nt := d0.notup
  have g : GrowF (fun _ => False) m O H m O (upd H a u) := GrowF.put h1 (fun z => z) nt
  refine ⟨⟨fun _ _ e => e, fun _ _ e => .inl e, fun b o e _ c => by rw [upd_ne (fun z : b = a => c n (z ▸ en))]; exact e, fun _ e => .inl e, g.there, g.tups⟩, ⟨⟨R.mO, R.flo, R.inj, fun k hk => R.dom k (by simpa using hk), fun b z => ?_, fun k b z => ?_⟩, fun j s q => ?_, R.len, R.sep⟩⟩
  · obtain ⟨x, ex⟩ := R.trk b z
    exact g.there b x ex
  · by_cases h : n = k
    · subst h
      rw [en] at z
      cases z
      exact ⟨o', List.getElem?_set_self hn, d⟩
    · obtain ⟨x, ex, dx⟩ := R.obj k b z
      exact ⟨x, by rw [List.getElem?_set_ne h]; exact ex, dx.put R.mO h1 nt fun y => h (R.inj n k a en (y ▸ z))⟩
  · have z := R.sl j s q
    cases s with
    | no => exact trivial
    | val w => obtain ⟨v, z1, d⟩ := z; exact ⟨v, z1, Den.grow g R.mO w v d⟩
    | own x =>
      obtain ⟨b, z1, k1, k2, k3, dx⟩ := z
      exact ⟨b, z1, k1, k2, k3, dx.put R.mO h1 nt fun y => k3 n (y ▸ en)⟩
end
end Vy

set_option Elab.async false
set_option linter.all false
set_option maxRecDepth 100000
set_option maxHeartbeats 4000000
/-! Expressions: what they come to in values, and that HandS's rules say so. -/
namespace Vy
open PySem PySem.Spec PyProof.Rows L2

/-- a computation's end -/
inductive Res (α : Type) where
  | ok (a : α) (st : Store)
  | exn (c : Str) (args : List W) (st : Store)
  | bad
def Res.bind {α β : Type} (x : Res α) (f : α → Store → Res β) : Res β := match x with
  | .ok a st => f a st
  | .exn c as st => .exn c as st
  | .bad => .bad
@[simp] theorem Res.bind_ok {α β : Type} {a : α} {st : Store} {f : α → Store → Res β} : (Res.ok a st).bind f = f a st := rfl
@[simp] theorem Res.bind_bad {α β : Type} {f : α → Store → Res β} : (Res.bad : Res α).bind f = .bad := rfl
@[simp] theorem Res.bind_exn {α β : Type} {c : Str} {as : List W} {st : Store} {f : α → Store → Res β} : (Res.exn c as st : Res α).bind f = .exn c as st := rfl
theorem Res.bind_eq {α β : Type} {x : Res α} {f : α → Store → Res β} {b : β} {st : Store} (h : x.bind f = .ok b st) : ∃ a s1, x = .ok a s1 ∧ f a s1 = .ok b st := by
  cases x with
  | ok a s1 => exact ⟨a, s1, rfl, h⟩
  | exn => cases h
  | bad => cases h

abbrev PX := Frame → Store → Res (Kd × W)
abbrev PB := Frame → Store → Res Bool
abbrev PL := Frame → Store → Res (List W)

section
variable (K : PySem.W.Frag)
/-- an expression's reading by its value; .. looked at; .. kept -/
def tI (p : PX) : TE := fun σ H Q => ∃ m F O fr st k w st', Rel K m F O σ H fr st ∧ p fr st = .ok (k, w) st' ∧
  ∀ m' O' v H', Grow m O H m' O' H' → Rel K m' F O' σ H' fr st' → RDen K m' F O' σ H' fr k w v → Q v H'
def tL (p : PX) : TE := fun σ H Q => ∃ m F O fr st k w st', Rel K m F O σ H fr st ∧ p fr st = .ok (k, w) st' ∧
  ∀ m' O' v H', Grow m O H m' O' H' → Rel K m' F O' σ H' fr st' → LDen K m' O' H' w v → Q v H'
def tK (p : PX) : TE := fun σ H Q => ∃ m F O fr st k w st', Rel K m F O σ H fr st ∧ p fr st = .ok (k, w) st' ∧ keepOk k w = true ∧
  ∀ m' O' v H', Grow m O H m' O' H' → Rel K m' F O' σ H' fr st' → Den K m' O' H' w v → Q v H'
/-- a test -/
def tB (p : PB) : TT := fun σ H Q => ∃ m F O fr st b st', Rel K m F O σ H fr st ∧ p fr st = .ok b st' ∧
  ∀ m' O' H', Grow m O H m' O' H' → Rel K m' F O' σ H' fr st' → Q b H'
/-- arguments that are kept -/
def tA (p : PL) : TA := fun σ H Q => ∃ m F O fr st ws st', Rel K m F O σ H fr st ∧ p fr st = .ok ws st' ∧
  ∀ m' O' vs H', Grow m O H m' O' H' → Rel K m' F O' σ H' fr st' → Dens K m' O' H' ws vs → Q vs H'
end
abbrev RE (X : Cx) (e : Expr) (p : PX) : Prop := PE X e (tI X.K p)
abbrev RB (X : Cx) (e : Expr) (p : PB) : Prop := PT X e (tB X.K p)
abbrev RA (X : Cx) (es : List Expr) (p : PL) : Prop := PA X es (tA X.K p)

theorem _root_.L2.PE.imp {X : Cx} {e : Expr} {t t' : TE} (h : PE X e t) (i : ∀ σ H Q, t' σ H Q → t σ H Q) : PE X e t' := ⟨fun pins s σ H Q I q => h.run pins s σ H Q I (i _ _ _ q)⟩
theorem _root_.L2.PT.imp {X : Cx} {e : Expr} {t t' : TT} (h : PT X e t) (i : ∀ σ H Q, t' σ H Q → t σ H Q) : PT X e t' := ⟨fun pins s σ H Q I q => h.run pins s σ H Q I (i _ _ _ q)⟩
theorem _root_.L2.PW.imp {X : Cx} {e : Expr} {t t' : TT} (h : PW X e t) (i : ∀ σ H Q, t' σ H Q → t σ H Q) : PW X e t' := ⟨fun wh pins s σ H Q I q => h.run wh pins s σ H Q I (i _ _ _ q)⟩
theorem _root_.L2.PA.imp {X : Cx} {e : List Expr} {t t' : TA} (h : PA X e t) (i : ∀ σ H Q, t' σ H Q → t σ H Q) : PA X e t' := ⟨fun pos pins s σ H Q I q => h.run pos pins s σ H Q I (i _ _ _ q)⟩
theorem _root_.L2.PS.imp {X : Cx} {e : Stmt} {t t' : TS} (h : PS X e t) (i : ∀ D σ H, t' D σ H → t D σ H) : PS X e t' := ⟨fun pins s σ H D I q => h.run pins s σ H D I (i _ _ _ q)⟩
theorem _root_.L2.PSs.imp {X : Cx} {e : List Stmt} {t t' : TS} (h : PSs X e t) (i : ∀ D σ H, t' D σ H → t D σ H) : PSs X e t' := ⟨fun pins s σ H D I q => h.run pins s σ H D I (i _ _ _ q)⟩

section
variable {K : PySem.W.Frag} {X : Cx} {e a b c : Expr} {p pa pb pc : PX} {pos : Pos}
theorem tL_tI {p : PX} {σ : L2.St} {H : Hp} {Q : VK} (h : tL K p σ H Q) : tI K p σ H Q := by
  obtain ⟨m, F, O, fr, st, k, w, st', R, e, q⟩ := h
  exact ⟨m, F, O, fr, st, k, w, st', R, e, fun m' O' v H' g R' d => q m' O' v H' g R' (d.loose R'.toSto)⟩
theorem tK_tI {p : PX} {σ : L2.St} {H : Hp} {Q : VK} (h : tK K p σ H Q) : tI K p σ H Q := by
  obtain ⟨m, F, O, fr, st, k, w, st', R, e, ok, q⟩ := h
  refine ⟨m, F, O, fr, st, k, w, st', R, e, fun m' O' v H' g R' d => ?_⟩
  obtain ⟨O2, sh, R2, d2⟩ := d.strict R' ok
  exact q m' O2 v H' (g.trans (Grow.shut sh)) R2 d2
theorem RE.look (h : RE X e p) : PE X e (tL X.K p) := h.imp fun _ _ _ q => tL_tI q
theorem RE.kept (h : RE X e p) : PE X e (tK X.K p) := h.imp fun _ _ _ q => tK_tI q

/-! ### names, constants -/
def eVar (i : Nat) : PX := fun fr st => match fr[i]? with
  | some (.val w) => .ok (.st, w) st
  | some (.own o) => .ok (.pk, o.toW) st
  | _ => .bad
theorem re_var {i : Nat} (h : PE X e (tVar i)) : RE X e (eVar i) := h.imp fun σ H Q q => by
  obtain ⟨m, F, O, fr, st, k, w, st', R, e, q⟩ := q
  unfold eVar at e
  cases hs : fr[i]? with
  | none => rw [hs] at e; cases e
  | some s =>
    rw [hs] at e
    have z := R.sl i s hs
    cases s with
    | no => cases e
    | val u =>
      cases e
      obtain ⟨v, ev, d⟩ := z
      exact ⟨v, ev, q m O v H Grow.refl R d⟩
    | own o =>
      cases e
      obtain ⟨b, ev, h1, h2, h3, d⟩ := z
      exact ⟨_, ev, q m O _ H Grow.refl R (d.loose h3)⟩
def eC (w : W) : PX := fun _ st => .ok (.st, w) st
theorem re_c {w : W} {v : V} (h : PE X e (tC v)) (d : ∀ m O H, Den X.K m O H w v) : RE X e (eC w) := h.imp fun σ H Q q => by
  obtain ⟨m, F, O, fr, st, k, w, st', R, e, q⟩ := q
  cases e
  exact q m O v H Grow.refl R (d m O H)
theorem re_int {i : Int} {j : Nat} : RE X (.Constant (.int i) j pos) (eC (.int i)) := re_c pe_int fun _ _ _ => by unfold Den; rfl
theorem re_bl {b : Bool} {j : Nat} : RE X (.Constant (.bool b) j pos) (eC (.bl b)) := re_c pe_bl fun _ _ _ => by unfold Den; rfl
theorem re_non {j : Nat} : RE X (.Constant .none j pos) (eC .non) := re_c pe_non fun _ _ _ => by unfold Den; rfl
theorem re_str {x : Str} {j : Nat} : RE X (.Constant (.str x) j pos) (eC (.str x)) := re_c pe_str fun _ _ _ => by unfold Den; rfl

/-! ### two operands, looked at -/
def eBin (f : W → W → Store → Res (Kd × W)) (pa pb : PX) : PX := fun fr st => (pa fr st).bind fun x s1 => (pb fr s1).bind fun y s2 => f x.2 y.2 s2
/-- a two-place operation on values -/
def OpI (X : Cx) (op : Value → Value → Sem Value) (f : W → W → Store → Res (Kd × W)) : Prop :=
  OpR X op fun x y H Q => ∃ m F O σ fr st k w st' a b, Rel X.K m F O σ H fr st ∧ LDen X.K m O H a x ∧ LDen X.K m O H b y ∧ f a b st = .ok (k, w) st' ∧
    ∀ m' O' v H', Grow m O H m' O' H' → Rel X.K m' F O' σ H' fr st' → RDen X.K m' F O' σ H' fr k w v → Q v H'
theorem t_bin {f : W → W → Store → Res (Kd × W)} {σ : L2.St} {H : Hp} {Q : VK} (q : tI K (eBin f pa pb) σ H Q) :
    tL K pa σ H fun x H1 => tL K pb σ H1 fun y H2 => ∃ m F O σ fr st k w st' a b, Rel K m F O σ H2 fr st ∧ LDen K m O H2 a x ∧ LDen K m O H2 b y ∧ f a b st = .ok (k, w) st' ∧
    ∀ m' O' v H', Grow m O H2 m' O' H' → Rel K m' F O' σ H' fr st' → RDen K m' F O' σ H' fr k w v → Q v H' := by
  obtain ⟨m, F, O, fr, st, k, w, st', R, e, q⟩ := q
  obtain ⟨⟨k1, x⟩, s1, e1, e⟩ := Res.bind_eq e
  obtain ⟨⟨k2, y⟩, s2, e2, e⟩ := Res.bind_eq e
  refine ⟨m, F, O, fr, st, k1, x, s1, R, e1, fun m1 O1 v1 H1 g1 R1 d1 => ?_⟩
  refine ⟨m1, F, O1, fr, s1, k2, y, s2, R1, e2, fun m2 O2 v2 H2 g2 R2 d2 => ?_⟩
  exact ⟨m2, F, O2, σ, fr, s2, k, w, st', x, y, R2, d1.grow g2 R1.mO, d2, e, fun m' O' v H' g R' d => q m' O' v H' (g1.trans (g2.trans g)) R' d⟩
theorem re_bin {op : Operator} {f : W → W → Store → Res (Kd × W)} (ho : OpI X (binaryOp op) f) (ha : RE X a pa) (hb : RE X b pb) : RE X (.BinOp a op b pos) (eBin f pa pb) :=
  (pe_op ho ha.look hb.look).imp fun _ _ _ q => t_bin q
theorem re_cmp {op : CmpOp} {f : W → W → Store → Res (Kd × W)} (ho : OpI X (compareOp op) f) (ha : RE X a pa) (hb : RE X b pb) (hm : behindInMarks op b = false) : RE X (.Compare a [op] [b] pos) (eBin f pa pb) :=
  (pe_cmpR ho ha.look hb.look hm).imp fun _ _ _ q => t_bin q

/-- a test by a value that is a bool -/
def bOf (p : PX) : PB := fun fr st => (p fr st).bind fun x s1 => match x.2 with
  | .bl b => .ok b s1
  | _ => .bad
theorem den_bl {m : Mp} {O : Op} {H : Hp} {b : Bool} {v : V} (h : LDen K m O H (.bl b) v) : v = .bl b := by
  have h : Den K m O H (.bl b) v := h
  unfold Den at h
  exact h
theorem den_int {m : Mp} {O : Op} {H : Hp} {i : Int} {v : V} (h : LDen K m O H (.int i) v) : v = .int i := by
  have h : Den K m O H (.int i) v := h
  unfold Den at h
  exact h
theorem den_str {m : Mp} {O : Op} {H : Hp} {i : Str} {v : V} (h : LDen K m O H (.str i) v) : v = .str i := by
  have h : Den K m O H (.str i) v := h
  unfold Den at h
  exact h
theorem den_non {m : Mp} {O : Op} {H : Hp} {v : V} (h : LDen K m O H .non v) : v = .non := by
  have h : Den K m O H .non v := h
  unfold Den at h
  exact h
theorem bOf_eq {p : PX} {fr : Frame} {st st' : Store} {b : Bool} (h : bOf p fr st = .ok b st') : ∃ k, p fr st = .ok (k, .bl b) st' := by
  obtain ⟨⟨k, w⟩, s1, e1, e⟩ := Res.bind_eq h
  cases w <;> first
    | (cases e; exact ⟨k, e1⟩)
    | cases e
theorem t_bOf {σ : L2.St} {H : Hp} {Q : Bool → Hp → Prop} {p : PX} (q : tB K (bOf p) σ H Q) : tI K p σ H fun v H1 => ∃ c, v = .bl c ∧ Q c H1 := by
  obtain ⟨m, F, O, fr, st, b, st', R, e, q⟩ := q
  obtain ⟨k, e1⟩ := bOf_eq e
  exact ⟨m, F, O, fr, st, k, .bl b, st', R, e1, fun m' O' v H' g R' d => ⟨b, den_bl (d.loose R'.toSto), q m' O' H' g R'⟩⟩
theorem rb_cmp {op : CmpOp} {f : W → W → Store → Res (Kd × W)} (ho : OpI X (compareOp op) f) (ha : RE X a pa) (hb : RE X b pb) (hm : behindInMarks op b = false) : RB X (.Compare a [op] [b] pos) (bOf (eBin f pa pb)) :=
  (pt_cmpR ho ha.look hb.look hm).imp fun _ _ _ q => t_bin (t_bOf q)
/-- a value that is a bool, as a test -/
theorem rb_val (h : RE X e p) (he : ∀ whole, isTrue e X.env whole = (do let v ← whole; standAt e.pos; holding [v] (truthy v)) := by intro _; rfl) : RB X e (bOf p) :=
  (pt_val h he).imp fun _ _ _ q => t_bOf q
/-- a value's truth -/
def wTruth : W → Option Bool
  | .non => some false
  | .bl b => some b
  | .int i => some (i != 0)
  | .str x => if x.length ≤ sizeLine then some ((x.length : Int) != 0) else none
  | .tup ws => some (!ws.isEmpty)
  | .lst ws => some (!ws.isEmpty)
  | _ => none
def bTruth (p : PX) : PB := fun fr st => (p fr st).bind fun x s1 => match wTruth x.2 with
  | some b => .ok b s1
  | none => .bad
theorem dens_empty {m : Mp} {O : Op} {H : Hp} {ws : List W} {vs : List V} (h : Dens K m O H ws vs) : vs.isEmpty = ws.isEmpty := by
  cases ws with
  | nil => unfold Dens at h; subst h; rfl
  | cons w ws => unfold Dens at h; obtain ⟨v, r, rfl, _⟩ := h; rfl
theorem truV_of {m : Mp} {O : Op} {H : Hp} {w : W} {v : V} {b : Bool} (h : LDen K m O H w v) (e : wTruth w = some b) : TruV K v H b := by
  cases w with
  | non => obtain rfl := den_non h; cases e; rfl
  | bl c => obtain rfl := den_bl h; cases e; rfl
  | int i => obtain rfl := den_int h; cases e; rfl
  | str x =>
    obtain rfl := den_str h
    have e : (if x.length ≤ sizeLine then some ((x.length : Int) != 0) else none) = some b := e
    by_cases hz : x.length ≤ sizeLine
    · rw [if_pos hz] at e; cases e; exact ⟨hz, rfl⟩
    · rw [if_neg hz] at e; cases e
  | tup ws =>
    have h : Den K m O H (.tup ws) v := h
    unfold Den at h
    obtain ⟨a, vs, rfl, q, d⟩ := h
    cases e
    exact .inr (.inl ⟨vs, SqT.of q, by rw [dens_empty d]⟩)
  | lst ws =>
    obtain ⟨a, rfl, _, vs, q, d⟩ := h
    cases e
    exact .inl ⟨vs, SqL.of q, by rw [dens_empty d]⟩
  | _ => cases e
theorem rb_truth (h : RE X e p) (he : ∀ whole, isTrue e X.env whole = (do let v ← whole; standAt e.pos; holding [v] (truthy v)) := by intro _; rfl) : RB X e (bTruth p) :=
  (pt_truth h.look he).imp fun σ H Q q => by
    obtain ⟨m, F, O, fr, st, b, st', R, e, q⟩ := q
    obtain ⟨⟨k, w⟩, s1, e1, e⟩ := Res.bind_eq e
    have e : (match wTruth w with | some b => Res.ok b s1 | none => Res.bad) = Res.ok b st' := e
    cases hw : wTruth w with
    | none => rw [hw] at e; cases e
    | some c =>
      rw [hw] at e
      cases e
      exact ⟨m, F, O, fr, st, k, w, st', R, e1, fun m' O' v H' g R' d => ⟨b, truV_of d hw, q m' O' H' g R'⟩⟩

/-! ### and, or, not, if -/
def bAnd (p q : PB) : PB := fun fr st => (p fr st).bind fun b s1 => if b = true then q fr s1 else .ok false s1
def bOr (p q : PB) : PB := fun fr st => (p fr st).bind fun b s1 => if b = true then .ok true s1 else q fr s1
def bNot (p : PB) : PB := fun fr st => (p fr st).bind fun b s1 => .ok (!b) s1
abbrev RW (X : Cx) (e : Expr) (p : PB) : Prop := PW X e (tB X.K p)
variable {p1 p2 : PB} {rest : List Expr}
theorem rw_and1 (h : RB X a p1) : RW X (.BoolOp .And [a] pos) p1 := pw_and1 h
theorem rw_or1 (h : RB X a p1) : RW X (.BoolOp .Or [a] pos) p1 := pw_or1 h
theorem rw_and (h1 : RB X a p1) (h2 : RW X (.BoolOp .And (b :: rest) pos) p2) : RW X (.BoolOp .And (a :: b :: rest) pos) (bAnd p1 p2) := (pw_and h1 h2).imp fun σ H Q q => by
  obtain ⟨m, F, O, fr, st, b, st', R, e, q⟩ := q
  obtain ⟨c, s1, e1, e⟩ := Res.bind_eq e
  refine ⟨m, F, O, fr, st, c, s1, R, e1, fun m' O' H' g R' => ?_⟩
  cases c with
  | true => exact iteT ⟨m', F, O', fr, s1, b, st', R', e, fun m2 O2 H2 g2 R2 => q m2 O2 H2 (g.trans g2) R2⟩
  | false => cases e; exact iteF (q m' O' H' g R')
theorem rw_or (h1 : RB X a p1) (h2 : RW X (.BoolOp .Or (b :: rest) pos) p2) : RW X (.BoolOp .Or (a :: b :: rest) pos) (bOr p1 p2) := (pw_or h1 h2).imp fun σ H Q q => by
  obtain ⟨m, F, O, fr, st, b, st', R, e, q⟩ := q
  obtain ⟨c, s1, e1, e⟩ := Res.bind_eq e
  refine ⟨m, F, O, fr, st, c, s1, R, e1, fun m' O' H' g R' => ?_⟩
  cases c with
  | false => exact iteF ⟨m', F, O', fr, s1, b, st', R', e, fun m2 O2 H2 g2 R2 => q m2 O2 H2 (g.trans g2) R2⟩
  | true => cases e; exact iteT (q m' O' H' g R')
theorem rb_w (h : RW X e p1) : RB X e p1 := h.pt
theorem rb_not (h : RB X a p1) : RB X (.UnaryOp .Not a pos) (bNot p1) := (pt_not h).imp fun σ H Q q => by
  obtain ⟨m, F, O, fr, st, b, st', R, e, q⟩ := q
  obtain ⟨c, s1, e1, e⟩ := Res.bind_eq e
  cases e
  exact ⟨m, F, O, fr, st, c, st', R, e1, fun m' O' H' g R' => q m' O' H' g R'⟩
def eIf (c : PB) (pa pb : PX) : PX := fun fr st => (c fr st).bind fun t s1 => if t = true then pa fr s1 else pb fr s1
theorem re_if (hc : RB X c p1) (ha : RE X a pa) (hb : RE X b pb) : RE X (.IfExp c a b pos) (eIf p1 pa pb) := (pe_ifExp hc ha hb).imp fun σ H Q q => by
  obtain ⟨m, F, O, fr, st, k, w, st', R, e, q⟩ := q
  obtain ⟨t, s1, e1, e⟩ := Res.bind_eq e
  refine ⟨m, F, O, fr, st, t, s1, R, e1, fun m' O' H' g R' => ?_⟩
  cases t with
  | true => exact iteT ⟨m', F, O', fr, s1, k, w, st', R', e, fun m2 O2 v H2 g2 R2 d => q m2 O2 v H2 (g.trans g2) R2 d⟩
  | false => exact iteF ⟨m', F, O', fr, s1, k, w, st', R', e, fun m2 O2 v H2 g2 R2 d => q m2 O2 v H2 (g.trans g2) R2 d⟩
/-- and, or, not as values (bools) -/
def eB (p : PB) : PX := fun fr st => (p fr st).bind fun b s1 => .ok (.st, .bl b) s1
theorem re_not (h : RE X a pa) : RE X (.UnaryOp .Not a pos) (eB (bNot (bOf pa))) := (pe_not h).imp fun σ H Q q => by
  obtain ⟨m, F, O, fr, st, k, w, st', R, e, q⟩ := q
  obtain ⟨t, s1, e1, e⟩ := Res.bind_eq e
  obtain ⟨c, s2, e2, e3⟩ := Res.bind_eq e1
  cases e3
  cases e
  obtain ⟨k2, e4⟩ := bOf_eq e2
  exact ⟨m, F, O, fr, st, k2, .bl c, st', R, e4, fun m' O' v H' g R' d => ⟨c, den_bl (d.loose R'.toSto), q m' O' _ H' g R' (by show Den _ _ _ _ _ _; unfold Den; rfl)⟩⟩
def eAnd (pa pb : PX) : PX := fun fr st => (bOf pa fr st).bind fun b s1 => if b = true then pb fr s1 else .ok (.st, .bl false) s1
def eOr (pa pb : PX) : PX := fun fr st => (bOf pa fr st).bind fun b s1 => if b = true then .ok (.st, .bl true) s1 else pb fr s1
theorem re_one {op : BoolOp} (h : RE X a pa) : RE X (.BoolOp op [a] pos) pa := pe_one h
theorem re_and (h1 : RE X a pa) (h2 : RE X (.BoolOp .And (b :: rest) pos) pb) : RE X (.BoolOp .And (a :: b :: rest) pos) (eAnd pa pb) := (pe_and h1 h2).imp fun σ H Q q => by
  obtain ⟨m, F, O, fr, st, k, w, st', R, e, q⟩ := q
  obtain ⟨t, s1, e1, e⟩ := Res.bind_eq e
  obtain ⟨k2, e4⟩ := bOf_eq e1
  refine ⟨m, F, O, fr, st, k2, .bl t, s1, R, e4, fun m' O' v H' g R' d => ⟨t, den_bl (d.loose R'.toSto), ?_⟩⟩
  cases t with
  | true => exact iteT ⟨m', F, O', fr, s1, k, w, st', R', e, fun m2 O2 v H2 g2 R2 d => q m2 O2 v H2 (g.trans g2) R2 d⟩
  | false => cases e; exact iteF (q m' O' _ H' g R' (by show Den _ _ _ _ _ _; unfold Den; rfl))
theorem re_or (h1 : RE X a pa) (h2 : RE X (.BoolOp .Or (b :: rest) pos) pb) : RE X (.BoolOp .Or (a :: b :: rest) pos) (eOr pa pb) := (pe_or h1 h2).imp fun σ H Q q => by
  obtain ⟨m, F, O, fr, st, k, w, st', R, e, q⟩ := q
  obtain ⟨t, s1, e1, e⟩ := Res.bind_eq e
  obtain ⟨k2, e4⟩ := bOf_eq e1
  refine ⟨m, F, O, fr, st, k2, .bl t, s1, R, e4, fun m' O' v H' g R' d => ⟨t, den_bl (d.loose R'.toSto), ?_⟩⟩
  cases t with
  | false => exact iteF ⟨m', F, O', fr, s1, k, w, st', R', e, fun m2 O2 v H2 g2 R2 d => q m2 O2 v H2 (g.trans g2) R2 d⟩
  | true => cases e; exact iteT (q m' O' _ H' g R' (by show Den _ _ _ _ _ _; unfold Den; rfl))

/-! ### argument lists, displays -/
def aNil : PL := fun _ st => .ok [] st
def aCons (p : PX) (r : PL) : PL := fun fr st => (p fr st).bind fun x s1 => if keepOk x.1 x.2 = true then (r fr s1).bind fun ws s2 => .ok (x.2 :: ws) s2 else .bad
theorem ra_nil : RA X [] aNil := L2.PA.imp pa_nil fun σ H Q q => by
  obtain ⟨m, F, O, fr, st, ws, st', R, e, q⟩ := q
  cases e
  exact q m O [] H Grow.refl R (by unfold Dens; rfl)
theorem ra_cons {es : List Expr} {r : PL} (ha : RE X e p) (hr : RA X es r) (hs : starEach (e :: es) X.env = (false, eval e X.env) :: starEach es X.env := by rfl) : RA X (e :: es) (aCons p r) :=
  L2.PA.imp (pa_cons ha.kept hr hs) fun σ H Q q => by
    obtain ⟨m, F, O, fr, st, ws, st', R, e, q⟩ := q
    obtain ⟨⟨k, x⟩, s1, e1, e⟩ := Res.bind_eq e
    by_cases hk : keepOk k x = true
    · rw [if_pos hk] at e
      obtain ⟨ys, s2, e2, e⟩ := Res.bind_eq e
      cases e
      refine ⟨m, F, O, fr, st, k, x, s1, R, e1, hk, fun m1 O1 v1 H1 g1 R1 d1 => ?_⟩
      refine ⟨m1, F, O1, fr, s1, ys, st', R1, e2, fun m2 O2 vs H2 g2 R2 d2 => ?_⟩
      exact q m2 O2 (v1 :: vs) H2 (g1.trans g2) R2 (by unfold Dens; exact ⟨v1, vs, rfl, Den.grow g2 R1.mO _ _ d1, d2⟩)
    · rw [if_neg hk] at e; cases e
theorem dens_length {m : Mp} {O : Op} {H : Hp} : ∀ {ws : List W} {vs : List V}, Dens K m O H ws vs → vs.length = ws.length
  | [], _, h => by unfold Dens at h; subst h; rfl
  | w :: ws, _, h => by
    unfold Dens at h
    obtain ⟨v, r, rfl, _, d⟩ := h
    rw [List.length_cons, List.length_cons, dens_length d]
/-- a tuple of kept items, a new list of kept items -/
def eTup (r : PL) : PX := fun fr st => (r fr st).bind fun ws s1 => if ws.length ≤ sizeLine then .ok (.st, .tup ws) s1 else .bad
def eLst (r : PL) : PX := fun fr st => (r fr st).bind fun ws s1 => if ws.length ≤ sizeLine then .ok (.fr, .lst ws) s1 else .bad
theorem new_tup {m : Mp} {F O : Op} {σ : L2.St} {H : Hp} {fr : Frame} {st : Store} {ws : List W} {vs : List V} (R : Rel K m F O σ H fr st) (d : Dens K m O H ws vs) {a : Addr} (hn : H a = none) :
    Grow m O H m O (upd H a (.tup vs)) ∧ Rel K m F O σ (upd H a (.tup vs)) fr st ∧ Den K m O (upd H a (.tup vs)) (.tup ws) (.ref a) := by
  refine ⟨Grow.laid hn, R.ext fun b o e => by rw [upd_ne (ne_of_none e hn)]; exact e, ?_⟩
  unfold Den
  exact ⟨a, vs, rfl, upd_same, Dens.grow (G := allA) (Grow.laid hn) R.mO _ _ d⟩
theorem new_lst {m : Mp} {F O : Op} {σ : L2.St} {H : Hp} {fr : Frame} {st : Store} {ws : List W} {vs : List V} (R : Rel K m F O σ H fr st) (d : Dens K m O H ws vs) {a : Addr} (hn : H a = none) :
    Grow m O H m (fun b => O b ∨ b = a) (upd H a (.lst vs)) ∧ Rel K m F (fun b => O b ∨ b = a) σ (upd H a (.lst vs)) fr st ∧ RDen K m F (fun b => O b ∨ b = a) σ (upd H a (.lst vs)) fr .fr (.lst ws) (.ref a) :=
  ⟨Grow.add hn, R.add hn, a, .lst ws, rfl, rfl, R.fresh hn, vs, upd_same, Dens.grow (G := allA) (Grow.add hn) R.mO _ _ d⟩
theorem re_tup {es : List Expr} {r : PL} {k : Nat} (h : RA X es r) : RE X (.Tuple es k pos) (eTup r) := (pe_tup h).imp fun σ H Q q => by
  obtain ⟨m, F, O, fr, st, k, w, st', R, e, q⟩ := q
  obtain ⟨ws, s1, e1, e⟩ := Res.bind_eq e
  by_cases hz : ws.length ≤ sizeLine
  · rw [if_pos hz] at e
    cases e
    refine ⟨m, F, O, fr, st, ws, st', R, e1, fun m1 O1 vs H1 g1 R1 d1 => ⟨by rw [dens_length d1]; exact hz, fun p hp => ?_⟩⟩
    obtain ⟨g2, R2, d2⟩ := new_tup R1 d1 hp
    exact q m1 O1 _ _ (g1.trans g2) R2 d2
  · rw [if_neg hz] at e; cases e
theorem re_lst {es : List Expr} {r : PL} (h : RA X es r) : RE X (.List es pos) (eLst r) := (pe_lst h).imp fun σ H Q q => by
  obtain ⟨m, F, O, fr, st, k, w, st', R, e, q⟩ := q
  obtain ⟨ws, s1, e1, e⟩ := Res.bind_eq e
  by_cases hz : ws.length ≤ sizeLine
  · rw [if_pos hz] at e
    cases e
    refine ⟨m, F, O, fr, st, ws, st', R, e1, fun m1 O1 vs H1 g1 R1 d1 => ⟨by rw [dens_length d1]; exact hz, fun p hp => ?_⟩⟩
    obtain ⟨g2, R2, d2⟩ := new_lst R1 d1 hp
    exact q m1 _ _ _ (g1.trans g2) R2 d2
  · rw [if_neg hz] at e; cases e
end
end Vy

set_option Elab.async false
set_option linter.all false
set_option maxRecDepth 100000
set_option maxHeartbeats 4000000
/-! Statements, calls of defs. -/
namespace Vy
open PySem PySem.Spec PyProof.Rows L2

/-- how a statement ends -/
inductive Fl where
  | nx (fr : Frame)
  | rt (k : Kd) (w : W)
  | bk (fr : Frame)
  | ct (fr : Frame)
abbrev PM := Frame → Store → Res Fl
abbrev PFn := List W → Store → Res (Kd × W)

def RRes (K : PySem.W.Frag) (m : Mp) (F O : Op) (H : Hp) : Kd → W → V → Prop
  | .st, w, v => Den K m O H w v
  | .pk, _, _ => False
  | .fr, w, v => ∃ a o, w = Ob.toW o ∧ v = .ref a ∧ O a ∧ ¬ F a ∧ NoImg m a ∧ ObAt K m O H a o
def Post (K : PySem.W.Frag) (D : Ends) (m : Mp) (F O : Op) (H : Hp) (fl : Fl) (st' : Store) : Prop := match fl with
  | .nx fr' => ∀ m' O' σ' H', GrowF F m O H m' O' H' → Rel K m' F O' σ' H' fr' st' → D.nx σ' H'
  | .bk fr' => ∀ m' O' σ' H', GrowF F m O H m' O' H' → Rel K m' F O' σ' H' fr' st' → D.bk σ' H'
  | .ct fr' => ∀ m' O' σ' H', GrowF F m O H m' O' H' → Rel K m' F O' σ' H' fr' st' → D.ct σ' H'
  | .rt k w => ∀ m' O' v H', GrowF F m O H m' O' H' → Sto K m' F O' H' st' → RRes K m' F O' H' k w v → D.rt v H'
def tM (K : PySem.W.Frag) (p : PM) : TS := fun D σ H => ∃ m F O fr st fl st', Rel K m F O σ H fr st ∧ p fr st = .ok fl st' ∧ Post K D m F O H fl st'
abbrev RS (X : Cx) (s : Stmt) (p : PM) : Prop := PS X s (tM X.K p)
abbrev RSs (X : Cx) (s : List Stmt) (p : PM) : Prop := PSs X s (tM X.K p)

section
variable {K : PySem.W.Frag} {X : Cx} {e : Expr} {s : Stmt} {ss : List Stmt} {p q : PM} {pe : PX} {pb : PB} {pos : Pos} {D D' : Ends} {m m' : Mp} {F O O' : Op} {H H' : Hp} {fl : Fl} {st' : Store}
theorem Post.grow (g : GrowF F m O H m' O' H') (h : Post K D m F O H fl st') : Post K D m' F O' H' fl st' := by
  cases fl with
  | nx fr => exact fun m2 O2 σ2 H2 g2 R => h m2 O2 σ2 H2 (g.trans g2) R
  | bk fr => exact fun m2 O2 σ2 H2 g2 R => h m2 O2 σ2 H2 (g.trans g2) R
  | ct fr => exact fun m2 O2 σ2 H2 g2 R => h m2 O2 σ2 H2 (g.trans g2) R
  | rt k w => exact fun m2 O2 v H2 g2 S r => h m2 O2 v H2 (g.trans g2) S r

def sSkip : PM := fun fr st => .ok (.nx fr) st
def sSeq (p q : PM) : PM := fun fr st => (p fr st).bind fun fl s1 => match fl with
  | .nx fr1 => q fr1 s1
  | fl => .ok fl s1
theorem rss_nil : RSs X [] sSkip := L2.PSs.imp pss_nil fun D σ H h => by
  obtain ⟨m, F, O, fr, st, fl, st', R, e, q⟩ := h
  cases e
  exact q m O σ H GrowF.refl R
theorem rss_cons (h1 : RS X s p) (h2 : RSs X ss q) : RSs X (s :: ss) (sSeq p q) := L2.PSs.imp (pss_cons h1 h2) fun D σ H h => by
  obtain ⟨m, F, O, fr, st, fl, st', R, e, po⟩ := h
  obtain ⟨f1, s1, e1, e⟩ := Res.bind_eq e
  refine ⟨m, F, O, fr, st, f1, s1, R, e1, ?_⟩
  cases f1 with
  | nx fr1 => exact fun m1 O1 σ1 H1 g1 R1 => ⟨m1, F, O1, fr1, s1, fl, st', R1, e, po.grow g1⟩
  | bk fr1 => cases e; exact po
  | ct fr1 => cases e; exact po
  | rt k w => cases e; exact po
theorem rss_one (h1 : RS X s p) : RSs X [s] p := pss_one h1
theorem rs_pass : RS X (.Pass pos) sSkip := ps_pass.imp fun D σ H h => by
  obtain ⟨m, F, O, fr, st, fl, st', R, e, q⟩ := h
  cases e
  exact q m O σ H GrowF.refl R
theorem rs_doc {x : Str} {j : Nat} {pos' : Pos} : RS X (.Expr (.Constant (.str x) j pos) pos') sSkip := ps_doc.imp fun D σ H h => by
  obtain ⟨m, F, O, fr, st, fl, st', R, e, q⟩ := h
  cases e
  exact q m O σ H GrowF.refl R
def sBreak : PM := fun fr st => .ok (.bk fr) st
def sCont : PM := fun fr st => .ok (.ct fr) st
theorem rs_break : RS X (.Break pos) sBreak := ps_break.imp fun D σ H h => by
  obtain ⟨m, F, O, fr, st, fl, st', R, e, q⟩ := h
  cases e
  exact q m O σ H GrowF.refl R
theorem rs_cont : RS X (.Continue pos) sCont := ps_continue.imp fun D σ H h => by
  obtain ⟨m, F, O, fr, st, fl, st', R, e, q⟩ := h
  cases e
  exact q m O σ H GrowF.refl R
def sIf (c : PB) (p q : PM) : PM := fun fr st => (c fr st).bind fun b s1 => if b = true then p fr s1 else q fr s1
theorem rs_if {c : Expr} {a b : List Stmt} (hc : RB X c pb) (ha : RSs X a p) (hb : RSs X b q) : RS X (.If c a b pos) (sIf pb p q) := (ps_if hc ha hb).imp fun D σ H h => by
  obtain ⟨m, F, O, fr, st, fl, st', R, e, po⟩ := h
  obtain ⟨b, s1, e1, e⟩ := Res.bind_eq e
  refine ⟨m, F, O, fr, st, b, s1, R, e1, fun m1 O1 H1 g1 R1 => ?_⟩
  cases b with
  | true => exact iteT ⟨m1, F, O1, fr, s1, fl, st', R1, e, po.grow g1.less⟩
  | false => exact iteF ⟨m1, F, O1, fr, s1, fl, st', R1, e, po.grow g1.less⟩
/-- an expression alone -/
def sDrop (p : PX) : PM := fun fr st => (p fr st).bind fun _ s1 => .ok (.nx fr) s1
theorem rs_drop (he : RE X e pe) (hs : swapsWith e none pos.line X.env = pure false := by rfl) : RS X (.Expr e pos) (sDrop pe) := (ps_expr he hs).imp fun D σ H h => by
  obtain ⟨m, F, O, fr, st, fl, st', R, e, po⟩ := h
  obtain ⟨⟨k, w⟩, s1, e1, e⟩ := Res.bind_eq e
  cases e
  exact ⟨m, F, O, fr, st, k, w, st', R, e1, fun m1 O1 v H1 g1 R1 _ => po m1 O1 σ H1 g1.less R1⟩

/-- what a slot takes -/
def obOf : W → Option Ob
  | .lst xs => some (.lst xs)
  | .dct ks vs => some (.dct ks vs)
  | _ => none
theorem obOf_toW (o : Ob) : obOf o.toW = some o := by cases o <;> rfl
theorem toW_inj {o u : Ob} (h : o.toW = u.toW) : o = u := by
  have := congrArg obOf h
  rw [obOf_toW, obOf_toW] at this
  exact Option.some.inj this
def slOf (k : Kd) (w : W) : Option Sl := match k with
  | .fr => (obOf w).map Sl.own
  | k => if keepOk k w = true then some (.val w) else none
theorem Rel.put {σ : L2.St} {fr : Frame} {st : Store} {k : Kd} {w : W} {v : V} {sl : Sl} (R : Rel K m F O σ H fr st) (d : RDen K m F O σ H fr k w v) (h : slOf k w = some sl) (i : Nat) :
    ∃ O', (∀ b, O' b → O b) ∧ Rel K m F O' (σ.set i (some v)) H (fr.set i sl) st := by
  have str : keepOk k w = true → slOf k w = some (.val w) → ∃ O', (∀ b, O' b → O b) ∧ Rel K m F O' (σ.set i (some v)) H (fr.set i sl) st := fun ok h2 => by
    rw [h] at h2
    cases h2
    obtain ⟨O', sh, R', d'⟩ := d.strict R ok
    exact ⟨O', sh, R'.setVal d' i⟩
  cases k with
  | fr =>
    obtain ⟨a, o, rfl, rfl, f, d⟩ := d
    unfold slOf at h
    rw [obOf_toW] at h
    cases h
    exact ⟨O, fun _ z => z, R.setOwn f d i⟩
  | st => exact str rfl rfl
  | pk =>
    unfold slOf at h
    by_cases ok : keepOk .pk w = true
    · exact str ok (by unfold slOf; exact if_pos ok)
    · simp only [if_neg ok] at h; cases h
/-- x = e -/
def sSet (i : Nat) (p : PX) : PM := fun fr st => (p fr st).bind fun x s1 => match slOf x.1 x.2 with
  | some sl => .ok (.nx (fr.set i sl)) s1
  | none => .bad
theorem rs_setG {i : Nat} (h : PS X s (tAsg (tI X.K pe) (gName i))) : RS X s (sSet i pe) := h.imp fun D σ H h => by
  obtain ⟨m, F, O, fr, st, fl, st', R, e, po⟩ := h
  obtain ⟨⟨k, w⟩, s1, e1, e⟩ := Res.bind_eq e
  refine ⟨m, F, O, fr, st, k, w, s1, R, e1, fun m1 O1 v H1 g1 R1 d1 => ?_⟩
  cases hs : slOf k w with
  | none => simp only [hs] at e; cases e
  | some sl =>
    simp only [hs] at e
    cases e
    obtain ⟨O2, sh, R2⟩ := R1.put d1 hs i
    exact po m1 O2 _ H1 (g1.less.trans (GrowF.shut sh)) R2
theorem rs_set {i : Nat} {x : Str} {pos' : Pos} (hN : X.N.Nodup) (hi : X.N[i]? = some x) (hx : Loc X.env.scope x) (he : RE X e pe) (hs : swapsWith e (some (.Name x pos')) pos.line X.env = pure false := by rfl) (hf : X.fn x = true ∨ X.env.scope.names.lookup x = some .local := by first | exact .inl rfl | exact .inr rfl | assumption) :
    RS X (.Assign [.Name x pos'] e pos) (sSet i pe) := rs_setG (ps_set hN hi hx he hs hf)
/-- return e -/
def sRet (p : PX) : PM := fun fr st => (p fr st).bind fun x s1 => match x.1 with
  | .pk => if keepOk .pk x.2 = true then .ok (.rt .st x.2) s1 else .bad
  | k => .ok (.rt k x.2) s1
theorem rs_ret (he : RE X e pe) : RS X (.Return (some e) pos) (sRet pe) := (ps_ret he).imp fun D σ H h => by
  obtain ⟨m, F, O, fr, st, fl, st', R, e, po⟩ := h
  obtain ⟨⟨k, w⟩, s1, e1, e⟩ := Res.bind_eq e
  refine ⟨m, F, O, fr, st, k, w, s1, R, e1, fun m1 O1 v H1 g1 R1 d1 => ?_⟩
  cases k with
  | fr =>
    cases e
    obtain ⟨a, o, e2, e3, f, d⟩ := d1
    exact po m1 O1 v H1 g1.less R1.toSto ⟨a, o, e2, e3, f.op, f.nf, f.ni, d⟩
  | st => cases e; exact po m1 O1 v H1 g1.less R1.toSto d1
  | pk =>
    by_cases ok : keepOk .pk w = true
    · have e : (if keepOk .pk w = true then Res.ok (Fl.rt .st w) s1 else .bad) = .ok fl st' := e
      rw [if_pos ok] at e
      cases e
      obtain ⟨O2, sh, R2, d2⟩ := d1.strict R1 ok
      exact po m1 O2 v H1 (g1.less.trans (GrowF.shut sh)) R2.toSto d2
    · have e : (if keepOk .pk w = true then Res.ok (Fl.rt .st w) s1 else .bad) = .ok fl st' := e
      rw [if_neg ok] at e
      cases e
/-- return x, x a name: an own object goes out as a new one -/
def sRetV (i : Nat) : PM := fun fr st => match fr[i]? with
  | some (.own o) => .ok (.rt .fr o.toW) st
  | some (.val w) => .ok (.rt .st w) st
  | _ => .bad
theorem rs_retV {i : Nat} (he : PE X e (tVar i)) : RS X (.Return (some e) pos) (sRetV i) := (ps_ret he).imp fun D σ H h => by
  obtain ⟨m, F, O, fr, st, fl, st', R, e, po⟩ := h
  unfold sRetV at e
  cases hs : fr[i]? with
  | none => rw [hs] at e; cases e
  | some sl =>
    rw [hs] at e
    have z := R.sl i sl hs
    cases sl with
    | no => cases e
    | val w =>
      cases e
      obtain ⟨v, e1, d⟩ := z
      exact ⟨v, e1, po m O v H GrowF.refl R.toSto d⟩
    | own o =>
      cases e
      obtain ⟨a, e1, h1, h2, h3, d⟩ := z
      exact ⟨_, e1, po m O _ H GrowF.refl R.toSto ⟨a, o, rfl, rfl, h1, h2, h3, d⟩⟩
def sRetN : PM := fun _ st => .ok (.rt .st .non) st
theorem rs_retN : RS X (.Return none pos) sRetN := ps_retN.imp fun D σ H h => by
  obtain ⟨m, F, O, fr, st, fl, st', R, e, po⟩ := h
  cases e
  exact po m O _ H GrowF.refl R.toSto (by show Den _ _ _ _ _ _; unfold Den; rfl)
/-- own objects become values; slots are forgotten (no Python) -/
def freezeF (i : Nat) (fr : Frame) : Frame := match fr[i]? with
  | some (.own o) => fr.set i (.val o.toW)
  | _ => fr
def sFrz (is : List Nat) (p : PM) : PM := fun fr st => p (is.foldr freezeF fr) st
theorem Rel.frz {σ : L2.St} {fr : Frame} {st : Store} (R : Rel K m F O σ H fr st) (i : Nat) : ∃ O', (∀ b, O' b → O b) ∧ Rel K m F O' σ H (freezeF i fr) st := by
  unfold freezeF
  cases hs : fr[i]? with
  | none => exact ⟨O, fun _ z => z, R⟩
  | some sl => cases sl with
    | no => exact ⟨O, fun _ z => z, R⟩
    | val w => exact ⟨O, fun _ z => z, R⟩
    | own o => exact R.freeze hs
theorem Rel.frzs {σ : L2.St} {fr : Frame} {st : Store} (R : Rel K m F O σ H fr st) : ∀ is : List Nat, ∃ O', (∀ b, O' b → O b) ∧ Rel K m F O' σ H (is.foldr freezeF fr) st
  | [] => ⟨O, fun _ z => z, R⟩
  | i :: is => by
    obtain ⟨O1, sh1, R1⟩ := Rel.frzs R is
    obtain ⟨O2, sh2, R2⟩ := R1.frz i
    exact ⟨O2, fun b z => sh1 b (sh2 b z), R2⟩
theorem rss_frz (is : List Nat) (h : RSs X ss p) : RSs X ss (sFrz is p) := L2.PSs.imp h fun D σ H h => by
  obtain ⟨m, F, O, fr, st, fl, st', R, e, po⟩ := h
  obtain ⟨O1, sh, R1⟩ := R.frzs is
  exact ⟨m, F, O1, _, st, fl, st', R1, e, po.grow (GrowF.shut sh)⟩
theorem rs_frz (is : List Nat) (h : RS X s p) : RS X s (sFrz is p) := h.imp fun D σ H h => by
  obtain ⟨m, F, O, fr, st, fl, st', R, e, po⟩ := h
  obtain ⟨O1, sh, R1⟩ := R.frzs is
  exact ⟨m, F, O1, _, st, fl, st', R1, e, po.grow (GrowF.shut sh)⟩
def forgetF (is : List Nat) (fr : Frame) : Frame := is.foldr (fun i fr => fr.set i .no) fr
theorem Rel.forget1 {σ : L2.St} {fr : Frame} {st : Store} (R : Rel K m F O σ H fr st) (i : Nat) : Rel K m F O σ H (fr.set i .no) st where
  toSto := R.toSto
  sl := fun j s e => by
    by_cases h : i = j
    · subst h
      have hi : i < fr.length := by simpa using (List.getElem?_eq_some_iff.mp e).1
      rw [List.getElem?_set_self hi] at e
      cases e
      exact trivial
    · rw [List.getElem?_set_ne h] at e
      exact R.sl j s e
  len := by rw [List.length_set]; exact R.len
  sep := fun j l o u b e1 e2 h1 h2 => by
    have key : ∀ (x : Nat) (y : Ob), (fr.set i .no)[x]? = some (Sl.own y) → fr[x]? = some (Sl.own y) := fun x y q => by
      by_cases h : i = x
      · subst h
        have hi : i < fr.length := by simpa using (List.getElem?_eq_some_iff.mp q).1
        rw [List.getElem?_set_self hi] at q; cases q
      · rw [List.getElem?_set_ne h] at q; exact q
    exact R.sep j l o u b (key j o e1) (key l u e2) h1 h2
theorem Rel.forget {σ : L2.St} {fr : Frame} {st : Store} (R : Rel K m F O σ H fr st) : ∀ is : List Nat, Rel K m F O σ H (forgetF is fr) st
  | [] => R
  | i :: is => Rel.forget1 (Rel.forget R is) i

/-! ### a def's promise, its call -/
def spI (K : PySem.W.Frag) (n : Nat) (p : PFn) : Sp := fun vs H Q _ => ∃ m O ws st k w st', ws.length = n ∧ Sto K m O O H st ∧ Dens K m O H ws vs ∧ p ws st = .ok (k, w) st' ∧
  ∀ m' O' v H', Grow m O H m' O' H' → Sto K m' O O' H' st' → RRes K m' O O' H' k w v → Q v H'
/-- a def, called where no repr is under way -/
structure FnG (P : Program) (w : World) (K : PySem.W.Frag) (mg : Str → Option Value) (base : Heap) (k : Nat) (f : Addr) (fd : FuncData) (ps : List Str) (sp : Sp) : Prop where
  len : ∀ vs H Q E, sp vs H Q E → vs.length = ps.length
  run : ∀ (A : Around) (outer : List Env) (s : Shared) (H : Hp) (args : Args) (us : List Value) (vs : List V) (Q : VK), Room k A → A.guards = some [] → Env0 P w K mg base A outer s H → BindsTo s fd args (ps.zip us) → Vals vs us → sp vs H Q E0 →
    codeAny (model P w) A (.call (.ref f) args) (CR CX0 outer P w H s Q E0) s
def eCall (f : PFn) (r : PL) : PX := fun fr st => (r fr st).bind fun ws s1 => f ws s1
variable {f : Addr} {fd : FuncData} {ps : List Str} {k n : Nat} {pf : PFn} {x : Str} {es : List Expr} {r : PL} {cp : Pos}
theorem call_g {pins : List (Addr × Obj)} {σ : L2.St} {s : Shared} {Q : VK} {us : List Value} {vs : List V} {sp : Sp} (G : FnG X.prog X.w X.K X.mg X.base k f fd ps sp) (hr : Room k X.A) (hg : X.A.guards = some []) (hb : Binds X.K fd ps [])
    (I : Inv X pins σ H s) (rv : Vals vs us) (h : sp vs H Q E0) : wpAny (model X.prog X.w) X.A (call (.ref f) us) (EP X pins σ Q) X.xe s := by
  have hl : us.length = ps.length := rv.length.symm.trans (G.len _ _ _ _ h)
  have hb' : BindsTo s fd ⟨us, []⟩ (ps.zip us) := by
    have z := hb s us I.kIn (by rw [List.append_nil]; exact hl)
    rw [List.append_nil] at z
    exact z
  refine wpAny_call (codeAny_mono (G.run X.A X.stack s H ⟨us, []⟩ us vs Q hr hg I.env0 hb' rv h) fun res s' hq => ?_)
  match res, hq with
  | .ok (.ret u), hq => exact I.after hq
theorem t_call {σ : L2.St} {Q : VK} (q : tI K (eCall pf r) σ H Q) (hn : ∀ fr st ws st', r fr st = .ok ws st' → ws.length = n) : tA K r σ H fun vs H1 => spI K n pf vs H1 Q E0 := by
  obtain ⟨m, F, O, fr, st, k, w, st', R, e, q⟩ := q
  obtain ⟨ws, s1, e1, e⟩ := Res.bind_eq e
  refine ⟨m, F, O, fr, st, ws, s1, R, e1, fun m1 O1 vs H1 g1 R1 d1 => ?_⟩
  refine ⟨m1, O1, ws, s1, k, w, st', hn _ _ _ _ e1, ⟨R1.mO, fun _ z => z, R1.inj, R1.dom, R1.trk, R1.obj⟩, d1, e, fun m2 O2 v H2 g2 S2 d2 => ?_⟩
  have R2 := R1.after g2 S2
  refine q m2 O2 v H2 (g1.trans g2) R2 ?_
  cases k with
  | st => exact d2
  | pk => exact d2.elim
  | fr =>
    obtain ⟨a, o, e2, e3, h1, h2, h3, d⟩ := d2
    refine ⟨a, o, e2, e3, ⟨h1, fun z => h2 (R1.flo a z), h3, fun i u z1 z2 => ?_⟩, d⟩
    obtain ⟨b, z3, z4, _⟩ := R1.sl i _ z1
    rw [z2] at z3
    cases z3
    exact h2 z4
def aLen : List Expr → Nat := List.length
theorem aNil_len {fr : Frame} {st st' : Store} {ws : List W} (h : aNil fr st = .ok ws st') : ws.length = 0 := by cases h; rfl
theorem aCons_len {p : PX} {r : PL} {n : Nat} (hr : ∀ fr st ws st', r fr st = .ok ws st' → ws.length = n) : ∀ fr st ws st', aCons p r fr st = .ok ws st' → ws.length = n + 1 := fun fr st ws st' h => by
  obtain ⟨⟨k, x⟩, s1, e1, e⟩ := Res.bind_eq h
  by_cases hk : keepOk k x = true
  · rw [if_pos hk] at e
    obtain ⟨ys, s2, e2, e⟩ := Res.bind_eq e
    cases e
    rw [List.length_cons, hr _ _ _ _ e2]
  · rw [if_neg hk] at e; cases e
theorem re_call (G : FnG X.prog X.w X.K X.mg X.base k f fd ps (spI X.K n pf)) (hr : Room k X.A) (hg : X.A.guards = some []) (gl : Gl X x) (hm : X.mg x = some (.ref f)) (hk : PySem.W.keepIn X.K (.ref f) = true) (hb : Binds X.K fd ps [])
    (ha : RA X (e :: es) r) (hn : ∀ fr st ws st', r fr st = .ok ws st' → ws.length = n) (hdb : (x == ("__debug__" : Str)) = false := by decide) (he : starEach (e :: es) X.env = (false, eval e X.env) :: starEach es X.env := by rfl) (hpl : (backTo pos (starEach es X.env)).any (·.1) = false := by rfl) :
    RE X (.Call (.Name x cp) (e :: es) [] pos) (eCall pf r) := by
  refine ⟨fun pins s σ H Q I h => wpAny_Call_Name_kw (ld_glob I gl hm ?_ hdb)⟩
  exact PySem.W.callWith_K (h₀ := X.base) I.ok.mod.kin hk (thn (ha.run pos pins s σ H _ I (t_call h hn)) fun us s1 hv => by
    obtain ⟨vs, H1, I1, rv, q⟩ := hv
    exact ⟨I1.kIn, call_g G hr hg hb I1 rv q⟩) he hpl
theorem re_call0 (G : FnG X.prog X.w X.K X.mg X.base k f fd ps (spI X.K 0 pf)) (hr : Room k X.A) (hg : X.A.guards = some []) (gl : Gl X x) (hm : X.mg x = some (.ref f)) (hk : PySem.W.keepIn X.K (.ref f) = true) (hb : Binds X.K fd ps [])
    (hdb : (x == ("__debug__" : Str)) = false := by decide) : RE X (.Call (.Name x cp) [] [] pos) (eCall pf aNil) := by
  refine ⟨fun pins s σ H Q I h => wpAny_Call_Name_kw (ld_glob I gl hm ?_ hdb)⟩
  obtain ⟨m, F, O, fr, st, ws, st', R, e, q⟩ := t_call h fun _ _ _ _ z => aNil_len z
  cases e
  exact PySem.W.callWith_K0 I.kIn hk (call_g (vs := []) G hr hg hb I .nil (q m O [] H Grow.refl R (by unfold Dens; rfl)))

/-- a def's body as a function of its arguments -/
def pBody (N : Nat) (b : PM) : PFn := fun ws st => (b (ws.map Sl.val ++ List.replicate (N - ws.length) Sl.no) st).bind fun fl s1 => match fl with
  | .rt k w => .ok (k, w) s1
  | .nx _ => .ok (.st, .non) s1
  | _ => .bad
theorem dens_get {m : Mp} {O : Op} {H : Hp} : ∀ {ws : List W} {vs : List V} {i : Nat} {w : W}, Dens K m O H ws vs → ws[i]? = some w → ∃ v, vs[i]? = some v ∧ Den K m O H w v
  | [], _, _, _, _, h => by simp at h
  | u :: us, vs, 0, w, d, h => by
    unfold Dens at d
    obtain ⟨v, r, rfl, d1, _⟩ := d
    cases h
    exact ⟨v, rfl, d1⟩
  | u :: us, vs, i + 1, w, d, h => by
    unfold Dens at d
    obtain ⟨v, r, rfl, _, d2⟩ := d
    exact dens_get (i := i) d2 (by simpa using h)
theorem rel_start {O : Op} {ws : List W} {vs : List V} {st : Store} {N : List Str} (S : Sto K m O O H st) (d : Dens K m O H ws vs) (hl : ws.length ≤ N.length) :
    Rel K m O O (L2.start N vs) H (ws.map Sl.val ++ List.replicate (N.length - ws.length) Sl.no) st where
  toSto := S
  len := by
    have e := dens_length d
    unfold L2.start
    simp [e]
  sl := fun i s e => by
    have el := dens_length d
    by_cases h : i < ws.length
    · rw [List.getElem?_append_left (by simpa using h), List.getElem?_map] at e
      cases hw : ws[i]? with
      | none => rw [hw] at e; cases e
      | some w =>
        rw [hw] at e
        cases e
        obtain ⟨v, hv, dv⟩ := dens_get d hw
        refine ⟨v, ?_, dv⟩
        unfold L2.start
        rw [List.getElem?_append_left (by simpa [el] using h), List.getElem?_map, hv]
        rfl
    · rw [List.getElem?_append_right (by simpa using h), List.getElem?_replicate] at e
      split at e
      · cases e; exact trivial
      · cases e
  sep := fun i j o u a e => by
    have no : ∀ (i : Nat) (o : Ob), (ws.map Sl.val ++ List.replicate (N.length - ws.length) Sl.no)[i]? ≠ some (Sl.own o) := fun i o e => by
      have hm := List.mem_of_getElem? e
      rcases List.mem_append.mp hm with h | h
      · obtain ⟨w, _, q⟩ := List.mem_map.mp h
        cases q
      · have q := List.eq_of_mem_replicate h
        cases q
    exact (no i o e).elim
variable {P : Program} {wd : World} {mg : Str → Option Value} {base : Heap} {N : List Str} {qual : Str} {st : Stmt} {b : PM}
/-- THE RULE for a def -/
theorem fng (F0 : Fun K x qual st f fd) (S : FnScope N ps (defScope st)) (hn : ps.length = n)
    (hbody : ∀ (cdv : Value) (A : Around) (outer : List Env) (s : Shared) (H : Hp), Room k (A.deeper (envOfC qual (defScope st) s.heap.objs.size f cdv)) → (A.deeper (envOfC qual (defScope st) s.heap.objs.size f cdv)).guards = some [] →
      RSs (cxOf CX0 P wd K mg base N qual (defScope st) f cdv A outer s H E0).nox (defBody st) b) : FnG P wd K mg base (k + 1) f fd ps (spI K n (pBody N.length b)) := by
  obtain ⟨oc, od, kV, doc, pm, an, cdv, ct, osl, rfl, lk, hcd⟩ := F0.ex
  have hlen : ∀ vs H Q E, spI K n (pBody N.length b) vs H Q E → vs.length = ps.length := fun vs H Q E h => by
    obtain ⟨m, O, ws, st, k, w, st', el, S, d, _⟩ := h
    rw [dens_length d, el, hn]
  refine ⟨hlen, fun A outer s H args us vs Q hr hg e0 hb rv hsp => ?_⟩
  have kin : K.In s.heap := e0.mod.kin.keeps fun b o e => (e0.bs b o e).1
  refine codeAny_call_function hr.depth (kin _ _ lk) rfl S.co S.gen rfl (PySem.W.codeRec_of kin hcd) (hb _ _ _ _ (wpAny_newFunctionEnv_cells S.kind (fun y hy => ?_) fun env he s1 x => ?_))
  · rcases S.par y.1 (List.of_mem_zip (show (y.1, y.2) ∈ ps.zip us from hy)).1 with z | z
    · exact Or.inl z
    · exact Or.inr ⟨z, PySem.W.cellsFrom_some _ _ _ (Or.inl z)⟩
  subst he
  refine ⟨(e0.mod.nolimit.keeps fun b o e => (e0.bs b o e).1).keeps x.toInCall.keep, codeAny_func ?_⟩
  have vl := hlen _ _ _ _ hsp
  obtain ⟨m, O, ws, st0, kd, w, st', el, St, d, e, q⟩ := hsp
  obtain ⟨fl, s2, e1, e2⟩ := Res.bind_eq e
  have hpl : ps.length ≤ N.length := by
    have z := congrArg List.length S.pre
    rw [List.length_take] at z
    omega
  have I := inv_start (CX := CX0) (E := E0) S hr.hd e0 vl rv x
  have body := (hbody cdv A outer s H (hr.deeper _) hg).nox
  have goal : tM K b { nx := fun _ H' => Q .non H', rt := Q } (L2.start N vs) H := by
    refine ⟨m, O, O, _, st0, fl, s2, rel_start St d (by omega), e1, ?_⟩
    cases fl with
    | nx fr =>
      cases e2
      exact fun m2 O2 σ2 H2 g R => q m2 O2 _ H2 ⟨g.mm, g.new, fun b o e _ ni => g.keep b o e (Classical.em (O b) |>.elim .inr .inl) ni, g.opn, g.there, g.tups⟩ R.toSto (by show Den _ _ _ _ _ _; unfold Den; rfl)
    | rt k w =>
      cases e2
      exact fun m2 O2 v H2 g S d => q m2 O2 v H2 ⟨g.mm, g.new, fun b o e _ ni => g.keep b o e (Classical.em (O b) |>.elim .inr .inl) ni, g.opn, g.there, g.tups⟩ S d
    | bk fr => cases e2
    | ct fr => cases e2
  have fin : ∀ {σ' : L2.St} {H' : Hp} {s' : Shared} {v : V} {u : Value}, Inv (cxOf CX0 P wd K mg base N qual (defScope st) f cdv A outer s H E0) [] σ' H' s' → RelV v u → Q v H' → CE outer P wd H s Q u s' :=
    fun J r z => ⟨_, _, J.os, J.bare, J.base, J.hok, r, z⟩
  refine wpAny_mono (body.run [] s1 (L2.start N vs) H _ I goal) (fun fl2 s3 hs => ?_) fun e s3 hs => hs
  match fl2, hs with
  | .ret u, ⟨v, σ', H', J, r, z⟩ => exact fin J r z
  | .next, ⟨σ', H', J, z⟩ => exact fin (v := V.non) (u := Value.none) J rfl z
  | .brk, ⟨_, _, _, z⟩ => exact False.elim z
  | .cont, ⟨_, _, _, z⟩ => exact False.elim z
end
end Vy

set_option Elab.async false
set_option linter.all false
set_option maxRecDepth 100000
set_option maxHeartbeats 4000000
/-! Targets, loops, comprehensions. -/
namespace Vy
open PySem PySem.Spec PyProof.Rows L2

abbrev PG' := W → Frame → Option Frame
abbrev PGs' := List W → Frame → Option Frame
/-- a target; vs: the slots that it stores -/
def tG (K : PySem.W.Frag) (vs : List Nat) (q : PG') : TG := fun v σ H Q => ∃ m F O fr st w fr', Rel K m F O σ H fr st ∧ Den K m O H w v ∧ q w fr = some fr' ∧
  ∀ m' O' σ' H', Grow m O H m' O' H' → Rel K m' F O' σ' H' fr' st → (∀ l : List Nat, (∀ i ∈ vs, i ∈ l) → wipe σ' l = wipe σ l ∧ forgetF l fr' = forgetF l fr) → Q σ' H'
def tGs (K : PySem.W.Frag) (vs : List Nat) (q : PGs') : TGs := fun v σ H Q => ∃ m F O fr st w fr', Rel K m F O σ H fr st ∧ Dens K m O H w v ∧ q w fr = some fr' ∧
  ∀ m' O' σ' H', Grow m O H m' O' H' → Rel K m' F O' σ' H' fr' st → (∀ l : List Nat, (∀ i ∈ vs, i ∈ l) → wipe σ' l = wipe σ l ∧ forgetF l fr' = forgetF l fr) → Q σ' H'
abbrev RG (X : Cx) (tg : Expr) (vs : List Nat) (q : PG') : Prop := PG X tg (tG X.K vs q)
abbrev RGs (X : Cx) (tg : List Expr) (vs : List Nat) (q : PGs') : Prop := PGs X tg (tGs X.K vs q)
theorem _root_.L2.PG.imp {X : Cx} {e : Expr} {t t' : TG} (h : PG X e t) (i : ∀ v σ H Q, t' v σ H Q → t v σ H Q) : PG X e t' := ⟨fun pins s σ H v u Q I r q => h.run pins s σ H v u Q I r (i _ _ _ _ q)⟩
theorem _root_.L2.PGs.imp {X : Cx} {e : List Expr} {t t' : TGs} (h : PGs X e t) (i : ∀ v σ H Q, t' v σ H Q → t v σ H Q) : PGs X e t' := ⟨fun pins s σ H v u Q I r q => h.run pins s σ H v u Q I r (i _ _ _ _ q)⟩
theorem _root_.L2.PI.imp {X : Cx} {tg e : Expr} {t t' : TI} (h : PI X tg e t) (i : ∀ σ H Q, t' σ H Q → t σ H Q) : PI X tg e t' := ⟨fun pins s σ H R I q => h.run pins s σ H R I (i _ _ _ q)⟩

theorem wipe_get (σ : L2.St) (j : Nat) : ∀ l : List Nat, (wipe σ l)[j]? = if j ∈ l then (σ[j]?).map (fun _ => none) else σ[j]?
  | [] => by simp [wipe]
  | v :: l => by
    have ih := wipe_get σ j l
    have hl := wipe_length σ l
    unfold wipe
    by_cases h : v = j
    · subst h
      rw [if_pos (List.mem_cons_self)]
      by_cases hv : v < σ.length
      · rw [List.getElem?_set_self (by omega), List.getElem?_eq_getElem hv]
        rfl
      · rw [List.getElem?_eq_none (by rw [List.length_set]; omega), List.getElem?_eq_none (by omega)]
        rfl
    · rw [List.getElem?_set_ne h, ih]
      by_cases hm : j ∈ l
      · rw [if_pos hm, if_pos (List.mem_cons_of_mem _ hm)]
      · rw [if_neg hm, if_neg fun z => (List.mem_cons.mp z).elim (fun z => h z.symm) hm]
theorem wipe_set {σ : L2.St} {i : Nat} {x : Option V} {l : List Nat} (h : i ∈ l) : wipe (σ.set i x) l = wipe σ l := by
  refine List.ext_getElem? fun j => ?_
  rw [wipe_get, wipe_get]
  by_cases hj : j ∈ l
  · rw [if_pos hj, if_pos hj]
    by_cases e : i = j
    · subst e
      by_cases hi : i < σ.length
      · rw [List.getElem?_set_self hi, List.getElem?_eq_getElem hi]; rfl
      · rw [List.getElem?_eq_none (by rw [List.length_set]; omega), List.getElem?_eq_none (by omega)]
    · rw [List.getElem?_set_ne e]
  · rw [if_neg hj, if_neg hj, List.getElem?_set_ne (fun e : i = j => hj (e ▸ h))]
theorem wipe_wipe (σ : L2.St) (l : List Nat) : wipe (wipe σ l) l = wipe σ l := by
  refine List.ext_getElem? fun j => ?_
  rw [wipe_get, wipe_get]
  by_cases hj : j ∈ l
  · rw [if_pos hj, if_pos hj, Option.map_map]; rfl
  · rw [if_neg hj, if_neg hj]
theorem forget_get (fr : Frame) (j : Nat) : ∀ l : List Nat, (forgetF l fr)[j]? = if j ∈ l then (fr[j]?).map (fun _ => Sl.no) else fr[j]?
  | [] => by simp [forgetF]
  | v :: l => by
    have ih := forget_get fr j l
    have hl : (forgetF l fr).length = fr.length := by
      clear ih
      induction l with
      | nil => rfl
      | cons x l ih => show (List.set (forgetF l fr) x Sl.no).length = _; rw [List.length_set, ih]
    show (List.set (forgetF l fr) v Sl.no)[j]? = _
    by_cases h : v = j
    · subst h
      rw [if_pos (List.mem_cons_self)]
      by_cases hv : v < fr.length
      · rw [List.getElem?_set_self (by omega), List.getElem?_eq_getElem hv]
        rfl
      · rw [List.getElem?_eq_none (by rw [List.length_set]; omega), List.getElem?_eq_none (by omega)]
        rfl
    · rw [List.getElem?_set_ne h, ih]
      by_cases hm : j ∈ l
      · rw [if_pos hm, if_pos (List.mem_cons_of_mem _ hm)]
      · rw [if_neg hm, if_neg fun z => (List.mem_cons.mp z).elim (fun z => h z.symm) hm]
theorem forget_length (fr : Frame) : ∀ l : List Nat, (forgetF l fr).length = fr.length
  | [] => rfl
  | v :: l => by
    show (List.set (forgetF l fr) v Sl.no).length = _
    rw [List.length_set, forget_length fr l]
theorem forget_set {fr : Frame} {i : Nat} {x : Sl} {l : List Nat} (h : i ∈ l) : forgetF l (fr.set i x) = forgetF l fr := by
  refine List.ext_getElem? fun j => ?_
  rw [forget_get, forget_get]
  by_cases hj : j ∈ l
  · rw [if_pos hj, if_pos hj]
    by_cases e : i = j
    · subst e
      by_cases hi : i < fr.length
      · rw [List.getElem?_set_self hi, List.getElem?_eq_getElem hi]; rfl
      · rw [List.getElem?_eq_none (by rw [List.length_set]; omega), List.getElem?_eq_none (by omega)]
    · rw [List.getElem?_set_ne e]
  · rw [if_neg hj, if_neg hj, List.getElem?_set_ne (fun e : i = j => hj (e ▸ h))]
theorem forget_forget (fr : Frame) (l : List Nat) : forgetF l (forgetF l fr) = forgetF l fr := by
  refine List.ext_getElem? fun j => ?_
  rw [forget_get, forget_get]
  by_cases hj : j ∈ l
  · rw [if_pos hj, if_pos hj, Option.map_map]; rfl
  · rw [if_neg hj, if_neg hj]

section
variable {K : PySem.W.Frag} {X : Cx} {m m' m1 : Mp} {F O O' O1 : Op} {H H' H1 : Hp} {σ : L2.St} {fr : Frame} {st st1 : Store} {pos : Pos}
def gN (i : Nat) : PG' := fun w fr => some (fr.set i (.val w))
theorem rg_name {i : Nat} {x : Str} (hN : X.N.Nodup) (hi : X.N[i]? = some x) (hx : Loc X.env.scope x) (hf : X.fn x = true ∨ X.env.scope.names.lookup x = some .local := by first | exact .inl rfl | exact .inr rfl | assumption) : RG X (.Name x pos) [i] (gN i) :=
  (pg_name hN hi hx hf).imp fun v σ H Q h => by
    obtain ⟨m, F, O, fr, st, w, fr', R, d, e, q⟩ := h
    cases e
    exact q m O _ H GrowF.refl (R.setVal d i) fun l hl => ⟨wipe_set (hl i (List.mem_singleton.mpr rfl)), forget_set (hl i (List.mem_singleton.mpr rfl))⟩
def gsNil : PGs' := fun ws fr => match ws with
  | [] => some fr
  | _ => none
def gsCons (q : PG') (r : PGs') : PGs' := fun ws fr => match ws with
  | [] => none
  | w :: ws => (q w fr).bind fun fr1 => r ws fr1
theorem rgs_nil : RGs X [] [] gsNil := L2.PGs.imp pgs_nil fun v σ H Q h => by
  obtain ⟨m, F, O, fr, st, w, fr', R, d, e, q⟩ := h
  cases w with
  | nil =>
    cases e
    unfold Dens at d
    exact ⟨d, q m O σ H GrowF.refl R fun _ _ => ⟨rfl, rfl⟩⟩
  | cons => cases e
theorem rgs_cons {e : Expr} {es : List Expr} {v1 v2 : List Nat} {q1 : PG'} {q2 : PGs'} (h1 : RG X e v1 q1) (h2 : RGs X es v2 q2)
    (hs : (assignEach (e :: es) X.env).map (·.2) = assign e X.env :: (assignEach es X.env).map (·.2) := by rfl) : RGs X (e :: es) (v1 ++ v2) (gsCons q1 q2) := L2.PGs.imp (pgs_cons h1 h2 hs) fun v σ H Q h => by
  obtain ⟨m, F, O, fr, st, w, fr', R, d, e, q⟩ := h
  cases w with
  | nil => cases e
  | cons w ws =>
    have e : ((q1 w fr).bind fun fr1 => q2 ws fr1) = some fr' := e
    cases e1 : q1 w fr with
    | none => rw [e1] at e; cases e
    | some fr1 =>
      rw [e1] at e
      have e : q2 ws fr1 = some fr' := e
      unfold Dens at d
      obtain ⟨x, r, rfl, d1, d2⟩ := d
      refine ⟨x, r, rfl, m, F, O, fr, st, w, fr1, R, d1, e1, fun m1 O1 σ1 H1 g1 R1 w1 => ?_⟩
      refine ⟨m1, F, O1, fr1, st, ws, fr', R1, Dens.grow g1 R.mO _ _ d2, e, fun m2 O2 σ2 H2 g2 R2 w2 => ?_⟩
      refine q m2 O2 σ2 H2 (g1.trans g2) R2 fun l hl => ?_
      obtain ⟨a1, a2⟩ := w2 l fun i hi => hl i (List.mem_append_right _ hi)
      obtain ⟨b1, b2⟩ := w1 l fun i hi => hl i (List.mem_append_left _ hi)
      exact ⟨a1.trans b1, a2.trans b2⟩
def gTp (n : Nat) (q : PGs') : PG' := fun w fr => match w with
  | .tup ws => if ws.length = n then q ws fr else none
  | _ => none
theorem rg_tup {es : List Expr} {k n : Nat} {vs : List Nat} {q : PGs'} (hc : X.calm = true) (h : RGs X es vs q)
    (hn : (assignEach es X.env).length = n := by rfl) (hst : (assignEach es X.env).findIdx? (·.1) = none := by rfl) : RG X (.Tuple es k pos) vs (gTp n q) := (pg_tup hc h hn hst).imp fun v σ H Q h => by
  obtain ⟨m, F, O, fr, st, w, fr', R, d, e, q⟩ := h
  cases w with
  | tup ws =>
    unfold gTp at e
    by_cases hl : ws.length = n
    · simp only [if_pos hl] at e
      unfold Den at d
      obtain ⟨a, xs, rfl, ha, ds⟩ := d
      exact ⟨a, xs, rfl, SqT.of ha, (dens_length ds).trans hl, m, F, O, fr, st, ws, fr', R, ds, e, q⟩
    · simp only [if_neg hl] at e; cases e
  | _ => cases e
/-- target = e, e kept -/
def sAsg (p : PX) (q : PG') : PM := fun fr st => (p fr st).bind fun x s1 => if keepOk x.1 x.2 = true then (match q x.2 fr with
  | some fr1 => .ok (.nx fr1) s1
  | none => .bad) else .bad
theorem rs_asg {tg e : Expr} {pe : PX} {vs : List Nat} {q : PG'} (he : RE X e pe) (hg : RG X tg vs q) (hs : swapsWithSole [tg] e pos.line X.env = pure false := by rfl) (hw : swappedStores [tg] e X.env = pure none := by rfl)
    (h1 : (assignEach [tg] X.env).map (·.2) = [assign tg X.env] := by rfl) : RS X (.Assign [tg] e pos) (sAsg pe q) := (ps_asg he.kept hg hs hw h1).imp fun D σ H h => by
  obtain ⟨m, F, O, fr, st, fl, st', R, e, po⟩ := h
  obtain ⟨⟨k, w⟩, s1, e1, e⟩ := Res.bind_eq e
  by_cases hk : keepOk k w = true
  · simp only [if_pos hk] at e
    cases e2 : q w fr with
    | none => rw [e2] at e; cases e
    | some fr1 =>
      rw [e2] at e
      cases e
      refine ⟨m, F, O, fr, st, k, w, st', R, e1, hk, fun m1 O1 v H1 g1 R1 d1 => ?_⟩
      exact ⟨m1, F, O1, fr, st', w, fr1, R1, d1, e2, fun m2 O2 σ2 H2 g2 R2 _ => po m2 O2 σ2 H2 (g1.less.trans g2.less) R2⟩
  · simp only [if_neg hk] at e; cases e

/-! ### what is walked -/
/-- J yields the items ws, whatever happens within G -/
def Yields (K : PySem.W.Frag) (G : Op) (m : Mp) (O : Op) (H : Hp) (J : It) (ws : List W) : Prop :=
  ∀ m2 O2 H2, GrowF G m O H m2 O2 H2 → (∀ n a, m2 n = some a → O2 a) → ∀ i : Nat,
    (∀ w, ws[i]? = some w → J.go i H2 ∧ ∀ x H3, J.yld i H2 x H3 → (∀ b o, H2 b = some o → H3 b = some o) ∧ Den K m2 O2 H3 w x) ∧ (i = ws.length → J.stop i H2)
/-- c: what is walked is shut (else it is only looked at: for comprehensions) -/
def tIx (K : PySem.W.Frag) (Ex : Mp → Op → L2.St → Hp → Frame → Prop) (c : Bool) (p : PL) : TI := fun σ H R => ∃ m F O fr st ws st', Rel K m F O σ H fr st ∧ Ex m O σ H fr ∧ p fr st = .ok ws st' ∧
  ∀ m' O' J H', Grow m O H m' O' H' → Rel K m' F O' σ H' fr st' → Yields K (if c = true then F else allA) m' O' H' J ws → R J H'
abbrev exT : Mp → Op → L2.St → Hp → Frame → Prop := fun _ _ _ _ _ => True
abbrev RIx (X : Cx) (Ex : Mp → Op → L2.St → Hp → Frame → Prop) (tg e : Expr) (c : Bool) (p : PL) : Prop := PI X tg e (tIx X.K Ex c p)
abbrev RI (X : Cx) (tg e : Expr) (c : Bool) (p : PL) : Prop := RIx X exT tg e c p
theorem Yields.less {G : Op} {J : It} {ws : List W} (y : Yields K G m O H J ws) : Yields K allA m O H J ws := fun m2 O2 H2 g => y m2 O2 H2 g.less

def forL (q : PG') (b : PM) : List W → Frame → Store → Res Fl
  | [], fr, st => .ok (.nx fr) st
  | w :: ws, fr, st => match q w fr with
    | none => .bad
    | some fr1 => (b fr1 st).bind fun fl s1 => match fl with
      | .nx fr2 => forL q b ws fr2 s1
      | .ct fr2 => forL q b ws fr2 s1
      | .bk fr2 => .ok (.nx fr2) s1
      | .rt k w => .ok (.rt k w) s1
def sFor (qi : PL) (q : PG') (b : PM) : PM := fun fr st => (qi fr st).bind fun ws s1 => forL q b ws fr s1
theorem rs_for {tg iter : Expr} {body : List Stmt} {qi : PL} {vs : List Nat} {q : PG'} {b : PM} (hc : X.calm = true) (hi : RI X tg iter true qi) (hg : RG X tg vs q) (hb : RSs X body b)
    (hp : PassesOwn (model X.prog X.w) X.A X.env X.xe := by exact PassesOwn.never) (hs : ∀ x, foldedSetIterable iter X.env x = pure x := by intro _; rfl) : RS X (.For tg iter body [] pos) (sFor qi q b) :=
  (ps_for hp hc hi hg hb hs).imp fun D σ H h => by
    obtain ⟨m, F, O, fr, st, fl, st', R, e, po⟩ := h
    obtain ⟨ws, s1, e1, e⟩ := Res.bind_eq e
    refine ⟨m, F, O, fr, st, ws, s1, R, trivial, e1, fun m1 O1 J H1 g1 R1 y => ?_⟩
    rw [if_pos rfl] at y
    have po := po.grow g1.less
    refine ⟨fun i k σ2 H2 => k = ws.length - i ∧ i ≤ ws.length ∧ ∃ m2 O2 fr2 st2, Rel X.K m2 F O2 σ2 H2 fr2 st2 ∧ GrowF F m1 O1 H1 m2 O2 H2 ∧ forL q b (ws.drop i) fr2 st2 = .ok fl st',
      ⟨ws.length, by omega, Nat.zero_le _, m1, O1, fr, s1, R1, GrowF.refl, e⟩, fun i k σ2 H2 hW => ?_⟩
    obtain ⟨rfl, hi, m2, O2, fr2, st2, R2, g2, e2⟩ := hW
    obtain ⟨y1, y2⟩ := y m2 O2 H2 g2 R2.mO i
    by_cases hlt : i < ws.length
    · have hw : ws[i]? = some ws[i] := List.getElem?_eq_getElem hlt
      obtain ⟨go, yl⟩ := y1 _ hw
      rw [List.drop_eq_getElem_cons hlt] at e2
      unfold forL at e2
      cases eq : q ws[i] fr2 with
      | none => rw [eq] at e2; cases e2
      | some fr3 =>
        rw [eq] at e2
        obtain ⟨f1, s3, e3, e4⟩ := Res.bind_eq e2
        refine .inr ⟨go, fun σ' H' => ∃ m4 O4 fr4 st4, Rel X.K m4 F O4 σ' H' fr4 st4 ∧ GrowF F m1 O1 H1 m4 O4 H' ∧ forL q b (ws.drop (i + 1)) fr4 st4 = .ok fl st',
          fun σ' H' hN => ⟨ws.length - (i + 1), by omega, rfl, hlt, hN⟩, fun x H3 hy => ?_⟩
        obtain ⟨ex, dx⟩ := yl x H3 hy
        have g3 : GrowF F m2 O2 H2 m2 O2 H3 := GrowF.ext ex
        refine ⟨m2, F, O2, fr2, st2, ws[i], fr3, R2.ext ex, dx, eq, fun m4 O4 σ4 H4 g4 R4 _ => ?_⟩
        have g5 := g2.trans (g3.trans g4.less)
        refine ⟨m4, F, O4, fr3, st2, f1, s3, R4, e3, ?_⟩
        cases f1 with
        | nx fr5 => exact fun m6 O6 σ6 H6 g6 R6 => ⟨m6, O6, fr5, s3, R6, g5.trans g6, e4⟩
        | ct fr5 => exact fun m6 O6 σ6 H6 g6 R6 => ⟨m6, O6, fr5, s3, R6, g5.trans g6, e4⟩
        | bk fr5 => cases e4; exact fun m6 O6 σ6 H6 g6 R6 => po m6 O6 σ6 H6 (g5.trans g6) R6
        | rt k w => cases e4; exact fun m6 O6 v H6 g6 S6 d => po m6 O6 v H6 (g5.trans g6) S6 d
    · refine .inl ⟨y2 (by omega), ?_⟩
      rw [List.drop_eq_nil_of_le (by omega)] at e2
      cases e2
      exact po m2 O2 σ2 H2 g2 R2

/-! ### while -/
def whileL (c : PB) (b : PM) : Nat → Frame → Store → Res Fl
  | 0, _, _ => .bad
  | n + 1, fr, st => (c fr st).bind fun t s1 => if t = true then (b fr s1).bind fun fl s2 => match fl with
      | .nx fr2 => whileL c b n fr2 s2
      | .ct fr2 => whileL c b n fr2 s2
      | .bk fr2 => .ok (.nx fr2) s2
      | .rt k w => .ok (.rt k w) s2
    else .ok (.nx fr) s1
def turns : Nat := 1000000
def sWhile (c : PB) (b : PM) : PM := fun fr st => whileL c b turns fr st
theorem rs_while {c : Expr} {body : List Stmt} {pc : PB} {b : PM} (hcnd : RB X c pc) (hb : RSs X body b) (hp : PassesOwn (model X.prog X.w) X.A X.env X.xe := by exact PassesOwn.never) :
    RS X (.While c body [] pos) (sWhile pc b) := (ps_while hp hcnd hb).imp fun D σ H h => by
  obtain ⟨m, F, O, fr, st, fl, st', R, e, po⟩ := h
  refine ⟨fun n σ2 H2 => ∃ m2 O2 fr2 st2, Rel X.K m2 F O2 σ2 H2 fr2 st2 ∧ GrowF F m O H m2 O2 H2 ∧ whileL pc b n fr2 st2 = .ok fl st', ⟨turns, m, O, fr, st, R, GrowF.refl, e⟩, fun n σ2 H2 hW => ?_⟩
  obtain ⟨m2, O2, fr2, st2, R2, g2, e2⟩ := hW
  cases n with
  | zero => cases e2
  | succ n =>
    obtain ⟨t, s3, e3, e4⟩ := Res.bind_eq (show (pc fr2 st2).bind _ = _ from e2)
    refine ⟨m2, F, O2, fr2, st2, t, s3, R2, e3, fun m3 O3 H3 g3 R3 => ?_⟩
    cases t with
    | false =>
      rw [if_neg Bool.false_ne_true] at e4
      cases e4
      exact iteF (po m3 O3 σ2 H3 (g2.trans g3.less) R3)
    | true =>
      rw [if_pos rfl] at e4
      obtain ⟨f1, s4, e5, e6⟩ := Res.bind_eq e4
      refine iteT ⟨fun σ' H' => ∃ m4 O4 fr4 st4, Rel X.K m4 F O4 σ' H' fr4 st4 ∧ GrowF F m O H m4 O4 H' ∧ whileL pc b n fr4 st4 = .ok fl st', fun σ' H' hN => ⟨n, Nat.lt_succ_self n, hN⟩, m3, F, O3, fr2, s3, f1, s4, R3, e5, ?_⟩
      have g5 := g2.trans g3.less
      cases f1 with
      | nx fr5 => exact fun m6 O6 σ6 H6 g6 R6 => ⟨m6, O6, fr5, s4, R6, g5.trans g6, e6⟩
      | ct fr5 => exact fun m6 O6 σ6 H6 g6 R6 => ⟨m6, O6, fr5, s4, R6, g5.trans g6, e6⟩
      | bk fr5 => cases e6; exact fun m6 O6 σ6 H6 g6 R6 => po m6 O6 σ6 H6 (g5.trans g6) R6
      | rt k w => cases e6; exact fun m6 O6 v H6 g6 S6 d => po m6 O6 v H6 (g5.trans g6) S6 d

/-! ### comprehensions -/
def isOwn : Option Sl → Bool
  | some (.own _) => true
  | _ => false
def noOwn (vs : List Nat) (fr : Frame) : Bool := vs.all fun i => !isOwn fr[i]?
abbrev PCs := Frame → Store → Res Bool
def compL (q : PG') (c : PB) (el : PX) : List W → List W → Frame → Store → Res (List W)
  | [], acc, _, st => .ok acc st
  | w :: ws, acc, fr, st => match q w fr with
    | none => .bad
    | some fr1 => (c fr1 st).bind fun t s1 => if t = true then
        (el fr1 s1).bind fun x s2 => if keepOk x.1 x.2 = true ∧ acc.length < sizeLine then compL q c el ws (acc ++ [x.2]) fr s2 else .bad
      else compL q c el ws acc fr s1
def eComp (qi : PL) (q : PG') (c : PB) (el : PX) (vs : List Nat) : PX := fun fr st => (qi fr st).bind fun ws s1 => if noOwn vs fr = true then
  (compL q c el ws [] (forgetF vs fr) s1).bind fun xs s2 => .ok (.fr, .lst xs) s2 else .bad
abbrev RTs (X : Cx) (ifs : List Expr) (p : PB) : Prop := PTs X ifs (tB X.K p)
def bYes : PB := fun _ st => .ok true st
theorem _root_.L2.PTs.imp {X : Cx} {e : List Expr} {t t' : TT} (h : PTs X e t) (i : ∀ σ H Q, t' σ H Q → t σ H Q) : PTs X e t' := ⟨fun pins s σ H Q I q => h.run pins s σ H Q I (i _ _ _ q)⟩
theorem rts_nil : RTs X [] bYes := L2.PTs.imp pts_nil fun σ H Q h => by
  obtain ⟨m, F, O, fr, st, b, st', R, e, q⟩ := h
  cases e
  exact q m O H Grow.refl R
theorem rts_one {c : Expr} {p : PB} (h : RB X c p) : RTs X [c] p := pts_one h
theorem Rel.wiped (R : Rel K m F O σ H fr st) (vs : List Nat) : Rel K m F O (wipe σ vs) H (forgetF vs fr) st where
  toSto := R.toSto
  sl := fun i s e => by
    rw [forget_get] at e
    by_cases h : i ∈ vs
    · rw [if_pos h] at e
      cases hf : fr[i]? with
      | none => rw [hf] at e; cases e
      | some x => rw [hf] at e; cases e; exact trivial
    · rw [if_neg h] at e
      rw [wipe_get, if_neg h]
      exact R.sl i s e
  len := by rw [forget_length, wipe_length]; exact R.len
  sep := fun i j o u a e1 e2 h1 h2 => by
    have key : ∀ (x : Nat) (y : Ob), (forgetF vs fr)[x]? = some (Sl.own y) → x ∉ vs ∧ fr[x]? = some (Sl.own y) := fun x y q => by
      rw [forget_get] at q
      by_cases h : x ∈ vs
      · rw [if_pos h] at q
        cases hf : fr[x]? with
        | none => rw [hf] at q; cases q
        | some z => rw [hf] at q; cases q
      · rw [if_neg h] at q; exact ⟨h, q⟩
    obtain ⟨n1, q1⟩ := key i o e1
    obtain ⟨n2, q2⟩ := key j u e2
    rw [wipe_get, if_neg n1] at h1
    rw [wipe_get, if_neg n2] at h2
    exact R.sep i j o u a q1 q2 h1 h2
theorem Rel.unwiped {vs : List Nat} (R1 : Rel K m1 F O1 σ H1 fr st1) (g : Grow m1 O1 H1 m O H) (R : Rel K m F O (wipe σ vs) H (forgetF vs fr) st) (no : noOwn vs fr = true) : Rel K m F O σ H fr st where
  toSto := R.toSto
  sl := fun i s e => by
    by_cases h : i ∈ vs
    · have z := R1.sl i s e
      have ni := List.all_eq_true.mp no i h
      rw [e] at ni
      cases s with
      | no => exact trivial
      | val w => obtain ⟨v, z1, d⟩ := z; exact ⟨v, z1, Den.grow g R1.mO w v d⟩
      | own o => cases ni
    · have z := R.sl i s (by rw [forget_get, if_neg h]; exact e)
      rw [wipe_get, if_neg h] at z
      exact z
  len := R1.len
  sep := R1.sep
/-- a held new object is changed -/
theorem Rel.putHeld {D : Addr} {u : HO} {xs : List V} (R : Rel K m F O σ H fr st) (fd : F D) (ni : NoImg m D) (hD : H D = some (.lst xs)) :
    GrowF (fun _ => False) m O H m O (upd H D u) ∧ Rel K m F O σ (upd H D u) fr st := by
  have h1 := R.flo D fd
  have nt : ∀ vs, H D ≠ some (.tup vs) := fun vs z => by rw [hD] at z; cases z
  have g : GrowF (fun _ => False) m O H m O (upd H D u) := GrowF.put h1 (fun z => z) nt
  refine ⟨g, ⟨⟨R.mO, R.flo, R.inj, R.dom, fun b z => ?_, fun n b z => ?_⟩, fun j s q => ?_, R.len, R.sep⟩⟩
  · obtain ⟨x, ex⟩ := R.trk b z
    exact g.there b x ex
  · obtain ⟨x, ex, dx⟩ := R.obj n b z
    exact ⟨x, ex, dx.put R.mO h1 nt fun y => ni n (y ▸ z)⟩
  · have z := R.sl j s q
    cases s with
    | no => exact trivial
    | val w => obtain ⟨v, z1, d⟩ := z; exact ⟨v, z1, Den.grow g R.mO w v d⟩
    | own x =>
      obtain ⟨b, z1, k1, k2, k3, dx⟩ := z
      exact ⟨b, z1, k1, k2, k3, dx.put R.mO h1 nt fun y => k2 (y ▸ fd)⟩
theorem dens_snoc {w : W} {v : V} : ∀ {ws : List W} {vs : List V}, Dens K m O H ws vs → Den K m O H w v → Dens K m O H (ws ++ [w]) (vs ++ [v])
  | [], vs, h, d => by
    unfold Dens at h
    subst h
    show Dens K m O H [w] [v]
    unfold Dens
    exact ⟨v, [], rfl, d, by unfold Dens; rfl⟩
  | u :: us, vs, h, d => by
    unfold Dens at h
    obtain ⟨x, r, rfl, d1, d2⟩ := h
    show Dens K m O H (u :: (us ++ [w])) (x :: (r ++ [v]))
    unfold Dens
    exact ⟨x, r ++ [v], rfl, d1, dens_snoc d2 d⟩
def tIe (K : PySem.W.Frag) (Ex : Mp → Op → L2.St → Hp → Frame → Prop) (p : PX) : TE := fun σ H Q => ∃ m F O fr st k w st', Rel K m F O σ H fr st ∧ Ex m O σ H fr ∧ p fr st = .ok (k, w) st' ∧
  ∀ m' O' v H', Grow m O H m' O' H' → Rel K m' F O' σ H' fr st' → RDen K m' F O' σ H' fr k w v → Q v H'
theorem tIe_of {p : PX} {Q : VK} (h : tI K p σ H Q) : tIe K exT p σ H Q := by
  obtain ⟨m, F, O, fr, st, k, w, st', R, e, po⟩ := h
  exact ⟨m, F, O, fr, st, k, w, st', R, trivial, e, po⟩
theorem t_comp {Ex : Mp → Op → L2.St → Hp → Frame → Prop} {qi : PL} {q : PG'} {c : PB} {el : PX} {vs vt : List Nat} {co : Bool} {Q : VK} (hv : ∀ i ∈ vt, i ∈ vs) (h : tIe K Ex (eComp qi q c el vs) σ H Q) : tLc (tIx K Ex co qi) (tG K vt q) (tB K c) (tK K el) vs σ H Q := by
  obtain ⟨m, F, O, fr, st, k, w, st', R, hEx, e, po⟩ := h
  obtain ⟨ws, s1, e1, e⟩ := Res.bind_eq e
  by_cases no : noOwn vs fr = true
  · rw [if_pos no] at e
    obtain ⟨xs, s2, e2, e⟩ := Res.bind_eq e
    cases e
    refine ⟨m, F, O, fr, st, ws, s1, R, hEx, e1, fun m1 O1 J H1 g1 R1 y => ?_⟩
    have y : Yields K allA m1 O1 H1 J ws := by
      cases co with
      | true => exact y.less
      | false => exact y
    intro D hD
    have RW := (R1.wiped vs)
    -- the new list at D is held by the floor
    have R2 := (RW.add (o := .lst []) hD).hold (RW.fresh hD)
    refine ⟨fun i k H2 => k = ws.length - i ∧ i ≤ ws.length ∧ ∃ m2 O2 st2 acc accV, Rel K m2 (fun b => F b ∨ b = D) O2 (wipe σ vs) H2 (forgetF vs fr) st2 ∧ Grow m1 O1 H1 m2 O2 H2 ∧ NoImg m2 D ∧ H2 D = some (.lst accV) ∧ Dens K m2 O2 H2 acc accV ∧ compL q c el (ws.drop i) acc (forgetF vs fr) st2 = .ok xs st',
      ⟨ws.length, by omega, Nat.zero_le _, m1, _, s1, [], [], R2, Grow.add hD, RW.noimg hD, upd_same, by unfold Dens; rfl, e2⟩, fun i k H2 hW => ?_⟩
    obtain ⟨rfl, hi, m2, O2, st2, acc, accV, R3, g3, ni, hD2, da, e3⟩ := hW
    obtain ⟨y1, y2⟩ := y m2 O2 H2 g3 R3.mO i
    by_cases hlt : i < ws.length
    · have hw : ws[i]? = some ws[i] := List.getElem?_eq_getElem hlt
      obtain ⟨go, yl⟩ := y1 _ hw
      rw [List.drop_eq_getElem_cons hlt] at e3
      unfold compL at e3
      cases eq : q ws[i] (forgetF vs fr) with
      | none => rw [eq] at e3; cases e3
      | some fr3 =>
        rw [eq] at e3
        obtain ⟨t, s4, e4, e5⟩ := Res.bind_eq e3
        refine .inr ⟨go, fun H' => ∃ m4 O4 st4 acc accV, Rel K m4 (fun b => F b ∨ b = D) O4 (wipe σ vs) H' (forgetF vs fr) st4 ∧ Grow m1 O1 H1 m4 O4 H' ∧ NoImg m4 D ∧ H' D = some (.lst accV) ∧ Dens K m4 O4 H' acc accV ∧ compL q c el (ws.drop (i + 1)) acc (forgetF vs fr) st4 = .ok xs st',
          fun H' hN => ⟨ws.length - (i + 1), by omega, rfl, hlt, hN⟩, fun x H3 hy => ?_⟩
        obtain ⟨ex, dx⟩ := yl x H3 hy
        have R4 := R3.ext ex
        have g4 : Grow m2 O2 H2 m2 O2 H3 := Grow.ext ex
        refine ⟨m2, (fun b => F b ∨ b = D), O2, forgetF vs fr, st2, ws[i], fr3, R4, dx, eq, fun m5 O5 σ5 H5 g5 R5 w5 => ?_⟩
        obtain ⟨wq, fq⟩ := w5 vs hv
        rw [wipe_wipe] at wq
        rw [forget_forget] at fq
        have g6 : Grow m1 O1 H1 m5 O5 H5 := g3.trans (g4.trans g5)
        have dD : ∀ {m6 : Mp} {O6 : Op} {H6 : Hp}, Grow m2 O2 H2 m6 O6 H6 → NoImg m6 D ∧ H6 D = some (.lst accV) ∧ Dens K m6 O6 H6 acc accV := fun g => ⟨g.noimg ni hD2, g.keep _ _ hD2 (.inr trivial) ni, Dens.grow g R3.mO _ _ da⟩
        refine ⟨wq, m5, (fun b => F b ∨ b = D), O5, fr3, st2, t, s4, R5, e4, fun m6 O6 H6 g7 R6 => ?_⟩
        have back : ∀ {m7 : Mp} {O7 : Op} {H7 : Hp} {st7 : Store}, Rel K m7 (fun b => F b ∨ b = D) O7 σ5 H7 fr3 st7 → Rel K m7 (fun b => F b ∨ b = D) O7 (wipe σ vs) H7 (forgetF vs fr) st7 := fun R7 => by
          have z := R7.wiped vs
          rw [wq, fq] at z
          exact z
        cases t with
        | false =>
          rw [if_neg Bool.false_ne_true] at e5
          obtain ⟨n6, h6, d6⟩ := dD (g4.trans (g5.trans g7))
          exact iteF ⟨m6, O6, s4, acc, accV, back R6, g6.trans g7, n6, h6, d6, e5⟩
        | true =>
          rw [if_pos rfl] at e5
          obtain ⟨⟨k7, x7⟩, s7, e7, e8⟩ := Res.bind_eq e5
          by_cases ok : keepOk k7 x7 = true ∧ acc.length < sizeLine
          · rw [if_pos ok] at e8
            refine iteT ⟨m6, (fun b => F b ∨ b = D), O6, fr3, s4, k7, x7, s7, R6, e7, ok.1, fun m8 O8 v8 H8 g8 R8 d8 => ?_⟩
            obtain ⟨n8, h8, da8⟩ := dD (g4.trans (g5.trans (g7.trans g8)))
            refine ⟨accV, h8, by rw [dens_length da8]; exact ok.2, ?_⟩
            have RB := back R8
            obtain ⟨gp, RP⟩ := RB.putHeld (u := .lst (accV ++ [v8])) (Or.inr rfl) n8 h8
            have g9 : Grow m1 O1 H1 m8 O8 H8 := g6.trans (g7.trans g8)
            refine ⟨m8, O8, s7, acc ++ [x7], accV ++ [v8], RP, ⟨g9.mm, g9.new, fun b o z c n => ?_, fun b z => g9.opn b z, fun b o z => ?_, fun b vs z => gp.tups b vs (g9.tups b vs z)⟩, n8, upd_same, dens_snoc (Dens.grow gp R8.mO _ _ da8) (Den.grow gp R8.mO _ _ d8), e8⟩
            · have nb : b ≠ D := ne_of_none z hD
              rw [upd_ne nb]
              exact g9.keep b o z c n
            · obtain ⟨o', z'⟩ := g9.there b o z
              exact gp.there b o' z'
          · rw [if_neg ok] at e8; cases e8
    · refine .inl ⟨y2 (by omega), ?_⟩
      rw [List.drop_eq_nil_of_le (by omega)] at e3
      cases e3
      have R5 := (R1.unwiped g3 (R3.unhold fun b z => Or.inl z) no)
      exact po m2 O2 (.ref D) H2 (g1.trans g3) R5 ⟨D, .lst xs, rfl, rfl, ⟨R3.flo D (.inr rfl), fun z => R1.new hD (R1.flo D z), ni, fun i o z1 z2 => by
        obtain ⟨b, q1, q2, q3, _⟩ := R1.sl i _ z1
        rw [z2] at q1
        cases q1
        exact R1.new hD q2⟩, accV, hD2, da⟩
  · rw [if_neg no] at e; cases e
theorem re_comp {elt tg iter : Expr} {ifs : List Expr} {scope : Scope} {own : List (Str × Nat)} {qi : PL} {q : PG'} {c : PB} {el : PX} {vs vt : List Nat} {co : Bool} (hc : X.calm = true) (hN : X.N.Nodup) (hi : RI X tg iter co qi) (ok : BlkOk X.N X.env.scope scope own) (hvs : own.map (·.2) = vs) (hv : ∀ i ∈ vt, i ∈ vs)
    (hg : ∀ (s : Shared) (H : Hp) (C : Addr) (cl : List (Str × Addr)) (fp : List Addr), RG (X.blk s H scope (compEnvC scope cl C X.env) fp) tg vt q)
    (ht : ∀ (s : Shared) (H : Hp) (C : Addr) (cl : List (Str × Addr)) (fp : List Addr), RTs (X.blk s H scope (compEnvC scope cl C X.env) fp) ifs c)
    (he : ∀ (s : Shared) (H : Hp) (C : Addr) (cl : List (Str × Addr)) (fp : List Addr), RE (X.blk s H scope (compEnvC scope cl C X.env) fp) elt el) (hs : ∀ x, foldedSetIterable iter X.env x = pure x := by intro _; rfl) :
    RE X (.ListComp elt [⟨tg, iter, ifs, 0⟩] scope pos) (eComp qi q c el vs) :=
  (pe_lc hc hN hi ok hg ht (fun s H C cl fp => (he s H C cl fp).kept) hs).imp fun σ H Q h => by rw [hvs]; exact t_comp hv (tIe_of h)
theorem rs_setComp {i : Nat} {y : Str} {py spos : Pos} {elt tg iter : Expr} {ifs : List Expr} {scope : Scope} {own : List (Str × Nat)} {qi : PL} {q : PG'} {c : PB} {el : PX} {vs vt : List Nat} {co : Bool} (hc : X.calm = true) (hN : X.N.Nodup) (hy : X.N[i]? = some y) (hyl : X.env.scope.names.lookup y = some .local)
    (hsw : swapsWith (.ListComp elt [⟨tg, iter, ifs, 0⟩] scope pos) (some (.Name y py)) spos.line X.env = pure true) (hi : RI X tg iter co qi) (ok : BlkOk X.N X.env.scope scope own) (hvs : own.map (·.2) = vs) (hv : ∀ i ∈ vt, i ∈ vs)
    (hg : ∀ (s : Shared) (H : Hp) (C : Addr) (cl : List (Str × Addr)) (fp : List Addr), RG (X.blk s H scope (compEnvC scope cl C X.env) fp) tg vt q)
    (ht : ∀ (s : Shared) (H : Hp) (C : Addr) (cl : List (Str × Addr)) (fp : List Addr), RTs (X.blk s H scope (compEnvC scope cl C X.env) fp) ifs c)
    (he : ∀ (s : Shared) (H : Hp) (C : Addr) (cl : List (Str × Addr)) (fp : List Addr), RE (X.blk s H scope (compEnvC scope cl C X.env) fp) elt el) (hs : ∀ x, foldedSetIterable iter X.env x = pure x := by intro _; rfl) :
    RS X (.Assign [.Name y py] (.ListComp elt [⟨tg, iter, ifs, 0⟩] scope pos) spos) (sSet i (eComp qi q c el vs)) :=
  rs_setG ((ps_setLc hc hN hy hyl hsw hi ok hg ht (fun s H C cl fp => (he s H C cl fp).kept) hs).imp fun D σ H h => by
    rw [hvs]
    exact t_comp (Q := fun x H1 => gName i x σ H1 D.nx) hv (tIe_of h))
end
end Vy

set_option Elab.async false
set_option linter.all false
set_option maxRecDepth 100000
set_option maxHeartbeats 4000000
/-! Operations on values. -/
namespace Vy
open PySem PySem.Spec PyProof.Rows L2

section
variable {K : PySem.W.Frag} {X : Cx} {m m' m1 : Mp} {F O O' O1 : Op} {H H' H1 : Hp} {σ : L2.St} {fr : Frame} {st st1 : Store} {pos : Pos}

abbrev okS (w : W) (st : Store) : Res (Kd × W) := .ok (.st, w) st
theorem mk_int {i : Int} : RDen K m F O σ H fr .st (.int i) (.int i) := by show Den _ _ _ _ _ _; unfold Den; rfl
theorem mk_bl {i : Bool} : RDen K m F O σ H fr .st (.bl i) (.bl i) := by show Den _ _ _ _ _ _; unfold Den; rfl
theorem mk_str {i : Str} : RDen K m F O σ H fr .st (.str i) (.str i) := by show Den _ _ _ _ _ _; unfold Den; rfl
theorem mk_non : RDen K m F O σ H fr .st .non .non := by show Den _ _ _ _ _ _; unfold Den; rfl
theorem lden_tup {ws : List W} {v : V} (h : LDen K m O H (.tup ws) v) : ∃ a vs, v = .ref a ∧ H a = some (.tup vs) ∧ Dens K m O H ws vs := by
  have h : Den K m O H (.tup ws) v := h
  unfold Den at h
  exact h
theorem lden_lst {ws : List W} {v : V} (h : LDen K m O H (.lst ws) v) : ∃ a vs, v = .ref a ∧ NoImg m a ∧ H a = some (.lst vs) ∧ Dens K m O H ws vs := by
  obtain ⟨a, e, n, vs, q, d⟩ := h
  exact ⟨a, vs, e, n, q, d⟩
theorem dens_append : ∀ {ws us : List W} {vs xs : List V}, Dens K m O H ws vs → Dens K m O H us xs → Dens K m O H (ws ++ us) (vs ++ xs)
  | [], _, _, _, h, d => by unfold Dens at h; subst h; exact d
  | w :: ws, us, vs, xs, h, d => by
    unfold Dens at h
    obtain ⟨v, r, rfl, d1, d2⟩ := h
    show Dens K m O H (w :: (ws ++ us)) (v :: (r ++ xs))
    unfold Dens
    exact ⟨v, r ++ xs, rfl, d1, dens_append d2 d⟩
theorem dens_drop : ∀ {ws : List W} {vs : List V} (n : Nat), Dens K m O H ws vs → Dens K m O H (ws.drop n) (vs.drop n)
  | ws, vs, 0, h => by simpa using h
  | [], vs, n + 1, h => by unfold Dens at h; subst h; show Dens K m O H [] []; unfold Dens; rfl
  | w :: ws, vs, n + 1, h => by
    unfold Dens at h
    obtain ⟨v, r, rfl, _, d⟩ := h
    exact dens_drop n d
theorem dens_take : ∀ {ws : List W} {vs : List V} (n : Nat), Dens K m O H ws vs → Dens K m O H (ws.take n) (vs.take n)
  | ws, vs, 0, h => by show Dens K m O H [] []; unfold Dens; rfl
  | [], vs, n + 1, h => by unfold Dens at h; subst h; show Dens K m O H [] []; unfold Dens; rfl
  | w :: ws, vs, n + 1, h => by
    unfold Dens at h
    obtain ⟨v, r, rfl, e, d⟩ := h
    show Dens K m O H (w :: ws.take n) (v :: r.take n)
    unfold Dens
    exact ⟨v, _, rfl, e, dens_take n d⟩
theorem dens_rev {ws : List W} {vs : List V} (h : Dens K m O H ws vs) : Dens K m O H ws.reverse vs.reverse := by
  induction ws generalizing vs with
  | nil => unfold Dens at h; subst h; show Dens K m O H [] []; unfold Dens; rfl
  | cons w ws ih =>
    unfold Dens at h
    obtain ⟨v, r, rfl, d, ds⟩ := h
    rw [List.reverse_cons, List.reverse_cons]
    exact dens_snoc (ih ds) d
theorem dens_rep {ws : List W} {vs : List V} (h : Dens K m O H ws vs) : ∀ n : Nat, Dens K m O H (List.replicate n ws).flatten (List.replicate n vs).flatten
  | 0 => by show Dens K m O H [] []; unfold Dens; rfl
  | n + 1 => by
    rw [List.replicate_succ, List.replicate_succ, List.flatten_cons, List.flatten_cons]
    exact dens_append h (dens_rep h n)
theorem dens_at {ws : List W} {vs : List V} {i : Int} {w : W} (h : Dens K m O H ws vs) (e : atI ws i = some w) : ∃ v, atI vs i = some v ∧ Den K m O H w v := by
  unfold atI at e ⊢
  rw [dens_length h]
  cases hx : ixN ws.length i with
  | none => rw [hx] at e; cases e
  | some j =>
    rw [hx] at e
    exact dens_get h e
theorem dens_set : ∀ {ws : List W} {vs : List V} {w : W} {v : V} (n : Nat), Dens K m O H ws vs → Den K m O H w v → Dens K m O H (ws.set n w) (vs.set n v)
  | [], vs, w, v, n, h, d => by unfold Dens at h; subst h; show Dens K m O H [] []; unfold Dens; rfl
  | u :: ws, vs, w, v, 0, h, d => by
    unfold Dens at h
    obtain ⟨x, r, rfl, _, ds⟩ := h
    show Dens K m O H (w :: ws) (v :: r)
    unfold Dens
    exact ⟨v, r, rfl, d, ds⟩
  | u :: ws, vs, w, v, n + 1, h, d => by
    unfold Dens at h
    obtain ⟨x, r, rfl, d1, ds⟩ := h
    show Dens K m O H (u :: ws.set n w) (x :: r.set n v)
    unfold Dens
    exact ⟨x, _, rfl, d1, dens_set n ds d⟩

/-- under a condition -/
def grd {α : Type} (c : Prop) [Decidable c] (x : Res α) : Res α := if c then x else .bad
theorem grd_ok {α : Type} {c : Prop} [Decidable c] {x : Res α} {a : α} {st : Store} (h : grd c x = .ok a st) : c ∧ x = .ok a st := by
  unfold grd at h
  by_cases hc : c
  · rw [if_pos hc] at h; exact ⟨hc, h⟩
  · rw [if_neg hc] at h; cases h
@[simp] theorem grd_pos {α : Type} {c : Prop} [Decidable c] {x : Res α} (h : c) : grd c x = x := if_pos h

/-! ### + - * // % ** -/
def fAdd : W → W → Store → Res (Kd × W)
  | .int i, .int j, st => okS (.int (i + j)) st
  | .str x, .str y, st => grd (x.length + y.length ≤ sizeLine) (okS (.str (x ++ y)) st)
  | .lst xs, .lst ys, st => grd (xs.length + ys.length ≤ sizeLine) (.ok (.fr, .lst (xs ++ ys)) st)
  | .tup xs, .tup ys, st => grd (xs.length + ys.length ≤ sizeLine) (okS (.tup (xs ++ ys)) st)
  | _, _, _ => .bad
theorem rden_tup {ws : List W} {vs : List V} {a : Addr} (h : H a = some (.tup vs)) (d : Dens K m O H ws vs) : RDen K m F O σ H fr .st (.tup ws) (.ref a) := by
  show Den _ _ _ _ _ _
  unfold Den
  exact ⟨a, vs, rfl, h, d⟩
theorem dens_nil {ws : List W} (d : Dens K m O H ws []) : ws = [] := List.length_eq_zero_iff.mp (dens_length d).symm
theorem oi_add : OpI X (binaryOp .Add) fAdd := by
  intro pins s σ H x y v u Q I rx ry h
  obtain ⟨m, F, O, σ', fr, st, k, w, st', a, b, R, da, db, e, q⟩ := h
  cases a with
  | int i =>
    cases b with
    | int j => cases e; exact op_add pins s σ H x y v u Q I rx ry ⟨i, j, den_int da, den_int db, q m O _ H Grow.refl R mk_int⟩
    | _ => cases e
  | str i =>
    cases b with
    | str j =>
      obtain ⟨hz, e⟩ := grd_ok e
      cases e
      exact op_add_str pins s σ H x y v u Q I rx ry ⟨i, j, den_str da, den_str db, hz, q m O _ H Grow.refl R mk_str⟩
    | _ => cases e
  | lst xs =>
    cases b with
    | lst ys =>
      obtain ⟨hz, e⟩ := grd_ok e
      cases e
      obtain ⟨a, vs, ex, n1, h1, d1⟩ := lden_lst da
      obtain ⟨b, us, ey, n2, h2, d2⟩ := lden_lst db
      refine op_cat pins s σ H x y v u Q I rx ry ⟨a, b, vs, us, ex, ey, h1, h2, by rw [dens_length d1, dens_length d2]; exact hz, fun p hp => ?_⟩
      obtain ⟨g2, R2, d3⟩ := new_lst R (dens_append d1 d2) hp
      exact q m _ _ _ g2 R2 d3
    | _ => cases e
  | tup xs =>
    cases b with
    | tup ys =>
      obtain ⟨hz, e⟩ := grd_ok e
      cases e
      obtain ⟨a, vs, ex, h1, d1⟩ := lden_tup da
      obtain ⟨b, us, ey, h2, d2⟩ := lden_tup db
      refine op_catA pins s σ H x y v u Q I rx ry ⟨a, b, vs, us, ex, ey, SqT.of h1, SqT.of h2, by rw [dens_length d1, dens_length d2]; exact hz, fun h0 => ?_, fun _ h0 => ?_, fun h3 h4 p hp => ?_⟩
      · subst h0
        obtain rfl := dens_nil d1
        exact q m O _ H Grow.refl R (rden_tup h2 d2)
      · subst h0
        obtain rfl := dens_nil d2
        exact q m O _ H Grow.refl R (rden_tup h1 (by rw [List.append_nil]; exact d1))
      · obtain ⟨g2, R2, d3⟩ := new_tup R (dens_append d1 d2) hp
        exact q m _ _ _ g2 R2 d3
    | _ => cases e
  | _ => cases e
def fSub : W → W → Store → Res (Kd × W)
  | .int i, .int j, st => okS (.int (i - j)) st
  | _, _, _ => .bad
theorem oi_sub : OpI X (binaryOp .Sub) fSub := by
  intro pins s σ H x y v u Q I rx ry h
  obtain ⟨m, F, O, σ', fr, st, k, w, st', a, b, R, da, db, e, q⟩ := h
  cases a with
  | int i =>
    cases b with
    | int j => cases e; exact op_sub pins s σ H x y v u Q I rx ry ⟨i, j, den_int da, den_int db, q m O _ H Grow.refl R mk_int⟩
    | _ => cases e
  | _ => cases e
/-- the size of a product -/
def mulOk (i j : Int) : Prop := i.natAbs.log2 + j.natAbs.log2 < 1000000 ∨ (-(2 ^ 64) < i ∧ i < 2 ^ 64) ∨ (-(2 ^ 64) < j ∧ j < 2 ^ 64)
instance (i j : Int) : Decidable (mulOk i j) := by unfold mulOk; infer_instance
theorem mulOk_fits {i j : Int} (h : mulOk i j) : IntMulOk i j := by
  rcases h with h | h
  · exact CMulW.ok h
  · exact CMul.ok h
theorem op_mulA : OpR X (binaryOp .Mult) (rI mulOk fun i j => .int (i * j)) := opI fun _ _ _ _ _ _ _ hc q => mul_int q (mulOk_fits hc)
theorem tuple_mul1 (lt : Addr) (its : Array Value) (n : Nat) (dd : Option Addr) (sl : Array (Option Value)) (u : Tok) :
    Meets (Builtin.«tuple.__mul__» ⟨[.ref lt, .int 1 u], []⟩) (fun _ R s => s.heap.get? lt = some { cls := .type "tuple", dict := dd, data := .seq its n, slots := sl } ∧ R (.ok (.ret (Value.ref lt))) s) :=
  .of_wp fun prog w A R s hq => by
    obtain ⟨hp, gg, dr, tk, oo⟩ := s
    obtain ⟨hlk, hq⟩ := hq
    have fi := AutoSeq1.idx_int
    wp_walk using wpAny_loadPart' hlk
    exact ⟨_, rfl, hq⟩
theorem op_rep1 : OpR X (binaryOp .Mult) fun x y H Q => ∃ l xs, x = .ref l ∧ y = .int 1 ∧ SqT X.K H l xs ∧ Q (.ref l) H := by
  intro pins s σ H x y v u Q I rx ry h
  obtain ⟨l, xs, rfl, rfl, hT, q⟩ := h
  cases rx
  obtain ⟨t, rfl⟩ := ry
  obtain ⟨its, r, ⟨⟨cls, dd, data, sl⟩, ho, hc, n, hd⟩, hs⟩ := I.tuple hT
  simp only at hc hd
  subst hc hd
  exact wpAny_binaryOp_repeat_ref (T := "tuple") (U := "int") (by decide) ⟨_, ho, rfl⟩ (fun s' => typeIs_int s' 1 t) noFill_tuple_mul F.fills_int_mul F.slot_int_rmul repeat_tuple F.slot_int_index.lookup
    (call_meets F.slot_int_rmul (typeIs_int s 1 t) F.entry_int_rmul (F.args_int_rmul_2 _ _) (int_rmul_tuple 1 t l its.toArray n dd sl)
      ⟨ho, rfl, ⟨_, ho, rfl⟩, call_meets F.slot_tuple_mul ⟨_, ho, rfl⟩ F.entry_tuple_mul (F.args_tuple_mul_2 _ _) (tuple_mul1 l its.toArray n dd sl t) ⟨ho, ⟨.ref l, H, I, rfl, q⟩⟩⟩)
def fMul : W → W → Store → Res (Kd × W)
  | .int i, .int j, st => grd (mulOk i j) (okS (.int (i * j)) st)
  | .lst xs, .int j, st => grd (-(2 ^ 63) ≤ j ∧ j < 2 ^ 63 ∧ xs.length * j.toNat ≤ sizeLine) (.ok (.fr, .lst (List.replicate j.toNat xs).flatten) st)
  | .tup xs, .int j, st => grd (xs ≠ [] ∧ 1 ≤ j ∧ j ≤ 1000 ∧ xs.length ≤ 1000) (okS (.tup (List.replicate j.toNat xs).flatten) st)
  | _, _, _ => .bad
theorem oi_mul : OpI X (binaryOp .Mult) fMul := by
  intro pins s σ H x y v u Q I rx ry h
  obtain ⟨m, F, O, σ', fr, st, k, w, st', a, b, R, da, db, e, q⟩ := h
  cases a with
  | int i =>
    cases b with
    | int j =>
      obtain ⟨hz, e⟩ := grd_ok e
      cases e
      exact op_mulA pins s σ H x y v u Q I rx ry ⟨i, j, den_int da, den_int db, hz, q m O _ H Grow.refl R mk_int⟩
    | _ => cases e
  | lst xs =>
    cases b with
    | int j =>
      obtain ⟨⟨z1, z2, z3⟩, e⟩ := grd_ok e
      cases e
      obtain ⟨a, vs, ex, n1, h1, d1⟩ := lden_lst da
      refine op_rep pins s σ H x y v u Q I rx ry ⟨a, j, vs, ex, den_int db, h1, z1, z2, by rw [dens_length d1]; exact z3, fun p hp => ?_⟩
      obtain ⟨g2, R2, d3⟩ := new_lst R (dens_rep d1 j.toNat) hp
      exact q m _ _ _ g2 R2 d3
    | _ => cases e
  | tup xs =>
    cases b with
    | int j =>
      obtain ⟨⟨z1, z2, z3, z4⟩, e⟩ := grd_ok e
      cases e
      obtain ⟨a, vs, ex, h1, d1⟩ := lden_tup da
      by_cases hj : j = 1
      · subst hj
        exact op_rep1 pins s σ H x y v u Q I rx ry ⟨a, vs, ex, den_int db, SqT.of h1, q m O _ H Grow.refl R (rden_tup h1 (by simpa using d1))⟩
      · have hv : vs ≠ [] := fun z => z1 (by subst z; exact dens_nil d1)
        refine op_repT pins s σ H x y v u Q I rx ry ⟨a, j, vs, ex, den_int db, SqT.of h1, hv, by omega, z3, by rw [dens_length d1]; exact z4, fun p hp => ?_⟩
        obtain ⟨g2, R2, d3⟩ := new_tup R (dens_rep d1 j.toNat) hp
        exact q m _ _ _ g2 R2 d3
    | _ => cases e
  | _ => cases e
def divOk (i j : Int) : Prop := j ≠ 0 ∧ Builtin.divisionGoesByPylong i j = false
instance (i j : Int) : Decidable (divOk i j) := by unfold divOk; infer_instance
theorem op_fdivA : OpR X (binaryOp .FloorDiv) (rI divOk fun i j => .int (i.fdiv j)) := opI fun _ _ _ _ _ _ _ hc q => floordiv_int hc.1 q (.inl hc.2)
def fDiv : W → W → Store → Res (Kd × W)
  | .int i, .int j, st => grd (divOk i j) (okS (.int (i.fdiv j)) st)
  | _, _, _ => .bad
theorem oi_div : OpI X (binaryOp .FloorDiv) fDiv := by
  intro pins s σ H x y v u Q I rx ry h
  obtain ⟨m, F, O, σ', fr, st, k, w, st', a, b, R, da, db, e, q⟩ := h
  cases a with
  | int i =>
    cases b with
    | int j =>
      obtain ⟨hz, e⟩ := grd_ok e
      cases e
      exact op_fdivA pins s σ H x y v u Q I rx ry ⟨i, j, den_int da, den_int db, hz, q m O _ H Grow.refl R mk_int⟩
    | _ => cases e
  | _ => cases e
def fMod : W → W → Store → Res (Kd × W)
  | .int i, .int j, st => grd (j ≠ 0) (okS (.int (i.fmod j)) st)
  | _, _, _ => .bad
theorem oi_mod : OpI X (binaryOp .Mod) fMod := by
  intro pins s σ H x y v u Q I rx ry h
  obtain ⟨m, F, O, σ', fr, st, k, w, st', a, b, R, da, db, e, q⟩ := h
  cases a with
  | int i =>
    cases b with
    | int j =>
      obtain ⟨hz, e⟩ := grd_ok e
      cases e
      exact op_modN pins s σ H x y v u Q I rx ry ⟨i, j, den_int da, den_int db, hz, q m O _ H Grow.refl R mk_int⟩
    | _ => cases e
  | _ => cases e
def fPow : W → W → Store → Res (Kd × W)
  | .int i, .int j, st => grd (0 ≤ j ∧ j ≤ 1000000 ∧ i.natAbs < 2 ^ 64) (okS (.int (i ^ j.toNat)) st)
  | _, _, _ => .bad
theorem oi_pow : OpI X (binaryOp .Pow) fPow := by
  intro pins s σ H x y v u Q I rx ry h
  obtain ⟨m, F, O, σ', fr, st, k, w, st', a, b, R, da, db, e, q⟩ := h
  cases a with
  | int i =>
    cases b with
    | int j =>
      obtain ⟨hz, e⟩ := grd_ok e
      cases e
      exact op_pow pins s σ H x y v u Q I rx ry ⟨i, j, den_int da, den_int db, hz, q m O _ H Grow.refl R mk_int⟩
    | _ => cases e
  | _ => cases e
/-- -x -/
def eNeg (p : PX) : PX := fun fr st => (p fr st).bind fun x s1 => match x.2 with
  | .int i => okS (.int (-i)) s1
  | _ => .bad
theorem re_neg {e : Expr} {p : PX} (h : RE X e p) : RE X (.UnaryOp .USub e pos) (eNeg p) := (pe_un un_neg h.look).imp fun σ H Q q => by
  obtain ⟨m, F, O, fr, st, k, w, st', R, e, q⟩ := q
  obtain ⟨⟨k1, x⟩, s1, e1, e⟩ := Res.bind_eq e
  cases x <;> first
    | (cases e
       exact ⟨m, F, O, fr, st, k1, _, st', R, e1, fun m1 O1 v H1 g1 R1 d1 => ⟨_, den_int d1, q m1 O1 _ H1 g1 R1 mk_int⟩⟩)
    | cases e

/-! ### comparisons -/
def fCmp (p : Int → Int → Bool) : W → W → Store → Res (Kd × W)
  | .int i, .int j, st => okS (.bl (p i j)) st
  | _, _, _ => .bad
theorem oi_cmp {op : CmpOp} {p : Int → Int → Bool} (ho : OpR X (compareOp op) (rI0 fun i j => .bl (p i j))) : OpI X (compareOp op) (fCmp p) := by
  intro pins s σ H x y v u Q I rx ry h
  obtain ⟨m, F, O, σ', fr, st, k, w, st', a, b, R, da, db, e, q⟩ := h
  cases a with
  | int i =>
    cases b with
    | int j => cases e; exact ho pins s σ H x y v u Q I rx ry ⟨i, j, den_int da, den_int db, q m O _ H Grow.refl R mk_bl⟩
    | _ => cases e
  | _ => cases e
abbrev fLt := fCmp fun i j => decide (i < j)
abbrev fLe := fCmp fun i j => decide (i ≤ j)
abbrev fGt := fCmp fun i j => decide (j < i)
abbrev fGe := fCmp fun i j => decide (j ≤ i)
theorem oi_lt : OpI X (compareOp .Lt) fLt := oi_cmp op_lt
theorem oi_le : OpI X (compareOp .LtE) fLe := oi_cmp op_le
theorem oi_gt : OpI X (compareOp .Gt) fGt := oi_cmp op_gt
theorem oi_ge : OpI X (compareOp .GtE) fGe := oi_cmp op_ge
/-- is None -/
def W.isNon : W → Bool
  | .non => true
  | _ => false
theorem lden_isNon {a : W} {x : V} (h : LDen K m O H a x) : decide (x = .non) = a.isNon := by
  cases a with
  | non => rw [den_non h]; rfl
  | bl b => rw [den_bl h]; rfl
  | int i => rw [den_int h]; rfl
  | str i => rw [den_str h]; rfl
  | tup ws => obtain ⟨a, vs, rfl, _⟩ := lden_tup h; rfl
  | lst ws => obtain ⟨a, vs, rfl, _⟩ := lden_lst h; rfl
  | dct ks ws => obtain ⟨a, rfl, _⟩ := h; rfl
  | ref n =>
    have h : Den K m O H (.ref n) x := h
    unfold Den at h
    obtain ⟨a, _, rfl⟩ := h
    rfl
  | scr ns =>
    have h : Den K m O H (.scr ns) x := h
    unfold Den at h
    obtain ⟨a, rfl, _⟩ := h
    rfl
def fIsN : W → W → Store → Res (Kd × W)
  | a, .non, st => okS (.bl a.isNon) st
  | _, _, _ => .bad
def fNotN : W → W → Store → Res (Kd × W)
  | a, .non, st => okS (.bl (!a.isNon)) st
  | _, _, _ => .bad
theorem oi_isN : OpI X (compareOp .Is) fIsN := by
  intro pins s σ H x y v u Q I rx ry h
  obtain ⟨m, F, O, σ', fr, st, k, w, st', a, b, R, da, db, e, q⟩ := h
  cases b with
  | non => cases e; exact op_isN pins s σ H x y v u Q I rx ry ⟨den_non db, by rw [lden_isNon da]; exact q m O _ H Grow.refl R mk_bl⟩
  | _ => cases e
theorem oi_notN : OpI X (compareOp .IsNot) fNotN := by
  intro pins s σ H x y v u Q I rx ry h
  obtain ⟨m, F, O, σ', fr, st, k, w, st', a, b, R, da, db, e, q⟩ := h
  cases b with
  | non => cases e; exact op_notN pins s σ H x y v u Q I rx ry ⟨den_non db, by rw [lden_isNon da]; exact q m O _ H Grow.refl R mk_bl⟩
  | _ => cases e

/-! ### data -/
mutual
def W.toD : W → PyData
  | .non => .none | .bl b => .bool b | .int i => .int i | .str x => .str x
  | .tup ws => .tuple (toDs ws)
  | .lst ws => .list (toDs ws)
  | _ => .dict []
def toDs : List W → List PyData
  | [] => []
  | w :: ws => w.toD :: toDs ws
end
mutual
def W.isD : W → Bool
  | .non => true | .bl _ => true | .int _ => true | .str _ => true
  | .tup ws => isDs ws
  | .lst ws => isDs ws
  | _ => false
def isDs : List W → Bool
  | [] => true
  | w :: ws => w.isD && isDs ws
end
theorem toDs_map : ∀ ws : List W, toDs ws = ws.map W.toD
  | [] => rfl
  | w :: ws => by rw [toDs, toDs_map ws]; rfl
mutual
theorem dp_of : ∀ (w : W) (v : V), Den K m O H w v → w.isD = true → Dp K H v w.toD
  | .non, v, h, _ => by unfold Den at h; subst h; exact .non
  | .bl b, v, h, _ => by unfold Den at h; subst h; exact .bl b
  | .int b, v, h, _ => by unfold Den at h; subst h; exact .int b
  | .str b, v, h, _ => by unfold Den at h; subst h; exact .str b
  | .tup ws, v, h, e => by
    unfold Den at h
    obtain ⟨a, vs, rfl, q, d⟩ := h
    rw [W.toD]
    exact .tup (SqT.of q) (dps_of ws vs d (by rw [W.isD] at e; exact e))
  | .lst ws, v, h, e => by
    unfold Den at h
    obtain ⟨a, vs, rfl, _, q, d⟩ := h
    rw [W.toD]
    exact .lst (SqL.of q) (dps_of ws vs d (by rw [W.isD] at e; exact e))
  | .dct _ _, _, _, e => by simp [W.isD] at e
  | .ref _, _, _, e => by simp [W.isD] at e
  | .scr _, _, _, e => by simp [W.isD] at e
theorem dps_of : ∀ (ws : List W) (vs : List V), Dens K m O H ws vs → isDs ws = true → DpAll K H vs (toDs ws)
  | [], vs, h, _ => by unfold Dens at h; subst h; rw [toDs]; exact .nil
  | w :: ws, vs, h, e => by
    unfold Dens at h
    obtain ⟨v, r, rfl, d, ds⟩ := h
    rw [isDs, Bool.and_eq_true] at e
    rw [toDs]
    exact .cons (dp_of w v d e.1) (dps_of ws r ds e.2)
end
theorem ldp_of {w : W} {v : V} (h : LDen K m O H w v) (e : w.isD = true) : Dp K H v w.toD := by
  cases w with
  | lst ws =>
    obtain ⟨a, vs, rfl, _, q, d⟩ := lden_lst h
    rw [W.toD]
    exact .lst (SqL.of q) (dps_of ws vs d (by rw [W.isD] at e; exact e))
  | dct _ _ => simp [W.isD] at e
  | _ => exact dp_of (m := m) (O := O) _ v h e
/-- a scalar -/
def wV : W → Option V
  | .non => some .non
  | .bl b => some (.bl b)
  | .int i => some (.int i)
  | .str x => some (.str x)
  | _ => none
theorem wV_eq {w : W} {v x : V} (h : LDen K m O H w v) (e : wV w = some x) : v = x := by
  cases w with
  | non => cases e; exact den_non h
  | bl b => cases e; exact den_bl h
  | int b => cases e; exact den_int h
  | str b => cases e; exact den_str h
  | _ => cases e
/-- == : scalars as HandS's scal tells them apart, else data -/
def wEq (a b : W) : Option Bool := match wV a, wV b with
  | some x, some y => if scal x y = true then some (decide (x = y)) else some (PyData.eqv a.toD b.toD)
  | _, _ => if a.isD = true ∧ b.isD = true ∧ SeqAt.shaped a.toD = true ∧ SeqAt.shaped b.toD = true then some (PyData.eqv a.toD b.toD) else none
def fEq (a b : W) (st : Store) : Res (Kd × W) := match wEq a b with
  | some c => okS (.bl c) st
  | none => .bad
def fNe (a b : W) (st : Store) : Res (Kd × W) := match wEq a b with
  | some c => okS (.bl (!c)) st
  | none => .bad
theorem scal_or {x y : V} (hx : x = .non ∨ (∃ b, x = .bl b) ∨ (∃ i, x = .int i) ∨ ∃ z, x = .str z) (hy : y = .non ∨ (∃ b, y = .bl b) ∨ (∃ i, y = .int i) ∨ ∃ z, y = .str z) (h : ¬ scal x y = true) :
    (∃ b i, x = .bl b ∧ y = .int i) ∨ ∃ b i, x = .int i ∧ y = .bl b := by
  rcases hx with rfl | ⟨b, rfl⟩ | ⟨i, rfl⟩ | ⟨z, rfl⟩ <;> rcases hy with rfl | ⟨c, rfl⟩ | ⟨j, rfl⟩ | ⟨y, rfl⟩ <;> first
    | exact absurd rfl h
    | exact .inl ⟨_, _, rfl, rfl⟩
    | exact .inr ⟨_, _, rfl, rfl⟩
theorem wV_or {w : W} {x : V} (e : wV w = some x) : x = .non ∨ (∃ b, x = .bl b) ∨ (∃ i, x = .int i) ∨ ∃ z, x = .str z := by
  cases w with
  | non => cases e; exact .inl rfl
  | bl b => cases e; exact .inr (.inl ⟨_, rfl⟩)
  | int b => cases e; exact .inr (.inr (.inl ⟨_, rfl⟩))
  | str b => cases e; exact .inr (.inr (.inr ⟨_, rfl⟩))
  | _ => cases e
theorem wV_isD {w : W} {x : V} (e : wV w = some x) : w.isD = true := by
  cases w <;> first
    | (cases e; rfl)
    | cases e
/-- what == asks, what it gives -/
theorem wEq_way {a b : W} {x y : V} {c : Bool} (da : LDen K m O H a x) (db : LDen K m O H b y) (e : wEq a b = some c) :
    (scal x y = true ∧ c = decide (x = y)) ∨ ∃ d1 d2, Dp K H x d1 ∧ Dp K H y d2 ∧ SeqAt.shaped d1 = true ∧ SeqAt.shaped d2 = true ∧ c = PyData.eqv d1 d2 := by
  unfold wEq at e
  cases ha : wV a with
  | none =>
    simp only [ha] at e
    split at e
    · rename_i h
      cases e
      exact .inr ⟨_, _, ldp_of da h.1, ldp_of db h.2.1, h.2.2.1, h.2.2.2, rfl⟩
    · cases e
  | some v1 =>
    cases hb : wV b with
    | none =>
      simp only [ha, hb] at e
      split at e
      · rename_i h
        cases e
        exact .inr ⟨_, _, ldp_of da h.1, ldp_of db h.2.1, h.2.2.1, h.2.2.2, rfl⟩
      · cases e
    | some v2 =>
      simp only [ha, hb] at e
      obtain rfl := wV_eq da ha
      obtain rfl := wV_eq db hb
      by_cases h : scal x y = true
      · rw [if_pos h] at e
        cases e
        exact .inl ⟨h, rfl⟩
      · rw [if_neg h] at e
        cases e
        refine .inr ⟨_, _, ldp_of da (wV_isD ha), ldp_of db (wV_isD hb), ?_, ?_, rfl⟩
        · rcases scal_or (wV_or ha) (wV_or hb) h with ⟨p, i, rfl, rfl⟩ | ⟨p, i, rfl, rfl⟩
          · cases a <;> cases ha; rfl
          · cases a <;> cases ha; rfl
        · rcases scal_or (wV_or ha) (wV_or hb) h with ⟨p, i, rfl, rfl⟩ | ⟨p, i, rfl, rfl⟩
          · cases b <;> cases hb; rfl
          · cases b <;> cases hb; rfl
theorem oi_eq (hu : X.A.units + 64 < cLine) : OpI X (compareOp .Eq) fEq := by
  intro pins s σ H x y v u Q I rx ry h
  obtain ⟨m, F, O, σ', fr, st, k, w, st', a, b, R, da, db, e, q⟩ := h
  unfold fEq at e
  cases hw : wEq a b with
  | none => rw [hw] at e; cases e
  | some c =>
    rw [hw] at e
    cases e
    rcases wEq_way da db hw with ⟨h, rfl⟩ | ⟨d1, d2, p1, p2, s1, s2, rfl⟩
    · exact op_eq pins s σ H x y v u Q I rx ry ⟨h, q m O _ H Grow.refl R mk_bl⟩
    · exact op_eqD hu pins s σ H x y v u Q I rx ry ⟨d1, d2, p1, p2, s1, s2, q m O _ H Grow.refl R mk_bl⟩
theorem oi_ne (hu : X.A.units + 64 < cLine) : OpI X (compareOp .NotEq) fNe := by
  intro pins s σ H x y v u Q I rx ry h
  obtain ⟨m, F, O, σ', fr, st, k, w, st', a, b, R, da, db, e, q⟩ := h
  unfold fNe at e
  cases hw : wEq a b with
  | none => rw [hw] at e; cases e
  | some c =>
    rw [hw] at e
    cases e
    rcases wEq_way da db hw with ⟨h, rfl⟩ | ⟨d1, d2, p1, p2, s1, s2, rfl⟩
    · exact op_ne pins s σ H x y v u Q I rx ry ⟨h, q m O _ H Grow.refl R mk_bl⟩
    · exact op_neD hu pins s σ H x y v u Q I rx ry ⟨d1, d2, p1, p2, s1, s2, q m O _ H Grow.refl R mk_bl⟩

/-! ### subscripts -/
def fIdx : W → W → Store → Res (Kd × W)
  | .lst ws, .int i, st => match atI ws i with
    | some w => okS w st
    | none => .bad
  | .tup ws, .int i, st => match atI ws i with
    | some w => okS w st
    | none => .bad
  | _, _, _ => .bad
theorem re_idx {a b : Expr} {pa pb : PX} (ha : RE X a pa) (hb : RE X b pb) (hs : PlainIx b := by exact fun _ _ => rfl) : RE X (.Subscript a b pos) (eBin fIdx pa pb) := by
  refine (pe_ix (r := fun x y H Q => ∃ m F O σ fr st k w st' a b, Rel X.K m F O σ H fr st ∧ LDen X.K m O H a x ∧ LDen X.K m O H b y ∧ fIdx a b st = .ok (k, w) st' ∧
    ∀ m' O' v H', Grow m O H m' O' H' → Rel X.K m' F O' σ H' fr st' → RDen X.K m' F O' σ H' fr k w v → Q v H') ?_ ha.look hb.look hs).imp fun _ _ _ q => t_bin q
  intro value slice pins s σ H x y v u Q I rx ry h hsl
  obtain ⟨m, F, O, σ', fr, st, k, w, st', a, b, R, da, db, e, q⟩ := h
  cases b with
  | int i =>
    cases a with
    | lst ws =>
      obtain ⟨p, vs, ex, _, h1, d1⟩ := lden_lst da
      have e : (match atI ws i with | some w => okS w st | none => .bad) = Res.ok (k, w) st' := e
      cases hw : atI ws i with
      | none => rw [hw] at e; cases e
      | some w2 =>
        rw [hw] at e
        cases e
        obtain ⟨z, hz, dz⟩ := dens_at d1 hw
        exact ix_list value slice pins s σ H x y v u Q I rx ry ⟨p, vs, i, z, ex, den_int db, SqL.of h1, hz, q m O z H Grow.refl R dz⟩ hsl
    | tup ws =>
      obtain ⟨p, vs, ex, h1, d1⟩ := lden_tup da
      have e : (match atI ws i with | some w => okS w st | none => .bad) = Res.ok (k, w) st' := e
      cases hw : atI ws i with
      | none => rw [hw] at e; cases e
      | some w2 =>
        rw [hw] at e
        cases e
        obtain ⟨z, hz, dz⟩ := dens_at d1 hw
        exact ix_tup value slice pins s σ H x y v u Q I rx ry ⟨p, vs, i, z, ex, den_int db, SqT.of h1, hz, q m O z H Grow.refl R dz⟩ hsl
    | _ => cases e
  | _ => cases a <;> cases e
/-- parts of a slice -/
abbrev PO' := Frame → Store → Res (Option Int)
def tO (K : PySem.W.Frag) (p : PO') : TO := fun σ H Q => ∃ m F O fr st b st', Rel K m F O σ H fr st ∧ p fr st = .ok b st' ∧
  ∀ m' O' H', Grow m O H m' O' H' → Rel K m' F O' σ H' fr st' → Q b H'
abbrev RO (X : Cx) (e : Option Expr) (p : PO') : Prop := PO X e (tO X.K p)
theorem _root_.L2.PO.imp {X : Cx} {e : Option Expr} {t t' : TO} (h : PO X e t) (i : ∀ σ H Q, t' σ H Q → t σ H Q) : PO X e t' := ⟨fun pins s σ H Q I q => h.run pins s σ H Q I (i _ _ _ q)⟩
def oNone : PO' := fun _ st => .ok none st
def oSome (p : PX) : PO' := fun fr st => (p fr st).bind fun x s1 => match x.2 with
  | .int i => .ok (some i) s1
  | _ => .bad
theorem ro_none : RO X none oNone := L2.PO.imp po_none fun σ H Q h => by
  obtain ⟨m, F, O, fr, st, b, st', R, e, q⟩ := h
  cases e
  exact q m O H Grow.refl R
theorem ro_some {e : Expr} {p : PX} (h : RE X e p) : RO X (some e) (oSome p) := L2.PO.imp (po_some h.look) fun σ H Q h => by
  obtain ⟨m, F, O, fr, st, b, st', R, e, q⟩ := h
  obtain ⟨⟨k1, x⟩, s1, e1, e⟩ := Res.bind_eq e
  cases x <;> first
    | (cases e
       exact ⟨m, F, O, fr, st, k1, _, st', R, e1, fun m1 O1 v H1 g1 R1 d1 => ⟨_, den_int d1, q m1 O1 H1 g1 R1⟩⟩)
    | cases e
def cutW (ws : List W) (lo hi : Option Int) : List W := (ws.drop (HT.sIx ws.length 0 lo)).take (HT.sIx ws.length ws.length hi - HT.sIx ws.length 0 lo)
theorem dens_cut {ws : List W} {vs : List V} {lo hi : Option Int} (d : Dens K m O H ws vs) : Dens K m O H (cutW ws lo hi) (cutV vs lo hi) := by
  unfold cutW cutV
  rw [dens_length d]
  exact dens_take _ (dens_drop _ d)
def fSlice : W → Option Int → Option Int → Store → Res (Kd × W)
  | .lst ws, lo, hi, st => .ok (.fr, .lst (cutW ws lo hi)) st
  | .tup ws, lo, hi, st => okS (.tup (cutW ws lo hi)) st
  | _, _, _, _ => .bad
def eSlice (p : PX) (lo hi : PO') : PX := fun fr st => (p fr st).bind fun x s1 => (lo fr s1).bind fun l s2 => (hi fr s2).bind fun h s3 => fSlice x.2 l h s3
theorem re_slice {e : Expr} {lo hi : Option Expr} {p : PX} {pl ph : PO'} {p2 : Pos} (he : RE X e p) (hl : RO X lo pl) (hh : RO X hi ph) : RE X (.Subscript e (.Slice lo hi none p2) pos) (eSlice p pl ph) := by
  refine (pe_slice (r := fun x l u H Q => ∃ m F O σ fr st k w st' a, Rel X.K m F O σ H fr st ∧ LDen X.K m O H a x ∧ fSlice a l u st = .ok (k, w) st' ∧
    ∀ m' O' v H', Grow m O H m' O' H' → Rel X.K m' F O' σ H' fr st' → RDen X.K m' F O' σ H' fr k w v → Q v H') ?_ he.look hl hh).imp fun σ H Q q => ?_
  · intro pins s σ H x v vl vu lo hi sl Q I rx hs pl pu h
    obtain ⟨m, F, O, σ', fr, st, k, w, st', a, R, da, e, q⟩ := h
    cases a with
    | lst ws =>
      cases e
      obtain ⟨a, vs, ex, _, h1, d1⟩ := lden_lst da
      refine sl_list pins s σ H x v vl vu lo hi sl Q I rx hs pl pu ⟨a, vs, ex, SqL.of h1, fun p hp => ?_⟩
      obtain ⟨g2, R2, d3⟩ := new_lst R (dens_cut (lo := lo) (hi := hi) d1) hp
      exact q m _ _ _ g2 R2 d3
    | tup ws =>
      cases e
      obtain ⟨a, vs, ex, h1, d1⟩ := lden_tup da
      refine sl_tupA pins s σ H x v vl vu lo hi sl Q I rx hs pl pu ⟨a, vs, ex, SqT.of h1, fun hw => ?_, fun _ p hp => ?_⟩
      · refine q m O _ H Grow.refl R (rden_tup h1 ?_)
        have ew : cutW ws lo hi = ws := by
          unfold cutW
          rw [dens_length d1] at hw
          rw [hw.1, hw.2, List.drop_zero, Nat.sub_zero, List.take_length]
        rw [ew]
        exact d1
      · obtain ⟨g2, R2, d3⟩ := new_tup R (dens_cut (lo := lo) (hi := hi) d1) hp
        exact q m _ _ _ g2 R2 d3
    | _ => cases e
  · obtain ⟨m, F, O, fr, st, k, w, st', R, e, q⟩ := q
    obtain ⟨⟨k1, x⟩, s1, e1, e⟩ := Res.bind_eq e
    obtain ⟨l, s2, e2, e⟩ := Res.bind_eq e
    obtain ⟨h, s3, e3, e⟩ := Res.bind_eq e
    refine ⟨m, F, O, fr, st, k1, x, s1, R, e1, fun m1 O1 v1 H1 g1 R1 d1 => ?_⟩
    refine ⟨m1, F, O1, fr, s1, l, s2, R1, e2, fun m2 O2 H2 g2 R2 => ?_⟩
    refine ⟨m2, F, O2, fr, s2, h, s3, R2, e3, fun m3 O3 H3 g3 R3 => ?_⟩
    exact ⟨m3, F, O3, σ, fr, s3, k, w, st', x, R3, (d1.grow g2 R1.mO).grow g3 R2.mO, e, fun m' O' v H' g R' d => q m' O' v H' (g1.trans (g2.trans (g3.trans g))) R' d⟩
/-- xs[::-1] -/
def eRev (p : PX) : PX := fun fr st => (p fr st).bind fun x s1 => match x.2 with
  | .lst ws => .ok (.fr, .lst ws.reverse) s1
  | _ => .bad
theorem re_rev {e : Expr} {p : PX} {k : Nat} {p1 p2 p3 : Pos} (he : RE X e p) : RE X (.Subscript e (.Slice none none (some (.UnaryOp .USub (.Constant (.int 1) k p1) p2)) p3) pos) (eRev p) := (pe_revL he.look).imp fun σ H Q q => by
  obtain ⟨m, F, O, fr, st, k, w, st', R, e, q⟩ := q
  obtain ⟨⟨k1, x⟩, s1, e1, e⟩ := Res.bind_eq e
  cases x with
  | lst ws =>
    cases e
    refine ⟨m, F, O, fr, st, k1, _, st', R, e1, fun m1 O1 v1 H1 g1 R1 d1 => ?_⟩
    obtain ⟨a, vs, ex, _, h1, d1⟩ := lden_lst d1
    refine ⟨a, vs, ex, SqL.of h1, fun p hp => ?_⟩
    obtain ⟨g2, R2, d3⟩ := new_lst R1 (dens_rev d1) hp
    exact q m1 _ _ _ (g1.trans g2) R2 d3
  | _ => cases e
end
end Vy

set_option Elab.async false
set_option linter.all false
set_option maxRecDepth 100000
set_option maxHeartbeats 4000000
/-! What is walked: lists, tuples, the script, ranges, zip, enumerate. -/
namespace Vy
open PySem PySem.Spec PyProof.Rows L2

/-- a list (true) or a tuple -/
def SqB (b : Bool) (K : PySem.W.Frag) (H : Hp) (a : Addr) (xs : List V) : Prop := if b = true then SqL K H a xs else SqT K H a xs
def ItB (b : Bool) (h : Heap) (it a : Addr) (i : Nat) : Prop := if b = true then h.IsListIter it a i else h.IsTupleIter it a i
def HvB (b : Bool) (h : Heap) (a : Addr) (its : Array Value) : Prop := if b = true then h.IsList a its else h.IsTuple a its
def beginO (b : Bool) (a : Addr) : Obj := if b = true then { cls := .type "list_iterator", data := .fields #[.ref a, .int 0 0] } else { cls := .type "tuple_iterator", data := .fields #[.ref a, .int 0 0] }
theorem begins_B (b : Bool) (a : Addr) (its : Array Value) : Begins (.ref a) (beginO b a) fun h => HvB b h a its := by
  cases b with
  | true => exact begins_list a its
  | false => exact begins_tuple a its
theorem draws_B {prog : Program} {w : World} {A : Around} (hh : A.handled = none) (b : Bool) (it a : Addr) (hne : a ≠ it) (its : Array Value) :
    Draws prog w A it [it, a] its.size (fun i v => its[i]? = some v) (fun i h => ItB b h it a i ∧ HvB b h a its) := by
  cases b with
  | true => exact Draws.list hh it a hne its
  | false => exact Draws.tuple hh it a hne its
theorem ItB.obj {b : Bool} {h : Heap} {it a : Addr} {i : Nat} (x : ItB b h it a i) : ∃ o, h.get? it = some o ∧ ∀ v, o.data ≠ .cell v := by
  cases b with
  | true => obtain ⟨o, e, _, d⟩ := x; exact ⟨o, e, fun v q => by rw [d] at q; cases q⟩
  | false => obtain ⟨o, e, _, d⟩ := x; exact ⟨o, e, fun v q => by rw [d] at q; cases q⟩
theorem ItB.at {b : Bool} {h h' : Heap} {it a : Addr} {i : Nat} (x : ItB b h it a i) (k : ∀ o, h.get? it = some o → h'.get? it = some o) : ItB b h' it a i := by
  cases b with
  | true => exact Heap.IsListIter.at x k
  | false => exact Heap.IsTupleIter.at x k
theorem itB_start {b : Bool} {h : Heap} {it a : Addr} (e : h.get? it = some (beginO b a)) : ItB b h it a 0 := by
  cases b with
  | true => exact ⟨_, e, rfl, rfl⟩
  | false => exact ⟨_, e, rfl, rfl⟩
section
variable {X : Cx} {pins : List (Addr × Obj)} {σ : L2.St} {H : Hp} {s : Shared} {a : Addr} {b : Bool} {xs ys : List V}
theorem sq_have (I : Inv X pins σ H s) (h : SqB b X.K H a xs) : ∃ its : List Value, Vals xs its ∧ HvB b s.heap a its.toArray ∧ a < s.heap.objs.size := by
  cases b with
  | true =>
    obtain ⟨its, r, p, _⟩ := I.list h
    exact ⟨its, r, p.isList, p.lt⟩
  | false =>
    obtain ⟨its, r, p, _⟩ := I.tuple h
    obtain ⟨o, ho, _⟩ := id p
    exact ⟨its, r, p, Heap.lt_size ho⟩
theorem sq_inj (I : Inv X pins σ H s) (h : SqB b X.K H a xs) (h' : SqB b X.K H a ys) : xs = ys := by
  cases b with
  | true => exact I.list_inj h h'
  | false => exact I.tuple_inj h h'
end
theorem sg_lt {N l : Nat} (h : l < N) : ∀ c ∈ [l], c < N := fun c hc => by
  simp only [List.mem_singleton] at hc
  omega
theorem off_lt {N z c : Nat} (h : N + 4 < z) (hc : c = N + 4 ∨ c = N + 2 ∨ c = N + 3 ∨ c = N ∨ c = N + 1) : c < z := by omega
theorem min_end {i a b x y : Nat} (e1 : a = x) (e2 : b = y) (h : i = min x y) : i ≤ a ∧ i ≤ b ∧ (i = a ∨ i = b) := by omega
theorem nn (N : Nat) {a b : Nat} (h : a ≠ b) : N + a ≠ N + b := fun e => h (Nat.add_left_cancel e)
/-- zip of two, each a list or a tuple -/
def Zi2 (K : PySem.W.Frag) (b1 b2 : Bool) (l1 l2 : Addr) : It :=
  ⟨fun i H => ∃ xs ys x y, SqB b1 K H l1 xs ∧ SqB b2 K H l2 ys ∧ xs[i]? = some x ∧ ys[i]? = some y,
   fun i H v H' => ∃ T x y, v = .ref T ∧ H T = none ∧ H' = upd H T (.tup [x, y]) ∧ (∀ xs, SqB b1 K H l1 xs → xs[i]? = some x) ∧ ∀ ys, SqB b2 K H l2 ys → ys[i]? = some y,
   fun i H => ∃ xs ys, SqB b1 K H l1 xs ∧ SqB b2 K H l2 ys ∧ i = min xs.length ys.length⟩
theorem zi2_turn {P : Program} {w : World} {K : PySem.W.Frag} {elts : List Expr} {kk : Nat} {tpos : Pos} {b1 b2 : Bool} {l1 l2 N : Nat} (h1 : l1 < N) (h2 : l2 < N) :
    Turn P w K (.Tuple elts kk tpos) (Zi2 K b1 b2 l1 l2) [N + 4, N + 2, N + 3, N, N + 1] (N + 4)
      (fun i h => IsZip h (N + 4) (N + 2) (N + 3) .none ∧ IsTupOf2 h (N + 2) (.ref N) (.ref (N + 1)) ∧ (∃ x y, IsTupOf2 h (N + 3) x y) ∧ ItB b1 h N l1 i ∧ ItB b2 h (N + 1) l2 i) where
  mem := by simp
  obj := fun i h st c hc => by
    obtain ⟨hz, hTI, ⟨x, y, hTO⟩, i1, i2⟩ := st
    simp only [List.mem_cons, List.not_mem_nil, or_false] at hc
    rcases hc with rfl | rfl | rfl | rfl | rfl
    · exact ⟨_, hz, fun v q => nomatch q⟩
    · exact ⟨_, hTI, fun v q => nomatch q⟩
    · exact ⟨_, hTO, fun v q => nomatch q⟩
    · exact i1.obj
    · exact i2.obj
  keep := fun i h h' st k => by
    obtain ⟨hz, hTI, ⟨x, y, hTO⟩, i1, i2⟩ := st
    exact ⟨k _ (by simp) _ hz, k _ (by simp) _ hTI, ⟨x, y, k _ (by simp) _ hTO⟩, i1.at fun o q => k _ (by simp) o q, i2.at fun o q => k _ (by simp) o q⟩
  item := by
    intro X hP hw hK hc i pins s σ H E I hf st hg
    subst hP hw hK
    obtain ⟨hz, hTI, ⟨x0, y0, hTO⟩, i1, i2⟩ := st
    obtain ⟨xs, ys, x, y, hqx, hqy, hx, hy⟩ := hg
    obtain ⟨its, rv, p1, _⟩ := sq_have I hqx
    obtain ⟨its2, rv2, p2, _⟩ := sq_have I hqy
    obtain ⟨u, hu, ru⟩ := rv.get hx
    obtain ⟨u2, hu2, ru2⟩ := rv2.get hy
    have hd := I.ok.hd hc
    have S := zip_sep2 (N := N) (fp1 := [l1]) (fp2 := [l2]) (sg_lt h1) (sg_lt h2)
    have lt1 : i < its.toArray.size := by simpa using (List.getElem?_eq_some_iff.mp hu).1
    have lt2 : i < its2.toArray.size := by simpa using (List.getElem?_eq_some_iff.mp hu2).1
    have hzl : N + 4 < s.heap.objs.size := Heap.lt_size hz
    refine wpAny_pyNext_zipD2_item S (draws_B (A := X.A.in1) hd b1 N l1 (Nat.ne_of_lt h1) its.toArray) (draws_B (A := X.A.in1) hd b2 (N + 1) l2 (Nat.ne_of_lt (Nat.lt_succ_of_lt h2)) its2.toArray) hz hTI hTO ⟨i1, p1⟩ ⟨i2, p2⟩ lt1 lt2 fun v1 v2 h' tk e1 e2 z' TO' s1' s2' hT hsz hk => ?_
    have q1 : v1 = u := by simpa [hu] using e1.symm
    have q2 : v2 = u2 := by simpa [hu2] using e2.symm
    subst q1 q2
    refine ⟨_, rfl, wpAny_letOwnedTupleGo_zip (s := { s with heap := h', toks := tk }) z' fun h'' z'' sb => ?_⟩
    have hT2 : h''.get? s.heap.objs.size = some { cls := .type "tuple", data := .seq #[v1, v2] } := (sb.2 _ (Nat.ne_of_gt hzl)).trans hT
    have new : ObjOk X.prog X.w (upd H s.heap.objs.size (.tup [x, y])) h'' s.heap.objs.size (.tup [x, y]) :=
      ⟨by show 2 ≤ sizeLine; decide, [v1, v2], .cons ru (.cons ru2 .nil), ⟨_, hT2, rfl, _, rfl⟩⟩
    have I1 : Inv X pins σ (upd H s.heap.objs.size (.tup [x, y])) { s with heap := h'', toks := tk } :=
      I.turnedNew (ch := [N + 4, N + 2, N + 3, N, N + 1]) (fun c o hb q => by
        simp only [List.mem_cons, List.not_mem_nil, or_false, not_or] at hb
        exact (sb.2 c hb.1).trans (hk c o hb.1 hb.2.2.1 hb.2.2.2.1 hb.2.2.2.2 q)) hf (Nat.le_refl _) new
    refine ⟨.ref s.heap.objs.size, _, I1, rfl, ⟨_, x, y, rfl, I.hok.fresh (Nat.le_refl _), rfl, fun l hl => by rw [sq_inj I hl hqx]; exact hx, fun l hl => by rw [sq_inj I hl hqy]; exact hy⟩, ⟨z'', ?_, ⟨v1, v2, ?_⟩, ?_, ?_⟩, fun c hcm => ?_⟩
    · exact (sb.2 _ (nn N (a := 2) (b := 4) (by decide))).trans (hk _ _ (nn N (a := 2) (b := 4) (by decide)) (nn N (a := 2) (b := 3) (by decide)) (nn N (a := 2) (b := 0) (by decide)) (nn N (a := 2) (b := 1) (by decide)) hTI)
    · exact (sb.2 _ (nn N (a := 3) (b := 4) (by decide))).trans TO'
    · exact s1'.1.at fun o q => (sb.2 _ (nn N (a := 0) (b := 4) (by decide))).trans q
    · exact s2'.1.at fun o q => (sb.2 _ (nn N (a := 1) (b := 4) (by decide))).trans q
    · have hlt : c < s.heap.objs.size := off_lt hzl (by simpa using hcm)
      rw [upd_ne (Nat.ne_of_lt hlt)]
      exact (hf c hcm).1
  done := by
    intro X hP hw hK hc i pins s σ H E I hf st hg
    subst hP hw hK
    obtain ⟨hz, hTI, ⟨x0, y0, hTO⟩, i1, i2⟩ := st
    obtain ⟨xs, ys, hqx, hqy, hend⟩ := hg
    obtain ⟨its, rv, p1, _⟩ := sq_have I hqx
    obtain ⟨its2, rv2, p2, _⟩ := sq_have I hqy
    have hd := I.ok.hd hc
    have S := zip_sep2 (N := N) (fp1 := [l1]) (fp2 := [l2]) (sg_lt h1) (sg_lt h2)
    have e1 : its.toArray.size = xs.length := by simpa using rv.length.symm
    have e2 : its2.toArray.size = ys.length := by simpa using rv2.length.symm
    exact wpAny_pyNext_zipD2_end S (draws_B (A := X.A.in1) hd b1 N l1 (Nat.ne_of_lt h1) its.toArray) (draws_B (A := X.A.in1) hd b2 (N + 1) l2 (Nat.ne_of_lt (Nat.lt_succ_of_lt h2)) its2.toArray) hz hTI hTO ⟨i1, p1⟩ ⟨i2, p2⟩ (min_end e1 e2 hend).1 (min_end e1 e2 hend).2.1 (min_end e1 e2 hend).2.2 fun h' tk hk =>
      ⟨rfl, I.turnedL (ch := [N + 4, N + 2, N + 3, N, N + 1]) (fun c o hb q => by
        simp only [List.mem_cons, List.not_mem_nil, or_false, not_or] at hb
        exact hk c o hb.1 hb.2.2.1 hb.2.2.2.1 hb.2.2.2.2 q) hf⟩
  self := fun A i s Q E st h => wpAny_pyIter_zip st.1 h
/-- zip of three -/
def Zi3 (K : PySem.W.Frag) (b1 b2 b3 : Bool) (l1 l2 l3 : Addr) : It :=
  ⟨fun i H => ∃ xs ys zs x y z, SqB b1 K H l1 xs ∧ SqB b2 K H l2 ys ∧ SqB b3 K H l3 zs ∧ xs[i]? = some x ∧ ys[i]? = some y ∧ zs[i]? = some z,
   fun i H v H' => ∃ T x y z, v = .ref T ∧ H T = none ∧ H' = upd H T (.tup [x, y, z]) ∧ (∀ xs, SqB b1 K H l1 xs → xs[i]? = some x) ∧ (∀ ys, SqB b2 K H l2 ys → ys[i]? = some y) ∧ ∀ zs, SqB b3 K H l3 zs → zs[i]? = some z,
   fun i H => ∃ xs ys zs, SqB b1 K H l1 xs ∧ SqB b2 K H l2 ys ∧ SqB b3 K H l3 zs ∧ i = min (min xs.length ys.length) zs.length⟩
theorem off3_lt {N z c : Nat} (h : N + 5 < z) (hc : c = N + 5 ∨ c = N + 3 ∨ c = N + 4 ∨ c = N ∨ c = N + 1 ∨ c = N + 2) : c < z := by omega
theorem min3_end {i a b c x y z : Nat} (e1 : a = x) (e2 : b = y) (e3 : c = z) (h : i = min (min x y) z) : i ≤ a ∧ i ≤ b ∧ i ≤ c ∧ (i = a ∨ i = b ∨ i = c) := by omega
theorem zi3_turn {P : Program} {w : World} {K : PySem.W.Frag} {elts : List Expr} {kk : Nat} {tpos : Pos} {b1 b2 b3 : Bool} {l1 l2 l3 N : Nat} (h1 : l1 < N) (h2 : l2 < N) (h3 : l3 < N) :
    Turn P w K (.Tuple elts kk tpos) (Zi3 K b1 b2 b3 l1 l2 l3) [N + 5, N + 3, N + 4, N, N + 1, N + 2] (N + 5)
      (fun i h => IsZip h (N + 5) (N + 3) (N + 4) .none ∧ IsTupOf3 h (N + 3) (.ref N) (.ref (N + 1)) (.ref (N + 2)) ∧ (∃ x y z, IsTupOf3 h (N + 4) x y z) ∧ ItB b1 h N l1 i ∧ ItB b2 h (N + 1) l2 i ∧ ItB b3 h (N + 2) l3 i) where
  mem := by simp
  obj := fun i h st c hc => by
    obtain ⟨hz, hTI, ⟨x, y, z, hTO⟩, i1, i2, i3⟩ := st
    simp only [List.mem_cons, List.not_mem_nil, or_false] at hc
    rcases hc with rfl | rfl | rfl | rfl | rfl | rfl
    · exact ⟨_, hz, fun v q => nomatch q⟩
    · exact ⟨_, hTI, fun v q => nomatch q⟩
    · exact ⟨_, hTO, fun v q => nomatch q⟩
    · exact i1.obj
    · exact i2.obj
    · exact i3.obj
  keep := fun i h h' st k => by
    obtain ⟨hz, hTI, ⟨x, y, z, hTO⟩, i1, i2, i3⟩ := st
    exact ⟨k _ (by simp) _ hz, k _ (by simp) _ hTI, ⟨x, y, z, k _ (by simp) _ hTO⟩, i1.at fun o q => k _ (by simp) o q, i2.at fun o q => k _ (by simp) o q, i3.at fun o q => k _ (by simp) o q⟩
  item := by
    intro X hP hw hK hc i pins s σ H E I hf st hg
    subst hP hw hK
    obtain ⟨hz, hTI, ⟨x0, y0, z0, hTO⟩, i1, i2, i3⟩ := st
    obtain ⟨xs, ys, zs, x, y, z, hqx, hqy, hqz, hx, hy, hzz⟩ := hg
    obtain ⟨its, rv, p1, _⟩ := sq_have I hqx
    obtain ⟨its2, rv2, p2, _⟩ := sq_have I hqy
    obtain ⟨its3, rv3, p3, _⟩ := sq_have I hqz
    obtain ⟨u, hu, ru⟩ := rv.get hx
    obtain ⟨u2, hu2, ru2⟩ := rv2.get hy
    obtain ⟨u3, hu3, ru3⟩ := rv3.get hzz
    have hd := I.ok.hd hc
    have S := zip_sep3 (N := N) (fp1 := [l1]) (fp2 := [l2]) (fp3 := [l3]) (sg_lt h1) (sg_lt h2) (sg_lt h3)
    have lt1 : i < its.toArray.size := by simpa using (List.getElem?_eq_some_iff.mp hu).1
    have lt2 : i < its2.toArray.size := by simpa using (List.getElem?_eq_some_iff.mp hu2).1
    have lt3 : i < its3.toArray.size := by simpa using (List.getElem?_eq_some_iff.mp hu3).1
    have hzl : N + 5 < s.heap.objs.size := Heap.lt_size hz
    refine wpAny_pyNext_zipD3_item S (draws_B (A := X.A.in1) hd b1 N l1 (Nat.ne_of_lt h1) its.toArray) (draws_B (A := X.A.in1) hd b2 (N + 1) l2 (Nat.ne_of_lt (Nat.lt_succ_of_lt h2)) its2.toArray) (draws_B (A := X.A.in1) hd b3 (N + 2) l3 (Nat.ne_of_lt (Nat.lt_succ_of_lt (Nat.lt_succ_of_lt h3))) its3.toArray)
      hz hTI hTO ⟨i1, p1⟩ ⟨i2, p2⟩ ⟨i3, p3⟩ lt1 lt2 lt3 fun v1 v2 v3 h' tk e1 e2 e3 z' TO' s1' s2' s3' hT hsz hk => ?_
    have q1 : v1 = u := by simpa [hu] using e1.symm
    have q2 : v2 = u2 := by simpa [hu2] using e2.symm
    have q3 : v3 = u3 := by simpa [hu3] using e3.symm
    subst q1 q2 q3
    refine ⟨_, rfl, wpAny_letOwnedTupleGo_zip (s := { s with heap := h', toks := tk }) z' fun h'' z'' sb => ?_⟩
    have hT2 : h''.get? s.heap.objs.size = some { cls := .type "tuple", data := .seq #[v1, v2, v3] } := (sb.2 _ (Nat.ne_of_gt hzl)).trans hT
    have new : ObjOk X.prog X.w (upd H s.heap.objs.size (.tup [x, y, z])) h'' s.heap.objs.size (.tup [x, y, z]) :=
      ⟨by show 3 ≤ sizeLine; decide, [v1, v2, v3], .cons ru (.cons ru2 (.cons ru3 .nil)), ⟨_, hT2, rfl, _, rfl⟩⟩
    have I1 : Inv X pins σ (upd H s.heap.objs.size (.tup [x, y, z])) { s with heap := h'', toks := tk } :=
      I.turnedNew (ch := [N + 5, N + 3, N + 4, N, N + 1, N + 2]) (fun c o hb q => by
        simp only [List.mem_cons, List.not_mem_nil, or_false, not_or] at hb
        exact (sb.2 c hb.1).trans (hk c o hb.1 hb.2.2.1 hb.2.2.2.1 hb.2.2.2.2.1 hb.2.2.2.2.2 q)) hf (Nat.le_refl _) new
    refine ⟨.ref s.heap.objs.size, _, I1, rfl, ⟨_, x, y, z, rfl, I.hok.fresh (Nat.le_refl _), rfl, fun l hl => by rw [sq_inj I hl hqx]; exact hx, fun l hl => by rw [sq_inj I hl hqy]; exact hy, fun l hl => by rw [sq_inj I hl hqz]; exact hzz⟩, ⟨z'', ?_, ⟨v1, v2, v3, ?_⟩, ?_, ?_, ?_⟩, fun c hcm => ?_⟩
    · exact (sb.2 _ (nn N (a := 3) (b := 5) (by decide))).trans (hk _ _ (nn N (a := 3) (b := 5) (by decide)) (nn N (a := 3) (b := 4) (by decide)) (nn N (a := 3) (b := 0) (by decide)) (nn N (a := 3) (b := 1) (by decide)) (nn N (a := 3) (b := 2) (by decide)) hTI)
    · exact (sb.2 _ (nn N (a := 4) (b := 5) (by decide))).trans TO'
    · exact s1'.1.at fun o q => (sb.2 _ (nn N (a := 0) (b := 5) (by decide))).trans q
    · exact s2'.1.at fun o q => (sb.2 _ (nn N (a := 1) (b := 5) (by decide))).trans q
    · exact s3'.1.at fun o q => (sb.2 _ (nn N (a := 2) (b := 5) (by decide))).trans q
    · have hlt : c < s.heap.objs.size := off3_lt hzl (by simpa using hcm)
      rw [upd_ne (Nat.ne_of_lt hlt)]
      exact (hf c hcm).1
  done := by
    intro X hP hw hK hc i pins s σ H E I hf st hg
    subst hP hw hK
    obtain ⟨hz, hTI, ⟨x0, y0, z0, hTO⟩, i1, i2, i3⟩ := st
    obtain ⟨xs, ys, zs, hqx, hqy, hqz, hend⟩ := hg
    obtain ⟨its, rv, p1, _⟩ := sq_have I hqx
    obtain ⟨its2, rv2, p2, _⟩ := sq_have I hqy
    obtain ⟨its3, rv3, p3, _⟩ := sq_have I hqz
    have hd := I.ok.hd hc
    have S := zip_sep3 (N := N) (fp1 := [l1]) (fp2 := [l2]) (fp3 := [l3]) (sg_lt h1) (sg_lt h2) (sg_lt h3)
    have e1 : its.toArray.size = xs.length := by simpa using rv.length.symm
    have e2 : its2.toArray.size = ys.length := by simpa using rv2.length.symm
    have e3 : its3.toArray.size = zs.length := by simpa using rv3.length.symm
    have me := min3_end e1 e2 e3 hend
    exact wpAny_pyNext_zipD3_end S (draws_B (A := X.A.in1) hd b1 N l1 (Nat.ne_of_lt h1) its.toArray) (draws_B (A := X.A.in1) hd b2 (N + 1) l2 (Nat.ne_of_lt (Nat.lt_succ_of_lt h2)) its2.toArray) (draws_B (A := X.A.in1) hd b3 (N + 2) l3 (Nat.ne_of_lt (Nat.lt_succ_of_lt (Nat.lt_succ_of_lt h3))) its3.toArray)
      hz hTI hTO ⟨i1, p1⟩ ⟨i2, p2⟩ ⟨i3, p3⟩ me.1 me.2.1 me.2.2.1 me.2.2.2 fun h' tk hk =>
      ⟨rfl, I.turnedL (ch := [N + 5, N + 3, N + 4, N, N + 1, N + 2]) (fun c o hb q => by
        simp only [List.mem_cons, List.not_mem_nil, or_false, not_or] at hb
        exact hk c o hb.1 hb.2.2.1 hb.2.2.2.1 hb.2.2.2.2.1 hb.2.2.2.2.2 q) hf⟩
  self := fun A i s Q E st h => wpAny_pyIter_zip st.1 h

/-! ### enumerate -/
theorem enum_newT (tp : Addr) (its : Array Value) (n : Nat) (dct : Option Addr) (sl : Array (Option Value)) :
    Meets (Builtin.«enumerate.__new__» ⟨[.type "enumerate", .ref tp], []⟩) (fun _ R s => s.heap.get? tp = some { cls := .type "tuple", dict := dct, data := .seq its n, slots := sl } ∧
      R (.ok (.ret (.ref (s.heap.push (beginO false tp)).objs.size))) { s with heap := (s.heap.push (beginO false tp)).push { cls := .type "enumerate", data := .fields #[.none, .bool false, .ref s.heap.objs.size, rawInt 0, .none, .none] } }) :=
  .of_wp fun prog w A R s hq => by
    obtain ⟨hp, gg, dr, tk, oo⟩ := s
    obtain ⟨hlk, hq⟩ := hq
    have hsub := sub_enumerate
    have hT : Heap.IsTuple (Shared.heap ⟨hp, gg, dr, tk, oo⟩) tp its := ⟨_, hlk, rfl, n, rfl⟩
    wp_walk using wpAny_loadPart' hlk
    refine wpAny_stack_any fun _ => wpAny_pure ?_
    split
    · rename_i c _ _ _ _ _
      cases (c == Value.type "enumerate")
      · wp_walk using wpAny_loadPart' hlk, wpAny_pyIter_tuple hT
        exact ⟨_, rfl, hq⟩
      · wp_walk using wpAny_loadPart' hlk, wpAny_pyIter_tuple hT
        exact ⟨_, rfl, hq⟩
    · wp_walk using wpAny_loadPart' hlk, wpAny_pyIter_tuple hT
      exact ⟨_, rfl, hq⟩
section
variable {prog : Program} {w : World} {A : Around} {E : Value → Shared → Prop} {s : Shared}
theorem enum_call {b : Bool} {l : Addr} {its : Array Value} {Q : Value → Shared → Prop} (hL : HvB b s.heap l its)
    (h : ∀ h', IsEnum h' (s.heap.objs.size + 1) s.heap.objs.size 0 .none → ItB b h' s.heap.objs.size l 0 → (∀ b o, s.heap.get? b = some o → h'.get? b = some o) → Q (.ref (s.heap.objs.size + 1)) { s with heap := h' }) :
    wpAny (model prog w) A (call (.type "enumerate") [.ref l]) Q E s := by
  cases b with
  | true => exact call_enumerate_list hL fun h' e1 e2 _ k => h h' e1 e2 k
  | false =>
    obtain ⟨⟨c, dct, dt, sl⟩, hl, hc, n, hd⟩ : s.heap.IsTuple l its := hL
    simp only at hc hd
    subst hc hd
    refine callType_new F.called_enumerate (by decide) (F.typeCall_enumerate_1 _) (F.newCall_enumerate_1 _) (fun obj => F.args_object_init_2 obj _) F.entry_enumerate_new (enum_newT l its n dct sl) ⟨hl, ?_⟩
    have hz : (s.heap.push (beginO false l)).objs.size = s.heap.objs.size + 1 := Heap.size_push ..
    have he : ((s.heap.push (beginO false l)).push { cls := .type "enumerate", data := .fields #[.none, .bool false, .ref s.heap.objs.size, rawInt 0, .none, .none] }).get? (s.heap.objs.size + 1) = some { cls := .type "enumerate", data := .fields #[.none, .bool false, .ref s.heap.objs.size, rawInt 0, .none, .none] } := by
      rw [← hz]
      exact Heap.get?_push_size _ rfl
    show _ ∧ _
    rw [hz]
    exact ⟨⟨_, he, rfl⟩, h _ he (itB_start (Heap.get?_push_of_some _ (Heap.get?_push_size _ rfl))) fun b o x => Heap.get?_push_of_some _ (Heap.get?_push_of_some _ x)⟩
end
def Ei (K : PySem.W.Frag) (b : Bool) (l : Addr) : It :=
  ⟨fun i H => ∃ xs x, SqB b K H l xs ∧ xs[i]? = some x,
   fun i H v H' => ∃ T x, v = .ref T ∧ H T = none ∧ H' = upd H T (.tup [.int (i : Nat), x]) ∧ ∀ xs, SqB b K H l xs → xs[i]? = some x,
   fun i H => ∃ xs, SqB b K H l xs ∧ i = xs.length⟩
theorem two_lt {N z c : Nat} (h : N + 1 < z) (hc : c = N + 1 ∨ c = N) : c < z := by omega
theorem ei_turn {P : Program} {w : World} {K : PySem.W.Frag} {elts : List Expr} {kk : Nat} {tpos : Pos} {b : Bool} {l N : Nat} (h1 : l < N) :
    Turn P w K (.Tuple elts kk tpos) (Ei K b l) [N + 1, N] (N + 1) (fun i h => (∃ old, IsEnum h (N + 1) N ((i : Nat) : Int) old) ∧ ItB b h N l i) where
  mem := by simp
  obj := fun i h st c hc => by
    obtain ⟨⟨old, he⟩, i1⟩ := st
    simp only [List.mem_cons, List.not_mem_nil, or_false] at hc
    rcases hc with rfl | rfl
    · exact ⟨_, he, fun v q => nomatch q⟩
    · exact i1.obj
  keep := fun i h h' st k => by
    obtain ⟨⟨old, he⟩, i1⟩ := st
    exact ⟨⟨old, k _ (by simp) _ he⟩, i1.at fun o q => k _ (by simp) o q⟩
  item := by
    intro X hP hw hK hc i pins s σ H E I hf st hg
    subst hP hw hK
    obtain ⟨⟨old, he⟩, i1⟩ := st
    obtain ⟨xs, x, hqx, hx⟩ := hg
    obtain ⟨its, rv, p1, _⟩ := sq_have I hqx
    obtain ⟨u, hu, ru⟩ := rv.get hx
    have hd := I.ok.hd hc
    have lt1 : i < its.toArray.size := by simpa using (List.getElem?_eq_some_iff.mp hu).1
    have hzl : N + 1 < s.heap.objs.size := Heap.lt_size he
    refine wpAny_pyNext_enum_itemC (draws_B (A := X.A.in1) hd b N l (Nat.ne_of_lt h1) its.toArray) he ⟨i1, p1⟩ lt1 (nn N (a := 1) (b := 0) (by decide)) (by
      simp only [List.mem_cons, List.not_mem_nil, or_false, not_or]
      exact ⟨nn N (a := 1) (b := 0) (by decide), Nat.ne_of_gt (Nat.lt_succ_of_lt h1)⟩) fun v h' tk e1 eo s1' hT hsz hk => ?_
    have q1 : v = u := by simpa [hu] using e1.symm
    subst q1
    refine ⟨_, rfl, wpAny_letOwnedTupleGo_enum (s := { s with heap := h', toks := tk + 1 }) eo fun h'' z'' sb => ?_⟩
    have hT2 : h''.get? s.heap.objs.size = some { cls := .type "tuple", data := .seq #[.int i tk, v] } := (sb.2 _ (Nat.ne_of_gt hzl)).trans hT
    have new : ObjOk X.prog X.w (upd H s.heap.objs.size (.tup [.int (i : Nat), x])) h'' s.heap.objs.size (.tup [.int (i : Nat), x]) :=
      ⟨by show 2 ≤ sizeLine; decide, [.int i tk, v], .cons ⟨_, rfl⟩ (.cons ru .nil), ⟨_, hT2, rfl, _, rfl⟩⟩
    have I1 : Inv X pins σ (upd H s.heap.objs.size (.tup [.int (i : Nat), x])) { s with heap := h'', toks := tk + 1 } :=
      I.turnedNew (ch := [N + 1, N]) (fun c o hb q => by
        simp only [List.mem_cons, List.not_mem_nil, or_false, not_or] at hb
        exact (sb.2 c hb.1).trans (hk c o hb.1 hb.2 q)) hf (Nat.le_refl _) new
    refine ⟨.ref s.heap.objs.size, _, I1, rfl, ⟨_, x, rfl, I.hok.fresh (Nat.le_refl _), rfl, fun l hl => by rw [sq_inj I hl hqx]; exact hx⟩, ⟨⟨v, by simpa using z''⟩, s1'.1.at fun o q => (sb.2 _ (nn N (a := 0) (b := 1) (by decide))).trans q⟩, fun c hcm => ?_⟩
    have hlt : c < s.heap.objs.size := two_lt hzl (by simpa using hcm)
    rw [upd_ne (Nat.ne_of_lt hlt)]
    exact (hf c hcm).1
  done := by
    intro X hP hw hK hc i pins s σ H E I hf st hg
    subst hP hw hK
    obtain ⟨⟨old, he⟩, i1⟩ := st
    obtain ⟨xs, hqx, hend⟩ := hg
    obtain ⟨its, rv, p1, _⟩ := sq_have I hqx
    have hd := I.ok.hd hc
    have e1 : its.toArray.size = xs.length := by simpa using rv.length.symm
    obtain ⟨f0, f1, f2, f3, f4, f5⟩ := hf N (by simp)
    have ei : i = its.toArray.size := hend.trans e1.symm
    rw [ei] at i1 he
    exact wpAny_pyNext_enum_endD (draws_B (A := X.A.in1) hd b N l (Nat.ne_of_lt h1) its.toArray) he ⟨i1, p1⟩ fun h' eb => ⟨rfl, I.turned (t' := s.toks) (fun b o hb q => eb b o hb q) f0 f1 f3 f4 f5⟩
  self := fun A i s Q E st h => let ⟨⟨_, he⟩, _⟩ := st; wpAny_pyIter_enum he h

section
variable {K : PySem.W.Frag} {X : Cx} {m m' m1 : Mp} {F O O' O1 G : Op} {H H' H1 : Hp} {σ : L2.St} {fr : Frame} {st st1 : Store} {pos : Pos}
/-- the items of a list, a tuple; which of the two -/
def seqOf : W → Option (List W)
  | .lst ws => some ws
  | .tup ws => some ws
  | _ => none
def isLst : W → Bool
  | .lst _ => true
  | _ => false
/-- the thing at a stays as it is, within G -/
def Stays (G : Op) (m : Mp) (O : Op) (H : Hp) (a : Addr) : Prop := ∀ m2 O2 H2, GrowF G m O H m2 O2 H2 → ∀ o, H a = some o → H2 a = some o
/-- a value that may be walked -/
def SeqV (K : PySem.W.Frag) (G : Op) (m : Mp) (O : Op) (H : Hp) (b : Bool) (ws : List W) (a : Addr) : Prop := ∃ vs, Stays G m O H a ∧ H a = some (if b = true then .lst vs else .tup vs) ∧ Dens K m O H ws vs
theorem SeqV.sq {b : Bool} {ws : List W} {a : Addr} (s : SeqV K G m O H b ws a) (hm : ∀ n a, m n = some a → O a) {m2 : Mp} {O2 : Op} {H2 : Hp} (g : GrowF G m O H m2 O2 H2) : ∃ vs, SqB b K H2 a vs ∧ Dens K m2 O2 H2 ws vs ∧ H a = some (if b = true then .lst vs else .tup vs) := by
  obtain ⟨vs, sy, e, d⟩ := s
  refine ⟨vs, ?_, Dens.grow g hm _ _ d, e⟩
  have e2 := sy m2 O2 H2 g _ e
  cases b with
  | true => exact SqL.of e2
  | false => exact SqT.of e2
theorem seqV_kept {w : W} {v : V} {ws : List W} (d : Den K m O H w v) (hm : ∀ n a, m n = some a → O a) (e : seqOf w = some ws) : ∃ a, v = .ref a ∧ SeqV K G m O H (isLst w) ws a := by
  cases w with
  | lst us =>
    cases e
    unfold Den at d
    obtain ⟨a, vs, rfl, no, h, d⟩ := d
    exact ⟨a, rfl, vs, fun m2 O2 H2 g o ho => g.keep _ _ ho (.inl no) fun n z => no (hm n a z), h, d⟩
  | tup us =>
    cases e
    unfold Den at d
    obtain ⟨a, vs, rfl, h, d⟩ := d
    exact ⟨a, rfl, vs, fun m2 O2 H2 g o ho => by rw [h] at ho; cases ho; exact g.tups _ _ h, h, d⟩
  | _ => cases e
theorem seqV_look {w : W} {v : V} {ws : List W} (d : LDen K m O H w v) (e : seqOf w = some ws) : ∃ a, v = .ref a ∧ SeqV K allA m O H (isLst w) ws a := by
  cases w with
  | lst us =>
    cases e
    obtain ⟨a, vs, rfl, ni, h, d⟩ := lden_lst d
    exact ⟨a, rfl, vs, fun m2 O2 H2 g o ho => g.keep _ _ ho (.inr trivial) ni, h, d⟩
  | tup us =>
    cases e
    obtain ⟨a, vs, rfl, h, d⟩ := lden_tup d
    exact ⟨a, rfl, vs, fun m2 O2 H2 g o ho => by rw [h] at ho; cases ho; exact g.tups _ _ h, h, d⟩
  | _ => cases e
def ItS (K : PySem.W.Frag) (b : Bool) (a : Addr) : It := if b = true then Itl K a else Itt K a
theorem yields_seq {b : Bool} {ws : List W} {a : Addr} (hm : ∀ n a, m n = some a → O a) (s : SeqV K G m O H b ws a) : Yields K G m O H (ItS K b a) ws := fun m2 O2 H2 g hm2 i => by
  obtain ⟨vs, q, d, _⟩ := s.sq hm g
  have el := dens_length d
  refine ⟨fun w hw => ?_, fun hi => ?_⟩
  · obtain ⟨x, hx, dx⟩ := dens_get d hw
    cases b with
    | true =>
      refine ⟨⟨vs, x, q, hx⟩, fun y H3 hy => ?_⟩
      obtain ⟨rfl, hy⟩ := hy
      have := hy vs q
      rw [hx] at this
      cases this
      exact ⟨fun _ _ e => e, dx⟩
    | false =>
      refine ⟨⟨vs, x, q, hx⟩, fun y H3 hy => ?_⟩
      obtain ⟨rfl, hy⟩ := hy
      have := hy vs q
      rw [hx] at this
      cases this
      exact ⟨fun _ _ e => e, dx⟩
  · cases b with
    | true => exact ⟨vs, q, by omega⟩
    | false => exact ⟨vs, q, by omega⟩
/-- iter(v), v a list or a tuple -/
theorem iter_seq {tg : Expr} {pins : List (Addr × Obj)} {s : Shared} {b : Bool} {a : Addr} {vs : List V} {R : It → Hp → Prop} {E : Value → Shared → Prop} (I : Inv X pins σ H s) (h : SqB b X.K H a vs) (q : R (ItS X.K b a) H) :
    wpAny (model X.prog X.w) X.A (pyIter (.ref a)) (PIE X pins σ tg R) E s := by
  have new : ∀ b, b ∈ [s.heap.objs.size] → FpOk X pins H b := fun b hb => by
    have e : b = s.heap.objs.size := by simpa using hb
    subst e
    exact I.fpOk (Nat.le_refl _) (I.hok.fresh (Nat.le_refl _))
  cases b with
  | true =>
    obtain ⟨its, rv, p, hz⟩ := I.list h
    exact wpAny_pyIter_list p.isList ⟨_, [s.heap.objs.size], _, _, H, rfl, I.kept (t' := s.toks) fun b o e => Heap.get?_push_of_some _ e, turn_list a _, ⟨_, Heap.get?_push_size _ rfl, rfl, rfl⟩, new, q⟩
  | false =>
    obtain ⟨its, rv, p, hz⟩ := I.tuple h
    exact wpAny_pyIter_tuple (show s.heap.IsTuple a its.toArray from p) ⟨_, [s.heap.objs.size], _, _, H, rfl, I.kept (t' := s.toks) fun b o e => Heap.get?_push_of_some _ e, turn_tuple a _, ⟨_, Heap.get?_push_size _ rfl, rfl, rfl⟩, new, q⟩
/-- for x in e: e kept; e looked at (comprehensions) -/
def iSeq (p : PX) : PL := fun fr st => (p fr st).bind fun x s1 => if keepOk x.1 x.2 = true then (match seqOf x.2 with | some ws => .ok ws s1 | none => .bad) else .bad
def iSeqL (p : PX) : PL := fun fr st => (p fr st).bind fun x s1 => match seqOf x.2 with | some ws => .ok ws s1 | none => .bad
theorem ri_seq {tg e : Expr} {p : PX} (he : RE X e p) : RI X tg e true (iSeq p) := by
  refine ⟨fun pins s σ H R I h => ?_⟩
  obtain ⟨m, F, O, fr, st, ws, st', R0, _, e1, q⟩ := h
  obtain ⟨⟨k, w⟩, s1, e2, e3⟩ := Res.bind_eq e1
  by_cases hk : keepOk k w = true
  · rw [if_pos hk] at e3
    cases hs : seqOf w with
    | none => rw [hs] at e3; cases e3
    | some us =>
      rw [hs] at e3
      cases e3
      have ev := he.kept.run pins s σ H (fun v H1 => ∃ a b vs, v = .ref a ∧ SqB b X.K H1 a vs ∧ R (ItS X.K b a) H1) I ⟨m, F, O, fr, st, k, w, st', R0, e2, hk, fun m1 O1 v H1 g1 R1 d1 => by
        obtain ⟨a, rfl, sv⟩ := seqV_kept (G := F) d1 R1.mO hs
        obtain ⟨vs, sq, _, _⟩ := sv.sq R1.mO GrowF.refl
        refine ⟨a, isLst w, vs, rfl, sq, q m1 O1 _ H1 g1 R1 ?_⟩
        rw [if_pos rfl]
        exact yields_seq R1.mO sv⟩
      refine thn ev fun v s1 hv => ?_
      obtain ⟨x, H2, I2, r2, a, b, vs, rfl, sq, z⟩ := hv
      cases r2
      exact iter_seq I2 sq z
  · rw [if_neg hk] at e3; cases e3
theorem ri_seqL {tg e : Expr} {p : PX} (he : RE X e p) : RI X tg e false (iSeqL p) := by
  refine ⟨fun pins s σ H R I h => ?_⟩
  obtain ⟨m, F, O, fr, st, ws, st', R0, _, e1, q⟩ := h
  obtain ⟨⟨k, w⟩, s1, e2, e3⟩ := Res.bind_eq e1
  have e3 : (match seqOf w with | some ws => Res.ok ws s1 | none => Res.bad) = Res.ok ws st' := e3
  cases hs : seqOf w with
  | none => rw [hs] at e3; cases e3
  | some us =>
    rw [hs] at e3
    cases e3
    have ev := he.look.run pins s σ H (fun v H1 => ∃ a b vs, v = .ref a ∧ SqB b X.K H1 a vs ∧ R (ItS X.K b a) H1) I ⟨m, F, O, fr, st, k, w, st', R0, e2, fun m1 O1 v H1 g1 R1 d1 => by
      obtain ⟨a, rfl, sv⟩ := seqV_look d1 hs
      obtain ⟨vs, sq, _, _⟩ := sv.sq R1.mO GrowF.refl
      refine ⟨a, isLst w, vs, rfl, sq, q m1 O1 _ H1 g1 R1 ?_⟩
      rw [if_neg Bool.false_ne_true]
      exact yields_seq R1.mO sv⟩
    refine thn ev fun v s1 hv => ?_
    obtain ⟨x, H2, I2, r2, a, b, vs, rfl, sq, z⟩ := hv
    cases r2
    exact iter_seq I2 sq z
/-- the script -/
def iScr (p : PX) : PL := fun fr st => (p fr st).bind fun x s1 => match x.2 with | .scr ns => .ok (ns.map W.int) s1 | _ => .bad
theorem yields_scr {ns : List Int} {v : V} (hm : ∀ n a, m n = some a → O a) (d : Den K m O H (.scr ns) v) : ∃ a, v = .ref a ∧ SqL K H a (ns.map V.int) ∧ Yields K G m O H (Itl K a) (ns.map W.int) := by
  have at_ : ∀ {m2 : Mp} {O2 : Op} {H2 : Hp}, Den K m2 O2 H2 (.scr ns) v → ∃ a, v = .ref a ∧ SqL K H2 a (ns.map V.int) := fun d => by
    unfold Den at d
    obtain ⟨a, e, s⟩ := d
    rcases s with ⟨_, s⟩ | s
    · exact ⟨a, e, .inl s⟩
    · exact ⟨a, e, s _⟩
  obtain ⟨a, rfl, sq⟩ := at_ d
  refine ⟨a, rfl, sq, fun m2 O2 H2 g hm2 i => ?_⟩
  obtain ⟨a', e', sq2⟩ := at_ (Den.grow g hm _ _ d)
  cases e'
  refine ⟨fun w hw => ?_, fun hi => ⟨_, sq2, by rw [hi, List.length_map, List.length_map]; omega⟩⟩
  rw [List.getElem?_map] at hw
  cases hn : ns[i]? with
  | none => rw [hn] at hw; cases hw
  | some n =>
    rw [hn] at hw
    cases hw
    have hx : (ns.map V.int)[i]? = some (.int n) := by rw [List.getElem?_map, hn]; rfl
    refine ⟨⟨_, _, sq2, hx⟩, fun y H3 hy => ?_⟩
    obtain ⟨rfl, hy⟩ := hy
    have := hy _ sq2
    rw [hx] at this
    cases this
    exact ⟨fun _ _ e => e, by unfold Den; rfl⟩
theorem ri_scr {tg e : Expr} {p : PX} {c : Bool} (he : RE X e p) : RI X tg e c (iScr p) := (pi_list he.look).imp fun σ H R h => by
  obtain ⟨m, F, O, fr, st, ws, st', R0, _, e1, q⟩ := h
  obtain ⟨⟨k, w⟩, s1, e2, e3⟩ := Res.bind_eq e1
  cases w with
  | scr ns =>
    cases e3
    refine ⟨m, F, O, fr, st, k, .scr ns, st', R0, e2, fun m1 O1 v H1 g1 R1 d1 => ?_⟩
    obtain ⟨a, rfl, sq, y⟩ := yields_scr (G := if c = true then F else allA) R1.mO (show Den X.K m1 O1 H1 (.scr ns) v from d1)
    exact ⟨a, rfl, ⟨_, sq⟩, q m1 O1 _ H1 g1 R1 y⟩
  | _ => cases e3
/-- ranges -/
def rngW (lo : Int) (n : Nat) : List W := (List.range n).map fun i => .int (lo + (i : Nat))
theorem yields_rng {lo : Int} {n : Nat} : Yields K G m O H (Itr lo n) (rngW lo n) := fun m2 O2 H2 g hm2 i => by
  unfold rngW
  refine ⟨fun w hw => ?_, fun hi => by simp at hi; exact Nat.le_of_eq hi.symm⟩
  rw [List.getElem?_map] at hw
  by_cases hi : i < n
  · rw [List.getElem?_range hi] at hw
    cases hw
    exact ⟨hi, fun x H3 hx => by obtain ⟨rfl, rfl⟩ := hx; exact ⟨fun _ _ e => e, by unfold Den; rfl⟩⟩
  · rw [List.getElem?_eq_none (by simpa using hi)] at hw; cases hw
def inR (j : Int) : Prop := -(2 ^ 62) ≤ j ∧ j < 2 ^ 62
instance (j : Int) : Decidable (inR j) := by unfold inR; infer_instance
def iRng1 (r : PL) : PL := fun fr st => (r fr st).bind fun ws s1 => match ws with
  | [.int j] => grd (inR j) (.ok (rngW 0 j.toNat) s1)
  | _ => .bad
def iRng2 (r : PL) : PL := fun fr st => (r fr st).bind fun ws s1 => match ws with
  | [.int i, .int j] => grd (inR i ∧ inR j) (.ok (rngW i (j - i).toNat) s1)
  | _ => .bad
theorem dens_int1 {i : Int} {vs : List V} (d : Dens K m O H [.int i] vs) : vs = [.int i] := by
  unfold Dens at d
  obtain ⟨v, r, rfl, d1, d2⟩ := d
  unfold Den at d1
  unfold Dens at d2
  subst d1 d2
  rfl
theorem dens_cons {w : W} {ws : List W} {vs : List V} (d : Dens K m O H (w :: ws) vs) : ∃ v r, vs = v :: r ∧ Den K m O H w v ∧ Dens K m O H ws r := by
  unfold Dens at d
  exact d
theorem dens_end {vs : List V} (d : Dens K m O H [] vs) : vs = [] := by unfold Dens at d; exact d
theorem ri_rng1 {tg a : Expr} {r : PL} {c : Bool} {p : Pos} (hg : Gl X "range") (hm : X.mg "range" = none) (ha : RA X [a] r) (hs : starEach [a] X.env = [(false, eval a X.env)] := by rfl) : RI X tg (.Call (.Name "range" p) [a] [] pos) c (iRng1 r) :=
  (pi_range1 hg hm ha hs).imp fun σ H R h => by
    obtain ⟨m, F, O, fr, st, ws, st', R0, _, e1, q⟩ := h
    obtain ⟨us, s1, e2, e3⟩ := Res.bind_eq e1
    match us, e2, e3 with
    | [.int j], e2, e3 =>
      obtain ⟨hj, e3⟩ := grd_ok e3
      cases e3
      exact ⟨m, F, O, fr, st, [.int j], st', R0, e2, fun m1 O1 vs H1 g1 R1 d1 => ⟨j, dens_int1 d1, hj.1, hj.2, q m1 O1 _ H1 g1 R1 yields_rng⟩⟩
theorem ri_rng2 {tg a b : Expr} {r : PL} {c : Bool} {p : Pos} (hg : Gl X "range") (hm : X.mg "range" = none) (ha : RA X [a, b] r) (hs : starEach [a, b] X.env = [(false, eval a X.env), (false, eval b X.env)] := by rfl) (hs2 : starEach [b] X.env = [(false, eval b X.env)] := by rfl) :
    RI X tg (.Call (.Name "range" p) [a, b] [] pos) c (iRng2 r) := (pi_range2 hg hm ha hs hs2).imp fun σ H R h => by
    obtain ⟨m, F, O, fr, st, ws, st', R0, _, e1, q⟩ := h
    obtain ⟨us, s1, e2, e3⟩ := Res.bind_eq e1
    match us, e2, e3 with
    | [.int i, .int j], e2, e3 =>
      obtain ⟨hj, e3⟩ := grd_ok e3
      cases e3
      exact ⟨m, F, O, fr, st, [.int i, .int j], st', R0, e2, fun m1 O1 vs H1 g1 R1 d1 => by
        obtain ⟨v, r, rfl, da, d2⟩ := dens_cons d1
        obtain rfl := dens_int1 d2
        unfold Den at da
        subst da
        exact ⟨i, j, rfl, ⟨hj.1.1, hj.1.2, hj.2.1, hj.2.2⟩, q m1 O1 _ H1 g1 R1 yields_rng⟩⟩
/-- zip -/
def zipW (xs ys : List W) : List W := List.zipWith (fun x y => .tup [x, y]) xs ys
def zip3W (xs ys zs : List W) : List W := List.zipWith (fun x p => .tup (x :: p)) xs (List.zipWith (fun y z => [y, z]) ys zs)
theorem zipW_get {xs ys : List W} {i : Nat} {w : W} (h : (zipW xs ys)[i]? = some w) : ∃ x y, xs[i]? = some x ∧ ys[i]? = some y ∧ w = .tup [x, y] := by
  unfold zipW at h
  rw [List.getElem?_zipWith] at h
  cases hx : xs[i]? with
  | none => rw [hx] at h; cases h
  | some x => cases hy : ys[i]? with
    | none => rw [hx, hy] at h; cases h
    | some y => rw [hx, hy] at h; cases h; exact ⟨x, y, rfl, rfl, rfl⟩
theorem zip3W_get {xs ys zs : List W} {i : Nat} {w : W} (h : (zip3W xs ys zs)[i]? = some w) : ∃ x y z, xs[i]? = some x ∧ ys[i]? = some y ∧ zs[i]? = some z ∧ w = .tup [x, y, z] := by
  unfold zip3W at h
  rw [List.getElem?_zipWith, List.getElem?_zipWith] at h
  cases hx : xs[i]? with
  | none => rw [hx] at h; cases h
  | some x => cases hy : ys[i]? with
    | none => rw [hx, hy] at h; cases h
    | some y => cases hz : zs[i]? with
      | none => rw [hx, hy, hz] at h; cases h
      | some z => rw [hx, hy, hz] at h; cases h; exact ⟨x, y, z, rfl, rfl, rfl, rfl⟩
theorem den_pair {T : Addr} {x y : W} {u v : V} (hn : H T = none) (hm : ∀ n a, m n = some a → O a) (d1 : Den K m O H x u) (d2 : Den K m O H y v) : (∀ b o, H b = some o → upd H T (.tup [u, v]) b = some o) ∧ Den K m O (upd H T (.tup [u, v])) (.tup [x, y]) (.ref T) := by
  have ex : ∀ b o, H b = some o → upd H T (.tup [u, v]) b = some o := fun b o e => by rw [upd_ne (ne_of_none e hn)]; exact e
  refine ⟨ex, ?_⟩
  unfold Den
  refine ⟨T, _, rfl, upd_same, ?_⟩
  unfold Dens
  refine ⟨u, [v], rfl, Den.grow (Grow.ext ex) hm _ _ d1, ?_⟩
  unfold Dens
  exact ⟨v, [], rfl, Den.grow (Grow.ext ex) hm _ _ d2, by unfold Dens; rfl⟩
theorem den_tri {T : Addr} {x y z : W} {u v t : V} (hn : H T = none) (hm : ∀ n a, m n = some a → O a) (d1 : Den K m O H x u) (d2 : Den K m O H y v) (d3 : Den K m O H z t) : (∀ b o, H b = some o → upd H T (.tup [u, v, t]) b = some o) ∧ Den K m O (upd H T (.tup [u, v, t])) (.tup [x, y, z]) (.ref T) := by
  have ex : ∀ b o, H b = some o → upd H T (.tup [u, v, t]) b = some o := fun b o e => by rw [upd_ne (ne_of_none e hn)]; exact e
  refine ⟨ex, ?_⟩
  unfold Den
  refine ⟨T, _, rfl, upd_same, ?_⟩
  unfold Dens
  refine ⟨u, [v, t], rfl, Den.grow (Grow.ext ex) hm _ _ d1, ?_⟩
  unfold Dens
  refine ⟨v, [t], rfl, Den.grow (Grow.ext ex) hm _ _ d2, ?_⟩
  unfold Dens
  exact ⟨t, [], rfl, Den.grow (Grow.ext ex) hm _ _ d3, by unfold Dens; rfl⟩
theorem yields_zip {b1 b2 : Bool} {xs ys : List W} {l1 l2 : Addr} (hm : ∀ n a, m n = some a → O a) (s1 : SeqV K G m O H b1 xs l1) (s2 : SeqV K G m O H b2 ys l2) : Yields K G m O H (Zi2 K b1 b2 l1 l2) (zipW xs ys) := fun m2 O2 H2 g hm2 i => by
  obtain ⟨vs1, q1, d1, _⟩ := s1.sq hm g
  obtain ⟨vs2, q2, d2, _⟩ := s2.sq hm g
  refine ⟨fun w hw => ?_, fun hi => ⟨vs1, vs2, q1, q2, by rw [hi, dens_length d1, dens_length d2]; unfold zipW; rw [List.length_zipWith]⟩⟩
  obtain ⟨x, y, hx, hy, rfl⟩ := zipW_get hw
  obtain ⟨u, hu, du⟩ := dens_get d1 hx
  obtain ⟨v, hv, dv⟩ := dens_get d2 hy
  refine ⟨⟨vs1, vs2, u, v, q1, q2, hu, hv⟩, fun z H3 hz => ?_⟩
  obtain ⟨T, u', v', rfl, hT, rfl, f1, f2⟩ := hz
  have e1 := f1 vs1 q1
  have e2 := f2 vs2 q2
  rw [hu] at e1
  rw [hv] at e2
  cases e1
  cases e2
  exact den_pair hT hm2 du dv
theorem yields_zip3 {b1 b2 b3 : Bool} {xs ys zs : List W} {l1 l2 l3 : Addr} (hm : ∀ n a, m n = some a → O a) (s1 : SeqV K G m O H b1 xs l1) (s2 : SeqV K G m O H b2 ys l2) (s3 : SeqV K G m O H b3 zs l3) : Yields K G m O H (Zi3 K b1 b2 b3 l1 l2 l3) (zip3W xs ys zs) := fun m2 O2 H2 g hm2 i => by
  obtain ⟨vs1, q1, d1, _⟩ := s1.sq hm g
  obtain ⟨vs2, q2, d2, _⟩ := s2.sq hm g
  obtain ⟨vs3, q3, d3, _⟩ := s3.sq hm g
  refine ⟨fun w hw => ?_, fun hi => ⟨vs1, vs2, vs3, q1, q2, q3, by rw [hi, dens_length d1, dens_length d2, dens_length d3]; unfold zip3W; rw [List.length_zipWith, List.length_zipWith]; omega⟩⟩
  obtain ⟨x, y, z, hx, hy, hz, rfl⟩ := zip3W_get hw
  obtain ⟨u, hu, du⟩ := dens_get d1 hx
  obtain ⟨v, hv, dv⟩ := dens_get d2 hy
  obtain ⟨t, ht, dt⟩ := dens_get d3 hz
  refine ⟨⟨vs1, vs2, vs3, u, v, t, q1, q2, q3, hu, hv, ht⟩, fun z H3 hz => ?_⟩
  obtain ⟨T, u', v', t', rfl, hT, rfl, f1, f2, f3⟩ := hz
  have e1 := f1 vs1 q1
  have e2 := f2 vs2 q2
  have e3 := f3 vs3 q3
  rw [hu] at e1
  rw [hv] at e2
  rw [ht] at e3
  cases e1
  cases e2
  cases e3
  exact den_tri hT hm2 du dv dt
theorem enumW_get {xs : List W} {i : Nat} {w : W} (h : (zipW (rngW 0 xs.length) xs)[i]? = some w) : ∃ x, xs[i]? = some x ∧ w = .tup [.int (i : Nat), x] := by
  obtain ⟨a, x, ha, hx, rfl⟩ := zipW_get h
  unfold rngW at ha
  rw [List.getElem?_map, List.getElem?_range (List.getElem?_eq_some_iff.mp hx).1] at ha
  cases ha
  refine ⟨x, hx, ?_⟩
  show W.tup [.int (0 + (i : Nat)), x] = _
  rw [Int.zero_add]
theorem yields_enum {b : Bool} {xs : List W} {l : Addr} (hm : ∀ n a, m n = some a → O a) (s1 : SeqV K G m O H b xs l) : Yields K G m O H (Ei K b l) (zipW (rngW 0 xs.length) xs) := fun m2 O2 H2 g hm2 i => by
  obtain ⟨vs1, q1, d1, _⟩ := s1.sq hm g
  refine ⟨fun w hw => ?_, fun hi => ⟨vs1, q1, by rw [hi, dens_length d1]; unfold zipW rngW; rw [List.length_zipWith, List.length_map, List.length_range, Nat.min_self]⟩⟩
  obtain ⟨x, hx, rfl⟩ := enumW_get hw
  obtain ⟨u, hu, du⟩ := dens_get d1 hx
  refine ⟨⟨vs1, u, q1, hu⟩, fun z H3 hz => ?_⟩
  obtain ⟨T, u', rfl, hT, rfl, f1⟩ := hz
  have e1 := f1 vs1 q1
  rw [hu] at e1
  cases e1
  exact den_pair hT hm2 (show Den K m2 O2 H2 (.int (i : Nat)) (.int (i : Nat)) by unfold Den; rfl) du
/-- zip(e, f), zip(e, f, g), enumerate(e): the arguments kept -/
def iZip2 (r : PL) : PL := fun fr st => (r fr st).bind fun ws s1 => match ws with
  | [a, b] => (match seqOf a, seqOf b with | some xs, some ys => .ok (zipW xs ys) s1 | _, _ => .bad)
  | _ => .bad
def iZip3 (r : PL) : PL := fun fr st => (r fr st).bind fun ws s1 => match ws with
  | [a, b, c] => (match seqOf a, seqOf b, seqOf c with | some xs, some ys, some zs => .ok (zip3W xs ys zs) s1 | _, _, _ => .bad)
  | _ => .bad
def iEnum (r : PL) : PL := fun fr st => (r fr st).bind fun ws s1 => match ws with
  | [a] => (match seqOf a with | some xs => .ok (zipW (rngW 0 xs.length) xs) s1 | _ => .bad)
  | _ => .bad
theorem ri_zip2 {e e2 : Expr} {r : PL} {c : Bool} {p pos tpos : Pos} {elts : List Expr} {kk : Nat} (hg : Gl X "zip") (hm : X.mg "zip" = none) (ha : RA X [e, e2] r)
    (hs : starEach [e, e2] X.env = (false, eval e X.env) :: starEach [e2] X.env := by rfl) (hpl : (backTo pos (starEach [e2] X.env)).any (·.1) = false := by rfl) :
    RI X (.Tuple elts kk tpos) (.Call (.Name "zip" p) [e, e2] [] pos) c (iZip2 r) := by
  refine ⟨fun pins s σ H R I h => ?_⟩
  obtain ⟨m, F, O, fr, st, ws, st', R0, _, e1, q⟩ := h
  obtain ⟨us, s1, e2', e3⟩ := Res.bind_eq e1
  match us, e2', e3 with
  | [a, b], e2', e3 =>
    have e3 : (match seqOf a, seqOf b with | some xs, some ys => Res.ok (zipW xs ys) s1 | _, _ => Res.bad) = Res.ok ws st' := e3
    cases hx : seqOf a with
    | none => rw [hx] at e3; cases e3
    | some xs => cases hy : seqOf b with
      | none => rw [hx, hy] at e3; cases e3
      | some ys =>
        rw [hx, hy] at e3
        cases e3
        refine Call_ (ld_blt I hg hm PyProof.Rows.boot_zip (PyProof.Rows.callWith_type1 (thn (ha.run pos pins s σ H (fun vs H1 => ∃ a1 a2 b1 b2 v1 v2, vs = [.ref a1, .ref a2] ∧ SqB b1 X.K H1 a1 v1 ∧ SqB b2 X.K H1 a2 v2 ∧ R (Zi2 X.K b1 b2 a1 a2) H1) I
          ⟨m, F, O, fr, st, [a, b], st', R0, e2', fun m1 O1 vs H1 g1 R1 d1 => ?_⟩) fun us s2 hv => ?_) hs hpl))
        · obtain ⟨v1, r1, rfl, da, d2⟩ := dens_cons d1
          obtain ⟨v2, r2, rfl, db, d3⟩ := dens_cons d2
          obtain rfl := dens_end d3
          obtain ⟨a1, rfl, sv1⟩ := seqV_kept (G := if c = true then F else allA) da R1.mO hx
          obtain ⟨a2, rfl, sv2⟩ := seqV_kept (G := if c = true then F else allA) db R1.mO hy
          obtain ⟨x1, sq1, _⟩ := sv1.sq R1.mO GrowF.refl
          obtain ⟨x2, sq2, _⟩ := sv2.sq R1.mO GrowF.refl
          exact ⟨a1, a2, _, _, x1, x2, rfl, sq1, sq2, q m1 O1 _ H1 g1 R1 (yields_zip R1.mO sv1 sv2)⟩
        · obtain ⟨vs, H2, I2, rv, a1, a2, b1, b2, v1, v2, rfl, sq1, sq2, z⟩ := hv
          obtain ⟨u1, u2, rfl, r1, r2⟩ := vals2 rv
          cases r1
          cases r2
          obtain ⟨its, rv1, p1, l1⟩ := sq_have I2 sq1
          obtain ⟨its2, rv2, p2, l2⟩ := sq_have I2 sq2
          refine zip_begins2 (begins_B b1 a1 its.toArray) (begins_B b2 a2 its2.toArray) p1 p2 fun h' hz hTI hTO o1 o2 hsz hk => wpAny_pyIter_zip hz ?_
          have I3 : Inv X pins σ H2 { s2 with heap := h' } := I2.kept (t' := s2.toks) hk
          refine ⟨_, _, _, _, H2, rfl, I3, zi2_turn l1 l2, ⟨hz, hTI, ⟨_, _, hTO⟩, itB_start o1, itB_start o2⟩, fun d hd => ?_, z⟩
          have hle : s2.heap.objs.size ≤ d := by
            simp only [List.mem_cons, List.not_mem_nil, or_false] at hd
            rcases hd with rfl | rfl | rfl | rfl | rfl <;> first | exact Nat.le_add_right _ _ | exact Nat.le_refl _
          exact I2.fpOk hle (I2.hok.fresh hle)
theorem ri_zip3 {e e2 e3 : Expr} {r : PL} {c : Bool} {p pos tpos : Pos} {elts : List Expr} {kk : Nat} (hg : Gl X "zip") (hm : X.mg "zip" = none) (ha : RA X [e, e2, e3] r)
    (hs : starEach [e, e2, e3] X.env = (false, eval e X.env) :: starEach [e2, e3] X.env := by rfl) (hpl : (backTo pos (starEach [e2, e3] X.env)).any (·.1) = false := by rfl) :
    RI X (.Tuple elts kk tpos) (.Call (.Name "zip" p) [e, e2, e3] [] pos) c (iZip3 r) := by
  refine ⟨fun pins s σ H R I h => ?_⟩
  obtain ⟨m, F, O, fr, st, ws, st', R0, _, e1, q⟩ := h
  obtain ⟨us, s1, e2', e3'⟩ := Res.bind_eq e1
  match us, e2', e3' with
  | [a, b, d], e2', e3 =>
    have e3 : (match seqOf a, seqOf b, seqOf d with | some xs, some ys, some zs => Res.ok (zip3W xs ys zs) s1 | _, _, _ => Res.bad) = Res.ok ws st' := e3
    cases hx : seqOf a with
    | none => rw [hx] at e3; cases e3
    | some xs => cases hy : seqOf b with
      | none => rw [hx, hy] at e3; cases e3
      | some ys => cases hw : seqOf d with
        | none => rw [hx, hy, hw] at e3; cases e3
        | some zs =>
          rw [hx, hy, hw] at e3
          cases e3
          refine Call_ (ld_blt I hg hm PyProof.Rows.boot_zip (PyProof.Rows.callWith_type1 (thn (ha.run pos pins s σ H (fun vs H1 => ∃ a1 a2 a3 b1 b2 b3 v1 v2 v3, vs = [.ref a1, .ref a2, .ref a3] ∧ SqB b1 X.K H1 a1 v1 ∧ SqB b2 X.K H1 a2 v2 ∧ SqB b3 X.K H1 a3 v3 ∧ R (Zi3 X.K b1 b2 b3 a1 a2 a3) H1) I
            ⟨m, F, O, fr, st, [a, b, d], st', R0, e2', fun m1 O1 vs H1 g1 R1 d1 => ?_⟩) fun us s2 hv => ?_) hs hpl))
          · obtain ⟨v1, r1, rfl, da, d2⟩ := dens_cons d1
            obtain ⟨v2, r2, rfl, db, d3⟩ := dens_cons d2
            obtain ⟨v3, r3, rfl, dd, d4⟩ := dens_cons d3
            obtain rfl := dens_end d4
            obtain ⟨a1, rfl, sv1⟩ := seqV_kept (G := if c = true then F else allA) da R1.mO hx
            obtain ⟨a2, rfl, sv2⟩ := seqV_kept (G := if c = true then F else allA) db R1.mO hy
            obtain ⟨a3, rfl, sv3⟩ := seqV_kept (G := if c = true then F else allA) dd R1.mO hw
            obtain ⟨x1, sq1, _⟩ := sv1.sq R1.mO GrowF.refl
            obtain ⟨x2, sq2, _⟩ := sv2.sq R1.mO GrowF.refl
            obtain ⟨x3, sq3, _⟩ := sv3.sq R1.mO GrowF.refl
            exact ⟨a1, a2, a3, _, _, _, x1, x2, x3, rfl, sq1, sq2, sq3, q m1 O1 _ H1 g1 R1 (yields_zip3 R1.mO sv1 sv2 sv3)⟩
          · obtain ⟨vs, H2, I2, rv, a1, a2, a3, b1, b2, b3, v1, v2, v3, rfl, sq1, sq2, sq3, z⟩ := hv
            match us, rv with
            | [u1, u2, u3], .cons r1 (.cons r2 (.cons r3 .nil)) =>
              cases r1
              cases r2
              cases r3
              obtain ⟨its, rv1, p1, l1⟩ := sq_have I2 sq1
              obtain ⟨its2, rv2, p2, l2⟩ := sq_have I2 sq2
              obtain ⟨its3, rv3, p3, l3⟩ := sq_have I2 sq3
              refine zip_begins3 (begins_B b1 a1 its.toArray) (begins_B b2 a2 its2.toArray) (begins_B b3 a3 its3.toArray) p1 p2 p3 fun h' hz hTI hTO o1 o2 o3 hsz hk => wpAny_pyIter_zip hz ?_
              have I3 : Inv X pins σ H2 { s2 with heap := h' } := I2.kept (t' := s2.toks) hk
              refine ⟨_, _, _, _, H2, rfl, I3, zi3_turn l1 l2 l3, ⟨hz, hTI, ⟨_, _, _, hTO⟩, itB_start o1, itB_start o2, itB_start o3⟩, fun d hd => ?_, z⟩
              have hle : s2.heap.objs.size ≤ d := by
                simp only [List.mem_cons, List.not_mem_nil, or_false] at hd
                rcases hd with rfl | rfl | rfl | rfl | rfl | rfl <;> first | exact Nat.le_add_right _ _ | exact Nat.le_refl _
              exact I2.fpOk hle (I2.hok.fresh hle)
theorem ri_enum {e : Expr} {r : PL} {c : Bool} {p pos tpos : Pos} {elts : List Expr} {kk : Nat} (hg : Gl X "enumerate") (hm : X.mg "enumerate" = none) (ha : RA X [e] r) (hs : starEach [e] X.env = [(false, eval e X.env)] := by rfl) :
    RI X (.Tuple elts kk tpos) (.Call (.Name "enumerate" p) [e] [] pos) c (iEnum r) := by
  refine ⟨fun pins s σ H R I h => ?_⟩
  obtain ⟨m, F, O, fr, st, ws, st', R0, _, e1, q⟩ := h
  obtain ⟨us, s1, e2', e3⟩ := Res.bind_eq e1
  match us, e2', e3 with
  | [a], e2', e3 =>
    have e3 : (match seqOf a with | some xs => Res.ok (zipW (rngW 0 xs.length) xs) s1 | _ => Res.bad) = Res.ok ws st' := e3
    cases hx : seqOf a with
    | none => rw [hx] at e3; cases e3
    | some xs =>
      rw [hx] at e3
      cases e3
      refine Call_ (ld_blt I hg hm boot_enumerate (PyProof.Rows.callWith_type1 (thn (ha.run pos pins s σ H (fun vs H1 => ∃ a1 b1 v1, vs = [.ref a1] ∧ SqB b1 X.K H1 a1 v1 ∧ R (Ei X.K b1 a1) H1) I
        ⟨m, F, O, fr, st, [a], st', R0, e2', fun m1 O1 vs H1 g1 R1 d1 => ?_⟩) fun us s2 hv => ?_) hs rfl))
      · obtain ⟨v1, r1, rfl, da, d2⟩ := dens_cons d1
        obtain rfl := dens_end d2
        obtain ⟨a1, rfl, sv1⟩ := seqV_kept (G := if c = true then F else allA) da R1.mO hx
        obtain ⟨x1, sq1, _⟩ := sv1.sq R1.mO GrowF.refl
        exact ⟨a1, _, x1, rfl, sq1, q m1 O1 _ H1 g1 R1 (yields_enum R1.mO sv1)⟩
      · obtain ⟨vs, H2, I2, rv, a1, b1, v1, rfl, sq1, z⟩ := hv
        obtain ⟨u1, rfl, r1⟩ := vals1 rv
        cases r1
        obtain ⟨its, rv1, p1, l1⟩ := sq_have I2 sq1
        refine enum_call p1 fun h' he o1 hk => wpAny_pyIter_enum he ?_
        have I3 : Inv X pins σ H2 { s2 with heap := h' } := I2.kept (t' := s2.toks) hk
        refine ⟨_, _, _, _, H2, rfl, I3, ei_turn l1, ⟨⟨.none, he⟩, o1⟩, fun d hd => ?_, z⟩
        have hle : s2.heap.objs.size ≤ d := by
          simp only [List.mem_cons, List.not_mem_nil, or_false] at hd
          rcases hd with rfl | rfl <;> first | exact Nat.le_add_right _ _ | exact Nat.le_refl _
        exact I2.fpOk hle (I2.hok.fresh hle)
end
end Vy

set_option Elab.async false
set_option linter.all false
set_option maxRecDepth 100000
set_option maxHeartbeats 4000000
/-! Calls of built-ins, dicts, shared objects, methods, several targets. -/
namespace Vy
open PySem PySem.Spec PyProof.Rows L2

section
variable {K : PySem.W.Frag} {X : Cx} {m m' m1 : Mp} {F O O' O1 G : Op} {H H' H1 : Hp} {σ : L2.St} {fr : Frame} {st st1 : Store} {pos : Pos}

/-! ### one argument, looked at -/
def eC1 (f : W → Store → Res (Kd × W)) (p : PX) : PX := fun fr st => (p fr st).bind fun x s1 => f x.2 s1
def rC1 (X : Cx) (f : W → Store → Res (Kd × W)) : List V → Hp → VK → Prop := fun xs H Q => ∃ m F O σ fr st k w st' a x, xs = [x] ∧ Rel X.K m F O σ H fr st ∧ LDen X.K m O H a x ∧ f a st = .ok (k, w) st' ∧
  ∀ m' O' v H', Grow m O H m' O' H' → Rel X.K m' F O' σ H' fr st' → RDen X.K m' F O' σ H' fr k w v → Q v H'
def CallI (X : Cx) (g : Value) (f : W → Store → Res (Kd × W)) : Prop := CallR X g (rC1 X f)
theorem t_c1 {f : W → Store → Res (Kd × W)} {p : PX} {Q : VK} (q : tI X.K (eC1 f p) σ H Q) : tCB (rC1 X f) (tCons (tL X.K p) tNil) σ H Q := by
  obtain ⟨m, F, O, fr, st, k, w, st', R, e, q⟩ := q
  obtain ⟨⟨k1, x⟩, s1, e1, e⟩ := Res.bind_eq e
  exact ⟨m, F, O, fr, st, k1, x, s1, R, e1, fun m1 O1 v H1 g1 R1 d1 => ⟨m1, F, O1, σ, fr, s1, k, w, st', x, v, rfl, R1, d1, e, fun m' O' v H' g R' d => q m' O' v H' (g1.trans g) R' d⟩⟩
theorem re_c1B {f : W → Store → Res (Kd × W)} {id : String} {x : Str} {e : Expr} {p : Pos} {pe : PX} (hc : CallI X (.builtin id) f) (hg : Gl X x) (hm : X.mg x = none) (hv : bootBuiltins x = some (.builtin id)) (he : RE X e pe)
    (hn : x ≠ "__name__" := by decide) (hdb : (x == ("__debug__" : Str)) = false := by decide) (hs : starEach [e] X.env = [(false, eval e X.env)] := by rfl) : RE X (.Call (.Name x p) [e] [] pos) (eC1 f pe) :=
  (pe_callB hc hg hm hv (pa_cons he.look pa_nil hs) hn hdb hs).imp fun _ _ _ q => t_c1 q
theorem re_c1T {f : W → Store → Res (Kd × W)} {T : String} {x : Str} {e : Expr} {p : Pos} {pe : PX} (hc : CallI X (.type T) f) (hg : Gl X x) (hm : X.mg x = none) (hv : bootBuiltins x = some (.type T)) (he : RE X e pe)
    (hn : x ≠ "__name__" := by decide) (hdb : (x == ("__debug__" : Str)) = false := by decide) (hs : starEach [e] X.env = [(false, eval e X.env)] := by rfl) : RE X (.Call (.Name x p) [e] [] pos) (eC1 f pe) :=
  (pe_callTy hc hg hm hv (pa_cons he.look pa_nil hs) hn hdb hs).imp fun _ _ _ q => t_c1 q
/-- arguments kept -/
def eCA (f : List W → Store → Res (Kd × W)) (r : PL) : PX := fun fr st => (r fr st).bind fun ws s1 => f ws s1
def rCA (X : Cx) (f : List W → Store → Res (Kd × W)) : List V → Hp → VK → Prop := fun xs H Q => ∃ m F O σ fr st k w st' a, Rel X.K m F O σ H fr st ∧ Dens X.K m O H a xs ∧ f a st = .ok (k, w) st' ∧
  ∀ m' O' v H', Grow m O H m' O' H' → Rel X.K m' F O' σ H' fr st' → RDen X.K m' F O' σ H' fr k w v → Q v H'
def CallA (X : Cx) (g : Value) (f : List W → Store → Res (Kd × W)) : Prop := CallR X g (rCA X f)
theorem t_cA {f : List W → Store → Res (Kd × W)} {r : PL} {Q : VK} (q : tI X.K (eCA f r) σ H Q) : tCB (rCA X f) (tA X.K r) σ H Q := by
  obtain ⟨m, F, O, fr, st, k, w, st', R, e, q⟩ := q
  obtain ⟨ws, s1, e1, e⟩ := Res.bind_eq e
  exact ⟨m, F, O, fr, st, ws, s1, R, e1, fun m1 O1 vs H1 g1 R1 d1 => ⟨m1, F, O1, σ, fr, s1, k, w, st', ws, R1, d1, e, fun m' O' v H' g R' d => q m' O' v H' (g1.trans g) R' d⟩⟩
theorem re_cAB {f : List W → Store → Res (Kd × W)} {id : String} {x : Str} {e : Expr} {es : List Expr} {p : Pos} {r : PL} (hc : CallA X (.builtin id) f) (hg : Gl X x) (hm : X.mg x = none) (hv : bootBuiltins x = some (.builtin id)) (ha : RA X (e :: es) r)
    (hn : x ≠ "__name__" := by decide) (hdb : (x == ("__debug__" : Str)) = false := by decide)
    (he : starEach (e :: es) X.env = (false, eval e X.env) :: starEach es X.env := by rfl) (hpl : (backTo pos (starEach es X.env)).any (·.1) = false := by rfl) : RE X (.Call (.Name x p) (e :: es) [] pos) (eCA f r) :=
  (pe_callB hc hg hm hv ha hn hdb he hpl).imp fun _ _ _ q => t_cA q
theorem re_cAF {f : List W → Store → Res (Kd × W)} {id : String} {x : Str} {e : Expr} {es : List Expr} {p : Pos} {r : PL} (hc : CallA X (.builtin id) f) (hg : Gl X x) (hm : X.mg x = some (.builtin id)) (ha : RA X (e :: es) r)
    (hdb : (x == ("__debug__" : Str)) = false := by decide)
    (he : starEach (e :: es) X.env = (false, eval e X.env) :: starEach es X.env := by rfl) (hpl : (backTo pos (starEach es X.env)).any (·.1) = false := by rfl) : RE X (.Call (.Name x p) (e :: es) [] pos) (eCA f r) :=
  (pe_callBfun hc hg hm ha hdb he hpl).imp fun _ _ _ q => t_cA q

def obLen : Ob → Nat
  | .lst ws => ws.length
  | .dct ks ws => ws.length
def fLen : W → Store → Res (Kd × W)
  | .lst ws, st => okS (.int ws.length) st
  | .tup ws, st => okS (.int ws.length) st
  | .str z, st => if z.length ≤ sizeLine then okS (.int z.length) st else .bad
  | .dct _ ws, st => okS (.int ws.length) st
  | .ref n, st => match st[n]? with
    | some o => okS (.int (obLen o)) st
    | none => .bad
  | _, _ => .bad
theorem len_dct {a : Addr} {pins : List (Addr × Obj)} {s : Shared} {σ' : L2.St} {us : List Value} {Q : VK} {ks : Kys} {ws : List W} {vs : List V} (I : Inv X pins σ' H s) (r : Vals [V.ref a] us) (h1 : DictAt H a ks vs) (d1 : Dens X.K m O H ws vs) (q : Q (.int ws.length) H) :
    wpAny (model X.prog X.w) X.A (call (.builtin "len") us) (EP X pins σ' Q) X.xe s := by
  have hl := dens_length d1
  obtain ⟨u, rfl, ru⟩ := vals1 r
  cases ru
  cases ks with
  | k l =>
    obtain ⟨kvs, _, rfl, e⟩ := h1
    rw [List.length_map] at hl
    exact d_len I e fun t s' I' => ⟨.int kvs.length, H, I', ⟨t, rfl⟩, by rw [hl]; exact q⟩
  | t l =>
    obtain ⟨kvs, _, rfl, e⟩ := h1
    rw [List.length_map] at hl
    obtain ⟨z, hd, ys, rel, dd⟩ := dt_rd I.hok e
    have hl2 : kvs.length = ys.length := Paired.length rel
    refine call_len_dictH hd dd (by rw [← hl2]; rw [sizeLine_eq] at z; omega) ?_
    rw [← hl2]
    exact ⟨.int ((kvs.length : Nat) : Int), H, I.tok _, ⟨_, rfl⟩, by rw [hl]; exact q⟩
theorem len_obj {o : Ob} {a : Addr} {pins : List (Addr × Obj)} {s : Shared} {σ' : L2.St} {us : List Value} {Q : VK} (I : Inv X pins σ' H s) (r : Vals [V.ref a] us) (d : ObAt X.K m O H a o) (q : Q (.int (obLen o)) H) :
    wpAny (model X.prog X.w) X.A (call (.builtin "len") us) (EP X pins σ' Q) X.xe s := by
  cases o with
  | lst ws =>
    obtain ⟨vs, h1, d1⟩ := d
    refine call_len_seq pins s σ' H _ us Q I r ⟨a, vs, rfl, .inl (SqL.of h1), ?_⟩
    rw [dens_length d1]
    exact q
  | dct ks ws =>
    obtain ⟨vs, h1, d1⟩ := d
    exact len_dct I r h1.to d1 q
theorem ci_len : CallI X (.builtin "len") fLen := fun pins s σ H xs us Q I r h => by
  obtain ⟨m, F, O, σ', fr, st, k, w, st', a, x, rfl, R, d, e, q⟩ := h
  cases a with
  | lst ws =>
    cases e
    obtain ⟨a, rfl, _, d⟩ := d
    exact len_obj I r d (q m O _ H Grow.refl R mk_int)
  | dct ks ws =>
    cases e
    obtain ⟨a, rfl, _, vs, h1, d1⟩ := d
    exact len_dct I r h1 d1 (q m O _ H Grow.refl R mk_int)
  | tup ws =>
    cases e
    obtain ⟨a, vs, rfl, h1, d1⟩ := lden_tup d
    exact call_len_seq pins s σ H _ us Q I r ⟨a, vs, rfl, .inr (SqT.of h1), q m O _ H Grow.refl R (by rw [dens_length d1]; exact mk_int)⟩
  | str z =>
    have e : (if z.length ≤ sizeLine then okS (.int z.length) st else .bad) = Res.ok (k, w) st' := e
    by_cases hz : z.length ≤ sizeLine
    · rw [if_pos hz] at e
      cases e
      exact call_len_str pins s σ H _ us Q I r ⟨z, by rw [den_str d], hz, q m O _ H Grow.refl R mk_int⟩
    · rw [if_neg hz] at e; cases e
  | ref n =>
    have e : (match st[n]? with | some o => okS (.int (obLen o)) st | none => .bad) = Res.ok (k, w) st' := e
    unfold LDen Den at d
    obtain ⟨a, hn, rfl⟩ := d
    obtain ⟨o, eo, d⟩ := R.obj n a hn
    rw [eo] at e
    cases e
    exact len_obj I r d (q m O _ H Grow.refl R mk_int)
  | _ => cases e
def fInt : W → Store → Res (Kd × W)
  | .int i, st => okS (.int i) st
  | _, _ => .bad
theorem ci_int : CallI X (.type "int") fInt := fun pins s σ H xs us Q I r h => by
  obtain ⟨m, F, O, σ', fr, st, k, w, st', a, x, rfl, R, d, e, q⟩ := h
  cases a with
  | int i => cases e; exact call_int1 pins s σ H _ us Q I r (.inl ⟨i, by rw [den_int d], q m O _ H Grow.refl R mk_int⟩)
  | _ => cases e
def fAbs : W → Store → Res (Kd × W)
  | .int i, st => okS (.int (if i < 0 then -i else i)) st
  | _, _ => .bad
theorem ci_abs : CallI X (.builtin "abs") fAbs := fun pins s σ H xs us Q I r h => by
  obtain ⟨m, F, O, σ', fr, st, k, w, st', a, x, rfl, R, d, e, q⟩ := h
  cases a with
  | int i => cases e; exact call_abs pins s σ H _ us Q I r ⟨i, by rw [den_int d], q m O _ H Grow.refl R mk_int⟩
  | _ => cases e
theorem lden_seq {a : W} {ws : List W} {x : V} (d : LDen K m O H a x) (e : seqOf a = some ws) : ∃ p vs, x = .ref p ∧ (SqL K H p vs ∨ SqT K H p vs) ∧ Dens K m O H ws vs := by
  cases a <;> first
    | cases e; obtain ⟨p, vs, rfl, h1, d1⟩ := lden_tup d; exact ⟨p, vs, rfl, .inr (SqT.of h1), d1⟩
    | cases e; obtain ⟨p, vs, rfl, _, h1, d1⟩ := lden_lst d; exact ⟨p, vs, rfl, .inl (SqL.of h1), d1⟩
    | cases e
def fList (a : W) (st : Store) : Res (Kd × W) := match seqOf a with
  | some ws => .ok (.fr, .lst ws) st
  | none => .bad
theorem ci_list : CallI X (.type "list") fList := fun pins s σ H xs us Q I r h => by
  obtain ⟨m, F, O, σ', fr, st, k, w, st', a, x, rfl, R, d, e, q⟩ := h
  unfold fList at e
  cases hs : seqOf a with
  | none => rw [hs] at e; cases e
  | some ws =>
    rw [hs] at e
    cases e
    obtain ⟨p, vs, rfl, h1, d1⟩ := lden_seq d hs
    refine call_list_of pins s σ H _ us Q I r ⟨p, vs, rfl, h1, fun l hl => ?_⟩
    obtain ⟨g2, R2, d3⟩ := new_lst R d1 hl
    exact q m _ _ _ g2 R2 d3
def fTuple (a : W) (st : Store) : Res (Kd × W) := match a with
  | .lst ws => okS (.tup ws) st
  | .tup ws => okS (.tup ws) st
  | _ => .bad
theorem ci_tuple : CallI X (.type "tuple") fTuple := fun pins s σ H xs us Q I r h => by
  obtain ⟨m, F, O, σ', fr, st, k, w, st', a, x, rfl, R, d, e, q⟩ := h
  cases a with
  | lst ws =>
    cases e
    obtain ⟨p, vs, rfl, _, h1, d1⟩ := lden_lst d
    refine call_tuple_of pins s σ H _ us Q I r ⟨p, vs, rfl, .inl ⟨SqL.of h1, fun l hl => ?_⟩⟩
    obtain ⟨g2, R2, d3⟩ := new_tup R d1 hl
    exact q m _ _ _ g2 R2 d3
  | tup ws =>
    cases e
    obtain ⟨p, vs, rfl, h1, d1⟩ := lden_tup d
    exact call_tuple_of pins s σ H _ us Q I r ⟨p, vs, rfl, .inr ⟨SqT.of h1, q m O _ H Grow.refl R (rden_tup h1 d1)⟩⟩
  | _ => cases e
def fGcd : List W → Store → Res (Kd × W)
  | [.int a, .int b], st => okS (.int ((Nat.gcd a.natAbs b.natAbs : Nat) : Int)) st
  | _, _ => .bad
theorem ca_gcd : CallA X (.builtin "math.gcd") fGcd := fun pins s σ H xs us Q I r h => by
  obtain ⟨m, F, O, σ', fr, st, k, w, st', a, R, d, e, q⟩ := h
  match a, e, d with
  | [.int i, .int j], e, d =>
    cases e
    obtain ⟨v1, r1, rfl, da, d2⟩ := dens_cons d
    obtain ⟨v2, r2, rfl, db, d3⟩ := dens_cons d2
    obtain rfl := dens_end d3
    exact cr_gcd pins s σ H _ us Q I r ⟨i, j, by rw [den_int (Den.loose R.mO da), den_int (Den.loose R.mO db)], q m O _ H Grow.refl R mk_int⟩

def intsOf : List W → Option (List Int)
  | [] => some []
  | .int i :: ws => (intsOf ws).map (i :: ·)
  | _ :: _ => none
theorem intsOf_map : ∀ {ws : List W} {ns : List Int}, intsOf ws = some ns → ws = ns.map W.int
  | [], _, e => by cases e; rfl
  | w :: ws, ns, e => by
    cases w with
    | int i =>
      have e : (intsOf ws).map (i :: ·) = some ns := e
      cases h : intsOf ws with
      | none => rw [h] at e; cases e
      | some l => rw [h] at e; cases e; rw [intsOf_map h]; rfl
    | _ => cases e
theorem dens_ints : ∀ {ns : List Int} {vs : List V}, Dens K m O H (ns.map W.int) vs → vs = ns.map V.int
  | [], _, d => dens_end d
  | n :: ns, _, d => by
    obtain ⟨v, r, rfl, da, d2⟩ := dens_cons (w := .int n) (ws := ns.map W.int) d
    unfold Den at da
    rw [da, dens_ints d2]
    rfl
def maxI : List Int → Int
  | [] => 0
  | n :: ns => ns.foldl max n
theorem fold_max : ∀ (ns : List Int) (n : Int), (ns.foldl max n = n ∨ ns.foldl max n ∈ ns) ∧ n ≤ ns.foldl max n ∧ ∀ y ∈ ns, y ≤ ns.foldl max n
  | [], n => ⟨.inl rfl, Int.le_refl _, fun _ h => nomatch h⟩
  | x :: ns, n => by
    obtain ⟨h1, h2, h3⟩ := fold_max ns (max n x)
    show ((ns.foldl max (max n x) = n ∨ ns.foldl max (max n x) ∈ x :: ns) ∧ n ≤ ns.foldl max (max n x) ∧ ∀ y ∈ x :: ns, y ≤ ns.foldl max (max n x))
    refine ⟨?_, by omega, fun y hy => ?_⟩
    · rcases h1 with h1 | h1
      · rw [h1]
        rcases Int.le_total n x with h | h
        · exact .inr (by rw [show max n x = x by omega]; exact List.mem_cons_self ..)
        · exact .inl (by omega)
      · exact .inr (List.mem_cons_of_mem _ h1)
    · rcases List.mem_cons.mp hy with rfl | hy
      · omega
      · exact h3 y hy
theorem maxI_is {ns : List Int} {k : Int} (hm : k ∈ ns) (h : ∀ y ∈ ns, y ≤ k) : k = maxI ns := by
  cases ns with
  | nil => cases hm
  | cons n ns =>
    obtain ⟨h1, h2, h3⟩ := fold_max ns n
    show k = ns.foldl max n
    have a : k ≤ ns.foldl max n := by
      rcases List.mem_cons.mp hm with rfl | hm
      · exact h2
      · exact h3 k hm
    have b : ns.foldl max n ≤ k := by
      rcases h1 with h1 | h1
      · rw [h1]; exact h n (List.mem_cons_self ..)
      · exact h _ (List.mem_cons_of_mem _ h1)
    omega
def fMax (a : W) (st : Store) : Res (Kd × W) := match a with
  | .lst ws => match intsOf ws with
    | some (n :: ns) => okS (.int (maxI (n :: ns))) st
    | _ => .bad
  | _ => .bad
theorem ci_max (hc : X.calm = true) : CallI X (.builtin "max") fMax := fun pins s σ H xs us Q I r h => by
  obtain ⟨m, F, O, σ', fr, st, k, w, st', a, x, rfl, R, d, e, q⟩ := h
  cases a with
  | lst ws =>
    have e : (match intsOf ws with | some (n :: ns) => okS (.int (maxI (n :: ns))) st | _ => .bad) = Res.ok (k, w) st' := e
    match hi : intsOf ws, e with
    | some (n :: ns), e =>
      cases e
      obtain ⟨p, vs, rfl, _, h1, d1⟩ := lden_lst d
      rw [intsOf_map hi] at d1
      rw [dens_ints d1] at h1
      exact cr_max hc pins s σ H _ us Q I r ⟨p, n :: ns, rfl, SqL.of h1, by simp, fun j hj hj2 => by rw [maxI_is hj hj2]; exact q m O _ H Grow.refl R mk_int⟩
  | _ => cases e
/-- max(xs, default=d) -/
def fMaxD (a b : W) (st : Store) : Res (Kd × W) := match a, b with
  | .lst ws, .int d => match intsOf ws with
    | some [] => okS (.int d) st
    | some (n :: ns) => okS (.int (maxI (n :: ns))) st
    | none => .bad
  | _, _ => .bad
theorem reads_ints {h : Heap} : ∀ {ns : List Int} {vs : List Value}, Vals (ns.map V.int) vs → ∃ as, ReadsAll h vs (ns.map PyData.int) as
  | [], _, r => by have r : Vals [] _ := r; cases r; exact ⟨[], ReadsAll.nil⟩
  | n :: ns, _, r => by
    have r : Vals (V.int n :: ns.map V.int) _ := r
    cases r with
    | cons h1 h2 =>
      obtain ⟨t, rfl⟩ := h1
      obtain ⟨as, q⟩ := reads_ints h2
      exact ⟨_, .cons (.int n t) q⟩
theorem dL_ints : ∀ xs : List Int, PyData.depthAll (xs.map PyData.int) = 0 := PySem.W.depth_ints
def eMaxD (p d : PX) : PX := fun fr st => (p fr st).bind fun x s1 => (d fr s1).bind fun y s2 => fMaxD x.2 y.2 s2
def rMaxDf (X : Cx) : List V → List V → Hp → VK → Prop := fun xs zs H Q => ∃ m F O σ fr st k w st' a b x z, xs = [x] ∧ zs = [z] ∧ Rel X.K m F O σ H fr st ∧ LDen X.K m O H a x ∧ LDen X.K m O H b z ∧ fMaxD a b st = .ok (k, w) st' ∧
  ∀ m' O' v H', Grow m O H m' O' H' → Rel X.K m' F O' σ H' fr st' → RDen X.K m' F O' σ H' fr k w v → Q v H'
theorem sortable_ints {ns : List Int} : PySem.W.AlikeAll (ns.map PyData.int) := by
  refine ⟨fun x hx y hy => ?_, fun x hx => ?_⟩
  · obtain ⟨a, _, rfl⟩ := List.mem_map.mp hx
    obtain ⟨b, _, rfl⟩ := List.mem_map.mp hy
    rfl
  · obtain ⟨a, _, rfl⟩ := List.mem_map.mp hx
    exact fun h => nomatch h
theorem cr_maxDf (hc : X.calm = true) (hu : X.A.units + 64 < cLine) : CallRK X (.builtin "max") [Str.ofString "default"] (rMaxDf X) := by
  intro pins s σ H xs zs us ws Q I r r2 h
  obtain ⟨m, F, O, σ', fr, st, k, w, st', a, b, x, z, rfl, rfl, R, da, db, e, q⟩ := h
  cases a with
  | lst ws =>
    cases b with
    | int d =>
      have e : (match intsOf ws with | some [] => okS (.int d) st | some (n :: ns) => okS (.int (maxI (n :: ns))) st | none => .bad) = Res.ok (k, w) st' := e
      cases hi : intsOf ws with
      | none => rw [hi] at e; cases e
      | some ns =>
        rw [hi] at e
        obtain ⟨p, vs, rfl, _, h1, d1⟩ := lden_lst da
        rw [intsOf_map hi] at d1
        rw [dens_ints d1] at h1
        obtain ⟨u, rfl, ru⟩ := r.one
        cases ru
        obtain ⟨u2, rfl, ru2⟩ := r2.one
        rw [den_int db] at ru2
        obtain ⟨t, rfl⟩ := ru2
        obtain ⟨its, rv, pl, hz⟩ := I.list (SqL.of h1)
        obtain ⟨as, rd⟩ := reads_ints (h := s.heap) rv
        have pl' := pl.isList
        refine PySem.W.max_list_default (I.ok.hd hc) pl' (xs := ns.map PyData.int) (as := as) (by simpa using rd) sortable_ints (by rw [dL_ints]; omega) (fun hnil h' tk hk => ?_) (fun y ys i v h' tk bs hys hv hr hk => ?_)
        · have hn : ns = [] := List.map_eq_nil_iff.mp hnil
          subst hn
          cases e
          exact ⟨.int d, H, I.kept (t' := tk) hk, ⟨t, rfl⟩, q m O _ H Grow.refl R mk_int⟩
        · cases ns with
          | nil => cases hys
          | cons n ns =>
            rw [List.map_cons] at hys
            injection hys with e1 e2
            subst e1 e2
            cases e
            rw [PySem.W.maxD_ints] at hr
            cases hr with
            | int i t => exact ⟨.int (maxI (n :: ns)), H, I.kept (t' := tk) hk, ⟨t, rfl⟩, q m O _ H Grow.refl R mk_int⟩
    | _ => cases e
  | _ => cases b <;> cases e
theorem re_maxD {e d : Expr} {p kp : Pos} {pe pd : PX} (hc : X.calm = true) (hu : X.A.units + 64 < cLine) (hg : Gl X "max") (hm : X.mg "max" = none) (he : RE X e pe) (hd : RE X d pd)
    (h1 : backTo pos (starEach [e] X.env) = [(false, eval e X.env)] := by rfl) (h0 : starEach [e] X.env = [(false, eval e X.env)] := by rfl) (h2 : (backTo pos (starEach [e] X.env)).any (·.1) = false := by rfl)
    (h3 : (backToKw pos (keywordEach [⟨some "default", d, kp⟩] X.env)).all (·.1.isSome) = true := by rfl) (h4 : (backToKw pos (keywordEach [⟨some "default", d, kp⟩] X.env)).any (·.1.isNone) = false := by rfl)
    (h5 : (backToKw pos (keywordEach [⟨some "default", d, kp⟩] X.env)).filterMap (·.1) = [Str.ofString "default"] := by rfl) :
    RE X (.Call (.Name "max" p) [e] [⟨some "default", d, kp⟩] pos) (eMaxD pe pd) :=
  (pe_callBK (cr_maxDf hc hu) hg hm rfl (pa_cons he.look pa_nil h0) (pk_cons hd.look pk_nil) (by decide) (by decide) h1 h2 h3 h4 h5).imp fun σ H Q h => by
    obtain ⟨m, F, O, fr, st, k, w, st', R, e, q⟩ := h
    obtain ⟨⟨k1, x⟩, s1, e1, e⟩ := Res.bind_eq e
    obtain ⟨⟨k2, y⟩, s2, e2, e⟩ := Res.bind_eq e
    refine ⟨m, F, O, fr, st, k1, x, s1, R, e1, fun m1 O1 v H1 g1 R1 d1 => ?_⟩
    refine ⟨m1, F, O1, fr, s1, k2, y, s2, R1, e2, fun m2 O2 v2 H2 g2 R2 d2 => ?_⟩
    exact ⟨m2, F, O2, σ, fr, s2, k, w, st', x, y, v, v2, rfl, rfl, R2, d1.grow g2 R1.mO, d2, e, fun m' O' v H' g R' d => q m' O' v H' (g1.trans (g2.trans g)) R' d⟩
end
end Vy

set_option Elab.async false
set_option linter.all false
set_option maxRecDepth 100000
set_option maxHeartbeats 4000000
/-! Shared objects, dicts, methods, several targets. -/
namespace Vy
open PySem PySem.Spec PyProof.Rows L2

section
variable {K : PySem.W.Frag} {X : Cx} {m m' m0 m1 : Mp} {F O O' O0 O1 G : Op} {H H' H0 H1 : Hp} {σ : L2.St} {fr : Frame} {st st1 : Store} {pos : Pos} {a b : Addr}

/-! ### a new object becomes a shared one -/
def mAdd (m : Mp) (n : Nat) (a : Addr) : Mp := fun k => if k = n then some a else m k
theorem mAdd_old {n k : Nat} (hn : m n = none) {b : Addr} (h : m k = some b) : mAdd m n a k = some b := by
  unfold mAdd
  by_cases e : k = n
  · rw [e, hn] at h; cases h
  · rw [if_neg e]; exact h
theorem Den.mm (h : ∀ n a, m n = some a → m' n = some a) : ∀ (w : W) (v : V), Den K m O H w v → Den K m' O H w v
  | .non, v, d => by unfold Den at d ⊢; exact d
  | .bl _, v, d => by unfold Den at d ⊢; exact d
  | .int _, v, d => by unfold Den at d ⊢; exact d
  | .str _, v, d => by unfold Den at d ⊢; exact d
  | .ref n, v, d => by unfold Den at d ⊢; obtain ⟨a, e, q⟩ := d; exact ⟨a, h n a e, q⟩
  | .scr _, v, d => by unfold Den at d ⊢; exact d
  | .tup ws, v, d => by unfold Den at d ⊢; obtain ⟨a, vs, e, q, d⟩ := d; exact ⟨a, vs, e, q, mms ws vs d⟩
  | .lst ws, v, d => by unfold Den at d ⊢; obtain ⟨a, vs, e, q, z, d⟩ := d; exact ⟨a, vs, e, q, z, mms ws vs d⟩
  | .dct ks ws, v, d => by unfold Den at d ⊢; obtain ⟨a, vs, e, q, z, d⟩ := d; exact ⟨a, vs, e, q, z, mms ws vs d⟩
where mms : ∀ (ws : List W) (vs : List V), Dens K m O H ws vs → Dens K m' O H ws vs
  | [], vs, d => by unfold Dens at d ⊢; exact d
  | w :: ws, vs, d => by unfold Dens at d ⊢; obtain ⟨v, r, e, d, d2⟩ := d; exact ⟨v, r, e, Den.mm h w v d, mms ws r d2⟩
theorem ObAt.mm (h : ∀ n a, m n = some a → m' n = some a) {o : Ob} (d : ObAt K m O H a o) : ObAt K m' O H a o := by
  cases o with
  | lst ws => obtain ⟨vs, e, d⟩ := d; exact ⟨vs, e, Den.mm.mms h ws vs d⟩
  | dct ks ws => obtain ⟨vs, e, d⟩ := d; exact ⟨vs, e, Den.mm.mms h ws vs d⟩
theorem Sto.last (R : Sto K m F O H st) : m st.length = none := by
  cases h : m st.length with
  | none => rfl
  | some a =>
    obtain ⟨o, e, _⟩ := R.obj _ a h
    rw [List.getElem?_eq_none (Nat.le_refl _)] at e
    cases e
theorem Rel.pub {o : Ob} (R : Rel K m F O σ H fr st) (f : Fresh m F O σ fr a) (d : ObAt K m O H a o) : Rel K (mAdd m st.length a) F O σ H fr (st ++ [o]) := by
  have hl := R.last
  have hm : ∀ n b, m n = some b → mAdd m st.length a n = some b := fun n b e => mAdd_old hl e
  have cs : ∀ n b, mAdd m st.length a n = some b → (n = st.length ∧ b = a) ∨ (n ≠ st.length ∧ m n = some b) := fun n b e => by
    unfold mAdd at e
    by_cases h : n = st.length
    · rw [if_pos h] at e; cases e; exact .inl ⟨h, rfl⟩
    · rw [if_neg h] at e; exact .inr ⟨h, e⟩
  refine ⟨⟨fun n b e => ?_, R.flo, fun n k b e1 e2 => ?_, fun n hn => ?_, R.trk, fun n b e => ?_⟩, fun i s e => ?_, R.len, R.sep⟩
  · rcases cs n b e with ⟨_, rfl⟩ | ⟨_, e⟩
    · exact f.op
    · exact R.mO n b e
  · rcases cs n b e1 with ⟨h1, z1⟩ | ⟨h1, e1⟩
    · rcases cs k _ e2 with ⟨h2, _⟩ | ⟨_, e2⟩
      · rw [h1, h2]
      · exact absurd (z1 ▸ e2) (f.ni k)
    · rcases cs k b e2 with ⟨_, z2⟩ | ⟨_, e2⟩
      · exact absurd (z2 ▸ e1) (f.ni n)
      · exact R.inj n k b e1 e2
  · rw [List.length_append, List.length_singleton] at hn
    by_cases h : n = st.length
    · exact ⟨a, by unfold mAdd; rw [if_pos h]⟩
    · obtain ⟨b, e⟩ := R.dom n (by omega)
      exact ⟨b, hm n b e⟩
  · rcases cs n b e with ⟨h, rfl⟩ | ⟨_, e⟩
    · subst h
      exact ⟨o, by simp, d.mm hm⟩
    · obtain ⟨u, eu, du⟩ := R.obj n b e
      refine ⟨u, ?_, du.mm hm⟩
      rw [List.getElem?_append_left (List.getElem?_eq_some_iff.mp eu).1]
      exact eu
  · have z := R.sl i s e
    cases s with
    | no => exact trivial
    | val w => obtain ⟨v, e1, d⟩ := z; exact ⟨v, e1, Den.mm hm w v d⟩
    | own u =>
      obtain ⟨b, e1, h1, h2, h3, d2⟩ := z
      refine ⟨b, e1, h1, h2, fun n q => ?_, d2.mm hm⟩
      rcases cs n b q with ⟨_, rfl⟩ | ⟨_, q⟩
      · exact f.no i u e e1
      · exact h3 n q
theorem GrowF.pub {n : Nat} (g : GrowF G m0 O0 H0 m O H) (h0 : H0 a = none) (hn : m n = none) : GrowF G m0 O0 H0 (mAdd m n a) O H where
  mm := fun k b e => mAdd_old hn (g.mm k b e)
  new := fun k b e => by
    unfold mAdd at e
    by_cases h : k = n
    · rw [if_pos h] at e; cases e; exact .inr h0
    · rw [if_neg h] at e; exact g.new k b e
  keep := g.keep
  opn := g.opn
  there := g.there
  tups := g.tups
theorem den_ref {n : Nat} : RDen K (mAdd m n a) F O σ H fr .st (.ref n) (.ref a) := by
  show Den _ _ _ _ _ _
  unfold Den
  exact ⟨a, by unfold mAdd; rw [if_pos rfl], rfl⟩
/-- xs[::-1], a new shared list -/
def eRevP (p : PX) : PX := fun fr st => (p fr st).bind fun x s1 => match x.2 with
  | .lst ws => .ok (.st, .ref s1.length) (s1 ++ [.lst ws.reverse])
  | _ => .bad
theorem re_revP {e : Expr} {p : PX} {k : Nat} {p1 p2 p3 : Pos} (he : RE X e p) : RE X (.Subscript e (.Slice none none (some (.UnaryOp .USub (.Constant (.int 1) k p1) p2)) p3) pos) (eRevP p) := (pe_revL he.look).imp fun σ H Q q => by
  obtain ⟨m, F, O, fr, st, k, w, st', R, e, q⟩ := q
  obtain ⟨⟨k1, x⟩, s1, e1, e⟩ := Res.bind_eq e
  cases x with
  | lst ws =>
    cases e
    refine ⟨m, F, O, fr, st, k1, _, s1, R, e1, fun m1 O1 v H1 g1 R1 d1 => ?_⟩
    obtain ⟨a, vs, ex, _, h1, d1⟩ := lden_lst d1
    refine ⟨a, vs, ex, SqL.of h1, fun p hp => ?_⟩
    obtain ⟨g2, R2, d3⟩ := new_lst R1 (dens_rev d1) hp
    obtain ⟨b, o, eo, ev, f, d4⟩ := d3
    cases ev
    have ho : o = .lst ws.reverse := by cases o <;> cases eo; rfl
    subst ho
    exact q _ _ _ _ (g1.trans (g2.pub hp R2.last)) (R2.pub f d4) den_ref
  | _ => cases e
/-- list(x), a new shared list -/
def fListP (a : W) (st : Store) : Res (Kd × W) := match seqOf a with
  | some ws => .ok (.st, .ref st.length) (st ++ [.lst ws])
  | none => .bad
theorem ci_listP : CallI X (.type "list") fListP := fun pins s σ H xs us Q I r h => by
  obtain ⟨m, F, O, σ', fr, st, k, w, st', a, x, rfl, R, d, e, q⟩ := h
  unfold fListP at e
  cases hs : seqOf a with
  | none => rw [hs] at e; cases e
  | some ws =>
    rw [hs] at e
    cases e
    obtain ⟨p, vs, rfl, h1, d1⟩ := lden_seq d hs
    refine call_list_of pins s σ H _ us Q I r ⟨p, vs, rfl, h1, fun l hl => ?_⟩
    obtain ⟨g2, R2, d3⟩ := new_lst R d1 hl
    obtain ⟨b, o, eo, ev, f, d4⟩ := d3
    cases ev
    have ho : o = .lst ws := by cases o <;> cases eo; rfl
    subst ho
    exact q _ _ _ _ (g2.pub hl R2.last) (R2.pub f d4) den_ref

/-! ### a dict's entries -/
section
variable {κ : Type} [DecidableEq κ]
def getKW {α : Type} : List κ → List α → κ → Option α
  | x :: l, w :: ws, k => if x = k then some w else getKW l ws k
  | _, _, _ => none
def putKW {α : Type} (l : List κ) (ws : List α) (k : κ) (w : α) : List κ × List α := if k ∈ l then (l, List.zipWith (fun x y => if x = k then w else y) l ws) else (l ++ [k], ws ++ [w])
theorem get_val : ∀ {kvs : List (κ × V)} {ws : List W} {k : κ}, Dens K m O H ws (kvs.map (·.2)) → (∀ v, valV kvs k = some v → ∃ w, getKW (kvs.map (·.1)) ws k = some w ∧ Den K m O H w v) ∧ (valV kvs k = none → getKW (kvs.map (·.1)) ws k = none)
  | [], ws, k, d => ⟨fun v e => (nomatch e), fun _ => rfl⟩
  | p :: kvs, ws, k, d => by
    cases ws with
    | nil => have := dens_length d; simp at this
    | cons w ws =>
      obtain ⟨v0, r, e, d1, d2⟩ := dens_cons d
      rw [List.map_cons] at e
      injection e with e1 e2
      subst e1 e2
      obtain ⟨h1, h2⟩ := get_val (k := k) d2
      by_cases h : p.1 = k
      · rw [valV_pos h]
        refine ⟨fun v e => ?_, fun e => nomatch e⟩
        cases e
        exact ⟨w, by show (if p.1 = k then some w else _) = _; rw [if_pos h], d1⟩
      · rw [valV_neg h]
        refine ⟨fun v e => ?_, fun e => ?_⟩
        · obtain ⟨u, q, z⟩ := h1 v e
          exact ⟨u, by show (if p.1 = k then some w else _) = _; rw [if_neg h]; exact q, z⟩
        · show (if p.1 = k then some w else _) = _
          rw [if_neg h]
          exact h2 e
theorem put_keys {kvs : List (κ × V)} {k : κ} {v : V} {α : Type} {ws : List α} {w : α} : (putK kvs k v).map (·.1) = (putKW (kvs.map (·.1)) ws k w).1 := by
  unfold putK putKW
  have hk : (kvs.any fun kv => decide (kv.1 = k)) = decide (k ∈ kvs.map (·.1)) := by
    induction kvs with
    | nil => rfl
    | cons p r ih =>
      rw [List.any_cons, ih, List.map_cons]
      by_cases h : p.1 = k
      · simp [h]
      · have h' : ¬ k = p.1 := fun z => h z.symm
        simp [h, h']
  by_cases h : k ∈ kvs.map (·.1)
  · rw [if_pos h, hk, decide_eq_true h]
    simp only [if_true, List.map_map]
    refine List.map_congr_left fun p _ => ?_
    show (if p.1 = k then (p.1, v) else p).1 = p.1
    by_cases h : p.1 = k
    · rw [if_pos h]
    · rw [if_neg h]
  · rw [if_neg h, hk, decide_eq_false h]
    simp
theorem dens_zip : ∀ {kvs : List (κ × V)} {ws : List W} {k : κ} {v : V} {w : W}, Dens K m O H ws (kvs.map (·.2)) → Den K m O H w v →
    Dens K m O H (List.zipWith (fun x y => if x = k then w else y) (kvs.map (·.1)) ws) ((kvs.map fun kv => if kv.1 = k then (kv.1, v) else kv).map (·.2))
  | [], ws, k, v, w, d, dw => by show Dens _ _ _ _ [] []; unfold Dens; rfl
  | p :: kvs, ws, k, v, w, d, dw => by
    cases ws with
    | nil => have := dens_length d; simp at this
    | cons w0 ws =>
      obtain ⟨v0, r, e, d1, d2⟩ := dens_cons d
      rw [List.map_cons] at e
      injection e with e1 e2
      subst e1 e2
      have z := dens_zip (k := k) d2 dw
      show Dens _ _ _ _ ((if p.1 = k then w else w0) :: _) ((if p.1 = k then (p.1, v) else p).2 :: _)
      unfold Dens
      by_cases h : p.1 = k
      · exact ⟨v, _, by rw [if_pos h], by rw [if_pos h]; exact dw, z⟩
      · exact ⟨p.2, _, by rw [if_neg h], by rw [if_neg h]; exact d1, z⟩
theorem put_vals {kvs : List (κ × V)} {ws : List W} {k : κ} {v : V} {w : W} (d : Dens K m O H ws (kvs.map (·.2))) (dw : Den K m O H w v) : Dens K m O H (putKW (kvs.map (·.1)) ws k w).2 ((putK kvs k v).map (·.2)) := by
  unfold putK putKW
  have hk : (kvs.any fun kv => decide (kv.1 = k)) = decide (k ∈ kvs.map (·.1)) := by
    induction kvs generalizing ws with
    | nil => rfl
    | cons p r ih =>
      cases ws with
      | nil => have := dens_length d; simp at this
      | cons w0 ws =>
        obtain ⟨v0, r0, e, d1, d2⟩ := dens_cons d
        rw [List.map_cons] at e
        injection e with e1 e2
        subst e1 e2
        rw [List.any_cons, ih d2, List.map_cons]
        by_cases h : p.1 = k
        · simp [h]
        · have h' : ¬ k = p.1 := fun z => h z.symm
          simp [h, h']
  by_cases h : k ∈ kvs.map (·.1)
  · rw [if_pos h, hk, decide_eq_true h]
    exact dens_zip d dw
  · rw [if_neg h, hk, decide_eq_false h]
    have z := dens_snoc d dw
    simpa using z
end

def keyOf : W → Option Key
  | .int i => some (.inl i)
  | .str x => some (.inr x)
  | _ => none
def keysOf : List W → Option (List Key)
  | [] => some []
  | w :: ws => match keyOf w, keysOf ws with
    | some k, some ks => some (k :: ks)
    | _, _ => none
theorem key_den {w : W} {k : Key} {v : V} (h : keyOf w = some k) (d : LDen K m O H w v) : v = kV k := by
  cases w <;> first
    | cases h; exact den_int d
    | cases h; exact den_str d
    | cases h
theorem keys_den : ∀ {ws : List W} {ks : List Key} {vs : List V}, keysOf ws = some ks → (∀ n a, m n = some a → O a) → Dens K m O H ws vs → vs = ks.map kV
  | [], _, _, h, _, d => by cases h; exact dens_end d
  | w :: ws, ks, _, h, hm, d => by
    obtain ⟨v, r, rfl, d1, d2⟩ := dens_cons d
    have h : (match keyOf w, keysOf ws with | some k, some ks => some (k :: ks) | _, _ => none) = some ks := h
    cases h1 : keyOf w with
    | none => rw [h1] at h; cases h
    | some k =>
      cases h2 : keysOf ws with
      | none => rw [h1, h2] at h; cases h
      | some l =>
        rw [h1, h2] at h
        cases h
        rw [key_den h1 (Den.loose hm d1), keys_den h2 hm d2]
        rfl
/-- what stands at a key; none: the key is not of the dict's kind -/
def getW (ks : Kys) (ws : List W) (k : W) : Option (Option W) := match ks with
  | .k l => (keyOf k).map fun j => getKW l ws j
  | .t l => match k with
    | .tup us => (keysOf us).map fun j => getKW l ws j
    | _ => none
def putW (ks : Kys) (ws : List W) (k w : W) : Option (Kys × List W) := match ks with
  | .k l => (keyOf k).map fun j => let r := putKW l ws j w; (.k r.1, r.2)
  | .t l => match k with
    | .tup us => (keysOf us).map fun j => let r := putKW l ws j w; (.t r.1, r.2)
    | _ => none
theorem get_at {ks : Kys} {ws : List W} {vs : List V} {k : W} {y : V} {o : Option W} (hm : ∀ n a, m n = some a → O a) (h : DictAt H a ks vs) (d : Dens K m O H ws vs) (dk : LDen K m O H k y) (e : getW ks ws k = some o) :
    ∃ ov, DGet H a y ov ∧ (∀ v, ov = some v → ∃ w, o = some w ∧ Den K m O H w v) ∧ (ov = none → o = none) := by
  cases ks with
  | k l =>
    obtain ⟨kvs, rfl, rfl, hr⟩ := h
    have e : ((keyOf k).map fun j => getKW (kvs.map (·.1)) ws j) = some o := e
    cases hk : keyOf k with
    | none => rw [hk] at e; cases e
    | some j =>
      rw [hk] at e
      cases e
      obtain ⟨h1, h2⟩ := get_val (k := j) d
      exact ⟨valV kvs j, .inl ⟨kvs, j, hr, key_den hk dk, rfl⟩, h1, h2⟩
  | t l =>
    obtain ⟨kvs, rfl, rfl, hr⟩ := h
    cases k with
    | tup us =>
      have e : ((keysOf us).map fun j => getKW (kvs.map (·.1)) ws j) = some o := e
      cases hk : keysOf us with
      | none => rw [hk] at e; cases e
      | some j =>
        rw [hk] at e
        cases e
        obtain ⟨q, xs, rfl, hq, dq⟩ := lden_tup dk
        rw [keys_den hk hm dq] at hq
        obtain ⟨h1, h2⟩ := get_val (k := j) d
        exact ⟨valV kvs j, .inr ⟨kvs, j, q, hr, rfl, hq, rfl⟩, h1, h2⟩
    | _ => cases e
/-- the dict of a value, here and shared -/
def dctOf (w : W) (st : Store) : Option (Kys × List W) := match w with
  | .dct ks ws => some (ks, ws)
  | .ref n => match st[n]? with
    | some (.dct ks ws) => some (ks, ws)
    | _ => none
  | _ => none
theorem dct_at {w : W} {ks : Kys} {ws : List W} {v : V} (R : Sto K m F O H st) (d : LDen K m O H w v) (e : dctOf w st = some (ks, ws)) : ∃ a vs, v = .ref a ∧ DictAt H a ks vs ∧ Dens K m O H ws vs := by
  cases w with
  | dct k1 w1 =>
    cases e
    obtain ⟨a, rfl, _, vs, h, d⟩ := d
    exact ⟨a, vs, rfl, h, d⟩
  | ref n =>
    unfold LDen Den at d
    obtain ⟨a, hn, rfl⟩ := d
    obtain ⟨o, eo, d⟩ := R.obj n a hn
    have e : (match st[n]? with | some (.dct ks ws) => some (ks, ws) | _ => none) = some (ks, ws) := e
    rw [eo] at e
    cases o with
    | lst => cases e
    | dct k1 w1 =>
      cases e
      obtain ⟨vs, h, d⟩ := d
      exact ⟨a, vs, rfl, h.to, d⟩
  | _ => cases e
theorem DictAt.isD {ks : Kys} {vs : List V} (h : DictAt H a ks vs) : IsD H a := by
  cases ks with
  | k l => obtain ⟨kvs, _, _, e⟩ := h; exact .inl ⟨kvs, e⟩
  | t l => obtain ⟨kvs, _, _, e⟩ := h; exact .inr ⟨kvs, e⟩
/-- d[k] -/
def eDGet (pd pk : PX) : PX := fun fr st => (pd fr st).bind fun x s1 => (pk fr s1).bind fun y s2 => match dctOf x.2 s2 with
  | some (ks, ws) => match getW ks ws y.2 with
    | some (some w) => okS w s2
    | _ => .bad
  | none => .bad
theorem re_dget {d i : Expr} {pd pk : PX} (hu : X.A.units + 64 < cLine) (hd : RE X d pd) (hi : RE X i pk) (hs : NoSl i := by exact fun _ _ => rfl) : RE X (.Subscript d i pos) (eDGet pd pk) := (pe_dget (by omega) hd.look hi.look hs).imp fun σ H Q h => by
  obtain ⟨m, F, O, fr, st, k, w, st', R, e, q⟩ := h
  obtain ⟨⟨k1, x⟩, s1, e1, e⟩ := Res.bind_eq e
  obtain ⟨⟨k2, y⟩, s2, e2, e⟩ := Res.bind_eq e
  refine ⟨m, F, O, fr, st, k1, x, s1, R, e1, fun m1 O1 v H1 g1 R1 d1 => ?_⟩
  refine ⟨m1, F, O1, fr, s1, k2, y, s2, R1, e2, fun m2 O2 v2 H2 g2 R2 d2 => ?_⟩
  have d1' := d1.grow g2 R1.mO
  have e : (match dctOf x s2 with | some (ks, ws) => (match getW ks ws y with | some (some w) => okS w s2 | _ => Res.bad) | none => Res.bad) = Res.ok (k, w) st' := e
  match hx : dctOf x s2, e with
  | some (ks, ws), e =>
    have e : (match getW ks ws y with | some (some w) => okS w s2 | _ => Res.bad) = Res.ok (k, w) st' := e
    match hg : getW ks ws y, e with
    | some (some u), e =>
      cases e
      obtain ⟨a, vs, rfl, ha, ds⟩ := dct_at R2.toSto d1' hx
      obtain ⟨ov, dg, g3, g4⟩ := get_at R2.mO ha ds d2 hg
      cases ov with
      | none => have z := g4 rfl; cases z
      | some vv =>
        obtain ⟨w, ew, dw⟩ := g3 vv rfl
        cases ew
        exact ⟨a, vv, rfl, dg, q m2 O2 vv H2 (g1.trans g2) R2 dw⟩
/-- d.get(k, x) -/
def eGet2 (pd pk px : PX) : PX := fun fr st => (pd fr st).bind fun x s1 => (pk fr s1).bind fun y s2 => (px fr s2).bind fun z s3 => if keepOk z.1 z.2 = true then (match x.2 with
  | .dct ks ws => match getW ks ws y.2 with
    | some (some w) => okS w s3
    | some none => okS z.2 s3
    | none => .bad
  | _ => .bad) else .bad
theorem re_get2 {d i j : Expr} {pd pk px : PX} {apos : Pos} (hu : X.A.units + 64 < cLine) (hd : RE X d pd) (hi : RE X i pk) (hj : RE X j px) (mm : M2 X d "get" apos i j pos := by exact ⟨rfl, rfl, rfl, rfl⟩) : RE X (.Call (.Attribute d "get" apos) [i, j] [] pos) (eGet2 pd pk px) :=
  (pe_dget2 (by omega) hd.look hi.look hj.kept mm).imp fun σ H Q h => by
  obtain ⟨m, F, O, fr, st, k, w, st', R, e, q⟩ := h
  obtain ⟨⟨k1, x⟩, s1, e1, e⟩ := Res.bind_eq e
  obtain ⟨⟨k2, y⟩, s2, e2, e⟩ := Res.bind_eq e
  obtain ⟨⟨k3, z⟩, s3, e3, e⟩ := Res.bind_eq e
  by_cases hk : keepOk k3 z = true
  · simp only [if_pos hk] at e
    cases x with
    | dct ks ws =>
      refine ⟨m, F, O, fr, st, k1, _, s1, R, e1, fun m1 O1 v H1 g1 R1 d1 => ?_⟩
      obtain ⟨a, rfl, ni, vs, ha, ds⟩ := id d1
      refine ⟨a, rfl, ha.isD, m1, F, O1, fr, s1, k2, y, s2, R1, e2, fun m2 O2 v2 H2 g2 R2 d2 => ?_⟩
      refine ⟨m2, F, O2, fr, s2, k3, z, s3, R2, e3, hk, fun m3 O3 v3 H3 g3 R3 d3 => ?_⟩
      have d1' := (d1.grow g2 R1.mO).grow g3 R2.mO
      obtain ⟨a', ea, ni, vs, ha, ds⟩ := d1'
      cases ea
      have d2' := d2.grow g3 R2.mO
      have e : (match getW ks ws y with | some (some w) => okS w s3 | some none => okS z s3 | none => Res.bad) = Res.ok (k, w) st' := e
      match hg : getW ks ws y, e with
      | some (some u), e =>
        cases e
        obtain ⟨ov, dg, g4, g5⟩ := get_at R3.mO ha ds d2' hg
        cases ov with
        | none => have z := g5 rfl; cases z
        | some vv =>
          obtain ⟨w, ew, dw⟩ := g4 vv rfl
          cases ew
          exact ⟨some vv, dg, q m3 O3 vv H3 (g1.trans (g2.trans g3)) R3 dw⟩
      | some none, e =>
        cases e
        obtain ⟨ov, dg, g4, g5⟩ := get_at R3.mO ha ds d2' hg
        cases ov with
        | some vv => obtain ⟨w, ew, dw⟩ := g4 vv rfl; cases ew
        | none => exact ⟨none, dg, q m3 O3 v3 H3 (g1.trans (g2.trans g3)) R3 d3⟩
    | _ => cases e
  · simp only [if_neg hk] at e; cases e
/-- k in d, k not in d -/
def bIn (pk pd : PX) : PB := fun fr st => (pk fr st).bind fun y s1 => (pd fr s1).bind fun x s2 => match dctOf x.2 s2 with
  | some (ks, ws) => match getW ks ws y.2 with
    | some o => .ok o.isSome s2
    | none => .bad
  | none => .bad
def eDNewK : PX := fun _ st => .ok (.fr, .dct (.k []) []) st
def eDNewT : PX := fun _ st => .ok (.fr, .dct (.t []) []) st
theorem re_dnewK : RE X (.Dict [] [] pos) eDNewK := pe_dnewK.imp fun σ H Q h => by
  obtain ⟨m, F, O, fr, st, k, w, st', R, e, q⟩ := h
  cases e
  intro p hp
  exact q m _ _ _ (Grow.add hp) (R.add hp) ⟨p, .dct (.k []) [], rfl, rfl, R.fresh hp, [], ⟨[], rfl, rfl, upd_same⟩, by unfold Dens; rfl⟩
theorem re_dnewT : RE X (.Dict [] [] pos) eDNewT := pe_dnewT.imp fun σ H Q h => by
  obtain ⟨m, F, O, fr, st, k, w, st', R, e, q⟩ := h
  cases e
  intro p hp
  exact q m _ _ _ (Grow.add hp) (R.add hp) ⟨p, .dct (.t []) [], rfl, rfl, R.fresh hp, [], ⟨[], rfl, rfl, upd_same⟩, by unfold Dens; rfl⟩
end
end Vy

set_option Elab.async false
set_option linter.all false
set_option maxRecDepth 100000
set_option maxHeartbeats 4000000
/-! Statements that change objects; displays; several targets. -/
namespace Vy
open PySem PySem.Spec PyProof.Rows L2

section
variable {K : PySem.W.Frag} {X : Cx} {m m' m0 m1 : Mp} {F F' O O' O0 O1 G : Op} {H H' H0 H1 : Hp} {σ : L2.St} {fr : Frame} {st st1 : Store} {pos : Pos} {a b : Addr}

/-! ### stars -/
def aStar (p : PX) (r : PL) : PL := fun fr st => (p fr st).bind fun x s1 => match seqOf x.2 with
  | some ws => (r fr s1).bind fun us s2 => .ok (ws ++ us) s2
  | none => .bad
theorem ra_star {e : Expr} {es : List Expr} {p : Pos} {pe : PX} {r : PL} (he : RE X e pe) (hr : RA X es r) (hs : starEach (.Starred e p :: es) X.env = (true, eval e X.env) :: starEach es X.env := by rfl) : RA X (.Starred e p :: es) (aStar pe r) :=
  L2.PA.imp (StX.pa_star he.look hr hs) fun σ H Q h => by
    obtain ⟨m, F, O, fr, st, ws, st', R, e, q⟩ := h
    obtain ⟨⟨k1, x⟩, s1, e1, e⟩ := Res.bind_eq e
    have e : (match seqOf x with | some ws => (r fr s1).bind fun us s2 => .ok (ws ++ us) s2 | none => Res.bad) = Res.ok ws st' := e
    cases hx : seqOf x with
    | none => rw [hx] at e; cases e
    | some xs =>
      rw [hx] at e
      obtain ⟨us, s2, e2, e⟩ := Res.bind_eq e
      cases e
      refine ⟨m, F, O, fr, st, k1, x, s1, R, e1, fun m1 O1 v H1 g1 R1 d1 => ?_⟩
      obtain ⟨p, vs, rfl, h1, d2⟩ := lden_seq d1 hx
      refine ⟨p, vs, rfl, h1.symm, m1, F, O1, fr, s1, us, st', R1, e2, fun m2 O2 ys H2 g2 R2 d3 => ?_⟩
      exact q m2 O2 _ H2 (g1.trans g2) R2 (dens_append (Dens.grow g2 R1.mO _ _ d2) d3)

/-! ### d[k] = v -/
/-- the dict in slot i, here or shared -/
def sDPut (i : Nat) (pk pv : PX) : PM := fun fr st => (pv fr st).bind fun v s1 => (pk fr s1).bind fun y s2 => if keepOk v.1 v.2 = true then (match fr[i]? with
  | some (.own (.dct ks ws)) => if ws.length < sizeLine then (match putW ks ws y.2 v.2 with
    | some r => .ok (.nx (fr.set i (.own (.dct r.1 r.2)))) s2
    | none => .bad) else .bad
  | some (.val (.ref n)) => match s2[n]? with
    | some (.dct ks ws) => if ws.length < sizeLine then (match putW ks ws y.2 v.2 with
      | some r => .ok (.nx fr) (s2.set n (.dct r.1 r.2))
      | none => .bad) else .bad
    | _ => .bad
  | _ => .bad) else .bad
/-- the heap behind it -/
theorem put_at {ks : Kys} {ws : List W} {vs : List V} {k w : W} {y v : V} {r : Kys × List W} (R : Sto K m F O H st) (op : O a) (h : DictIs H a ks vs) (d : Dens K m O H ws vs) (dk : LDen K m O H k y) (dv : Den K m O H w v)
    (hl : ws.length < sizeLine) (e : putW ks ws k w = some r) : ∃ u, DPut H a y v (upd H a u) ∧ ObAt K m O (upd H a u) a (.dct r.1 r.2) := by
  have hl2 := dens_length d
  have nt : ∀ xs, H a ≠ some (.tup xs) := fun xs z => by
    obtain ⟨o, e, n⟩ := h.ex
    rw [z] at e
    exact n xs (Option.some.inj e).symm
  have g : ∀ u, GrowF (fun _ => False) m O H m O (upd H a u) := fun u => GrowF.put op (fun z => z) nt
  cases ks with
  | k l =>
    obtain ⟨kvs, rfl, rfl, hd⟩ := h
    have e : ((keyOf k).map fun j => let r := putKW (kvs.map (·.1)) ws j w; (Kys.k r.1, r.2)) = some r := e
    cases hk : keyOf k with
    | none => rw [hk] at e; cases e
    | some j =>
      rw [hk] at e
      cases e
      refine ⟨.dK (putK kvs j v), .inl ⟨kvs, j, hd, key_den hk dk, by rw [List.length_map] at hl2; omega, rfl⟩, (putK kvs j v).map (·.2), ⟨putK kvs j v, put_keys.symm, rfl, upd_same⟩, ?_⟩
      exact Dens.grow (g _) R.mO _ _ (put_vals d dv)
  | t l =>
    obtain ⟨kvs, rfl, rfl, hd⟩ := h
    cases k with
    | tup us =>
      have e : ((keysOf us).map fun j => let r := putKW (kvs.map (·.1)) ws j w; (Kys.t r.1, r.2)) = some r := e
      cases hk : keysOf us with
      | none => rw [hk] at e; cases e
      | some j =>
        rw [hk] at e
        cases e
        obtain ⟨q, xs, rfl, hq, dq⟩ := lden_tup dk
        rw [keys_den hk R.mO dq] at hq
        refine ⟨.dT (putK kvs j v), .inr ⟨kvs, j, q, hd, rfl, hq, by rw [List.length_map] at hl2; omega, rfl⟩, (putK kvs j v).map (·.2), ⟨putK kvs j v, put_keys.symm, rfl, upd_same⟩, ?_⟩
        exact Dens.grow (g _) R.mO _ _ (put_vals d dv)
    | _ => cases e
theorem rs_dput {i : Nat} {d k e : Expr} {pk pv : PX} {pos' : Pos} (hu : X.A.units + 64 < cLine) (hd : PE X d (tVar i)) (hk : RE X k pk) (hv : RE X e pv) (hs : swapsWith e (some (.Subscript d k pos')) pos.line X.env = pure false := by rfl) :
    RS X (.Assign [.Subscript d k pos'] e pos) (sDPut i pk pv) := (ps_dput (by omega) hd hk.look hv.kept hs).imp fun D σ H h => by
  obtain ⟨m, F, O, fr, st, fl, st', R, e, po⟩ := h
  obtain ⟨⟨k1, v⟩, s1, e1, e⟩ := Res.bind_eq e
  obtain ⟨⟨k2, y⟩, s2, e2, e⟩ := Res.bind_eq e
  by_cases ok : keepOk k1 v = true
  · simp only [if_pos ok] at e
    refine ⟨m, F, O, fr, st, k1, v, s1, R, e1, ok, fun m1 O1 vv H1 g1 R1 d1 => ?_⟩
    cases hs : fr[i]? with
    | none => rw [hs] at e; cases e
    | some sl =>
      rw [hs] at e
      cases sl with
      | no => cases e
      | own o =>
        obtain ⟨a, ea, _⟩ := R1.sl i _ hs
        refine ⟨_, ea, m1, F, O1, fr, s1, k2, y, s2, R1, e2, fun m2 O2 yy H2 g2 R2 d2 => ?_⟩
        obtain ⟨a2, ea2, h1, h2, h3, dd⟩ := R2.sl i _ hs
        rw [ea] at ea2
        cases ea2
        cases o with
        | lst => cases e
        | dct ks ws =>
          by_cases hl : ws.length < sizeLine
          · simp only [if_pos hl] at e
            cases hp : putW ks ws y v with
            | none => rw [hp] at e; cases e
            | some r =>
              rw [hp] at e
              cases e
              obtain ⟨vs, hdi, ds⟩ := dd
              obtain ⟨u, dp, ob⟩ := put_at R2.toSto h1 hdi ds d2 (Den.grow g2 R1.mO _ _ d1) hl hp
              obtain ⟨gp, R3⟩ := R2.putOwn hs ea ob
              exact ⟨a, _, rfl, dp, po m2 O2 σ _ (g1.less.trans (g2.less.trans gp)) R3⟩
          · simp only [if_neg hl] at e; cases e
      | val w =>
        cases w with
        | ref n =>
          obtain ⟨x, ex, dx⟩ := R1.sl i _ hs
          unfold Den at dx
          obtain ⟨a, hn, rfl⟩ := dx
          refine ⟨_, ex, m1, F, O1, fr, s1, k2, y, s2, R1, e2, fun m2 O2 yy H2 g2 R2 d2 => ?_⟩
          have hn2 := g2.mm n a hn
          obtain ⟨o, eo, dd⟩ := R2.obj n a hn2
          simp only [eo] at e
          cases o with
          | lst => cases e
          | dct ks ws =>
            by_cases hl : ws.length < sizeLine
            · simp only [if_pos hl] at e
              cases hp : putW ks ws y v with
              | none => rw [hp] at e; cases e
              | some r =>
                rw [hp] at e
                cases e
                obtain ⟨vs, hdi, ds⟩ := dd
                obtain ⟨u, dp, ob⟩ := put_at R2.toSto (R2.mO n a hn2) hdi ds d2 (Den.grow g2 R1.mO _ _ d1) hl hp
                obtain ⟨gp, R3⟩ := R2.putSh hn2 ob (List.getElem?_eq_some_iff.mp eo).1
                exact ⟨a, _, rfl, dp, po m2 O2 σ _ (g1.less.trans (g2.less.trans gp.less)) R3⟩
            · simp only [if_neg hl] at e; cases e
        | _ => cases e
  · simp only [if_neg ok] at e; cases e

/-! ### methods of lists -/
/-- x.append(e), x own or shared -/
def sApp (i : Nat) (p : PX) : PM := fun fr st => (p fr st).bind fun x s1 => if keepOk x.1 x.2 = true then (match fr[i]? with
  | some (.own (.lst ws)) => if ws.length < sizeLine then .ok (.nx (fr.set i (.own (.lst (ws ++ [x.2]))))) s1 else .bad
  | _ => .bad) else .bad
theorem rs_app {i : Nat} {d e : Expr} {p : PX} {apos cpos : Pos} (hd : PE X d (tVar i)) (he : RE X e p)
    (hbase : attributeBase d "append" X.env (eval d X.env) = eval d X.env := by rfl)
    (hfew : ((backTo cpos (starEach (e :: []) X.env)).all (fun x => !x.1) && (backToKw cpos (keywordEach [] X.env)).all (fun x => x.1.isSome)
      && decide ((e :: []).length + ([] : List Keyword).length + (if ([] : List Keyword).isEmpty then 0 else 1) < 30)) = true := by rfl)
    (hline : (apos.endLine == cpos.line) = true := by rfl) (hs : starEach (e :: []) X.env = (false, eval e X.env) :: starEach [] X.env := by rfl)
    (hsw : swapsWith (.Call (.Attribute d "append" apos) [e] [] cpos) none pos.line X.env = pure false := by rfl) : RS X (.Expr (.Call (.Attribute d "append" apos) [e] [] cpos) pos) (sApp i p) :=
  (ps_expr (pe_bm PySem.F.plainAttrs_list PySem.F.slot_list_append PySem.F.type_list_append mt_append hd (pa_cons he.kept pa_nil hs) hbase hfew hline hs rfl) hsw).imp fun D σ H h => by
    obtain ⟨m, F, O, fr, st, fl, st', R, e, po⟩ := h
    obtain ⟨⟨k1, v⟩, s1, e1, e⟩ := Res.bind_eq e
    by_cases ok : keepOk k1 v = true
    · simp only [if_pos ok] at e
      match hs : fr[i]?, e with
      | some (.own (.lst ws)), e =>
        by_cases hl : ws.length < sizeLine
        · simp only [if_pos hl] at e
          cases e
          obtain ⟨a, ea, h1, h2, h3, vs, hv, ds⟩ := R.sl i _ hs
          refine ⟨_, ea, .inl ⟨rfl, vs, SqL.of hv⟩, m, F, O, fr, st, k1, v, st', R, e1, ok, fun m1 O1 vv H1 g1 R1 d1 => ?_⟩
          obtain ⟨a2, ea2, h1, h2, h3, vs, hv, ds⟩ := R1.sl i _ hs
          rw [ea] at ea2
          cases ea2
          have g : GrowF (fun _ => False) m1 O1 H1 m1 O1 (upd H1 a (.lst (vs ++ [vv]))) := GrowF.put h1 (fun z => z) fun xs z => by rw [hv] at z; cases z
          obtain ⟨gp, R3⟩ := R1.putOwn (o' := .lst (ws ++ [v])) hs ea ⟨vs ++ [vv], upd_same, dens_snoc (Dens.grow g R1.mO _ _ ds) (Den.grow g R1.mO _ _ d1)⟩
          exact ⟨a, vs, vv, rfl, rfl, hv, by rw [dens_length ds]; exact hl, po m1 O1 σ _ (g1.less.trans gp) R3⟩
        · simp only [if_neg hl] at e; cases e
    · simp only [if_neg ok] at e; cases e
/-- x.extend(e), e a list -/
def sExt (i : Nat) (p : PX) : PM := fun fr st => (p fr st).bind fun x s1 => match fr[i]?, x.2 with
  | some (.own (.lst ws)), .lst us => if ws.length + us.length ≤ sizeLine then .ok (.nx (fr.set i (.own (.lst (ws ++ us))))) s1 else .bad
  | _, _ => .bad
theorem rs_ext {i : Nat} {d e : Expr} {p : PX} {apos cpos : Pos} (hd : PE X d (tVar i)) (he : RE X e p)
    (hbase : attributeBase d "extend" X.env (eval d X.env) = eval d X.env := by rfl)
    (hfew : ((backTo cpos (starEach (e :: []) X.env)).all (fun x => !x.1) && (backToKw cpos (keywordEach [] X.env)).all (fun x => x.1.isSome)
      && decide ((e :: []).length + ([] : List Keyword).length + (if ([] : List Keyword).isEmpty then 0 else 1) < 30)) = true := by rfl)
    (hline : (apos.endLine == cpos.line) = true := by rfl) (hs : starEach (e :: []) X.env = (false, eval e X.env) :: starEach [] X.env := by rfl)
    (hsw : swapsWith (.Call (.Attribute d "extend" apos) [e] [] cpos) none pos.line X.env = pure false := by rfl) : RS X (.Expr (.Call (.Attribute d "extend" apos) [e] [] cpos) pos) (sExt i p) :=
  (ps_expr (pe_bm PySem.F.plainAttrs_list PySem.F.slot_list_extend PySem.F.type_list_extend mt_extend hd (pa_cons he.look pa_nil hs) hbase hfew hline hs rfl) hsw).imp fun D σ H h => by
    obtain ⟨m, F, O, fr, st, fl, st', R, e, po⟩ := h
    obtain ⟨⟨k1, v⟩, s1, e1, e⟩ := Res.bind_eq e
    match hs : fr[i]?, v, e with
    | some (.own (.lst ws)), .lst us, e =>
      simp only [hs] at e
      by_cases hl : ws.length + us.length ≤ sizeLine
      · rw [if_pos hl] at e
        cases e
        obtain ⟨a, ea, h1, h2, h3, vs, hv, ds⟩ := R.sl i _ hs
        refine ⟨_, ea, .inl ⟨rfl, vs, SqL.of hv⟩, m, F, O, fr, st, k1, _, st', R, e1, fun m1 O1 vv H1 g1 R1 d1 => ?_⟩
        obtain ⟨a2, ea2, h1, h2, h3, vs, hv, ds⟩ := R1.sl i _ hs
        rw [ea] at ea2
        cases ea2
        obtain ⟨b, xs, rfl, _, hb, db⟩ := lden_lst d1
        have g : GrowF (fun _ => False) m1 O1 H1 m1 O1 (upd H1 a (.lst (vs ++ xs))) := GrowF.put h1 (fun z => z) fun xs z => by rw [hv] at z; cases z
        obtain ⟨gp, R3⟩ := R1.putOwn (o' := .lst (ws ++ us)) hs ea ⟨vs ++ xs, upd_same, dens_append (Dens.grow g R1.mO _ _ ds) (Dens.grow g R1.mO _ _ db)⟩
        exact ⟨a, b, vs, xs, rfl, rfl, hv, hb, by rw [dens_length ds, dens_length db]; exact hl, po m1 O1 σ _ (g1.less.trans gp) R3⟩
      · rw [if_neg hl] at e; cases e
end
end Vy

set_option Elab.async false
set_option linter.all false
set_option maxRecDepth 100000
set_option maxHeartbeats 4000000
/-! Several targets; pops of shared lists; a dict's display that is shared. -/
namespace Vy
open PySem PySem.Spec PyProof.Rows L2

section
variable {K : PySem.W.Frag} {X : Cx} {m m' m0 m1 : Mp} {F F' O O' O0 O1 G : Op} {H H' H0 H1 : Hp} {σ : L2.St} {fr : Frame} {st st1 : Store} {pos : Pos} {a b : Addr}

/-! ### a, b = (x, y) -/
abbrev PLk := Frame → Store → Res (List (Kd × W))
def HDens (K : PySem.W.Frag) (m : Mp) (F O : Op) (H : Hp) : List (Kd × W) → List V → List Addr → Prop
  | [], vs, as => vs = [] ∧ as = []
  | (k, w) :: kws, vs, as => ∃ v r, vs = v :: r ∧ ((k = .fr ∧ ∃ a o s, as = a :: s ∧ w = Ob.toW o ∧ v = .ref a ∧ O a ∧ ¬ F a ∧ NoImg m a ∧ ObAt K m O H a o ∧ a ∉ s ∧ HDens K m F O H kws r s) ∨
      (k = .st ∧ Den K m O H w v ∧ HDens K m F O H kws r as))
def tP (K : PySem.W.Frag) (p : PLk) : TA := fun σ H Q => ∃ m F O fr st kws st', Rel K m F O σ H fr st ∧ p fr st = .ok kws st' ∧
  ∀ m' F' O' as vs H', Grow m O H m' O' H' → Rel K m' F' O' σ H' fr st' → (∀ b, F' b ↔ F b ∨ b ∈ as) → HDens K m' F O' H' kws vs as → Q vs H'
abbrev RP (X : Cx) (es : List Expr) (p : PLk) : Prop := PA X es (tP X.K p)
theorem HDens.floor (h : ∀ b, F b → F' b) : ∀ {kws : List (Kd × W)} {vs : List V} {as : List Addr}, HDens K m F' O H kws vs as → HDens K m F O H kws vs as
  | [], _, _, d => d
  | (k, w) :: kws, vs, as, d => by
    obtain ⟨v, r, e, ⟨rfl, a, o, s, e1, e2, e3, h1, h2, h3, h4, h5, d⟩ | ⟨rfl, h1, d⟩⟩ := d
    · exact ⟨v, r, e, .inl ⟨rfl, a, o, s, e1, e2, e3, h1, fun z => h2 (h a z), h3, h4, h5, HDens.floor h d⟩⟩
    · exact ⟨v, r, e, .inr ⟨rfl, h1, HDens.floor h d⟩⟩
theorem HDens.apart : ∀ {kws : List (Kd × W)} {vs : List V} {as : List Addr}, HDens K m F O H kws vs as → ∀ b ∈ as, ¬ F b
  | [], _, _, d, b, hb => by obtain ⟨_, rfl⟩ := d; cases hb
  | (k, w) :: kws, vs, as, d, b, hb => by
    obtain ⟨v, r, e, ⟨rfl, a, o, s, rfl, e2, e3, h1, h2, h3, h4, h5, d⟩ | ⟨rfl, h1, d⟩⟩ := d
    · rcases List.mem_cons.mp hb with rfl | hb
      · exact h2
      · exact d.apart b hb
    · exact d.apart b hb
def pNil : PLk := fun _ st => .ok [] st
def pCons (p : PX) (r : PLk) : PLk := fun fr st => (p fr st).bind fun x s1 => if keepOk x.1 x.2 = true then (r fr s1).bind fun xs s2 => .ok ((if x.1 = .fr then .fr else .st, x.2) :: xs) s2 else .bad
theorem rp_nil : RP X [] pNil := L2.PA.imp pa_nil fun σ H Q h => by
  obtain ⟨m, F, O, fr, st, kws, st', R, e, q⟩ := h
  cases e
  exact q m F O [] [] H Grow.refl R (fun b => ⟨.inl, fun z => z.elim id fun z => nomatch z⟩) ⟨rfl, rfl⟩
theorem rp_cons {e : Expr} {es : List Expr} {p : PX} {r : PLk} (he : RE X e p) (hr : RP X es r) (hs : starEach (e :: es) X.env = (false, eval e X.env) :: starEach es X.env := by rfl) : RP X (e :: es) (pCons p r) :=
  L2.PA.imp (pa_cons he hr hs) fun σ H Q h => by
    obtain ⟨m, F, O, fr, st, kws, st', R, e, q⟩ := h
    obtain ⟨⟨k, w⟩, s1, e1, e⟩ := Res.bind_eq e
    by_cases ok : keepOk k w = true
    · rw [if_pos ok] at e
      obtain ⟨xs, s2, e2, e⟩ := Res.bind_eq e
      cases e
      refine ⟨m, F, O, fr, st, k, w, s1, R, e1, fun m1 O1 v H1 g1 R1 d1 => ?_⟩
      have dn : Den X.K m1 O1 H1 w v → k ≠ .fr → tP X.K r σ H1 fun vs H2 => Q (v :: vs) H2 := fun d1 nk => by
        refine ⟨m1, F, O1, fr, s1, xs, _, R1, e2, fun m2 F2 O2 as vs H2 g2 R2 hF hd => ?_⟩
        refine q m2 F2 O2 as _ H2 (g1.trans g2) R2 hF ?_
        exact ⟨v, vs, rfl, .inr ⟨if_neg nk, Den.grow g2 R1.mO _ _ d1, hd⟩⟩
      cases k with
      | st => exact dn d1 (fun z => nomatch z)
      | pk =>
        refine dn ?_ (fun z => nomatch z)
        cases w <;> first
          | exact d1
          | cases ok
      | fr =>
        obtain ⟨a, o, rfl, rfl, f, d⟩ := d1
        obtain ⟨u, eu⟩ := d.ex
        refine ⟨m1, _, O1, fr, s1, xs, _, R1.hold f, e2, fun m2 F2 O2 as vs H2 g2 R2 hF hd => ?_⟩
        have na : ∀ b ∈ as, b ≠ a := fun b hb z => hd.apart b hb (.inr z)
        refine q m2 F2 O2 (a :: as) _ H2 (g1.trans g2) R2 (fun b => ?_) ?_
        · rw [hF b, List.mem_cons]
          exact or_assoc
        · refine ⟨.ref a, vs, rfl, .inl ⟨if_pos rfl, a, o, as, rfl, rfl, rfl, R2.flo a ((hF a).mpr (.inl (.inr rfl))), f.nf, g2.noimg f.ni eu, d.grow g2 R1.mO f.ni, fun z => na a z rfl, hd.floor fun b z => .inl z⟩⟩
    · rw [if_neg ok] at e; cases e
def putsF : List Nat → List (Kd × W) → Frame → Option Frame
  | [], [], fr => some fr
  | i :: is, (k, w) :: kws, fr => match slOf k w with
    | some sl => putsF is kws (fr.set i sl)
    | none => none
  | _, _, _ => none
def putsV : List Nat → List V → L2.St → L2.St
  | i :: is, v :: vs, σ => putsV is vs (σ.set i (some v))
  | _, _, σ => σ
theorem Rel.puts : ∀ {is : List Nat} {kws : List (Kd × W)} {vs : List V} {as : List Addr} {fr fr' : Frame} {σ : L2.St} {F' : Op}, Rel K m F' O σ H fr st → (∀ b, F' b ↔ F b ∨ b ∈ as) → HDens K m F O H kws vs as → putsF is kws fr = some fr' →
    vs.length = is.length ∧ Rel K m F O (putsV is vs σ) H fr' st
  | [], [], _, _, fr, fr', σ, F', R, hF, d, e => by
    obtain ⟨rfl, rfl⟩ := d
    cases e
    exact ⟨rfl, R.unhold fun b z => (hF b).mpr (.inl z)⟩
  | i :: is, (k, w) :: kws, vs, as, fr, fr', σ, F', R, hF, d, e => by
    obtain ⟨v, r, rfl, ⟨rfl, a, o, s, rfl, rfl, rfl, h1, h2, h3, h4, h5, d⟩ | ⟨rfl, h1, d⟩⟩ := d
    · have e : (match slOf .fr o.toW with | some sl => putsF is kws (fr.set i sl) | none => none) = some fr' := e
      unfold slOf at e
      rw [obOf_toW] at e
      have R1 : Rel K m (fun b => F b ∨ b ∈ s) O σ H fr st := R.unhold fun b z => (hF b).mpr (z.imp id fun z => List.mem_cons_of_mem _ z)
      have f : Fresh m (fun b => F b ∨ b ∈ s) O σ fr a := ⟨h1, fun z => z.elim h2 h5, h3, fun j u q z => by
        obtain ⟨c, z1, _, z2, _⟩ := R.sl j _ q
        rw [z] at z1
        cases z1
        exact z2 ((hF a).mpr (.inr (List.mem_cons_self ..)))⟩
      obtain ⟨z1, z2⟩ := Rel.puts (R1.setOwn f h4 i) (fun b => Iff.rfl) d e
      exact ⟨by rw [List.length_cons, List.length_cons, z1], z2⟩
    · have e : (match slOf .st w with | some sl => putsF is kws (fr.set i sl) | none => none) = some fr' := e
      obtain ⟨z1, z2⟩ := Rel.puts (R.setVal h1 i) hF d e
      exact ⟨by rw [List.length_cons, List.length_cons, z1], z2⟩
  | [], _ :: _, _, _, _, _, _, _, _, _, _, e => by cases e
  | _ :: _, [], _, _, _, _, _, _, _, _, _, e => by cases e
def sPar (is : List Nat) (p : PLk) : PM := fun fr st => (p fr st).bind fun kws s1 => match putsF is kws fr with
  | some fr1 => .ok (.nx fr1) s1
  | none => .bad
theorem par_post {is : List Nat} {p : PLk} {D : Ends} (h : tM X.K (sPar is p) D σ H) : tP X.K p σ H fun vs H1 => vs.length = is.length ∧ D.nx (putsV is vs σ) H1 := by
  obtain ⟨m, F, O, fr, st, fl, st', R, e, po⟩ := h
  obtain ⟨kws, s1, e1, e⟩ := Res.bind_eq e
  have e : (match putsF is kws fr with | some fr1 => Res.ok (Fl.nx fr1) s1 | none => .bad) = .ok fl st' := e
  cases hp : putsF is kws fr with
  | none => rw [hp] at e; cases e
  | some fr1 =>
    rw [hp] at e
    cases e
    refine ⟨m, F, O, fr, st, kws, st', R, e1, fun m1 F1 O1 as vs H1 g1 R1 hF d1 => ?_⟩
    obtain ⟨z1, z2⟩ := Rel.puts R1 hF d1 hp
    exact ⟨z1, po m1 O1 _ H1 g1.less z2⟩
theorem rs_par2 {i j : Nat} {x y : Str} {a b : Expr} {p : PLk} {px py pt : Pos} {kt k2 pt2} (hc : X.calm = true) (hN : X.N.Nodup) (hi : X.N[i]? = some x) (hj : X.N[j]? = some y) (hij : i ≠ j)
    (hx : X.env.scope.names.lookup x = some .local) (hy : X.env.scope.names.lookup y = some .local) (ha : RP X [a, b] p)
    (hw : swappedStores [.Tuple [.Name x px, .Name y py] kt pt] (.Tuple [a, b] k2 pt2) X.env = pure (some [x, y]) := by rfl)
    (hs : swapsWithSole [.Tuple [.Name x px, .Name y py] kt pt] (.Tuple [a, b] k2 pt2) pos.line X.env = pure false := by rfl) :
    RS X (.Assign [.Tuple [.Name x px, .Name y py] kt pt] (.Tuple [a, b] k2 pt2) pos) (sPar [i, j] p) := (ps_par hc hN hi hj hij hx hy ha hw hs).imp fun D σ H h => by
  obtain ⟨m, F, O, fr, st, kws, st', R, e, q⟩ := par_post h
  refine ⟨m, F, O, fr, st, kws, st', R, e, fun m1 F1 O1 as vs H1 g1 R1 hF d1 => ?_⟩
  obtain ⟨hl, q⟩ := q m1 F1 O1 as vs H1 g1 R1 hF d1
  match vs, hl, q with
  | [v, w], _, q => exact ⟨v, w, rfl, q⟩
theorem rs_par3 {i j l : Nat} {x y z : Str} {a b c : Expr} {p : PLk} {px py pz pt : Pos} {kt k2 pt2} (hc : X.calm = true) (hN : X.N.Nodup) (hi : X.N[i]? = some x) (hj : X.N[j]? = some y) (hl : X.N[l]? = some z) (hij : i ≠ j) (hil : i ≠ l) (hjl : j ≠ l)
    (hx : X.env.scope.names.lookup x = some .local) (hy : X.env.scope.names.lookup y = some .local) (hz : X.env.scope.names.lookup z = some .local) (ha : RP X [a, b, c] p)
    (hw : swappedStores [.Tuple [.Name x px, .Name y py, .Name z pz] kt pt] (.Tuple [a, b, c] k2 pt2) X.env = pure (some [x, y, z]) := by rfl)
    (hs : swapsWithSole [.Tuple [.Name x px, .Name y py, .Name z pz] kt pt] (.Tuple [a, b, c] k2 pt2) pos.line X.env = pure false := by rfl) :
    RS X (.Assign [.Tuple [.Name x px, .Name y py, .Name z pz] kt pt] (.Tuple [a, b, c] k2 pt2) pos) (sPar [i, j, l] p) := (ps_par3 hc hN hi hj hl hij hil hjl hx hy hz ha hw hs).imp fun D σ H h => by
  obtain ⟨m, F, O, fr, st, kws, st', R, e, q⟩ := par_post h
  refine ⟨m, F, O, fr, st, kws, st', R, e, fun m1 F1 O1 as vs H1 g1 R1 hF d1 => ?_⟩
  obtain ⟨hl, q⟩ := q m1 F1 O1 as vs H1 g1 R1 hF d1
  match vs, hl, q with
  | [v, w, u], _, q => exact ⟨v, w, u, rfl, q⟩
/-- (a, b) = a list -/
def gUl (n : Nat) (q : PGs') : PG' := fun w fr => match w with
  | .lst ws => if ws.length = n then q ws fr else none
  | _ => none
theorem rg_ul {es : List Expr} {k n : Nat} {vs : List Nat} {q : PGs'} (hc : X.calm = true) (h : RGs X es vs q)
    (hn : (assignEach es X.env).length = n := by rfl) (hst : (assignEach es X.env).findIdx? (·.1) = none := by rfl) : RG X (.Tuple es k pos) vs (gUl n q) := (pg_unl hc h hn hst).imp fun v σ H Q h => by
  obtain ⟨m, F, O, fr, st, w, fr', R, d, e, q⟩ := h
  cases w with
  | lst ws =>
    unfold gUl at e
    by_cases hl : ws.length = n
    · simp only [if_pos hl] at e
      unfold Den at d
      obtain ⟨a, xs, rfl, _, ha, ds⟩ := d
      exact ⟨a, xs, rfl, SqL.of ha, (dens_length ds).trans hl, m, F, O, fr, st, ws, fr', R, ds, e, q⟩
    · simp only [if_neg hl] at e; cases e
  | _ => cases e

/-! ### pops of a shared list -/
def ePopSh (p : PX) : PX := fun fr st => (p fr st).bind fun x s1 => match x.2 with
  | .ref n => match s1[n]? with
    | some (.lst ws) => match ws[ws.length - 1]? with
      | some w => .ok (.st, w) (s1.set n (.lst ws.dropLast))
      | none => .bad
    | _ => .bad
  | _ => .bad
theorem dens_get2 {ws : List W} {vs : List V} {i : Nat} {w : W} (d : Dens K m O H ws vs) (e : ws[i]? = some w) : ∃ v, vs[i]? = some v ∧ Den K m O H w v := dens_get d e
theorem dens_last {ws : List W} {vs : List V} (d : Dens K m O H ws vs) : Dens K m O H ws.dropLast vs.dropLast := by
  rw [List.dropLast_eq_take, List.dropLast_eq_take, dens_length d]
  exact dens_take _ d
theorem dens_erase : ∀ {ws : List W} {vs : List V} (k : Nat), Dens K m O H ws vs → Dens K m O H (ws.eraseIdx k) (vs.eraseIdx k)
  | [], vs, k, d => by rw [dens_end d]; unfold Dens; rfl
  | w :: ws, vs, 0, d => by obtain ⟨v, r, rfl, _, d2⟩ := dens_cons d; exact d2
  | w :: ws, vs, k + 1, d => by
    obtain ⟨v, r, rfl, d1, d2⟩ := dens_cons d
    show Dens _ _ _ _ (w :: ws.eraseIdx k) (v :: r.eraseIdx k)
    unfold Dens
    exact ⟨v, _, rfl, d1, dens_erase k d2⟩
theorem re_popSh {d : Expr} {p : PX} {apos : Pos} (hd : RE X d p)
    (hbase : attributeBase d "pop" X.env (eval d X.env) = eval d X.env := by rfl) (hline : (apos.endLine == pos.line) = true := by rfl) : RE X (.Call (.Attribute d "pop" apos) [] [] pos) (ePopSh p) :=
  (pe_bm0 PySem.F.plainAttrs_list PySem.F.slot_list_pop PySem.F.type_list_pop mt_pop hd.look hbase hline).imp fun σ H Q h => by
    obtain ⟨m, F, O, fr, st, k, w, st', R, e, q⟩ := h
    obtain ⟨⟨k1, x⟩, s1, e1, e⟩ := Res.bind_eq e
    cases x with
    | ref n =>
      have e : (match s1[n]? with | some (.lst ws) => (match ws[ws.length - 1]? with | some w => Res.ok (Kd.st, w) (s1.set n (.lst ws.dropLast)) | none => .bad) | _ => .bad) = .ok (k, w) st' := e
      match hs : s1[n]?, e with
      | some (.lst ws), e =>
        cases hw : ws[ws.length - 1]? with
        | none => simp only [hw] at e; cases e
        | some w1 =>
          simp only [hw] at e
          cases e
          refine ⟨m, F, O, fr, st, k1, _, s1, R, e1, fun m1 O1 v H1 g1 R1 d1 => ?_⟩
          unfold LDen Den at d1
          obtain ⟨a, hn, rfl⟩ := d1
          obtain ⟨o, eo, dd⟩ := R1.obj n a hn
          rw [hs] at eo
          cases eo
          obtain ⟨vs, hv, ds⟩ := dd
          obtain ⟨y, hy, dy⟩ := dens_get2 ds hw
          have g : GrowF (fun _ => False) m1 O1 H1 m1 O1 (upd H1 a (.lst vs.dropLast)) := GrowF.put (R1.mO n a hn) (fun z => z) fun xs z => by rw [hv] at z; cases z
          obtain ⟨gp, R3⟩ := R1.putSh (o' := .lst ws.dropLast) hn ⟨vs.dropLast, upd_same, Dens.grow g R1.mO _ _ (dens_last ds)⟩ (List.getElem?_eq_some_iff.mp hs).1
          exact ⟨.inl ⟨rfl, vs, SqL.of hv⟩, a, vs, y, rfl, rfl, hv, by rw [dens_length ds]; exact hy, q m1 O1 y _ (g1.trans gp) R3 (Den.grow g R1.mO _ _ dy)⟩
    | _ => cases e
def ePopAtSh (p pi : PX) : PX := fun fr st => (p fr st).bind fun x s1 => (pi fr s1).bind fun y s2 => match x.2, y.2 with
  | .ref n, .int i => match s1[n]?, s2[n]? with
    | some (.lst _), some (.lst ws) => if 0 ≤ i ∧ i < 2 ^ 62 then (match ws[i.toNat]? with
      | some w => .ok (.st, w) (s2.set n (.lst (ws.eraseIdx i.toNat)))
      | none => .bad) else .bad
    | _, _ => .bad
  | _, _ => .bad
theorem re_popAtSh {d j : Expr} {p pi : PX} {apos : Pos} (hd : RE X d p) (hj : RE X j pi)
    (hbase : attributeBase d "pop" X.env (eval d X.env) = eval d X.env := by rfl)
    (hfew : ((backTo pos (starEach (j :: []) X.env)).all (fun x => !x.1) && (backToKw pos (keywordEach [] X.env)).all (fun x => x.1.isSome)
      && decide ((j :: []).length + ([] : List Keyword).length + (if ([] : List Keyword).isEmpty then 0 else 1) < 30)) = true := by rfl)
    (hline : (apos.endLine == pos.line) = true := by rfl) (hs : starEach (j :: []) X.env = (false, eval j X.env) :: starEach [] X.env := by rfl) : RE X (.Call (.Attribute d "pop" apos) [j] [] pos) (ePopAtSh p pi) :=
  (pe_bm PySem.F.plainAttrs_list PySem.F.slot_list_pop PySem.F.type_list_pop mt_popAt hd.look (pa_cons hj.look pa_nil hs) hbase hfew hline hs rfl).imp fun σ H Q h => by
    obtain ⟨m, F, O, fr, st, k, w, st', R, e, q⟩ := h
    obtain ⟨⟨k1, x⟩, s1, e1, e⟩ := Res.bind_eq e
    obtain ⟨⟨k2, y⟩, s2, e2, e⟩ := Res.bind_eq e
    match x, y, e1, e2, e with
    | .ref n, .int i, e1, e2, e =>
      have e : (match s1[n]?, s2[n]? with | some (.lst _), some (.lst ws) => (if 0 ≤ i ∧ i < 2 ^ 62 then (match ws[i.toNat]? with | some w => Res.ok (Kd.st, w) (s2.set n (.lst (ws.eraseIdx i.toNat))) | none => .bad) else .bad) | _, _ => .bad) = .ok (k, w) st' := e
      match hs0 : s1[n]?, hs : s2[n]?, e with
      | some (.lst us), some (.lst ws), e =>
        by_cases hi : 0 ≤ i ∧ i < 2 ^ 62
        · simp only [if_pos hi] at e
          cases hw : ws[i.toNat]? with
          | none => simp only [hw] at e; cases e
          | some w1 =>
            simp only [hw] at e
            cases e
            refine ⟨m, F, O, fr, st, k1, _, s1, R, e1, fun m1 O1 v H1 g1 R1 d1 => ?_⟩
            unfold LDen Den at d1
            obtain ⟨a, hn, rfl⟩ := d1
            obtain ⟨o1, eo1, dd1⟩ := R1.obj n a hn
            rw [hs0] at eo1
            cases eo1
            obtain ⟨vs1, hv1, _⟩ := dd1
            have ty : tyV X.K "list" (.ref a) H1 := .inl ⟨rfl, vs1, SqL.of hv1⟩
            refine ⟨ty, m1, F, O1, fr, s1, k2, _, s2, R1, e2, fun m2 O2 v2 H2 g2 R2 d2 => ?_⟩
            have hn2 := g2.mm n a hn
            obtain ⟨o, eo, dd⟩ := R2.obj n a hn2
            rw [hs] at eo
            cases eo
            obtain ⟨vs, hv, ds⟩ := dd
            obtain ⟨y, hy, dy⟩ := dens_get2 ds hw
            have g : GrowF (fun _ => False) m2 O2 H2 m2 O2 (upd H2 a (.lst (vs.eraseIdx i.toNat))) := GrowF.put (R2.mO n a hn2) (fun z => z) fun xs z => by rw [hv] at z; cases z
            obtain ⟨gp, R3⟩ := R2.putSh (o' := .lst (ws.eraseIdx i.toNat)) hn2 ⟨vs.eraseIdx i.toNat, upd_same, Dens.grow g R2.mO _ _ (dens_erase _ ds)⟩ (List.getElem?_eq_some_iff.mp hs).1
            have hlt : i.toNat < vs.length := (List.getElem?_eq_some_iff.mp hy).1
            exact ⟨a, vs, i, i.toNat, y, rfl, by rw [den_int d2], hv, by omega, by omega, by unfold seqIndex?; simp; omega, hy, q m2 O2 y _ (g1.trans (g2.trans gp)) R3 (Den.grow g R2.mO _ _ dy)⟩
        · simp only [if_neg hi] at e; cases e
end
end Vy

set_option Elab.async false
set_option linter.all false
set_option maxRecDepth 100000
set_option maxHeartbeats 4000000
/-! Displays of dicts; comprehensions over a dict's items. -/
namespace Vy
open PySem PySem.Spec PyProof.Rows L2

section
variable {K : PySem.W.Frag} {X : Cx} {m m' m0 m1 : Mp} {F F' O O' O0 O1 G : Op} {H H' H0 H1 : Hp} {σ : L2.St} {fr : Frame} {st st1 : Store} {pos : Pos} {a b : Addr}

theorem Rel.putHeld2 {D : Addr} {u : HO} (R : Rel K m F O σ H fr st) (fd : F D) (ni : NoImg m D) (nt : ∀ vs, H D ≠ some (.tup vs)) :
    GrowF (fun _ => False) m O H m O (upd H D u) ∧ Rel K m F O σ (upd H D u) fr st := by
  have h1 := R.flo D fd
  have g : GrowF (fun _ => False) m O H m O (upd H D u) := GrowF.put h1 (fun z => z) nt
  refine ⟨g, ⟨⟨R.mO, R.flo, R.inj, R.dom, fun b z => ?_, fun n b z => ?_⟩, fun j s q => ?_, R.len, R.sep⟩⟩
  · obtain ⟨x, ex⟩ := R.trk b z
    exact g.there b x ex
  · obtain ⟨x, ex, dx⟩ := R.obj n b z
    exact ⟨x, ex, dx.put R.mO h1 nt fun y => ni n (y ▸ z)⟩
  · have z := R.sl j s q
    cases s with
    | no => exact trivial
    | val w => obtain ⟨v, z1, d⟩ := z; exact ⟨v, z1, Den.grow g R.mO w v d⟩
    | own x =>
      obtain ⟨b, z1, k1, k2, k3, dx⟩ := z
      exact ⟨b, z1, k1, k2, k3, dx.put R.mO h1 nt fun y => k2 (y ▸ fd)⟩

/-! ### {'x': e, ..} -/
def dispL : List (Key × PX) → PL
  | [] => aNil
  | (_, p) :: r => aCons p (dispL r)
def trsOf (K : PySem.W.Frag) (kps : List (Key × PX)) : List (TE × TE) := kps.map fun kp => (tC (kV kp.1), tK K kp.2)
theorem t_pairs : ∀ {kps : List (Key × PX)} {σ : L2.St} {H : Hp} {Q : List (V × V) → Hp → Prop}, tA K (dispL kps) σ H (fun vs H1 => Q (List.zipWith (fun k v => (kV k, v)) (kps.map (·.1)) vs) H1) → tPairs (trsOf K kps) σ H Q
  | [], σ, H, Q, h => by
    obtain ⟨m, F, O, fr, st, ws, st', R, e, q⟩ := h
    cases e
    exact q m O [] H Grow.refl R (by unfold Dens; rfl)
  | (k, p) :: r, σ, H, Q, h => by
    obtain ⟨m, F, O, fr, st, ws, st', R, e, q⟩ := h
    obtain ⟨⟨k1, w⟩, s1, e1, e⟩ := Res.bind_eq e
    by_cases ok : keepOk k1 w = true
    · rw [if_pos ok] at e
      obtain ⟨us, s2, e2, e⟩ := Res.bind_eq e
      cases e
      show tC (kV k) σ H fun x H1 => tK K p σ H1 fun y H2 => tPairs (trsOf K r) σ H2 fun ps H3 => Q ((x, y) :: ps) H3
      refine ⟨m, F, O, fr, st, k1, w, s1, R, e1, ok, fun m1 O1 v H1 g1 R1 d1 => t_pairs ⟨m1, F, O1, fr, s1, us, st', R1, e2, fun m2 O2 vs H2 g2 R2 d2 => ?_⟩⟩
      exact q m2 O2 (v :: vs) H2 (g1.trans g2) R2 (by unfold Dens; exact ⟨v, vs, rfl, Den.grow g2 R1.mO _ _ d1, d2⟩)
    · rw [if_neg ok] at e; cases e
theorem merge_nodup : ∀ {kvs acc : List (Key × V)}, ((acc ++ kvs).map (·.1)).Nodup → mergeK acc kvs = acc ++ kvs
  | [], acc, _ => by rw [List.append_nil]; rfl
  | p :: kvs, acc, h => by
    have e : acc ++ p :: kvs = (acc ++ [p]) ++ kvs := by simp
    have n : valV acc p.1 = none := by
      have h2 : p.1 ∉ acc.map (·.1) := fun z => by
        rw [List.map_append, List.nodup_append] at h
        exact h.2.2 _ z _ (List.mem_map.mpr ⟨p, List.mem_cons_self .., rfl⟩) rfl
      cases hv : valV acc p.1 with
      | none => rfl
      | some v =>
        have q := valV_any p.1 acc
        rw [hv] at q
        obtain ⟨x, hx, hd⟩ := List.any_eq_true.mp q
        exact absurd (List.mem_map.mpr ⟨x, hx, of_decide_eq_true hd⟩) h2
    show mergeK (putK acc p.1 p.2) kvs = _
    rw [putK_new p.2 n, e]
    exact merge_nodup (by rw [← e]; exact h)
theorem disp_core {kps : List (Key × PX)} {ws : List W} {st' : Store} {Q : VK} (R : Rel K m F O σ H fr st) (e : dispL kps fr st = .ok ws st') (nd : (kps.map (·.1)).Nodup) (hl : kps.length ≤ 15)
    (q : ∀ p m' O' H', H p = none → Grow m O H m' O' H' → Rel K m' F O' σ H' fr st' → Fresh m' F O' σ fr p → ObAt K m' O' H' p (.dct (.k (kps.map (·.1))) ws) → Q (.ref p) H') : tDisp (trsOf K kps) σ H Q := fun p hp => by
  have RA := R.add (o := .dK []) hp
  have f := R.fresh hp
  refine t_pairs ⟨m, _, _, fr, st, ws, st', RA.hold f, e, fun m1 O1 vs H1 g1 R1 d1 => ?_⟩
  have ni := g1.noimg f.ni (upd_same (o := .dK []))
  have h1 := g1.keep p _ upd_same (.inr trivial) f.ni
  have hlv : vs.length = kps.length := by
    have z : ∀ {kps : List (Key × PX)} {fr : Frame} {s s' : Store} {ws : List W}, dispL kps fr s = .ok ws s' → ws.length = kps.length := fun {kps} => by
      induction kps with
      | nil => intro fr s s' ws e; cases e; rfl
      | cons kp r ih => intro fr s s' ws e; exact aCons_len (n := r.length) (fun fr st ws st' h => ih h) fr s ws s' e
    rw [dens_length d1, z e]
  have kz : ∀ (ks : List Key) (vs : List V), vs.length = ks.length → (List.zip ks vs).map (·.1) = ks ∧ (List.zip ks vs).map (·.2) = vs ∧ List.zipWith (fun k v => (kV k, v)) ks vs = (List.zip ks vs).map fun kv => (kV kv.1, kv.2) := fun ks => by
    induction ks with
    | nil => intro vs h; cases vs with
      | nil => exact ⟨rfl, rfl, rfl⟩
      | cons => cases h
    | cons k ks ih => intro vs h; cases vs with
      | nil => cases h
      | cons v vs =>
        obtain ⟨a1, a2, a3⟩ := ih vs (by simpa using h)
        exact ⟨congrArg (k :: ·) a1, congrArg (v :: ·) a2, congrArg ((kV k, v) :: ·) a3⟩
  obtain ⟨k1, k2, k3⟩ := kz (kps.map (·.1)) vs (by rw [List.length_map]; exact hlv)
  refine ⟨h1, List.zip (kps.map (·.1)) vs, k3, by rw [List.length_zip, List.length_map]; omega, ?_⟩
  rw [merge_nodup (by rw [List.nil_append, k1]; exact nd), List.nil_append]
  obtain ⟨gp, R2⟩ := R1.putHeld2 (u := .dK (List.zip (kps.map (·.1)) vs)) (.inr rfl) ni fun vs z => by rw [h1] at z; cases z
  have g2 : Grow m O H m1 O1 H1 := (Grow.add hp).trans g1
  refine q p m1 O1 _ hp ⟨g2.mm, g2.new, fun b o z c n => ?_, g2.opn, fun b o z => ?_, fun b vs z => gp.tups b vs (g2.tups b vs z)⟩ (R2.unhold fun b z => .inl z) ⟨R1.flo p (.inr rfl), f.nf, ni, fun i o z1 z2 => ?_⟩ ⟨vs, ⟨_, k1.symm, k2.symm, upd_same⟩, Dens.grow gp R1.mO _ _ d1⟩
  · rw [upd_ne (ne_of_none z hp)]
    exact g2.keep b o z c n
  · obtain ⟨o', z'⟩ := g2.there b o z
    exact gp.there b o' z'
  · obtain ⟨c, z3, _, z4, _⟩ := R1.sl i _ z1
    rw [z2] at z3
    cases z3
    exact z4 (.inr rfl)
def eDisp (kps : List (Key × PX)) : PX := fun fr st => (dispL kps fr st).bind fun ws s1 => if (kps.map (·.1)).Nodup ∧ kps.length ≤ 15 then .ok (.fr, .dct (.k (kps.map (·.1))) ws) s1 else .bad
def eDispP (kps : List (Key × PX)) : PX := fun fr st => (dispL kps fr st).bind fun ws s1 => if (kps.map (·.1)).Nodup ∧ kps.length ≤ 15 then .ok (.st, .ref s1.length) (s1 ++ [.dct (.k (kps.map (·.1))) ws]) else .bad
abbrev RDs (X : Cx) (pos : Pos) (keys : List (Option Expr)) (values : List Expr) (kps : List (Key × PX)) : Prop := PPs X pos keys values (trsOf X.K kps)
theorem rds_nil : RDs X pos [] [] [] := pps_nil
theorem rds_str {x : Str} {j : Nat} {p1 : Pos} {ks : List (Option Expr)} {v : Expr} {vs : List Expr} {p : PX} {r : List (Key × PX)} (hv : RE X v p) (hr : RDs X pos ks vs r) : RDs X pos (some (.Constant (.str x) j p1) :: ks) (v :: vs) ((.inr x, p) :: r) :=
  pps_cons pe_str hv.kept hr
theorem rds_int {x : Int} {j : Nat} {p1 : Pos} {ks : List (Option Expr)} {v : Expr} {vs : List Expr} {p : PX} {r : List (Key × PX)} (hv : RE X v p) (hr : RDs X pos ks vs r) : RDs X pos (some (.Constant (.int x) j p1) :: ks) (v :: vs) ((.inl x, p) :: r) :=
  pps_cons pe_int hv.kept hr
theorem re_disp {keys : List (Option Expr)} {values : List Expr} {kps : List (Key × PX)} (h : RDs X pos keys values kps) (hall : keys.all (·.isSome) = true := by rfl) (hl : keys.length = values.length := by rfl) (h0 : keys ≠ [] := by exact List.cons_ne_nil _ _) (h15 : keys.length ≤ 15 := by decide) :
    RE X (.Dict keys values pos) (eDisp kps) := (pe_disp h hall hl h0 h15).imp fun σ H Q h => by
  obtain ⟨m, F, O, fr, st, k, w, st', R, e, q⟩ := h
  obtain ⟨ws, s1, e1, e⟩ := Res.bind_eq e
  by_cases c : (kps.map (·.1)).Nodup ∧ kps.length ≤ 15
  · rw [if_pos c] at e
    cases e
    exact disp_core R e1 c.1 c.2 fun p m' O' H' hp g R' f d => q m' O' _ H' g R' ⟨p, _, rfl, rfl, f, d⟩
  · rw [if_neg c] at e; cases e
theorem re_dispP {keys : List (Option Expr)} {values : List Expr} {kps : List (Key × PX)} (h : RDs X pos keys values kps) (hall : keys.all (·.isSome) = true := by rfl) (hl : keys.length = values.length := by rfl) (h0 : keys ≠ [] := by exact List.cons_ne_nil _ _) (h15 : keys.length ≤ 15 := by decide) :
    RE X (.Dict keys values pos) (eDispP kps) := (pe_disp h hall hl h0 h15).imp fun σ H Q h => by
  obtain ⟨m, F, O, fr, st, k, w, st', R, e, q⟩ := h
  obtain ⟨ws, s1, e1, e⟩ := Res.bind_eq e
  by_cases c : (kps.map (·.1)).Nodup ∧ kps.length ≤ 15
  · rw [if_pos c] at e
    cases e
    exact disp_core R e1 c.1 c.2 fun p m' O' H' hp g R' f d => q _ _ _ _ (g.pub hp R'.last) (R'.pub f d) den_ref
  · rw [if_neg c] at e; cases e

/-! ### the pairs of a dict -/
theorem frzT2 {pins : List (Addr × Obj)} {s : Shared} {d : Addr} {o : Obj} {kvs : List (List Key × V)} (I : Inv X pins σ H s) (h : H d = some (.frz o (.dT kvs))) :
    (d == sysModules) = false ∧ s.heap.get? d = some o ∧ o.ExactDict ∧ ∃ (es : Array DictEntry) (ep : Nat), o.data = .dict es ep ∧ es.size = kvs.length ∧
      ∀ (i : Nat) (k : List Key) (v : V), kvs[i]? = some (k, v) → ∃ (en : DictEntry) (q : Addr), es[i]? = some en ∧ en.key = .ref q ∧ H q = some (.tup (k.map kV)) ∧ RelV v en.val := by
  obtain ⟨hd, z, hs, xs, pr, o', es, ep, ho, hx, hdt, he, _⟩ := I.hok d _ h
  rw [hd] at ho
  cases ho
  refine ⟨hs, hd, hx, es, ep, hdt, ?_, fun i k v e => ?_⟩
  · have l1 : es.size = xs.length := size_of_entries he
    have l2 : kvs.length = xs.length := Paired.length pr
    omega
  · obtain ⟨b, hb, e1, e2, e3⟩ := paired_get pr e
    have q := entry_at he i
    rw [hb] at q
    exact ⟨_, b.2.1, q, rfl, e2, e3⟩
/-- the pairs of a locked dict with tuple keys, each a new tuple -/
def ItiT (d : Addr) (o : Obj) (kvs : List (List Key × V)) : It :=
  ⟨fun i H => H d = some (.frz o (.dT kvs)) ∧ i < kvs.length, fun i H x H' => ∃ T k v q, kvs[i]? = some (k, v) ∧ H q = some (.tup (k.map kV)) ∧ x = .ref T ∧ H T = none ∧ H' = upd H T (.tup [.ref q, v]), fun i H => H d = some (.frz o (.dT kvs)) ∧ kvs.length ≤ i⟩
theorem turn_itemsT {P : Program} {w : World} {K : PySem.W.Frag} {d : Addr} {o : Obj} {es : Array DictEntry} {ep : Nat} {kvs : List (List Key × V)} {elts : List Expr} {kk : Nat} {tpos : Pos} (it : Addr) (hod : o.data = .dict es ep) :
    Turn P w K (.Tuple elts kk tpos) (ItiT d o kvs) [it] it (fun i h => ∃ ok ov, IsItemIter h it d i kvs.length ep ok ov) where
  mem := by simp
  obj := fun i h st b hb => by
    have e : b = it := by simpa using hb
    subst e
    obtain ⟨ok, ov, e⟩ := st
    exact ⟨_, e, fun v z => nomatch z⟩
  keep := fun i h h' st k => let ⟨ok, ov, e⟩ := st; ⟨ok, ov, k it (by simp) _ e⟩
  item := by
    intro X hP hw hK hc i pins s σ H E I hf st hg
    subst hP hw hK
    obtain ⟨hd, hi⟩ := hg
    obtain ⟨hs, hgd, hx, es', ep', hdt, hsz, ent⟩ := frzT2 I hd
    obtain ⟨rfl, rfl⟩ := dict_ep hod hdt
    obtain ⟨⟨k, v⟩, hkv⟩ : ∃ p, kvs[i]? = some p := ⟨kvs[i], List.getElem?_eq_getElem hi⟩
    obtain ⟨en, q, hen, hkey, hq, hval⟩ := ent i k v hkv
    obtain ⟨ok, ov, he⟩ := st
    rw [← hsz] at he
    have hlt : it < s.heap.objs.size := Heap.lt_size he
    have hie : i < es'.size := by rw [hsz]; exact hi
    have een : es'[i] = en := by
      rw [Array.getElem?_eq_getElem hie] at hen
      exact Option.some.inj hen
    refine PySem.wpAny_pyNext_items_item_raw he ⟨o, hgd, hx, hdt⟩ hie fun h' ho hT hz hk => ?_
    rw [een, hkey] at ho hT
    refine ⟨_, rfl, wpAny_letOwnedTupleGo_items (s := { s with heap := h' }) ho fun h'' he' sb => ?_⟩
    have hT2 : h''.get? s.heap.objs.size = some { cls := .type "tuple", data := .seq #[.ref q, en.val] } := (sb.2 _ (Nat.ne_of_gt hlt)).trans hT
    have new : ObjOk X.prog X.w (upd H s.heap.objs.size (.tup [.ref q, v])) h'' s.heap.objs.size (.tup [.ref q, v]) :=
      ⟨by show 2 ≤ sizeLine; decide, [.ref q, en.val], .cons rfl (.cons hval .nil), ⟨_, hT2, rfl, _, rfl⟩⟩
    have I1 : Inv X pins σ (upd H s.heap.objs.size (.tup [.ref q, v])) { s with heap := h'' } :=
      I.turnedNew (t' := s.toks) (ch := [it]) (fun b ob hb e => (sb.2 b (by simpa using hb)).trans (hk b ob (by simpa using hb) e)) hf (Nat.le_refl _) new
    refine ⟨.ref s.heap.objs.size, _, I1, rfl, ⟨_, k, v, q, hkv, hq, rfl, I.hok.fresh (Nat.le_refl _), rfl⟩, ⟨.ref q, en.val, ?_⟩, fun b hb => ?_⟩
    · rw [← hsz]; exact he'
    · have e : b = it := by simpa using hb
      rw [e, upd_ne (Nat.ne_of_lt hlt)]
      exact (hf it (by simp)).1
  done := by
    intro X hP hw hK hc i pins s σ H E I hf st hg
    subst hP hw hK
    obtain ⟨hd, hi⟩ := hg
    obtain ⟨f0, f1, f2, f3, f4, f5⟩ := hf it (by simp)
    obtain ⟨hs, hgd, hx, es', ep', hdt, hsz, ent⟩ := frzT2 I hd
    obtain ⟨rfl, rfl⟩ := dict_ep hod hdt
    obtain ⟨ok, ov, he⟩ := st
    rw [← hsz] at he
    exact PySem.wpAny_pyNext_items_end_raw (I.ok.hd hc) he ⟨o, hgd, hx, hdt⟩ (by rw [hsz]; exact hi) fun h' eb => ⟨rfl, I.turned (t' := s.toks) (fun b ob hb e => eb b ob hb e) f0 f1 f3 f4 f5⟩
  self := fun A i s Q E st h => let ⟨_, _, e⟩ := st; PySem.W.kcp_self e h
def iItemsT (td : TE) : TI := fun σ H R => td σ H fun x H1 => ∃ d o kvs, x = .ref d ∧ H1 d = some (.frz o (.dT kvs)) ∧ R (ItiT d o kvs) H1
theorem pi_itemsT {e : Expr} {td : TE} {apos cpos : Pos} {elts : List Expr} {kk : Nat} {tpos : Pos} (he : PE X e td) (hbase : attributeBase e "items" X.env (eval e X.env) = eval e X.env := by rfl) (hline : (apos.endLine == cpos.line) = true := by rfl) :
    PI X (.Tuple elts kk tpos) (.Call (.Attribute e "items" apos) [] [] cpos) (iItemsT td) := by
  refine ⟨fun pins s σ H R I h => ?_⟩
  refine wpAny_Call_method (T := "dict") (id := "dict.items") hbase rfl hline F.plainAttrs_dict F.slot_dict_items F.type_dict_items (thn (he.run pins s σ H _ I h) fun u s1 ⟨x, H1, I1, rx, d, o, kvs, ex, hd, q⟩ => ?_)
  subst ex
  obtain rfl : u = Value.ref d := rx
  obtain ⟨hs, hgd, hx, es, ep, hdt, hsz, ent⟩ := frzT2 I1 hd
  have hm : s1.heap.DictRaw d es ep := ⟨o, hgd, hx, hdt⟩
  refine ⟨hm.typeIs, fun a ea => by cases ea; exact ⟨o, hgd, hx.2.1⟩, ?_⟩
  have I2 : Inv X pins σ H1 { s1 with heap := s1.heap.push { cls := .type "dict_items", data := .fields #[.ref d] } } := I1.kept (t' := s1.toks) fun b ob q => Heap.get?_push_of_some _ q
  have fin : wpAny (model X.prog X.w) X.A (pyIter (.ref s1.heap.objs.size)) (PIE X pins σ (.Tuple elts kk tpos) R) X.xe { s1 with heap := s1.heap.push { cls := .type "dict_items", data := .fields #[.ref d] } } := by
    refine wpAny_pyIter_items_raw (d := d) (es := es) (ep := ep) ⟨_, Heap.get?_push_size _ rfl, rfl, rfl⟩ (hm.at fun o e => Heap.get?_push_of_some _ e) (pi_one (tk := s1.toks) I2 _ (turn_itemsT _ hdt) ⟨.none, .none, ?_⟩ q)
    rw [← hsz]
    exact Heap.get?_push_size _ rfl
  show wpAny _ _ (callWith cpos (.builtin "dict.items") [.ref d] [] []) _ X.xe s1
  exact method_meetsIn F.slot_dict_items F.entry_dict_items rfl (PySem.evalArgs_none ⟨rfl, hm.typeIs, F.args_dict_items_1 _, _, meets_dict_items_raw d hs, ⟨⟨es, ep, hm⟩, fin⟩⟩)
def pairsW (ks : Kys) (ws : List W) : List W := match ks with
  | .k l => List.zipWith (fun k w => .tup [keyW k, w]) l ws
  | .t l => List.zipWith (fun k w => .tup [tkeyW k, w]) l ws
def KvI (K : PySem.W.Frag) (m : Mp) (O : Op) (H : Hp) (ks : Kys) (ws : List W) (u : HO) : Prop := match ks with
  | .k l => ∃ kvs : List (Key × V), u = .dK kvs ∧ l = kvs.map (·.1) ∧ Dens K m O H ws (kvs.map (·.2))
  | .t l => ∃ kvs : List (List Key × V), u = .dT kvs ∧ l = kvs.map (·.1) ∧ Dens K m O H ws (kvs.map (·.2))
/-- slot i's object is locked and its pairs are ps -/
def ExI (K : PySem.W.Frag) (i : Nat) (ks : Kys) (ws : List W) : Mp → Op → L2.St → Hp → Frame → Prop := fun m O σ H fr =>
  ∃ d o u, σ[i]? = some (some (V.ref d)) ∧ NoImg m d ∧ H d = some (.frz o u) ∧ KvI K m O H ks ws u
theorem DictIs.obj {ks : Kys} {xs : List V} (hd : DictIs H a ks xs) : ∃ u, H a = some u ∧ Mut (some u) ∧ (∀ ys, u ≠ .tup ys) ∧ ∀ (K : PySem.W.Frag) (m : Mp) (O : Op) (H' : Hp) (ws : List W), Dens K m O H' ws xs → KvI K m O H' ks ws u := by
  cases ks with
  | k l =>
    obtain ⟨kvs, e1, rfl, e3⟩ := hd
    exact ⟨_, e3, trivial, fun ys z => (nomatch z), fun K m O H' ws d => ⟨kvs, rfl, e1, d⟩⟩
  | t l =>
    obtain ⟨kvs, e1, rfl, e3⟩ := hd
    exact ⟨_, e3, trivial, fun ys z => (nomatch z), fun K m O H' ws d => ⟨kvs, rfl, e1, d⟩⟩
theorem den_key {k : Key} : Den K m O H (keyW k) (kV k) := by
  cases k <;> (show Den _ _ _ _ _ _; unfold Den; rfl)
theorem dens_keys : ∀ (ks : List Key), Dens K m O H (ks.map keyW) (ks.map kV)
  | [] => by show Dens _ _ _ _ [] []; unfold Dens; rfl
  | k :: ks => by
    show Dens _ _ _ _ (keyW k :: ks.map keyW) (kV k :: ks.map kV)
    unfold Dens
    exact ⟨kV k, _, rfl, den_key, dens_keys ks⟩
theorem zw_get {α β γ : Type} {f : α → β → γ} {l : List α} {r : List β} {i : Nat} {w : γ} (h : (List.zipWith f l r)[i]? = some w) : ∃ x y, l[i]? = some x ∧ r[i]? = some y ∧ w = f x y := by
  rw [List.getElem?_zipWith] at h
  cases h1 : l[i]? with
  | none => rw [h1] at h; cases h
  | some x =>
    cases h2 : r[i]? with
    | none => rw [h1, h2] at h; cases h
    | some y => rw [h1, h2] at h; cases h; exact ⟨x, y, rfl, rfl, rfl⟩
theorem yields_itemsK {d : Addr} {o : Obj} {kvs : List (Key × V)} {ws : List W} (hm : ∀ n a, m n = some a → O a) (ni : NoImg m d) (hd : H d = some (.frz o (.dK kvs))) (ds : Dens K m O H ws (kvs.map (·.2))) :
    Yields K allA m O H (Iti d o kvs) (List.zipWith (fun k w => .tup [keyW k, w]) (kvs.map (·.1)) ws) := fun m2 O2 H2 g hm2 i => by
  have hd2 := g.keep d _ hd (.inr trivial) ni
  have ds2 := Dens.grow g hm _ _ ds
  have hl := dens_length ds
  rw [List.length_map] at hl
  refine ⟨fun w hw => ?_, fun e => ⟨hd2, by rw [e, List.length_zipWith, List.length_map]; omega⟩⟩
  obtain ⟨k, x, h1, h2, rfl⟩ := zw_get hw
  have hi : i < kvs.length := by
    have := (List.getElem?_eq_some_iff.mp h1).1
    rw [List.length_map] at this
    exact this
  refine ⟨⟨hd2, hi⟩, fun y H3 hy => ?_⟩
  obtain ⟨T, k2, v, e1, rfl, hT, rfl⟩ := hy
  obtain ⟨v', hv', dv⟩ := dens_get2 ds2 h2
  rw [List.getElem?_map, e1] at hv' h1
  cases hv'
  cases h1
  exact den_pair hT hm2 den_key dv
theorem yields_itemsT {d : Addr} {o : Obj} {kvs : List (List Key × V)} {ws : List W} (hm : ∀ n a, m n = some a → O a) (ni : NoImg m d) (hd : H d = some (.frz o (.dT kvs))) (ds : Dens K m O H ws (kvs.map (·.2))) :
    Yields K allA m O H (ItiT d o kvs) (List.zipWith (fun k w => .tup [tkeyW k, w]) (kvs.map (·.1)) ws) := fun m2 O2 H2 g hm2 i => by
  have hd2 := g.keep d _ hd (.inr trivial) ni
  have ds2 := Dens.grow g hm _ _ ds
  have hl := dens_length ds
  rw [List.length_map] at hl
  refine ⟨fun w hw => ?_, fun e => ⟨hd2, by rw [e, List.length_zipWith, List.length_map]; omega⟩⟩
  obtain ⟨k, x, h1, h2, rfl⟩ := zw_get hw
  have hi : i < kvs.length := by
    have := (List.getElem?_eq_some_iff.mp h1).1
    rw [List.length_map] at this
    exact this
  refine ⟨⟨hd2, hi⟩, fun y H3 hy => ?_⟩
  obtain ⟨T, k2, v, q, e1, hq, rfl, hT, rfl⟩ := hy
  obtain ⟨v', hv', dv⟩ := dens_get2 ds2 h2
  rw [List.getElem?_map, e1] at hv' h1
  cases hv'
  cases h1
  refine den_pair hT hm2 ?_ dv
  show Den _ _ _ _ (.tup (k2.map keyW)) _
  unfold Den
  exact ⟨q, _, rfl, hq, dens_keys k2⟩
theorem pe_or {e : Expr} {t1 t2 : TE} (h1 : PE X e t1) (h2 : PE X e t2) : PE X e (fun σ H Q => t1 σ H Q ∨ t2 σ H Q) := ⟨fun pins s σ H Q I h => h.elim (h1.run pins s σ H Q I) (h2.run pins s σ H Q I)⟩
theorem ri_items {d : Expr} {i : Nat} {elts : List Expr} {kk : Nat} {tpos apos cpos : Pos} {ks : Kys} {ws : List W} (he : PE X d (tVar i)) (hbase : attributeBase d "items" X.env (eval d X.env) = eval d X.env := by rfl) (hline : (apos.endLine == cpos.line) = true := by rfl) :
    RIx X (ExI X.K i ks ws) (.Tuple elts kk tpos) (.Call (.Attribute d "items" apos) [] [] cpos) false (fun _ st => .ok (pairsW ks ws) st) := by
  cases ks with
  | k l =>
    refine (pi_items he hbase hline).imp fun σ H R h => ?_
    obtain ⟨m, F, O, fr, st, us, st', R0, ⟨d, o, u, e1, ni, hd, kvs, rfl, rfl, ds⟩, e, q⟩ := h
    cases e
    exact ⟨_, e1, d, o, kvs, rfl, hd, q m O _ H Grow.refl R0 (by rw [if_neg Bool.false_ne_true]; exact yields_itemsK R0.mO ni hd ds)⟩
  | t l =>
    refine (pi_itemsT he hbase hline).imp fun σ H R h => ?_
    obtain ⟨m, F, O, fr, st, us, st', R0, ⟨d, o, u, e1, ni, hd, kvs, rfl, rfl, ds⟩, e, q⟩ := h
    cases e
    exact ⟨_, e1, d, o, kvs, rfl, hd, q m O _ H Grow.refl R0 (by rw [if_neg Bool.false_ne_true]; exact yields_itemsT R0.mO ni hd ds)⟩
/-- an own slot is taken out of the frame while its object is held; and put back -/
theorem Rel.takeOut {o : Ob} {i : Nat} (R : Rel K m F O σ H fr st) (e : fr[i]? = some (Sl.own o)) (ea : σ[i]? = some (some (V.ref a))) : Rel K m (fun b => F b ∨ b = a) O σ H (fr.set i .no) st := by
  obtain ⟨a', e1, h1, h2, h3, d⟩ := R.sl i _ e
  rw [ea] at e1
  cases e1
  have R1 := R.forget1 i
  refine ⟨⟨R.mO, fun b z => z.elim (R.flo b) fun z => z ▸ h1, R.inj, R.dom, R.trk, R.obj⟩, fun j s q => ?_, R1.len, R1.sep⟩
  have z := R1.sl j s q
  cases s with
  | no => exact trivial
  | val w => exact z
  | own u =>
    obtain ⟨b, z1, k1, k2, k3, dx⟩ := z
    refine ⟨b, z1, k1, fun y => y.elim k2 fun y => ?_, k3, dx⟩
    have nij : i ≠ j := fun h => by
      subst h
      rw [List.getElem?_set_self (List.getElem?_eq_some_iff.mp e).1] at q
      cases q
    rw [List.getElem?_set_ne nij] at q
    exact nij (R.sep i j o u a e q ea (y ▸ z1))
theorem Rel.putBack {o : Ob} {i : Nat} (R : Rel K m (fun b => F b ∨ b = a) O σ H (fr.set i .no) st) (hi : i < fr.length) (e : fr[i]? = some (Sl.own o)) (ea : σ[i]? = some (some (V.ref a))) (nf : ¬ F a) (ni : NoImg m a) (d : ObAt K m O H a o) : Rel K m F O σ H fr st := by
  have R1 := R.unhold (F := F) fun b z => .inl z
  have sl : ∀ (j : Nat) (s : Sl), fr[j]? = some s → j ≠ i → (fr.set i .no)[j]? = some s := fun j s q n => by rw [List.getElem?_set_ne (Ne.symm n)]; exact q
  refine ⟨R1.toSto, fun j s q => ?_, by have := R.len; rw [List.length_set] at this; exact this, fun j l o1 u b q1 q2 r1 r2 => ?_⟩
  · by_cases h : j = i
    · subst h
      rw [e] at q
      cases q
      exact ⟨a, ea, R.flo a (.inr rfl), nf, ni, d⟩
    · exact R1.sl j s (sl j s q h)
  · have nb : ∀ (j : Nat) (o : Ob), fr[j]? = some (Sl.own o) → j ≠ i → σ[j]? ≠ some (some (V.ref a)) := fun j o q n z => by
      obtain ⟨c, z1, _, z2, _⟩ := R.sl j _ (sl j _ q n)
      rw [z] at z1
      cases z1
      exact z2 (.inr rfl)
    by_cases h1 : j = i
    · by_cases h2 : l = i
      · rw [h1, h2]
      · subst h1
        rw [ea] at r1
        cases r1
        exact absurd r2 (nb l u q2 h2)
    · by_cases h2 : l = i
      · subst h2
        rw [ea] at r2
        cases r2
        exact absurd r1 (nb j o1 q1 h1)
      · exact R.sep j l o1 u b (sl j _ q1 h1) (sl l _ q2 h2) r1 r2
/-- [el for .. in d.items() if c], d the own dict in slot i -/
def eCompI (i : Nat) (q : PG') (c : PB) (el : PX) (vs : List Nat) : PX := fun fr st => match fr[i]? with
  | some (.own (.dct ks ws)) => eComp (fun _ st => .ok (pairsW ks ws) st) q c el vs (fr.set i .no) st
  | _ => .bad
theorem comp_lock {e : Expr} {i : Nat} {q : PG'} {c : PB} {el : PX} {vs : List Nat} (h : ∀ ks ws, PE X e (tIe X.K (ExI X.K i ks ws) (eComp (fun _ st => .ok (pairsW ks ws) st) q c el vs))) : RE X e (eCompI i q c el vs) := by
  refine ⟨fun pins s σ H Q I hw => ?_⟩
  obtain ⟨m, F, O, fr, st, k, w, st', R, e, po⟩ := hw
  have e : (match fr[i]? with | some (.own (.dct ks ws)) => eComp (fun _ st => .ok (pairsW ks ws) st) q c el vs (fr.set i .no) st | _ => .bad) = .ok (k, w) st' := e
  match hs : fr[i]?, e with
  | some (.own (.dct ks ws)), e =>
    obtain ⟨a, ea, h1, h2, h3, xs, hd, ds⟩ := R.sl i _ hs
    have hi : i < fr.length := (List.getElem?_eq_some_iff.mp hs).1
    -- the object
    obtain ⟨u, hu, mu, ex⟩ := hd.obj
    refine (pe_lock (h ks ws)).run pins s σ H Q I ⟨a, u, hu, mu, fun od => ?_⟩
    have RT := R.takeOut hs ea
    have nt : ∀ vs, H a ≠ some (.tup vs) := fun ys z => by rw [hu] at z; exact ex.1 ys (Option.some.inj z)
    obtain ⟨gl, RL⟩ := RT.putHeld2 (u := .frz od u) (.inr rfl) h3 nt
    refine ⟨m, _, O, fr.set i .no, st, k, w, st', RL, ⟨a, od, u, ea, h3, upd_same, ex.2 _ _ _ _ _ (Dens.grow gl R.mO _ _ ds)⟩, e, fun m' O' v H' g R' d => ?_⟩
    have hk : H' a = some (.frz od u) := g.keep a _ upd_same (.inr trivial) h3
    have ni' : NoImg m' a := g.noimg h3 (upd_same (o := .frz od u))
    refine ⟨hk, ?_⟩
    obtain ⟨gu, RU⟩ := R'.putHeld2 (u := u) (.inr rfl) ni' fun ys z => by rw [hk] at z; cases z
    have oa : O' a := R'.flo a (.inr rfl)
    have nt' : ∀ vs, H' a ≠ some (.tup vs) := fun ys z => by rw [hk] at z; cases z
    have gt : Grow m O H m' O' (upd H' a u) := by
      refine ⟨g.mm, fun n b z => ?_, fun b o z c n => ?_, fun b z => ?_, fun b o z => ?_, fun b ys z => ?_⟩
      · rcases g.new n b z with y | y
        · exact .inl y
        · by_cases nb : b = a
          · subst nb; rw [upd_same] at y; cases y
          · rw [upd_ne nb] at y; exact .inr y
      · by_cases nb : b = a
        · subst nb; rw [upd_same, ← hu]; exact z
        · rw [upd_ne nb]
          exact g.keep b o (by rw [upd_ne nb]; exact z) c n
      · rcases g.opn b z with y | y
        · exact .inl y
        · by_cases nb : b = a
          · subst nb; rw [upd_same] at y; cases y
          · rw [upd_ne nb] at y; exact .inr y
      · by_cases nb : b = a
        · subst nb; exact ⟨u, upd_same⟩
        · obtain ⟨o', y⟩ := g.there b o (by rw [upd_ne nb]; exact z)
          exact ⟨o', by rw [upd_ne nb]; exact y⟩
      · have nb : b ≠ a := fun y => by subst y; exact nt ys z
        rw [upd_ne nb]
        exact g.tups b ys (by rw [upd_ne nb]; exact z)
    have ob : ObAt X.K m' O' (upd H' a u) a (.dct ks ws) := by
      refine ⟨xs, hd.at fun o z => ?_, Dens.grow gt R.mO _ _ ds⟩
      rw [upd_same, ← hu]
      exact z
    have RB := RU.putBack hi hs ea h2 ni' ob
    refine po m' O' v _ gt RB ?_
    cases k with
    | st => exact Den.grow gu R'.mO _ _ d
    | fr =>
      obtain ⟨D, o, e1, e2, f, dd⟩ := d
      have nD : D ≠ a := fun z => f.nf (.inr z)
      refine ⟨D, o, e1, e2, ⟨f.op, fun z => f.nf (.inl z), f.ni, fun j u z1 z2 => ?_⟩, dd.put R'.mO oa nt' nD⟩
      by_cases hj : j = i
      · subst hj
        rw [ea] at z2
        cases z2
        exact nD rfl
      · exact f.no j u (by rw [List.getElem?_set_ne (Ne.symm hj)]; exact z1) z2
    | pk =>
      -- no comprehension gives this kind
      obtain ⟨us, s1, e1, e3⟩ := Res.bind_eq e
      by_cases no : noOwn vs (fr.set i .no) = true
      · rw [if_pos no] at e3
        obtain ⟨ys, s2, e4, e5⟩ := Res.bind_eq e3
        cases e5
      · rw [if_neg no] at e3; cases e3
theorem re_compI {i : Nat} {d elt : Expr} {elts : List Expr} {kk : Nat} {tpos apos cpos : Pos} {ifs : List Expr} {scope : Scope} {own : List (Str × Nat)} {q : PG'} {c : PB} {el : PX} {vs vt : List Nat} (hc : X.calm = true) (hN : X.N.Nodup) (hd : PE X d (tVar i)) (ok : BlkOk X.N X.env.scope scope own) (hvs : own.map (·.2) = vs) (hv : ∀ i ∈ vt, i ∈ vs)
    (hg : ∀ (s : Shared) (H : Hp) (C : Addr) (cl : List (Str × Addr)) (fp : List Addr), RG (X.blk s H scope (compEnvC scope cl C X.env) fp) (.Tuple elts kk tpos) vt q)
    (ht : ∀ (s : Shared) (H : Hp) (C : Addr) (cl : List (Str × Addr)) (fp : List Addr), RTs (X.blk s H scope (compEnvC scope cl C X.env) fp) ifs c)
    (he : ∀ (s : Shared) (H : Hp) (C : Addr) (cl : List (Str × Addr)) (fp : List Addr), RE (X.blk s H scope (compEnvC scope cl C X.env) fp) elt el)
    (hbase : attributeBase d "items" X.env (eval d X.env) = eval d X.env := by rfl) (hline : (apos.endLine == cpos.line) = true := by rfl)
    (hs : ∀ x, foldedSetIterable (.Call (.Attribute d "items" apos) [] [] cpos) X.env x = pure x := by intro _; rfl) :
    RE X (.ListComp elt [⟨.Tuple elts kk tpos, .Call (.Attribute d "items" apos) [] [] cpos, ifs, 0⟩] scope pos) (eCompI i q c el vs) :=
  comp_lock fun ks ws => (pe_lc hc hN (ri_items (ks := ks) (ws := ws) hd hbase hline) ok hg ht (fun s H C cl fp => (he s H C cl fp).kept) hs).imp fun σ H Q h => by rw [hvs]; exact t_comp hv h
end
end Vy

set_option Elab.async false
set_option linter.all false
set_option maxRecDepth 100000
set_option maxHeartbeats 4000000
/-! sorted(..). -/
namespace Vy
open PySem PySem.Spec PyProof.Rows L2

mutual
theorem reads_lt {h : Heap} : ∀ (d : PyData) (v : Value) (as : List Addr), PySem.W.alike d d = true → Reads h v d as → ∀ a ∈ as, a < h.objs.size
  | .none, _, _, _, r, a, ha => by cases r; cases ha
  | .bool _, _, _, _, r, a, ha => by cases r; cases ha
  | .int _, _, _, _, r, a, ha => by cases r; cases ha
  | .str _, _, _, _, r, a, ha => by cases r; cases ha
  | .list xs, _, _, hal, r, a, ha => by
    cases r with
    | list h1 h2 h3 h4 =>
      rcases List.mem_cons.mp ha with rfl | ha
      · exact Heap.lt_size h1
      · exact readsAll_lt xs _ _ (by simpa [PySem.W.alike] using hal) h4 a ha
  | .tuple xs, _, _, hal, r, a, ha => by
    cases r with
    | tuple h1 h2 h3 h4 => exact readsAll_lt xs _ _ (by simpa [PySem.W.alike] using hal) h4 a ha
  | .dict _, _, _, hal, _, _, _ => absurd hal (by simp [PySem.W.alike])
theorem readsAll_lt {h : Heap} : ∀ (ds : List PyData) (vs : List Value) (as : List Addr), PySem.W.alikeAll ds ds = true → ReadsAll h vs ds as → ∀ a ∈ as, a < h.objs.size
  | [], _, _, _, r, a, ha => by cases r; cases ha
  | d :: ds, _, _, hal, r, a, ha => by
    cases r with
    | cons h1 h2 =>
      rcases List.mem_append.mp ha with ha | ha
      · exact reads_lt d _ _ (PySem.W.alike_all_cons hal).1 h1 a ha
      · exact readsAll_lt ds _ _ (PySem.W.alike_all_cons hal).2 h2 a ha
end

section
variable {prog : Program} {w : World} {A : Around} {E : Value → Shared → Prop} {s : Shared}
theorem sorted_shell {v : Value} {Q : Value → Shared → Prop} (h : wpAny (model prog w) A.in1 (collect v) (fun us s' => us.length ≤ sizeLine ∧
      wpAny (model prog w) A.in1 (call (.builtin "list.sort") [.ref s'.heap.objs.size]) (fun _ s'' => Q (.ref s'.heap.objs.size) s'') E { s' with heap := s'.heap.push { cls := .type "list", data := .seq us.toArray } }) E s) :
    wpAny (model prog w) A (call (.builtin "sorted") [v]) Q E s := by
  refine Calls.call_function_entry kind_sorted plain_sorted entry_sorted (args_sorted1 _) ?_
  unfold Builtin.«sorted»
  refine wpAny_bind (m := checkCount "sorted" 1 1 _) (wpAny_pure ?_)
  refine wpAny_bind (wpAny_mono h (fun us s' hq => ?_) fun _ _ e => e)
  obtain ⟨hl, hg⟩ := hq
  refine wpAny_bind (wpAny_newList ?_ hl)
  refine wpAny_bind (wpAny_holding (wpAny_mono hg (fun _ s' x => ?_) fun _ _ e => e))
  exact wpAny_pure ⟨_, rfl, x⟩
/-- the items of a thing that list() walks are collected -/
theorem collectK {T : String} {r d : Addr} {n : Nat} {P : Nat → Value → Prop} {OK : Heap → Prop} {R : List Value → Shared → Prop} (Kd : PySem.W.KdlSrc prog w T r d n P OK) (hh : A.handled = none) (hok : OK s.heap) (hn : n ≤ sizeLine)
    (h : ∀ (h' : Heap) (tk : Nat) (acc : Array Value), (∀ b o, s.heap.get? b = some o → h'.get? b = some o) → ItemsOf P acc n → R acc.toList { s with heap := h', toks := tk }) :
    wpAny (model prog w) A (collect (.ref r)) R E s := by
  obtain ⟨hr, hd⟩ := Kd.there _ hok
  unfold collect
  refine wpAny_bind (wpAny_runValue (codeAny_builtin entry_proto_collect' ?_))
  rw [Around.under_plainId PySem.F.plain_proto_collect _]
  show wpAny _ A.in1 (newList [] >>= fun l => again (.builtin "list.__iadd__" ⟨[l, .ref r], []⟩)) _ _ s
  refine wpAny_bind (wpAny_newObj_type ?_)
  refine wpAny_pure ⟨plainId_quiet PySem.F.plain_list_iadd _, codeAny_builtin entry_list_iadd' ?_⟩
  rw [Around.under_plainId PySem.F.plain_list_iadd _]
  have hS₁ : (s.heap.push { cls := .type "list", data := .seq ([] : List Value).toArray }).get? s.heap.objs.size = some { cls := .type "list", data := .seq #[] } := Heap.get?_push_size _ rfl
  show wpAny _ A.in1 (Builtin.List.listExtendWith (.ref s.heap.objs.size) (.ref r) (.ref s.heap.objs.size)) _ _ _
  have key := PySem.W.kdl_extend (prog := prog) (w := w) (A := A) (s := { s with heap := s.heap.push { cls := .type "list", data := .seq ([] : List Value).toArray } })
    (R := fun (q : Result) (s' : Shared) => ∃ (h' : Heap) (tk : Nat) (acc' : Array Value) (c' : Nat), q = .ok (.ret (.ref s.heap.objs.size)) ∧ s' = { s with heap := h', toks := tk } ∧
      (∀ b o, s.heap.get? b = some o → h'.get? b = some o) ∧ h'.get? s.heap.objs.size = some { cls := .type "list", dict := none, data := .seq acc' c', slots := #[] } ∧ ItemsOf P acc' n)
    Kd hh (Kd.keep _ _ hok fun b _ o e => Heap.get?_push_of_some _ e) s.heap.objs.size (Nat.ne_of_gt hr) (Nat.ne_of_gt hd) (.ref s.heap.objs.size) 0 hS₁
    (fun h' tk acc' c' hk hS' hacc => ⟨h', tk, acc', c', rfl, rfl, fun b o e => hk b o (Nat.ne_of_lt (Heap.lt_size e)) (Heap.get?_push_of_some _ e), hS', hacc⟩) hn
  refine wpAny_mono key (fun fin s' x => ?_) fun e s' x => ?_
  · cases fin with
    | done f =>
      obtain ⟨h', tk, acc', c', e, rfl, hk, hS', hacc⟩ := x
      cases e
      show wpAny _ A (load s.heap.objs.size >>= _) _ _ _
      refine wpAny_bind (wpAny_load hS' ?_)
      exact wpAny_pure (h h' tk acc' hk hacc)
    | again c₁ =>
      refine ⟨x.1, codeAny_mono x.2 fun q s₂ y => ?_⟩
      obtain ⟨h', tk, acc', c', rfl, rfl, hk, hS', hacc⟩ := y
      show wpAny _ A (load s.heap.objs.size >>= _) _ _ _
      refine wpAny_bind (wpAny_load hS' ?_)
      exact wpAny_pure (h h' tk acc' hk hacc)
  · obtain ⟨_, _, _, _, e', _⟩ := x
    cases e'
end

section
variable {K : PySem.W.Frag} {X : Cx} {m m' m0 m1 : Mp} {F F' O O' O0 O1 G : Op} {H H' H0 H1 : Hp} {σ : L2.St} {fr : Frame} {st st1 : Store} {pos : Pos} {a b : Addr} {s : Shared} {pins : List (Addr × Obj)}

/-- what can be sorted -/
def SortOk (ws : List W) : Prop := isDs ws = true ∧ PySem.W.AllAlike (ws.map W.toD) ∧ PySem.W.Sortable (ws.map W.toD) ∧ (∀ w ∈ ws, w.toD.depth ≤ 50) ∧ ws.length ≤ sizeLine
def sortedW (ws : List W) : List W := ws.mergeSort (PySem.W.dataLe false W.toD)
theorem each_zip (I : Inv X pins σ H s) : ∀ {ws : List W} {vs : List V} {us : List Value}, Dens X.K m O H ws vs → isDs ws = true → Vals vs us → PySem.W.EachIs (fun u (b : W × V) => RelV b.2 u ∧ ∃ as, Reads s.heap u b.1.toD as) us (ws.zip vs)
  | [], vs, us, d, _, r => by rw [dens_end d] at r ⊢; cases r; exact .nil
  | w :: ws, vs, us, d, hd, r => by
    obtain ⟨v, l, rfl, d1, d2⟩ := dens_cons d
    cases r with
    | cons r1 r2 =>
      rw [isDs, Bool.and_eq_true] at hd
      exact .cons ⟨r1, Dp.reads I _ _ _ (dp_of w v d1 hd.1) r1⟩ (each_zip I d2 hd.2 r2)
theorem dens_mem : ∀ {l : List (W × V)}, (∀ p ∈ l, Den K m O H p.1 p.2) → Dens K m O H (l.map (·.1)) (l.map (·.2))
  | [], _ => by show Dens _ _ _ _ [] []; unfold Dens; rfl
  | p :: l, h => by
    show Dens _ _ _ _ (p.1 :: l.map (·.1)) (p.2 :: l.map (·.2))
    unfold Dens
    exact ⟨p.2, _, rfl, h p (List.mem_cons_self ..), dens_mem fun q hq => h q (List.mem_cons_of_mem _ hq)⟩
theorem mem_dens : ∀ {ws : List W} {vs : List V}, Dens K m O H ws vs → ∀ p ∈ ws.zip vs, Den K m O H p.1 p.2
  | [], vs, d, p, h => by cases h
  | w :: ws, vs, d, p, h => by
    obtain ⟨v, l, rfl, d1, d2⟩ := dens_cons d
    rcases List.mem_cons.mp h with rfl | h
    · exact d1
    · exact mem_dens d2 p h
theorem vals_each {f : W × V → V} : ∀ {us : List Value} {bs : List (W × V)}, PySem.W.EachIs (fun u b => RelV (f b) u) us bs → Vals (bs.map f) us
  | _, _, .nil => .nil
  | _, _, .cons h t => .cons h (vals_each t)
theorem sort_fresh {us : List Value} {ws : List W} {vs : List V} {Q : VK} {t' : Nat} (hu : X.A.units + 64 < cLine) (I : Inv X pins σ H s) (rv : Vals vs us) (d : Dens X.K m O H ws vs) (ok : SortOk ws)
    (q : ∀ p vs', H p = none → Dens X.K m O H (sortedW ws) vs' → Q (.ref p) (upd H p (.lst vs'))) :
    wpAny (model X.prog X.w) X.A.in1 (call (.builtin "list.sort") [.ref s.heap.objs.size]) (fun _ s' => EP X pins σ Q (.ref s.heap.objs.size) s') X.xe { s with heap := s.heap.push { cls := .type "list", data := .seq us.toArray }, toks := t' } := by
  obtain ⟨ok1, ok2, ok3, ok4, ok5⟩ := ok
  have hlv := dens_length d
  have hz1 : (ws.zip vs).map (·.1) = ws := List.map_fst_zip (by omega)
  have hz2 : (ws.zip vs).map (·.2) = vs := List.map_snd_zip (by omega)
  have hzt : (ws.zip vs).map (fun b => b.1.toD) = ws.map W.toD := by
    have e := congrArg (List.map W.toD) hz1
    rw [List.map_map] at e
    exact e
  have ob : (s.heap.push { cls := .type "list", data := .seq us.toArray }).get? s.heap.objs.size = some (seqObj "list" us.toArray 0) := Heap.get?_push_size _ rfl
  have ez := each_zip I d ok1 rv
  have er : PySem.W.EachIs (fun u (b : W × V) => ∃ as, Reads (s.heap.push { cls := .type "list", data := .seq us.toArray }) u b.1.toD as ∧ s.heap.objs.size ∉ as) us (ws.zip vs) :=
    (PySem.W.each_mem ez).mono fun u b ⟨⟨_, as, r⟩, hb⟩ => ⟨as, PyProof.Rows.Reads.keeps (fun b o e => Heap.get?_push_of_some _ e) r, fun z => Nat.lt_irrefl _ (reads_lt _ _ _ (ok2 _ (by rw [← hzt]; exact List.mem_map.mpr ⟨b, hb, rfl⟩) _ (by rw [← hzt]; exact List.mem_map.mpr ⟨b, hb, rfl⟩)) r _ z)⟩
  refine PySem.W.list_sort_data (enc := fun b : W × V => b.1.toD) (R := fun u (b : W × V) => RelV b.2 u) ob (ez.mono fun _ _ h => h.1) er (by rw [hzt]; exact ok2) (by rw [hzt]; exact ok3) (by rw [List.length_zip]; omega) (fun b hb => ?_) fun out hl ho => ?_
  · have hb1 : b.1 ∈ ws := by rw [← hz1]; exact List.mem_map.mpr ⟨b, hb, rfl⟩
    have := ok4 _ hb1
    show X.A.units + 1 + 1 + b.1.toD.depth < cLine
    omega
  · have hso : ((ws.zip vs).mergeSort (PySem.W.dataLe false fun b : W × V => b.1.toD)).map (·.1) = sortedW ws := by
      unfold sortedW
      have z := List.map_mergeSort (r := PySem.W.dataLe false fun b : W × V => b.1.toD) (s := PySem.W.dataLe false W.toD) (f := fun b : W × V => b.1) (l := ws.zip vs) (fun a _ b _ => rfl)
      rw [z, hz1]
    obtain ⟨ep, he⟩ := PyProof.Rows.sortedHeap_at (vs := us) (out := out.toArray) ob
    have dn : Dens X.K m O H (sortedW ws) (((ws.zip vs).mergeSort (PySem.W.dataLe false fun b : W × V => b.1.toD)).map (·.2)) := by
      rw [← hso]
      exact dens_mem fun p hp => mem_dens d p (List.mem_mergeSort.mp hp)
    have hn := I.hok.fresh (Nat.le_refl s.heap.objs.size)
    refine ⟨.ref s.heap.objs.size, _, I.laid (t' := t') (o := .lst (((ws.zip vs).mergeSort (PySem.W.dataLe false fun b : W × V => b.1.toD)).map (·.2))) (fun b o e => ?_) (Nat.le_refl _) ⟨?_, out, ep, vals_each ho, he⟩, rfl, q _ _ hn dn⟩
    · have hlt := Heap.lt_size e
      exact (PyProof.Rows.sortedHeap_old (Nat.ne_of_lt hlt) (by rw [Heap.size_push]; exact Nat.lt_succ_of_lt hlt)).trans (Heap.get?_push_of_some _ e)
    · rw [List.length_map, List.length_mergeSort, List.length_zip]; omega
noncomputable instance sortDec (ws : List W) : Decidable (SortOk ws) := Classical.propDecidable _
noncomputable def fSorted (a : W) (st : Store) : Res (Kd × W) := match a with
  | .lst ws => if SortOk ws then .ok (.fr, .lst (sortedW ws)) st else .bad
  | .tup ws => if SortOk ws then .ok (.fr, .lst (sortedW ws)) st else .bad
  | .dct (.k l) _ => if SortOk (l.map keyW) then .ok (.fr, .lst (sortedW (l.map keyW))) st else .bad
  | .dct (.t l) _ => if SortOk (l.map tkeyW) then .ok (.fr, .lst (sortedW (l.map tkeyW))) st else .bad
  | _ => .bad
theorem dens_tkeys : ∀ {kvs : List (List Key × V)} {bs : List Addr}, IsKeys H kvs bs → Dens K m O H ((kvs.map (·.1)).map tkeyW) (bs.map V.ref)
  | [], _, h => by unfold IsKeys at h; cases h; show Dens _ _ _ _ [] []; unfold Dens; rfl
  | p :: kvs, _, h => by
    unfold IsKeys at h
    cases h with
    | cons h1 h2 =>
      rename_i b bs
      show Dens _ _ _ _ (tkeyW p.1 :: (kvs.map (·.1)).map tkeyW) (V.ref b :: bs.map V.ref)
      unfold Dens
      refine ⟨V.ref b, _, rfl, ?_, dens_tkeys h2⟩
      show Den _ _ _ _ (.tup (p.1.map keyW)) _
      unfold Den
      exact ⟨b, _, rfl, h1, dens_keys p.1⟩
theorem sort_lst {us : List V} {ws : List W} {Q : VK} {st' : Store} (hu : X.A.units + 64 < cLine) (hc : X.calm = true) {σ' : L2.St} (I : Inv X pins σ' H s) (R : Rel X.K m F O σ H fr st) {b : Bool} {p : Addr} (hs : SqB b X.K H p us) (d : Dens X.K m O H ws us) (ok : SortOk ws)
    (q : ∀ m' O' v H', Grow m O H m' O' H' → Rel X.K m' F O' σ H' fr st → RDen X.K m' F O' σ H' fr .fr (.lst (sortedW ws)) v → Q v H') : wpAny (model X.prog X.w) X.A (call (.builtin "sorted") [.ref p]) (EP X pins σ' Q) X.xe s := by
  obtain ⟨its, rv, pl, _⟩ := sq_have I hs
  have hl := rv.length
  have hlv := dens_length d
  have key : ∀ (T : String) (hT : T = "list" ∨ T = "tuple") (o : Obj) (n : Nat), s.heap.get? p = some o → o.cls = .type T → o.data = .seq its.toArray n → wpAny (model X.prog X.w) X.A (call (.builtin "sorted") [.ref p]) (EP X pins σ' Q) X.xe s := fun T hT o n ho hc hd => by
    refine sorted_shell (wpAny_collect_seq p hT ho hc hd (fun h' hk => ?_) (by rw [List.size_toArray]; have := ok.2.2.2.2; omega))
    have e : its.toArray.toList = its := by simp
    rw [e]
    refine ⟨by have := ok.2.2.2.2; omega, sort_fresh (t' := s.toks) hu (I.kept (t' := s.toks) hk) rv d ok fun p' vs' hp' d' => ?_⟩
    obtain ⟨g2, R2, d3⟩ := new_lst R d' hp'
    exact q m _ _ _ g2 R2 d3
  cases b with
  | true => obtain ⟨o, ho, hc, n, hd⟩ := (show s.heap.IsList p its.toArray from pl); exact key "list" (.inl rfl) o n ho hc hd
  | false => obtain ⟨o, ho, hc, n, hd⟩ := (show s.heap.IsTuple p its.toArray from pl); exact key "tuple" (.inr rfl) o n ho hc hd
theorem ci_sorted (hc : X.calm = true) (hu : X.A.units + 64 < cLine) : CallI X (.builtin "sorted") fSorted := fun pins s σ H xs us Q I r h => by
  obtain ⟨m, F, O, σ', fr, st, k, w, st', a, x, rfl, R, d, e, q⟩ := h
  obtain ⟨u, rfl, ru⟩ := vals1 r
  cases a with
  | lst ws =>
    have e : (if SortOk ws then Res.ok (Kd.fr, W.lst (sortedW ws)) st else .bad) = .ok (k, w) st' := e
    by_cases ok : SortOk ws
    · rw [if_pos ok] at e
      cases e
      obtain ⟨p, vs, rfl, _, h1, d1⟩ := lden_lst d
      cases ru
      exact sort_lst (b := true) (st' := st) hu hc I R (SqL.of h1) d1 ok q
    · rw [if_neg ok] at e; cases e
  | tup ws =>
    have e : (if SortOk ws then Res.ok (Kd.fr, W.lst (sortedW ws)) st else .bad) = .ok (k, w) st' := e
    by_cases ok : SortOk ws
    · rw [if_pos ok] at e
      cases e
      obtain ⟨p, vs, rfl, h1, d1⟩ := lden_tup d
      cases ru
      exact sort_lst (b := false) (st' := st) hu hc I R (SqT.of h1) d1 ok q
    · rw [if_neg ok] at e; cases e
  | dct ks ws =>
    obtain ⟨p, rfl, _, vs, h1, d1⟩ := d
    cases ru
    cases ks with
    | k l =>
      have e : (if SortOk (l.map keyW) then Res.ok (Kd.fr, W.lst (sortedW (l.map keyW))) st else .bad) = .ok (k, w) st' := e
      by_cases ok : SortOk (l.map keyW)
      · rw [if_pos ok] at e
        cases e
        obtain ⟨kvs, rfl, rfl, hr⟩ := h1
        obtain ⟨z, lo, vs, rk, hd⟩ := dk_rd I.hok hr
        obtain ⟨ep, hat⟩ := hd.dictAt
        have hl : kvs.length = vs.length := Paired.length rk
        refine sorted_shell (collectK (PySem.W.kdl_dict (knd := mixKind X.prog X.w) (kvs := vs) (ep := ep) lo) (I.ok.hd hc) hat (by rw [← hl]; exact z) fun h' tk acc hk it => ?_)
        have rv : Vals ((kvs.map (·.1)).map kV) acc.toList := by
          have el : acc.toList.length = acc.size := by simp
          refine vals_of_at (by rw [List.length_map, List.length_map, el, it.1, hl]) fun j x w h1 h2 => ?_
          obtain ⟨k, y, hky, hi⟩ := it.2 j w (by rw [← Array.getElem?_toList]; exact h2)
          have e1 : (kvs.map (·.1))[j]? = some k := by
            rw [KV.keys rk, List.getElem?_map, hky] <;> rfl
          rw [List.getElem?_map, e1] at h1
          cases h1
          exact keyIs_rel hi
        refine ⟨by rw [← rv.length, List.length_map, List.length_map]; exact z, sort_fresh (m := m) (O := O) (t' := tk) hu (I.kept (t' := tk) hk) rv (dens_keys _) ok fun p' vs' hp' d' => ?_⟩
        obtain ⟨g2, R2, d3⟩ := new_lst R d' hp'
        exact q m _ _ _ g2 R2 d3
      · rw [if_neg ok] at e; cases e
    | t l =>
      have e : (if SortOk (l.map tkeyW) then Res.ok (Kd.fr, W.lst (sortedW (l.map tkeyW))) st else .bad) = .ok (k, w) st' := e
      by_cases ok : SortOk (l.map tkeyW)
      · rw [if_pos ok] at e
        cases e
        obtain ⟨kvs, rfl, rfl, hr⟩ := h1
        obtain ⟨z, hs, ks, pr, o, es, ep, ho, hx, hdt, he, hn⟩ := dt_rd I.hok hr
        have l1 : es.size = ks.length := size_of_entries he
        have l2 : kvs.length = ks.length := Paired.length pr
        refine sorted_shell (collectK (kdl_raw hs hx hdt) (I.ok.hd hc) ho (by omega) fun h' tk acc hk it => ?_)
        have ea : acc.toList = (ks.map fun x => x.2.1).map Value.ref := by
          have hl : acc.toList.length = ks.length := by rw [Array.length_toList, it.1]; exact l1
          rw [List.map_map]
          apply List.ext_getElem?
          intro j
          rw [List.getElem?_map]
          cases hj : acc.toList[j]? with
          | none =>
            have h1 := List.getElem?_eq_none_iff.mp hj
            rw [List.getElem?_eq_none (by omega)]
            all_goals rfl
          | some v =>
            obtain ⟨en, hen, hv⟩ := it.2 j v (by rw [← Array.getElem?_toList]; exact hj)
            have qe := entry_at he j
            rw [hen] at qe
            cases hb : ks[j]? with
            | none =>
              rw [hb] at qe
              exact nomatch (show some en = none from qe)
            | some b =>
              rw [hb] at qe
              have e2 : en = entryOfKey (tupleKind (mixKind X.prog X.w)) b := Option.some.inj qe
              rw [hv, e2]
              all_goals rfl
        have rv : Vals ((ks.map fun x => x.2.1).map V.ref) acc.toList := by rw [ea]; exact vals_refs _
        refine ⟨by rw [← rv.length, List.length_map, List.length_map]; omega, sort_fresh (m := m) (O := O) (t' := tk) hu (I.kept (t' := tk) hk) rv (dens_tkeys (isKeys_of pr)) ok fun p' vs' hp' d' => ?_⟩
        obtain ⟨g2, R2, d3⟩ := new_lst R d' hp'
        exact q m _ _ _ g2 R2 d3
      · rw [if_neg ok] at e; cases e
  | _ => cases e
end
end Vy

set_option Elab.async false
set_option linter.all false
set_option maxRecDepth 100000
set_option maxHeartbeats 4000000
/-! sorted(d.items()). -/
namespace Vy
open PySem PySem.Spec PyProof.Rows L2

section
variable {K : PySem.W.Frag} {X : Cx} {m m' m0 m1 : Mp} {F F' O O' O0 O1 G : Op} {H H' H0 H1 : Hp} {σ : L2.St} {fr : Frame} {st st1 : Store} {pos : Pos} {a b : Addr} {s : Shared} {pins : List (Addr × Obj)}

/-- a dict's entries as they stand -/
theorem raw_of {ks : Kys} {ws : List W} {vs : List V} (I : Inv X pins σ H s) (h : DictAt H a ks vs) (d : Dens X.K m O H ws vs) :
    (a == sysModules) = false ∧ ∃ (es : Array DictEntry) (ep : Nat), DT.Raw s.heap a es ep ∧ es.size = (pairsW ks ws).length ∧ es.size ≤ sizeLine ∧
      ∀ (j : Nat) (en : DictEntry), es[j]? = some en → ∃ (x y : V) (w : W), RelV x en.key ∧ RelV y en.val ∧ (pairsW ks ws)[j]? = some w ∧ ∀ (H2 : Hp) (b : Addr), (∀ c o, H c = some o → H2 c = some o) → (∀ n a, m n = some a → O a) → H2 b = some (.tup [x, y]) → Den X.K m O H2 w (.ref b) := by
  have hl := dens_length d
  cases ks with
  | k l =>
    obtain ⟨kvs, rfl, rfl, hr⟩ := h
    rw [List.length_map] at hl
    obtain ⟨z, lo, vs', rk, o, es, ep, ho, hx, hdt, _, hp, _⟩ := dk_rd I.hok hr
    have l1 : es.size = vs'.length := by rw [← Array.length_toList]; exact hp.length
    have l2 : kvs.length = vs'.length := Paired.length rk
    have lp : (pairsW (.k (kvs.map (·.1))) ws).length = kvs.length := by
      show (List.zipWith _ _ _).length = _
      rw [List.length_zipWith, List.length_map]; omega
    refine ⟨lo, es, ep, ⟨o, ho, hx, hdt⟩, by omega, by omega, fun j en hen => ?_⟩
    have hj : j < es.size := (Array.getElem?_eq_some_iff.mp hen).1
    obtain ⟨⟨k, v⟩, hkv⟩ : ∃ p, kvs[j]? = some p := ⟨kvs[j], List.getElem?_eq_getElem (by omega)⟩
    obtain ⟨u, hu, ru⟩ := kv_get rk hkv
    obtain ⟨q1, q2⟩ := hp.get? (by rw [Array.getElem?_toList]; exact hen) hu
    obtain ⟨w, hw⟩ : ∃ w, ws[j]? = some w := ⟨ws[j], List.getElem?_eq_getElem (by omega)⟩
    refine ⟨kV k, v, .tup [keyW k, w], relV_key (show keyIs k en.key = true from q1), q2 ▸ ru, ?_, fun H2 b g hm hb => ?_⟩
    · show (List.zipWith _ _ _)[j]? = _
      rw [List.getElem?_zipWith, List.getElem?_map, hkv, hw] <;> rfl
    · obtain ⟨v', hv', dv⟩ := dens_get2 d hw
      rw [List.getElem?_map, hkv] at hv'
      cases hv'
      unfold Den
      refine ⟨b, _, rfl, hb, ?_⟩
      unfold Dens
      refine ⟨_, _, rfl, den_key, ?_⟩
      unfold Dens
      exact ⟨_, _, rfl, Den.grow (G := allA) (Grow.ext g) hm _ _ dv, by unfold Dens; rfl⟩
  | t l =>
    obtain ⟨kvs, rfl, rfl, hr⟩ := h
    rw [List.length_map] at hl
    obtain ⟨z, lo, xs, rel, o, es, ep, ho, hx, hdt, he, _⟩ := dt_rd I.hok hr
    have l1 : es.size = xs.length := size_of_entries he
    have l2 : kvs.length = xs.length := Paired.length rel
    have lp : (pairsW (.t (kvs.map (·.1))) ws).length = kvs.length := by
      show (List.zipWith _ _ _).length = _
      rw [List.length_zipWith, List.length_map]; omega
    refine ⟨lo, es, ep, ⟨o, ho, hx, hdt⟩, by omega, by omega, fun j en hen => ?_⟩
    have hj : j < es.size := (Array.getElem?_eq_some_iff.mp hen).1
    obtain ⟨⟨k, v⟩, hkv⟩ : ∃ p, kvs[j]? = some p := ⟨kvs[j], List.getElem?_eq_getElem (by omega)⟩
    obtain ⟨x, hx2, e1, e2, e3⟩ := paired_get rel hkv
    have q := entry_at he j
    rw [hx2, hen] at q
    have een : en = entryOfKey (tupleKind (mixKind X.prog X.w)) x := Option.some.inj q
    obtain ⟨w, hw⟩ : ∃ w, ws[j]? = some w := ⟨ws[j], List.getElem?_eq_getElem (by omega)⟩
    refine ⟨.ref x.2.1, v, .tup [tkeyW k, w], by rw [een]; rfl, by rw [een]; exact e3, ?_, fun H2 b g hm hb => ?_⟩
    · show (List.zipWith _ _ _)[j]? = _
      rw [List.getElem?_zipWith, List.getElem?_map, hkv, hw] <;> rfl
    · obtain ⟨v', hv', dv⟩ := dens_get2 d hw
      rw [List.getElem?_map, hkv] at hv'
      cases hv'
      unfold Den
      refine ⟨b, _, rfl, hb, ?_⟩
      unfold Dens
      refine ⟨_, _, rfl, ?_, ?_⟩
      · show Den _ _ _ _ (.tup (k.map keyW)) _
        unfold Den
        exact ⟨_, _, rfl, g _ _ e2, dens_keys k⟩
      · unfold Dens
        exact ⟨_, _, rfl, Den.grow (G := allA) (Grow.ext g) hm _ _ dv, by unfold Dens; rfl⟩
def rSI (X : Cx) : List V → Hp → VK → Prop := fun xs H Q => ∃ p a m F O σ fr st ks ws vs, xs = [.ref p] ∧ H p = some (L2.DX.itemsO p a) ∧ Rel X.K m F O σ H fr st ∧ DictAt H a ks vs ∧ Dens X.K m O H ws vs ∧ SortOk (pairsW ks ws) ∧
  ∀ m' O' v H', Grow m O H m' O' H' → Rel X.K m' F O' σ H' fr st → RDen X.K m' F O' σ H' fr .fr (.lst (sortedW (pairsW ks ws))) v → Q v H'
theorem cr_sortedIt (hc : X.calm = true) (hu : X.A.units + 64 < cLine) : CallR X (.builtin "sorted") (rSI X) := by
  intro pins s σ H xs us Q I r h
  obtain ⟨p, a, m, F, O, σ', fr, st, ks, ws, vs, rfl, hp, R, hd, ds, ok, q⟩ := h
  obtain rfl := Vals.ref1 r
  have view : s.heap.IsItemsView p a := (show ObjOk X.prog X.w H s.heap p (L2.DX.itemsO p a) from I.hok p _ hp).1
  obtain ⟨lo, es, ep, raw, hl, hz, ent⟩ := raw_of I hd ds
  refine sorted_shell (DT.collectI (A := X.A.in1) (I.ok.hd hc) view raw hz fun h' tk as hk hlt hla hG => ?_)
  have nd : as.Nodup := List.Pairwise.imp (fun h => Nat.ne_of_lt h) hG.rise
  have I1 : Inv X pins σ H { s with heap := h', toks := tk } := I.kept (t' := tk) hk
  obtain ⟨H2, I2, g, qt⟩ := L2.DX.takeT (P := fun b vs => ∃ (j : Nat) (en : DictEntry) (x y : V) (w : W), as[j]? = some b ∧ es[j]? = some en ∧ vs = [x, y] ∧ (pairsW ks ws)[j]? = some w ∧
      ∀ (H2 : Hp) (b : Addr), (∀ c o, H c = some o → H2 c = some o) → (∀ n a, m n = some a → O a) → H2 b = some (.tup [x, y]) → Den X.K m O H2 w (.ref b)) I as H I1 nd fun b hb => by
    obtain ⟨j, hj⟩ := List.mem_iff_getElem?.mp hb
    obtain ⟨en, he, hg⟩ := hG.pairs j b hj
    obtain ⟨x, y, w, rx, ry, hw, hden⟩ := ent j en he
    have hbl : s.heap.objs.size ≤ b := Nat.le_of_lt (hG.above b hb)
    exact ⟨hbl, I.hok.fresh hbl, [x, y], ⟨j, en, x, y, w, hj, he, rfl, hw, hden⟩, fun H3 => ⟨(by rw [sizeLine_eq]; show 2 ≤ 16777216; omega), [en.key, en.val], .cons rx (.cons ry .nil), ⟨_, hg, rfl, 0, rfl⟩⟩⟩
  have dd : Dens X.K m O H2 (pairsW ks ws) (as.map V.ref) := by
    have key : ∀ (ps : List W) (bs : List Addr), ps.length = bs.length → (∀ (j : Nat) (w : W) (b : Addr), ps[j]? = some w → bs[j]? = some b → Den X.K m O H2 w (.ref b)) → Dens X.K m O H2 ps (bs.map V.ref) := fun ps => by
      induction ps with
      | nil => intro bs h _; cases bs with
        | nil => show Dens _ _ _ _ [] []; unfold Dens; rfl
        | cons => cases h
      | cons w ps ih => intro bs h f; cases bs with
        | nil => cases h
        | cons b bs =>
          show Dens _ _ _ _ _ (V.ref b :: bs.map V.ref)
          unfold Dens
          exact ⟨_, _, rfl, f 0 w b rfl rfl, ih bs (by simpa using h) fun j w b h1 h2 => f (j + 1) w b (by simpa using h1) (by simpa using h2)⟩
    refine key _ _ (by omega) fun j w b hw hb => ?_
    obtain ⟨vs2, ⟨i, en, x, y, w2, hi, _, rfl, hw2, hden⟩, hH⟩ := qt b (List.mem_of_getElem? hb)
    have eij : i = j := (List.getElem?_inj (List.getElem?_eq_some_iff.mp hi).1 nd).mp (hi.trans hb.symm)
    subst eij
    rw [hw] at hw2
    cases hw2
    exact hden H2 b g R.mO hH
  refine ⟨by rw [List.length_map, hla]; exact hz, sort_fresh (m := m) (O := O) (t' := tk) hu I2 (vals_refs as) dd ok fun p' vs' hp' d' => ?_⟩
  have R1 := R.ext g
  obtain ⟨g2, R2, d3⟩ := new_lst R1 d' hp'
  exact q m _ _ _ ((Grow.ext g).trans g2) R2 d3
/-- sorted(d.items()), d an own dict -/
noncomputable def eSortI (i : Nat) : PX := fun fr st => match fr[i]? with
  | some (.own (.dct ks ws)) => if SortOk (pairsW ks ws) then .ok (.fr, .lst (sortedW (pairsW ks ws))) st else .bad
  | _ => .bad
def rItemsA : V → List V → Hp → VK → Prop := fun x xs H Q => ∃ (a : Addr) (ks : Kys) (vs : List V), x = .ref a ∧ xs = [] ∧ DictAt H a ks vs ∧ ∀ p, H p = none → Q (.ref p) (upd H p (L2.DX.itemsO p a))
theorem mt_itemsA : MtR X "dict.items" rItemsA := by
  intro pins s σ H x xs v us Q I rx rxs h
  obtain ⟨a, ks, vs, rfl, rfl, ha, q⟩ := h
  cases rx
  cases rxs
  have hn : H s.heap.objs.size = none := I.hok.fresh (Nat.le_refl _)
  have fin : EP X pins σ Q (.ref s.heap.objs.size) { s with heap := s.heap.push { cls := .type "dict_items", data := .fields #[.ref a] } } :=
    ⟨.ref s.heap.objs.size, upd H s.heap.objs.size (L2.DX.itemsO s.heap.objs.size a), I.laid (t' := s.toks) (fun b u e => Heap.get?_push_of_some _ e) (Nat.le_refl _) (L2.DX.itemsO_ok (Heap.get?_push_size _ rfl)), rfl, q _ hn⟩
  cases ks with
  | k l =>
    obtain ⟨kvs, _, _, hr⟩ := ha
    obtain ⟨z, lo, vs', rk, o, es, ep, ho, hx, hdt, _⟩ := dk_rd I.hok hr
    exact DT.callItems (es := es) (ep := ep) lo ⟨o, ho, hx, hdt⟩ fin
  | t l =>
    obtain ⟨kvs, _, _, hr⟩ := ha
    obtain ⟨z, lo, xs, rel, o, es, ep, ho, hx, hdt, _⟩ := dt_rd I.hok hr
    exact DT.callItems (es := es) (ep := ep) lo ⟨o, ho, hx, hdt⟩ fin
theorem re_sortI {i : Nat} {d : Expr} {p apos cpos : Pos} (hc : X.calm = true) (hu : X.A.units + 64 < cLine) (hg : Gl X "sorted") (hm : X.mg "sorted" = none) (hd : PE X d (tVar i))
    (hbase : attributeBase d "items" X.env (eval d X.env) = eval d X.env := by rfl) (hline : (apos.endLine == cpos.line) = true := by rfl)
    (hs : starEach [.Call (.Attribute d "items" apos) [] [] cpos] X.env = [(false, eval (.Call (.Attribute d "items" apos) [] [] cpos) X.env)] := by rfl) :
    RE X (.Call (.Name "sorted" p) [.Call (.Attribute d "items" apos) [] [] cpos] [] pos) (eSortI i) :=
  (pe_callB (cr_sortedIt hc hu) hg hm rfl (pa_cons (pe_bm0 PySem.F.plainAttrs_dict PySem.F.slot_dict_items PySem.F.type_dict_items mt_itemsA hd hbase hline) pa_nil hs) (by decide) (by decide) hs).imp fun σ H Q h => by
    obtain ⟨m, F, O, fr, st, k, w, st', R, e, q⟩ := h
    have e : (match fr[i]? with | some (.own (.dct ks ws)) => (if SortOk (pairsW ks ws) then Res.ok (Kd.fr, W.lst (sortedW (pairsW ks ws))) st else .bad) | _ => .bad) = .ok (k, w) st' := e
    match hs : fr[i]?, e with
    | some (.own (.dct ks ws)), e =>
      have e : (if SortOk (pairsW ks ws) then Res.ok (Kd.fr, W.lst (sortedW (pairsW ks ws))) st else .bad) = .ok (k, w) st' := e
      by_cases ok : SortOk (pairsW ks ws)
      · rw [if_pos ok] at e
        cases e
        obtain ⟨a, ea, h1, h2, h3, vs, hdi, ds⟩ := R.sl i _ hs
        have ty : tyV X.K "dict" (.ref a) H := by
          refine .inr (.inr (.inl ⟨rfl, ?_⟩))
          cases ks with
          | k l => obtain ⟨kvs, _, _, e⟩ := hdi; exact .inl ⟨kvs, e⟩
          | t l => obtain ⟨kvs, _, _, e⟩ := hdi; exact .inr ⟨kvs, e⟩
        refine ⟨_, ea, ty, a, ks, vs, rfl, rfl, hdi.to, fun p hp => ?_⟩
        have gx : ∀ b o, H b = some o → upd H p (L2.DX.itemsO p a) b = some o := fun b o e => by rw [upd_ne (ne_of_none e hp)]; exact e
        have g : Grow m O H m O (upd H p (L2.DX.itemsO p a)) := Grow.ext gx
        exact ⟨p, a, m, F, O, σ, fr, st, ks, ws, vs, rfl, upd_same, R.ext gx, hdi.to.at fun o e => gx a o e, Dens.grow g R.mO _ _ ds, ok, fun m' O' v H' g' R' d => q m' O' v H' (g.trans g') R' d⟩
      · rw [if_neg ok] at e; cases e
end
end Vy

set_option Elab.async false
set_option linter.all false
set_option maxRecDepth 100000
set_option maxHeartbeats 4000000
/-! repr(..). -/
namespace Vy
open PySem PySem.Spec PyProof.Rows L2

mutual
/-- what repr tells without a complaint -/
def Shw : PyData → Prop
  | .none => True | .bool _ => True | .str _ => True
  | .int i => i.natAbs < 10 ^ 4300
  | .list xs => ShwA xs
  | .tuple xs => ShwA xs
  | .dict _ => False
def ShwA : List PyData → Prop
  | [] => True
  | x :: xs => Shw x ∧ ShwA xs
end
section
variable {prog : Program} {w : World} {A : Around} {E : Value → Shared → Prop} {s : Shared} {h₀ : Heap}
theorem call_int_reprN {a : Int} {t : Tok} {Q : Value → Shared → Prop} (hn : s.heap.NoDigits) (ha : a.natAbs < 10 ^ 4300) (h : Q (.str (toString a) s.toks) { s with toks := s.toks + 1 }) :
    wpAny (model prog w) A (call (.builtin "int.__repr__") [.int a t]) Q E s := by
  refine wpAny_call_entry PySem.F.slot_int_repr (typeIs_int s a t) PySem.F.entry_int_repr ?_ (PySem.F.args_int_repr_1 _)
  unfold Builtin.«int.__repr__»
  show wpAny _ _ (do let r ← Builtin.overDigitLimit? a; _) _ _ s
  refine wpAny_bind (PyProof.Rows.overDigitLimit_any hn (fun hlt => ?_) (fun hge => absurd ha (Nat.not_lt.mpr hge)))
  exact wpAny_bind (wpAny_mkStr (wpAny_pure ⟨_, rfl, h⟩) (int_text_fits10 hlt))
theorem pyReprObj_intN {a : Int} {t : Tok} {Q : Value → Shared → Prop} (hn : s.heap.NoDigits) (ha : a.natAbs < 10 ^ 4300) (h : Q (.str (toString a) s.toks) { s with toks := s.toks + 1 }) :
    wpAny (model prog w) A (pyReprObj (.int a t)) Q E s := by
  have hv : [Value.int a t].any Value.onHeap = false := rfl
  unfold pyReprObj
  simp only [cRoomFor, hv, Bool.false_eq_true, if_false, pure_bind]
  refine wpAny_bind (wpAny_specialOf (name := Str.ofString "__repr__") (typeIs_int s a t) PySem.F.slot_int_repr.lookup ?_)
  refine wpAny_bind (m := callSpecialIfBound? (.int a t) (Str.ofString "__repr__")) (wpAny_callSpecialIfBound?_slot (name := Str.ofString "__repr__") (typeIs_int s a t) PySem.F.slot_int_repr (call_int_reprN hn ha ?_))
  exact wpAny_bind (wpAny_isInstance (T := "str") (b := true) rfl isSubtype_str_str (wpAny_pure h))
theorem reprK_int {a : Int} {t : Tok} {as : List Addr} {d : Nat} (hn : h₀.NoDigits) (ha : a.natAbs < 10 ^ 4300) : ReprK prog w as h₀ d (.int a t) (toString a) := by
  intro base hb A g E s Q hg hcl hu hk0 hQ
  have hn' : base ≤ sizeLine := by omega
  rw [pyReprUnder_leaf (v := .int a t) hn' (fun _ e => nomatch e)]
  unfold pyRepr
  exact wpAny_bind (pyReprObj_intN (hn.keeps hk0) ha (wpAny_pure (hQ s.heap _ fun _ _ e => e)))
mutual
theorem reprK_reads (nd : h₀.NoDigits) : ∀ {v : Value} {d : PyData} {as : List Addr}, Reads h₀ v d as → Shw d → d.shown.length ≤ sizeLine → ∃ bs, ReadAtMost h₀ d.depth bs ∧ ReprK prog w bs h₀ d.depth v d.shown
  | _, _, _, .none, _, _ => ⟨[], (fun _ h => nomatch h), by simp only [PyData.shown]; exact .of_is ReprIs.none _ _ _⟩
  | _, _, _, .bool b, _, _ => ⟨[], (fun _ h => nomatch h), by simp only [PyData.shown]; exact .of_is (ReprIs.bool b) _ _ _⟩
  | _, _, _, .int i t, hs, _ => ⟨[], (fun _ h => nomatch h), by simp only [PyData.shown]; exact reprK_int nd (by unfold Shw at hs; exact hs)⟩
  | _, _, _, .str x t, _, hz => ⟨[], (fun _ h => nomatch h), by simp only [PyData.shown]; exact .of_is (ReprIs.str x t (by simpa only [PyData.shown] using hz)) _ _ _⟩
  | _, _, _, .list (a := a) (vs := vs) (xs := xs) h1 h2 h3 h4, hs, hz => by
    have hz' : (listText (PyData.shownAll xs)).length ≤ sizeLine := by simpa only [PyData.shown] using hz
    obtain ⟨bs, hb, hk⟩ := reprAllK_reads nd h4 (by unfold Shw at hs; exact hs) (fun t ht => Nat.le_trans (listText_mem_le ht) hz')
    have r : Reads h₀ (.ref a) (.list xs) _ := .list h1 h2 h3 h4
    have hna : a ∉ bs := not_mem_of_deeper r (by simp only [PyData.depth]; omega) hb
    refine ⟨a :: bs, ReadAtMost.cons r (by simp only [PyData.depth]; omega) hb, ?_⟩
    simp only [PyData.depth, PyData.shown]
    obtain ⟨l⟩ := vs
    cases l with
    | nil =>
      have h4' : ReadsAll h₀ [] xs _ := h4
      cases h4'
      simp only [PyData.shownAll, listText_nil]
      exact ReprK.listEmpty h1 h2 h3
    | cons x l => exact ReprK.list h1 h2 h3 hna (by simpa using hk.length_eq) (fun i y e => hk.item i y (by simpa using e))
  | _, _, _, .tuple (a := a) (xs := xs) h1 h2 h3 h4, hs, hz => by
    have hz' : (tupleText (PyData.shownAll xs)).length ≤ sizeLine := by simpa only [PyData.shown] using hz
    obtain ⟨bs, hb, hk⟩ := reprAllK_reads nd h4 (by unfold Shw at hs; exact hs) (fun t ht => Nat.le_trans (tupleText_mem_le ht) hz')
    have r : Reads h₀ (.ref a) (.tuple xs) _ := .tuple h1 h2 h3 h4
    have hna : a ∉ bs := not_mem_of_deeper r (by simp only [PyData.depth]; omega) hb
    refine ⟨a :: bs, ReadAtMost.cons r (by simp only [PyData.depth]; omega) hb, ?_⟩
    simp only [PyData.depth, PyData.shown]
    exact ReprK.tuple h1 h2 h3 hna hk
  | _, _, _, .dict _ _ _ _ _, hs, _ => by unfold Shw at hs; exact hs.elim
theorem reprAllK_reads (nd : h₀.NoDigits) : ∀ {vs : List Value} {ds : List PyData} {as : List Addr}, ReadsAll h₀ vs ds as → ShwA ds → (∀ t ∈ PyData.shownAll ds, t.length ≤ sizeLine) →
    ∃ bs, ReadAtMost h₀ (PyData.depthAll ds) bs ∧ ReprAllK prog w bs h₀ (PyData.depthAll ds) vs (PyData.shownAll ds)
  | _, _, _, .nil, _, _ => ⟨[], (fun _ h => nomatch h), by simp only [PyData.shownAll]; exact .nil⟩
  | _, _, _, .cons (d := d) (ds := ds) r rs, hs, hz => by
    have hs' : Shw d ∧ ShwA ds := by unfold ShwA at hs; exact hs
    obtain ⟨b1, hb1, k1⟩ := reprK_reads nd r hs'.1 (hz _ (by simp only [PyData.shownAll]; exact List.mem_cons_self ..))
    obtain ⟨b2, hb2, k2⟩ := reprAllK_reads nd rs hs'.2 (fun t ht => hz t (by simp only [PyData.shownAll]; exact List.mem_cons_of_mem _ ht))
    refine ⟨b1 ++ b2, ?_, ?_⟩
    · intro b hm
      simp only [PyData.depthAll]
      rcases List.mem_append.mp hm with hm | hm
      · obtain ⟨d', as', r', hd'⟩ := hb1 b hm
        exact ⟨d', as', r', Nat.le_trans hd' (Nat.le_max_left _ _)⟩
      · obtain ⟨d', as', r', hd'⟩ := hb2 b hm
        exact ⟨d', as', r', Nat.le_trans hd' (Nat.le_max_right _ _)⟩
    · simp only [PyData.depthAll, PyData.shownAll]
      exact .cons ((k1.more fun b hb => List.mem_append_left _ hb).level_le (Nat.le_max_left _ _)) (k2.more_le (fun b hb => List.mem_append_right _ hb) (Nat.le_max_right _ _))
end
theorem call_repr_data {v : Value} {d : PyData} {as : List Addr} {Q : Value → Shared → Prop} (nd : s.heap.NoDigits) (r : Reads s.heap v d as) (hs : Shw d) (hz : d.shown.length ≤ sizeLine) (hg : A.guards = some []) (hu : A.units + (d.depth + 1) < cLine)
    (hQ : ∀ h' u tk, (∀ b o, s.heap.get? b = some o → h'.get? b = some o) → Q (.str d.shown u) { s with heap := h', toks := tk }) : wpAny (model prog w) A (call (.builtin "repr") [v]) Q E s := by
  cases r with
  | none => simp only [PyData.shown] at hQ; exact PySem.P.repr_of_none (hQ s.heap _ _ fun _ _ e => e)
  | bool b => simp only [PyData.shown] at hQ; exact PySem.P.repr_of_bool (hQ s.heap _ _ fun _ _ e => e)
  | str x t => simp only [PyData.shown] at hQ hz; exact PySem.P.repr_of_str (hQ s.heap _ _ fun _ _ e => e) hz
  | int i t =>
    simp only [PyData.shown] at hQ
    unfold Shw at hs
    have hv : [Value.int i t].any Value.onHeap = false := rfl
    refine Calls.call_function_entry PySem.F.kind_repr PySem.F.plain_repr PySem.F.entry_repr (PySem.F.args_repr1 _) ?_
    unfold Builtin.«repr»
    refine wpAny_bind (m := oneArg "repr" _) (wpAny_pure ?_)
    simp only [cRoomFor, hv, Bool.false_eq_true, if_false, pure_bind]
    refine wpAny_bind (wpAny_specialOf (name := Str.ofString "__repr__") (typeIs_int s i t) PySem.F.slot_int_repr.lookup ?_)
    refine wpAny_bind (m := callSpecialIfBound? (.int i t) (Str.ofString "__repr__")) (wpAny_callSpecialIfBound?_slot (name := Str.ofString "__repr__") (typeIs_int s i t) PySem.F.slot_int_repr (call_int_reprN nd hs ?_))
    refine wpAny_bind (wpAny_isInstance (T := "str") (b := true) rfl isSubtype_str_str ?_)
    exact wpAny_pure ⟨_, rfl, hQ s.heap _ _ fun _ _ e => e⟩
  | @list a o vs n xs as h1 h2 h3 h4 =>
    have hz' : (listText (PyData.shownAll xs)).length ≤ sizeLine := by simpa only [PyData.shown] using hz
    obtain ⟨bs, hb, hk⟩ := reprAllK_reads (prog := prog) (w := w) nd h4 (by unfold Shw at hs; exact hs) (fun t ht => Nat.le_trans (listText_mem_le ht) hz')
    have hna : a ∉ bs := not_mem_of_deeper (.list h1 h2 h3 h4) (by simp only [PyData.depth]; omega) hb
    simp only [PyData.depth] at hu
    simp only [PyData.shown] at hQ
    refine call_repr_slot (by omega) ⟨o, h1, h2⟩ PySem.F.slot_list_repr.toG ?_
    obtain ⟨l⟩ := vs
    cases l with
    | nil =>
      have h4' : ReadsAll s.heap [] xs _ := h4
      cases h4'
      simp only [PyData.shownAll, listText_nil] at hQ
      exact call_list_repr_empty ⟨o, h1, h2⟩ h1 h3 ⟨_, _, rfl, hQ s.heap _ _ fun _ _ e => e⟩
    | cons x l =>
      exact call_list_reprK h1 h2 h3 hna (by simpa using hk.length_eq) (fun i y e => hk.item i y (by simpa using e)) hg (fun b _ => Clear.nil b) (by show A.units + 1 + _ < _; omega) (fun _ _ e => e) (fun h' u tk hk => ⟨_, _, rfl, hQ h' u tk hk⟩) hz'
  | @tuple a o vs n xs as h1 h2 h3 h4 =>
    have hz' : (tupleText (PyData.shownAll xs)).length ≤ sizeLine := by simpa only [PyData.shown] using hz
    obtain ⟨bs, hb, hk⟩ := reprAllK_reads (prog := prog) (w := w) nd h4 (by unfold Shw at hs; exact hs) (fun t ht => Nat.le_trans (tupleText_mem_le ht) hz')
    have hna : a ∉ bs := not_mem_of_deeper (.tuple h1 h2 h3 h4) (by simp only [PyData.depth]; omega) hb
    simp only [PyData.depth] at hu
    simp only [PyData.shown] at hQ
    refine call_repr_slot (by omega) ⟨o, h1, h2⟩ PySem.F.slot_tuple_repr ?_
    exact call_tuple_reprK h1 h2 h3 hna hk hg (fun b _ => Clear.nil b) (by show A.units + 1 + _ < _; omega) (fun _ _ e => e) (fun h' u tk hk => ⟨_, _, rfl, hQ h' u tk hk⟩) hz'
  | dict _ _ _ _ _ => unfold Shw at hs; exact hs.elim
end
section
variable {X : Cx} {pos : Pos}
noncomputable instance shwDec (d : PyData) : Decidable (Shw d) := Classical.propDecidable _
/-- repr -/
noncomputable def fRepr (a : W) (st : Store) : Res (Kd × W) := if a.isD = true ∧ Shw a.toD ∧ a.toD.depth ≤ 50 ∧ a.toD.shown.length ≤ sizeLine then okS (.str a.toD.shown) st else .bad
theorem ci_repr (hu : X.A.units + 64 < cLine) (hg : X.A.guards = some []) (nd : X.base.NoDigits) : CallI X (.builtin "repr") fRepr := fun pins s σ H xs us Q I r h => by
  obtain ⟨m, F, O, σ', fr, st, k, w, st', a, x, rfl, R, d, e, q⟩ := h
  unfold fRepr at e
  by_cases c : a.isD = true ∧ Shw a.toD ∧ a.toD.depth ≤ 50 ∧ a.toD.shown.length ≤ sizeLine
  · rw [if_pos c] at e
    cases e
    obtain ⟨c1, c2, c3, c4⟩ := c
    obtain ⟨u, rfl, ru⟩ := vals1 r
    obtain ⟨as, rd⟩ := Dp.reads I _ _ _ (ldp_of d c1) ru
    exact call_repr_data (nd.keeps I.bk) rd c2 c4 hg (by omega) fun h' u tk hk => ⟨.str _, H, I.kept (t' := tk) hk, ⟨u, rfl⟩, q m O _ H Grow.refl R mk_str⟩
  · rw [if_neg c] at e; cases e
end
end Vy

set_option Elab.async false
set_option linter.all false
set_option maxRecDepth 100000
set_option maxHeartbeats 4000000
/-! The end: from the law's def to the head's goal. -/
namespace Vy
open PySem PySem.Spec PyProof.Rows L2

theorem bt_len : bootBuiltins "len" = some (.builtin "len") := by decide +kernel
theorem bt_abs : bootBuiltins "abs" = some (.builtin "abs") := by decide +kernel
theorem bt_max : bootBuiltins "max" = some (.builtin "max") := by decide +kernel
theorem bt_repr : bootBuiltins "repr" = some (.builtin "repr") := by decide +kernel
theorem bt_sorted : bootBuiltins "sorted" = some (.builtin "sorted") := by decide +kernel
theorem bt_int : bootBuiltins "int" = some (.type "int") := by decide +kernel
theorem bt_list : bootBuiltins "list" = some (.type "list") := by decide +kernel
theorem bt_tuple : bootBuiltins "tuple" = some (.type "tuple") := by decide +kernel

/-- nothing is known but the script -/
theorem sto0 {K : PySem.W.Frag} {H : Hp} : Sto K (fun _ => none) (fun _ => False) (fun _ => False) H [] :=
  ⟨fun _ _ e => (nomatch e), fun _ z => z, fun _ _ _ e => (nomatch e), fun _ h => absurd h (Nat.not_lt_zero _), fun _ z => (show False from z).elim, fun _ _ e => nomatch e⟩
theorem sp_law {K : PySem.W.Frag} {H : Hp} {a : Addr} {ns : List Int} {p : PFn} {st : Store} (ho : Only H) (hs : SqL K H a (ns.map V.int)) (hp : p [.scr ns] [] = .ok (.st, .bl true) st) : spI K 1 p [.ref a] H (fun v _ => v = .bl true) fun _ _ _ => False := by
  have dn : Den K (fun _ => none) (fun _ => False) H (.scr ns) (.ref a) := by
    unfold Den
    refine ⟨a, rfl, ?_⟩
    rcases hs with z | z
    · exact .inl ⟨fun z => z, z⟩
    · exact .inr fun H' => .inr z
  refine ⟨fun _ => none, fun _ => False, [.scr ns], [], .st, .bl true, st, rfl, sto0, by unfold Dens; exact ⟨_, _, rfl, dn, by unfold Dens; rfl⟩, hp, fun m' O' v H' g S d => ?_⟩
  have d : Den K m' O' H' (.bl true) v := d
  unfold Den at d
  exact d

theorem lawG {P : Program} {w : World} {K : PySem.W.Frag} {mg mb : Str → Option Value} {k : Nat} {fa a : Addr} {fd : FuncData} {x : Str} {sp : Sp} {s₁ : Shared} {vs : List Value} {ns : List Int}
    (KX : K.In s₁.heap) (hns : s₁.heap.Ns mainGlobals mg) (hb : s₁.heap.Ns builtinsNs mb) (hbb : ∀ x : Str, x ≠ "__name__" → mb x = bootBuiltins x) (hlim : s₁.heap.NoLimit) (hdig : s₁.heap.NoDigits) (hg : s₁.gens = #[])
    (ha : s₁.heap.get? a = some { cls := .type "list", data := .seq vs.toArray }) (hi : IntsAre vs ns) (hl : ns.length ≤ sizeLine) (hr : Room k callerA)
    (G : ∀ base : Heap, K.In base → base.Ns mainGlobals mg → base.NoDigits → FnG P w K mg base k fa fd [x] sp) (hbind : ∀ (s : Shared) (u : Value), BindsTo s fd ⟨[u], []⟩ [(x, u)])
    (hsp : ∀ H : Hp, Only H → SqL K H a (ns.map V.int) → sp [.ref a] H (fun v _ => v = .bl true) fun _ _ _ => False) :
    codeAny (model P w) callerA (.call (.ref fa) ⟨[.ref a], []⟩) (fun r s' => r = .ok (.ret (.bool true)) ∧ OldK s₁.heap s'.heap ∧ s'.os = s₁.os ∧ AllBare s'.gens) s₁ := by
  have rv := vals_ints hi
  have lenV := hi.length
  have core : ∀ H : Hp, Only H → SqL K H a (ns.map V.int) → HOk P w H s₁.heap → (∀ b, H b ≠ none → b = a) → (H a ≠ none → K.lookup a = none) →
      codeAny (model P w) callerA (.call (.ref fa) ⟨[.ref a], []⟩) (fun r s' => r = .ok (.ret (.bool true)) ∧ OldK s₁.heap s'.heap ∧ s'.os = s₁.os ∧ AllBare s'.gens) s₁ := by
    intro H hO hS hok hA hK
    have only : ∀ {b : Addr}, (b = a → False) → H b = none := fun {b} h => by
      cases q : H b with
      | none => rfl
      | some u => exact (h (hA b (by rw [q]; exact fun z => nomatch z))).elim
    have nsK : ∀ {b : Addr} {m : Str → Option Value}, s₁.heap.Ns b m → (hidT s₁.heap H).Ns b m := fun {b m} ⟨o, es, ep, e, d, r⟩ =>
      ⟨o, es, ep, hidT_get e (only fun z => by
        subst z
        rw [ha] at e
        cases e
        exact nomatch (show Data.seq vs.toArray _ = Data.dict es ep from d)), d, r⟩
    have hKb : K.In (hidT s₁.heap H) := fun b o e => hidT_get (KX b o e) (by
      cases q : H b with
      | none => rfl
      | some u =>
        obtain rfl := hA b (by rw [q]; exact fun z => nomatch z)
        rw [hK (by rw [q]; exact fun z => nomatch z)] at e
        cases e)
    have lim : (hidT s₁.heap H).NoLimit := let ⟨mc, h1, h2⟩ := hlim; ⟨mc, nsK h1, h2⟩
    have dig : (hidT s₁.heap H).NoDigits := let ⟨mc, h1, h2⟩ := hdig; ⟨mc, nsK h1, h2⟩
    have e0 : Env0 P w K mg (hidT s₁.heap H) callerA [] s₁ H :=
      ⟨rfl, ⟨hKb, nsK hns, ⟨mb, nsK hb, hbb⟩, lim⟩, fun b o e => of_hidT e, Nat.le_of_eq (hidT_size _ _), trivial, fun b z => (nomatch (show b ∈ ([] : List Addr) from z)), hok, .of_eq hg⟩
    refine codeAny_mono ((G _ hKb (nsK hns) dig).run callerA [] s₁ H ⟨[.ref a], []⟩ [.ref a] [.ref a] _ hr rfl e0 (hbind s₁ (.ref a)) (.cons rfl .nil) (hsp H hO hS)) fun r s' h => ?_
    match r, h with
    | .ok (.ret u), h =>
      obtain ⟨v, H', os, bare, un, hok', r', q⟩ := h
      obtain rfl : v = .bl true := q
      obtain rfl : u = Value.bool true := r'
      refine ⟨rfl, OldK.of_keep fun b o e => ?_, os, bare⟩
      cases q : H b with
      | none => exact un.keep b o e q (fun z => nomatch (show b ∈ ([] : List Addr) from z)) (by simp)
      | some u =>
        rcases hO b with z | ⟨ob, xs, z⟩
        · rw [q] at z; cases z
        · obtain ⟨e2, _⟩ := hok' b _ (un.frzs b ob _ z)
          obtain ⟨e1, _⟩ := hok b _ z
          rw [e1] at e
          cases e
          exact e2
  cases hk : K.lookup a with
  | some o =>
    have e := KX a o hk
    rw [ha] at e
    cases e
    exact core (fun _ => none) (fun _ => .inl rfl) (.inr ⟨_, vs.toArray, _, hk, rfl, rfl, rfl, by rw [List.size_toArray, lenV]; exact hl, by simpa using rv⟩) (fun b u z => nomatch (show (none : Option HO) = some u from z)) (fun b z => absurd rfl z) fun z => absurd rfl z
  | none =>
    have at_ : ∀ b, b = a → (fun b => if b = a then some (HO.frz { cls := .type "list", data := .seq vs.toArray } (.lst (ns.map V.int))) else none) b = some (HO.frz { cls := .type "list", data := .seq vs.toArray } (.lst (ns.map V.int))) := fun b h => if_pos h
    have no_ : ∀ b, ¬ b = a → (fun b => if b = a then some (HO.frz { cls := .type "list", data := .seq vs.toArray } (.lst (ns.map V.int))) else none) b = none := fun b h => if_neg h
    refine core (fun b => if b = a then some (.frz { cls := .type "list", data := .seq vs.toArray } (.lst (ns.map V.int))) else none) (fun b => ?_) (.inl (.inr ⟨_, at_ a rfl⟩)) (fun b u z => ?_) (fun b z => ?_) fun _ => hk
    · by_cases hb : b = a
      · exact .inr ⟨_, _, at_ b hb⟩
      · exact .inl (no_ b hb)
    · by_cases hb : b = a
      · have z' := (at_ b hb).symm.trans z
        cases z'
        subst hb
        exact ⟨ha, by rw [List.length_map]; exact hl, vs, _, rv, ha⟩
      · exact nomatch (no_ b hb).symm.trans z
    · exact Classical.byContradiction fun hb => z (no_ b hb)

theorem walkG {l : PySem.W.OpenLaw} {n k : Nat} {q : Program} {loose : List Str} {XP : (Str → Option Value) → Heap → Prop} {YP : World → Heap → Prop} {d : DefRec} {K : Params → PySem.W.Frag} {p : PFn} {x : Str}
    (hn : l.most = some n) (hn2 : n ≤ sizeLine) (hdf : d.params.defaults = []) (hr : Room k callerA) (hY : ∀ (w : World) (h : Heap), YP w h → (K w.params).In h)
    (F : ∀ (w : World) (mg : Str → Option Value) (fa : Addr) (h : Heap), (K w.params).In h → h.Ns mainGlobals mg → mg d.name = some (.ref fa) →
      ∃ fd : FuncData, (∀ (s : Shared) (u : Value), BindsTo s fd ⟨[u], []⟩ [(x, u)]) ∧ ∀ base : Heap, (K w.params).In base → base.Ns mainGlobals mg → base.NoDigits → FnG l.prog w (K w.params) mg base k fa fd [x] (spI (K w.params) 1 p))
    (hp : ∀ ns : List Int, ns.length ≤ n → (∀ z ∈ ns, Builtin.Int.intBits z ≤ 1048576) → ∃ st, p [.scr ns] [] = .ok (.st, .bl true) st) :
    PySem.W.WalkO q loose XP YP l.row.toRowW d [] (fun f vs => PySem.call f vs) := by
  refine Att.attach_callB hn hdf fun w s₀ s₁ mg mb fa o pm cd doc a vs ns G Y ho hd hcd hmg hobj hints hlen hbits hg => ?_
  have KX := hY w _ Y
  obtain ⟨fd, hb, hF⟩ := F w mg fa _ KX G.T.g hmg
  obtain ⟨st, hst⟩ := hp ns hlen hbits
  exact lawG KX G.T.g G.T.b G.T.builtins G.T.nolimit G.T.nodigits hg hobj hints (Nat.le_trans hlen hn2) hr hF hb fun H hO hS => sp_law hO hS hst
end Vy

set_option Elab.async false
set_option linter.all false
set_option maxRecDepth 100000
set_option maxHeartbeats 4000000
/-! More words: isinstance, all, comparing tuples of ints, tuple * int. -/
namespace Vy
open PySem PySem.Spec PyProof.Rows L2

section
variable {K : PySem.W.Frag} {X : Cx} {m m' m1 : Mp} {F O O' O1 G : Op} {H H' H1 : Hp} {σ : L2.St} {fr : Frame} {st st1 : Store} {pos : Pos}
/-! ### isinstance -/
/-- a value's type -/
def tyW : W → Option String
  | .non => some "NoneType"
  | .bl _ => some "bool"
  | .int _ => some "int"
  | .str _ => some "str"
  | .tup _ => some "tuple"
  | .lst _ => some "list"
  | .dct (.k _) _ => some "dict"
  | _ => none
theorem tyW_ok {a : W} {x : V} {t : String} (d : LDen K m O H a x) (e : tyW a = some t) : TyX K H x (.type t) := by
  cases a with
  | non => rw [den_non d]; cases e; exact .base .non
  | bl b => rw [den_bl d]; cases e; exact .base (.bl b)
  | int i => rw [den_int d]; cases e; exact .base (.int i)
  | str z => rw [den_str d]; cases e; exact .base (.str z)
  | tup ws => obtain ⟨p, vs, rfl, h1, _⟩ := lden_tup d; cases e; exact .base (.tup h1)
  | lst ws => obtain ⟨p, vs, rfl, _, h1, _⟩ := lden_lst d; cases e; exact .base (.lst h1)
  | dct ks ws =>
    obtain ⟨p, rfl, _, vs, h1, _⟩ := d
    cases ks with
    | k l =>
      cases e
      obtain ⟨kvs, _, _, h1 | ⟨o, h1⟩⟩ := h1
      · exact .base (.dK h1)
      · exact .fDict h1
    | t l => cases e
  | _ => cases e
def fIsi (T : String) (a : W) (st : Store) : Res (Kd × W) := match (tyW a).bind fun t => kitB t T with
  | some b => okS (.bl b) st
  | none => .bad
theorem re_isi {T : String} {n : Str} {e : Expr} {pe : PX} {p p2 : Pos} (hg : Gl X "isinstance") (hm : X.mg "isinstance" = none) (hgT : Gl X n) (hmT : X.mg n = none) (hv : bootBuiltins n = some (.type T)) (he : RE X e pe)
    (hn : n ≠ "__name__" := by decide) (hdb : (n == ("__debug__" : Str)) = false := by decide)
    (hs : starEach [e, .Name n p2] X.env = (false, eval e X.env) :: starEach [.Name n p2] X.env := by rfl) (h0 : starEach [.Name n p2] X.env = [(false, eval (.Name n p2) X.env)] := by rfl) (hpl : (backTo pos (starEach [.Name n p2] X.env)).any (·.1) = false := by rfl) :
    RE X (.Call (.Name "isinstance" p) [e, .Name n p2] [] pos) (eC1 (fIsi T) pe) :=
  (pe_callB (id := "isinstance") call_isi hg hm rfl (pa_cons he.look (pa_cons (pe_bltn hgT hmT hv (v := .ty T) rfl hn hdb) pa_nil h0) hs) (by decide) (by decide) hs hpl).imp fun σ H Q q => by
    obtain ⟨m, F, O, fr, st, k, w, st', R, e, q⟩ := q
    obtain ⟨⟨k1, x⟩, s1, e1, e⟩ := Res.bind_eq e
    refine ⟨m, F, O, fr, st, k1, x, s1, R, e1, fun m1 O1 v H1 g1 R1 d1 => ?_⟩
    have e : (match (tyW x).bind fun t => kitB t T with | some b => okS (.bl b) s1 | none => .bad) = Res.ok (k, w) st' := e
    cases ht : tyW x with
    | none => rw [ht] at e; cases e
    | some t =>
      rw [ht] at e
      have e : (match kitB t T with | some b => okS (.bl b) s1 | none => .bad) = Res.ok (k, w) st' := e
      cases hb : kitB t T with
      | none => rw [hb] at e; cases e
      | some b =>
        rw [hb] at e
        cases e
        exact ⟨v, .ty T, .type t, .type T, b, rfl, .ty T, tyW_ok d1 ht, kit_ty hb, q m1 O1 _ H1 g1 R1 mk_bl⟩
/-! ### all, any -/
def bools : List W → Option (List Bool)
  | [] => some []
  | .bl b :: ws => (bools ws).map (b :: ·)
  | _ :: _ => none
theorem bools_map : ∀ {ws : List W} {bs : List Bool}, bools ws = some bs → ws = bs.map W.bl
  | [], _, e => by cases e; rfl
  | w :: ws, bs, e => by
    cases w with
    | bl b =>
      have e : (bools ws).map (b :: ·) = some bs := e
      cases h : bools ws with
      | none => rw [h] at e; cases e
      | some l => rw [h] at e; cases e; rw [bools_map h]; rfl
    | _ => cases e
theorem dens_bls : ∀ {bs : List Bool} {vs : List V}, Dens K m O H (bs.map W.bl) vs → vs = bs.map V.bl
  | [], _, d => dens_end d
  | b :: bs, _, d => by
    obtain ⟨v, r, rfl, da, d2⟩ := dens_cons (w := .bl b) (ws := bs.map W.bl) d
    unfold Den at da
    rw [da, dens_bls d2]
    rfl
def fAll (a : W) (st : Store) : Res (Kd × W) := match a with
  | .lst ws => match bools ws with
    | some bs => okS (.bl (bs.all id)) st
    | none => .bad
  | _ => .bad
theorem ci_all (hc : X.calm = true) : CallI X (.builtin "all") fAll := fun pins s σ H xs us Q I r h => by
  obtain ⟨m, F, O, σ', fr, st, k, w, st', a, x, rfl, R, d, e, q⟩ := h
  cases a with
  | lst ws =>
    have e : (match bools ws with | some bs => okS (.bl (bs.all id)) st | none => .bad) = Res.ok (k, w) st' := e
    cases hb : bools ws with
    | none => rw [hb] at e; cases e
    | some bs =>
      rw [hb] at e
      cases e
      obtain ⟨p, vs, rfl, _, h1, d1⟩ := lden_lst d
      rw [bools_map hb] at d1
      rw [dens_bls d1] at h1
      exact cr_all hc pins s σ H _ us Q I r ⟨p, bs, rfl, SqL.of h1, q m O _ H Grow.refl R mk_bl⟩
  | _ => cases e
/-! ### tuples of ints compared -/
/-- the law of two rows: where they differ first -/
def lexB (p : Int → Int → Bool) (z : Nat → Nat → Bool) (ns ms : List Int) : Bool :=
  Ob.lexAt (fun j => decide (ns.getD j 0 = ms.getD j 0)) (fun j => p (ns.getD j 0) (ms.getD j 0)) (z ns.length ms.length) 0 (min ns.length ms.length)
def fCmpT (p : Int → Int → Bool) (z : Nat → Nat → Bool) (a b : W) (st : Store) : Res (Kd × W) := match a, b with
  | .int i, .int j => okS (.bl (p i j)) st
  | .tup ws, .tup us => match intsOf ws, intsOf us with
    | some ns, some ms => okS (.bl (lexB p z ns ms)) st
    | _, _ => .bad
  | _, _ => .bad
def rCmpT (K : PySem.W.Frag) (p : Int → Int → Bool) (z : Nat → Nat → Bool) : R2 := fun x y H Q => ∃ (a b : Addr) (ns ms : List Int), x = .ref a ∧ y = .ref b ∧ SqT K H a (ns.map V.int) ∧ SqT K H b (ms.map V.int) ∧ Q (.bl (lexB p z ns ms)) H
theorem op_cmpT {op : CmpOp} {p : Int → Int → Bool} {z : Nat → Nat → Bool} (hi : ∀ {A : Around} {s : Shared} (a b : Int) (t u : Tok), Ob.RcOp op A s (.int a t) (.int b u) (p a b))
    (ht : ∀ {A : Around} {s : Shared} {l b : Addr} {items items2 : Array Value} {e r : Nat → Bool}, s.heap.IsTuple l items → s.heap.IsTuple b items2 → A.units < cLine →
      (∀ j (h1 : j < items.size) (h2 : j < items2.size), SeqAt.EqAt A.in1 s items[j] items2[j] (e j)) → (∀ j (h1 : j < items.size) (h2 : j < items2.size), e j = false → Ob.RcOp op A.in1 s items[j] items2[j] (r j)) →
      Ob.RcOp op A s (.ref l) (.ref b) (Ob.lexAt e r (z items.size items2.size) 0 (min items.size items2.size))) (hu : X.A.units < cLine) (hop : ∀ a b, compareOp op a b = richCompare op a b) : OpR X (compareOp op) (rCmpT X.K p z) := by
  intro pins s σ H x y v u Q I rx ry h
  obtain ⟨a, b, ns, ms, rfl, rfl, ha, hb, q⟩ := h
  cases rx
  cases ry
  obtain ⟨its, r1, p1, _⟩ := I.tuple ha
  obtain ⟨its2, r2, p2, _⟩ := I.tuple hb
  have i1 : IntsAre its ns := Vals.ints r1
  have i2 : IntsAre its2 ms := Vals.ints r2
  have e1 : its.toArray.size = ns.length := by rw [List.size_toArray]; exact i1.length
  have e2 : its2.toArray.size = ms.length := by rw [List.size_toArray]; exact i2.length
  have at1 : ∀ j (h1 : j < its.toArray.size), ∃ t, its.toArray[j] = .int (ns.getD j 0) t := fun j h1 => PyProof.Rows.IntsAre.int_at i1 _ _ (by simp at h1; simp [h1])
  have at2 : ∀ j (h1 : j < its2.toArray.size), ∃ t, its2.toArray[j] = .int (ms.getD j 0) t := fun j h1 => PyProof.Rows.IntsAre.int_at i2 _ _ (by simp at h1; simp [h1])
  have R := ht (A := X.A) (s := s) (e := fun j => decide (ns.getD j 0 = ms.getD j 0)) (r := fun j => p (ns.getD j 0) (ms.getD j 0)) p1 p2 hu (fun j h1 h2 => by
    obtain ⟨t, et⟩ := at1 j h1
    obtain ⟨t', et'⟩ := at2 j h2
    rw [et, et']
    have z : (ns.getD j 0 == ms.getD j 0) = decide (ns.getD j 0 = ms.getD j 0) := by
      by_cases q : ns.getD j 0 = ms.getD j 0
      · rw [decide_eq_true q]; exact beq_iff_eq.mpr q
      · rw [decide_eq_false q]; exact beq_eq_false_iff_ne.mpr q
    rw [← z]
    exact SeqAt.EqAt.int_int _ _ _ _) (fun j h1 h2 _ => by
    obtain ⟨t, et⟩ := at1 j h1
    obtain ⟨t', et'⟩ := at2 j h2
    rw [et, et']
    exact hi _ _ _ _)
  rw [e1, e2] at R
  show wpAny _ _ (compareOp op (.ref a) (.ref b)) _ _ _
  rw [hop]
  exact R X.prog X.w X.xe (EP X pins σ Q) ⟨.bl _, H, I, rfl, q⟩
theorem oi_cmpT {op : CmpOp} {p : Int → Int → Bool} {z : Nat → Nat → Bool} (ho : OpI X (compareOp op) (fCmp p)) (hT : OpR X (compareOp op) (rCmpT X.K p z)) : OpI X (compareOp op) (fCmpT p z) := by
  intro pins s σ H x y v u Q I rx ry h
  obtain ⟨m, F, O, σ', fr, st, k, w, st', a, b, R, da, db, e, q⟩ := h
  cases a with
  | int i =>
    cases b with
    | int j => exact ho pins s σ H x y v u Q I rx ry ⟨m, F, O, σ', fr, st, k, w, st', _, _, R, da, db, e, q⟩
    | _ => cases e
  | tup ws =>
    cases b with
    | tup us =>
      have e : (match intsOf ws, intsOf us with | some ns, some ms => okS (.bl (lexB p z ns ms)) st | _, _ => .bad) = Res.ok (k, w) st' := e
      cases h1 : intsOf ws with
      | none => rw [h1] at e; cases e
      | some ns =>
        cases h2 : intsOf us with
        | none => rw [h1, h2] at e; cases e
        | some ms =>
          rw [h1, h2] at e
          cases e
          obtain ⟨a1, vs, rfl, g1, d1⟩ := lden_tup da
          obtain ⟨b1, vs2, rfl, g2, d2⟩ := lden_tup db
          rw [intsOf_map h1] at d1
          rw [intsOf_map h2] at d2
          rw [dens_ints d1] at g1
          rw [dens_ints d2] at g2
          exact hT pins s σ H _ _ v u Q I rx ry ⟨a1, b1, ns, ms, rfl, rfl, SqT.of g1, SqT.of g2, q m O _ H Grow.refl R mk_bl⟩
    | _ => cases e
  | _ => cases e
abbrev fLtT := fCmpT (fun i j => decide (i < j)) (fun a b => decide (a < b))
abbrev fLeT := fCmpT (fun i j => decide (i ≤ j)) (fun a b => decide (a ≤ b))
abbrev fGtT := fCmpT (fun i j => decide (j < i)) (fun a b => decide (b < a))
abbrev fGeT := fCmpT (fun i j => decide (j ≤ i)) (fun a b => decide (b ≤ a))
theorem oi_ltT (hu : X.A.units + 64 < cLine) : OpI X (compareOp .Lt) fLtT := oi_cmpT oi_lt (op_cmpT (fun _ _ _ _ => Ob.RcOp.lt_int _ _ _ _) (fun a b c d e => Ob.RcOp.tuples_lt a b c d e) (by omega) fun _ _ => rfl)
theorem oi_leT (hu : X.A.units + 64 < cLine) : OpI X (compareOp .LtE) fLeT := oi_cmpT oi_le (op_cmpT (fun _ _ _ _ => Ob.RcOp.le_int _ _ _ _) (fun a b c d e => Ob.RcOp.tuples_le a b c d e) (by omega) fun _ _ => rfl)
theorem oi_gtT (hu : X.A.units + 64 < cLine) : OpI X (compareOp .Gt) fGtT := oi_cmpT oi_gt (op_cmpT (fun _ _ _ _ => Ob.RcOp.gt_int _ _ _ _) (fun a b c d e => Ob.RcOp.tuples_gt a b c d e) (by omega) fun _ _ => rfl)
theorem oi_geT (hu : X.A.units + 64 < cLine) : OpI X (compareOp .GtE) fGeT := oi_cmpT oi_ge (op_cmpT (fun _ _ _ _ => Ob.RcOp.ge_int _ _ _ _) (fun a b c d e => Ob.RcOp.tuples_ge a b c d e) (by omega) fun _ _ => rfl)
/-! ### tuple * int, also none of it -/
theorem tuple_mul0 (lt : Addr) (its : Array Value) (n : Nat) (dd : Option Addr) (sl : Array (Option Value)) (x : Int) (u : Tok) (c0 : (decide (x < -(2 ^ 63)) || decide (x ≥ 2 ^ 63)) = false) (c1 : (its.isEmpty || x == 1) = false) (c2 : (decide (x ≤ 0) || its.isEmpty) = true) :
    Meets (Builtin.«tuple.__mul__» ⟨[.ref lt, .int x u], []⟩) (fun _ R s => s.heap.get? lt = some { cls := .type "tuple", dict := dd, data := .seq its n, slots := sl } ∧
      R (.ok (.ret (Value.ref s.heap.objs.size))) { s with heap := s.heap.push { cls := Value.type "tuple", data := Data.seq #[] }, toks := s.toks }) :=
  .of_wp fun prog w A R s hq => by
    obtain ⟨hp, gg, dr, tk, oo⟩ := s
    obtain ⟨hlk, hq⟩ := hq
    have fi := AutoSeq1.idx_int
    wp_walk using wpAny_loadPart' hlk
    repeat (first
      | (refine wpAny_ite_false (decide_eq_false (by rw [c0]; exact Bool.false_ne_true)) ?_; wp_walk using wpAny_loadPart' hlk)
      | (refine wpAny_ite_false (decide_eq_false (by rw [c1]; exact Bool.false_ne_true)) ?_; wp_walk using wpAny_loadPart' hlk)
      | (refine wpAny_ite_true (decide_eq_true c2) ?_; wp_walk using wpAny_loadPart' hlk))
    exact ⟨_, rfl, hq⟩
end
end Vy

set_option Elab.async false
set_option linter.all false
set_option maxRecDepth 100000
set_option maxHeartbeats 4000000
/-! More words: x[i] = v on own lists, list(range(..)), dict(pairs), repr with empty dicts, tuple * int. -/
namespace Vy
open PySem PySem.Spec PyProof.Rows L2

section
variable {K : PySem.W.Frag} {X : Cx} {m m' m1 : Mp} {F O O' O1 G : Op} {H H' H1 : Hp} {σ : L2.St} {fr : Frame} {st st1 : Store} {pos : Pos}
/-! ### x[i] = v -/
def sLPut (i : Nat) (pk pv : PX) : PM := fun fr st => (pv fr st).bind fun v s1 => (pk fr s1).bind fun y s2 => if keepOk v.1 v.2 = true then (match fr[i]?, y.2 with
  | some (.own (.lst ws)), .int k => match ixN ws.length k with
    | some j => .ok (.nx (fr.set i (.own (.lst (ws.set j v.2))))) s2
    | none => .bad
  | _, _ => .bad) else .bad
theorem rs_lput {i : Nat} {d k e : Expr} {pk pv : PX} {pos' : Pos} (hd : PE X d (tVar i)) (hk : RE X k pk) (hv : RE X e pv) (hs : swapsWithSole [.Subscript d k pos'] e pos.line X.env = pure false := by rfl) (hw : swappedStores [.Subscript d k pos'] e X.env = pure none := by rfl)
    (h1 : (assignEach [.Subscript d k pos'] X.env).map (·.2) = [assign (.Subscript d k pos') X.env] := by rfl) (ha : ∀ v, assign (.Subscript d k pos') X.env v = (do
      let ov ← holding [v] (eval d X.env)
      let iv ← holding [v, ov] (eval k X.env)
      standAt pos'
      holding [v, ov, iv] (setItem ov iv v)
      release [v, ov, iv] []) := by intro _; rfl) :
    RS X (.Assign [.Subscript d k pos'] e pos) (sLPut i pk pv) := (ps_asg hv.kept (pg_sub hd hk.look set_list ha) hs hw h1).imp fun D σ H h => by
  obtain ⟨m, F, O, fr, st, fl, st', R, e, po⟩ := h
  obtain ⟨⟨k1, v⟩, s1, e1, e⟩ := Res.bind_eq e
  obtain ⟨⟨k2, y⟩, s2, e2, e⟩ := Res.bind_eq e
  by_cases ok : keepOk k1 v = true
  · simp only [if_pos ok] at e
    refine ⟨m, F, O, fr, st, k1, v, s1, R, e1, ok, fun m1 O1 vv H1 g1 R1 d1 => ?_⟩
    match hs : fr[i]?, y, e with
    | some (.own (.lst ws)), .int j, e =>
      obtain ⟨a, ea, _⟩ := R1.sl i _ hs
      refine ⟨_, ea, m1, F, O1, fr, s1, k2, .int j, s2, R1, e2, fun m2 O2 yy H2 g2 R2 d2 => ?_⟩
      obtain ⟨a2, ea2, h1, h2, h3, vs, hv, ds⟩ := R2.sl i _ hs
      rw [ea] at ea2
      cases ea2
      have e : (match ixN ws.length j with | some n => Res.ok (Fl.nx (fr.set i (.own (.lst (ws.set n v))))) s2 | none => .bad) = Res.ok fl st' := e
      cases hn : ixN ws.length j with
      | none => rw [hn] at e; cases e
      | some n =>
        rw [hn] at e
        cases e
        have g : GrowF (fun _ => False) m2 O2 H2 m2 O2 (upd H2 a (.lst (vs.set n vv))) := GrowF.put h1 (fun z => z) fun xs z => by rw [hv] at z; cases z
        obtain ⟨gp, R3⟩ := R2.putOwn (o' := .lst (ws.set n v)) hs ea ⟨vs.set n vv, upd_same, dens_set n (Dens.grow g R2.mO _ _ ds) (Den.grow g R2.mO _ _ (Den.grow g2 R1.mO _ _ d1))⟩
        exact ⟨a, vs, j, n, rfl, den_int d2, hv, by rw [dens_length ds]; exact hn, po m2 O2 σ _ (g1.less.trans (g2.less.trans gp)) R3⟩
  · simp only [if_neg ok] at e; cases e
/-! ### list(range(..)) -/
def rngI (a b : Int) : List W := (List.range (b - a).toNat).map fun i => .int (a + (i : Nat))
theorem rng_dens (a b : Int) : Dens K m O H (rngI a b) (rgV a b) := by
  unfold rngI rgV
  generalize List.range (b - a).toNat = l
  induction l with
  | nil => unfold Dens; rfl
  | cons i l ih =>
    show Dens K m O H (.int (a + (i : Nat)) :: l.map fun i => .int (a + (i : Nat))) (V.int (a + (i : Nat)) :: l.map fun i => V.int (a + (i : Nat)))
    unfold Dens
    exact ⟨_, _, rfl, by unfold Den; rfl, ih⟩
instance (a b : Int) : Decidable (RgOk a b) := by unfold RgOk; infer_instance
def eLRng1 (p : PX) : PX := fun fr st => (p fr st).bind fun x s1 => match x.2 with
  | .int n => grd (RgOk 0 n) (.ok (.fr, .lst (rngI 0 n)) s1)
  | _ => .bad
def eLRng2 (p q : PX) : PX := fun fr st => (p fr st).bind fun x s1 => (q fr s1).bind fun y s2 => match x.2, y.2 with
  | .int a, .int b => grd (RgOk a b) (.ok (.fr, .lst (rngI a b)) s2)
  | _, _ => .bad
theorem re_lrng1 {e : Expr} {pe : PX} {p p2 pos2 : Pos} (hc : X.calm = true) (hg : Gl X "list") (hm : X.mg "list" = none) (hg2 : Gl X "range") (hm2 : X.mg "range" = none) (he : RE X e pe)
    (na : starEach [e] X.env = (false, eval e X.env) :: starEach [] X.env := by rfl)
    (nb : starEach [.Call (.Name "range" p2) [e] [] pos2] X.env = (false, eval (.Call (.Name "range" p2) [e] [] pos2) X.env) :: starEach [] X.env := by rfl) : RE X (.Call (.Name "list" p) [.Call (.Name "range" p2) [e] [] pos2] [] pos) (eLRng1 pe) :=
  (pe_listRg hc hg hm (prg_1 hg2 hm2 he.look na) nb).imp fun σ H Q h => by
    obtain ⟨m, F, O, fr, st, k, w, st', R, e, q⟩ := h
    obtain ⟨⟨k1, x⟩, s1, e1, e⟩ := Res.bind_eq e
    refine ⟨m, F, O, fr, st, k1, x, s1, R, e1, fun m1 O1 v H1 g1 R1 d1 => ?_⟩
    cases x with
    | int n =>
      obtain ⟨hz, e⟩ := grd_ok e
      cases e
      refine ⟨n, den_int d1, hz, fun l hl => ?_⟩
      obtain ⟨g2, R2, d3⟩ := new_lst R1 (rng_dens 0 n) hl
      exact q m1 _ _ _ (g1.trans g2) R2 d3
    | _ => cases e
theorem re_lrng2 {a b : Expr} {pa pb : PX} {p p2 pos2 : Pos} (hc : X.calm = true) (hg : Gl X "list") (hm : X.mg "list" = none) (hg2 : Gl X "range") (hm2 : X.mg "range" = none) (ha : RE X a pa) (hb : RE X b pb)
    (na : starEach [a, b] X.env = (false, eval a X.env) :: starEach [b] X.env := by rfl) (na2 : starEach [b] X.env = (false, eval b X.env) :: starEach [] X.env := by rfl) (hp : (backTo pos2 (starEach [b] X.env)).any (·.1) = false := by rfl)
    (nb : starEach [.Call (.Name "range" p2) [a, b] [] pos2] X.env = (false, eval (.Call (.Name "range" p2) [a, b] [] pos2) X.env) :: starEach [] X.env := by rfl) : RE X (.Call (.Name "list" p) [.Call (.Name "range" p2) [a, b] [] pos2] [] pos) (eLRng2 pa pb) :=
  (pe_listRg hc hg hm (prg_2 hg2 hm2 ha.look hb.look na na2 hp) nb).imp fun σ H Q h => by
    obtain ⟨m, F, O, fr, st, k, w, st', R, e, q⟩ := h
    obtain ⟨⟨k1, x⟩, s1, e1, e⟩ := Res.bind_eq e
    obtain ⟨⟨k2, y⟩, s2, e2, e⟩ := Res.bind_eq e
    refine ⟨m, F, O, fr, st, k1, x, s1, R, e1, fun m1 O1 v H1 g1 R1 d1 => ⟨m1, F, O1, fr, s1, k2, y, s2, R1, e2, fun m2 O2 v2 H2 g2 R2 d2 => ?_⟩⟩
    match x, y, e with
    | .int i, .int j, e =>
      obtain ⟨hz, e⟩ := grd_ok e
      cases e
      refine ⟨i, j, den_int d1, den_int d2, hz, fun l hl => ?_⟩
      obtain ⟨g3, R3, d3⟩ := new_lst R2 (rng_dens i j) hl
      exact q m2 _ _ _ (g1.trans (g2.trans g3)) R3 d3
/-! ### dict(pairs) -/
def pairOf : W → Option (Key × W)
  | .tup [k, w] => (keyOf k).map fun j => (j, w)
  | _ => none
def pairsOf : List W → Option (List (Key × W))
  | [] => some []
  | w :: ws => match pairOf w, pairsOf ws with
    | some p, some ps => some (p :: ps)
    | _, _ => none
/-- later ones win -/
def mergeW (ls : List Key × List W) (ps : List (Key × W)) : List Key × List W := ps.foldl (fun (a : List Key × List W) (p : Key × W) => putKW (κ := Key) a.1 a.2 p.1 p.2) ls
def fDictP (a : W) (st : Store) : Res (Kd × W) := match a with
  | .lst ws => match pairsOf ws with
    | some ps => let r := mergeW ([], []) ps; .ok (.fr, .dct (.k r.1) r.2) st
    | none => .bad
  | _ => .bad
theorem merge_dens : ∀ {ps : List (Key × W)} {kvs : List (Key × V)} {ls : List Key × List W} {acc : List (Key × V)}, ps.map (·.1) = kvs.map (·.1) → Dens K m O H (ps.map (·.2)) (kvs.map (·.2)) → ls.1 = acc.map (·.1) → Dens K m O H ls.2 (acc.map (·.2)) →
    (mergeW ls ps).1 = (mergeK acc kvs).map (·.1) ∧ Dens K m O H (mergeW ls ps).2 ((mergeK acc kvs).map (·.2))
  | [], [], ls, acc, _, _, h1, h2 => ⟨h1, h2⟩
  | [], _ :: _, ls, acc, h, _, _, _ => by simp at h
  | _ :: _, [], ls, acc, h, _, _, _ => by simp at h
  | p :: ps, kv :: kvs, ls, acc, h, d, h1, h2 => by
    rw [List.map_cons, List.map_cons] at h d
    injection h with ha hb
    obtain ⟨v, r, er, da, db⟩ := dens_cons d
    injection er with e1 e2
    subst e1 e2
    show (mergeW (putKW (κ := Key) ls.1 ls.2 p.1 p.2) ps).1 = _ ∧ _
    refine merge_dens (ls := putKW (κ := Key) ls.1 ls.2 p.1 p.2) (acc := putK acc kv.1 kv.2) hb db ?_ ?_
    · show (putKW (κ := Key) ls.1 ls.2 p.1 p.2).1 = _
      rw [h1, ha]; exact put_keys.symm
    · show Dens K m O H (putKW (κ := Key) ls.1 ls.2 p.1 p.2).2 _
      rw [h1, ha]; exact put_vals h2 da
theorem pairs_den (hm : ∀ n a, m n = some a → O a) : ∀ {ws : List W} {vs : List V} {ps : List (Key × W)}, pairsOf ws = some ps → Dens K m O H ws vs →
    ∃ (as : List Addr) (kvs : List (Key × V)), vs = as.map V.ref ∧ Paired (fun p kv => SqT K H p [kV kv.1, kv.2]) as kvs ∧ ps.map (·.1) = kvs.map (·.1) ∧ Dens K m O H (ps.map (·.2)) (kvs.map (·.2))
  | [], vs, ps, e, d => by
    cases e
    obtain rfl := dens_end d
    exact ⟨[], [], rfl, .nil, rfl, by unfold Dens; rfl⟩
  | w :: ws, vs, ps, e, d => by
    have e : (match pairOf w, pairsOf ws with | some p, some ps => some (p :: ps) | _, _ => none) = some ps := e
    cases h1 : pairOf w with
    | none => rw [h1] at e; cases e
    | some p =>
      cases h2 : pairsOf ws with
      | none => rw [h1, h2] at e; cases e
      | some qs =>
        rw [h1, h2] at e
        cases e
        obtain ⟨v, r, rfl, da, db⟩ := dens_cons d
        obtain ⟨as, kvs, rfl, pr, hk, hd⟩ := pairs_den hm h2 db
        match w, h1 with
        | .tup [k, u], h1 =>
          have h1 : ((keyOf k).map fun j => (j, u)) = some p := h1
          cases hj : keyOf k with
          | none => rw [hj] at h1; cases h1
          | some j =>
            rw [hj] at h1
            cases h1
            obtain ⟨b, xs, rfl, hb, dx⟩ := lden_tup (Den.loose hm da)
            obtain ⟨v1, r1, rfl, dk, dr⟩ := dens_cons dx
            obtain ⟨v2, r2, rfl, du, dn⟩ := dens_cons dr
            obtain rfl := dens_end dn
            have ek := key_den hj (Den.loose hm dk)
            subst ek
            refine ⟨b :: as, (j, v2) :: kvs, rfl, .cons (SqT.of hb) pr, by rw [List.map_cons, List.map_cons, hk], ?_⟩
            show Dens K m O H (u :: qs.map (·.2)) (v2 :: kvs.map (·.2))
            unfold Dens
            exact ⟨_, _, rfl, du, hd⟩
theorem new_dctK {ks : List Key} {ws : List W} {kvs : List (Key × V)} (R : Rel K m F O σ H fr st) (hk : ks = kvs.map (·.1)) (d : Dens K m O H ws (kvs.map (·.2))) {a : Addr} (hn : H a = none) :
    Grow m O H m (fun b => O b ∨ b = a) (upd H a (.dK kvs)) ∧ Rel K m F (fun b => O b ∨ b = a) σ (upd H a (.dK kvs)) fr st ∧ RDen K m F (fun b => O b ∨ b = a) σ (upd H a (.dK kvs)) fr .fr (.dct (.k ks) ws) (.ref a) :=
  ⟨Grow.add hn, R.add hn, a, .dct (.k ks) ws, rfl, rfl, R.fresh hn, _, ⟨kvs, hk, rfl, upd_same⟩, Dens.grow (G := allA) (Grow.add hn) R.mO _ _ d⟩
theorem ci_dictP (hc : X.calm = true) : CallI X (.type "dict") fDictP := fun pins s σ H xs us Q I r h => by
  obtain ⟨m, F, O, σ', fr, st, k, w, st', a, x, rfl, R, d, e, q⟩ := h
  cases a with
  | lst ws =>
    have e : (match pairsOf ws with | some ps => (let r := mergeW ([], []) ps; Res.ok (Kd.fr, W.dct (.k r.1) r.2) st) | none => .bad) = Res.ok (k, w) st' := e
    cases hp : pairsOf ws with
    | none => rw [hp] at e; cases e
    | some ps =>
      rw [hp] at e
      cases e
      obtain ⟨p, vs, rfl, _, h1, d1⟩ := lden_lst d
      obtain ⟨as, kvs, rfl, pr, hk, hd⟩ := pairs_den R.mO hp d1
      obtain ⟨m1, m2⟩ := merge_dens (ls := ([], [])) (acc := []) hk hd rfl (by show Dens X.K m O H [] []; unfold Dens; rfl)
      refine call_dictP hc pins s σ H _ us Q I r ⟨p, as, kvs, rfl, SqL.of h1, pr, fun l hl => ?_⟩
      obtain ⟨g2, R2, d3⟩ := new_dctK R m1 m2 hl
      exact q m _ _ _ g2 R2 d3
  | _ => cases e
end
end Vy

set_option Elab.async false
set_option linter.all false
set_option maxRecDepth 100000
set_option maxHeartbeats 4000000
/-! More words: tuple * int (none of it, too), repr with empty dicts. -/
namespace Vy
open PySem PySem.Spec PyProof.Rows L2

section
variable {K : PySem.W.Frag} {X : Cx} {m m' m1 : Mp} {F O O' O1 G : Op} {H H' H1 : Hp} {σ : L2.St} {fr : Frame} {st st1 : Store} {pos : Pos}
theorem op_rep0 : OpR X (binaryOp .Mult) fun x y H Q => ∃ l k xs, x = .ref l ∧ y = .int k ∧ SqT X.K H l xs ∧ xs ≠ [] ∧ -(2 ^ 63) ≤ k ∧ k ≤ 0 ∧ ∀ p, H p = none → Q (.ref p) (upd H p (.tup [])) := by
  intro pins s σ H x y v u Q I rx ry h
  obtain ⟨l, k, xs, rfl, rfl, hT, hne, h1, h2, q⟩ := h
  cases rx
  obtain ⟨t, rfl⟩ := ry
  obtain ⟨its, r, ⟨⟨cls, dd, data, sl⟩, ho, hc, n, hd⟩, hs⟩ := I.tuple hT
  simp only at hc hd
  subst hc hd
  have hle : its.length = xs.length := r.length.symm
  have hn : its ≠ [] := fun e => hne (by
    rw [e] at hle
    exact List.eq_nil_of_length_eq_zero hle.symm)
  have hi : its.toArray.isEmpty = false := by
    cases its with
    | nil => exact absurd rfl hn
    | cons a b => rfl
  have c0 : (decide (k < -(2 ^ 63)) || decide (k ≥ 2 ^ 63)) = false := by
    rw [decide_eq_false (by omega), decide_eq_false (by omega)] <;> rfl
  have c1 : (its.toArray.isEmpty || k == 1) = false := by
    rw [hi, Bool.false_or]
    exact beq_eq_false_iff_ne.mpr (by omega)
  have c2 : (decide (k ≤ 0) || its.toArray.isEmpty) = true := by
    rw [decide_eq_true h2]; rfl
  have I2 : Inv X pins σ (upd H s.heap.objs.size (.tup [])) { s with heap := s.heap.push { cls := .type "tuple", data := .seq #[] } } :=
    I.laid (t' := s.toks) (fun b o e => Heap.get?_push_of_some _ e) (Nat.le_refl _) (show ObjOk X.prog X.w _ _ _ (.tup []) from ⟨Nat.zero_le _, [], .nil, IsTup.new _ _⟩)
  exact wpAny_binaryOp_repeat_ref (T := "tuple") (U := "int") (by decide) ⟨_, ho, rfl⟩ (fun s' => typeIs_int s' k t) noFill_tuple_mul F.fills_int_mul F.slot_int_rmul repeat_tuple F.slot_int_index.lookup
    (call_meets F.slot_int_rmul (typeIs_int s k t) F.entry_int_rmul (F.args_int_rmul_2 _ _) (int_rmul_tuple k t l its.toArray n dd sl)
      ⟨ho, rfl, ⟨_, ho, rfl⟩, call_meets F.slot_tuple_mul ⟨_, ho, rfl⟩ F.entry_tuple_mul (F.args_tuple_mul_2 _ _) (tuple_mul0 l its.toArray n dd sl k t c0 c1 c2)
        ⟨ho, ⟨.ref s.heap.objs.size, _, I2, rfl, q _ (I.hok.fresh (Nat.le_refl _))⟩⟩⟩)
/-- as fMul, and tuples none of whose is taken -/
def fMulX (a b : W) (st : Store) : Res (Kd × W) := match a, b with
  | .tup xs, .int j => if j ≤ 0 then grd (xs ≠ [] ∧ -(2 ^ 63) ≤ j) (okS (.tup []) st) else fMul (.tup xs) (.int j) st
  | a, b => fMul a b st
theorem oi_mulX : OpI X (binaryOp .Mult) fMulX := by
  intro pins s σ H x y v u Q I rx ry h
  obtain ⟨m, F, O, σ', fr, st, k, w, st', a, b, R, da, db, e, q⟩ := h
  have old : fMul a b st = .ok (k, w) st' → wpAny (model X.prog X.w) X.A (binaryOp .Mult v u) (EP X pins σ Q) X.xe s := fun e => oi_mul pins s σ H x y v u Q I rx ry ⟨m, F, O, σ', fr, st, k, w, st', a, b, R, da, db, e, q⟩
  cases a with
  | tup xs =>
    cases b with
    | int j =>
      have e : (if j ≤ 0 then grd (xs ≠ [] ∧ -(2 ^ 63) ≤ j) (okS (.tup []) st) else fMul (.tup xs) (.int j) st) = Res.ok (k, w) st' := e
      by_cases hj : j ≤ 0
      · rw [if_pos hj] at e
        obtain ⟨⟨z1, z2⟩, e⟩ := grd_ok e
        cases e
        obtain ⟨a, vs, ex, h1, d1⟩ := lden_tup da
        have hv : vs ≠ [] := fun z => z1 (by subst z; exact dens_nil d1)
        refine op_rep0 pins s σ H x y v u Q I rx ry ⟨a, j, vs, ex, den_int db, SqT.of h1, hv, z2, hj, fun p hp => ?_⟩
        obtain ⟨g2, R2, d3⟩ := new_tup R (ws := []) (vs := []) (by unfold Dens; rfl) hp
        exact q m _ _ _ g2 R2 d3
      · rw [if_neg hj] at e
        exact old e
    | _ => exact old e
  | _ => exact old e
/-! ### repr -/
mutual
/-- plain data, empty dicts too -/
def isX : W → Bool
  | .non => true | .bl _ => true | .int _ => true | .str _ => true
  | .tup ws => isXs ws
  | .lst ws => isXs ws
  | .dct (.k []) [] => true
  | _ => false
def isXs : List W → Bool
  | [] => true
  | w :: ws => isX w && isXs ws
end
mutual
/-- what repr tells without a complaint, empty dicts too -/
def ShwX : PyData → Prop
  | .none => True | .bool _ => True | .str _ => True
  | .int i => i.natAbs < 10 ^ 4300
  | .list xs => ShwXA xs
  | .tuple xs => ShwXA xs
  | .dict kvs => kvs = []
def ShwXA : List PyData → Prop
  | [] => True
  | x :: xs => ShwX x ∧ ShwXA xs
end
end
/-- a dict among these addresses is not the modules' one -/
def Sy (h : Heap) (as : List Addr) : Prop := ∀ a ∈ as, ∀ o, h.get? a = some o → o.cls = .type "dict" → (a == sysModules) = false
section
variable {prog : Program} {w : World} {A : Around} {E : Value → Shared → Prop} {s : Shared} {h₀ : Heap}
mutual
theorem reprX_reads (nd : h₀.NoDigits) : ∀ {v : Value} {d : PyData} {as : List Addr}, Reads h₀ v d as → Sy h₀ as → ShwX d → d.shown.length ≤ sizeLine → ∃ bs, ReadAtMost h₀ d.depth bs ∧ ReprK prog w bs h₀ d.depth v d.shown
  | _, _, _, .none, _, _, _ => ⟨[], (fun _ h => nomatch h), by simp only [PyData.shown]; exact .of_is ReprIs.none _ _ _⟩
  | _, _, _, .bool b, _, _, _ => ⟨[], (fun _ h => nomatch h), by simp only [PyData.shown]; exact .of_is (ReprIs.bool b) _ _ _⟩
  | _, _, _, .int i t, _, hs, _ => ⟨[], (fun _ h => nomatch h), by simp only [PyData.shown]; exact reprK_int nd (by unfold ShwX at hs; exact hs)⟩
  | _, _, _, .str x t, _, _, hz => ⟨[], (fun _ h => nomatch h), by simp only [PyData.shown]; exact .of_is (ReprIs.str x t (by simpa only [PyData.shown] using hz)) _ _ _⟩
  | _, _, _, .list (a := a) (vs := vs) (xs := xs) h1 h2 h3 h4, hy, hs, hz => by
    have hz' : (listText (PyData.shownAll xs)).length ≤ sizeLine := by simpa only [PyData.shown] using hz
    obtain ⟨bs, hb, hk⟩ := reprXAll_reads nd h4 (fun b hb => hy b (List.mem_cons_of_mem _ hb)) (by unfold ShwX at hs; exact hs) (fun t ht => Nat.le_trans (listText_mem_le ht) hz')
    have r : Reads h₀ (.ref a) (.list xs) _ := .list h1 h2 h3 h4
    have hna : a ∉ bs := not_mem_of_deeper r (by simp only [PyData.depth]; omega) hb
    refine ⟨a :: bs, ReadAtMost.cons r (by simp only [PyData.depth]; omega) hb, ?_⟩
    simp only [PyData.depth, PyData.shown]
    obtain ⟨l⟩ := vs
    cases l with
    | nil =>
      have h4' : ReadsAll h₀ [] xs _ := h4
      cases h4'
      simp only [PyData.shownAll, listText_nil]
      exact ReprK.listEmpty h1 h2 h3
    | cons x l => exact ReprK.list h1 h2 h3 hna (by simpa using hk.length_eq) (fun i y e => hk.item i y (by simpa using e))
  | _, _, _, .tuple (a := a) (xs := xs) h1 h2 h3 h4, hy, hs, hz => by
    have hz' : (tupleText (PyData.shownAll xs)).length ≤ sizeLine := by simpa only [PyData.shown] using hz
    obtain ⟨bs, hb, hk⟩ := reprXAll_reads nd h4 hy (by unfold ShwX at hs; exact hs) (fun t ht => Nat.le_trans (tupleText_mem_le ht) hz')
    have r : Reads h₀ (.ref a) (.tuple xs) _ := .tuple h1 h2 h3 h4
    have hna : a ∉ bs := not_mem_of_deeper r (by simp only [PyData.depth]; omega) hb
    refine ⟨a :: bs, ReadAtMost.cons r (by simp only [PyData.depth]; omega) hb, ?_⟩
    simp only [PyData.depth, PyData.shown]
    exact ReprK.tuple h1 h2 h3 hna hk
  | _, _, _, .dict (a := a) (o := o) (es := es) (kvs := kvs) h1 h2 h3 h4 h5, hy, hs, hz => by
    have r : Reads h₀ (.ref a) (.dict kvs) _ := .dict h1 h2 h3 h4 h5
    unfold ShwX at hs
    subst hs
    obtain ⟨l⟩ := es
    cases l with
    | nil =>
      have hsys := hy a (List.mem_cons_self ..) o h1 h2
      refine ⟨[a], ReadAtMost.cons r (Nat.le_refl _) (fun _ h => nomatch h), ?_⟩
      simp only [PyData.depth, PyData.shown, PyData.shownKv_eq]
      exact ReprK.dict h1 h2 h3 hsys (fun h => nomatch h) (ReprEntriesK.of_two [] [] [] .nil .nil)
    | cons x l =>
      have h4' : ReadsAll h₀ (x.key :: l.map (·.key)) [] _ := h4
      cases h4'
theorem reprXAll_reads (nd : h₀.NoDigits) : ∀ {vs : List Value} {ds : List PyData} {as : List Addr}, ReadsAll h₀ vs ds as → Sy h₀ as → ShwXA ds → (∀ t ∈ PyData.shownAll ds, t.length ≤ sizeLine) →
    ∃ bs, ReadAtMost h₀ (PyData.depthAll ds) bs ∧ ReprAllK prog w bs h₀ (PyData.depthAll ds) vs (PyData.shownAll ds)
  | _, _, _, .nil, _, _, _ => ⟨[], (fun _ h => nomatch h), by simp only [PyData.shownAll]; exact .nil⟩
  | _, _, _, .cons (d := d) (ds := ds) r rs, hy, hs, hz => by
    have hs' : ShwX d ∧ ShwXA ds := by unfold ShwXA at hs; exact hs
    obtain ⟨b1, hb1, k1⟩ := reprX_reads nd r (fun b hb => hy b (List.mem_append_left _ hb)) hs'.1 (hz _ (by simp only [PyData.shownAll]; exact List.mem_cons_self ..))
    obtain ⟨b2, hb2, k2⟩ := reprXAll_reads nd rs (fun b hb => hy b (List.mem_append_right _ hb)) hs'.2 (fun t ht => hz t (by simp only [PyData.shownAll]; exact List.mem_cons_of_mem _ ht))
    refine ⟨b1 ++ b2, ?_, ?_⟩
    · intro b hm
      simp only [PyData.depthAll]
      rcases List.mem_append.mp hm with hm | hm
      · obtain ⟨d', as', r', hd'⟩ := hb1 b hm
        exact ⟨d', as', r', Nat.le_trans hd' (Nat.le_max_left _ _)⟩
      · obtain ⟨d', as', r', hd'⟩ := hb2 b hm
        exact ⟨d', as', r', Nat.le_trans hd' (Nat.le_max_right _ _)⟩
    · simp only [PyData.depthAll, PyData.shownAll]
      exact .cons ((k1.more fun b hb => List.mem_append_left _ hb).level_le (Nat.le_max_left _ _)) (k2.more_le (fun b hb => List.mem_append_right _ hb) (Nat.le_max_right _ _))
end
end
/-! ### the word -/
section
variable {K : PySem.W.Frag} {X : Cx} {m : Mp} {O : Op} {H : Hp} {σ : L2.St} {s : Shared} {pins : List (Addr × Obj)}
theorem sy_one {h : Heap} {a : Addr} {o : Obj} {as : List Addr} (h1 : h.get? a = some o) (h2 : o.cls = .type "list") (y : Sy h as) : Sy h (a :: as) := fun b hb u hu hc => by
  rcases List.mem_cons.mp hb with e | e
  · subst e
    rw [h1] at hu
    cases hu
    rw [h2] at hc
    exact absurd hc (by decide)
  · exact y b e u hu hc
theorem sy_append {h : Heap} {as bs : List Addr} (x : Sy h as) (y : Sy h bs) : Sy h (as ++ bs) := fun b hb => (List.mem_append.mp hb).elim (x b) (y b)
mutual
theorem den_reads (I : Inv X pins σ H s) : ∀ (w : W) (v : V) (u : Value), Den X.K m O H w v → RelV v u → isX w = true → ∃ as, Reads s.heap u w.toD as ∧ Sy s.heap as
  | .non, v, u, d, r, _ => by unfold Den at d; subst d; cases r; exact ⟨_, Reads.none, fun _ h => nomatch h⟩
  | .bl b, v, u, d, r, _ => by unfold Den at d; subst d; cases r; exact ⟨_, Reads.bool b, fun _ h => nomatch h⟩
  | .int i, v, u, d, r, _ => by unfold Den at d; subst d; obtain ⟨t, rfl⟩ := r; exact ⟨_, Reads.int i t, fun _ h => nomatch h⟩
  | .str x, v, u, d, r, _ => by unfold Den at d; subst d; obtain ⟨t, rfl⟩ := r; exact ⟨_, Reads.str x t, fun _ h => nomatch h⟩
  | .tup ws, v, u, d, r, e => by
    unfold Den at d
    obtain ⟨a, vs, rfl, q, d⟩ := d
    cases r
    obtain ⟨its, rv, ⟨o, ho, hc, n, hd⟩, _⟩ := I.tuple (SqT.of q)
    obtain ⟨as, hr, y⟩ := dens_reads I ws vs its d rv (by rw [isX] at e; exact e)
    rw [W.toD]
    exact ⟨_, Reads.tuple ho hc hd hr, y⟩
  | .lst ws, v, u, d, r, e => by
    unfold Den at d
    obtain ⟨a, vs, rfl, _, q, d⟩ := d
    cases r
    obtain ⟨its, rv, ⟨o, n, ho, hc, _, hd⟩, _⟩ := I.list (SqL.of q)
    obtain ⟨as, hr, y⟩ := dens_reads I ws vs its d rv (by rw [isX] at e; exact e)
    rw [W.toD]
    exact ⟨_, Reads.list ho hc hd hr, sy_one ho hc y⟩
  | .dct (.k []) [], v, u, d, r, _ => by
    unfold Den at d
    obtain ⟨a, vs, rfl, _, ⟨kvs, e1, _, hk⟩, _⟩ := d
    have e2 : kvs = [] := List.map_eq_nil_iff.mp e1.symm
    subst e2
    cases r
    obtain ⟨_, hs, vs, rel, o, es, n, ho, hx, hd, _, he, _⟩ := dk_rd I.hok hk
    have hv : vs = [] := by
      unfold KV at rel
      cases rel
      rfl
    subst hv
    have he2 : es = #[] := by
      have z : es.toList = [] := by
        cases hq : es.toList with
        | nil => rfl
        | cons x l => rw [hq] at he; cases he
      exact Array.toList_eq_nil_iff.mp z
    subst he2
    refine ⟨_, Reads.dict (kvs := []) ho hx.1 hd (by exact ReadsAll.nil) (by exact ReadsAll.nil), fun b hb u hu hc => ?_⟩
    have hb : b ∈ [a] := hb
    rw [List.mem_singleton.mp hb]
    exact hs
  | .dct (.k (_ :: _)) _, _, _, _, _, e => by simp [isX] at e
  | .dct (.k []) (_ :: _), _, _, _, _, e => by simp [isX] at e
  | .dct (.t _) _, _, _, _, _, e => by simp [isX] at e
  | .ref _, _, _, _, _, e => by simp [isX] at e
  | .scr _, _, _, _, _, e => by simp [isX] at e
theorem dens_reads (I : Inv X pins σ H s) : ∀ (ws : List W) (vs : List V) (us : List Value), Dens X.K m O H ws vs → Vals vs us → isXs ws = true → ∃ as, ReadsAll s.heap us (toDs ws) as ∧ Sy s.heap as
  | [], vs, us, d, r, _ => by unfold Dens at d; subst d; cases r; rw [toDs]; exact ⟨_, ReadsAll.nil, fun _ h => nomatch h⟩
  | w :: ws, vs, us, d, r, e => by
    unfold Dens at d
    obtain ⟨v, vr, rfl, d1, d2⟩ := d
    rw [isXs, Bool.and_eq_true] at e
    cases r with
    | cons r1 r2 =>
      obtain ⟨as, q1, y1⟩ := den_reads I w v _ d1 r1 e.1
      obtain ⟨bs, q2, y2⟩ := dens_reads I ws vr _ d2 r2 e.2
      rw [toDs]
      exact ⟨_, ReadsAll.cons q1 q2, sy_append y1 y2⟩
end
end
section
variable {X : Cx} {A : Around} {E : Value → Shared → Prop} {s : Shared} {prog : Program} {w : World}
theorem call_repr_x {v : Value} {d : PyData} {as : List Addr} {Q : Value → Shared → Prop} (nd : s.heap.NoDigits) (r : Reads s.heap v d as) (hy : Sy s.heap as) (hs : ShwX d) (hz : d.shown.length ≤ sizeLine) (hg : A.guards = some []) (hu : A.units + (d.depth + 1) < cLine)
    (hQ : ∀ h' u tk, (∀ b o, s.heap.get? b = some o → h'.get? b = some o) → Q (.str d.shown u) { s with heap := h', toks := tk }) : wpAny (model prog w) A (call (.builtin "repr") [v]) Q E s := by
  cases r with
  | none => exact call_repr_data nd .none trivial hz hg hu hQ
  | bool b => exact call_repr_data nd (.bool b) trivial hz hg hu hQ
  | str x t => exact call_repr_data nd (.str x t) trivial hz hg hu hQ
  | int i t => exact call_repr_data nd (.int i t) (by unfold ShwX at hs; unfold Shw; exact hs) hz hg hu hQ
  | @list a o vs n xs as h1 h2 h3 h4 =>
    have hz' : (listText (PyData.shownAll xs)).length ≤ sizeLine := by simpa only [PyData.shown] using hz
    obtain ⟨bs, hb, hk⟩ := reprXAll_reads (prog := prog) (w := w) nd h4 (fun b hb => hy b (List.mem_cons_of_mem _ hb)) (by unfold ShwX at hs; exact hs) (fun t ht => Nat.le_trans (listText_mem_le ht) hz')
    have hna : a ∉ bs := not_mem_of_deeper (.list h1 h2 h3 h4) (by simp only [PyData.depth]; omega) hb
    simp only [PyData.depth] at hu
    simp only [PyData.shown] at hQ
    refine call_repr_slot (by omega) ⟨o, h1, h2⟩ PySem.F.slot_list_repr.toG ?_
    obtain ⟨l⟩ := vs
    cases l with
    | nil =>
      have h4' : ReadsAll s.heap [] xs _ := h4
      cases h4'
      simp only [PyData.shownAll, listText_nil] at hQ
      exact call_list_repr_empty ⟨o, h1, h2⟩ h1 h3 ⟨_, _, rfl, hQ s.heap _ _ fun _ _ e => e⟩
    | cons x l =>
      exact call_list_reprK h1 h2 h3 hna (by simpa using hk.length_eq) (fun i y e => hk.item i y (by simpa using e)) hg (fun b _ => Clear.nil b) (by show A.units + 1 + _ < _; omega) (fun _ _ e => e) (fun h' u tk hk => ⟨_, _, rfl, hQ h' u tk hk⟩) hz'
  | @tuple a o vs n xs as h1 h2 h3 h4 =>
    have hz' : (tupleText (PyData.shownAll xs)).length ≤ sizeLine := by simpa only [PyData.shown] using hz
    obtain ⟨bs, hb, hk⟩ := reprXAll_reads (prog := prog) (w := w) nd h4 hy (by unfold ShwX at hs; exact hs) (fun t ht => Nat.le_trans (tupleText_mem_le ht) hz')
    have hna : a ∉ bs := not_mem_of_deeper (.tuple h1 h2 h3 h4) (by simp only [PyData.depth]; omega) hb
    simp only [PyData.depth] at hu
    simp only [PyData.shown] at hQ
    refine call_repr_slot (by omega) ⟨o, h1, h2⟩ PySem.F.slot_tuple_repr ?_
    exact call_tuple_reprK h1 h2 h3 hna hk hg (fun b _ => Clear.nil b) (by show A.units + 1 + _ < _; omega) (fun _ _ e => e) (fun h' u tk hk => ⟨_, _, rfl, hQ h' u tk hk⟩) hz'
  | @dict a o es n kvs as bs h1 h2 h3 h4 h5 =>
    unfold ShwX at hs
    subst hs
    obtain ⟨l⟩ := es
    cases l with
    | nil =>
      have hsys := hy a (List.mem_append_left _ (List.mem_cons_self ..)) o h1 h2
      simp only [PyData.depth, PyData.depthKv] at hu
      simp only [PyData.shown, PyData.shownKv] at hQ
      refine call_repr_slot (by omega) ⟨o, h1, h2⟩ PySem.F.slot_dict_repr ?_
      exact call_dict_reprK (as := []) (d := 0) (g := []) h1 h2 h3 hsys (fun h => nomatch h) (ReprEntriesK.of_two [] [] [] .nil .nil) hg (fun b _ => Clear.nil b) (by show A.units + 1 + _ < _; omega) (fun _ _ e => e) (fun h' u tk hk => ⟨_, _, rfl, hQ h' u tk hk⟩) (by decide)
    | cons x l =>
      have h4' : ReadsAll s.heap (x.key :: l.map (·.key)) [] _ := h4
      cases h4'
noncomputable instance shwXDec (d : PyData) : Decidable (ShwX d) := Classical.propDecidable _
/-- repr -/
noncomputable def fReprX (a : W) (st : Store) : Res (Kd × W) := if isX a = true ∧ ShwX a.toD ∧ a.toD.depth ≤ 50 ∧ a.toD.shown.length ≤ sizeLine then okS (.str a.toD.shown) st else .bad
/-- an own object looked at is plain too -/
theorem lden_reads {m : Mp} {O : Op} {H : Hp} {σ : L2.St} {pins : List (Addr × Obj)} (I : Inv X pins σ H s) {a : W} {x : V} {u : Value} (d : LDen X.K m O H a x) (r : RelV x u) (e : isX a = true) : ∃ as, Reads s.heap u a.toD as ∧ Sy s.heap as := by
  cases a with
  | lst ws =>
    obtain ⟨p, vs, rfl, _, q, d⟩ := lden_lst d
    cases r
    obtain ⟨its, rv, ⟨o, n, ho, hc, _, hd⟩, _⟩ := I.list (SqL.of q)
    obtain ⟨as, hr, y⟩ := dens_reads I ws vs its d rv (by rw [isX] at e; exact e)
    rw [W.toD]
    exact ⟨_, Reads.list ho hc hd hr, sy_one ho hc y⟩
  | dct ks ws =>
    obtain ⟨p, rfl, _, vs, h1, d1⟩ := d
    exact den_reads (m := m) (O := fun _ => False) I (.dct ks ws) (.ref p) u (by
      match ks, ws, e with
      | .k [], [], _ =>
        have d1 : Dens X.K m O H [] vs := d1
        have hv : vs = [] := dens_end d1
        subst hv
        unfold Den
        exact ⟨p, [], rfl, fun z => z, h1, by unfold Dens; rfl⟩) r e
  | _ => exact den_reads (m := m) (O := O) I _ x u d r e
theorem ci_reprX (hu : X.A.units + 64 < cLine) (hg : X.A.guards = some []) (nd : X.base.NoDigits) : CallI X (.builtin "repr") fReprX := fun pins s σ H xs us Q I r h => by
  obtain ⟨m, F, O, σ', fr, st, k, w, st', a, x, rfl, R, d, e, q⟩ := h
  unfold fReprX at e
  by_cases c : isX a = true ∧ ShwX a.toD ∧ a.toD.depth ≤ 50 ∧ a.toD.shown.length ≤ sizeLine
  · rw [if_pos c] at e
    cases e
    obtain ⟨c1, c2, c3, c4⟩ := c
    obtain ⟨u, rfl, ru⟩ := vals1 r
    obtain ⟨as, rd, hy⟩ := lden_reads I d ru c1
    exact call_repr_x (nd.keeps I.bk) rd hy c2 c4 hg (by omega) fun h' u tk hk => ⟨.str _, H, I.kept (t' := tk) hk, ⟨u, rfl⟩, q m O _ H Grow.refl R mk_str⟩
  · rw [if_neg c] at e; cases e
end
end Vy

set_option Elab.async false
set_option linter.all false
set_option maxRecDepth 100000
set_option maxHeartbeats 4000000
/-! More words: t[::-1] of tuples; names of built-ins. -/
namespace Vy
open PySem PySem.Spec PyProof.Rows L2 HT
section
variable {prog : Program} {w : World} {A : Around} {E : Value → Shared → Prop} {s : Shared}
theorem places_rev (n : Nat) : Builtin.Slice.slicePlaces ((n : Int) - 1) (-1) (-1) = n := by
  unfold Builtin.Slice.slicePlaces
  have h1 : ¬ ((-1 : Int) > 0) := by decide
  simp only [h1, if_false]
  by_cases h : (n : Int) - 1 > -1
  · rw [if_pos h, show (- -1 : Int) = 1 by decide, Int.ediv_one]; omega
  · rw [if_neg h]; omega
theorem applied_rev {sl : Addr} {vs : Value} {n : Nat} {Q : Int × Int × Nat → Shared → Prop} (hs : s.heap.IsSliceOf sl .none .none vs) (ps : IsPart vs (some (-1)))
    (h : Q ((n : Int) - 1, -1, n) s) : wpAny (model prog w) A (Builtin.Slice.sliceApplied (.ref sl) (pure (n : Int))) Q E s := by
  obtain ⟨os, hos, hcs, hds⟩ := id hs
  unfold Builtin.Slice.sliceApplied Builtin.Slice.sliceFields
  refine wpAny_bind (wpAny_bind (wpAny_field hos hds (x := .none) rfl (wpAny_bind (wpAny_field hos hds (x := .none) rfl (wpAny_bind (wpAny_field hos hds (x := vs) rfl (wpAny_pure ?_)))))))
  refine wpAny_bind (slicePart_ ps ?_)
  show wpAny _ _ (if ((-1 : Int) == 0) = true then _ else _) _ _ s
  rw [if_neg (by decide)]
  refine wpAny_bind (slicePart_none (wpAny_bind (slicePart_none (wpAny_bind (wpAny_pure ?_)))))
  show wpAny _ _ (pure ((n : Int) - 1, (-1 : Int), Builtin.Slice.slicePlaces ((n : Int) - 1) (-1) (-1))) _ _ s
  rw [places_rev]
  exact wpAny_pure h
theorem pick_rev (xs : Array Value) : ((List.range xs.size).filterMap fun (m : Nat) => xs[(((xs.size : Int) - 1) + (m : Int) * (-1)).toNat]?).toArray = xs.toList.reverse.toArray := by
  have e : (List.range xs.size).filterMap (fun (m : Nat) => xs[(((xs.size : Int) - 1) + (m : Int) * (-1)).toNat]?) = ((List.range xs.size).map fun k => xs.size - 1 - k).filterMap (xs[·]?) := by
    rw [List.filterMap_map]
    have key : ∀ l : List Nat, (∀ m ∈ l, m < xs.size) → l.filterMap (fun (m : Nat) => xs[(((xs.size : Int) - 1) + (m : Int) * (-1)).toNat]?) = l.filterMap ((fun x => xs[x]?) ∘ fun k => xs.size - 1 - k) := fun l => by
      induction l with
      | nil => intro _; rfl
      | cons m l ih =>
        intro h
        have hm := h m (List.mem_cons_self ..)
        have e : (((xs.size : Int) - 1) + (m : Int) * (-1)).toNat = xs.size - 1 - m := by omega
        rw [List.filterMap_cons, List.filterMap_cons, e, ih fun k hk => h k (List.mem_cons_of_mem _ hk)]
        rfl
    exact key _ fun m hm => List.mem_range.mp hm
  rw [e, PySem.W.krv_range, List.filterMap_reverse, PySem.W.krv_all]
theorem getItem_tuple_rev {t sl : Addr} {items : Array Value} {vs : Value} {Q : Value → Shared → Prop} (ht : IsTup s.heap t items) (hs : s.heap.IsSliceOf sl .none .none vs) (ps : IsPart vs (some (-1)))
    (h : Q (.ref s.heap.objs.size) { s with heap := s.heap.push { cls := .type "tuple", data := .seq items.toList.reverse.toArray } })
    (hsz : items.size ≤ sizeLine) : wpAny (model prog w) A (getItem (.ref t) (.ref sl)) Q E s := by
  have htake : sizeOk (.seq items.toList.reverse.toArray) := by
    show items.toList.reverse.toArray.size ≤ sizeLine
    rw [List.size_toArray, List.length_reverse, Array.length_toList]
    exact hsz
  obtain ⟨os, hos, hcs, hds⟩ := id hs
  have hTs : s.TypeIs (.ref sl) "slice" := ⟨os, hos, hcs⟩
  unfold getItem
  try with_reducible refine wpAny_holding ?_
  first | refine wpAny_bind (wpAny_pure ?_) | skip
  refine wpAny_bind (wpAny_sequenceKey ht.typeIs (by decide) ?_)
  refine wpAny_bind (wpAny_callSpecial?_slot (name := Str.ofString "__getitem__") ht.typeIs PyProof.Rows.slot_tuple_getitem
    (wpAny_call_entry PyProof.Rows.slot_tuple_getitem ht.typeIs entry_tuple_getitem ?_ (args_tuple_getitem _ _)))
  show wpAny _ _ (Builtin.Tuple.tupleItemsOf (.ref t) >>= _) _ _ s
  refine wpAny_bind (tupleItemsOf_ ht ?_)
  refine wpAny_bind (wpAny_typeOf hTs ?_)
  rw [if_pos (by decide)]
  refine wpAny_bind (applied_rev hs ps ?_)
  have hno : ¬ ((((items.size : Int) - 1) == 0 && (-1 : Int) == 1 && items.size == items.size) = true) := by
    rw [show ((-1 : Int) == 1) = false by decide, Bool.and_false, Bool.false_and]
    exact Bool.false_ne_true
  show wpAny _ _ (if (((items.size : Int) - 1) == 0 && (-1 : Int) == 1 && items.size == items.size) = true then _ else _) _ _ s
  rw [if_neg hno, pick_rev]
  first
    | exact wpAny_bind (m := Builtin.Tuple.tupleExact _) (wpAny_newObj_type (wpAny_pure ⟨_, rfl, wpAny_pure h⟩) htake)
    | exact wpAny_bind (m := Builtin.Tuple.tupleExact _) (wpAny_newObj_type (wpAny_bind (wpAny_pure (wpAny_pure ⟨_, rfl, wpAny_pure h⟩))) htake)
    | exact wpAny_bind (wpAny_bind (m := Builtin.Tuple.tupleExact _) (wpAny_newObj_type (wpAny_pure (wpAny_pure ⟨_, rfl, wpAny_pure h⟩)) htake))
    | exact wpAny_bind (wpAny_bind (m := Builtin.Tuple.tupleExact _) (wpAny_newObj_type (wpAny_pure ⟨_, rfl, wpAny_pure h⟩) htake))
end
section
variable {X : Cx}
def tRevT (K : PySem.W.Frag) (te : TE) : TE := fun σ H Q => te σ H fun x H1 => ∃ a xs, x = .ref a ∧ SqT K H1 a xs ∧ ∀ p, H1 p = none → Q (.ref p) (upd H1 p (.tup xs.reverse))
theorem pe_revT {e : Expr} {te : TE} {k : Nat} {p1 p2 p3 pos : Pos} (he : PE X e te) : PE X (.Subscript e (.Slice none none (some (.UnaryOp .USub (.Constant (.int 1) k p1) p2)) p3) pos) (tRevT X.K te) := by
  refine ⟨fun pins s σ H Q I h => ?_⟩
  refine Subscript_ (thn (he.run pins s σ H _ I h) fun v s1 ⟨x, H1, I1, r1, q1⟩ => ?_)
  obtain ⟨a, xs, ex, hx, q⟩ := q1
  subst ex
  cases r1
  have hst : PO X (some (.UnaryOp .USub (.Constant (.int 1) k p1) p2)) (tPart (tUn (rU fun i => .int (-i)) (tC (.int 1)))) := po_some (pe_un un_neg pe_int)
  refine wpAny_Slice (thn (po_none.run pins s1 σ H1 (fun o H2 => o = none ∧ H2 = H1) I1 ⟨rfl, rfl⟩) fun vl s2 ⟨l, H2, I2, pl, el, e2⟩ => ?_)
  subst el e2
  refine thn (po_none.run pins s2 σ H2 (fun o H3 => o = none ∧ H3 = H2) I2 ⟨rfl, rfl⟩) fun vu s3 ⟨u, H3, I3, pu, eu, e3⟩ => ?_
  subst eu e3
  refine thn (hst.run pins s3 σ H3 (fun o H4 => o = some (-1) ∧ H4 = H3) I3 ⟨1, rfl, -1, rfl, rfl, rfl⟩) fun vs s4 ⟨o, H4, I4, ps, eo, e4⟩ => ?_
  subst eo e4
  cases pl
  cases pu
  have I5 : Inv X pins σ H4 { s4 with heap := s4.heap.push { cls := .type "slice", data := .fields #[.none, .none, vs] } } := I4.kept (t' := s4.toks) fun b ob q => Heap.get?_push_of_some _ q
  obtain ⟨its, r, ht, hz⟩ := I5.tuple hx
  have hlen := r.length
  show wpAny (model X.prog X.w) X.A (subscriptTail e (.Slice none none (some (.UnaryOp .USub (.Constant (.int 1) k p1) p2)) p3) (.ref a) (.ref s4.heap.objs.size)) (EP X pins σ Q) X.xe { s4 with heap := s4.heap.push { cls := .type "slice", data := .fields #[.none, .none, vs] } }
  refine tail_any (ops := [.ref a, .ref s4.heap.objs.size]) ht.typeIs (PyProof.Rows.slot_tuple_getitem.lookup) ?_ (by with_unfolding_all rfl)
  refine getItem_tuple_rev ht (Heap.IsSliceOf.new _ .none .none vs) ps ?_ (by rw [List.size_toArray]; omega)
  refine ⟨.ref _, _, I5.laid (t' := s4.toks) (o := .tup xs.reverse) (fun b ob q => Heap.get?_push_of_some _ q) (Nat.le_refl _) ?_, rfl, q _ (I5.hok.fresh (Nat.le_refl _))⟩
  exact ⟨by rw [List.length_reverse]; exact hz, _, r.reverse, IsTup.new _ _⟩
def eRevT (p : PX) : PX := fun fr st => (p fr st).bind fun x s1 => match x.2 with
  | .tup ws => .ok (.st, .tup ws.reverse) s1
  | _ => .bad
theorem re_revT {e : Expr} {p : PX} {k : Nat} {p1 p2 p3 pos : Pos} (he : RE X e p) : RE X (.Subscript e (.Slice none none (some (.UnaryOp .USub (.Constant (.int 1) k p1) p2)) p3) pos) (eRevT p) := (pe_revT he.look).imp fun σ H Q q => by
  obtain ⟨m, F, O, fr, st, k, w, st', R, e, q⟩ := q
  obtain ⟨⟨k1, x⟩, s1, e1, e⟩ := Res.bind_eq e
  cases x with
  | tup ws =>
    cases e
    refine ⟨m, F, O, fr, st, k1, _, st', R, e1, fun m1 O1 v1 H1 g1 R1 d1 => ?_⟩
    obtain ⟨a, vs, ex, h1, d1⟩ := lden_tup d1
    refine ⟨a, vs, ex, SqT.of h1, fun p hp => ?_⟩
    obtain ⟨g2, R2, d3⟩ := new_tup R1 (dens_rev d1) hp
    exact q m1 _ _ _ (g1.trans g2) R2 d3
  | _ => cases e
theorem bt_all : bootBuiltins "all" = some (.builtin "all") := by decide +kernel
theorem bt_any : bootBuiltins "any" = some (.builtin "any") := by decide +kernel
theorem bt_dict : bootBuiltins "dict" = some (.type "dict") := by decide +kernel
theorem bt_bool : bootBuiltins "bool" = some (.type "bool") := by decide +kernel
theorem bt_str : bootBuiltins "str" = some (.type "str") := by decide +kernel
theorem bt_sum : bootBuiltins "sum" = some (.builtin "sum") := by decide +kernel
theorem bt_min : bootBuiltins "min" = some (.builtin "min") := by decide +kernel
end
/-- no depth left -/
def pNo : PFn := fun _ _ => .bad
theorem fng_no {P : Program} {w : World} {K : PySem.W.Frag} {mg : Str → Option Value} {base : Heap} {k n : Nat} {f : Addr} {fd : FuncData} {ps : List Str} : FnG P w K mg base k f fd ps (spI K n pNo) :=
  ⟨fun vs H Q E h => (by obtain ⟨_, _, _, _, _, _, _, _, _, _, e, _⟩ := h; cases e), fun A outer s H args us vs Q _ _ _ _ _ h => (by obtain ⟨_, _, _, _, _, _, _, _, _, _, e, _⟩ := h; cases e)⟩
end Vy

set_option Elab.async false
set_option linter.all false
set_option maxRecDepth 100000
set_option maxHeartbeats 4000000
/-! More words: lists of other lengths compared. -/
namespace Vy
open PySem PySem.Spec PyProof.Rows L2
section
variable {X : Cx}
def fEqE (a b : W) (st : Store) : Res (Kd × W) := match a, b with
  | .lst ws, .lst us => if ws.length ≠ us.length then okS (.bl false) st else fEq (.lst ws) (.lst us) st
  | a, b => fEq a b st
def fNeE (a b : W) (st : Store) : Res (Kd × W) := match a, b with
  | .lst ws, .lst us => if ws.length ≠ us.length then okS (.bl true) st else fNe (.lst ws) (.lst us) st
  | a, b => fNe a b st
theorem oi_eqE (hu : X.A.units + 64 < cLine) : OpI X (compareOp .Eq) fEqE := by
  intro pins s σ H x y v u Q I rx ry h
  obtain ⟨m, F, O, σ', fr, st, k, w, st', a, b, R, da, db, e, q⟩ := h
  have old : fEq a b st = .ok (k, w) st' → wpAny (model X.prog X.w) X.A (compareOp .Eq v u) (EP X pins σ Q) X.xe s := fun e => oi_eq hu pins s σ H x y v u Q I rx ry ⟨m, F, O, σ', fr, st, k, w, st', a, b, R, da, db, e, q⟩
  cases a with
  | lst ws =>
    cases b with
    | lst us =>
      have e : (if ws.length ≠ us.length then okS (.bl false) st else fEq (.lst ws) (.lst us) st) = Res.ok (k, w) st' := e
      by_cases hz : ws.length ≠ us.length
      · rw [if_pos hz] at e
        cases e
        obtain ⟨a1, vs, rfl, _, h1, d1⟩ := lden_lst da
        obtain ⟨b1, vs2, rfl, _, h2, d2⟩ := lden_lst db
        cases rx
        cases ry
        obtain ⟨its, r1, p1, _⟩ := I.list (SqL.of h1)
        obtain ⟨its2, r2, p2, _⟩ := I.list (SqL.of h2)
        have l1 := r1.length
        have l2 := r2.length
        rw [dens_length d1] at l1
        rw [dens_length d2] at l2
        exact SeqAt.eq_list_lengthsAt p1.isList p2.isList (by rw [List.size_toArray, List.size_toArray, ← l1, ← l2]; exact bne_iff_ne.mpr hz) (by omega) ⟨.bl false, H, I, rfl, q m O _ H Grow.refl R mk_bl⟩
      · rw [if_neg hz] at e
        exact old e
    | _ => exact old e
  | _ => exact old e
theorem oi_neE (hu : X.A.units + 64 < cLine) : OpI X (compareOp .NotEq) fNeE := by
  intro pins s σ H x y v u Q I rx ry h
  obtain ⟨m, F, O, σ', fr, st, k, w, st', a, b, R, da, db, e, q⟩ := h
  have old : fNe a b st = .ok (k, w) st' → wpAny (model X.prog X.w) X.A (compareOp .NotEq v u) (EP X pins σ Q) X.xe s := fun e => oi_ne hu pins s σ H x y v u Q I rx ry ⟨m, F, O, σ', fr, st, k, w, st', a, b, R, da, db, e, q⟩
  cases a with
  | lst ws =>
    cases b with
    | lst us =>
      have e : (if ws.length ≠ us.length then okS (.bl true) st else fNe (.lst ws) (.lst us) st) = Res.ok (k, w) st' := e
      by_cases hz : ws.length ≠ us.length
      · rw [if_pos hz] at e
        cases e
        obtain ⟨a1, vs, rfl, _, h1, d1⟩ := lden_lst da
        obtain ⟨b1, vs2, rfl, _, h2, d2⟩ := lden_lst db
        cases rx
        cases ry
        obtain ⟨its, r1, p1, _⟩ := I.list (SqL.of h1)
        obtain ⟨its2, r2, p2, _⟩ := I.list (SqL.of h2)
        have l1 := r1.length
        have l2 := r2.length
        rw [dens_length d1] at l1
        rw [dens_length d2] at l2
        exact SeqAt.RcNeAt.lists_lengths p1.isList p2.isList (by rw [List.size_toArray, List.size_toArray, ← l1, ← l2]; exact bne_iff_ne.mpr hz) (by omega) X.prog X.w X.xe _ ⟨.bl true, H, I, rfl, q m O _ H Grow.refl R mk_bl⟩
      · rw [if_neg hz] at e
        exact old e
    | _ => exact old e
  | _ => exact old e
/-- .. with () -/
def fEqZ (a b : W) (st : Store) : Res (Kd × W) := match a, b with
  | .tup ws, .tup [] => okS (.bl ws.isEmpty) st
  | a, b => fEq a b st
def fNeZ (a b : W) (st : Store) : Res (Kd × W) := match a, b with
  | .tup ws, .tup [] => okS (.bl (!ws.isEmpty)) st
  | a, b => fNe a b st
theorem oi_eqZ (hu : X.A.units + 64 < cLine) : OpI X (compareOp .Eq) fEqZ := by
  intro pins s σ H x y v u Q I rx ry h
  obtain ⟨m, F, O, σ', fr, st, k, w, st', a, b, R, da, db, e, q⟩ := h
  have old : fEq a b st = .ok (k, w) st' → wpAny (model X.prog X.w) X.A (compareOp .Eq v u) (EP X pins σ Q) X.xe s := fun e => oi_eq hu pins s σ H x y v u Q I rx ry ⟨m, F, O, σ', fr, st, k, w, st', a, b, R, da, db, e, q⟩
  cases a with
  | tup ws =>
    cases b with
    | tup us =>
      cases us with
      | nil =>
        have e : okS (.bl ws.isEmpty) st = Res.ok (k, w) st' := e
        cases e
        obtain ⟨a1, vs, rfl, h1, d1⟩ := lden_tup da
        obtain ⟨b1, vs2, rfl, h2, d2⟩ := lden_tup db
        cases rx
        cases ry
        obtain ⟨its, r1, p1, _⟩ := I.tuple (SqT.of h1)
        obtain ⟨its2, r2, p2, _⟩ := I.tuple (SqT.of h2)
        have l1 := r1.length
        have l2 := r2.length
        rw [dens_length d1] at l1
        rw [dens_length d2] at l2
        have l2 : its2.length = 0 := l2.symm
        have z : (SeqAt.RcAt X.A s (.ref a1) (.ref b1) ((List.range (min its.toArray.size its2.toArray.size)).all (fun _ => true) && its.toArray.size == its2.toArray.size)) := SeqAt.RcAt.tuples p1 p2 (by omega) fun j _ h2 => absurd h2 (by rw [List.size_toArray]; omega)
        have ez : ((List.range (min its.toArray.size its2.toArray.size)).all (fun _ => true) && its.toArray.size == its2.toArray.size) = ws.isEmpty := by
          rw [List.size_toArray, List.size_toArray, l2, Nat.min_zero]
          cases ws with
          | nil => rw [← l1]; rfl
          | cons w ws => rw [← l1]; rfl
        rw [ez] at z
        exact z X.prog X.w X.xe _ ⟨.bl _, H, I, rfl, q m O _ H Grow.refl R mk_bl⟩
      | cons => exact old e
    | _ => exact old e
  | _ => exact old e
theorem oi_neZ (hu : X.A.units + 64 < cLine) : OpI X (compareOp .NotEq) fNeZ := by
  intro pins s σ H x y v u Q I rx ry h
  obtain ⟨m, F, O, σ', fr, st, k, w, st', a, b, R, da, db, e, q⟩ := h
  have old : fNe a b st = .ok (k, w) st' → wpAny (model X.prog X.w) X.A (compareOp .NotEq v u) (EP X pins σ Q) X.xe s := fun e => oi_ne hu pins s σ H x y v u Q I rx ry ⟨m, F, O, σ', fr, st, k, w, st', a, b, R, da, db, e, q⟩
  cases a with
  | tup ws =>
    cases b with
    | tup us =>
      cases us with
      | nil =>
        have e : okS (.bl (!ws.isEmpty)) st = Res.ok (k, w) st' := e
        cases e
        obtain ⟨a1, vs, rfl, h1, d1⟩ := lden_tup da
        obtain ⟨b1, vs2, rfl, h2, d2⟩ := lden_tup db
        cases rx
        cases ry
        obtain ⟨its, r1, p1, _⟩ := I.tuple (SqT.of h1)
        obtain ⟨its2, r2, p2, _⟩ := I.tuple (SqT.of h2)
        have l1 := r1.length
        have l2 := r2.length
        rw [dens_length d1] at l1
        rw [dens_length d2] at l2
        have l2 : its2.length = 0 := l2.symm
        have z := SeqAt.RcNeAt.tuples (e := fun _ => true) p1 p2 (show X.A.units < cLine by omega) fun j _ h2 => absurd h2 (by rw [List.size_toArray]; omega)
        have ez : (!((List.range (min its.toArray.size its2.toArray.size)).all (fun _ => true) && its.toArray.size == its2.toArray.size)) = !ws.isEmpty := by
          rw [List.size_toArray, List.size_toArray, l2, Nat.min_zero]
          cases ws with
          | nil => rw [← l1]; rfl
          | cons w ws => rw [← l1]; rfl
        rw [ez] at z
        exact z X.prog X.w X.xe _ ⟨.bl _, H, I, rfl, q m O _ H Grow.refl R mk_bl⟩
      | cons => exact old e
    | _ => exact old e
  | _ => exact old e
end
end Vy

set_option Elab.async false
set_option linter.all false
set_option maxRecDepth 100000
set_option maxHeartbeats 4000000
/-! What the defs do. Printed by gen.py. -/
namespace Vy.K49
open PySem PySem.Spec PyProof.Rows L2
/-- number_power: 0 a, 1 k, 2 found, 3 turn -/
noncomputable def b_number_power : PM := (sSeq (sSet 2 (eC (.int 1)))
    (sSeq (sFor (iRng1 (aCons (eVar 1) aNil)) (gN 3) (sSet 2 (eBin fMul (eVar 2) (eVar 0))))
    (sRet (eVar 2))))
noncomputable def p_number_power : PFn := pBody 4 b_number_power
/-- fraction_of: 0 p, 1 q, 2 by -/
noncomputable def b_fraction_of : PM := (sSeq (sSet 2 (eIf (bOf (eBin fGt (eVar 1) (eC (.int 0)))) (eCA fGcd (aCons (eVar 0) (aCons (eVar 1) aNil))) (eNeg (eCA fGcd (aCons (eVar 0) (aCons (eVar 1) aNil))))))
    (sRet (eTup (aCons (eBin fDiv (eVar 0) (eVar 2)) (aCons (eBin fDiv (eVar 1) (eVar 2)) aNil)))))
noncomputable def p_fraction_of : PFn := pBody 3 b_fraction_of
/-- fraction_sum: 0 one, 1 other -/
noncomputable def b_fraction_sum : PM := (sRet (eCall p_fraction_of (aCons (eBin fAdd (eBin fMul (eBin fIdx (eVar 0) (eC (.int 0))) (eBin fIdx (eVar 1) (eC (.int 1)))) (eBin fMul (eBin fIdx (eVar 1) (eC (.int 0))) (eBin fIdx (eVar 0) (eC (.int 1))))) (aCons (eBin fMul (eBin fIdx (eVar 0) (eC (.int 1))) (eBin fIdx (eVar 1) (eC (.int 1)))) aNil))))
noncomputable def p_fraction_sum : PFn := pBody 2 b_fraction_sum
/-- fraction_less: 0 one, 1 other -/
noncomputable def b_fraction_less : PM := (sRet (eCall p_fraction_of (aCons (eBin fSub (eBin fMul (eBin fIdx (eVar 0) (eC (.int 0))) (eBin fIdx (eVar 1) (eC (.int 1)))) (eBin fMul (eBin fIdx (eVar 1) (eC (.int 0))) (eBin fIdx (eVar 0) (eC (.int 1))))) (aCons (eBin fMul (eBin fIdx (eVar 0) (eC (.int 1))) (eBin fIdx (eVar 1) (eC (.int 1)))) aNil))))
noncomputable def p_fraction_less : PFn := pBody 2 b_fraction_less
/-- fraction_times: 0 one, 1 other -/
noncomputable def b_fraction_times : PM := (sRet (eCall p_fraction_of (aCons (eBin fMul (eBin fIdx (eVar 0) (eC (.int 0))) (eBin fIdx (eVar 1) (eC (.int 0)))) (aCons (eBin fMul (eBin fIdx (eVar 0) (eC (.int 1))) (eBin fIdx (eVar 1) (eC (.int 1)))) aNil))))
noncomputable def p_fraction_times : PFn := pBody 2 b_fraction_times
/-- fraction_by: 0 one, 1 other -/
noncomputable def b_fraction_by : PM := (sRet (eCall p_fraction_of (aCons (eBin fMul (eBin fIdx (eVar 0) (eC (.int 0))) (eBin fIdx (eVar 1) (eC (.int 1)))) (aCons (eBin fMul (eBin fIdx (eVar 0) (eC (.int 1))) (eBin fIdx (eVar 1) (eC (.int 0)))) aNil))))
noncomputable def p_fraction_by : PFn := pBody 2 b_fraction_by
/-- is_below: 0 one, 1 other -/
noncomputable def b_is_below : PM := (sRet (eBin fLt (eBin fMul (eBin fIdx (eVar 0) (eC (.int 0))) (eBin fIdx (eVar 1) (eC (.int 1)))) (eBin fMul (eBin fIdx (eVar 1) (eC (.int 0))) (eBin fIdx (eVar 0) (eC (.int 1))))))
noncomputable def p_is_below : PFn := pBody 2 b_is_below
/-- mean_of_rows: 0 rows, 1 found, 2 powers, 3 number -/
noncomputable def b_mean_of_rows : PM := (sSeq (sSet 1 eDNewT)
    (sSeq (sFor (iSeq (eVar 0)) (gTp 2 (gsCons (gN 2) (gsCons (gN 3) gsNil))) (sDPut 1 (eVar 2) (eBin fAdd (eGet2 (eVar 1) (eVar 2) (eC (.int 0))) (eVar 3))))
    (sRet (eC1 fTuple (eC1 fSorted (eCompI 1 (gTp 2 (gsCons (gN 2) (gsCons (gN 3) gsNil))) (bOf (eBin fNe (eVar 3) (eC (.int 0)))) (eTup (aCons (eVar 2) (aCons (eVar 3) aNil))) [2, 3]))))))
noncomputable def p_mean_of_rows : PFn := pBody 4 b_mean_of_rows
/-- mean_sum: 0 one, 1 other -/
noncomputable def b_mean_sum : PM := (sRet (eCall p_mean_of_rows (aCons (eLst (aStar (eVar 0) (aStar (eVar 1) aNil))) aNil)))
noncomputable def p_mean_sum : PFn := pBody 2 b_mean_sum
/-- mean_scaled: 0 c, 1 mean, 2 powers, 3 number -/
noncomputable def b_mean_scaled : PM := (sRet (eCall p_mean_of_rows (aCons (eComp (iSeqL (eVar 1)) (gTp 2 (gsCons (gN 2) (gsCons (gN 3) gsNil))) bYes (eTup (aCons (eVar 2) (aCons (eBin fMul (eVar 0) (eVar 3)) aNil))) [2, 3]) aNil)))
noncomputable def p_mean_scaled : PFn := pBody 4 b_mean_scaled
/-- mean_less: 0 one, 1 other -/
noncomputable def b_mean_less : PM := (sRet (eCall p_mean_sum (aCons (eVar 0) (aCons (eCall p_mean_scaled (aCons (eNeg (eC (.int 1))) (aCons (eVar 1) aNil))) aNil))))
noncomputable def p_mean_less : PFn := pBody 2 b_mean_less
/-- powers_sum: 0 one, 1 other, 2 p, 3 q -/
noncomputable def b_powers_sum : PM := (sRet (eC1 fTuple (eComp (iZip2 (aCons (eVar 0) (aCons (eVar 1) aNil))) (gTp 2 (gsCons (gN 2) (gsCons (gN 3) gsNil))) bYes (eBin fAdd (eVar 2) (eVar 3)) [2, 3])))
noncomputable def p_powers_sum : PFn := pBody 4 b_powers_sum
/-- mean_times: 0 one, 1 other, 2 rows, 3 early, 4 number, 5 late, 6 many -/
noncomputable def b_mean_times : PM := (sSeq (sSet 2 (eLst aNil))
    (sSeq (sFor (iSeq (eVar 0)) (gTp 2 (gsCons (gN 3) (gsCons (gN 4) gsNil))) (sExt 2 (eComp (iSeqL (eVar 1)) (gTp 2 (gsCons (gN 5) (gsCons (gN 6) gsNil))) bYes (eTup (aCons (eCall p_powers_sum (aCons (eVar 3) (aCons (eVar 5) aNil))) (aCons (eBin fMul (eVar 4) (eVar 6)) aNil))) [5, 6])))
    (sFrz [2] (sRet (eCall p_mean_of_rows (aCons (eVar 2) aNil))))))
noncomputable def p_mean_times : PFn := pBody 7 b_mean_times
/-- by_powers: 0 powers -/
noncomputable def b_by_powers : PM := (sRet (eTup (aCons (eTup (aCons (eVar 0) (aCons (eC (.int 1)) aNil))) aNil)))
noncomputable def p_by_powers : PFn := pBody 1 b_by_powers
/-- mean_number: 0 kinds, 1 c -/
noncomputable def b_mean_number : PM := (sRet (eCall p_mean_of_rows (aCons (eLst (aCons (eTup (aCons (eBin fMul (eTup (aCons (eC (.int 0)) aNil)) (eVar 0)) (aCons (eVar 1) aNil))) aNil)) aNil)))
noncomputable def p_mean_number : PFn := pBody 2 b_mean_number
/-- greatest_powers: 0 kinds, 1 mean, 2 k, 3 powers, 4 number -/
noncomputable def b_greatest_powers : PM := (sRet (eC1 fTuple (eComp (iRng1 (aCons (eVar 0) aNil)) (gN 2) bYes (eMaxD (eComp (iSeqL (eVar 1)) (gTp 2 (gsCons (gN 3) (gsCons (gN 4) gsNil))) bYes (eBin fIdx (eVar 3) (eVar 2)) [3, 4]) (eC (.int 0))) [2])))
noncomputable def p_greatest_powers : PFn := pBody 5 b_greatest_powers
/-- size_product: 0 sizes, 1 powers, 2 found, 3 n, 4 p -/
noncomputable def b_size_product : PM := (sSeq (sSet 2 (eC (.int 1)))
    (sSeq (sFor (iZip2 (aCons (eVar 0) (aCons (eVar 1) aNil))) (gTp 2 (gsCons (gN 3) (gsCons (gN 4) gsNil))) (sSet 2 (eBin fMul (eVar 2) (eCall p_number_power (aCons (eVar 3) (aCons (eVar 4) aNil))))))
    (sRet (eVar 2))))
noncomputable def p_size_product : PFn := pBody 5 b_size_product
/-- mean_at: 0 mean, 1 sizes, 2 greatest, 3 total, 4 powers, 5 number, 6 most, 7 p -/
noncomputable def b_mean_at : PM := (sSeq (sPar [2, 3] (pCons (eCall p_greatest_powers (aCons (eC1 fLen (eVar 1)) (aCons (eVar 0) aNil))) (pCons (eC (.int 0)) pNil)))
    (sSeq (sFor (iSeq (eVar 0)) (gTp 2 (gsCons (gN 4) (gsCons (gN 5) gsNil))) (sSet 3 (eBin fAdd (eVar 3) (eBin fMul (eVar 5) (eCall p_size_product (aCons (eVar 1) (aCons (eComp (iZip2 (aCons (eVar 2) (aCons (eVar 4) aNil))) (gTp 2 (gsCons (gN 6) (gsCons (gN 7) gsNil))) bYes (eBin fSub (eVar 6) (eVar 7)) [6, 7]) aNil)))))))
    (sRet (eCall p_fraction_of (aCons (eVar 3) (aCons (eCall p_size_product (aCons (eVar 1) (aCons (eVar 2) aNil))) aNil))))))
noncomputable def p_mean_at : PFn := pBody 8 b_mean_at
/-- law_open_cells: 0 script, 1 stirred, 2 cell, 3 cells -/
noncomputable def b_law_open_cells : PM := (sSeq (sSet 1 (eC (.int 11)))
    (sSeq (sFor (iScr (eVar 0)) (gN 2) (sSet 1 (eBin fMod (eC1 fInt (eBin fAdd (eBin fAdd (eBin fMul (eVar 1) (eC (.int 69069))) (eBin fMul (eVar 2) (eC (.int 31)))) (eC (.int 5)))) (eC (.int 2147483629)))))
    (sSeq (sSet 3 (eComp (iScr (eVar 0)) (gN 2) bYes (eC1 fAbs (eVar 2)) [2]))
    (sRet (eDispP [(.inr "cells", (eRevP (eVar 3))), (.inr "left", (eC (.int 1))), (.inr "mixed", (eVar 1)), (.inr "turn", (eC (.int 0)))])))))
noncomputable def p_law_open_cells : PFn := pBody 4 b_law_open_cells
/-- law_pick: 0 source, 1 most, 2 cells, 3 others, 4 lap, 5 stirred -/
noncomputable def b_law_pick : PM := (sSeq (sIf (bOf (eBin fLt (eVar 1) (eC (.int 2)))) (sRet (eC (.int 0))) sSkip)
    (sSeq (sSet 2 (eDGet (eVar 0) (eC (.str "cells"))))
    (sSeq (sWhile (bAnd (bOf (eBin fLt (eDGet (eVar 0) (eC (.str "left"))) (eC (.int 2)))) (bOf (eBin fGt (eC1 fLen (eVar 2)) (eC (.int 0))))) (sDPut 0 (eC (.str "left")) (ePopSh (eVar 2))))
    (sSeq (sSet 3 (eDGet (eVar 0) (eC (.str "left"))))
    (sSeq (sIf (bOf (eBin fGt (eVar 3) (eC (.int 1)))) (sSeq (sDPut 0 (eC (.str "left")) (eBin fDiv (eVar 3) (eVar 1)))
    (sRet (eBin fMod (eC1 fInt (eVar 3)) (eVar 1)))) sSkip)
    (sSeq (sDPut 0 (eC (.str "turn")) (eBin fAdd (eDGet (eVar 0) (eC (.str "turn"))) (eC (.int 1))))
    (sSeq (sSet 4 (eDGet (eVar 0) (eC (.str "turn"))))
    (sSeq (sSet 5 (eBin fMod (eC1 fInt (eBin fAdd (eDGet (eVar 0) (eC (.str "mixed"))) (eBin fMul (eVar 4) (eC (.int 104729))))) (eC (.int 998244353))))
    (sSeq (sSet 5 (eBin fMod (eC1 fInt (eBin fAdd (eBin fMul (eVar 5) (eVar 5)) (eBin fMul (eVar 4) (eC (.int 17))))) (eC (.int 2147483647))))
    (sRet (eBin fMod (eC1 fInt (eBin fDiv (eVar 5) (eC (.int 16)))) (eVar 1))))))))))))
noncomputable def p_law_pick : PFn := pBody 6 b_law_pick
/-- law_of: 0 source, 1 some -/
noncomputable def b_law_of : PM := (sRet (eBin fIdx (eVar 1) (eCall p_law_pick (aCons (eVar 0) (aCons (eC1 fLen (eVar 1)) aNil)))))
noncomputable def p_law_of : PFn := pBody 2 b_law_of
/-- law_mixed: 0 source, 1 things, 2 rest, 3 lap -/
noncomputable def b_law_mixed : PM := (sSeq (sSet 2 (eC1 fListP (eVar 1)))
    (sRet (eComp (iRng1 (aCons (eC1 fLen (eVar 2)) aNil)) (gN 3) bYes (ePopAtSh (eVar 2) (eCall p_law_pick (aCons (eVar 0) (aCons (eC1 fLen (eVar 2)) aNil)))) [3])))
noncomputable def p_law_mixed : PFn := pBody 4 b_law_mixed
/-- law_fraction: 0 p, 1 q, 2 a, 3 b -/
noncomputable def b_law_fraction : PM := (sSeq (sPar [2, 3] (pCons (eC1 fAbs (eVar 0)) (pCons (eC1 fAbs (eVar 1)) pNil)))
    (sSeq (sWhile (bOf (eBin fGt (eVar 3) (eC (.int 0)))) (sPar [2, 3] (pCons (eVar 3) (pCons (eBin fMod (eC1 fInt (eVar 2)) (eVar 3)) pNil))))
    (sSeq (sFrz [2] (sSet 2 (eIf (bOf (eBin fGt (eVar 1) (eC (.int 0)))) (eVar 2) (eBin fSub (eC (.int 0)) (eVar 2)))))
    (sRet (eTup (aCons (eBin fDiv (eVar 0) (eVar 2)) (aCons (eBin fDiv (eVar 1) (eVar 2)) aNil)))))))
noncomputable def p_law_fraction : PFn := pBody 4 b_law_fraction
/-- law_plus: 0 x, 1 y -/
noncomputable def b_law_plus : PM := (sRet (eCall p_law_fraction (aCons (eBin fAdd (eBin fMul (eBin fIdx (eVar 0) (eC (.int 0))) (eBin fIdx (eVar 1) (eC (.int 1)))) (eBin fMul (eBin fIdx (eVar 1) (eC (.int 0))) (eBin fIdx (eVar 0) (eC (.int 1))))) (aCons (eBin fMul (eBin fIdx (eVar 0) (eC (.int 1))) (eBin fIdx (eVar 1) (eC (.int 1)))) aNil))))
noncomputable def p_law_plus : PFn := pBody 2 b_law_plus
/-- law_by: 0 x, 1 y -/
noncomputable def b_law_by : PM := (sRet (eCall p_law_fraction (aCons (eBin fMul (eBin fIdx (eVar 0) (eC (.int 0))) (eBin fIdx (eVar 1) (eC (.int 0)))) (aCons (eBin fMul (eBin fIdx (eVar 0) (eC (.int 1))) (eBin fIdx (eVar 1) (eC (.int 1)))) aNil))))
noncomputable def p_law_by : PFn := pBody 2 b_law_by
/-- law_drawn_mean: 0 source, 1 kinds, 2 most, 3 many, 4 found, 5 turn, 6 powers, 7 kind -/
noncomputable def b_law_drawn_mean : PM := (sSeq (sSet 4 eDNewT)
    (sSeq (sFor (iRng1 (aCons (eCall p_law_pick (aCons (eVar 0) (aCons (eBin fAdd (eVar 3) (eC (.int 1))) aNil))) aNil)) (gN 5) (sSeq (sSet 6 (eC1 fTuple (eComp (iRng1 (aCons (eVar 1) aNil)) (gN 7) bYes (eCall p_law_pick (aCons (eVar 0) (aCons (eBin fAdd (eVar 2) (eC (.int 1))) aNil))) [7])))
    (sDPut 4 (eVar 6) (eCall p_law_of (aCons (eVar 0) (aCons (eLst (aCons (eC (.int 1)) (aCons (eNeg (eC (.int 1))) (aCons (eC (.int 2)) (aCons (eNeg (eC (.int 3))) (aCons (eC (.int 7)) (aCons (eBin fAdd (eC (.int 1)) (eCall p_law_pick (aCons (eVar 0) (aCons (eBin fPow (eC (.int 10)) (eC (.int 6))) aNil)))) aNil))))))) aNil))))))
    (sRet (eC1 fTuple (eSortI 4)))))
noncomputable def p_law_drawn_mean : PFn := pBody 8 b_law_drawn_mean
/-- law_put: 0 rows, 1 found, 2 powers, 3 number -/
noncomputable def b_law_put : PM := (sSeq (sSet 1 eDNewT)
    (sSeq (sFor (iSeq (eVar 0)) (gTp 2 (gsCons (gN 2) (gsCons (gN 3) gsNil))) (sDPut 1 (eVar 2) (eBin fAdd (eGet2 (eVar 1) (eVar 2) (eC (.int 0))) (eVar 3))))
    (sRet (eC1 fTuple (eComp (iSeqL (eC1 fSorted (eVar 1))) (gN 2) (bOf (eBin fNe (eDGet (eVar 1) (eVar 2)) (eC (.int 0)))) (eTup (aCons (eVar 2) (aCons (eDGet (eVar 1) (eVar 2)) aNil))) [2])))))
noncomputable def p_law_put : PFn := pBody 4 b_law_put
/-- law_power: 0 n, 1 p, 2 found, 3 turn -/
noncomputable def b_law_power : PM := (sSeq (sSet 2 (eC (.int 1)))
    (sSeq (sFor (iRng1 (aCons (eVar 1) aNil)) (gN 3) (sSet 2 (eBin fMul (eVar 2) (eVar 0))))
    (sRet (eVar 2))))
noncomputable def p_law_power : PFn := pBody 4 b_law_power
/-- law_mean_at: 0 mean, 1 sizes, 2 top, 3 bottom, 4 greatest, 5 kind, 6 n, 7 powers, 8 number, 9 most, 10 p -/
noncomputable def b_law_mean_at : PM := (sSeq (sPar [2, 3, 4] (pCons (eC (.int 0)) (pCons (eC (.int 1)) (pCons (eLst aNil) pNil))))
    (sSeq (sFor (iEnum (aCons (eVar 1) aNil)) (gTp 2 (gsCons (gN 5) (gsCons (gN 6) gsNil))) (sSeq (sApp 4 (eC1 fMax (eBin fAdd (eComp (iSeqL (eVar 0)) (gTp 2 (gsCons (gN 7) (gsCons (gN 8) gsNil))) bYes (eBin fIdx (eVar 7) (eVar 5)) [7, 8]) (eLst (aCons (eC (.int 0)) aNil)))))
    (sSet 3 (eBin fMul (eVar 3) (eCall p_law_power (aCons (eVar 6) (aCons (eBin fIdx (eVar 4) (eVar 5)) aNil)))))))
    (sSeq (sFor (iSeq (eVar 0)) (gTp 2 (gsCons (gN 7) (gsCons (gN 8) gsNil))) (sSeq (sFrz [4] (sFor (iZip3 (aCons (eVar 1) (aCons (eVar 4) (aCons (eVar 7) aNil)))) (gTp 3 (gsCons (gN 6) (gsCons (gN 9) (gsCons (gN 10) gsNil)))) (sSet 8 (eBin fMul (eVar 8) (eCall p_law_power (aCons (eVar 6) (aCons (eBin fSub (eVar 9) (eVar 10)) aNil)))))))
    (sSet 2 (eBin fAdd (eVar 2) (eVar 8)))))
    (sFrz [2] (sRet (eCall p_law_fraction (aCons (eVar 2) (aCons (eVar 3) aNil))))))))
noncomputable def p_law_mean_at : PFn := pBody 11 b_law_mean_at
/-- law_fractions_right: 0 source, 1 far, 2 p, 3 q, 4 x, 5 y, 6 told, 7 due -/
noncomputable def b_law_fractions_right : PM := (sSeq (sSet 1 (eCall p_law_of (aCons (eVar 0) (aCons (eLst (aCons (eC (.int 9)) (aCons (eC (.int 100)) (aCons (eBin fPow (eC (.int 10)) (eC (.int 30))) aNil)))) aNil))))
    (sSeq (sFrz [1] (sPar [2, 3] (pCons (eBin fSub (eCall p_law_pick (aCons (eVar 0) (aCons (eBin fAdd (eBin fMul (eC (.int 2)) (eVar 1)) (eC (.int 1))) aNil))) (eVar 1)) (pCons (eBin fMul (eCall p_law_of (aCons (eVar 0) (aCons (eLst (aCons (eC (.int 1)) (aCons (eNeg (eC (.int 1))) aNil))) aNil))) (eBin fAdd (eC (.int 1)) (eCall p_law_pick (aCons (eVar 0) (aCons (eVar 1) aNil))))) pNil))))
    (sSeq (sFrz [1] (sPar [4, 5] (pCons (eCall p_law_fraction (aCons (eVar 2) (aCons (eVar 3) aNil))) (pCons (eCall p_law_fraction (aCons (eBin fSub (eCall p_law_pick (aCons (eVar 0) (aCons (eBin fAdd (eBin fMul (eC (.int 2)) (eVar 1)) (eC (.int 1))) aNil))) (eVar 1)) (aCons (eBin fAdd (eC (.int 1)) (eCall p_law_pick (aCons (eVar 0) (aCons (eVar 1) aNil)))) aNil))) pNil))))
    (sSeq (sSet 6 (eLst (aCons (eCall p_fraction_of (aCons (eVar 2) (aCons (eVar 3) aNil))) (aCons (eCall p_fraction_of (aCons (eBin fMul (eC (.int 6)) (eBin fIdx (eVar 4) (eC (.int 0)))) (aCons (eBin fMul (eNeg (eC (.int 6))) (eBin fIdx (eVar 4) (eC (.int 1)))) aNil))) (aCons (eCall p_fraction_sum (aCons (eVar 4) (aCons (eVar 5) aNil))) (aCons (eCall p_fraction_less (aCons (eVar 4) (aCons (eVar 5) aNil))) aNil))))))
    (sSeq (sSet 7 (eLst (aCons (eVar 4) (aCons (eTup (aCons (eBin fSub (eC (.int 0)) (eBin fIdx (eVar 4) (eC (.int 0)))) (aCons (eBin fIdx (eVar 4) (eC (.int 1))) aNil))) (aCons (eCall p_law_plus (aCons (eVar 4) (aCons (eVar 5) aNil))) (aCons (eCall p_law_plus (aCons (eVar 4) (aCons (eTup (aCons (eBin fSub (eC (.int 0)) (eBin fIdx (eVar 5) (eC (.int 0)))) (aCons (eBin fIdx (eVar 5) (eC (.int 1))) aNil))) aNil))) aNil))))))
    (sSeq (sSet 6 (eBin fAdd (eVar 6) (eLst (aCons (eCall p_fraction_times (aCons (eVar 4) (aCons (eVar 5) aNil))) (aCons (eCall p_is_below (aCons (eVar 4) (aCons (eVar 5) aNil))) (aCons (eCall p_is_below (aCons (eVar 5) (aCons (eVar 4) aNil))) (aCons (eCall p_is_below (aCons (eVar 4) (aCons (eVar 4) aNil))) aNil)))))))
    (sSeq (sSet 7 (eBin fAdd (eVar 7) (eLst (aCons (eCall p_law_by (aCons (eVar 4) (aCons (eVar 5) aNil))) (aCons (eBin fLt (eBin fMul (eBin fIdx (eVar 4) (eC (.int 0))) (eBin fIdx (eVar 5) (eC (.int 1)))) (eBin fMul (eBin fIdx (eVar 5) (eC (.int 0))) (eBin fIdx (eVar 4) (eC (.int 1))))) (aCons (eBin fLt (eBin fMul (eBin fIdx (eVar 5) (eC (.int 0))) (eBin fIdx (eVar 4) (eC (.int 1)))) (eBin fMul (eBin fIdx (eVar 4) (eC (.int 0))) (eBin fIdx (eVar 5) (eC (.int 1))))) (aCons (eC (.bl false)) aNil)))))))
    (sSeq (sIf (bOf (eBin fNe (eBin fIdx (eVar 5) (eC (.int 0))) (eC (.int 0)))) (sSeq (sApp 6 (eCall p_fraction_by (aCons (eVar 4) (aCons (eVar 5) aNil))))
    (sApp 7 (eCall p_law_fraction (aCons (eBin fMul (eBin fIdx (eVar 4) (eC (.int 0))) (eBin fIdx (eVar 5) (eC (.int 1)))) (aCons (eBin fMul (eBin fIdx (eVar 4) (eC (.int 1))) (eBin fIdx (eVar 5) (eC (.int 0)))) aNil))))) sSkip)
    (sRet (eBin fEq (eC1 fRepr (eVar 6)) (eC1 fRepr (eVar 7))))))))))))
noncomputable def p_law_fractions_right : PFn := pBody 8 b_law_fractions_right
/-- law_product: 0 one, 1 other, 2 rows, 3 early, 4 number, 5 late, 6 many, 7 p, 8 q -/
noncomputable def b_law_product : PM := (sSeq (sSet 2 (eLst aNil))
    (sSeq (sFor (iSeq (eVar 0)) (gTp 2 (gsCons (gN 3) (gsCons (gN 4) gsNil))) (sSet 2 (eBin fAdd (eVar 2) (eComp (iSeqL (eVar 1)) (gTp 2 (gsCons (gN 5) (gsCons (gN 6) gsNil))) bYes (eTup (aCons (eC1 fTuple (eComp (iZip2 (aCons (eVar 3) (aCons (eVar 5) aNil))) (gTp 2 (gsCons (gN 7) (gsCons (gN 8) gsNil))) bYes (eBin fAdd (eVar 7) (eVar 8)) [7, 8])) (aCons (eBin fMul (eVar 4) (eVar 6)) aNil))) [5, 6]))))
    (sFrz [2] (sRet (eCall p_law_put (aCons (eVar 2) aNil))))))
noncomputable def p_law_product : PFn := pBody 9 b_law_product
/-- law_means_right: 0 source, 1 kinds, 2 most, 3 one, 4 other, 5 turn, 6 c, 7 kept, 8 minus, 9 powers, 10 number, 11 told, 12 due, 13 rows, 14 kind, 15 far, 16 sizes, 17 x, 18 y, 19 mean -/
noncomputable def b_law_means_right : PM := (sSeq (sAsg (eComp (iRng1 (aCons (eC (.int 2)) aNil)) (gN 5) bYes (eCall p_law_drawn_mean (aCons (eVar 0) (aCons (eVar 1) (aCons (eVar 2) (aCons (eC (.int 6)) aNil))))) [5]) (gUl 2 (gsCons (gN 3) (gsCons (gN 4) gsNil))))
    (sSeq (sFrz [3, 4] (sAsg (eTup (aCons (eCall p_law_of (aCons (eVar 0) (aCons (eLst (aCons (eC (.int 0)) (aCons (eC (.int 1)) (aCons (eNeg (eC (.int 1))) (aCons (eC (.int 5)) (aCons (eBin fPow (eC (.int 10)) (eC (.int 20))) aNil)))))) aNil))) (aCons (eC1 fRepr (eLst (aCons (eVar 3) (aCons (eVar 4) aNil)))) aNil))) (gTp 2 (gsCons (gN 6) (gsCons (gN 7) gsNil)))))
    (sSeq (sSet 8 (eC1 fTuple (eComp (iSeqL (eVar 4)) (gTp 2 (gsCons (gN 9) (gsCons (gN 10) gsNil))) bYes (eTup (aCons (eVar 9) (aCons (eBin fSub (eC (.int 0)) (eVar 10)) aNil))) [9, 10])))
    (sSeq (sFrz [3, 4, 6] (sSet 11 (eLst (aCons (eCall p_mean_sum (aCons (eVar 3) (aCons (eVar 4) aNil))) (aCons (eCall p_mean_less (aCons (eVar 3) (aCons (eVar 4) aNil))) (aCons (eCall p_mean_times (aCons (eVar 3) (aCons (eVar 4) aNil))) (aCons (eCall p_mean_scaled (aCons (eVar 6) (aCons (eVar 3) aNil))) aNil)))))))
    (sSeq (sFrz [3, 4] (sSet 12 (eLst (aCons (eCall p_law_put (aCons (eBin fAdd (eVar 3) (eVar 4)) aNil)) (aCons (eCall p_law_put (aCons (eBin fAdd (eVar 3) (eVar 8)) aNil)) (aCons (eCall p_law_product (aCons (eVar 3) (aCons (eVar 4) aNil))) aNil))))))
    (sSeq (sApp 12 (eCall p_law_put (aCons (eComp (iSeqL (eVar 3)) (gTp 2 (gsCons (gN 9) (gsCons (gN 10) gsNil))) bYes (eTup (aCons (eVar 9) (aCons (eBin fMul (eVar 6) (eVar 10)) aNil))) [9, 10]) aNil)))
    (sSeq (sSet 13 (eCall p_law_mixed (aCons (eVar 0) (aCons (eBin fAdd (eC1 fList (eBin fAdd (eBin fAdd (eVar 3) (eVar 4)) (eVar 4))) (eComp (iSeqL (eVar 8)) (gTp 2 (gsCons (gN 9) (gsCons (gN 10) gsNil))) bYes (eTup (aCons (eVar 9) (aCons (eC (.int 0)) aNil))) [9, 10])) aNil))))
    (sSeq (sFrz [3, 4, 13] (sSet 11 (eBin fAdd (eVar 11) (eLst (aCons (eCall p_mean_of_rows (aCons (eVar 13) aNil)) (aCons (eCall p_mean_of_rows (aCons (eC1 fTuple (eRev (eVar 13))) aNil)) (aCons (eCall p_mean_less (aCons (eVar 3) (aCons (eVar 3) aNil))) (aCons (eCall p_mean_sum (aCons (eTup aNil) (aCons (eVar 4) aNil))) aNil))))))))
    (sSeq (sFrz [4, 13] (sSet 12 (eBin fAdd (eVar 12) (eLst (aCons (eCall p_law_put (aCons (eVar 13) aNil)) (aCons (eCall p_law_put (aCons (eVar 13) aNil)) (aCons (eTup aNil) (aCons (eVar 4) aNil))))))))
    (sSeq (sSet 9 (eC1 fTuple (eComp (iRng1 (aCons (eVar 1) aNil)) (gN 14) bYes (eCall p_law_pick (aCons (eVar 0) (aCons (eC (.int 9)) aNil))) [14])))
    (sSeq (sFrz [3, 6] (sSet 11 (eBin fAdd (eVar 11) (eLst (aCons (eCall p_by_powers (aCons (eVar 9) aNil)) (aCons (eCall p_mean_number (aCons (eVar 1) (aCons (eVar 6) aNil))) (aCons (eCall p_mean_times (aCons (eVar 3) (aCons (eTup aNil) aNil))) aNil)))))))
    (sSeq (sFrz [6] (sSet 12 (eBin fAdd (eVar 12) (eLst (aCons (eTup (aCons (eTup (aCons (eVar 9) (aCons (eC (.int 1)) aNil))) aNil)) (aCons (eCall p_law_put (aCons (eLst (aCons (eTup (aCons (eBin fMul (eTup (aCons (eC (.int 0)) aNil)) (eVar 1)) (aCons (eVar 6) aNil))) aNil)) aNil)) (aCons (eTup aNil) aNil)))))))
    (sSeq (sFrz [3, 4] (sIf (bOr (bOf (eBin fNe (eC1 fRepr (eVar 11)) (eC1 fRepr (eVar 12)))) (bOf (eBin fNe (eC1 fRepr (eLst (aCons (eVar 3) (aCons (eVar 4) aNil)))) (eVar 7)))) (sRet (eC (.bl false))) sSkip))
    (sSeq (sSet 15 (eCall p_law_of (aCons (eVar 0) (aCons (eLst (aCons (eC (.int 3)) (aCons (eC (.int 40)) (aCons (eBin fPow (eC (.int 10)) (eC (.int 30))) aNil)))) aNil))))
    (sSeq (sFrz [15] (sSet 16 (eC1 fTuple (eComp (iRng1 (aCons (eVar 1) aNil)) (gN 14) bYes (eBin fAdd (eC (.int 1)) (eCall p_law_pick (aCons (eVar 0) (aCons (eVar 15) aNil)))) [14]))))
    (sSeq (sFrz [3, 4] (sPar [17, 18] (pCons (eCall p_law_mean_at (aCons (eVar 3) (aCons (eVar 16) aNil))) (pCons (eCall p_law_mean_at (aCons (eVar 4) (aCons (eVar 16) aNil))) pNil))))
    (sSeq (sFrz [3, 4] (sSet 11 (eComp (iSeqL (eTup (aCons (eVar 3) (aCons (eVar 4) (aCons (eCall p_mean_sum (aCons (eVar 3) (aCons (eVar 4) aNil))) (aCons (eCall p_mean_times (aCons (eVar 3) (aCons (eVar 4) aNil))) aNil)))))) (gN 19) bYes (eCall p_mean_at (aCons (eVar 19) (aCons (eVar 16) aNil))) [19])))
    (sSeq (sFrz [3, 4, 6] (sSet 11 (eBin fAdd (eVar 11) (eLst (aCons (eCall p_mean_at (aCons (eCall p_mean_less (aCons (eVar 3) (aCons (eVar 4) aNil))) (aCons (eVar 16) aNil))) (aCons (eCall p_mean_at (aCons (eCall p_mean_scaled (aCons (eVar 6) (aCons (eVar 3) aNil))) (aCons (eVar 16) aNil))) aNil))))))
    (sSeq (sFrz [6] (sSet 12 (eLst (aCons (eVar 17) (aCons (eVar 18) (aCons (eCall p_law_plus (aCons (eVar 17) (aCons (eVar 18) aNil))) (aCons (eCall p_law_by (aCons (eVar 17) (aCons (eVar 18) aNil))) (aCons (eCall p_law_plus (aCons (eVar 17) (aCons (eTup (aCons (eBin fSub (eC (.int 0)) (eBin fIdx (eVar 18) (eC (.int 0)))) (aCons (eBin fIdx (eVar 18) (eC (.int 1))) aNil))) aNil))) (aCons (eCall p_law_by (aCons (eTup (aCons (eVar 6) (aCons (eC (.int 1)) aNil))) (aCons (eVar 17) aNil))) aNil)))))))))
    (sRet (eBin fEq (eC1 fRepr (eBin fAdd (eVar 11) (eLst (aCons (eCall p_mean_at (aCons (eTup aNil) (aCons (eVar 16) aNil))) aNil)))) (eC1 fRepr (eBin fAdd (eVar 12) (eLst (aCons (eTup (aCons (eC (.int 0)) (aCons (eC (.int 1)) aNil))) aNil)))))))))))))))))))))))))
noncomputable def p_law_means_right : PFn := pBody 20 b_law_means_right
/-- law: 0 script, 1 source, 2 lap -/
noncomputable def b_law : PM := (sSeq (sSet 1 (eCall p_law_open_cells (aCons (eVar 0) aNil)))
    (sSeq (sFor (iRng1 (aCons (eC (.int 3)) aNil)) (gN 2) (sSeq (sFrz [1] (sIf (bNot (bTruth (eCall p_law_fractions_right (aCons (eVar 1) aNil)))) (sRet (eC (.bl false))) sSkip))
    (sFrz [1] (sIf (bNot (bTruth (eCall p_law_means_right (aCons (eVar 1) (aCons (eBin fAdd (eC (.int 1)) (eCall p_law_pick (aCons (eVar 1) (aCons (eC (.int 3)) aNil)))) (aCons (eIf (bOf (eBin fEq (eCall p_law_pick (aCons (eVar 1) (aCons (eC (.int 20)) aNil))) (eC (.int 0)))) (eC (.int 20)) (eC (.int 5))) aNil)))))) (sRet (eC (.bl false))) sSkip))))
    (sRet (eC (.bl true)))))
noncomputable def p_law : PFn := pBody 3 b_law
end Vy.K49

set_option Elab.async false
set_option linter.all false
set_option maxRecDepth 100000
set_option maxHeartbeats 1000000
/-! Running the plain functions: each word's equation for simp; loops. -/
namespace Vy
open PySem PySem.Spec PyProof.Rows L2

section
variable {p p1 p2 pa pb : PX} {r : PL} {c c1 c2 : PB} {b b1 b2 : PM} {fr : Frame} {st : Store} {i : Nat} {w : W} {f : W → W → Store → Res (Kd × W)} {g : W → Store → Res (Kd × W)} {h : List W → Store → Res (Kd × W)} {pf : PFn}
@[simp] theorem ev_bind {α β : Type} {a : α} {st : Store} {f : α → Store → Res β} : (Res.ok a st).bind f = f a st := rfl
@[simp] theorem ev_bad {α β : Type} {f : α → Store → Res β} : (Res.bad : Res α).bind f = .bad := rfl
@[simp] theorem ev_var : eVar i fr st = (match fr[i]? with | some (.val w) => .ok (.st, w) st | some (.own o) => .ok (.pk, o.toW) st | _ => .bad) := rfl
@[simp] theorem ev_c : eC w fr st = .ok (.st, w) st := rfl
@[simp] theorem ev_bin : eBin f pa pb fr st = (pa fr st).bind fun x s1 => (pb fr s1).bind fun y s2 => f x.2 y.2 s2 := rfl
@[simp] theorem ev_bof : bOf p fr st = (p fr st).bind fun x s1 => match x.2 with | .bl b => .ok b s1 | _ => .bad := rfl
@[simp] theorem ev_btr : bTruth p fr st = (p fr st).bind fun x s1 => match wTruth x.2 with | some b => .ok b s1 | none => .bad := rfl
@[simp] theorem ev_and : bAnd c1 c2 fr st = (c1 fr st).bind fun b s1 => if b = true then c2 fr s1 else .ok false s1 := rfl
@[simp] theorem ev_or : bOr c1 c2 fr st = (c1 fr st).bind fun b s1 => if b = true then .ok true s1 else c2 fr s1 := rfl
@[simp] theorem ev_not : bNot c fr st = (c fr st).bind fun b s1 => .ok (!b) s1 := rfl
@[simp] theorem ev_yes : bYes fr st = .ok true st := rfl
@[simp] theorem ev_if : eIf c pa pb fr st = (c fr st).bind fun t s1 => if t = true then pa fr s1 else pb fr s1 := rfl
@[simp] theorem ev_eb : eB c fr st = (c fr st).bind fun b s1 => .ok (.st, .bl b) s1 := rfl
@[simp] theorem ev_anil : aNil fr st = .ok [] st := rfl
@[simp] theorem ev_acons : aCons p r fr st = (p fr st).bind fun x s1 => if keepOk x.1 x.2 = true then (r fr s1).bind fun ws s2 => .ok (x.2 :: ws) s2 else .bad := rfl
@[simp] theorem ev_astar : aStar p r fr st = (p fr st).bind fun x s1 => match seqOf x.2 with | some ws => (r fr s1).bind fun us s2 => .ok (ws ++ us) s2 | none => .bad := rfl
@[simp] theorem ev_tup : eTup r fr st = (r fr st).bind fun ws s1 => if ws.length ≤ sizeLine then .ok (.st, .tup ws) s1 else .bad := rfl
@[simp] theorem ev_lst : eLst r fr st = (r fr st).bind fun ws s1 => if ws.length ≤ sizeLine then .ok (.fr, .lst ws) s1 else .bad := rfl
@[simp] theorem ev_neg : eNeg p fr st = (p fr st).bind fun x s1 => match x.2 with | .int i => okS (.int (-i)) s1 | _ => .bad := rfl
@[simp] theorem ev_c1 : eC1 g p fr st = (p fr st).bind fun x s1 => g x.2 s1 := rfl
@[simp] theorem ev_ca : eCA h r fr st = (r fr st).bind fun ws s1 => h ws s1 := rfl
@[simp] theorem ev_call : eCall pf r fr st = (r fr st).bind fun ws s1 => pf ws s1 := rfl
@[simp] theorem ev_seq : sSeq b1 b2 fr st = (b1 fr st).bind fun fl s1 => match fl with | .nx fr1 => b2 fr1 s1 | fl => .ok fl s1 := rfl
@[simp] theorem ev_skip : sSkip fr st = .ok (.nx fr) st := rfl
@[simp] theorem ev_sif : sIf c b1 b2 fr st = (c fr st).bind fun b s1 => if b = true then b1 fr s1 else b2 fr s1 := rfl
@[simp] theorem ev_set : sSet i p fr st = (p fr st).bind fun x s1 => match slOf x.1 x.2 with | some sl => .ok (.nx (fr.set i sl)) s1 | none => .bad := rfl
@[simp] theorem ev_ret : sRet p fr st = (p fr st).bind fun x s1 => match x.1 with | .pk => if keepOk .pk x.2 = true then .ok (.rt .st x.2) s1 else .bad | k => .ok (.rt k x.2) s1 := rfl
@[simp] theorem ev_retv : sRetV i fr st = (match fr[i]? with | some (.own o) => .ok (.rt .fr o.toW) st | some (.val w) => .ok (.rt .st w) st | _ => .bad) := rfl
@[simp] theorem ev_frz {is : List Nat} : sFrz is b fr st = b (is.foldr freezeF fr) st := rfl
@[simp] theorem ev_freeze : freezeF i fr = (match fr[i]? with | some (.own o) => fr.set i (.val o.toW) | _ => fr) := rfl
@[simp] theorem ev_asg {q : PG'} : sAsg p q fr st = (p fr st).bind fun x s1 => if keepOk x.1 x.2 = true then (match q x.2 fr with | some fr1 => .ok (.nx fr1) s1 | none => .bad) else .bad := rfl
@[simp] theorem ev_par {is : List Nat} {pk : PLk} : sPar is pk fr st = (pk fr st).bind fun kws s1 => match putsF is kws fr with | some fr1 => .ok (.nx fr1) s1 | none => .bad := rfl
@[simp] theorem ev_pnil : pNil fr st = .ok [] st := rfl
@[simp] theorem ev_pcons {rk : PLk} : pCons p rk fr st = (p fr st).bind fun x s1 => if keepOk x.1 x.2 = true then (rk fr s1).bind fun xs s2 => .ok ((if x.1 = .fr then .fr else .st, x.2) :: xs) s2 else .bad := rfl
@[simp] theorem ev_dget {pd pk : PX} : eDGet pd pk fr st = (pd fr st).bind fun x s1 => (pk fr s1).bind fun y s2 => match dctOf x.2 s2 with | some (ks, ws) => (match getW ks ws y.2 with | some (some w) => .ok (.st, w) s2 | _ => .bad) | none => .bad := rfl
@[simp] theorem ev_get2 {pd pk px : PX} : eGet2 pd pk px fr st = (pd fr st).bind fun x s1 => (pk fr s1).bind fun y s2 => (px fr s2).bind fun z s3 => if keepOk z.1 z.2 = true then (match x.2 with | .dct ks ws => (match getW ks ws y.2 with | some (some w) => .ok (.st, w) s3 | some none => .ok (.st, z.2) s3 | none => .bad) | _ => .bad) else .bad := rfl
@[simp] theorem ev_dput {pk pv : PX} : sDPut i pk pv fr st = (pv fr st).bind fun v s1 => (pk fr s1).bind fun y s2 => if keepOk v.1 v.2 = true then (match fr[i]? with
  | some (.own (.dct ks ws)) => if ws.length < sizeLine then (match putW ks ws y.2 v.2 with
    | some r => .ok (.nx (fr.set i (.own (.dct r.1 r.2)))) s2
    | none => .bad) else .bad
  | some (.val (.ref n)) => match s2[n]? with
    | some (.dct ks ws) => if ws.length < sizeLine then (match putW ks ws y.2 v.2 with
      | some r => .ok (.nx fr) (s2.set n (.dct r.1 r.2))
      | none => .bad) else .bad
    | _ => .bad
  | _ => .bad) else .bad := rfl
@[simp] theorem ev_popsh : ePopSh p fr st = (p fr st).bind fun x s1 => match x.2 with
  | .ref n => match s1[n]? with
    | some (.lst ws) => match ws[ws.length - 1]? with
      | some w => .ok (.st, w) (s1.set n (.lst ws.dropLast))
      | none => .bad
    | _ => .bad
  | _ => .bad := rfl
@[simp] theorem ev_dnewk : eDNewK fr st = .ok (.fr, .dct (.k []) []) st := rfl
@[simp] theorem ev_dnewt : eDNewT fr st = .ok (.fr, .dct (.t []) []) st := rfl
@[simp] theorem ev_keep_st : keepOk .st w = true := rfl
@[simp] theorem ev_keep_fr : keepOk .fr w = true := rfl
@[simp] theorem ev_keep_pi {i : Int} : keepOk .pk (.int i) = true := rfl
@[simp] theorem ev_keep_pt {ws : List W} : keepOk .pk (.tup ws) = true := rfl
@[simp] theorem ev_slof_st : slOf .st w = some (.val w) := rfl
@[simp] theorem ev_slof_l {ws : List W} : slOf .fr (.lst ws) = some (.own (.lst ws)) := rfl
@[simp] theorem ev_slof_d {ks : Kys} {ws : List W} : slOf .fr (.dct ks ws) = some (.own (.dct ks ws)) := rfl
@[simp] theorem ev_toW_l {ws : List W} : (Ob.lst ws).toW = .lst ws := rfl
@[simp] theorem ev_toW_d {ks : Kys} {ws : List W} : (Ob.dct ks ws).toW = .dct ks ws := rfl
@[simp] theorem ev_seq_l {ws : List W} : seqOf (.lst ws) = some ws := rfl
@[simp] theorem ev_seq_t {ws : List W} : seqOf (.tup ws) = some ws := rfl
@[simp] theorem ev_gn : gN i w fr = some (fr.set i (.val w)) := rfl
@[simp] theorem ev_gsnil : gsNil [] fr = some fr := rfl
@[simp] theorem ev_gscons {q : PG'} {r : PGs'} {ws : List W} : gsCons q r (w :: ws) fr = (q w fr).bind fun fr1 => r ws fr1 := rfl
@[simp] theorem ev_gtp {n : Nat} {q : PGs'} {ws : List W} : gTp n q (.tup ws) fr = if ws.length = n then q ws fr else none := rfl
@[simp] theorem ev_gul {n : Nat} {q : PGs'} {ws : List W} : gUl n q (.lst ws) fr = if ws.length = n then q ws fr else none := rfl
@[simp] theorem ev_for {qi : PL} {q : PG'} : sFor qi q b fr st = (qi fr st).bind fun ws s1 => forL q b ws fr s1 := rfl
@[simp] theorem ev_iseq : iSeq p fr st = (p fr st).bind fun x s1 => if keepOk x.1 x.2 = true then (match seqOf x.2 with | some ws => .ok ws s1 | none => .bad) else .bad := rfl
@[simp] theorem ev_iseql : iSeqL p fr st = (p fr st).bind fun x s1 => match seqOf x.2 with | some ws => .ok ws s1 | none => .bad := rfl
@[simp] theorem ev_comp {qi : PL} {q : PG'} {vs : List Nat} : eComp qi q c p vs fr st = (qi fr st).bind fun ws s1 => if noOwn vs fr = true then (compL q c p ws [] (forgetF vs fr) s1).bind fun xs s2 => .ok (.fr, .lst xs) s2 else .bad := rfl
@[simp] theorem ev_size {n : Nat} : (n ≤ sizeLine) = (n ≤ 16777216) := by rw [sizeLine_eq]
@[simp] theorem ev_size2 {n : Nat} : (n < sizeLine) = (n < 16777216) := by rw [sizeLine_eq]
@[simp] theorem ev_body {n : Nat} {ws : List W} : pBody n b ws st = (b (ws.map Sl.val ++ List.replicate (n - ws.length) Sl.no) st).bind fun fl s1 => match fl with | .rt k w => .ok (k, w) s1 | .nx _ => .ok (.st, .non) s1 | _ => .bad := rfl
end

section
variable {st : Store} {i j : Int} {ws us : List W} {a b : W}
@[simp] theorem ev_add : fAdd (.int i) (.int j) st = .ok (.st, .int (i + j)) st := rfl
@[simp] theorem ev_add_t : fAdd (.tup ws) (.tup us) st = grd (ws.length + us.length ≤ sizeLine) (.ok (.st, .tup (ws ++ us)) st) := rfl
@[simp] theorem ev_add_l : fAdd (.lst ws) (.lst us) st = grd (ws.length + us.length ≤ sizeLine) (.ok (.fr, .lst (ws ++ us)) st) := rfl
@[simp] theorem ev_sub : fSub (.int i) (.int j) st = .ok (.st, .int (i - j)) st := rfl
@[simp] theorem ev_cmp {p : Int → Int → Bool} : fCmp p (.int i) (.int j) st = .ok (.st, .bl (p i j)) st := rfl
theorem ev_atN {n : Nat} (h : n < ws.length) : atI ws (n : Int) = ws[n]? := by
  unfold atI ixN
  have h1 : (0 : Int) ≤ (n : Int) := by omega
  have h2 : (n : Int) < (ws.length : Int) := by omega
  simp [h1, h2]
@[simp] theorem ev_at0 : atI (a :: ws) 0 = some a := ev_atN (ws := a :: ws) (n := 0) (by simp)
@[simp] theorem ev_at1 : atI (a :: b :: ws) 1 = some b := ev_atN (ws := a :: b :: ws) (n := 1) (by simp)
@[simp] theorem ev_idx_t : fIdx (.tup ws) (.int i) st = (match atI ws i with | some w => .ok (.st, w) st | none => .bad) := rfl
@[simp] theorem ev_idx_l : fIdx (.lst ws) (.int i) st = (match atI ws i with | some w => .ok (.st, w) st | none => .bad) := rfl
@[simp] theorem ev_len_l : fLen (.lst ws) st = .ok (.st, .int ws.length) st := rfl
@[simp] theorem ev_len_t : fLen (.tup ws) st = .ok (.st, .int ws.length) st := rfl
@[simp] theorem ev_int : fInt (.int i) st = .ok (.st, .int i) st := rfl
@[simp] theorem ev_abs : fAbs (.int i) st = .ok (.st, .int (if i < 0 then -i else i)) st := rfl
@[simp] theorem ev_list_l : fList (.lst ws) st = .ok (.fr, .lst ws) st := rfl
@[simp] theorem ev_list_t : fList (.tup ws) st = .ok (.fr, .lst ws) st := rfl
@[simp] theorem ev_tuple_l : fTuple (.lst ws) st = .ok (.st, .tup ws) st := rfl
@[simp] theorem ev_tuple_t : fTuple (.tup ws) st = .ok (.st, .tup ws) st := rfl
@[simp] theorem ev_gcd : fGcd [.int i, .int j] st = .ok (.st, .int ((Nat.gcd i.natAbs j.natAbs : Nat) : Int)) st := rfl
theorem ev_div (h : divOk i j) : fDiv (.int i) (.int j) st = .ok (.st, .int (i.fdiv j)) st := if_pos h
theorem ev_mod (h : j ≠ 0) : fMod (.int i) (.int j) st = .ok (.st, .int (i.fmod j)) st := if_pos h
theorem ev_mul (h : mulOk i j) : fMul (.int i) (.int j) st = .ok (.st, .int (i * j)) st := if_pos h
theorem ev_pow (h : 0 ≤ j ∧ j ≤ 1000000 ∧ i.natAbs < 2 ^ 64) : fPow (.int i) (.int j) st = .ok (.st, .int (i ^ j.toNat)) st := if_pos h
theorem ev_grd {α : Type} {c : Prop} [Decidable c] {x : Res α} (h : c) : grd c x = x := if_pos h
end
/-! ### loops -/
/-- a loop whose turns all go on: I k holds ahead of turn k -/
theorem for_run {q : PG'} {b : PM} (I : Nat → Frame → Store → Prop) : ∀ (ws : List W) (k : Nat) (fr : Frame) (st : Store), I k fr st →
    (∀ (j : Nat) (w : W) (fr : Frame) (st : Store), ws[j]? = some w → I (k + j) fr st → ∃ fr1 fr2 st2, q w fr = some fr1 ∧ b fr1 st = .ok (.nx fr2) st2 ∧ I (k + j + 1) fr2 st2) →
    ∃ fr' st', forL q b ws fr st = .ok (.nx fr') st' ∧ I (k + ws.length) fr' st'
  | [], k, fr, st, h, _ => ⟨fr, st, rfl, h⟩
  | w :: ws, k, fr, st, h, f => by
    obtain ⟨fr1, fr2, st2, e1, e2, h2⟩ := f 0 w fr st rfl h
    obtain ⟨fr', st', e3, h3⟩ := for_run I ws (k + 1) fr2 st2 h2 fun j u fr st hj hI => by
      have := f (j + 1) u fr st (by simpa using hj) (by rw [show k + (j + 1) = k + 1 + j by omega]; exact hI)
      rw [show k + (j + 1) + 1 = k + 1 + j + 1 by omega] at this
      exact this
    refine ⟨fr', st', ?_, by rw [List.length_cons, show k + (ws.length + 1) = k + 1 + ws.length by omega]; exact h3⟩
    unfold forL
    rw [e1]
    show (b fr1 st).bind _ = _
    rw [e2]
    exact e3
/-- a comprehension that changes nothing shared: the items' values, filtered -/
theorem comp_run {q : PG'} {c : PB} {el : PX} {st : Store} {fr : Frame} (t : W → Bool) (f : W → W) : ∀ (ws acc : List W), acc.length + ws.length ≤ sizeLine →
    (∀ w ∈ ws, ∃ fr1, q w fr = some fr1 ∧ c fr1 st = .ok (t w) st ∧ (t w = true → ∃ k, el fr1 st = .ok (k, f w) st ∧ keepOk k (f w) = true)) →
    compL q c el ws acc fr st = .ok (acc ++ (ws.filter t).map f) st
  | [], acc, _, _ => by show Res.ok acc st = _; simp
  | w :: ws, acc, hl, h => by
    obtain ⟨fr1, e1, e2, e3⟩ := h w (List.mem_cons_self ..)
    have hl' : acc.length + (ws.length + 1) ≤ sizeLine := by simpa using hl
    unfold compL
    rw [e1]
    show (c fr1 st).bind _ = _
    rw [e2]
    show (if t w = true then _ else _) = _
    cases ht : t w with
    | false =>
      rw [if_neg Bool.false_ne_true, List.filter_cons_of_neg (by rw [ht]; exact Bool.false_ne_true)]
      exact comp_run t f ws acc (by omega) fun u hu => h u (List.mem_cons_of_mem _ hu)
    | true =>
      obtain ⟨k, e4, e5⟩ := e3 ht
      rw [if_pos rfl, e4, List.filter_cons_of_pos ht]
      show (if keepOk k (f w) = true ∧ acc.length < sizeLine then _ else _) = _
      rw [if_pos ⟨e5, by omega⟩, comp_run t f ws (acc ++ [f w]) (by rw [List.length_append, List.length_singleton]; omega) fun u hu => h u (List.mem_cons_of_mem _ hu)]
      simp
/-- the same over a mapped list, all kept -/
theorem comp_map {α : Type} {q : PG'} {el : PX} {st : Store} {fr : Frame} (g h : α → W) : ∀ (l : List α) (acc : List W), acc.length + l.length ≤ sizeLine →
    (∀ x ∈ l, ∃ fr1, q (g x) fr = some fr1 ∧ ∃ k, el fr1 st = .ok (k, h x) st ∧ keepOk k (h x) = true) → compL q bYes el (l.map g) acc fr st = .ok (acc ++ l.map h) st
  | [], acc, _, _ => by show Res.ok acc st = _; simp
  | x :: l, acc, hl, f => by
    have hl' : acc.length + (l.length + 1) ≤ sizeLine := by simpa using hl
    obtain ⟨fr1, e1, k, e2, e3⟩ := f x (List.mem_cons_self ..)
    rw [List.map_cons]
    unfold compL
    rw [e1]
    have hz : acc.length < sizeLine := by omega
    simp only [ev_yes, ev_bind, if_true, e2, e3, hz, and_self]
    rw [comp_map g h l (acc ++ [h x]) (by rw [List.length_append, List.length_singleton]; omega) fun y hy => f y (List.mem_cons_of_mem _ hy)]
    simp
/-- a loop over a mapped list -/
theorem for_map {α : Type} {q : PG'} {b : PM} (g : α → W) (I : List α → Frame → Store → Prop) (l : List α) (fr : Frame) (st : Store) (h0 : I [] fr st)
    (h : ∀ (pre : List α) (x : α) (fr : Frame) (st : Store), x ∈ l → pre.length < l.length → I pre fr st → ∃ fr1 fr2 st2, q (g x) fr = some fr1 ∧ b fr1 st = .ok (.nx fr2) st2 ∧ I (pre ++ [x]) fr2 st2) :
    ∃ fr' st', forL q b (l.map g) fr st = .ok (.nx fr') st' ∧ I l fr' st' := by
  obtain ⟨fr', st', e, z⟩ := for_run (q := q) (b := b) (fun k fr st => I (l.take k) fr st) (l.map g) 0 fr st h0 fun j w fr st hw hI => by
    rw [List.getElem?_map] at hw
    cases hx : l[j]? with
    | none => rw [hx] at hw; cases hw
    | some x =>
      rw [hx] at hw
      cases hw
      have hj := (List.getElem?_eq_some_iff.mp hx).1
      rw [Nat.zero_add] at hI ⊢
      obtain ⟨fr1, fr2, st2, e1, e2, e3⟩ := h (l.take j) x fr st (List.mem_of_getElem? hx) (by rw [List.length_take]; omega) hI
      refine ⟨fr1, fr2, st2, e1, e2, ?_⟩
      rw [List.take_add_one, hx]
      exact e3
  rw [Nat.zero_add, List.length_map, List.take_length] at z
  exact ⟨fr', st', e, z⟩
/-- .. whose elements draw: J k holds ahead of item k -/
theorem comp_draw {q : PG'} {el : PX} {fr : Frame} (J : Nat → List W → Store → Prop) : ∀ (ws acc : List W) (k : Nat) (st : Store), acc.length + ws.length ≤ sizeLine → J k acc st →
    (∀ (j : Nat) (w : W) (acc : List W) (st : Store), ws[j]? = some w → J (k + j) acc st → ∃ fr1 kd x st2, q w fr = some fr1 ∧ el fr1 st = .ok (kd, x) st2 ∧ keepOk kd x = true ∧ J (k + j + 1) (acc ++ [x]) st2) →
    ∃ xs st', compL q bYes el ws acc fr st = .ok xs st' ∧ J (k + ws.length) xs st'
  | [], acc, k, st, _, h, _ => ⟨acc, st, rfl, h⟩
  | w :: ws, acc, k, st, hl, h, f => by
    have hl' : acc.length + (ws.length + 1) ≤ sizeLine := by simpa using hl
    obtain ⟨fr1, kd, x, st2, e1, e2, e3, h2⟩ := f 0 w acc st rfl h
    obtain ⟨xs, st', e4, h4⟩ := comp_draw J ws (acc ++ [x]) (k + 1) st2 (by rw [List.length_append, List.length_singleton]; omega) h2 fun j u acc st hj hI => by
      have := f (j + 1) u acc st (by simpa using hj) (by rw [show k + (j + 1) = k + 1 + j by omega]; exact hI)
      rw [show k + (j + 1) + 1 = k + 1 + j + 1 by omega] at this
      exact this
    refine ⟨xs, st', ?_, by rw [List.length_cons, show k + (ws.length + 1) = k + 1 + ws.length by omega]; exact h4⟩
    unfold compL
    rw [e1]
    have hz : acc.length < sizeLine := by omega
    simp only [ev_yes, ev_bind, if_true, e2, e3, hz, and_self]
    exact e4
/-- a while loop with a measure -/
theorem while_run {c : PB} {b : PM} (I : Nat → Frame → Store → Prop) (h : ∀ k fr st, I k fr st → (∃ st', c fr st = .ok false st' ∧ I k fr st' ∧ True) ∨ ∃ st1 fr2 st2 j, c fr st = .ok true st1 ∧ b fr st1 = .ok (.nx fr2) st2 ∧ j < k ∧ I j fr2 st2) :
    ∀ (n k : Nat) (fr : Frame) (st : Store), k < n → I k fr st → ∃ fr' st' j, whileL c b n fr st = .ok (.nx fr') st' ∧ I j fr' st' ∧ ∃ st0, c fr' st0 = .ok false st'
  | 0, k, _, _, hk, _ => absurd hk (Nat.not_lt_zero _)
  | n + 1, k, fr, st, hk, hI => by
    rcases h k fr st hI with ⟨st', e, hI', _⟩ | ⟨st1, fr2, st2, j, e1, e2, hj, hI'⟩
    · refine ⟨fr, st', k, ?_, hI', st, e⟩
      unfold whileL
      rw [e]
      rfl
    · obtain ⟨fr', st', j', e3, hI2, e4⟩ := while_run I h n j fr2 st2 (by omega) hI'
      refine ⟨fr', st', j', ?_, hI2, e4⟩
      unfold whileL
      simp only [e1, ev_bind, if_true, e2]
      exact e3
end Vy

set_option Elab.async false
set_option linter.all false
set_option maxRecDepth 100000
set_option maxHeartbeats 1000000
/-! k49: sizes, fractions. -/
namespace Vy.K49
open PySem PySem.Spec PyProof.Rows L2

/-! ### sizes -/
def Le (n : Int) (k : Nat) : Prop := n.natAbs ≤ 10 ^ k
theorem Le.mul {a b : Int} {j k : Nat} (h : Le a j) (h' : Le b k) : Le (a * b) (j + k) := by
  unfold Le at *
  rw [Int.natAbs_mul, Nat.pow_add]
  exact Nat.mul_le_mul h h'
theorem Le.mono {a : Int} {j k : Nat} (h : Le a j) (hk : j ≤ k) : Le a k := Nat.le_trans h (Nat.pow_le_pow_right (by decide) hk)
theorem Le.add {a b : Int} {j : Nat} (h : Le a j) (h' : Le b j) : Le (a + b) (j + 1) := by
  unfold Le at *
  have := Int.natAbs_add_le a b
  rw [Nat.pow_succ]
  omega
theorem Le.neg {a : Int} {j : Nat} (h : Le a j) : Le (-a) j := by unfold Le at *; rw [Int.natAbs_neg]; exact h
theorem Le.sub {a b : Int} {j : Nat} (h : Le a j) (h' : Le b j) : Le (a - b) (j + 1) := by
  rw [Int.sub_eq_add_neg]; exact h.add h'.neg
theorem lt_big : 10 ^ 4000 < 2 ^ 13500 := by decide +kernel
theorem log_small {n : Nat} (h : n ≤ 10 ^ 4000) : n.log2 < 13500 := by
  by_cases h0 : n = 0
  · subst h0; rw [Nat.log2_zero]; decide
  · exact (Nat.log2_lt h0).mpr (Nat.lt_of_le_of_lt h lt_big)
theorem mul_ok {i j : Int} (hi : Le i 4000) (hj : Le j 4000) : mulOk i j := by
  refine .inl ?_
  have a := log_small hi
  have b := log_small hj
  omega
theorem div_ok {i j : Int} (hi : Le i 4000) (h : j ≠ 0) : divOk i j := by
  refine ⟨h, ?_⟩
  have a := log_small hi
  unfold Builtin.divisionGoesByPylong
  by_cases e : i = 0
  · subst e; simp
  · have e2 : (i == 0) = false := by simpa using e
    simp only [e2, Bool.false_eq_true, if_false, Bool.and_eq_false_iff, decide_eq_false_iff_not]
    omega
/-! ### least terms -/
abbrev Fr := Int × Int
abbrev frW (x : Fr) : W := .tup [.int x.1, .int x.2]
def nf (p q : Int) : Fr := let g : Int := (Nat.gcd p.natAbs q.natAbs : Nat); let s := if q > 0 then g else -g; (p.fdiv s, q.fdiv s)
/-- in least terms -/
structure Low (x : Fr) : Prop where
  pos : 0 < x.2
  cop : Nat.gcd x.1.natAbs x.2.natAbs = 1
theorem nf_spec (p : Int) {q : Int} (h : q ≠ 0) : Low (nf p q) ∧ (nf p q).1 * q = p * (nf p q).2 := by
  have hg : 0 < Nat.gcd p.natAbs q.natAbs := Nat.gcd_pos_of_pos_right _ (Int.natAbs_pos.mpr h)
  obtain ⟨s, hsg, hs, hsq⟩ : ∃ s : Int, s.natAbs = Nat.gcd p.natAbs q.natAbs ∧ (nf p q = (p.fdiv s, q.fdiv s)) ∧ ((0 < q ∧ 0 < s) ∨ (q < 0 ∧ s < 0)) := by
    by_cases c : q > 0
    · exact ⟨_, Int.natAbs_natCast _, by unfold nf; simp only [if_pos c], .inl ⟨c, by omega⟩⟩
    · exact ⟨_, by rw [Int.natAbs_neg]; exact Int.natAbs_natCast _, by unfold nf; simp only [if_neg c], .inr ⟨by omega, by omega⟩⟩
  have hs0 : s ≠ 0 := by omega
  obtain ⟨p', hp⟩ : s ∣ p := Int.natAbs_dvd_natAbs.mp (by rw [hsg]; exact Nat.gcd_dvd_left _ _)
  obtain ⟨q', hq⟩ : s ∣ q := Int.natAbs_dvd_natAbs.mp (by rw [hsg]; exact Nat.gcd_dvd_right _ _)
  have e1 : p.fdiv s = p' := by rw [hp]; exact Int.mul_fdiv_cancel_left _ hs0
  have e2 : q.fdiv s = q' := by rw [hq]; exact Int.mul_fdiv_cancel_left _ hs0
  rw [hs, e1, e2]
  refine ⟨⟨?_, ?_⟩, ?_⟩
  · show 0 < q'
    rcases hsq with ⟨a, b⟩ | ⟨a, b⟩
    · rw [hq] at a
      exact Classical.byContradiction fun z => by
        have z' : q' ≤ 0 := by omega
        have z2 := Int.mul_le_mul_of_nonneg_left z' (show (0 : Int) ≤ s by omega)
        rw [Int.mul_zero] at z2
        omega
    · rw [hq] at a
      exact Classical.byContradiction fun z => by
        have z' : q' ≤ 0 := by omega
        have z2 := Int.mul_nonneg_of_nonpos_of_nonpos (show s ≤ 0 by omega) z'
        omega
  · show Nat.gcd p'.natAbs q'.natAbs = 1
    have e : Nat.gcd p.natAbs q.natAbs * Nat.gcd p'.natAbs q'.natAbs = Nat.gcd p.natAbs q.natAbs * 1 := by
      rw [← Nat.gcd_mul_left, ← hsg, ← Int.natAbs_mul, ← Int.natAbs_mul, ← hp, ← hq, hsg, Nat.mul_one]
    exact Nat.eq_of_mul_eq_mul_left hg e
  · show p' * q = p * q'
    rw [hq, hp]
    rw [← Int.mul_assoc, Int.mul_comm p' s]
theorem low_eq {x y : Fr} (hx : Low x) (hy : Low y) (h : x.1 * y.2 = y.1 * x.2) : x = y := by
  have hn : x.1.natAbs * y.2.natAbs = y.1.natAbs * x.2.natAbs := by rw [← Int.natAbs_mul, h, Int.natAbs_mul]
  have d1 : x.2.natAbs ∣ y.2.natAbs := (Nat.Coprime.symm hx.cop).dvd_of_dvd_mul_left (hn ▸ Nat.dvd_mul_left _ _)
  have d2 : y.2.natAbs ∣ x.2.natAbs := (Nat.Coprime.symm hy.cop).dvd_of_dvd_mul_left (hn ▸ Nat.dvd_mul_left _ _)
  have e : x.2.natAbs = y.2.natAbs := Nat.dvd_antisymm d1 d2
  have p1 := hx.pos
  have p2 := hy.pos
  have e2 : x.2 = y.2 := by omega
  have e1 : x.1 = y.1 := by
    rw [e2] at h
    exact Int.eq_of_mul_eq_mul_right (by omega) h
  exact Prod.ext e1 e2
theorem nf_eq {p q p' q' : Int} (h : q ≠ 0) (h' : q' ≠ 0) (e : p * q' = p' * q) : nf p q = nf p' q' := by
  obtain ⟨l1, s1⟩ := nf_spec p h
  obtain ⟨l2, s2⟩ := nf_spec p' h'
  refine low_eq l1 l2 ?_
  have hqq : q * q' ≠ 0 := Int.mul_ne_zero h h'
  refine Int.eq_of_mul_eq_mul_right hqq ?_
  have a : (nf p q).1 * (nf p' q').2 * (q * q') = ((nf p q).1 * q) * ((nf p' q').2 * q') := by simp only [Int.mul_assoc, Int.mul_comm, Int.mul_left_comm]
  have b : (nf p' q').1 * (nf p q).2 * (q * q') = ((nf p' q').1 * q') * ((nf p q).2 * q) := by simp only [Int.mul_assoc, Int.mul_comm, Int.mul_left_comm]
  rw [a, b, s1, s2]
  have c : p * (nf p q).2 * ((nf p' q').2 * q') = (p * q') * ((nf p q).2 * (nf p' q').2) := by simp only [Int.mul_assoc, Int.mul_comm, Int.mul_left_comm]
  have d : p' * (nf p' q').2 * ((nf p q).2 * q) = (p' * q) * ((nf p q).2 * (nf p' q').2) := by simp only [Int.mul_assoc, Int.mul_comm, Int.mul_left_comm]
  rw [c, d, e]
theorem nf_low {x : Fr} (h : Low x) : nf x.1 x.2 = x := by
  have h0 : x.2 ≠ 0 := by have := h.pos; omega
  obtain ⟨l, s⟩ := nf_spec x.1 h0
  exact low_eq l h s
theorem nf_neg {x : Fr} (h : Low x) (k : Int) (hk : k ≠ 0) : nf (k * x.1) (-k * x.2) = (0 - x.1, x.2) := by
  have h0 : x.2 ≠ 0 := by have := h.pos; omega
  have l : Low (0 - x.1, x.2) := ⟨h.pos, by show Nat.gcd (0 - x.1).natAbs _ = 1; rw [Int.zero_sub, Int.natAbs_neg]; exact h.cop⟩
  rw [← nf_low l]
  refine nf_eq (Int.mul_ne_zero (by omega) h0) h0 ?_
  show k * x.1 * x.2 = (0 - x.1) * (-k * x.2)
  simp only [Int.zero_sub, Int.neg_mul, Int.mul_neg, Int.neg_neg, Int.mul_assoc, Int.mul_comm, Int.mul_left_comm]
theorem nf_le {p q : Int} {k : Nat} (h : q ≠ 0) (hp : Le p k) : Le (nf p q).1 k := by
  obtain ⟨l, s⟩ := nf_spec p h
  unfold Le at *
  refine Nat.le_trans ?_ hp
  have e : (nf p q).1.natAbs ∣ p.natAbs * (nf p q).2.natAbs := by rw [← Int.natAbs_mul, ← s, Int.natAbs_mul]; exact Nat.dvd_mul_right _ _
  have d : (nf p q).1.natAbs ∣ p.natAbs := Nat.Coprime.dvd_of_dvd_mul_right l.cop e
  by_cases hp0 : p = 0
  · have z : (nf p q).1 = 0 := by
      have s' : (nf p q).1 * q = 0 := by rw [s, hp0, Int.zero_mul]
      rcases Int.mul_eq_zero.mp s' with z | z
      · exact z
      · exact absurd z h
    rw [z]; exact Nat.zero_le _
  · exact Nat.le_of_dvd (Int.natAbs_pos.mpr hp0) d
theorem nf_le2 {p q : Int} {k : Nat} (h : q ≠ 0) (hq : Le q k) : Le (nf p q).2 k := by
  obtain ⟨l, s⟩ := nf_spec p h
  unfold Le at *
  refine Nat.le_trans ?_ hq
  have e : (nf p q).2.natAbs ∣ (nf p q).1.natAbs * q.natAbs := by rw [← Int.natAbs_mul, s, Int.natAbs_mul]; exact Nat.dvd_mul_left _ _
  have d : (nf p q).2.natAbs ∣ q.natAbs := (Nat.Coprime.symm l.cop).dvd_of_dvd_mul_left e
  exact Nat.le_of_dvd (Int.natAbs_pos.mpr h) d
theorem low_ne {x : Fr} (h : Low x) : x.2 ≠ 0 := by have := h.pos; omega
/-! ### what the defs over fractions give -/
theorem gcd_le {p q : Int} {k : Nat} (h : q ≠ 0) (hq : Le q k) : Le ((Nat.gcd p.natAbs q.natAbs : Nat) : Int) k := by
  unfold Le at *
  rw [Int.natAbs_natCast]
  exact Nat.le_trans (Nat.le_of_dvd (Int.natAbs_pos.mpr h) (Nat.gcd_dvd_right _ _)) hq
theorem fraction_of_ok (p q : Int) (st : Store) (hp : Le p 4000) (hq : Le q 4000) (h : q ≠ 0) : p_fraction_of [.int p, .int q] st = .ok (.st, frW (nf p q)) st := by
  have hg : ((Nat.gcd p.natAbs q.natAbs : Nat) : Int) ≠ 0 := by
    have : 0 < Nat.gcd p.natAbs q.natAbs := Nat.gcd_pos_of_pos_right _ (Int.natAbs_pos.mpr h)
    omega
  have hg2 : -((Nat.gcd p.natAbs q.natAbs : Nat) : Int) ≠ 0 := by omega
  unfold p_fraction_of b_fraction_of nf
  by_cases c : q > 0
  · simp [fCmp, fGcd, fDiv, grd, div_ok hp hg, div_ok hq hg, c]
  · simp [fCmp, fGcd, fDiv, grd, div_ok hp hg2, div_ok hq hg2, c]
end Vy.K49

set_option Elab.async false
set_option linter.all false
set_option maxRecDepth 100000
set_option maxHeartbeats 1000000
/-! k49: the fractions' defs. -/
namespace Vy.K49
open PySem PySem.Spec PyProof.Rows L2
/-- Euclid's turns -/
def eu (a b : Nat) : Nat := if h : b = 0 then 0 else 1 + eu b (a % b)
termination_by b
decreasing_by exact Nat.mod_lt _ (Nat.pos_of_ne_zero h)
theorem eu_le : ∀ (n a b : Nat), b ≤ n → b ≠ 0 → eu a b ≤ 2 * b.log2 + 2
  | 0, a, b, hn, h => absurd (Nat.le_zero.mp hn) h
  | n + 1, a, b, hn, h => by
    rw [eu, dif_neg h]
    by_cases hr : a % b = 0
    · rw [hr, eu, dif_pos rfl]; omega
    · rw [eu, dif_neg hr]
      have hlt : a % b < b := Nat.mod_lt _ (Nat.pos_of_ne_zero h)
      by_cases hs : b % (a % b) = 0
      · rw [hs, eu, dif_pos rfl]; omega
      · have h2 : b % (a % b) < a % b := Nat.mod_lt _ (Nat.pos_of_ne_zero hr)
        have hd := Nat.div_add_mod b (a % b)
        have hq : 1 ≤ b / (a % b) := (Nat.one_le_div_iff (Nat.pos_of_ne_zero hr)).mpr (Nat.le_of_lt hlt)
        have hm : a % b ≤ (a % b) * (b / (a % b)) := Nat.le_mul_of_pos_right _ hq
        have half : 2 * (b % (a % b)) ≤ b := by omega
        have ih := eu_le n (a % b) (b % (a % b)) (by omega) hs
        have hl : (b % (a % b)).log2 + 1 ≤ b.log2 := by
          rw [Nat.le_log2 h, Nat.pow_succ]
          have := Nat.log2_self_le hs
          omega
        omega
theorem fmod_nat (a b : Nat) : Int.fmod (a : Int) (b : Int) = ((a % b : Nat) : Int) := (Int.ofNat_fmod a b).symm
section
variable {st : Store} {x y : Fr}
theorem mk_mul {i j : Int} (hi : Le i 4000) (hj : Le j 4000) : fMul (.int i) (.int j) st = .ok (.st, .int (i * j)) st := ev_mul (mul_ok hi hj)
theorem fraction_sum_ok (h1 : Le x.1 1999) (h2 : Le x.2 1999) (h3 : Le y.1 1999) (h4 : Le y.2 1999) (hx : x.2 ≠ 0) (hy : y.2 ≠ 0) :
    p_fraction_sum [frW x, frW y] st = .ok (.st, frW (nf (x.1 * y.2 + y.1 * x.2) (x.2 * y.2))) st := by
  have b1 : Le x.1 4000 := h1.mono (by decide)
  have b2 : Le x.2 4000 := h2.mono (by decide)
  have b3 : Le y.1 4000 := h3.mono (by decide)
  have b4 : Le y.2 4000 := h4.mono (by decide)
  have hf := fraction_of_ok (x.1 * y.2 + y.1 * x.2) (x.2 * y.2) st (((h1.mul h4).add (h3.mul h2)).mono (by decide)) ((h2.mul h4).mono (by decide)) (Int.mul_ne_zero hx hy)
  unfold p_fraction_sum b_fraction_sum
  simp [mk_mul b1 b4, mk_mul b3 b2, mk_mul b2 b4, hf]
theorem fraction_less_ok (h1 : Le x.1 1999) (h2 : Le x.2 1999) (h3 : Le y.1 1999) (h4 : Le y.2 1999) (hx : x.2 ≠ 0) (hy : y.2 ≠ 0) :
    p_fraction_less [frW x, frW y] st = .ok (.st, frW (nf (x.1 * y.2 - y.1 * x.2) (x.2 * y.2))) st := by
  have b1 : Le x.1 4000 := h1.mono (by decide)
  have b2 : Le x.2 4000 := h2.mono (by decide)
  have b3 : Le y.1 4000 := h3.mono (by decide)
  have b4 : Le y.2 4000 := h4.mono (by decide)
  have hf := fraction_of_ok (x.1 * y.2 - y.1 * x.2) (x.2 * y.2) st (((h1.mul h4).sub (h3.mul h2)).mono (by decide)) ((h2.mul h4).mono (by decide)) (Int.mul_ne_zero hx hy)
  unfold p_fraction_less b_fraction_less
  simp [mk_mul b1 b4, mk_mul b3 b2, mk_mul b2 b4, hf]
theorem fraction_times_ok (h1 : Le x.1 1999) (h2 : Le x.2 1999) (h3 : Le y.1 1999) (h4 : Le y.2 1999) (hx : x.2 ≠ 0) (hy : y.2 ≠ 0) :
    p_fraction_times [frW x, frW y] st = .ok (.st, frW (nf (x.1 * y.1) (x.2 * y.2))) st := by
  have b1 : Le x.1 4000 := h1.mono (by decide)
  have b2 : Le x.2 4000 := h2.mono (by decide)
  have b3 : Le y.1 4000 := h3.mono (by decide)
  have b4 : Le y.2 4000 := h4.mono (by decide)
  have hf := fraction_of_ok (x.1 * y.1) (x.2 * y.2) st ((h1.mul h3).mono (by decide)) ((h2.mul h4).mono (by decide)) (Int.mul_ne_zero hx hy)
  unfold p_fraction_times b_fraction_times
  simp [mk_mul b1 b3, mk_mul b2 b4, hf]
theorem fraction_by_ok (h1 : Le x.1 1999) (h2 : Le x.2 1999) (h3 : Le y.1 1999) (h4 : Le y.2 1999) (hx : x.2 ≠ 0) (hy : y.1 ≠ 0) :
    p_fraction_by [frW x, frW y] st = .ok (.st, frW (nf (x.1 * y.2) (x.2 * y.1))) st := by
  have b1 : Le x.1 4000 := h1.mono (by decide)
  have b2 : Le x.2 4000 := h2.mono (by decide)
  have b3 : Le y.1 4000 := h3.mono (by decide)
  have b4 : Le y.2 4000 := h4.mono (by decide)
  have hf := fraction_of_ok (x.1 * y.2) (x.2 * y.1) st ((h1.mul h4).mono (by decide)) ((h2.mul h3).mono (by decide)) (Int.mul_ne_zero hx hy)
  unfold p_fraction_by b_fraction_by
  simp [mk_mul b1 b4, mk_mul b2 b3, hf]
theorem is_below_ok (h1 : Le x.1 1999) (h2 : Le x.2 1999) (h3 : Le y.1 1999) (h4 : Le y.2 1999) :
    p_is_below [frW x, frW y] st = .ok (.st, .bl (decide (x.1 * y.2 < y.1 * x.2))) st := by
  have b1 : Le x.1 4000 := h1.mono (by decide)
  have b2 : Le x.2 4000 := h2.mono (by decide)
  have b3 : Le y.1 4000 := h3.mono (by decide)
  have b4 : Le y.2 4000 := h4.mono (by decide)
  unfold p_is_below b_is_below
  simp [mk_mul b1 b4, mk_mul b3 b2]
theorem abs_nat (p : Int) : (if p < 0 then -p else p) = (p.natAbs : Int) := by
  by_cases h : p < 0
  · rw [if_pos h]; omega
  · rw [if_neg h]; omega
theorem law_fraction_ok (p q : Int) (hp : Le p 4000) (hq : Le q 4000) (h : q ≠ 0) : p_law_fraction [.int p, .int q] st = .ok (.st, frW (nf p q)) st := by
  have hg : 0 < Nat.gcd p.natAbs q.natAbs := Nat.gcd_pos_of_pos_right _ (Int.natAbs_pos.mpr h)
  -- the loop
  have loop := while_run (c := bOf (eBin fGt (eVar 3) (eC (.int 0)))) (b := sPar [2, 3] (pCons (eVar 3) (pCons (eBin fMod (eC1 fInt (eVar 2)) (eVar 3)) pNil)))
    (fun k fr st' => ∃ a b : Nat, fr = [.val (.int p), .val (.int q), .val (.int a), .val (.int b)] ∧ st' = st ∧ k = eu a b ∧ Nat.gcd a b = Nat.gcd p.natAbs q.natAbs)
    (fun k fr st' ⟨a, b, e1, e2, e3, e4⟩ => by
      subst e1 e2
      by_cases hb : b = 0
      · subst hb
        exact .inl ⟨st', by simp, ⟨a, 0, rfl, rfl, e3, e4⟩, trivial⟩
      · refine .inr ⟨st', [.val (.int p), .val (.int q), .val (.int b), .val (.int (a % b : Nat))], st', eu b (a % b), ?_, ?_, ?_, b, a % b, rfl, rfl, rfl, ?_⟩
        · have hb' : 0 < b := Nat.pos_of_ne_zero hb
          simp [hb']
        · have hb' : (b : Int) ≠ 0 := by omega
          simp [ev_mod hb', fmod_nat, putsF]
        · rw [e3, eu.eq_def a b, dif_neg hb]; omega
        · rw [Nat.gcd_comm b, ← Nat.gcd_rec, Nat.gcd_comm]; exact e4) turns (eu p.natAbs q.natAbs) [.val (.int p), .val (.int q), .val (.int p.natAbs), .val (.int q.natAbs)] st
    (by
      have := eu_le q.natAbs p.natAbs q.natAbs (Nat.le_refl _) (by omega)
      have := log_small hq
      show _ < 1000000
      omega) ⟨_, _, rfl, rfl, rfl, rfl⟩
  obtain ⟨fr', st', j, e, ⟨a, b, e1, e2, e3, e4⟩, st0, e5⟩ := loop
  subst e1 e2
  have hb : b = 0 := by
    simp at e5
    omega
  subst hb
  have ha : a = Nat.gcd p.natAbs q.natAbs := by rw [← e4, Nat.gcd_zero_right]
  have hg1 : ((Nat.gcd p.natAbs q.natAbs : Nat) : Int) ≠ 0 := by omega
  have hg2 : -((Nat.gcd p.natAbs q.natAbs : Nat) : Int) ≠ 0 := by omega
  unfold p_law_fraction b_law_fraction nf
  by_cases c : q > 0
  · simp [abs_nat, putsF, sWhile, e, ha, c, ev_div (div_ok hp hg1), ev_div (div_ok hq hg1)]
  · simp [abs_nat, putsF, sWhile, e, ha, c, ev_div (div_ok hp hg2), ev_div (div_ok hq hg2)]
theorem law_plus_ok (h1 : Le x.1 1999) (h2 : Le x.2 1999) (h3 : Le y.1 1999) (h4 : Le y.2 1999) (hx : x.2 ≠ 0) (hy : y.2 ≠ 0) :
    p_law_plus [frW x, frW y] st = .ok (.st, frW (nf (x.1 * y.2 + y.1 * x.2) (x.2 * y.2))) st := by
  have b1 : Le x.1 4000 := h1.mono (by decide)
  have b2 : Le x.2 4000 := h2.mono (by decide)
  have b3 : Le y.1 4000 := h3.mono (by decide)
  have b4 : Le y.2 4000 := h4.mono (by decide)
  have hf := law_fraction_ok (st := st) (x.1 * y.2 + y.1 * x.2) (x.2 * y.2) (((h1.mul h4).add (h3.mul h2)).mono (by decide)) ((h2.mul h4).mono (by decide)) (Int.mul_ne_zero hx hy)
  unfold p_law_plus b_law_plus
  simp [mk_mul b1 b4, mk_mul b3 b2, mk_mul b2 b4, hf]
theorem law_by_ok (h1 : Le x.1 1999) (h2 : Le x.2 1999) (h3 : Le y.1 1999) (h4 : Le y.2 1999) (hx : x.2 ≠ 0) (hy : y.2 ≠ 0) :
    p_law_by [frW x, frW y] st = .ok (.st, frW (nf (x.1 * y.1) (x.2 * y.2))) st := by
  have b1 : Le x.1 4000 := h1.mono (by decide)
  have b2 : Le x.2 4000 := h2.mono (by decide)
  have b3 : Le y.1 4000 := h3.mono (by decide)
  have b4 : Le y.2 4000 := h4.mono (by decide)
  have hf := law_fraction_ok (st := st) (x.1 * y.1) (x.2 * y.2) ((h1.mul h3).mono (by decide)) ((h2.mul h4).mono (by decide)) (Int.mul_ne_zero hx hy)
  unfold p_law_by b_law_by
  simp [mk_mul b1 b3, mk_mul b2 b4, hf]
end
end Vy.K49

set_option Elab.async false
set_option linter.all false
set_option maxRecDepth 100000
set_option maxHeartbeats 1000000
/-! The law's source of numbers. -/
namespace Vy.K49
open PySem PySem.Spec PyProof.Rows L2
abbrev ksS : Kys := .k [.inr "cells", .inr "left", .inr "mixed", .inr "turn"]
section
variable {a b c d w : W}
@[simp] theorem get_cells : getW ksS [a, b, c, d] (.str "cells") = some (some a) := rfl
@[simp] theorem get_left : getW ksS [a, b, c, d] (.str "left") = some (some b) := rfl
@[simp] theorem get_mixed : getW ksS [a, b, c, d] (.str "mixed") = some (some c) := rfl
@[simp] theorem get_turn : getW ksS [a, b, c, d] (.str "turn") = some (some d) := rfl
@[simp] theorem put_left : putW ksS [a, b, c, d] (.str "left") w = some (ksS, [a, w, c, d]) := rfl
@[simp] theorem put_turn : putW ksS [a, b, c, d] (.str "turn") w = some (ksS, [a, b, c, w]) := rfl
end
/-- the source, its cells; other shared lists behind -/
def src (cells : List Int) (l m t : Int) (junk : Store) : Store := .lst (cells.map W.int) :: .dct ksS [.ref 0, .int l, .int m, .int t] :: junk
section
variable {cells : List Int} {l m t l' m' t' : Int} {junk : Store}
@[simp] theorem src_dct : dctOf (.ref 1) (src cells l m t junk) = some (ksS, [.ref 0, .int l, .int m, .int t]) := rfl
@[simp] theorem src_0 : (src cells l m t junk)[0]? = some (.lst (cells.map W.int)) := rfl
@[simp] theorem src_1 : (src cells l m t junk)[1]? = some (.dct ksS [.ref 0, .int l, .int m, .int t]) := rfl
@[simp] theorem src_set : (src cells l m t junk).set 1 (.dct ksS [.ref 0, .int l', .int m', .int t']) = src cells l' m' t' junk := rfl
@[simp] theorem src_cut : (src cells l m t junk).set 0 (.lst (cells.map W.int).dropLast) = src cells.dropLast l m t junk := by
  show (.lst (cells.map W.int).dropLast :: _ :: _ : Store) = .lst (cells.dropLast.map W.int) :: _ :: _
  rw [List.map_dropLast]
@[simp] theorem src_len : fLen (.ref 0) (src cells l m t junk) = .ok (.st, .int cells.length) (src cells l m t junk) := by
  show Res.ok (Kd.st, W.int (obLen (.lst (cells.map W.int)))) _ = _
  rw [show obLen (.lst (cells.map W.int)) = cells.length from List.length_map _]
end
/-- a source in any state -/
def Src (st : Store) : Prop := ∃ cells l m t junk, st = src cells l m t junk ∧ cells.length ≤ 63
theorem le40 : 10 ^ 40 < 2 ^ 200 := by decide
theorem div_few {i j : Int} (hj : Le j 40) (h : j ≠ 0) : divOk i j := by
  refine ⟨h, ?_⟩
  have a : j.natAbs.log2 < 200 := (Nat.log2_lt (by omega)).mpr (Nat.lt_of_le_of_lt hj le40)
  unfold Builtin.divisionGoesByPylong
  have e2 : (j == 0) = false := by simpa using h
  simp only [e2, Bool.false_eq_true, if_false, Bool.and_eq_false_iff, decide_eq_false_iff_not]
  omega
theorem pick_ok {st : Store} {most : Int} (S : Src st) (hm : Le most 40) : ∃ r st', p_law_pick [.ref 1, .int most] st = .ok (.st, .int r) st' ∧ Src st' ∧ st'.drop 2 = st.drop 2 ∧ 0 ≤ r ∧ (1 ≤ most → r < most) := by
  obtain ⟨cells, l, m, t, junk, rfl, hc⟩ := S
  unfold p_law_pick b_law_pick
  by_cases h2 : most < 2
  · exact ⟨0, _, by simp [h2], ⟨cells, l, m, t, junk, rfl, hc⟩, rfl, Int.le_refl 0, by omega⟩
  have h0 : most ≠ 0 := by omega
  have loop := while_run (c := bAnd (bOf (eBin fLt (eDGet (eVar 0) (eC (.str "left"))) (eC (.int 2)))) (bOf (eBin fGt (eC1 fLen (eVar 2)) (eC (.int 0))))) (b := sDPut 0 (eC (.str "left")) (ePopSh (eVar 2)))
    (fun k fr st' => ∃ cells l, fr = [.val (.ref 1), .val (.int most), .val (.ref 0), .no, .no, .no] ∧ st' = src cells l m t junk ∧ cells.length ≤ 63 ∧ k = cells.length)
    (fun k fr st' ⟨cells, l, e1, e2, e3, e4⟩ => by
      subst e1 e2
      by_cases hl : l < 2
      · by_cases hn : cells = []
        · exact .inl ⟨_, by simp [hl, hn], ⟨cells, l, rfl, rfl, e3, e4⟩, trivial⟩
        · have hn' : 0 < cells.length := List.length_pos_iff.mpr hn
          have hlast : (cells.map W.int)[cells.length - 1]? = some (.int (cells[cells.length - 1]'(by omega))) := by
            rw [List.getElem?_map, List.getElem?_eq_getElem (by omega)]; rfl
          refine .inr ⟨src cells l m t junk, _, src cells.dropLast (cells[cells.length - 1]'(by omega)) m t junk, cells.dropLast.length, by simp [hl, hn'], ?_, by rw [List.length_dropLast]; omega, cells.dropLast, _, rfl, rfl, by rw [List.length_dropLast]; omega, rfl⟩
          simp [hlast]
      · exact .inl ⟨_, by simp [hl], ⟨cells, l, rfl, rfl, e3, e4⟩, trivial⟩) turns cells.length [.val (.ref 1), .val (.int most), .val (.ref 0), .no, .no, .no] (src cells l m t junk)
    (by show _ < 1000000; omega) ⟨cells, l, rfl, rfl, hc, rfl⟩
  obtain ⟨fr', st', j, e, ⟨cells', l', e1, e2, e3, e4⟩, _⟩ := loop
  subst e1 e2
  by_cases h1 : l' > 1
  · refine ⟨l'.fmod most, src cells' (l'.fdiv most) m t junk, ?_, ⟨_, _, _, _, _, rfl, e3⟩, rfl, Int.fmod_nonneg_of_pos _ (by omega), fun _ => Int.fmod_lt_of_pos _ (by omega)⟩
    simp [h2, sWhile, e, h1, ev_div (div_few hm h0), ev_mod h0]
  · have b0 : 0 ≤ (m + (t + 1) * 104729).fmod 998244353 := Int.fmod_nonneg_of_pos _ (by decide)
    have b1 : (m + (t + 1) * 104729).fmod 998244353 < 998244353 := Int.fmod_lt_of_pos _ (by decide)
    have hmu : mulOk ((m + (t + 1) * 104729).fmod 998244353) ((m + (t + 1) * 104729).fmod 998244353) := .inr (.inl ⟨by omega, by omega⟩)
    have hm1 : mulOk (t + 1) 104729 := .inr (.inr ⟨by decide, by decide⟩)
    have hm2 : mulOk (t + 1) 17 := .inr (.inr ⟨by decide, by decide⟩)
    have hd : ∀ i : Int, divOk i 16 := fun i => div_few (by unfold Le; decide) (by decide)
    refine ⟨((((m + (t + 1) * 104729).fmod 998244353 * (m + (t + 1) * 104729).fmod 998244353 + (t + 1) * 17).fmod 2147483647).fdiv 16).fmod most, src cells' l' m (t + 1) junk, ?_, ⟨_, _, _, _, _, rfl, e3⟩, rfl, Int.fmod_nonneg_of_pos _ (by omega), fun _ => Int.fmod_lt_of_pos _ (by omega)⟩
    simp [h2, sWhile, e, h1, ev_mul hm1, ev_mul hm2, ev_mul hmu, ev_mod h0, ev_mod (show (998244353 : Int) ≠ 0 by decide), ev_mod (show (2147483647 : Int) ≠ 0 by decide), ev_div (hd _)]
end Vy.K49

set_option Elab.async false
set_option linter.all false
set_option maxRecDepth 100000
set_option maxHeartbeats 1000000
/-! Rows of powers with numbers: what stands at each, the canonical rows. -/
namespace Vy.Mean
open PySem PySem.Spec PyProof.Rows L2
abbrev Pw := List Int
abbrev MRow := Pw × Int
abbrev pwW (p : Pw) : W := .tup (p.map W.int)
abbrev rowW (r : MRow) : W := .tup [pwW r.1, .int r.2]
/-- the sum of the numbers at k -/
def coef : List MRow → Pw → Int
  | [], _ => 0
  | r :: rs, k => (if r.1 = k then r.2 else 0) + coef rs k
theorem coef_append : ∀ (a b : List MRow) (k : Pw), coef (a ++ b) k = coef a k + coef b k
  | [], b, k => by show coef b k = 0 + coef b k; omega
  | r :: a, b, k => by
    show _ + coef (a ++ b) k = (_ + coef a k) + coef b k
    rw [coef_append a b k]; omega
theorem coef_reverse (a : List MRow) (k : Pw) : coef a.reverse k = coef a k := by
  induction a with
  | nil => rfl
  | cons r a ih =>
    rw [List.reverse_cons, coef_append, ih]
    show coef a k + (_ + 0) = _ + coef a k
    omega
theorem coef_scale (c : Int) (a : List MRow) (k : Pw) : coef (a.map fun r => (r.1, c * r.2)) k = c * coef a k := by
  induction a with
  | nil => exact (Int.mul_zero c).symm
  | cons r a ih =>
    show (if r.1 = k then c * r.2 else 0) + coef (a.map fun r => (r.1, c * r.2)) k = c * ((if r.1 = k then r.2 else 0) + coef a k)
    rw [ih, Int.mul_add]
    by_cases h : r.1 = k
    · rw [if_pos h, if_pos h]
    · rw [if_neg h, if_neg h, Int.mul_zero]
theorem coef_not {a : List MRow} {k : Pw} (h : ∀ r ∈ a, r.1 ≠ k) : coef a k = 0 := by
  induction a with
  | nil => rfl
  | cons r a ih =>
    show (if r.1 = k then r.2 else 0) + coef a k = 0
    rw [if_neg (h r (List.mem_cons_self ..)), ih fun s hs => h s (List.mem_cons_of_mem _ hs)]
    rfl
theorem coef_perm {a b : List MRow} (p : a.Perm b) (k : Pw) : coef a k = coef b k := by
  induction p with
  | nil => rfl
  | cons r _ ih => show _ + coef _ k = _ + coef _ k; rw [ih]
  | swap r s l => show _ + (_ + coef l k) = _ + (_ + coef l k); omega
  | trans _ _ h1 h2 => exact h1.trans h2
/-- rising keys, no nought -/
structure Can (a : List MRow) : Prop where
  inc : a.Pairwise fun r s => r.1 < s.1
  nz : ∀ r ∈ a, r.2 ≠ 0
theorem Can.tail {r : MRow} {a : List MRow} (h : Can (r :: a)) : Can a := ⟨(List.pairwise_cons.mp h.inc).2, fun s hs => h.nz s (List.mem_cons_of_mem _ hs)⟩
theorem lt_ne {a b : Pw} (h : a < b) : a ≠ b := fun e => by subst e; exact List.lt_irrefl a h
theorem Can.head {r : MRow} {a : List MRow} (h : Can (r :: a)) : coef (r :: a) r.1 = r.2 := by
  show (if r.1 = r.1 then r.2 else 0) + coef a r.1 = r.2
  rw [if_pos rfl, coef_not fun s hs => (lt_ne ((List.pairwise_cons.mp h.inc).1 s hs)).symm]
  omega
/-- below the first key nothing stands -/
theorem Can.below {r : MRow} {a : List MRow} (h : Can (r :: a)) {k : Pw} (hk : k < r.1) : coef (r :: a) k = 0 := coef_not fun s hs => by
  rcases List.mem_cons.mp hs with rfl | hs
  · exact (lt_ne hk).symm
  · exact (lt_ne (List.lt_trans hk ((List.pairwise_cons.mp h.inc).1 s hs))).symm
theorem can_eq : ∀ {a b : List MRow}, Can a → Can b → (∀ k, coef a k = coef b k) → a = b
  | [], [], _, _, _ => rfl
  | [], s :: b, _, hb, h => by
    have e := h s.1
    rw [hb.head] at e
    exact absurd e.symm (hb.nz s (List.mem_cons_self ..))
  | r :: a, [], ha, _, h => by
    have e := h r.1
    rw [ha.head] at e
    exact absurd e (ha.nz r (List.mem_cons_self ..))
  | r :: a, s :: b, ha, hb, h => by
    have ek : r.1 = s.1 := by
      by_cases c1 : r.1 < s.1
      · have e := h r.1
        rw [ha.head, hb.below c1] at e
        exact absurd e (ha.nz r (List.mem_cons_self ..))
      · by_cases c2 : s.1 < r.1
        · have e := h s.1
          rw [hb.head, ha.below c2] at e
          exact absurd e.symm (hb.nz s (List.mem_cons_self ..))
        · exact List.le_antisymm (List.not_lt.mp c2) (List.not_lt.mp c1)
    have ev : r.2 = s.2 := by
      have e := h r.1
      rw [ha.head, ek, hb.head] at e
      exact e
    have er : r = s := Prod.ext ek ev
    subst er
    rw [can_eq ha.tail hb.tail fun k => by
      have e := h k
      have e : (if r.1 = k then r.2 else 0) + coef a k = (if r.1 = k then r.2 else 0) + coef b k := e
      omega]

/-! ### gathering -/
def bump : List MRow → Pw → Int → List MRow
  | [], k, n => [(k, n)]
  | r :: a, k, n => if r.1 = k then (r.1, r.2 + n) :: a else r :: bump a k n
def gather (rs : List MRow) : List MRow := rs.foldl (fun acc r => bump acc r.1 r.2) []
theorem coef_bump (a : List MRow) (k j : Pw) (n : Int) : coef (bump a k n) j = coef a j + if k = j then n else 0 := by
  induction a with
  | nil => show (if k = j then n else 0) + 0 = 0 + _; omega
  | cons r a ih =>
    unfold bump
    by_cases h : r.1 = k
    · rw [if_pos h]
      show (if r.1 = j then r.2 + n else 0) + coef a j = (if r.1 = j then r.2 else 0) + coef a j + _
      rw [h]
      by_cases c : k = j
      · rw [if_pos c, if_pos c, if_pos c]; omega
      · rw [if_neg c, if_neg c, if_neg c]; omega
    · rw [if_neg h]
      show _ + coef (bump a k n) j = _ + coef a j + _
      rw [ih]; omega
theorem mem_bump {a : List MRow} {k : Pw} {n : Int} {p : Pw} (h : p ∈ (bump a k n).map (·.1)) : p = k ∨ p ∈ a.map (·.1) := by
  induction a with
  | nil => exact .inl (by simpa [bump] using h)
  | cons r a ih =>
    unfold bump at h
    by_cases c : r.1 = k
    · rw [if_pos c] at h; exact .inr h
    · rw [if_neg c] at h
      rcases List.mem_cons.mp h with rfl | h
      · exact .inr (List.mem_cons_self ..)
      · exact (ih h).imp id fun z => List.mem_cons_of_mem _ z
theorem nodup_bump {a : List MRow} {k : Pw} {n : Int} (h : (a.map (·.1)).Nodup) : ((bump a k n).map (·.1)).Nodup := by
  induction a with
  | nil => simp [bump]
  | cons r a ih =>
    unfold bump
    rw [List.map_cons, List.nodup_cons] at h
    by_cases c : r.1 = k
    · rw [if_pos c]; exact List.nodup_cons.mpr h
    · rw [if_neg c, List.map_cons, List.nodup_cons]
      refine ⟨fun z => ?_, ih h.2⟩
      rcases mem_bump z with e | e
      · exact c e
      · exact h.1 e
theorem length_bump (a : List MRow) (k : Pw) (n : Int) : (bump a k n).length ≤ a.length + 1 := by
  induction a with
  | nil => exact Nat.le_refl _
  | cons r a ih =>
    unfold bump
    by_cases c : r.1 = k
    · rw [if_pos c]; simp
    · rw [if_neg c, List.length_cons, List.length_cons]; omega
/-- what stands at a key -/
def look : List MRow → Pw → Option Int
  | [], _ => none
  | r :: a, k => if r.1 = k then some r.2 else look a k
theorem look_coef {a : List MRow} (h : (a.map (·.1)).Nodup) (k : Pw) : (look a k).getD 0 = coef a k := by
  induction a with
  | nil => rfl
  | cons r a ih =>
    rw [List.map_cons, List.nodup_cons] at h
    show (if r.1 = k then some r.2 else look a k).getD 0 = (if r.1 = k then r.2 else 0) + coef a k
    by_cases c : r.1 = k
    · rw [if_pos c, if_pos c, coef_not fun s hs e => h.1 (by rw [c, ← e]; exact List.mem_map.mpr ⟨s, hs, rfl⟩)]
      show r.2 = r.2 + 0
      omega
    · rw [if_neg c, if_neg c, ih h.2]; omega
theorem look_mem {a : List MRow} (h : (a.map (·.1)).Nodup) {r : MRow} (hr : r ∈ a) : look a r.1 = some r.2 := by
  induction a with
  | nil => cases hr
  | cons s a ih =>
    rw [List.map_cons, List.nodup_cons] at h
    unfold look
    rcases List.mem_cons.mp hr with rfl | hr
    · rw [if_pos rfl]
    · rw [if_neg fun e => h.1 (by rw [e]; exact List.mem_map.mpr ⟨r, hr, rfl⟩), ih h.2 hr]
structure Gath (acc rs : List MRow) : Prop where
  nd : (acc.map (·.1)).Nodup
  co : ∀ k, coef acc k = coef rs k
  len : acc.length ≤ rs.length
  keys : ∀ p ∈ acc.map (·.1), p ∈ rs.map (·.1)
theorem Gath.nil : Gath [] [] := ⟨List.nodup_nil, fun _ => rfl, Nat.le_refl _, fun _ h => h⟩
theorem Gath.step {acc rs : List MRow} (g : Gath acc rs) (r : MRow) : Gath (bump acc r.1 r.2) (rs ++ [r]) where
  nd := nodup_bump g.nd
  co := fun k => by
    rw [coef_bump, coef_append, g.co]
    show _ = _ + ((if r.1 = k then r.2 else 0) + 0)
    omega
  len := by
    have := length_bump acc r.1 r.2
    have := g.len
    rw [List.length_append, List.length_singleton]; omega
  keys := fun p h => by
    rw [List.map_append]
    rcases mem_bump h with rfl | h
    · exact List.mem_append_right _ (List.mem_singleton.mpr rfl)
    · exact List.mem_append_left _ (g.keys p h)

/-! ### the dict of them -/
def kT (p : Pw) : List Key := p.map Sum.inl
theorem kT_inj {p r : Pw} : kT p = kT r ↔ p = r := ⟨fun h => (List.map_inj_right (fun a b e => Sum.inl.inj e)).mp h, fun h => by rw [h]⟩
abbrev dctW (a : List MRow) : Kys × List W := (.t (a.map fun r => kT r.1), a.map fun r => .int r.2)
theorem keysOf_pw (p : Pw) : keysOf (p.map W.int) = some (kT p) := by
  induction p with
  | nil => rfl
  | cons x p ih =>
    show (match keyOf (.int x), keysOf (p.map W.int) with | some k, some ks => some (k :: ks) | _, _ => none) = _
    rw [ih]
    rfl
theorem get_row (a : List MRow) (p : Pw) : getW (dctW a).1 (dctW a).2 (pwW p) = some ((look a p).map W.int) := by
  show (keysOf (p.map W.int)).map _ = _
  rw [keysOf_pw]
  show some (getKW _ _ (kT p)) = _
  congr 1
  induction a with
  | nil => rfl
  | cons r a ih =>
    show (if kT r.1 = kT p then some (W.int r.2) else getKW _ _ (kT p)) = (if r.1 = p then some r.2 else look a p).map W.int
    by_cases c : r.1 = p
    · rw [if_pos (kT_inj.mpr c), if_pos c]; rfl
    · rw [if_neg fun z => c (kT_inj.mp z), if_neg c]
      exact ih
theorem put_in {κ : Type} [DecidableEq κ] {α : Type} {l : List κ} {ws : List α} {k : κ} {w : α} (h : k ∈ l) : putKW l ws k w = (l, List.zipWith (fun x y => if x = k then w else y) l ws) := if_pos h
theorem put_out {κ : Type} [DecidableEq κ] {α : Type} {l : List κ} {ws : List α} {k : κ} {w : α} (h : ¬ k ∈ l) : putKW l ws k w = (l ++ [k], ws ++ [w]) := if_neg h
theorem zip_keep {p : Pw} {w : W} : ∀ {a : List MRow}, (∀ s ∈ a, ¬ kT s.1 = kT p) → List.zipWith (fun x y => if x = kT p then w else y) (a.map fun r => kT r.1) (a.map fun r => W.int r.2) = a.map fun r => W.int r.2
  | [], _ => rfl
  | s :: a, nin => by
    show (if kT s.1 = kT p then w else W.int s.2) :: _ = W.int s.2 :: _
    rw [if_neg (nin s (List.mem_cons_self ..)), zip_keep fun t ht => nin t (List.mem_cons_of_mem _ ht)]
theorem put_row {a : List MRow} (h : (a.map (·.1)).Nodup) (p : Pw) (n : Int) : putW (dctW a).1 (dctW a).2 (pwW p) (.int ((look a p).getD 0 + n)) = some (dctW (bump a p n)) := by
  show (keysOf (p.map W.int)).map _ = _
  rw [keysOf_pw]
  show some (let r := putKW (a.map fun r => kT r.1) (a.map fun r => W.int r.2) (kT p) (.int ((look a p).getD 0 + n)); (Kys.t r.1, r.2)) = _
  have key : putKW (a.map fun r => kT r.1) (a.map fun r => W.int r.2) (kT p) (.int ((look a p).getD 0 + n)) = ((bump a p n).map (fun r => kT r.1), (bump a p n).map fun r => W.int r.2) := by
    induction a with
    | nil => simp [putKW, bump, look]
    | cons r a ih =>
      rw [List.map_cons, List.nodup_cons] at h
      have ih := ih h.2
      unfold bump look
      by_cases c : r.1 = p
      · have c' : kT r.1 = kT p := kT_inj.mpr c
        have nin : ∀ s ∈ a, ¬ kT s.1 = kT p := fun s hs z => h.1 (by rw [c, ← kT_inj.mp z]; exact List.mem_map.mpr ⟨s, hs, rfl⟩)
        rw [put_in (by rw [List.map_cons]; exact c' ▸ List.mem_cons_self ..), if_pos c, if_pos c]
        show (kT r.1 :: _, (if kT r.1 = kT p then W.int (r.2 + n) else W.int r.2) :: List.zipWith _ (a.map fun r => kT r.1) (a.map fun r => W.int r.2)) = (kT r.1 :: _, W.int (r.2 + n) :: a.map fun r => W.int r.2)
        rw [if_pos c', zip_keep nin]
      · have c' : ¬ kT r.1 = kT p := fun z => c (kT_inj.mp z)
        rw [if_neg c, if_neg c]
        by_cases m : kT p ∈ a.map fun r => kT r.1
        · rw [put_in m] at ih
          obtain ⟨e1, e2⟩ := Prod.mk.inj ih
          rw [put_in (by rw [List.map_cons]; exact List.mem_cons_of_mem _ m)]
          show (kT r.1 :: _, (if kT r.1 = kT p then _ else W.int r.2) :: _) = (kT r.1 :: _, W.int r.2 :: _)
          rw [if_neg c', e2, ← e1]
        · rw [put_out m] at ih
          obtain ⟨e1, e2⟩ := Prod.mk.inj ih
          rw [put_out (by rw [List.map_cons]; exact fun z => (List.mem_cons.mp z).elim (fun z => c' z.symm) m)]
          show (kT r.1 :: (_ ++ _), W.int r.2 :: (_ ++ _)) = (kT r.1 :: _, W.int r.2 :: _)
          rw [e1, e2]
  rw [key]
end Vy.Mean

set_option Elab.async false
set_option linter.all false
set_option maxRecDepth 100000
set_option maxHeartbeats 1000000
/-! Sorting rows. -/
namespace Vy.Mean
open PySem PySem.Spec PyProof.Rows L2
theorem eqv_ints : ∀ xs ys : List Int, PyData.eqvAll (xs.map .int) (ys.map .int) = decide (xs = ys)
  | [], [] => by simp [PyData.eqvAll]
  | [], y :: ys => by simp [PyData.eqvAll]
  | x :: xs, [] => by simp [PyData.eqvAll]
  | x :: xs, y :: ys => by
    show PyData.eqvAll (.int x :: xs.map .int) (.int y :: ys.map .int) = _
    rw [PyData.eqvAll, eqv_ints xs ys]
    by_cases h1 : x = y <;> by_cases h2 : xs = ys <;> simp [PyData.eqv, h1, h2]
theorem toD_pw (p : Pw) : (pwW p).toD = .tuple (p.map .int) := by
  show PyData.tuple (toDs (p.map W.int)) = _
  rw [toDs_map, List.map_map]
  rfl
theorem toD_row (r : MRow) : (rowW r).toD = .tuple [.tuple (r.1.map .int), .int r.2] := by
  show PyData.tuple [(pwW r.1).toD, .int r.2] = _
  rw [toD_pw]
theorem pw_lt (p q : Pw) : PySem.W.dataLt (pwW p).toD (pwW q).toD = decide (p < q) := by
  rw [toD_pw, toD_pw]
  exact PySem.W.dataLt_ints p q
theorem pw_le (p q : Pw) : PySem.W.dataLe false W.toD (pwW p) (pwW q) = decide (p ≤ q) := by
  rw [PySem.W.dataLe_eq]
  show (!PySem.W.dataLt (pwW q).toD (pwW p).toD) = _
  rw [pw_lt]
  by_cases h : q < p
  · rw [decide_eq_true h, decide_eq_false (List.not_le.mpr h)]; rfl
  · rw [decide_eq_false h, decide_eq_true (List.not_lt.mp h)]; rfl
theorem alike_pw (p q : Pw) : PySem.W.alike (pwW p).toD (pwW q).toD = true := by
  rw [toD_pw, toD_pw]
  show PySem.W.alikeAll (p.map .int) (q.map .int) = true
  exact PySem.W.alike_ints p q
theorem alike_row (r s : MRow) : PySem.W.alike (rowW r).toD (rowW s).toD = true := by
  show PySem.W.alike (.tuple [(pwW r.1).toD, .int r.2]) (.tuple [(pwW s.1).toD, .int s.2]) = true
  unfold PySem.W.alike
  simp only [PySem.W.alikeAll, alike_pw, PySem.W.alike, Bool.and_self]
theorem row_le (r s : MRow) (h : r.1 ≠ s.1) : PySem.W.dataLe false W.toD (rowW r) (rowW s) = decide (r.1 < s.1) := by
  rw [PySem.W.dataLe_eq]
  show (!PySem.W.dataLt (.tuple [(pwW s.1).toD, .int s.2]) (.tuple [(pwW r.1).toD, .int r.2])) = _
  rw [PySem.W.dataLt_pair (alike_pw s.1 r.1) (by rfl)]
  have e : PyData.eqv (pwW s.1).toD (pwW r.1).toD = false := by
    rw [toD_pw, toD_pw]
    show PyData.eqvAll _ _ = false
    rw [eqv_ints]
    exact decide_eq_false (Ne.symm h)
  rw [e, if_neg Bool.false_ne_true, pw_lt]
  by_cases c : s.1 < r.1
  · rw [decide_eq_true c, decide_eq_false (fun z => List.lt_irrefl _ (List.lt_trans c z))]; rfl
  · rw [decide_eq_false c, decide_eq_true]
    · rfl
    · exact Classical.byContradiction fun z => h (List.le_antisymm (List.not_lt.mp c) (List.not_lt.mp z))
theorem isD_pw (p : Pw) : (pwW p).isD = true := by
  show isDs (p.map W.int) = true
  induction p with
  | nil => rfl
  | cons x p ih => show (true && isDs (p.map W.int)) = true; rw [ih]; rfl
theorem isDs_of {ws : List W} (h : ∀ w ∈ ws, w.isD = true) : isDs ws = true := by
  induction ws with
  | nil => rfl
  | cons w ws ih => show (w.isD && isDs ws) = true; rw [h w (List.mem_cons_self ..), ih fun u hu => h u (List.mem_cons_of_mem _ hu)]; rfl
theorem isD_row (r : MRow) : (rowW r).isD = true := by
  show isDs [pwW r.1, .int r.2] = true
  exact isDs_of fun w hw => by
    rcases List.mem_cons.mp hw with rfl | hw
    · exact isD_pw _
    · rw [List.mem_singleton.mp hw]; rfl
theorem depth_pw (p : Pw) : (pwW p).toD.depth ≤ 1 := by
  rw [toD_pw]
  unfold PyData.depth
  rw [PySem.W.depth_ints]
  exact Nat.le_refl _
theorem depth_row (r : MRow) : (rowW r).toD.depth ≤ 2 := by
  have := depth_pw r.1
  show PyData.depth (.tuple [(pwW r.1).toD, .int r.2]) ≤ 2
  simp only [PyData.depth, PyData.depthAll]
  omega
theorem ok_rows {l : List MRow} (hl : l.length ≤ sizeLine) : SortOk (l.map rowW) := by
  refine ⟨isDs_of fun w hw => ?_, ?_, .inl fun d hd => ?_, fun w hw => ?_, by rw [List.length_map]; exact hl⟩
  · obtain ⟨r, _, rfl⟩ := List.mem_map.mp hw
    exact isD_row r
  · rw [List.map_map]
    exact PySem.W.AllAlike.of fun r s => alike_row r s
  · rw [List.map_map] at hd
    obtain ⟨r, _, rfl⟩ := List.mem_map.mp hd
    exact ⟨_, _, rfl⟩
  · obtain ⟨r, _, rfl⟩ := List.mem_map.mp hw
    have := depth_row r
    omega
theorem ok_keys {l : List Pw} (hl : l.length ≤ sizeLine) (hn : ∀ p ∈ l, p ≠ []) : SortOk (l.map pwW) := by
  refine ⟨isDs_of fun w hw => ?_, ?_, .inl fun d hd => ?_, fun w hw => ?_, by rw [List.length_map]; exact hl⟩
  · obtain ⟨r, _, rfl⟩ := List.mem_map.mp hw
    exact isD_pw r
  · rw [List.map_map]
    exact PySem.W.AllAlike.of fun r s => alike_pw r s
  · rw [List.map_map] at hd
    obtain ⟨r, hr, rfl⟩ := List.mem_map.mp hd
    show ∃ x s, (pwW r).toD = _
    rw [toD_pw]
    cases r with
    | nil => exact absurd rfl (hn _ hr)
    | cons x r => exact ⟨_, _, rfl⟩
  · obtain ⟨r, _, rfl⟩ := List.mem_map.mp hw
    have := depth_pw r
    omega
theorem not_le {a b : Pw} (h : ¬ a ≤ b) : b < a := List.not_le.mp h
theorem keys_sorted (l : List Pw) (hn : l.Nodup) : ∃ l' : List Pw, sortedW (l.map pwW) = l'.map pwW ∧ l'.Perm l ∧ l'.Pairwise (· < ·) := by
  refine ⟨l.mergeSort fun p q => decide (p ≤ q), ?_, List.mergeSort_perm _ _, ?_⟩
  · exact (List.map_mergeSort (r := fun p q : Pw => decide (p ≤ q)) (s := PySem.W.dataLe false W.toD) (f := pwW) fun p _ q _ => (pw_le p q).symm).symm
  · have hp : (l.mergeSort fun p q => decide (p ≤ q)).Pairwise (fun p q => decide (p ≤ q) = true) := List.pairwise_mergeSort (le := fun p q : Pw => decide (p ≤ q))
      (fun a b c h1 h2 => decide_eq_true (List.le_trans (of_decide_eq_true h1) (of_decide_eq_true h2)))
      (fun a b => by rcases List.le_total a b with h | h <;> simp [h]) l
    have nd : (l.mergeSort fun p q => decide (p ≤ q)).Nodup := (List.mergeSort_perm _ _).nodup_iff.mpr hn
    refine (hp.and nd).imp fun {p q} h => ?_
    exact Classical.byContradiction fun z => h.2 (List.le_antisymm (of_decide_eq_true h.1) (List.not_lt.mp z))
theorem rows_sorted (l : List MRow) (hn : (l.map (·.1)).Nodup) : ∃ l' : List MRow, sortedW (l.map rowW) = l'.map rowW ∧ l'.Perm l ∧ l'.Pairwise (fun r s => r.1 < s.1) := by
  have inj : ∀ r ∈ l, ∀ s ∈ l, r.1 = s.1 → r = s := fun r hr s hs e => by
    have a := look_mem hn hr
    have b := look_mem hn hs
    rw [e, b] at a
    exact Prod.ext e (Option.some.inj a).symm
  have le_self : ∀ r : MRow, PySem.W.dataLe false W.toD (rowW r) (rowW r) = true := fun r => by
    rw [PySem.W.dataLe_eq]
    show (!PySem.W.dataLt _ _) = true
    have : PySem.W.dataLt (rowW r).toD (rowW r).toD = false := lex_irrefl _
    rw [this]; rfl
  have ord : ∀ r ∈ l, ∀ s ∈ l, decide (r.1 ≤ s.1) = PySem.W.dataLe false W.toD (rowW r) (rowW s) := fun r hr s hs => by
    by_cases h : r.1 = s.1
    · rw [inj r hr s hs h, le_self, decide_eq_true (List.le_refl _)]
    · rw [row_le r s h]
      by_cases c : r.1 < s.1
      · rw [decide_eq_true c, decide_eq_true (List.le_of_lt c)]
      · rw [decide_eq_false c, decide_eq_false fun z => h (List.le_antisymm z (List.not_lt.mp c))]
  refine ⟨l.mergeSort fun r s => decide (r.1 ≤ s.1), ?_, List.mergeSort_perm _ _, ?_⟩
  · exact (List.map_mergeSort (r := fun r s : MRow => decide (r.1 ≤ s.1)) (s := PySem.W.dataLe false W.toD) (f := rowW) ord).symm
  · have hp : (l.mergeSort fun r s => decide (r.1 ≤ s.1)).Pairwise (fun r s => decide (r.1 ≤ s.1) = true) := List.pairwise_mergeSort (le := fun r s : MRow => decide (r.1 ≤ s.1))
      (fun a b c h1 h2 => decide_eq_true (List.le_trans (of_decide_eq_true h1) (of_decide_eq_true h2)))
      (fun a b => by rcases List.le_total a.1 b.1 with h | h <;> simp [h]) l
    have nd : ((l.mergeSort fun r s => decide (r.1 ≤ s.1)).map (·.1)).Nodup := ((List.mergeSort_perm _ _).map _).nodup_iff.mpr hn
    have nd2 : (l.mergeSort fun r s => decide (r.1 ≤ s.1)).Pairwise (fun r s => r.1 ≠ s.1) := List.pairwise_map.mp nd
    refine (hp.and nd2).imp fun {p q} h => ?_
    exact Classical.byContradiction fun z => h.2 (List.le_antisymm (of_decide_eq_true h.1) (List.not_lt.mp z))
end Vy.Mean

set_option Elab.async false
set_option linter.all false
set_option maxRecDepth 100000
set_option maxHeartbeats 1000000
/-! Rows gathered by the program and by the law. -/
namespace Vy.K49
open PySem PySem.Spec PyProof.Rows L2 Vy.Mean
theorem ev_ne_int {i j : Int} {st : Store} : fNe (.int i) (.int j) st = .ok (.st, .bl (!decide (i = j))) st := by
  simp [fNe, wEq, wV, scal]
theorem tkey_kT (p : Pw) : tkeyW (kT p) = pwW p := by
  show W.tup ((p.map Sum.inl).map keyW) = .tup (p.map W.int)
  rw [List.map_map]
  rfl
theorem pairs_rows (a : List MRow) : pairsW (dctW a).1 (dctW a).2 = a.map rowW := by
  show List.zipWith _ (a.map fun r => kT r.1) (a.map fun r => W.int r.2) = _
  induction a with
  | nil => rfl
  | cons r a ih => show W.tup [tkeyW (kT r.1), W.int r.2] :: _ = rowW r :: _; rw [tkey_kT, ih]
section
variable {st : Store} {w : W} {x y : Sl} {rs : List MRow}
theorem gather_step {acc : List MRow} (h : (acc.map (·.1)).Nodup) (hl : acc.length < sizeLine) (r : MRow) :
    (sDPut 1 (eVar 2) (eBin fAdd (eGet2 (eVar 1) (eVar 2) (eC (.int 0))) (eVar 3))) [.val w, .own (.dct (dctW acc).1 (dctW acc).2), .val (pwW r.1), .val (.int r.2)] st =
      .ok (.nx [.val w, .own (.dct (dctW (bump acc r.1 r.2)).1 (dctW (bump acc r.1 r.2)).2), .val (pwW r.1), .val (.int r.2)]) st := by
  have hp := put_row h r.1 r.2
  have hg := get_row acc r.1
  have hl' : (dctW acc).2.length < 16777216 := by rw [List.length_map, ← sizeLine_eq]; exact hl
  cases hk : look acc r.1 with
  | none =>
    rw [hk] at hp hg
    have hp' : putW (dctW acc).1 (dctW acc).2 (pwW r.1) (.int (0 + r.2)) = some (dctW (bump acc r.1 r.2)) := hp
    simp only [ev_dput, ev_bin, ev_get2, ev_var, ev_c, ev_bind, List.getElem?_cons_zero, List.getElem?_cons_succ, hg, Option.map_none, ev_add, ev_keep_st, if_true, ev_size2, hl', ev_toW_d, hp', List.set_cons_succ, List.set_cons_zero]
  | some v =>
    rw [hk] at hp hg
    have hp' : putW (dctW acc).1 (dctW acc).2 (pwW r.1) (.int (v + r.2)) = some (dctW (bump acc r.1 r.2)) := hp
    simp only [ev_dput, ev_bin, ev_get2, ev_var, ev_c, ev_bind, List.getElem?_cons_zero, List.getElem?_cons_succ, hg, Option.map_some, ev_add, ev_keep_st, if_true, ev_size2, hl', ev_toW_d, hp', List.set_cons_succ, List.set_cons_zero]
theorem gather_loop (hl : rs.length ≤ sizeLine) : ∃ (acc : List MRow) (x y : Sl), Gath acc rs ∧ isOwn (some x) = false ∧ isOwn (some y) = false ∧
    forL (gTp 2 (gsCons (gN 2) (gsCons (gN 3) gsNil))) (sDPut 1 (eVar 2) (eBin fAdd (eGet2 (eVar 1) (eVar 2) (eC (.int 0))) (eVar 3))) (rs.map rowW) [.val w, .own (.dct (.t []) []), .no, .no] st =
      .ok (.nx [.val w, .own (.dct (dctW acc).1 (dctW acc).2), x, y]) st := by
  obtain ⟨fr', st', e, acc, x, y, rfl, rfl, g, hx, hy⟩ := for_run (q := gTp 2 (gsCons (gN 2) (gsCons (gN 3) gsNil))) (b := sDPut 1 (eVar 2) (eBin fAdd (eGet2 (eVar 1) (eVar 2) (eC (.int 0))) (eVar 3)))
    (fun k fr st' => ∃ (acc : List MRow) (x y : Sl), fr = [.val w, .own (.dct (dctW acc).1 (dctW acc).2), x, y] ∧ st' = st ∧ Gath acc (rs.take k) ∧ isOwn (some x) = false ∧ isOwn (some y) = false) (rs.map rowW) 0 [.val w, .own (.dct (.t []) []), .no, .no] st
    ⟨[], .no, .no, rfl, rfl, Gath.nil, rfl, rfl⟩ fun j u fr st' hu ⟨acc, x, y, e1, e2, g, _, _⟩ => by
      subst e1 e2
      rw [List.getElem?_map] at hu
      cases hr : rs[j]? with
      | none => rw [hr] at hu; cases hu
      | some r =>
        rw [hr] at hu
        cases hu
        have hj := (List.getElem?_eq_some_iff.mp hr).1
        have hacc : acc.length < sizeLine := by
          have := g.len
          rw [List.length_take] at this
          omega
        refine ⟨[.val w, .own (.dct (dctW acc).1 (dctW acc).2), .val (pwW r.1), .val (.int r.2)], _, st', ?_, gather_step g.nd hacc r, bump acc r.1 r.2, _, _, rfl, rfl, ?_, rfl, rfl⟩
        · simp
        · have := g.step r
          rw [Nat.zero_add] at this ⊢
          rw [List.take_add_one, hr]
          exact this
  rw [Nat.zero_add, List.length_map, List.take_length] at g
  exact ⟨acc, x, y, g, hx, hy, e⟩
def nzW : W → Bool
  | .tup [_, .int n] => !decide (n = 0)
  | _ => false
theorem filter_rows (a : List MRow) : ((a.map rowW).filter nzW).map id = (a.filter fun r => !decide (r.2 = 0)).map rowW := by
  rw [List.map_id, List.filter_map]
  rfl
/-- the rows sorted, without noughts, are the canonical ones -/
theorem can_of {acc l' : List MRow} (g : Gath acc rs) (hp : l'.Perm (acc.filter fun r => !decide (r.2 = 0))) (hs : l'.Pairwise fun r s => r.1 < s.1) : Can l' ∧ ∀ k, coef l' k = coef rs k := by
  refine ⟨⟨hs, fun r hr => ?_⟩, fun k => ?_⟩
  · have := (List.mem_filter.mp (hp.mem_iff.mp hr)).2
    simpa using this
  · rw [coef_perm hp, ← g.co]
    clear g hs hp
    induction acc with
    | nil => rfl
    | cons r a ih =>
      by_cases c : r.2 = 0
      · rw [List.filter_cons_of_neg (by simp [c]), ih]
        show _ = (if r.1 = k then r.2 else 0) + coef a k
        rw [c]
        by_cases d : r.1 = k
        · rw [if_pos d]; omega
        · rw [if_neg d]; omega
      · rw [List.filter_cons_of_pos (by simp [c])]
        show _ + coef _ k = _ + coef a k
        rw [ih]
/-- mean_of_rows, law_put: the canonical rows -/
def Gives (f : PFn) (w : W) (rs : List MRow) (st : Store) : Prop := ∃ a : List MRow, Can a ∧ (∀ k, coef a k = coef rs k) ∧ (∀ p ∈ a.map (·.1), p ∈ rs.map (·.1)) ∧ a.length ≤ rs.length ∧ f [w] st = .ok (.st, .tup (a.map rowW)) st
theorem sub_keys {acc l' : List MRow} (g : Gath acc rs) (hp : l'.Perm (acc.filter fun r => !decide (r.2 = 0))) : (∀ p ∈ l'.map (·.1), p ∈ rs.map (·.1)) ∧ l'.length ≤ rs.length := by
  refine ⟨fun p h => g.keys p ?_, ?_⟩
  · obtain ⟨r, hr, rfl⟩ := List.mem_map.mp h
    exact List.mem_map.mpr ⟨r, (List.mem_filter.mp (hp.mem_iff.mp hr)).1, rfl⟩
  · rw [hp.length_eq]
    exact Nat.le_trans (List.length_filter_le _ _) g.len
theorem mean_of_rows_ok (hw : seqOf w = some (rs.map rowW)) (hl : rs.length ≤ sizeLine) : Gives p_mean_of_rows w rs st := by
  obtain ⟨acc, x, y, g, hx, hy, e⟩ := gather_loop (w := w) (st := st) hl
  have hal : acc.length ≤ sizeLine := Nat.le_trans g.len hl
  have nd : ((acc.filter fun r => !decide (r.2 = 0)).map (·.1)).Nodup := (List.filter_sublist.map _).nodup g.nd
  obtain ⟨a, ea, hp, hs⟩ := rows_sorted _ nd
  obtain ⟨hc, hco⟩ := can_of g hp hs
  obtain ⟨hk, hlen⟩ := sub_keys g hp
  have ok := ok_rows (l := acc.filter fun r => !decide (r.2 = 0)) (Nat.le_trans (List.length_filter_le _ _) hal)
  have cr := comp_run (q := gTp 2 (gsCons (gN 2) (gsCons (gN 3) gsNil))) (c := bOf (eBin fNe (eVar 3) (eC (.int 0)))) (el := eTup (aCons (eVar 2) (aCons (eVar 3) aNil))) (st := st) (fr := [.val w, .no, .no, .no]) nzW id (acc.map rowW) [] (by simpa using hal) fun u hu => by
    obtain ⟨r, _, rfl⟩ := List.mem_map.mp hu
    refine ⟨[.val w, .no, .val (pwW r.1), .val (.int r.2)], by simp, by simp [ev_ne_int, nzW], fun _ => ⟨.st, by simp, rfl⟩⟩
  rw [filter_rows, List.nil_append] at cr
  refine ⟨a, hc, hco, hk, hlen, ?_⟩
  have no : noOwn [2, 3] [.val w, .no, x, y] = true := by
    show (!isOwn (some x) && (!isOwn (some y) && true)) = true
    rw [hx, hy]; rfl
  have hI : eCompI 1 (gTp 2 (gsCons (gN 2) (gsCons (gN 3) gsNil))) (bOf (eBin fNe (eVar 3) (eC (.int 0)))) (eTup (aCons (eVar 2) (aCons (eVar 3) aNil))) [2, 3] [.val w, .own (.dct (dctW acc).1 (dctW acc).2), x, y] st =
      .ok (.fr, .lst ((acc.filter fun r => !decide (r.2 = 0)).map rowW)) st := by
    show (Res.ok (pairsW (dctW acc).1 (dctW acc).2) st).bind (fun ws s1 => if noOwn [2, 3] [.val w, .no, x, y] = true then (compL _ _ _ ws [] (forgetF [2, 3] [.val w, .no, x, y]) s1).bind _ else .bad) = _
    rw [pairs_rows, no, ev_bind, if_pos rfl]
    show (compL _ _ _ (acc.map rowW) [] [.val w, .no, .no, .no] st).bind _ = _
    rw [cr]
    rfl
  have hS : fSorted (.lst ((acc.filter fun r => !decide (r.2 = 0)).map rowW)) st = .ok (.fr, .lst (a.map rowW)) st := by
    show (if SortOk _ then _ else _) = _
    rw [if_pos ok, ea]
  unfold p_mean_of_rows b_mean_of_rows
  simp [hw, e, hI, hS]
theorem law_put_ok (hw : seqOf w = some (rs.map rowW)) (hl : rs.length ≤ sizeLine) (hne : ∀ r ∈ rs, r.1 ≠ []) : Gives p_law_put w rs st := by
  obtain ⟨acc, x, y, g, hx, hy, e⟩ := gather_loop (w := w) (st := st) hl
  have hal : acc.length ≤ sizeLine := Nat.le_trans g.len hl
  obtain ⟨ks, ek, hp, hs⟩ := keys_sorted (acc.map (·.1)) g.nd
  have ok := ok_keys (l := acc.map (·.1)) (by rw [List.length_map]; exact hal) fun p h => by
    obtain ⟨r, hr, rfl⟩ := List.mem_map.mp (g.keys p h)
    exact hne r hr
  have hpw : (acc.map fun r => kT r.1).map tkeyW = (acc.map (·.1)).map pwW := by
    rw [List.map_map, List.map_map]
    exact List.map_congr_left fun r _ => tkey_kT r.1
  -- the rows in the keys' order
  have hb : ∀ p ∈ ks, ∃ n, look acc p = some n := fun p h => by
    obtain ⟨r, hr, rfl⟩ := List.mem_map.mp (hp.mem_iff.mp h)
    exact ⟨r.2, look_mem g.nd hr⟩
  let all : List MRow := ks.map fun p => (p, (look acc p).getD 0)
  have hall : all.Perm acc := by
    have h1 := hp.map fun p => ((p, (look acc p).getD 0) : MRow)
    have h2 : (acc.map (·.1)).map (fun p => ((p, (look acc p).getD 0) : MRow)) = acc := by
      rw [List.map_map]
      conv => rhs; rw [← List.map_id acc]
      exact List.map_congr_left fun r hr => by
        show (r.1, (look acc r.1).getD 0) = r
        rw [look_mem g.nd hr]
        rfl
    rw [h2] at h1
    exact h1
  let a : List MRow := all.filter fun r => !decide (r.2 = 0)
  have hpa : a.Perm (acc.filter fun r => !decide (r.2 = 0)) := hall.filter _
  have hsa : a.Pairwise fun r s => r.1 < s.1 := List.Pairwise.filter _ (List.pairwise_map.mpr hs)
  obtain ⟨hc, hco⟩ := can_of g hpa hsa
  obtain ⟨hk, hlen⟩ := sub_keys g hpa
  have hS : fSorted (.dct (dctW acc).1 (dctW acc).2) st = .ok (.fr, .lst (ks.map pwW)) st := by
    show (if SortOk ((acc.map fun r => kT r.1).map tkeyW) then Res.ok (Kd.fr, W.lst (sortedW ((acc.map fun r => kT r.1).map tkeyW))) st else _) = _
    rw [hpw, if_pos ok, ek]
  let tt : W → Bool := fun u => match u with
    | .tup us => match intsOf us with
      | some p => !decide ((look acc p).getD 0 = 0)
      | none => false
    | _ => false
  let ff : W → W := fun u => match u with
    | .tup us => match intsOf us with
      | some p => rowW (p, (look acc p).getD 0)
      | none => .non
    | _ => .non
  have hnt : ∀ p : Pw, intsOf (p.map W.int) = some p := fun p => by
    induction p with
    | nil => rfl
    | cons x p ih => show (intsOf (p.map W.int)).map (x :: ·) = _; rw [ih]; rfl
  have htt : ∀ p : Pw, tt (pwW p) = !decide ((look acc p).getD 0 = 0) := fun p => by
    show (match intsOf (p.map W.int) with | some p => !decide ((look acc p).getD 0 = 0) | none => false) = _
    rw [hnt]
  have hff : ∀ p : Pw, ff (pwW p) = rowW (p, (look acc p).getD 0) := fun p => by
    show (match intsOf (p.map W.int) with | some p => rowW (p, (look acc p).getD 0) | none => .non) = _
    rw [hnt]
  have no : noOwn [2] [.val w, .own (.dct (dctW acc).1 (dctW acc).2), x, y] = true := by
    show (!isOwn (some x) && true) = true
    rw [hx]; rfl
  have hksl : ks.length ≤ sizeLine := by rw [hp.length_eq, List.length_map]; exact hal
  have cr := comp_run (q := gN 2) (c := bOf (eBin fNe (eDGet (eVar 1) (eVar 2)) (eC (.int 0)))) (el := eTup (aCons (eVar 2) (aCons (eDGet (eVar 1) (eVar 2)) aNil))) (st := st) (fr := [.val w, .own (.dct (dctW acc).1 (dctW acc).2), .no, y]) tt ff (ks.map pwW) [] (by simpa using hksl) fun u hu => by
    obtain ⟨p, hpk, rfl⟩ := List.mem_map.mp hu
    obtain ⟨n, hn⟩ := hb p hpk
    have hg := get_row acc p
    rw [hn] at hg
    have hg : getW (dctW acc).1 (dctW acc).2 (pwW p) = some (some (.int n)) := hg
    have hd : dctOf (.dct (dctW acc).1 (dctW acc).2) st = some ((dctW acc).1, (dctW acc).2) := rfl
    refine ⟨[.val w, .own (.dct (dctW acc).1 (dctW acc).2), .val (pwW p), y], rfl, ?_, fun _ => ⟨.st, ?_, rfl⟩⟩
    · rw [htt, hn]
      simp only [ev_bof, ev_bin, ev_dget, ev_var, ev_c, ev_bind, List.getElem?_cons_zero, List.getElem?_cons_succ, ev_toW_d, hd, hg, ev_ne_int]
      rfl
    · rw [hff, hn]
      simp only [ev_tup, ev_acons, ev_anil, ev_dget, ev_var, ev_c, ev_bind, List.getElem?_cons_zero, List.getElem?_cons_succ, ev_toW_d, hd, hg, ev_keep_st, if_true, List.length_cons, List.length_nil, ev_size]
      rfl
  have hres : ((ks.map pwW).filter tt).map ff = a.map rowW := by
    show _ = ((ks.map fun p => ((p, (look acc p).getD 0) : MRow)).filter fun r => !decide (r.2 = 0)).map rowW
    rw [List.filter_map, List.filter_map, List.map_map, List.map_map]
    have h1 : (tt ∘ pwW) = ((fun r : MRow => !decide (r.2 = 0)) ∘ fun p => ((p, (look acc p).getD 0) : MRow)) := funext fun p => htt p
    have h2 : (ff ∘ pwW) = (rowW ∘ fun p => ((p, (look acc p).getD 0) : MRow)) := funext fun p => hff p
    rw [h1, h2]
  rw [hres, List.nil_append] at cr
  refine ⟨a, hc, hco, hk, hlen, ?_⟩
  have hC : eComp (iSeqL (eC1 fSorted (eVar 1))) (gN 2) (bOf (eBin fNe (eDGet (eVar 1) (eVar 2)) (eC (.int 0)))) (eTup (aCons (eVar 2) (aCons (eDGet (eVar 1) (eVar 2)) aNil))) [2] [.val w, .own (.dct (dctW acc).1 (dctW acc).2), x, y] st = .ok (.fr, .lst (a.map rowW)) st := by
    simp only [ev_comp, ev_iseql, ev_c1, ev_var, List.getElem?_cons_zero, List.getElem?_cons_succ, ev_bind, ev_toW_d, hS, ev_seq_l, no, if_true]
    show (compL _ _ _ _ [] [.val w, .own (.dct (dctW acc).1 (dctW acc).2), .no, y] st).bind _ = _
    rw [cr]
    rfl
  unfold p_law_put b_law_put
  simp [-ev_comp, hw, e, hC]
end
end Vy.K49

set_option Elab.async false
set_option linter.all false
set_option maxRecDepth 100000
set_option maxHeartbeats 1000000
/-! Sums, multiples, products of means. -/
namespace Vy.K49
open PySem PySem.Spec PyProof.Rows L2 Vy.Mean
abbrev meanW (a : List MRow) : W := .tup (a.map rowW)
theorem gath_from : ∀ (rs pre acc : List MRow), Gath acc pre → ∃ acc', Gath acc' (pre ++ rs)
  | [], pre, acc, g => ⟨acc, by rw [List.append_nil]; exact g⟩
  | r :: rs, pre, acc, g => by
    obtain ⟨acc', g'⟩ := gath_from rs (pre ++ [r]) _ (g.step r)
    exact ⟨acc', by rw [List.append_assoc] at g'; exact g'⟩
theorem put_ex (rs : List MRow) : ∃ a : List MRow, Can a ∧ (∀ k, coef a k = coef rs k) ∧ (∀ p ∈ a.map (·.1), p ∈ rs.map (·.1)) ∧ a.length ≤ rs.length := by
  obtain ⟨acc, g⟩ := gath_from rs [] [] Gath.nil
  rw [List.nil_append] at g
  have nd : ((acc.filter fun r => !decide (r.2 = 0)).map (·.1)).Nodup := (List.filter_sublist.map _).nodup g.nd
  obtain ⟨a, _, hp, hs⟩ := rows_sorted _ nd
  obtain ⟨hc, hco⟩ := can_of g hp hs
  obtain ⟨hk, hlen⟩ := sub_keys g hp
  exact ⟨a, hc, hco, hk, hlen⟩
/-- the canonical rows of rs -/
noncomputable def put (rs : List MRow) : List MRow := (put_ex rs).choose
theorem put_can (rs : List MRow) : Can (put rs) := (put_ex rs).choose_spec.1
theorem put_coef (rs : List MRow) (k : Pw) : coef (put rs) k = coef rs k := (put_ex rs).choose_spec.2.1 k
theorem put_keys {rs : List MRow} {p : Pw} (h : p ∈ (put rs).map (·.1)) : p ∈ rs.map (·.1) := (put_ex rs).choose_spec.2.2.1 p h
theorem put_len (rs : List MRow) : (put rs).length ≤ rs.length := (put_ex rs).choose_spec.2.2.2
theorem put_eq {rs qs : List MRow} (h : ∀ k, coef rs k = coef qs k) : put rs = put qs := can_eq (put_can rs) (put_can qs) fun k => by rw [put_coef, put_coef, h]
theorem put_self {a : List MRow} (h : Can a) : put a = a := can_eq (put_can a) h (put_coef a)
section
variable {st : Store} {rs a b : List MRow} {w : W} {f : PFn}
theorem Gives.put (g : Gives f w rs st) : f [w] st = .ok (.st, meanW (put rs)) st := by
  obtain ⟨c, hc, hco, _, _, e⟩ := g
  rw [e, can_eq hc (put_can rs) fun k => by rw [hco, put_coef]]
theorem mean_rows (hw : seqOf w = some (rs.map rowW)) (hl : rs.length ≤ sizeLine) : p_mean_of_rows [w] st = .ok (.st, meanW (put rs)) st := (mean_of_rows_ok hw hl).put
theorem law_put_rows (hw : seqOf w = some (rs.map rowW)) (hl : rs.length ≤ sizeLine) (hne : ∀ r ∈ rs, r.1 ≠ []) : p_law_put [w] st = .ok (.st, meanW (put rs)) st := (law_put_ok hw hl hne).put
theorem mean_sum_ok (hl : a.length + b.length ≤ sizeLine) : p_mean_sum [meanW a, meanW b] st = .ok (.st, meanW (put (a ++ b))) st := by
  have h := mean_rows (st := st) (w := .lst ((a ++ b).map rowW)) (rs := a ++ b) rfl (by rw [List.length_append]; exact hl)
  rw [List.map_append] at h
  have hl' : a.length + b.length ≤ 16777216 := by rw [← sizeLine_eq]; exact hl
  unfold p_mean_sum b_mean_sum
  simp [h, hl']
theorem mean_scaled_ok {c : Int} (hl : a.length ≤ sizeLine) (hm : ∀ r ∈ a, mulOk c r.2) : p_mean_scaled [.int c, meanW a] st = .ok (.st, meanW (put (a.map fun r => (r.1, c * r.2)))) st := by
  have h := mean_rows (st := st) (w := .lst ((a.map fun r => (r.1, c * r.2)).map rowW)) (rs := a.map fun r => (r.1, c * r.2)) rfl (by rw [List.length_map]; exact hl)
  have cr := comp_map (q := gTp 2 (gsCons (gN 2) (gsCons (gN 3) gsNil))) (el := eTup (aCons (eVar 2) (aCons (eBin fMul (eVar 0) (eVar 3)) aNil))) (st := st) (fr := [.val (.int c), .val (meanW a), .no, .no]) rowW (fun r => rowW (r.1, c * r.2)) a [] (by simpa using hl) fun r hr =>
    ⟨[.val (.int c), .val (meanW a), .val (pwW r.1), .val (.int r.2)], by simp, .st, by simp [ev_mul (hm r hr)], rfl⟩
  rw [List.map_map] at h
  rw [List.nil_append] at cr
  unfold p_mean_scaled b_mean_scaled
  have no : noOwn [2, 3] [Sl.val (.int c), .val (meanW a), .no, .no] = true := rfl
  have fo : forgetF [2, 3] [Sl.val (.int c), .val (meanW a), .no, .no] = [Sl.val (.int c), .val (meanW a), .no, .no] := rfl
  have h' : p_mean_of_rows [.lst (a.map fun r => rowW (r.1, c * r.2))] st = .ok (.st, meanW (put (a.map fun r => (r.1, c * r.2)))) st := h
  simp [no, fo, cr, h']
theorem mul_m1 (n : Int) : mulOk (-1) n := .inr (.inl ⟨by decide, by decide⟩)
theorem mean_less_ok (hl : a.length + b.length ≤ sizeLine) : p_mean_less [meanW a, meanW b] st = .ok (.st, meanW (put (a ++ put (b.map fun r => (r.1, -1 * r.2))))) st := by
  have h1 := mean_scaled_ok (st := st) (c := -1) (a := b) (by omega) fun r _ => mul_m1 r.2
  have h2 := mean_sum_ok (st := st) (a := a) (b := put (b.map fun r => (r.1, -1 * r.2))) (by have := put_len (b.map fun r => (r.1, -1 * r.2)); rw [List.length_map] at this; omega)
  generalize put (b.map fun r => (r.1, -1 * r.2)) = X at h1 h2 ⊢
  unfold p_mean_less b_mean_less
  simp [h1, h2]
def addP (p q : Pw) : Pw := List.zipWith (· + ·) p q
theorem zip_ints : ∀ p q : Pw, zipW (p.map W.int) (q.map W.int) = (List.zip p q).map fun x => .tup [.int x.1, .int x.2]
  | [], _ => rfl
  | _ :: _, [] => rfl
  | x :: p, y :: q => congrArg (W.tup [.int x, .int y] :: ·) (zip_ints p q)
theorem addP_zip : ∀ p q : Pw, (addP p q).map W.int = (List.zip p q).map fun x => .int (x.1 + x.2)
  | [], _ => rfl
  | _ :: _, [] => rfl
  | x :: p, y :: q => congrArg (W.int (x + y) :: ·) (addP_zip p q)
theorem powers_sum_ok (p q : Pw) (hl : p.length ≤ sizeLine) : p_powers_sum [pwW p, pwW q] st = .ok (.st, pwW (addP p q)) st := by
  have cr := comp_map (q := gTp 2 (gsCons (gN 2) (gsCons (gN 3) gsNil))) (el := eBin fAdd (eVar 2) (eVar 3)) (st := st) (fr := [.val (pwW p), .val (pwW q), .no, .no]) (fun x : Int × Int => .tup [.int x.1, .int x.2]) (fun x => .int (x.1 + x.2)) (List.zip p q) [] (by
      have := List.length_zip (l₁ := p) (l₂ := q)
      rw [List.length_nil]; omega) fun x hx =>
    ⟨[.val (pwW p), .val (pwW q), .val (.int x.1), .val (.int x.2)], by simp, .st, by simp, rfl⟩
  rw [List.nil_append] at cr
  have no : noOwn [2, 3] [Sl.val (pwW p), .val (pwW q), .no, .no] = true := rfl
  have fo : forgetF [2, 3] [Sl.val (pwW p), .val (pwW q), .no, .no] = [Sl.val (pwW p), .val (pwW q), .no, .no] := rfl
  unfold p_powers_sum b_powers_sum
  show _ = Res.ok (Kd.st, W.tup ((addP p q).map W.int)) st
  rw [addP_zip]
  simp [iZip2, zip_ints, no, fo, cr]
def prodR (a b : List MRow) : List MRow := a.flatMap fun r => b.map fun s => (addP r.1 s.1, r.2 * s.2)
theorem prod_len (a b : List MRow) : (prodR a b).length = a.length * b.length := by
  unfold prodR
  induction a with
  | nil => simp
  | cons r a ih => rw [List.flatMap_cons, List.length_append, ih, List.length_map, List.length_cons, Nat.succ_mul, Nat.add_comm]
theorem mean_times_ok (hl : a.length * b.length ≤ sizeLine) (hb : b.length ≤ sizeLine) (hk : ∀ r ∈ a, r.1.length ≤ sizeLine) (hm : ∀ r ∈ a, ∀ s ∈ b, mulOk r.2 s.2) : p_mean_times [meanW a, meanW b] st = .ok (.st, meanW (put (prodR a b))) st := by
  obtain ⟨fr', st', e, x3, x4, e1, e2⟩ := for_map (q := gTp 2 (gsCons (gN 3) (gsCons (gN 4) gsNil)))
    (b := sExt 2 (eComp (iSeqL (eVar 1)) (gTp 2 (gsCons (gN 5) (gsCons (gN 6) gsNil))) bYes (eTup (aCons (eCall p_powers_sum (aCons (eVar 3) (aCons (eVar 5) aNil))) (aCons (eBin fMul (eVar 4) (eVar 6)) aNil))) [5, 6]))
    rowW (fun pre fr st' => ∃ x3 x4 : Sl, fr = [.val (meanW a), .val (meanW b), .own (.lst ((prodR pre b).map rowW)), x3, x4, .no, .no] ∧ st' = st) a [.val (meanW a), .val (meanW b), .own (.lst []), .no, .no, .no, .no] st ⟨.no, .no, rfl, rfl⟩
    fun pre r fr st' hr hpre ⟨x3, x4, e1, e2⟩ => by
      subst e1 e2
      have cr := comp_map (q := gTp 2 (gsCons (gN 5) (gsCons (gN 6) gsNil))) (el := eTup (aCons (eCall p_powers_sum (aCons (eVar 3) (aCons (eVar 5) aNil))) (aCons (eBin fMul (eVar 4) (eVar 6)) aNil))) (st := st')
        (fr := [.val (meanW a), .val (meanW b), .own (.lst ((prodR pre b).map rowW)), .val (pwW r.1), .val (.int r.2), .no, .no]) rowW (fun s => rowW (addP r.1 s.1, r.2 * s.2)) b [] (by simpa using hb) fun s hs =>
        ⟨[.val (meanW a), .val (meanW b), .own (.lst ((prodR pre b).map rowW)), .val (pwW r.1), .val (.int r.2), .val (pwW s.1), .val (.int s.2)], by simp, .st, by simp [powers_sum_ok r.1 s.1 (hk r hr), ev_mul (hm r hr s hs)], rfl⟩
      rw [List.nil_append] at cr
      have hz : ((prodR pre b).map rowW).length + (b.map fun s => rowW (addP r.1 s.1, r.2 * s.2)).length ≤ sizeLine := by
        rw [List.length_map, List.length_map, prod_len]
        have : (pre.length + 1) * b.length ≤ a.length * b.length := Nat.mul_le_mul_right _ hpre
        rw [Nat.succ_mul] at this
        omega
      have hp : (prodR pre b).map rowW ++ (b.map fun s => rowW (addP r.1 s.1, r.2 * s.2)) = (prodR (pre ++ [r]) b).map rowW := by
        unfold prodR
        rw [List.flatMap_append, List.map_append, List.flatMap_cons, List.flatMap_nil, List.append_nil, List.map_map]
        rfl
      refine ⟨[.val (meanW a), .val (meanW b), .own (.lst ((prodR pre b).map rowW)), .val (pwW r.1), .val (.int r.2), .no, .no], [.val (meanW a), .val (meanW b), .own (.lst ((prodR (pre ++ [r]) b).map rowW)), .val (pwW r.1), .val (.int r.2), .no, .no], st', by simp, ?_, _, _, rfl, rfl⟩
      have no : noOwn [5, 6] [Sl.val (meanW a), .val (meanW b), .own (.lst ((prodR pre b).map rowW)), .val (pwW r.1), .val (.int r.2), .no, .no] = true := rfl
      have fo : forgetF [5, 6] [Sl.val (meanW a), .val (meanW b), .own (.lst ((prodR pre b).map rowW)), .val (pwW r.1), .val (.int r.2), .no, .no] = [Sl.val (meanW a), .val (meanW b), .own (.lst ((prodR pre b).map rowW)), .val (pwW r.1), .val (.int r.2), .no, .no] := rfl
      have hC : eComp (iSeqL (eVar 1)) (gTp 2 (gsCons (gN 5) (gsCons (gN 6) gsNil))) bYes (eTup (aCons (eCall p_powers_sum (aCons (eVar 3) (aCons (eVar 5) aNil))) (aCons (eBin fMul (eVar 4) (eVar 6)) aNil))) [5, 6]
          [.val (meanW a), .val (meanW b), .own (.lst ((prodR pre b).map rowW)), .val (pwW r.1), .val (.int r.2), .no, .no] st' = .ok (.fr, .lst (b.map fun s => rowW (addP r.1 s.1, r.2 * s.2))) st' := by
        simp only [ev_comp, ev_iseql, ev_var, List.getElem?_cons_zero, List.getElem?_cons_succ, ev_bind, ev_seq_t, no, if_true, fo, cr]
      show (Res.bind _ _ : Res Fl) = _
      rw [hC, ev_bind]
      show (if _ then _ else _) = _
      rw [if_pos hz, hp]
      rfl
  subst e1 e2
  have h := mean_rows (st := st') (w := .lst ((prodR a b).map rowW)) (rs := prodR a b) rfl (by rw [prod_len]; exact hl)
  unfold p_mean_times b_mean_times
  simp [e, h]
end
end Vy.K49

set_option Elab.async false
set_option linter.all false
set_option maxRecDepth 100000
set_option maxHeartbeats 1000000
/-! The law's product; small ones. -/
namespace Vy.K49
open PySem PySem.Spec PyProof.Rows L2 Vy.Mean
section
variable {st : Store} {rs a b : List MRow} {w : W} {f : PFn}
theorem inner_add {A B : W} {L : List W} {n m : Int} (p q : Pw) (hl : p.length ≤ sizeLine) :
    eC1 fTuple (eComp (iZip2 (aCons (eVar 3) (aCons (eVar 5) aNil))) (gTp 2 (gsCons (gN 7) (gsCons (gN 8) gsNil))) bYes (eBin fAdd (eVar 7) (eVar 8)) [7, 8])
      [.val A, .val B, .own (.lst L), .val (pwW p), .val (.int n), .val (pwW q), .val (.int m), .no, .no] st = .ok (.st, pwW (addP p q)) st := by
  have cr := comp_map (q := gTp 2 (gsCons (gN 7) (gsCons (gN 8) gsNil))) (el := eBin fAdd (eVar 7) (eVar 8)) (st := st) (fr := [.val A, .val B, .own (.lst L), .val (pwW p), .val (.int n), .val (pwW q), .val (.int m), .no, .no]) (fun x : Int × Int => .tup [.int x.1, .int x.2]) (fun x => .int (x.1 + x.2)) (List.zip p q) [] (by
      have := List.length_zip (l₁ := p) (l₂ := q)
      rw [List.length_nil]; omega) fun x hx =>
    ⟨[.val A, .val B, .own (.lst L), .val (pwW p), .val (.int n), .val (pwW q), .val (.int m), .val (.int x.1), .val (.int x.2)], by simp, .st, by simp, rfl⟩
  rw [List.nil_append] at cr
  have no : noOwn [7, 8] [Sl.val A, .val B, .own (.lst L), .val (pwW p), .val (.int n), .val (pwW q), .val (.int m), .no, .no] = true := rfl
  have fo : forgetF [7, 8] [Sl.val A, .val B, .own (.lst L), .val (pwW p), .val (.int n), .val (pwW q), .val (.int m), .no, .no] = [Sl.val A, .val B, .own (.lst L), .val (pwW p), .val (.int n), .val (pwW q), .val (.int m), .no, .no] := rfl
  show _ = Res.ok (Kd.st, W.tup ((addP p q).map W.int)) st
  rw [addP_zip]
  simp [iZip2, zip_ints, no, fo, cr]
theorem law_product_ok (hl : a.length * b.length ≤ sizeLine) (hb : b.length ≤ sizeLine) (hk : ∀ r ∈ a, r.1.length ≤ sizeLine) (hm : ∀ r ∈ a, ∀ s ∈ b, mulOk r.2 s.2) (hne : ∀ r ∈ a, ∀ s ∈ b, addP r.1 s.1 ≠ []) :
    p_law_product [meanW a, meanW b] st = .ok (.st, meanW (put (prodR a b))) st := by
  obtain ⟨fr', st', e, x3, x4, e1, e2⟩ := for_map (q := gTp 2 (gsCons (gN 3) (gsCons (gN 4) gsNil)))
    (b := sSet 2 (eBin fAdd (eVar 2) (eComp (iSeqL (eVar 1)) (gTp 2 (gsCons (gN 5) (gsCons (gN 6) gsNil))) bYes (eTup (aCons (eC1 fTuple (eComp (iZip2 (aCons (eVar 3) (aCons (eVar 5) aNil))) (gTp 2 (gsCons (gN 7) (gsCons (gN 8) gsNil))) bYes (eBin fAdd (eVar 7) (eVar 8)) [7, 8])) (aCons (eBin fMul (eVar 4) (eVar 6)) aNil))) [5, 6])))
    rowW (fun pre fr st' => ∃ x3 x4 : Sl, fr = [.val (meanW a), .val (meanW b), .own (.lst ((prodR pre b).map rowW)), x3, x4, .no, .no, .no, .no] ∧ st' = st) a [.val (meanW a), .val (meanW b), .own (.lst []), .no, .no, .no, .no, .no, .no] st ⟨.no, .no, rfl, rfl⟩
    fun pre r fr st' hr hpre ⟨x3, x4, e1, e2⟩ => by
      subst e1 e2
      have cr := comp_map (q := gTp 2 (gsCons (gN 5) (gsCons (gN 6) gsNil))) (el := eTup (aCons (eC1 fTuple (eComp (iZip2 (aCons (eVar 3) (aCons (eVar 5) aNil))) (gTp 2 (gsCons (gN 7) (gsCons (gN 8) gsNil))) bYes (eBin fAdd (eVar 7) (eVar 8)) [7, 8])) (aCons (eBin fMul (eVar 4) (eVar 6)) aNil))) (st := st')
        (fr := [.val (meanW a), .val (meanW b), .own (.lst ((prodR pre b).map rowW)), .val (pwW r.1), .val (.int r.2), .no, .no, .no, .no]) rowW (fun s => rowW (addP r.1 s.1, r.2 * s.2)) b [] (by simpa using hb) fun s hs =>
        ⟨[.val (meanW a), .val (meanW b), .own (.lst ((prodR pre b).map rowW)), .val (pwW r.1), .val (.int r.2), .val (pwW s.1), .val (.int s.2), .no, .no], by simp, .st, by
          have hi := inner_add (st := st') (A := meanW a) (B := meanW b) (L := (prodR pre b).map rowW) (n := r.2) (m := s.2) r.1 s.1 (hk r hr)
          simp only [ev_tup, ev_acons, ev_anil, hi, ev_bind, ev_keep_st, if_true, ev_bin, ev_var, List.getElem?_cons_zero, List.getElem?_cons_succ, ev_mul (hm r hr s hs), List.length_cons, List.length_nil, ev_size]
          rfl, rfl⟩
      rw [List.nil_append] at cr
      have hz : ((prodR pre b).map rowW).length + (b.map fun s => rowW (addP r.1 s.1, r.2 * s.2)).length ≤ sizeLine := by
        rw [List.length_map, List.length_map, prod_len]
        have : (pre.length + 1) * b.length ≤ a.length * b.length := Nat.mul_le_mul_right _ hpre
        rw [Nat.succ_mul] at this
        omega
      have hp : (prodR pre b).map rowW ++ (b.map fun s => rowW (addP r.1 s.1, r.2 * s.2)) = (prodR (pre ++ [r]) b).map rowW := by
        unfold prodR
        rw [List.flatMap_append, List.map_append, List.flatMap_cons, List.flatMap_nil, List.append_nil, List.map_map]
        rfl
      refine ⟨[.val (meanW a), .val (meanW b), .own (.lst ((prodR pre b).map rowW)), .val (pwW r.1), .val (.int r.2), .no, .no, .no, .no], [.val (meanW a), .val (meanW b), .own (.lst ((prodR (pre ++ [r]) b).map rowW)), .val (pwW r.1), .val (.int r.2), .no, .no, .no, .no], st', by simp, ?_, _, _, rfl, rfl⟩
      have no : noOwn [5, 6] [Sl.val (meanW a), .val (meanW b), .own (.lst ((prodR pre b).map rowW)), .val (pwW r.1), .val (.int r.2), .no, .no, .no, .no] = true := rfl
      have fo : forgetF [5, 6] [Sl.val (meanW a), .val (meanW b), .own (.lst ((prodR pre b).map rowW)), .val (pwW r.1), .val (.int r.2), .no, .no, .no, .no] = [Sl.val (meanW a), .val (meanW b), .own (.lst ((prodR pre b).map rowW)), .val (pwW r.1), .val (.int r.2), .no, .no, .no, .no] := rfl
      have hC : eComp (iSeqL (eVar 1)) (gTp 2 (gsCons (gN 5) (gsCons (gN 6) gsNil))) bYes (eTup (aCons (eC1 fTuple (eComp (iZip2 (aCons (eVar 3) (aCons (eVar 5) aNil))) (gTp 2 (gsCons (gN 7) (gsCons (gN 8) gsNil))) bYes (eBin fAdd (eVar 7) (eVar 8)) [7, 8])) (aCons (eBin fMul (eVar 4) (eVar 6)) aNil))) [5, 6]
          [.val (meanW a), .val (meanW b), .own (.lst ((prodR pre b).map rowW)), .val (pwW r.1), .val (.int r.2), .no, .no, .no, .no] st' = .ok (.fr, .lst (b.map fun s => rowW (addP r.1 s.1, r.2 * s.2))) st' := by
        rw [ev_comp]
        simp only [ev_iseql, ev_var, List.getElem?_cons_zero, List.getElem?_cons_succ, ev_bind, ev_seq_t, no, if_true, fo, cr]
      rw [ev_set, ev_bin, ev_var]
      simp only [List.getElem?_cons_zero, List.getElem?_cons_succ, ev_bind, hC, ev_toW_l, ev_add_l, ev_grd hz, hp, ev_slof_l, List.set_cons_zero, List.set_cons_succ]
  subst e1 e2
  have h := law_put_rows (st := st') (w := .lst ((prodR a b).map rowW)) (rs := prodR a b) rfl (by rw [prod_len]; exact hl) fun r hr => by
    obtain ⟨s, hs, h2⟩ := List.mem_flatMap.mp hr
    obtain ⟨t, ht, rfl⟩ := List.mem_map.mp h2
    exact hne s hs t ht
  unfold p_law_product b_law_product
  simp only [ev_body, List.map_cons, List.map_nil, List.length_cons, List.length_nil]
  show (sSeq (sSet 2 (eLst aNil)) _ [.val (meanW a), .val (meanW b), .no, .no, .no, .no, .no, .no, .no] st').bind _ = _
  simp [e, h]
theorem by_powers_ok (p : Pw) : p_by_powers [pwW p] st = .ok (.st, meanW [(p, 1)]) st := by
  unfold p_by_powers b_by_powers
  simp
theorem rep_zero (n : Nat) : (List.replicate n [W.int 0]).flatten = (List.replicate n (0 : Int)).map W.int := by
  induction n with
  | zero => rfl
  | succ n ih => rw [List.replicate_succ, List.flatten_cons, ih]; rfl
theorem mean_number_ok {k : Nat} (c : Int) (h1 : 1 ≤ k) (h2 : k ≤ 1000) : p_mean_number [.int k, .int c] st = .ok (.st, meanW (put [(List.replicate k 0, c)])) st := by
  have h := mean_rows (st := st) (w := .lst ([((List.replicate k (0 : Int)), c)].map rowW)) (rs := [(List.replicate k 0, c)]) rfl (by show 1 ≤ sizeLine; decide)
  have hm : fMul (.tup [.int 0]) (.int k) st = .ok (.st, pwW (List.replicate k 0)) st := by
    show grd ([W.int 0] ≠ [] ∧ (1 : Int) ≤ k ∧ (k : Int) ≤ 1000 ∧ [W.int 0].length ≤ 1000) (Res.ok (Kd.st, W.tup (List.replicate (k : Int).toNat [W.int 0]).flatten) st) = _
    rw [ev_grd ⟨by simp, by omega, by omega, by decide⟩, Int.toNat_natCast, rep_zero]
  unfold p_mean_number b_mean_number
  have h' : p_mean_of_rows [.lst [rowW (List.replicate k 0, c)]] st = .ok (.st, meanW (put [(List.replicate k 0, c)])) st := h
  simp [hm, -List.map_replicate] at h' ⊢
  simp [h', -List.map_replicate]
end
end Vy.K49

set_option Elab.async false
set_option linter.all false
set_option maxRecDepth 100000
set_option maxHeartbeats 1000000
/-! Powers, greatest powers, a mean at sizes. -/
namespace Vy.K49
open PySem PySem.Spec PyProof.Rows L2 Vy.Mean
theorem Le.one : Le 1 0 := Nat.le_refl _
theorem Le.zero {k : Nat} : Le 0 k := Nat.zero_le _
theorem Le.pow {n : Int} {j : Nat} (h : Le n j) : ∀ i : Nat, Le (n ^ i) (j * i)
  | 0 => by rw [Int.pow_zero, Nat.mul_zero]; exact Le.one
  | i + 1 => by rw [Int.pow_succ, Nat.mul_succ]; exact (Le.pow h i).mul h
/-- the product of the sizes' powers -/
def pp : List Int → Pw → Int
  | n :: ns, p :: ps => n ^ p.toNat * pp ns ps
  | _, _ => 1
theorem pp_le : ∀ {ns : List Int} {ps : Pw} {c : Nat}, (∀ n ∈ ns, Le n 30) → (∀ p ∈ ps, p ≤ c) → Le (pp ns ps) (30 * c * ns.length)
  | [], _, _, _, _ => Le.one.mono (Nat.zero_le _)
  | _ :: _, [], _, _, _ => Le.one.mono (Nat.zero_le _)
  | n :: ns, p :: ps, c, h1, h2 => by
    have a := (Le.pow (h1 n (List.mem_cons_self ..)) p.toNat).mono (k := 30 * c) (Nat.mul_le_mul_left _ (by have := h2 p (List.mem_cons_self ..); omega))
    have b := pp_le (ns := ns) (ps := ps) (c := c) (fun m hm => h1 m (List.mem_cons_of_mem _ hm)) fun m hm => h2 m (List.mem_cons_of_mem _ hm)
    have z := a.mul b
    rw [List.length_cons, Nat.mul_succ, Nat.add_comm]
    exact z
theorem inR_few {j : Int} (h0 : 0 ≤ j) (h : j < 1000000) : inR j := by
  have a : -((2 : Int) ^ 62) ≤ 0 := by decide
  have b : (1000000 : Int) < 2 ^ 62 := by decide
  exact ⟨Int.le_trans a h0, Int.lt_trans h b⟩
theorem few_int {k : Nat} (hk : k ≤ 120) : (k : Int) < 1000000 := by omega
theorem int_nn {k : Nat} : (0 : Int) ≤ (k : Int) := by omega
theorem inR_nat {k : Nat} (hk : k ≤ 120) : inR (k : Int) := inR_few int_nn (few_int hk)
theorem pow_mul_ok {n : Int} {j k : Nat} (hn : Le n 30) (hk : k ≤ 120) (hj : j < k) : mulOk (n ^ j) n := mul_ok ((Le.pow hn j).mono (k := 4000) (by omega)) (hn.mono (k := 4000) (by decide))
section
variable {st : Store}
theorem power_loop {n : Int} {k : Nat} (hm : ∀ j, j < k → mulOk (n ^ j) n) : ∃ x : Sl, forL (gN 3) (sSet 2 (eBin fMul (eVar 2) (eVar 0))) (rngW 0 k) [.val (.int n), .val (.int k), .val (.int 1), .no] st = .ok (.nx [.val (.int n), .val (.int k), .val (.int (n ^ k)), x]) st := by
  obtain ⟨fr', st', e, x, e1, e2⟩ := for_run (q := gN 3) (b := sSet 2 (eBin fMul (eVar 2) (eVar 0))) (fun i fr st' => ∃ x : Sl, fr = [.val (.int n), .val (.int k), .val (.int (n ^ i)), x] ∧ st' = st) (rngW 0 k) 0 [.val (.int n), .val (.int k), .val (.int 1), .no] st
    ⟨.no, by rw [Int.pow_zero], rfl⟩ fun j w fr st' hw ⟨x, e1, e2⟩ => by
      subst e1 e2
      have hj : j < k := by
        have := (List.getElem?_eq_some_iff.mp hw).1
        unfold rngW at this
        rw [List.length_map, List.length_range] at this
        exact this
      rw [Nat.zero_add]
      refine ⟨_, [.val (.int n), .val (.int k), .val (.int (n ^ (j + 1))), .val w], st', rfl, ?_, _, rfl, rfl⟩
      simp [ev_mul (hm j hj), Int.pow_succ]
  have hl : (rngW 0 k).length = k := by unfold rngW; rw [List.length_map, List.length_range]
  rw [Nat.zero_add, hl] at e1
  subst e1 e2
  exact ⟨x, e⟩
theorem rng1_ok {r : PL} {fr : Frame} {k : Nat} {st1 : Store} (h : r fr st = .ok [.int k] st1) (hin : inR (k : Int)) : iRng1 r fr st = .ok (rngW 0 k) st1 := by
  unfold iRng1
  rw [h, ev_bind]
  have e : grd (inR (k : Int)) (Res.ok (rngW 0 ((k : Int).toNat)) st1) = Res.ok (rngW 0 ((k : Int).toNat)) st1 := ev_grd hin
  rw [Int.toNat_natCast] at e
  exact e
theorem power_end {n : Int} {k : Nat} {x : Sl} (hin : inR (k : Int)) (e : forL (gN 3) (sSet 2 (eBin fMul (eVar 2) (eVar 0))) (rngW 0 k) [.val (.int n), .val (.int k), .val (.int 1), .no] st = .ok (.nx [.val (.int n), .val (.int k), .val (.int (n ^ k)), x]) st) : p_number_power [.int n, .int k] st = .ok (.st, .int (n ^ k)) st := by
  have hI : iRng1 (aCons (eVar 1) aNil) [.val (.int n), .val (.int k), .val (.int 1), .no] st = .ok (rngW 0 k) st := rng1_ok (by simp) hin
  unfold p_number_power b_number_power
  simp -implicitDefEqProofs [hI, e]
theorem power_run {n : Int} {k : Nat} (hin : inR (k : Int)) (hm : ∀ j, j < k → mulOk (n ^ j) n) : p_number_power [.int n, .int k] st = .ok (.st, .int (n ^ k)) st := by
  obtain ⟨x, e⟩ := power_loop (st := st) hm
  exact power_end hin e
theorem number_power_ok {n : Int} (k : Nat) (hn : Le n 30) (hk : k ≤ 120) : p_number_power [.int n, .int k] st = .ok (.st, .int (n ^ k)) st := power_run (inR_nat hk) fun j hj => pow_mul_ok hn hk hj
theorem law_power_ok {n : Int} (k : Nat) (hn : Le n 30) (hk : k ≤ 120) : p_law_power [.int n, .int k] st = .ok (.st, .int (n ^ k)) st := number_power_ok k hn hk
/-- the product in the loop's order -/
theorem pp_snoc : ∀ (l : List (Int × Int)) (x : Int × Int), pp ((l ++ [x]).map (·.1)) ((l ++ [x]).map (·.2)) = pp (l.map (·.1)) (l.map (·.2)) * x.1 ^ x.2.toNat
  | [], x => by show x.1 ^ x.2.toNat * 1 = 1 * x.1 ^ x.2.toNat; rw [Int.mul_one, Int.one_mul]
  | y :: l, x => by
    show y.1 ^ y.2.toNat * pp ((l ++ [x]).map (·.1)) ((l ++ [x]).map (·.2)) = y.1 ^ y.2.toNat * pp (l.map (·.1)) (l.map (·.2)) * x.1 ^ x.2.toNat
    rw [pp_snoc l x, Int.mul_assoc]
theorem pp_zip : ∀ (ns : List Int) (ps : Pw), pp ((List.zip ns ps).map (·.1)) ((List.zip ns ps).map (·.2)) = pp ns ps
  | [], _ => rfl
  | _ :: _, [] => rfl
  | n :: ns, p :: ps => by show n ^ p.toNat * pp ((List.zip ns ps).map (·.1)) ((List.zip ns ps).map (·.2)) = _; rw [pp_zip]; rfl
theorem size_product_ok {ns : List Int} {ps : Pw} {w : W} (hw : seqOf w = some (ps.map W.int)) (hn : ∀ n ∈ ns, Le n 30) (hl : ns.length ≤ 3) (hp : ∀ p ∈ ps, 0 ≤ p ∧ p ≤ 40) :
    p_size_product [pwW ns, w] st = .ok (.st, .int (pp ns ps)) st := by
  obtain ⟨fr', st', e, _, _, x3, x4, e1, e2⟩ := for_map (q := gTp 2 (gsCons (gN 3) (gsCons (gN 4) gsNil))) (b := sSet 2 (eBin fMul (eVar 2) (eCall p_number_power (aCons (eVar 3) (aCons (eVar 4) aNil)))))
    (fun x : Int × Int => .tup [.int x.1, .int x.2]) (fun pre fr st' => (∀ y ∈ pre, y ∈ List.zip ns ps) ∧ pre.length ≤ (List.zip ns ps).length ∧ ∃ x3 x4 : Sl, fr = [.val (pwW ns), .val w, .val (.int (pp (pre.map (·.1)) (pre.map (·.2)))), x3, x4] ∧ st' = st) (List.zip ns ps)
    [.val (pwW ns), .val w, .val (.int 1), .no, .no] st ⟨fun _ h => (nomatch h), Nat.zero_le _, .no, .no, rfl, rfl⟩ fun pre x fr st' hx hpre ⟨hin, hlen, x3, x4, e1, e2⟩ => by
      subst e1 e2
      have hz : (List.zip ns ps).length ≤ 3 := by rw [List.length_zip]; omega
      have h1 : Le x.1 30 := hn _ (List.of_mem_zip (show (x.1, x.2) ∈ _ from hx)).1
      have h2 := hp _ (List.of_mem_zip (show (x.1, x.2) ∈ _ from hx)).2
      have hq := pp_le (ns := pre.map (·.1)) (ps := pre.map (·.2)) (c := 40) (fun n h => by
        obtain ⟨y, hy, rfl⟩ := List.mem_map.mp h
        exact hn _ (List.of_mem_zip (show (y.1, y.2) ∈ _ from hin y hy)).1) fun n h => by
        obtain ⟨y, hy, rfl⟩ := List.mem_map.mp h
        exact (hp _ (List.of_mem_zip (show (y.1, y.2) ∈ _ from hin y hy)).2).2
      rw [List.length_map] at hq
      have hm := mul_ok (hq.mono (k := 4000) (by omega)) ((Le.pow h1 x.2.toNat).mono (k := 4000) (by omega))
      have hc := number_power_ok (st := st') x.2.toNat h1 (by omega)
      have ex : ((x.2.toNat : Nat) : Int) = x.2 := Int.toNat_of_nonneg h2.1
      rw [ex] at hc
      refine ⟨[.val (pwW ns), .val w, .val (.int (pp (pre.map (·.1)) (pre.map (·.2)))), .val (.int x.1), .val (.int x.2)], [.val (pwW ns), .val w, .val (.int (pp ((pre ++ [x]).map (·.1)) ((pre ++ [x]).map (·.2)))), .val (.int x.1), .val (.int x.2)], st', by simp, ?_, ?_, ?_, _, _, rfl, rfl⟩
      · rw [pp_snoc]
        simp [hc, ev_mul hm]
      · intro y hy
        rcases List.mem_append.mp hy with h | h
        · exact hin y h
        · rw [List.mem_singleton.mp h]; exact hx
      · rw [List.length_append, List.length_singleton]; omega
  subst e1 e2
  rw [pp_zip] at e
  unfold p_size_product b_size_product
  have hz := zip_ints ns ps
  simp [iZip2, hw, hz, e]
end
end Vy.K49

set_option Elab.async false
set_option linter.all false
set_option maxRecDepth 100000
set_option maxHeartbeats 1000000
/-! Greatest powers. -/
namespace Vy.K49
open PySem PySem.Spec PyProof.Rows L2 Vy.Mean
/-- means over k kinds, powers from 0 to c -/
structure Over (k c : Nat) (a : List MRow) : Prop where
  len : ∀ r ∈ a, r.1.length = k
  lo : ∀ r ∈ a, ∀ p ∈ r.1, 0 ≤ p
  hi : ∀ r ∈ a, ∀ p ∈ r.1, p ≤ c
/-- the greatest of them, 0 if there is none -/
def mx : List Int → Int
  | [] => 0
  | n :: ns => maxI (n :: ns)
theorem maxI_mem (n : Int) (ns : List Int) : maxI (n :: ns) ∈ n :: ns := by
  rcases (fold_max ns n).1 with h | h
  · show ns.foldl max n ∈ n :: ns
    rw [h]; exact List.mem_cons_self ..
  · exact List.mem_cons_of_mem _ h
theorem maxI_ge {n : Int} {ns : List Int} {y : Int} (h : y ∈ n :: ns) : y ≤ maxI (n :: ns) := by
  obtain ⟨_, h2, h3⟩ := fold_max ns n
  rcases List.mem_cons.mp h with rfl | h
  · exact h2
  · exact h3 y h
theorem mx_ge {l : List Int} {y : Int} (h : y ∈ l) : y ≤ mx l := by
  cases l with
  | nil => cases h
  | cons n ns => exact maxI_ge h
theorem mx_mem {l : List Int} (h : l ≠ []) : mx l ∈ l := by
  cases l with
  | nil => exact absurd rfl h
  | cons n ns => exact maxI_mem n ns
theorem mx_bd {l : List Int} {c : Nat} (h : ∀ y ∈ l, 0 ≤ y ∧ y ≤ c) : 0 ≤ mx l ∧ mx l ≤ c := by
  by_cases e : l = []
  · subst e; exact ⟨Int.le_refl 0, by show (0 : Int) ≤ c; omega⟩
  · exact h _ (mx_mem e)
/-- with a 0 behind it the greatest is the same -/
theorem max_zero {l : List Int} (h : ∀ y ∈ l, 0 ≤ y) : ∃ n ns, l ++ [0] = n :: ns ∧ maxI (n :: ns) = mx l := by
  have ex : ∃ n ns, l ++ [0] = n :: ns := by
    cases l with
    | nil => exact ⟨0, [], rfl⟩
    | cons n ns => exact ⟨n, ns ++ [0], rfl⟩
  obtain ⟨n, ns, e⟩ := ex
  refine ⟨n, ns, e, ?_⟩
  have hm : maxI (n :: ns) ∈ l ++ [0] := by rw [e]; exact maxI_mem n ns
  have hg : ∀ y ∈ l ++ [0], y ≤ maxI (n :: ns) := fun y hy => maxI_ge (by rw [← e]; exact hy)
  have h0 := hg 0 (List.mem_append_right _ (List.mem_singleton.mpr rfl))
  by_cases el : l = []
  · subst el
    have : maxI (n :: ns) = 0 := by simpa using hm
    rw [this]; rfl
  · have h1 := hg _ (List.mem_append_left _ (mx_mem el))
    rcases List.mem_append.mp hm with h2 | h2
    · have := mx_ge h2; omega
    · rw [List.mem_singleton.mp h2] at h1 ⊢
      have := h _ (mx_mem el); omega
def col (a : List MRow) (j : Nat) : List Int := a.map fun r => r.1.getD j 0
def gr (k : Nat) (a : List MRow) : Pw := (List.range k).map fun j => mx (col a j)
section
variable {st : Store} {k c : Nat} {a : List MRow}
theorem Over.at (h : Over k c a) {r : MRow} (hr : r ∈ a) {j : Nat} (hj : j < k) : r.1[j]? = some (r.1.getD j 0) ∧ 0 ≤ r.1.getD j 0 ∧ r.1.getD j 0 ≤ c := by
  have hl : j < r.1.length := by rw [h.len r hr]; exact hj
  have e : r.1[j]? = some (r.1.getD j 0) := by rw [List.getD_eq_getElem?_getD, List.getElem?_eq_getElem hl]; rfl
  exact ⟨e, h.lo r hr _ (List.mem_of_getElem? e), h.hi r hr _ (List.mem_of_getElem? e)⟩
theorem col_bd (h : Over k c a) {j : Nat} (hj : j < k) : ∀ y ∈ col a j, 0 ≤ y ∧ y ≤ c := fun y hy => by
  obtain ⟨r, hr, rfl⟩ := List.mem_map.mp hy
  exact (h.at hr hj).2
theorem gr_bd (h : Over k c a) : ∀ p ∈ gr k a, 0 ≤ p ∧ p ≤ c := fun p hp => by
  obtain ⟨j, hj, rfl⟩ := List.mem_map.mp hp
  exact mx_bd (col_bd h (List.mem_range.mp hj))
theorem gr_len : (gr k a).length = k := by unfold gr; rw [List.length_map, List.length_range]
theorem idx_pw (p : Pw) {j : Nat} {x : Int} (h : p[j]? = some x) : fIdx (pwW p) (.int (j : Int)) st = .ok (.st, .int x) st := by
  have hl : j < (p.map W.int).length := by rw [List.length_map]; exact (List.getElem?_eq_some_iff.mp h).1
  show (match atI (p.map W.int) (j : Int) with | some w => okS w st | none => .bad) = _
  rw [ev_atN hl, List.getElem?_map, h]
  rfl
theorem ints_map (l : List Int) : intsOf (l.map W.int) = some l := by
  induction l with
  | nil => rfl
  | cons x l ih => show (intsOf (l.map W.int)).map (x :: ·) = _; rw [ih]; rfl
theorem maxD_col (l : List Int) : fMaxD (.lst (l.map W.int)) (.int 0) st = .ok (.st, .int (mx l)) st := by
  show (match intsOf (l.map W.int) with | some [] => okS (.int 0) st | some (n :: ns) => okS (.int (maxI (n :: ns))) st | none => .bad) = _
  rw [ints_map]
  cases l <;> rfl
theorem ev_maxD {p d : PX} {fr : Frame} : eMaxD p d fr st = (p fr st).bind fun x s1 => (d fr s1).bind fun y s2 => fMaxD x.2 y.2 s2 := rfl
theorem greatest_ok (h : Over k c a) (hk : k ≤ 120) (ha : a.length ≤ sizeLine) : p_greatest_powers [.int k, meanW a] st = .ok (.st, pwW (gr k a)) st := by
  have inner : ∀ j : Nat, j < k → eComp (iSeqL (eVar 1)) (gTp 2 (gsCons (gN 3) (gsCons (gN 4) gsNil))) bYes (eBin fIdx (eVar 3) (eVar 2)) [3, 4] [.val (.int k), .val (meanW a), .val (.int j), .no, .no] st = .ok (.fr, .lst ((col a j).map W.int)) st := fun j hj => by
    have cr := comp_map (q := gTp 2 (gsCons (gN 3) (gsCons (gN 4) gsNil))) (el := eBin fIdx (eVar 3) (eVar 2)) (st := st) (fr := [.val (.int k), .val (meanW a), .val (.int j), .no, .no]) rowW (fun r => .int (r.1.getD j 0)) a [] (by simpa using ha) fun r hr =>
      ⟨[.val (.int k), .val (meanW a), .val (.int j), .val (pwW r.1), .val (.int r.2)], by simp, .st, by
        simp only [ev_bin, ev_var, List.getElem?_cons_zero, List.getElem?_cons_succ, ev_bind]
        exact idx_pw r.1 (h.at hr hj).1, rfl⟩
    rw [List.nil_append] at cr
    have no : noOwn [3, 4] [Sl.val (.int k), .val (meanW a), .val (.int j), .no, .no] = true := rfl
    have fo : forgetF [3, 4] [Sl.val (.int k), .val (meanW a), .val (.int j), .no, .no] = [Sl.val (.int k), .val (meanW a), .val (.int j), .no, .no] := rfl
    rw [ev_comp]
    simp only [ev_iseql, ev_var, List.getElem?_cons_zero, List.getElem?_cons_succ, ev_bind, ev_seq_t, no, if_true, fo, cr]
    unfold col
    rw [List.map_map]
    rfl
  have outer := comp_map (α := Nat) (q := gN 2) (el := eMaxD (eComp (iSeqL (eVar 1)) (gTp 2 (gsCons (gN 3) (gsCons (gN 4) gsNil))) bYes (eBin fIdx (eVar 3) (eVar 2)) [3, 4]) (eC (.int 0))) (st := st) (fr := [.val (.int k), .val (meanW a), .no, .no, .no])
    (fun j => .int (0 + (j : Nat))) (fun j => .int (mx (col a j))) (List.range k) [] (by rw [List.length_nil, List.length_range, sizeLine_eq]; omega) fun j hj =>
    ⟨[.val (.int k), .val (meanW a), .val (.int j), .no, .no], by simp, .st, by
      rw [ev_maxD, inner j (List.mem_range.mp hj), ev_bind, ev_c, ev_bind]
      exact maxD_col _, rfl⟩
  rw [List.nil_append] at outer
  have hI : iRng1 (aCons (eVar 0) aNil) [.val (.int k), .val (meanW a), .no, .no, .no] st = .ok (rngW 0 k) st := rng1_ok (by simp) (inR_nat hk)
  have no : noOwn [2] [Sl.val (.int k), .val (meanW a), .no, .no, .no] = true := rfl
  have fo : forgetF [2] [Sl.val (.int k), .val (meanW a), .no, .no, .no] = [Sl.val (.int k), .val (meanW a), .no, .no, .no] := rfl
  have hC : eComp (iRng1 (aCons (eVar 0) aNil)) (gN 2) bYes (eMaxD (eComp (iSeqL (eVar 1)) (gTp 2 (gsCons (gN 3) (gsCons (gN 4) gsNil))) bYes (eBin fIdx (eVar 3) (eVar 2)) [3, 4]) (eC (.int 0))) [2] [.val (.int k), .val (meanW a), .no, .no, .no] st = .ok (.fr, .lst ((gr k a).map W.int)) st := by
    rw [ev_comp, hI, ev_bind, if_pos no, fo]
    unfold rngW
    rw [outer, ev_bind]
    unfold gr
    rw [List.map_map]
    rfl
  unfold p_greatest_powers b_greatest_powers
  have hb : ([W.int k, meanW a].map Sl.val ++ List.replicate (5 - [W.int k, meanW a].length) Sl.no) = [.val (.int k), .val (meanW a), .no, .no, .no] := rfl
  rw [ev_body, hb, ev_ret, ev_c1, hC]
  rfl
end
end Vy.K49

set_option Elab.async false
set_option linter.all false
set_option maxRecDepth 100000
set_option maxHeartbeats 1000000
/-! A mean at sizes. -/
namespace Vy.K49
open PySem PySem.Spec PyProof.Rows L2 Vy.Mean
def lin (f : Pw → Int) : List MRow → Int
  | [] => 0
  | r :: a => r.2 * f r.1 + lin f a
theorem lin_append (f : Pw → Int) : ∀ a b : List MRow, lin f (a ++ b) = lin f a + lin f b
  | [], b => (Int.zero_add _).symm
  | r :: a, b => by show _ + lin f (a ++ b) = _ + lin f a + lin f b; rw [lin_append f a b, Int.add_assoc]
theorem lin_snoc (f : Pw → Int) (a : List MRow) (r : MRow) : lin f (a ++ [r]) = lin f a + r.2 * f r.1 := by
  rw [lin_append]
  show lin f a + (r.2 * f r.1 + 0) = _
  rw [Int.add_zero]
def subP (g p : Pw) : Pw := List.zipWith (· - ·) g p
theorem subP_zip : ∀ p q : Pw, (subP p q).map W.int = (List.zip p q).map fun x => .int (x.1 - x.2)
  | [], _ => rfl
  | _ :: _, [] => rfl
  | x :: p, y :: q => congrArg (W.int (x - y) :: ·) (subP_zip p q)
/-- p lies below g -/
def Below (g p : Pw) : Prop := ∀ x ∈ List.zip g p, x.2 ≤ x.1
theorem subP_bd {g p : Pw} {c : Nat} (hb : Below g p) (hg : ∀ x ∈ g, x ≤ c) (hp : ∀ x ∈ p, 0 ≤ x) : ∀ x ∈ subP g p, 0 ≤ x ∧ x ≤ c := by
  induction g generalizing p with
  | nil => intro x hx; cases hx
  | cons y g ih =>
    cases p with
    | nil => intro x hx; cases hx
    | cons z p =>
      intro x hx
      have h1 := hb (y, z) (List.mem_cons_self ..)
      have h2 := hg y (List.mem_cons_self ..)
      have h3 := hp z (List.mem_cons_self ..)
      rcases List.mem_cons.mp (show x ∈ (y - z) :: subP g p from hx) with rfl | hx
      · have h1 : z ≤ y := h1
        omega
      · exact ih (fun w hw => hb w (List.mem_cons_of_mem _ hw)) (fun w hw => hg w (List.mem_cons_of_mem _ hw)) (fun w hw => hp w (List.mem_cons_of_mem _ hw)) x hx
section
variable {st : Store} {k c : Nat} {a : List MRow}
theorem gr_below (h : Over k c a) {r : MRow} (hr : r ∈ a) : Below (gr k a) r.1 := fun x hx => by
  obtain ⟨j, hj⟩ := List.mem_iff_getElem?.mp hx
  obtain ⟨h1, h2⟩ := List.getElem?_zip_eq_some.mp hj
  have hjk : j < k := by have := (List.getElem?_eq_some_iff.mp h1).1; rw [gr_len] at this; exact this
  unfold gr at h1
  rw [List.getElem?_map, List.getElem?_range hjk] at h1
  have h1 : some (mx (col a j)) = some x.1 := h1
  have e := (h.at hr hjk).1
  rw [h2] at e
  have e2 := Option.some.inj e
  rw [← Option.some.inj h1, e2]
  exact mx_ge (List.mem_map.mpr ⟨r, hr, rfl⟩)
/-- sizes: from 1 to thirty figures -/
structure Sizes (k : Nat) (ns : List Int) : Prop where
  len : ns.length = k
  le : ∀ n ∈ ns, Le n 30
  pos : ∀ n ∈ ns, 1 ≤ n
theorem pp_pos : ∀ {ns : List Int} {ps : Pw}, (∀ n ∈ ns, 1 ≤ n) → 0 < pp ns ps
  | [], _, _ => by show (0 : Int) < 1; decide
  | _ :: _, [], _ => by show (0 : Int) < 1; decide
  | n :: ns, p :: ps, h => Int.mul_pos (Int.pow_pos (by have := h n (List.mem_cons_self ..); omega)) (pp_pos fun m hm => h m (List.mem_cons_of_mem _ hm))
/-- the fraction of a mean at sizes -/
def atF (k : Nat) (a : List MRow) (ns : List Int) : Fr := nf (lin (fun p => pp ns (subP (gr k a) p)) a) (pp ns (gr k a))
/-- numbers of some sixty figures, few rows -/
structure Few (a : List MRow) : Prop where
  nums : ∀ r ∈ a, Le r.2 60
  len : a.length ≤ 300
theorem term_le {ns : List Int} (hs : Sizes k ns) (hk : k ≤ 3) (h : Over k c a) (hc : c ≤ 40) {r : MRow} (hr : r ∈ a) : Le (pp ns (subP (gr k a) r.1)) 3600 := by
  have z := pp_le (ns := ns) (ps := subP (gr k a) r.1) (c := 40) hs.le fun p hp => (subP_bd (c := 40) (gr_below h hr) (fun x hx => by have := (gr_bd h x hx).2; omega) (h.lo r hr) p hp).2
  rw [hs.len] at z
  exact z.mono (by omega)
theorem mean_at_ok {ns : List Int} (hs : Sizes k ns) (hk : k ≤ 3) (h : Over k c a) (hc : c ≤ 40) (hf : Few a) : p_mean_at [meanW a, pwW ns] st = .ok (.st, frW (atF k a ns)) st := by
  have hg := greatest_ok (st := st) h (by omega) (by have := hf.len; rw [sizeLine_eq]; omega)
  have hgb := gr_bd h
  obtain ⟨fr', st', e, _, hlen, x4, x5, e1, e2⟩ := for_map (q := gTp 2 (gsCons (gN 4) (gsCons (gN 5) gsNil)))
    (b := sSet 3 (eBin fAdd (eVar 3) (eBin fMul (eVar 5) (eCall p_size_product (aCons (eVar 1) (aCons (eComp (iZip2 (aCons (eVar 2) (aCons (eVar 4) aNil))) (gTp 2 (gsCons (gN 6) (gsCons (gN 7) gsNil))) bYes (eBin fSub (eVar 6) (eVar 7)) [6, 7]) aNil))))))
    rowW (fun pre fr st' => Le (lin (fun p => pp ns (subP (gr k a) p)) pre) (3660 + pre.length) ∧ pre.length ≤ a.length ∧ ∃ x4 x5 : Sl, fr = [.val (meanW a), .val (pwW ns), .val (pwW (gr k a)), .val (.int (lin (fun p => pp ns (subP (gr k a) p)) pre)), x4, x5, .no, .no] ∧ st' = st) a
    [.val (meanW a), .val (pwW ns), .val (pwW (gr k a)), .val (.int 0), .no, .no, .no, .no] st ⟨Le.zero, Nat.zero_le _, .no, .no, rfl, rfl⟩ fun pre r fr st' hr hpre ⟨hle, hpl, x4, x5, e1, e2⟩ => by
      subst e1 e2
      have cr := comp_map (q := gTp 2 (gsCons (gN 6) (gsCons (gN 7) gsNil))) (el := eBin fSub (eVar 6) (eVar 7)) (st := st') (fr := [.val (meanW a), .val (pwW ns), .val (pwW (gr k a)), .val (.int (lin (fun p => pp ns (subP (gr k a) p)) pre)), .val (pwW r.1), .val (.int r.2), .no, .no])
        (fun x : Int × Int => .tup [.int x.1, .int x.2]) (fun x => .int (x.1 - x.2)) (List.zip (gr k a) r.1) [] (by
          have := List.length_zip (l₁ := gr k a) (l₂ := r.1)
          rw [gr_len] at this
          rw [List.length_nil, sizeLine_eq]; omega) fun x hx =>
        ⟨[.val (meanW a), .val (pwW ns), .val (pwW (gr k a)), .val (.int (lin (fun p => pp ns (subP (gr k a) p)) pre)), .val (pwW r.1), .val (.int r.2), .val (.int x.1), .val (.int x.2)], by simp, .st, by simp, rfl⟩
      rw [List.nil_append, ← subP_zip] at cr
      have no : noOwn [6, 7] [Sl.val (meanW a), .val (pwW ns), .val (pwW (gr k a)), .val (.int (lin (fun p => pp ns (subP (gr k a) p)) pre)), .val (pwW r.1), .val (.int r.2), .no, .no] = true := rfl
      have fo : forgetF [6, 7] [Sl.val (meanW a), .val (pwW ns), .val (pwW (gr k a)), .val (.int (lin (fun p => pp ns (subP (gr k a) p)) pre)), .val (pwW r.1), .val (.int r.2), .no, .no] = [Sl.val (meanW a), .val (pwW ns), .val (pwW (gr k a)), .val (.int (lin (fun p => pp ns (subP (gr k a) p)) pre)), .val (pwW r.1), .val (.int r.2), .no, .no] := rfl
      have hZ : iZip2 (aCons (eVar 2) (aCons (eVar 4) aNil)) [.val (meanW a), .val (pwW ns), .val (pwW (gr k a)), .val (.int (lin (fun p => pp ns (subP (gr k a) p)) pre)), .val (pwW r.1), .val (.int r.2), .no, .no] st' = .ok ((List.zip (gr k a) r.1).map fun x : Int × Int => .tup [.int x.1, .int x.2]) st' := by
        rw [← zip_ints]
        rfl
      have hC : eComp (iZip2 (aCons (eVar 2) (aCons (eVar 4) aNil))) (gTp 2 (gsCons (gN 6) (gsCons (gN 7) gsNil))) bYes (eBin fSub (eVar 6) (eVar 7)) [6, 7] [.val (meanW a), .val (pwW ns), .val (pwW (gr k a)), .val (.int (lin (fun p => pp ns (subP (gr k a) p)) pre)), .val (pwW r.1), .val (.int r.2), .no, .no] st' = .ok (.fr, .lst ((subP (gr k a) r.1).map W.int)) st' := by
        rw [ev_comp, hZ, ev_bind, if_pos no, fo, cr, ev_bind]
      have hsp := size_product_ok (st := st') (ns := ns) (ps := subP (gr k a) r.1) (w := .lst ((subP (gr k a) r.1).map W.int)) rfl hs.le (by rw [hs.len]; exact hk) (subP_bd (c := 40) (gr_below h hr) (fun x hx => by have := (hgb x hx).2; omega) (h.lo r hr))
      have ht := term_le hs hk h hc hr
      have hn := hf.nums r hr
      have hm := mul_ok (hn.mono (k := 4000) (by decide)) (ht.mono (k := 4000) (by decide))
      refine ⟨[.val (meanW a), .val (pwW ns), .val (pwW (gr k a)), .val (.int (lin (fun p => pp ns (subP (gr k a) p)) pre)), .val (pwW r.1), .val (.int r.2), .no, .no], [.val (meanW a), .val (pwW ns), .val (pwW (gr k a)), .val (.int (lin (fun p => pp ns (subP (gr k a) p)) (pre ++ [r]))), .val (pwW r.1), .val (.int r.2), .no, .no], st', by simp, ?_, ?_, by rw [List.length_append, List.length_singleton]; omega, _, _, rfl, rfl⟩
      · rw [lin_snoc]
        simp only [ev_set, ev_bin, ev_var, List.getElem?_cons_zero, List.getElem?_cons_succ, ev_bind, ev_call, ev_acons, ev_anil, hC, ev_keep_st, ev_keep_fr, if_true, hsp, ev_mul hm, ev_add, ev_slof_st, List.set_cons_zero, List.set_cons_succ]
      · rw [lin_snoc, List.length_append, List.length_singleton, ← Nat.add_assoc]
        exact hle.add ((hn.mul ht).mono (by omega))
  subst e1 e2
  have hlin : Le (lin (fun p => pp ns (subP (gr k a) p)) a) 4000 := by
    have := hf.len
    rename_i hq
    exact hq.mono (by omega)
  have hbot : Le (pp ns (gr k a)) 4000 := by
    have z := pp_le (ns := ns) (ps := gr k a) (c := 40) hs.le fun p hp => by have := (hgb p hp).2; omega
    rw [hs.len] at z
    exact z.mono (by omega)
  have hb0 : pp ns (gr k a) ≠ 0 := by have := pp_pos (ns := ns) (ps := gr k a) hs.pos; omega
  have hfr := fraction_of_ok _ _ st' hlin hbot hb0
  have hsp := size_product_ok (st := st') (ns := ns) (ps := gr k a) (w := pwW (gr k a)) rfl hs.le (by rw [hs.len]; exact hk) (fun x hx => by have := hgb x hx; omega)
  unfold p_mean_at b_mean_at
  have hg' : p_greatest_powers [.int (ns.length : Nat), meanW a] st' = .ok (.st, pwW (gr k a)) st' := by rw [hs.len]; exact hg
  simp -implicitDefEqProofs [hg', putsF, e, hsp, hfr, atF]
end
end Vy.K49

set_option Elab.async false
set_option linter.all false
set_option maxRecDepth 100000
set_option maxHeartbeats 1000000
/-! The law's own mean at sizes. -/
namespace Vy.K49
open PySem PySem.Spec PyProof.Rows L2 Vy.Mean
section
variable {st : Store} {k c : Nat} {a : List MRow}
theorem pp_take : ∀ {ns : List Int} {ps : Pw} {j : Nat} {n p : Int}, ns[j]? = some n → ps[j]? = some p → pp (ns.take (j + 1)) (ps.take (j + 1)) = pp (ns.take j) (ps.take j) * n ^ p.toNat
  | m :: ns, q :: ps, 0, n, p, h1, h2 => by
    cases h1
    cases h2
    show m ^ q.toNat * 1 = 1 * m ^ q.toNat
    rw [Int.mul_one, Int.one_mul]
  | m :: ns, q :: ps, j + 1, n, p, h1, h2 => by
    show m ^ q.toNat * pp (ns.take (j + 1)) (ps.take (j + 1)) = m ^ q.toNat * pp (ns.take j) (ps.take j) * n ^ p.toNat
    rw [pp_take (ns := ns) (ps := ps) (j := j) h1 h2, Int.mul_assoc]
  | [], _, _, _, _, h, _ => by simp at h
  | _ :: _, [], _, _, _, _, h => by simp at h
theorem col_max (h : Over k c a) (ha : a.length + 1 ≤ sizeLine) {j : Nat} (hj : j < k) {A B C D : W} {L : List W} {x : Sl} :
    eC1 fMax (eBin fAdd (eComp (iSeqL (eVar 0)) (gTp 2 (gsCons (gN 7) (gsCons (gN 8) gsNil))) bYes (eBin fIdx (eVar 7) (eVar 5)) [7, 8]) (eLst (aCons (eC (.int 0)) aNil)))
      [.val (meanW a), .val A, .val B, .val C, .own (.lst L), .val (.int (j : Int)), .val D, .no, .no, .no, .no] st = .ok (.st, .int (mx (col a j))) st := by
  have cr := comp_map (q := gTp 2 (gsCons (gN 7) (gsCons (gN 8) gsNil))) (el := eBin fIdx (eVar 7) (eVar 5)) (st := st) (fr := [.val (meanW a), .val A, .val B, .val C, .own (.lst L), .val (.int (j : Int)), .val D, .no, .no, .no, .no]) rowW (fun r => .int (r.1.getD j 0)) a [] (by rw [List.length_nil]; omega) fun r hr =>
    ⟨[.val (meanW a), .val A, .val B, .val C, .own (.lst L), .val (.int (j : Int)), .val D, .val (pwW r.1), .val (.int r.2), .no, .no], by simp, .st, by
      simp only [ev_bin, ev_var, List.getElem?_cons_zero, List.getElem?_cons_succ, ev_bind]
      exact idx_pw r.1 (h.at hr hj).1, rfl⟩
  rw [List.nil_append] at cr
  have no : noOwn [7, 8] [Sl.val (meanW a), .val A, .val B, .val C, .own (.lst L), .val (.int (j : Int)), .val D, .no, .no, .no, .no] = true := rfl
  have fo : forgetF [7, 8] [Sl.val (meanW a), .val A, .val B, .val C, .own (.lst L), .val (.int (j : Int)), .val D, .no, .no, .no, .no] = [Sl.val (meanW a), .val A, .val B, .val C, .own (.lst L), .val (.int (j : Int)), .val D, .no, .no, .no, .no] := rfl
  have hC : eComp (iSeqL (eVar 0)) (gTp 2 (gsCons (gN 7) (gsCons (gN 8) gsNil))) bYes (eBin fIdx (eVar 7) (eVar 5)) [7, 8] [.val (meanW a), .val A, .val B, .val C, .own (.lst L), .val (.int (j : Int)), .val D, .no, .no, .no, .no] st = .ok (.fr, .lst ((col a j).map W.int)) st := by
    rw [ev_comp]
    simp only [ev_iseql, ev_var, List.getElem?_cons_zero, List.getElem?_cons_succ, ev_bind, ev_seq_t, no, if_true, fo, cr]
    unfold col
    rw [List.map_map]
    rfl
  obtain ⟨n, ns, e1, e2⟩ := max_zero fun y hy => (col_bd h hj y hy).1
  have hm : fMax (.lst ((col a j).map W.int ++ [.int 0])) st = .ok (.st, .int (mx (col a j))) st := by
    have e3 : (col a j).map W.int ++ [.int 0] = (n :: ns).map W.int := by rw [← e1, List.map_append]; rfl
    show (match intsOf ((col a j).map W.int ++ [.int 0]) with | some (n :: ns) => okS (.int (maxI (n :: ns))) st | _ => .bad) = _
    rw [e3, ints_map, ← e2]
  have hz : ((col a j).map W.int).length + [W.int 0].length ≤ sizeLine := by unfold col; rw [List.length_map, List.length_map]; exact ha
  have h1 : (1 : Nat) ≤ 16777216 := by decide
  simp only [ev_c1, ev_bin, hC, ev_bind, ev_lst, ev_acons, ev_anil, ev_c, ev_keep_st, if_true, List.length_cons, List.length_nil, ev_size, Nat.zero_add, h1, ev_add_l]
  rw [ev_grd (by simpa using hz), ev_bind, hm]
/-- the inner loop: a number times the sizes' powers -/
theorem times_powers {ns : List Int} (hs : Sizes k ns) (hk : k ≤ 3) {g p : Pw} (hg : g.length = k) (hp : p.length = k) (hb : ∀ x ∈ subP g p, 0 ≤ x ∧ x ≤ 40) {n : Int} (hn : Le n 60) {A T B : W} {y6 y9 y10 x5 : Sl} :
    ∃ z6 z9 z10 : Sl, sFor (iZip3 (aCons (eVar 1) (aCons (eVar 4) (aCons (eVar 7) aNil)))) (gTp 3 (gsCons (gN 6) (gsCons (gN 9) (gsCons (gN 10) gsNil)))) (sSet 8 (eBin fMul (eVar 8) (eCall p_law_power (aCons (eVar 6) (aCons (eBin fSub (eVar 9) (eVar 10)) aNil)))))
      [.val A, .val (pwW ns), .val T, .val B, .val (.lst (g.map W.int)), x5, y6, .val (pwW p), .val (.int n), y9, y10] st = .ok (.nx [.val A, .val (pwW ns), .val T, .val B, .val (.lst (g.map W.int)), x5, z6, .val (pwW p), .val (.int (n * pp ns (subP g p))), z9, z10]) st := by
  have hlen : (zip3W (ns.map W.int) (g.map W.int) (p.map W.int)).length = k := by
    unfold zip3W
    rw [List.length_zipWith, List.length_zipWith, List.length_map, List.length_map, List.length_map, hs.len, hg, hp]
    omega
  have hsl : (subP g p).length = k := by unfold subP; rw [List.length_zipWith, hg, hp]; omega
  obtain ⟨fr', st', e, _, z6, z9, z10, e1, e2⟩ := for_run (q := gTp 3 (gsCons (gN 6) (gsCons (gN 9) (gsCons (gN 10) gsNil)))) (b := sSet 8 (eBin fMul (eVar 8) (eCall p_law_power (aCons (eVar 6) (aCons (eBin fSub (eVar 9) (eVar 10)) aNil)))))
    (fun j fr st' => j ≤ k ∧ ∃ z6 z9 z10 : Sl, fr = [.val A, .val (pwW ns), .val T, .val B, .val (.lst (g.map W.int)), x5, z6, .val (pwW p), .val (.int (n * pp (ns.take j) ((subP g p).take j))), z9, z10] ∧ st' = st) (zip3W (ns.map W.int) (g.map W.int) (p.map W.int)) 0
    [.val A, .val (pwW ns), .val T, .val B, .val (.lst (g.map W.int)), x5, y6, .val (pwW p), .val (.int n), y9, y10] st ⟨Nat.zero_le _, y6, y9, y10, by rw [show pp (ns.take 0) ((subP g p).take 0) = 1 from rfl, Int.mul_one], rfl⟩ fun j w fr st' hw ⟨hjk, z6, z9, z10, e1, e2⟩ => by
      subst e1 e2
      rw [Nat.zero_add] at hjk ⊢
      have hj : j < k := by have := (List.getElem?_eq_some_iff.mp hw).1; rw [hlen] at this; exact this
      obtain ⟨x, y, z, hx, hy, hz, rfl⟩ := zip3W_get hw
      rw [List.getElem?_map] at hx hy hz
      obtain ⟨x', hx', rfl⟩ := Option.map_eq_some_iff.mp hx
      obtain ⟨y', hy', rfl⟩ := Option.map_eq_some_iff.mp hy
      obtain ⟨z', hz', rfl⟩ := Option.map_eq_some_iff.mp hz
      have hsub : (subP g p)[j]? = some (y' - z') := by
        unfold subP
        rw [List.getElem?_zipWith, hy', hz']
      have hbd := hb _ (List.mem_of_getElem? hsub)
      have hnl := hs.le x' (List.mem_of_getElem? hx')
      have hpw := law_power_ok (st := st') (n := x') (y' - z').toNat hnl (by omega)
      rw [Int.toNat_of_nonneg hbd.1] at hpw
      have hq := pp_le (ns := ns.take j) (ps := (subP g p).take j) (c := 40) (fun m hm => hs.le m (List.mem_of_mem_take hm)) fun p hp => by have := (hb p (List.mem_of_mem_take hp)).2; omega
      have hlt : (ns.take j).length ≤ 2 := by rw [List.length_take]; omega
      have hmu := mul_ok ((hn.mul hq).mono (k := 4000) (by omega)) ((Le.pow hnl (y' - z').toNat).mono (k := 4000) (by omega))
      refine ⟨[.val A, .val (pwW ns), .val T, .val B, .val (.lst (g.map W.int)), x5, .val (.int x'), .val (pwW p), .val (.int (n * pp (ns.take j) ((subP g p).take j))), .val (.int y'), .val (.int z')],
        [.val A, .val (pwW ns), .val T, .val B, .val (.lst (g.map W.int)), x5, .val (.int x'), .val (pwW p), .val (.int (n * pp (ns.take (j + 1)) ((subP g p).take (j + 1)))), .val (.int y'), .val (.int z')], st', by simp, ?_, by omega, _, _, _, rfl, rfl⟩
      rw [pp_take hx' hsub, ← Int.mul_assoc]
      simp only [ev_set, ev_bin, ev_var, ev_call, ev_acons, ev_anil, ev_bind, List.getElem?_cons_zero, List.getElem?_cons_succ, ev_keep_st, if_true, ev_sub, hpw, ev_mul hmu, ev_slof_st, List.set_cons_zero, List.set_cons_succ]
  rw [Nat.zero_add, hlen] at e1
  have t1 : ns.take k = ns := by rw [← hs.len, List.take_length]
  have t2 : (subP g p).take k = subP g p := by rw [← hsl, List.take_length]
  rw [t1, t2] at e1
  subst e1 e2
  have hZ : iZip3 (aCons (eVar 1) (aCons (eVar 4) (aCons (eVar 7) aNil))) [.val A, .val (pwW ns), .val T, .val B, .val (.lst (g.map W.int)), x5, y6, .val (pwW p), .val (.int n), y9, y10] st' = .ok (zip3W (ns.map W.int) (g.map W.int) (p.map W.int)) st' := rfl
  exact ⟨z6, z9, z10, by rw [ev_for, hZ, ev_bind, e]⟩
theorem law_mean_at_ok {ns : List Int} (hs : Sizes k ns) (hk : k ≤ 3) (h : Over k c a) (hc : c ≤ 40) (hf : Few a) : p_law_mean_at [meanW a, pwW ns] st = .ok (.st, frW (atF k a ns)) st := by
  have hal : a.length + 1 ≤ sizeLine := by have := hf.len; rw [sizeLine_eq]; omega
  have hgb := gr_bd h
  -- the greatest powers, the product below
  obtain ⟨fr1, st1, l1, _, x5, x6, e1, e2⟩ := for_run (q := gTp 2 (gsCons (gN 5) (gsCons (gN 6) gsNil)))
    (b := sSeq (sApp 4 (eC1 fMax (eBin fAdd (eComp (iSeqL (eVar 0)) (gTp 2 (gsCons (gN 7) (gsCons (gN 8) gsNil))) bYes (eBin fIdx (eVar 7) (eVar 5)) [7, 8]) (eLst (aCons (eC (.int 0)) aNil)))))
      (sSet 3 (eBin fMul (eVar 3) (eCall p_law_power (aCons (eVar 6) (aCons (eBin fIdx (eVar 4) (eVar 5)) aNil))))))
    (fun j fr st' => j ≤ k ∧ ∃ x5 x6 : Sl, fr = [.val (meanW a), .val (pwW ns), .val (.int 0), .val (.int (pp (ns.take j) ((gr k a).take j))), .own (.lst (((gr k a).take j).map W.int)), x5, x6, .no, .no, .no, .no] ∧ st' = st) (zipW (rngW 0 (ns.map W.int).length) (ns.map W.int)) 0
    [.val (meanW a), .val (pwW ns), .val (.int 0), .val (.int 1), .own (.lst []), .no, .no, .no, .no, .no, .no] st ⟨Nat.zero_le _, .no, .no, rfl, rfl⟩ fun j w fr st' hw ⟨hjk, x5, x6, e1, e2⟩ => by
      subst e1 e2
      rw [Nat.zero_add] at hjk ⊢
      obtain ⟨x, hx, rfl⟩ := enumW_get hw
      rw [List.getElem?_map] at hx
      cases hn : ns[j]? with
      | none => rw [hn] at hx; cases hx
      | some n =>
        rw [hn] at hx
        cases hx
        have hj : j < k := by have := (List.getElem?_eq_some_iff.mp hn).1; rw [hs.len] at this; exact this
        have hg : (gr k a)[j]? = some (mx (col a j)) := by unfold gr; rw [List.getElem?_map, List.getElem?_range hj]; rfl
        have hgm := hgb _ (List.mem_of_getElem? hg)
        have hnl := hs.le n (List.mem_of_getElem? hn)
        have hcm := col_max (st := st') h hal hj (A := pwW ns) (B := .int 0) (C := .int (pp (ns.take j) ((gr k a).take j))) (D := .int n) (L := ((gr k a).take j).map W.int) (x := .no)
        have ht : (gr k a).take (j + 1) = (gr k a).take j ++ [mx (col a j)] := by rw [List.take_add_one, hg]; rfl
        have hz : (((gr k a).take j).map W.int).length < 16777216 := by rw [List.length_map, List.length_take]; omega
        have hpw := law_power_ok (st := st') (n := n) (mx (col a j)).toNat hnl (by omega)
        rw [Int.toNat_of_nonneg hgm.1] at hpw
        have hq := pp_le (ns := ns.take j) (ps := (gr k a).take j) (c := 40) (fun m hm => hs.le m (List.mem_of_mem_take hm)) fun p hp => by have := (hgb p (List.mem_of_mem_take hp)).2; omega
        have hlt : (ns.take j).length ≤ 2 := by rw [List.length_take]; omega
        have hmu := mul_ok (hq.mono (k := 4000) (by omega)) ((Le.pow hnl (mx (col a j)).toNat).mono (k := 4000) (by omega))
        have hix : fIdx (.lst (((gr k a).take j ++ [mx (col a j)]).map W.int)) (.int (j : Int)) st' = .ok (.st, .int (mx (col a j))) st' := by
          have hl : j < (((gr k a).take j ++ [mx (col a j)]).map W.int).length := by rw [List.length_map, List.length_append, List.length_take, gr_len, List.length_singleton]; omega
          rw [ev_idx_l, ev_atN hl, List.getElem?_map, ← ht, List.getElem?_take_of_lt (by omega), hg]
          rfl
        have happ : sApp 4 (eC1 fMax (eBin fAdd (eComp (iSeqL (eVar 0)) (gTp 2 (gsCons (gN 7) (gsCons (gN 8) gsNil))) bYes (eBin fIdx (eVar 7) (eVar 5)) [7, 8]) (eLst (aCons (eC (.int 0)) aNil))))
            [.val (meanW a), .val (pwW ns), .val (.int 0), .val (.int (pp (ns.take j) ((gr k a).take j))), .own (.lst (((gr k a).take j).map W.int)), .val (.int (j : Int)), .val (.int n), .no, .no, .no, .no] st' =
            .ok (.nx [.val (meanW a), .val (pwW ns), .val (.int 0), .val (.int (pp (ns.take j) ((gr k a).take j))), .own (.lst (((gr k a).take j ++ [mx (col a j)]).map W.int)), .val (.int (j : Int)), .val (.int n), .no, .no, .no, .no]) st' := by
          unfold sApp
          rw [hcm]
          simp only [ev_bind, ev_keep_st, if_true, List.getElem?_cons_zero, List.getElem?_cons_succ, ev_size2, hz, List.set_cons_zero, List.set_cons_succ, List.map_append, List.map_cons, List.map_nil]
        refine ⟨[.val (meanW a), .val (pwW ns), .val (.int 0), .val (.int (pp (ns.take j) ((gr k a).take j))), .own (.lst (((gr k a).take j).map W.int)), .val (.int (j : Int)), .val (.int n), .no, .no, .no, .no],
          [.val (meanW a), .val (pwW ns), .val (.int 0), .val (.int (pp (ns.take (j + 1)) ((gr k a).take (j + 1)))), .own (.lst (((gr k a).take (j + 1)).map W.int)), .val (.int (j : Int)), .val (.int n), .no, .no, .no, .no], st', by simp, ?_, by omega, _, _, rfl, rfl⟩
        rw [pp_take hn hg, ht]
        simp only [ev_seq, happ, ev_bind, ev_set, ev_bin, ev_var, ev_call, ev_acons, ev_anil, List.getElem?_cons_zero, List.getElem?_cons_succ, ev_keep_st, if_true, ev_toW_l, hix, hpw, ev_mul hmu, ev_slof_st, List.set_cons_zero, List.set_cons_succ]
  have hl1 : (zipW (rngW 0 (ns.map W.int).length) (ns.map W.int)).length = k := by
    unfold zipW rngW
    rw [List.length_zipWith, List.length_map, List.length_range, List.length_map, hs.len]
    omega
  rw [Nat.zero_add, hl1] at e1
  have t1 : ns.take k = ns := by rw [← hs.len, List.take_length]
  have t2 : (gr k a).take k = gr k a := List.take_of_length_le (by rw [gr_len]; exact Nat.le_refl _)
  rw [t1, t2] at e1
  subst e1 e2
  -- the sum
  obtain ⟨fr2, st2, l2, hle2, _, x4, x6', x7, x8, x9, x10, hx4, e1, e2⟩ := for_map (q := gTp 2 (gsCons (gN 7) (gsCons (gN 8) gsNil)))
    (b := sSeq (sFrz [4] (sFor (iZip3 (aCons (eVar 1) (aCons (eVar 4) (aCons (eVar 7) aNil)))) (gTp 3 (gsCons (gN 6) (gsCons (gN 9) (gsCons (gN 10) gsNil)))) (sSet 8 (eBin fMul (eVar 8) (eCall p_law_power (aCons (eVar 6) (aCons (eBin fSub (eVar 9) (eVar 10)) aNil)))))))
      (sSet 2 (eBin fAdd (eVar 2) (eVar 8))))
    rowW (fun pre fr st' => Le (lin (fun p => pp ns (subP (gr k a) p)) pre) (3660 + pre.length) ∧ pre.length ≤ a.length ∧ ∃ x4 x6 x7 x8 x9 x10 : Sl, (x4 = .own (.lst ((gr k a).map W.int)) ∨ x4 = .val (.lst ((gr k a).map W.int))) ∧ fr = [.val (meanW a), .val (pwW ns), .val (.int (lin (fun p => pp ns (subP (gr k a) p)) pre)), .val (.int (pp ns (gr k a))), x4, x5, x6, x7, x8, x9, x10] ∧ st' = st1) a
    [.val (meanW a), .val (pwW ns), .val (.int 0), .val (.int (pp ns (gr k a))), .own (.lst ((gr k a).map W.int)), x5, x6, .no, .no, .no, .no] st1 ⟨Le.zero, Nat.zero_le _, _, x6, .no, .no, .no, .no, .inl rfl, rfl, rfl⟩ fun pre r fr st' hr hpre ⟨hle, hpl, x4, x6, x7, x8, x9, x10, hx4, e1, e2⟩ => by
      subst e1 e2
      have hsb := subP_bd (c := 40) (gr_below h hr) (fun x hx => by have := (hgb x hx).2; omega) (h.lo r hr)
      obtain ⟨z6, z9, z10, ez⟩ := times_powers (st := st') hs hk (g := gr k a) (p := r.1) gr_len (h.len r hr) hsb (hf.nums r hr) (A := meanW a) (T := .int (lin (fun p => pp ns (subP (gr k a) p)) pre)) (B := .int (pp ns (gr k a))) (y6 := x6) (y9 := x9) (y10 := x10) (x5 := x5)
      have ht := term_le hs hk h hc hr
      have hfz : ([4] : List Nat).foldr freezeF [.val (meanW a), .val (pwW ns), .val (.int (lin (fun p => pp ns (subP (gr k a) p)) pre)), .val (.int (pp ns (gr k a))), x4, x5, x6, .val (pwW r.1), .val (.int r.2), x9, x10] = [.val (meanW a), .val (pwW ns), .val (.int (lin (fun p => pp ns (subP (gr k a) p)) pre)), .val (.int (pp ns (gr k a))), .val (.lst ((gr k a).map W.int)), x5, x6, .val (pwW r.1), .val (.int r.2), x9, x10] := by
        rcases hx4 with rfl | rfl <;> rfl
      refine ⟨[.val (meanW a), .val (pwW ns), .val (.int (lin (fun p => pp ns (subP (gr k a) p)) pre)), .val (.int (pp ns (gr k a))), x4, x5, x6, .val (pwW r.1), .val (.int r.2), x9, x10],
        [.val (meanW a), .val (pwW ns), .val (.int (lin (fun p => pp ns (subP (gr k a) p)) (pre ++ [r]))), .val (.int (pp ns (gr k a))), .val (.lst ((gr k a).map W.int)), x5, z6, .val (pwW r.1), .val (.int (r.2 * pp ns (subP (gr k a) r.1))), z9, z10], st', by simp, ?_, ?_, by rw [List.length_append, List.length_singleton]; omega, _, _, _, _, _, _, .inr rfl, rfl, rfl⟩
      · rw [lin_snoc]
        simp only [ev_seq, ev_frz, hfz, ez, ev_bind, ev_set, ev_bin, ev_var, List.getElem?_cons_zero, List.getElem?_cons_succ, ev_add, ev_slof_st, List.set_cons_zero, List.set_cons_succ]
      · rw [lin_snoc, List.length_append, List.length_singleton, ← Nat.add_assoc]
        exact hle.add (((hf.nums r hr).mul ht).mono (by omega))
  subst e1 e2
  have hlin : Le (lin (fun p => pp ns (subP (gr k a) p)) a) 4000 := hle2.mono (by have := hf.len; omega)
  have hbot : Le (pp ns (gr k a)) 4000 := by
    have z := pp_le (ns := ns) (ps := gr k a) (c := 40) hs.le fun p hp => by have := (hgb p hp).2; omega
    rw [hs.len] at z
    exact z.mono (by omega)
  have hb0 : pp ns (gr k a) ≠ 0 := by have := pp_pos (ns := ns) (ps := gr k a) hs.pos; omega
  have hfr := law_fraction_ok (st := st2) _ _ hlin hbot hb0
  have hE : iEnum (aCons (eVar 1) aNil) [.val (meanW a), .val (pwW ns), .val (.int 0), .val (.int 1), .own (.lst []), .no, .no, .no, .no, .no, .no] st2 = .ok (zipW (rngW 0 (ns.map W.int).length) (ns.map W.int)) st2 := rfl
  generalize zipW (rngW 0 (ns.map W.int).length) (ns.map W.int) = L at l1 hE
  unfold p_law_mean_at b_law_mean_at
  simp -implicitDefEqProofs [putsF, hE, l1, l2, hfr, atF]
end
end Vy.K49

set_option Elab.async false
set_option linter.all false
set_option maxRecDepth 100000
set_option maxHeartbeats 1000000
/-! Values of sums, products, multiples of means. -/
namespace Vy.K49
open PySem PySem.Spec PyProof.Rows L2 Vy.Mean
/-- a linear reading hangs on the numbers at each key alone -/
theorem lin_split (f : Pw → Int) (k : Pw) : ∀ a : List MRow, lin f a = coef a k * f k + lin f (a.filter fun r => !decide (r.1 = k))
  | [] => by show (0 : Int) = 0 * f k + 0; omega
  | r :: a => by
    show r.2 * f r.1 + lin f a = ((if r.1 = k then r.2 else 0) + coef a k) * f k + _
    rw [lin_split f k a]
    by_cases h : r.1 = k
    · rw [if_pos h, List.filter_cons_of_neg (by simp [h]), Int.add_mul, h]; omega
    · rw [if_neg h, List.filter_cons_of_pos (by simp [h])]
      show _ = (0 + coef a k) * f k + (r.2 * f r.1 + lin f _)
      rw [Int.zero_add]; omega
theorem coef_filter (a : List MRow) (k j : Pw) : coef (a.filter fun r => !decide (r.1 = k)) j = if j = k then 0 else coef a j := by
  induction a with
  | nil => show (0 : Int) = _; by_cases h : j = k <;> simp [h, coef]
  | cons r a ih =>
    by_cases h : r.1 = k
    · rw [List.filter_cons_of_neg (by simp [h]), ih]
      by_cases e : j = k
      · rw [if_pos e, if_pos e]
      · rw [if_neg e, if_neg e]
        show coef a j = (if r.1 = j then r.2 else 0) + coef a j
        rw [if_neg fun z => e (z.symm.trans h), Int.zero_add]
    · rw [List.filter_cons_of_pos (by simp [h])]
      show (if r.1 = j then r.2 else 0) + coef _ j = _
      rw [ih]
      by_cases e : j = k
      · rw [if_pos e, if_pos e, if_neg fun z => h (z.trans e)]; omega
      · rw [if_neg e, if_neg e]; rfl
theorem lin_zero (f : Pw → Int) : ∀ (n : Nat) (a : List MRow), a.length ≤ n → (∀ k, coef a k = 0) → lin f a = 0
  | _, [], _, _ => rfl
  | 0, _ :: _, h, _ => by simp at h
  | n + 1, r :: a, h, h0 => by
    rw [lin_split f r.1 (r :: a), h0, Int.zero_mul, Int.zero_add]
    refine lin_zero f n _ ?_ fun k => ?_
    · rw [List.filter_cons_of_neg (by simp)]
      have := List.length_filter_le (fun s : MRow => !decide (s.1 = r.1)) a
      rw [List.length_cons] at h
      omega
    · rw [coef_filter, h0]
      by_cases e : k = r.1 <;> simp [e]
theorem lin_scale (f : Pw → Int) (c : Int) (a : List MRow) : lin f (a.map fun r => (r.1, c * r.2)) = c * lin f a := by
  induction a with
  | nil => exact (Int.mul_zero c).symm
  | cons r a ih =>
    show c * r.2 * f r.1 + lin f (a.map fun r => (r.1, c * r.2)) = c * (r.2 * f r.1 + lin f a)
    rw [ih, Int.mul_add, Int.mul_assoc]
theorem lin_coef (f : Pw → Int) {a b : List MRow} (h : ∀ k, coef a k = coef b k) : lin f a = lin f b := by
  have z := lin_zero f _ (a ++ b.map fun r => (r.1, -1 * r.2)) (Nat.le_refl _) fun k => by
    rw [coef_append, coef_scale, h]; omega
  rw [lin_append, lin_scale] at z
  omega
theorem lin_put (f : Pw → Int) (a : List MRow) : lin f (put a) = lin f a := lin_coef f (put_coef a)
/-- all of k powers c -/
abbrev all (k c : Nat) : Pw := List.replicate k (c : Int)
theorem pp_three : ∀ {ns : List Int} {E g p : Pw}, E.length = g.length → g.length = p.length → (∀ x ∈ List.zip E g, x.2 ≤ x.1) → (∀ x ∈ List.zip g p, x.2 ≤ x.1) → pp ns (subP g p) * pp ns (subP E g) = pp ns (subP E p)
  | [], _, _, _, _, _, _, _ => rfl
  | n :: ns, [], [], [], _, _, _, _ => rfl
  | n :: ns, e :: E, y :: g, z :: p, h1, h2, h3, h4 => by
    have a1 : y ≤ e := h3 (e, y) (List.mem_cons_self ..)
    have a2 : z ≤ y := h4 (y, z) (List.mem_cons_self ..)
    have ih := pp_three (ns := ns) (E := E) (g := g) (p := p) (by simpa using h1) (by simpa using h2) (fun x hx => h3 x (List.mem_cons_of_mem _ hx)) (fun x hx => h4 x (List.mem_cons_of_mem _ hx))
    show (n ^ (y - z).toNat * pp ns (subP g p)) * (n ^ (e - y).toNat * pp ns (subP E g)) = n ^ (e - z).toNat * pp ns (subP E p)
    rw [← ih, show (e - z).toNat = (y - z).toNat + (e - y).toNat by omega, Int.pow_add]
    simp only [Int.mul_assoc, Int.mul_comm, Int.mul_left_comm]
theorem pp_two : ∀ {ns : List Int} {E g : Pw}, E.length = g.length → (∀ x ∈ List.zip E g, x.2 ≤ x.1) → (∀ x ∈ g, 0 ≤ x) → pp ns g * pp ns (subP E g) = pp ns E
  | [], _, _, _, _, _ => rfl
  | n :: ns, [], [], _, _, _ => rfl
  | n :: ns, e :: E, y :: g, h1, h2, h3 => by
    have a1 : y ≤ e := h2 (e, y) (List.mem_cons_self ..)
    have a2 := h3 y (List.mem_cons_self ..)
    have ih := pp_two (ns := ns) (E := E) (g := g) (by simpa using h1) (fun x hx => h2 x (List.mem_cons_of_mem _ hx)) (fun x hx => h3 x (List.mem_cons_of_mem _ hx))
    show (n ^ y.toNat * pp ns g) * (n ^ (e - y).toNat * pp ns (subP E g)) = n ^ e.toNat * pp ns E
    rw [← ih, show e.toNat = y.toNat + (e - y).toNat by omega, Int.pow_add]
    simp only [Int.mul_assoc, Int.mul_comm, Int.mul_left_comm]
theorem pp_add : ∀ {ns : List Int} {E F p q : Pw}, E.length = p.length → F.length = q.length → E.length = F.length → (∀ x ∈ List.zip E p, x.2 ≤ x.1) → (∀ x ∈ List.zip F q, x.2 ≤ x.1) → pp ns (subP (addP E F) (addP p q)) = pp ns (subP E p) * pp ns (subP F q)
  | [], _, _, _, _, _, _, _, _, _ => rfl
  | n :: ns, [], [], [], [], _, _, _, _, _ => rfl
  | n :: ns, e :: E, f :: F, y :: p, z :: q, h1, h2, h3, h4, h5 => by
    have a1 : y ≤ e := h4 (e, y) (List.mem_cons_self ..)
    have a2 : z ≤ f := h5 (f, z) (List.mem_cons_self ..)
    have ih := pp_add (ns := ns) (E := E) (F := F) (p := p) (q := q) (by simpa using h1) (by simpa using h2) (by simpa using h3) (fun x hx => h4 x (List.mem_cons_of_mem _ hx)) (fun x hx => h5 x (List.mem_cons_of_mem _ hx))
    show n ^ (e + f - (y + z)).toNat * pp ns (subP (addP E F) (addP p q)) = n ^ (e - y).toNat * pp ns (subP E p) * (n ^ (f - z).toNat * pp ns (subP F q))
    rw [ih, show (e + f - (y + z)).toNat = (e - y).toNat + (f - z).toNat by omega, Int.pow_add]
    simp only [Int.mul_assoc, Int.mul_comm, Int.mul_left_comm]
section
variable {k c d : Nat} {a b : List MRow} {ns : List Int}
theorem all_below {p : Pw} (hp : ∀ x ∈ p, x ≤ (c : Int)) : ∀ x ∈ List.zip (all k c) p, x.2 ≤ x.1 := fun x hx => by
  obtain ⟨h1, h2⟩ := List.of_mem_zip (show (x.1, x.2) ∈ _ from hx)
  rw [List.eq_of_mem_replicate h1]
  exact hp _ h2
/-- over a common exponent -/
def over (k c : Nat) (ns : List Int) (a : List MRow) : Int := lin (fun p => pp ns (subP (all k c) p)) a
theorem lin_mul {f g : Pw → Int} {m : Int} : ∀ {a : List MRow}, (∀ r ∈ a, f r.1 * m = g r.1) → lin f a * m = lin g a
  | [], _ => Int.zero_mul _
  | r :: a, h => by
    show (r.2 * f r.1 + lin f a) * m = r.2 * g r.1 + lin g a
    rw [Int.add_mul, lin_mul fun s hs => h s (List.mem_cons_of_mem _ hs), Int.mul_assoc, h r (List.mem_cons_self ..)]
theorem at_over (hs : Sizes k ns) (h : Over k c a) : atF k a ns = nf (over k c ns a) (pp ns (all k c)) := by
  have hg := gr_bd h
  have hb := all_below (k := k) fun x hx => (hg x hx).2
  have hm : pp ns (subP (all k c) (gr k a)) ≠ 0 := by have := pp_pos (ns := ns) (ps := subP (all k c) (gr k a)) hs.pos; omega
  have hd : pp ns (gr k a) ≠ 0 := by have := pp_pos (ns := ns) (ps := gr k a) hs.pos; omega
  have hD : pp ns (all k c) ≠ 0 := by have := pp_pos (ns := ns) (ps := all k c) hs.pos; omega
  have e1 := pp_two (ns := ns) (E := all k c) (g := gr k a) (by rw [List.length_replicate, gr_len]) hb fun x hx => (hg x hx).1
  have e2 : lin (fun p => pp ns (subP (gr k a) p)) a * pp ns (subP (all k c) (gr k a)) = over k c ns a := lin_mul fun r hr =>
    pp_three (by rw [List.length_replicate, gr_len]) (by rw [gr_len, h.len r hr]) hb (gr_below h hr)
  unfold atF
  refine nf_eq hd hD ?_
  rw [← e1, ← e2]
  simp only [Int.mul_assoc, Int.mul_comm, Int.mul_left_comm]
theorem Over.mono (h : Over k c a) (hc : c ≤ d) : Over k d a := ⟨h.len, h.lo, fun r hr p hp => by have := h.hi r hr p hp; omega⟩
theorem Over.append (h : Over k c a) (h' : Over k c b) : Over k c (a ++ b) :=
  ⟨fun r hr => (List.mem_append.mp hr).elim (h.len r) (h'.len r), fun r hr => (List.mem_append.mp hr).elim (h.lo r) (h'.lo r), fun r hr => (List.mem_append.mp hr).elim (h.hi r) (h'.hi r)⟩
theorem Over.keys {b : List MRow} (h : Over k c a) (hk : ∀ p ∈ b.map (·.1), p ∈ a.map (·.1)) : Over k c b := by
  have key : ∀ r ∈ b, ∃ s ∈ a, s.1 = r.1 := fun r hr => List.mem_map.mp (hk r.1 (List.mem_map.mpr ⟨r, hr, rfl⟩))
  refine ⟨fun r hr => ?_, fun r hr => ?_, fun r hr => ?_⟩ <;> obtain ⟨s, hs, e⟩ := key r hr <;> rw [← e]
  · exact h.len s hs
  · exact h.lo s hs
  · exact h.hi s hs
theorem Over.put (h : Over k c a) : Over k c (put a) := h.keys fun _ hp => put_keys hp
theorem Over.scale (h : Over k c a) (m : Int) : Over k c (a.map fun r => (r.1, m * r.2)) := h.keys fun p hp => by rw [List.map_map] at hp; exact hp
theorem addP_len {p q : Pw} : (addP p q).length = min p.length q.length := List.length_zipWith
theorem Over.prod (h : Over k c a) (h' : Over k d b) : Over k (c + d) (prodR a b) := by
  have key : ∀ r ∈ prodR a b, ∃ s ∈ a, ∃ t ∈ b, r = (addP s.1 t.1, s.2 * t.2) := fun r hr => by
    obtain ⟨s, hs, h2⟩ := List.mem_flatMap.mp hr
    obtain ⟨t, ht, rfl⟩ := List.mem_map.mp h2
    exact ⟨s, hs, t, ht, rfl⟩
  have mem : ∀ {p q : Pw} {x : Int}, x ∈ addP p q → ∃ y ∈ p, ∃ z ∈ q, x = y + z := fun {p q x} hx => by
    obtain ⟨j, hj⟩ := List.mem_iff_getElem?.mp hx
    obtain ⟨y, z, h1, h2, e⟩ := zw_get hj
    exact ⟨y, List.mem_of_getElem? h1, z, List.mem_of_getElem? h2, e⟩
  refine ⟨fun r hr => ?_, fun r hr p hp => ?_, fun r hr p hp => ?_⟩ <;> obtain ⟨s, hs, t, ht, rfl⟩ := key r hr
  · show (addP s.1 t.1).length = k
    rw [addP_len, h.len s hs, h'.len t ht, Nat.min_self]
  · obtain ⟨y, hy, z, hz, rfl⟩ := mem hp
    have := h.lo s hs y hy
    have := h'.lo t ht z hz
    omega
  · obtain ⟨y, hy, z, hz, rfl⟩ := mem hp
    have := h.hi s hs y hy
    have := h'.hi t ht z hz
    omega
theorem over_append : over k c ns (a ++ b) = over k c ns a + over k c ns b := lin_append _ a b
theorem over_put : over k c ns (put a) = over k c ns a := lin_put _ a
theorem over_scale (m : Int) : over k c ns (a.map fun r => (r.1, m * r.2)) = m * over k c ns a := lin_scale _ m a
theorem all_add : addP (all k c) (all k d) = all k (c + d) := by
  induction k with
  | zero => rfl
  | succ k ih => rw [all, all, all, List.replicate_succ, List.replicate_succ, List.replicate_succ]; show ((c : Int) + d) :: addP _ _ = _; rw [show addP (List.replicate k (c : Int)) (List.replicate k (d : Int)) = List.replicate k ((c + d : Nat) : Int) from ih]; rfl
theorem over_prod (h : Over k c a) (h' : Over k d b) : over k (c + d) ns (prodR a b) = over k c ns a * over k d ns b := by
  have row : ∀ (r : MRow), r.1.length = k → (∀ x ∈ r.1, x ≤ (c : Int)) → ∀ b : List MRow, Over k d b → over k (c + d) ns (b.map fun s => (addP r.1 s.1, r.2 * s.2)) = r.2 * pp ns (subP (all k c) r.1) * over k d ns b := fun r hl hx b => by
    induction b with
    | nil => intro _; exact (Int.mul_zero _).symm
    | cons s b ih =>
      intro hb
      have ih := ih ⟨fun t ht => hb.len t (List.mem_cons_of_mem _ ht), fun t ht => hb.lo t (List.mem_cons_of_mem _ ht), fun t ht => hb.hi t (List.mem_cons_of_mem _ ht)⟩
      have e := pp_add (ns := ns) (E := all k c) (F := all k d) (p := r.1) (q := s.1) (by rw [List.length_replicate, hl]) (by rw [List.length_replicate, hb.len s (List.mem_cons_self ..)]) (by rw [List.length_replicate, List.length_replicate]) (all_below hx) (all_below (hb.hi s (List.mem_cons_self ..)))
      rw [all_add] at e
      show r.2 * s.2 * pp ns (subP (all k (c + d)) (addP r.1 s.1)) + over k (c + d) ns (b.map fun s => (addP r.1 s.1, r.2 * s.2)) = r.2 * pp ns (subP (all k c) r.1) * (s.2 * pp ns (subP (all k d) s.1) + over k d ns b)
      rw [ih, e, Int.mul_add]
      simp only [Int.mul_assoc, Int.mul_comm, Int.mul_left_comm]
  induction a with
  | nil => exact (Int.zero_mul _).symm
  | cons r a ih =>
    have ih := ih ⟨fun t ht => h.len t (List.mem_cons_of_mem _ ht), fun t ht => h.lo t (List.mem_cons_of_mem _ ht), fun t ht => h.hi t (List.mem_cons_of_mem _ ht)⟩
    have e : prodR (r :: a) b = (b.map fun s => (addP r.1 s.1, r.2 * s.2)) ++ prodR a b := by unfold prodR; rw [List.flatMap_cons]
    rw [e, over_append, row r (h.len r (List.mem_cons_self ..)) (h.hi r (List.mem_cons_self ..)) b h', ih]
    show _ = (r.2 * pp ns (subP (all k c) r.1) + over k c ns a) * over k d ns b
    rw [Int.add_mul]
end
/-! ### sums and products of fractions -/
theorem plus_nf {A B D : Int} (h : D ≠ 0) : nf ((nf A D).1 * (nf B D).2 + (nf B D).1 * (nf A D).2) ((nf A D).2 * (nf B D).2) = nf (A + B) D := by
  obtain ⟨l1, s1⟩ := nf_spec A h
  obtain ⟨l2, s2⟩ := nf_spec B h
  refine nf_eq (Int.mul_ne_zero (low_ne l1) (low_ne l2)) h ?_
  rw [Int.add_mul, Int.add_mul]
  have e1 : (nf A D).1 * (nf B D).2 * D = A * ((nf A D).2 * (nf B D).2) := by
    rw [Int.mul_assoc, Int.mul_comm (nf B D).2, ← Int.mul_assoc, s1, Int.mul_assoc]
  have e2 : (nf B D).1 * (nf A D).2 * D = B * ((nf A D).2 * (nf B D).2) := by
    rw [Int.mul_assoc, Int.mul_comm (nf A D).2, ← Int.mul_assoc, s2, Int.mul_assoc, Int.mul_comm (nf B D).2]
  rw [e1, e2]
theorem by_nf {A B D E : Int} (h : D ≠ 0) (h' : E ≠ 0) : nf ((nf A D).1 * (nf B E).1) ((nf A D).2 * (nf B E).2) = nf (A * B) (D * E) := by
  obtain ⟨l1, s1⟩ := nf_spec A h
  obtain ⟨l2, s2⟩ := nf_spec B h'
  refine nf_eq (Int.mul_ne_zero (low_ne l1) (low_ne l2)) (Int.mul_ne_zero h h') ?_
  have e : (nf A D).1 * (nf B E).1 * (D * E) = ((nf A D).1 * D) * ((nf B E).1 * E) := by simp only [Int.mul_assoc, Int.mul_comm, Int.mul_left_comm]
  rw [e, s1, s2]
  simp only [Int.mul_assoc, Int.mul_comm, Int.mul_left_comm]
theorem neg_nf {B D : Int} (h : D ≠ 0) : ((0 - (nf B D).1, (nf B D).2) : Fr) = nf (-B) D := by
  obtain ⟨l, s⟩ := nf_spec B h
  have l' : Low (0 - (nf B D).1, (nf B D).2) := ⟨l.pos, by show Nat.gcd (0 - (nf B D).1).natAbs _ = 1; rw [Int.zero_sub, Int.natAbs_neg]; exact l.cop⟩
  obtain ⟨m, t⟩ := nf_spec (-B) h
  refine low_eq l' m ?_
  refine Int.eq_of_mul_eq_mul_right h ?_
  show (0 - (nf B D).1) * (nf (-B) D).2 * D = (nf (-B) D).1 * (nf B D).2 * D
  have e1 : (0 - (nf B D).1) * (nf (-B) D).2 * D = -((nf B D).1 * D) * (nf (-B) D).2 := by rw [Int.zero_sub, Int.neg_mul, Int.neg_mul, Int.neg_mul]; simp only [Int.mul_assoc, Int.mul_comm, Int.mul_left_comm]
  have e2 : (nf (-B) D).1 * (nf B D).2 * D = ((nf (-B) D).1 * D) * (nf B D).2 := by simp only [Int.mul_assoc, Int.mul_comm, Int.mul_left_comm]
  rw [e1, e2, s, t, Int.neg_mul, Int.neg_mul, Int.neg_mul, Int.mul_assoc, Int.mul_assoc, Int.mul_comm (nf B D).2]
end Vy.K49

set_option Elab.async false
set_option linter.all false
set_option maxRecDepth 100000
set_option maxHeartbeats 1000000
/-! One of a list; the source opened. -/
namespace Vy.K49
open PySem PySem.Spec PyProof.Rows L2 Vy.Mean
theorem atI_in {ws : List W} {r : Int} (h0 : 0 ≤ r) (h1 : r < ws.length) : ∃ w ∈ ws, atI ws r = some w := by
  have hr : r.toNat < ws.length := by omega
  refine ⟨ws[r.toNat], List.getElem_mem hr, ?_⟩
  have e := ev_atN (ws := ws) hr
  rw [Int.toNat_of_nonneg h0] at e
  rw [e]; exact List.getElem?_eq_getElem hr
theorem law_of_ok {st : Store} {ws : List W} (S : Src st) (h1 : 1 ≤ ws.length) (h2 : ws.length ≤ 63) :
    ∃ (w : W) (st' : Store), w ∈ ws ∧ p_law_of [.ref 1, .lst ws] st = .ok (.st, w) st' ∧ Src st' ∧ st'.drop 2 = st.drop 2 := by
  obtain ⟨r, st', e, S', d, r0, r1⟩ := pick_ok (most := ws.length) S (by unfold Le; rw [Int.natAbs_natCast]; exact Nat.le_trans h2 (by decide))
  obtain ⟨w, hw, hat⟩ := atI_in r0 (r1 (by omega))
  refine ⟨w, st', hw, ?_, S', d⟩
  unfold p_law_of b_law_of
  simp [e, hat]
theorem law_open_ok (ns : List Int) (hl : ns.length ≤ 63) : ∃ st, p_law_open_cells [.scr ns] [] = .ok (.st, .ref 1) st ∧ Src st := by
  unfold p_law_open_cells b_law_open_cells
  obtain ⟨fr', st', e, m, x, e1, e2, hx⟩ := for_map (q := gN 2) (b := sSet 1 (eBin fMod (eC1 fInt (eBin fAdd (eBin fAdd (eBin fMul (eVar 1) (eC (.int 69069))) (eBin fMul (eVar 2) (eC (.int 31)))) (eC (.int 5)))) (eC (.int 2147483629)))) W.int
    (fun _ fr st => ∃ m x, fr = [.val (.scr ns), .val (.int m), x, .no] ∧ st = [] ∧ isOwn (some x) = false) ns [.val (.scr ns), .val (.int 11), .no, .no] [] ⟨11, .no, rfl, rfl, rfl⟩ fun pre x fr st hx hp ⟨m, y, e1, e2, _⟩ => by
      subst e1 e2
      have hm1 : mulOk m 69069 := .inr (.inr ⟨by decide, by decide⟩)
      have hm2 : mulOk x 31 := .inr (.inr ⟨by decide, by decide⟩)
      refine ⟨[.val (.scr ns), .val (.int m), .val (.int x), .no], [.val (.scr ns), .val (.int ((m * 69069 + x * 31 + 5).fmod 2147483629)), .val (.int x), .no], [], rfl, ?_, _, _, rfl, rfl, rfl⟩
      simp [ev_mul hm1, ev_mul hm2, ev_mod (show (2147483629 : Int) ≠ 0 by decide)]
  subst e1 e2
  have hc := comp_map (q := gN 2) (el := eC1 fAbs (eVar 2)) (st := []) (fr := [.val (.scr ns), .val (.int m), .no, .no]) W.int (fun i => .int (if i < 0 then -i else i)) ns [] (by rw [sizeLine_eq]; simp; omega) fun i hi => ⟨_, rfl, .st, by simp, rfl⟩
  refine ⟨src (ns.map fun i => if i < 0 then -i else i).reverse 1 m 0 [], ?_, _, _, _, _, _, rfl, by simpa using hl⟩
  have fo : forgetF [2] [Sl.val (.scr ns), .val (.int m), x, .no] = [Sl.val (.scr ns), .val (.int m), .no, .no] := rfl
  have hno : noOwn [2] [.val (.scr ns), .val (.int m), x, .no] = true := by simp [noOwn, hx]
  have n1 : Str.ofString "cells" ≠ Str.ofString "left" := by decide
  have n2 : Str.ofString "cells" ≠ Str.ofString "mixed" := by decide
  have n3 : Str.ofString "cells" ≠ Str.ofString "turn" := by decide
  have n4 : Str.ofString "left" ≠ Str.ofString "mixed" := by decide
  have n5 : Str.ofString "left" ≠ Str.ofString "turn" := by decide
  have n6 : Str.ofString "mixed" ≠ Str.ofString "turn" := by decide
  simp [iScr, e, fo, hc, hno, eDispP, dispL, eRevP, n1, n2, n3, n4, n5, n6]
  show [Ob.lst _, _] = [Ob.lst _, _]
  rw [← List.map_reverse, ← List.map_reverse, List.map_map]
  rfl
end Vy.K49

set_option Elab.async false
set_option linter.all false
set_option maxRecDepth 100000
set_option maxHeartbeats 1000000
/-! A mean drawn. -/
namespace Vy.K49
open PySem PySem.Spec PyProof.Rows L2 Vy.Mean
theorem row_put {acc : List MRow} (nd : (acc.map (·.1)).Nodup) (p : Pw) (n : Int) : ∃ acc' : List MRow, putW (dctW acc).1 (dctW acc).2 (pwW p) (.int n) = some (dctW acc') ∧ (acc'.map (·.1)).Nodup ∧ acc'.length ≤ acc.length + 1 ∧ ∀ r ∈ acc', (r.1 = p ∧ r.2 = n) ∨ r ∈ acc := by
  refine ⟨bump acc p (n - (look acc p).getD 0), ?_, nodup_bump nd, length_bump _ _ _, fun r hr => ?_⟩
  · have h := put_row nd p (n - (look acc p).getD 0)
    rwa [show (look acc p).getD 0 + (n - (look acc p).getD 0) = n by omega] at h
  · have nd' := nodup_bump (n := n - (look acc p).getD 0) (k := p) nd
    have e1 := look_coef nd' r.1
    rw [look_mem nd' hr, coef_bump] at e1
    have e1' : r.2 = coef acc r.1 + if p = r.1 then n - (look acc p).getD 0 else 0 := e1
    by_cases h : p = r.1
    · refine .inl ⟨h.symm, ?_⟩
      rw [if_pos h, ← h, ← look_coef nd p] at e1'
      omega
    · rw [if_neg h] at e1'
      rcases mem_bump (List.mem_map_of_mem (f := fun s : MRow => s.1) hr) with z | z
      · exact absurd z.symm h
      obtain ⟨s, hs, es⟩ := List.mem_map.mp z
      have e2 := look_coef nd s.1
      rw [look_mem nd hs, es] at e2
      have e2' : s.2 = coef acc r.1 := e2
      refine .inr ?_
      have : r = s := Prod.ext es.symm (by omega)
      rw [this]; exact hs
theorem drawn_ints {q : PG'} {el : PX} {fr : Frame} {st : Store} (lo hi : Int) {k : Nat} (hk : k ≤ 63) (S : Src st)
    (h : ∀ j : Int, ∃ fr1, q (.int j) fr = some fr1 ∧ ∀ st, Src st → ∃ (r : Int) (st' : Store), el fr1 st = .ok (.st, .int r) st' ∧ Src st' ∧ st'.drop 2 = st.drop 2 ∧ lo ≤ r ∧ r ≤ hi) :
    ∃ (p : Pw) (st' : Store), compL q bYes el (rngW 0 k) [] fr st = .ok (p.map W.int) st' ∧ p.length = k ∧ (∀ x ∈ p, lo ≤ x ∧ x ≤ hi) ∧ Src st' ∧ st'.drop 2 = st.drop 2 := by
  have hlen : (rngW 0 k).length = k := by unfold rngW; rw [List.length_map, List.length_range]
  obtain ⟨xs, st', e, p, rfl, hl, hp, S', d⟩ := comp_draw (q := q) (el := el) (fr := fr) (fun j acc st' => ∃ p : Pw, acc = p.map W.int ∧ p.length = j ∧ (∀ x ∈ p, lo ≤ x ∧ x ≤ hi) ∧ Src st' ∧ st'.drop 2 = st.drop 2) (rngW 0 k) [] 0 st (by rw [hlen, sizeLine_eq]; simp; omega) ⟨[], rfl, rfl, fun _ h => (nomatch h), S, rfl⟩ fun j w acc st1 hw ⟨p, ep, hl, hp, S1, d1⟩ => by
    subst ep
    have hw' : w = .int (0 + (j : Nat)) := by
      unfold rngW at hw
      rw [List.getElem?_map] at hw
      cases hr : (List.range k)[j]? with
      | none => rw [hr] at hw; cases hw
      | some i =>
        rw [hr] at hw
        have := List.getElem?_eq_some_iff.mp hr
        obtain ⟨hj, ej⟩ := this
        rw [List.getElem_range] at ej
        subst ej
        cases hw; rfl
    subst hw'
    obtain ⟨fr1, hq, hf⟩ := h (0 + (j : Nat))
    obtain ⟨r, st2, e2, S2, d2, r0, r1⟩ := hf st1 S1
    refine ⟨fr1, .st, .int r, st2, hq, e2, rfl, p ++ [r], by rw [List.map_append]; rfl, by rw [List.length_append, hl]; rfl, fun x hx => ?_, S2, d2.trans d1⟩
    rcases List.mem_append.mp hx with z | z
    · exact hp x z
    · rw [List.mem_singleton.mp z]; exact ⟨r0, r1⟩
  exact ⟨p, st', e, by rw [hl, hlen]; omega, hp, S', d⟩
end Vy.K49

set_option Elab.async false
set_option linter.all false
set_option maxRecDepth 100000
set_option maxHeartbeats 1000000
/-! A mean drawn. -/
namespace Vy.K49
open PySem PySem.Spec PyProof.Rows L2 Vy.Mean
/-- what a drawn mean's rows are -/
structure Nice (k c : Nat) (a : List MRow) : Prop where
  len : ∀ r ∈ a, r.1.length = k
  bd : ∀ r ∈ a, ∀ p ∈ r.1, 0 ≤ p ∧ p ≤ c
  few : ∀ r ∈ a, Le r.2 7
  nz : ∀ r ∈ a, r.2 ≠ 0
theorem le_small {i : Int} (h0 : 0 ≤ i) (h1 : i ≤ 100) : Le i 40 := by
  unfold Le
  have : i.natAbs ≤ 100 := by omega
  exact Nat.le_trans this (by decide)
theorem pow_ok (n : Int) (j : Int) (h : 0 ≤ j ∧ j ≤ 1000000 ∧ n.natAbs < 2 ^ 64) (st : Store) : fPow (.int n) (.int j) st = .ok (.st, .int (n ^ j.toNat)) st := ev_pow h
/-- one number of the draw's list -/
theorem number_ok {fr : Frame} {st : Store} (S : Src st) (he : ∀ st, eVar 0 fr st = .ok (.st, .ref 1) st) :
    ∃ (n : Int) (st' : Store), eCall p_law_of (aCons (eVar 0) (aCons (eLst (aCons (eC (.int 1)) (aCons (eNeg (eC (.int 1))) (aCons (eC (.int 2)) (aCons (eNeg (eC (.int 3))) (aCons (eC (.int 7)) (aCons (eBin fAdd (eC (.int 1)) (eCall p_law_pick (aCons (eVar 0) (aCons (eBin fPow (eC (.int 10)) (eC (.int 6))) aNil)))) aNil))))))) aNil)) fr st = .ok (.st, .int n) st' ∧ Src st' ∧ st'.drop 2 = st.drop 2 ∧ n ≠ 0 ∧ Le n 7 := by
  obtain ⟨r, st1, e1, S1, d1, r0, r1⟩ := pick_ok (most := 1000000) S (by unfold Le; decide)
  have r1 := r1 (by decide)
  obtain ⟨w, st2, hw, e2, S2, d2⟩ := law_of_ok (ws := [.int 1, .int (-1), .int 2, .int (-3), .int 7, .int (1 + r)]) S1 (by simp) (by simp)
  have hp : fPow (.int 10) (.int 6) st = .ok (.st, .int 1000000) st := pow_ok 10 6 (by decide) st
  have hn : ∃ n : Int, w = .int n ∧ n ≠ 0 ∧ Le n 7 := by
    simp only [List.mem_cons, List.not_mem_nil, or_false] at hw
    rcases hw with h | h | h | h | h | h
    · exact ⟨_, h, by decide, by unfold Le; decide⟩
    · exact ⟨_, h, by decide, by unfold Le; decide⟩
    · exact ⟨_, h, by decide, by unfold Le; decide⟩
    · exact ⟨_, h, by decide, by unfold Le; decide⟩
    · exact ⟨_, h, by decide, by unfold Le; decide⟩
    · refine ⟨_, h, by omega, ?_⟩
      unfold Le
      have : (1 + r).natAbs ≤ 1000000 := by omega
      exact Nat.le_trans this (by decide)
  obtain ⟨n, rfl, hz, hle⟩ := hn
  refine ⟨n, st2, ?_, S2, d2.trans d1, hz, hle⟩
  simp only [ev_call, ev_bind, aCons, aNil, ev_acons, ev_anil, he, ev_lst, ev_c, ev_neg, ev_bin, hp, e1, ev_add, ev_keep_st, if_true, e2]
  simp [he, hp, e1, e2]
end Vy.K49

set_option Elab.async false
set_option linter.all false
set_option maxRecDepth 100000
set_option maxHeartbeats 1000000
/-! A mean drawn. -/
namespace Vy.K49
open PySem PySem.Spec PyProof.Rows L2 Vy.Mean
structure NiceD (k c : Nat) (a : List MRow) : Prop extends Nice k c a where
  nd : (a.map (·.1)).Nodup
theorem drawn_powers {k most : Nat} {A B : W} {o : Sl} {x5 x6 : Sl} {st : Store} (S : Src st) (hk : k ≤ 63) (hm : most ≤ 40) (h6 : isOwn (some x6) = false) :
    ∃ (p : Pw) (st' : Store), eC1 fTuple (eComp (iRng1 (aCons (eVar 1) aNil)) (gN 7) bYes (eCall p_law_pick (aCons (eVar 0) (aCons (eBin fAdd (eVar 2) (eC (.int 1))) aNil))) [7]) [.val (.ref 1), .val (.int k), .val (.int most), .val B, o, x5, x6, .no] st = .ok (.st, pwW p) st' ∧
      p.length = k ∧ (∀ x ∈ p, 0 ≤ x ∧ x ≤ most) ∧ Src st' ∧ st'.drop 2 = st.drop 2 := by
  obtain ⟨p, st', e, hl, hp, S', d⟩ := drawn_ints (q := gN 7) (el := eCall p_law_pick (aCons (eVar 0) (aCons (eBin fAdd (eVar 2) (eC (.int 1))) aNil))) (fr := [.val (.ref 1), .val (.int k), .val (.int most), .val B, o, x5, x6, .no]) (st := st) 0 most hk S fun j =>
    ⟨[.val (.ref 1), .val (.int k), .val (.int most), .val B, o, x5, x6, .val (.int j)], by simp, fun st S => by
      obtain ⟨r, st', e, S', d, r0, r1⟩ := pick_ok (most := most + 1) S (le_small (by omega) (by omega))
      have r1 := r1 (by omega)
      exact ⟨r, st', by simp [e], S', d, r0, by omega⟩⟩
  refine ⟨p, st', ?_, hl, hp, S', d⟩
  have hI : iRng1 (aCons (eVar 1) aNil) [.val (.ref 1), .val (.int k), .val (.int most), .val B, o, x5, x6, .no] st = .ok (rngW 0 k) st := rng1_ok (by simp) (inR_nat (by omega))
  have no : noOwn [7] [.val (.ref 1), .val (.int k), .val (.int most), .val B, o, x5, x6, .no] = true := rfl
  have fo : forgetF [7] [Sl.val (.ref 1), .val (.int k), .val (.int most), .val B, o, x5, x6, .no] = [Sl.val (.ref 1), .val (.int k), .val (.int most), .val B, o, x5, x6, .no] := rfl
  rw [ev_c1, ev_comp, hI, ev_bind, if_pos no, fo, e, ev_bind, ev_bind]
  simp
theorem drawn_loop {k most many : Nat} {st : Store} (S : Src st) (hk : k ≤ 63) (hm : most ≤ 40) (t : Nat) (ht : t ≤ 63) :
    ∃ (acc : List MRow) (x y : Sl) (st' : Store), forL (gN 5) (sSeq (sSet 6 (eC1 fTuple (eComp (iRng1 (aCons (eVar 1) aNil)) (gN 7) bYes (eCall p_law_pick (aCons (eVar 0) (aCons (eBin fAdd (eVar 2) (eC (.int 1))) aNil))) [7])))
    (sDPut 4 (eVar 6) (eCall p_law_of (aCons (eVar 0) (aCons (eLst (aCons (eC (.int 1)) (aCons (eNeg (eC (.int 1))) (aCons (eC (.int 2)) (aCons (eNeg (eC (.int 3))) (aCons (eC (.int 7)) (aCons (eBin fAdd (eC (.int 1)) (eCall p_law_pick (aCons (eVar 0) (aCons (eBin fPow (eC (.int 10)) (eC (.int 6))) aNil)))) aNil))))))) aNil))))) (rngW 0 t)
      [.val (.ref 1), .val (.int k), .val (.int most), .val (.int many), .own (.dct (.t []) []), .no, .no, .no] st =
      .ok (.nx [.val (.ref 1), .val (.int k), .val (.int most), .val (.int many), .own (.dct (dctW acc).1 (dctW acc).2), x, y, .no]) st' ∧ NiceD k most acc ∧ acc.length ≤ t ∧ Src st' ∧ st'.drop 2 = st.drop 2 := by
  have hlen : (rngW 0 t).length = t := by unfold rngW; rw [List.length_map, List.length_range]
  obtain ⟨fr', st', e, acc, x, y, rfl, g, hl, hy, S', d⟩ := for_run (q := gN 5) (b := (sSeq (sSet 6 (eC1 fTuple (eComp (iRng1 (aCons (eVar 1) aNil)) (gN 7) bYes (eCall p_law_pick (aCons (eVar 0) (aCons (eBin fAdd (eVar 2) (eC (.int 1))) aNil))) [7])))
    (sDPut 4 (eVar 6) (eCall p_law_of (aCons (eVar 0) (aCons (eLst (aCons (eC (.int 1)) (aCons (eNeg (eC (.int 1))) (aCons (eC (.int 2)) (aCons (eNeg (eC (.int 3))) (aCons (eC (.int 7)) (aCons (eBin fAdd (eC (.int 1)) (eCall p_law_pick (aCons (eVar 0) (aCons (eBin fPow (eC (.int 10)) (eC (.int 6))) aNil)))) aNil))))))) aNil))))))
    (fun j fr st' => ∃ (acc : List MRow) (x y : Sl), fr = [.val (.ref 1), .val (.int k), .val (.int most), .val (.int many), .own (.dct (dctW acc).1 (dctW acc).2), x, y, .no] ∧ NiceD k most acc ∧ acc.length ≤ j ∧ isOwn (some y) = false ∧ Src st' ∧ st'.drop 2 = st.drop 2) (rngW 0 t) 0
    [.val (.ref 1), .val (.int k), .val (.int most), .val (.int many), .own (.dct (.t []) []), .no, .no, .no] st
    ⟨[], .no, .no, rfl, ⟨⟨fun _ h => (nomatch h), fun _ h => (nomatch h), fun _ h => (nomatch h), fun _ h => (nomatch h)⟩, List.nodup_nil⟩, Nat.le_refl _, rfl, S, rfl⟩ fun j w fr st1 hw ⟨acc, x, y, e0, g, hl, hy, S1, d1⟩ => by
      subst e0
      have hj : j < t := by have := (List.getElem?_eq_some_iff.mp hw).1; omega
      obtain ⟨p, st2, e2, hpl, hp, S2, d2⟩ := drawn_powers (k := k) (most := most) (A := .non) (B := .int many) (o := .own (.dct (dctW acc).1 (dctW acc).2)) (x5 := .val w) (x6 := y) S1 hk hm hy
      obtain ⟨n, st3, e3, S3, d3, nz, n7⟩ := number_ok (fr := [.val (.ref 1), .val (.int k), .val (.int most), .val (.int many), .own (.dct (dctW acc).1 (dctW acc).2), .val w, .val (pwW p), .no]) S2 (fun _ => rfl)
      obtain ⟨acc', hput, nd', hl', hr'⟩ := row_put g.nd p n
      have hq : gN 5 w [.val (.ref 1), .val (.int k), .val (.int most), .val (.int many), .own (.dct (dctW acc).1 (dctW acc).2), x, y, .no] = some [.val (.ref 1), .val (.int k), .val (.int most), .val (.int many), .own (.dct (dctW acc).1 (dctW acc).2), .val w, y, .no] := rfl
      have hlw : (dctW acc).2.length < 16777216 := by rw [List.length_map]; omega
      refine ⟨[.val (.ref 1), .val (.int k), .val (.int most), .val (.int many), .own (.dct (dctW acc).1 (dctW acc).2), .val w, y, .no], [.val (.ref 1), .val (.int k), .val (.int most), .val (.int many), .own (.dct (dctW acc').1 (dctW acc').2), .val w, .val (pwW p), .no], st3, hq, ?_, acc', .val w, .val (pwW p), rfl, ⟨⟨fun r hr => ?_, fun r hr => ?_, fun r hr => ?_, fun r hr => ?_⟩, nd'⟩, by omega, rfl, S3, d3.trans (d2.trans d1)⟩
      · rw [ev_seq, ev_set, e2, ev_bind]
        have hsl : slOf (Kd.st, pwW p).fst (Kd.st, pwW p).snd = some (.val (pwW p)) := by simp [slOf]
        rw [hsl]
        simp only [ev_bind, List.set_cons_succ, List.set_cons_zero]
        simp only [ev_dput, e3, ev_bind, ev_var, List.getElem?_cons_zero, List.getElem?_cons_succ, ev_keep_st, if_true, ev_size2, hlw, hput, List.set_cons_succ, List.set_cons_zero]
      · rcases hr' r hr with ⟨z, _⟩ | z
        · rw [z]; exact hpl
        · exact g.len r z
      · rcases hr' r hr with ⟨z, _⟩ | z
        · rw [z]; exact hp
        · exact g.bd r z
      · rcases hr' r hr with ⟨_, z⟩ | z
        · rw [z]; exact n7
        · exact g.few r z
      · rcases hr' r hr with ⟨_, z⟩ | z
        · rw [z]; exact nz
        · exact g.nz r z
  exact ⟨acc, x, y, st', e, g, by omega, S', d⟩
end Vy.K49

set_option Elab.async false
set_option linter.all false
set_option maxRecDepth 100000
set_option maxHeartbeats 1000000
/-! A mean drawn. -/
namespace Vy.K49
open PySem PySem.Spec PyProof.Rows L2 Vy.Mean
theorem Nice.perm {k c : Nat} {a b : List MRow} (g : Nice k c a) (h : b.Perm a) : Nice k c b :=
  ⟨fun r hr => g.len r (h.mem_iff.mp hr), fun r hr => g.bd r (h.mem_iff.mp hr), fun r hr => g.few r (h.mem_iff.mp hr), fun r hr => g.nz r (h.mem_iff.mp hr)⟩
theorem law_drawn_mean_ok {k most many : Nat} {st : Store} (S : Src st) (hk : k ≤ 63) (hm : most ≤ 40) (hn : many ≤ 40) :
    ∃ (a : List MRow) (st' : Store), p_law_drawn_mean [.ref 1, .int k, .int most, .int many] st = .ok (.st, meanW a) st' ∧ Can a ∧ Nice k most a ∧ a.length ≤ many ∧ Src st' ∧ st'.drop 2 = st.drop 2 := by
  obtain ⟨r, st1, e1, S1, d1, r0, r1⟩ := pick_ok (most := many + 1) S (le_small (by omega) (by omega))
  have r1 := r1 (by omega)
  obtain ⟨t, rfl⟩ : ∃ t : Nat, r = t := ⟨r.toNat, (Int.toNat_of_nonneg r0).symm⟩
  obtain ⟨acc, x, y, st2, e2, g, hl, S2, d2⟩ := drawn_loop (k := k) (most := most) (many := many) S1 hk hm t (by omega)
  obtain ⟨a, ea, hp, hs⟩ := rows_sorted acc g.nd
  have ok := ok_rows (l := acc) (by rw [sizeLine_eq]; omega)
  have n := g.toNice.perm hp
  refine ⟨a, st2, ?_, ⟨hs, n.nz⟩, n, by rw [hp.length_eq]; omega, S2, d2.trans d1⟩
  have hI : iRng1 (aCons (eCall p_law_pick (aCons (eVar 0) (aCons (eBin fAdd (eVar 3) (eC (.int 1))) aNil))) aNil) [.val (.ref 1), .val (.int k), .val (.int most), .val (.int many), .own (.dct (.t []) []), .no, .no, .no] st = .ok (rngW 0 t) st1 := rng1_ok (by simp [e1]) (inR_nat (by omega))
  have hS : eSortI 4 [.val (.ref 1), .val (.int k), .val (.int most), .val (.int many), .own (.dct (dctW acc).1 (dctW acc).2), x, y, .no] st2 = .ok (.fr, .lst (a.map rowW)) st2 := by
    show (if SortOk (pairsW (dctW acc).1 (dctW acc).2) then _ else _) = _
    rw [pairs_rows, if_pos ok, ea]
  unfold p_law_drawn_mean b_law_drawn_mean
  simp -implicitDefEqProofs [hI, e2, hS, slOf, obOf]
end Vy.K49

set_option Elab.async false
set_option linter.all false
set_option maxRecDepth 100000
set_option maxHeartbeats 1000000
/-! What repr tells, and its length. -/
namespace Vy.K49
open PySem PySem.Spec PyProof.Rows L2 Vy.Mean
structure Sm (d n : Nat) (w : W) : Prop where
  isD : w.isD = true
  shw : Shw w.toD
  dep : w.toD.depth ≤ d
  len : w.toD.shown.length ≤ n
theorem Sm.mono {d n d' n' : Nat} {w : W} (h : Sm d n w) (hd : d ≤ d') (hn : n ≤ n') : Sm d' n' w := ⟨h.isD, h.shw, Nat.le_trans h.dep hd, Nat.le_trans h.len hn⟩
theorem Sm.int {i : Int} (h : i.natAbs < 10 ^ 4300) : Sm 0 4301 (.int i) := by
  refine ⟨rfl, ?_, Nat.le_refl _, ?_⟩
  · show Shw (.int i)
    unfold Shw; exact h
  · show (PyData.shown (.int i)).length ≤ 4301
    simp only [PyData.shown]
    have e := int_text_length_le10 (k := 4300) (by decide) h
    clear h
    rw [PySem.ofString_length]; exact e
theorem Sm.bl {b : Bool} : Sm 0 4301 (.bl b) := by
  refine ⟨rfl, ?_, Nat.le_refl _, ?_⟩
  · show Shw (.bool b)
    unfold Shw; trivial
  · cases b <;> decide
theorem shwA_of {ws : List W} (h : ∀ w ∈ ws, Shw w.toD) : ShwA (toDs ws) := by
  induction ws with
  | nil => show ShwA []; unfold ShwA; trivial
  | cons w ws ih =>
    show ShwA (w.toD :: toDs ws)
    unfold ShwA
    exact ⟨h w (List.mem_cons_self ..), ih fun u hu => h u (List.mem_cons_of_mem _ hu)⟩
theorem piled_of {n : Nat} {ws : List W} (h : ∀ w ∈ ws, w.toD.shown.length ≤ n) : piled (PyData.shownAll (toDs ws)) ≤ ws.length * (n + 2) := by
  induction ws with
  | nil => exact Nat.zero_le _
  | cons w ws ih =>
    show piled (w.toD.shown :: PyData.shownAll (toDs ws)) ≤ _
    have := ih fun u hu => h u (List.mem_cons_of_mem _ hu)
    have := h w (List.mem_cons_self ..)
    rw [piled_cons, List.length_cons, Nat.add_mul]
    omega
theorem tuple_len (ts : List Str) : (tupleText ts).length ≤ piled ts + 4 := by
  unfold tupleText
  rw [strLen_append, strLen_append]
  have e1 : ((("(" : String) : Str)).length = 1 := rfl
  have e2 : ((if ts.length == 1 then ",)" else ")" : String) : Str).length ≤ 2 := by split <;> decide
  by_cases h : ts = []
  · subst h
    decide
  · have := join_length_add ts h
    omega
theorem list_len (ts : List Str) : (listText ts).length ≤ piled ts + 4 := by
  cases ts with
  | nil => decide
  | cons t r =>
    unfold listText
    rw [strLen_append]
    have h := textFrom_length_pos r 1 (("[" : Str) ++ (if (0 : Nat) > 0 then ", " else "" : String) ++ t) (Nat.succ_pos 0)
    have e : (textFrom 0 "[" (t :: r)) = textFrom 1 (("[" : Str) ++ (if (0 : Nat) > 0 then ", " else "" : String) ++ t) r := rfl
    rw [e, h, strLen_append, strLen_append, piled_cons]
    have e1 : (("[" : Str)).length = 1 := rfl
    have e2 : (("]" : Str)).length = 1 := rfl
    have e3 : ((if (0 : Nat) > 0 then ", " else "" : String) : Str).length = 0 := rfl
    omega
theorem depths_of {d : Nat} {ws : List W} (h : ∀ w ∈ ws, w.toD.depth ≤ d) : PyData.depthAll (toDs ws) ≤ d := by
  induction ws with
  | nil => exact Nat.zero_le _
  | cons w ws ih =>
    have := ih fun u hu => h u (List.mem_cons_of_mem _ hu)
    have := h w (List.mem_cons_self ..)
    show PyData.depthAll (w.toD :: toDs ws) ≤ d
    simp only [PyData.depthAll]
    omega
theorem Sm.tup {d n : Nat} {ws : List W} (h : ∀ w ∈ ws, Sm d n w) : Sm (d + 1) (ws.length * (n + 2) + 4) (.tup ws) := by
  refine ⟨isDs_of fun w hw => (h w hw).isD, ?_, ?_, ?_⟩
  · show Shw (.tuple (toDs ws))
    unfold Shw; exact shwA_of fun w hw => (h w hw).shw
  · show (PyData.tuple (toDs ws)).depth ≤ d + 1
    have := depths_of fun w hw => (h w hw).dep
    simp only [PyData.depth]; omega
  · show (PyData.tuple (toDs ws)).shown.length ≤ _
    simp only [PyData.shown]
    exact Nat.le_trans (tuple_len _) (Nat.add_le_add_right (piled_of fun w hw => (h w hw).len) 4)
theorem Sm.lst {d n : Nat} {ws : List W} (h : ∀ w ∈ ws, Sm d n w) : Sm (d + 1) (ws.length * (n + 2) + 4) (.lst ws) := by
  refine ⟨isDs_of fun w hw => (h w hw).isD, ?_, ?_, ?_⟩
  · show Shw (.list (toDs ws))
    unfold Shw; exact shwA_of fun w hw => (h w hw).shw
  · show (PyData.list (toDs ws)).depth ≤ d + 1
    have := depths_of fun w hw => (h w hw).dep
    simp only [PyData.depth]; omega
  · show (PyData.list (toDs ws)).shown.length ≤ _
    simp only [PyData.shown]
    exact Nat.le_trans (list_len _) (Nat.add_le_add_right (piled_of fun w hw => (h w hw).len) 4)
theorem repr_ok {d n : Nat} {w : W} (h : Sm d n w) (hd : d ≤ 50) (hn : n ≤ sizeLine) (st : Store) : fRepr w st = .ok (.st, .str w.toD.shown) st :=
  if_pos ⟨h.isD, h.shw, Nat.le_trans h.dep hd, Nat.le_trans h.len hn⟩
theorem eq_str (x : Str) (st : Store) : fEq (.str x) (.str x) st = .ok (.st, .bl true) st := by simp [fEq, wEq, wV, scal]
theorem ne_str (x : Str) (st : Store) : fNe (.str x) (.str x) st = .ok (.st, .bl false) st := by simp [fNe, wEq, wV, scal]
end Vy.K49

set_option Elab.async false
set_option linter.all false
set_option maxRecDepth 100000
set_option maxHeartbeats 2000000
/-! The fractions are right. -/
namespace Vy.K49
open PySem PySem.Spec PyProof.Rows L2 Vy.Mean
theorem le_of_bd {i : Int} {f : Int} {k : Nat} (hf : Le f k) (h0 : -f ≤ i) (h1 : i ≤ f) : Le i k := by
  unfold Le at *; omega
/-- a distance drawn -/
theorem far_ok {st : Store} (S : Src st) (x : Int) (hx : x = 9 ∨ x = 3) (y : Int) (hy : y = 100 ∨ y = 40) : ∃ (f : Int) (st' : Store), p_law_of [.ref 1, .lst [.int x, .int y, .int (10 ^ 30)]] st = .ok (.st, .int f) st' ∧ Src st' ∧ st'.drop 2 = st.drop 2 ∧ 1 ≤ f ∧ Le f 30 := by
  obtain ⟨w, st', hw, e, S', d⟩ := law_of_ok (ws := [.int x, .int y, .int (10 ^ 30)]) S (by simp) (by simp)
  simp only [List.mem_cons, List.not_mem_nil, or_false] at hw
  rcases hw with h | h | h
  · subst h
    refine ⟨x, st', e, S', d, by omega, ?_⟩
    have : x.natAbs ≤ 9 := by omega
    exact Nat.le_trans this (by decide)
  · subst h
    refine ⟨y, st', e, S', d, by omega, ?_⟩
    have : y.natAbs ≤ 100 := by omega
    exact Nat.le_trans this (by decide)
  · subst h
    exact ⟨_, st', e, S', d, by decide, by unfold Le; decide⟩
theorem p10_30 (st : Store) : fPow (.int 10) (.int 30) st = .ok (.st, .int (10 ^ 30)) st := pow_ok 10 30 (by decide) st
/-- a number from -far to far -/
theorem swing_ok {st : Store} {f : Int} (S : Src st) (h1 : 1 ≤ f) (hf : Le f 30) : ∃ (r : Int) (st' : Store), p_law_pick [.ref 1, .int (2 * f + 1)] st = .ok (.st, .int r) st' ∧ Src st' ∧ st'.drop 2 = st.drop 2 ∧ Le (r - f) 30 := by
  have h2 : Le (2 * f + 1) 40 := ((Le.mul (a := 2) (j := 1) (by unfold Le; decide) hf).add ((by unfold Le; decide : Le 1 0).mono (Nat.zero_le _))).mono (by decide)
  obtain ⟨r, st', e, S', d, r0, r1⟩ := pick_ok S h2
  have := r1 (by omega)
  exact ⟨r, st', e, S', d, le_of_bd hf (by omega) (by omega)⟩
theorem upto_ok {st : Store} {f : Int} (S : Src st) (h1 : 1 ≤ f) (hf : Le f 30) : ∃ (r : Int) (st' : Store), p_law_pick [.ref 1, .int f] st = .ok (.st, .int r) st' ∧ Src st' ∧ st'.drop 2 = st.drop 2 ∧ 0 ≤ r ∧ Le (1 + r) 30 := by
  obtain ⟨r, st', e, S', d, r0, r1⟩ := pick_ok S (hf.mono (k := 40) (by decide))
  have := r1 h1
  exact ⟨r, st', e, S', d, r0, le_of_bd hf (by omega) (by omega)⟩
theorem sign_ok {st : Store} (S : Src st) : ∃ (s : Int) (st' : Store), p_law_of [.ref 1, .lst [.int 1, .int (-1)]] st = .ok (.st, .int s) st' ∧ Src st' ∧ st'.drop 2 = st.drop 2 ∧ (s = 1 ∨ s = -1) := by
  obtain ⟨w, st', hw, e, S', d⟩ := law_of_ok (ws := [.int 1, .int (-1)]) S (by simp) (by simp)
  simp only [List.mem_cons, List.not_mem_nil, or_false] at hw
  rcases hw with h | h
  · subst h; exact ⟨_, st', e, S', d, .inl rfl⟩
  · subst h; exact ⟨_, st', e, S', d, .inr rfl⟩
theorem sm_le {i : Int} (h : Le i 4000) : Sm 0 4301 (.int i) := Sm.int (Nat.lt_of_le_of_lt h (Nat.pow_lt_pow_right (by decide) (by decide)))
theorem sm_fr {i j : Int} (h : Le i 4000) (h' : Le j 4000) : Sm 1 8610 (.tup [.int i, .int j]) := (Sm.tup (d := 0) (n := 4301) (ws := [.int i, .int j]) fun w hw => by
  simp only [List.mem_cons, List.not_mem_nil, or_false] at hw
  rcases hw with e | e
  · subst e; exact sm_le h
  · subst e; exact sm_le h').mono (Nat.le_refl _) (by show 2 * 4303 + 4 ≤ _; decide)
theorem sm_nf {p q : Int} (h : q ≠ 0) (hp : Le p 4000) (hq : Le q 4000) : Sm 1 8610 (.tup [.int (nf p q).1, .int (nf p q).2]) := sm_fr (nf_le h hp) (nf_le2 h hq)
theorem sm_bl (b : Bool) : Sm 1 8610 (.bl b) := Sm.bl.mono (by decide) (by decide)
theorem repr_same {L : W} {st : Store} (h : Sm 5 16000000 L) : ((fRepr L st).bind fun x s1 => (fRepr L s1).bind fun y s2 => fEq x.2 y.2 s2) = .ok (.st, .bl true) st := by
  have e := fun st => repr_ok h (by decide) (by rw [sizeLine_eq]; decide) st
  rw [e, ev_bind, e, ev_bind]
  exact eq_str _ _
theorem law_fractions_right_ok {st : Store} (S : Src st) : ∃ st', p_law_fractions_right [.ref 1] st = .ok (.st, .bl true) st' ∧ Src st' ∧ st'.drop 2 = st.drop 2 := by
  obtain ⟨f, s1, e1, S1, d1, f1, f30⟩ := far_ok S 9 (.inl rfl) 100 (.inl rfl)
  obtain ⟨r2, s2, e2, S2, d2, l2⟩ := swing_ok S1 f1 f30
  obtain ⟨sg, s3, e3, S3, d3, hs⟩ := sign_ok S2
  obtain ⟨r4, s4, e4, S4, d4, p4, l4⟩ := upto_ok S3 f1 f30
  obtain ⟨r5, s5, e5, S5, d5, l5⟩ := swing_ok S4 f1 f30
  obtain ⟨r6, s6, e6, S6, d6, p6, l6⟩ := upto_ok S5 f1 f30
  refine ⟨s6, ?_, S6, d6.trans (d5.trans (d4.trans (d3.trans (d2.trans d1))))⟩
  have hm0 : mulOk 2 f := .inr (.inl ⟨by decide, by decide⟩)
  have hm1 : mulOk sg (1 + r4) := .inr (.inl ⟨by rcases hs with h | h <;> subst h <;> decide, by rcases hs with h | h <;> subst h <;> decide⟩)
  have q0 : sg * (1 + r4) ≠ 0 := by rcases hs with h | h <;> subst h <;> omega
  have lq : Le (sg * (1 + r4)) 30 := by rcases hs with h | h <;> subst h <;> unfold Le at * <;> omega
  generalize hq : sg * (1 + r4) = q at *
  generalize hp : r2 - f = p at *
  generalize hp' : r5 - f = p' at *
  have q6 : 1 + r6 ≠ 0 := by omega
  generalize hq' : 1 + r6 = q' at *
  have m30 : ∀ {i : Int}, Le i 30 → Le i 4000 := fun h => h.mono (by decide)
  have ex := fun st => law_fraction_ok (st := st) p q (m30 l2) (m30 lq) q0
  have ey := fun st => law_fraction_ok (st := st) p' q' (m30 l5) (m30 l6) q6
  have efr := fun st => fraction_of_ok p q st (m30 l2) (m30 lq) q0
  obtain ⟨lx, _⟩ := nf_spec p q0
  obtain ⟨ly, _⟩ := nf_spec p' q6
  have b1 := nf_le q0 l2
  have b2 := nf_le2 (p := p) q0 lq
  have b3 := nf_le q6 l5
  have b4 := nf_le2 (p := p') q6 l6
  generalize nf p q = x at *
  generalize nf p' q' = y at *
  obtain ⟨x1, x2⟩ := x
  obtain ⟨y1, y2⟩ := y
  simp only at b1 b2 b3 b4
  have nx : x2 ≠ 0 := low_ne lx
  have ny : y2 ≠ 0 := low_ne ly
  have m : ∀ {i : Int}, Le i 30 → Le i 1999 := fun h => h.mono (by decide)
  have mm := fun (i j : Int) (hi : Le i 30) (hj : Le j 30) (st : Store) => mk_mul (st := st) (m30 hi) (m30 hj)
  have six : Le 6 30 := by unfold Le; decide
  have six' : Le (-6) 30 := by unfold Le; decide
  have bn : Le (0 - y1) 30 := by rw [Int.zero_sub]; exact b3.neg
  have a1 := fun st => fraction_of_ok (6 * x1) (-6 * x2) st ((six.mul b1).mono (by decide)) ((six'.mul b2).mono (by decide)) (by omega)
  rw [show nf (6 * x1) (-6 * x2) = (0 - x1, x2) from nf_neg lx 6 (by decide)] at a1
  have a2 := fun st => fraction_sum_ok (st := st) (x := (x1, x2)) (y := (y1, y2)) (m b1) (m b2) (m b3) (m b4) nx ny
  have a3 := fun st => fraction_less_ok (st := st) (x := (x1, x2)) (y := (y1, y2)) (m b1) (m b2) (m b3) (m b4) nx ny
  have a4 := fun st => law_plus_ok (st := st) (x := (x1, x2)) (y := (y1, y2)) (m b1) (m b2) (m b3) (m b4) nx ny
  have a5 := fun st => law_plus_ok (st := st) (x := (x1, x2)) (y := (0 - y1, y2)) (m b1) (m b2) (m bn) (m b4) nx ny
  have a6 := fun st => fraction_times_ok (st := st) (x := (x1, x2)) (y := (y1, y2)) (m b1) (m b2) (m b3) (m b4) nx ny
  have a7 := fun st => law_by_ok (st := st) (x := (x1, x2)) (y := (y1, y2)) (m b1) (m b2) (m b3) (m b4) nx ny
  have a8 := fun st => is_below_ok (st := st) (x := (x1, x2)) (y := (y1, y2)) (m b1) (m b2) (m b3) (m b4)
  have a9 := fun st => is_below_ok (st := st) (x := (y1, y2)) (y := (x1, x2)) (m b3) (m b4) (m b1) (m b2)
  have a10 := fun st => is_below_ok (st := st) (x := (x1, x2)) (y := (x1, x2)) (m b1) (m b2) (m b1) (m b2)
  have a5' : x1 * y2 + (0 - y1) * x2 = x1 * y2 - y1 * x2 := by rw [Int.zero_sub, Int.neg_mul]; omega
  simp only [a5'] at a5
  have m1 := mm 6 x1 six b1
  have m2 := mm (-6) x2 six' b2
  have m3 := mm x1 y2 b1 b4
  have m4 := mm y1 x2 b3 b2
  have m5 := mm x2 y1 b2 b3
  have n2 : x2 * y2 ≠ 0 := Int.mul_ne_zero nx ny
  have w1 : Le (x1 * y2) 3999 := (b1.mul b4).mono (by decide)
  have w2 : Le (y1 * x2) 3999 := (b3.mul b2).mono (by decide)
  have w3 : Le (x2 * y2) 4000 := (b2.mul b4).mono (by decide)
  have w4 : Le (x2 * y1) 4000 := (b2.mul b3).mono (by decide)
  have t1 := sm_fr (b1.mono (show 30 ≤ 4000 by decide)) (b2.mono (show 30 ≤ 4000 by decide))
  have t2 : Sm 1 8610 (.tup [.int (0 - x1), .int x2]) := sm_fr (by rw [Int.zero_sub]; exact (b1.mono (show 30 ≤ 4000 by decide)).neg) (b2.mono (show 30 ≤ 4000 by decide))
  have t3 := sm_nf n2 (w1.add w2) w3
  have t4 := sm_nf n2 (w1.sub w2) w3
  have t5 := sm_nf n2 ((b1.mul b3).mono (show 30 + 30 ≤ 4000 by decide)) w3
  have all8 : ∀ (b c d : Bool) (ws : List W), ws = [.tup [.int x1, .int x2], .tup [.int (0 - x1), .int x2], .tup [.int (nf (x1 * y2 + y1 * x2) (x2 * y2)).1, .int (nf (x1 * y2 + y1 * x2) (x2 * y2)).2],
      .tup [.int (nf (x1 * y2 - y1 * x2) (x2 * y2)).1, .int (nf (x1 * y2 - y1 * x2) (x2 * y2)).2], .tup [.int (nf (x1 * y1) (x2 * y2)).1, .int (nf (x1 * y1) (x2 * y2)).2], .bl b, .bl c, .bl d] → ∀ w ∈ ws, Sm 1 8610 w := fun b c d ws e w hw => by
    subst e
    simp only [List.mem_cons, List.not_mem_nil, or_false] at hw
    rcases hw with h | h | h | h | h | h | h | h <;> subst h <;> first | exact t1 | exact t2 | exact t3 | exact t4 | exact t5 | exact sm_bl _
  by_cases hy : y1 = 0
  · have hne : ∀ st, fNe (.int y1) (.int 0) st = .ok (.st, .bl false) st := fun st => by rw [ev_ne_int, decide_eq_true hy]; rfl
    unfold p_law_fractions_right b_law_fractions_right
    simp only [frW] at *
    simp [-Int.zero_sub, -Int.reducePow, p10_30, e1, ev_mul hm0, e2, e3, e4, e5, e6, ev_mul hm1, hp, hq, hp', hq', ex, ey, efr, a1, a2, a3, a4, a5, a6, a7, a8, a9, a10, m1, m2, m3, m4, m5, hne, ev_grd, putsF, slOf, obOf]
    rw [repr_same]
    · rfl
    · exact (Sm.lst (all8 _ _ _ _ rfl)).mono (by decide) (by show 8 * 8612 + 4 ≤ _; decide)
  · have hne : ∀ st, fNe (.int y1) (.int 0) st = .ok (.st, .bl true) st := fun st => by rw [ev_ne_int, decide_eq_false hy]; rfl
    have a11 := fun st => fraction_by_ok (st := st) (x := (x1, x2)) (y := (y1, y2)) (m b1) (m b2) (m b3) (m b4) nx hy
    have a12 := fun st => law_fraction_ok (st := st) (x1 * y2) (x2 * y1) ((b1.mul b4).mono (by decide)) ((b2.mul b3).mono (by decide)) (Int.mul_ne_zero nx hy)
    unfold p_law_fractions_right b_law_fractions_right
    simp only [frW] at *
    simp [-Int.zero_sub, -Int.reducePow, p10_30, e1, ev_mul hm0, e2, e3, e4, e5, e6, ev_mul hm1, hp, hq, hp', hq', ex, ey, efr, a1, a2, a3, a4, a5, a6, a7, a8, a9, a10, m1, m2, m3, m4, m5, hne, ev_grd, putsF, slOf, obOf, a11, a12, sApp]
    rw [repr_same]
    · rfl
    · refine (Sm.lst (d := 1) (n := 8610) fun w hw => ?_).mono (by decide) (by show 9 * 8612 + 4 ≤ _; decide)
      rcases List.mem_append.mp (show w ∈ [W.tup [.int x1, .int x2], .tup [.int (0 - x1), .int x2], .tup [.int (nf (x1 * y2 + y1 * x2) (x2 * y2)).1, .int (nf (x1 * y2 + y1 * x2) (x2 * y2)).2],
        .tup [.int (nf (x1 * y2 - y1 * x2) (x2 * y2)).1, .int (nf (x1 * y2 - y1 * x2) (x2 * y2)).2], .tup [.int (nf (x1 * y1) (x2 * y2)).1, .int (nf (x1 * y1) (x2 * y2)).2], .bl _, .bl _, .bl _] ++ [.tup [.int (nf (x1 * y2) (x2 * y1)).1, .int (nf (x1 * y2) (x2 * y1)).2]] from hw) with h | h
      · exact all8 _ _ _ _ rfl w h
      · rw [List.mem_singleton.mp h]
        exact sm_nf (Int.mul_ne_zero nx hy) (w1.mono (by decide)) w4
end Vy.K49

set_option Elab.async false
set_option linter.all false
set_option maxRecDepth 100000
set_option maxHeartbeats 1000000
/-! Rows mixed. -/
namespace Vy.K49
open PySem PySem.Spec PyProof.Rows L2 Vy.Mean
theorem Src.put {st : Store} (S : Src st) {n : Nat} (h : 2 ≤ n) (o : Ob) : Src (st.set n o) := by
  obtain ⟨c, l, m, t, j, rfl, hc⟩ := S
  obtain ⟨k, rfl⟩ : ∃ k, n = k + 2 := ⟨n - 2, by omega⟩
  exact ⟨c, l, m, t, j.set k o, rfl, hc⟩
theorem Src.snoc {st : Store} (S : Src st) (o : Ob) : Src (st ++ [o]) := by
  obtain ⟨c, l, m, t, j, rfl, hc⟩ := S
  exact ⟨c, l, m, t, j ++ [o], rfl, hc⟩
theorem Src.two {st : Store} (S : Src st) : 2 ≤ st.length := by
  obtain ⟨c, l, m, t, j, rfl, hc⟩ := S
  show 2 ≤ j.length + 1 + 1
  omega
theorem at_drop {st st' : Store} {n : Nat} (h : st'.drop 2 = st.drop 2) (hn : 2 ≤ n) : st'[n]? = st[n]? := by
  obtain ⟨k, rfl⟩ : ∃ k, n = 2 + k := ⟨n - 2, by omega⟩
  rw [← List.getElem?_drop, ← List.getElem?_drop, h]
theorem len_ref {st : Store} {n : Nat} {ws : List W} (h : st[n]? = some (.lst ws)) : fLen (.ref n) st = .ok (.st, .int ws.length) st := by
  unfold fLen
  simp [h, obLen]
theorem map_erase {α β : Type} (f : α → β) : ∀ (l : List α) (i : Nat), (l.map f).eraseIdx i = (l.eraseIdx i).map f
  | [], _ => rfl
  | _ :: _, 0 => rfl
  | a :: l, i + 1 => by
    show f a :: (l.map f).eraseIdx i = f a :: (l.eraseIdx i).map f
    rw [map_erase f l i]
theorem erase_perm {α : Type} : ∀ (l : List α) (i : Nat) (h : i < l.length), (l[i] :: l.eraseIdx i).Perm l
  | [], _, h => by simp at h
  | _ :: _, 0, _ => .refl _
  | a :: l, i + 1, h => by
    show (l[i]'(by simpa using h) :: a :: l.eraseIdx i).Perm (a :: l)
    exact (List.Perm.swap ..).trans ((erase_perm l i (by simpa using h)).cons a)
theorem law_mixed_ok {rs : List MRow} {st : Store} (S : Src st) (hl : rs.length ≤ 60) :
    ∃ (a : List MRow) (st' : Store), p_law_mixed [.ref 1, .lst (rs.map rowW)] st = .ok (.fr, .lst (a.map rowW)) st' ∧ a.Perm rs ∧ Src st' := by
  have hlen : (rngW 0 rs.length).length = rs.length := by unfold rngW; rw [List.length_map, List.length_range]
  have n2 := S.two
  obtain ⟨xs, st', e, got, left, rfl, hp, hat, S', hk⟩ := comp_draw (q := gN 3) (el := ePopAtSh (eVar 2) (eCall p_law_pick (aCons (eVar 0) (aCons (eC1 fLen (eVar 2)) aNil)))) (fr := [.val (.ref 1), .val (.lst (rs.map rowW)), .val (.ref st.length), .no])
    (fun j acc st' => ∃ got left : List MRow, acc = got.map rowW ∧ (got ++ left).Perm rs ∧ st'[st.length]? = some (.lst (left.map rowW)) ∧ Src st' ∧ got.length = j) (rngW 0 rs.length) [] 0 (st ++ [.lst (rs.map rowW)]) (by rw [hlen, sizeLine_eq]; simp; omega)
    ⟨[], rs, rfl, .refl _, by simp, S.snoc _, rfl⟩ fun j w acc st1 hw ⟨got, left, ea, hp, hat, S1, hj⟩ => by
      subst ea
      have hjl : j < rs.length := by rw [← hlen]; exact (List.getElem?_eq_some_iff.mp hw).1
      have hll : got.length + left.length = rs.length := by rw [← List.length_append]; exact hp.length_eq
      have hlp : 1 ≤ left.length := by omega
      obtain ⟨r, st2, e2, S2, d2, r0, r1⟩ := pick_ok (most := left.length) S1 (le_small (by omega) (by omega))
      have r1 := r1 (by omega)
      have hr : r.toNat < left.length := by omega
      have hat2 : st2[st.length]? = some (.lst (left.map rowW)) := by rw [at_drop d2 n2]; exact hat
      refine ⟨[.val (.ref 1), .val (.lst (rs.map rowW)), .val (.ref st.length), .val w], .st, rowW left[r.toNat], st2.set st.length (.lst ((left.eraseIdx r.toNat).map rowW)), rfl, ?_, rfl, got ++ [left[r.toNat]], left.eraseIdx r.toNat, by rw [List.map_append]; rfl, ?_, ?_, S2.put n2 _, by rw [List.length_append]; simp; omega⟩
      · have hL := len_ref hat
        rw [List.length_map] at hL
        have hg : (left.map rowW)[r.toNat]? = some (rowW left[r.toNat]) := by rw [List.getElem?_map, List.getElem?_eq_getElem hr]; rfl
        have hb : (0 ≤ r ∧ r < 2 ^ 62) := ⟨r0, by have : (60 : Int) < 2 ^ 62 := by decide
                                                  omega⟩
        have he : (left.map rowW).eraseIdx r.toNat = (left.eraseIdx r.toNat).map rowW := map_erase _ _ _
        unfold ePopAtSh
        simp [hL, e2, hat, hat2, hb, hg, he]
        omega
      · refine .trans ?_ hp
        rw [List.append_assoc]
        exact List.Perm.append_left _ (erase_perm _ _ hr)
      · have : st.length < st2.length := (List.getElem?_eq_some_iff.mp hat2).1
        rw [List.getElem?_set_self this]
  have hll : got.length + left.length = rs.length := by rw [← List.length_append]; exact hp.length_eq
  have hl0 : left = [] := List.length_eq_zero_iff.mp (by omega)
  subst hl0
  rw [List.append_nil] at hp
  refine ⟨got, st', ?_, hp, S'⟩
  have hat0 : (st ++ [.lst (rs.map rowW)])[st.length]? = some (.lst (rs.map rowW)) := by simp
  have hL := len_ref hat0
  rw [List.length_map] at hL
  have hI : iRng1 (aCons (eC1 fLen (eVar 2)) aNil) [.val (.ref 1), .val (.lst (rs.map rowW)), .val (.ref st.length), .no] (st ++ [.lst (rs.map rowW)]) = .ok (rngW 0 rs.length) (st ++ [.lst (rs.map rowW)]) := rng1_ok (by simp [hL]) (inR_nat (by omega))
  have fo : forgetF [3] [Sl.val (.ref 1), .val (.lst (rs.map rowW)), .val (.ref st.length), .no] = [.val (.ref 1), .val (.lst (rs.map rowW)), .val (.ref st.length), .no] := rfl
  have no : noOwn [3] [Sl.val (.ref 1), .val (.lst (rs.map rowW)), .val (.ref st.length), .no] = true := rfl
  unfold p_law_mixed b_law_mixed
  simp -implicitDefEqProofs [fListP, seqOf, slOf, hI, no, fo, e]
end Vy.K49

set_option Elab.async false
set_option linter.all false
set_option maxRecDepth 100000
set_option maxHeartbeats 1000000
/-! The draws of the means' check. -/
namespace Vy.K49
open PySem PySem.Spec PyProof.Rows L2 Vy.Mean
structure Drawn (k c : Nat) (a : List MRow) : Prop where
  can : Can a
  nice : Nice k c a
  len : a.length ≤ 6
theorem two_means {k c : Nat} {fr : Frame} {st : Store} (S : Src st) (hk : k ≤ 63) (hc : c ≤ 40) (h0 : fr[0]? = some (.val (.ref 1))) (h1 : fr[1]? = some (.val (.int k))) (h2 : fr[2]? = some (.val (.int c))) :
    ∃ (a b : List MRow) (st' : Store), compL (gN 5) bYes (eCall p_law_drawn_mean (aCons (eVar 0) (aCons (eVar 1) (aCons (eVar 2) (aCons (eC (.int 6)) aNil))))) (rngW 0 2) [] fr st = .ok [meanW a, meanW b] st' ∧ Drawn k c a ∧ Drawn k c b ∧ Src st' := by
  obtain ⟨xs, st', e, l, rfl, hl, hd, S'⟩ := comp_draw (q := gN 5) (el := eCall p_law_drawn_mean (aCons (eVar 0) (aCons (eVar 1) (aCons (eVar 2) (aCons (eC (.int 6)) aNil))))) (fr := fr)
    (fun j acc st' => ∃ l : List (List MRow), acc = l.map meanW ∧ l.length = j ∧ (∀ a ∈ l, Drawn k c a) ∧ Src st') (rngW 0 2) [] 0 st (by rw [sizeLine_eq]; decide) ⟨[], rfl, rfl, fun _ h => (nomatch h), S⟩ fun j w acc st1 hw ⟨l, ea, hl, hd, S1⟩ => by
      subst ea
      obtain ⟨a, st2, e2, ha, hn, h6, S2, _⟩ := law_drawn_mean_ok (k := k) (most := c) (many := 6) S1 hk hc (by decide)
      have g0 : (fr.set 5 (.val w))[0]? = some (.val (.ref 1)) := by rw [List.getElem?_set_ne (by decide)]; exact h0
      have g1 : (fr.set 5 (.val w))[1]? = some (.val (.int k)) := by rw [List.getElem?_set_ne (by decide)]; exact h1
      have g2 : (fr.set 5 (.val w))[2]? = some (.val (.int c)) := by rw [List.getElem?_set_ne (by decide)]; exact h2
      have e2' : p_law_drawn_mean [.ref 1, .int k, .int c, .int 6] st1 = .ok (.st, meanW a) st2 := e2
      refine ⟨fr.set 5 (.val w), .st, meanW a, st2, rfl, by simp [g0, g1, g2, e2'], rfl, l ++ [a], by rw [List.map_append]; rfl, by rw [List.length_append, hl]; rfl, fun b hb => ?_, S2⟩
      rcases List.mem_append.mp hb with z | z
      · exact hd b z
      · rw [List.mem_singleton.mp z]; exact ⟨ha, hn, h6⟩
  match l, hl with
  | [a, b], _ => exact ⟨a, b, st', e, hd a (List.mem_cons_self ..), hd b (List.mem_cons_of_mem _ (List.mem_cons_self ..)), S'⟩
theorem scale_of {st : Store} (S : Src st) : ∃ (c : Int) (st' : Store), p_law_of [.ref 1, .lst [.int 0, .int 1, .int (-1), .int 5, .int (10 ^ 20)]] st = .ok (.st, .int c) st' ∧ Src st' ∧ Le c 20 := by
  obtain ⟨w, st', hw, e, S', _⟩ := law_of_ok (ws := [.int 0, .int 1, .int (-1), .int 5, .int (10 ^ 20)]) S (by simp) (by simp)
  simp only [List.mem_cons, List.not_mem_nil, or_false] at hw
  rcases hw with h | h | h | h | h <;> subst h <;> exact ⟨_, st', e, S', by unfold Le; decide⟩
end Vy.K49

set_option Elab.async false
set_option linter.all false
set_option maxRecDepth 100000
set_option maxHeartbeats 1000000
/-! How large the numbers of a put are; what repr tells of means. -/
namespace Vy.K49
open PySem PySem.Spec PyProof.Rows L2 Vy.Mean
theorem can_mem : ∀ {a : List MRow}, Can a → ∀ r ∈ a, coef a r.1 = r.2
  | [], _, _, h => (nomatch h)
  | s :: a, h, r, hr => by
    rcases List.mem_cons.mp hr with e | e
    · subst e; exact h.head
    · have hlt : s.1 < r.1 := (List.pairwise_cons.mp h.inc).1 r e
      show (if s.1 = r.1 then s.2 else 0) + coef a r.1 = r.2
      rw [if_neg (lt_ne hlt), can_mem h.tail r e, Int.zero_add]
theorem coef_le {m : Nat} : ∀ {a : List MRow}, (∀ r ∈ a, r.2.natAbs ≤ m) → ∀ k, (coef a k).natAbs ≤ a.length * m
  | [], _, _ => Nat.zero_le _
  | s :: a, h, k => by
    have h1 := coef_le (fun r hr => h r (List.mem_cons_of_mem _ hr)) k
    have h2 := h s (List.mem_cons_self ..)
    show ((if s.1 = k then s.2 else 0) + coef a k).natAbs ≤ (a.length + 1) * m
    rw [Nat.add_mul]
    by_cases e : s.1 = k
    · rw [if_pos e]; omega
    · rw [if_neg e]; omega
theorem put_num {m : Nat} {rs : List MRow} (h : ∀ r ∈ rs, r.2.natAbs ≤ m) : ∀ r ∈ put rs, r.2.natAbs ≤ rs.length * m := fun r hr => by
  rw [← can_mem (put_can rs) r hr, put_coef]
  exact coef_le h _
/-- the numbers of a put of at most 100 rows -/
theorem put_le {j : Nat} {rs : List MRow} (h : ∀ r ∈ rs, Le r.2 j) (hl : rs.length ≤ 100) : ∀ r ∈ put rs, Le r.2 (j + 2) := fun r hr => by
  have := put_num h r hr
  unfold Le
  rw [Nat.pow_add]
  exact Nat.le_trans this (by rw [Nat.mul_comm]; exact Nat.mul_le_mul_left _ hl)
theorem sm_pw {p : Pw} (hl : p.length ≤ 3) (h : ∀ x ∈ p, Le x 4000) : Sm 1 12913 (pwW p) := (Sm.tup (d := 0) (n := 4301) fun w hw => by
  obtain ⟨x, hx, rfl⟩ := List.mem_map.mp hw
  exact sm_le (h x hx)).mono (Nat.le_refl _) (by rw [List.length_map]; omega)
theorem sm_row {r : MRow} (hl : r.1.length ≤ 3) (h : ∀ x ∈ r.1, Le x 4000) (h2 : Le r.2 4000) : Sm 2 25834 (rowW r) := (Sm.tup (d := 1) (n := 12913) (ws := [pwW r.1, .int r.2]) fun w hw => by
  rcases List.mem_cons.mp hw with e | e
  · subst e; exact sm_pw hl h
  · rw [List.mem_singleton.mp e]; exact (sm_le h2).mono (by decide) (by decide)).mono (Nat.le_refl _) (by show 2 * 12915 + 4 ≤ _; decide)
theorem sm_mean {a : List MRow} (hl : a.length ≤ 36) (h : ∀ r ∈ a, r.1.length ≤ 3 ∧ (∀ x ∈ r.1, Le x 4000) ∧ Le r.2 4000) : Sm 3 930100 (meanW a) := (Sm.tup (d := 2) (n := 25834) fun w hw => by
  obtain ⟨r, hr, rfl⟩ := List.mem_map.mp hw
  obtain ⟨h1, h2, h3⟩ := h r hr
  exact sm_row h1 h2 h3).mono (Nat.le_refl _) (by rw [List.length_map]; omega)
end Vy.K49

set_option Elab.async false
set_option linter.all false
set_option maxRecDepth 100000
set_option maxHeartbeats 1000000
/-! What the told means and the due means are. -/
namespace Vy.K49
open PySem PySem.Spec PyProof.Rows L2 Vy.Mean
section
variable {st : Store} {k c : Nat} {a b : List MRow}
theorem minus_eq (b : List MRow) : (b.map fun r => ((r.1, 0 - r.2) : MRow)) = b.map fun r => (r.1, -1 * r.2) :=
  List.map_congr_left fun r _ => by rw [show 0 - r.2 = -1 * r.2 by omega]
theorem put_less (a b : List MRow) : put (a ++ put (b.map fun r => (r.1, -1 * r.2))) = put (a ++ b.map fun r => (r.1, -1 * r.2)) :=
  put_eq fun j => by rw [coef_append, coef_append, put_coef]
theorem put_none : put ([] : List MRow) = [] := put_self ⟨List.Pairwise.nil, fun _ h => (nomatch h)⟩
theorem put_same (a : List MRow) : put (a ++ put (a.map fun r => (r.1, -1 * r.2))) = [] := by
  rw [← put_none]
  exact put_eq fun j => by
    rw [coef_append, put_coef, coef_scale]
    show coef a j + -1 * coef a j = 0
    omega
theorem put_rev (a : List MRow) : put a.reverse = put a := put_eq fun j => coef_reverse a j
theorem six_line {n : Nat} (h : n ≤ 100) : n ≤ sizeLine := by rw [sizeLine_eq]; omega
theorem Nice.ne {a : List MRow} (g : Nice k c a) (hk : 1 ≤ k) : ∀ r ∈ a, r.1 ≠ [] := fun r hr e => by
  have := g.len r hr
  rw [e] at this
  simp at this; omega
theorem Nice.over {a : List MRow} (g : Nice k c a) : Over k c a := ⟨g.len, fun r hr p hp => (g.bd r hr p hp).1, fun r hr p hp => (g.bd r hr p hp).2⟩
theorem f_sum (A : Drawn k c a) (B : Drawn k c b) : p_mean_sum [meanW a, meanW b] st = .ok (.st, meanW (put (a ++ b))) st := mean_sum_ok (six_line (by have := A.len; have := B.len; omega))
theorem f_less (A : Drawn k c a) (B : Drawn k c b) : p_mean_less [meanW a, meanW b] st = .ok (.st, meanW (put (a ++ b.map fun r => (r.1, -1 * r.2)))) st := by
  rw [mean_less_ok (six_line (by have := A.len; have := B.len; omega)), put_less]
theorem f_same (A : Drawn k c a) : p_mean_less [meanW a, meanW a] st = .ok (.st, .tup []) st := by
  rw [mean_less_ok (six_line (by have := A.len; omega)), put_same]; rfl
theorem f_nosum (B : Drawn k c b) : p_mean_sum [.tup [], meanW b] st = .ok (.st, meanW b) st := by
  have h := mean_sum_ok (a := []) (b := b) (st := st) (six_line (by have := B.len; simp; omega))
  rw [List.nil_append, put_self B.can] at h
  exact h
theorem few_mul {i j : Int} (hi : Le i 7) (hj : Le j 7) : mulOk i j := mul_ok (hi.mono (by decide)) (hj.mono (by decide))
theorem f_times (A : Drawn k c a) (B : Drawn k c b) (hk : k ≤ 3) : p_mean_times [meanW a, meanW b] st = .ok (.st, meanW (put (prodR a b))) st :=
  mean_times_ok (six_line (Nat.le_trans (Nat.mul_le_mul A.len B.len) (by decide))) (six_line (by have := B.len; omega)) (fun r hr => by rw [A.nice.len r hr]; exact six_line (by omega)) fun r hr s hs => few_mul (A.nice.few r hr) (B.nice.few s hs)
theorem f_notimes (A : Drawn k c a) (hk : k ≤ 3) : p_mean_times [meanW a, .tup []] st = .ok (.st, .tup []) st := by
  have h := mean_times_ok (a := a) (b := []) (st := st) (six_line (by simp)) (six_line (by simp)) (fun r hr => by rw [A.nice.len r hr]; exact six_line (by omega)) fun r hr s hs => (nomatch hs)
  have e : prodR a [] = [] := List.length_eq_zero_iff.mp (by rw [prod_len]; simp)
  rw [e, put_none] at h
  exact h
theorem f_scaled {m : Int} (A : Drawn k c a) (hm : Le m 20) : p_mean_scaled [.int m, meanW a] st = .ok (.st, meanW (put (a.map fun r => (r.1, m * r.2)))) st :=
  mean_scaled_ok (six_line (by have := A.len; omega)) fun r hr => mul_ok (hm.mono (by decide)) ((A.nice.few r hr).mono (by decide))
theorem f_product (A : Drawn k c a) (B : Drawn k c b) (hk1 : 1 ≤ k) (hk : k ≤ 3) : p_law_product [meanW a, meanW b] st = .ok (.st, meanW (put (prodR a b))) st :=
  law_product_ok (six_line (Nat.le_trans (Nat.mul_le_mul A.len B.len) (by decide))) (six_line (by have := B.len; omega)) (fun r hr => by rw [A.nice.len r hr]; exact six_line (by omega)) (fun r hr s hs => few_mul (A.nice.few r hr) (B.nice.few s hs)) fun r hr s hs e => by
    have h1 := addP_len (p := r.1) (q := s.1)
    rw [e, A.nice.len r hr, B.nice.len s hs] at h1
    simp at h1; omega
theorem ne_append {a b : List MRow} (h : ∀ r ∈ a, r.1 ≠ []) (h' : ∀ r ∈ b, r.1 ≠ []) : ∀ r ∈ a ++ b, r.1 ≠ [] := fun r hr => (List.mem_append.mp hr).elim (h r) (h' r)
theorem ne_map {b : List MRow} (f : Int → Int) (h : ∀ r ∈ b, r.1 ≠ []) : ∀ r ∈ b.map (fun r => ((r.1, f r.2) : MRow)), r.1 ≠ [] := fun r hr => by
  obtain ⟨s, hs, rfl⟩ := List.mem_map.mp hr
  exact h s hs
/-- law_put of one tuple of two means' rows -/
theorem f_put2 {a b : List MRow} (hl : a.length + b.length ≤ 100) (h : ∀ r ∈ a, r.1 ≠ []) (h' : ∀ r ∈ b, r.1 ≠ []) : p_law_put [.tup (a.map rowW ++ b.map rowW)] st = .ok (.st, meanW (put (a ++ b))) st :=
  law_put_rows (by rw [List.map_append]; rfl) (six_line (by rw [List.length_append]; exact hl)) (ne_append h h')
theorem f_put {a : List MRow} (hl : a.length ≤ 100) (h : ∀ r ∈ a, r.1 ≠ []) : p_law_put [.lst (a.map rowW)] st = .ok (.st, meanW (put a)) st := law_put_rows rfl (six_line hl) h
theorem f_rows {a : List MRow} (hl : a.length ≤ 100) : p_mean_of_rows [.lst (a.map rowW)] st = .ok (.st, meanW (put a)) st := mean_rows rfl (six_line hl)
theorem f_rrows {a : List MRow} (hl : a.length ≤ 100) : p_mean_of_rows [.tup (a.map rowW).reverse] st = .ok (.st, meanW (put a)) st := by
  rw [← put_rev a]
  exact mean_rows (by rw [List.map_reverse]; rfl) (six_line (by rw [List.length_reverse]; exact hl))
end
end Vy.K49

set_option Elab.async false
set_option linter.all false
set_option maxRecDepth 100000
set_option maxHeartbeats 1000000
/-! The comprehensions of the means' check. -/
namespace Vy.K49
open PySem PySem.Spec PyProof.Rows L2 Vy.Mean
section
variable {st : Store} {b : List MRow} {x0 x1 x2 x3 x4 x5 x6 x7 x8 x11 x12 x13 x14 x15 x16 x17 x18 x19 : Sl}
theorem comp_rows (f : Int → Int) {el : PX} {fr : Frame} (hl : b.length ≤ 100)
    (hel : ∀ r ∈ b, el ((fr.set 9 (.val (pwW r.1))).set 10 (.val (.int r.2))) st = .ok (.st, rowW (r.1, f r.2)) st) :
    compL (gTp 2 (gsCons (gN 9) (gsCons (gN 10) gsNil))) bYes el (b.map rowW) [] fr st = .ok ((b.map fun r => ((r.1, f r.2) : MRow)).map rowW) st := by
  have h := comp_map (q := gTp 2 (gsCons (gN 9) (gsCons (gN 10) gsNil))) (el := el) (st := st) (fr := fr) rowW (fun r => rowW (r.1, f r.2)) b [] (by rw [sizeLine_eq]; simp; omega) fun r hr => ⟨(fr.set 9 (.val (pwW r.1))).set 10 (.val (.int r.2)), by simp, .st, hel r hr, rfl⟩
  rw [List.nil_append] at h
  rw [h, List.map_map]
  rfl
theorem e_comp {qi : PL} {q : PG'} {el : PX} {vs : List Nat} {fr fr' : Frame} {st1 st2 : Store} {ws xs : List W} (hI : qi fr st = .ok ws st1) (no : noOwn vs fr = true) (fo : forgetF vs fr = fr')
    (h : compL q bYes el ws [] fr' st1 = .ok xs st2) : eComp qi q bYes el vs fr st = .ok (.fr, .lst xs) st2 := by rw [ev_comp, hI, ev_bind, if_pos no, fo, h, ev_bind]
theorem c_minus (hl : b.length ≤ 100) : eComp (iSeqL (eVar 4)) (gTp 2 (gsCons (gN 9) (gsCons (gN 10) gsNil))) bYes (eTup (aCons (eVar 9) (aCons (eBin fSub (eC (.int 0)) (eVar 10)) aNil))) [9, 10]
    [x0, x1, x2, x3, .val (meanW b), x5, x6, x7, x8, .no, .no, x11, x12, x13, x14, x15, x16, x17, x18, x19] st = .ok (.fr, .lst ((b.map fun r => ((r.1, -1 * r.2) : MRow)).map rowW)) st := by
  have h := comp_rows (st := st) (b := b) (fun n => 0 - n) (el := eTup (aCons (eVar 9) (aCons (eBin fSub (eC (.int 0)) (eVar 10)) aNil))) (fr := [x0, x1, x2, x3, .val (meanW b), x5, x6, x7, x8, .no, .no, x11, x12, x13, x14, x15, x16, x17, x18, x19]) hl fun r _ => by simp
  rw [← minus_eq]
  exact e_comp (by simp) rfl rfl h
theorem c_scaled {m : Int} (hl : b.length ≤ 100) (hm : ∀ r ∈ b, mulOk m r.2) : eComp (iSeqL (eVar 3)) (gTp 2 (gsCons (gN 9) (gsCons (gN 10) gsNil))) bYes (eTup (aCons (eVar 9) (aCons (eBin fMul (eVar 6) (eVar 10)) aNil))) [9, 10]
    [x0, x1, x2, .val (meanW b), x4, x5, .val (.int m), x7, x8, .no, .no, x11, x12, x13, x14, x15, x16, x17, x18, x19] st = .ok (.fr, .lst ((b.map fun r => ((r.1, m * r.2) : MRow)).map rowW)) st := by
  have h := comp_rows (st := st) (b := b) (fun n => m * n) (el := eTup (aCons (eVar 9) (aCons (eBin fMul (eVar 6) (eVar 10)) aNil))) (fr := [x0, x1, x2, .val (meanW b), x4, x5, .val (.int m), x7, x8, .no, .no, x11, x12, x13, x14, x15, x16, x17, x18, x19]) hl fun r hr => by simp [ev_mul (hm r hr)]
  exact e_comp (by simp) rfl rfl h
theorem c_nought (hl : b.length ≤ 100) : eComp (iSeqL (eVar 8)) (gTp 2 (gsCons (gN 9) (gsCons (gN 10) gsNil))) bYes (eTup (aCons (eVar 9) (aCons (eC (.int 0)) aNil))) [9, 10]
    [x0, x1, x2, x3, x4, x5, x6, x7, .val (meanW b), .no, .no, x11, x12, x13, x14, x15, x16, x17, x18, x19] st = .ok (.fr, .lst ((b.map fun r => ((r.1, 0) : MRow)).map rowW)) st := by
  have h := comp_rows (st := st) (b := b) (fun _ => 0) (el := eTup (aCons (eVar 9) (aCons (eC (.int 0)) aNil))) (fr := [x0, x1, x2, x3, x4, x5, x6, x7, .val (meanW b), .no, .no, x11, x12, x13, x14, x15, x16, x17, x18, x19]) hl fun r hr => by simp
  exact e_comp (by simp) rfl rfl h
end
end Vy.K49

set_option Elab.async false
set_option linter.all false
set_option maxRecDepth 100000
set_option maxHeartbeats 1000000
/-! The three laps. -/
namespace Vy.K49
open PySem PySem.Spec PyProof.Rows L2 Vy.Mean
theorem ev_eq_int {i j : Int} {st : Store} : fEq (.int i) (.int j) st = .ok (.st, .bl (decide (i = j))) st := by simp [fEq, wEq, wV, scal]
theorem law_of_means (H : ∀ {st : Store} {k c : Nat}, Src st → 1 ≤ k → k ≤ 3 → c ≤ 20 → ∃ st', p_law_means_right [.ref 1, .int k, .int c] st = .ok (.st, .bl true) st' ∧ Src st')
    (ns : List Int) (hl : ns.length ≤ 63) : ∃ st, p_law [.scr ns] [] = .ok (.st, .bl true) st := by
  obtain ⟨s0, e0, S0⟩ := law_open_ok ns hl
  unfold p_law b_law
  obtain ⟨fr', st', e, x, e1, S'⟩ := for_run (q := gN 2) (b := sSeq (sFrz [1] (sIf (bNot (bTruth (eCall p_law_fractions_right (aCons (eVar 1) aNil)))) (sRet (eC (.bl false))) sSkip))
    (sFrz [1] (sIf (bNot (bTruth (eCall p_law_means_right (aCons (eVar 1) (aCons (eBin fAdd (eC (.int 1)) (eCall p_law_pick (aCons (eVar 1) (aCons (eC (.int 3)) aNil)))) (aCons (eIf (bOf (eBin fEq (eCall p_law_pick (aCons (eVar 1) (aCons (eC (.int 20)) aNil))) (eC (.int 0)))) (eC (.int 20)) (eC (.int 5))) aNil)))))) (sRet (eC (.bl false))) sSkip)))
    (fun _ fr st => ∃ x, fr = [.val (.scr ns), .val (.ref 1), x] ∧ Src st) (rngW 0 3) 0 [.val (.scr ns), .val (.ref 1), .no] s0 ⟨.no, rfl, S0⟩ fun j w fr st hw ⟨x, e1, S⟩ => by
      subst e1
      have hT : wTruth (.bl true) = some true := rfl
      obtain ⟨s1, e1, S1, _⟩ := law_fractions_right_ok S
      obtain ⟨r2, s2, e2, S2, _, r0, r1⟩ := pick_ok (most := 3) S1 (le_small (by decide) (by decide))
      have r1 := r1 (by decide)
      obtain ⟨r3, s3, e3, S3, _, _, _⟩ := pick_ok (most := 20) S2 (le_small (by decide) (by decide))
      obtain ⟨k, hk⟩ : ∃ k : Nat, 1 + r2 = k := ⟨(1 + r2).toNat, by omega⟩
      by_cases h : r3 = 0
      · obtain ⟨s4, e4, S4⟩ := H (k := k) (c := 20) S3 (by omega) (by omega) (by decide)
        have e4' : p_law_means_right [.ref 1, .int k, .int 20] s3 = .ok (.st, .bl true) s4 := e4
        exact ⟨[.val (.scr ns), .val (.ref 1), .val w], [.val (.scr ns), .val (.ref 1), .val w], s4, rfl, by simp [e1, e2, e3, hk, h, ev_eq_int, e4', hT], _, rfl, S4⟩
      · obtain ⟨s4, e4, S4⟩ := H (k := k) (c := 5) S3 (by omega) (by omega) (by decide)
        have e4' : p_law_means_right [.ref 1, .int k, .int 5] s3 = .ok (.st, .bl true) s4 := e4
        exact ⟨[.val (.scr ns), .val (.ref 1), .val w], [.val (.scr ns), .val (.ref 1), .val w], s4, rfl, by simp [e1, e2, e3, hk, h, ev_eq_int, e4', hT], _, rfl, S4⟩
  subst e1
  have hI : ∀ st, iRng1 (aCons (eC (.int 3)) aNil) [.val (.scr ns), .val (.ref 1), .no] st = .ok (rngW 0 3) st := fun st => rng1_ok (k := 3) (by simp) (inR_nat (by decide))
  exact ⟨st', by simp -implicitDefEqProofs [e0, hI, e, slOf]⟩
end Vy.K49

set_option Elab.async false
set_option linter.all false
set_option maxRecDepth 100000
set_option maxHeartbeats 2000000
/-! The means are right. -/
namespace Vy.K49
open PySem PySem.Spec PyProof.Rows L2 Vy.Mean
theorem p10_20 (st : Store) : fPow (.int 10) (.int 20) st = .ok (.st, .int (10 ^ 20)) st := pow_ok 10 20 (by decide) st
theorem repr_one {L : W} {st : Store} (h : Sm 5 16000000 L) : fRepr L st = .ok (.st, .str L.toD.shown) st := repr_ok h (by decide) (by rw [sizeLine_eq]; decide) st
theorem repr_ne {L : W} {st : Store} (h : Sm 5 16000000 L) : ((fRepr L st).bind fun x s1 => (fRepr L s1).bind fun y s2 => fNe x.2 y.2 s2) = .ok (.st, .bl false) st := by
  rw [repr_one h, ev_bind, repr_one h, ev_bind]
  exact ne_str _ _
/-- a draw's mean, told -/
theorem Drawn.sm {k c : Nat} {a : List MRow} (A : Drawn k c a) (hk : k ≤ 3) (hc : c ≤ 40) : Sm 3 930100 (meanW a) := sm_mean (by have := A.len; omega) fun r hr =>
  ⟨by rw [A.nice.len r hr]; exact hk, fun x hx => (le_small (A.nice.bd r hr x hx).1 (by have := (A.nice.bd r hr x hx).2; omega)).mono (by decide), (A.nice.few r hr).mono (by decide)⟩
/-- twelve means, told -/
theorem sm_list {ws : List W} (hl : ws.length ≤ 12) (h : ∀ w ∈ ws, Sm 3 930100 w) : Sm 5 16000000 (.lst ws) := (Sm.lst h).mono (by decide) (by omega)
end Vy.K49

set_option Elab.async false
set_option linter.all false
set_option maxRecDepth 100000
set_option maxHeartbeats 4000000
/-! The means are right. -/
namespace Vy.K49
open PySem PySem.Spec PyProof.Rows L2 Vy.Mean
section
variable {st : Store} {k c : Nat} {x3 x4 x5 x6 x7 x8 x9 x10 x11 x12 x13 x14 x15 x16 x17 x18 x19 : Sl}
theorem c_two (S : Src st) (hk : k ≤ 63) (hc : c ≤ 40) : ∃ (a b : List MRow) (st' : Store), eComp (iRng1 (aCons (eC (.int 2)) aNil)) (gN 5) bYes (eCall p_law_drawn_mean (aCons (eVar 0) (aCons (eVar 1) (aCons (eVar 2) (aCons (eC (.int 6)) aNil))))) [5]
    [.val (.ref 1), .val (.int k), .val (.int c), .no, .no, .no, .no, .no, .no, .no, .no, .no, .no, .no, .no, .no, .no, .no, .no, .no] st = .ok (.fr, .lst [meanW a, meanW b]) st' ∧ Drawn k c a ∧ Drawn k c b ∧ Src st' := by
  obtain ⟨a, b, st', e, A, B, S'⟩ := two_means (k := k) (c := c) (fr := [.val (.ref 1), .val (.int k), .val (.int c), .no, .no, .no, .no, .no, .no, .no, .no, .no, .no, .no, .no, .no, .no, .no, .no, .no]) S hk hc rfl rfl rfl
  exact ⟨a, b, st', e_comp (rng1_ok (k := 2) (by simp) (inR_nat (by decide))) rfl rfl e, A, B, S'⟩
theorem c_powers (S : Src st) (hk : k ≤ 63) : ∃ (p : Pw) (st' : Store), eComp (iRng1 (aCons (eVar 1) aNil)) (gN 14) bYes (eCall p_law_pick (aCons (eVar 0) (aCons (eC (.int 9)) aNil))) [14]
    [.val (.ref 1), .val (.int k), .val (.int c), x3, x4, x5, x6, x7, x8, x9, x10, x11, x12, x13, .no, x15, x16, x17, x18, x19] st = .ok (.fr, .lst (p.map W.int)) st' ∧ p.length = k ∧ (∀ x ∈ p, 0 ≤ x ∧ x ≤ 8) ∧ Src st' := by
  obtain ⟨p, st', e, hl, hp, S', _⟩ := drawn_ints (q := gN 14) (el := eCall p_law_pick (aCons (eVar 0) (aCons (eC (.int 9)) aNil))) (fr := [.val (.ref 1), .val (.int k), .val (.int c), x3, x4, x5, x6, x7, x8, x9, x10, x11, x12, x13, .no, x15, x16, x17, x18, x19]) (st := st) 0 8 hk S fun j =>
    ⟨[.val (.ref 1), .val (.int k), .val (.int c), x3, x4, x5, x6, x7, x8, x9, x10, x11, x12, x13, .val (.int j), x15, x16, x17, x18, x19], by simp, fun st S => by
      obtain ⟨r, st', e, S', d, r0, r1⟩ := pick_ok (most := 9) S (le_small (by decide) (by decide))
      have r1 := r1 (by decide)
      exact ⟨r, st', by simp [e], S', d, r0, by omega⟩⟩
  exact ⟨p, st', e_comp (rng1_ok (by simp) (inR_nat (by omega))) rfl rfl e, hl, hp, S'⟩
end
end Vy.K49

set_option Elab.async false
set_option linter.all false
set_option maxRecDepth 100000
set_option maxHeartbeats 4000000
/-! The means are right. -/
namespace Vy.K49
open PySem PySem.Spec PyProof.Rows L2 Vy.Mean
section
variable {st : Store} {k c : Nat} {x3 x4 x5 x6 x7 x8 x9 x10 x11 x12 x13 x14 x15 x16 x17 x18 x19 : Sl}
theorem c_sizes {f : Int} (S : Src st) (hk : k ≤ 63) (h1 : 1 ≤ f) (hf : Le f 30) : ∃ (p : Pw) (st' : Store), eComp (iRng1 (aCons (eVar 1) aNil)) (gN 14) bYes (eBin fAdd (eC (.int 1)) (eCall p_law_pick (aCons (eVar 0) (aCons (eVar 15) aNil)))) [14]
    [.val (.ref 1), .val (.int k), .val (.int c), x3, x4, x5, x6, x7, x8, x9, x10, x11, x12, x13, .no, .val (.int f), x16, x17, x18, x19] st = .ok (.fr, .lst (p.map W.int)) st' ∧ Sizes k p ∧ Src st' := by
  obtain ⟨p, st', e, hl, hp, S', _⟩ := drawn_ints (q := gN 14) (el := eBin fAdd (eC (.int 1)) (eCall p_law_pick (aCons (eVar 0) (aCons (eVar 15) aNil)))) (fr := [.val (.ref 1), .val (.int k), .val (.int c), x3, x4, x5, x6, x7, x8, x9, x10, x11, x12, x13, .no, .val (.int f), x16, x17, x18, x19]) (st := st) 1 f hk S fun j =>
    ⟨[.val (.ref 1), .val (.int k), .val (.int c), x3, x4, x5, x6, x7, x8, x9, x10, x11, x12, x13, .val (.int j), .val (.int f), x16, x17, x18, x19], by simp, fun st S => by
      obtain ⟨r, st', e, S', d, r0, r1⟩ := pick_ok (most := f) S (hf.mono (by decide))
      have r1 := r1 h1
      exact ⟨1 + r, st', by simp [e], S', d, by omega, by omega⟩⟩
  exact ⟨p, st', e_comp (rng1_ok (by simp) (inR_nat (by omega))) rfl rfl e, ⟨hl, fun n hn => le_of_bd hf (by have := (hp n hn).1; omega) (hp n hn).2, fun n hn => (hp n hn).1⟩, S'⟩
end
end Vy.K49

set_option Elab.async false
set_option linter.all false
set_option maxRecDepth 100000
set_option maxHeartbeats 1000000
/-! Draws whose outcome hangs on no frame. -/
namespace Vy.K49
open PySem PySem.Spec PyProof.Rows L2 Vy.Mean
theorem draws_any (P : Frame → Prop) (v : Nat) {el : PX} (lo hi : Int)
    (h : ∀ st, Src st → ∃ (r : Int) (st' : Store), (∀ fr w, P fr → el (fr.set v (.val w)) st = .ok (.st, .int r) st') ∧ Src st' ∧ lo ≤ r ∧ r ≤ hi) :
    ∀ (ws : List W) (st : Store), Src st → ∃ (p : Pw) (st' : Store), (∀ fr acc, P fr → acc.length + ws.length ≤ sizeLine → compL (gN v) bYes el ws acc fr st = .ok (acc ++ p.map W.int) st') ∧ p.length = ws.length ∧ (∀ x ∈ p, lo ≤ x ∧ x ≤ hi) ∧ Src st'
  | [], st, S => ⟨[], st, fun fr acc _ _ => by show Res.ok acc st = _; simp, rfl, fun _ z => (nomatch z), S⟩
  | w :: ws, st, S => by
    obtain ⟨r, st1, e1, S1, r0, r1⟩ := h st S
    obtain ⟨p, st2, e2, hl, hp, S2⟩ := draws_any P v lo hi h ws st1 S1
    refine ⟨r :: p, st2, fun fr acc hP hz => ?_, by rw [List.length_cons, List.length_cons, hl], fun x hx => ?_, S2⟩
    · have hz' : acc.length + (ws.length + 1) ≤ sizeLine := by simpa using hz
      have e3 := e2 fr (acc ++ [.int r]) hP (by rw [List.length_append, List.length_singleton]; omega)
      unfold compL
      have hz2 : acc.length < sizeLine := by omega
      show ((bYes (fr.set v (.val w)) st).bind _) = _
      simp only [ev_yes, ev_bind, if_true, e1 fr w hP, hz2, ev_keep_st, and_self, e3]
      rw [List.append_assoc]; rfl
    · rcases List.mem_cons.mp hx with z | z
      · rw [z]; exact ⟨r0, r1⟩
      · exact hp x z
end Vy.K49

set_option Elab.async false
set_option linter.all false
set_option maxRecDepth 100000
set_option maxHeartbeats 1000000
namespace Vy.K49
open PySem PySem.Spec PyProof.Rows L2 Vy.Mean
theorem rng_len (k : Nat) : (rngW 0 k).length = k := by unfold rngW; rw [List.length_map, List.length_range]
theorem u_powers {st : Store} {k : Nat} (S : Src st) (hk : k ≤ 63) : ∃ (p : Pw) (st' : Store), (∀ x2 x3 x4 x5 x6 x7 x8 x9 x10 x11 x12 x13 x15 x16 x17 x18 x19 : Sl, eComp (iRng1 (aCons (eVar 1) aNil)) (gN 14) bYes (eCall p_law_pick (aCons (eVar 0) (aCons (eC (.int 9)) aNil))) [14]
    [.val (.ref 1), .val (.int k), x2, x3, x4, x5, x6, x7, x8, x9, x10, x11, x12, x13, .no, x15, x16, x17, x18, x19] st = .ok (.fr, .lst (p.map W.int)) st') ∧ p.length = k ∧ (∀ x ∈ p, 0 ≤ x ∧ x ≤ 8) ∧ Src st' := by
  obtain ⟨p, st', e, hl, hp, S'⟩ := draws_any (fun fr => fr[0]? = some (.val (.ref 1))) 14 (el := eCall p_law_pick (aCons (eVar 0) (aCons (eC (.int 9)) aNil))) 0 8 (fun st S => by
      obtain ⟨r, st', e, S', d, r0, r1⟩ := pick_ok (most := 9) S (le_small (by decide) (by decide))
      have r1 := r1 (by decide)
      exact ⟨r, st', fun fr w hP => by
        have g0 : (fr.set 14 (.val w))[0]? = some (.val (.ref 1)) := by rw [List.getElem?_set_ne (by decide)]; exact hP
        simp [g0, e], S', r0, by omega⟩) (rngW 0 k) st S
  rw [rng_len] at hl
  exact ⟨p, st', fun x2 x3 x4 x5 x6 x7 x8 x9 x10 x11 x12 x13 x15 x16 x17 x18 x19 => e_comp (rng1_ok (by simp) (inR_nat (by omega))) rfl rfl (e _ [] rfl (by rw [rng_len, sizeLine_eq]; simp; omega)), hl, hp, S'⟩
theorem u_sizes {st : Store} {k : Nat} {f : Int} (S : Src st) (hk : k ≤ 63) (h1 : 1 ≤ f) (hf : Le f 30) : ∃ (p : Pw) (st' : Store), (∀ x2 x3 x4 x5 x6 x7 x8 x9 x10 x11 x12 x13 x16 x17 x18 x19 : Sl, eComp (iRng1 (aCons (eVar 1) aNil)) (gN 14) bYes (eBin fAdd (eC (.int 1)) (eCall p_law_pick (aCons (eVar 0) (aCons (eVar 15) aNil)))) [14]
    [.val (.ref 1), .val (.int k), x2, x3, x4, x5, x6, x7, x8, x9, x10, x11, x12, x13, .no, .val (.int f), x16, x17, x18, x19] st = .ok (.fr, .lst (p.map W.int)) st') ∧ Sizes k p ∧ Src st' := by
  obtain ⟨p, st', e, hl, hp, S'⟩ := draws_any (fun fr => fr[0]? = some (.val (.ref 1)) ∧ fr[15]? = some (.val (.int f))) 14 (el := eBin fAdd (eC (.int 1)) (eCall p_law_pick (aCons (eVar 0) (aCons (eVar 15) aNil)))) 1 f (fun st S => by
      obtain ⟨r, st', e, S', d, r0, r1⟩ := pick_ok (most := f) S (hf.mono (by decide))
      have r1 := r1 h1
      exact ⟨1 + r, st', fun fr w hP => by
        have g0 : (fr.set 14 (.val w))[0]? = some (.val (.ref 1)) := by rw [List.getElem?_set_ne (by decide)]; exact hP.1
        have g1 : (fr.set 14 (.val w))[15]? = some (.val (.int f)) := by rw [List.getElem?_set_ne (by decide)]; exact hP.2
        simp [g0, g1, e], S', by omega, by omega⟩) (rngW 0 k) st S
  rw [rng_len] at hl
  exact ⟨p, st', fun x2 x3 x4 x5 x6 x7 x8 x9 x10 x11 x12 x13 x16 x17 x18 x19 => e_comp (rng1_ok (by simp) (inR_nat (by omega))) rfl rfl (e _ [] ⟨rfl, rfl⟩ (by rw [rng_len, sizeLine_eq]; simp; omega)),
    ⟨hl, fun n hn => le_of_bd hf (by have := (hp n hn).1; omega) (hp n hn).2, fun n hn => (hp n hn).1⟩, S'⟩
end Vy.K49

set_option Elab.async false
set_option linter.all false
set_option maxRecDepth 100000
set_option maxHeartbeats 1000000
/-! The second half of the means' check: values at sizes. -/
namespace Vy.K49
open PySem PySem.Spec PyProof.Rows L2 Vy.Mean
theorem seq_nx {b1 b2 : PM} {fr fr1 : Frame} {st s1 : Store} (h : b1 fr st = .ok (.nx fr1) s1) : sSeq b1 b2 fr st = b2 fr1 s1 := by rw [ev_seq, h]; rfl
theorem if_same {y : Str} {p1 p2 q1 q2 : PX} {fr : Frame} {st : Store} {x : Str} (h1 : p1 fr st = .ok (.st, .str y) st) (h2 : p2 fr st = .ok (.st, .str y) st)
    (k1 : q1 fr st = .ok (.st, .str x) st) (k2 : q2 fr st = .ok (.st, .str x) st) : sIf (bOr (bOf (eBin fNe p1 p2)) (bOf (eBin fNe q1 q2))) (sRet (eC (.bl false))) sSkip fr st = .ok (.nx fr) st := by
  have hx := ne_str x st
  have hn := ne_str y st
  simp [h1, h2, k1, k2, hn, hx]
section
variable {st : Store} {k c d : Nat} {a b : List MRow} {ns : List Int} {m : Int}
theorem lin_le {f : Pw → Int} {j : Nat} : ∀ {a : List MRow}, (∀ r ∈ a, Le (r.2 * f r.1) j) → Le (lin f a) (j + a.length)
  | [], _ => Le.zero
  | r :: a, h => by
    have h1 := h r (List.mem_cons_self ..)
    have h2 := lin_le fun s hs => h s (List.mem_cons_of_mem _ hs)
    show Le (r.2 * f r.1 + lin f a) (j + a.length + 1)
    exact (h1.mono (Nat.le_add_right _ _)).add h2
theorem gr_pos (hs : Sizes k ns) : pp ns (gr k a) ≠ 0 := by have := pp_pos (ns := ns) (ps := gr k a) hs.pos; omega
theorem at_le {j : Nat} (hs : Sizes k ns) (hk : k ≤ 3) (h : Over k c a) (hj : ∀ r ∈ a, Le r.2 j) : Le (atF k a ns).1 (90 * c + j + a.length) ∧ Le (atF k a ns).2 (90 * c) := by
  have hm : 30 * c * ns.length ≤ 90 * c := by
    rw [hs.len]
    calc 30 * c * k ≤ 30 * c * 3 := Nat.mul_le_mul_left _ hk
      _ = 90 * c := by omega
  refine ⟨nf_le (gr_pos hs) (lin_le fun r hr => ?_), nf_le2 (gr_pos hs) ((pp_le hs.le fun p hp => (gr_bd h p hp).2).mono hm)⟩
  rw [Nat.add_comm (90 * c)]
  exact (hj r hr).mul ((pp_le hs.le fun p hp => (subP_bd (c := c) (gr_below h hr) (fun x hx => (gr_bd h x hx).2) (h.lo r hr) p hp).2).mono hm)
theorem at_ne (hs : Sizes k ns) : (atF k a ns).2 ≠ 0 := low_ne (nf_spec _ (gr_pos hs)).1
theorem all_pos (hs : Sizes k ns) : pp ns (all k c) ≠ 0 := by have := pp_pos (ns := ns) (ps := all k c) hs.pos; omega
theorem v_sum (hs : Sizes k ns) (A : Over k c a) (B : Over k c b) :
    nf ((atF k a ns).1 * (atF k b ns).2 + (atF k b ns).1 * (atF k a ns).2) ((atF k a ns).2 * (atF k b ns).2) = atF k (put (a ++ b)) ns := by
  rw [at_over hs A, at_over hs B, plus_nf (all_pos hs), at_over hs (A.append B).put, over_put, over_append]
theorem v_neg (hs : Sizes k ns) (B : Over k c b) : ((0 - (atF k b ns).1, (atF k b ns).2) : Fr) = atF k (b.map fun r => ((r.1, -1 * r.2) : MRow)) ns := by
  rw [at_over hs B, neg_nf (all_pos hs), at_over hs (B.scale (-1)), over_scale, Int.neg_one_mul]
theorem v_less (hs : Sizes k ns) (A : Over k c a) (B : Over k c b) :
    nf ((atF k a ns).1 * (atF k b ns).2 + (0 - (atF k b ns).1) * (atF k a ns).2) ((atF k a ns).2 * (atF k b ns).2) = atF k (put (a ++ b.map fun r => ((r.1, -1 * r.2) : MRow))) ns := by
  have h := v_sum hs A (B.scale (-1))
  rw [← v_neg hs B] at h
  exact h
theorem pp_all : ∀ {ns : List Int} {k c d : Nat}, pp ns (all k (c + d)) = pp ns (all k c) * pp ns (all k d)
  | [], _, _, _ => rfl
  | n :: ns, 0, _, _ => rfl
  | n :: ns, k + 1, c, d => by
    have ih := pp_all (ns := ns) (k := k) (c := c) (d := d)
    show n ^ ((c + d : Nat) : Int).toNat * pp ns (all k (c + d)) = n ^ ((c : Nat) : Int).toNat * pp ns (all k c) * (n ^ ((d : Nat) : Int).toNat * pp ns (all k d))
    rw [ih, Int.toNat_natCast, Int.toNat_natCast, Int.toNat_natCast, Int.pow_add]
    simp only [Int.mul_assoc, Int.mul_comm, Int.mul_left_comm]
theorem v_prod (hs : Sizes k ns) (A : Over k c a) (B : Over k d b) :
    nf ((atF k a ns).1 * (atF k b ns).1) ((atF k a ns).2 * (atF k b ns).2) = atF k (put (prodR a b)) ns := by
  rw [at_over hs A, at_over hs B, by_nf (all_pos hs) (all_pos hs), at_over hs (A.prod B).put, over_put, over_prod A B, pp_all]
theorem v_scale (hs : Sizes k ns) (A : Over k c a) (m : Int) : nf (m * (atF k a ns).1) (1 * (atF k a ns).2) = atF k (put (a.map fun r => ((r.1, m * r.2) : MRow))) ns := by
  rw [at_over hs (A.scale m).put, over_put, over_scale, at_over hs A]
  obtain ⟨l, s⟩ := nf_spec (over k c ns a) (all_pos (c := c) hs)
  refine nf_eq (by rw [Int.one_mul]; exact low_ne l) (all_pos hs) ?_
  rw [Int.mul_assoc, s, Int.one_mul, Int.mul_assoc]
theorem v_none (hs : Sizes k ns) : atF k [] ns = (0, 1) := by
  have h : atF k [] ns = nf 0 1 := nf_eq (gr_pos hs) (by decide) (by show (0 : Int) * 1 = 0 * _; omega)
  rw [h]; rfl
theorem comp_call {pf : PFn} {fr : Frame} {g : List MRow → Fr} (h16 : fr[16]? = some (.val (pwW ns))) (hl : 19 < fr.length) {l : List (List MRow)} (hz : l.length ≤ 100) (h : ∀ a ∈ l, pf [meanW a, pwW ns] st = .ok (.st, frW (g a)) st) :
    compL (gN 19) bYes (eCall pf (aCons (eVar 19) (aCons (eVar 16) aNil))) (l.map meanW) [] fr st = .ok (l.map fun a => frW (g a)) st := by
  have z := comp_map (q := gN 19) (el := eCall pf (aCons (eVar 19) (aCons (eVar 16) aNil))) (st := st) (fr := fr) meanW (fun a => frW (g a)) l [] (by rw [List.length_nil, sizeLine_eq]; omega) fun a ha =>
    ⟨fr.set 19 (.val (meanW a)), rfl, .st, by
      have h19 : (fr.set 19 (.val (meanW a)))[19]? = some (.val (meanW a)) := by rw [List.getElem?_set_self hl]
      have h16' : (fr.set 19 (.val (meanW a)))[16]? = some (.val (pwW ns)) := by rw [List.getElem?_set_ne (by decide)]; exact h16
      simp only [ev_call, ev_acons, ev_anil, ev_var, h19, h16', ev_bind, ev_keep_st, if_true, h a ha], rfl⟩
  rw [List.nil_append] at z
  exact z
theorem sm_over (h : Over k c a) (hk : k ≤ 3) (hc : c ≤ 40) (hl : a.length ≤ 36) (hn : ∀ r ∈ a, Le r.2 4000) : Sm 3 930100 (meanW a) := sm_mean hl fun r hr =>
  ⟨by rw [h.len r hr]; exact hk, fun x hx => (le_small (h.lo r hr x hx) (by have := h.hi r hr x hx; omega)).mono (by decide), hn r hr⟩
theorem prod_num (A : ∀ r ∈ a, Le r.2 7) (B : ∀ r ∈ b, Le r.2 7) : ∀ r ∈ prodR a b, Le r.2 14 := fun r hr => by
  obtain ⟨s, hs, h2⟩ := List.mem_flatMap.mp hr
  obtain ⟨t, ht, rfl⟩ := List.mem_map.mp h2
  exact (A s hs).mul (B t ht)
end
end Vy.K49

set_option Elab.async false
set_option linter.all false
set_option maxRecDepth 100000
set_option maxHeartbeats 4000000
/-! What the defs do. Printed by gen.py. -/
namespace Vy.K50
open PySem PySem.Spec PyProof.Rows L2
/-- is_integer: 0 value -/
noncomputable def b_is_integer : PM := (sRet (eAnd (eC1 (fIsi "int") (eVar 0)) (eB (bNot (bOf (eC1 (fIsi "bool") (eVar 0)))))))
noncomputable def p_is_integer : PFn := pBody 1 b_is_integer
/-- number_power: 0 a, 1 k, 2 found, 3 turn -/
noncomputable def b_number_power : PM := (sSeq (sSet 2 (eC (.int 1)))
    (sSeq (sFor (iRng1 (aCons (eVar 1) aNil)) (gN 3) (sSet 2 (eBin fMul (eVar 2) (eVar 0))))
    (sRet (eVar 2))))
noncomputable def p_number_power : PFn := pBody 4 b_number_power
/-- fraction_of: 0 p, 1 q, 2 by -/
noncomputable def b_fraction_of : PM := (sSeq (sSet 2 (eIf (bOf (eBin fGt (eVar 1) (eC (.int 0)))) (eCA fGcd (aCons (eVar 0) (aCons (eVar 1) aNil))) (eNeg (eCA fGcd (aCons (eVar 0) (aCons (eVar 1) aNil))))))
    (sRet (eTup (aCons (eBin fDiv (eVar 0) (eVar 2)) (aCons (eBin fDiv (eVar 1) (eVar 2)) aNil)))))
noncomputable def p_fraction_of : PFn := pBody 3 b_fraction_of
/-- is_fraction: 0 value, 1 x -/
noncomputable def b_is_fraction : PM := (sSeq (sIf (bOr (bNot (bTruth (eC1 (fIsi "tuple") (eVar 0)))) (bOr (bOf (eBin fNe (eC1 fLen (eVar 0)) (eC (.int 2)))) (bNot (bTruth (eC1 fAll (eComp (iSeqL (eVar 0)) (gN 1) bYes (eCall p_is_integer (aCons (eVar 1) aNil)) [1])))))) (sRet (eC (.bl false))) sSkip)
    (sRet (eAnd (eBin fGt (eBin fIdx (eVar 0) (eC (.int 1))) (eC (.int 0))) (eBin fEq (eCA fGcd (aCons (eBin fIdx (eVar 0) (eC (.int 0))) (aCons (eBin fIdx (eVar 0) (eC (.int 1))) aNil))) (eC (.int 1))))))
noncomputable def p_is_fraction : PFn := pBody 2 b_is_fraction
/-- are_powers: 0 kinds, 1 value, 2 p -/
noncomputable def b_are_powers : PM := (sRet (eAnd (eC1 (fIsi "tuple") (eVar 1)) (eAnd (eBin fEq (eC1 fLen (eVar 1)) (eVar 0)) (eC1 fAll (eComp (iSeqL (eVar 1)) (gN 2) bYes (eAnd (eCall p_is_integer (aCons (eVar 2) aNil)) (eBin fGe (eVar 2) (eC (.int 0)))) [2])))))
noncomputable def p_are_powers : PFn := pBody 3 b_are_powers
/-- is_member: 0 kinds, 1 value -/
noncomputable def b_is_member : PM := (sSeq (sIf (bOr (bNot (bTruth (eC1 (fIsi "tuple") (eVar 1)))) (bOr (bOf (eBin fNe (eC1 fLen (eVar 1)) (eC (.int 2)))) (bNot (bTruth (eCall p_are_powers (aCons (eVar 0) (aCons (eBin fIdx (eVar 1) (eC (.int 0))) aNil))))))) (sRet (eC (.bl false))) sSkip)
    (sRet (eAnd (eCall p_is_integer (aCons (eBin fIdx (eVar 1) (eC (.int 1))) aNil)) (eBin fNe (eBin fIdx (eVar 1) (eC (.int 1))) (eC (.int 0))))))
noncomputable def p_is_member : PFn := pBody 2 b_is_member
/-- is_mean: 0 kinds, 1 value, 2 member, 3 i -/
noncomputable def b_is_mean : PM := (sSeq (sIf (bOr (bNot (bTruth (eC1 (fIsi "tuple") (eVar 1)))) (bNot (bTruth (eC1 fAll (eComp (iSeqL (eVar 1)) (gN 2) bYes (eCall p_is_member (aCons (eVar 0) (aCons (eVar 2) aNil))) [2]))))) (sRet (eC (.bl false))) sSkip)
    (sRet (eC1 fAll (eComp (iRng1 (aCons (eBin fSub (eC1 fLen (eVar 1)) (eC (.int 1))) aNil)) (gN 3) bYes (eBin fLtT (eBin fIdx (eBin fIdx (eVar 1) (eVar 3)) (eC (.int 0))) (eBin fIdx (eBin fIdx (eVar 1) (eBin fAdd (eVar 3) (eC (.int 1)))) (eC (.int 0)))) [3]))))
noncomputable def p_is_mean : PFn := pBody 4 b_is_mean
/-- mean_of_rows: 0 rows, 1 found, 2 powers, 3 number -/
noncomputable def b_mean_of_rows : PM := (sSeq (sSet 1 eDNewT)
    (sSeq (sFor (iSeq (eVar 0)) (gTp 2 (gsCons (gN 2) (gsCons (gN 3) gsNil))) (sDPut 1 (eVar 2) (eBin fAdd (eGet2 (eVar 1) (eVar 2) (eC (.int 0))) (eVar 3))))
    (sRet (eC1 fTuple (eC1 fSorted (eCompI 1 (gTp 2 (gsCons (gN 2) (gsCons (gN 3) gsNil))) (bOf (eBin fNe (eVar 3) (eC (.int 0)))) (eTup (aCons (eVar 2) (aCons (eVar 3) aNil))) [2, 3]))))))
noncomputable def p_mean_of_rows : PFn := pBody 4 b_mean_of_rows
/-- falling: 0 kinds, 1 k, 2 many, 3 row, 4 i, 5 a, 6 b, 7 p, 8 c -/
noncomputable def b_falling : PM := (sSeq (sSet 3 (eLst (aCons (eC (.int 1)) aNil)))
    (sSeq (sFor (iRng1 (aCons (eVar 2) aNil)) (gN 4) (sSet 3 (eComp (iZip2 (aCons (eLst (aStar (eVar 3) (aCons (eC (.int 0)) aNil))) (aCons (eLst (aCons (eC (.int 0)) (aStar (eVar 3) aNil))) aNil))) (gTp 2 (gsCons (gN 5) (gsCons (gN 6) gsNil))) bYes (eBin fSub (eVar 5) (eBin fMul (eVar 4) (eVar 6))) [5, 6])))
    (sFrz [3] (sRet (eCall p_mean_of_rows (aCons (eComp (iEnum (aCons (eVar 3) aNil)) (gTp 2 (gsCons (gN 7) (gsCons (gN 8) gsNil))) bYes (eTup (aCons (eBin fAdd (eBin fAdd (eBin fMulX (eTup (aCons (eC (.int 0)) aNil)) (eVar 1)) (eTup (aCons (eVar 7) aNil))) (eBin fMulX (eTup (aCons (eC (.int 0)) aNil)) (eBin fSub (eBin fSub (eVar 0) (eVar 1)) (eC (.int 1))))) (aCons (eVar 8) aNil))) [7, 8]) aNil))))))
noncomputable def p_falling : PFn := pBody 9 b_falling
/-- greatest_powers: 0 kinds, 1 mean, 2 k, 3 powers, 4 number -/
noncomputable def b_greatest_powers : PM := (sRet (eC1 fTuple (eComp (iRng1 (aCons (eVar 0) aNil)) (gN 2) bYes (eMaxD (eComp (iSeqL (eVar 1)) (gTp 2 (gsCons (gN 3) (gsCons (gN 4) gsNil))) bYes (eBin fIdx (eVar 3) (eVar 2)) [3, 4]) (eC (.int 0))) [2])))
noncomputable def p_greatest_powers : PFn := pBody 5 b_greatest_powers
/-- size_product: 0 sizes, 1 powers, 2 found, 3 n, 4 p -/
noncomputable def b_size_product : PM := (sSeq (sSet 2 (eC (.int 1)))
    (sSeq (sFor (iZip2 (aCons (eVar 0) (aCons (eVar 1) aNil))) (gTp 2 (gsCons (gN 3) (gsCons (gN 4) gsNil))) (sSet 2 (eBin fMul (eVar 2) (eCall p_number_power (aCons (eVar 3) (aCons (eVar 4) aNil))))))
    (sRet (eVar 2))))
noncomputable def p_size_product : PFn := pBody 5 b_size_product
/-- mean_at: 0 mean, 1 sizes, 2 greatest, 3 total, 4 powers, 5 number, 6 most, 7 p -/
noncomputable def b_mean_at : PM := (sSeq (sPar [2, 3] (pCons (eCall p_greatest_powers (aCons (eC1 fLen (eVar 1)) (aCons (eVar 0) aNil))) (pCons (eC (.int 0)) pNil)))
    (sSeq (sFor (iSeq (eVar 0)) (gTp 2 (gsCons (gN 4) (gsCons (gN 5) gsNil))) (sSet 3 (eBin fAdd (eVar 3) (eBin fMul (eVar 5) (eCall p_size_product (aCons (eVar 1) (aCons (eComp (iZip2 (aCons (eVar 2) (aCons (eVar 4) aNil))) (gTp 2 (gsCons (gN 6) (gsCons (gN 7) gsNil))) bYes (eBin fSub (eVar 6) (eVar 7)) [6, 7]) aNil)))))))
    (sRet (eCall p_fraction_of (aCons (eVar 3) (aCons (eCall p_size_product (aCons (eVar 1) (aCons (eVar 2) aNil))) aNil))))))
noncomputable def p_mean_at : PFn := pBody 8 b_mean_at
/-- mean_row: 0 mean, 1 k, 2 sizes, 3 greatest, 4 others, 5 row, 6 kind, 7 n, 8 powers, 9 number, 10 left, 11 most, 12 p -/
noncomputable def b_mean_row : PM := (sSeq (sSet 3 (eCall p_greatest_powers (aCons (eC1 fLen (eVar 2)) (aCons (eVar 0) aNil))))
    (sSeq (sPar [4, 5] (pCons (eComp (iEnum (aCons (eVar 2) aNil)) (gTp 2 (gsCons (gN 6) (gsCons (gN 7) gsNil))) bYes (eIf (bOf (eBin fEq (eVar 6) (eVar 1))) (eC (.int 1)) (eVar 7)) [6, 7]) (pCons (eBin fMul (eLst (aCons (eC (.int 0)) aNil)) (eBin fAdd (eBin fIdx (eVar 3) (eVar 1)) (eC (.int 1)))) pNil)))
    (sSeq (sFor (iSeq (eVar 0)) (gTp 2 (gsCons (gN 8) (gsCons (gN 9) gsNil))) (sSeq (sSet 10 (eComp (iZip2 (aCons (eVar 3) (aCons (eVar 8) aNil))) (gTp 2 (gsCons (gN 11) (gsCons (gN 12) gsNil))) bYes (eBin fSub (eVar 11) (eVar 12)) [11, 12]))
    (sFrz [4, 10] (sLPut 5 (eBin fIdx (eVar 10) (eVar 1)) (eBin fAdd (eBin fIdx (eVar 5) (eBin fIdx (eVar 10) (eVar 1))) (eBin fMul (eVar 9) (eCall p_size_product (aCons (eVar 4) (aCons (eVar 10) aNil)))))))))
    (sFrz [4] (sRet (eTup (aCons (eC1 fTuple (eVar 5)) (aCons (eBin fIdx (eVar 3) (eVar 1)) (aCons (eCall p_size_product (aCons (eVar 4) (aCons (eVar 3) aNil))) aNil)))))))))
noncomputable def p_mean_row : PFn := pBody 13 b_mean_row
/-- law_open_cells: 0 script, 1 stirred, 2 cell, 3 cells -/
noncomputable def b_law_open_cells : PM := (sSeq (sSet 1 (eC (.int 11)))
    (sSeq (sFor (iScr (eVar 0)) (gN 2) (sSet 1 (eBin fMod (eC1 fInt (eBin fAdd (eBin fAdd (eBin fMul (eVar 1) (eC (.int 69069))) (eBin fMul (eVar 2) (eC (.int 31)))) (eC (.int 5)))) (eC (.int 2147483629)))))
    (sSeq (sSet 3 (eComp (iScr (eVar 0)) (gN 2) bYes (eC1 fAbs (eVar 2)) [2]))
    (sRet (eDispP [(.inr "cells", (eRevP (eVar 3))), (.inr "left", (eC (.int 1))), (.inr "mixed", (eVar 1)), (.inr "turn", (eC (.int 0)))])))))
noncomputable def p_law_open_cells : PFn := pBody 4 b_law_open_cells
/-- law_pick: 0 source, 1 most, 2 cells, 3 others, 4 lap, 5 stirred -/
noncomputable def b_law_pick : PM := (sSeq (sIf (bOf (eBin fLt (eVar 1) (eC (.int 2)))) (sRet (eC (.int 0))) sSkip)
    (sSeq (sSet 2 (eDGet (eVar 0) (eC (.str "cells"))))
    (sSeq (sWhile (bAnd (bOf (eBin fLt (eDGet (eVar 0) (eC (.str "left"))) (eC (.int 2)))) (bOf (eBin fGt (eC1 fLen (eVar 2)) (eC (.int 0))))) (sDPut 0 (eC (.str "left")) (ePopSh (eVar 2))))
    (sSeq (sSet 3 (eDGet (eVar 0) (eC (.str "left"))))
    (sSeq (sIf (bOf (eBin fGt (eVar 3) (eC (.int 1)))) (sSeq (sDPut 0 (eC (.str "left")) (eBin fDiv (eVar 3) (eVar 1)))
    (sRet (eBin fMod (eC1 fInt (eVar 3)) (eVar 1)))) sSkip)
    (sSeq (sDPut 0 (eC (.str "turn")) (eBin fAdd (eDGet (eVar 0) (eC (.str "turn"))) (eC (.int 1))))
    (sSeq (sSet 4 (eDGet (eVar 0) (eC (.str "turn"))))
    (sSeq (sSet 5 (eBin fMod (eC1 fInt (eBin fAdd (eDGet (eVar 0) (eC (.str "mixed"))) (eBin fMul (eVar 4) (eC (.int 104729))))) (eC (.int 998244353))))
    (sSeq (sSet 5 (eBin fMod (eC1 fInt (eBin fAdd (eBin fMul (eVar 5) (eVar 5)) (eBin fMul (eVar 4) (eC (.int 17))))) (eC (.int 2147483647))))
    (sRet (eBin fMod (eC1 fInt (eBin fDiv (eVar 5) (eC (.int 16)))) (eVar 1))))))))))))
noncomputable def p_law_pick : PFn := pBody 6 b_law_pick
/-- law_of: 0 source, 1 some -/
noncomputable def b_law_of : PM := (sRet (eBin fIdx (eVar 1) (eCall p_law_pick (aCons (eVar 0) (aCons (eC1 fLen (eVar 1)) aNil)))))
noncomputable def p_law_of : PFn := pBody 2 b_law_of
/-- law_fraction: 0 p, 1 q, 2 a, 3 b -/
noncomputable def b_law_fraction : PM := (sSeq (sPar [2, 3] (pCons (eC1 fAbs (eVar 0)) (pCons (eC1 fAbs (eVar 1)) pNil)))
    (sSeq (sWhile (bOf (eBin fGt (eVar 3) (eC (.int 0)))) (sPar [2, 3] (pCons (eVar 3) (pCons (eBin fMod (eC1 fInt (eVar 2)) (eVar 3)) pNil))))
    (sSeq (sFrz [2] (sSet 2 (eIf (bOf (eBin fGt (eVar 1) (eC (.int 0)))) (eVar 2) (eBin fSub (eC (.int 0)) (eVar 2)))))
    (sRet (eTup (aCons (eBin fDiv (eVar 0) (eVar 2)) (aCons (eBin fDiv (eVar 1) (eVar 2)) aNil)))))))
noncomputable def p_law_fraction : PFn := pBody 4 b_law_fraction
/-- law_by: 0 x, 1 y -/
noncomputable def b_law_by : PM := (sRet (eCall p_law_fraction (aCons (eBin fMul (eBin fIdx (eVar 0) (eC (.int 0))) (eBin fIdx (eVar 1) (eC (.int 0)))) (aCons (eBin fMul (eBin fIdx (eVar 0) (eC (.int 1))) (eBin fIdx (eVar 1) (eC (.int 1)))) aNil))))
noncomputable def p_law_by : PFn := pBody 2 b_law_by
/-- law_drawn_mean: 0 source, 1 kinds, 2 most, 3 many, 4 found, 5 turn, 6 powers, 7 kind -/
noncomputable def b_law_drawn_mean : PM := (sSeq (sSet 4 eDNewT)
    (sSeq (sFor (iRng1 (aCons (eCall p_law_pick (aCons (eVar 0) (aCons (eBin fAdd (eVar 3) (eC (.int 1))) aNil))) aNil)) (gN 5) (sSeq (sSet 6 (eC1 fTuple (eComp (iRng1 (aCons (eVar 1) aNil)) (gN 7) bYes (eCall p_law_pick (aCons (eVar 0) (aCons (eBin fAdd (eVar 2) (eC (.int 1))) aNil))) [7])))
    (sDPut 4 (eVar 6) (eCall p_law_of (aCons (eVar 0) (aCons (eLst (aCons (eC (.int 1)) (aCons (eNeg (eC (.int 1))) (aCons (eC (.int 2)) (aCons (eNeg (eC (.int 3))) (aCons (eC (.int 7)) (aCons (eBin fAdd (eC (.int 1)) (eCall p_law_pick (aCons (eVar 0) (aCons (eBin fPow (eC (.int 10)) (eC (.int 6))) aNil)))) aNil))))))) aNil))))))
    (sRet (eC1 fTuple (eSortI 4)))))
noncomputable def p_law_drawn_mean : PFn := pBody 8 b_law_drawn_mean
/-- law_power: 0 n, 1 p, 2 found, 3 turn -/
noncomputable def b_law_power : PM := (sSeq (sSet 2 (eC (.int 1)))
    (sSeq (sFor (iRng1 (aCons (eVar 1) aNil)) (gN 3) (sSet 2 (eBin fMul (eVar 2) (eVar 0))))
    (sRet (eVar 2))))
noncomputable def p_law_power : PFn := pBody 4 b_law_power
/-- law_mean_at: 0 mean, 1 sizes, 2 top, 3 bottom, 4 greatest, 5 kind, 6 n, 7 powers, 8 number, 9 most, 10 p -/
noncomputable def b_law_mean_at : PM := (sSeq (sPar [2, 3, 4] (pCons (eC (.int 0)) (pCons (eC (.int 1)) (pCons (eLst aNil) pNil))))
    (sSeq (sFor (iEnum (aCons (eVar 1) aNil)) (gTp 2 (gsCons (gN 5) (gsCons (gN 6) gsNil))) (sSeq (sApp 4 (eC1 fMax (eBin fAdd (eComp (iSeqL (eVar 0)) (gTp 2 (gsCons (gN 7) (gsCons (gN 8) gsNil))) bYes (eBin fIdx (eVar 7) (eVar 5)) [7, 8]) (eLst (aCons (eC (.int 0)) aNil)))))
    (sSet 3 (eBin fMul (eVar 3) (eCall p_law_power (aCons (eVar 6) (aCons (eBin fIdx (eVar 4) (eVar 5)) aNil)))))))
    (sSeq (sFor (iSeq (eVar 0)) (gTp 2 (gsCons (gN 7) (gsCons (gN 8) gsNil))) (sSeq (sFrz [4] (sFor (iZip3 (aCons (eVar 1) (aCons (eVar 4) (aCons (eVar 7) aNil)))) (gTp 3 (gsCons (gN 6) (gsCons (gN 9) (gsCons (gN 10) gsNil)))) (sSet 8 (eBin fMul (eVar 8) (eCall p_law_power (aCons (eVar 6) (aCons (eBin fSub (eVar 9) (eVar 10)) aNil)))))))
    (sSet 2 (eBin fAdd (eVar 2) (eVar 8)))))
    (sFrz [2] (sRet (eCall p_law_fraction (aCons (eVar 2) (aCons (eVar 3) aNil))))))))
noncomputable def p_law_mean_at : PFn := pBody 11 b_law_mean_at
/-- law_bent: 0 source, 1 value, 2 odd, 3 k, 4 way -/
noncomputable def b_law_bent (rec : PFn) : PM := (sSeq (sIf (bAnd (bTruth (eC1 (fIsi "int") (eVar 1))) (bAnd (bNot (bTruth (eC1 (fIsi "bool") (eVar 1)))) (bOf (eBin fGt (eCall p_law_pick (aCons (eVar 0) (aCons (eC (.int 3)) aNil))) (eC (.int 0)))))) (sRet (eBin fAdd (eVar 1) (eCall p_law_of (aCons (eVar 0) (aCons (eLst (aCons (eC (.int 1)) (aCons (eNeg (eC (.int 1))) (aCons (eC (.int 2)) aNil)))) aNil))))) sSkip)
    (sSeq (sIf (bOr (bNot (bTruth (eC1 (fIsi "tuple") (eVar 1)))) (bOr (bOf (eBin fEqZ (eVar 1) (eTup aNil))) (bOf (eBin fEq (eCall p_law_pick (aCons (eVar 0) (aCons (eC (.int 7)) aNil))) (eC (.int 0)))))) (sRet (eCall p_law_of (aCons (eVar 0) (aCons (eVar 2) aNil)))) sSkip)
    (sSeq (sPar [3, 4] (pCons (eCall p_law_pick (aCons (eVar 0) (aCons (eC1 fLen (eVar 1)) aNil))) (pCons (eCall p_law_pick (aCons (eVar 0) (aCons (eC (.int 8)) aNil))) pNil)))
    (sSeq (sIf (bOf (eBin fLt (eVar 4) (eC (.int 5)))) (sRet (eBin fAdd (eBin fAdd (eSlice (eVar 1) oNone (oSome (eVar 3))) (eTup (aCons (eCall rec (aCons (eVar 0) (aCons (eBin fIdx (eVar 1) (eVar 3)) (aCons (eVar 2) aNil)))) aNil))) (eSlice (eVar 1) (oSome (eBin fAdd (eVar 3) (eC (.int 1)))) oNone))) sSkip)
    (sRet (eBin fIdx (eLst (aCons (eBin fAdd (eSlice (eVar 1) oNone (oSome (eVar 3))) (eSlice (eVar 1) (oSome (eBin fAdd (eVar 3) (eC (.int 1)))) oNone)) (aCons (eBin fAdd (eSlice (eVar 1) oNone (oSome (eBin fAdd (eVar 3) (eC (.int 1))))) (eSlice (eVar 1) (oSome (eVar 3)) oNone)) (aCons (eC1 fList (eVar 1)) aNil)))) (eBin fSub (eVar 4) (eC (.int 5)))))))))
noncomputable def p_law_bent : Nat → PFn
  | 0 => pNo
  | n + 1 => pBody 5 (b_law_bent (p_law_bent n))
/-- law_is_int: 0 value -/
noncomputable def b_law_is_int : PM := (sRet (eAnd (eC1 (fIsi "int") (eVar 0)) (eB (bNot (bOf (eC1 (fIsi "bool") (eVar 0)))))))
noncomputable def p_law_is_int : PFn := pBody 1 b_law_is_int
/-- law_is_mean: 0 kinds, 1 value, 2 member, 3 p, 4 i -/
noncomputable def b_law_is_mean : PM := (sSeq (sIf (bNot (bTruth (eC1 (fIsi "tuple") (eVar 1)))) (sRet (eC (.bl false))) sSkip)
    (sSeq (sFor (iSeq (eVar 1)) (gN 2) (sSeq (sIf (bOr (bNot (bTruth (eC1 (fIsi "tuple") (eVar 2)))) (bOr (bOf (eBin fNe (eC1 fLen (eVar 2)) (eC (.int 2)))) (bNot (bTruth (eC1 (fIsi "tuple") (eBin fIdx (eVar 2) (eC (.int 0)))))))) (sRet (eC (.bl false))) sSkip)
    (sSeq (sIf (bOr (bOf (eBin fNe (eC1 fLen (eBin fIdx (eVar 2) (eC (.int 0)))) (eVar 0))) (bOf (eBin fNeE (eComp (iSeqL (eBin fIdx (eVar 2) (eC (.int 0)))) (gN 3) (bOr (bNot (bTruth (eCall p_law_is_int (aCons (eVar 3) aNil)))) (bOf (eBin fLt (eVar 3) (eC (.int 0))))) (eVar 3) [3]) (eLst aNil)))) (sRet (eC (.bl false))) sSkip)
    (sIf (bOr (bNot (bTruth (eCall p_law_is_int (aCons (eBin fIdx (eVar 2) (eC (.int 1))) aNil)))) (bOf (eBin fEq (eBin fIdx (eVar 2) (eC (.int 1))) (eC (.int 0))))) (sRet (eC (.bl false))) sSkip))))
    (sRet (eBin fEqE (eComp (iRng2 (aCons (eC (.int 1)) (aCons (eC1 fLen (eVar 1)) aNil))) (gN 4) (bNot (bOf (eBin fLtT (eBin fIdx (eBin fIdx (eVar 1) (eBin fSub (eVar 4) (eC (.int 1)))) (eC (.int 0))) (eBin fIdx (eBin fIdx (eVar 1) (eVar 4)) (eC (.int 0)))))) (eVar 4) [4]) (eLst aNil)))))
noncomputable def p_law_is_mean : PFn := pBody 5 b_law_is_mean
/-- law_is_fraction: 0 value, 1 x -/
noncomputable def b_law_is_fraction : PM := (sSeq (sIf (bOr (bNot (bTruth (eC1 (fIsi "tuple") (eVar 0)))) (bOr (bOf (eBin fNe (eC1 fLen (eVar 0)) (eC (.int 2)))) (bOf (eBin fNeE (eComp (iSeqL (eVar 0)) (gN 1) (bNot (bTruth (eCall p_law_is_int (aCons (eVar 1) aNil)))) (eVar 1) [1]) (eLst aNil))))) (sRet (eC (.bl false))) sSkip)
    (sRet (eAnd (eBin fGt (eBin fIdx (eVar 0) (eC (.int 1))) (eC (.int 0))) (eBin fEq (eCall p_law_fraction (aCons (eBin fIdx (eVar 0) (eC (.int 0))) (aCons (eBin fIdx (eVar 0) (eC (.int 1))) aNil))) (eVar 0)))))
noncomputable def p_law_is_fraction : PFn := pBody 2 b_law_is_fraction
/-- law_each_behind: 0 rows, 1 some, 2 found, 3 row, 4 late -/
noncomputable def b_law_each_behind : PM := (sSeq (sSet 2 (eLst aNil))
    (sSeq (sFor (iSeq (eVar 0)) (gN 3) (sExt 2 (eComp (iSeqL (eVar 1)) (gN 4) bYes (eBin fAdd (eVar 3) (eTup (aCons (eVar 4) aNil))) [4])))
    (sRetV 2)))
noncomputable def p_law_each_behind : PFn := pBody 5 b_law_each_behind
/-- law_rows_unlike: 0 n, 1 many, 2 rows, 3 turn, 4 row, 5 thing -/
noncomputable def b_law_rows_unlike : PM := (sSeq (sSet 2 (eLst (aCons (eTup aNil) aNil)))
    (sSeq (sFor (iRng1 (aCons (eVar 1) aNil)) (gN 3) (sFrz [2] (sSet 2 (eCall p_law_each_behind (aCons (eVar 2) (aCons (eLRng1 (eVar 0)) aNil))))))
    (sRet (eTup (aCons (eC1 fLen (eComp (iSeqL (eVar 2)) (gN 4) (bOf (eBin fEq (eC1 fLen (eC1 fDictP (eComp (iSeqL (eVar 4)) (gN 5) bYes (eTup (aCons (eVar 5) (aCons (eC (.int 0)) aNil))) [5]))) (eVar 1))) (eVar 4) [4])) (aCons (eC1 fLen (eVar 2)) aNil))))))
noncomputable def p_law_rows_unlike : PFn := pBody 6 b_law_rows_unlike
/-- law_falling_right: 0 source, 1 kinds, 2 k, 3 many, 4 told, 5 others, 6 p, 7 c, 8 i, 9 x, 10 n, 11 due, 12 sizes, 13 kind, 14 unlike, 15 every -/
noncomputable def b_law_falling_right : PM := (sSeq (sSet 1 (eBin fAdd (eC (.int 1)) (eCall p_law_pick (aCons (eVar 0) (aCons (eC (.int 3)) aNil)))))
    (sSeq (sAsg (eTup (aCons (eCall p_law_pick (aCons (eVar 0) (aCons (eVar 1) aNil))) (aCons (eCall p_law_pick (aCons (eVar 0) (aCons (eIf (bOf (eBin fEq (eCall p_law_pick (aCons (eVar 0) (aCons (eC (.int 3)) aNil))) (eC (.int 0)))) (eC (.int 13)) (eC (.int 6))) aNil))) aNil))) (gTp 2 (gsCons (gN 2) (gsCons (gN 3) gsNil))))
    (sSeq (sSet 4 (eCall p_falling (aCons (eVar 1) (aCons (eVar 2) (aCons (eVar 3) aNil)))))
    (sSeq (sSet 5 (eComp (iSeqL (eVar 4)) (gTp 2 (gsCons (gN 6) (gsCons (gN 7) gsNil))) (bOf (eBin fNeE (eComp (iEnum (aCons (eVar 6) aNil)) (gTp 2 (gsCons (gN 8) (gsCons (gN 9) gsNil))) (bAnd (bOf (eBin fGt (eVar 9) (eC (.int 0)))) (bOf (eBin fNe (eVar 8) (eVar 2)))) (eVar 9) [8, 9]) (eLst aNil))) (eVar 6) [6, 7]))
    (sSeq (sIf (bOr (bNot (bTruth (eCall p_law_is_mean (aCons (eVar 1) (aCons (eVar 4) aNil))))) (bOf (eBin fNeE (eVar 5) (eLst aNil)))) (sRet (eC (.bl false))) sSkip)
    (sSeq (sFor (iSeq (eBin fAdd (eLRng2 (eC (.int 1)) (eBin fAdd (eVar 3) (eC (.int 2)))) (eLst (aCons (eBin fAdd (eC (.int 1)) (eCall p_law_pick (aCons (eVar 0) (aCons (eBin fPow (eC (.int 10)) (eC (.int 30))) aNil)))) aNil)))) (gN 10) (sSeq (sSet 11 (eTup (aCons (eC (.int 1)) (aCons (eC (.int 1)) aNil))))
    (sSeq (sFor (iRng1 (aCons (eVar 3) aNil)) (gN 8) (sSet 11 (eCall p_law_by (aCons (eVar 11) (aCons (eCall p_law_fraction (aCons (eBin fSub (eVar 10) (eVar 8)) (aCons (eVar 10) aNil))) aNil)))))
    (sSeq (sSet 12 (eC1 fTuple (eComp (iRng1 (aCons (eVar 1) aNil)) (gN 13) bYes (eIf (bOf (eBin fEq (eVar 13) (eVar 2))) (eVar 10) (eBin fAdd (eC (.int 1)) (eCall p_law_pick (aCons (eVar 0) (aCons (eC (.int 7)) aNil))))) [13])))
    (sSeq (sIf (bOr (bOf (eBin fNe (eC1 fReprX (eCall p_mean_at (aCons (eVar 4) (aCons (eVar 12) aNil)))) (eC1 fReprX (eVar 11)))) (bOf (eBin fNe (eC1 fReprX (eCall p_law_mean_at (aCons (eVar 4) (aCons (eVar 12) aNil)))) (eC1 fReprX (eVar 11))))) (sRet (eC (.bl false))) sSkip)
    (sSeq (sAsg (eIf (bAnd (bOf (eBin fLt (eVar 10) (eC (.int 4)))) (bOf (eBin fLt (eVar 3) (eC (.int 5))))) (eCall p_law_rows_unlike (aCons (eVar 10) (aCons (eVar 3) aNil))) (eVar 11)) (gTp 2 (gsCons (gN 14) (gsCons (gN 15) gsNil))))
    (sFrz [14, 15] (sIf (bOf (eBin fNe (eCall p_law_fraction (aCons (eVar 14) (aCons (eVar 15) aNil))) (eVar 11))) (sRet (eC (.bl false))) sSkip))))))))
    (sRet (eBin fEq (eC1 fLen (eVar 4)) (eIf (bOf (eBin fEq (eVar 3) (eC (.int 0)))) (eC (.int 1)) (eVar 3))))))))))
noncomputable def p_law_falling_right : PFn := pBody 16 b_law_falling_right
/-- law_row_right: 0 source, 1 kinds, 2 mean, 3 k, 4 greatest, 5 kind, 6 powers, 7 number, 8 sizes, 9 bottom, 10 row, 11 told, 12 n, 13 total, 14 i, 15 c, 16 late -/
noncomputable def b_law_row_right : PM := (sSeq (sSet 1 (eBin fAdd (eC (.int 1)) (eCall p_law_pick (aCons (eVar 0) (aCons (eC (.int 3)) aNil)))))
    (sSeq (sAsg (eTup (aCons (eCall p_law_drawn_mean (aCons (eVar 0) (aCons (eVar 1) (aCons (eCall p_law_of (aCons (eVar 0) (aCons (eLst (aCons (eC (.int 2)) (aCons (eC (.int 4)) (aCons (eC (.int 12)) aNil)))) aNil))) (aCons (eC (.int 6)) aNil))))) (aCons (eCall p_law_pick (aCons (eVar 0) (aCons (eVar 1) aNil))) aNil))) (gTp 2 (gsCons (gN 2) (gsCons (gN 3) gsNil))))
    (sSeq (sSet 4 (eComp (iRng1 (aCons (eVar 1) aNil)) (gN 5) bYes (eC1 fMax (eBin fAdd (eComp (iSeqL (eVar 2)) (gTp 2 (gsCons (gN 6) (gsCons (gN 7) gsNil))) bYes (eBin fIdx (eVar 6) (eVar 5)) [6, 7]) (eLst (aCons (eC (.int 0)) aNil)))) [5]))
    (sSeq (sSet 8 (eC1 fTuple (eComp (iRng1 (aCons (eVar 1) aNil)) (gN 5) bYes (eBin fAdd (eC (.int 1)) (eCall p_law_pick (aCons (eVar 0) (aCons (eCall p_law_of (aCons (eVar 0) (aCons (eLst (aCons (eC (.int 3)) (aCons (eC (.int 50)) (aCons (eBin fPow (eC (.int 10)) (eC (.int 30))) aNil)))) aNil))) aNil)))) [5])))
    (sSeq (sPar [9, 10] (pCons (eC (.int 1)) (pCons (eBin fMul (eLst (aCons (eC (.int 0)) aNil)) (eBin fAdd (eBin fIdx (eVar 4) (eVar 3)) (eC (.int 1)))) pNil)))
    (sSeq (sFor (iRng1 (aCons (eVar 1) aNil)) (gN 5) (sSet 9 (eBin fMul (eVar 9) (eIf (bOf (eBin fNe (eVar 5) (eVar 3))) (eCall p_law_power (aCons (eBin fIdx (eVar 8) (eVar 5)) (aCons (eBin fIdx (eVar 4) (eVar 5)) aNil))) (eC (.int 1))))))
    (sSeq (sFor (iSeq (eVar 2)) (gTp 2 (gsCons (gN 6) (gsCons (gN 7) gsNil))) (sSeq (sFor (iRng1 (aCons (eVar 1) aNil)) (gN 5) (sSet 7 (eBin fMul (eVar 7) (eIf (bOf (eBin fNe (eVar 5) (eVar 3))) (eCall p_law_power (aCons (eBin fIdx (eVar 8) (eVar 5)) (aCons (eBin fSub (eBin fIdx (eVar 4) (eVar 5)) (eBin fIdx (eVar 6) (eVar 5))) aNil))) (eC (.int 1))))))
    (sLPut 10 (eBin fSub (eBin fIdx (eVar 4) (eVar 3)) (eBin fIdx (eVar 6) (eVar 3))) (eBin fAdd (eBin fIdx (eVar 10) (eBin fSub (eBin fIdx (eVar 4) (eVar 3)) (eBin fIdx (eVar 6) (eVar 3)))) (eVar 7)))))
    (sSeq (sSet 11 (eCall p_mean_row (aCons (eVar 2) (aCons (eVar 3) (aCons (eVar 8) aNil)))))
    (sSeq (sIf (bOf (eBin fNe (eC1 fReprX (eLst (aCons (eVar 11) (aCons (eCall p_greatest_powers (aCons (eVar 1) (aCons (eVar 2) aNil))) aNil)))) (eC1 fReprX (eLst (aCons (eTup (aCons (eC1 fTuple (eVar 10)) (aCons (eBin fIdx (eVar 4) (eVar 3)) (aCons (eVar 9) aNil)))) (aCons (eC1 fTuple (eVar 4)) aNil)))))) (sRet (eC (.bl false))) sSkip)
    (sSeq (sAsg (eTup (aCons (eBin fAdd (eC (.int 1)) (eCall p_law_pick (aCons (eVar 0) (aCons (eBin fPow (eC (.int 10)) (eC (.int 30))) aNil)))) (aCons (eC (.int 0)) aNil))) (gTp 2 (gsCons (gN 12) (gsCons (gN 13) gsNil))))
    (sSeq (sFor (iEnum (aCons (eBin fIdx (eVar 11) (eC (.int 0))) aNil)) (gTp 2 (gsCons (gN 14) (gsCons (gN 15) gsNil))) (sSet 13 (eBin fAdd (eVar 13) (eBin fMul (eVar 15) (eCall p_law_power (aCons (eVar 12) (aCons (eVar 14) aNil)))))))
    (sSeq (sSet 16 (eC1 fTuple (eComp (iRng1 (aCons (eVar 1) aNil)) (gN 5) bYes (eIf (bOf (eBin fEq (eVar 5) (eVar 3))) (eVar 12) (eBin fIdx (eVar 8) (eVar 5))) [5])))
    (sRet (eBin fEq (eCall p_law_fraction (aCons (eVar 13) (aCons (eBin fMul (eBin fIdx (eVar 11) (eC (.int 2))) (eCall p_law_power (aCons (eVar 12) (aCons (eBin fIdx (eVar 11) (eC (.int 1))) aNil)))) aNil))) (eCall p_law_mean_at (aCons (eVar 2) (aCons (eVar 16) aNil)))))))))))))))))
noncomputable def p_law_row_right : PFn := pBody 17 b_law_row_right
/-- law_kinds_right: 0 source, 1 odd, 2 kinds, 3 mean, 4 fraction, 5 values, 6 look, 7 deep, 8 turn, 9 value, 10 held, 11 due -/
noncomputable def b_law_kinds_right : PM := (sSeq (sSet 2 (eBin fAdd (eC (.int 1)) (eCall p_law_pick (aCons (eVar 0) (aCons (eC (.int 3)) aNil)))))
    (sSeq (sSet 3 (eCall p_law_drawn_mean (aCons (eVar 0) (aCons (eVar 2) (aCons (eC (.int 4)) (aCons (eC (.int 4)) aNil))))))
    (sSeq (sSet 4 (eCall p_law_fraction (aCons (eBin fSub (eCall p_law_pick (aCons (eVar 0) (aCons (eC (.int 41)) aNil))) (eC (.int 20))) (aCons (eBin fAdd (eC (.int 1)) (eCall p_law_pick (aCons (eVar 0) (aCons (eC (.int 20)) aNil)))) aNil))))
    (sSeq (sSet 5 (eLst (aCons (eVar 3) (aCons (eC1 fList (eVar 3)) (aCons (eRevT (eVar 3)) (aCons (eBin fAdd (eVar 3) (eSlice (eVar 3) (oSome (eNeg (eC (.int 1)))) oNone)) (aCons (eVar 4) (aCons (eTup (aCons (eBin fMul (eBin fIdx (eVar 4) (eC (.int 0))) (eC (.int 2))) (aCons (eBin fMul (eBin fIdx (eVar 4) (eC (.int 1))) (eC (.int 2))) aNil))) aNil))))))))
    (sSeq (sSet 5 (eBin fAdd (eBin fAdd (eVar 5) (eVar 1)) (eComp (iRng1 (aCons (eC (.int 10)) aNil)) (gN 6) bYes (eCall (p_law_bent 12) (aCons (eVar 0) (aCons (eVar 3) (aCons (eVar 1) aNil)))) [6])))
    (sSeq (sSet 7 (eCall p_law_of (aCons (eVar 0) (aCons (eVar 1) aNil))))
    (sSeq (sFor (iRng1 (aCons (eC (.int 36)) aNil)) (gN 8) (sFrz [7] (sSet 7 (eIf (bOf (eBin fEq (eCall p_law_pick (aCons (eVar 0) (aCons (eC (.int 5)) aNil))) (eC (.int 0)))) (eLst (aCons (eVar 7) aNil)) (eTup (aCons (eVar 7) aNil))))))
    (sSeq (sFrz [7] (sFor (iSeq (eBin fAdd (eBin fAdd (eVar 5) (eLst (aCons (eVar 7) (aCons (eTup (aCons (eVar 7) aNil)) aNil)))) (eComp (iRng1 (aCons (eC (.int 6)) aNil)) (gN 6) bYes (eCall (p_law_bent 12) (aCons (eVar 0) (aCons (eVar 4) (aCons (eVar 1) aNil)))) [6]))) (gN 9) (sSeq (sPar [10, 11] (pCons (eC1 fReprX (eVar 9)) (pCons (eLst (aCons (eCall p_law_is_mean (aCons (eVar 2) (aCons (eVar 9) aNil))) (aCons (eCall p_law_is_fraction (aCons (eVar 9) aNil)) (aCons (eCall p_law_is_int (aCons (eVar 9) aNil)) aNil)))) pNil)))
    (sIf (bOr (bOf (eBin fNe (eC1 fReprX (eLst (aCons (eCall p_is_mean (aCons (eVar 2) (aCons (eVar 9) aNil))) (aCons (eCall p_is_fraction (aCons (eVar 9) aNil)) (aCons (eCall p_is_integer (aCons (eVar 9) aNil)) aNil))))) (eC1 fReprX (eVar 11)))) (bOf (eBin fNe (eC1 fReprX (eVar 9)) (eVar 10)))) (sRet (eC (.bl false))) sSkip))))
    (sRet (eC (.bl true)))))))))))
noncomputable def p_law_kinds_right : PFn := pBody 12 b_law_kinds_right
/-- law: 0 script, 1 source, 2 odd, 3 lap -/
noncomputable def b_law : PM := (sSeq (sSet 1 (eCall p_law_open_cells (aCons (eVar 0) aNil)))
    (sSeq (sSet 2 (eLst (aCons (eC .non) (aCons (eC (.bl true)) (aCons (eC (.bl false)) (aCons (eC (.int 0)) (aCons (eC (.int 1)) (aCons (eNeg (eC (.int 1))) (aCons (eC (.int 3)) (aCons (eC (.str "")) (aCons (eTup aNil) (aCons (eTup (aCons (eC (.int 0)) aNil)) (aCons (eTup (aCons (eC (.int 0)) (aCons (eC (.int 1)) aNil))) (aCons (eTup (aCons (eC (.int 1)) (aCons (eC (.int 0)) aNil))) (aCons (eTup (aCons (eC (.int 0)) (aCons (eNeg (eC (.int 1))) aNil))) (aCons (eTup (aCons (eC (.int 2)) (aCons (eC (.int 4)) aNil))) (aCons (eLst aNil) (aCons eDNewK (aCons (eLst (aCons (eC (.int 1)) aNil)) (aCons (eTup (aCons (eTup (aCons (eC (.int 0)) aNil)) (aCons (eC (.int 1)) aNil))) aNil))))))))))))))))))))
    (sSeq (sSet 2 (eBin fAdd (eVar 2) (eLst (aCons (eTup (aCons (eTup (aCons (eTup (aCons (eC (.int 0)) aNil)) (aCons (eC (.int 1)) aNil))) aNil)) (aCons (eTup (aCons (eTup (aCons (eTup (aCons (eC (.int 1)) aNil)) (aCons (eC (.int 0)) aNil))) aNil)) (aCons (eTup (aCons (eTup (aCons (eTup (aCons (eC (.bl true)) aNil)) (aCons (eC (.int 1)) aNil))) aNil)) (aCons (eTup (aCons (eTup (aCons (eTup (aCons (eC (.int 0)) (aCons (eC (.int 0)) aNil))) (aCons (eC (.int 1)) aNil))) aNil)) (aCons (eTup (aCons (eTup (aCons (eTup (aCons (eNeg (eC (.int 1))) aNil)) (aCons (eC (.int 2)) aNil))) aNil)) (aCons (eBin fPow (eC (.int 10)) (eC (.int 40))) (aCons (eTup (aCons (eBin fPow (eC (.int 10)) (eC (.int 40))) (aCons (eC (.int 7)) aNil))) aNil))))))))))
    (sSeq (sFor (iRng1 (aCons (eC (.int 2)) aNil)) (gN 3) (sFrz [1, 2] (sIf (bOr (bNot (bTruth (eCall p_law_falling_right (aCons (eVar 1) aNil)))) (bOr (bNot (bTruth (eCall p_law_row_right (aCons (eVar 1) aNil)))) (bNot (bTruth (eCall p_law_kinds_right (aCons (eVar 1) (aCons (eVar 2) aNil))))))) (sRet (eC (.bl false))) sSkip)))
    (sRet (eC (.bl true)))))))
noncomputable def p_law : PFn := pBody 4 b_law
end Vy.K50

set_option Elab.async false
set_option linter.all false
set_option maxRecDepth 100000
set_option maxHeartbeats 1000000
/-! k50: the defs that k49 has too; the new words' equations. -/
namespace Vy.K50
open PySem PySem.Spec PyProof.Rows L2 Vy.Mean Vy.K49
theorem q_law_pick : p_law_pick = K49.p_law_pick := rfl
theorem q_law_of : p_law_of = K49.p_law_of := rfl
theorem q_number_power : p_number_power = K49.p_number_power := rfl
theorem q_fraction_of : p_fraction_of = K49.p_fraction_of := rfl
theorem q_mean_of_rows : p_mean_of_rows = K49.p_mean_of_rows := rfl
theorem q_greatest_powers : p_greatest_powers = K49.p_greatest_powers := rfl
theorem q_size_product : p_size_product = K49.p_size_product := rfl
theorem q_mean_at : p_mean_at = K49.p_mean_at := rfl
theorem q_law_open_cells : p_law_open_cells = K49.p_law_open_cells := rfl
theorem q_law_fraction : p_law_fraction = K49.p_law_fraction := rfl
theorem q_law_by : p_law_by = K49.p_law_by := rfl
theorem q_law_drawn_mean : p_law_drawn_mean = K49.p_law_drawn_mean := rfl
theorem q_law_power : p_law_power = K49.p_law_power := rfl
theorem q_law_mean_at : p_law_mean_at = K49.p_law_mean_at := rfl
section
variable {st : Store} {i j : Int} {ws us : List W} {a b w : W} {p q : PX} {fr : Frame}
/-! ### isinstance -/
/-- a value's type is known -/
def Typed : W → Prop
  | .non | .bl _ | .int _ | .str _ | .tup _ | .lst _ | .dct (.k _) _ => True
  | _ => False
theorem kit_some (T : String) (hT : T = "int" ∨ T = "bool" ∨ T = "tuple") (t : String) (ht : t = "NoneType" ∨ t = "bool" ∨ t = "int" ∨ t = "str" ∨ t = "tuple" ∨ t = "list" ∨ t = "dict") : kitB t T = some (decide (t = T ∨ (t = "bool" ∧ T = "int"))) := by
  rcases hT with h | h | h <;> subst h <;> rcases ht with h | h | h | h | h | h | h <;> subst h <;> decide +kernel
/-- what isinstance says -/
def isW (T : String) (w : W) : Bool := match tyW w with
  | some t => decide (t = T ∨ (t = "bool" ∧ T = "int"))
  | none => false
theorem isi_ok {T : String} (hT : T = "int" ∨ T = "bool" ∨ T = "tuple") (hw : Typed w) : fIsi T w st = .ok (.st, .bl (isW T w)) st := by
  have key : ∀ t, tyW w = some t → (t = "NoneType" ∨ t = "bool" ∨ t = "int" ∨ t = "str" ∨ t = "tuple" ∨ t = "list" ∨ t = "dict") → fIsi T w st = .ok (.st, .bl (isW T w)) st := fun t e ht => by
    unfold fIsi isW
    rw [e]
    show (match kitB t T with | some b => okS (.bl b) st | none => .bad) = _
    rw [kit_some T hT t ht]
  cases w with
  | non => exact key _ rfl (by simp)
  | bl b => exact key _ rfl (by simp)
  | int b => exact key _ rfl (by simp)
  | str b => exact key _ rfl (by simp)
  | tup b => exact key _ rfl (by simp)
  | lst b => exact key _ rfl (by simp)
  | dct ks b => cases ks with
    | k l => exact key _ rfl (by simp)
    | t l => exact hw.elim
  | ref n => exact hw.elim
  | scr n => exact hw.elim
/-- an int, no bool -/
def isInt : W → Bool
  | .int _ => true
  | _ => false
def isTup : W → Bool
  | .tup _ => true
  | _ => false
theorem isW_tup (hw : Typed w) : isW "tuple" w = isTup w := by
  cases w with
  | dct ks b => cases ks with
    | k l => simp [isW, tyW, isTup, isInt]
    | t l => exact hw.elim
  | ref n => exact hw.elim
  | scr n => exact hw.elim
  | _ => simp [isW, tyW, isTup, isInt]
theorem isW_int (hw : Typed w) : (if isW "int" w = true then !(isW "bool" w) else false) = isInt w := by
  cases w with
  | dct ks b => cases ks with
    | k l => simp [isW, tyW, isTup, isInt]
    | t l => exact hw.elim
  | ref n => exact hw.elim
  | scr n => exact hw.elim
  | _ => simp [isW, tyW, isTup, isInt]
@[simp] theorem ev_eand : eAnd p q fr st = (p fr st).bind fun x s1 => match x.2 with | .bl b => (if b = true then q fr s1 else .ok (.st, .bl false) s1) | _ => .bad := by
  unfold eAnd
  rw [ev_bof]
  cases p fr st with
  | ok x s1 =>
    obtain ⟨k, w⟩ := x
    cases w <;> rfl
  | exn => rfl
  | bad => rfl
theorem isi_tup (hw : Typed w) : fIsi "tuple" w st = .ok (.st, .bl (isTup w)) st := by rw [isi_ok (by simp) hw, isW_tup hw]
theorem is_integer_ok (hw : Typed w) : p_is_integer [w] st = .ok (.st, .bl (isInt w)) st := by
  have h1 := fun st => isi_ok (st := st) (T := "int") (by simp) hw
  have h2 := fun st => isi_ok (st := st) (T := "bool") (by simp) hw
  have h3 := isW_int hw
  unfold p_is_integer b_is_integer
  cases h : isW "int" w with
  | true =>
    rw [h] at h3
    simp [h1, h2, h] at h3 ⊢
    exact h3
  | false =>
    rw [h] at h3
    simp [h1, h2, h] at h3 ⊢
    exact h3
theorem law_is_int_ok (hw : Typed w) : p_law_is_int [w] st = .ok (.st, .bl (isInt w)) st := is_integer_ok hw
end
end Vy.K50

set_option Elab.async false
set_option linter.all false
set_option maxRecDepth 100000
set_option maxHeartbeats 1000000
/-! k50: plain values, what repr tells of them. -/
namespace Vy.K50
open PySem PySem.Spec PyProof.Rows L2 Vy.Mean Vy.K49
structure SmX (d n : Nat) (w : W) : Prop where
  isX : isX w = true
  shw : ShwX w.toD
  dep : w.toD.depth ≤ d
  len : w.toD.shown.length ≤ n
theorem SmX.mono {d n d' n' : Nat} {w : W} (h : SmX d n w) (hd : d ≤ d') (hn : n ≤ n') : SmX d' n' w := ⟨h.isX, h.shw, Nat.le_trans h.dep hd, Nat.le_trans h.len hn⟩
theorem SmX.int {i : Int} (h : i.natAbs < 10 ^ 4300) : SmX 0 4301 (.int i) := by
  have z := Sm.int h
  exact ⟨rfl, by show ShwX (.int i); unfold ShwX; exact h, z.dep, z.len⟩
theorem SmX.bl {b : Bool} : SmX 0 10 (.bl b) := by
  refine ⟨rfl, ?_, Nat.le_refl _, ?_⟩
  · show ShwX (.bool b)
    unfold ShwX; trivial
  · cases b <;> decide
theorem SmX.non : SmX 0 10 .non := ⟨rfl, by show ShwX .none; unfold ShwX; trivial, Nat.le_refl _, by decide⟩
theorem SmX.nil : SmX 1 10 (.str "") := ⟨rfl, by show ShwX (.str ""); unfold ShwX; trivial, Nat.zero_le _, by decide⟩
theorem SmX.dct : SmX 1 10 (.dct (.k []) []) := ⟨rfl, by show ShwX (.dict []); unfold ShwX; rfl, by decide, by decide⟩
theorem shwXA_of {ws : List W} (h : ∀ w ∈ ws, ShwX w.toD) : ShwXA (toDs ws) := by
  induction ws with
  | nil => show ShwXA []; unfold ShwXA; trivial
  | cons w ws ih =>
    show ShwXA (w.toD :: toDs ws)
    unfold ShwXA
    exact ⟨h w (List.mem_cons_self ..), ih fun u hu => h u (List.mem_cons_of_mem _ hu)⟩
theorem isXs_of : ∀ {ws : List W}, (∀ w ∈ ws, Vy.isX w = true) → isXs ws = true
  | [], _ => rfl
  | w :: ws, h => by rw [isXs, h w (List.mem_cons_self ..), isXs_of fun u hu => h u (List.mem_cons_of_mem _ hu)]; rfl
theorem isXs_mem : ∀ {ws : List W}, isXs ws = true → ∀ w ∈ ws, Vy.isX w = true
  | [], _, _, h => nomatch h
  | w :: ws, h, u, hu => by
    rw [isXs, Bool.and_eq_true] at h
    rcases List.mem_cons.mp hu with e | e
    · rw [e]; exact h.1
    · exact isXs_mem h.2 u e
theorem shwXA_mem : ∀ {ws : List W}, ShwXA (toDs ws) → ∀ w ∈ ws, ShwX w.toD
  | [], _, _, h => nomatch h
  | w :: ws, h, u, hu => by
    have h : ShwXA (w.toD :: toDs ws) := h
    unfold ShwXA at h
    rcases List.mem_cons.mp hu with e | e
    · rw [e]; exact h.1
    · exact shwXA_mem h.2 u e
theorem depths_mem : ∀ {ws : List W}, ∀ w ∈ ws, w.toD.depth ≤ PyData.depthAll (toDs ws)
  | w :: ws, u, hu => by
    show u.toD.depth ≤ PyData.depthAll (w.toD :: toDs ws)
    simp only [PyData.depthAll]
    rcases List.mem_cons.mp hu with e | e
    · rw [e]; exact Nat.le_max_left _ _
    · exact Nat.le_trans (depths_mem u e) (Nat.le_max_right _ _)
theorem shown_mem : ∀ {ws : List W}, ∀ w ∈ ws, w.toD.shown ∈ PyData.shownAll (toDs ws)
  | w :: ws, u, hu => by
    show u.toD.shown ∈ w.toD.shown :: PyData.shownAll (toDs ws)
    rcases List.mem_cons.mp hu with e | e
    · rw [e]; exact List.mem_cons_self ..
    · exact List.mem_cons_of_mem _ (shown_mem u e)
theorem SmX.tup {d n : Nat} {ws : List W} (h : ∀ w ∈ ws, SmX d n w) : SmX (d + 1) (ws.length * (n + 2) + 4) (.tup ws) := by
  refine ⟨isXs_of fun w hw => (h w hw).isX, ?_, ?_, ?_⟩
  · show ShwX (.tuple (toDs ws))
    unfold ShwX; exact shwXA_of fun w hw => (h w hw).shw
  · show (PyData.tuple (toDs ws)).depth ≤ d + 1
    have := depths_of fun w hw => (h w hw).dep
    simp only [PyData.depth]; omega
  · show (PyData.tuple (toDs ws)).shown.length ≤ _
    simp only [PyData.shown]
    exact Nat.le_trans (tuple_len _) (Nat.add_le_add_right (piled_of fun w hw => (h w hw).len) 4)
theorem SmX.lst {d n : Nat} {ws : List W} (h : ∀ w ∈ ws, SmX d n w) : SmX (d + 1) (ws.length * (n + 2) + 4) (.lst ws) := by
  refine ⟨isXs_of fun w hw => (h w hw).isX, ?_, ?_, ?_⟩
  · show ShwX (.list (toDs ws))
    unfold ShwX; exact shwXA_of fun w hw => (h w hw).shw
  · show (PyData.list (toDs ws)).depth ≤ d + 1
    have := depths_of fun w hw => (h w hw).dep
    simp only [PyData.depth]; omega
  · show (PyData.list (toDs ws)).shown.length ≤ _
    simp only [PyData.shown]
    exact Nat.le_trans (list_len _) (Nat.add_le_add_right (piled_of fun w hw => (h w hw).len) 4)
theorem repr_x {d n : Nat} {w : W} (h : SmX d n w) (hd : d ≤ 50) (hn : n ≤ sizeLine) (st : Store) : fReprX w st = .ok (.st, .str w.toD.shown) st :=
  if_pos ⟨h.isX, h.shw, Nat.le_trans h.dep hd, Nat.le_trans h.len hn⟩
theorem Typed_of {w : W} (h : isX w = true) : Typed w := by
  cases w with
  | dct ks ws => cases ks with
    | k l => trivial
    | t l => simp [isX] at h
  | ref n => simp [isX] at h
  | scr n => simp [isX] at h
  | _ => trivial
theorem SmX.typed {d n : Nat} {w : W} (h : SmX d n w) : Typed w := Typed_of h.isX
theorem SmX.mem {d n : Nat} {ws : List W} (h : SmX d n (.tup ws)) : ∀ u ∈ ws, SmX d n u := fun u hu => by
  have hz : (tupleText (PyData.shownAll (toDs ws))).length ≤ n := by
    have z : (PyData.tuple (toDs ws)).shown.length ≤ n := h.len
    simp only [PyData.shown] at z; exact z
  have hd : PyData.depthAll (toDs ws) + 1 ≤ d := by
    have z : (PyData.tuple (toDs ws)).depth ≤ d := h.dep
    simp only [PyData.depth] at z; omega
  have hs : ShwXA (toDs ws) := by
    have z : ShwX (PyData.tuple (toDs ws)) := h.shw
    unfold ShwX at z; exact z
  exact ⟨isXs_mem h.isX u hu, shwXA_mem hs u hu, by have := depths_mem u hu; omega, Nat.le_trans (tupleText_mem_le (shown_mem u hu)) hz⟩
theorem tuple_ge (ts : List Str) : ts.length ≤ (tupleText ts).length := by
  have hp : ∀ ts : List Str, 2 * ts.length ≤ piled ts := fun ts => by
    induction ts with
    | nil => exact Nat.zero_le _
    | cons t ts ih => rw [piled_cons, List.length_cons]; omega
  by_cases h : ts = []
  · subst h; exact Nat.zero_le _
  · have a := join_length_add ts h
    have b := hp ts
    have c : 0 < ts.length := List.length_pos_iff.mpr h
    unfold tupleText
    rw [strLen_append, strLen_append]
    have e1 : ((("(" : String) : Str)).length = 1 := rfl
    have e2 : 1 ≤ ((if ts.length == 1 then ",)" else ")" : String) : Str).length := by split <;> decide
    omega
theorem shownAll_len : ∀ ws : List W, (PyData.shownAll (toDs ws)).length = ws.length
  | [] => rfl
  | w :: ws => by show (w.toD.shown :: PyData.shownAll (toDs ws)).length = _; rw [List.length_cons, shownAll_len ws]; rfl
theorem SmX.wide {d n : Nat} {ws : List W} (h : SmX d n (.tup ws)) : ws.length ≤ n := by
  have z : (PyData.tuple (toDs ws)).shown.length ≤ n := h.len
  simp only [PyData.shown] at z
  have := tuple_ge (PyData.shownAll (toDs ws))
  rw [shownAll_len] at this
  omega
/-! ### comprehensions over plain values -/
section
variable {st : Store} {q : PG'} {c : PB} {el : PX} {fr : Frame} {ws : List W}
theorem comp_bl (f : W → Bool) (hl : ws.length ≤ sizeLine) (h : ∀ u ∈ ws, ∃ fr1, q u fr = some fr1 ∧ el fr1 st = .ok (.st, .bl (f u)) st) : compL q bYes el ws [] fr st = .ok (ws.map fun u => .bl (f u)) st := by
  have z := comp_map (q := q) (el := el) (st := st) (fr := fr) (fun u : W => u) (fun u => .bl (f u)) ws [] (by simpa using hl) fun u hu => by
    obtain ⟨fr1, e1, e2⟩ := h u hu
    exact ⟨fr1, e1, .st, e2, rfl⟩
  rw [List.map_id', List.nil_append] at z
  exact z
theorem bools_of (f : W → Bool) : ∀ ws : List W, bools (ws.map fun u => .bl (f u)) = some (ws.map f)
  | [] => rfl
  | w :: ws => by
    show (bools (ws.map fun u => .bl (f u))).map (f w :: ·) = _
    rw [bools_of f ws]; rfl
theorem all_ok (f : W → Bool) : fAll (.lst (ws.map fun u => .bl (f u))) st = .ok (.st, .bl (ws.all f)) st := by
  show (match bools (ws.map fun u => .bl (f u)) with | some bs => okS (.bl (bs.all id)) st | none => .bad) = _
  rw [bools_of]
  show Res.ok _ _ = _
  rw [List.all_map]; rfl
theorem comp_if (t : W → Bool) (hl : ws.length ≤ sizeLine) (h : ∀ u ∈ ws, ∃ fr1, q u fr = some fr1 ∧ c fr1 st = .ok (t u) st ∧ (t u = true → ∃ k, el fr1 st = .ok (k, u) st ∧ keepOk k u = true)) : compL q c el ws [] fr st = .ok (ws.filter t) st := by
  have z := comp_run (q := q) (c := c) (el := el) (st := st) (fr := fr) t (fun u => u) ws [] (by simpa using hl) h
  rw [List.map_id', List.nil_append] at z
  exact z
theorem eq_nil (xs : List W) : fEqE (.lst xs) (.lst []) st = .ok (.st, .bl xs.isEmpty) st := by
  cases xs with
  | nil => rfl
  | cons x xs => rfl
theorem ne_nil (xs : List W) : fNeE (.lst xs) (.lst []) st = .ok (.st, .bl (!xs.isEmpty)) st := by
  cases xs with
  | nil => rfl
  | cons x xs => rfl
theorem filter_empty (t : W → Bool) (ws : List W) : (ws.filter t).isEmpty = ws.all fun u => !t u := by
  induction ws with
  | nil => rfl
  | cons w ws ih =>
    rw [List.filter_cons, List.all_cons, ← ih]
    cases t w <;> rfl
theorem e_compI {qi : PL} {vs : List Nat} {fr' : Frame} {st1 st2 : Store} {xs : List W} (hI : qi fr st = .ok ws st1) (no : noOwn vs fr = true) (fo : forgetF vs fr = fr')
    (h : compL q c el ws [] fr' st1 = .ok xs st2) : eComp qi q c el vs fr st = .ok (.fr, .lst xs) st2 := by rw [ev_comp, hI, ev_bind, if_pos no, fo, h, ev_bind]
end
end Vy.K50

set_option Elab.async false
set_option linter.all false
set_option maxRecDepth 100000
set_option maxHeartbeats 2000000
/-! k50: what is a mean. -/
namespace Vy.K50
open PySem PySem.Spec PyProof.Rows L2 Vy.Mean Vy.K49
def nnW : W → Bool
  | .int i => decide (0 ≤ i)
  | _ => false
def arePow (k : Nat) : W → Bool
  | .tup ws => decide (ws.length = k) && ws.all nnW
  | _ => false
def memW (k : Nat) : W → Bool
  | .tup [p, .int n] => arePow k p && decide (n ≠ 0)
  | _ => false
/-- the powers of a member -/
def powsOf : W → List Int
  | .tup (.tup ps :: _) => (intsOf ps).getD []
  | _ => []
def ltB (a b : W) : Bool := lexB (fun i j => decide (i < j)) (fun a b => decide (a < b)) (powsOf a) (powsOf b)
def ascW (ws : List W) : Bool := (List.range (ws.length - 1)).all fun i => ltB (ws.getD i .non) (ws.getD (i + 1) .non)
def isMean (k : Nat) : W → Bool
  | .tup ws => ws.all (memW k) && ascW ws
  | _ => false
section
variable {st : Store} {k d n : Nat} {w : W} {ws us : List W} {i j : Int}
theorem ints_of_nn : ∀ {ps : List W}, ps.all nnW = true → ∃ ns : List Int, ps = ns.map W.int
  | [], _ => ⟨[], rfl⟩
  | p :: ps, h => by
    rw [List.all_cons, Bool.and_eq_true] at h
    obtain ⟨ns, e⟩ := ints_of_nn h.2
    cases p with
    | int i => exact ⟨i :: ns, by rw [e]; rfl⟩
    | _ => simp [nnW] at h
theorem line_of {m : Nat} (hn : n ≤ 10000000) (h : m ≤ n) : m ≤ sizeLine := by rw [sizeLine_eq]; omega
theorem pow_elt {u A B : W} (hu : Typed u) : eAnd (eCall p_is_integer (aCons (eVar 2) aNil)) (eBin fGe (eVar 2) (eC (.int 0))) [.val A, .val B, .val u] st = .ok (.st, .bl (nnW u)) st := by
  have h := fun st => is_integer_ok (st := st) hu
  cases u with
  | int i => simp [h, isInt, nnW]
  | _ => simp [h, isInt, nnW]
theorem are_powers_ok (h : SmX d n w) (hn : n ≤ 10000000) : p_are_powers [.int k, w] st = .ok (.st, .bl (arePow k w)) st := by
  have ht := fun st => isi_tup (st := st) h.typed
  unfold p_are_powers b_are_powers
  cases w with
  | tup ws =>
    have hc : eComp (iSeqL (eVar 1)) (gN 2) bYes (eAnd (eCall p_is_integer (aCons (eVar 2) aNil)) (eBin fGe (eVar 2) (eC (.int 0)))) [2] [.val (.int k), .val (.tup ws), .no] st = .ok (.fr, .lst (ws.map fun u => .bl (nnW u))) st :=
      e_compI (by simp) rfl rfl (comp_bl nnW (line_of hn h.wide) fun u hu => ⟨[.val (.int k), .val (.tup ws), .val u], rfl, pow_elt (h.mem u hu).typed⟩)
    have ha := all_ok (st := st) nnW (ws := ws)
    have he : fEq (.int (ws.length : Nat)) (.int k) st = .ok (.st, .bl (decide (ws.length = k))) st := by
      rw [ev_eq_int, decide_eq_decide.mpr (show ((ws.length : Nat) : Int) = (k : Int) ↔ ws.length = k by omega)]
    by_cases hk : ws.length = k
    · subst hk
      simp [-ev_comp, ht, isTup, he, hc, ha, arePow]
    · simp [-ev_comp, ht, isTup, he, hk, hc, ha, arePow]
  | _ => simp [ht, isTup, arePow]
theorem two_of (hl : ws.length = 2) : ∃ a b, ws = [a, b] := by
  match ws, hl with
  | [a, b], _ => exact ⟨a, b, rfl⟩
theorem ne_int_ok : fNe (.int i) (.int j) st = .ok (.st, .bl (decide (i ≠ j))) st := by simp [fNe, wEq, wV, scal]
theorem is_member_ok (h : SmX d n w) (hn : n ≤ 10000000) : p_is_member [.int k, w] st = .ok (.st, .bl (memW k w)) st := by
  have ht := fun st => isi_tup (st := st) h.typed
  unfold p_is_member b_is_member
  cases w with
  | tup ws =>
    by_cases hl : ws.length = 2
    · obtain ⟨a, b, rfl⟩ := two_of hl
      have ha := h.mem a (List.mem_cons_self ..)
      have hb := h.mem b (List.mem_cons_of_mem _ (List.mem_cons_self ..))
      have h1 := fun st => are_powers_ok (st := st) (k := k) ha hn
      have h2 := fun st => is_integer_ok (st := st) hb.typed
      have h3 : wTruth (.bl (arePow k a)) = some (arePow k a) := rfl
      cases hp : arePow k a with
      | false =>
        simp [ht, isTup, h1, hp, wTruth, ne_int_ok, memW]
        cases b <;> simp [memW, hp]
      | true =>
        cases b with
        | int i => simp [ht, isTup, h1, h2, hp, wTruth, isInt, ne_int_ok, memW]
        | _ => simp [ht, isTup, h1, h2, hp, wTruth, isInt, ne_int_ok, memW]
    · have hne : fNe (.int (ws.length : Nat)) (.int 2) st = .ok (.st, .bl true) st := by
        rw [ne_int_ok]
        simp
        omega
      have hm : memW k (.tup ws) = false := by
        match ws, hl with
        | [], _ => rfl
        | [a], _ => rfl
        | a :: b :: c :: r, _ => cases b <;> rfl
        | [a, b], hl => simp at hl
      simp [ht, isTup, wTruth, hne, hm]
  | _ => simp [ht, isTup, wTruth, memW]
end
end Vy.K50

set_option Elab.async false
set_option linter.all false
set_option maxRecDepth 100000
set_option maxHeartbeats 2000000
/-! k50: what is a mean, told both ways. -/
namespace Vy.K50
open PySem PySem.Spec PyProof.Rows L2 Vy.Mean Vy.K49
section
variable {st : Store} {k d n : Nat} {w : W} {ws us : List W} {i j : Int}
theorem mem_form (h : memW k w = true) : ∃ (ns : List Int) (m : Int), w = .tup [.tup (ns.map W.int), .int m] ∧ ns.length = k ∧ m ≠ 0 ∧ (∀ x ∈ ns, 0 ≤ x) := by
  unfold memW at h
  split at h
  · rename_i p m
    rw [Bool.and_eq_true] at h
    obtain ⟨hp, hm⟩ := h
    unfold arePow at hp
    split at hp
    · rename_i ps
      rw [Bool.and_eq_true] at hp
      obtain ⟨hl, ha⟩ := hp
      obtain ⟨ns, rfl⟩ := ints_of_nn ha
      refine ⟨ns, m, rfl, by simpa using hl, by simpa using hm, fun x hx => ?_⟩
      have z := List.all_eq_true.mp ha (.int x) (List.mem_map_of_mem hx)
      simpa [nnW] using z
    · simp at hp
  · simp at h
theorem pows_form {ns : List Int} {m : Int} : powsOf (.tup [.tup (ns.map W.int), .int m]) = ns := by
  show (intsOf (ns.map W.int)).getD [] = ns
  rw [K49.ints_map]; rfl
theorem atI_nat {i : Nat} (h : i < ws.length) : atI ws (i : Int) = some (ws.getD i .non) := by
  rw [ev_atN h, List.getD_eq_getElem?_getD, List.getElem?_eq_getElem h]; rfl
theorem lt_elt {i j : Nat} (hi : i < ws.length) (hj : j < ws.length) (hm : ws.all (memW k) = true) {p q : PX} {fr : Frame} (h1 : p fr st = .ok (.st, ws.getD i .non) st) (h2 : q fr st = .ok (.st, ws.getD j .non) st) :
    eBin fLtT (eBin fIdx p (eC (.int 0))) (eBin fIdx q (eC (.int 0))) fr st = .ok (.st, .bl (ltB (ws.getD i .non) (ws.getD j .non))) st := by
  have m1 := List.all_eq_true.mp hm (ws.getD i .non) (by rw [List.getD_eq_getElem?_getD, List.getElem?_eq_getElem hi]; exact List.getElem_mem hi)
  have m2 := List.all_eq_true.mp hm (ws.getD j .non) (by rw [List.getD_eq_getElem?_getD, List.getElem?_eq_getElem hj]; exact List.getElem_mem hj)
  obtain ⟨ns, a, e1, _, _, _⟩ := mem_form m1
  obtain ⟨ms, b, e2, _, _, _⟩ := mem_form m2
  rw [e1] at h1 ⊢
  rw [e2] at h2 ⊢
  have e3 : fLtT (.tup (ns.map W.int)) (.tup (ms.map W.int)) st = .ok (.st, .bl (ltB (.tup [.tup (ns.map W.int), .int a]) (.tup [.tup (ms.map W.int), .int b]))) st := by
    show (match intsOf (ns.map W.int), intsOf (ms.map W.int) with | some ns, some ms => okS (.bl (lexB (fun i j => decide (i < j)) (fun a b => decide (a < b)) ns ms)) st | _, _ => .bad) = _
    unfold ltB
    rw [pows_form, pows_form, K49.ints_map, K49.ints_map]
  simp [h1, h2, e3]
theorem rngW_map (a : Int) (m : Nat) : rngW a m = (List.range m).map fun i => W.int (a + (i : Nat)) := rfl
theorem is_mean_ok (h : SmX d n w) (hn : n ≤ 10000000) : p_is_mean [.int k, w] st = .ok (.st, .bl (isMean k w)) st := by
  have ht := fun st => isi_tup (st := st) h.typed
  unfold p_is_mean b_is_mean
  cases w with
  | tup ws =>
    have hw := h.wide
    have hc : eComp (iSeqL (eVar 1)) (gN 2) bYes (eCall p_is_member (aCons (eVar 0) (aCons (eVar 2) aNil))) [2] [.val (.int k), .val (.tup ws), .no, .no] st = .ok (.fr, .lst (ws.map fun u => .bl (memW k u))) st :=
      e_compI (by simp) rfl rfl (comp_bl (memW k) (line_of hn hw) fun u hu => ⟨[.val (.int k), .val (.tup ws), .val u, .no], rfl, by
        have z := fun st => is_member_ok (st := st) (k := k) (h.mem u hu) hn
        simp [z]⟩)
    have ha := all_ok (st := st) (memW k) (ws := ws)
    cases hm : ws.all (memW k) with
    | false => simp [-ev_comp, ht, isTup, wTruth, hc, ha, hm, isMean]
    | true =>
      have hr : ((ws.length : Nat) : Int) - 1 < 2 ^ 62 := by
        have : (10000000 : Int) < 2 ^ 62 := by decide
        omega
      have hI : iRng1 (aCons (eBin fSub (eC1 fLen (eVar 1)) (eC (.int 1))) aNil) [.val (.int k), .val (.tup ws), .no, .no] st = .ok (rngW 0 (ws.length - 1)) st := by
        unfold iRng1
        have z : inR (((ws.length : Nat) : Int) - 1) := ⟨by have : -((2 : Int) ^ 62) ≤ -1 := by decide
                                                            omega, hr⟩
        have t : (((ws.length : Nat) : Int) - 1).toNat = ws.length - 1 := by omega
        simp [ev_grd z, t]
      have hc2 := comp_map (q := gN 3) (el := eBin fLtT (eBin fIdx (eBin fIdx (eVar 1) (eVar 3)) (eC (.int 0))) (eBin fIdx (eBin fIdx (eVar 1) (eBin fAdd (eVar 3) (eC (.int 1)))) (eC (.int 0)))) (st := st) (fr := [.val (.int k), .val (.tup ws), .no, .no])
        (fun i : Nat => W.int (0 + (i : Nat))) (fun i => .bl (ltB (ws.getD i .non) (ws.getD (i + 1) .non))) (List.range (ws.length - 1)) [] (by rw [sizeLine_eq]; simp; omega) fun i hi => by
          have hi := List.mem_range.mp hi
          refine ⟨[.val (.int k), .val (.tup ws), .no, .val (.int (0 + (i : Nat)))], rfl, .st, ?_, rfl⟩
          refine lt_elt (k := k) (i := i) (j := i + 1) (by omega) (by omega) hm ?_ ?_
          · have := atI_nat (ws := ws) (i := i) (by omega)
            simp [this]
          · have := atI_nat (ws := ws) (i := i + 1) (by omega)
            simp at this
            simp [this]
      rw [List.nil_append, ← rngW_map] at hc2
      have hc3 := e_compI (vs := [3]) hI rfl rfl hc2
      have hb : fAll (.lst ((List.range (ws.length - 1)).map fun i => .bl (ltB (ws.getD i .non) (ws.getD (i + 1) .non)))) st = .ok (.st, .bl (ascW ws)) st := by
        have z := fun f : Nat → Bool => fun l : List Nat => (show bools (l.map fun i => .bl (f i)) = some (l.map f) from by
          induction l with
          | nil => rfl
          | cons x l ih => show (bools (l.map fun i => .bl (f i))).map (f x :: ·) = _; rw [ih]; rfl)
        show (match bools _ with | some bs => okS (.bl (bs.all id)) st | none => .bad) = _
        rw [z (fun i => ltB (ws.getD i .non) (ws.getD (i + 1) .non))]
        show Res.ok _ _ = _
        rw [List.all_map]; rfl
      simp [-ev_comp, -List.map_map, -List.getD_eq_getElem?_getD, ht, isTup, wTruth, hc, ha, hm, hc3, hb, isMean]
  | _ => simp [ht, isTup, wTruth, isMean]
/-- a loop that ends with False at the first bad one -/
theorem for_check {q : PG'} {b : PM} (t : W → Bool) (I : Frame → Prop) : ∀ (ws : List W) (fr : Frame), I fr → (∀ u ∈ ws, ∀ fr, I fr → ∃ fr1, q u fr = some fr1 ∧ (t u = true → ∃ fr2, b fr1 st = .ok (.nx fr2) st ∧ I fr2) ∧ (t u = false → b fr1 st = .ok (.rt .st (.bl false)) st)) →
    (ws.all t = true → ∃ fr', forL q b ws fr st = .ok (.nx fr') st ∧ I fr') ∧ (ws.all t = false → forL q b ws fr st = .ok (.rt .st (.bl false)) st)
  | [], fr, h, _ => ⟨fun _ => ⟨fr, rfl, h⟩, fun z => by simp at z⟩
  | u :: us, fr, h, f => by
    obtain ⟨fr1, e1, y, n⟩ := f u (List.mem_cons_self ..) fr h
    have ef : ∀ r, b fr1 st = r → forL q b (u :: us) fr st = (r.bind fun fl s1 => match fl with | .nx fr2 => forL q b us fr2 s1 | .ct fr2 => forL q b us fr2 s1 | .bk fr2 => .ok (.nx fr2) s1 | .rt k w => .ok (.rt k w) s1) := fun r hr => by
      subst hr
      have e0 : forL q b (u :: us) fr st = (match q u fr with | none => Res.bad | some fr1 => (b fr1 st).bind fun fl s1 => match fl with | .nx fr2 => forL q b us fr2 s1 | .ct fr2 => forL q b us fr2 s1 | .bk fr2 => .ok (.nx fr2) s1 | .rt k w => .ok (.rt k w) s1) := rfl
      rw [e0, e1]
    cases ht : t u with
    | false =>
      refine ⟨fun z => by rw [List.all_cons, ht] at z; simp at z, fun _ => ?_⟩
      rw [ef _ (n ht)]; rfl
    | true =>
      obtain ⟨fr2, e2, h2⟩ := y ht
      obtain ⟨a, b⟩ := for_check t I us fr2 h2 fun v hv => f v (List.mem_cons_of_mem _ hv)
      rw [List.all_cons, ht, Bool.true_and, ef _ e2]
      exact ⟨a, b⟩
end
end Vy.K50

set_option Elab.async false
set_option linter.all false
set_option maxRecDepth 100000
set_option maxHeartbeats 2000000
/-! k50: the law's own means, fractions. -/
namespace Vy.K50
open PySem PySem.Spec PyProof.Rows L2 Vy.Mean Vy.K49
section
variable {st : Store} {k d n : Nat} {w : W} {ws us : List W} {i j : Int}
theorem body_rt {N : Nat} {b : PM} {ws : List W} {fr : Frame} {st st' : Store} {kd : Kd} {w : W} (hf : ws.map Sl.val ++ List.replicate (N - ws.length) Sl.no = fr) (h : b fr st = .ok (.rt kd w) st') : pBody N b ws st = .ok (kd, w) st' := by
  subst hf
  rw [ev_body, h]; rfl
def ascF (ws : List W) : W → Bool
  | .int i => !(ltB (ws.getD (i.toNat - 1) .non) (ws.getD i.toNat .non))
  | _ => false
theorem ascF_at {ws : List W} (i : Nat) : ascF ws (.int (1 + (i : Int))) = !(ltB (ws.getD i .non) (ws.getD (i + 1) .non)) := by
  have t1 : (1 + (i : Int)).toNat - 1 = i := by omega
  have t2 : (1 + (i : Int)).toNat = i + 1 := by omega
  unfold ascF
  simp only [t1, t2, Nat.add_sub_cancel]
/-- the turn of the law's walk over members -/
noncomputable abbrev memBody : PM := (sSeq (sIf (bOr (bNot (bTruth (eC1 (fIsi "tuple") (eVar 2)))) (bOr (bOf (eBin fNe (eC1 fLen (eVar 2)) (eC (.int 2)))) (bNot (bTruth (eC1 (fIsi "tuple") (eBin fIdx (eVar 2) (eC (.int 0)))))))) (sRet (eC (.bl false))) sSkip)
    (sSeq (sIf (bOr (bOf (eBin fNe (eC1 fLen (eBin fIdx (eVar 2) (eC (.int 0)))) (eVar 0))) (bOf (eBin fNeE (eComp (iSeqL (eBin fIdx (eVar 2) (eC (.int 0)))) (gN 3) (bOr (bNot (bTruth (eCall p_law_is_int (aCons (eVar 3) aNil)))) (bOf (eBin fLt (eVar 3) (eC (.int 0))))) (eVar 3) [3]) (eLst aNil)))) (sRet (eC (.bl false))) sSkip)
    (sIf (bOr (bNot (bTruth (eCall p_law_is_int (aCons (eBin fIdx (eVar 2) (eC (.int 1))) aNil)))) (bOf (eBin fEq (eBin fIdx (eVar 2) (eC (.int 1))) (eC (.int 0))))) (sRet (eC (.bl false))) sSkip)))
theorem two_ne {ws : List W} (hl : ws.length ≠ 2) : fNe (.int (ws.length : Nat)) (.int 2) st = .ok (.st, .bl true) st := by
  rw [ne_int_ok]
  simp
  omega
theorem two_mem {ws : List W} (hl : ws.length ≠ 2) : memW k (.tup ws) = false := by
  match ws, hl with
  | [], _ => rfl
  | [a], _ => rfl
  | a :: b :: c :: r, _ => cases b <;> rfl
  | [a, b], hl => simp at hl
theorem law_member {V : W} {u : W} (h : SmX d n u) (hn : n ≤ 10000000) :
    memBody [.val (.int k), .val V, .val u, .no, .no] st = .ok (if memW k u = true then .nx [.val (.int k), .val V, .val u, .no, .no] else .rt .st (.bl false)) st := by
  have ht := fun st => isi_tup (st := st) h.typed
  cases u with
  | tup ws =>
    by_cases hl : ws.length = 2
    · obtain ⟨a, b, rfl⟩ := two_of hl
      have ha := h.mem a (List.mem_cons_self ..)
      have hb := h.mem b (List.mem_cons_of_mem _ (List.mem_cons_self ..))
      have h1 := fun st => isi_tup (st := st) ha.typed
      have h2 := fun st => law_is_int_ok (st := st) hb.typed
      cases a with
      | tup ps =>
        have hc : eComp (iSeqL (eBin fIdx (eVar 2) (eC (.int 0)))) (gN 3) (bOr (bNot (bTruth (eCall p_law_is_int (aCons (eVar 3) aNil)))) (bOf (eBin fLt (eVar 3) (eC (.int 0))))) (eVar 3) [3] [.val (.int k), .val V, .val (.tup [.tup ps, b]), .no, .no] st = .ok (.fr, .lst (ps.filter fun u => !nnW u)) st :=
          e_compI (by simp) rfl rfl (comp_if (fun u => !nnW u) (line_of hn ha.wide) fun u hu => ⟨[.val (.int k), .val V, .val (.tup [.tup ps, b]), .val u, .no], rfl, by
            have z := fun st => law_is_int_ok (st := st) (ha.mem u hu).typed
            cases u with
            | int i => 
              by_cases hi : i < 0
              · simp [z, isInt, wTruth, nnW, hi]
              · simp [z, isInt, wTruth, nnW, hi]; omega
            | _ => simp [z, isInt, wTruth, nnW], fun _ => ⟨.st, by simp, rfl⟩⟩)
        have he := ne_nil (st := st) (ps.filter fun u => !nnW u)
        have hf : ((ps.filter fun u => !nnW u).isEmpty) = ps.all nnW := by
          rw [filter_empty]
          congr 1
          funext u
          simp
        rw [hf] at he
        by_cases hk : ps.length = k
        · subst hk
          have hz := fun st => ne_int_ok (st := st) (i := (ps.length : Nat)) (j := (ps.length : Nat))
          cases hp : ps.all nnW with
          | false =>
            rw [hp] at he
            cases b <;> simp [-ev_comp, ht, h1, isTup, wTruth, ne_int_ok, hc, he, memW, arePow, hp]
          | true =>
            rw [hp] at he
            cases b with
            | int i =>
              by_cases hi : i = 0
              · subst hi
                simp [-ev_comp, ht, h1, h2, isTup, isInt, wTruth, ne_int_ok, ev_eq_int, hc, he, memW, arePow, hp]
              · simp [-ev_comp, ht, h1, h2, isTup, isInt, wTruth, ne_int_ok, ev_eq_int, hc, he, memW, arePow, hp, hi]
            | _ => simp [-ev_comp, ht, h1, h2, isTup, isInt, wTruth, ne_int_ok, hc, he, memW, arePow, hp]
        · have hz : fNe (.int (ps.length : Nat)) (.int k) st = .ok (.st, .bl true) st := by
            rw [ne_int_ok]
            simp
            omega
          cases b <;> simp [-ev_comp, ht, h1, isTup, wTruth, ne_int_ok, hz, memW, arePow, hk]
      | _ => cases b <;> simp [ht, h1, isTup, wTruth, ne_int_ok, memW, arePow]
    · simp [ht, isTup, wTruth, two_ne hl, two_mem hl]
  | _ => simp [ht, isTup, wTruth, memW]
end
end Vy.K50

set_option Elab.async false
set_option linter.all false
set_option maxRecDepth 100000
set_option maxHeartbeats 2000000
/-! k50: the law's own means, fractions. -/
namespace Vy.K50
open PySem PySem.Spec PyProof.Rows L2 Vy.Mean Vy.K49
section
variable {st : Store} {k d n : Nat} {w : W} {ws us : List W} {i j : Int}
theorem rng2_ok {r : PL} {fr : Frame} {a b : Int} {st1 : Store} (h : r fr st = .ok [.int a, .int b] st1) (h1 : inR a) (h2 : inR b) : iRng2 r fr st = .ok (rngW a (b - a).toNat) st1 := by
  unfold iRng2
  rw [h, ev_bind]
  exact ev_grd ⟨h1, h2⟩
theorem law_asc {x : Sl} (hn : n ≤ 10000000) (hw : ws.length ≤ n) (hm : ws.all (memW k) = true) : eComp (iRng2 (aCons (eC (.int 1)) (aCons (eC1 fLen (eVar 1)) aNil))) (gN 4) (bNot (bOf (eBin fLtT (eBin fIdx (eBin fIdx (eVar 1) (eBin fSub (eVar 4) (eC (.int 1)))) (eC (.int 0))) (eBin fIdx (eBin fIdx (eVar 1) (eVar 4)) (eC (.int 0)))))) (eVar 4) [4] [.val (.int k), .val (.tup ws), x, .no, .no] st = .ok (.fr, .lst ((rngW 1 (ws.length - 1)).filter (ascF ws))) st := by
  have hI : iRng2 (aCons (eC (.int 1)) (aCons (eC1 fLen (eVar 1)) aNil)) [.val (.int k), .val (.tup ws), x, .no, .no] st = .ok (rngW 1 (ws.length - 1)) st := by
    have b1 : (10000000 : Int) < 2 ^ 62 := by decide
    have b2 : -((2 : Int) ^ 62) ≤ -1 := by decide
    have t : (((ws.length : Nat) : Int) - 1).toNat = ws.length - 1 := by omega
    have z := rng2_ok (st := st) (r := aCons (eC (.int 1)) (aCons (eC1 fLen (eVar 1)) aNil)) (fr := [.val (.int k), .val (.tup ws), x, .no, .no]) (a := 1) (b := (ws.length : Nat)) (st1 := st) (by simp) ⟨by omega, by omega⟩ ⟨by omega, by omega⟩
    rw [t] at z
    exact z
  have hc2 := comp_run (q := gN 4) (c := bNot (bOf (eBin fLtT (eBin fIdx (eBin fIdx (eVar 1) (eBin fSub (eVar 4) (eC (.int 1)))) (eC (.int 0))) (eBin fIdx (eBin fIdx (eVar 1) (eVar 4)) (eC (.int 0)))))) (el := eVar 4) (st := st) (fr := [.val (.int k), .val (.tup ws), x, .no, .no])
    (ascF ws) (fun v => v) (rngW 1 (ws.length - 1)) [] (by rw [sizeLine_eq, rngW_map]; simp; omega) fun v hv => by
      rw [rngW_map] at hv
      obtain ⟨i, hi, rfl⟩ := List.mem_map.mp hv
      have hi := List.mem_range.mp hi
      refine ⟨[.val (.int k), .val (.tup ws), x, .no, .val (.int (1 + (i : Nat)))], rfl, ?_, fun _ => ⟨.st, by simp, rfl⟩⟩
      have z := lt_elt (st := st) (k := k) (i := i) (j := i + 1) (ws := ws) (by omega) (by omega) hm (p := eBin fIdx (eVar 1) (eBin fSub (eVar 4) (eC (.int 1)))) (q := eBin fIdx (eVar 1) (eVar 4)) (fr := [.val (.int k), .val (.tup ws), x, .no, .val (.int (1 + (i : Nat)))]) (by
        have := atI_nat (ws := ws) (i := i) (by omega)
        simp [show 1 + (i : Int) - 1 = (i : Int) by omega, this]) (by
        have := atI_nat (ws := ws) (i := i + 1) (by omega)
        have e : ((i + 1 : Nat) : Int) = 1 + (i : Int) := by omega
        rw [e] at this
        simp [this])
      rw [ev_not, ev_bof, z]
      simp only [ev_bind]
      rw [ascF_at]
  rw [List.map_id', List.nil_append] at hc2
  exact e_compI (vs := [4]) hI rfl rfl hc2
theorem asc_empty : ((rngW 1 (ws.length - 1)).filter (ascF ws)).isEmpty = ascW ws := by
  rw [filter_empty, rngW_map, List.all_map]
  unfold ascW
  exact congrArg (fun f => (List.range (ws.length - 1)).all f) (funext fun i => by simp only [Function.comp, ascF_at, Bool.not_not])
theorem law_is_mean_ok (h : SmX d n w) (hn : n ≤ 10000000) : p_law_is_mean [.int k, w] st = .ok (.st, .bl (isMean k w)) st := by
  have ht := fun st => isi_tup (st := st) h.typed
  unfold p_law_is_mean b_law_is_mean
  cases w with
  | tup ws =>
    have hw := h.wide
    obtain ⟨yes, no⟩ := for_check (st := st) (q := gN 2) (b := memBody) (memW k) (fun fr => ∃ x, fr = [.val (.int k), .val (.tup ws), x, .no, .no]) ws [.val (.int k), .val (.tup ws), .no, .no, .no] ⟨_, rfl⟩ fun u hu fr ⟨x, e⟩ => by
      subst e
      refine ⟨[.val (.int k), .val (.tup ws), .val u, .no, .no], rfl, fun ht => ⟨[.val (.int k), .val (.tup ws), .val u, .no, .no], ?_, _, rfl⟩, fun ht => ?_⟩
      · rw [law_member (h.mem u hu) hn, if_pos ht]
      · rw [law_member (h.mem u hu) hn, if_neg (by rw [ht]; exact Bool.false_ne_true)]
    cases hm : ws.all (memW k) with
    | false =>
      have e := no hm
      simp -implicitDefEqProofs [-ev_comp, ht, isTup, wTruth, e, isMean, hm]
    | true =>
      obtain ⟨fr', e, x, rfl⟩ := yes hm
      have hc3 := law_asc (st := st) (x := x) hn hw hm
      have hd := eq_nil (st := st) ((rngW 1 (ws.length - 1)).filter (ascF ws))
      rw [asc_empty] at hd
      rw [isMean, hm, Bool.true_and]
      refine body_rt (fr := [.val (.int k), .val (.tup ws), .no, .no, .no]) rfl ?_
      refine (seq_nx (fr1 := [.val (.int k), .val (.tup ws), .no, .no, .no]) (s1 := st) (by simp -implicitDefEqProofs [ht, isTup, wTruth])).trans ?_
      refine (seq_nx (fr1 := [.val (.int k), .val (.tup ws), x, .no, .no]) (s1 := st) (by simp -implicitDefEqProofs [e])).trans ?_
      rw [ev_ret, ev_bin, hc3]
      simp -implicitDefEqProofs [hd]
  | _ => simp [ht, isTup, wTruth, isMean]
end
end Vy.K50

set_option Elab.async false
set_option linter.all false
set_option maxRecDepth 100000
set_option maxHeartbeats 2000000
/-! k50: what is a fraction. -/
namespace Vy.K50
open PySem PySem.Spec PyProof.Rows L2 Vy.Mean Vy.K49
mutual
/-- ints of sixty figures -/
def LeW : W → Prop
  | .int i => Le i 60
  | .tup ws => LeWs ws
  | .lst ws => LeWs ws
  | _ => True
def LeWs : List W → Prop
  | [] => True
  | w :: ws => LeW w ∧ LeWs ws
end
theorem leWs_iff : ∀ {ws : List W}, LeWs ws ↔ ∀ w ∈ ws, LeW w
  | [] => ⟨fun _ _ h => (nomatch h), fun _ => by unfold LeWs; trivial⟩
  | w :: ws => by
    unfold LeWs
    rw [leWs_iff (ws := ws)]
    exact ⟨fun h u hu => (List.mem_cons.mp hu).elim (fun e => e ▸ h.1) (h.2 u), fun h => ⟨h w (List.mem_cons_self ..), fun u hu => h u (List.mem_cons_of_mem _ hu)⟩⟩
theorem leW_tup {ws : List W} : LeW (.tup ws) ↔ ∀ w ∈ ws, LeW w := by rw [← leWs_iff, LeW]
theorem leW_lst {ws : List W} : LeW (.lst ws) ↔ ∀ w ∈ ws, LeW w := by rw [← leWs_iff, LeW]
theorem leW_int {i : Int} : LeW (.int i) ↔ Le i 60 := by unfold LeW; exact Iff.rfl
def isFrac : W → Bool
  | .tup [.int a, .int b] => decide (0 < b) && decide (Nat.gcd a.natAbs b.natAbs = 1)
  | _ => false
section
variable {st : Store} {k d n : Nat} {w : W} {ws us : List W} {i j : Int}
theorem eqv_two {a b c e : Int} : PyData.eqv (W.toD (.tup [.int a, .int b])) (W.toD (.tup [.int c, .int e])) = (decide (a = c) && decide (b = e)) := by
  show PyData.eqv (.tuple [.int a, .int b]) (.tuple [.int c, .int e]) = _
  simp only [PyData.eqv, PyData.eqvAll, Bool.and_true]
  rw [show (a == c) = decide (a = c) from rfl, show (b == e) = decide (b = e) from rfl]
theorem shaped_two {a b : Int} : SeqAt.shaped (W.toD (.tup [.int a, .int b])) = true := by
  show SeqAt.shaped (.tuple [.int a, .int b]) = true
  unfold SeqAt.shaped
  rfl
theorem eq_fr {x y : Fr} : fEq (frW x) (frW y) st = .ok (.st, .bl (decide (x = y))) st := by
  have e : wEq (frW x) (frW y) = some (decide (x = y)) := by
    unfold wEq
    show (if (frW x).isD = true ∧ (frW y).isD = true ∧ SeqAt.shaped (frW x).toD = true ∧ SeqAt.shaped (frW y).toD = true then some (PyData.eqv (frW x).toD (frW y).toD) else none) = _
    rw [if_pos ⟨rfl, rfl, shaped_two, shaped_two⟩, eqv_two]
    obtain ⟨a, b⟩ := x
    obtain ⟨c, e⟩ := y
    simp only [Prod.mk.injEq, Bool.decide_and]
  unfold fEq
  rw [e]
theorem ne_fr {x y : Fr} : fNe (frW x) (frW y) st = .ok (.st, .bl (!decide (x = y))) st := by
  have e : wEq (frW x) (frW y) = some (decide (x = y)) := by
    have z := eq_fr (x := x) (y := y) (st := [])
    unfold fEq at z
    cases h : wEq (frW x) (frW y) with
    | none => rw [h] at z; cases z
    | some c => rw [h] at z; cases z; rfl
  unfold fNe
  rw [e]
theorem nf_self {a b : Int} (h : 0 < b) : (nf a b = (a, b)) ↔ Nat.gcd a.natAbs b.natAbs = 1 := by
  constructor
  · intro e
    have z := (nf_spec a (q := b) (by omega)).1.cop
    rw [e] at z
    exact z
  · intro g
    refine low_eq (nf_spec a (by omega)).1 ⟨h, g⟩ ?_
    exact (nf_spec a (by omega)).2
theorem frac_len (hl : ws.length ≠ 2) : isFrac (.tup ws) = false := by
  match ws, hl with
  | [], _ => rfl
  | [a], _ => cases a <;> rfl
  | a :: b :: c :: r, _ => cases a <;> cases b <;> rfl
  | [a, b], hl => simp at hl
theorem is_fraction_ok (h : SmX d n w) (hn : n ≤ 10000000) : p_is_fraction [w] st = .ok (.st, .bl (isFrac w)) st := by
  have ht := fun st => isi_tup (st := st) h.typed
  unfold p_is_fraction b_is_fraction
  cases w with
  | tup ws =>
    by_cases hl : ws.length = 2
    · have hc : eComp (iSeqL (eVar 0)) (gN 1) bYes (eCall p_is_integer (aCons (eVar 1) aNil)) [1] [.val (.tup ws), .no] st = .ok (.fr, .lst (ws.map fun u => .bl (isInt u))) st :=
        e_compI (by simp) rfl rfl (comp_bl isInt (line_of hn h.wide) fun u hu => ⟨[.val (.tup ws), .val u], rfl, by
          have z := fun st => is_integer_ok (st := st) (h.mem u hu).typed
          simp [z]⟩)
      have ha := all_ok (st := st) isInt (ws := ws)
      obtain ⟨a, b, rfl⟩ := two_of hl
      generalize ([a, b].map fun u => W.bl (isInt u)) = Fl at hc ha
      cases a with
      | int a =>
        cases b with
        | int b =>
          have e1 : ∀ m : Nat, ((m : Int) = 1) = (m = 1) := fun m => by
            apply propext
            omega
          by_cases hb : 0 < b
          · simp [-ev_comp, ht, isTup, wTruth, ne_int_ok, hc, ha, isInt, isFrac, hb, ev_eq_int, e1]
          · simp [-ev_comp, ht, isTup, wTruth, ne_int_ok, hc, ha, isInt, isFrac, hb, ev_eq_int]
        | _ => simp [-ev_comp, ht, isTup, wTruth, ne_int_ok, hc, ha, isInt, isFrac]
      | _ => simp [-ev_comp, ht, isTup, wTruth, ne_int_ok, hc, ha, isInt, isFrac]
    · simp [ht, isTup, wTruth, two_ne hl, frac_len hl]
  | _ => simp [ht, isTup, wTruth, isFrac]
theorem law_is_fraction_ok (h : SmX d n w) (hn : n ≤ 10000000) (hs : LeW w) : p_law_is_fraction [w] st = .ok (.st, .bl (isFrac w)) st := by
  have ht := fun st => isi_tup (st := st) h.typed
  unfold p_law_is_fraction b_law_is_fraction
  cases w with
  | tup ws =>
    by_cases hl : ws.length = 2
    · have hc : eComp (iSeqL (eVar 0)) (gN 1) (bNot (bTruth (eCall p_law_is_int (aCons (eVar 1) aNil)))) (eVar 1) [1] [.val (.tup ws), .no] st = .ok (.fr, .lst (ws.filter fun u => !isInt u)) st :=
        e_compI (by simp) rfl rfl (comp_if (fun u => !isInt u) (line_of hn h.wide) fun u hu => ⟨[.val (.tup ws), .val u], rfl, by
          have z := fun st => law_is_int_ok (st := st) (h.mem u hu).typed
          simp [z, wTruth], fun _ => ⟨.st, by simp, rfl⟩⟩)
      have he := ne_nil (st := st) (ws.filter fun u => !isInt u)
      rw [filter_empty] at he
      obtain ⟨a, b, rfl⟩ := two_of hl
      have la := leW_tup.mp hs
      generalize ([a, b].filter fun u => !isInt u) = Fl at hc he
      cases a with
      | int a =>
        cases b with
        | int b =>
          have l1 : Le a 4000 := (leW_int.mp (la _ (List.mem_cons_self ..))).mono (by decide)
          have l2 : Le b 4000 := (leW_int.mp (la _ (List.mem_cons_of_mem _ (List.mem_cons_self ..)))).mono (by decide)
          by_cases hb : 0 < b
          · have hf := fun st => law_fraction_ok (st := st) a b l1 l2 (by omega)
            have hq := eq_fr (st := st) (x := nf a b) (y := (a, b))
            have hd : decide (nf a b = (a, b)) = decide (Nat.gcd a.natAbs b.natAbs = 1) := decide_eq_decide.mpr (nf_self hb)
            rw [hd] at hq
            simp only [frW] at hf hq
            rw [q_law_fraction]
            simp [-ev_comp, ht, isTup, wTruth, ne_int_ok, hc, he, isInt, isFrac, hb, hf, hq]
          · simp [-ev_comp, ht, isTup, wTruth, ne_int_ok, hc, he, isInt, isFrac, hb]
        | _ => simp [-ev_comp, ht, isTup, wTruth, ne_int_ok, hc, he, isInt, isFrac]
      | _ => simp [-ev_comp, ht, isTup, wTruth, ne_int_ok, hc, he, isInt, isFrac]
    · simp [ht, isTup, wTruth, two_ne hl, frac_len hl]
  | _ => simp [ht, isTup, wTruth, isFrac]
end
end Vy.K50

set_option Elab.async false
set_option linter.all false
set_option maxRecDepth 100000
set_option maxHeartbeats 2000000
/-! k50: bent values. -/
namespace Vy.K50
open PySem PySem.Spec PyProof.Rows L2 Vy.Mean Vy.K49
/-- fine: plain, told short, ints of sixty figures -/
structure Fine (d n : Nat) (w : W) : Prop extends SmX d n w where
  le : LeW w
theorem Fine.mono {d n d' n' : Nat} {w : W} (h : Fine d n w) (hd : d ≤ d') (hn : n ≤ n') : Fine d' n' w := ⟨h.toSmX.mono hd hn, h.le⟩
theorem Fine.tup {d n m : Nat} {ws : List W} (h : ∀ w ∈ ws, Fine d n w) (hm : ws.length * (n + 2) + 4 ≤ m) : Fine (d + 1) m (.tup ws) := ⟨(SmX.tup fun w hw => (h w hw).toSmX).mono (Nat.le_refl _) hm, leW_tup.mpr fun w hw => (h w hw).le⟩
theorem Fine.lst {d n m : Nat} {ws : List W} (h : ∀ w ∈ ws, Fine d n w) (hm : ws.length * (n + 2) + 4 ≤ m) : Fine (d + 1) m (.lst ws) := ⟨(SmX.lst fun w hw => (h w hw).toSmX).mono (Nat.le_refl _) hm, leW_lst.mpr fun w hw => (h w hw).le⟩
theorem Fine.tupc {d n m c : Nat} {ws : List W} (hl : ws.length ≤ c) (h : ∀ w ∈ ws, Fine d n w) (hm : c * (n + 2) + 4 ≤ m) : Fine (d + 1) m (.tup ws) := Fine.tup h (Nat.le_trans (Nat.add_le_add_right (Nat.mul_le_mul_right _ hl) 4) hm)
theorem Fine.lstc {d n m c : Nat} {ws : List W} (hl : ws.length ≤ c) (h : ∀ w ∈ ws, Fine d n w) (hm : c * (n + 2) + 4 ≤ m) : Fine (d + 1) m (.lst ws) := Fine.lst h (Nat.le_trans (Nat.add_le_add_right (Nat.mul_le_mul_right _ hl) 4) hm)
theorem Fine.int {i : Int} (h : Le i 60) : Fine 0 5000 (.int i) := ⟨(SmX.int (Nat.lt_of_le_of_lt h (Nat.pow_lt_pow_right (by decide) (by decide)))).mono (Nat.le_refl _) (by decide), leW_int.mpr h⟩
/-- what may be bent: ints, tuples of such, at most eight wide -/
def Bd : Nat → W → Prop
  | 0, _ => False
  | _ + 1, .int i => Le i 50
  | n + 1, .tup ws => ws.length ≤ 8 ∧ ∀ u ∈ ws, Bd n u
  | _, _ => False
def R : Nat → Nat
  | 0 => 5000
  | 1 => 5000
  | n + 1 => 9 * (R n + 2) + 4
theorem R_le (n : Nat) : 5000 ≤ R n := by
  cases n with
  | zero => exact Nat.le_refl _
  | succ n => cases n with
    | zero => exact Nat.le_refl _
    | succ n => have := R_le (n + 1); show 5000 ≤ 9 * (R (n + 1) + 2) + 4; omega
theorem R_step {n : Nat} : 1 ≤ n → 9 * (R n + 2) + 4 ≤ R (n + 1) := fun h => by
  cases n with
  | zero => omega
  | succ n => exact Nat.le_refl _
theorem Bd.fine : ∀ {n : Nat} {w : W}, Bd n w → Fine (n + 4) (R n) w
  | 0, _, h => h.elim
  | n + 1, .int i, h => (Fine.int (Le.mono h (by decide))).mono (Nat.zero_le _) (R_le _)
  | n + 1, .tup ws, h => by
    by_cases h0 : ws = []
    · subst h0
      exact (Fine.tup (d := 0) (n := 0) (m := 4) (ws := []) (fun _ z => nomatch z) (Nat.le_refl _)).mono (by omega) (Nat.le_trans (by decide) (R_le _))
    · have h1 : 1 ≤ n := by
        cases n with
        | zero =>
          cases ws with
          | nil => exact absurd rfl h0
          | cons u us => exact (h.2 u (List.mem_cons_self ..)).elim
        | succ n => omega
      refine Fine.tup (fun u hu => (h.2 u hu).fine) ?_
      refine Nat.le_trans ?_ (R_step h1)
      have := Nat.mul_le_mul_right (R n + 2) h.1
      omega
structure Odd (odd : List W) : Prop where
  len : 1 ≤ odd.length ∧ odd.length ≤ 63
  fine : ∀ o ∈ odd, Fine 4 400 o
section
variable {st : Store} {k d n : Nat} {w : W} {ws us : List W} {i j : Int}
theorem cut_take {k : Nat} (h : k ≤ ws.length) : cutW ws none (some (k : Int)) = ws.take k := by
  unfold cutW
  rw [HT.sIx_none, HT.sIx_nat, List.drop_zero, Nat.sub_zero, Nat.min_eq_left h]
theorem cut_drop {k : Nat} (h : k ≤ ws.length) : cutW ws (some (k : Int)) none = ws.drop k := by
  unfold cutW
  rw [HT.sIx_none, HT.sIx_nat, Nat.min_eq_left h]
  exact List.take_of_length_le (by rw [List.length_drop]; exact Nat.le_refl _)
theorem law_of_ok {ws : List W} (S : Src st) (h1 : 1 ≤ ws.length) (h2 : ws.length ≤ 63) : ∃ (w : W) (st' : Store), w ∈ ws ∧ p_law_of [.ref 1, .lst ws] st = .ok (.st, w) st' ∧ Src st' := by
  obtain ⟨w, st', hw, e, S', _⟩ := K49.law_of_ok S h1 h2
  exact ⟨w, st', hw, e, S'⟩
theorem pick_ok {most : Int} (S : Src st) (hm : Le most 40) : ∃ r st', p_law_pick [.ref 1, .int most] st = .ok (.st, .int r) st' ∧ Src st' ∧ 0 ≤ r ∧ (1 ≤ most → r < most) := by
  obtain ⟨r, st', e, S', _, h⟩ := K49.pick_ok S hm
  exact ⟨r, st', e, S', h⟩
theorem law_bent_ok {odd : List W} (O : Odd odd) : ∀ (n : Nat) (m : Nat) (w : W) (st : Store), n ≤ m → Bd n w → Src st → ∃ (v : W) (st' : Store), p_law_bent m [.ref 1, w, .lst odd] st = .ok (.st, v) st' ∧ Fine (n + 4) (R n) v ∧ Src st'
  | 0, _, _, _, _, h, _ => h.elim
  | n + 1, 0, _, _, hm, _, _ => absurd hm (by omega)
  | n + 1, m + 1, w, st, hm, hb, S => by
    have fo : ∀ o ∈ odd, Fine (n + 1 + 4) (R (n + 1)) o := fun o ho => (O.fine o ho).mono (by omega) (Nat.le_trans (by decide) (R_le _))
    have hw := hb.fine.toSmX.typed
    have i1 := fun st => isi_ok (st := st) (T := "int") (by simp) hw
    have i2 := fun st => isi_ok (st := st) (T := "bool") (by simp) hw
    have i3 := fun st => isi_tup (st := st) hw
    show ∃ (v : W) (st' : Store), pBody 5 (b_law_bent (p_law_bent m)) [.ref 1, w, .lst odd] st = .ok (.st, v) st' ∧ _
    unfold b_law_bent
    cases w with
    | int i =>
      obtain ⟨r, s1, e1, S1, r0, r1⟩ := pick_ok (most := 3) S (by unfold Le; decide)
      have w1 : isW "int" (.int i) = true := by simp [isW, tyW]
      have w2 : isW "bool" (.int i) = false := by simp [isW, tyW]
      by_cases hr : r > 0
      · obtain ⟨v, s2, hv, e2, S2⟩ := law_of_ok (ws := [.int 1, .int (-1), .int 2]) S1 (by simp) (by simp)
        have hi : Le i 50 := hb
        have hv' : ∃ x : Int, v = .int x ∧ Le x 50 := by
          simp only [List.mem_cons, List.not_mem_nil, or_false] at hv
          rcases hv with h | h | h <;> exact ⟨_, h, by unfold Le; decide⟩
        obtain ⟨x, rfl, hx⟩ := hv'
        refine ⟨.int (i + x), s2, ?_, (Fine.int ((hi.add hx).mono (by decide))).mono (Nat.zero_le _) (R_le _), S2⟩
        simp [i1, i2, w1, w2, wTruth, e1, hr, e2]
      · obtain ⟨v, s2, hv, e2, S2⟩ := law_of_ok (ws := odd) S1 O.len.1 O.len.2
        refine ⟨v, s2, ?_, fo v hv, S2⟩
        simp [i1, i2, i3, isTup, w1, w2, wTruth, e1, hr, e2]
    | tup ws =>
      have hl : ws.length ≤ 8 := hb.1
      have hu := hb.2
      have w1 : isW "int" (.tup ws) = false := by simp [isW, tyW]
      have hz : fEqZ (.tup ws) (.tup []) = fun st => .ok (.st, .bl ws.isEmpty) st := rfl
      by_cases h0 : ws = []
      · obtain ⟨v, s2, hv, e2, S2⟩ := law_of_ok (ws := odd) S O.len.1 O.len.2
        subst h0
        refine ⟨v, s2, ?_, fo v hv, S2⟩
        simp [i1, i3, isTup, w1, wTruth, hz, e2]
      · have hem : ws.isEmpty = false := by cases ws with
          | nil => exact absurd rfl h0
          | cons => rfl
        have hpos : 1 ≤ ws.length := List.length_pos_iff.mpr h0
        obtain ⟨r, s1, e1, S1, r0, r1⟩ := pick_ok (most := 7) S (by unfold Le; decide)
        have e7 := fun st => ev_eq_int (i := r) (j := 0) (st := st)
        by_cases hr : r = 0
        · obtain ⟨v, s2, hv, e2, S2⟩ := law_of_ok (ws := odd) S1 O.len.1 O.len.2
          subst hr
          refine ⟨v, s2, ?_, fo v hv, S2⟩
          simp [i1, i3, isTup, w1, wTruth, hz, hem, e1, e7, e2]
        · obtain ⟨kk, s2, e2, S2, k0, k1⟩ := pick_ok (most := ws.length) S1 (le_small (by omega) (by omega))
          have k1 := k1 (by omega)
          obtain ⟨k, rfl⟩ : ∃ k : Nat, kk = k := ⟨kk.toNat, (Int.toNat_of_nonneg k0).symm⟩
          have hk : k < ws.length := by omega
          obtain ⟨way, s3, e3, S3, y0, y1⟩ := pick_ok (most := 8) S2 (by unfold Le; decide)
          have y1 := y1 (by decide)
          have n1 : 1 ≤ n := by
            cases n with
            | zero => exact (hu _ (List.getElem_mem hk)).elim
            | succ n => omega
          have c1 : cutW ws none (some (k : Int)) = ws.take k := cut_take (by omega)
          have c2 : cutW ws (some ((k : Int) + 1)) none = ws.drop (k + 1) := cut_drop (k := k + 1) (by omega)
          have c3 : cutW ws none (some ((k : Int) + 1)) = ws.take (k + 1) := cut_take (k := k + 1) (by omega)
          have c4 : cutW ws (some (k : Int)) none = ws.drop k := cut_drop (by omega)
          have hat := atI_nat (ws := ws) hk
          have fu : ∀ u ∈ ws, Fine (n + 4) (R n) u := fun u h => (hu u h).fine
          have big : ∀ vs : List W, vs.length ≤ 9 → (∀ u ∈ vs, Fine (n + 4) (R n) u) → Fine (n + 1 + 4) (R (n + 1)) (.tup vs) := fun vs hv hf => Fine.tup hf (by
            refine Nat.le_trans ?_ (R_step n1)
            have := Nat.mul_le_mul_right (R n + 2) hv
            omega)
          have tk : ∀ (a : Nat) (u : W), u ∈ ws.take a → u ∈ ws := fun a u h => List.mem_of_mem_take h
          have dr : ∀ (a : Nat) (u : W), u ∈ ws.drop a → u ∈ ws := fun a u h => List.mem_of_mem_drop h
          by_cases h5 : way < 5
          · obtain ⟨v, s4, e4, F4, S4⟩ := law_bent_ok O n m (ws.getD k .non) s3 (by omega) (hu _ (by rw [List.getD_eq_getElem?_getD, List.getElem?_eq_getElem hk]; exact List.getElem_mem hk)) S3
            refine ⟨.tup (ws.take k ++ [v] ++ ws.drop (k + 1)), s4, ?_, big _ (by simp; omega) fun u h => ?_, S4⟩
            · have g1 : k + 1 + (ws.length - (k + 1)) ≤ 16777216 := by omega
              have g2 : min k ws.length + 1 ≤ 16777216 := by omega
              simp [-List.getD_eq_getElem?_getD, i1, i3, isTup, w1, wTruth, hz, hem, e1, e7, hr, e2, e3, putsF, slOf, h5, eSlice, oNone, oSome, fSlice, c1, c2, hat, e4, okS]
              rw [ev_grd (by omega)]
              simp
              rw [ev_grd (by omega)]
              simp
            · rcases List.mem_append.mp h with h | h
              · rcases List.mem_append.mp h with h | h
                · exact fu u (tk _ u h)
                · rw [List.mem_singleton.mp h]; exact F4
              · exact fu u (dr _ u h)
          · have hL : eLst (aCons (eBin fAdd (eSlice (eVar 1) oNone (oSome (eVar 3))) (eSlice (eVar 1) (oSome (eBin fAdd (eVar 3) (eC (.int 1)))) oNone)) (aCons (eBin fAdd (eSlice (eVar 1) oNone (oSome (eBin fAdd (eVar 3) (eC (.int 1))))) (eSlice (eVar 1) (oSome (eVar 3)) oNone)) (aCons (eC1 fList (eVar 1)) aNil)))
                [.val (.ref 1), .val (.tup ws), .val (.lst odd), .val (.int k), .val (.int way)] s3 = .ok (.fr, .lst [.tup (ws.take k ++ ws.drop (k + 1)), .tup (ws.take (k + 1) ++ ws.drop k), .lst ws]) s3 := by
              simp [eSlice, oNone, oSome, fSlice, c1, c2, c3, c4, okS]
              rw [ev_grd (by omega)]
              simp
              rw [ev_grd (by omega)]
              simp
            have f1 : Fine (n + 1 + 4) (R (n + 1)) (.tup (ws.take k ++ ws.drop (k + 1))) := big _ (by simp; omega) fun u h => (List.mem_append.mp h).elim (fun h => fu u (tk _ u h)) fun h => fu u (dr _ u h)
            have f2 : Fine (n + 1 + 4) (R (n + 1)) (.tup (ws.take (k + 1) ++ ws.drop k)) := big _ (by simp; omega) fun u h => (List.mem_append.mp h).elim (fun h => fu u (tk _ u h)) fun h => fu u (dr _ u h)
            have f3 : Fine (n + 1 + 4) (R (n + 1)) (.lst ws) := Fine.lst fu (by
              refine Nat.le_trans ?_ (R_step n1)
              have := Nat.mul_le_mul_right (R n + 2) (show ws.length ≤ 9 by omega)
              omega)
            generalize W.tup (ws.take k ++ ws.drop (k + 1)) = A at *
            generalize W.tup (ws.take (k + 1) ++ ws.drop k) = B at *
            have hat3 : ∃ v, atI [A, B, .lst ws] (way - 5) = some v ∧ Fine (n + 1 + 4) (R (n + 1)) v := by
              have hw : way = 5 ∨ way = 6 ∨ way = 7 := by omega
              rcases hw with h | h | h <;> subst h
              · exact ⟨_, rfl, f1⟩
              · exact ⟨_, rfl, f2⟩
              · exact ⟨_, rfl, f3⟩
            obtain ⟨v, hv, fv⟩ := hat3
            refine ⟨v, s3, ?_, fv, S3⟩
            refine body_rt (fr := [.val (.ref 1), .val (.tup ws), .val (.lst odd), .no, .no]) rfl ?_
            refine (seq_nx (fr1 := [.val (.ref 1), .val (.tup ws), .val (.lst odd), .no, .no]) (s1 := st) (by simp [i1, w1, wTruth])).trans ?_
            refine (seq_nx (fr1 := [.val (.ref 1), .val (.tup ws), .val (.lst odd), .no, .no]) (s1 := s1) (by simp [i3, isTup, wTruth, hz, hem, e1, e7, hr])).trans ?_
            refine (seq_nx (fr1 := [.val (.ref 1), .val (.tup ws), .val (.lst odd), .val (.int k), .val (.int way)]) (s1 := s3) (by simp [e2, e3, putsF, slOf])).trans ?_
            refine (seq_nx (fr1 := [.val (.ref 1), .val (.tup ws), .val (.lst odd), .val (.int k), .val (.int way)]) (s1 := s3) (by simp [h5])).trans ?_
            rw [ev_ret, ev_bin, hL]
            simp [hv]
    | _ => exact hb.elim
end
end Vy.K50

set_option Elab.async false
set_option linter.all false
set_option maxRecDepth 100000
set_option maxHeartbeats 2000000
/-! k50: draws of values; deep values. -/
namespace Vy.K50
open PySem PySem.Spec PyProof.Rows L2 Vy.Mean Vy.K49
theorem draws_w (P : Frame → Prop) (Q : W → Prop) (v : Nat) {el : PX}
    (h : ∀ st, Src st → ∃ (r : W) (st' : Store), (∀ fr w, P fr → el (fr.set v (.val w)) st = .ok (.st, r) st') ∧ Src st' ∧ Q r) :
    ∀ (ws : List W) (st : Store), Src st → ∃ (p : List W) (st' : Store), (∀ fr acc, P fr → acc.length + ws.length ≤ sizeLine → compL (gN v) bYes el ws acc fr st = .ok (acc ++ p) st') ∧ p.length = ws.length ∧ (∀ x ∈ p, Q x) ∧ Src st'
  | [], st, S => ⟨[], st, fun fr acc _ _ => by show Res.ok acc st = _; simp, rfl, fun _ z => (nomatch z), S⟩
  | w :: ws, st, S => by
    obtain ⟨r, st1, e1, S1, q⟩ := h st S
    obtain ⟨p, st2, e2, hl, hp, S2⟩ := draws_w P Q v h ws st1 S1
    refine ⟨r :: p, st2, fun fr acc hP hz => ?_, by rw [List.length_cons, List.length_cons, hl], fun x hx => ?_, S2⟩
    · have hz' : acc.length + (ws.length + 1) ≤ sizeLine := by simpa using hz
      have e3 := e2 fr (acc ++ [r]) hP (by rw [List.length_append, List.length_singleton]; omega)
      unfold compL
      have hz2 : acc.length < sizeLine := by omega
      show ((bYes (fr.set v (.val w)) st).bind _) = _
      simp only [ev_yes, ev_bind, if_true, e1 fr w hP, hz2, ev_keep_st, and_self, e3]
      rw [List.append_assoc]; rfl
    · rcases List.mem_cons.mp hx with z | z
      · rw [z]; exact q
      · exact hp x z
theorem rng_inR {k : Nat} (h : k < 1000000) : inR (k : Int) := inR_few (j := (k : Int)) (by omega) (by omega)
/-- a loop over anything whose turns all go on, the store drawn from -/
theorem for_draw {q : PG'} {b : PM} (I : Nat → Frame → Prop) : ∀ (ws : List W) (k : Nat) (fr : Frame) (st : Store), I k fr → Src st →
    (∀ (j : Nat) (w : W) (fr : Frame) (st : Store), w ∈ ws → I j fr → Src st → ∃ fr1 fr2 st2, q w fr = some fr1 ∧ b fr1 st = .ok (.nx fr2) st2 ∧ I (j + 1) fr2 ∧ Src st2) →
    ∃ fr' st', forL q b ws fr st = .ok (.nx fr') st' ∧ I (k + ws.length) fr' ∧ Src st'
  | [], k, fr, st, h, S, _ => ⟨fr, st, rfl, h, S⟩
  | w :: ws, k, fr, st, h, S, f => by
    obtain ⟨fr1, fr2, st2, e1, e2, h2, S2⟩ := f k w fr st (List.mem_cons_self ..) h S
    obtain ⟨fr', st', e3, h3, S3⟩ := for_draw I ws (k + 1) fr2 st2 h2 S2 fun j u fr st hu hI S => f j u fr st (List.mem_cons_of_mem _ hu) hI S
    refine ⟨fr', st', ?_, by rw [List.length_cons, show k + (ws.length + 1) = k + 1 + ws.length by omega]; exact h3, S3⟩
    unfold forL
    rw [e1]
    show (b fr1 st).bind _ = _
    rw [e2]
    exact e3
section
variable {st : Store} {odd : List W}
/-- a slot with a deep value -/
def DeepSl (d n : Nat) (s : Sl) : Prop := ∃ w, Fine d n w ∧ (s = .val w ∨ ∃ ws, w = .lst ws ∧ s = .own (.lst ws))
noncomputable abbrev deepBody : PM := (sFrz [7] (sSet 7 (eIf (bOf (eBin fEq (eCall p_law_pick (aCons (eVar 0) (aCons (eC (.int 5)) aNil))) (eC (.int 0)))) (eLst (aCons (eVar 7) aNil)) (eTup (aCons (eVar 7) aNil)))))
theorem deep_loop {A B C D E6 : W} (S : Src st) {w : W} (hw : Fine 4 400 w) {V : List W} :
    ∃ (s7 x8 : Sl) (st' : Store), forL (gN 8) deepBody (rngW 0 36) [.val (.ref 1), .val A, .val B, .val C, .val D, .own (.lst V), .no, .val w, .no, .no, .no, .no] st = .ok (.nx [.val (.ref 1), .val A, .val B, .val C, .val D, .own (.lst V), .no, s7, x8, .no, .no, .no]) st' ∧ DeepSl 40 700 s7 ∧ Src st' := by
  obtain ⟨fr', st', e, ⟨s7, x8, rfl, h⟩, S'⟩ := for_draw (q := gN 8) (b := deepBody) (fun j fr => ∃ s7 x8, fr = [.val (.ref 1), .val A, .val B, .val C, .val D, .own (.lst V), .no, s7, x8, .no, .no, .no] ∧ DeepSl (4 + j) (400 + 6 * j) s7) (rngW 0 36) 0
    [.val (.ref 1), .val A, .val B, .val C, .val D, .own (.lst V), .no, .val w, .no, .no, .no, .no] st ⟨_, _, rfl, w, hw, .inl rfl⟩ S fun j u fr st hu ⟨s7, x8, e, w, hw, hs⟩ S => by
      subst e
      obtain ⟨r, st2, e2, S2, r0, r1⟩ := pick_ok (most := 5) S (by unfold Le; decide)
      have e7 := fun st => ev_eq_int (i := r) (j := 0) (st := st)
      have fz : ([7] : List Nat).foldr freezeF [.val (.ref 1), .val A, .val B, .val C, .val D, .own (.lst V), .no, s7, .val u, .no, .no, .no] = [.val (.ref 1), .val A, .val B, .val C, .val D, .own (.lst V), .no, .val w, .val u, .no, .no, .no] := by
        rcases hs with rfl | ⟨ws, rfl, rfl⟩ <;> rfl
      have one : ∀ v ∈ [w], Fine (4 + j) (400 + 6 * j) v := fun v hv => by rw [List.mem_singleton.mp hv]; exact hw
      by_cases hr : r = 0
      · subst hr
        exact ⟨[.val (.ref 1), .val A, .val B, .val C, .val D, .own (.lst V), .no, s7, .val u, .no, .no, .no], [.val (.ref 1), .val A, .val B, .val C, .val D, .own (.lst V), .no, .own (.lst [w]), .val u, .no, .no, .no], st2, rfl, by show sFrz [7] _ _ _ = _; rw [ev_frz, fz]; simp [e2, e7], ⟨_, _, rfl, .lst [w], Fine.lst one (by simp; omega), .inr ⟨_, rfl, rfl⟩⟩, S2⟩
      · exact ⟨[.val (.ref 1), .val A, .val B, .val C, .val D, .own (.lst V), .no, s7, .val u, .no, .no, .no], [.val (.ref 1), .val A, .val B, .val C, .val D, .own (.lst V), .no, .val (.tup [w]), .val u, .no, .no, .no], st2, rfl, by show sFrz [7] _ _ _ = _; rw [ev_frz, fz]; simp [e2, e7, hr], ⟨_, _, rfl, .tup [w], Fine.tup one (by simp; omega), .inl rfl⟩, S2⟩
  obtain ⟨w', hw', hs⟩ := h
  refine ⟨s7, x8, st', e, ⟨w', hw'.mono ?_ ?_, hs⟩, S'⟩
  · unfold rngW; simp
  · unfold rngW; simp
/-- the turn of the walk over all values -/
noncomputable abbrev kindsBody : PM := (sSeq (sPar [10, 11] (pCons (eC1 fReprX (eVar 9)) (pCons (eLst (aCons (eCall p_law_is_mean (aCons (eVar 2) (aCons (eVar 9) aNil))) (aCons (eCall p_law_is_fraction (aCons (eVar 9) aNil)) (aCons (eCall p_law_is_int (aCons (eVar 9) aNil)) aNil)))) pNil)))
    (sIf (bOr (bOf (eBin fNe (eC1 fReprX (eLst (aCons (eCall p_is_mean (aCons (eVar 2) (aCons (eVar 9) aNil))) (aCons (eCall p_is_fraction (aCons (eVar 9) aNil)) (aCons (eCall p_is_integer (aCons (eVar 9) aNil)) aNil))))) (eC1 fReprX (eVar 11)))) (bOf (eBin fNe (eC1 fReprX (eVar 9)) (eVar 10)))) (sRet (eC (.bl false))) sSkip))
theorem kinds_turn {A C D : W} {x7 x8 x10 x11 : Sl} {k : Nat} {w : W} {V : List W} (hw : Fine 41 10000000 w) :
    kindsBody [.val (.ref 1), .val A, .val (.int k), .val C, .val D, .own (.lst V), .no, x7, x8, .val w, x10, x11] st =
      .ok (.nx [.val (.ref 1), .val A, .val (.int k), .val C, .val D, .own (.lst V), .no, x7, x8, .val w, .val (.str w.toD.shown), .own (.lst [.bl (isMean k w), .bl (isFrac w), .bl (isInt w)])]) st := by
  have hx := hw.toSmX
  have h1 := fun st => repr_x hx (by decide) (by rw [sizeLine_eq]; decide) st
  have h2 := fun st => law_is_mean_ok (st := st) (k := k) hx (Nat.le_refl _)
  have h3 := fun st => law_is_fraction_ok (st := st) hx (Nat.le_refl _) hw.le
  have h4 := fun st => law_is_int_ok (st := st) hx.typed
  have h5 := fun st => is_mean_ok (st := st) (k := k) hx (Nat.le_refl _)
  have h6 := fun st => is_fraction_ok (st := st) hx (Nat.le_refl _)
  have h7 := fun st => is_integer_ok (st := st) hx.typed
  have sb : SmX 1 100 (.lst [.bl (isMean k w), .bl (isFrac w), .bl (isInt w)]) := (SmX.lst (d := 0) (n := 10) fun v hv => by
    simp only [List.mem_cons, List.not_mem_nil, or_false] at hv
    rcases hv with e | e | e <;> subst e <;> exact SmX.bl).mono (Nat.le_refl _) (by show 3 * 12 + 4 ≤ 100; decide)
  have h8 := fun st => repr_x sb (by decide) (by rw [sizeLine_eq]; decide) st
  have n1 := fun x st => K49.ne_str x st
  unfold kindsBody
  generalize isMean k w = b1 at *
  generalize isFrac w = b2 at *
  generalize isInt w = b3 at *
  simp [h1, h2, h3, h4, h5, h6, h7, h8, n1, putsF, slOf, obOf]
end
end Vy.K50

set_option Elab.async false
set_option linter.all false
set_option maxRecDepth 100000
set_option maxHeartbeats 4000000
/-! k50: of anything it is told what it is. -/
namespace Vy.K50
open PySem PySem.Spec PyProof.Rows L2 Vy.Mean Vy.K49
section
variable {st : Store} {odd : List W}
theorem bd_ints {p : Pw} (h : ∀ x ∈ p, Le x 50) (hl : p.length ≤ 8) : Bd 2 (pwW p) := ⟨by rw [List.length_map]; exact hl, fun u hu => by
  obtain ⟨x, hx, rfl⟩ := List.mem_map.mp hu
  exact h x hx⟩
theorem bd_row {k c : Nat} {a : List MRow} (A : Nice k c a) (hk : k ≤ 3) (hc : c ≤ 40) : ∀ r ∈ a, Bd 3 (rowW r) := fun r hr => by
  refine ⟨by show 2 ≤ 8; decide, fun u hu => ?_⟩
  rcases List.mem_cons.mp hu with e | e
  · rw [e]
    exact bd_ints (fun x hx => (le_small (A.bd r hr x hx).1 (by have := (A.bd r hr x hx).2; omega)).mono (by decide)) (by rw [A.len r hr]; omega)
  · rw [List.mem_singleton.mp e]
    exact (A.few r hr).mono (by decide)
theorem bd_mean {k c : Nat} {a : List MRow} (A : Nice k c a) (hk : k ≤ 3) (hc : c ≤ 40) (hl : a.length ≤ 8) : Bd 4 (meanW a) := ⟨by rw [List.length_map]; exact hl, fun u hu => by
  obtain ⟨r, hr, rfl⟩ := List.mem_map.mp hu
  exact bd_row A hk hc r hr⟩
theorem bents (O : Odd odd) {n : Nat} {w : W} (hb : Bd n w) (hn : n ≤ 4) (m : Nat) (hm : m < 1000) (i : Nat) (hi : i < 12) (S : Src st) :
    ∃ (p : List W) (st' : Store), (∀ fr, fr.length = 12 → fr[0]? = some (.val (.ref 1)) → fr[1]? = some (.val (.lst odd)) → fr[i]? = some (.val w) → i ≠ 6 → fr[6]? = some .no →
      eComp (iRng1 (aCons (eC (.int m)) aNil)) (gN 6) bYes (eCall (p_law_bent 12) (aCons (eVar 0) (aCons (eVar i) (aCons (eVar 1) aNil)))) [6] fr st = .ok (.fr, .lst p) st') ∧ p.length = m ∧ (∀ v ∈ p, Fine 8 3700000 v) ∧ Src st' := by
  obtain ⟨p, st', e, hl, hp, S'⟩ := draws_w (fun fr => fr[0]? = some (.val (.ref 1)) ∧ fr[1]? = some (.val (.lst odd)) ∧ fr[i]? = some (.val w) ∧ i ≠ 6) (Fine 8 3700000) 6 (el := eCall (p_law_bent 12) (aCons (eVar 0) (aCons (eVar i) (aCons (eVar 1) aNil)))) (fun st S => by
    obtain ⟨v, st', e, F, S'⟩ := law_bent_ok O n 12 w st (by omega) hb S
    refine ⟨v, st', fun fr u ⟨h0, h1, h2, hi6⟩ => ?_, S', F.mono (by omega) ?_⟩
    · have g0 : (fr.set 6 (.val u))[0]? = some (.val (.ref 1)) := by rw [List.getElem?_set_ne (by decide)]; exact h0
      have g1 : (fr.set 6 (.val u))[1]? = some (.val (.lst odd)) := by rw [List.getElem?_set_ne (by decide)]; exact h1
      have g2 : (fr.set 6 (.val u))[i]? = some (.val w) := by rw [List.getElem?_set_ne (fun h => hi6 h.symm)]; exact h2
      simp [g0, g1, g2, e]
    · have : n = 0 ∨ n = 1 ∨ n = 2 ∨ n = 3 ∨ n = 4 := by omega
      rcases this with h | h | h | h | h <;> subst h <;> decide) (rngW 0 m) st S
  rw [rng_len] at hl
  refine ⟨p, st', fun fr hlen h0 h1 h2 hi6 h6 => ?_, hl, hp, S'⟩
  refine e_compI (rng1_ok (by simp) (rng_inR (by omega))) ?_ ?_ (e fr [] ⟨h0, h1, h2, hi6⟩ (by rw [rng_len, sizeLine_eq]; simp; omega))
  · simp [noOwn, h6, isOwn]
  · show fr.set 6 .no = fr
    obtain ⟨hl6, e6⟩ := List.getElem?_eq_some_iff.mp h6
    rw [← e6]
    exact List.set_getElem_self hl6
theorem law_kinds_right_ok (O : Odd odd) (S : Src st) : ∃ st', p_law_kinds_right [.ref 1, .lst odd] st = .ok (.st, .bl true) st' ∧ Src st' := by
  obtain ⟨r1, s1, e1, S1, r10, r11⟩ := pick_ok (most := 3) S (by unfold Le; decide)
  have r11 := r11 (by decide)
  obtain ⟨k, hk⟩ : ∃ k : Nat, 1 + r1 = k := ⟨(1 + r1).toNat, by omega⟩
  obtain ⟨a, s2, e2, ca, A, la, S2, _⟩ := law_drawn_mean_ok (k := k) (most := 4) (many := 4) S1 (by omega) (by decide) (by decide)
  have e2' : p_law_drawn_mean [.ref 1, .int k, .int 4, .int 4] s1 = .ok (.st, meanW a) s2 := e2
  obtain ⟨x, s3, e3, S3, x0, x1⟩ := pick_ok (most := 41) S2 (by unfold Le; decide)
  have x1 := x1 (by decide)
  obtain ⟨y, s4, e4, S4, y0, y1⟩ := pick_ok (most := 20) S3 (by unfold Le; decide)
  have y1 := y1 (by decide)
  have lx : Le (x - 20) 2 := by unfold Le; omega
  have ly : Le (1 + y) 2 := by unfold Le; omega
  have hy : 1 + y ≠ 0 := by omega
  have e5 := fun st => law_fraction_ok (st := st) (x - 20) (1 + y) (lx.mono (by decide)) (ly.mono (by decide)) hy
  have f1 := nf_le hy lx
  have f2 := nf_le2 (p := x - 20) hy ly
  generalize nf (x - 20) (1 + y) = f at *
  obtain ⟨p, q⟩ := f
  have f1 : Le p 2 := f1
  have f2 : Le q 2 := f2
  have bm := bd_mean A (by omega) (by decide) (by omega)
  have br := bd_row A (by omega) (by decide)
  have bf : Bd 2 (frW (p, q)) := bd_ints (p := [p, q]) (fun z hz => by
    simp only [List.mem_cons, List.not_mem_nil, or_false] at hz
    rcases hz with h | h <;> subst h
    · exact f1.mono (by decide)
    · exact f2.mono (by decide)) (by show 2 ≤ 8; decide)
  obtain ⟨b1, s5, e6, lb1, fb1, S5⟩ := bents O bm (by decide) 10 (by decide) 3 (by decide) S4
  obtain ⟨dp, s6, hdp, e7, S6⟩ := law_of_ok (ws := odd) S5 O.len.1 O.len.2
  have fr3 : ∀ r ∈ a, Fine 7 405220 (rowW r) := fun r hr => (br r hr).fine
  have rows3 : ∀ w ∈ a.map rowW, Fine 7 405220 w := fun w hw => by
    obtain ⟨r, hr, rfl⟩ := List.mem_map.mp hw
    exact fr3 r hr
  have hcut : ∀ w ∈ cutW (a.map rowW) (some (-1)) none, w ∈ a.map rowW := fun w hw => List.mem_of_mem_drop (List.mem_of_mem_take hw)
  have lcut : (cutW (a.map rowW) (some (-1)) none).length ≤ 4 := by
    unfold cutW
    rw [List.length_take, List.length_drop, List.length_map]
    omega
  generalize hC : cutW (a.map rowW) (some (-1)) none = C at *
  have lrow : (a.map rowW).length ≤ 4 := by rw [List.length_map]; exact la
  have mp : mulOk p 2 := .inr (.inr ⟨by decide, by decide⟩)
  have mq : mulOk q 2 := .inr (.inr ⟨by decide, by decide⟩)
  -- the values
  have v1 : Fine 41 10000000 (meanW a) := bm.fine.mono (by decide) (by decide)
  have v2 : Fine 41 10000000 (.lst (a.map rowW)) := (Fine.lstc (c := 4) (d := 7) (n := 405220) (m := 10000000) lrow rows3 (by decide)).mono (by decide) (Nat.le_refl _)
  have v3 : Fine 41 10000000 (.tup (a.map rowW).reverse) := (Fine.tupc (c := 4) (d := 7) (n := 405220) (m := 10000000) (by rw [List.length_reverse]; exact lrow) (fun w hw => rows3 w (List.mem_reverse.mp hw)) (by decide)).mono (by decide) (Nat.le_refl _)
  have v4 : Fine 41 10000000 (.tup (a.map rowW ++ C)) := (Fine.tupc (c := 8) (d := 7) (n := 405220) (m := 10000000) (by rw [List.length_append]; omega) (fun w hw => (List.mem_append.mp hw).elim (rows3 w) fun h => rows3 w (hcut w h)) (by decide)).mono (by decide) (Nat.le_refl _)
  have v5 : Fine 41 10000000 (frW (p, q)) := bf.fine.mono (by decide) (by decide)
  have l2 : Le 2 1 := by unfold Le; decide
  have v6 : Fine 41 10000000 (.tup [.int (p * 2), .int (q * 2)]) := (Fine.tupc (c := 2) (d := 0) (n := 5000) (m := 20000) (Nat.le_refl _) (fun w hw => by
    simp only [List.mem_cons, List.not_mem_nil, or_false] at hw
    rcases hw with h | h <;> subst h
    · exact Fine.int ((f1.mul l2).mono (by decide))
    · exact Fine.int ((f2.mul l2).mono (by decide))) (by decide)).mono (by decide) (by decide)
  obtain ⟨V1, hV1⟩ : ∃ V1 : List W, V1 = [meanW a, .lst (a.map rowW), .tup (a.map rowW).reverse, .tup (a.map rowW ++ C), frW (p, q), .tup [.int (p * 2), .int (q * 2)]] := ⟨_, rfl⟩
  have fV1 : ∀ v ∈ V1, Fine 41 10000000 v := fun v hv => by
    subst hV1
    simp only [List.mem_cons, List.not_mem_nil, or_false] at hv
    rcases hv with h | h | h | h | h | h <;> subst h <;> first | exact v1 | exact v2 | exact v3 | exact v4 | exact v5 | exact v6
  have lV1 : V1.length = 6 := by subst hV1; rfl
  have lodd := O.len
  obtain ⟨s7, x8, s8, e8, ⟨w7, fw7, hs7⟩, S8⟩ := deep_loop (A := .lst odd) (B := .int k) (C := meanW a) (D := frW (p, q)) (E6 := .non) S6 (O.fine dp hdp) (V := V1 ++ odd ++ b1)
  obtain ⟨b2, s9, e9, lb2, fb2, S9⟩ := bents O bf (by decide) 6 (by decide) 4 (by decide) S8
  obtain ⟨fr', st', e10, ⟨x7, x9, x10, x11, rfl⟩, S10⟩ := for_draw (q := gN 9) (b := kindsBody) (fun _ fr => ∃ x8 x9 x10 x11, fr = [.val (.ref 1), .val (.lst odd), .val (.int k), .val (meanW a), .val (frW (p, q)), .own (.lst (V1 ++ odd ++ b1)), .no, .val w7, x8, x9, x10, x11])
    (V1 ++ odd ++ b1 ++ [w7, .tup [w7]] ++ b2) 0 [.val (.ref 1), .val (.lst odd), .val (.int k), .val (meanW a), .val (frW (p, q)), .own (.lst (V1 ++ odd ++ b1)), .no, .val w7, x8, .no, .no, .no] s9 ⟨_, _, _, _, rfl⟩ S9 fun j v fr st hv ⟨x8, x9, x10, x11, e⟩ S => by
      subst e
      have fv : Fine 41 10000000 v := by
        rcases List.mem_append.mp hv with h | h
        · rcases List.mem_append.mp h with h | h
          · rcases List.mem_append.mp h with h | h
            · rcases List.mem_append.mp h with h | h
              · exact fV1 v h
              · exact (O.fine v h).mono (by decide) (by decide)
            · exact (fb1 v h).mono (by decide) (by decide)
          · simp only [List.mem_cons, List.not_mem_nil, or_false] at h
            rcases h with h | h <;> subst h
            · exact fw7.mono (by decide) (by decide)
            · exact (Fine.tupc (c := 1) (d := 40) (n := 700) (m := 1000) (Nat.le_refl _) (fun u hu => by rw [List.mem_singleton.mp hu]; exact fw7) (by decide)).mono (Nat.le_refl _) (by decide)
        · exact (fb2 v h).mono (by decide) (by decide)
      exact ⟨[.val (.ref 1), .val (.lst odd), .val (.int k), .val (meanW a), .val (frW (p, q)), .own (.lst (V1 ++ odd ++ b1)), .no, .val w7, x8, .val v, x10, x11], _, st, rfl, kinds_turn fv, ⟨_, _, _, _, rfl⟩, S⟩
  refine ⟨st', ?_, S10⟩
  have hfz : ([7] : List Nat).foldr freezeF [.val (.ref 1), .val (.lst odd), .val (.int k), .val (meanW a), .val (frW (p, q)), .own (.lst (V1 ++ odd ++ b1)), .no, s7, x8, .no, .no, .no] = [.val (.ref 1), .val (.lst odd), .val (.int k), .val (meanW a), .val (frW (p, q)), .own (.lst (V1 ++ odd ++ b1)), .no, .val w7, x8, .no, .no, .no] := by
    rcases hs7 with rfl | ⟨ws, rfl, rfl⟩ <;> rfl
  have hk' : (1 : Int) + r1 = k := hk
  unfold p_law_kinds_right b_law_kinds_right
  refine body_rt (fr := [.val (.ref 1), .val (.lst odd), .no, .no, .no, .no, .no, .no, .no, .no, .no, .no]) rfl ?_
  refine (seq_nx (fr1 := [.val (.ref 1), .val (.lst odd), .val (.int k), .no, .no, .no, .no, .no, .no, .no, .no, .no]) (s1 := s1) (by simp [e1, hk'])).trans ?_
  refine (seq_nx (fr1 := [.val (.ref 1), .val (.lst odd), .val (.int k), .val (meanW a), .no, .no, .no, .no, .no, .no, .no, .no]) (s1 := s2) (by simp [e2'])).trans ?_
  refine (seq_nx (fr1 := [.val (.ref 1), .val (.lst odd), .val (.int k), .val (meanW a), .val (frW (p, q)), .no, .no, .no, .no, .no, .no, .no]) (s1 := s4) (by rw [q_law_fraction]; simp [e3, e4, e5])).trans ?_
  refine (seq_nx (fr1 := [.val (.ref 1), .val (.lst odd), .val (.int k), .val (meanW a), .val (frW (p, q)), .own (.lst V1), .no, .no, .no, .no, .no, .no]) (s1 := s4) (by
    have g : (a.map rowW).length + C.length ≤ sizeLine := by rw [sizeLine_eq]; omega
    have ha : fAdd (.tup (a.map rowW)) (.tup C) s4 = .ok (.st, .tup (a.map rowW ++ C)) s4 := by rw [ev_add_t, ev_grd g]
    subst hV1
    simp [-ev_add_t, -List.map_reverse, eSlice, oNone, oSome, fSlice, okS, eRevT, hC, ha, ev_mul mp, ev_mul mq])).trans ?_
  refine (seq_nx (fr1 := [.val (.ref 1), .val (.lst odd), .val (.int k), .val (meanW a), .val (frW (p, q)), .own (.lst (V1 ++ odd ++ b1)), .no, .no, .no, .no, .no, .no]) (s1 := s5) (by
    have h := e6 [.val (.ref 1), .val (.lst odd), .val (.int k), .val (meanW a), .val (frW (p, q)), .own (.lst V1), .no, .no, .no, .no, .no, .no] rfl rfl rfl rfl (by decide) rfl
    have h : eComp (iRng1 (aCons (eC (.int 10)) aNil)) (gN 6) bYes (eCall (p_law_bent 12) (aCons (eVar 0) (aCons (eVar 3) (aCons (eVar 1) aNil)))) [6] [.val (.ref 1), .val (.lst odd), .val (.int k), .val (meanW a), .val (frW (p, q)), .own (.lst V1), .no, .no, .no, .no, .no, .no] s4 = .ok (.fr, .lst b1) s5 := h
    have a1 : fAdd (.lst V1) (.lst odd) s4 = .ok (.fr, .lst (V1 ++ odd)) s4 := by rw [ev_add_l, ev_grd (by rw [sizeLine_eq]; omega)]
    have a2 : fAdd (.lst (V1 ++ odd)) (.lst b1) s5 = .ok (.fr, .lst (V1 ++ odd ++ b1)) s5 := by rw [ev_add_l, ev_grd (by rw [sizeLine_eq, List.length_append]; omega)]
    simp [-ev_comp, -ev_add_l, -List.append_assoc, h, a1, a2])).trans ?_
  refine (seq_nx (fr1 := [.val (.ref 1), .val (.lst odd), .val (.int k), .val (meanW a), .val (frW (p, q)), .own (.lst (V1 ++ odd ++ b1)), .no, .val dp, .no, .no, .no, .no]) (s1 := s6) (by simp [e7])).trans ?_
  refine (seq_nx (fr1 := [.val (.ref 1), .val (.lst odd), .val (.int k), .val (meanW a), .val (frW (p, q)), .own (.lst (V1 ++ odd ++ b1)), .no, s7, x8, .no, .no, .no]) (s1 := s8) (by
    have hI : iRng1 (aCons (eC (.int 36)) aNil) [.val (.ref 1), .val (.lst odd), .val (.int k), .val (meanW a), .val (frW (p, q)), .own (.lst (V1 ++ odd ++ b1)), .no, .val dp, .no, .no, .no, .no] s6 = .ok (rngW 0 36) s6 := rng1_ok (k := 36) (by simp) (rng_inR (by decide))
    rw [ev_for, hI, ev_bind]
    exact e8)).trans ?_
  refine (seq_nx (fr1 := _) (s1 := st') (by
    rw [ev_frz, hfz]
    have h : eComp (iRng1 (aCons (eC (.int 6)) aNil)) (gN 6) bYes (eCall (p_law_bent 12) (aCons (eVar 0) (aCons (eVar 4) (aCons (eVar 1) aNil)))) [6] [.val (.ref 1), .val (.lst odd), .val (.int k), .val (meanW a), .val (frW (p, q)), .own (.lst (V1 ++ odd ++ b1)), .no, .val w7, x8, .no, .no, .no] s8 = .ok (.fr, .lst b2) s9 := e9 _ rfl rfl rfl rfl (by decide) rfl
    have a1 : fAdd (.lst (V1 ++ odd ++ b1)) (.lst [w7, .tup [w7]]) s8 = .ok (.fr, .lst (V1 ++ odd ++ b1 ++ [w7, .tup [w7]])) s8 := by rw [ev_add_l, ev_grd (by rw [sizeLine_eq, List.length_append, List.length_append]; simp; omega)]
    have a2 : fAdd (.lst (V1 ++ odd ++ b1 ++ [w7, .tup [w7]])) (.lst b2) s9 = .ok (.fr, .lst (V1 ++ odd ++ b1 ++ [w7, .tup [w7]] ++ b2)) s9 := by rw [ev_add_l, ev_grd (by rw [sizeLine_eq, List.length_append, List.length_append, List.length_append]; simp; omega)]
    have hI : iSeq (eBin fAdd (eBin fAdd (eVar 5) (eLst (aCons (eVar 7) (aCons (eTup (aCons (eVar 7) aNil)) aNil)))) (eComp (iRng1 (aCons (eC (.int 6)) aNil)) (gN 6) bYes (eCall (p_law_bent 12) (aCons (eVar 0) (aCons (eVar 4) (aCons (eVar 1) aNil)))) [6]))
        [.val (.ref 1), .val (.lst odd), .val (.int k), .val (meanW a), .val (frW (p, q)), .own (.lst (V1 ++ odd ++ b1)), .no, .val w7, x8, .no, .no, .no] s8 = .ok (V1 ++ odd ++ b1 ++ [w7, .tup [w7]] ++ b2) s9 := by
      simp [-ev_comp, -ev_add_l, -List.append_assoc, h, a1, a2]
    rw [ev_for, hI, ev_bind]
    exact e10)).trans ?_
  rfl
end
end Vy.K50

set_option Elab.async false
set_option linter.all false
set_option maxRecDepth 100000
set_option maxHeartbeats 1000000
/-! k50: falling products, in plain numbers. -/
namespace Vy.K50
open PySem PySem.Spec PyProof.Rows L2 Vy.Mean Vy.K49
def stepR (i : Nat) (r : List Int) : List Int := List.zipWith (fun a b => a - (i : Int) * b) (r ++ [0]) (0 :: r)
def rowL : Nat → List Int
  | 0 => [1]
  | i + 1 => stepR i (rowL i)
theorem rowL_len : ∀ m, (rowL m).length = m + 1
  | 0 => rfl
  | m + 1 => by
    show (stepR m (rowL m)).length = _
    unfold stepR
    simp [rowL_len m]
def unitP (K k : Nat) (p : Int) : Pw := List.replicate k 0 ++ [p] ++ List.replicate (K - k - 1) 0
theorem unit_len {K k : Nat} {p : Int} (h : k < K) : (unitP K k p).length = K := by
  unfold unitP
  simp
  omega
theorem unit_mem {K k : Nat} {p x : Int} (h : x ∈ unitP K k p) : x = 0 ∨ x = p := by
  unfold unitP at h
  simp at h
  rcases h with ⟨_, h⟩ | h | ⟨_, h⟩
  · exact .inl h
  · exact .inr h
  · exact .inl h
def frows (K k : Nat) : Nat → List Int → List MRow
  | _, [] => []
  | i, c :: cs => (unitP K k i, c) :: frows K k (i + 1) cs
theorem frows_range (K k : Nat) : ∀ (cs : List Int) (i : Nat), frows K k i cs = (List.range cs.length).map fun j => ((unitP K k ((i + j : Nat) : Int), cs.getD j 0) : MRow)
  | [], i => rfl
  | c :: cs, i => by
    rw [List.length_cons, List.range_succ_eq_map, List.map_cons, List.map_map]
    show (unitP K k i, c) :: frows K k (i + 1) cs = _
    rw [frows_range K k cs (i + 1)]
    refine congrArg (List.cons (unitP K k i, c)) (List.map_congr_left fun j _ => ?_)
    show (unitP K k ((i + 1 + j : Nat) : Int), cs.getD j 0) = (unitP K k ((i + (j + 1) : Nat) : Int), cs.getD j 0)
    rw [show i + 1 + j = i + (j + 1) by omega]
theorem frows_mem {K k : Nat} : ∀ {cs : List Int} {i : Nat} {r : MRow}, r ∈ frows K k i cs → ∃ j : Nat, i ≤ j ∧ j < i + cs.length ∧ r.1 = unitP K k j ∧ r.2 ∈ cs
  | c :: cs, i, r, h => by
    rcases List.mem_cons.mp h with e | e
    · exact ⟨i, Nat.le_refl _, by rw [List.length_cons]; omega, by rw [e], by rw [e]; exact List.mem_cons_self ..⟩
    · obtain ⟨j, h1, h2, h3, h4⟩ := frows_mem e
      exact ⟨j, by omega, by rw [List.length_cons]; omega, h3, List.mem_cons_of_mem _ h4⟩
theorem lt_pre : ∀ (a : List Int) {x y : Int} {s t : List Int}, x < y → a ++ x :: s < a ++ y :: t
  | [], x, y, s, t, h => List.cons_lt_cons_iff.mpr (.inl h)
  | b :: a, x, y, s, t, h => List.cons_lt_cons_iff.mpr (.inr ⟨rfl, lt_pre a h⟩)
theorem unit_lt {K k : Nat} {i j : Int} (h : i < j) : unitP K k i < unitP K k j := by
  unfold unitP
  rw [List.append_assoc, List.append_assoc]
  exact lt_pre _ h
theorem frows_inc {K k : Nat} : ∀ (cs : List Int) (i : Nat), (frows K k i cs).Pairwise fun r s => r.1 < s.1
  | [], _ => List.Pairwise.nil
  | c :: cs, i => List.Pairwise.cons (fun s hs => by
      obtain ⟨j, h1, _, h3, _⟩ := frows_mem hs
      rw [h3]
      exact unit_lt (by omega)) (frows_inc cs (i + 1))
theorem coef_nz (a : List MRow) (p : Pw) : coef (a.filter fun r => decide (r.2 ≠ 0)) p = coef a p := by
  induction a with
  | nil => rfl
  | cons r a ih =>
    by_cases h : r.2 = 0
    · rw [List.filter_cons_of_neg (by simp [h]), ih]
      show coef a p = (if r.1 = p then r.2 else 0) + coef a p
      rw [h]
      by_cases e : r.1 = p <;> simp [e]
    · rw [List.filter_cons_of_pos (by simp [h])]
      show (if r.1 = p then r.2 else 0) + coef (a.filter _) p = _
      rw [ih]; rfl
theorem put_inc {a : List MRow} (h : a.Pairwise fun r s => r.1 < s.1) : put a = a.filter fun r => decide (r.2 ≠ 0) :=
  can_eq (put_can a) ⟨h.filter _, fun r hr => by simpa using (List.mem_filter.mp hr).2⟩ fun p => by rw [put_coef, coef_nz]
theorem frows_count {K k : Nat} : ∀ (cs : List Int) (i : Nat), ((frows K k i cs).filter fun r => decide (r.2 ≠ 0)).length = (cs.filter fun c => decide (c ≠ 0)).length
  | [], _ => rfl
  | c :: cs, i => by
    have ih := frows_count (K := K) (k := k) cs (i + 1)
    show (((unitP K k i, c) :: frows K k (i + 1) cs).filter fun r => decide (r.2 ≠ 0)).length = _
    by_cases h : c = 0
    · rw [List.filter_cons_of_neg (by simp [h]), List.filter_cons_of_neg (by simp [h]), ih]
    · rw [List.filter_cons_of_pos (by simp [h]), List.filter_cons_of_pos (by simp [h]), List.length_cons, List.length_cons, ih]
theorem rowL_count : ∀ m, m ≤ 12 → ((rowL m).filter fun c => decide (c ≠ 0)).length = if m = 0 then 1 else m := by
  have h : ∀ m : Fin 13, ((rowL m).filter fun c => decide (c ≠ 0)).length = if (m : Nat) = 0 then 1 else (m : Nat) := by decide +kernel
  exact fun m hm => h ⟨m, by omega⟩
theorem rowL_le : ∀ m, m ≤ 12 → ∀ c ∈ rowL m, Le c 12 := by
  have h : ∀ m : Fin 13, ∀ c ∈ rowL m, c.natAbs ≤ 10 ^ 12 := by decide +kernel
  exact fun m hm => h ⟨m, by omega⟩
/-! ### values -/
def prodI (n : Int) : Nat → Int
  | 0 => 1
  | i + 1 => prodI n i * (n - i)
def evP (n : Int) : List Int → Int
  | [] => 0
  | c :: cs => c * n ^ cs.length + evP n cs
theorem evP_snoc (n : Int) : ∀ cs : List Int, evP n (cs ++ [0]) = n * evP n cs
  | [] => by show 0 * n ^ 0 + 0 = n * 0; omega
  | c :: cs => by
    show c * n ^ (cs ++ [0]).length + evP n (cs ++ [0]) = n * (c * n ^ cs.length + evP n cs)
    rw [evP_snoc n cs, List.length_append, List.length_singleton, Int.pow_succ, Int.mul_add]
    simp only [Int.mul_assoc, Int.mul_comm, Int.mul_left_comm]
theorem evP_zip (n : Int) (i : Int) : ∀ xs ys : List Int, xs.length = ys.length → evP n (List.zipWith (fun a b => a - i * b) xs ys) = evP n xs - i * evP n ys
  | [], [], _ => by show (0 : Int) = 0 - i * 0; omega
  | x :: xs, y :: ys, h => by
    have h : xs.length = ys.length := by simpa using h
    show (x - i * y) * n ^ (List.zipWith (fun a b => a - i * b) xs ys).length + evP n (List.zipWith (fun a b => a - i * b) xs ys) = x * n ^ xs.length + evP n xs - i * (y * n ^ ys.length + evP n ys)
    rw [evP_zip n i xs ys h, List.length_zipWith, ← h, Nat.min_self, Int.sub_mul, Int.mul_add, Int.mul_assoc]
    omega
theorem evP_row (n : Int) : ∀ m, evP n (rowL m) = prodI n m
  | 0 => by show 1 * n ^ 0 + 0 = (1 : Int); rw [Int.pow_zero]; rfl
  | m + 1 => by
    show evP n (stepR m (rowL m)) = prodI n m * (n - m)
    unfold stepR
    rw [evP_zip n m _ _ (by simp), evP_snoc]
    show n * evP n (rowL m) - m * (0 * n ^ (rowL m).length + evP n (rowL m)) = _
    rw [evP_row n m, Int.zero_mul, Int.zero_add, Int.mul_sub, Int.mul_comm n, Int.mul_comm (m : Int)]
/-- the product of sizes, each to its power, of a unit's powers -/
theorem pp_zeros : ∀ (ns : List Int) (m : Nat), pp ns (List.replicate m 0) = 1
  | [], _ => rfl
  | _ :: _, 0 => rfl
  | n :: ns, m + 1 => by
    show n ^ 0 * pp ns (List.replicate m 0) = 1
    rw [pp_zeros ns m, Int.pow_zero]; rfl
theorem pp_unit {n : Int} {p : Nat} : ∀ {ns : List Int} {k : Nat} (t : Nat), ns[k]? = some n → pp ns (List.replicate k 0 ++ [(p : Int)] ++ List.replicate t 0) = n ^ p
  | [], k, t, h => by simp at h
  | m :: ns, 0, t, h => by
    cases h
    show n ^ ((p : Int)).toNat * pp ns (List.replicate t 0) = n ^ p
    rw [pp_zeros, Int.toNat_natCast, Int.mul_one]
  | m :: ns, k + 1, t, h => by
    have ih := pp_unit (p := p) (ns := ns) (k := k) t (by simpa using h)
    rw [List.replicate_succ]
    show m ^ (0 : Int).toNat * pp ns (List.replicate k 0 ++ [(p : Int)] ++ List.replicate t 0) = n ^ p
    rw [ih]
    show m ^ 0 * n ^ p = n ^ p
    rw [Int.pow_zero, Int.one_mul]
theorem unit_below {K k m p : Nat} (h : k < K) (hp : p ≤ m) : ∀ x ∈ List.zip (all K m) (unitP K k p), x.2 ≤ x.1 := all_below fun x hx => by
  rcases unit_mem hx with e | e <;> omega
theorem lin_frows {K k m : Nat} {ns : List Int} {n : Int} (hk : k < K) (hn : ns[k]? = some n) : ∀ (cs : List Int) (i : Nat), i + cs.length = m + 1 →
    lin (fun p => pp ns (subP (all K m) p)) (frows K k i cs) * n ^ m = pp ns (all K m) * evP n cs
  | [], i, _ => by show 0 * n ^ m = pp ns (all K m) * 0; rw [Int.zero_mul, Int.mul_zero]
  | c :: cs, i, h => by
    have hi : i + (cs.length + 1) = m + 1 := by simpa using h
    have ih := lin_frows (m := m) hk hn cs (i + 1) (by omega)
    have e := pp_two (ns := ns) (E := all K m) (g := unitP K k i) (by rw [List.length_replicate, unit_len hk]) (unit_below (p := i) hk (by omega)) fun x hx => by
      rcases unit_mem hx with e | e <;> omega
    have u : pp ns (unitP K k i) = n ^ i := pp_unit (p := i) _ hn
    rw [u] at e
    show (c * pp ns (subP (all K m) (unitP K k i)) + lin _ (frows K k (i + 1) cs)) * n ^ m = pp ns (all K m) * (c * n ^ cs.length + evP n cs)
    rw [Int.add_mul, ih, Int.mul_add]
    have hm : n ^ m = n ^ i * n ^ cs.length := by rw [← Int.pow_add]; congr 1; omega
    rw [← e, hm]
    simp only [Int.mul_assoc, Int.mul_comm, Int.mul_left_comm]
theorem frows_over {K k m : Nat} (hk : k < K) {cs : List Int} (hl : cs.length ≤ m + 1) : Over K m (frows K k 0 cs) := by
  refine ⟨fun r hr => ?_, fun r hr p hp => ?_, fun r hr p hp => ?_⟩ <;> obtain ⟨j, _, h2, h3, _⟩ := frows_mem hr
  · rw [h3, unit_len hk]
  · rw [h3] at hp
    rcases unit_mem hp with e | e <;> omega
  · rw [h3] at hp
    rcases unit_mem hp with e | e <;> omega
/-- the fraction of a falling product -/
theorem fall_at {K k m : Nat} {ns : List Int} {n : Int} (hs : Sizes K ns) (hk : k < K) (hn : ns[k]? = some n) (h1 : 1 ≤ n) :
    atF K (put (frows K k 0 (rowL m))) ns = nf (prodI n m) (n ^ m) := by
  have O := frows_over (K := K) (k := k) (m := m) hk (cs := rowL m) (by rw [rowL_len]; exact Nat.le_refl _)
  rw [at_over hs O.put, over_put]
  have e := lin_frows (m := m) hk hn (rowL m) 0 (by rw [rowL_len]; omega)
  rw [evP_row] at e
  have hp : n ^ m ≠ 0 := by have := @Int.pow_pos n m (show (0 : Int) < n by omega); omega
  refine nf_eq (all_pos hs) hp ?_
  show lin _ _ * n ^ m = _
  rw [e, Int.mul_comm]
end Vy.K50

set_option Elab.async false
set_option linter.all false
set_option maxRecDepth 100000
set_option maxHeartbeats 2000000
/-! k50: falling products told. -/
namespace Vy.K50
open PySem PySem.Spec PyProof.Rows L2 Vy.Mean Vy.K49
/-! ### rising rows are a mean -/
theorem lexAt_shift {e r : Nat → Bool} {z : Bool} : ∀ (k i : Nat), Ob.lexAt (fun j => e (j + 1)) (fun j => r (j + 1)) z i k = Ob.lexAt e r z (i + 1) k
  | 0, _ => rfl
  | k + 1, i => by
    rw [Ob.lexAt_succ, Ob.lexAt_succ, lexAt_shift k (i + 1)]
theorem lexB_cons {p : Int → Int → Bool} {z : Nat → Nat → Bool} (hz : ∀ a b, z (a + 1) (b + 1) = z a b) (x y : Int) (xs ys : List Int) : lexB p z (x :: xs) (y :: ys) = if x = y then lexB p z xs ys else p x y := by
  unfold lexB
  rw [List.length_cons, List.length_cons, hz, Nat.add_min_add_right, Ob.lexAt_succ, ← lexAt_shift]
  by_cases h : x = y
  · simp [h]
  · simp [h]
theorem lex_lt : ∀ {ns ms : List Int}, ns < ms → lexB (fun i j => decide (i < j)) (fun a b => decide (a < b)) ns ms = true
  | [], [], h => (List.lt_irrefl _ h).elim
  | [], y :: ys, _ => rfl
  | x :: xs, [], h => by simp at h
  | x :: xs, y :: ys, h => by
    rw [lexB_cons (fun a b => by rw [decide_eq_decide]; omega)]
    rcases List.cons_lt_cons_iff.mp h with h | ⟨e, h⟩
    · rw [if_neg (by omega)]; simpa using h
    · rw [if_pos e]; exact lex_lt h
theorem isMean_of {K : Nat} {a : List MRow} (ca : Can a) (h : ∀ r ∈ a, r.1.length = K ∧ ∀ x ∈ r.1, 0 ≤ x) : isMean K (meanW a) = true := by
  unfold isMean
  rw [Bool.and_eq_true]
  constructor
  · rw [List.all_map, List.all_eq_true]
    intro r hr
    obtain ⟨h1, h2⟩ := h r hr
    show (arePow K (pwW r.1) && decide (r.2 ≠ 0)) = true
    unfold arePow
    rw [Bool.and_eq_true, Bool.and_eq_true]
    refine ⟨⟨by simpa using h1, ?_⟩, by simpa using ca.nz r hr⟩
    rw [List.all_map, List.all_eq_true]
    intro x hx
    show decide (0 ≤ x) = true
    simpa using h2 x hx
  · unfold ascW
    rw [List.all_eq_true]
    intro i hi
    have hi := List.mem_range.mp hi
    rw [List.length_map] at hi
    have e : ∀ j, j < a.length → ∃ h : j < a.length, (a.map rowW).getD j .non = rowW a[j] := fun j hj => ⟨hj, by rw [List.getD_eq_getElem?_getD, List.getElem?_map, List.getElem?_eq_getElem hj]; rfl⟩
    obtain ⟨h1, e1⟩ := e i (by omega)
    obtain ⟨h2, e2⟩ := e (i + 1) (by omega)
    rw [e1, e2]
    unfold ltB
    rw [pows_form, pows_form]
    exact lex_lt (List.pairwise_iff_getElem.mp ca.inc i (i + 1) h1 h2 (by omega))
/-! ### the walk -/
section
variable {st : Store} {K k m : Nat}
theorem rep_one (n : Nat) : (List.replicate n [W.int 0]).flatten = (List.replicate n (0 : Int)).map W.int := rep_zero n
theorem mulX_ok {n : Nat} (h : n ≤ 1000) : fMulX (.tup [.int 0]) (.int n) st = .ok (.st, pwW (List.replicate n 0)) st := by
  cases n with
  | zero => rfl
  | succ n =>
    have e : fMulX (.tup [.int 0]) (.int ((n + 1 : Nat) : Int)) st = (if ((n + 1 : Nat) : Int) ≤ 0 then grd ([W.int 0] ≠ [] ∧ -(2 ^ 63) ≤ ((n + 1 : Nat) : Int)) (okS (.tup []) st) else fMul (.tup [.int 0]) (.int ((n + 1 : Nat) : Int)) st) := rfl
    rw [e, if_neg (by omega)]
    show grd ([W.int 0] ≠ [] ∧ (1 : Int) ≤ ((n + 1 : Nat) : Int) ∧ ((n + 1 : Nat) : Int) ≤ 1000 ∧ [W.int 0].length ≤ 1000) (Res.ok (Kd.st, W.tup (List.replicate ((n + 1 : Nat) : Int).toNat [W.int 0]).flatten) st) = _
    rw [ev_grd ⟨by simp, by omega, by omega, by decide⟩, Int.toNat_natCast, rep_zero]
theorem zip_with (f : Int → Int → Int) : ∀ xs ys : List Int, (List.zipWith f xs ys).map W.int = (List.zip xs ys).map fun x => .int (f x.1 x.2)
  | [], _ => rfl
  | _ :: _, [] => rfl
  | x :: xs, y :: ys => congrArg (W.int (f x y) :: ·) (zip_with f xs ys)
noncomputable abbrev fallBody : PM := (sSet 3 (eComp (iZip2 (aCons (eLst (aStar (eVar 3) (aCons (eC (.int 0)) aNil))) (aCons (eLst (aCons (eC (.int 0)) (aStar (eVar 3) aNil))) aNil))) (gTp 2 (gsCons (gN 5) (gsCons (gN 6) gsNil))) bYes (eBin fSub (eVar 5) (eBin fMul (eVar 4) (eVar 6))) [5, 6]))
theorem fall_turn {A B C : W} {i : Nat} {r : List Int} (hi : i ≤ 12) (hr : r.length ≤ 20) :
    fallBody [.val A, .val B, .val C, .own (.lst (r.map W.int)), .val (.int i), .no, .no, .no, .no] st = .ok (.nx [.val A, .val B, .val C, .own (.lst ((stepR i r).map W.int)), .val (.int i), .no, .no, .no, .no]) st := by
  have hI : iZip2 (aCons (eLst (aStar (eVar 3) (aCons (eC (.int 0)) aNil))) (aCons (eLst (aCons (eC (.int 0)) (aStar (eVar 3) aNil))) aNil)) [.val A, .val B, .val C, .own (.lst (r.map W.int)), .val (.int i), .no, .no, .no, .no] st =
      .ok ((List.zip (r ++ [0]) (0 :: r)).map fun x : Int × Int => .tup [.int x.1, .int x.2]) st := by
    rw [← zip_ints]
    have h1 : r.length + 1 ≤ 16777216 := by omega
    simp [iZip2, h1]
  have b1 : (-(2 ^ 64) : Int) < 0 := by decide
  have b2 : (12 : Int) < 2 ^ 64 := by decide
  have hm : ∀ x : Int, mulOk (i : Int) x := fun x => .inr (.inl ⟨by omega, by omega⟩)
  have hc := comp_map (q := gTp 2 (gsCons (gN 5) (gsCons (gN 6) gsNil))) (el := eBin fSub (eVar 5) (eBin fMul (eVar 4) (eVar 6))) (st := st) (fr := [.val A, .val B, .val C, .own (.lst (r.map W.int)), .val (.int i), .no, .no, .no, .no])
    (fun x : Int × Int => .tup [.int x.1, .int x.2]) (fun x => .int (x.1 - (i : Int) * x.2)) (List.zip (r ++ [0]) (0 :: r)) [] (by rw [sizeLine_eq]; simp; omega) fun x _ =>
      ⟨[.val A, .val B, .val C, .own (.lst (r.map W.int)), .val (.int i), .val (.int x.1), .val (.int x.2), .no, .no], by simp, .st, by simp [ev_mul (hm x.2)], rfl⟩
  rw [List.nil_append, ← zip_with (fun a b => a - (i : Int) * b)] at hc
  have hE := e_compI (vs := [5, 6]) hI rfl rfl hc
  unfold fallBody
  rw [ev_set, hE, ev_bind]
  rfl
theorem falling_ok (hk : k < K) (hK : K ≤ 3) (hm : m ≤ 12) : p_falling [.int K, .int k, .int m] st = .ok (.st, meanW (put (frows K k 0 (rowL m)))) st := by
  obtain ⟨fr', st', e, hj, x4, e1, e2⟩ := for_run (q := gN 4) (b := fallBody) (fun j fr st' => j ≤ m ∧ ∃ x4, fr = [.val (.int K), .val (.int k), .val (.int m), .own (.lst ((rowL j).map W.int)), x4, .no, .no, .no, .no] ∧ st' = st) (rngW 0 m) 0
    [.val (.int K), .val (.int k), .val (.int m), .own (.lst [.int 1]), .no, .no, .no, .no, .no] st ⟨Nat.zero_le _, _, rfl, rfl⟩ fun j w fr st' hw ⟨hj, x4, e1, e2⟩ => by
      subst e1 e2
      rw [Nat.zero_add] at *
      have hjl : j < m := by have := (List.getElem?_eq_some_iff.mp hw).1; rw [rng_len] at this; exact this
      have ew : w = .int j := by
        rw [rngW_map, List.getElem?_map, List.getElem?_range hjl] at hw
        have hw : some (W.int (0 + (j : Nat))) = some w := hw
        cases hw
        rw [Int.zero_add]
      subst ew
      exact ⟨[.val (.int K), .val (.int k), .val (.int m), .own (.lst ((rowL j).map W.int)), .val (.int j), .no, .no, .no, .no], _, st', rfl, fall_turn (by omega) (by rw [rowL_len]; omega), by omega, _, rfl, rfl⟩
  subst e1 e2
  rw [Nat.zero_add, rng_len] at *
  have hl := rowL_len m
  have hI : iRng1 (aCons (eVar 2) aNil) [.val (.int K), .val (.int k), .val (.int m), .own (.lst [.int 1]), .no, .no, .no, .no, .no] st' = .ok (rngW 0 m) st' := rng1_ok (by simp) (rng_inR (by omega))
  have hE : iEnum (aCons (eVar 3) aNil) [.val (.int K), .val (.int k), .val (.int m), .val (.lst ((rowL m).map W.int)), x4, .no, .no, .no, .no] st' = .ok ((List.range (rowL m).length).map fun j => .tup [.int ((0 + j : Nat) : Int), .int ((rowL m).getD j 0)]) st' := by
    have z : zipW (rngW 0 ((rowL m).map W.int).length) ((rowL m).map W.int) = (List.range (rowL m).length).map fun j => W.tup [.int ((0 + j : Nat) : Int), .int ((rowL m).getD j 0)] := by
      refine List.ext_getElem? fun j => ?_
      unfold zipW
      rw [List.getElem?_zipWith, rngW_map, List.getElem?_map, List.getElem?_map, List.getElem?_map, List.length_map]
      by_cases hj : j < (rowL m).length
      · rw [List.getElem?_range hj, List.getElem?_eq_getElem hj]
        simp [hj]
      · rw [List.getElem?_eq_none (by simpa using hj), List.getElem?_eq_none (by simpa using hj)]
        rfl
    rw [← z]
    rfl
  have hc := comp_map (q := gTp 2 (gsCons (gN 7) (gsCons (gN 8) gsNil))) (el := eTup (aCons (eBin fAdd (eBin fAdd (eBin fMulX (eTup (aCons (eC (.int 0)) aNil)) (eVar 1)) (eTup (aCons (eVar 7) aNil))) (eBin fMulX (eTup (aCons (eC (.int 0)) aNil)) (eBin fSub (eBin fSub (eVar 0) (eVar 1)) (eC (.int 1))))) (aCons (eVar 8) aNil))) (st := st') (fr := [.val (.int K), .val (.int k), .val (.int m), .val (.lst ((rowL m).map W.int)), x4, .no, .no, .no, .no])
    (fun j : Nat => .tup [.int ((0 + j : Nat) : Int), .int ((rowL m).getD j 0)]) (fun j => rowW (unitP K k ((0 + j : Nat) : Int), (rowL m).getD j 0)) (List.range (rowL m).length) [] (by rw [sizeLine_eq]; simp; omega) fun j hj =>
      ⟨[.val (.int K), .val (.int k), .val (.int m), .val (.lst ((rowL m).map W.int)), x4, .no, .no, .val (.int ((0 + j : Nat) : Int)), .val (.int ((rowL m).getD j 0))], by simp, .st, by
        have m1 := fun st => mulX_ok (st := st) (n := k) (by omega)
        have m2 := fun st => mulX_ok (st := st) (n := K - k - 1) (by omega)
        have e3 : (K : Int) - (k : Int) - 1 = ((K - k - 1 : Nat) : Int) := by omega
        have a1 : ∀ p : Int, fAdd (pwW (List.replicate k 0)) (.tup [.int p]) st' = .ok (.st, pwW (List.replicate k 0 ++ [p])) st' := fun p => by
          rw [ev_add_t, ev_grd (by rw [sizeLine_eq]; simp; omega)]
          show Res.ok (Kd.st, W.tup ((List.replicate k 0).map W.int ++ [W.int p])) st' = Res.ok (Kd.st, W.tup ((List.replicate k 0 ++ [p]).map W.int)) st'
          rw [List.map_append]; rfl
        have a2 : ∀ p : Int, fAdd (pwW (List.replicate k 0 ++ [p])) (pwW (List.replicate (K - k - 1) 0)) st' = .ok (.st, pwW (unitP K k p)) st' := fun p => by
          rw [ev_add_t, ev_grd (by rw [sizeLine_eq]; simp; omega)]
          unfold unitP
          show Res.ok (Kd.st, W.tup ((List.replicate k 0 ++ [p]).map W.int ++ (List.replicate (K - k - 1) 0).map W.int)) st' = Res.ok (Kd.st, W.tup ((List.replicate k 0 ++ [p] ++ List.replicate (K - k - 1) 0).map W.int)) st'
          rw [List.map_append (l₁ := List.replicate k 0 ++ [p])]
        simp [-ev_add_t, -List.map_replicate, -List.map_append, -List.append_assoc, -List.getD_eq_getElem?_getD, -Int.natCast_sub, m1, m2, e3, a1, a2], rfl⟩
  have hrow : (List.range (rowL m).length).map (fun j => rowW (unitP K k ((0 + j : Nat) : Int), (rowL m).getD j 0)) = (frows K k 0 (rowL m)).map rowW := by
    rw [frows_range, List.map_map]; rfl
  rw [List.nil_append, hrow] at hc
  have hC := e_compI (vs := [7, 8]) hE rfl rfl hc
  have hR := fun st => mean_rows (st := st) (w := .lst ((frows K k 0 (rowL m)).map rowW)) (rs := frows K k 0 (rowL m)) rfl (by
    rw [frows_range, List.length_map, List.length_range, hl, sizeLine_eq]; omega)
  unfold p_falling b_falling
  refine body_rt (fr := [.val (.int K), .val (.int k), .val (.int m), .no, .no, .no, .no, .no, .no]) rfl ?_
  refine (seq_nx (fr1 := [.val (.int K), .val (.int k), .val (.int m), .own (.lst [.int 1]), .no, .no, .no, .no, .no]) (s1 := st') (by simp)).trans ?_
  refine (seq_nx (fr1 := [.val (.int K), .val (.int k), .val (.int m), .own (.lst ((rowL m).map W.int)), x4, .no, .no, .no, .no]) (s1 := st') (by rw [ev_for, hI, ev_bind]; exact e)).trans ?_
  rw [ev_frz]
  show sRet _ [.val (.int K), .val (.int k), .val (.int m), .val (.lst ((rowL m).map W.int)), x4, .no, .no, .no, .no] st' = _
  rw [ev_ret, ev_call, ev_acons, hC, q_mean_of_rows]
  simp [hR]
end
end Vy.K50

set_option Elab.async false
set_option linter.all false
set_option maxRecDepth 100000
set_option maxHeartbeats 2000000
/-! k50: rows of unlike things. -/
namespace Vy.K50
open PySem PySem.Spec PyProof.Rows L2 Vy.Mean Vy.K49
def behind (rows : List Pw) (xs : List Int) : List Pw := rows.flatMap fun r => xs.map fun x => r ++ [x]
def upto (n : Nat) : List Int := (List.range n).map fun (i : Nat) => ((i : Nat) : Int)
def rowsU (n : Nat) : Nat → List Pw
  | 0 => [[]]
  | i + 1 => behind (rowsU n i) (upto n)
def unlikeK (row : Pw) : Nat := (mergeW ([], []) (row.map fun x => ((.inl x : Key), W.int 0))).2.length
def unF (m : Nat) : W → Bool
  | .tup ps => decide (unlikeK ((intsOf ps).getD []) = m)
  | _ => false
theorem unF_at {m : Nat} (r : Pw) : unF m (pwW r) = decide (unlikeK r = m) := by
  unfold unF pwW
  simp only [K49.ints_map, Option.getD_some]
theorem rowsU_small : ∀ n m, n ≤ 3 → m ≤ 4 → (rowsU n m).length ≤ 81 ∧ ∀ r ∈ rowsU n m, r.length ≤ 4 := by
  have h : ∀ n : Fin 4, ∀ m : Fin 5, (rowsU n m).length ≤ 81 ∧ ∀ r ∈ rowsU n m, r.length ≤ 4 := by decide +kernel
  exact fun n m hn hm => h ⟨n, by omega⟩ ⟨m, by omega⟩
theorem rowsU_count : ∀ n m, 1 ≤ n → n ≤ 3 → m ≤ 4 → ((((rowsU n m).filter fun r => decide (unlikeK r = m)).length : Nat) : Int) = prodI n m ∧ (((rowsU n m).length : Nat) : Int) = (n : Int) ^ m := by
  have h : ∀ n : Fin 4, ∀ m : Fin 5, (n : Nat) = 0 ∨ (((((rowsU n m).filter fun r => decide (unlikeK r = m)).length : Nat) : Int) = prodI ((n : Nat) : Int) m ∧ (((rowsU n m).length : Nat) : Int) = ((n : Nat) : Int) ^ (m : Nat)) := by decide +kernel
  exact fun n m h1 hn hm => (h ⟨n, by omega⟩ ⟨m, by omega⟩).resolve_left (by show ¬ n = 0; omega)
section
variable {st : Store} {n m : Nat}
theorem behind_snoc (rows : List Pw) (r : Pw) (xs : List Int) : behind (rows ++ [r]) xs = behind rows xs ++ xs.map fun x => r ++ [x] := by
  unfold behind
  rw [List.flatMap_append]
  simp
theorem behind_len (rows : List Pw) (xs : List Int) : (behind rows xs).length = rows.length * xs.length := by
  unfold behind
  induction rows with
  | nil => simp
  | cons r rows ih => rw [List.flatMap_cons, List.length_append, ih, List.length_map, List.length_cons, Nat.add_mul]; omega
theorem each_behind_ok {rows : List Pw} {xs : List Int} (hr : rows.length ≤ 1000) (hx : xs.length ≤ 1000) (hw : ∀ r ∈ rows, r.length ≤ 1000) :
    p_law_each_behind [.lst (rows.map pwW), .lst (xs.map W.int)] st = .ok (.fr, .lst ((behind rows xs).map pwW)) st := by
  obtain ⟨fr', st', e, hp, x3, e1, e2⟩ := for_map (q := gN 3) (b := sExt 2 (eComp (iSeqL (eVar 1)) (gN 4) bYes (eBin fAdd (eVar 3) (eTup (aCons (eVar 4) aNil))) [4])) pwW
    (fun pre fr st' => (∀ r ∈ pre, r ∈ rows) ∧ ∃ x3, fr = [.val (.lst (rows.map pwW)), .val (.lst (xs.map W.int)), .own (.lst ((behind pre xs).map pwW)), x3, .no] ∧ st' = st) rows
    [.val (.lst (rows.map pwW)), .val (.lst (xs.map W.int)), .own (.lst []), .no, .no] st ⟨fun _ h => (nomatch h), _, rfl, rfl⟩ fun pre r fr st' hr' hpre ⟨hin, x3, e1, e2⟩ => by
      subst e1 e2
      have hc := comp_map (q := gN 4) (el := eBin fAdd (eVar 3) (eTup (aCons (eVar 4) aNil))) (st := st') (fr := [.val (.lst (rows.map pwW)), .val (.lst (xs.map W.int)), .own (.lst ((behind pre xs).map pwW)), .val (pwW r), .no])
        W.int (fun x => pwW (r ++ [x])) xs [] (by rw [sizeLine_eq]; simp; omega) fun x _ => ⟨[.val (.lst (rows.map pwW)), .val (.lst (xs.map W.int)), .own (.lst ((behind pre xs).map pwW)), .val (pwW r), .val (.int x)], by simp, .st, by
          have hl := hw r hr'
          have a1 : fAdd (pwW r) (.tup [.int x]) st' = .ok (.st, pwW (r ++ [x])) st' := by
            rw [ev_add_t, ev_grd (by rw [sizeLine_eq]; simp; omega)]
            show Res.ok (Kd.st, W.tup (r.map W.int ++ [W.int x])) st' = Res.ok (Kd.st, W.tup ((r ++ [x]).map W.int)) st'
            rw [List.map_append]; rfl
          simp [-ev_add_t, -List.map_append, a1], rfl⟩
      rw [List.nil_append] at hc
      have hE := e_compI (qi := iSeqL (eVar 1)) (vs := [4]) (fr := [.val (.lst (rows.map pwW)), .val (.lst (xs.map W.int)), .own (.lst ((behind pre xs).map pwW)), .val (pwW r), .no]) (st := st') (st1 := st') (by simp) rfl rfl hc
      refine ⟨[.val (.lst (rows.map pwW)), .val (.lst (xs.map W.int)), .own (.lst ((behind pre xs).map pwW)), .val (pwW r), .no], [.val (.lst (rows.map pwW)), .val (.lst (xs.map W.int)), .own (.lst ((behind (pre ++ [r]) xs).map pwW)), .val (pwW r), .no], st', by simp, ?_, ?_, _, rfl, rfl⟩
      · have hz : ((behind pre xs).map pwW).length + (xs.map fun x => pwW (r ++ [x])).length ≤ sizeLine := by
          rw [List.length_map, List.length_map, behind_len, sizeLine_eq]
          have := Nat.mul_le_mul (show pre.length ≤ 1000 by omega) hx
          omega
        unfold sExt
        rw [hE]
        have hm : (behind (pre ++ [r]) xs).map pwW = (behind pre xs).map pwW ++ xs.map fun x => pwW (r ++ [x]) := by
          rw [behind_snoc, List.map_append, List.map_map]; rfl
        rw [hm]
        have hz2 : (behind pre xs).length + xs.length ≤ 16777216 := by simpa [sizeLine_eq] using hz
        simp [hz2]
      · intro s hs
        rcases List.mem_append.mp hs with h | h
        · exact hin s h
        · rw [List.mem_singleton.mp h]; exact hr'
  subst e1 e2
  unfold p_law_each_behind b_law_each_behind
  refine body_rt (fr := [.val (.lst (rows.map pwW)), .val (.lst (xs.map W.int)), .no, .no, .no]) rfl ?_
  refine (seq_nx (fr1 := [.val (.lst (rows.map pwW)), .val (.lst (xs.map W.int)), .own (.lst []), .no, .no]) (s1 := st') (by simp)).trans ?_
  refine (seq_nx (fr1 := [.val (.lst (rows.map pwW)), .val (.lst (xs.map W.int)), .own (.lst ((behind rows xs).map pwW)), x3, .no]) (s1 := st') (by simp [e])).trans ?_
  rfl
theorem rngI_upto (n : Nat) : rngI 0 (n : Int) = (upto n).map W.int := by
  unfold rngI upto
  rw [List.map_map, Int.sub_zero, Int.toNat_natCast]
  exact List.map_congr_left fun i _ => by show W.int (0 + (i : Nat)) = W.int (i : Nat); rw [Int.zero_add]
theorem pairs_row (row : Pw) : pairsOf (row.map fun x => W.tup [.int x, .int 0]) = some (row.map fun x => ((.inl x : Key), W.int 0)) := by
  induction row with
  | nil => rfl
  | cons x row ih =>
    show (match pairOf (W.tup [.int x, .int 0]), pairsOf (row.map fun x => W.tup [.int x, .int 0]) with | some p, some ps => some (p :: ps) | _, _ => none) = _
    rw [ih]; rfl
theorem rg_ok (hn : n ≤ 3) : RgOk 0 (n : Int) := by
  have b1 : (3 : Int) < 2 ^ 62 := by decide
  have b2 : -((2 : Int) ^ 62) ≤ 0 := by decide
  unfold RgOk
  refine ⟨b2, ?_, ?_, ?_, ?_⟩
  · omega
  · omega
  · omega
  · have : ((n : Int) - 0).toNat ≤ 3 := by omega
    exact Nat.le_trans this (by decide)
theorem lrng1_gen {p : PX} {fr : Frame} {st st1 : Store} {kd : Kd} {b : Int} (h : p fr st = .ok (kd, .int b) st1) (hg : RgOk 0 b) : eLRng1 p fr st = .ok (.fr, .lst (rngI 0 b)) st1 := by
  unfold eLRng1
  rw [h, ev_bind]
  exact ev_grd hg
theorem lrng2_gen {p q : PX} {fr : Frame} {st st1 st2 : Store} {kd kd2 : Kd} {a b : Int} (h : p fr st = .ok (kd, .int a) st1) (h2 : q fr st1 = .ok (kd2, .int b) st2) (hg : RgOk a b) : eLRng2 p q fr st = .ok (.fr, .lst (rngI a b)) st2 := by
  unfold eLRng2
  rw [h, ev_bind, h2, ev_bind]
  exact ev_grd hg
theorem lrng_ok {w : W} {rows : List Pw} (hn : n ≤ 3) : eLRng1 (eVar 0) [.val (.int n), .val (.int m), .val (.lst (rows.map pwW)), .val w, .no, .no] st = .ok (.fr, .lst ((upto n).map W.int)) st := by
  rw [← rngI_upto]
  exact lrng1_gen (kd := .st) rfl (rg_ok hn)
theorem rows_unlike_ok (hn : n ≤ 3) (hm : m ≤ 4) : p_law_rows_unlike [.int n, .int m] st = .ok (.st, .tup [.int (((rowsU n m).filter fun r => decide (unlikeK r = m)).length : Nat), .int ((rowsU n m).length : Nat)]) st := by
  obtain ⟨fr', st', e, hj, x3, e1, e2⟩ := for_run (q := gN 3) (b := sFrz [2] (sSet 2 (eCall p_law_each_behind (aCons (eVar 2) (aCons (eLRng1 (eVar 0)) aNil))))) (fun j fr st' => j ≤ m ∧ ∃ x3, fr = [.val (.int n), .val (.int m), .own (.lst ((rowsU n j).map pwW)), x3, .no, .no] ∧ st' = st) (rngW 0 m) 0
    [.val (.int n), .val (.int m), .own (.lst [.tup []]), .no, .no, .no] st ⟨Nat.zero_le _, _, rfl, rfl⟩ fun j w fr st' hw ⟨hj, x3, e1, e2⟩ => by
      subst e1 e2
      rw [Nat.zero_add] at *
      have hjl : j < m := by have := (List.getElem?_eq_some_iff.mp hw).1; rw [rng_len] at this; exact this
      have hs := rowsU_small n j hn (by omega)
      have hb := fun st => each_behind_ok (st := st) (rows := rowsU n j) (xs := upto n) (by omega) (by unfold upto; simp; omega) fun r hr => by have := hs.2 r hr; omega
      have hL := fun st => lrng_ok (st := st) (n := n) (m := m) (w := w) (rows := rowsU n j) hn
      refine ⟨[.val (.int n), .val (.int m), .own (.lst ((rowsU n j).map pwW)), .val w, .no, .no], [.val (.int n), .val (.int m), .own (.lst ((rowsU n (j + 1)).map pwW)), .val w, .no, .no], st', rfl, ?_, by omega, _, rfl, rfl⟩
      rw [ev_frz]
      show sSet 2 _ [.val (.int n), .val (.int m), .val (.lst ((rowsU n j).map pwW)), .val w, .no, .no] st' = _
      simp [hL, hb]
      rfl
  subst e1 e2
  rw [Nat.zero_add, rng_len] at *
  have hs := rowsU_small n m hn hm
  have hI : iRng1 (aCons (eVar 1) aNil) [.val (.int n), .val (.int m), .own (.lst [.tup []]), .no, .no, .no] st' = .ok (rngW 0 m) st' := rng1_ok (by simp) (rng_inR (by omega))
  have hc := comp_if (q := gN 4) (c := bOf (eBin fEq (eC1 fLen (eC1 fDictP (eComp (iSeqL (eVar 4)) (gN 5) bYes (eTup (aCons (eVar 5) (aCons (eC (.int 0)) aNil))) [5]))) (eVar 1))) (el := eVar 4) (st := st') (fr := [.val (.int n), .val (.int m), .own (.lst ((rowsU n m).map pwW)), x3, .no, .no])
    (ws := (rowsU n m).map pwW) (unF m) (by rw [sizeLine_eq, List.length_map]; omega) fun w hw => by
      obtain ⟨r, hr, rfl⟩ := List.mem_map.mp hw
      have hrl := hs.2 r hr
      have hc2 := comp_map (q := gN 5) (el := eTup (aCons (eVar 5) (aCons (eC (.int 0)) aNil))) (st := st') (fr := [.val (.int n), .val (.int m), .own (.lst ((rowsU n m).map pwW)), x3, .val (pwW r), .no]) W.int (fun x => .tup [.int x, .int 0]) r [] (by rw [sizeLine_eq]; simp; omega) fun x _ =>
        ⟨[.val (.int n), .val (.int m), .own (.lst ((rowsU n m).map pwW)), x3, .val (pwW r), .val (.int x)], by simp, .st, by simp, rfl⟩
      rw [List.nil_append] at hc2
      have hE := e_compI (qi := iSeqL (eVar 4)) (vs := [5]) (fr := [.val (.int n), .val (.int m), .own (.lst ((rowsU n m).map pwW)), x3, .val (pwW r), .no]) (st := st') (st1 := st') (by simp) rfl rfl hc2
      have hd : fDictP (.lst (r.map fun x => W.tup [.int x, .int 0])) st' = .ok (.fr, .dct (.k (mergeW ([], []) (r.map fun x => ((.inl x : Key), W.int 0))).1) (mergeW ([], []) (r.map fun x => ((.inl x : Key), W.int 0))).2) st' := by
        show (match pairsOf (r.map fun x => W.tup [.int x, .int 0]) with | some ps => (let r := mergeW ([], []) ps; Res.ok (Kd.fr, W.dct (.k r.1) r.2) st') | none => .bad) = _
        rw [pairs_row]
      have hl : fLen (.dct (.k (mergeW ([], []) (r.map fun x => ((.inl x : Key), W.int 0))).1) (mergeW ([], []) (r.map fun x => ((.inl x : Key), W.int 0))).2) st' = .ok (.st, .int (unlikeK r : Nat)) st' := rfl
      have hq : fEq (.int (unlikeK r : Nat)) (.int (m : Nat)) st' = .ok (.st, .bl (decide (unlikeK r = m))) st' := by
        rw [ev_eq_int, decide_eq_decide.mpr (show ((unlikeK r : Nat) : Int) = (m : Int) ↔ unlikeK r = m by omega)]
      refine ⟨[.val (.int n), .val (.int m), .own (.lst ((rowsU n m).map pwW)), x3, .val (pwW r), .no], rfl, ?_, fun _ => ⟨.st, by simp, rfl⟩⟩
      rw [unF_at]
      rw [ev_bof, ev_bin, ev_c1, ev_c1, hE, ev_bind, hd, ev_bind, hl, ev_bind]
      simp [hq]
  have hE := e_compI (qi := iSeqL (eVar 2)) (vs := [4]) (fr := [.val (.int n), .val (.int m), .own (.lst ((rowsU n m).map pwW)), x3, .no, .no]) (st := st') (st1 := st') (by simp) rfl rfl hc
  have hlen : (((rowsU n m).map pwW).filter (unF m)).length = ((rowsU n m).filter fun r => decide (unlikeK r = m)).length := by
    rw [List.filter_map, List.length_map]
    exact congrArg List.length (List.filter_congr fun r _ => unF_at r)
  generalize (((rowsU n m).map pwW).filter (unF m)) = Fl at hE hlen
  unfold p_law_rows_unlike b_law_rows_unlike
  refine body_rt (fr := [.val (.int n), .val (.int m), .no, .no, .no, .no]) rfl ?_
  refine (seq_nx (fr1 := [.val (.int n), .val (.int m), .own (.lst [.tup []]), .no, .no, .no]) (s1 := st') (by simp)).trans ?_
  refine (seq_nx (fr1 := [.val (.int n), .val (.int m), .own (.lst ((rowsU n m).map pwW)), x3, .no, .no]) (s1 := st') (by rw [ev_for, hI, ev_bind]; exact e)).trans ?_
  rw [ev_ret, ev_tup, ev_acons, ev_c1, hE]
  simp [hlen]
end
end Vy.K50

set_option Elab.async false
set_option linter.all false
set_option maxRecDepth 100000
set_option maxHeartbeats 2000000
/-! k50: falling products are right: the parts. -/
namespace Vy.K50
open PySem PySem.Spec PyProof.Rows L2 Vy.Mean Vy.K49
section
variable {st : Store} {K k m : Nat} {n : Int}
theorem prodI_le (hn : Le n 30) : ∀ i, i ≤ 12 → Le (prodI n i) (31 * i)
  | 0, _ => Le.one
  | i + 1, h => by
    have a := prodI_le hn i (by omega)
    have b : Le (n - (i : Int)) 31 := hn.sub ((show Le (i : Int) 2 by unfold Le; omega).mono (by decide))
    rw [Nat.mul_succ]
    exact a.mul b
theorem pow_pos' (h1 : 1 ≤ n) (i : Nat) : n ^ i ≠ 0 := by
  have := @Int.pow_pos n i (show (0 : Int) < n by omega)
  omega
theorem due_loop (h1 : 1 ≤ n) (hn : Le n 30) (hm : m ≤ 12) {a0 a1 a2 a4 a5 a6 a7 x8 a9 a12 a13 a14 a15 : Sl} :
    ∃ x8', forL (gN 8) (sSet 11 (eCall p_law_by (aCons (eVar 11) (aCons (eCall p_law_fraction (aCons (eBin fSub (eVar 10) (eVar 8)) (aCons (eVar 10) aNil))) aNil)))) (rngW 0 m) [a0, a1, a2, .val (.int m), a4, a5, a6, a7, x8, a9, .val (.int n), .val (frW (1, 1)), a12, a13, a14, a15] st =
      .ok (.nx [a0, a1, a2, .val (.int m), a4, a5, a6, a7, x8', a9, .val (.int n), .val (frW (nf (prodI n m) (n ^ m))), a12, a13, a14, a15]) st := by
  obtain ⟨fr', st', e, hj, x8', e1, e2⟩ := for_run (q := gN 8) (b := sSet 11 (eCall p_law_by (aCons (eVar 11) (aCons (eCall p_law_fraction (aCons (eBin fSub (eVar 10) (eVar 8)) (aCons (eVar 10) aNil))) aNil))))
    (fun j fr st' => j ≤ m ∧ ∃ x8, fr = [a0, a1, a2, .val (.int m), a4, a5, a6, a7, x8, a9, .val (.int n), .val (frW (nf (prodI n j) (n ^ j))), a12, a13, a14, a15] ∧ st' = st) (rngW 0 m) 0
    [a0, a1, a2, .val (.int m), a4, a5, a6, a7, x8, a9, .val (.int n), .val (frW (1, 1)), a12, a13, a14, a15] st ⟨Nat.zero_le _, x8, by rw [show nf (prodI n 0) (n ^ 0) = (1, 1) from by rw [Int.pow_zero]; show nf 1 1 = (1, 1); rfl], rfl⟩ fun j w fr st' hw ⟨hj, x8, e1, e2⟩ => by
      subst e1 e2
      rw [Nat.zero_add] at *
      have hjl : j < m := by have := (List.getElem?_eq_some_iff.mp hw).1; rw [rng_len] at this; exact this
      have ew : w = .int j := by
        rw [rngW_map, List.getElem?_map, List.getElem?_range hjl] at hw
        have hw : some (W.int (0 + (j : Nat))) = some w := hw
        cases hw
        rw [Int.zero_add]
      subst ew
      have p1 := prodI_le hn j (by omega)
      have p2 := Le.pow hn j
      have p3 : Le (n - (j : Int)) 31 := hn.sub ((show Le (j : Int) 2 by unfold Le; omega).mono (by decide))
      have z1 := pow_pos' h1 j
      have z2 : n ≠ 0 := by omega
      have f1 := fun st => law_fraction_ok (st := st) (n - (j : Int)) n (p3.mono (by decide)) (hn.mono (by decide)) z2
      have f2 := fun st => law_by_ok (st := st) (x := nf (prodI n j) (n ^ j)) (y := nf (n - (j : Int)) n) ((nf_le z1 p1).mono (by omega)) ((nf_le2 z1 p2).mono (by omega)) ((nf_le z2 p3).mono (by decide)) ((nf_le2 z2 hn).mono (by decide)) (low_ne (nf_spec _ z1).1) (low_ne (nf_spec _ z2).1)
      simp only [by_nf z1 z2] at f2
      have e3 : prodI n j * (n - (j : Int)) = prodI n (j + 1) := rfl
      have e4 : n ^ j * n = n ^ (j + 1) := (Int.pow_succ n j).symm
      rw [e3, e4] at f2
      refine ⟨[a0, a1, a2, .val (.int m), a4, a5, a6, a7, .val (.int j), a9, .val (.int n), .val (frW (nf (prodI n j) (n ^ j))), a12, a13, a14, a15], _, st', rfl, ?_, by omega, .val (.int j), rfl, rfl⟩
      rw [q_law_by, q_law_fraction]
      simp only [frW] at f1 f2 ⊢
      simp [f1, f2]
  subst e1 e2
  rw [Nat.zero_add, rng_len] at *
  exact ⟨x8', e⟩
theorem int_at {j K : Nat} {w : W} (hw : (rngW 0 K)[j]? = some w) : j < K ∧ w = .int j := by
  have hjl : j < K := by have := (List.getElem?_eq_some_iff.mp hw).1; rw [rng_len] at this; exact this
  refine ⟨hjl, ?_⟩
  rw [rngW_map, List.getElem?_map, List.getElem?_range hjl] at hw
  have hw : some (W.int (0 + (j : Nat))) = some w := hw
  cases hw
  rw [Int.zero_add]
theorem fall_sizes (S : Src st) (h1 : 1 ≤ n) (hn : Le n 30) (hk : k < K) (hK : K ≤ 3) {a3 a4 a5 a6 a7 a8 a9 a11 a12 a14 a15 : Sl} :
    ∃ (ns : Pw) (st' : Store), eComp (iRng1 (aCons (eVar 1) aNil)) (gN 13) bYes (eIf (bOf (eBin fEq (eVar 13) (eVar 2))) (eVar 10) (eBin fAdd (eC (.int 1)) (eCall p_law_pick (aCons (eVar 0) (aCons (eC (.int 7)) aNil))))) [13]
      [.val (.ref 1), .val (.int K), .val (.int k), a3, a4, a5, a6, a7, a8, a9, .val (.int n), a11, a12, .no, a14, a15] st = .ok (.fr, .lst (ns.map W.int)) st' ∧ Sizes K ns ∧ ns[k]? = some n ∧ Src st' := by
  obtain ⟨xs, st', e, ns, rfl, hl, hp, hat, S'⟩ := comp_draw (q := gN 13) (el := eIf (bOf (eBin fEq (eVar 13) (eVar 2))) (eVar 10) (eBin fAdd (eC (.int 1)) (eCall p_law_pick (aCons (eVar 0) (aCons (eC (.int 7)) aNil))))) (fr := [.val (.ref 1), .val (.int K), .val (.int k), a3, a4, a5, a6, a7, a8, a9, .val (.int n), a11, a12, .no, a14, a15])
    (fun j acc st' => ∃ p : Pw, acc = p.map W.int ∧ p.length = j ∧ (∀ x ∈ p, Le x 30 ∧ 1 ≤ x) ∧ (k < j → p[k]? = some n) ∧ Src st') (rngW 0 K) [] 0 st (by rw [rng_len, sizeLine_eq]; simp; omega) ⟨[], rfl, rfl, fun _ h => (nomatch h), fun h => by omega, S⟩ fun j w acc st1 hw ⟨p, ea, hl, hp, hat, S1⟩ => by
      subst ea
      obtain ⟨hjK, rfl⟩ := int_at hw
      have hq : fEq (.int (j : Nat)) (.int k) st1 = .ok (.st, .bl (decide (j = k))) st1 := by
        rw [ev_eq_int, decide_eq_decide.mpr (show ((j : Nat) : Int) = (k : Int) ↔ j = k by omega)]
      have grow : ∀ x : Int, Le x 30 ∧ 1 ≤ x → ∀ y ∈ p ++ [x], Le y 30 ∧ 1 ≤ y := fun x hx y hy => (List.mem_append.mp hy).elim (hp y) fun h => by rw [List.mem_singleton.mp h]; exact hx
      by_cases hjk : j = k
      · subst hjk
        refine ⟨[.val (.ref 1), .val (.int K), .val (.int j), a3, a4, a5, a6, a7, a8, a9, .val (.int n), a11, a12, .val (.int j), a14, a15], .st, .int n, st1, rfl, by simp [hq], rfl, p ++ [n], by rw [List.map_append]; rfl, by rw [List.length_append, hl]; rfl, grow n ⟨hn, h1⟩, fun _ => ?_, S1⟩
        rw [List.getElem?_append_right (by omega), hl, show j - (0 + j) = 0 by omega]; rfl
      · obtain ⟨r, st2, e2, S2, r0, r1⟩ := pick_ok (most := 7) S1 (by unfold Le; decide)
        have r1 := r1 (by decide)
        refine ⟨[.val (.ref 1), .val (.int K), .val (.int k), a3, a4, a5, a6, a7, a8, a9, .val (.int n), a11, a12, .val (.int j), a14, a15], .st, .int (1 + r), st2, rfl, by simp [hq, hjk, e2], rfl, p ++ [1 + r], by rw [List.map_append]; rfl, by rw [List.length_append, hl]; rfl, grow _ ⟨(show Le (1 + r) 1 by unfold Le; omega).mono (by decide), by omega⟩, fun h => ?_, S2⟩
        rw [List.getElem?_append_left (by omega)]
        exact hat (by omega)
  rw [rng_len] at *
  exact ⟨ns, st', e_compI (rng1_ok (by simp) (rng_inR (by omega))) rfl rfl e, ⟨by omega, fun x hx => (hp x hx).1, fun x hx => (hp x hx).2⟩, hat (by omega), S'⟩
theorem unit_get {i : Nat} {p y : Int} (h : (unitP K k p)[i]? = some y) : y = 0 ∨ i = k := by
  by_cases hik : i = k
  · exact .inr hik
  · refine .inl ?_
    unfold unitP at h
    rw [List.append_assoc] at h
    by_cases h1 : i < k
    · rw [List.getElem?_append_left (by simpa using h1), List.getElem?_replicate] at h
      simp [h1] at h
      exact h.symm
    · rw [List.getElem?_append_right (by simp; omega), List.length_replicate] at h
      obtain ⟨t, ht⟩ : ∃ t, i - k = t + 1 := ⟨i - k - 1, by omega⟩
      rw [ht] at h
      have h : (List.replicate (K - k - 1) (0 : Int))[t]? = some y := h
      rw [List.getElem?_replicate] at h
      split at h
      · simpa using h.symm
      · cases h
theorem others_row {p : Int} (hkK : k < K) (hK : K ≤ 3) {a0 a1 a3 a4 a5 a7 a10 a11 a12 a13 a14 a15 : Sl} :
    eComp (iEnum (aCons (eVar 6) aNil)) (gTp 2 (gsCons (gN 8) (gsCons (gN 9) gsNil))) (bAnd (bOf (eBin fGt (eVar 9) (eC (.int 0)))) (bOf (eBin fNe (eVar 8) (eVar 2)))) (eVar 9) [8, 9]
      [a0, a1, .val (.int k), a3, a4, a5, .val (pwW (unitP K k p)), a7, .no, .no, a10, a11, a12, a13, a14, a15] st = .ok (.fr, .lst []) st := by
  have hI : iEnum (aCons (eVar 6) aNil) [a0, a1, .val (.int k), a3, a4, a5, .val (pwW (unitP K k p)), a7, .no, .no, a10, a11, a12, a13, a14, a15] st = .ok (zipW (rngW 0 ((unitP K k p).map W.int).length) ((unitP K k p).map W.int)) st := rfl
  have hz : ([] : List W).length + (zipW (rngW 0 ((unitP K k p).map W.int).length) ((unitP K k p).map W.int)).length ≤ sizeLine := by
    unfold zipW
    rw [List.length_zipWith, List.length_map, unit_len hkK, sizeLine_eq]
    simp
    omega
  have hc := comp_run (q := gTp 2 (gsCons (gN 8) (gsCons (gN 9) gsNil))) (c := bAnd (bOf (eBin fGt (eVar 9) (eC (.int 0)))) (bOf (eBin fNe (eVar 8) (eVar 2)))) (el := eVar 9) (st := st) (fr := [a0, a1, .val (.int k), a3, a4, a5, .val (pwW (unitP K k p)), a7, .no, .no, a10, a11, a12, a13, a14, a15])
    (fun _ => false) (fun w => w) (zipW (rngW 0 ((unitP K k p).map W.int).length) ((unitP K k p).map W.int)) [] hz fun w hw => by
      obtain ⟨i, hi⟩ := List.mem_iff_getElem?.mp hw
      obtain ⟨x, hx, rfl⟩ := enumW_get hi
      rw [List.getElem?_map] at hx
      obtain ⟨y, hy, rfl⟩ := Option.map_eq_some_iff.mp hx
      refine ⟨[a0, a1, .val (.int k), a3, a4, a5, .val (pwW (unitP K k p)), a7, .val (.int i), .val (.int y), a10, a11, a12, a13, a14, a15], by simp, ?_, fun h => by simp at h⟩
      rcases unit_get hy with e | e
      · subst e
        simp
      · subst e
        have hq := fun st => ne_int_ok (st := st) (i := (i : Nat)) (j := (i : Nat))
        simp [hq]
  rw [List.nil_append, List.filter_eq_nil_iff.mpr (fun _ _ => Bool.false_ne_true)] at hc
  exact e_compI (vs := [8, 9]) hI rfl rfl hc
end
end Vy.K50

set_option Elab.async false
set_option linter.all false
set_option maxRecDepth 100000
set_option maxHeartbeats 4000000
/-! k50: falling products are right. -/
namespace Vy.K50
open PySem PySem.Spec PyProof.Rows L2 Vy.Mean Vy.K49
section
variable {st : Store} {K k m : Nat} {n : Int}
noncomputable abbrev toldF (K k m : Nat) : List MRow := put (frows K k 0 (rowL m))
theorem told_over (hk : k < K) : Over K m (toldF K k m) := (frows_over hk (by rw [rowL_len]; exact Nat.le_refl _)).put
theorem told_len (hm : m ≤ 12) : (toldF K k m).length = if m = 0 then 1 else m := by
  show (put (frows K k 0 (rowL m))).length = _
  rw [put_inc (frows_inc _ _), frows_count, rowL_count m hm]
theorem frows_len (K k : Nat) (cs : List Int) : (frows K k 0 cs).length = cs.length := by rw [frows_range, List.length_map, List.length_range]
theorem told_num (hm : m ≤ 12) : ∀ r ∈ toldF K k m, Le r.2 14 := put_le (j := 12) (fun r hr => by
  obtain ⟨j, _, _, _, h⟩ := frows_mem hr
  exact rowL_le m hm _ h) (by rw [frows_len, rowL_len]; omega)
theorem told_few (hm : m ≤ 12) : Few (toldF K k m) := ⟨fun r hr => (told_num hm r hr).mono (by decide), by rw [told_len hm]; split <;> omega⟩
theorem told_unit {r : MRow} (hr : r ∈ toldF K k m) : ∃ p : Int, r.1 = unitP K k p ∧ 0 ≤ p := by
  obtain ⟨s, hs, e⟩ := List.mem_map.mp (K49.put_keys (List.mem_map.mpr ⟨r, hr, rfl⟩))
  obtain ⟨j, _, _, h, _⟩ := frows_mem hs
  exact ⟨j, by rw [← e]; exact h, by omega⟩
theorem told_fine (hk : k < K) (hK : K ≤ 3) (hm : m ≤ 12) : Fine 3 400000 (meanW (toldF K k m)) := by
  refine Fine.tupc (c := 12) (d := 2) (n := 30100) (by rw [List.length_map, told_len hm]; split <;> omega) (fun w hw => ?_) (by decide)
  obtain ⟨r, hr, rfl⟩ := List.mem_map.mp hw
  have O := told_over (m := m) hk
  refine Fine.tupc (c := 2) (d := 1) (n := 15010) (Nat.le_refl _) (fun u hu => ?_) (by decide)
  rcases List.mem_cons.mp hu with e | e
  · rw [e]
    refine Fine.tupc (c := 3) (d := 0) (n := 5000) (by rw [List.length_map, O.len r hr]; exact hK) (fun v hv => ?_) (by decide)
    obtain ⟨x, hx, rfl⟩ := List.mem_map.mp hv
    exact Fine.int ((le_small (O.lo r hr x hx) (by have := O.hi r hr x hx; omega)).mono (by decide))
  · rw [List.mem_singleton.mp e]
    exact (Fine.int ((told_num hm r hr).mono (by decide))).mono (by decide) (by decide)
theorem told_mean (hk : k < K) (hm : m ≤ 12) : isMean K (meanW (toldF K k m)) = true := isMean_of (put_can _) fun r hr => ⟨(told_over hk).len r hr, (told_over hk).lo r hr⟩
theorem nf_nf {p q : Int} (h : q ≠ 0) : nf (nf p q).1 (nf p q).2 = nf p q := by
  obtain ⟨l, s⟩ := nf_spec p h
  exact nf_eq (low_ne l) h s
theorem smx_fr {x : Fr} (h1 : Le x.1 4000) (h2 : Le x.2 4000) : SmX 1 8610 (frW x) := (SmX.tup (d := 0) (n := 4301) fun w hw => by
  simp only [List.mem_cons, List.not_mem_nil, or_false] at hw
  rcases hw with e | e <;> subst e
  · exact SmX.int (Nat.lt_of_le_of_lt h1 (Nat.pow_lt_pow_right (by decide) (by decide)))
  · exact SmX.int (Nat.lt_of_le_of_lt h2 (Nat.pow_lt_pow_right (by decide) (by decide)))).mono (Nat.le_refl _) (by show 2 * 4303 + 4 ≤ _; decide)
noncomputable abbrev fallN : PM := (sSeq (sSet 11 (eTup (aCons (eC (.int 1)) (aCons (eC (.int 1)) aNil))))
    (sSeq (sFor (iRng1 (aCons (eVar 3) aNil)) (gN 8) (sSet 11 (eCall p_law_by (aCons (eVar 11) (aCons (eCall p_law_fraction (aCons (eBin fSub (eVar 10) (eVar 8)) (aCons (eVar 10) aNil))) aNil)))))
    (sSeq (sSet 12 (eC1 fTuple (eComp (iRng1 (aCons (eVar 1) aNil)) (gN 13) bYes (eIf (bOf (eBin fEq (eVar 13) (eVar 2))) (eVar 10) (eBin fAdd (eC (.int 1)) (eCall p_law_pick (aCons (eVar 0) (aCons (eC (.int 7)) aNil))))) [13])))
    (sSeq (sIf (bOr (bOf (eBin fNe (eC1 fReprX (eCall p_mean_at (aCons (eVar 4) (aCons (eVar 12) aNil)))) (eC1 fReprX (eVar 11)))) (bOf (eBin fNe (eC1 fReprX (eCall p_law_mean_at (aCons (eVar 4) (aCons (eVar 12) aNil)))) (eC1 fReprX (eVar 11))))) (sRet (eC (.bl false))) sSkip)
    (sSeq (sAsg (eIf (bAnd (bOf (eBin fLt (eVar 10) (eC (.int 4)))) (bOf (eBin fLt (eVar 3) (eC (.int 5))))) (eCall p_law_rows_unlike (aCons (eVar 10) (aCons (eVar 3) aNil))) (eVar 11)) (gTp 2 (gsCons (gN 14) (gsCons (gN 15) gsNil))))
    (sFrz [14, 15] (sIf (bOf (eBin fNe (eCall p_law_fraction (aCons (eVar 14) (aCons (eVar 15) aNil))) (eVar 11))) (sRet (eC (.bl false))) sSkip)))))))
theorem fall_n (S : Src st) (h1 : 1 ≤ n) (hn : Le n 30) (hk : k < K) (hK : K ≤ 3) (hm : m ≤ 12) {x8 x11 x12 x14 x15 : Sl} :
    ∃ x8' x11' x12' x14' x15' st', fallN [.val (.ref 1), .val (.int K), .val (.int k), .val (.int m), .val (meanW (toldF K k m)), .own (.lst []), .no, .no, x8, .no, .val (.int n), x11, x12, .no, x14, x15] st =
      .ok (.nx [.val (.ref 1), .val (.int K), .val (.int k), .val (.int m), .val (meanW (toldF K k m)), .own (.lst []), .no, .no, x8', .no, .val (.int n), x11', x12', .no, x14', x15']) st' ∧ Src st' := by
  obtain ⟨x8', e1⟩ := due_loop (st := st) h1 hn hm (a0 := .val (.ref 1)) (a1 := .val (.int K)) (a2 := .val (.int k)) (a4 := .val (meanW (toldF K k m))) (a5 := .own (.lst [])) (a6 := .no) (a7 := .no) (x8 := x8) (a9 := .no) (a12 := x12) (a13 := .no) (a14 := x14) (a15 := x15)
  obtain ⟨ns, st', e2, hs, hat, S'⟩ := fall_sizes S h1 hn hk hK (a3 := .val (.int m)) (a4 := .val (meanW (toldF K k m))) (a5 := .own (.lst [])) (a6 := .no) (a7 := .no) (a8 := x8') (a9 := .no) (a11 := .val (frW (nf (prodI n m) (n ^ m)))) (a12 := x12) (a14 := x14) (a15 := x15)
  have z := pow_pos' h1 m
  have p1 := prodI_le hn m hm
  have p2 := Le.pow hn m
  have m1 := fun st => mean_at_ok (st := st) hs hK (told_over hk) (by omega) (told_few hm)
  have m2 := fun st => law_mean_at_ok (st := st) hs hK (told_over hk) (by omega) (told_few hm)
  simp only [fall_at hs hk hat h1] at m1 m2
  have f1 := fun st => law_fraction_ok (st := st) (prodI n m) (n ^ m) (p1.mono (by omega)) (p2.mono (by omega)) z
  have b1 := nf_le z p1
  have b2 := nf_le2 (p := prodI n m) z p2
  have f2 := fun st => law_fraction_ok (st := st) (nf (prodI n m) (n ^ m)).1 (nf (prodI n m) (n ^ m)).2 (b1.mono (by omega)) (b2.mono (by omega)) (low_ne (nf_spec _ z).1)
  simp only [nf_nf z] at f2
  have hsm := smx_fr (x := nf (prodI n m) (n ^ m)) (b1.mono (by omega)) (b2.mono (by omega))
  have r1 := fun st => repr_x hsm (by decide) (by rw [sizeLine_eq]; decide) st
  have nn := fun x st => K49.ne_str x st
  have nq := fun st => ne_fr (st := st) (x := nf (prodI n m) (n ^ m)) (y := nf (prodI n m) (n ^ m))
  have cnt : n < 4 → m < 5 → ∀ st, p_law_rows_unlike [.int n, .int m] st = .ok (.st, .tup [.int (prodI n m), .int (n ^ m)]) st := fun g1 g2 st => by
    obtain ⟨n0, rfl⟩ : ∃ n0 : Nat, n = n0 := ⟨n.toNat, by omega⟩
    have h := rows_unlike_ok (st := st) (n := n0) (m := m) (by omega) (by omega)
    obtain ⟨c1, c2⟩ := rowsU_count n0 m (by omega) (by omega) (by omega)
    rw [c1, c2] at h
    exact h
  have hI : iRng1 (aCons (eVar 3) aNil) [.val (.ref 1), .val (.int K), .val (.int k), .val (.int m), .val (meanW (toldF K k m)), .own (.lst []), .no, .no, x8, .no, .val (.int n), .val (frW (1, 1)), x12, .no, x14, x15] st = .ok (rngW 0 m) st := rng1_ok (by simp) (rng_inR (by omega))
  generalize nf (prodI n m) (n ^ m) = D at *
  generalize meanW (toldF K k m) = T at *
  have last : ∀ (a b : Int), (∀ st, K49.p_law_fraction [.int a, .int b] st = .ok (.st, frW D) st) →
      sFrz [14, 15] (sIf (bOf (eBin fNe (eCall p_law_fraction (aCons (eVar 14) (aCons (eVar 15) aNil))) (eVar 11))) (sRet (eC (.bl false))) sSkip) [.val (.ref 1), .val (.int K), .val (.int k), .val (.int m), .val (T), .own (.lst []), .no, .no, x8', .no, .val (.int n), .val (frW D), .val (pwW ns), .no, .val (.int a), .val (.int b)] st' =
        .ok (.nx [.val (.ref 1), .val (.int K), .val (.int k), .val (.int m), .val (T), .own (.lst []), .no, .no, x8', .no, .val (.int n), .val (frW D), .val (pwW ns), .no, .val (.int a), .val (.int b)]) st' := fun a b h => by
    rw [ev_frz]
    show sIf _ _ _ [.val (.ref 1), .val (.int K), .val (.int k), .val (.int m), .val (T), .own (.lst []), .no, .no, x8', .no, .val (.int n), .val (frW D), .val (pwW ns), .no, .val (.int a), .val (.int b)] st' = _
    rw [q_law_fraction]
    simp only [frW] at h nq ⊢
    simp -implicitDefEqProofs [h, nq]
  by_cases hc : n < 4 ∧ m < 5
  · refine ⟨x8', .val (frW D), .val (pwW ns), .val (.int (prodI n m)), .val (.int (n ^ m)), st', ?_, S'⟩
    unfold fallN
    refine (seq_nx (fr1 := [.val (.ref 1), .val (.int K), .val (.int k), .val (.int m), .val (T), .own (.lst []), .no, .no, x8, .no, .val (.int n), .val (frW (1, 1)), x12, .no, x14, x15]) (s1 := st) (by simp -implicitDefEqProofs)).trans ?_
    refine (seq_nx (fr1 := [.val (.ref 1), .val (.int K), .val (.int k), .val (.int m), .val (T), .own (.lst []), .no, .no, x8', .no, .val (.int n), .val (frW D), x12, .no, x14, x15]) (s1 := st) (by rw [ev_for, hI, ev_bind]; exact e1)).trans ?_
    refine (seq_nx (fr1 := [.val (.ref 1), .val (.int K), .val (.int k), .val (.int m), .val (T), .own (.lst []), .no, .no, x8', .no, .val (.int n), .val (frW D), .val (pwW ns), .no, x14, x15]) (s1 := st') (by rw [ev_set, ev_c1, e2]; simp -implicitDefEqProofs)).trans ?_
    refine (seq_nx (fr1 := [.val (.ref 1), .val (.int K), .val (.int k), .val (.int m), .val (T), .own (.lst []), .no, .no, x8', .no, .val (.int n), .val (frW D), .val (pwW ns), .no, x14, x15]) (s1 := st') (by rw [q_mean_at, q_law_mean_at]; simp -implicitDefEqProofs [m1, m2, r1, nn])).trans ?_
    refine (seq_nx (fr1 := [.val (.ref 1), .val (.int K), .val (.int k), .val (.int m), .val (T), .own (.lst []), .no, .no, x8', .no, .val (.int n), .val (frW D), .val (pwW ns), .no, .val (.int (prodI n m)), .val (.int (n ^ m))]) (s1 := st') (by
      have c := cnt hc.1 hc.2
      have g2 : ((m : Nat) : Int) < 5 := by omega
      simp -implicitDefEqProofs [hc.1, g2, c])).trans ?_
    exact last _ _ f1
  · refine ⟨x8', .val (frW D), .val (pwW ns), .val (.int D.1), .val (.int D.2), st', ?_, S'⟩
    unfold fallN
    refine (seq_nx (fr1 := [.val (.ref 1), .val (.int K), .val (.int k), .val (.int m), .val (T), .own (.lst []), .no, .no, x8, .no, .val (.int n), .val (frW (1, 1)), x12, .no, x14, x15]) (s1 := st) (by simp -implicitDefEqProofs)).trans ?_
    refine (seq_nx (fr1 := [.val (.ref 1), .val (.int K), .val (.int k), .val (.int m), .val (T), .own (.lst []), .no, .no, x8', .no, .val (.int n), .val (frW D), x12, .no, x14, x15]) (s1 := st) (by rw [ev_for, hI, ev_bind]; exact e1)).trans ?_
    refine (seq_nx (fr1 := [.val (.ref 1), .val (.int K), .val (.int k), .val (.int m), .val (T), .own (.lst []), .no, .no, x8', .no, .val (.int n), .val (frW D), .val (pwW ns), .no, x14, x15]) (s1 := st') (by rw [ev_set, ev_c1, e2]; simp -implicitDefEqProofs)).trans ?_
    refine (seq_nx (fr1 := [.val (.ref 1), .val (.int K), .val (.int k), .val (.int m), .val (T), .own (.lst []), .no, .no, x8', .no, .val (.int n), .val (frW D), .val (pwW ns), .no, x14, x15]) (s1 := st') (by rw [q_mean_at, q_law_mean_at]; simp -implicitDefEqProofs [m1, m2, r1, nn])).trans ?_
    refine (seq_nx (fr1 := [.val (.ref 1), .val (.int K), .val (.int k), .val (.int m), .val (T), .own (.lst []), .no, .no, x8', .no, .val (.int n), .val (frW D), .val (pwW ns), .no, .val (.int D.1), .val (.int D.2)]) (s1 := st') (by
      by_cases g1 : n < 4
      · have g2 : ¬ ((m : Nat) : Int) < 5 := by omega
        simp -implicitDefEqProofs [g1, g2]
      · simp -implicitDefEqProofs [g1])).trans ?_
    exact last _ _ f2
end
end Vy.K50

set_option Elab.async false
set_option linter.all false
set_option maxRecDepth 100000
set_option maxHeartbeats 4000000
/-! k50: falling products are right. -/
namespace Vy.K50
open PySem PySem.Spec PyProof.Rows L2 Vy.Mean Vy.K49
section
variable {st : Store} {K k m : Nat} {n : Int}
theorem rg2_ok (hm : m ≤ 12) : RgOk 1 (((m : Nat) : Int) + 2) := by
  have b1 : (100 : Int) < 2 ^ 62 := by decide
  have b2 : -((2 : Int) ^ 62) ≤ 0 := by decide
  unfold RgOk
  refine ⟨?_, ?_, ?_, ?_, ?_⟩
  · omega
  · omega
  · omega
  · omega
  · have : ((m : Int) + 2 - 1).toNat ≤ 13 := by omega
    exact Nat.le_trans this (by decide)
theorem told_others (hk : k < K) (hK : K ≤ 3) (hm : m ≤ 12) :
    eComp (iSeqL (eVar 4)) (gTp 2 (gsCons (gN 6) (gsCons (gN 7) gsNil))) (bOf (eBin fNeE (eComp (iEnum (aCons (eVar 6) aNil)) (gTp 2 (gsCons (gN 8) (gsCons (gN 9) gsNil))) (bAnd (bOf (eBin fGt (eVar 9) (eC (.int 0)))) (bOf (eBin fNe (eVar 8) (eVar 2)))) (eVar 9) [8, 9]) (eLst aNil))) (eVar 6) [6, 7]
      [.val (.ref 1), .val (.int K), .val (.int k), .val (.int m), .val (meanW (toldF K k m)), .no, .no, .no, .no, .no, .no, .no, .no, .no, .no, .no] st = .ok (.fr, .lst []) st := by
  have hl := told_len (K := K) (k := k) hm
  have hc := comp_run (q := gTp 2 (gsCons (gN 6) (gsCons (gN 7) gsNil))) (c := bOf (eBin fNeE (eComp (iEnum (aCons (eVar 6) aNil)) (gTp 2 (gsCons (gN 8) (gsCons (gN 9) gsNil))) (bAnd (bOf (eBin fGt (eVar 9) (eC (.int 0)))) (bOf (eBin fNe (eVar 8) (eVar 2)))) (eVar 9) [8, 9]) (eLst aNil))) (el := eVar 6) (st := st)
    (fr := [.val (.ref 1), .val (.int K), .val (.int k), .val (.int m), .val (meanW (toldF K k m)), .no, .no, .no, .no, .no, .no, .no, .no, .no, .no, .no])
    (fun _ => false) (fun w => w) ((toldF K k m).map rowW) [] (by rw [List.length_map, hl, sizeLine_eq]; simp; split <;> omega) fun w hw => by
      obtain ⟨r, hr, rfl⟩ := List.mem_map.mp hw
      obtain ⟨p, hp, _⟩ := told_unit hr
      refine ⟨[.val (.ref 1), .val (.int K), .val (.int k), .val (.int m), .val (meanW (toldF K k m)), .no, .val (pwW r.1), .val (.int r.2), .no, .no, .no, .no, .no, .no, .no, .no], by simp, ?_, fun h => by simp at h⟩
      rw [hp]
      have e := others_row (st := st) (K := K) (k := k) (p := p) hk hK (a0 := .val (.ref 1)) (a1 := .val (.int K)) (a3 := .val (.int m)) (a4 := .val (meanW (toldF K k m))) (a5 := .no) (a7 := .val (.int r.2)) (a10 := .no) (a11 := .no) (a12 := .no) (a13 := .no) (a14 := .no) (a15 := .no)
      have z := ne_nil (st := st) []
      rw [ev_bof, ev_bin, e]
      simp -implicitDefEqProofs [z]
  rw [List.nil_append, List.filter_eq_nil_iff.mpr (fun _ _ => Bool.false_ne_true)] at hc
  exact e_compI (qi := iSeqL (eVar 4)) (vs := [6, 7]) (st1 := st) (by simp -implicitDefEqProofs) rfl rfl hc
theorem law_falling_right_ok (S : Src st) : ∃ st', p_law_falling_right [.ref 1] st = .ok (.st, .bl true) st' ∧ Src st' := by
  obtain ⟨r1, s1, e1, S1, r10, r11⟩ := pick_ok (most := 3) S (by unfold Le; decide)
  have r11 := r11 (by decide)
  obtain ⟨K, hK⟩ : ∃ K : Nat, 1 + r1 = K := ⟨(1 + r1).toNat, by omega⟩
  have hK3 : K ≤ 3 := by omega
  obtain ⟨r2, s2, e2, S2, r20, r21⟩ := pick_ok (most := K) S1 (le_small (by omega) (by omega))
  have r21 := r21 (by omega)
  obtain ⟨k, rfl⟩ : ∃ k : Nat, r2 = k := ⟨r2.toNat, (Int.toNat_of_nonneg r20).symm⟩
  have hk : k < K := by omega
  obtain ⟨r3, s3, e3, S3, r30, r31⟩ := pick_ok (most := 3) S2 (by unfold Le; decide)
  obtain ⟨mo, hmo⟩ : ∃ mo : Int, mo = if r3 = 0 then 13 else 6 := ⟨_, rfl⟩
  have hmo1 : 1 ≤ mo ∧ mo ≤ 13 := by subst hmo; split <;> omega
  obtain ⟨r4, s4, e4, S4, r40, r41⟩ := pick_ok (most := mo) S3 (le_small (by omega) (by omega))
  have r41 := r41 (by omega)
  obtain ⟨m, rfl⟩ : ∃ m : Nat, r4 = m := ⟨r4.toNat, (Int.toNat_of_nonneg r40).symm⟩
  have hm : m ≤ 12 := by omega
  have e5 := fun st => falling_ok (st := st) hk hK3 hm
  have e6 := fun st => told_others (st := st) hk hK3 hm
  have e7 : ∀ st, p_law_is_mean [.int K, meanW (toldF K k m)] st = .ok (.st, .bl true) st := fun st => by
    have h := law_is_mean_ok (st := st) (k := K) (told_fine (m := m) hk hK3 hm).toSmX (by decide)
    rw [told_mean hk hm] at h
    exact h
  obtain ⟨r5, s5, e8, S5, r50, r51⟩ := pick_ok (most := 10 ^ 30) S4 (by unfold Le; decide)
  have r51 := r51 (by decide)
  have hpow := fun st => p10_30 st
  have hr5 : Le (1 + r5) 30 := by unfold Le; omega
  obtain ⟨fr', s6, e9, ⟨x8, x10, x11, x12, x14, x15, rfl⟩, S6⟩ := for_draw (q := gN 10) (b := fallN) (fun _ fr => ∃ x8 x10 x11 x12 x14 x15, fr = [.val (.ref 1), .val (.int K), .val (.int k), .val (.int m), .val (meanW (toldF K k m)), .own (.lst []), .no, .no, x8, .no, x10, x11, x12, .no, x14, x15])
    (rngI 1 (((m : Nat) : Int) + 2) ++ [.int (1 + r5)]) 0 [.val (.ref 1), .val (.int K), .val (.int k), .val (.int m), .val (meanW (toldF K k m)), .own (.lst []), .no, .no, .no, .no, .no, .no, .no, .no, .no, .no] s5 ⟨_, _, _, _, _, _, rfl⟩ S5 fun j w fr st hw ⟨x8, x10, x11, x12, x14, x15, e⟩ S => by
      subst e
      have hn : ∃ n : Int, w = .int n ∧ 1 ≤ n ∧ Le n 30 := by
        rcases List.mem_append.mp hw with h | h
        · unfold rngI at h
          obtain ⟨i, hi, rfl⟩ := List.mem_map.mp h
          have hi := List.mem_range.mp hi
          exact ⟨_, rfl, by omega, (show Le (1 + (i : Int)) 2 by unfold Le; omega).mono (by decide)⟩
        · exact ⟨_, List.mem_singleton.mp h, by omega, hr5⟩
      obtain ⟨n, rfl, n1, n30⟩ := hn
      obtain ⟨y8, y11, y12, y14, y15, st', e, S'⟩ := fall_n S n1 n30 hk hK3 hm (x8 := x8) (x11 := x11) (x12 := x12) (x14 := x14) (x15 := x15)
      exact ⟨[.val (.ref 1), .val (.int K), .val (.int k), .val (.int m), .val (meanW (toldF K k m)), .own (.lst []), .no, .no, x8, .no, .val (.int n), x11, x12, .no, x14, x15], _, st', rfl, e, ⟨_, _, _, _, _, _, rfl⟩, S'⟩
  have hlen : fLen (meanW (toldF K k m)) s6 = .ok (.st, .int ((if m = 0 then 1 else m : Nat) : Int)) s6 := by
    rw [← told_len (K := K) (k := k) hm, ← List.length_map rowW]; rfl
  have hrng : ∀ x5 x6 x7 x8 x9 x10 x11 x12 x13 x14 x15 st, eLRng2 (eC (.int 1)) (eBin fAdd (eVar 3) (eC (.int 2))) [.val (.ref 1), .val (.int K), .val (.int k), .val (.int m), .val (meanW (toldF K k m)), x5, x6, x7, x8, x9, x10, x11, x12, x13, x14, x15] st = .ok (.fr, .lst (rngI 1 (((m : Nat) : Int) + 2))) st := fun _ _ _ _ _ _ _ _ _ _ _ _ =>
    lrng2_gen (kd := .st) (kd2 := .st) rfl rfl (rg2_ok hm)
  refine ⟨s6, ?_, S6⟩
  have lr : (rngI 1 (((m : Nat) : Int) + 2)).length ≤ 13 := by
    unfold rngI
    rw [List.length_map, List.length_range]
    omega
  generalize rngI 1 (((m : Nat) : Int) + 2) = Rg at *
  have ha : fAdd (.lst Rg) (.lst [.int (1 + r5)]) s5 = .ok (.fr, .lst (Rg ++ [.int (1 + r5)])) s5 := by rw [ev_add_l, ev_grd (by rw [sizeLine_eq]; simp; omega)]
  generalize meanW (toldF K k m) = T at *
  have e7' := fun x st => ev_eq_int (i := x) (j := 0) (st := st)
  unfold p_law_falling_right b_law_falling_right
  refine body_rt (fr := [.val (.ref 1), .no, .no, .no, .no, .no, .no, .no, .no, .no, .no, .no, .no, .no, .no, .no]) rfl ?_
  refine (seq_nx (fr1 := [.val (.ref 1), .val (.int K), .no, .no, .no, .no, .no, .no, .no, .no, .no, .no, .no, .no, .no, .no]) (s1 := s1) (by simp -implicitDefEqProofs [e1, hK])).trans ?_
  refine (seq_nx (fr1 := [.val (.ref 1), .val (.int K), .val (.int k), .val (.int m), .no, .no, .no, .no, .no, .no, .no, .no, .no, .no, .no, .no]) (s1 := s4) (by
    by_cases h0 : r3 = 0
    · rw [if_pos h0] at hmo
      subst hmo h0
      simp -implicitDefEqProofs [e2, e3, e7', e4]
    · rw [if_neg h0] at hmo
      subst hmo
      simp -implicitDefEqProofs [e2, e3, e7', h0, e4])).trans ?_
  refine (seq_nx (fr1 := [.val (.ref 1), .val (.int K), .val (.int k), .val (.int m), .val T, .no, .no, .no, .no, .no, .no, .no, .no, .no, .no, .no]) (s1 := s4) (by simp -implicitDefEqProofs [e5])).trans ?_
  refine (seq_nx (fr1 := [.val (.ref 1), .val (.int K), .val (.int k), .val (.int m), .val T, .own (.lst []), .no, .no, .no, .no, .no, .no, .no, .no, .no, .no]) (s1 := s4) (by rw [ev_set, e6]; simp -implicitDefEqProofs)).trans ?_
  refine (seq_nx (fr1 := [.val (.ref 1), .val (.int K), .val (.int k), .val (.int m), .val T, .own (.lst []), .no, .no, .no, .no, .no, .no, .no, .no, .no, .no]) (s1 := s4) (by
    have z := fun st => ne_nil (st := st) []
    simp -implicitDefEqProofs [e7, wTruth, z])).trans ?_
  refine (seq_nx (fr1 := [.val (.ref 1), .val (.int K), .val (.int k), .val (.int m), .val T, .own (.lst []), .no, .no, x8, .no, x10, x11, x12, .no, x14, x15]) (s1 := s6) (by
    have hI : iSeq (eBin fAdd (eLRng2 (eC (.int 1)) (eBin fAdd (eVar 3) (eC (.int 2)))) (eLst (aCons (eBin fAdd (eC (.int 1)) (eCall p_law_pick (aCons (eVar 0) (aCons (eBin fPow (eC (.int 10)) (eC (.int 30))) aNil)))) aNil)))
        [.val (.ref 1), .val (.int K), .val (.int k), .val (.int m), .val T, .own (.lst []), .no, .no, .no, .no, .no, .no, .no, .no, .no, .no] s4 = .ok (Rg ++ [.int (1 + r5)]) s5 := by
      simp -implicitDefEqProofs [-Int.reducePow, hrng, hpow, e8, -ev_add_l, ha]
    rw [ev_for, hI, ev_bind]
    exact e9)).trans ?_
  by_cases h0 : m = 0
  · subst h0
    simp -implicitDefEqProofs [hlen, e7', ev_eq_int]
  · have h0' : ¬ ((m : Nat) : Int) = 0 := by omega
    rw [if_neg h0] at hlen
    simp -implicitDefEqProofs [hlen, e7', h0, h0', ev_eq_int]
end
end Vy.K50

set_option Elab.async false
set_option linter.all false
set_option maxRecDepth 100000
set_option maxHeartbeats 1000000
/-! k50: a mean's row along a kind, in plain numbers. -/
namespace Vy.K50
open PySem PySem.Spec PyProof.Rows L2 Vy.Mean Vy.K49
section
variable {K k c : Nat} {a : List MRow} {ns : List Int} {n : Int}
/-- where a member's number goes -/
def slotR (G : Pw) (k : Nat) (r : MRow) : Nat := (G.getD k 0 - r.1.getD k 0).toNat
def numR (G oth : Pw) (r : MRow) : Int := r.2 * pp oth (subP G r.1)
def rowStep (G oth : Pw) (k : Nat) (row : List Int) (r : MRow) : List Int := row.set (slotR G k r) (row.getD (slotR G k r) 0 + numR G oth r)
def row0 (G : Pw) (k : Nat) : List Int := List.replicate ((G.getD k 0).toNat + 1) 0
def rowOf (G oth : Pw) (k : Nat) (a : List MRow) : List Int := a.foldl (rowStep G oth k) (row0 G k)
theorem step_len (G oth : Pw) (k : Nat) (row : List Int) (r : MRow) : (rowStep G oth k row r).length = row.length := List.length_set
theorem rowOf_snoc (G oth : Pw) (k : Nat) (a : List MRow) (r : MRow) : rowOf G oth k (a ++ [r]) = rowStep G oth k (rowOf G oth k a) r := by
  unfold rowOf
  rw [List.foldl_append]; rfl
theorem rowOf_len (G oth : Pw) (k : Nat) (a : List MRow) : (rowOf G oth k a).length = (G.getD k 0).toNat + 1 := by
  unfold rowOf
  have : ∀ (a : List MRow) (row : List Int), (a.foldl (rowStep G oth k) row).length = row.length := fun a => by
    induction a with
    | nil => intro row; rfl
    | cons r a ih => intro row; rw [List.foldl_cons, ih, step_len]
  rw [this]
  unfold row0
  exact List.length_replicate
theorem gr_at (hk : k < K) : (gr K a)[k]? = some ((gr K a).getD k 0) := by
  have : k < (gr K a).length := by rw [gr_len]; exact hk
  rw [List.getD_eq_getElem?_getD, List.getElem?_eq_getElem this]; rfl
theorem gr_getD (h : Over K c a) (hk : k < K) : 0 ≤ (gr K a).getD k 0 ∧ (gr K a).getD k 0 ≤ c := gr_bd h _ (List.mem_of_getElem? (gr_at hk))
theorem gr_ge (h : Over K c a) (hk : k < K) {r : MRow} (hr : r ∈ a) : r.1.getD k 0 ≤ (gr K a).getD k 0 := by
  have e := (h.at hr hk).1
  have g := gr_at (a := a) hk
  exact gr_below h hr ((gr K a).getD k 0, r.1.getD k 0) (List.mem_iff_getElem?.mpr ⟨k, List.getElem?_zip_eq_some.mpr ⟨g, e⟩⟩)
theorem slot_lt (h : Over K c a) (hk : k < K) {r : MRow} (hr : r ∈ a) : slotR (gr K a) k r < ((gr K a).getD k 0).toNat + 1 := by
  have := (h.at hr hk).2
  have := gr_getD h hk
  unfold slotR
  omega
theorem sub_at (h : Over K c a) (hk : k < K) {r : MRow} (hr : r ∈ a) : (subP (gr K a) r.1)[k]? = some ((slotR (gr K a) k r : Nat) : Int) := by
  unfold subP slotR
  rw [List.getElem?_zipWith, gr_at hk, (h.at hr hk).1]
  have := gr_ge h hk hr
  show some _ = some _
  rw [Int.toNat_of_nonneg (by omega)]
/-- the row's polynomial at a number -/
def evL (n : Int) : List Int → Int
  | [] => 0
  | c :: cs => c + n * evL n cs
theorem evL_set (n x : Int) : ∀ (row : List Int) (i : Nat), i < row.length → evL n (row.set i (row.getD i 0 + x)) = evL n row + x * n ^ i
  | [], i, h => by simp at h
  | c :: cs, 0, _ => by
    show c + x + n * evL n cs = c + n * evL n cs + x * n ^ 0
    rw [Int.pow_zero]; omega
  | c :: cs, i + 1, h => by
    have ih := evL_set n x cs i (by simpa using h)
    show c + n * evL n (cs.set i (cs.getD i 0 + x)) = c + n * evL n cs + x * n ^ (i + 1)
    rw [ih, Int.mul_add, Int.pow_succ]
    have : n * (x * n ^ i) = x * (n ^ i * n) := by simp only [Int.mul_assoc, Int.mul_comm, Int.mul_left_comm]
    rw [this]; omega
theorem evL_zero (n : Int) : ∀ m, evL n (List.replicate m 0) = 0
  | 0 => rfl
  | m + 1 => by
    show 0 + n * evL n (List.replicate m 0) = 0
    rw [evL_zero n m, Int.mul_zero]; rfl
/-- sizes with another one at k -/
theorem pp_set {x y : Int} : ∀ {ns : List Int} {ps : Pw} {k : Nat}, k < ns.length → k < ps.length → pp (ns.set k x) ps = pp (ns.set k 1) ps * x ^ (ps.getD k 0).toNat
  | m :: ns, p :: ps, 0, _, _ => by
    show x ^ p.toNat * pp ns ps = 1 ^ p.toNat * pp ns ps * x ^ p.toNat
    rw [Int.one_pow, Int.one_mul, Int.mul_comm]
  | m :: ns, p :: ps, k + 1, h, h' => by
    have ih := pp_set (x := x) (y := y) (ns := ns) (ps := ps) (k := k) (by simpa using h) (by simpa using h')
    show m ^ p.toNat * pp (ns.set k x) ps = m ^ p.toNat * pp (ns.set k 1) ps * x ^ (ps.getD k 0).toNat
    rw [ih, Int.mul_assoc]
  | [], _, _, h, _ => by simp at h
  | _ :: _, [], _, _, h => by simp at h
theorem row_value (h : Over K c a) (hk : k < K) (hl : ns.length = K) : evL n (rowOf (gr K a) (ns.set k 1) k a) = lin (fun p => pp (ns.set k n) (subP (gr K a) p)) a := by
  have key : ∀ (b : List MRow) (row : List Int), (∀ r ∈ b, r ∈ a) → row.length = ((gr K a).getD k 0).toNat + 1 → evL n (b.foldl (rowStep (gr K a) (ns.set k 1) k) row) = evL n row + lin (fun p => pp (ns.set k n) (subP (gr K a) p)) b := fun b => by
    induction b with
    | nil => intro row _ _; show evL n row = evL n row + 0; omega
    | cons r b ih =>
      intro row hb hrow
      have hr := hb r (List.mem_cons_self ..)
      rw [List.foldl_cons, ih _ (fun s hs => hb s (List.mem_cons_of_mem _ hs)) (by rw [step_len, hrow])]
      unfold rowStep
      rw [evL_set n _ row _ (by rw [hrow]; exact slot_lt h hk hr)]
      show _ = evL n row + (r.2 * pp (ns.set k n) (subP (gr K a) r.1) + lin _ b)
      have hsl : k < (subP (gr K a) r.1).length := (List.getElem?_eq_some_iff.mp (sub_at h hk hr)).1
      have hg : (subP (gr K a) r.1).getD k 0 = ((slotR (gr K a) k r : Nat) : Int) := by rw [List.getD_eq_getElem?_getD, sub_at h hk hr]; rfl
      rw [pp_set (x := n) (y := 0) (by rw [hl]; exact hk) hsl, hg, Int.toNat_natCast]
      unfold numR
      rw [Int.mul_assoc]
      omega
  have e := key a (row0 (gr K a) k) (fun r hr => hr) (by unfold row0; exact List.length_replicate)
  unfold rowOf
  rw [e]
  unfold row0
  rw [evL_zero, Int.zero_add]
theorem bottom_value (hk : k < K) (hl : ns.length = K) : pp (ns.set k n) (gr K a) = pp (ns.set k 1) (gr K a) * n ^ ((gr K a).getD k 0).toNat :=
  pp_set (y := 0) (by rw [hl]; exact hk) (by rw [gr_len]; exact hk)
end
end Vy.K50

set_option Elab.async false
set_option linter.all false
set_option maxRecDepth 100000
set_option maxHeartbeats 2000000
/-! k50: a mean's row along a kind, told. -/
namespace Vy.K50
open PySem PySem.Spec PyProof.Rows L2 Vy.Mean Vy.K49
section
variable {st : Store} {K k c : Nat} {a : List MRow} {ns : List Int} {n : Int}
theorem size_product_any {ns : List Int} {ps : Pw} {v w : W} (hv : seqOf v = some (ns.map W.int)) (hw : seqOf w = some (ps.map W.int)) (hn : ∀ n ∈ ns, Le n 30) (hl : ns.length ≤ 3) (hp : ∀ p ∈ ps, 0 ≤ p ∧ p ≤ 40) :
    K49.p_size_product [v, w] st = .ok (.st, .int (pp ns ps)) st := by
  have h := size_product_ok (st := st) hw hn hl hp
  obtain ⟨fr', st', e, _, _, x3, x4, e1, e2⟩ := for_map (q := gTp 2 (gsCons (gN 3) (gsCons (gN 4) gsNil))) (b := sSet 2 (eBin fMul (eVar 2) (eCall K49.p_number_power (aCons (eVar 3) (aCons (eVar 4) aNil)))))
    (fun x : Int × Int => .tup [.int x.1, .int x.2]) (fun pre fr st' => (∀ y ∈ pre, y ∈ List.zip ns ps) ∧ pre.length ≤ (List.zip ns ps).length ∧ ∃ x3 x4 : Sl, fr = [.val v, .val w, .val (.int (pp (pre.map (·.1)) (pre.map (·.2)))), x3, x4] ∧ st' = st) (List.zip ns ps)
    [.val v, .val w, .val (.int 1), .no, .no] st ⟨fun _ h => (nomatch h), Nat.zero_le _, .no, .no, rfl, rfl⟩ fun pre x fr st' hx hpre ⟨hin, hlen, x3, x4, e1, e2⟩ => by
      subst e1 e2
      have hz : (List.zip ns ps).length ≤ 3 := by rw [List.length_zip]; omega
      have h1 : Le x.1 30 := hn _ (List.of_mem_zip (show (x.1, x.2) ∈ _ from hx)).1
      have h2 := hp _ (List.of_mem_zip (show (x.1, x.2) ∈ _ from hx)).2
      have hq := pp_le (ns := pre.map (·.1)) (ps := pre.map (·.2)) (c := 40) (fun n h => by
        obtain ⟨y, hy, rfl⟩ := List.mem_map.mp h
        exact hn _ (List.of_mem_zip (show (y.1, y.2) ∈ _ from hin y hy)).1) fun n h => by
        obtain ⟨y, hy, rfl⟩ := List.mem_map.mp h
        exact (hp _ (List.of_mem_zip (show (y.1, y.2) ∈ _ from hin y hy)).2).2
      rw [List.length_map] at hq
      have hm := mul_ok (hq.mono (k := 4000) (by omega)) ((Le.pow h1 x.2.toNat).mono (k := 4000) (by omega))
      have hc := number_power_ok (st := st') x.2.toNat h1 (by omega)
      have ex : ((x.2.toNat : Nat) : Int) = x.2 := Int.toNat_of_nonneg h2.1
      rw [ex] at hc
      refine ⟨[.val v, .val w, .val (.int (pp (pre.map (·.1)) (pre.map (·.2)))), .val (.int x.1), .val (.int x.2)], [.val v, .val w, .val (.int (pp ((pre ++ [x]).map (·.1)) ((pre ++ [x]).map (·.2)))), .val (.int x.1), .val (.int x.2)], st', by simp, ?_, ?_, ?_, _, _, rfl, rfl⟩
      · rw [pp_snoc]
        simp [hc, ev_mul hm]
      · intro y hy
        rcases List.mem_append.mp hy with h | h
        · exact hin y h
        · rw [List.mem_singleton.mp h]; exact hx
      · rw [List.length_append, List.length_singleton]; omega
  subst e1 e2
  rw [pp_zip] at e
  unfold K49.p_size_product K49.b_size_product
  have hz := zip_ints ns ps
  simp [iZip2, hv, hw, hz, e]
theorem ixN_nat {l i : Nat} (h : i < l) : ixN l (i : Int) = some i := by
  unfold ixN
  have h1 : (0 : Int) ≤ (i : Int) := by omega
  have h2 : (i : Int) < (l : Int) := by omega
  simp [h1, h2]
theorem idx_lst {row : List Int} {i : Nat} (h : i < row.length) : fIdx (.lst (row.map W.int)) (.int (i : Int)) st = .ok (.st, .int (row.getD i 0)) st := by
  have hl : i < (row.map W.int).length := by rw [List.length_map]; exact h
  rw [ev_idx_l, ev_atN hl, List.getElem?_map, List.getElem?_eq_getElem h, List.getD_eq_getElem?_getD, List.getElem?_eq_getElem h]
  rfl
theorem map_set (row : List Int) (i : Nat) (x : Int) : (row.map W.int).set i (.int x) = (row.set i x).map W.int := by rw [List.map_set]
noncomputable abbrev rowBody : PM := (sSeq (sSet 10 (eComp (iZip2 (aCons (eVar 3) (aCons (eVar 8) aNil))) (gTp 2 (gsCons (gN 11) (gsCons (gN 12) gsNil))) bYes (eBin fSub (eVar 11) (eVar 12)) [11, 12]))
    (sFrz [4, 10] (sLPut 5 (eBin fIdx (eVar 10) (eVar 1)) (eBin fAdd (eBin fIdx (eVar 5) (eBin fIdx (eVar 10) (eVar 1))) (eBin fMul (eVar 9) (eCall p_size_product (aCons (eVar 4) (aCons (eVar 10) aNil))))))))
theorem row_turn (h : Over K c a) (hc : c ≤ 40) (hk : k < K) (hK : K ≤ 3) {r : MRow} (hr : r ∈ a) (hn : Le r.2 60) {oth : List Int} (ho : ∀ x ∈ oth, Le x 30) (hol : oth.length = K) {row : List Int} (hrow : row.length = ((gr K a).getD k 0).toNat + 1)
    {A C : W} {x4 x10 : Sl} (h4 : x4 = .own (.lst (oth.map W.int)) ∨ x4 = .val (.lst (oth.map W.int))) (h10 : isOwn (some x10) = false ∨ True) :
    rowBody [.val A, .val (.int k), .val C, .val (pwW (gr K a)), x4, .own (.lst (row.map W.int)), .no, .no, .val (pwW r.1), .val (.int r.2), x10, .no, .no] st =
      .ok (.nx [.val A, .val (.int k), .val C, .val (pwW (gr K a)), .val (.lst (oth.map W.int)), .own (.lst ((rowStep (gr K a) oth k row r).map W.int)), .no, .no, .val (pwW r.1), .val (.int r.2), .val (.lst ((subP (gr K a) r.1).map W.int)), .no, .no]) st := by
  have hg := gr_bd h
  have hZ : iZip2 (aCons (eVar 3) (aCons (eVar 8) aNil)) [.val A, .val (.int k), .val C, .val (pwW (gr K a)), x4, .own (.lst (row.map W.int)), .no, .no, .val (pwW r.1), .val (.int r.2), x10, .no, .no] st = .ok ((List.zip (gr K a) r.1).map fun x : Int × Int => .tup [.int x.1, .int x.2]) st := by
    rw [← zip_ints]; rfl
  have hcm := comp_map (q := gTp 2 (gsCons (gN 11) (gsCons (gN 12) gsNil))) (el := eBin fSub (eVar 11) (eVar 12)) (st := st) (fr := [.val A, .val (.int k), .val C, .val (pwW (gr K a)), x4, .own (.lst (row.map W.int)), .no, .no, .val (pwW r.1), .val (.int r.2), x10, .no, .no])
    (fun x : Int × Int => .tup [.int x.1, .int x.2]) (fun x => .int (x.1 - x.2)) (List.zip (gr K a) r.1) [] (by
      have := List.length_zip (l₁ := gr K a) (l₂ := r.1)
      rw [gr_len] at this
      rw [List.length_nil, sizeLine_eq]; omega) fun x hx =>
    ⟨[.val A, .val (.int k), .val C, .val (pwW (gr K a)), x4, .own (.lst (row.map W.int)), .no, .no, .val (pwW r.1), .val (.int r.2), x10, .val (.int x.1), .val (.int x.2)], by simp, .st, by simp, rfl⟩
  rw [List.nil_append, ← subP_zip] at hcm
  have hC := e_compI (vs := [11, 12]) hZ rfl rfl hcm
  have hbd := subP_bd (c := 40) (gr_below h hr) (fun x hx => by have := (hg x hx).2; omega) (h.lo r hr)
  have hsp := fun st => size_product_any (st := st) (ns := oth) (ps := subP (gr K a) r.1) (v := .lst (oth.map W.int)) (w := .lst ((subP (gr K a) r.1).map W.int)) rfl rfl ho (by omega) hbd
  have hpl := pp_le (ns := oth) (ps := subP (gr K a) r.1) (c := 40) ho fun p hp => (hbd p hp).2
  have hm := mul_ok (hn.mono (k := 4000) (by decide)) (hpl.mono (k := 4000) (by omega))
  have hsl : k < (subP (gr K a) r.1).length := (List.getElem?_eq_some_iff.mp (sub_at h hk hr)).1
  have hgd : (subP (gr K a) r.1).getD k 0 = ((slotR (gr K a) k r : Nat) : Int) := by rw [List.getD_eq_getElem?_getD, sub_at h hk hr]; rfl
  have hix := fun st => idx_lst (st := st) hsl
  rw [hgd] at hix
  have hlt := slot_lt h hk hr
  have hix2 := fun st => idx_lst (st := st) (row := row) (i := slotR (gr K a) k r) (by omega)
  have hin := ixN_nat (l := row.length) (i := slotR (gr K a) k r) (by omega)
  refine (seq_nx (fr1 := [.val A, .val (.int k), .val C, .val (pwW (gr K a)), x4, .own (.lst (row.map W.int)), .no, .no, .val (pwW r.1), .val (.int r.2), .own (.lst ((subP (gr K a) r.1).map W.int)), .no, .no]) (s1 := st) (by rw [ev_set, hC]; simp)).trans ?_
  rw [ev_frz]
  have hfz : ([4, 10] : List Nat).foldr freezeF [.val A, .val (.int k), .val C, .val (pwW (gr K a)), x4, .own (.lst (row.map W.int)), .no, .no, .val (pwW r.1), .val (.int r.2), .own (.lst ((subP (gr K a) r.1).map W.int)), .no, .no] = [.val A, .val (.int k), .val C, .val (pwW (gr K a)), .val (.lst (oth.map W.int)), .own (.lst (row.map W.int)), .no, .no, .val (pwW r.1), .val (.int r.2), .val (.lst ((subP (gr K a) r.1).map W.int)), .no, .no] := by
    rcases h4 with rfl | rfl <;> rfl
  rw [hfz, q_size_product]
  unfold sLPut
  have hmap := map_set row (slotR (gr K a) k r) (row.getD (slotR (gr K a) k r) 0 + numR (gr K a) oth r)
  unfold rowStep
  rw [← hmap]
  unfold numR
  simp [-List.getD_eq_getElem?_getD, hix, hix2, hsp, ev_mul hm, hin]
theorem enum_ints (ns : List Int) : zipW (rngW 0 (ns.map W.int).length) (ns.map W.int) = (List.range ns.length).map fun j => W.tup [.int (j : Nat), .int (ns.getD j 0)] := by
  refine List.ext_getElem? fun j => ?_
  unfold zipW
  rw [List.getElem?_zipWith, rngW_map, List.getElem?_map, List.getElem?_map, List.getElem?_map, List.length_map]
  by_cases hj : j < ns.length
  · rw [List.getElem?_range hj, List.getElem?_eq_getElem hj]
    simp [hj]
  · rw [List.getElem?_eq_none (by simpa using hj), List.getElem?_eq_none (by simpa using hj)]
    rfl
theorem set_range (ns : List Int) (k : Nat) (x : Int) : (List.range ns.length).map (fun j => if j = k then x else ns.getD j 0) = ns.set k x := by
  refine List.ext_getElem? fun j => ?_
  rw [List.getElem?_map]
  by_cases hj : j < ns.length
  · rw [List.getElem?_range hj]
    by_cases e : j = k
    · subst e
      rw [List.getElem?_set_self hj]
      simp
    · rw [List.getElem?_set_ne (fun h => e h.symm), List.getElem?_eq_getElem hj]
      simp [e, hj]
  · rw [List.getElem?_eq_none (by simpa using hj), List.getElem?_eq_none (by simpa using hj)]
    rfl
theorem set_le (hs : Sizes K ns) {x : Int} (hx : Le x 30) : ∀ y ∈ ns.set k x, Le y 30 := fun y hy => by
  rcases List.mem_or_eq_of_mem_set hy with h | h
  · exact hs.le y h
  · rw [h]; exact hx
theorem mean_row_ok (h : Over K c a) (hc : c ≤ 40) (hf : Few a) (hk : k < K) (hK : K ≤ 3) (hs : Sizes K ns) :
    p_mean_row [meanW a, .int k, pwW ns] st = .ok (.st, .tup [pwW (rowOf (gr K a) (ns.set k 1) k a), .int ((gr K a).getD k 0), .int (pp (ns.set k 1) (gr K a))]) st := by
  have hgb := gr_bd h
  have hgk := gr_getD h hk
  have hlen := hs.len
  have hgr := fun st => greatest_ok (st := st) h (by omega) (by have := hf.len; rw [sizeLine_eq]; omega)
  have hole := set_le (k := k) hs (x := 1) (Le.one.mono (by decide))
  have holn : (ns.set k 1).length = K := by rw [List.length_set, hlen]
  have hc1 := comp_map (q := gTp 2 (gsCons (gN 6) (gsCons (gN 7) gsNil))) (el := eIf (bOf (eBin fEq (eVar 6) (eVar 1))) (eC (.int 1)) (eVar 7)) (st := st) (fr := [.val (meanW a), .val (.int k), .val (pwW ns), .val (pwW (gr K a)), .no, .no, .no, .no, .no, .no, .no, .no, .no])
    (fun j : Nat => W.tup [.int (j : Nat), .int (ns.getD j 0)]) (fun j => .int (if j = k then 1 else ns.getD j 0)) (List.range ns.length) [] (by rw [sizeLine_eq]; simp; omega) fun j _ =>
      ⟨[.val (meanW a), .val (.int k), .val (pwW ns), .val (pwW (gr K a)), .no, .no, .val (.int (j : Nat)), .val (.int (ns.getD j 0)), .no, .no, .no, .no, .no], by simp, .st, by
        have hq : fEq (.int (j : Nat)) (.int k) st = .ok (.st, .bl (decide (j = k))) st := by
          rw [ev_eq_int, decide_eq_decide.mpr (show ((j : Nat) : Int) = (k : Int) ↔ j = k by omega)]
        by_cases e : j = k
        · subst e
          simp [-List.getD_eq_getElem?_getD, hq]
        · simp [-List.getD_eq_getElem?_getD, hq, e], rfl⟩
  have hI1 : iEnum (aCons (eVar 2) aNil) [.val (meanW a), .val (.int k), .val (pwW ns), .val (pwW (gr K a)), .no, .no, .no, .no, .no, .no, .no, .no, .no] st = .ok ((List.range ns.length).map fun j => W.tup [.int (j : Nat), .int (ns.getD j 0)]) st := by
    rw [← enum_ints]; rfl
  have hm1 : ((List.range ns.length).map fun j => W.int (if j = k then 1 else ns.getD j 0)) = (ns.set k 1).map W.int := by
    rw [← set_range, List.map_map]; rfl
  rw [List.nil_append, hm1] at hc1
  have hC1 := e_compI (vs := [6, 7]) hI1 rfl rfl hc1
  have hrep : fMul (.lst [.int 0]) (.int ((gr K a).getD k 0 + 1)) st = .ok (.fr, .lst ((row0 (gr K a) k).map W.int)) st := by
    have b1 : (100 : Int) < 2 ^ 63 := by decide
    have b2 : -((2 : Int) ^ 63) ≤ 0 := by decide
    have e : ((gr K a).getD k 0 + 1).toNat = ((gr K a).getD k 0).toNat + 1 := by omega
    have z : fMul (.lst [.int 0]) (.int ((gr K a).getD k 0 + 1)) st = grd (-(2 ^ 63) ≤ (gr K a).getD k 0 + 1 ∧ (gr K a).getD k 0 + 1 < 2 ^ 63 ∧ ([W.int 0] : List W).length * ((gr K a).getD k 0 + 1).toNat ≤ sizeLine) (.ok (.fr, .lst (List.replicate ((gr K a).getD k 0 + 1).toNat [W.int 0]).flatten) st) := rfl
    rw [z, ev_grd ⟨by omega, by omega, by rw [sizeLine_eq]; simp only [List.length_cons, List.length_nil]; omega⟩, e, rep_zero]
    rfl
  have hig : ∀ st, fIdx (pwW (gr K a)) (.int k) st = .ok (.st, .int ((gr K a).getD k 0)) st := fun st => idx_pw _ (gr_at hk)
  obtain ⟨fr', st', e, hp, x4, x8, x9, x10, h4, e1, e2⟩ := for_map (q := gTp 2 (gsCons (gN 8) (gsCons (gN 9) gsNil))) (b := rowBody) rowW
    (fun pre fr st' => (∀ r ∈ pre, r ∈ a) ∧ ∃ x4 x8 x9 x10, (x4 = .own (.lst ((ns.set k 1).map W.int)) ∨ x4 = .val (.lst ((ns.set k 1).map W.int))) ∧ fr = [.val (meanW a), .val (.int k), .val (pwW ns), .val (pwW (gr K a)), x4, .own (.lst ((rowOf (gr K a) (ns.set k 1) k pre).map W.int)), .no, .no, x8, x9, x10, .no, .no] ∧ st' = st) a
    [.val (meanW a), .val (.int k), .val (pwW ns), .val (pwW (gr K a)), .own (.lst ((ns.set k 1).map W.int)), .own (.lst ((row0 (gr K a) k).map W.int)), .no, .no, .no, .no, .no, .no, .no] st ⟨fun _ h => (nomatch h), _, _, _, _, .inl rfl, rfl, rfl⟩ fun pre r fr st' hr hpre ⟨hin, x4, x8, x9, x10, h4, e1, e2⟩ => by
      subst e1 e2
      refine ⟨[.val (meanW a), .val (.int k), .val (pwW ns), .val (pwW (gr K a)), x4, .own (.lst ((rowOf (gr K a) (ns.set k 1) k pre).map W.int)), .no, .no, .val (pwW r.1), .val (.int r.2), x10, .no, .no], _, st', by simp, row_turn h hc hk hK hr (hf.nums r hr) hole holn (rowOf_len _ _ _ _) h4 (.inr trivial), ?_, _, _, _, _, .inr rfl, by rw [rowOf_snoc], rfl⟩
      intro s hs
      rcases List.mem_append.mp hs with h | h
      · exact hin s h
      · rw [List.mem_singleton.mp h]; exact hr
  subst e1 e2
  have hsp := fun st => size_product_any (st := st) (ns := ns.set k 1) (ps := gr K a) (v := .lst ((ns.set k 1).map W.int)) (w := pwW (gr K a)) rfl rfl hole (by omega) fun x hx => by have := hgb x hx; omega
  have hK' : ∀ st, p_greatest_powers [.int (ns.length : Nat), meanW a] st = .ok (.st, pwW (gr K a)) st := fun st => by rw [hlen]; exact hgr st
  generalize ns.set k 1 = oth at *
  unfold p_mean_row b_mean_row
  refine body_rt (fr := [.val (meanW a), .val (.int k), .val (pwW ns), .no, .no, .no, .no, .no, .no, .no, .no, .no, .no]) rfl ?_
  refine (seq_nx (fr1 := [.val (meanW a), .val (.int k), .val (pwW ns), .val (pwW (gr K a)), .no, .no, .no, .no, .no, .no, .no, .no, .no]) (s1 := st') (by simp -implicitDefEqProofs [hK'])).trans ?_
  refine (seq_nx (fr1 := [.val (meanW a), .val (.int k), .val (pwW ns), .val (pwW (gr K a)), .own (.lst (oth.map W.int)), .own (.lst ((row0 (gr K a) k).map W.int)), .no, .no, .no, .no, .no, .no, .no]) (s1 := st') (by
    rw [ev_par, ev_pcons, hC1]
    simp -implicitDefEqProofs [-List.getD_eq_getElem?_getD, hig, hrep, putsF])).trans ?_
  refine (seq_nx (fr1 := [.val (meanW a), .val (.int k), .val (pwW ns), .val (pwW (gr K a)), x4, .own (.lst ((rowOf (gr K a) oth k a).map W.int)), .no, .no, x8, x9, x10, .no, .no]) (s1 := st') (by simp -implicitDefEqProofs [e])).trans ?_
  have hfz : ([4] : List Nat).foldr freezeF [.val (meanW a), .val (.int k), .val (pwW ns), .val (pwW (gr K a)), x4, .own (.lst ((rowOf (gr K a) oth k a).map W.int)), .no, .no, x8, x9, x10, .no, .no] = [.val (meanW a), .val (.int k), .val (pwW ns), .val (pwW (gr K a)), .val (.lst (oth.map W.int)), .own (.lst ((rowOf (gr K a) oth k a).map W.int)), .no, .no, x8, x9, x10, .no, .no] := by
    rcases h4 with rfl | rfl <;> rfl
  rw [ev_frz, hfz, q_size_product]
  simp -implicitDefEqProofs [-List.getD_eq_getElem?_getD, hig, hsp]
end
end Vy.K50

set_option Elab.async false
set_option linter.all false
set_option maxRecDepth 100000
set_option maxHeartbeats 2000000
/-! k50: a mean's row is right: the parts. -/
namespace Vy.K50
open PySem PySem.Spec PyProof.Rows L2 Vy.Mean Vy.K49
section
variable {st : Store} {K k c : Nat} {a : List MRow} {ns : List Int} {n : Int}
theorem max_col (h : Over K c a) {j : Nat} (hj : j < K) : fMax (.lst ((col a j).map W.int ++ [.int 0])) st = .ok (.st, .int (mx (col a j))) st := by
  obtain ⟨n, ns, e1, e2⟩ := max_zero fun y hy => (col_bd h hj y hy).1
  have e3 : (col a j).map W.int ++ [.int 0] = (n :: ns).map W.int := by rw [← e1, List.map_append]; rfl
  show (match intsOf ((col a j).map W.int ++ [.int 0]) with | some (n :: ns) => okS (.int (maxI (n :: ns))) st | _ => .bad) = _
  rw [e3, K49.ints_map, ← e2]
theorem greatest_comp (h : Over K c a) (hK : K ≤ 3) (hl : a.length ≤ 100) {a0 a3 a4 a8 a9 a10 a11 a12 a13 a14 a15 a16 : Sl} :
    eComp (iRng1 (aCons (eVar 1) aNil)) (gN 5) bYes (eC1 fMax (eBin fAdd (eComp (iSeqL (eVar 2)) (gTp 2 (gsCons (gN 6) (gsCons (gN 7) gsNil))) bYes (eBin fIdx (eVar 6) (eVar 5)) [6, 7]) (eLst (aCons (eC (.int 0)) aNil)))) [5]
      [a0, .val (.int K), .val (meanW a), a3, a4, .no, .no, .no, a8, a9, a10, a11, a12, a13, a14, a15, a16] st = .ok (.fr, .lst ((gr K a).map W.int)) st := by
  have hc := comp_map (q := gN 5) (el := eC1 fMax (eBin fAdd (eComp (iSeqL (eVar 2)) (gTp 2 (gsCons (gN 6) (gsCons (gN 7) gsNil))) bYes (eBin fIdx (eVar 6) (eVar 5)) [6, 7]) (eLst (aCons (eC (.int 0)) aNil)))) (st := st) (fr := [a0, .val (.int K), .val (meanW a), a3, a4, .no, .no, .no, a8, a9, a10, a11, a12, a13, a14, a15, a16])
    (fun j : Nat => W.int (0 + (j : Nat))) (fun j => .int (mx (col a j))) (List.range K) [] (by rw [sizeLine_eq]; simp; omega) fun j hj => by
      have hj := List.mem_range.mp hj
      refine ⟨[a0, .val (.int K), .val (meanW a), a3, a4, .val (.int (0 + (j : Nat))), .no, .no, a8, a9, a10, a11, a12, a13, a14, a15, a16], rfl, .st, ?_, rfl⟩
      rw [Int.zero_add]
      have cr := comp_map (q := gTp 2 (gsCons (gN 6) (gsCons (gN 7) gsNil))) (el := eBin fIdx (eVar 6) (eVar 5)) (st := st) (fr := [a0, .val (.int K), .val (meanW a), a3, a4, .val (.int (j : Nat)), .no, .no, a8, a9, a10, a11, a12, a13, a14, a15, a16]) rowW (fun r => .int (r.1.getD j 0)) a [] (by rw [List.length_nil, sizeLine_eq]; omega) fun r hr =>
        ⟨[a0, .val (.int K), .val (meanW a), a3, a4, .val (.int (j : Nat)), .val (pwW r.1), .val (.int r.2), a8, a9, a10, a11, a12, a13, a14, a15, a16], by simp, .st, by
          simp only [ev_bin, ev_var, List.getElem?_cons_zero, List.getElem?_cons_succ, ev_bind]
          exact idx_pw r.1 (h.at hr hj).1, rfl⟩
      have e0 : a.map (fun r => W.int (r.1.getD j 0)) = (col a j).map W.int := by unfold col; rw [List.map_map]; rfl
      rw [List.nil_append, e0] at cr
      have hC := e_compI (qi := iSeqL (eVar 2)) (vs := [6, 7]) (fr := [a0, .val (.int K), .val (meanW a), a3, a4, .val (.int (j : Nat)), .no, .no, a8, a9, a10, a11, a12, a13, a14, a15, a16]) (st := st) (st1 := st) (by simp) rfl rfl cr
      have hz : ((col a j).map W.int).length + [W.int 0].length ≤ sizeLine := by unfold col; rw [List.length_map, List.length_map, sizeLine_eq]; simp; omega
      have ha : fAdd (.lst ((col a j).map W.int)) (.lst [.int 0]) st = .ok (.fr, .lst ((col a j).map W.int ++ [.int 0])) st := by rw [ev_add_l, ev_grd hz]
      have hm := max_col (st := st) h hj
      rw [ev_c1, ev_bin, hC]
      simp -implicitDefEqProofs [-ev_add_l, ha, hm]
  rw [List.nil_append, ← rngW_map] at hc
  have e1 : (List.range K).map (fun j => W.int (mx (col a j))) = (gr K a).map W.int := by unfold gr; rw [List.map_map]; rfl
  rw [e1] at hc
  exact e_compI (vs := [5]) (rng1_ok (by simp) (rng_inR (by omega))) rfl rfl hc
theorem p_far {m : Int} : True := trivial
theorem row_sizes (S : Src st) (hK : K ≤ 3) {a2 a3 a4 a9 a10 a11 a12 a13 a14 a15 a16 : Sl} :
    ∃ (ns : Pw) (st' : Store), eComp (iRng1 (aCons (eVar 1) aNil)) (gN 5) bYes (eBin fAdd (eC (.int 1)) (eCall p_law_pick (aCons (eVar 0) (aCons (eCall p_law_of (aCons (eVar 0) (aCons (eLst (aCons (eC (.int 3)) (aCons (eC (.int 50)) (aCons (eBin fPow (eC (.int 10)) (eC (.int 30))) aNil)))) aNil))) aNil)))) [5]
      [.val (.ref 1), .val (.int K), a2, a3, a4, .no, .no, .no, .no, a9, a10, a11, a12, a13, a14, a15, a16] st = .ok (.fr, .lst (ns.map W.int)) st' ∧ Sizes K ns ∧ Src st' := by
  obtain ⟨p, st', e, hl, hp, S'⟩ := draws_any (fun fr => fr[0]? = some (.val (.ref 1))) 5 (el := eBin fAdd (eC (.int 1)) (eCall p_law_pick (aCons (eVar 0) (aCons (eCall p_law_of (aCons (eVar 0) (aCons (eLst (aCons (eC (.int 3)) (aCons (eC (.int 50)) (aCons (eBin fPow (eC (.int 10)) (eC (.int 30))) aNil)))) aNil))) aNil)))) 1 (10 ^ 30) (fun st S => by
    obtain ⟨w, s1, hw, e1, S1⟩ := law_of_ok (ws := [.int 3, .int 50, .int (10 ^ 30)]) S (by simp) (by simp)
    have hf : ∃ f : Int, w = .int f ∧ 1 ≤ f ∧ f ≤ 10 ^ 30 := by
      simp only [List.mem_cons, List.not_mem_nil, or_false] at hw
      rcases hw with h | h | h <;> exact ⟨_, h, by decide, by decide⟩
    obtain ⟨f, rfl, f1, f2⟩ := hf
    obtain ⟨r, s2, e2, S2, r0, r1⟩ := pick_ok (most := f) S1 (by unfold Le; omega)
    have r1 := r1 f1
    have hp := fun st => p10_30 st
    exact ⟨1 + r, s2, fun fr u h0 => by
      have g0 : (fr.set 5 (.val u))[0]? = some (.val (.ref 1)) := by rw [List.getElem?_set_ne (by decide)]; exact h0
      simp [-Int.reducePow, g0, hp, e1, e2], S2, by omega, by omega⟩) (rngW 0 K) st S
  rw [rng_len] at hl
  refine ⟨p, st', e_compI (rng1_ok (by simp) (rng_inR (by omega))) rfl rfl (e _ [] rfl (by rw [rng_len, sizeLine_eq]; simp; omega)), ⟨hl, fun x hx => ?_, fun x hx => (hp x hx).1⟩, S'⟩
  have := hp x hx
  unfold Le
  omega
theorem set_at (hl : ns.length = K) {j : Nat} (hj : j < K) {x : Int} : (ns.set k x)[j]? = some (if j = k then x else ns.getD j 0) := by
  by_cases e : j = k
  · subst e
    rw [List.getElem?_set_self (by omega), if_pos rfl]
  · rw [List.getElem?_set_ne (fun h => e h.symm), if_neg e, List.getD_eq_getElem?_getD, List.getElem?_eq_getElem (by omega)]
    rfl
/-- the power that stands for a kind: 1 at kind k -/
theorem pow_set {j : Nat} {p : Int} : (if j = k then (1 : Int) else ns.getD j 0) ^ p.toNat = if j = k then 1 else (ns.getD j 0) ^ p.toNat := by
  by_cases e : j = k
  · rw [if_pos e, if_pos e, Int.one_pow]
  · rw [if_neg e, if_neg e]
theorem idx_ns (hl : ns.length = K) {j : Nat} (hj : j < K) : fIdx (pwW ns) (.int (j : Int)) st = .ok (.st, .int (ns.getD j 0)) st := idx_pw _ (by rw [List.getD_eq_getElem?_getD, List.getElem?_eq_getElem (by omega)]; rfl)
theorem ne_nat {i j : Nat} : fNe (.int (i : Int)) (.int (j : Int)) st = .ok (.st, .bl (decide (i ≠ j))) st := by
  rw [ne_int_ok, decide_eq_decide.mpr (show (i : Int) ≠ (j : Int) ↔ i ≠ j by omega)]
/-- the product below -/
theorem bottom_loop (h : Over K c a) (hc : c ≤ 40) (hk : k < K) (hK : K ≤ 3) (hs : Sizes K ns) {a0 a2 a6 a7 a10 a11 a12 a13 a14 a15 a16 : Sl} :
    ∃ x5, isOwn (some x5) = false ∧ forL (gN 5) (sSet 9 (eBin fMul (eVar 9) (eIf (bOf (eBin fNe (eVar 5) (eVar 3))) (eCall p_law_power (aCons (eBin fIdx (eVar 8) (eVar 5)) (aCons (eBin fIdx (eVar 4) (eVar 5)) aNil))) (eC (.int 1))))) (rngW 0 K)
      [a0, .val (.int K), a2, .val (.int k), .own (.lst ((gr K a).map W.int)), .no, a6, a7, .val (pwW ns), .val (.int 1), a10, a11, a12, a13, a14, a15, a16] st =
      .ok (.nx [a0, .val (.int K), a2, .val (.int k), .own (.lst ((gr K a).map W.int)), x5, a6, a7, .val (pwW ns), .val (.int (pp (ns.set k 1) (gr K a))), a10, a11, a12, a13, a14, a15, a16]) st := by
  have hlen := hs.len
  have hgb := gr_bd h
  have holn : (ns.set k 1).length = K := by rw [List.length_set, hlen]
  have hole := set_le (k := k) hs (x := 1) (Le.one.mono (by decide))
  obtain ⟨fr', st', e, hj, x5, h5, e1, e2⟩ := for_run (q := gN 5) (b := sSet 9 (eBin fMul (eVar 9) (eIf (bOf (eBin fNe (eVar 5) (eVar 3))) (eCall p_law_power (aCons (eBin fIdx (eVar 8) (eVar 5)) (aCons (eBin fIdx (eVar 4) (eVar 5)) aNil))) (eC (.int 1)))))
    (fun j fr st' => j ≤ K ∧ ∃ x5, isOwn (some x5) = false ∧ fr = [a0, .val (.int K), a2, .val (.int k), .own (.lst ((gr K a).map W.int)), x5, a6, a7, .val (pwW ns), .val (.int (pp ((ns.set k 1).take j) ((gr K a).take j))), a10, a11, a12, a13, a14, a15, a16] ∧ st' = st) (rngW 0 K) 0
    [a0, .val (.int K), a2, .val (.int k), .own (.lst ((gr K a).map W.int)), .no, a6, a7, .val (pwW ns), .val (.int 1), a10, a11, a12, a13, a14, a15, a16] st ⟨Nat.zero_le _, _, rfl, rfl, rfl⟩ fun j w fr st' hw ⟨hjk, x5, h5, e1, e2⟩ => by
      subst e1 e2
      rw [Nat.zero_add] at *
      obtain ⟨hj, rfl⟩ := int_at hw
      have hg := gr_at (a := a) hj
      have hgm := hgb _ (List.mem_of_getElem? hg)
      have hset := set_at (k := k) (x := (1 : Int)) hlen hj
      have ht := pp_take hset hg
      rw [pow_set] at ht
      have hn1 := fun st => idx_ns (st := st) hlen hj
      have hn2 := fun st => idx_lst (st := st) (row := gr K a) (i := j) (by rw [gr_len]; exact hj)
      have hmem : ns.getD j 0 ∈ ns := by rw [List.getD_eq_getElem?_getD, List.getElem?_eq_getElem (show j < ns.length by omega)]; exact List.getElem_mem _
      have hle := hs.le _ hmem
      have hpw := fun st => law_power_ok (st := st) (n := ns.getD j 0) ((gr K a).getD j 0).toNat hle (by omega)
      rw [Int.toNat_of_nonneg hgm.1] at hpw
      have hq := pp_le (ns := (ns.set k 1).take j) (ps := (gr K a).take j) (c := 40) (fun m hm => hole m (List.mem_of_mem_take hm)) fun p hp => by have := (hgb p (List.mem_of_mem_take hp)).2; omega
      have hlt : ((ns.set k 1).take j).length ≤ 2 := by rw [List.length_take]; omega
      have hmu := mul_ok (hq.mono (k := 4000) (by omega)) ((Le.pow hle ((gr K a).getD j 0).toNat).mono (k := 4000) (by omega))
      have hm1 : mulOk (pp ((ns.set k 1).take j) ((gr K a).take j)) 1 := .inr (.inr ⟨by decide, by decide⟩)
      have hq1 := fun st => ne_nat (st := st) (i := j) (j := k)
      refine ⟨[a0, .val (.int K), a2, .val (.int k), .own (.lst ((gr K a).map W.int)), .val (.int (j : Nat)), a6, a7, .val (pwW ns), .val (.int (pp ((ns.set k 1).take j) ((gr K a).take j))), a10, a11, a12, a13, a14, a15, a16],
        [a0, .val (.int K), a2, .val (.int k), .own (.lst ((gr K a).map W.int)), .val (.int (j : Nat)), a6, a7, .val (pwW ns), .val (.int (pp ((ns.set k 1).take (j + 1)) ((gr K a).take (j + 1)))), a10, a11, a12, a13, a14, a15, a16], st', rfl, ?_, by omega, _, rfl, rfl, rfl⟩
      rw [ht, q_law_power]
      generalize pp ((ns.set k 1).take j) ((gr K a).take j) = P at *
      by_cases ej : j = k
      · subst ej
        simp -implicitDefEqProofs [hq1, ev_mul hm1]
      · simp -implicitDefEqProofs [-List.getD_eq_getElem?_getD, hq1, ej, hn1, hn2, hpw, ev_mul hmu]
  rw [Nat.zero_add, rng_len] at *
  have t1 : (ns.set k 1).take K = ns.set k 1 := by rw [← holn, List.take_length]
  have t2 : (gr K a).take K = gr K a := List.take_of_length_le (by rw [gr_len]; exact Nat.le_refl _)
  rw [t1, t2] at e1
  subst e1 e2
  exact ⟨x5, h5, e⟩
end
end Vy.K50

set_option Elab.async false
set_option linter.all false
set_option maxRecDepth 100000
set_option maxHeartbeats 2000000
/-! k50: a mean's row is right: the law's own row. -/
namespace Vy.K50
open PySem PySem.Spec PyProof.Rows L2 Vy.Mean Vy.K49
section
variable {st : Store} {K k c : Nat} {a : List MRow} {ns : List Int} {n : Int}
theorem slot_int (h : Over K c a) (hk : k < K) {r : MRow} (hr : r ∈ a) : (gr K a).getD k 0 - r.1.getD k 0 = ((slotR (gr K a) k r : Nat) : Int) := by
  have := gr_ge h hk hr
  unfold slotR
  rw [Int.toNat_of_nonneg (by omega)]
theorem idx_row (h : Over K c a) {j : Nat} (hj : j < K) {r : MRow} (hr : r ∈ a) : fIdx (pwW r.1) (.int (j : Int)) st = .ok (.st, .int (r.1.getD j 0)) st := idx_pw _ (h.at hr hj).1
theorem number_loop (h : Over K c a) (hc : c ≤ 40) (hk : k < K) (hK : K ≤ 3) (hs : Sizes K ns) {r : MRow} (hr : r ∈ a) (hn : Le r.2 60) {a0 a2 x5 a9 a10 a11 a12 a13 a14 a15 a16 : Sl} (h5 : isOwn (some x5) = false) :
    ∃ x5', isOwn (some x5') = false ∧ forL (gN 5) (sSet 7 (eBin fMul (eVar 7) (eIf (bOf (eBin fNe (eVar 5) (eVar 3))) (eCall p_law_power (aCons (eBin fIdx (eVar 8) (eVar 5)) (aCons (eBin fSub (eBin fIdx (eVar 4) (eVar 5)) (eBin fIdx (eVar 6) (eVar 5))) aNil))) (eC (.int 1))))) (rngW 0 K)
      [a0, .val (.int K), a2, .val (.int k), .own (.lst ((gr K a).map W.int)), x5, .val (pwW r.1), .val (.int r.2), .val (pwW ns), a9, a10, a11, a12, a13, a14, a15, a16] st =
      .ok (.nx [a0, .val (.int K), a2, .val (.int k), .own (.lst ((gr K a).map W.int)), x5', .val (pwW r.1), .val (.int (numR (gr K a) (ns.set k 1) r)), .val (pwW ns), a9, a10, a11, a12, a13, a14, a15, a16]) st := by
  have hlen := hs.len
  have hgb := gr_bd h
  have holn : (ns.set k 1).length = K := by rw [List.length_set, hlen]
  have hole := set_le (k := k) hs (x := 1) (Le.one.mono (by decide))
  have hbd := subP_bd (c := 40) (gr_below h hr) (fun x hx => by have := (hgb x hx).2; omega) (h.lo r hr)
  have hsl : (subP (gr K a) r.1).length = K := by unfold subP; rw [List.length_zipWith, gr_len, h.len r hr, Nat.min_self]
  obtain ⟨fr', st', e, hj, x5', h5', e1, e2⟩ := for_run (q := gN 5) (b := sSet 7 (eBin fMul (eVar 7) (eIf (bOf (eBin fNe (eVar 5) (eVar 3))) (eCall p_law_power (aCons (eBin fIdx (eVar 8) (eVar 5)) (aCons (eBin fSub (eBin fIdx (eVar 4) (eVar 5)) (eBin fIdx (eVar 6) (eVar 5))) aNil))) (eC (.int 1)))))
    (fun j fr st' => j ≤ K ∧ ∃ x5, isOwn (some x5) = false ∧ fr = [a0, .val (.int K), a2, .val (.int k), .own (.lst ((gr K a).map W.int)), x5, .val (pwW r.1), .val (.int (r.2 * pp ((ns.set k 1).take j) ((subP (gr K a) r.1).take j))), .val (pwW ns), a9, a10, a11, a12, a13, a14, a15, a16] ∧ st' = st) (rngW 0 K) 0
    [a0, .val (.int K), a2, .val (.int k), .own (.lst ((gr K a).map W.int)), x5, .val (pwW r.1), .val (.int r.2), .val (pwW ns), a9, a10, a11, a12, a13, a14, a15, a16] st ⟨Nat.zero_le _, _, h5, by rw [show pp ((ns.set k 1).take 0) ((subP (gr K a) r.1).take 0) = 1 from rfl, Int.mul_one], rfl⟩ fun j w fr st' hw ⟨hjk, x5, _, e1, e2⟩ => by
      subst e1 e2
      rw [Nat.zero_add] at *
      obtain ⟨hj, rfl⟩ := int_at hw
      have hsub := sub_at h hj hr
      have hsi := slot_int h hj hr
      have hset := set_at (k := k) (x := (1 : Int)) hlen hj
      have ht := pp_take hset hsub
      rw [pow_set, Int.toNat_natCast] at ht
      have hn1 := fun st => idx_ns (st := st) hlen hj
      have hn2 := fun st => idx_lst (st := st) (row := gr K a) (i := j) (by rw [gr_len]; exact hj)
      have hn3 := fun st => idx_row (st := st) h hj hr
      have hmem : ns.getD j 0 ∈ ns := by rw [List.getD_eq_getElem?_getD, List.getElem?_eq_getElem (show j < ns.length by omega)]; exact List.getElem_mem _
      have hle := hs.le _ hmem
      have hsm := (hbd _ (List.mem_of_getElem? hsub)).2
      have hpw := fun st => law_power_ok (st := st) (n := ns.getD j 0) (slotR (gr K a) j r) hle (by omega)
      have hq := pp_le (ns := (ns.set k 1).take j) (ps := (subP (gr K a) r.1).take j) (c := 40) (fun m hm => hole m (List.mem_of_mem_take hm)) fun p hp => (hbd p (List.mem_of_mem_take hp)).2
      have hlt : ((ns.set k 1).take j).length ≤ 2 := by rw [List.length_take]; omega
      have hmu := mul_ok ((hn.mul hq).mono (k := 4000) (by omega)) ((Le.pow hle (slotR (gr K a) j r)).mono (k := 4000) (by omega))
      have hm1 : mulOk (r.2 * pp ((ns.set k 1).take j) ((subP (gr K a) r.1).take j)) 1 := .inr (.inr ⟨by decide, by decide⟩)
      have hq1 := fun st => ne_nat (st := st) (i := j) (j := k)
      refine ⟨[a0, .val (.int K), a2, .val (.int k), .own (.lst ((gr K a).map W.int)), .val (.int (j : Nat)), .val (pwW r.1), .val (.int (r.2 * pp ((ns.set k 1).take j) ((subP (gr K a) r.1).take j))), .val (pwW ns), a9, a10, a11, a12, a13, a14, a15, a16],
        [a0, .val (.int K), a2, .val (.int k), .own (.lst ((gr K a).map W.int)), .val (.int (j : Nat)), .val (pwW r.1), .val (.int (r.2 * pp ((ns.set k 1).take (j + 1)) ((subP (gr K a) r.1).take (j + 1)))), .val (pwW ns), a9, a10, a11, a12, a13, a14, a15, a16], st', rfl, ?_, by omega, _, rfl, rfl, rfl⟩
      rw [ht, q_law_power, ← Int.mul_assoc]
      generalize r.2 * pp ((ns.set k 1).take j) ((subP (gr K a) r.1).take j) = P at *
      by_cases ej : j = k
      · subst ej
        simp -implicitDefEqProofs [hq1, ev_mul hm1]
      · simp -implicitDefEqProofs [-List.getD_eq_getElem?_getD, hq1, ej, hn1, hn2, hn3, hsi, hpw, ev_mul hmu]
  rw [Nat.zero_add, rng_len] at *
  have t1 : (ns.set k 1).take K = ns.set k 1 := by rw [← holn, List.take_length]
  have t2 : (subP (gr K a) r.1).take K = subP (gr K a) r.1 := List.take_of_length_le (by rw [hsl]; exact Nat.le_refl _)
  rw [t1, t2] at e1
  subst e1 e2
  exact ⟨x5', h5', e⟩
noncomputable abbrev lawRow : PM := (sSeq (sFor (iRng1 (aCons (eVar 1) aNil)) (gN 5) (sSet 7 (eBin fMul (eVar 7) (eIf (bOf (eBin fNe (eVar 5) (eVar 3))) (eCall p_law_power (aCons (eBin fIdx (eVar 8) (eVar 5)) (aCons (eBin fSub (eBin fIdx (eVar 4) (eVar 5)) (eBin fIdx (eVar 6) (eVar 5))) aNil))) (eC (.int 1))))))
    (sLPut 10 (eBin fSub (eBin fIdx (eVar 4) (eVar 3)) (eBin fIdx (eVar 6) (eVar 3))) (eBin fAdd (eBin fIdx (eVar 10) (eBin fSub (eBin fIdx (eVar 4) (eVar 3)) (eBin fIdx (eVar 6) (eVar 3)))) (eVar 7))))
theorem rows_loop (h : Over K c a) (hc : c ≤ 40) (hf : Few a) (hk : k < K) (hK : K ≤ 3) (hs : Sizes K ns) {a0 a2 x5 a9 a11 a12 a13 a14 a15 a16 : Sl} (h5 : isOwn (some x5) = false) :
    ∃ x5' x6 x7, isOwn (some x5') = false ∧ forL (gTp 2 (gsCons (gN 6) (gsCons (gN 7) gsNil))) lawRow (a.map rowW)
      [a0, .val (.int K), a2, .val (.int k), .own (.lst ((gr K a).map W.int)), x5, .no, .no, .val (pwW ns), a9, .own (.lst ((row0 (gr K a) k).map W.int)), a11, a12, a13, a14, a15, a16] st =
      .ok (.nx [a0, .val (.int K), a2, .val (.int k), .own (.lst ((gr K a).map W.int)), x5', x6, x7, .val (pwW ns), a9, .own (.lst ((rowOf (gr K a) (ns.set k 1) k a).map W.int)), a11, a12, a13, a14, a15, a16]) st := by
  obtain ⟨fr', st', e, hp, x5', x6, x7, h5', e1, e2⟩ := for_map (q := gTp 2 (gsCons (gN 6) (gsCons (gN 7) gsNil))) (b := lawRow) rowW
    (fun pre fr st' => (∀ r ∈ pre, r ∈ a) ∧ ∃ x5 x6 x7, isOwn (some x5) = false ∧ fr = [a0, .val (.int K), a2, .val (.int k), .own (.lst ((gr K a).map W.int)), x5, x6, x7, .val (pwW ns), a9, .own (.lst ((rowOf (gr K a) (ns.set k 1) k pre).map W.int)), a11, a12, a13, a14, a15, a16] ∧ st' = st) a
    [a0, .val (.int K), a2, .val (.int k), .own (.lst ((gr K a).map W.int)), x5, .no, .no, .val (pwW ns), a9, .own (.lst ((row0 (gr K a) k).map W.int)), a11, a12, a13, a14, a15, a16] st ⟨fun _ h => (nomatch h), _, _, _, h5, rfl, rfl⟩ fun pre r fr st' hr hpre ⟨hin, x5, x6, x7, h5, e1, e2⟩ => by
      subst e1 e2
      obtain ⟨y5, g5, e3⟩ := number_loop (st := st') h hc hk hK hs hr (hf.nums r hr) (a0 := a0) (a2 := a2) (x5 := x5) (a9 := a9) (a10 := .own (.lst ((rowOf (gr K a) (ns.set k 1) k pre).map W.int))) (a11 := a11) (a12 := a12) (a13 := a13) (a14 := a14) (a15 := a15) (a16 := a16) h5
      have hrl := rowOf_len (gr K a) (ns.set k 1) k pre
      have hslt := slot_lt h hk hr
      have hsi := slot_int h hk hr
      have hn2 := fun st => idx_lst (st := st) (row := gr K a) (i := k) (by rw [gr_len]; exact hk)
      have hn3 := fun st => idx_row (st := st) h hk hr
      have hn4 := fun st => idx_lst (st := st) (row := rowOf (gr K a) (ns.set k 1) k pre) (i := slotR (gr K a) k r) (by omega)
      have hin2 := ixN_nat (l := (rowOf (gr K a) (ns.set k 1) k pre).length) (i := slotR (gr K a) k r) (by omega)
      have hI : ∀ a5 a6 a7 a9 a10 st, iRng1 (aCons (eVar 1) aNil) [a0, .val (.int K), a2, .val (.int k), .own (.lst ((gr K a).map W.int)), a5, a6, a7, .val (pwW ns), a9, a10, a11, a12, a13, a14, a15, a16] st = .ok (rngW 0 K) st := fun _ _ _ _ _ st => rng1_ok (by simp) (rng_inR (by omega))
      refine ⟨[a0, .val (.int K), a2, .val (.int k), .own (.lst ((gr K a).map W.int)), x5, .val (pwW r.1), .val (.int r.2), .val (pwW ns), a9, .own (.lst ((rowOf (gr K a) (ns.set k 1) k pre).map W.int)), a11, a12, a13, a14, a15, a16],
        [a0, .val (.int K), a2, .val (.int k), .own (.lst ((gr K a).map W.int)), y5, .val (pwW r.1), .val (.int (numR (gr K a) (ns.set k 1) r)), .val (pwW ns), a9, .own (.lst ((rowOf (gr K a) (ns.set k 1) k (pre ++ [r])).map W.int)), a11, a12, a13, a14, a15, a16], st', by simp, ?_, ?_, _, _, _, g5, rfl, rfl⟩
      · refine (seq_nx (fr1 := [a0, .val (.int K), a2, .val (.int k), .own (.lst ((gr K a).map W.int)), y5, .val (pwW r.1), .val (.int (numR (gr K a) (ns.set k 1) r)), .val (pwW ns), a9, .own (.lst ((rowOf (gr K a) (ns.set k 1) k pre).map W.int)), a11, a12, a13, a14, a15, a16]) (s1 := st') (by rw [ev_for, hI, ev_bind]; exact e3)).trans ?_
        unfold sLPut
        rw [rowOf_snoc]
        unfold rowStep
        generalize rowOf (gr K a) (ns.set k 1) k pre = row at *
        have hmap := map_set row (slotR (gr K a) k r) (row.getD (slotR (gr K a) k r) 0 + numR (gr K a) (ns.set k 1) r)
        rw [← hmap]
        generalize numR (gr K a) (ns.set k 1) r = nu at *
        simp -implicitDefEqProofs [-List.getD_eq_getElem?_getD, hn2, hn3, hn4, hsi, hin2]
      · intro s hs
        rcases List.mem_append.mp hs with h | h
        · exact hin s h
        · rw [List.mem_singleton.mp h]; exact hr
  subst e1 e2
  exact ⟨x5', x6, x7, h5', e⟩
/-! ### the row's numbers -/
theorem rowOf_le {B : Nat} {G oth : Pw} (h : ∀ r ∈ a, Le (numR G oth r) B) : ∀ x ∈ rowOf G oth k a, Le x (B + a.length) := by
  have key : ∀ (b : List MRow) (row : List Int) (t : Nat), (∀ r ∈ b, r ∈ a) → (∀ x ∈ row, Le x (B + t)) → ∀ x ∈ b.foldl (rowStep G oth k) row, Le x (B + t + b.length) := fun b => by
    induction b with
    | nil => intro row t _ hr; exact hr
    | cons r b ih =>
      intro row t hb hr x hx
      rw [List.foldl_cons] at hx
      have := ih (rowStep G oth k row r) (t + 1) (fun s hs => hb s (List.mem_cons_of_mem _ hs)) (fun y hy => ?_) x hx
      · rw [List.length_cons, show B + t + (b.length + 1) = B + (t + 1) + b.length by omega]; exact this
      · unfold rowStep at hy
        rcases List.mem_or_eq_of_mem_set hy with e | e
        · exact (hr y e).mono (by omega)
        · rw [e]
          have h1 : Le (row.getD (slotR G k r) 0) (B + t) := by
            rw [List.getD_eq_getElem?_getD]
            cases hg : row[slotR G k r]? with
            | none => exact Le.zero
            | some z => exact hr z (List.mem_of_getElem? hg)
          exact h1.add ((h r (hb r (List.mem_cons_self ..))).mono (by omega))
  have := key a (row0 G k) 0 (fun r hr => hr) fun x hx => by
    unfold row0 at hx
    rw [List.eq_of_mem_replicate hx]
    exact Le.zero
  rw [Nat.add_zero] at this
  exact this
theorem evL_take {row : List Int} : ∀ {j : Nat}, j < row.length → evL n (row.take (j + 1)) = evL n (row.take j) + row.getD j 0 * n ^ j := by
  induction row with
  | nil => intro j h; simp at h
  | cons x row ih =>
    intro j h
    cases j with
    | zero =>
      show x + n * evL n [] = 0 + x * n ^ 0
      rw [Int.pow_zero]
      show x + n * 0 = _
      omega
    | succ j =>
      have := ih (j := j) (by simpa using h)
      show x + n * evL n (row.take (j + 1)) = x + n * evL n (row.take j) + row.getD j 0 * n ^ (j + 1)
      rw [this, Int.mul_add, Int.pow_succ]
      have : n * (row.getD j 0 * n ^ j) = row.getD j 0 * (n ^ j * n) := by simp only [Int.mul_assoc, Int.mul_comm, Int.mul_left_comm]
      rw [this]; omega
theorem total_loop {row : List Int} (hn : Le n 30) (hl : row.length ≤ 41) (hr : ∀ x ∈ row, Le x 3900) {a0 a1 a2 a3 a4 a5 a6 a7 a8 a9 a10 a11 a16 : Sl} :
    ∃ x14 x15, forL (gTp 2 (gsCons (gN 14) (gsCons (gN 15) gsNil))) (sSet 13 (eBin fAdd (eVar 13) (eBin fMul (eVar 15) (eCall p_law_power (aCons (eVar 12) (aCons (eVar 14) aNil)))))) ((List.range row.length).map fun j => W.tup [.int (j : Nat), .int (row.getD j 0)])
      [a0, a1, a2, a3, a4, a5, a6, a7, a8, a9, a10, a11, .val (.int n), .val (.int 0), .no, .no, a16] st =
      .ok (.nx [a0, a1, a2, a3, a4, a5, a6, a7, a8, a9, a10, a11, .val (.int n), .val (.int (evL n row)), x14, x15, a16]) st := by
  obtain ⟨fr', st', e, hj, x14, x15, e1, e2⟩ := for_run (q := gTp 2 (gsCons (gN 14) (gsCons (gN 15) gsNil))) (b := sSet 13 (eBin fAdd (eVar 13) (eBin fMul (eVar 15) (eCall p_law_power (aCons (eVar 12) (aCons (eVar 14) aNil))))))
    (fun j fr st' => j ≤ row.length ∧ ∃ x14 x15, fr = [a0, a1, a2, a3, a4, a5, a6, a7, a8, a9, a10, a11, .val (.int n), .val (.int (evL n (row.take j))), x14, x15, a16] ∧ st' = st) ((List.range row.length).map fun j => W.tup [.int (j : Nat), .int (row.getD j 0)]) 0
    [a0, a1, a2, a3, a4, a5, a6, a7, a8, a9, a10, a11, .val (.int n), .val (.int 0), .no, .no, a16] st ⟨Nat.zero_le _, _, _, rfl, rfl⟩ fun j w fr st' hw ⟨hjk, x14, x15, e1, e2⟩ => by
      subst e1 e2
      rw [Nat.zero_add] at *
      have hj : j < row.length := by have := (List.getElem?_eq_some_iff.mp hw).1; simpa using this
      rw [List.getElem?_map, List.getElem?_range hj] at hw
      have hw : some (W.tup [.int (j : Nat), .int (row.getD j 0)]) = some w := hw
      cases hw
      have hpw := fun st => law_power_ok (st := st) (n := n) j hn (by omega)
      have hmem : row.getD j 0 ∈ row := by rw [List.getD_eq_getElem?_getD, List.getElem?_eq_getElem hj]; exact List.getElem_mem _
      have hmu := mul_ok ((hr _ hmem).mono (k := 4000) (by decide)) ((Le.pow hn j).mono (k := 4000) (by omega))
      refine ⟨[a0, a1, a2, a3, a4, a5, a6, a7, a8, a9, a10, a11, .val (.int n), .val (.int (evL n (row.take j))), .val (.int (j : Nat)), .val (.int (row.getD j 0)), a16], [a0, a1, a2, a3, a4, a5, a6, a7, a8, a9, a10, a11, .val (.int n), .val (.int (evL n (row.take (j + 1)))), .val (.int (j : Nat)), .val (.int (row.getD j 0)), a16], st', by simp, ?_, by omega, _, _, rfl, rfl⟩
      rw [evL_take hj, q_law_power]
      simp -implicitDefEqProofs [-List.getD_eq_getElem?_getD, hpw, ev_mul hmu]
  rw [Nat.zero_add, List.length_map, List.length_range, List.take_length] at e1
  subst e1 e2
  exact ⟨x14, x15, e⟩
end
end Vy.K50

set_option Elab.async false
set_option linter.all false
set_option maxRecDepth 100000
set_option maxHeartbeats 4000000
/-! k50: a mean's row is right; the law. -/
namespace Vy.K50
open PySem PySem.Spec PyProof.Rows L2 Vy.Mean Vy.K49
section
variable {st : Store} {K k c : Nat} {a : List MRow} {ns : List Int} {n : Int}
theorem late_comp (hK : K ≤ 3) (hl : ns.length = K) {a0 a2 a4 x5 a6 a7 a9 a10 a11 a13 a14 a15 a16 : Sl} (h5 : isOwn (some x5) = false) :
    eComp (iRng1 (aCons (eVar 1) aNil)) (gN 5) bYes (eIf (bOf (eBin fEq (eVar 5) (eVar 3))) (eVar 12) (eBin fIdx (eVar 8) (eVar 5))) [5]
      [a0, .val (.int K), a2, .val (.int k), a4, x5, a6, a7, .val (pwW ns), a9, a10, a11, .val (.int n), a13, a14, a15, a16] st = .ok (.fr, .lst ((ns.set k n).map W.int)) st := by
  have hc := comp_map (q := gN 5) (el := eIf (bOf (eBin fEq (eVar 5) (eVar 3))) (eVar 12) (eBin fIdx (eVar 8) (eVar 5))) (st := st) (fr := [a0, .val (.int K), a2, .val (.int k), a4, .no, a6, a7, .val (pwW ns), a9, a10, a11, .val (.int n), a13, a14, a15, a16])
    (fun j : Nat => W.int (0 + (j : Nat))) (fun j => .int (if j = k then n else ns.getD j 0)) (List.range K) [] (by rw [sizeLine_eq]; simp; omega) fun j hj => by
      have hj := List.mem_range.mp hj
      refine ⟨[a0, .val (.int K), a2, .val (.int k), a4, .val (.int (0 + (j : Nat))), a6, a7, .val (pwW ns), a9, a10, a11, .val (.int n), a13, a14, a15, a16], rfl, .st, ?_, rfl⟩
      rw [Int.zero_add]
      have hq : fEq (.int (j : Nat)) (.int k) st = .ok (.st, .bl (decide (j = k))) st := by
        rw [ev_eq_int, decide_eq_decide.mpr (show ((j : Nat) : Int) = (k : Int) ↔ j = k by omega)]
      have hn := idx_ns (st := st) hl hj
      by_cases e : j = k
      · subst e
        simp -implicitDefEqProofs [-List.getD_eq_getElem?_getD, hq]
      · simp -implicitDefEqProofs [-ev_idx_t, -List.getD_eq_getElem?_getD, hq, e, hn]
  have hm : (List.range K).map (fun j => W.int (if j = k then n else ns.getD j 0)) = (ns.set k n).map W.int := by
    rw [← set_range, List.map_map, hl]; rfl
  rw [List.nil_append, ← rngW_map, hm] at hc
  exact e_compI (vs := [5]) (rng1_ok (by simp) (rng_inR (by omega))) (by simp [noOwn, h5]) rfl hc
theorem law_row_right_ok (S : Src st) : ∃ st', p_law_row_right [.ref 1] st = .ok (.st, .bl true) st' ∧ Src st' := by
  obtain ⟨r1, s1, e1, S1, r10, r11⟩ := pick_ok (most := 3) S (by unfold Le; decide)
  have r11 := r11 (by decide)
  obtain ⟨K, hK⟩ : ∃ K : Nat, 1 + r1 = K := ⟨(1 + r1).toNat, by omega⟩
  have hK3 : K ≤ 3 := by omega
  obtain ⟨w, s2, hw, e2, S2⟩ := law_of_ok (ws := [.int 2, .int 4, .int 12]) S1 (by simp) (by simp)
  have hmo : ∃ mo : Nat, w = .int mo ∧ mo ≤ 12 := by
    simp only [List.mem_cons, List.not_mem_nil, or_false] at hw
    rcases hw with h | h | h
    · exact ⟨2, h, by decide⟩
    · exact ⟨4, h, by decide⟩
    · exact ⟨12, h, by decide⟩
  obtain ⟨mo, rfl, mo12⟩ := hmo
  obtain ⟨a, s3, e3, ca, A, la, S3, _⟩ := law_drawn_mean_ok (k := K) (most := mo) (many := 6) S2 (by omega) (by omega) (by decide)
  have e3' : p_law_drawn_mean [.ref 1, .int K, .int mo, .int 6] s2 = .ok (.st, meanW a) s3 := e3
  obtain ⟨r2, s4, e4, S4, r20, r21⟩ := pick_ok (most := K) S3 (le_small (by omega) (by omega))
  have r21 := r21 (by omega)
  obtain ⟨k, rfl⟩ : ∃ k : Nat, r2 = k := ⟨r2.toNat, (Int.toNat_of_nonneg r20).symm⟩
  have hk : k < K := by omega
  have O := A.over
  have hf : Few a := ⟨fun r hr => (A.few r hr).mono (by decide), by omega⟩
  have hgb := gr_bd O
  have hgk := gr_getD O hk
  obtain ⟨ns, s5, e5, hs, S5⟩ := row_sizes S4 hK3 (a2 := .val (meanW a)) (a3 := .val (.int k)) (a4 := .own (.lst ((gr K a).map W.int))) (a9 := .no) (a10 := .no) (a11 := .no) (a12 := .no) (a13 := .no) (a14 := .no) (a15 := .no) (a16 := .no)
  have hlen := hs.len
  obtain ⟨x5, h5, e6⟩ := bottom_loop (st := s5) O (by omega) hk hK3 hs (a0 := .val (.ref 1)) (a2 := .val (meanW a)) (a6 := .no) (a7 := .no) (a10 := .own (.lst ((row0 (gr K a) k).map W.int))) (a11 := .no) (a12 := .no) (a13 := .no) (a14 := .no) (a15 := .no) (a16 := .no)
  obtain ⟨y5, y6, y7, g5, e7⟩ := rows_loop (st := s5) O (by omega) hf hk hK3 hs (a0 := .val (.ref 1)) (a2 := .val (meanW a)) (x5 := x5) (a9 := .val (.int (pp (ns.set k 1) (gr K a)))) (a11 := .no) (a12 := .no) (a13 := .no) (a14 := .no) (a15 := .no) (a16 := .no) h5
  have e8 := mean_row_ok (st := s5) O (by omega) hf hk hK3 hs
  have e9 := fun st => greatest_ok (st := st) O (by omega) (by rw [sizeLine_eq]; omega)
  have hole := set_le (k := k) hs (x := 1) (Le.one.mono (by decide))
  have holn : (ns.set k 1).length = K := by rw [List.length_set, hlen]
  have hK360 : 30 * mo * K ≤ 1080 := by
    have := Nat.mul_le_mul (Nat.mul_le_mul_left 30 mo12) hK3
    omega
  have hnum : ∀ r ∈ a, Le (numR (gr K a) (ns.set k 1) r) 1087 := fun r hr => by
    have hbd := subP_bd (c := mo) (gr_below O hr) (fun x hx => (hgb x hx).2) (O.lo r hr)
    have hpl := pp_le (ns := ns.set k 1) (ps := subP (gr K a) r.1) (c := mo) hole fun p hp => (hbd p hp).2
    rw [holn] at hpl
    exact ((A.few r hr).mul hpl).mono (by omega)
  have hrow : ∀ x ∈ rowOf (gr K a) (ns.set k 1) k a, Le x 3900 := fun x hx => (rowOf_le hnum x hx).mono (by omega)
  have hrl := rowOf_len (gr K a) (ns.set k 1) k a
  have hbot : Le (pp (ns.set k 1) (gr K a)) 1080 := by
    have z := pp_le (ns := ns.set k 1) (ps := gr K a) (c := mo) hole fun p hp => (hgb p hp).2
    rw [holn] at z
    exact z.mono hK360
  obtain ⟨r3, s6, e10, S6, r30, r31⟩ := pick_ok (most := 10 ^ 30) S5 (by unfold Le; decide)
  have r31 := r31 (by decide)
  have hpow := fun st => p10_30 st
  obtain ⟨n, hn⟩ : ∃ n : Int, n = 1 + r3 := ⟨_, rfl⟩
  have hn30 : Le n 30 := by unfold Le; omega
  have hn1 : 1 ≤ n := by omega
  obtain ⟨x14, x15, e11⟩ := total_loop (st := s6) (row := rowOf (gr K a) (ns.set k 1) k a) hn30 (by omega) hrow (a0 := .val (.ref 1)) (a1 := .val (.int K)) (a2 := .val (meanW a)) (a3 := .val (.int k)) (a4 := .own (.lst ((gr K a).map W.int))) (a5 := y5) (a6 := y6) (a7 := y7) (a8 := .val (pwW ns)) (a9 := .val (.int (pp (ns.set k 1) (gr K a)))) (a10 := .own (.lst ((rowOf (gr K a) (ns.set k 1) k a).map W.int))) (a11 := .val (.tup [pwW (rowOf (gr K a) (ns.set k 1) k a), .int ((gr K a).getD k 0), .int (pp (ns.set k 1) (gr K a))])) (a16 := .no)
  have hval := row_value (n := n) O hk hlen
  have hbv := bottom_value (n := n) (a := a) hk hlen
  have hs2 : Sizes K (ns.set k n) := ⟨by rw [List.length_set, hlen], set_le hs hn30, fun x hx => by
    rcases List.mem_or_eq_of_mem_set hx with h | h
    · exact hs.pos x h
    · rw [h]; exact hn1⟩
  have e12 := late_comp (st := s6) (k := k) (n := n) hK3 hlen (a0 := .val (.ref 1)) (a2 := .val (meanW a)) (a4 := .own (.lst ((gr K a).map W.int))) (x5 := y5) (a6 := y6) (a7 := y7) (a9 := .val (.int (pp (ns.set k 1) (gr K a)))) (a10 := .own (.lst ((rowOf (gr K a) (ns.set k 1) k a).map W.int))) (a11 := .val (.tup [pwW (rowOf (gr K a) (ns.set k 1) k a), .int ((gr K a).getD k 0), .int (pp (ns.set k 1) (gr K a))])) (a13 := .val (.int (evL n (rowOf (gr K a) (ns.set k 1) k a)))) (a14 := x14) (a15 := x15) (a16 := .no) g5
  have e13 := fun st => law_mean_at_ok (st := st) hs2 hK3 O (by omega) hf
  have hpz : pp (ns.set k n) (gr K a) ≠ 0 := gr_pos hs2
  have hlin : Le (lin (fun p => pp (ns.set k n) (subP (gr K a) p)) a) (1087 + a.length) := lin_le fun r hr => by
    have hbd := subP_bd (c := mo) (gr_below O hr) (fun x hx => (hgb x hx).2) (O.lo r hr)
    have hpl := pp_le (ns := ns.set k n) (ps := subP (gr K a) r.1) (c := mo) hs2.le fun p hp => (hbd p hp).2
    rw [hs2.len] at hpl
    exact ((A.few r hr).mul hpl).mono (by omega)
  have hpl : Le (pp (ns.set k n) (gr K a)) 1080 := by
    have z := pp_le (ns := ns.set k n) (ps := gr K a) (c := mo) hs2.le fun p hp => (hgb p hp).2
    rw [hs2.len] at z
    exact z.mono hK360
  have e14 := fun st => law_fraction_ok (st := st) (lin (fun p => pp (ns.set k n) (subP (gr K a) p)) a) (pp (ns.set k n) (gr K a)) (hlin.mono (by omega)) (hpl.mono (by decide)) hpz
  have e15 := fun st => law_power_ok (st := st) (n := n) ((gr K a).getD k 0).toNat hn30 (by omega)
  rw [Int.toNat_of_nonneg hgk.1] at e15
  have hmu := mul_ok (hbot.mono (k := 4000) (by decide)) ((Le.pow hn30 ((gr K a).getD k 0).toNat).mono (k := 4000) (by omega))
  have e16 := fun st => eq_fr (st := st) (x := atF K a (ns.set k n)) (y := atF K a (ns.set k n))
  have e14' : ∀ st, K49.p_law_fraction [.int (evL n (rowOf (gr K a) (ns.set k 1) k a)), .int (pp (ns.set k 1) (gr K a) * n ^ ((gr K a).getD k 0).toNat)] st = .ok (.st, frW (atF K a (ns.set k n))) st := fun st => by
    rw [hval, ← hbv]
    exact e14 st
  -- what repr tells
  have smr : SmX 1 55950 (pwW (rowOf (gr K a) (ns.set k 1) k a)) := (SmX.tup (d := 0) (n := 4301) fun w hw => by
    obtain ⟨x, hx, rfl⟩ := List.mem_map.mp hw
    exact SmX.int (Nat.lt_of_le_of_lt (hrow x hx) (Nat.pow_lt_pow_right (by decide) (by decide)))).mono (Nat.le_refl _) (by
      rw [List.length_map, hrl]
      omega)
  have small : ∀ {i : Int} {t : Nat}, Le i t → t ≤ 4000 → SmX 1 55950 (.int i) := fun {i t} h ht => (SmX.int (Nat.lt_of_le_of_lt (h.mono ht) (Nat.pow_lt_pow_right (by decide) (by decide)))).mono (by decide) (by decide)
  have hgkL : Le ((gr K a).getD k 0) 40 := le_small hgk.1 (by omega)
  have smt : SmX 2 167860 (.tup [pwW (rowOf (gr K a) (ns.set k 1) k a), .int ((gr K a).getD k 0), .int (pp (ns.set k 1) (gr K a))]) := (SmX.tup (d := 1) (n := 55950) fun w hw => by
    simp only [List.mem_cons, List.not_mem_nil, or_false] at hw
    rcases hw with h | h | h <;> subst h
    · exact smr
    · exact small hgkL (by decide)
    · exact small hbot (by decide)).mono (Nat.le_refl _) (by show 3 * 55952 + 4 ≤ 167860; decide)
  have smg : SmX 2 167860 (pwW (gr K a)) := (SmX.tup (d := 0) (n := 4301) fun w hw => by
    obtain ⟨x, hx, rfl⟩ := List.mem_map.mp hw
    exact SmX.int (Nat.lt_of_le_of_lt ((le_small (hgb x hx).1 (by have := (hgb x hx).2; omega)).mono (show 40 ≤ 4000 by decide)) (Nat.pow_lt_pow_right (by decide) (by decide)))).mono (by decide) (by
      rw [List.length_map, gr_len]
      omega)
  have sml : SmX 3 400000 (.lst [.tup [pwW (rowOf (gr K a) (ns.set k 1) k a), .int ((gr K a).getD k 0), .int (pp (ns.set k 1) (gr K a))], pwW (gr K a)]) := (SmX.lst (d := 2) (n := 167860) fun w hw => by
    simp only [List.mem_cons, List.not_mem_nil, or_false] at hw
    rcases hw with h | h <;> subst h
    · exact smt
    · exact smg).mono (Nat.le_refl _) (by show 2 * 167862 + 4 ≤ 400000; decide)
  have hrep := fun st => repr_x sml (by decide) (by rw [sizeLine_eq]; decide) st
  have nn := fun x st => K49.ne_str x st
  have hgc := fun st => greatest_comp (st := st) O hK3 (by omega) (a0 := .val (.ref 1)) (a3 := .val (.int k)) (a4 := .no) (a8 := .no) (a9 := .no) (a10 := .no) (a11 := .no) (a12 := .no) (a13 := .no) (a14 := .no) (a15 := .no) (a16 := .no)
  have hrp : fMul (.lst [.int 0]) (.int ((gr K a).getD k 0 + 1)) s5 = .ok (.fr, .lst ((row0 (gr K a) k).map W.int)) s5 := by
    have b1 : (100 : Int) < 2 ^ 63 := by decide
    have b2 : -((2 : Int) ^ 63) ≤ 0 := by decide
    have e : ((gr K a).getD k 0 + 1).toNat = ((gr K a).getD k 0).toNat + 1 := by omega
    have z : fMul (.lst [.int 0]) (.int ((gr K a).getD k 0 + 1)) s5 = grd (-(2 ^ 63) ≤ (gr K a).getD k 0 + 1 ∧ (gr K a).getD k 0 + 1 < 2 ^ 63 ∧ ([W.int 0] : List W).length * ((gr K a).getD k 0 + 1).toNat ≤ sizeLine) (.ok (.fr, .lst (List.replicate ((gr K a).getD k 0 + 1).toNat [W.int 0]).flatten) s5) := rfl
    rw [z, ev_grd ⟨by omega, by omega, by rw [sizeLine_eq]; simp only [List.length_cons, List.length_nil]; omega⟩, e, rep_zero]
    rfl
  have hix := fun st => idx_lst (st := st) (row := gr K a) (i := k) (by rw [gr_len]; exact hk)
  have hI : ∀ a2 a3 a4 a5 a6 a7 a8 a9 a10 a11 a12 a13 a14 a15 a16 st, iRng1 (aCons (eVar 1) aNil) [.val (.ref 1), .val (.int K), a2, a3, a4, a5, a6, a7, a8, a9, a10, a11, a12, a13, a14, a15, a16] st = .ok (rngW 0 K) st := fun _ _ _ _ _ _ _ _ _ _ _ _ _ _ _ st => rng1_ok (by simp) (rng_inR (by omega))
  have hE := enum_ints (rowOf (gr K a) (ns.set k 1) k a)
  refine ⟨s6, ?_, S6⟩
  generalize atF K a (ns.set k n) = D at *
  generalize pp (ns.set k 1) (gr K a) = bot at *
  generalize hrw : rowOf (gr K a) (ns.set k 1) k a = row at *
  generalize (gr K a).getD k 0 = gk at *
  generalize hG : gr K a = G at *
  generalize evL n row = tot at *
  generalize hlt : ns.set k n = late at *
  unfold p_law_row_right b_law_row_right
  refine body_rt (fr := [.val (.ref 1), .no, .no, .no, .no, .no, .no, .no, .no, .no, .no, .no, .no, .no, .no, .no, .no]) rfl ?_
  refine (seq_nx (fr1 := [.val (.ref 1), .val (.int K), .no, .no, .no, .no, .no, .no, .no, .no, .no, .no, .no, .no, .no, .no, .no]) (s1 := s1) (by simp -implicitDefEqProofs [e1, hK])).trans ?_
  refine (seq_nx (fr1 := [.val (.ref 1), .val (.int K), .val (meanW a), .val (.int k), .no, .no, .no, .no, .no, .no, .no, .no, .no, .no, .no, .no, .no]) (s1 := s4) (by simp -implicitDefEqProofs [e2, e3', e4])).trans ?_
  refine (seq_nx (fr1 := [.val (.ref 1), .val (.int K), .val (meanW a), .val (.int k), .own (.lst (G.map W.int)), .no, .no, .no, .no, .no, .no, .no, .no, .no, .no, .no, .no]) (s1 := s4) (by rw [ev_set, hgc]; simp -implicitDefEqProofs)).trans ?_
  refine (seq_nx (fr1 := [.val (.ref 1), .val (.int K), .val (meanW a), .val (.int k), .own (.lst (G.map W.int)), .no, .no, .no, .val (pwW ns), .no, .no, .no, .no, .no, .no, .no, .no]) (s1 := s5) (by rw [ev_set, ev_c1, e5]; simp -implicitDefEqProofs)).trans ?_
  refine (seq_nx (fr1 := [.val (.ref 1), .val (.int K), .val (meanW a), .val (.int k), .own (.lst (G.map W.int)), .no, .no, .no, .val (pwW ns), .val (.int 1), .own (.lst ((row0 G k).map W.int)), .no, .no, .no, .no, .no, .no]) (s1 := s5) (by simp -implicitDefEqProofs [-List.getD_eq_getElem?_getD, hix, hrp, putsF])).trans ?_
  refine (seq_nx (fr1 := [.val (.ref 1), .val (.int K), .val (meanW a), .val (.int k), .own (.lst (G.map W.int)), x5, .no, .no, .val (pwW ns), .val (.int bot), .own (.lst ((row0 G k).map W.int)), .no, .no, .no, .no, .no, .no]) (s1 := s5) (by rw [ev_for, hI, ev_bind]; exact e6)).trans ?_
  refine (seq_nx (fr1 := [.val (.ref 1), .val (.int K), .val (meanW a), .val (.int k), .own (.lst (G.map W.int)), y5, y6, y7, .val (pwW ns), .val (.int bot), .own (.lst (row.map W.int)), .no, .no, .no, .no, .no, .no]) (s1 := s5) (by simp -implicitDefEqProofs [e7])).trans ?_
  refine (seq_nx (fr1 := [.val (.ref 1), .val (.int K), .val (meanW a), .val (.int k), .own (.lst (G.map W.int)), y5, y6, y7, .val (pwW ns), .val (.int bot), .own (.lst (row.map W.int)), .val (.tup [pwW row, .int gk, .int bot]), .no, .no, .no, .no, .no]) (s1 := s5) (by simp -implicitDefEqProofs [e8])).trans ?_
  refine (seq_nx (fr1 := [.val (.ref 1), .val (.int K), .val (meanW a), .val (.int k), .own (.lst (G.map W.int)), y5, y6, y7, .val (pwW ns), .val (.int bot), .own (.lst (row.map W.int)), .val (.tup [pwW row, .int gk, .int bot]), .no, .no, .no, .no, .no]) (s1 := s5) (by
    rw [q_greatest_powers]
    simp -implicitDefEqProofs [-List.getD_eq_getElem?_getD, e9, hix, hrep, nn])).trans ?_
  refine (seq_nx (fr1 := [.val (.ref 1), .val (.int K), .val (meanW a), .val (.int k), .own (.lst (G.map W.int)), y5, y6, y7, .val (pwW ns), .val (.int bot), .own (.lst (row.map W.int)), .val (.tup [pwW row, .int gk, .int bot]), .val (.int n), .val (.int 0), .no, .no, .no]) (s1 := s6) (by simp -implicitDefEqProofs [-Int.reducePow, hpow, e10, hn])).trans ?_
  refine (seq_nx (fr1 := [.val (.ref 1), .val (.int K), .val (meanW a), .val (.int k), .own (.lst (G.map W.int)), y5, y6, y7, .val (pwW ns), .val (.int bot), .own (.lst (row.map W.int)), .val (.tup [pwW row, .int gk, .int bot]), .val (.int n), .val (.int tot), x14, x15, .no]) (s1 := s6) (by
    have hz : iEnum (aCons (eBin fIdx (eVar 11) (eC (.int 0))) aNil) [.val (.ref 1), .val (.int K), .val (meanW a), .val (.int k), .own (.lst (G.map W.int)), y5, y6, y7, .val (pwW ns), .val (.int bot), .own (.lst (row.map W.int)), .val (.tup [pwW row, .int gk, .int bot]), .val (.int n), .val (.int 0), .no, .no, .no] s6 = .ok ((List.range row.length).map fun j => W.tup [.int (j : Nat), .int (row.getD j 0)]) s6 := by
      rw [← hE]; rfl
    rw [ev_for, hz, ev_bind]
    exact e11)).trans ?_
  refine (seq_nx (fr1 := [.val (.ref 1), .val (.int K), .val (meanW a), .val (.int k), .own (.lst (G.map W.int)), y5, y6, y7, .val (pwW ns), .val (.int bot), .own (.lst (row.map W.int)), .val (.tup [pwW row, .int gk, .int bot]), .val (.int n), .val (.int tot), x14, x15, .val (pwW late)]) (s1 := s6) (by rw [ev_set, ev_c1, e12]; simp -implicitDefEqProofs)).trans ?_
  rw [q_law_fraction, q_law_power, q_law_mean_at]
  have at2 : ∀ {x y z : W}, atI [x, y, z] 2 = some z := rfl
  simp -implicitDefEqProofs [at2, e15, ev_mul hmu, e14', e13, e16]
end
end Vy.K50

set_option Elab.async false
set_option linter.all false
set_option maxRecDepth 100000
set_option maxHeartbeats 4000000
/-! k50: the law. -/
namespace Vy.K50
open PySem PySem.Spec PyProof.Rows L2 Vy.Mean Vy.K49
theorem fine_int {i : Int} (h : Le i 60) : Fine 0 70 (.int i) := by
  refine ⟨⟨rfl, ?_, Nat.le_refl _, ?_⟩, leW_int.mpr h⟩
  · show ShwX (.int i)
    unfold ShwX
    exact Nat.lt_of_le_of_lt h (Nat.pow_lt_pow_right (by decide) (by decide))
  · show (PyData.shown (.int i)).length ≤ 70
    simp only [PyData.shown]
    have e := int_text_length_le10 (k := 61) (by decide) (Nat.lt_of_le_of_lt h (Nat.pow_lt_pow_right (by decide) (by decide)))
    rw [PySem.ofString_length]
    omega
theorem fine_bl {b : Bool} : Fine 0 70 (.bl b) := ⟨SmX.bl.mono (Nat.le_refl _) (by decide), by unfold LeW; trivial⟩
theorem fine_two {d n : Nat} {ws : List W} (hl : ws.length ≤ 2) (h : ∀ w ∈ ws, Fine d n w) : Fine (d + 1) (2 * (n + 2) + 4) (.tup ws) := Fine.tupc hl h (Nat.le_refl _)
def odds : List W := [.non, .bl true, .bl false, .int 0, .int 1, .int (-1), .int 3, .str "", .tup [], .tup [.int 0], .tup [.int 0, .int 1], .tup [.int 1, .int 0], .tup [.int 0, .int (-1)], .tup [.int 2, .int 4], .lst [], .dct (.k []) [], .lst [.int 1], .tup [.tup [.int 0], .int 1]] ++
  [.tup [.tup [.tup [.int 0], .int 1]], .tup [.tup [.tup [.int 1], .int 0]], .tup [.tup [.tup [.bl true], .int 1]], .tup [.tup [.tup [.int 0, .int 0], .int 1]], .tup [.tup [.tup [.int (-1)], .int 2]], .int (10 ^ 40), .tup [.int (10 ^ 40), .int 7]]
theorem odds_ok : Odd odds := by
  refine ⟨by decide, fun o ho => ?_⟩
  have i0 : ∀ i : Int, Le i 60 → Fine 4 400 (.int i) := fun i h => (fine_int h).mono (by decide) (by decide)
  have t1 : ∀ x : W, Fine 0 70 x → Fine 1 148 (.tup [x]) := fun x h => fine_two (ws := [x]) (by show 1 ≤ 2; decide) fun w hw => by rw [List.mem_singleton.mp hw]; exact h
  have t2 : ∀ x y : W, Fine 0 70 x → Fine 0 70 y → Fine 1 148 (.tup [x, y]) := fun x y h h' => fine_two (ws := [x, y]) (by show 2 ≤ 2; decide) fun w hw => by
    rcases List.mem_cons.mp hw with e | e
    · rw [e]; exact h
    · rw [List.mem_singleton.mp e]; exact h'
  have u2 : ∀ x y : W, Fine 1 148 x → Fine 0 70 y → Fine 2 304 (.tup [x, y]) := fun x y h h' => fine_two (ws := [x, y]) (by show 2 ≤ 2; decide) fun w hw => by
    rcases List.mem_cons.mp hw with e | e
    · rw [e]; exact h
    · rw [List.mem_singleton.mp e]; exact h'.mono (by decide) (by decide)
  have v1 : ∀ x : W, Fine 2 304 x → Fine 4 400 (.tup [x]) := fun x h => (Fine.tupc (c := 1) (d := 2) (n := 304) (m := 400) (Nat.le_refl _) (fun w hw => by rw [List.mem_singleton.mp hw]; exact h) (by decide)).mono (by decide) (Nat.le_refl _)
  have up1 : ∀ {x : W}, Fine 1 148 x → Fine 4 400 x := fun h => h.mono (by decide) (by decide)
  have l : ∀ {i : Int}, i.natAbs ≤ 10 ^ 60 → Fine 0 70 (.int i) := fun h => fine_int h
  have z0 : Fine 0 70 (.int 0) := l (by decide)
  have z1 : Fine 0 70 (.int 1) := l (by decide)
  have zm : Fine 0 70 (.int (-1)) := l (by decide)
  have z2 : Fine 0 70 (.int 2) := l (by decide)
  have z3 : Fine 0 70 (.int 3) := l (by decide)
  have z4 : Fine 0 70 (.int 4) := l (by decide)
  have z7 : Fine 0 70 (.int 7) := l (by decide)
  have zb : Fine 0 70 (.int (10 ^ 40)) := l (by decide)
  have up0 : ∀ {x : W}, Fine 0 70 x → Fine 4 400 x := fun h => h.mono (by decide) (by decide)
  have bt : Fine 0 70 (.bl true) := fine_bl
  have bf : Fine 0 70 (.bl false) := fine_bl
  have no : Fine 4 400 .non := ⟨SmX.non.mono (by decide) (by decide), by unfold LeW; trivial⟩
  have ns : Fine 4 400 (.str "") := ⟨SmX.nil.mono (by decide) (by decide), by unfold LeW; trivial⟩
  have nd : Fine 4 400 (.dct (.k []) []) := ⟨SmX.dct.mono (by decide) (by decide), by unfold LeW; trivial⟩
  have nt : Fine 4 400 (.tup []) := (Fine.tup (d := 0) (n := 0) (m := 4) (ws := []) (fun _ h => nomatch h) (Nat.le_refl _)).mono (by decide) (by decide)
  have nl : Fine 4 400 (.lst []) := (Fine.lst (d := 0) (n := 0) (m := 4) (ws := []) (fun _ h => nomatch h) (Nat.le_refl _)).mono (by decide) (by decide)
  have l1 : Fine 4 400 (.lst [.int 1]) := (Fine.lstc (c := 1) (d := 0) (n := 70) (m := 76) (Nat.le_refl _) (fun w hw => by rw [List.mem_singleton.mp hw]; exact z1) (by decide)).mono (by decide) (by decide)
  unfold odds at ho
  rcases List.mem_append.mp ho with h | h
  · simp only [List.mem_cons, List.not_mem_nil, or_false] at h
    rcases h with h | h | h | h | h | h | h | h | h | h | h | h | h | h | h | h | h | h <;> subst h
    · exact no
    · exact up0 bt
    · exact up0 bf
    · exact up0 z0
    · exact up0 z1
    · exact up0 zm
    · exact up0 z3
    · exact ns
    · exact nt
    · exact up1 (t1 _ z0)
    · exact up1 (t2 _ _ z0 z1)
    · exact up1 (t2 _ _ z1 z0)
    · exact up1 (t2 _ _ z0 zm)
    · exact up1 (t2 _ _ z2 z4)
    · exact nl
    · exact nd
    · exact l1
    · exact (u2 _ _ (t1 _ z0) z1).mono (by decide) (by decide)
  · simp only [List.mem_cons, List.not_mem_nil, or_false] at h
    rcases h with h | h | h | h | h | h | h <;> subst h
    · exact v1 _ (u2 _ _ (t1 _ z0) z1)
    · exact v1 _ (u2 _ _ (t1 _ z1) z0)
    · exact v1 _ (u2 _ _ (t1 _ bt) z1)
    · exact v1 _ (u2 _ _ (t2 _ _ z0 z0) z1)
    · exact v1 _ (u2 _ _ (t1 _ zm) z2)
    · exact up0 zb
    · exact up1 (t2 _ _ zb z7)
theorem law_holds : ∀ ns : List Int, ns.length ≤ 63 → (∀ z ∈ ns, PySem.Builtin.Int.intBits z ≤ 1048576) → ∃ st, p_law [.scr ns] [] = .ok (.st, .bl true) st := fun ns hl _ => by
  obtain ⟨s0, e0, S0⟩ := law_open_ok ns hl
  have e0' : p_law_open_cells [.scr ns] [] = .ok (.st, .ref 1) s0 := e0
  obtain ⟨fr', st', e, ⟨x2, x3, hx2, rfl⟩, S'⟩ := for_draw (q := gN 3) (b := sFrz [1, 2] (sIf (bOr (bNot (bTruth (eCall p_law_falling_right (aCons (eVar 1) aNil)))) (bOr (bNot (bTruth (eCall p_law_row_right (aCons (eVar 1) aNil)))) (bNot (bTruth (eCall p_law_kinds_right (aCons (eVar 1) (aCons (eVar 2) aNil))))))) (sRet (eC (.bl false))) sSkip))
    (fun _ fr => ∃ x2 x3, (x2 = .own (.lst odds) ∨ x2 = .val (.lst odds)) ∧ fr = [.val (.scr ns), .val (.ref 1), x2, x3]) (rngW 0 2) 0 [.val (.scr ns), .val (.ref 1), .own (.lst odds), .no] s0 ⟨_, _, .inl rfl, rfl⟩ S0 fun j w fr st hw ⟨x2, x3, hx2, e1⟩ S => by
      subst e1
      obtain ⟨s1, e1, S1⟩ := law_falling_right_ok S
      obtain ⟨s2, e2, S2⟩ := law_row_right_ok S1
      obtain ⟨s3, e3, S3⟩ := law_kinds_right_ok odds_ok S2
      have fz : ([1, 2] : List Nat).foldr freezeF [.val (.scr ns), .val (.ref 1), x2, .val w] = [.val (.scr ns), .val (.ref 1), .val (.lst odds), .val w] := by
        rcases hx2 with rfl | rfl <;> rfl
      have hT : wTruth (.bl true) = some true := rfl
      generalize odds = O at *
      refine ⟨[.val (.scr ns), .val (.ref 1), x2, .val w], [.val (.scr ns), .val (.ref 1), .val (.lst O), .val w], s3, rfl, ?_, ⟨_, _, .inr rfl, rfl⟩, S3⟩
      rw [ev_frz, fz]
      simp -implicitDefEqProofs [e1, e2, e3, hT]
  refine ⟨st', ?_⟩
  have hp := fun st => K49.pow_ok 10 40 (by decide) st
  have hI : ∀ x2 x3 st, iRng1 (aCons (eC (.int 2)) aNil) [.val (.scr ns), .val (.ref 1), x2, x3] st = .ok (rngW 0 2) st := fun _ _ st => rng1_ok (k := 2) (by simp) (rng_inR (by decide))
  unfold p_law b_law
  refine body_rt (fr := [.val (.scr ns), .no, .no, .no]) rfl ?_
  refine (seq_nx (fr1 := [.val (.scr ns), .val (.ref 1), .no, .no]) (s1 := s0) (by simp -implicitDefEqProofs [e0'])).trans ?_
  refine (seq_nx (fr1 := [.val (.scr ns), .val (.ref 1), .own (.lst [.non, .bl true, .bl false, .int 0, .int 1, .int (-1), .int 3, .str "", .tup [], .tup [.int 0], .tup [.int 0, .int 1], .tup [.int 1, .int 0], .tup [.int 0, .int (-1)], .tup [.int 2, .int 4], .lst [], .dct (.k []) [], .lst [.int 1], .tup [.tup [.int 0], .int 1]]), .no]) (s1 := s0) (by simp -implicitDefEqProofs)).trans ?_
  refine (seq_nx (fr1 := [.val (.scr ns), .val (.ref 1), .own (.lst odds), .no]) (s1 := s0) (by
    have h40 : fPow (.int 10) (.int 40) s0 = .ok (.st, .int (10 ^ 40)) s0 := hp s0
    unfold odds
    simp -implicitDefEqProofs [-Int.reducePow, h40, ev_grd])).trans ?_
  refine (seq_nx (fr1 := [.val (.scr ns), .val (.ref 1), x2, x3]) (s1 := st') (by rw [ev_for, hI, ev_bind]; exact e)).trans ?_
  rfl
end Vy.K50

set_option Elab.async false
set_option linter.all false
set_option maxRecDepth 100000
set_option maxHeartbeats 4000000
/-! The defs keep to their plain functions. Printed by gen.py. -/
namespace Vy.K50
open PySem PySem.Spec PyProof.Rows L2
def topS (i : Nat) : Stmt := PySem.Challenge.pw_drawntables_k50_falling_products_and_row.main.body.getD i (.Pass ⟨0, 0, 0, 0⟩)
structure Tops (K : PySem.W.Frag) (mg : Str → Option Value) where
  f2 : Addr
  d2 : FuncData
  F2 : Fun K "is_integer" "is_integer" (topS 2) f2 d2
  m2 : mg "is_integer" = some (.ref f2)
  b2 : Binds K d2 ["value"] []
  f3 : Addr
  d3 : FuncData
  F3 : Fun K "number_power" "number_power" (topS 3) f3 d3
  m3 : mg "number_power" = some (.ref f3)
  b3 : Binds K d3 ["a", "k"] []
  f4 : Addr
  d4 : FuncData
  F4 : Fun K "fraction_of" "fraction_of" (topS 4) f4 d4
  m4 : mg "fraction_of" = some (.ref f4)
  b4 : Binds K d4 ["p", "q"] []
  f5 : Addr
  d5 : FuncData
  F5 : Fun K "is_fraction" "is_fraction" (topS 5) f5 d5
  m5 : mg "is_fraction" = some (.ref f5)
  b5 : Binds K d5 ["value"] []
  f7 : Addr
  d7 : FuncData
  F7 : Fun K "are_powers" "are_powers" (topS 7) f7 d7
  m7 : mg "are_powers" = some (.ref f7)
  b7 : Binds K d7 ["kinds", "value"] []
  f8 : Addr
  d8 : FuncData
  F8 : Fun K "is_member" "is_member" (topS 8) f8 d8
  m8 : mg "is_member" = some (.ref f8)
  b8 : Binds K d8 ["kinds", "value"] []
  f9 : Addr
  d9 : FuncData
  F9 : Fun K "is_mean" "is_mean" (topS 9) f9 d9
  m9 : mg "is_mean" = some (.ref f9)
  b9 : Binds K d9 ["kinds", "value"] []
  f10 : Addr
  d10 : FuncData
  F10 : Fun K "mean_of_rows" "mean_of_rows" (topS 10) f10 d10
  m10 : mg "mean_of_rows" = some (.ref f10)
  b10 : Binds K d10 ["rows"] []
  f11 : Addr
  d11 : FuncData
  F11 : Fun K "falling" "falling" (topS 11) f11 d11
  m11 : mg "falling" = some (.ref f11)
  b11 : Binds K d11 ["kinds", "k", "many"] []
  f12 : Addr
  d12 : FuncData
  F12 : Fun K "greatest_powers" "greatest_powers" (topS 12) f12 d12
  m12 : mg "greatest_powers" = some (.ref f12)
  b12 : Binds K d12 ["kinds", "mean"] []
  f13 : Addr
  d13 : FuncData
  F13 : Fun K "size_product" "size_product" (topS 13) f13 d13
  m13 : mg "size_product" = some (.ref f13)
  b13 : Binds K d13 ["sizes", "powers"] []
  f14 : Addr
  d14 : FuncData
  F14 : Fun K "mean_at" "mean_at" (topS 14) f14 d14
  m14 : mg "mean_at" = some (.ref f14)
  b14 : Binds K d14 ["mean", "sizes"] []
  f15 : Addr
  d15 : FuncData
  F15 : Fun K "mean_row" "mean_row" (topS 15) f15 d15
  m15 : mg "mean_row" = some (.ref f15)
  b15 : Binds K d15 ["mean", "k", "sizes"] []
  f17 : Addr
  d17 : FuncData
  F17 : Fun K "_law_open_cells" "_law_open_cells" (topS 17) f17 d17
  m17 : mg "_law_open_cells" = some (.ref f17)
  b17 : Binds K d17 ["script"] []
  f18 : Addr
  d18 : FuncData
  F18 : Fun K "_law_pick" "_law_pick" (topS 18) f18 d18
  m18 : mg "_law_pick" = some (.ref f18)
  b18 : Binds K d18 ["source", "most"] []
  f19 : Addr
  d19 : FuncData
  F19 : Fun K "_law_of" "_law_of" (topS 19) f19 d19
  m19 : mg "_law_of" = some (.ref f19)
  b19 : Binds K d19 ["source", "some"] []
  f20 : Addr
  d20 : FuncData
  F20 : Fun K "_law_fraction" "_law_fraction" (topS 20) f20 d20
  m20 : mg "_law_fraction" = some (.ref f20)
  b20 : Binds K d20 ["p", "q"] []
  f21 : Addr
  d21 : FuncData
  F21 : Fun K "_law_by" "_law_by" (topS 21) f21 d21
  m21 : mg "_law_by" = some (.ref f21)
  b21 : Binds K d21 ["x", "y"] []
  f22 : Addr
  d22 : FuncData
  F22 : Fun K "_law_drawn_mean" "_law_drawn_mean" (topS 22) f22 d22
  m22 : mg "_law_drawn_mean" = some (.ref f22)
  b22 : Binds K d22 ["source", "kinds", "most", "many"] []
  f23 : Addr
  d23 : FuncData
  F23 : Fun K "_law_power" "_law_power" (topS 23) f23 d23
  m23 : mg "_law_power" = some (.ref f23)
  b23 : Binds K d23 ["n", "p"] []
  f24 : Addr
  d24 : FuncData
  F24 : Fun K "_law_mean_at" "_law_mean_at" (topS 24) f24 d24
  m24 : mg "_law_mean_at" = some (.ref f24)
  b24 : Binds K d24 ["mean", "sizes"] []
  f25 : Addr
  d25 : FuncData
  F25 : Fun K "_law_bent" "_law_bent" (topS 25) f25 d25
  m25 : mg "_law_bent" = some (.ref f25)
  b25 : Binds K d25 ["source", "value", "odd"] []
  f26 : Addr
  d26 : FuncData
  F26 : Fun K "_law_is_int" "_law_is_int" (topS 26) f26 d26
  m26 : mg "_law_is_int" = some (.ref f26)
  b26 : Binds K d26 ["value"] []
  f27 : Addr
  d27 : FuncData
  F27 : Fun K "_law_is_mean" "_law_is_mean" (topS 27) f27 d27
  m27 : mg "_law_is_mean" = some (.ref f27)
  b27 : Binds K d27 ["kinds", "value"] []
  f28 : Addr
  d28 : FuncData
  F28 : Fun K "_law_is_fraction" "_law_is_fraction" (topS 28) f28 d28
  m28 : mg "_law_is_fraction" = some (.ref f28)
  b28 : Binds K d28 ["value"] []
  f33 : Addr
  d33 : FuncData
  F33 : Fun K "_law_each_behind" "_law_each_behind" (topS 33) f33 d33
  m33 : mg "_law_each_behind" = some (.ref f33)
  b33 : Binds K d33 ["rows", "some"] []
  f29 : Addr
  d29 : FuncData
  F29 : Fun K "_law_rows_unlike" "_law_rows_unlike" (topS 29) f29 d29
  m29 : mg "_law_rows_unlike" = some (.ref f29)
  b29 : Binds K d29 ["n", "many"] []
  f30 : Addr
  d30 : FuncData
  F30 : Fun K "_law_falling_right" "_law_falling_right" (topS 30) f30 d30
  m30 : mg "_law_falling_right" = some (.ref f30)
  b30 : Binds K d30 ["source"] []
  f31 : Addr
  d31 : FuncData
  F31 : Fun K "_law_row_right" "_law_row_right" (topS 31) f31 d31
  m31 : mg "_law_row_right" = some (.ref f31)
  b31 : Binds K d31 ["source"] []
  f32 : Addr
  d32 : FuncData
  F32 : Fun K "_law_kinds_right" "_law_kinds_right" (topS 32) f32 d32
  m32 : mg "_law_kinds_right" = some (.ref f32)
  b32 : Binds K d32 ["source", "odd"] []
  f34 : Addr
  d34 : FuncData
  F34 : Fun K "law" "law" (topS 34) f34 d34
  m34 : mg "law" = some (.ref f34)
  b34 : Binds K d34 ["script"] []
  z_abs : mg "abs" = none
  z_all : mg "all" = none
  z_bool : mg "bool" = none
  z_dict : mg "dict" = none
  z_enumerate : mg "enumerate" = none
  z_int : mg "int" = none
  z_isinstance : mg "isinstance" = none
  z_len : mg "len" = none
  z_list : mg "list" = none
  z_max : mg "max" = none
  z_range : mg "range" = none
  z_repr : mg "repr" = none
  z_sorted : mg "sorted" = none
  z_tuple : mg "tuple" = none
  z_zip : mg "zip" = none
  y_gcd : mg "gcd" = some (.builtin "math.gcd")
section
variable {P : Program} {w : World} {K : PySem.W.Frag} {mg : Str → Option Value} {base : Heap} (T : Tops K mg) (nd : base.NoDigits)
theorem sc2 : FnScope ["value"] ["value"] (defScope (topS 2)) := ⟨rfl, rfl, rfl, by decide +kernel, rfl, by decide +kernel, by decide +kernel⟩
include nd in
theorem g_is_integer : FnG P w K mg base 1 T.f2 T.d2 ["value"] (spI K 1 p_is_integer) := fng T.F2 sc2 rfl fun cdv A outer s H hr hg => ((rss_one (rs_ret (re_and (re_isi (by rfl) T.z_isinstance (by rfl) T.z_int bt_int (re_var (pv 0))) (re_one (re_not (re_isi (by rfl) T.z_isinstance (by rfl) T.z_bool bt_bool (re_var (pv 0)))))))) : RSs _ _ b_is_integer)
theorem sc3 : FnScope ["a", "k", "found", "turn"] ["a", "k"] (defScope (topS 3)) := ⟨rfl, rfl, rfl, by decide +kernel, rfl, by decide +kernel, by decide +kernel⟩
include nd in
theorem g_number_power : FnG P w K mg base 1 T.f3 T.d3 ["a", "k"] (spI K 2 p_number_power) := fng T.F3 sc3 rfl fun cdv A outer s H hr hg => ((rss_cons (rs_set (i := 2) sc3.nd rfl (Or.inl rfl) re_int)
    (rss_cons (rs_for rfl (ri_rng1 (c := true) (by rfl) T.z_range (ra_cons (re_var (pv 1)) ra_nil)) (rg_name (i := 3) sc3.nd rfl (Or.inl rfl)) (rss_one (rs_set (i := 2) sc3.nd rfl (Or.inl rfl) (re_bin oi_mul (re_var (pv 2)) (re_var (pv 0))))))
    (rss_one (rs_ret (re_var (pv 2)))))) : RSs _ _ b_number_power)
theorem sc4 : FnScope ["p", "q", "by"] ["p", "q"] (defScope (topS 4)) := ⟨rfl, rfl, rfl, by decide +kernel, rfl, by decide +kernel, by decide +kernel⟩
include nd in
theorem g_fraction_of : FnG P w K mg base 1 T.f4 T.d4 ["p", "q"] (spI K 2 p_fraction_of) := fng T.F4 sc4 rfl fun cdv A outer s H hr hg => ((rss_cons (rs_set (i := 2) sc4.nd rfl (Or.inl rfl) (re_if (rb_cmp oi_gt (re_var (pv 1)) re_int rfl) (re_cAF ca_gcd (by rfl) T.y_gcd (ra_cons (re_var (pv 0)) (ra_cons (re_var (pv 1)) ra_nil))) (re_neg (re_cAF ca_gcd (by rfl) T.y_gcd (ra_cons (re_var (pv 0)) (ra_cons (re_var (pv 1)) ra_nil))))))
    (rss_one (rs_ret (re_tup (ra_cons (re_bin oi_div (re_var (pv 0)) (re_var (pv 2))) (ra_cons (re_bin oi_div (re_var (pv 1)) (re_var (pv 2))) ra_nil)))))) : RSs _ _ b_fraction_of)
theorem sc5 : FnScope ["value", "x"] ["value"] (defScope (topS 5)) := ⟨rfl, rfl, rfl, by decide +kernel, rfl, by decide +kernel, by decide +kernel⟩
include nd in
theorem g_is_fraction : FnG P w K mg base 2 T.f5 T.d5 ["value"] (spI K 1 p_is_fraction) := fng T.F5 sc5 rfl fun cdv A outer s H hr hg => ((rss_cons (rs_if (rb_w (rw_or (rb_not (rb_truth (re_isi (by rfl) T.z_isinstance (by rfl) T.z_tuple bt_tuple (re_var (pv 0))))) (rw_or (rb_cmp (oi_ne hr.units) (re_c1B ci_len (by rfl) T.z_len bt_len (re_var (pv 0))) re_int rfl) (rw_or1 (rb_not (rb_truth (re_c1B (ci_all rfl) (by rfl) T.z_all bt_all (re_comp (own := [("x", 1)]) (vs := [1]) rfl sc5.nd (ri_seqL (re_var (pv 0))) (blkOk_by (by kernel_rfl)) rfl (by decide) (fun _ _ _ _ _ => (rg_name (i := 1) sc5.nd rfl (Or.inl rfl))) (fun _ _ _ _ _ => rts_nil) (fun _ _ _ _ _ => (re_call (g_is_integer T nd) (hr.mono (by omega)) hg (by rfl) T.m2 T.F2.kp T.b2 (ra_cons (re_var (pv 1)) ra_nil) (fun _ _ _ _ h => aCons_len (fun _ _ _ _ h => aNil_len h) _ _ _ _ h))))))))))) (rss_one (rs_ret re_bl)) rss_nil)
    (rss_one (rs_ret (re_and (re_cmp oi_gt (re_idx (re_var (pv 0)) re_int) re_int rfl) (re_one (re_cmp (oi_eq hr.units) (re_cAF ca_gcd (by rfl) T.y_gcd (ra_cons (re_idx (re_var (pv 0)) re_int) (ra_cons (re_idx (re_var (pv 0)) re_int) ra_nil))) re_int rfl)))))) : RSs _ _ b_is_fraction)
theorem sc7 : FnScope ["kinds", "value", "p"] ["kinds", "value"] (defScope (topS 7)) := ⟨rfl, rfl, rfl, by decide +kernel, rfl, by decide +kernel, by decide +kernel⟩
include nd in
theorem g_are_powers : FnG P w K mg base 2 T.f7 T.d7 ["kinds", "value"] (spI K 2 p_are_powers) := fng T.F7 sc7 rfl fun cdv A outer s H hr hg => ((rss_one (rs_ret (re_and (re_isi (by rfl) T.z_isinstance (by rfl) T.z_tuple bt_tuple (re_var (pv 1))) (re_and (re_cmp (oi_eq hr.units) (re_c1B ci_len (by rfl) T.z_len bt_len (re_var (pv 1))) (re_var (pv 0)) rfl) (re_one (re_c1B (ci_all rfl) (by rfl) T.z_all bt_all (re_comp (own := [("p", 2)]) (vs := [2]) rfl sc7.nd (ri_seqL (re_var (pv 1))) (blkOk_by (by kernel_rfl)) rfl (by decide) (fun _ _ _ _ _ => (rg_name (i := 2) sc7.nd rfl (Or.inl rfl))) (fun _ _ _ _ _ => rts_nil) (fun _ _ _ _ _ => (re_and (re_call (g_is_integer T nd) (hr.mono (by omega)) hg (by rfl) T.m2 T.F2.kp T.b2 (ra_cons (re_var (pv 2)) ra_nil) (fun _ _ _ _ h => aCons_len (fun _ _ _ _ h => aNil_len h) _ _ _ _ h)) (re_one (re_cmp oi_ge (re_var (pv 2)) re_int rfl))))))))))) : RSs _ _ b_are_powers)
theorem sc8 : FnScope ["kinds", "value"] ["kinds", "value"] (defScope (topS 8)) := ⟨rfl, rfl, rfl, by decide +kernel, rfl, by decide +kernel, by decide +kernel⟩
include nd in
theorem g_is_member : FnG P w K mg base 3 T.f8 T.d8 ["kinds", "value"] (spI K 2 p_is_member) := fng T.F8 sc8 rfl fun cdv A outer s H hr hg => ((rss_cons (rs_if (rb_w (rw_or (rb_not (rb_truth (re_isi (by rfl) T.z_isinstance (by rfl) T.z_tuple bt_tuple (re_var (pv 1))))) (rw_or (rb_cmp (oi_ne hr.units) (re_c1B ci_len (by rfl) T.z_len bt_len (re_var (pv 1))) re_int rfl) (rw_or1 (rb_not (rb_truth (re_call (g_are_powers T nd) (hr.mono (by omega)) hg (by rfl) T.m7 T.F7.kp T.b7 (ra_cons (re_var (pv 0)) (ra_cons (re_idx (re_var (pv 1)) re_int) ra_nil)) (fun _ _ _ _ h => aCons_len (fun _ _ _ _ h => aCons_len (fun _ _ _ _ h => aNil_len h) _ _ _ _ h) _ _ _ _ h)))))))) (rss_one (rs_ret re_bl)) rss_nil)
    (rss_one (rs_ret (re_and (re_call (g_is_integer T nd) (hr.mono (by omega)) hg (by rfl) T.m2 T.F2.kp T.b2 (ra_cons (re_idx (re_var (pv 1)) re_int) ra_nil) (fun _ _ _ _ h => aCons_len (fun _ _ _ _ h => aNil_len h) _ _ _ _ h)) (re_one (re_cmp (oi_ne hr.units) (re_idx (re_var (pv 1)) re_int) re_int rfl)))))) : RSs _ _ b_is_member)
theorem sc9 : FnScope ["kinds", "value", "member", "i"] ["kinds", "value"] (defScope (topS 9)) := ⟨rfl, rfl, rfl, by decide +kernel, rfl, by decide +kernel, by decide +kernel⟩
include nd in
theorem g_is_mean : FnG P w K mg base 4 T.f9 T.d9 ["kinds", "value"] (spI K 2 p_is_mean) := fng T.F9 sc9 rfl fun cdv A outer s H hr hg => ((rss_cons (rs_if (rb_w (rw_or (rb_not (rb_truth (re_isi (by rfl) T.z_isinstance (by rfl) T.z_tuple bt_tuple (re_var (pv 1))))) (rw_or1 (rb_not (rb_truth (re_c1B (ci_all rfl) (by rfl) T.z_all bt_all (re_comp (own := [("member", 2)]) (vs := [2]) rfl sc9.nd (ri_seqL (re_var (pv 1))) (blkOk_by (by kernel_rfl)) rfl (by decide) (fun _ _ _ _ _ => (rg_name (i := 2) sc9.nd rfl (Or.inl rfl))) (fun _ _ _ _ _ => rts_nil) (fun _ _ _ _ _ => (re_call (g_is_member T nd) (hr.mono (by omega)) hg (by rfl) T.m8 T.F8.kp T.b8 (ra_cons (re_var (pv 0)) (ra_cons (re_var (pv 2)) ra_nil)) (fun _ _ _ _ h => aCons_len (fun _ _ _ _ h => aCons_len (fun _ _ _ _ h => aNil_len h) _ _ _ _ h) _ _ _ _ h)))))))))) (rss_one (rs_ret re_bl)) rss_nil)
    (rss_one (rs_ret (re_c1B (ci_all rfl) (by rfl) T.z_all bt_all (re_comp (own := [("i", 3)]) (vs := [3]) rfl sc9.nd (ri_rng1 (c := false) (by rfl) T.z_range (ra_cons (re_bin oi_sub (re_c1B ci_len (by rfl) T.z_len bt_len (re_var (pv 1))) re_int) ra_nil)) (blkOk_by (by kernel_rfl)) rfl (by decide) (fun _ _ _ _ _ => (rg_name (i := 3) sc9.nd rfl (Or.inl rfl))) (fun _ _ _ _ _ => rts_nil) (fun _ _ _ _ _ => (re_cmp (oi_ltT hr.units) (re_idx (re_idx (re_var (pv 1)) (re_var (pv 3))) re_int) (re_idx (re_idx (re_var (pv 1)) (re_bin oi_add (re_var (pv 3)) re_int)) re_int) rfl))))))) : RSs _ _ b_is_mean)
theorem sc10 : FnScope ["rows", "found", "powers", "number"] ["rows"] (defScope (topS 10)) := ⟨rfl, rfl, rfl, by decide +kernel, rfl, by decide +kernel, by decide +kernel⟩
include nd in
theorem g_mean_of_rows : FnG P w K mg base 1 T.f10 T.d10 ["rows"] (spI K 1 p_mean_of_rows) := fng T.F10 sc10 rfl fun cdv A outer s H hr hg => ((rss_cons (rs_set (i := 1) sc10.nd rfl (Or.inl rfl) re_dnewT)
    (rss_cons (rs_for rfl (ri_seq (re_var (pv 0))) (rg_tup (n := 2) rfl (rgs_cons (rg_name (i := 2) sc10.nd rfl (Or.inl rfl)) (rgs_cons (rg_name (i := 3) sc10.nd rfl (Or.inl rfl)) rgs_nil))) (rss_one (rs_dput (i := 1) hr.units (pv 1) (re_var (pv 2)) (re_bin oi_add (re_get2 hr.units (re_var (pv 1)) (re_var (pv 2)) re_int) (re_var (pv 3))))))
    (rss_one (rs_ret (re_c1T ci_tuple (by rfl) T.z_tuple bt_tuple (re_c1B (ci_sorted rfl hr.units) (by rfl) T.z_sorted bt_sorted (re_compI (own := [("powers", 2), ("number", 3)]) (vs := [2, 3]) rfl sc10.nd (pv 1) (blkOk_by (by kernel_rfl)) rfl (by decide) (fun _ _ _ _ _ => (rg_tup (n := 2) rfl (rgs_cons (rg_name (i := 2) sc10.nd rfl (Or.inl rfl)) (rgs_cons (rg_name (i := 3) sc10.nd rfl (Or.inl rfl)) rgs_nil)))) (fun _ _ _ _ _ => (rts_one (rb_cmp (oi_ne hr.units) (re_var (pv 3)) re_int rfl))) (fun _ _ _ _ _ => (re_tup (ra_cons (re_var (pv 2)) (ra_cons (re_var (pv 3)) ra_nil))))))))))) : RSs _ _ b_mean_of_rows)
theorem sc11 : FnScope ["kinds", "k", "many", "row", "i", "a", "b", "p", "c"] ["kinds", "k", "many"] (defScope (topS 11)) := ⟨rfl, rfl, rfl, by decide +kernel, rfl, by decide +kernel, by decide +kernel⟩
include nd in
theorem g_falling : FnG P w K mg base 2 T.f11 T.d11 ["kinds", "k", "many"] (spI K 3 p_falling) := fng T.F11 sc11 rfl fun cdv A outer s H hr hg => ((rss_cons (rs_set (i := 3) sc11.nd rfl (Or.inl rfl) (re_lst (ra_cons re_int ra_nil)))
    (rss_cons (rs_for rfl (ri_rng1 (c := true) (by rfl) T.z_range (ra_cons (re_var (pv 2)) ra_nil)) (rg_name (i := 4) sc11.nd rfl (Or.inr rfl)) (rss_one (rs_setComp (i := 3) (own := [("a", 5), ("b", 6)]) (vs := [5, 6]) rfl sc11.nd rfl rfl (sw_true rfl rfl rfl (by decide +kernel)) (ri_zip2 (c := false) (by rfl) T.z_zip (ra_cons (re_lst (ra_star (re_var (pv 3)) (ra_cons re_int ra_nil))) (ra_cons (re_lst (ra_cons re_int (ra_star (re_var (pv 3)) ra_nil))) ra_nil))) (blkOk_by (by kernel_rfl)) rfl (by decide) (fun _ _ _ _ _ => (rg_tup (n := 2) rfl (rgs_cons (rg_name (i := 5) sc11.nd rfl (Or.inl rfl)) (rgs_cons (rg_name (i := 6) sc11.nd rfl (Or.inl rfl)) rgs_nil)))) (fun _ _ _ _ _ => rts_nil) (fun _ _ _ _ _ => (re_bin oi_sub (re_var (pv 5)) (re_bin oi_mul (re_var (pv 4)) (re_var (pv 6))))))))
    (rss_one (rs_frz [3] (rs_ret (re_call (g_mean_of_rows T nd) (hr.mono (by omega)) hg (by rfl) T.m10 T.F10.kp T.b10 (ra_cons (re_comp (own := [("p", 7), ("c", 8)]) (vs := [7, 8]) rfl sc11.nd (ri_enum (c := false) (by rfl) T.z_enumerate (ra_cons (re_var (pv 3)) ra_nil)) (blkOk_by (by kernel_rfl)) rfl (by decide) (fun _ _ _ _ _ => (rg_tup (n := 2) rfl (rgs_cons (rg_name (i := 7) sc11.nd rfl (Or.inl rfl)) (rgs_cons (rg_name (i := 8) sc11.nd rfl (Or.inl rfl)) rgs_nil)))) (fun _ _ _ _ _ => rts_nil) (fun _ _ _ _ _ => (re_tup (ra_cons (re_bin oi_add (re_bin oi_add (re_bin oi_mulX (re_tup (ra_cons re_int ra_nil)) (re_var (pv 1))) (re_tup (ra_cons (re_var (pv 7)) ra_nil))) (re_bin oi_mulX (re_tup (ra_cons re_int ra_nil)) (re_bin oi_sub (re_bin oi_sub (re_var (pv 0)) (re_var (pv 1))) re_int))) (ra_cons (re_var (pv 8)) ra_nil))))) ra_nil) (fun _ _ _ _ h => aCons_len (fun _ _ _ _ h => aNil_len h) _ _ _ _ h))))))) : RSs _ _ b_falling)
theorem sc12 : FnScope ["kinds", "mean", "k", "powers", "number"] ["kinds", "mean"] (defScope (topS 12)) := ⟨rfl, rfl, rfl, by decide +kernel, rfl, by decide +kernel, by decide +kernel⟩
include nd in
theorem g_greatest_powers : FnG P w K mg base 1 T.f12 T.d12 ["kinds", "mean"] (spI K 2 p_greatest_powers) := fng T.F12 sc12 rfl fun cdv A outer s H hr hg => ((rss_one (rs_ret (re_c1T ci_tuple (by rfl) T.z_tuple bt_tuple (re_comp (own := [("k", 2)]) (vs := [2]) rfl sc12.nd (ri_rng1 (c := false) (by rfl) T.z_range (ra_cons (re_var (pv 0)) ra_nil)) (blkOk_by (by kernel_rfl)) rfl (by decide) (fun _ _ _ _ _ => (rg_name (i := 2) sc12.nd rfl (Or.inr rfl))) (fun _ _ _ _ _ => rts_nil) (fun _ _ _ _ _ => (re_maxD rfl hr.units (by rfl) T.z_max (re_comp (own := [("powers", 3), ("number", 4)]) (vs := [3, 4]) rfl sc12.nd (ri_seqL (re_var (pv 1))) (blkOk_by (by kernel_rfl)) rfl (by decide) (fun _ _ _ _ _ => (rg_tup (n := 2) rfl (rgs_cons (rg_name (i := 3) sc12.nd rfl (Or.inl rfl)) (rgs_cons (rg_name (i := 4) sc12.nd rfl (Or.inl rfl)) rgs_nil)))) (fun _ _ _ _ _ => rts_nil) (fun _ _ _ _ _ => (re_idx (re_var (pv 3)) (re_var (pv 2))))) re_int)))))) : RSs _ _ b_greatest_powers)
theorem sc13 : FnScope ["sizes", "powers", "found", "n", "p"] ["sizes", "powers"] (defScope (topS 13)) := ⟨rfl, rfl, rfl, by decide +kernel, rfl, by decide +kernel, by decide +kernel⟩
include nd in
theorem g_size_product : FnG P w K mg base 2 T.f13 T.d13 ["sizes", "powers"] (spI K 2 p_size_product) := fng T.F13 sc13 rfl fun cdv A outer s H hr hg => ((rss_cons (rs_set (i := 2) sc13.nd rfl (Or.inl rfl) re_int)
    (rss_cons (rs_for rfl (ri_zip2 (c := true) (by rfl) T.z_zip (ra_cons (re_var (pv 0)) (ra_cons (re_var (pv 1)) ra_nil))) (rg_tup (n := 2) rfl (rgs_cons (rg_name (i := 3) sc13.nd rfl (Or.inl rfl)) (rgs_cons (rg_name (i := 4) sc13.nd rfl (Or.inl rfl)) rgs_nil))) (rss_one (rs_set (i := 2) sc13.nd rfl (Or.inl rfl) (re_bin oi_mul (re_var (pv 2)) (re_call (g_number_power T nd) (hr.mono (by omega)) hg (by rfl) T.m3 T.F3.kp T.b3 (ra_cons (re_var (pv 3)) (ra_cons (re_var (pv 4)) ra_nil)) (fun _ _ _ _ h => aCons_len (fun _ _ _ _ h => aCons_len (fun _ _ _ _ h => aNil_len h) _ _ _ _ h) _ _ _ _ h))))))
    (rss_one (rs_ret (re_var (pv 2)))))) : RSs _ _ b_size_product)
theorem sc14 : FnScope ["mean", "sizes", "greatest", "total", "powers", "number", "most", "p"] ["mean", "sizes"] (defScope (topS 14)) := ⟨rfl, rfl, rfl, by decide +kernel, rfl, by decide +kernel, by decide +kernel⟩
include nd in
theorem g_mean_at : FnG P w K mg base 3 T.f14 T.d14 ["mean", "sizes"] (spI K 2 p_mean_at) := fng T.F14 sc14 rfl fun cdv A outer s H hr hg => ((rss_cons (rs_par2 (i := 2) (j := 3) rfl sc14.nd rfl rfl (by decide) rfl rfl (rp_cons (re_call (g_greatest_powers T nd) (hr.mono (by omega)) hg (by rfl) T.m12 T.F12.kp T.b12 (ra_cons (re_c1B ci_len (by rfl) T.z_len bt_len (re_var (pv 1))) (ra_cons (re_var (pv 0)) ra_nil)) (fun _ _ _ _ h => aCons_len (fun _ _ _ _ h => aCons_len (fun _ _ _ _ h => aNil_len h) _ _ _ _ h) _ _ _ _ h)) (rp_cons re_int rp_nil)))
    (rss_cons (rs_for rfl (ri_seq (re_var (pv 0))) (rg_tup (n := 2) rfl (rgs_cons (rg_name (i := 4) sc14.nd rfl (Or.inl rfl)) (rgs_cons (rg_name (i := 5) sc14.nd rfl (Or.inl rfl)) rgs_nil))) (rss_one (rs_set (i := 3) sc14.nd rfl (Or.inl rfl) (re_bin oi_add (re_var (pv 3)) (re_bin oi_mul (re_var (pv 5)) (re_call (g_size_product T nd) (hr.mono (by omega)) hg (by rfl) T.m13 T.F13.kp T.b13 (ra_cons (re_var (pv 1)) (ra_cons (re_comp (own := [("most", 6), ("p", 7)]) (vs := [6, 7]) rfl sc14.nd (ri_zip2 (c := false) (by rfl) T.z_zip (ra_cons (re_var (pv 2)) (ra_cons (re_var (pv 4)) ra_nil))) (blkOk_by (by kernel_rfl)) rfl (by decide) (fun _ _ _ _ _ => (rg_tup (n := 2) rfl (rgs_cons (rg_name (i := 6) sc14.nd rfl (Or.inl rfl)) (rgs_cons (rg_name (i := 7) sc14.nd rfl (Or.inl rfl)) rgs_nil)))) (fun _ _ _ _ _ => rts_nil) (fun _ _ _ _ _ => (re_bin oi_sub (re_var (pv 6)) (re_var (pv 7))))) ra_nil)) (fun _ _ _ _ h => aCons_len (fun _ _ _ _ h => aCons_len (fun _ _ _ _ h => aNil_len h) _ _ _ _ h) _ _ _ _ h)))))))
    (rss_one (rs_ret (re_call (g_fraction_of T nd) (hr.mono (by omega)) hg (by rfl) T.m4 T.F4.kp T.b4 (ra_cons (re_var (pv 3)) (ra_cons (re_call (g_size_product T nd) (hr.mono (by omega)) hg (by rfl) T.m13 T.F13.kp T.b13 (ra_cons (re_var (pv 1)) (ra_cons (re_var (pv 2)) ra_nil)) (fun _ _ _ _ h => aCons_len (fun _ _ _ _ h => aCons_len (fun _ _ _ _ h => aNil_len h) _ _ _ _ h) _ _ _ _ h)) ra_nil)) (fun _ _ _ _ h => aCons_len (fun _ _ _ _ h => aCons_len (fun _ _ _ _ h => aNil_len h) _ _ _ _ h) _ _ _ _ h)))))) : RSs _ _ b_mean_at)
theorem sc15 : FnScope ["mean", "k", "sizes", "greatest", "others", "row", "kind", "n", "powers", "number", "left", "most", "p"] ["mean", "k", "sizes"] (defScope (topS 15)) := ⟨rfl, rfl, rfl, by decide +kernel, rfl, by decide +kernel, by decide +kernel⟩
include nd in
theorem g_mean_row : FnG P w K mg base 3 T.f15 T.d15 ["mean", "k", "sizes"] (spI K 3 p_mean_row) := fng T.F15 sc15 rfl fun cdv A outer s H hr hg => ((rss_cons (rs_set (i := 3) sc15.nd rfl (Or.inl rfl) (re_call (g_greatest_powers T nd) (hr.mono (by omega)) hg (by rfl) T.m12 T.F12.kp T.b12 (ra_cons (re_c1B ci_len (by rfl) T.z_len bt_len (re_var (pv 2))) (ra_cons (re_var (pv 0)) ra_nil)) (fun _ _ _ _ h => aCons_len (fun _ _ _ _ h => aCons_len (fun _ _ _ _ h => aNil_len h) _ _ _ _ h) _ _ _ _ h)))
    (rss_cons (rs_par2 (i := 4) (j := 5) rfl sc15.nd rfl rfl (by decide) rfl rfl (rp_cons (re_comp (own := [("kind", 6), ("n", 7)]) (vs := [6, 7]) rfl sc15.nd (ri_enum (c := false) (by rfl) T.z_enumerate (ra_cons (re_var (pv 2)) ra_nil)) (blkOk_by (by kernel_rfl)) rfl (by decide) (fun _ _ _ _ _ => (rg_tup (n := 2) rfl (rgs_cons (rg_name (i := 6) sc15.nd rfl (Or.inl rfl)) (rgs_cons (rg_name (i := 7) sc15.nd rfl (Or.inl rfl)) rgs_nil)))) (fun _ _ _ _ _ => rts_nil) (fun _ _ _ _ _ => (re_if (rb_cmp (oi_eq hr.units) (re_var (pv 6)) (re_var (pv 1)) rfl) re_int (re_var (pv 7))))) (rp_cons (re_bin oi_mul (re_lst (ra_cons re_int ra_nil)) (re_bin oi_add (re_idx (re_var (pv 3)) (re_var (pv 1))) re_int)) rp_nil)))
    (rss_cons (rs_for rfl (ri_seq (re_var (pv 0))) (rg_tup (n := 2) rfl (rgs_cons (rg_name (i := 8) sc15.nd rfl (Or.inl rfl)) (rgs_cons (rg_name (i := 9) sc15.nd rfl (Or.inl rfl)) rgs_nil))) (rss_cons (rs_setComp (i := 10) (own := [("most", 11), ("p", 12)]) (vs := [11, 12]) rfl sc15.nd rfl rfl (sw_true rfl rfl rfl (by decide +kernel)) (ri_zip2 (c := false) (by rfl) T.z_zip (ra_cons (re_var (pv 3)) (ra_cons (re_var (pv 8)) ra_nil))) (blkOk_by (by kernel_rfl)) rfl (by decide) (fun _ _ _ _ _ => (rg_tup (n := 2) rfl (rgs_cons (rg_name (i := 11) sc15.nd rfl (Or.inl rfl)) (rgs_cons (rg_name (i := 12) sc15.nd rfl (Or.inl rfl)) rgs_nil)))) (fun _ _ _ _ _ => rts_nil) (fun _ _ _ _ _ => (re_bin oi_sub (re_var (pv 11)) (re_var (pv 12)))))
    (rss_one (rs_frz [4, 10] (rs_lput (i := 5) (pv 5) (re_idx (re_var (pv 10)) (re_var (pv 1))) (re_bin oi_add (re_idx (re_var (pv 5)) (re_idx (re_var (pv 10)) (re_var (pv 1)))) (re_bin oi_mul (re_var (pv 9)) (re_call (g_size_product T nd) (hr.mono (by omega)) hg (by rfl) T.m13 T.F13.kp T.b13 (ra_cons (re_var (pv 4)) (ra_cons (re_var (pv 10)) ra_nil)) (fun _ _ _ _ h => aCons_len (fun _ _ _ _ h => aCons_len (fun _ _ _ _ h => aNil_len h) _ _ _ _ h) _ _ _ _ h)))))))))
    (rss_one (rs_frz [4] (rs_ret (re_tup (ra_cons (re_c1T ci_tuple (by rfl) T.z_tuple bt_tuple (re_var (pv 5))) (ra_cons (re_idx (re_var (pv 3)) (re_var (pv 1))) (ra_cons (re_call (g_size_product T nd) (hr.mono (by omega)) hg (by rfl) T.m13 T.F13.kp T.b13 (ra_cons (re_var (pv 4)) (ra_cons (re_var (pv 3)) ra_nil)) (fun _ _ _ _ h => aCons_len (fun _ _ _ _ h => aCons_len (fun _ _ _ _ h => aNil_len h) _ _ _ _ h) _ _ _ _ h)) ra_nil)))))))))) : RSs _ _ b_mean_row)
theorem sc17 : FnScope ["script", "stirred", "cell", "cells"] ["script"] (defScope (topS 17)) := ⟨rfl, rfl, rfl, by decide +kernel, rfl, by decide +kernel, by decide +kernel⟩
include nd in
theorem g_law_open_cells : FnG P w K mg base 1 T.f17 T.d17 ["script"] (spI K 1 p_law_open_cells) := fng T.F17 sc17 rfl fun cdv A outer s H hr hg => ((rss_cons (rs_set (i := 1) sc17.nd rfl (Or.inl rfl) re_int)
    (rss_cons (rs_for rfl (ri_scr (c := true) (re_var (pv 0))) (rg_name (i := 2) sc17.nd rfl (Or.inl rfl)) (rss_one (rs_set (i := 1) sc17.nd rfl (Or.inl rfl) (re_bin oi_mod (re_c1T ci_int (by rfl) T.z_int bt_int (re_bin oi_add (re_bin oi_add (re_bin oi_mul (re_var (pv 1)) re_int) (re_bin oi_mul (re_var (pv 2)) re_int)) re_int)) re_int))))
    (rss_cons (rs_setComp (i := 3) (own := [("cell", 2)]) (vs := [2]) rfl sc17.nd rfl rfl (sw_true rfl rfl rfl (by decide +kernel)) (ri_scr (c := false) (re_var (pv 0))) (blkOk_by (by kernel_rfl)) rfl (by decide) (fun _ _ _ _ _ => (rg_name (i := 2) sc17.nd rfl (Or.inl rfl))) (fun _ _ _ _ _ => rts_nil) (fun _ _ _ _ _ => (re_c1B ci_abs (by rfl) T.z_abs bt_abs (re_var (pv 2)))))
    (rss_one (rs_ret (re_dispP (rds_str (re_revP (re_var (pv 3))) (rds_str re_int (rds_str (re_var (pv 1)) (rds_str re_int rds_nil)))))))))) : RSs _ _ b_law_open_cells)
theorem sc18 : FnScope ["source", "most", "cells", "others", "lap", "stirred"] ["source", "most"] (defScope (topS 18)) := ⟨rfl, rfl, rfl, by decide +kernel, rfl, by decide +kernel, by decide +kernel⟩
include nd in
theorem g_law_pick : FnG P w K mg base 1 T.f18 T.d18 ["source", "most"] (spI K 2 p_law_pick) := fng T.F18 sc18 rfl fun cdv A outer s H hr hg => ((rss_cons (rs_if (rb_cmp oi_lt (re_var (pv 1)) re_int rfl) (rss_one (rs_ret re_int)) rss_nil)
    (rss_cons (rs_set (i := 2) sc18.nd rfl (Or.inl rfl) (re_dget hr.units (re_var (pv 0)) re_str))
    (rss_cons (rs_while (rb_w (rw_and (rb_cmp oi_lt (re_dget hr.units (re_var (pv 0)) re_str) re_int rfl) (rw_and1 (rb_cmp oi_gt (re_c1B ci_len (by rfl) T.z_len bt_len (re_var (pv 2))) re_int rfl)))) (rss_one (rs_dput (i := 0) hr.units (pv 0) re_str (re_popSh (re_var (pv 2))))))
    (rss_cons (rs_set (i := 3) sc18.nd rfl (Or.inl rfl) (re_dget hr.units (re_var (pv 0)) re_str))
    (rss_cons (rs_if (rb_cmp oi_gt (re_var (pv 3)) re_int rfl) (rss_cons (rs_dput (i := 0) hr.units (pv 0) re_str (re_bin oi_div (re_var (pv 3)) (re_var (pv 1))))
    (rss_one (rs_ret (re_bin oi_mod (re_c1T ci_int (by rfl) T.z_int bt_int (re_var (pv 3))) (re_var (pv 1)))))) rss_nil)
    (rss_cons (rs_dput (i := 0) hr.units (pv 0) re_str (re_bin oi_add (re_dget hr.units (re_var (pv 0)) re_str) re_int))
    (rss_cons (rs_set (i := 4) sc18.nd rfl (Or.inl rfl) (re_dget hr.units (re_var (pv 0)) re_str))
    (rss_cons (rs_set (i := 5) sc18.nd rfl (Or.inl rfl) (re_bin oi_mod (re_c1T ci_int (by rfl) T.z_int bt_int (re_bin oi_add (re_dget hr.units (re_var (pv 0)) re_str) (re_bin oi_mul (re_var (pv 4)) re_int))) re_int))
    (rss_cons (rs_set (i := 5) sc18.nd rfl (Or.inl rfl) (re_bin oi_mod (re_c1T ci_int (by rfl) T.z_int bt_int (re_bin oi_add (re_bin oi_mul (re_var (pv 5)) (re_var (pv 5))) (re_bin oi_mul (re_var (pv 4)) re_int))) re_int))
    (rss_one (rs_ret (re_bin oi_mod (re_c1T ci_int (by rfl) T.z_int bt_int (re_bin oi_div (re_var (pv 5)) re_int)) (re_var (pv 1)))))))))))))) : RSs _ _ b_law_pick)
theorem sc19 : FnScope ["source", "some"] ["source", "some"] (defScope (topS 19)) := ⟨rfl, rfl, rfl, by decide +kernel, rfl, by decide +kernel, by decide +kernel⟩
include nd in
theorem g_law_of : FnG P w K mg base 2 T.f19 T.d19 ["source", "some"] (spI K 2 p_law_of) := fng T.F19 sc19 rfl fun cdv A outer s H hr hg => ((rss_one (rs_ret (re_idx (re_var (pv 1)) (re_call (g_law_pick T nd) (hr.mono (by omega)) hg (by rfl) T.m18 T.F18.kp T.b18 (ra_cons (re_var (pv 0)) (ra_cons (re_c1B ci_len (by rfl) T.z_len bt_len (re_var (pv 1))) ra_nil)) (fun _ _ _ _ h => aCons_len (fun _ _ _ _ h => aCons_len (fun _ _ _ _ h => aNil_len h) _ _ _ _ h) _ _ _ _ h))))) : RSs _ _ b_law_of)
theorem sc20 : FnScope ["p", "q", "a", "b"] ["p", "q"] (defScope (topS 20)) := ⟨rfl, rfl, rfl, by decide +kernel, rfl, by decide +kernel, by decide +kernel⟩
include nd in
theorem g_law_fraction : FnG P w K mg base 1 T.f20 T.d20 ["p", "q"] (spI K 2 p_law_fraction) := fng T.F20 sc20 rfl fun cdv A outer s H hr hg => ((rss_cons (rs_par2 (i := 2) (j := 3) rfl sc20.nd rfl rfl (by decide) rfl rfl (rp_cons (re_c1B ci_abs (by rfl) T.z_abs bt_abs (re_var (pv 0))) (rp_cons (re_c1B ci_abs (by rfl) T.z_abs bt_abs (re_var (pv 1))) rp_nil)))
    (rss_cons (rs_while (rb_cmp oi_gt (re_var (pv 3)) re_int rfl) (rss_one (rs_par2 (i := 2) (j := 3) rfl sc20.nd rfl rfl (by decide) rfl rfl (rp_cons (re_var (pv 3)) (rp_cons (re_bin oi_mod (re_c1T ci_int (by rfl) T.z_int bt_int (re_var (pv 2))) (re_var (pv 3))) rp_nil)))))
    (rss_cons (rs_frz [2] (rs_set (i := 2) sc20.nd rfl (Or.inl rfl) (re_if (rb_cmp oi_gt (re_var (pv 1)) re_int rfl) (re_var (pv 2)) (re_bin oi_sub re_int (re_var (pv 2))))))
    (rss_one (rs_ret (re_tup (ra_cons (re_bin oi_div (re_var (pv 0)) (re_var (pv 2))) (ra_cons (re_bin oi_div (re_var (pv 1)) (re_var (pv 2))) ra_nil)))))))) : RSs _ _ b_law_fraction)
theorem sc21 : FnScope ["x", "y"] ["x", "y"] (defScope (topS 21)) := ⟨rfl, rfl, rfl, by decide +kernel, rfl, by decide +kernel, by decide +kernel⟩
include nd in
theorem g_law_by : FnG P w K mg base 2 T.f21 T.d21 ["x", "y"] (spI K 2 p_law_by) := fng T.F21 sc21 rfl fun cdv A outer s H hr hg => ((rss_one (rs_ret (re_call (g_law_fraction T nd) (hr.mono (by omega)) hg (by rfl) T.m20 T.F20.kp T.b20 (ra_cons (re_bin oi_mul (re_idx (re_var (pv 0)) re_int) (re_idx (re_var (pv 1)) re_int)) (ra_cons (re_bin oi_mul (re_idx (re_var (pv 0)) re_int) (re_idx (re_var (pv 1)) re_int)) ra_nil)) (fun _ _ _ _ h => aCons_len (fun _ _ _ _ h => aCons_len (fun _ _ _ _ h => aNil_len h) _ _ _ _ h) _ _ _ _ h)))) : RSs _ _ b_law_by)
theorem sc22 : FnScope ["source", "kinds", "most", "many", "found", "turn", "powers", "kind"] ["source", "kinds", "most", "many"] (defScope (topS 22)) := ⟨rfl, rfl, rfl, by decide +kernel, rfl, by decide +kernel, by decide +kernel⟩
include nd in
theorem g_law_drawn_mean : FnG P w K mg base 3 T.f22 T.d22 ["source", "kinds", "most", "many"] (spI K 4 p_law_drawn_mean) := fng T.F22 sc22 rfl fun cdv A outer s H hr hg => ((rss_cons (rs_set (i := 4) sc22.nd rfl (Or.inl rfl) re_dnewT)
    (rss_cons (rs_for rfl (ri_rng1 (c := true) (by rfl) T.z_range (ra_cons (re_call (g_law_pick T nd) (hr.mono (by omega)) hg (by rfl) T.m18 T.F18.kp T.b18 (ra_cons (re_var (pv 0)) (ra_cons (re_bin oi_add (re_var (pv 3)) re_int) ra_nil)) (fun _ _ _ _ h => aCons_len (fun _ _ _ _ h => aCons_len (fun _ _ _ _ h => aNil_len h) _ _ _ _ h) _ _ _ _ h)) ra_nil)) (rg_name (i := 5) sc22.nd rfl (Or.inl rfl)) (rss_cons (rs_set (i := 6) sc22.nd rfl (Or.inl rfl) (re_c1T ci_tuple (by rfl) T.z_tuple bt_tuple (re_comp (own := [("kind", 7)]) (vs := [7]) rfl sc22.nd (ri_rng1 (c := false) (by rfl) T.z_range (ra_cons (re_var (pv 1)) ra_nil)) (blkOk_by (by kernel_rfl)) rfl (by decide) (fun _ _ _ _ _ => (rg_name (i := 7) sc22.nd rfl (Or.inl rfl))) (fun _ _ _ _ _ => rts_nil) (fun _ _ _ _ _ => (re_call (g_law_pick T nd) (hr.mono (by omega)) hg (by rfl) T.m18 T.F18.kp T.b18 (ra_cons (re_var (pv 0)) (ra_cons (re_bin oi_add (re_var (pv 2)) re_int) ra_nil)) (fun _ _ _ _ h => aCons_len (fun _ _ _ _ h => aCons_len (fun _ _ _ _ h => aNil_len h) _ _ _ _ h) _ _ _ _ h))))))
    (rss_one (rs_dput (i := 4) hr.units (pv 4) (re_var (pv 6)) (re_call (g_law_of T nd) (hr.mono (by omega)) hg (by rfl) T.m19 T.F19.kp T.b19 (ra_cons (re_var (pv 0)) (ra_cons (re_lst (ra_cons re_int (ra_cons (re_neg re_int) (ra_cons re_int (ra_cons (re_neg re_int) (ra_cons re_int (ra_cons (re_bin oi_add re_int (re_call (g_law_pick T nd) (hr.mono (by omega)) hg (by rfl) T.m18 T.F18.kp T.b18 (ra_cons (re_var (pv 0)) (ra_cons (re_bin oi_pow re_int re_int) ra_nil)) (fun _ _ _ _ h => aCons_len (fun _ _ _ _ h => aCons_len (fun _ _ _ _ h => aNil_len h) _ _ _ _ h) _ _ _ _ h))) ra_nil))))))) ra_nil)) (fun _ _ _ _ h => aCons_len (fun _ _ _ _ h => aCons_len (fun _ _ _ _ h => aNil_len h) _ _ _ _ h) _ _ _ _ h))))))
    (rss_one (rs_ret (re_c1T ci_tuple (by rfl) T.z_tuple bt_tuple (re_sortI rfl hr.units (by rfl) T.z_sorted (pv 4))))))) : RSs _ _ b_law_drawn_mean)
theorem sc23 : FnScope ["n", "p", "found", "turn"] ["n", "p"] (defScope (topS 23)) := ⟨rfl, rfl, rfl, by decide +kernel, rfl, by decide +kernel, by decide +kernel⟩
include nd in
theorem g_law_power : FnG P w K mg base 1 T.f23 T.d23 ["n", "p"] (spI K 2 p_law_power) := fng T.F23 sc23 rfl fun cdv A outer s H hr hg => ((rss_cons (rs_set (i := 2) sc23.nd rfl (Or.inl rfl) re_int)
    (rss_cons (rs_for rfl (ri_rng1 (c := true) (by rfl) T.z_range (ra_cons (re_var (pv 1)) ra_nil)) (rg_name (i := 3) sc23.nd rfl (Or.inl rfl)) (rss_one (rs_set (i := 2) sc23.nd rfl (Or.inl rfl) (re_bin oi_mul (re_var (pv 2)) (re_var (pv 0))))))
    (rss_one (rs_ret (re_var (pv 2)))))) : RSs _ _ b_law_power)
theorem sc24 : FnScope ["mean", "sizes", "top", "bottom", "greatest", "kind", "n", "powers", "number", "most", "p"] ["mean", "sizes"] (defScope (topS 24)) := ⟨rfl, rfl, rfl, by decide +kernel, rfl, by decide +kernel, by decide +kernel⟩
include nd in
theorem g_law_mean_at : FnG P w K mg base 2 T.f24 T.d24 ["mean", "sizes"] (spI K 2 p_law_mean_at) := fng T.F24 sc24 rfl fun cdv A outer s H hr hg => ((rss_cons (rs_par3 (i := 2) (j := 3) (l := 4) rfl sc24.nd rfl rfl rfl (by decide) (by decide) (by decide) rfl rfl rfl (rp_cons re_int (rp_cons re_int (rp_cons (re_lst ra_nil) rp_nil))))
    (rss_cons (rs_for rfl (ri_enum (c := true) (by rfl) T.z_enumerate (ra_cons (re_var (pv 1)) ra_nil)) (rg_tup (n := 2) rfl (rgs_cons (rg_name (i := 5) sc24.nd rfl (Or.inr rfl)) (rgs_cons (rg_name (i := 6) sc24.nd rfl (Or.inl rfl)) rgs_nil))) (rss_cons (rs_app (pv 4) (re_c1B (ci_max rfl) (by rfl) T.z_max bt_max (re_bin oi_add (re_comp (own := [("powers", 7), ("number", 8)]) (vs := [7, 8]) rfl sc24.nd (ri_seqL (re_var (pv 0))) (blkOk_by (by kernel_rfl)) rfl (by decide) (fun _ _ _ _ _ => (rg_tup (n := 2) rfl (rgs_cons (rg_name (i := 7) sc24.nd rfl (Or.inl rfl)) (rgs_cons (rg_name (i := 8) sc24.nd rfl (Or.inl rfl)) rgs_nil)))) (fun _ _ _ _ _ => rts_nil) (fun _ _ _ _ _ => (re_idx (re_var (pv 7)) (re_var (pv 5))))) (re_lst (ra_cons re_int ra_nil)))))
    (rss_one (rs_set (i := 3) sc24.nd rfl (Or.inl rfl) (re_bin oi_mul (re_var (pv 3)) (re_call (g_law_power T nd) (hr.mono (by omega)) hg (by rfl) T.m23 T.F23.kp T.b23 (ra_cons (re_var (pv 6)) (ra_cons (re_idx (re_var (pv 4)) (re_var (pv 5))) ra_nil)) (fun _ _ _ _ h => aCons_len (fun _ _ _ _ h => aCons_len (fun _ _ _ _ h => aNil_len h) _ _ _ _ h) _ _ _ _ h)))))))
    (rss_cons (rs_for rfl (ri_seq (re_var (pv 0))) (rg_tup (n := 2) rfl (rgs_cons (rg_name (i := 7) sc24.nd rfl (Or.inl rfl)) (rgs_cons (rg_name (i := 8) sc24.nd rfl (Or.inl rfl)) rgs_nil))) (rss_cons (rs_frz [4] (rs_for rfl (ri_zip3 (c := true) (by rfl) T.z_zip (ra_cons (re_var (pv 1)) (ra_cons (re_var (pv 4)) (ra_cons (re_var (pv 7)) ra_nil)))) (rg_tup (n := 3) rfl (rgs_cons (rg_name (i := 6) sc24.nd rfl (Or.inl rfl)) (rgs_cons (rg_name (i := 9) sc24.nd rfl (Or.inl rfl)) (rgs_cons (rg_name (i := 10) sc24.nd rfl (Or.inl rfl)) rgs_nil)))) (rss_one (rs_set (i := 8) sc24.nd rfl (Or.inl rfl) (re_bin oi_mul (re_var (pv 8)) (re_call (g_law_power T nd) (hr.mono (by omega)) hg (by rfl) T.m23 T.F23.kp T.b23 (ra_cons (re_var (pv 6)) (ra_cons (re_bin oi_sub (re_var (pv 9)) (re_var (pv 10))) ra_nil)) (fun _ _ _ _ h => aCons_len (fun _ _ _ _ h => aCons_len (fun _ _ _ _ h => aNil_len h) _ _ _ _ h) _ _ _ _ h)))))))
    (rss_one (rs_set (i := 2) sc24.nd rfl (Or.inl rfl) (re_bin oi_add (re_var (pv 2)) (re_var (pv 8)))))))
    (rss_one (rs_frz [2] (rs_ret (re_call (g_law_fraction T nd) (hr.mono (by omega)) hg (by rfl) T.m20 T.F20.kp T.b20 (ra_cons (re_var (pv 2)) (ra_cons (re_var (pv 3)) ra_nil)) (fun _ _ _ _ h => aCons_len (fun _ _ _ _ h => aCons_len (fun _ _ _ _ h => aNil_len h) _ _ _ _ h) _ _ _ _ h)))))))) : RSs _ _ b_law_mean_at)
theorem sc25 : FnScope ["source", "value", "odd", "k", "way"] ["source", "value", "odd"] (defScope (topS 25)) := ⟨rfl, rfl, rfl, by decide +kernel, rfl, by decide +kernel, by decide +kernel⟩
include nd in
theorem g_law_bent : ∀ n : Nat, FnG P w K mg base (2 + n) T.f25 T.d25 ["source", "value", "odd"] (spI K 3 (p_law_bent n))
  | 0 => fng_no
  | n + 1 => fng (k := 2 + n) T.F25 sc25 rfl fun cdv A outer s H hr hg => ((rss_cons (rs_if (rb_w (rw_and (rb_truth (re_isi (by rfl) T.z_isinstance (by rfl) T.z_int bt_int (re_var (pv 1)))) (rw_and (rb_not (rb_truth (re_isi (by rfl) T.z_isinstance (by rfl) T.z_bool bt_bool (re_var (pv 1))))) (rw_and1 (rb_cmp oi_gt (re_call (g_law_pick T nd) (hr.mono (by omega)) hg (by rfl) T.m18 T.F18.kp T.b18 (ra_cons (re_var (pv 0)) (ra_cons re_int ra_nil)) (fun _ _ _ _ h => aCons_len (fun _ _ _ _ h => aCons_len (fun _ _ _ _ h => aNil_len h) _ _ _ _ h) _ _ _ _ h)) re_int rfl))))) (rss_one (rs_ret (re_bin oi_add (re_var (pv 1)) (re_call (g_law_of T nd) (hr.mono (by omega)) hg (by rfl) T.m19 T.F19.kp T.b19 (ra_cons (re_var (pv 0)) (ra_cons (re_lst (ra_cons re_int (ra_cons (re_neg re_int) (ra_cons re_int ra_nil)))) ra_nil)) (fun _ _ _ _ h => aCons_len (fun _ _ _ _ h => aCons_len (fun _ _ _ _ h => aNil_len h) _ _ _ _ h) _ _ _ _ h))))) rss_nil)
    (rss_cons (rs_if (rb_w (rw_or (rb_not (rb_truth (re_isi (by rfl) T.z_isinstance (by rfl) T.z_tuple bt_tuple (re_var (pv 1))))) (rw_or (rb_cmp (oi_eqZ hr.units) (re_var (pv 1)) (re_tup ra_nil) rfl) (rw_or1 (rb_cmp (oi_eq hr.units) (re_call (g_law_pick T nd) (hr.mono (by omega)) hg (by rfl) T.m18 T.F18.kp T.b18 (ra_cons (re_var (pv 0)) (ra_cons re_int ra_nil)) (fun _ _ _ _ h => aCons_len (fun _ _ _ _ h => aCons_len (fun _ _ _ _ h => aNil_len h) _ _ _ _ h) _ _ _ _ h)) re_int rfl))))) (rss_one (rs_ret (re_call (g_law_of T nd) (hr.mono (by omega)) hg (by rfl) T.m19 T.F19.kp T.b19 (ra_cons (re_var (pv 0)) (ra_cons (re_var (pv 2)) ra_nil)) (fun _ _ _ _ h => aCons_len (fun _ _ _ _ h => aCons_len (fun _ _ _ _ h => aNil_len h) _ _ _ _ h) _ _ _ _ h)))) rss_nil)
    (rss_cons (rs_par2 (i := 3) (j := 4) rfl sc25.nd rfl rfl (by decide) rfl rfl (rp_cons (re_call (g_law_pick T nd) (hr.mono (by omega)) hg (by rfl) T.m18 T.F18.kp T.b18 (ra_cons (re_var (pv 0)) (ra_cons (re_c1B ci_len (by rfl) T.z_len bt_len (re_var (pv 1))) ra_nil)) (fun _ _ _ _ h => aCons_len (fun _ _ _ _ h => aCons_len (fun _ _ _ _ h => aNil_len h) _ _ _ _ h) _ _ _ _ h)) (rp_cons (re_call (g_law_pick T nd) (hr.mono (by omega)) hg (by rfl) T.m18 T.F18.kp T.b18 (ra_cons (re_var (pv 0)) (ra_cons re_int ra_nil)) (fun _ _ _ _ h => aCons_len (fun _ _ _ _ h => aCons_len (fun _ _ _ _ h => aNil_len h) _ _ _ _ h) _ _ _ _ h)) rp_nil)))
    (rss_cons (rs_if (rb_cmp oi_lt (re_var (pv 4)) re_int rfl) (rss_one (rs_ret (re_bin oi_add (re_bin oi_add (re_slice (re_var (pv 1)) ro_none (ro_some (re_var (pv 3)))) (re_tup (ra_cons (re_call (g_law_bent n) (hr.mono (by omega)) hg (by rfl) T.m25 T.F25.kp T.b25 (ra_cons (re_var (pv 0)) (ra_cons (re_idx (re_var (pv 1)) (re_var (pv 3))) (ra_cons (re_var (pv 2)) ra_nil))) (fun _ _ _ _ h => aCons_len (fun _ _ _ _ h => aCons_len (fun _ _ _ _ h => aCons_len (fun _ _ _ _ h => aNil_len h) _ _ _ _ h) _ _ _ _ h) _ _ _ _ h)) ra_nil))) (re_slice (re_var (pv 1)) (ro_some (re_bin oi_add (re_var (pv 3)) re_int)) ro_none)))) rss_nil)
    (rss_one (rs_ret (re_idx (re_lst (ra_cons (re_bin oi_add (re_slice (re_var (pv 1)) ro_none (ro_some (re_var (pv 3)))) (re_slice (re_var (pv 1)) (ro_some (re_bin oi_add (re_var (pv 3)) re_int)) ro_none)) (ra_cons (re_bin oi_add (re_slice (re_var (pv 1)) ro_none (ro_some (re_bin oi_add (re_var (pv 3)) re_int))) (re_slice (re_var (pv 1)) (ro_some (re_var (pv 3))) ro_none)) (ra_cons (re_c1T ci_list (by rfl) T.z_list bt_list (re_var (pv 1))) ra_nil)))) (re_bin oi_sub (re_var (pv 4)) re_int)))))))) : RSs _ _ (b_law_bent (p_law_bent n)))
theorem sc26 : FnScope ["value"] ["value"] (defScope (topS 26)) := ⟨rfl, rfl, rfl, by decide +kernel, rfl, by decide +kernel, by decide +kernel⟩
include nd in
theorem g_law_is_int : FnG P w K mg base 1 T.f26 T.d26 ["value"] (spI K 1 p_law_is_int) := fng T.F26 sc26 rfl fun cdv A outer s H hr hg => ((rss_one (rs_ret (re_and (re_isi (by rfl) T.z_isinstance (by rfl) T.z_int bt_int (re_var (pv 0))) (re_one (re_not (re_isi (by rfl) T.z_isinstance (by rfl) T.z_bool bt_bool (re_var (pv 0)))))))) : RSs _ _ b_law_is_int)
theorem sc27 : FnScope ["kinds", "value", "member", "p", "i"] ["kinds", "value"] (defScope (topS 27)) := ⟨rfl, rfl, rfl, by decide +kernel, rfl, by decide +kernel, by decide +kernel⟩
include nd in
theorem g_law_is_mean : FnG P w K mg base 2 T.f27 T.d27 ["kinds", "value"] (spI K 2 p_law_is_mean) := fng T.F27 sc27 rfl fun cdv A outer s H hr hg => ((rss_cons (rs_if (rb_not (rb_truth (re_isi (by rfl) T.z_isinstance (by rfl) T.z_tuple bt_tuple (re_var (pv 1))))) (rss_one (rs_ret re_bl)) rss_nil)
    (rss_cons (rs_for rfl (ri_seq (re_var (pv 1))) (rg_name (i := 2) sc27.nd rfl (Or.inl rfl)) (rss_cons (rs_if (rb_w (rw_or (rb_not (rb_truth (re_isi (by rfl) T.z_isinstance (by rfl) T.z_tuple bt_tuple (re_var (pv 2))))) (rw_or (rb_cmp (oi_ne hr.units) (re_c1B ci_len (by rfl) T.z_len bt_len (re_var (pv 2))) re_int rfl) (rw_or1 (rb_not (rb_truth (re_isi (by rfl) T.z_isinstance (by rfl) T.z_tuple bt_tuple (re_idx (re_var (pv 2)) re_int)))))))) (rss_one (rs_ret re_bl)) rss_nil)
    (rss_cons (rs_if (rb_w (rw_or (rb_cmp (oi_ne hr.units) (re_c1B ci_len (by rfl) T.z_len bt_len (re_idx (re_var (pv 2)) re_int)) (re_var (pv 0)) rfl) (rw_or1 (rb_cmp (oi_neE hr.units) (re_comp (own := [("p", 3)]) (vs := [3]) rfl sc27.nd (ri_seqL (re_idx (re_var (pv 2)) re_int)) (blkOk_by (by kernel_rfl)) rfl (by decide) (fun _ _ _ _ _ => (rg_name (i := 3) sc27.nd rfl (Or.inl rfl))) (fun _ _ _ _ _ => (rts_one (rb_w (rw_or (rb_not (rb_truth (re_call (g_law_is_int T nd) (hr.mono (by omega)) hg (by rfl) T.m26 T.F26.kp T.b26 (ra_cons (re_var (pv 3)) ra_nil) (fun _ _ _ _ h => aCons_len (fun _ _ _ _ h => aNil_len h) _ _ _ _ h)))) (rw_or1 (rb_cmp oi_lt (re_var (pv 3)) re_int rfl)))))) (fun _ _ _ _ _ => (re_var (pv 3)))) (re_lst ra_nil) rfl)))) (rss_one (rs_ret re_bl)) rss_nil)
    (rss_one (rs_if (rb_w (rw_or (rb_not (rb_truth (re_call (g_law_is_int T nd) (hr.mono (by omega)) hg (by rfl) T.m26 T.F26.kp T.b26 (ra_cons (re_idx (re_var (pv 2)) re_int) ra_nil) (fun _ _ _ _ h => aCons_len (fun _ _ _ _ h => aNil_len h) _ _ _ _ h)))) (rw_or1 (rb_cmp (oi_eq hr.units) (re_idx (re_var (pv 2)) re_int) re_int rfl)))) (rss_one (rs_ret re_bl)) rss_nil)))))
    (rss_one (rs_ret (re_cmp (oi_eqE hr.units) (re_comp (own := [("i", 4)]) (vs := [4]) rfl sc27.nd (ri_rng2 (c := false) (by rfl) T.z_range (ra_cons re_int (ra_cons (re_c1B ci_len (by rfl) T.z_len bt_len (re_var (pv 1))) ra_nil))) (blkOk_by (by kernel_rfl)) rfl (by decide) (fun _ _ _ _ _ => (rg_name (i := 4) sc27.nd rfl (Or.inl rfl))) (fun _ _ _ _ _ => (rts_one (rb_not (rb_cmp (oi_ltT hr.units) (re_idx (re_idx (re_var (pv 1)) (re_bin oi_sub (re_var (pv 4)) re_int)) re_int) (re_idx (re_idx (re_var (pv 1)) (re_var (pv 4))) re_int) rfl)))) (fun _ _ _ _ _ => (re_var (pv 4)))) (re_lst ra_nil) rfl))))) : RSs _ _ b_law_is_mean)
theorem sc28 : FnScope ["value", "x"] ["value"] (defScope (topS 28)) := ⟨rfl, rfl, rfl, by decide +kernel, rfl, by decide +kernel, by decide +kernel⟩
include nd in
theorem g_law_is_fraction : FnG P w K mg base 2 T.f28 T.d28 ["value"] (spI K 1 p_law_is_fraction) := fng T.F28 sc28 rfl fun cdv A outer s H hr hg => ((rss_cons (rs_if (rb_w (rw_or (rb_not (rb_truth (re_isi (by rfl) T.z_isinstance (by rfl) T.z_tuple bt_tuple (re_var (pv 0))))) (rw_or (rb_cmp (oi_ne hr.units) (re_c1B ci_len (by rfl) T.z_len bt_len (re_var (pv 0))) re_int rfl) (rw_or1 (rb_cmp (oi_neE hr.units) (re_comp (own := [("x", 1)]) (vs := [1]) rfl sc28.nd (ri_seqL (re_var (pv 0))) (blkOk_by (by kernel_rfl)) rfl (by decide) (fun _ _ _ _ _ => (rg_name (i := 1) sc28.nd rfl (Or.inl rfl))) (fun _ _ _ _ _ => (rts_one (rb_not (rb_truth (re_call (g_law_is_int T nd) (hr.mono (by omega)) hg (by rfl) T.m26 T.F26.kp T.b26 (ra_cons (re_var (pv 1)) ra_nil) (fun _ _ _ _ h => aCons_len (fun _ _ _ _ h => aNil_len h) _ _ _ _ h)))))) (fun _ _ _ _ _ => (re_var (pv 1)))) (re_lst ra_nil) rfl))))) (rss_one (rs_ret re_bl)) rss_nil)
    (rss_one (rs_ret (re_and (re_cmp oi_gt (re_idx (re_var (pv 0)) re_int) re_int rfl) (re_one (re_cmp (oi_eq hr.units) (re_call (g_law_fraction T nd) (hr.mono (by omega)) hg (by rfl) T.m20 T.F20.kp T.b20 (ra_cons (re_idx (re_var (pv 0)) re_int) (ra_cons (re_idx (re_var (pv 0)) re_int) ra_nil)) (fun _ _ _ _ h => aCons_len (fun _ _ _ _ h => aCons_len (fun _ _ _ _ h => aNil_len h) _ _ _ _ h) _ _ _ _ h)) (re_var (pv 0)) rfl)))))) : RSs _ _ b_law_is_fraction)
theorem sc33 : FnScope ["rows", "some", "found", "row", "late"] ["rows", "some"] (defScope (topS 33)) := ⟨rfl, rfl, rfl, by decide +kernel, rfl, by decide +kernel, by decide +kernel⟩
include nd in
theorem g_law_each_behind : FnG P w K mg base 1 T.f33 T.d33 ["rows", "some"] (spI K 2 p_law_each_behind) := fng T.F33 sc33 rfl fun cdv A outer s H hr hg => ((rss_cons (rs_set (i := 2) sc33.nd rfl (Or.inl rfl) (re_lst ra_nil))
    (rss_cons (rs_for rfl (ri_seq (re_var (pv 0))) (rg_name (i := 3) sc33.nd rfl (Or.inr rfl)) (rss_one (rs_ext (pv 2) (re_comp (own := [("late", 4)]) (vs := [4]) rfl sc33.nd (ri_seqL (re_var (pv 1))) (blkOk_by (by kernel_rfl)) rfl (by decide) (fun _ _ _ _ _ => (rg_name (i := 4) sc33.nd rfl (Or.inl rfl))) (fun _ _ _ _ _ => rts_nil) (fun _ _ _ _ _ => (re_bin oi_add (re_var (pv 3)) (re_tup (ra_cons (re_var (pv 4)) ra_nil))))))))
    (rss_one (rs_retV (pv 2))))) : RSs _ _ b_law_each_behind)
theorem sc29 : FnScope ["n", "many", "rows", "turn", "row", "thing"] ["n", "many"] (defScope (topS 29)) := ⟨rfl, rfl, rfl, by decide +kernel, rfl, by decide +kernel, by decide +kernel⟩
include nd in
theorem g_law_rows_unlike : FnG P w K mg base 2 T.f29 T.d29 ["n", "many"] (spI K 2 p_law_rows_unlike) := fng T.F29 sc29 rfl fun cdv A outer s H hr hg => ((rss_cons (rs_set (i := 2) sc29.nd rfl (Or.inl rfl) (re_lst (ra_cons (re_tup ra_nil) ra_nil)))
    (rss_cons (rs_for rfl (ri_rng1 (c := true) (by rfl) T.z_range (ra_cons (re_var (pv 1)) ra_nil)) (rg_name (i := 3) sc29.nd rfl (Or.inl rfl)) (rss_one (rs_frz [2] (rs_set (i := 2) sc29.nd rfl (Or.inl rfl) (re_call (g_law_each_behind T nd) (hr.mono (by omega)) hg (by rfl) T.m33 T.F33.kp T.b33 (ra_cons (re_var (pv 2)) (ra_cons (re_lrng1 rfl (by rfl) T.z_list (by rfl) T.z_range (re_var (pv 0))) ra_nil)) (fun _ _ _ _ h => aCons_len (fun _ _ _ _ h => aCons_len (fun _ _ _ _ h => aNil_len h) _ _ _ _ h) _ _ _ _ h))))))
    (rss_one (rs_ret (re_tup (ra_cons (re_c1B ci_len (by rfl) T.z_len bt_len (re_comp (own := [("row", 4)]) (vs := [4]) rfl sc29.nd (ri_seqL (re_var (pv 2))) (blkOk_by (by kernel_rfl)) rfl (by decide) (fun _ _ _ _ _ => (rg_name (i := 4) sc29.nd rfl (Or.inl rfl))) (fun _ _ _ _ _ => (rts_one (rb_cmp (oi_eq hr.units) (re_c1B ci_len (by rfl) T.z_len bt_len (re_c1T (ci_dictP rfl) (by rfl) T.z_dict bt_dict (re_comp (own := [("thing", 5)]) (vs := [5]) rfl sc29.nd (ri_seqL (re_var (pv 4))) (blkOk_by (by kernel_rfl)) rfl (by decide) (fun _ _ _ _ _ => (rg_name (i := 5) sc29.nd rfl (Or.inl rfl))) (fun _ _ _ _ _ => rts_nil) (fun _ _ _ _ _ => (re_tup (ra_cons (re_var (pv 5)) (ra_cons re_int ra_nil))))))) (re_var (pv 1)) rfl))) (fun _ _ _ _ _ => (re_var (pv 4))))) (ra_cons (re_c1B ci_len (by rfl) T.z_len bt_len (re_var (pv 2))) ra_nil))))))) : RSs _ _ b_law_rows_unlike)
theorem sc30 : FnScope ["source", "kinds", "k", "many", "told", "others", "p", "c", "i", "x", "n", "due", "sizes", "kind", "unlike", "every"] ["source"] (defScope (topS 30)) := ⟨rfl, rfl, rfl, by decide +kernel, rfl, by decide +kernel, by decide +kernel⟩
include nd in
theorem g_law_falling_right : FnG P w K mg base 4 T.f30 T.d30 ["source"] (spI K 1 p_law_falling_right) := fng T.F30 sc30 rfl fun cdv A outer s H hr hg => ((rss_cons (rs_set (i := 1) sc30.nd rfl (Or.inl rfl) (re_bin oi_add re_int (re_call (g_law_pick T nd) (hr.mono (by omega)) hg (by rfl) T.m18 T.F18.kp T.b18 (ra_cons (re_var (pv 0)) (ra_cons re_int ra_nil)) (fun _ _ _ _ h => aCons_len (fun _ _ _ _ h => aCons_len (fun _ _ _ _ h => aNil_len h) _ _ _ _ h) _ _ _ _ h))))
    (rss_cons (rs_asg (re_tup (ra_cons (re_call (g_law_pick T nd) (hr.mono (by omega)) hg (by rfl) T.m18 T.F18.kp T.b18 (ra_cons (re_var (pv 0)) (ra_cons (re_var (pv 1)) ra_nil)) (fun _ _ _ _ h => aCons_len (fun _ _ _ _ h => aCons_len (fun _ _ _ _ h => aNil_len h) _ _ _ _ h) _ _ _ _ h)) (ra_cons (re_call (g_law_pick T nd) (hr.mono (by omega)) hg (by rfl) T.m18 T.F18.kp T.b18 (ra_cons (re_var (pv 0)) (ra_cons (re_if (rb_cmp (oi_eq hr.units) (re_call (g_law_pick T nd) (hr.mono (by omega)) hg (by rfl) T.m18 T.F18.kp T.b18 (ra_cons (re_var (pv 0)) (ra_cons re_int ra_nil)) (fun _ _ _ _ h => aCons_len (fun _ _ _ _ h => aCons_len (fun _ _ _ _ h => aNil_len h) _ _ _ _ h) _ _ _ _ h)) re_int rfl) re_int re_int) ra_nil)) (fun _ _ _ _ h => aCons_len (fun _ _ _ _ h => aCons_len (fun _ _ _ _ h => aNil_len h) _ _ _ _ h) _ _ _ _ h)) ra_nil))) (rg_tup (n := 2) rfl (rgs_cons (rg_name (i := 2) sc30.nd rfl (Or.inr rfl)) (rgs_cons (rg_name (i := 3) sc30.nd rfl (Or.inl rfl)) rgs_nil))))
    (rss_cons (rs_set (i := 4) sc30.nd rfl (Or.inl rfl) (re_call (g_falling T nd) (hr.mono (by omega)) hg (by rfl) T.m11 T.F11.kp T.b11 (ra_cons (re_var (pv 1)) (ra_cons (re_var (pv 2)) (ra_cons (re_var (pv 3)) ra_nil))) (fun _ _ _ _ h => aCons_len (fun _ _ _ _ h => aCons_len (fun _ _ _ _ h => aCons_len (fun _ _ _ _ h => aNil_len h) _ _ _ _ h) _ _ _ _ h) _ _ _ _ h)))
    (rss_cons (rs_setComp (i := 5) (own := [("p", 6), ("c", 7)]) (vs := [6, 7]) rfl sc30.nd rfl rfl (sw_true rfl rfl rfl (by decide +kernel)) (ri_seqL (re_var (pv 4))) (blkOk_by (by kernel_rfl)) rfl (by decide) (fun _ _ _ _ _ => (rg_tup (n := 2) rfl (rgs_cons (rg_name (i := 6) sc30.nd rfl (Or.inl rfl)) (rgs_cons (rg_name (i := 7) sc30.nd rfl (Or.inl rfl)) rgs_nil)))) (fun _ _ _ _ _ => (rts_one (rb_cmp (oi_neE hr.units) (re_comp (own := [("i", 8), ("x", 9)]) (vs := [8, 9]) rfl sc30.nd (ri_enum (c := false) (by rfl) T.z_enumerate (ra_cons (re_var (pv 6)) ra_nil)) (blkOk_by (by kernel_rfl)) rfl (by decide) (fun _ _ _ _ _ => (rg_tup (n := 2) rfl (rgs_cons (rg_name (i := 8) sc30.nd rfl (Or.inl rfl)) (rgs_cons (rg_name (i := 9) sc30.nd rfl (Or.inl rfl)) rgs_nil)))) (fun _ _ _ _ _ => (rts_one (rb_w (rw_and (rb_cmp oi_gt (re_var (pv 9)) re_int rfl) (rw_and1 (rb_cmp (oi_ne hr.units) (re_var (pv 8)) (re_var (pv 2)) rfl)))))) (fun _ _ _ _ _ => (re_var (pv 9)))) (re_lst ra_nil) rfl))) (fun _ _ _ _ _ => (re_var (pv 6))))
    (rss_cons (rs_if (rb_w (rw_or (rb_not (rb_truth (re_call (g_law_is_mean T nd) (hr.mono (by omega)) hg (by rfl) T.m27 T.F27.kp T.b27 (ra_cons (re_var (pv 1)) (ra_cons (re_var (pv 4)) ra_nil)) (fun _ _ _ _ h => aCons_len (fun _ _ _ _ h => aCons_len (fun _ _ _ _ h => aNil_len h) _ _ _ _ h) _ _ _ _ h)))) (rw_or1 (rb_cmp (oi_neE hr.units) (re_var (pv 5)) (re_lst ra_nil) rfl)))) (rss_one (rs_ret re_bl)) rss_nil)
    (rss_cons (rs_for rfl (ri_seq (re_bin oi_add (re_lrng2 rfl (by rfl) T.z_list (by rfl) T.z_range re_int (re_bin oi_add (re_var (pv 3)) re_int)) (re_lst (ra_cons (re_bin oi_add re_int (re_call (g_law_pick T nd) (hr.mono (by omega)) hg (by rfl) T.m18 T.F18.kp T.b18 (ra_cons (re_var (pv 0)) (ra_cons (re_bin oi_pow re_int re_int) ra_nil)) (fun _ _ _ _ h => aCons_len (fun _ _ _ _ h => aCons_len (fun _ _ _ _ h => aNil_len h) _ _ _ _ h) _ _ _ _ h))) ra_nil)))) (rg_name (i := 10) sc30.nd rfl (Or.inr rfl)) (rss_cons (rs_set (i := 11) sc30.nd rfl (Or.inl rfl) (re_tup (ra_cons re_int (ra_cons re_int ra_nil))))
    (rss_cons (rs_for rfl (ri_rng1 (c := true) (by rfl) T.z_range (ra_cons (re_var (pv 3)) ra_nil)) (rg_name (i := 8) sc30.nd rfl (Or.inl rfl)) (rss_one (rs_set (i := 11) sc30.nd rfl (Or.inl rfl) (re_call (g_law_by T nd) (hr.mono (by omega)) hg (by rfl) T.m21 T.F21.kp T.b21 (ra_cons (re_var (pv 11)) (ra_cons (re_call (g_law_fraction T nd) (hr.mono (by omega)) hg (by rfl) T.m20 T.F20.kp T.b20 (ra_cons (re_bin oi_sub (re_var (pv 10)) (re_var (pv 8))) (ra_cons (re_var (pv 10)) ra_nil)) (fun _ _ _ _ h => aCons_len (fun _ _ _ _ h => aCons_len (fun _ _ _ _ h => aNil_len h) _ _ _ _ h) _ _ _ _ h)) ra_nil)) (fun _ _ _ _ h => aCons_len (fun _ _ _ _ h => aCons_len (fun _ _ _ _ h => aNil_len h) _ _ _ _ h) _ _ _ _ h)))))
    (rss_cons (rs_set (i := 12) sc30.nd rfl (Or.inl rfl) (re_c1T ci_tuple (by rfl) T.z_tuple bt_tuple (re_comp (own := [("kind", 13)]) (vs := [13]) rfl sc30.nd (ri_rng1 (c := false) (by rfl) T.z_range (ra_cons (re_var (pv 1)) ra_nil)) (blkOk_by (by kernel_rfl)) rfl (by decide) (fun _ _ _ _ _ => (rg_name (i := 13) sc30.nd rfl (Or.inl rfl))) (fun _ _ _ _ _ => rts_nil) (fun _ _ _ _ _ => (re_if (rb_cmp (oi_eq hr.units) (re_var (pv 13)) (re_var (pv 2)) rfl) (re_var (pv 10)) (re_bin oi_add re_int (re_call (g_law_pick T nd) (hr.mono (by omega)) hg (by rfl) T.m18 T.F18.kp T.b18 (ra_cons (re_var (pv 0)) (ra_cons re_int ra_nil)) (fun _ _ _ _ h => aCons_len (fun _ _ _ _ h => aCons_len (fun _ _ _ _ h => aNil_len h) _ _ _ _ h) _ _ _ _ h))))))))
    (rss_cons (rs_if (rb_w (rw_or (rb_cmp (oi_ne hr.units) (re_c1B (ci_reprX hr.units hg nd) (by rfl) T.z_repr bt_repr (re_call (g_mean_at T nd) (hr.mono (by omega)) hg (by rfl) T.m14 T.F14.kp T.b14 (ra_cons (re_var (pv 4)) (ra_cons (re_var (pv 12)) ra_nil)) (fun _ _ _ _ h => aCons_len (fun _ _ _ _ h => aCons_len (fun _ _ _ _ h => aNil_len h) _ _ _ _ h) _ _ _ _ h))) (re_c1B (ci_reprX hr.units hg nd) (by rfl) T.z_repr bt_repr (re_var (pv 11))) rfl) (rw_or1 (rb_cmp (oi_ne hr.units) (re_c1B (ci_reprX hr.units hg nd) (by rfl) T.z_repr bt_repr (re_call (g_law_mean_at T nd) (hr.mono (by omega)) hg (by rfl) T.m24 T.F24.kp T.b24 (ra_cons (re_var (pv 4)) (ra_cons (re_var (pv 12)) ra_nil)) (fun _ _ _ _ h => aCons_len (fun _ _ _ _ h => aCons_len (fun _ _ _ _ h => aNil_len h) _ _ _ _ h) _ _ _ _ h))) (re_c1B (ci_reprX hr.units hg nd) (by rfl) T.z_repr bt_repr (re_var (pv 11))) rfl)))) (rss_one (rs_ret re_bl)) rss_nil)
    (rss_cons (rs_asg (re_if (rb_w (rw_and (rb_cmp oi_lt (re_var (pv 10)) re_int rfl) (rw_and1 (rb_cmp oi_lt (re_var (pv 3)) re_int rfl)))) (re_call (g_law_rows_unlike T nd) (hr.mono (by omega)) hg (by rfl) T.m29 T.F29.kp T.b29 (ra_cons (re_var (pv 10)) (ra_cons (re_var (pv 3)) ra_nil)) (fun _ _ _ _ h => aCons_len (fun _ _ _ _ h => aCons_len (fun _ _ _ _ h => aNil_len h) _ _ _ _ h) _ _ _ _ h)) (re_var (pv 11))) (rg_tup (n := 2) rfl (rgs_cons (rg_name (i := 14) sc30.nd rfl (Or.inl rfl)) (rgs_cons (rg_name (i := 15) sc30.nd rfl (Or.inl rfl)) rgs_nil))))
    (rss_one (rs_frz [14, 15] (rs_if (rb_cmp (oi_ne hr.units) (re_call (g_law_fraction T nd) (hr.mono (by omega)) hg (by rfl) T.m20 T.F20.kp T.b20 (ra_cons (re_var (pv 14)) (ra_cons (re_var (pv 15)) ra_nil)) (fun _ _ _ _ h => aCons_len (fun _ _ _ _ h => aCons_len (fun _ _ _ _ h => aNil_len h) _ _ _ _ h) _ _ _ _ h)) (re_var (pv 11)) rfl) (rss_one (rs_ret re_bl)) rss_nil)))))))))
    (rss_one (rs_ret (re_cmp (oi_eq hr.units) (re_c1B ci_len (by rfl) T.z_len bt_len (re_var (pv 4))) (re_if (rb_cmp (oi_eq hr.units) (re_var (pv 3)) re_int rfl) re_int (re_var (pv 3))) rfl))))))))) : RSs _ _ b_law_falling_right)
theorem sc31 : FnScope ["source", "kinds", "mean", "k", "greatest", "kind", "powers", "number", "sizes", "bottom", "row", "told", "n", "total", "i", "c", "late"] ["source"] (defScope (topS 31)) := ⟨rfl, rfl, rfl, by decide +kernel, rfl, by decide +kernel, by decide +kernel⟩
include nd in
theorem g_law_row_right : FnG P w K mg base 4 T.f31 T.d31 ["source"] (spI K 1 p_law_row_right) := fng T.F31 sc31 rfl fun cdv A outer s H hr hg => ((rss_cons (rs_set (i := 1) sc31.nd rfl (Or.inl rfl) (re_bin oi_add re_int (re_call (g_law_pick T nd) (hr.mono (by omega)) hg (by rfl) T.m18 T.F18.kp T.b18 (ra_cons (re_var (pv 0)) (ra_cons re_int ra_nil)) (fun _ _ _ _ h => aCons_len (fun _ _ _ _ h => aCons_len (fun _ _ _ _ h => aNil_len h) _ _ _ _ h) _ _ _ _ h))))
    (rss_cons (rs_asg (re_tup (ra_cons (re_call (g_law_drawn_mean T nd) (hr.mono (by omega)) hg (by rfl) T.m22 T.F22.kp T.b22 (ra_cons (re_var (pv 0)) (ra_cons (re_var (pv 1)) (ra_cons (re_call (g_law_of T nd) (hr.mono (by omega)) hg (by rfl) T.m19 T.F19.kp T.b19 (ra_cons (re_var (pv 0)) (ra_cons (re_lst (ra_cons re_int (ra_cons re_int (ra_cons re_int ra_nil)))) ra_nil)) (fun _ _ _ _ h => aCons_len (fun _ _ _ _ h => aCons_len (fun _ _ _ _ h => aNil_len h) _ _ _ _ h) _ _ _ _ h)) (ra_cons re_int ra_nil)))) (fun _ _ _ _ h => aCons_len (fun _ _ _ _ h => aCons_len (fun _ _ _ _ h => aCons_len (fun _ _ _ _ h => aCons_len (fun _ _ _ _ h => aNil_len h) _ _ _ _ h) _ _ _ _ h) _ _ _ _ h) _ _ _ _ h)) (ra_cons (re_call (g_law_pick T nd) (hr.mono (by omega)) hg (by rfl) T.m18 T.F18.kp T.b18 (ra_cons (re_var (pv 0)) (ra_cons (re_var (pv 1)) ra_nil)) (fun _ _ _ _ h => aCons_len (fun _ _ _ _ h => aCons_len (fun _ _ _ _ h => aNil_len h) _ _ _ _ h) _ _ _ _ h)) ra_nil))) (rg_tup (n := 2) rfl (rgs_cons (rg_name (i := 2) sc31.nd rfl (Or.inr rfl)) (rgs_cons (rg_name (i := 3) sc31.nd rfl (Or.inr rfl)) rgs_nil))))
    (rss_cons (rs_setComp (i := 4) (own := [("kind", 5)]) (vs := [5]) rfl sc31.nd rfl rfl (sw_true rfl rfl rfl (by decide +kernel)) (ri_rng1 (c := false) (by rfl) T.z_range (ra_cons (re_var (pv 1)) ra_nil)) (blkOk_by (by kernel_rfl)) rfl (by decide) (fun _ _ _ _ _ => (rg_name (i := 5) sc31.nd rfl (Or.inr rfl))) (fun _ _ _ _ _ => rts_nil) (fun _ _ _ _ _ => (re_c1B (ci_max rfl) (by rfl) T.z_max bt_max (re_bin oi_add (re_comp (own := [("powers", 6), ("number", 7)]) (vs := [6, 7]) rfl sc31.nd (ri_seqL (re_var (pv 2))) (blkOk_by (by kernel_rfl)) rfl (by decide) (fun _ _ _ _ _ => (rg_tup (n := 2) rfl (rgs_cons (rg_name (i := 6) sc31.nd rfl (Or.inl rfl)) (rgs_cons (rg_name (i := 7) sc31.nd rfl (Or.inl rfl)) rgs_nil)))) (fun _ _ _ _ _ => rts_nil) (fun _ _ _ _ _ => (re_idx (re_var (pv 6)) (re_var (pv 5))))) (re_lst (ra_cons re_int ra_nil))))))
    (rss_cons (rs_set (i := 8) sc31.nd rfl (Or.inr rfl) (re_c1T ci_tuple (by rfl) T.z_tuple bt_tuple (re_comp (own := [("kind", 5)]) (vs := [5]) rfl sc31.nd (ri_rng1 (c := false) (by rfl) T.z_range (ra_cons (re_var (pv 1)) ra_nil)) (blkOk_by (by kernel_rfl)) rfl (by decide) (fun _ _ _ _ _ => (rg_name (i := 5) sc31.nd rfl (Or.inl rfl))) (fun _ _ _ _ _ => rts_nil) (fun _ _ _ _ _ => (re_bin oi_add re_int (re_call (g_law_pick T nd) (hr.mono (by omega)) hg (by rfl) T.m18 T.F18.kp T.b18 (ra_cons (re_var (pv 0)) (ra_cons (re_call (g_law_of T nd) (hr.mono (by omega)) hg (by rfl) T.m19 T.F19.kp T.b19 (ra_cons (re_var (pv 0)) (ra_cons (re_lst (ra_cons re_int (ra_cons re_int (ra_cons (re_bin oi_pow re_int re_int) ra_nil)))) ra_nil)) (fun _ _ _ _ h => aCons_len (fun _ _ _ _ h => aCons_len (fun _ _ _ _ h => aNil_len h) _ _ _ _ h) _ _ _ _ h)) ra_nil)) (fun _ _ _ _ h => aCons_len (fun _ _ _ _ h => aCons_len (fun _ _ _ _ h => aNil_len h) _ _ _ _ h) _ _ _ _ h)))))))
    (rss_cons (rs_par2 (i := 9) (j := 10) rfl sc31.nd rfl rfl (by decide) rfl rfl (rp_cons re_int (rp_cons (re_bin oi_mul (re_lst (ra_cons re_int ra_nil)) (re_bin oi_add (re_idx (re_var (pv 4)) (re_var (pv 3))) re_int)) rp_nil)))
    (rss_cons (rs_for rfl (ri_rng1 (c := true) (by rfl) T.z_range (ra_cons (re_var (pv 1)) ra_nil)) (rg_name (i := 5) sc31.nd rfl (Or.inl rfl)) (rss_one (rs_set (i := 9) sc31.nd rfl (Or.inl rfl) (re_bin oi_mul (re_var (pv 9)) (re_if (rb_cmp (oi_ne hr.units) (re_var (pv 5)) (re_var (pv 3)) rfl) (re_call (g_law_power T nd) (hr.mono (by omega)) hg (by rfl) T.m23 T.F23.kp T.b23 (ra_cons (re_idx (re_var (pv 8)) (re_var (pv 5))) (ra_cons (re_idx (re_var (pv 4)) (re_var (pv 5))) ra_nil)) (fun _ _ _ _ h => aCons_len (fun _ _ _ _ h => aCons_len (fun _ _ _ _ h => aNil_len h) _ _ _ _ h) _ _ _ _ h)) re_int)))))
    (rss_cons (rs_for rfl (ri_seq (re_var (pv 2))) (rg_tup (n := 2) rfl (rgs_cons (rg_name (i := 6) sc31.nd rfl (Or.inl rfl)) (rgs_cons (rg_name (i := 7) sc31.nd rfl (Or.inl rfl)) rgs_nil))) (rss_cons (rs_for rfl (ri_rng1 (c := true) (by rfl) T.z_range (ra_cons (re_var (pv 1)) ra_nil)) (rg_name (i := 5) sc31.nd rfl (Or.inl rfl)) (rss_one (rs_set (i := 7) sc31.nd rfl (Or.inl rfl) (re_bin oi_mul (re_var (pv 7)) (re_if (rb_cmp (oi_ne hr.units) (re_var (pv 5)) (re_var (pv 3)) rfl) (re_call (g_law_power T nd) (hr.mono (by omega)) hg (by rfl) T.m23 T.F23.kp T.b23 (ra_cons (re_idx (re_var (pv 8)) (re_var (pv 5))) (ra_cons (re_bin oi_sub (re_idx (re_var (pv 4)) (re_var (pv 5))) (re_idx (re_var (pv 6)) (re_var (pv 5)))) ra_nil)) (fun _ _ _ _ h => aCons_len (fun _ _ _ _ h => aCons_len (fun _ _ _ _ h => aNil_len h) _ _ _ _ h) _ _ _ _ h)) re_int)))))
    (rss_one (rs_lput (i := 10) (pv 10) (re_bin oi_sub (re_idx (re_var (pv 4)) (re_var (pv 3))) (re_idx (re_var (pv 6)) (re_var (pv 3)))) (re_bin oi_add (re_idx (re_var (pv 10)) (re_bin oi_sub (re_idx (re_var (pv 4)) (re_var (pv 3))) (re_idx (re_var (pv 6)) (re_var (pv 3))))) (re_var (pv 7)))))))
    (rss_cons (rs_set (i := 11) sc31.nd rfl (Or.inl rfl) (re_call (g_mean_row T nd) (hr.mono (by omega)) hg (by rfl) T.m15 T.F15.kp T.b15 (ra_cons (re_var (pv 2)) (ra_cons (re_var (pv 3)) (ra_cons (re_var (pv 8)) ra_nil))) (fun _ _ _ _ h => aCons_len (fun _ _ _ _ h => aCons_len (fun _ _ _ _ h => aCons_len (fun _ _ _ _ h => aNil_len h) _ _ _ _ h) _ _ _ _ h) _ _ _ _ h)))
    (rss_cons (rs_if (rb_cmp (oi_ne hr.units) (re_c1B (ci_reprX hr.units hg nd) (by rfl) T.z_repr bt_repr (re_lst (ra_cons (re_var (pv 11)) (ra_cons (re_call (g_greatest_powers T nd) (hr.mono (by omega)) hg (by rfl) T.m12 T.F12.kp T.b12 (ra_cons (re_var (pv 1)) (ra_cons (re_var (pv 2)) ra_nil)) (fun _ _ _ _ h => aCons_len (fun _ _ _ _ h => aCons_len (fun _ _ _ _ h => aNil_len h) _ _ _ _ h) _ _ _ _ h)) ra_nil)))) (re_c1B (ci_reprX hr.units hg nd) (by rfl) T.z_repr bt_repr (re_lst (ra_cons (re_tup (ra_cons (re_c1T ci_tuple (by rfl) T.z_tuple bt_tuple (re_var (pv 10))) (ra_cons (re_idx (re_var (pv 4)) (re_var (pv 3))) (ra_cons (re_var (pv 9)) ra_nil)))) (ra_cons (re_c1T ci_tuple (by rfl) T.z_tuple bt_tuple (re_var (pv 4))) ra_nil)))) rfl) (rss_one (rs_ret re_bl)) rss_nil)
    (rss_cons (rs_asg (re_tup (ra_cons (re_bin oi_add re_int (re_call (g_law_pick T nd) (hr.mono (by omega)) hg (by rfl) T.m18 T.F18.kp T.b18 (ra_cons (re_var (pv 0)) (ra_cons (re_bin oi_pow re_int re_int) ra_nil)) (fun _ _ _ _ h => aCons_len (fun _ _ _ _ h => aCons_len (fun _ _ _ _ h => aNil_len h) _ _ _ _ h) _ _ _ _ h))) (ra_cons re_int ra_nil))) (rg_tup (n := 2) rfl (rgs_cons (rg_name (i := 12) sc31.nd rfl (Or.inr rfl)) (rgs_cons (rg_name (i := 13) sc31.nd rfl (Or.inl rfl)) rgs_nil))))
    (rss_cons (rs_for rfl (ri_enum (c := true) (by rfl) T.z_enumerate (ra_cons (re_idx (re_var (pv 11)) re_int) ra_nil)) (rg_tup (n := 2) rfl (rgs_cons (rg_name (i := 14) sc31.nd rfl (Or.inl rfl)) (rgs_cons (rg_name (i := 15) sc31.nd rfl (Or.inl rfl)) rgs_nil))) (rss_one (rs_set (i := 13) sc31.nd rfl (Or.inl rfl) (re_bin oi_add (re_var (pv 13)) (re_bin oi_mul (re_var (pv 15)) (re_call (g_law_power T nd) (hr.mono (by omega)) hg (by rfl) T.m23 T.F23.kp T.b23 (ra_cons (re_var (pv 12)) (ra_cons (re_var (pv 14)) ra_nil)) (fun _ _ _ _ h => aCons_len (fun _ _ _ _ h => aCons_len (fun _ _ _ _ h => aNil_len h) _ _ _ _ h) _ _ _ _ h)))))))
    (rss_cons (rs_set (i := 16) sc31.nd rfl (Or.inl rfl) (re_c1T ci_tuple (by rfl) T.z_tuple bt_tuple (re_comp (own := [("kind", 5)]) (vs := [5]) rfl sc31.nd (ri_rng1 (c := false) (by rfl) T.z_range (ra_cons (re_var (pv 1)) ra_nil)) (blkOk_by (by kernel_rfl)) rfl (by decide) (fun _ _ _ _ _ => (rg_name (i := 5) sc31.nd rfl (Or.inl rfl))) (fun _ _ _ _ _ => rts_nil) (fun _ _ _ _ _ => (re_if (rb_cmp (oi_eq hr.units) (re_var (pv 5)) (re_var (pv 3)) rfl) (re_var (pv 12)) (re_idx (re_var (pv 8)) (re_var (pv 5))))))))
    (rss_one (rs_ret (re_cmp (oi_eq hr.units) (re_call (g_law_fraction T nd) (hr.mono (by omega)) hg (by rfl) T.m20 T.F20.kp T.b20 (ra_cons (re_var (pv 13)) (ra_cons (re_bin oi_mul (re_idx (re_var (pv 11)) re_int) (re_call (g_law_power T nd) (hr.mono (by omega)) hg (by rfl) T.m23 T.F23.kp T.b23 (ra_cons (re_var (pv 12)) (ra_cons (re_idx (re_var (pv 11)) re_int) ra_nil)) (fun _ _ _ _ h => aCons_len (fun _ _ _ _ h => aCons_len (fun _ _ _ _ h => aNil_len h) _ _ _ _ h) _ _ _ _ h))) ra_nil)) (fun _ _ _ _ h => aCons_len (fun _ _ _ _ h => aCons_len (fun _ _ _ _ h => aNil_len h) _ _ _ _ h) _ _ _ _ h)) (re_call (g_law_mean_at T nd) (hr.mono (by omega)) hg (by rfl) T.m24 T.F24.kp T.b24 (ra_cons (re_var (pv 2)) (ra_cons (re_var (pv 16)) ra_nil)) (fun _ _ _ _ h => aCons_len (fun _ _ _ _ h => aCons_len (fun _ _ _ _ h => aNil_len h) _ _ _ _ h) _ _ _ _ h)) rfl))))))))))))))) : RSs _ _ b_law_row_right)
theorem sc32 : FnScope ["source", "odd", "kinds", "mean", "fraction", "values", "look", "deep", "turn", "value", "held", "due"] ["source", "odd"] (defScope (topS 32)) := ⟨rfl, rfl, rfl, by decide +kernel, rfl, by decide +kernel, by decide +kernel⟩
include nd in
theorem g_law_kinds_right : FnG P w K mg base 15 T.f32 T.d32 ["source", "odd"] (spI K 2 p_law_kinds_right) := fng T.F32 sc32 rfl fun cdv A outer s H hr hg => ((rss_cons (rs_set (i := 2) sc32.nd rfl (Or.inl rfl) (re_bin oi_add re_int (re_call (g_law_pick T nd) (hr.mono (by omega)) hg (by rfl) T.m18 T.F18.kp T.b18 (ra_cons (re_var (pv 0)) (ra_cons re_int ra_nil)) (fun _ _ _ _ h => aCons_len (fun _ _ _ _ h => aCons_len (fun _ _ _ _ h => aNil_len h) _ _ _ _ h) _ _ _ _ h))))
    (rss_cons (rs_set (i := 3) sc32.nd rfl (Or.inr rfl) (re_call (g_law_drawn_mean T nd) (hr.mono (by omega)) hg (by rfl) T.m22 T.F22.kp T.b22 (ra_cons (re_var (pv 0)) (ra_cons (re_var (pv 2)) (ra_cons re_int (ra_cons re_int ra_nil)))) (fun _ _ _ _ h => aCons_len (fun _ _ _ _ h => aCons_len (fun _ _ _ _ h => aCons_len (fun _ _ _ _ h => aCons_len (fun _ _ _ _ h => aNil_len h) _ _ _ _ h) _ _ _ _ h) _ _ _ _ h) _ _ _ _ h)))
    (rss_cons (rs_set (i := 4) sc32.nd rfl (Or.inr rfl) (re_call (g_law_fraction T nd) (hr.mono (by omega)) hg (by rfl) T.m20 T.F20.kp T.b20 (ra_cons (re_bin oi_sub (re_call (g_law_pick T nd) (hr.mono (by omega)) hg (by rfl) T.m18 T.F18.kp T.b18 (ra_cons (re_var (pv 0)) (ra_cons re_int ra_nil)) (fun _ _ _ _ h => aCons_len (fun _ _ _ _ h => aCons_len (fun _ _ _ _ h => aNil_len h) _ _ _ _ h) _ _ _ _ h)) re_int) (ra_cons (re_bin oi_add re_int (re_call (g_law_pick T nd) (hr.mono (by omega)) hg (by rfl) T.m18 T.F18.kp T.b18 (ra_cons (re_var (pv 0)) (ra_cons re_int ra_nil)) (fun _ _ _ _ h => aCons_len (fun _ _ _ _ h => aCons_len (fun _ _ _ _ h => aNil_len h) _ _ _ _ h) _ _ _ _ h))) ra_nil)) (fun _ _ _ _ h => aCons_len (fun _ _ _ _ h => aCons_len (fun _ _ _ _ h => aNil_len h) _ _ _ _ h) _ _ _ _ h)))
    (rss_cons (rs_set (i := 5) sc32.nd rfl (Or.inl rfl) (re_lst (ra_cons (re_var (pv 3)) (ra_cons (re_c1T ci_list (by rfl) T.z_list bt_list (re_var (pv 3))) (ra_cons (re_revT (re_var (pv 3))) (ra_cons (re_bin oi_add (re_var (pv 3)) (re_slice (re_var (pv 3)) (ro_some (re_neg re_int)) ro_none)) (ra_cons (re_var (pv 4)) (ra_cons (re_tup (ra_cons (re_bin oi_mul (re_idx (re_var (pv 4)) re_int) re_int) (ra_cons (re_bin oi_mul (re_idx (re_var (pv 4)) re_int) re_int) ra_nil))) ra_nil))))))))
    (rss_cons (rs_set (i := 5) sc32.nd rfl (Or.inl rfl) (re_bin oi_add (re_bin oi_add (re_var (pv 5)) (re_var (pv 1))) (re_comp (own := [("look", 6)]) (vs := [6]) rfl sc32.nd (ri_rng1 (c := false) (by rfl) T.z_range (ra_cons re_int ra_nil)) (blkOk_by (by kernel_rfl)) rfl (by decide) (fun _ _ _ _ _ => (rg_name (i := 6) sc32.nd rfl (Or.inl rfl))) (fun _ _ _ _ _ => rts_nil) (fun _ _ _ _ _ => (re_call (g_law_bent T nd 12) (hr.mono (by omega)) hg (by rfl) T.m25 T.F25.kp T.b25 (ra_cons (re_var (pv 0)) (ra_cons (re_var (pv 3)) (ra_cons (re_var (pv 1)) ra_nil))) (fun _ _ _ _ h => aCons_len (fun _ _ _ _ h => aCons_len (fun _ _ _ _ h => aCons_len (fun _ _ _ _ h => aNil_len h) _ _ _ _ h) _ _ _ _ h) _ _ _ _ h))))))
    (rss_cons (rs_set (i := 7) sc32.nd rfl (Or.inl rfl) (re_call (g_law_of T nd) (hr.mono (by omega)) hg (by rfl) T.m19 T.F19.kp T.b19 (ra_cons (re_var (pv 0)) (ra_cons (re_var (pv 1)) ra_nil)) (fun _ _ _ _ h => aCons_len (fun _ _ _ _ h => aCons_len (fun _ _ _ _ h => aNil_len h) _ _ _ _ h) _ _ _ _ h)))
    (rss_cons (rs_for rfl (ri_rng1 (c := true) (by rfl) T.z_range (ra_cons re_int ra_nil)) (rg_name (i := 8) sc32.nd rfl (Or.inl rfl)) (rss_one (rs_frz [7] (rs_set (i := 7) sc32.nd rfl (Or.inl rfl) (re_if (rb_cmp (oi_eq hr.units) (re_call (g_law_pick T nd) (hr.mono (by omega)) hg (by rfl) T.m18 T.F18.kp T.b18 (ra_cons (re_var (pv 0)) (ra_cons re_int ra_nil)) (fun _ _ _ _ h => aCons_len (fun _ _ _ _ h => aCons_len (fun _ _ _ _ h => aNil_len h) _ _ _ _ h) _ _ _ _ h)) re_int rfl) (re_lst (ra_cons (re_var (pv 7)) ra_nil)) (re_tup (ra_cons (re_var (pv 7)) ra_nil)))))))
    (rss_cons (rs_frz [7] (rs_for rfl (ri_seq (re_bin oi_add (re_bin oi_add (re_var (pv 5)) (re_lst (ra_cons (re_var (pv 7)) (ra_cons (re_tup (ra_cons (re_var (pv 7)) ra_nil)) ra_nil)))) (re_comp (own := [("look", 6)]) (vs := [6]) rfl sc32.nd (ri_rng1 (c := false) (by rfl) T.z_range (ra_cons re_int ra_nil)) (blkOk_by (by kernel_rfl)) rfl (by decide) (fun _ _ _ _ _ => (rg_name (i := 6) sc32.nd rfl (Or.inl rfl))) (fun _ _ _ _ _ => rts_nil) (fun _ _ _ _ _ => (re_call (g_law_bent T nd 12) (hr.mono (by omega)) hg (by rfl) T.m25 T.F25.kp T.b25 (ra_cons (re_var (pv 0)) (ra_cons (re_var (pv 4)) (ra_cons (re_var (pv 1)) ra_nil))) (fun _ _ _ _ h => aCons_len (fun _ _ _ _ h => aCons_len (fun _ _ _ _ h => aCons_len (fun _ _ _ _ h => aNil_len h) _ _ _ _ h) _ _ _ _ h) _ _ _ _ h)))))) (rg_name (i := 9) sc32.nd rfl (Or.inl rfl)) (rss_cons (rs_par2 (i := 10) (j := 11) rfl sc32.nd rfl rfl (by decide) rfl rfl (rp_cons (re_c1B (ci_reprX hr.units hg nd) (by rfl) T.z_repr bt_repr (re_var (pv 9))) (rp_cons (re_lst (ra_cons (re_call (g_law_is_mean T nd) (hr.mono (by omega)) hg (by rfl) T.m27 T.F27.kp T.b27 (ra_cons (re_var (pv 2)) (ra_cons (re_var (pv 9)) ra_nil)) (fun _ _ _ _ h => aCons_len (fun _ _ _ _ h => aCons_len (fun _ _ _ _ h => aNil_len h) _ _ _ _ h) _ _ _ _ h)) (ra_cons (re_call (g_law_is_fraction T nd) (hr.mono (by omega)) hg (by rfl) T.m28 T.F28.kp T.b28 (ra_cons (re_var (pv 9)) ra_nil) (fun _ _ _ _ h => aCons_len (fun _ _ _ _ h => aNil_len h) _ _ _ _ h)) (ra_cons (re_call (g_law_is_int T nd) (hr.mono (by omega)) hg (by rfl) T.m26 T.F26.kp T.b26 (ra_cons (re_var (pv 9)) ra_nil) (fun _ _ _ _ h => aCons_len (fun _ _ _ _ h => aNil_len h) _ _ _ _ h)) ra_nil)))) rp_nil)))
    (rss_one (rs_if (rb_w (rw_or (rb_cmp (oi_ne hr.units) (re_c1B (ci_reprX hr.units hg nd) (by rfl) T.z_repr bt_repr (re_lst (ra_cons (re_call (g_is_mean T nd) (hr.mono (by omega)) hg (by rfl) T.m9 T.F9.kp T.b9 (ra_cons (re_var (pv 2)) (ra_cons (re_var (pv 9)) ra_nil)) (fun _ _ _ _ h => aCons_len (fun _ _ _ _ h => aCons_len (fun _ _ _ _ h => aNil_len h) _ _ _ _ h) _ _ _ _ h)) (ra_cons (re_call (g_is_fraction T nd) (hr.mono (by omega)) hg (by rfl) T.m5 T.F5.kp T.b5 (ra_cons (re_var (pv 9)) ra_nil) (fun _ _ _ _ h => aCons_len (fun _ _ _ _ h => aNil_len h) _ _ _ _ h)) (ra_cons (re_call (g_is_integer T nd) (hr.mono (by omega)) hg (by rfl) T.m2 T.F2.kp T.b2 (ra_cons (re_var (pv 9)) ra_nil) (fun _ _ _ _ h => aCons_len (fun _ _ _ _ h => aNil_len h) _ _ _ _ h)) ra_nil))))) (re_c1B (ci_reprX hr.units hg nd) (by rfl) T.z_repr bt_repr (re_var (pv 11))) rfl) (rw_or1 (rb_cmp (oi_ne hr.units) (re_c1B (ci_reprX hr.units hg nd) (by rfl) T.z_repr bt_repr (re_var (pv 9))) (re_var (pv 10)) rfl)))) (rss_one (rs_ret re_bl)) rss_nil)))))
    (rss_one (rs_ret re_bl)))))))))) : RSs _ _ b_law_kinds_right)
theorem sc34 : FnScope ["script", "source", "odd", "lap"] ["script"] (defScope (topS 34)) := ⟨rfl, rfl, rfl, by decide +kernel, rfl, by decide +kernel, by decide +kernel⟩
include nd in
theorem g_law : FnG P w K mg base 16 T.f34 T.d34 ["script"] (spI K 1 p_law) := fng T.F34 sc34 rfl fun cdv A outer s H hr hg => ((rss_cons (rs_set (i := 1) sc34.nd rfl (Or.inl rfl) (re_call (g_law_open_cells T nd) (hr.mono (by omega)) hg (by rfl) T.m17 T.F17.kp T.b17 (ra_cons (re_var (pv 0)) ra_nil) (fun _ _ _ _ h => aCons_len (fun _ _ _ _ h => aNil_len h) _ _ _ _ h)))
    (rss_cons (rs_set (i := 2) sc34.nd rfl (Or.inl rfl) (re_lst (ra_cons re_non (ra_cons re_bl (ra_cons re_bl (ra_cons re_int (ra_cons re_int (ra_cons (re_neg re_int) (ra_cons re_int (ra_cons re_str (ra_cons (re_tup ra_nil) (ra_cons (re_tup (ra_cons re_int ra_nil)) (ra_cons (re_tup (ra_cons re_int (ra_cons re_int ra_nil))) (ra_cons (re_tup (ra_cons re_int (ra_cons re_int ra_nil))) (ra_cons (re_tup (ra_cons re_int (ra_cons (re_neg re_int) ra_nil))) (ra_cons (re_tup (ra_cons re_int (ra_cons re_int ra_nil))) (ra_cons (re_lst ra_nil) (ra_cons re_dnewK (ra_cons (re_lst (ra_cons re_int ra_nil)) (ra_cons (re_tup (ra_cons (re_tup (ra_cons re_int ra_nil)) (ra_cons re_int ra_nil))) ra_nil))))))))))))))))))))
    (rss_cons (rs_set (i := 2) sc34.nd rfl (Or.inl rfl) (re_bin oi_add (re_var (pv 2)) (re_lst (ra_cons (re_tup (ra_cons (re_tup (ra_cons (re_tup (ra_cons re_int ra_nil)) (ra_cons re_int ra_nil))) ra_nil)) (ra_cons (re_tup (ra_cons (re_tup (ra_cons (re_tup (ra_cons re_int ra_nil)) (ra_cons re_int ra_nil))) ra_nil)) (ra_cons (re_tup (ra_cons (re_tup (ra_cons (re_tup (ra_cons re_bl ra_nil)) (ra_cons re_int ra_nil))) ra_nil)) (ra_cons (re_tup (ra_cons (re_tup (ra_cons (re_tup (ra_cons re_int (ra_cons re_int ra_nil))) (ra_cons re_int ra_nil))) ra_nil)) (ra_cons (re_tup (ra_cons (re_tup (ra_cons (re_tup (ra_cons (re_neg re_int) ra_nil)) (ra_cons re_int ra_nil))) ra_nil)) (ra_cons (re_bin oi_pow re_int re_int) (ra_cons (re_tup (ra_cons (re_bin oi_pow re_int re_int) (ra_cons re_int ra_nil))) ra_nil))))))))))
    (rss_cons (rs_for rfl (ri_rng1 (c := true) (by rfl) T.z_range (ra_cons re_int ra_nil)) (rg_name (i := 3) sc34.nd rfl (Or.inl rfl)) (rss_one (rs_frz [1, 2] (rs_if (rb_w (rw_or (rb_not (rb_truth (re_call (g_law_falling_right T nd) (hr.mono (by omega)) hg (by rfl) T.m30 T.F30.kp T.b30 (ra_cons (re_var (pv 1)) ra_nil) (fun _ _ _ _ h => aCons_len (fun _ _ _ _ h => aNil_len h) _ _ _ _ h)))) (rw_or (rb_not (rb_truth (re_call (g_law_row_right T nd) (hr.mono (by omega)) hg (by rfl) T.m31 T.F31.kp T.b31 (ra_cons (re_var (pv 1)) ra_nil) (fun _ _ _ _ h => aCons_len (fun _ _ _ _ h => aNil_len h) _ _ _ _ h)))) (rw_or1 (rb_not (rb_truth (re_call (g_law_kinds_right T nd) (hr.mono (by omega)) hg (by rfl) T.m32 T.F32.kp T.b32 (ra_cons (re_var (pv 1)) (ra_cons (re_var (pv 2)) ra_nil)) (fun _ _ _ _ h => aCons_len (fun _ _ _ _ h => aCons_len (fun _ _ _ _ h => aNil_len h) _ _ _ _ h) _ _ _ _ h)))))))) (rss_one (rs_ret re_bl)) rss_nil))))
    (rss_one (rs_ret re_bl)))))) : RSs _ _ b_law)
end
end Vy.K50

set_option Elab.async false
set_option linter.all false
set_option maxRecDepth 100000
set_option maxHeartbeats 4000000
namespace Vy.K50
open PySem PySem.Spec PyProof.Rows L2
theorem all_mk {l : PySem.W.OpenLaw} {w : World} {K : PySem.W.Frag} {h : Heap} {mg : Str → Option Value} {fa : Addr} (X : K.In h) (G : h.Ns mainGlobals mg) (hfa : mg "law" = some (.ref fa))
    {f2 : Addr} {od2 an2 : Option Addr} {sl2 : Array (Option Value)} {oc2 kV2 dc2 pm2 cd2 ct2 : Value}
    (a2 : PySem.W.nsIn K mainGlobals "is_integer" = some (some (.ref f2))) (l2 : K.lookup f2 = some ⟨oc2, od2, .func (PySem.W.fnOf "is_integer" "is_integer" (defArgs (topS 2)) (defBody (topS 2)) (defScope (topS 2)) .none kV2 dc2 pm2 an2 cd2 ct2), sl2⟩) (c2 : PySem.W.codeIn K cd2 "is_integer" = true) (k2 : PySem.W.keepIn K (.ref f2) = true)
    {f3 : Addr} {od3 an3 : Option Addr} {sl3 : Array (Option Value)} {oc3 kV3 dc3 pm3 cd3 ct3 : Value}
    (a3 : PySem.W.nsIn K mainGlobals "number_power" = some (some (.ref f3))) (l3 : K.lookup f3 = some ⟨oc3, od3, .func (PySem.W.fnOf "number_power" "number_power" (defArgs (topS 3)) (defBody (topS 3)) (defScope (topS 3)) .none kV3 dc3 pm3 an3 cd3 ct3), sl3⟩) (c3 : PySem.W.codeIn K cd3 "number_power" = true) (k3 : PySem.W.keepIn K (.ref f3) = true)
    {f4 : Addr} {od4 an4 : Option Addr} {sl4 : Array (Option Value)} {oc4 kV4 dc4 pm4 cd4 ct4 : Value}
    (a4 : PySem.W.nsIn K mainGlobals "fraction_of" = some (some (.ref f4))) (l4 : K.lookup f4 = some ⟨oc4, od4, .func (PySem.W.fnOf "fraction_of" "fraction_of" (defArgs (topS 4)) (defBody (topS 4)) (defScope (topS 4)) .none kV4 dc4 pm4 an4 cd4 ct4), sl4⟩) (c4 : PySem.W.codeIn K cd4 "fraction_of" = true) (k4 : PySem.W.keepIn K (.ref f4) = true)
    {f5 : Addr} {od5 an5 : Option Addr} {sl5 : Array (Option Value)} {oc5 kV5 dc5 pm5 cd5 ct5 : Value}
    (a5 : PySem.W.nsIn K mainGlobals "is_fraction" = some (some (.ref f5))) (l5 : K.lookup f5 = some ⟨oc5, od5, .func (PySem.W.fnOf "is_fraction" "is_fraction" (defArgs (topS 5)) (defBody (topS 5)) (defScope (topS 5)) .none kV5 dc5 pm5 an5 cd5 ct5), sl5⟩) (c5 : PySem.W.codeIn K cd5 "is_fraction" = true) (k5 : PySem.W.keepIn K (.ref f5) = true)
    {f7 : Addr} {od7 an7 : Option Addr} {sl7 : Array (Option Value)} {oc7 kV7 dc7 pm7 cd7 ct7 : Value}
    (a7 : PySem.W.nsIn K mainGlobals "are_powers" = some (some (.ref f7))) (l7 : K.lookup f7 = some ⟨oc7, od7, .func (PySem.W.fnOf "are_powers" "are_powers" (defArgs (topS 7)) (defBody (topS 7)) (defScope (topS 7)) .none kV7 dc7 pm7 an7 cd7 ct7), sl7⟩) (c7 : PySem.W.codeIn K cd7 "are_powers" = true) (k7 : PySem.W.keepIn K (.ref f7) = true)
    {f8 : Addr} {od8 an8 : Option Addr} {sl8 : Array (Option Value)} {oc8 kV8 dc8 pm8 cd8 ct8 : Value}
    (a8 : PySem.W.nsIn K mainGlobals "is_member" = some (some (.ref f8))) (l8 : K.lookup f8 = some ⟨oc8, od8, .func (PySem.W.fnOf "is_member" "is_member" (defArgs (topS 8)) (defBody (topS 8)) (defScope (topS 8)) .none kV8 dc8 pm8 an8 cd8 ct8), sl8⟩) (c8 : PySem.W.codeIn K cd8 "is_member" = true) (k8 : PySem.W.keepIn K (.ref f8) = true)
    {f9 : Addr} {od9 an9 : Option Addr} {sl9 : Array (Option Value)} {oc9 kV9 dc9 pm9 cd9 ct9 : Value}
    (a9 : PySem.W.nsIn K mainGlobals "is_mean" = some (some (.ref f9))) (l9 : K.lookup f9 = some ⟨oc9, od9, .func (PySem.W.fnOf "is_mean" "is_mean" (defArgs (topS 9)) (defBody (topS 9)) (defScope (topS 9)) .none kV9 dc9 pm9 an9 cd9 ct9), sl9⟩) (c9 : PySem.W.codeIn K cd9 "is_mean" = true) (k9 : PySem.W.keepIn K (.ref f9) = true)
    {f10 : Addr} {od10 an10 : Option Addr} {sl10 : Array (Option Value)} {oc10 kV10 dc10 pm10 cd10 ct10 : Value}
    (a10 : PySem.W.nsIn K mainGlobals "mean_of_rows" = some (some (.ref f10))) (l10 : K.lookup f10 = some ⟨oc10, od10, .func (PySem.W.fnOf "mean_of_rows" "mean_of_rows" (defArgs (topS 10)) (defBody (topS 10)) (defScope (topS 10)) .none kV10 dc10 pm10 an10 cd10 ct10), sl10⟩) (c10 : PySem.W.codeIn K cd10 "mean_of_rows" = true) (k10 : PySem.W.keepIn K (.ref f10) = true)
    {f11 : Addr} {od11 an11 : Option Addr} {sl11 : Array (Option Value)} {oc11 kV11 dc11 pm11 cd11 ct11 : Value}
    (a11 : PySem.W.nsIn K mainGlobals "falling" = some (some (.ref f11))) (l11 : K.lookup f11 = some ⟨oc11, od11, .func (PySem.W.fnOf "falling" "falling" (defArgs (topS 11)) (defBody (topS 11)) (defScope (topS 11)) .none kV11 dc11 pm11 an11 cd11 ct11), sl11⟩) (c11 : PySem.W.codeIn K cd11 "falling" = true) (k11 : PySem.W.keepIn K (.ref f11) = true)
    {f12 : Addr} {od12 an12 : Option Addr} {sl12 : Array (Option Value)} {oc12 kV12 dc12 pm12 cd12 ct12 : Value}
    (a12 : PySem.W.nsIn K mainGlobals "greatest_powers" = some (some (.ref f12))) (l12 : K.lookup f12 = some ⟨oc12, od12, .func (PySem.W.fnOf "greatest_powers" "greatest_powers" (defArgs (topS 12)) (defBody (topS 12)) (defScope (topS 12)) .none kV12 dc12 pm12 an12 cd12 ct12), sl12⟩) (c12 : PySem.W.codeIn K cd12 "greatest_powers" = true) (k12 : PySem.W.keepIn K (.ref f12) = true)
    {f13 : Addr} {od13 an13 : Option Addr} {sl13 : Array (Option Value)} {oc13 kV13 dc13 pm13 cd13 ct13 : Value}
    (a13 : PySem.W.nsIn K mainGlobals "size_product" = some (some (.ref f13))) (l13 : K.lookup f13 = some ⟨oc13, od13, .func (PySem.W.fnOf "size_product" "size_product" (defArgs (topS 13)) (defBody (topS 13)) (defScope (topS 13)) .none kV13 dc13 pm13 an13 cd13 ct13), sl13⟩) (c13 : PySem.W.codeIn K cd13 "size_product" = true) (k13 : PySem.W.keepIn K (.ref f13) = true)
    {f14 : Addr} {od14 an14 : Option Addr} {sl14 : Array (Option Value)} {oc14 kV14 dc14 pm14 cd14 ct14 : Value}
    (a14 : PySem.W.nsIn K mainGlobals "mean_at" = some (some (.ref f14))) (l14 : K.lookup f14 = some ⟨oc14, od14, .func (PySem.W.fnOf "mean_at" "mean_at" (defArgs (topS 14)) (defBody (topS 14)) (defScope (topS 14)) .none kV14 dc14 pm14 an14 cd14 ct14), sl14⟩) (c14 : PySem.W.codeIn K cd14 "mean_at" = true) (k14 : PySem.W.keepIn K (.ref f14) = true)
    {f15 : Addr} {od15 an15 : Option Addr} {sl15 : Array (Option Value)} {oc15 kV15 dc15 pm15 cd15 ct15 : Value}
    (a15 : PySem.W.nsIn K mainGlobals "mean_row" = some (some (.ref f15))) (l15 : K.lookup f15 = some ⟨oc15, od15, .func (PySem.W.fnOf "mean_row" "mean_row" (defArgs (topS 15)) (defBody (topS 15)) (defScope (topS 15)) .none kV15 dc15 pm15 an15 cd15 ct15), sl15⟩) (c15 : PySem.W.codeIn K cd15 "mean_row" = true) (k15 : PySem.W.keepIn K (.ref f15) = true)
    {f17 : Addr} {od17 an17 : Option Addr} {sl17 : Array (Option Value)} {oc17 kV17 dc17 pm17 cd17 ct17 : Value}
    (a17 : PySem.W.nsIn K mainGlobals "_law_open_cells" = some (some (.ref f17))) (l17 : K.lookup f17 = some ⟨oc17, od17, .func (PySem.W.fnOf "_law_open_cells" "_law_open_cells" (defArgs (topS 17)) (defBody (topS 17)) (defScope (topS 17)) .none kV17 dc17 pm17 an17 cd17 ct17), sl17⟩) (c17 : PySem.W.codeIn K cd17 "_law_open_cells" = true) (k17 : PySem.W.keepIn K (.ref f17) = true)
    {f18 : Addr} {od18 an18 : Option Addr} {sl18 : Array (Option Value)} {oc18 kV18 dc18 pm18 cd18 ct18 : Value}
    (a18 : PySem.W.nsIn K mainGlobals "_law_pick" = some (some (.ref f18))) (l18 : K.lookup f18 = some ⟨oc18, od18, .func (PySem.W.fnOf "_law_pick" "_law_pick" (defArgs (topS 18)) (defBody (topS 18)) (defScope (topS 18)) .none kV18 dc18 pm18 an18 cd18 ct18), sl18⟩) (c18 : PySem.W.codeIn K cd18 "_law_pick" = true) (k18 : PySem.W.keepIn K (.ref f18) = true)
    {f19 : Addr} {od19 an19 : Option Addr} {sl19 : Array (Option Value)} {oc19 kV19 dc19 pm19 cd19 ct19 : Value}
    (a19 : PySem.W.nsIn K mainGlobals "_law_of" = some (some (.ref f19))) (l19 : K.lookup f19 = some ⟨oc19, od19, .func (PySem.W.fnOf "_law_of" "_law_of" (defArgs (topS 19)) (defBody (topS 19)) (defScope (topS 19)) .none kV19 dc19 pm19 an19 cd19 ct19), sl19⟩) (c19 : PySem.W.codeIn K cd19 "_law_of" = true) (k19 : PySem.W.keepIn K (.ref f19) = true)
    {f20 : Addr} {od20 an20 : Option Addr} {sl20 : Array (Option Value)} {oc20 kV20 dc20 pm20 cd20 ct20 : Value}
    (a20 : PySem.W.nsIn K mainGlobals "_law_fraction" = some (some (.ref f20))) (l20 : K.lookup f20 = some ⟨oc20, od20, .func (PySem.W.fnOf "_law_fraction" "_law_fraction" (defArgs (topS 20)) (defBody (topS 20)) (defScope (topS 20)) .none kV20 dc20 pm20 an20 cd20 ct20), sl20⟩) (c20 : PySem.W.codeIn K cd20 "_law_fraction" = true) (k20 : PySem.W.keepIn K (.ref f20) = true)
    {f21 : Addr} {od21 an21 : Option Addr} {sl21 : Array (Option Value)} {oc21 kV21 dc21 pm21 cd21 ct21 : Value}
    (a21 : PySem.W.nsIn K mainGlobals "_law_by" = some (some (.ref f21))) (l21 : K.lookup f21 = some ⟨oc21, od21, .func (PySem.W.fnOf "_law_by" "_law_by" (defArgs (topS 21)) (defBody (topS 21)) (defScope (topS 21)) .none kV21 dc21 pm21 an21 cd21 ct21), sl21⟩) (c21 : PySem.W.codeIn K cd21 "_law_by" = true) (k21 : PySem.W.keepIn K (.ref f21) = true)
    {f22 : Addr} {od22 an22 : Option Addr} {sl22 : Array (Option Value)} {oc22 kV22 dc22 pm22 cd22 ct22 : Value}
    (a22 : PySem.W.nsIn K mainGlobals "_law_drawn_mean" = some (some (.ref f22))) (l22 : K.lookup f22 = some ⟨oc22, od22, .func (PySem.W.fnOf "_law_drawn_mean" "_law_drawn_mean" (defArgs (topS 22)) (defBody (topS 22)) (defScope (topS 22)) .none kV22 dc22 pm22 an22 cd22 ct22), sl22⟩) (c22 : PySem.W.codeIn K cd22 "_law_drawn_mean" = true) (k22 : PySem.W.keepIn K (.ref f22) = true)
    {f23 : Addr} {od23 an23 : Option Addr} {sl23 : Array (Option Value)} {oc23 kV23 dc23 pm23 cd23 ct23 : Value}
    (a23 : PySem.W.nsIn K mainGlobals "_law_power" = some (some (.ref f23))) (l23 : K.lookup f23 = some ⟨oc23, od23, .func (PySem.W.fnOf "_law_power" "_law_power" (defArgs (topS 23)) (defBody (topS 23)) (defScope (topS 23)) .none kV23 dc23 pm23 an23 cd23 ct23), sl23⟩) (c23 : PySem.W.codeIn K cd23 "_law_power" = true) (k23 : PySem.W.keepIn K (.ref f23) = true)
    {f24 : Addr} {od24 an24 : Option Addr} {sl24 : Array (Option Value)} {oc24 kV24 dc24 pm24 cd24 ct24 : Value}
    (a24 : PySem.W.nsIn K mainGlobals "_law_mean_at" = some (some (.ref f24))) (l24 : K.lookup f24 = some ⟨oc24, od24, .func (PySem.W.fnOf "_law_mean_at" "_law_mean_at" (defArgs (topS 24)) (defBody (topS 24)) (defScope (topS 24)) .none kV24 dc24 pm24 an24 cd24 ct24), sl24⟩) (c24 : PySem.W.codeIn K cd24 "_law_mean_at" = true) (k24 : PySem.W.keepIn K (.ref f24) = true)
    {f25 : Addr} {od25 an25 : Option Addr} {sl25 : Array (Option Value)} {oc25 kV25 dc25 pm25 cd25 ct25 : Value}
    (a25 : PySem.W.nsIn K mainGlobals "_law_bent" = some (some (.ref f25))) (l25 : K.lookup f25 = some ⟨oc25, od25, .func (PySem.W.fnOf "_law_bent" "_law_bent" (defArgs (topS 25)) (defBody (topS 25)) (defScope (topS 25)) .none kV25 dc25 pm25 an25 cd25 ct25), sl25⟩) (c25 : PySem.W.codeIn K cd25 "_law_bent" = true) (k25 : PySem.W.keepIn K (.ref f25) = true)
    {f26 : Addr} {od26 an26 : Option Addr} {sl26 : Array (Option Value)} {oc26 kV26 dc26 pm26 cd26 ct26 : Value}
    (a26 : PySem.W.nsIn K mainGlobals "_law_is_int" = some (some (.ref f26))) (l26 : K.lookup f26 = some ⟨oc26, od26, .func (PySem.W.fnOf "_law_is_int" "_law_is_int" (defArgs (topS 26)) (defBody (topS 26)) (defScope (topS 26)) .none kV26 dc26 pm26 an26 cd26 ct26), sl26⟩) (c26 : PySem.W.codeIn K cd26 "_law_is_int" = true) (k26 : PySem.W.keepIn K (.ref f26) = true)
    {f27 : Addr} {od27 an27 : Option Addr} {sl27 : Array (Option Value)} {oc27 kV27 dc27 pm27 cd27 ct27 : Value}
    (a27 : PySem.W.nsIn K mainGlobals "_law_is_mean" = some (some (.ref f27))) (l27 : K.lookup f27 = some ⟨oc27, od27, .func (PySem.W.fnOf "_law_is_mean" "_law_is_mean" (defArgs (topS 27)) (defBody (topS 27)) (defScope (topS 27)) .none kV27 dc27 pm27 an27 cd27 ct27), sl27⟩) (c27 : PySem.W.codeIn K cd27 "_law_is_mean" = true) (k27 : PySem.W.keepIn K (.ref f27) = true)
    {f28 : Addr} {od28 an28 : Option Addr} {sl28 : Array (Option Value)} {oc28 kV28 dc28 pm28 cd28 ct28 : Value}
    (a28 : PySem.W.nsIn K mainGlobals "_law_is_fraction" = some (some (.ref f28))) (l28 : K.lookup f28 = some ⟨oc28, od28, .func (PySem.W.fnOf "_law_is_fraction" "_law_is_fraction" (defArgs (topS 28)) (defBody (topS 28)) (defScope (topS 28)) .none kV28 dc28 pm28 an28 cd28 ct28), sl28⟩) (c28 : PySem.W.codeIn K cd28 "_law_is_fraction" = true) (k28 : PySem.W.keepIn K (.ref f28) = true)
    {f33 : Addr} {od33 an33 : Option Addr} {sl33 : Array (Option Value)} {oc33 kV33 dc33 pm33 cd33 ct33 : Value}
    (a33 : PySem.W.nsIn K mainGlobals "_law_each_behind" = some (some (.ref f33))) (l33 : K.lookup f33 = some ⟨oc33, od33, .func (PySem.W.fnOf "_law_each_behind" "_law_each_behind" (defArgs (topS 33)) (defBody (topS 33)) (defScope (topS 33)) .none kV33 dc33 pm33 an33 cd33 ct33), sl33⟩) (c33 : PySem.W.codeIn K cd33 "_law_each_behind" = true) (k33 : PySem.W.keepIn K (.ref f33) = true)
    {f29 : Addr} {od29 an29 : Option Addr} {sl29 : Array (Option Value)} {oc29 kV29 dc29 pm29 cd29 ct29 : Value}
    (a29 : PySem.W.nsIn K mainGlobals "_law_rows_unlike" = some (some (.ref f29))) (l29 : K.lookup f29 = some ⟨oc29, od29, .func (PySem.W.fnOf "_law_rows_unlike" "_law_rows_unlike" (defArgs (topS 29)) (defBody (topS 29)) (defScope (topS 29)) .none kV29 dc29 pm29 an29 cd29 ct29), sl29⟩) (c29 : PySem.W.codeIn K cd29 "_law_rows_unlike" = true) (k29 : PySem.W.keepIn K (.ref f29) = true)
    {f30 : Addr} {od30 an30 : Option Addr} {sl30 : Array (Option Value)} {oc30 kV30 dc30 pm30 cd30 ct30 : Value}
    (a30 : PySem.W.nsIn K mainGlobals "_law_falling_right" = some (some (.ref f30))) (l30 : K.lookup f30 = some ⟨oc30, od30, .func (PySem.W.fnOf "_law_falling_right" "_law_falling_right" (defArgs (topS 30)) (defBody (topS 30)) (defScope (topS 30)) .none kV30 dc30 pm30 an30 cd30 ct30), sl30⟩) (c30 : PySem.W.codeIn K cd30 "_law_falling_right" = true) (k30 : PySem.W.keepIn K (.ref f30) = true)
    {f31 : Addr} {od31 an31 : Option Addr} {sl31 : Array (Option Value)} {oc31 kV31 dc31 pm31 cd31 ct31 : Value}
    (a31 : PySem.W.nsIn K mainGlobals "_law_row_right" = some (some (.ref f31))) (l31 : K.lookup f31 = some ⟨oc31, od31, .func (PySem.W.fnOf "_law_row_right" "_law_row_right" (defArgs (topS 31)) (defBody (topS 31)) (defScope (topS 31)) .none kV31 dc31 pm31 an31 cd31 ct31), sl31⟩) (c31 : PySem.W.codeIn K cd31 "_law_row_right" = true) (k31 : PySem.W.keepIn K (.ref f31) = true)
    {f32 : Addr} {od32 an32 : Option Addr} {sl32 : Array (Option Value)} {oc32 kV32 dc32 pm32 cd32 ct32 : Value}
    (a32 : PySem.W.nsIn K mainGlobals "_law_kinds_right" = some (some (.ref f32))) (l32 : K.lookup f32 = some ⟨oc32, od32, .func (PySem.W.fnOf "_law_kinds_right" "_law_kinds_right" (defArgs (topS 32)) (defBody (topS 32)) (defScope (topS 32)) .none kV32 dc32 pm32 an32 cd32 ct32), sl32⟩) (c32 : PySem.W.codeIn K cd32 "_law_kinds_right" = true) (k32 : PySem.W.keepIn K (.ref f32) = true)
    {f34 : Addr} {od34 an34 : Option Addr} {sl34 : Array (Option Value)} {oc34 kV34 dc34 pm34 cd34 ct34 : Value}
    (a34 : PySem.W.nsIn K mainGlobals "law" = some (some (.ref f34))) (l34 : K.lookup f34 = some ⟨oc34, od34, .func (PySem.W.fnOf "law" "law" (defArgs (topS 34)) (defBody (topS 34)) (defScope (topS 34)) .none kV34 dc34 pm34 an34 cd34 ct34), sl34⟩) (c34 : PySem.W.codeIn K cd34 "law" = true) (k34 : PySem.W.keepIn K (.ref f34) = true)
    (z_abs : PySem.W.nsIn K mainGlobals "abs" = some none)
    (z_all : PySem.W.nsIn K mainGlobals "all" = some none)
    (z_bool : PySem.W.nsIn K mainGlobals "bool" = some none)
    (z_dict : PySem.W.nsIn K mainGlobals "dict" = some none)
    (z_enumerate : PySem.W.nsIn K mainGlobals "enumerate" = some none)
    (z_int : PySem.W.nsIn K mainGlobals "int" = some none)
    (z_isinstance : PySem.W.nsIn K mainGlobals "isinstance" = some none)
    (z_len : PySem.W.nsIn K mainGlobals "len" = some none)
    (z_list : PySem.W.nsIn K mainGlobals "list" = some none)
    (z_max : PySem.W.nsIn K mainGlobals "max" = some none)
    (z_range : PySem.W.nsIn K mainGlobals "range" = some none)
    (z_repr : PySem.W.nsIn K mainGlobals "repr" = some none)
    (z_sorted : PySem.W.nsIn K mainGlobals "sorted" = some none)
    (z_tuple : PySem.W.nsIn K mainGlobals "tuple" = some none)
    (z_zip : PySem.W.nsIn K mainGlobals "zip" = some none)
    (y_gcd : PySem.W.nsIn K mainGlobals "gcd" = some (some (.builtin "math.gcd")))
    : ∃ fd : FuncData, (∀ (s : Shared) (v : Value), BindsTo s fd ⟨[v], []⟩ [("script", v)]) ∧ ∀ base : Heap, K.In base → base.Ns mainGlobals mg → base.NoDigits → FnG l.prog w K mg base 16 fa fd ["script"] (spI K 1 p_law) := by
  have e := hfa.symm.trans (PySem.W.mg_of X G a34)
  cases e
  have F2 := fun_mk (st := topS 2) l2 c2 k2
  have F3 := fun_mk (st := topS 3) l3 c3 k3
  have F4 := fun_mk (st := topS 4) l4 c4 k4
  have F5 := fun_mk (st := topS 5) l5 c5 k5
  have F7 := fun_mk (st := topS 7) l7 c7 k7
  have F8 := fun_mk (st := topS 8) l8 c8 k8
  have F9 := fun_mk (st := topS 9) l9 c9 k9
  have F10 := fun_mk (st := topS 10) l10 c10 k10
  have F11 := fun_mk (st := topS 11) l11 c11 k11
  have F12 := fun_mk (st := topS 12) l12 c12 k12
  have F13 := fun_mk (st := topS 13) l13 c13 k13
  have F14 := fun_mk (st := topS 14) l14 c14 k14
  have F15 := fun_mk (st := topS 15) l15 c15 k15
  have F17 := fun_mk (st := topS 17) l17 c17 k17
  have F18 := fun_mk (st := topS 18) l18 c18 k18
  have F19 := fun_mk (st := topS 19) l19 c19 k19
  have F20 := fun_mk (st := topS 20) l20 c20 k20
  have F21 := fun_mk (st := topS 21) l21 c21 k21
  have F22 := fun_mk (st := topS 22) l22 c22 k22
  have F23 := fun_mk (st := topS 23) l23 c23 k23
  have F24 := fun_mk (st := topS 24) l24 c24 k24
  have F25 := fun_mk (st := topS 25) l25 c25 k25
  have F26 := fun_mk (st := topS 26) l26 c26 k26
  have F27 := fun_mk (st := topS 27) l27 c27 k27
  have F28 := fun_mk (st := topS 28) l28 c28 k28
  have F33 := fun_mk (st := topS 33) l33 c33 k33
  have F29 := fun_mk (st := topS 29) l29 c29 k29
  have F30 := fun_mk (st := topS 30) l30 c30 k30
  have F31 := fun_mk (st := topS 31) l31 c31 k31
  have F32 := fun_mk (st := topS 32) l32 c32 k32
  have F34 := fun_mk (st := topS 34) l34 c34 k34
  let T : Tops K mg := ⟨_,
    _,
    F2,
    PySem.W.mg_of X G a2,
    (F2.binds (ps := ["value"]) fun _ _ _ _ _ _ us hl => match us, hl with | [_], _ => rfl),
    _,
    _,
    F3,
    PySem.W.mg_of X G a3,
    (F3.binds (ps := ["a", "k"]) fun _ _ _ _ _ _ us hl => match us, hl with | [_, _], _ => rfl),
    _,
    _,
    F4,
    PySem.W.mg_of X G a4,
    (F4.binds (ps := ["p", "q"]) fun _ _ _ _ _ _ us hl => match us, hl with | [_, _], _ => rfl),
    _,
    _,
    F5,
    PySem.W.mg_of X G a5,
    (F5.binds (ps := ["value"]) fun _ _ _ _ _ _ us hl => match us, hl with | [_], _ => rfl),
    _,
    _,
    F7,
    PySem.W.mg_of X G a7,
    (F7.binds (ps := ["kinds", "value"]) fun _ _ _ _ _ _ us hl => match us, hl with | [_, _], _ => rfl),
    _,
    _,
    F8,
    PySem.W.mg_of X G a8,
    (F8.binds (ps := ["kinds", "value"]) fun _ _ _ _ _ _ us hl => match us, hl with | [_, _], _ => rfl),
    _,
    _,
    F9,
    PySem.W.mg_of X G a9,
    (F9.binds (ps := ["kinds", "value"]) fun _ _ _ _ _ _ us hl => match us, hl with | [_, _], _ => rfl),
    _,
    _,
    F10,
    PySem.W.mg_of X G a10,
    (F10.binds (ps := ["rows"]) fun _ _ _ _ _ _ us hl => match us, hl with | [_], _ => rfl),
    _,
    _,
    F11,
    PySem.W.mg_of X G a11,
    (F11.binds (ps := ["kinds", "k", "many"]) fun _ _ _ _ _ _ us hl => match us, hl with | [_, _, _], _ => rfl),
    _,
    _,
    F12,
    PySem.W.mg_of X G a12,
    (F12.binds (ps := ["kinds", "mean"]) fun _ _ _ _ _ _ us hl => match us, hl with | [_, _], _ => rfl),
    _,
    _,
    F13,
    PySem.W.mg_of X G a13,
    (F13.binds (ps := ["sizes", "powers"]) fun _ _ _ _ _ _ us hl => match us, hl with | [_, _], _ => rfl),
    _,
    _,
    F14,
    PySem.W.mg_of X G a14,
    (F14.binds (ps := ["mean", "sizes"]) fun _ _ _ _ _ _ us hl => match us, hl with | [_, _], _ => rfl),
    _,
    _,
    F15,
    PySem.W.mg_of X G a15,
    (F15.binds (ps := ["mean", "k", "sizes"]) fun _ _ _ _ _ _ us hl => match us, hl with | [_, _, _], _ => rfl),
    _,
    _,
    F17,
    PySem.W.mg_of X G a17,
    (F17.binds (ps := ["script"]) fun _ _ _ _ _ _ us hl => match us, hl with | [_], _ => rfl),
    _,
    _,
    F18,
    PySem.W.mg_of X G a18,
    (F18.binds (ps := ["source", "most"]) fun _ _ _ _ _ _ us hl => match us, hl with | [_, _], _ => rfl),
    _,
    _,
    F19,
    PySem.W.mg_of X G a19,
    (F19.binds (ps := ["source", "some"]) fun _ _ _ _ _ _ us hl => match us, hl with | [_, _], _ => rfl),
    _,
    _,
    F20,
    PySem.W.mg_of X G a20,
    (F20.binds (ps := ["p", "q"]) fun _ _ _ _ _ _ us hl => match us, hl with | [_, _], _ => rfl),
    _,
    _,
    F21,
    PySem.W.mg_of X G a21,
    (F21.binds (ps := ["x", "y"]) fun _ _ _ _ _ _ us hl => match us, hl with | [_, _], _ => rfl),
    _,
    _,
    F22,
    PySem.W.mg_of X G a22,
    (F22.binds (ps := ["source", "kinds", "most", "many"]) fun _ _ _ _ _ _ us hl => match us, hl with | [_, _, _, _], _ => rfl),
    _,
    _,
    F23,
    PySem.W.mg_of X G a23,
    (F23.binds (ps := ["n", "p"]) fun _ _ _ _ _ _ us hl => match us, hl with | [_, _], _ => rfl),
    _,
    _,
    F24,
    PySem.W.mg_of X G a24,
    (F24.binds (ps := ["mean", "sizes"]) fun _ _ _ _ _ _ us hl => match us, hl with | [_, _], _ => rfl),
    _,
    _,
    F25,
    PySem.W.mg_of X G a25,
    (F25.binds (ps := ["source", "value", "odd"]) fun _ _ _ _ _ _ us hl => match us, hl with | [_, _, _], _ => rfl),
    _,
    _,
    F26,
    PySem.W.mg_of X G a26,
    (F26.binds (ps := ["value"]) fun _ _ _ _ _ _ us hl => match us, hl with | [_], _ => rfl),
    _,
    _,
    F27,
    PySem.W.mg_of X G a27,
    (F27.binds (ps := ["kinds", "value"]) fun _ _ _ _ _ _ us hl => match us, hl with | [_, _], _ => rfl),
    _,
    _,
    F28,
    PySem.W.mg_of X G a28,
    (F28.binds (ps := ["value"]) fun _ _ _ _ _ _ us hl => match us, hl with | [_], _ => rfl),
    _,
    _,
    F33,
    PySem.W.mg_of X G a33,
    (F33.binds (ps := ["rows", "some"]) fun _ _ _ _ _ _ us hl => match us, hl with | [_, _], _ => rfl),
    _,
    _,
    F29,
    PySem.W.mg_of X G a29,
    (F29.binds (ps := ["n", "many"]) fun _ _ _ _ _ _ us hl => match us, hl with | [_, _], _ => rfl),
    _,
    _,
    F30,
    PySem.W.mg_of X G a30,
    (F30.binds (ps := ["source"]) fun _ _ _ _ _ _ us hl => match us, hl with | [_], _ => rfl),
    _,
    _,
    F31,
    PySem.W.mg_of X G a31,
    (F31.binds (ps := ["source"]) fun _ _ _ _ _ _ us hl => match us, hl with | [_], _ => rfl),
    _,
    _,
    F32,
    PySem.W.mg_of X G a32,
    (F32.binds (ps := ["source", "odd"]) fun _ _ _ _ _ _ us hl => match us, hl with | [_, _], _ => rfl),
    _,
    _,
    F34,
    PySem.W.mg_of X G a34,
    (F34.binds (ps := ["script"]) fun _ _ _ _ _ _ us hl => match us, hl with | [_], _ => rfl),
    PySem.W.mg_none_of X G z_abs,
    PySem.W.mg_none_of X G z_all,
    PySem.W.mg_none_of X G z_bool,
    PySem.W.mg_none_of X G z_dict,
    PySem.W.mg_none_of X G z_enumerate,
    PySem.W.mg_none_of X G z_int,
    PySem.W.mg_none_of X G z_isinstance,
    PySem.W.mg_none_of X G z_len,
    PySem.W.mg_none_of X G z_list,
    PySem.W.mg_none_of X G z_max,
    PySem.W.mg_none_of X G z_range,
    PySem.W.mg_none_of X G z_repr,
    PySem.W.mg_none_of X G z_sorted,
    PySem.W.mg_none_of X G z_tuple,
    PySem.W.mg_none_of X G z_zip,
    PySem.W.mg_of X G y_gcd⟩
  exact ⟨PySem.W.fnOf "law" "law" (defArgs (topS 34)) (defBody (topS 34)) (defScope (topS 34)) .none kV34 dc34 pm34 an34 cd34 ct34, fun s v => .of_eq rfl, fun base _ _ nd => g_law T nd⟩
end Vy.K50

open PySem PySem.W PyProof.Rows
set_option maxRecDepth 100000 in
set_option maxHeartbeats 0 in
open_top hd for PySem.Challenge.rw_drawntables_k50_falling_products_and_row
set_option maxRecDepth 100000 in
set_option maxHeartbeats 0 in
theorem PySem.Challenge.cw_drawntables_k50_falling_products_and_row_holds : PySem.Challenge.rw_drawntables_k50_falling_products_and_row.Holds := by
  refine hd (Vy.walkG (l := PySem.Challenge.rw_drawntables_k50_falling_products_and_row) (n := 63) (k := 16) (x := "script") (p := Vy.K50.p_law) rfl (by decide) (by kernel_rfl) ⟨rfl, by decide, by decide⟩ (fun w h Y => PySem.W.kIn_of Y) ?F Vy.K50.law_holds)
  intro w mg fa h KX G hmg
  refine' Vy.K50.all_mk KX G hmg ?a2 ?l2 ?c2 ?k2 ?a3 ?l3 ?c3 ?k3 ?a4 ?l4 ?c4 ?k4 ?a5 ?l5 ?c5 ?k5 ?a7 ?l7 ?c7 ?k7 ?a8 ?l8 ?c8 ?k8 ?a9 ?l9 ?c9 ?k9 ?a10 ?l10 ?c10 ?k10 ?a11 ?l11 ?c11 ?k11 ?a12 ?l12 ?c12 ?k12 ?a13 ?l13 ?c13 ?k13 ?a14 ?l14 ?c14 ?k14 ?a15 ?l15 ?c15 ?k15 ?a17 ?l17 ?c17 ?k17 ?a18 ?l18 ?c18 ?k18 ?a19 ?l19 ?c19 ?k19 ?a20 ?l20 ?c20 ?k20 ?a21 ?l21 ?c21 ?k21 ?a22 ?l22 ?c22 ?k22 ?a23 ?l23 ?c23 ?k23 ?a24 ?l24 ?c24 ?k24 ?a25 ?l25 ?c25 ?k25 ?a26 ?l26 ?c26 ?k26 ?a27 ?l27 ?c27 ?k27 ?a28 ?l28 ?c28 ?k28 ?a33 ?l33 ?c33 ?k33 ?a29 ?l29 ?c29 ?k29 ?a30 ?l30 ?c30 ?k30 ?a31 ?l31 ?c31 ?k31 ?a32 ?l32 ?c32 ?k32 ?a34 ?l34 ?c34 ?k34 ?z_abs ?z_all ?z_bool ?z_dict ?z_enumerate ?z_int ?z_isinstance ?z_len ?z_list ?z_max ?z_range ?z_repr ?z_sorted ?z_tuple ?z_zip ?y_gcd
  case a2 => k_is
  case l2 => k_is
  case c2 => k_is
  case k2 => k_is
  case a3 => k_is
  case l3 => k_is
  case c3 => k_is
  case k3 => k_is
  case a4 => k_is
  case l4 => k_is
  case c4 => k_is
  case k4 => k_is
  case a5 => k_is
  case l5 => k_is
  case c5 => k_is
  case k5 => k_is
  case a7 => k_is
  case l7 => k_is
  case c7 => k_is
  case k7 => k_is
  case a8 => k_is
  case l8 => k_is
  case c8 => k_is
  case k8 => k_is
  case a9 => k_is
  case l9 => k_is
  case c9 => k_is
  case k9 => k_is
  case a10 => k_is
  case l10 => k_is
  case c10 => k_is
  case k10 => k_is
  case a11 => k_is
  case l11 => k_is
  case c11 => k_is
  case k11 => k_is
  case a12 => k_is
  case l12 => k_is
  case c12 => k_is
  case k12 => k_is
  case a13 => k_is
  case l13 => k_is
  case c13 => k_is
  case k13 => k_is
  case a14 => k_is
  case l14 => k_is
  case c14 => k_is
  case k14 => k_is
  case a15 => k_is
  case l15 => k_is
  case c15 => k_is
  case k15 => k_is
  case a17 => k_is
  case l17 => k_is
  case c17 => k_is
  case k17 => k_is
  case a18 => k_is
  case l18 => k_is
  case c18 => k_is
  case k18 => k_is
  case a19 => k_is
  case l19 => k_is
  case c19 => k_is
  case k19 => k_is
  case a20 => k_is
  case l20 => k_is
  case c20 => k_is
  case k20 => k_is
  case a21 => k_is
  case l21 => k_is
  case c21 => k_is
  case k21 => k_is
  case a22 => k_is
  case l22 => k_is
  case c22 => k_is
  case k22 => k_is
  case a23 => k_is
  case l23 => k_is
  case c23 => k_is
  case k23 => k_is
  case a24 => k_is
  case l24 => k_is
  case c24 => k_is
  case k24 => k_is
  case a25 => k_is
  case l25 => k_is
  case c25 => k_is
  case k25 => k_is
  case a26 => k_is
  case l26 => k_is
  case c26 => k_is
  case k26 => k_is
  case a27 => k_is
  case l27 => k_is
  case c27 => k_is
  case k27 => k_is
  case a28 => k_is
  case l28 => k_is
  case c28 => k_is
  case k28 => k_is
  case a33 => k_is
  case l33 => k_is
  case c33 => k_is
  case k33 => k_is
  case a29 => k_is
  case l29 => k_is
  case c29 => k_is
  case k29 => k_is
  case a30 => k_is
  case l30 => k_is
  case c30 => k_is
  case k30 => k_is
  case a31 => k_is
  case l31 => k_is
  case c31 => k_is
  case k31 => k_is
  case a32 => k_is
  case l32 => k_is
  case c32 => k_is
  case k32 => k_is
  case a34 => k_is
  case l34 => k_is
  case c34 => k_is
  case k34 => k_is
  case z_abs => k_is
  case z_all => k_is
  case z_bool => k_is
  case z_dict => k_is
  case z_enumerate => k_is
  case z_int => k_is
  case z_isinstance => k_is
  case z_len => k_is
  case z_list => k_is
  case z_max => k_is
  case z_range => k_is
  case z_repr => k_is
  case z_sorted => k_is
  case z_tuple => k_is
  case z_zip => k_is
  case y_gcd => k_is

