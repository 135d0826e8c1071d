import PyProof.Rows.All
import Wide.All
import OpenK.AllK
import Wide.FinOn
import HandS.ForMost
import HandS.Walk
import HandS.Flow
import HandS.Style
import HandS.Deep
import KE.KeyNested
import KE.KDictKeyed
import HandS.IsInst
import HandS.TupAny
import KE.DataMinMax
import KE.SortData
import KE.DatumOrd
import HandS.SortOrd
import HandS.DictComp
import HandS.Star
import HandS.Iter
import KE.GoesMore
import KE.GoesEnum
import KE.KDictDisplayH
import KE.KDictWalk
import KE.KDictItemsList
import KE.KDictPairs
import KE.KDictSum
import KE.KDictCopyH
import HandS.Keys
import HandS.TupSets
import KE.KSortedM
import HandS.DictEq
import HandS.GenList
import PySem.Challenge.RW_arrowsizes_k83_whole_bar_rows_below_othe
import HandS.Wide
import HandS.Words
import HandS.TupMul
section
set_option Elab.async false
set_option linter.all false
set_option maxRecDepth 100000
/-! A data layer over HandS: values that denote PyData; expressions as plain functions of the slots' data. -/
namespace Dl
open PySem PySem.Spec PyProof.Rows L2

abbrev D := PyData
def kD : Key → D
  | .inl i => .int i
  | .inr x => .str x
def keyD (k : List Key) : D := .tuple (k.map kD)
/-- the world that is run in -/
class Wd where
  w : World
/-- dicts: each key with the tuple that stands there -/
abbrev NE := NestedKey × Addr × Value
def entN [Wd] (x : NE) : DictEntry := ⟨x.1.hash Wd.w, .ref x.2.1, x.2.2⟩
/-- a dict's object: its entries, its count of changes -/
def NDO [Wd] (a : Addr) (xs : List NE) (ep : Nat) : HO := .ext fun h => (a == sysModules) = false ∧ (xs.map (·.1)).Nodup ∧ ∃ o es, h.get? a = some o ∧ o.ExactDict ∧ o.data = .dict es ep ∧ es.toList = xs.map entN

/-! ### what a value denotes in a heap of things that stay -/
mutual
inductive Den [Wd] (B : Hp) : V → D → Prop
  | non : Den B .non .none
  | bl (b : Bool) : Den B (.bl b) (.bool b)
  | int (i : Int) : Den B (.int i) (.int i)
  | str (x : Str) : Den B (.str x) (.str x)
  | tup {a : Addr} {xs : List V} {ds : List D} : B a = some (.tup xs) → xs.length ≤ sizeLine → DenA B xs ds → Den B (.ref a) (.tuple ds)
  | lst {a : Addr} {xs : List V} {ds : List D} : B a = some (.lst xs) → xs.length ≤ sizeLine → DenA B xs ds → Den B (.ref a) (.list ds)
  | dct {a : Addr} {xs : List NE} {ep : Nat} {ps : List (D × D)} : B a = some (NDO a xs ep) → xs.length ≤ sizeLine → DenK B xs ps → Den B (.ref a) (.dict ps)
inductive DenA [Wd] (B : Hp) : List V → List D → Prop
  | nil : DenA B [] []
  | cons {v : V} {vs : List V} {d : D} {ds : List D} : Den B v d → DenA B vs ds → DenA B (v :: vs) (d :: ds)
inductive DenK [Wd] (B : Hp) : List NE → List (D × D) → Prop
  | nil : DenK B [] []
  | cons {k : NestedKey} {b : Addr} {v : V} {u : Value} {xs : List NE} {kd d : D} {ps : List (D × D)} : kd = k.data → k.depth ≤ 8 → Den B (.ref b) kd → RelV v u → Den B v d → DenK B xs ps → DenK B ((k, b, u) :: xs) ((kd, d) :: ps)
end

/-- what stays of a heap: tuples, lists, dicts (locked or not) -/
structure Stay (B B' : Hp) : Prop where
  t : ∀ a xs, B a = some (.tup xs) → B' a = some (.tup xs)
  l : ∀ a xs, B a = some (.lst xs) → B' a = some (.lst xs)
  d : ∀ a φ, B a = some (.ext φ) → B' a = some (.ext φ)
theorem Stay.of {B B' : Hp} (h : Same B B') : Stay B B' :=
  ⟨fun a xs e => h _ _ e, fun a xs e => h _ _ e, fun a φ e => h _ _ e⟩
mutual
theorem Den.stay [Wd] {B B' : Hp} (s : Stay B B') : ∀ {v : V} {d : D}, Den B v d → Den B' v d
  | _, _, .non => .non
  | _, _, .bl b => .bl b
  | _, _, .int i => .int i
  | _, _, .str x => .str x
  | _, _, .tup e z h => .tup (s.t _ _ e) z (DenA.stay s h)
  | _, _, .lst e z h => .lst (s.l _ _ e) z (DenA.stay s h)
  | _, _, .dct e z h => .dct (s.d _ _ e) z (DenK.stay s h)
theorem DenA.stay [Wd] {B B' : Hp} (s : Stay B B') : ∀ {vs : List V} {ds : List D}, DenA B vs ds → DenA B' vs ds
  | _, _, .nil => .nil
  | _, _, .cons h t => .cons (Den.stay s h) (DenA.stay s t)
theorem DenK.stay [Wd] {B B' : Hp} (s : Stay B B') : ∀ {vs : List NE} {ds : List (D × D)}, DenK B vs ds → DenK B' vs ds
  | _, _, .nil => .nil
  | _, _, .cons e z k r h t => .cons e z (Den.stay s k) r (Den.stay s h) (DenK.stay s t)
end
theorem Den.mono [Wd] {B B' : Hp} (s : Same B B') {v : V} {d : D} (h : Den B v d) : Den B' v d := h.stay (.of s)
theorem DenA.mono [Wd] {B B' : Hp} (s : Same B B') {v : List V} {d : List D} (h : DenA B v d) : DenA B' v d := h.stay (.of s)
theorem DenK.mono [Wd] {B B' : Hp} (s : Same B B') {v : List NE} {d : List (D × D)} (h : DenK B v d) : DenK B' v d := h.stay (.of s)

/-! no list, no dict within -/
mutual
def flat : D → Bool
  | .none => true
  | .bool _ => true
  | .int _ => true
  | .str _ => true
  | .tuple ds => flatA ds
  | .list _ => false
  | .dict _ => false
def flatA : List D → Bool
  | [] => true
  | d :: ds => flat d && flatA ds
end
mutual
theorem Den.tups [Wd] {B B' : Hp} (s : ∀ a xs, B a = some (.tup xs) → B' a = some (.tup xs)) : ∀ {v : V} {d : D}, flat d = true → Den B v d → Den B' v d
  | _, _, _, .non => .non
  | _, _, _, .bl b => .bl b
  | _, _, _, .int i => .int i
  | _, _, _, .str x => .str x
  | _, _, f, .tup e z h => .tup (s _ _ e) z (DenA.tups s (by simpa [flat] using f) h)
  | _, _, f, .lst _ _ _ => by simp [flat] at f
  | _, _, f, .dct _ _ _ => by simp [flat] at f
theorem DenA.tups [Wd] {B B' : Hp} (s : ∀ a xs, B a = some (.tup xs) → B' a = some (.tup xs)) : ∀ {vs : List V} {ds : List D}, flatA ds = true → DenA B vs ds → DenA B' vs ds
  | _, _, _, .nil => .nil
  | _, _, f, .cons h t => by
    simp only [flatA, Bool.and_eq_true] at f
    exact .cons (Den.tups s f.1 h) (DenA.tups s f.2 t)
end

theorem DenA.length [Wd] {B : Hp} : ∀ {vs : List V} {ds : List D}, DenA B vs ds → vs.length = ds.length
  | _, _, .nil => rfl
  | _, _, .cons _ t => congrArg (· + 1) t.length
theorem DenA.get [Wd] {B : Hp} : ∀ {vs : List V} {ds : List D} {i : Nat} {d : D}, DenA B vs ds → ds[i]? = some d → ∃ v, vs[i]? = some v ∧ Den B v d
  | _, _, _, _, .nil, e => by simp at e
  | _, _, 0, _, .cons h t, e => by simp at e; subst e; exact ⟨_, rfl, h⟩
  | _, _, i + 1, d, .cons h t, e => by
    obtain ⟨v, q, r⟩ := t.get (i := i) (d := d) (by simpa using e)
    exact ⟨v, by simpa using q, r⟩
theorem DenA.get' [Wd] {B : Hp} : ∀ {vs : List V} {ds : List D} {i : Nat} {v : V}, DenA B vs ds → vs[i]? = some v → ∃ d, ds[i]? = some d ∧ Den B v d
  | _, _, _, _, .nil, e => by simp at e
  | _, _, 0, _, .cons h t, e => by simp at e; subst e; exact ⟨_, rfl, h⟩
  | _, _, i + 1, d, .cons h t, e => by
    obtain ⟨v, q, r⟩ := t.get' (i := i) (by simpa using e)
    exact ⟨v, by simpa using q, r⟩
theorem DenA.append [Wd] {B : Hp} : ∀ {vs : List V} {ds : List D} {vs' : List V} {ds' : List D}, DenA B vs ds → DenA B vs' ds' → DenA B (vs ++ vs') (ds ++ ds')
  | _, _, _, _, .nil, h => h
  | _, _, _, _, .cons h t, h' => .cons h (t.append h')
theorem DenA.reverse [Wd] {B : Hp} : ∀ {vs : List V} {ds : List D}, DenA B vs ds → DenA B vs.reverse ds.reverse
  | _, _, .nil => .nil
  | _, _, .cons h t => by
    rw [List.reverse_cons, List.reverse_cons]
    exact t.reverse.append (.cons h .nil)
theorem DenA.take [Wd] {B : Hp} (n : Nat) : ∀ {vs : List V} {ds : List D}, DenA B vs ds → DenA B (vs.take n) (ds.take n) := by
  induction n with
  | zero => intro vs ds _; simp; exact .nil
  | succ n ih => intro vs ds h; cases h with
    | nil => exact .nil
    | cons h t => exact .cons h (ih t)
theorem DenA.drop [Wd] {B : Hp} (n : Nat) : ∀ {vs : List V} {ds : List D}, DenA B vs ds → DenA B (vs.drop n) (ds.drop n) := by
  induction n with
  | zero => intro vs ds h; exact h
  | succ n ih => intro vs ds h; cases h with
    | nil => exact .nil
    | cons h t => exact ih t
theorem DenA.set [Wd] {B : Hp} {v : V} {d : D} (h : Den B v d) : ∀ {vs : List V} {ds : List D} (i : Nat), DenA B vs ds → DenA B (vs.set i v) (ds.set i d)
  | _, _, _, .nil => .nil
  | _, _, 0, .cons _ t => .cons h t
  | _, _, i + 1, .cons q t => .cons q (DenA.set h i t)
theorem DenA.ints [Wd] {B : Hp} : ∀ {vs : List V} {ns : List Int}, DenA B vs (ns.map .int) → vs = ns.map V.int
  | _, [], h => by cases h; rfl
  | _, n :: ns, h => by
    cases h with
    | cons h t =>
      cases h
      rw [t.ints]
      rfl
theorem DenA.bools [Wd] {B : Hp} : ∀ {vs : List V} {ns : List Bool}, DenA B vs (ns.map .bool) → vs = ns.map V.bl
  | _, [], h => by cases h; rfl
  | _, n :: ns, h => by
    cases h with
    | cons h t =>
      cases h
      rw [t.bools]
      rfl
/-! HandS's own relation of data -/
mutual
theorem Den.dp [Wd] {K : PySem.W.Frag} {B H : Hp} (s : Same B H) : ∀ {v : V} {d : D}, SeqAt.shaped d = true ∨ PyData.canLay0 d = true → Den B v d → Dp K H v d
  | _, _, _, .non => .non
  | _, _, _, .bl b => .bl b
  | _, _, _, .int i => .int i
  | _, _, _, .str i => .str i
  | _, .tuple ds, f, .tup e z h => .tup (.of (s _ _ e)) (DenA.dp s (by
      rcases f with f | f
      · have := SeqAt.canLay_of_shaped f
        simpa [PyData.canLay0] using this
      · simpa [PyData.canLay0] using f) h)
  | _, .list ds, f, .lst e z h => .lst (.of (s _ _ e)) (DenA.dp s (by
      rcases f with f | f
      · have := SeqAt.canLay_of_shaped f
        simpa [PyData.canLay0] using this
      · simpa [PyData.canLay0] using f) h)
  | _, .dict ds, f, .dct e z h => by
      exfalso
      rcases f with f | f
      · have := SeqAt.canLay_of_shaped f
        simp [PyData.canLay0] at this
      · simp [PyData.canLay0] at f
theorem DenA.dp [Wd] {K : PySem.W.Frag} {B H : Hp} (s : Same B H) : ∀ {v : List V} {d : List D}, PyData.canLayAll0 d = true → DenA B v d → DpAll K H v d
  | _, _, _, .nil => .nil
  | _, d :: ds, f, .cons h t => by
    simp only [PyData.canLayAll0, Bool.and_eq_true] at f
    exact .cons (Den.dp s (.inr f.1) h) (DenA.dp s f.2 t)
end
end Dl

end
section
set_option Elab.async false
set_option linter.all false
set_option maxRecDepth 100000
set_option autoImplicit false
namespace Dl
open PySem PySem.Spec PyProof.Rows L2

/-! ### slots' data -/
inductive Sl where
  | un
  | val (d : D)
  | own (d : D)
  | raw (v : V)
abbrev En := List Sl

/-- a container that is being built -/
inductive DenO [Wd] (B : Hp) : Addr → HO → D → Prop
  | lst {a : Addr} {vs : List V} {ds : List D} : vs.length ≤ sizeLine → DenA B vs ds → DenO B a (.lst vs) (.list ds)
  | dct {a : Addr} {xs : List NE} {ep : Nat} {ps : List (D × D)} : xs.length ≤ sizeLine → DenK B xs ps → DenO B a (NDO a xs ep) (.dict ps)
theorem DenO.mono [Wd] {B B' : Hp} (s : Same B B') {a : Addr} {o : HO} {d : D} (h : DenO B a o d) : DenO B' a o d := by
  cases h with
  | lst z h => exact .lst z (h.mono s)
  | dct z h => exact .dct z (h.mono s)
theorem DenO.den [Wd] {B : Hp} {a : Addr} {o : HO} {d : D} (h : DenO B a o d) (e : B a = some o) : Den B (.ref a) d := by
  cases h with
  | lst z h => exact .lst e z h
  | dct z h => exact .dct e z h

structure Rep [Wd] (H0 B : Hp) (σ : L2.St) (H : Hp) (ρ : En) : Prop where
  len : σ.length = ρ.length
  sub : Same B H
  val : ∀ (i : Nat) d, ρ[i]? = some (.val d) → ∃ v, σ[i]? = some (some v) ∧ Den B v d
  own : ∀ (i : Nat) d, ρ[i]? = some (.own d) → ∃ o ho, σ[i]? = some (some (V.ref o)) ∧ H0 o = none ∧ B o = none ∧ H o = some ho ∧ DenO B o ho d
  raw : ∀ (i : Nat) v, ρ[i]? = some (.raw v) → σ[i]? = some (some v)
  ne : ∀ (i j : Nat) d e o, ρ[i]? = some (.own d) → ρ[j]? = some (.own e) → σ[i]? = some (some (V.ref o)) → σ[j]? = some (some (V.ref o)) → i = j

/-- the heap goes on, nothing that stood is changed; what is newly frozen is new -/
structure Adv (B H B' H' : Hp) : Prop where
  b : Same B B'
  h : Same H H'
  s : Same B' H'
  n : ∀ a, B a = none → H a ≠ none → B' a = none
theorem Adv.refl {B H : Hp} (s : Same B H) : Adv B H B H := ⟨.refl _, .refl _, s, fun _ e _ => e⟩
theorem Adv.trans {B H B1 H1 B2 H2 : Hp} (p : Adv B H B1 H1) (q : Adv B1 H1 B2 H2) : Adv B H B2 H2 :=
  ⟨p.b.trans q.b, p.h.trans q.h, q.s, fun a e ne => q.n a (p.n a e ne) fun z => by
    cases w : H a with
    | none => exact ne w
    | some o => rw [p.h a o w] at z; cases z⟩
/-- a new thing that is frozen at once -/
theorem Adv.new {B H : Hp} (s : Same B H) {p : Addr} {o : HO} (hp : H p = none) : Adv B H (upd B p o) (upd H p o) := by
  refine ⟨fun a x e => ?_, fun a x e => ?_, fun a x e => ?_, fun a e ne => ?_⟩
  · rw [upd_ne (ne_of_none (s a x e) hp)]; exact e
  · rw [upd_ne (ne_of_none e hp)]; exact e
  · by_cases h : a = p
    · subst h; rw [upd_same] at e ⊢; exact e
    · rw [upd_ne h] at e ⊢; exact s a x e
  · rw [upd_ne (fun z => ne (by rw [z]; exact hp))]; exact e
/-- a new thing that is not frozen -/
theorem Adv.lay {B H : Hp} (s : Same B H) {p : Addr} {o : HO} (hp : H p = none) : Adv B H B (upd H p o) := by
  refine ⟨.refl _, fun a x e => ?_, fun a x e => ?_, fun a e ne => e⟩
  · rw [upd_ne (ne_of_none e hp)]; exact e
  · rw [upd_ne (ne_of_none (s a x e) hp)]; exact s a x e
/-- a thing that stands apart is frozen -/
theorem Adv.freeze {B H B' H' : Hp} (v : Adv B H B' H') {o : Addr} {ho : HO} (e : H' o = some ho) (h0 : H o = none) (hb : B' o = none) : Adv B H (upd B' o ho) H' := by
  refine ⟨fun a x q => ?_, v.h, fun a x q => ?_, fun a q ne => ?_⟩
  · rw [upd_ne (ne_of_none (v.b a x q) hb)]; exact v.b a x q
  · by_cases h : a = o
    · subst h; rw [upd_same] at q; cases q; exact e
    · rw [upd_ne h] at q; exact v.s a x q
  · rw [upd_ne (fun z => ne (by rw [z]; exact h0))]; exact v.n a q ne
theorem none_upd {B : Hp} {o : Addr} {ho : HO} (hb : B o = none) : Same B (upd B o ho) := fun a x e => by rw [upd_ne (ne_of_none e hb)]; exact e

theorem Rep.adv [Wd] {H0 B H B' H' : Hp} {σ : L2.St} {ρ : En} (r : Rep H0 B σ H ρ) (v : Adv B H B' H') : Rep H0 B' σ H' ρ where
  len := r.len
  sub := v.s
  val := fun i d e => by
    obtain ⟨x, h1, h2⟩ := r.val i d e
    exact ⟨x, h1, h2.mono v.b⟩
  own := fun i d e => by
    obtain ⟨o, ho, h1, h2, h3, h4, h5⟩ := r.own i d e
    exact ⟨o, ho, h1, h2, v.n o h3 (by rw [h4]; simp), v.h _ _ h4, h5.mono v.b⟩
  raw := r.raw
  ne := r.ne

/-! ### expressions -/
def Ev [Wd] (t : TE) (m : En → Option D) : Prop := ∀ ρ d, m ρ = some d → ∀ (H0 B : Hp) (σ : L2.St) (H : Hp) (Q : VK), Rep H0 B σ H ρ → (∀ v B' H', Adv B H B' H' → Den B' v d → Q v H') → t σ H Q
/-- a new container, not frozen -/
def EvO [Wd] (t : TE) (m : En → Option D) : Prop := ∀ ρ d, m ρ = some d → ∀ (H0 B : Hp) (σ : L2.St) (H : Hp) (Q : VK), Rep H0 B σ H ρ →
  (∀ o ho B' H', Adv B H B' H' → H o = none → B' o = none → H' o = some ho → DenO B' o ho d → Q (.ref o) H') → t σ H Q
def EvA [Wd] (t : TA) (m : En → Option (List D)) : Prop := ∀ ρ d, m ρ = some d → ∀ (H0 B : Hp) (σ : L2.St) (H : Hp) (Q : List V → Hp → Prop), Rep H0 B σ H ρ → (∀ v B' H', Adv B H B' H' → DenA B' v d → Q v H') → t σ H Q
def EvT [Wd] (t : TT) (m : En → Option Bool) : Prop := ∀ ρ d, m ρ = some d → ∀ (H0 B : Hp) (σ : L2.St) (H : Hp) (Q : Bool → Hp → Prop), Rep H0 B σ H ρ → (∀ B' H', Adv B H B' H' → Q d H') → t σ H Q
theorem EvO.ev [Wd] {t : TE} {m : En → Option D} (h : EvO t m) : Ev t m := fun ρ d e H0 B σ H Q r k =>
  h ρ d e H0 B σ H Q r fun o ho B' H' v h0 hb hh den => k _ _ _ (v.freeze hh h0 hb) ((den.mono (none_upd hb)).den upd_same)

section
variable {ι : Type}
structure PEd [Wd] (X : ι → Cx) (e : Expr) (m : En → Option D) : Prop where
  ex : ∃ t, (∀ i, PE (X i) e t) ∧ Ev t m
structure PEo [Wd] (X : ι → Cx) (e : Expr) (m : En → Option D) : Prop where
  ex : ∃ t, (∀ i, PE (X i) e t) ∧ EvO t m
/-- arguments without a star: as many as are written -/
structure PAd [Wd] (X : ι → Cx) (es : List Expr) (m : En → Option (List D)) : Prop where
  ex : ∃ t, (∀ i, PA (X i) es t) ∧ EvA t m
  len : ∀ ρ ds, m ρ = some ds → ds.length = es.length
/-- with stars -/
structure PAs [Wd] (X : ι → Cx) (es : List Expr) (m : En → Option (List D)) : Prop where
  ex : ∃ t, (∀ i, PA (X i) es t) ∧ EvA t m
structure PTd [Wd] (X : ι → Cx) (e : Expr) (m : En → Option Bool) : Prop where
  ex : ∃ t, (∀ i, PT (X i) e t) ∧ EvT t m
structure PWd [Wd] (X : ι → Cx) (e : Expr) (m : En → Option Bool) : Prop where
  ex : ∃ t, (∀ i, PW (X i) e t) ∧ EvT t m
end

/-! ### the plain functions -/
def mN (i : Nat) : En → Option D := fun ρ => match ρ[i]? with
  | some (.val d) => some d
  | _ => none
def mC (d : D) : En → Option D := fun _ => some d
def aN : En → Option (List D) := fun _ => some []
def aC (m : En → Option D) (ms : En → Option (List D)) : En → Option (List D) := fun ρ => (m ρ).bind fun d => (ms ρ).bind fun ds => some (d :: ds)
def aS (m : En → Option D) (ms : En → Option (List D)) : En → Option (List D) := fun ρ => (m ρ).bind fun d => (ms ρ).bind fun ds => match d with
  | .tuple xs => some (xs ++ ds)
  | .list xs => some (xs ++ ds)
  | _ => none
def mTup (a : En → Option (List D)) : En → Option D := fun ρ => (a ρ).bind fun ds => some (.tuple ds)
def mTupS (a : En → Option (List D)) : En → Option D := fun ρ => (a ρ).bind fun ds => if ds.length ≤ 10000 then some (.tuple ds) else none
def mLst (a : En → Option (List D)) : En → Option D := fun ρ => (a ρ).bind fun ds => some (.list ds)
/-- two values -/
def mB (f : D → D → Option D) (a b : En → Option D) : En → Option D := fun ρ => (a ρ).bind fun x => (b ρ).bind fun y => f x y
/-- one value -/
def mU (f : D → Option D) (a : En → Option D) : En → Option D := fun ρ => (a ρ).bind f
/-- a call: of the arguments -/
def mF (f : List D → Option D) (a : En → Option (List D)) : En → Option D := fun ρ => (a ρ).bind f

theorem bind_some' {α β : Type} {x : Option α} {f : α → Option β} {b : β} (h : x.bind f = some b) : ∃ a, x = some a ∧ f a = some b := by
  cases x with
  | none => cases h
  | some a => exact ⟨a, rfl, h⟩

section
variable {ι : Type} {X : ι → Cx} {e : Expr} {pos : Pos} {m m' : En → Option D} {ms : En → Option (List D)} {es : List Expr}
theorem PEo.ped [Wd] (h : PEo X e m) : PEd X e m := by
  obtain ⟨t, h1, h2⟩ := h.ex
  exact ⟨t, h1, h2.ev⟩
theorem ped_name [Wd] (k : Nat) {x : Str} (hN : ∀ i, (X i).N[k]? = some x) (hv : ∀ i, Vis (X i).env.scope x)
    (hd : (x == ("__debug__" : Str)) = false := by decide) (hcd : (x == ("__classdict__" : Str)) = false := by decide) : PEd X (.Name x pos) (mN k) := by
  refine ⟨tVar k, fun i => pe_var (hN i) (hv i) hd hcd, fun ρ d h H0 B σ H Q r q => ?_⟩
  unfold mN at h
  split at h
  · rename_i d' h'
    cases h
    obtain ⟨v, h1, h2⟩ := r.val _ _ h'
    exact ⟨v, h1, q v B H (.refl r.sub) h2⟩
  · cases h
theorem ped_int [Wd] {j i} : PEd X (.Constant (.int i) j pos) (mC (.int i)) := ⟨_, fun _ => pe_int, fun ρ d h H0 B σ H Q r q => by cases h; exact q _ B H (.refl r.sub) (.int i)⟩
theorem ped_bl [Wd] {j b} : PEd X (.Constant (.bool b) j pos) (mC (.bool b)) := ⟨_, fun _ => pe_bl, fun ρ d h H0 B σ H Q r q => by cases h; exact q _ B H (.refl r.sub) (.bl b)⟩
theorem ped_non [Wd] {j} : PEd X (.Constant .none j pos) (mC .none) := ⟨_, fun _ => pe_non, fun ρ d h H0 B σ H Q r q => by cases h; exact q _ B H (.refl r.sub) .non⟩
/-- a module's int -/
theorem ped_glob [Wd] {x : Str} {z : Int} {t : Tok} (hg : ∀ i, Gl (X i) x) (hm : ∀ i, (X i).mg x = some (.int z t)) (hd : (x == ("__debug__" : Str)) = false := by decide) : PEd X (.Name x pos) (mC (.int z)) :=
  ⟨_, fun i => pe_glob (v := .int z) (hg i) (hm i) ⟨t, rfl⟩ hd, fun ρ d h H0 B σ H Q r q => by cases h; exact q _ B H (.refl r.sub) (.int z)⟩

theorem pad_nil [Wd] : PAd X [] aN := ⟨⟨_, fun _ => pa_nil, fun ρ d h H0 B σ H Q r q => by cases h; exact q _ B H (.refl r.sub) .nil⟩, fun ρ ds h => by cases h; rfl⟩
theorem evA_cons [Wd] {t : TE} {u : TA} (h : Ev t m) (k : EvA u ms) : EvA (tCons t u) (aC m ms) := fun ρ d e H0 B σ H Q r q => by
  obtain ⟨x, ex, e⟩ := bind_some' e
  obtain ⟨xs, exs, e⟩ := bind_some' e
  cases e
  refine h ρ x ex H0 B σ H _ r fun v B1 H1 a1 d1 => ?_
  refine k ρ xs exs H0 B1 σ H1 _ (r.adv a1) fun vs B2 H2 a2 d2 => ?_
  exact q _ B2 H2 (a1.trans a2) (.cons (d1.mono a2.b) d2)
theorem pad_cons [Wd] (h : PEd X e m) (k : PAd X es ms) (hs : ∀ i, starEach (e :: es) (X i).env = (false, eval e (X i).env) :: starEach es (X i).env := by intro _; rfl) : PAd X (e :: es) (aC m ms) := by
  obtain ⟨t, h1, h2⟩ := h.ex
  obtain ⟨u, k1, k2⟩ := k.ex
  refine ⟨⟨tCons t u, fun i => pa_cons (h1 i) (k1 i) (hs i), evA_cons h2 k2⟩, fun ρ ds e => ?_⟩
  obtain ⟨x, ex, e⟩ := bind_some' e
  obtain ⟨xs, exs, e⟩ := bind_some' e
  cases e
  exact congrArg (· + 1) (k.len _ _ exs)
theorem pas_nil [Wd] : PAs X [] aN := ⟨(pad_nil (X := X)).ex⟩
theorem pas_cons [Wd] (h : PEd X e m) (k : PAs X es ms) (hs : ∀ i, starEach (e :: es) (X i).env = (false, eval e (X i).env) :: starEach es (X i).env := by intro _; rfl) : PAs X (e :: es) (aC m ms) := by
  obtain ⟨t, h1, h2⟩ := h.ex
  obtain ⟨u, k1, k2⟩ := k.ex
  exact ⟨tCons t u, fun i => pa_cons (h1 i) (k1 i) (hs i), evA_cons h2 k2⟩
theorem ped_tup [Wd] {x1} (h : PAd X es ms) (hl : es.length ≤ 1000 := by decide) : PEd X (.Tuple es x1 pos) (mTup ms) := by
  obtain ⟨t, h1, h2⟩ := h.ex
  refine ⟨tTup t, fun i => pe_tup (h1 i), fun ρ d e H0 B σ H Q r q => ?_⟩
  obtain ⟨ds, eds, e⟩ := bind_some' e
  cases e
  refine h2 ρ ds eds H0 B σ H _ r fun vs B1 H1 a1 d1 => ?_
  have hz : vs.length ≤ sizeLine := by rw [d1.length, h.len _ _ eds]; exact Nat.le_of_lt (small1000 hl)
  refine ⟨hz, fun p hp => ?_⟩
  exact q _ _ _ (a1.trans (.new a1.s hp)) (.tup upd_same hz (d1.mono (Adv.new a1.s hp).b))
theorem ped_tupS [Wd] {x1} (h : PAs X es ms) : PEd X (.Tuple es x1 pos) (mTupS ms) := by
  obtain ⟨t, h1, h2⟩ := h.ex
  refine ⟨tTup t, fun i => pe_tup (h1 i), fun ρ d e H0 B σ H Q r q => ?_⟩
  obtain ⟨ds, eds, e⟩ := bind_some' e
  split at e
  · rename_i hl
    cases e
    refine h2 ρ ds eds H0 B σ H _ r fun vs B1 H1 a1 d1 => ?_
    have hz : vs.length ≤ sizeLine := by rw [d1.length]; exact Nat.le_trans hl (by decide)
    refine ⟨hz, fun p hp => ?_⟩
    exact q _ _ _ (a1.trans (.new a1.s hp)) (.tup upd_same hz (d1.mono (Adv.new a1.s hp).b))
  · cases e
theorem peo_lst [Wd] (h : PAd X es ms) (hl : es.length ≤ 1000 := by decide) : PEo X (.List es pos) (mLst ms) := by
  obtain ⟨t, h1, h2⟩ := h.ex
  refine ⟨tLst t, fun i => pe_lst (h1 i), fun ρ d e H0 B σ H Q r q => ?_⟩
  obtain ⟨ds, eds, e⟩ := bind_some' e
  cases e
  refine h2 ρ ds eds H0 B σ H _ r fun vs B1 H1 a1 d1 => ?_
  have hz : vs.length ≤ sizeLine := by rw [d1.length, h.len _ _ eds]; exact Nat.le_of_lt (small1000 hl)
  refine ⟨hz, fun p hp => ?_⟩
  exact q _ _ _ _ (a1.trans (.lay a1.s hp)) (a1.h.free hp) (a1.s.free hp) upd_same (.lst hz d1)

/-- an operator on two values that changes nothing -/
def OpD [Wd] (X : Cx) (f : Value → Value → Sem Value) (g : D → D → Option D) : Prop := ∃ r : R2, OpR X f r ∧ ∀ x y d, g x y = some d → ∀ (B H : Hp) (a b : V) (Q : VK), Same B H → Den B a x → Den B b y → (∀ v B' H', Adv B H B' H' → Den B' v d → Q v H') → r a b H Q
def OpE [Wd] (r : R2) (g : D → D → Option D) : Prop := ∀ x y d, g x y = some d → ∀ (B H : Hp) (a b : V) (Q : VK), Same B H → Den B a x → Den B b y → (∀ v B' H', Adv B H B' H' → Den B' v d → Q v H') → r a b H Q
theorem ev_op [Wd] {r : R2} {g : D → D → Option D} {ta tb : TE} (k : OpE r g) (ha : Ev ta m) (hb : Ev tb m') : Ev (tOp r ta tb) (mB g m m') := fun ρ d e H0 B σ H Q rp q => by
  obtain ⟨x, ex, e⟩ := bind_some' e
  obtain ⟨y, ey, e⟩ := bind_some' e
  refine ha ρ x ex H0 B σ H _ rp fun v B1 H1 a1 d1 => ?_
  refine hb ρ y ey H0 B1 σ H1 _ (rp.adv a1) fun u B2 H2 a2 d2 => ?_
  exact k x y d e B2 H2 v u Q a2.s (d1.mono a2.b) d2 fun w B3 H3 a3 d3 => q w B3 H3 ((a1.trans a2).trans a3) d3
theorem ped_op [Wd] {a b : Expr} {op : Operator} {r : R2} {g : D → D → Option D} (ho : ∀ i, OpR (X i) (binaryOp op) r) (k : OpE r g) (ha : PEd X a m) (hb : PEd X b m') : PEd X (.BinOp a op b pos) (mB g m m') := by
  obtain ⟨t, h1, h2⟩ := ha.ex
  obtain ⟨u, k1, k2⟩ := hb.ex
  exact ⟨tOp r t u, fun i => pe_op (ho i) (h1 i) (k1 i), ev_op k h2 k2⟩
theorem ped_cmp [Wd] {a b : Expr} {op : CmpOp} {r : R2} {g : D → D → Option D} (ho : ∀ i, OpR (X i) (compareOp op) r) (k : OpE r g) (ha : PEd X a m) (hb : PEd X b m') (hm : behindInMarks op b = false) : PEd X (.Compare a [op] [b] pos) (mB g m m') := by
  obtain ⟨t, h1, h2⟩ := ha.ex
  obtain ⟨u, k1, k2⟩ := hb.ex
  exact ⟨tOp r t u, fun i => pe_cmpR (ho i) (h1 i) (k1 i) hm, ev_op k h2 k2⟩
end

/-! ### ints -/
def fI (f : Int → Int → D) : D → D → Option D
  | .int i, .int j => some (f i j)
  | _, _ => none
/-- with a condition -/
def fIc (c : Int → Int → Bool) (f : Int → Int → D) : D → D → Option D
  | .int i, .int j => if c i j = true then some (f i j) else none
  | _, _ => none
theorem Den.int_inv [Wd] {B : Hp} {v : V} {i : Int} (h : Den B v (.int i)) : v = .int i := by cases h; rfl
theorem Den.bool_inv [Wd] {B : Hp} {v : V} {i : Bool} (h : Den B v (.bool i)) : v = .bl i := by cases h; rfl
theorem opE_I0 [Wd] {g : Int → Int → V} {f : Int → Int → D} (hg : ∀ (B : Hp) i j, Den B (g i j) (f i j)) : OpE (rI0 g) (fI f) := fun x y d e B H a b Q s ha hb q => by
  unfold fI at e
  split at e
  · rename_i i j
    cases e
    exact ⟨i, j, ha.int_inv, hb.int_inv, q _ B H (.refl s) (hg B i j)⟩
  · cases e
theorem opE_I [Wd] {g : Int → Int → V} {C : Int → Int → Prop} {c : Int → Int → Bool} {f : Int → Int → D} (hC : ∀ i j, c i j = true → C i j) (hg : ∀ (B : Hp) i j, Den B (g i j) (f i j)) : OpE (rI C g) (fIc c f) := fun x y d e B H a b Q s ha hb q => by
  unfold fIc at e
  split at e
  · rename_i i j
    split at e
    · rename_i h
      cases e
      exact ⟨i, j, ha.int_inv, hb.int_inv, hC _ _ h, q _ B H (.refl s) (hg B i j)⟩
    · cases e
  · cases e
def dAdd := fI fun i j => .int (i + j)
def dSub := fI fun i j => .int (i - j)
def dMul := fIc (fun i _ => decide (-(2 ^ 64) < i ∧ i < 2 ^ 64)) fun i j => .int (i * j)
def dDiv := fIc (fun _ j => decide (0 < j ∧ j < 1073741824)) fun i j => .int (i / j)
def dMod := fIc (fun _ j => decide (0 < j)) fun i j => .int (i % j)
def dLt := fI fun i j => .bool (decide (i < j))
def dLe := fI fun i j => .bool (decide (i ≤ j))
def dGt := fI fun i j => .bool (decide (j < i))
def dGe := fI fun i j => .bool (decide (j ≤ i))
section
variable {ι : Type} {X : ι → Cx} {a b : Expr} {pos : Pos} {m m' : En → Option D}
theorem ped_add [Wd] (ha : PEd X a m) (hb : PEd X b m') : PEd X (.BinOp a .Add b pos) (mB dAdd m m') := ped_op (fun _ => op_add) (opE_I0 fun _ i j => .int _) ha hb
theorem ped_sub [Wd] (ha : PEd X a m) (hb : PEd X b m') : PEd X (.BinOp a .Sub b pos) (mB dSub m m') := ped_op (fun _ => op_sub) (opE_I0 fun _ i j => .int _) ha hb
theorem ped_mul [Wd] (ha : PEd X a m) (hb : PEd X b m') : PEd X (.BinOp a .Mult b pos) (mB dMul m m') := ped_op (fun _ => op_mul) (opE_I (fun i j h => .inl (of_decide_eq_true h)) fun _ i j => .int _) ha hb
theorem ped_mod [Wd] (ha : PEd X a m) (hb : PEd X b m') : PEd X (.BinOp a .Mod b pos) (mB dMod m m') := ped_op (fun _ => op_mod) (opE_I (fun i j h => of_decide_eq_true h) fun _ i j => .int _) ha hb
theorem ped_div [Wd] (ha : PEd X a m) (hb : PEd X b m') : PEd X (.BinOp a .FloorDiv b pos) (mB dDiv m m') := ped_op (fun _ => op_fdiv) (opE_I (C := CDiv) (c := fun _ j => decide (0 < j ∧ j < 1073741824)) (fun i j h => (of_decide_eq_true h : 0 < j ∧ j < 1073741824)) fun _ i j => .int _) ha hb
theorem ped_lt [Wd] (ha : PEd X a m) (hb : PEd X b m') : PEd X (.Compare a [.Lt] [b] pos) (mB dLt m m') := ped_cmp (fun _ => op_lt) (opE_I0 fun _ i j => .bl _) ha hb (nomark _)
theorem ped_le [Wd] (ha : PEd X a m) (hb : PEd X b m') : PEd X (.Compare a [.LtE] [b] pos) (mB dLe m m') := ped_cmp (fun _ => op_le) (opE_I0 fun _ i j => .bl _) ha hb (nomark _)
theorem ped_gt [Wd] (ha : PEd X a m) (hb : PEd X b m') : PEd X (.Compare a [.Gt] [b] pos) (mB dGt m m') := ped_cmp (fun _ => op_gt) (opE_I0 fun _ i j => .bl _) ha hb (nomark _)
theorem ped_ge [Wd] (ha : PEd X a m) (hb : PEd X b m') : PEd X (.Compare a [.GtE] [b] pos) (mB dGe m m') := ped_cmp (fun _ => op_ge) (opE_I0 fun _ i j => .bl _) ha hb (nomark _)
end
end Dl

end
section
set_option Elab.async false
set_option linter.all false
set_option maxRecDepth 100000
set_option autoImplicit false
namespace Dl
open PySem PySem.Spec PyProof.Rows L2

/-- room for calls, in a whole family -/
abbrev Rm {ι : Type} (X : ι → Cx) : Prop := ∀ i, Room 0 (X i).A

/-! ### ==, !=, in, not in, is None -/
def dEq : D → D → Option D := fun x y => if (SeqAt.shaped x && SeqAt.shaped y) = true then some (.bool (PyData.eqv x y)) else none
def dNe : D → D → Option D := fun x y => if (SeqAt.shaped x && SeqAt.shaped y) = true then some (.bool (!PyData.eqv x y)) else none
def dIn : D → D → Option D := fun x y => match y with
  | .list ds => if (SeqAt.shaped x && SeqAt.shaped (.list ds)) = true then some (.bool (ds.any fun z => PyData.eqv z x)) else none
  | _ => none
def dNotIn : D → D → Option D := fun x y => match y with
  | .list ds => if (SeqAt.shaped x && SeqAt.shaped (.list ds)) = true then some (.bool (!ds.any fun z => PyData.eqv z x)) else none
  | _ => none
def dIsN : D → D → Option D := fun x y => match y with
  | .none => some (.bool (match x with | .none => true | _ => false))
  | _ => none
theorem opE_eq [Wd] {K : PySem.W.Frag} : OpE (rEqD K) dEq := fun x y d e B H a b Q s ha hb q => by
  unfold dEq at e
  split at e
  · rename_i h
    rw [Bool.and_eq_true] at h
    cases e
    exact ⟨x, y, ha.dp s (.inl h.1), hb.dp s (.inl h.2), h.1, h.2, q _ B H (.refl s) (.bl _)⟩
  · cases e
theorem opE_ne [Wd] {K : PySem.W.Frag} : OpE (rNeD K) dNe := fun x y d e B H a b Q s ha hb q => by
  unfold dNe at e
  split at e
  · rename_i h
    rw [Bool.and_eq_true] at h
    cases e
    exact ⟨x, y, ha.dp s (.inl h.1), hb.dp s (.inl h.2), h.1, h.2, q _ B H (.refl s) (.bl _)⟩
  · cases e
theorem opE_in [Wd] {K : PySem.W.Frag} : OpE (rInD K) dIn := fun x y d e B H a b Q s ha hb q => by
  unfold dIn at e
  split at e
  · split at e
    · rename_i ds h
      rw [Bool.and_eq_true] at h
      cases e
      exact ⟨x, ds, ha.dp s (.inl h.1), hb.dp s (.inl h.2), h.1, h.2, q _ B H (.refl s) (.bl _)⟩
    · cases e
  · cases e
theorem opE_notIn [Wd] {K : PySem.W.Frag} : OpE (rNotInD K) dNotIn := fun x y d e B H a b Q s ha hb q => by
  unfold dNotIn at e
  split at e
  · split at e
    · rename_i ds h
      rw [Bool.and_eq_true] at h
      cases e
      exact ⟨x, ds, ha.dp s (.inl h.1), hb.dp s (.inl h.2), h.1, h.2, q _ B H (.refl s) (.bl _)⟩
    · cases e
  · cases e
theorem opE_isN [Wd] : OpE (fun x y H Q => y = .non ∧ Q (.bl (decide (x = .non))) H) dIsN := fun x y d e B H a b Q s ha hb q => by
  unfold dIsN at e
  split at e
  · cases hb
    cases e
    refine ⟨rfl, ?_⟩
    cases ha <;> exact q _ B H (.refl s) (.bl _)
  · cases e

/-- for every written part at once: the same term for a whole family -/
def rAll (r : PySem.W.Frag → R2) : R2 := fun x y H Q => ∀ K, r K x y H Q
theorem rAll_op {X : Cx} {f : Value → Value → Sem Value} {r : PySem.W.Frag → R2} (h : OpR X f (r X.K)) : OpR X f (rAll r) := fun pins s σ H x y v u Q I rx ry q => h pins s σ H x y v u Q I rx ry (q _)
theorem rAll_ix {X : Cx} {r : PySem.W.Frag → R2} (h : IxR X (r X.K)) : IxR X (rAll r) := fun a b pins s σ H x y v u Q I rx ry q => h a b pins s σ H x y v u Q I rx ry (q _)
theorem rAll_e [Wd] {r : PySem.W.Frag → R2} {g : D → D → Option D} (h : ∀ K, OpE (r K) g) : OpE (rAll r) g := fun x y d e B H a b Q s ha hb q K => h K x y d e B H a b Q s ha hb q
section
variable {ι : Type} {X : ι → Cx} {a b c d : Expr} {pos : Pos} {m m' m2 m3 : En → Option D}
theorem ped_eq [Wd] (hr : Rm X) (ha : PEd X a m) (hb : PEd X b m') : PEd X (.Compare a [.Eq] [b] pos) (mB dEq m m') := ped_cmp (fun i => rAll_op (op_eqD (hr i).units)) (rAll_e fun _ => opE_eq) ha hb (nomark _)
theorem ped_ne [Wd] (hr : Rm X) (ha : PEd X a m) (hb : PEd X b m') : PEd X (.Compare a [.NotEq] [b] pos) (mB dNe m m') := ped_cmp (fun i => rAll_op (op_neD (hr i).units)) (rAll_e fun _ => opE_ne) ha hb (nomark _)
theorem ped_in [Wd] (hr : Rm X) (ha : PEd X a m) (hb : PEd X b m') (hm : behindInMarks .In b = false) : PEd X (.Compare a [.In] [b] pos) (mB dIn m m') := ped_cmp (fun i => rAll_op (op_inD (by have := (hr i).un; omega))) (rAll_e fun _ => opE_in) ha hb hm
theorem ped_notIn [Wd] (hr : Rm X) (ha : PEd X a m) (hb : PEd X b m') (hm : behindInMarks .NotIn b = false) : PEd X (.Compare a [.NotIn] [b] pos) (mB dNotIn m m') := ped_cmp (fun i => rAll_op (op_notInD (by have := (hr i).un; omega))) (rAll_e fun _ => opE_notIn) ha hb hm
theorem ped_isN [Wd] (ha : PEd X a m) (hb : PEd X b m') : PEd X (.Compare a [.Is] [b] pos) (mB dIsN m m') := ped_cmp (fun i => op_isN) opE_isN ha hb (nomark _)
end

/-! ### chains -/
/-- a link's answer -/
def asB : D → Option Bool
  | .bool b => some b
  | _ => none
def mCh2 (f g : D → D → Option D) (a b c : En → Option D) : En → Option D := fun ρ => (a ρ).bind fun x => (b ρ).bind fun y => (f x y).bind fun r => match r with
  | .bool true => (c ρ).bind fun z => g y z
  | .bool false => some (.bool false)
  | _ => none
def mCh3 (f g h : D → D → Option D) (a b c e : En → Option D) : En → Option D := fun ρ => (a ρ).bind fun x => (b ρ).bind fun y => (f x y).bind fun r => match r with
  | .bool true => (c ρ).bind fun z => (g y z).bind fun r => match r with
    | .bool true => (e ρ).bind fun w => h z w
    | .bool false => some (.bool false)
    | _ => none
  | .bool false => some (.bool false)
  | _ => none
def tChain3 (r r' r'' : R2) (ta tb tc td : TE) : TE := fun σ H Q => ta σ H fun x H1 => tb σ H1 fun y H2 => r x y H2 fun z H3 => ∃ k, z = .bl k ∧
  (if k = true then tc σ H3 fun x2 H4 => r' y x2 H4 fun z H5 => ∃ k, z = .bl k ∧ (if k = true then td σ H5 fun x3 H6 => r'' x2 x3 H6 Q else Q (.bl false) H5) else Q (.bl false) H3)
theorem pe_chain3 {X : Cx} {a b c d : Expr} {pos : Pos} {ta tb tc td : TE} {op op' op'' : CmpOp} {r r' r'' : R2} (ho : OpR X (compareOp op) r) (ho' : OpR X (compareOp op') r') (ho'' : OpR X (compareOp op'') r'') (ha : PE X a ta) (hb : PE X b tb) (hc : PE X c tc) (hd : PE X d td)
    (hm : lastMarks [op, op', op''] [b, c, d] = false) : PE X (.Compare a [op, op', op''] [b, c, d] pos) (tChain3 r r' r'' ta tb tc td) := by
  refine ⟨fun pins s σ H Q I h => ?_⟩
  refine Compare_chain (thn (ha.run pins s σ H _ I h) fun v s1 ⟨x, H1, I1, r1, q1⟩ => ?_) hm
  refine chain_link (thn (hb.run pins s1 σ H1 _ I1 q1) fun u s2 ⟨y, H2, I2, r2, q2⟩ => ?_)
  refine thn (ho pins s2 σ H2 x y v u _ I2 r1 r2 q2) fun w s3 ⟨z, H3, I3, r3, k, e, q3⟩ => ?_
  subst e
  cases r3
  refine wpAny_truthy_bool ?_
  cases k with
  | false => exact ite_ff ⟨.bl false, H3, I3, rfl, q3⟩
  | true =>
    refine ite_tt (chain_link (thn (hc.run pins s3 σ H3 _ I3 q3) fun u' s4 ⟨y', H4, I4, r4, q4⟩ => ?_))
    refine thn (ho' pins s4 σ H4 y y' u u' _ I4 r2 r4 q4) fun w s5 ⟨z, H5, I5, r5, k, e, q5⟩ => ?_
    subst e
    cases r5
    refine wpAny_truthy_bool ?_
    cases k with
    | false => exact ite_ff ⟨.bl false, H5, I5, rfl, q5⟩
    | true => exact ite_tt (chain_last (thn (hd.run pins s5 σ H5 _ I5 q5) fun u'' s6 ⟨y'', H6, I6, r6, q6⟩ => ho'' pins s6 σ H6 y' y'' u' u'' Q I6 r4 r6 q6))
theorem ev_link [Wd] {r : R2} {g : D → D → Option D} (k : OpE r g) {x y z : D} (e : g x y = some z) {B H : Hp} {a b : V} {R : V → Hp → Prop} (s : Same B H) (ha : Den B a x) (hb : Den B b y) (q : ∀ v B' H', Adv B H B' H' → Den B' v z → R v H') : r a b H R := k x y z e B H a b R s ha hb q
section
variable {ι : Type} {X : ι → Cx} {a b c d : Expr} {pos : Pos} {m m' m2 m3 : En → Option D}
theorem ped_ch2 [Wd] {op op' : CmpOp} {r r' : R2} {f g : D → D → Option D} (ho : ∀ i, OpR (X i) (compareOp op) r) (ho' : ∀ i, OpR (X i) (compareOp op') r') (k : OpE r f) (k' : OpE r' g) (ha : PEd X a m) (hb : PEd X b m') (hc : PEd X c m2)
    (hm : lastMarks [op, op'] [b, c] = false) : PEd X (.Compare a [op, op'] [b, c] pos) (mCh2 f g m m' m2) := by
  obtain ⟨ta, a1, a2⟩ := ha.ex
  obtain ⟨tb, b1, b2⟩ := hb.ex
  obtain ⟨tc, c1, c2⟩ := hc.ex
  refine ⟨tChain r r' ta tb tc, fun i => pe_chain (ho i) (ho' i) (a1 i) (b1 i) (c1 i) hm, fun ρ d e H0 B σ H Q rp q => ?_⟩
  obtain ⟨x, ex, e⟩ := bind_some' e
  obtain ⟨y, ey, e⟩ := bind_some' e
  obtain ⟨w, ew, e⟩ := bind_some' e
  refine a2 ρ x ex H0 B σ H _ rp fun vx B1 H1 v1 d1 => ?_
  refine b2 ρ y ey H0 B1 σ H1 _ (rp.adv v1) fun vy B2 H2 v2 d2 => ?_
  refine k x y w ew B2 H2 vx vy _ v2.s (d1.mono v2.b) d2 fun vw B3 H3 v3 d3 => ?_
  have r3 := ((rp.adv v1).adv v2).adv v3
  split at e
  · cases d3
    refine ⟨true, rfl, iteT ?_⟩
    obtain ⟨z, ez, e⟩ := bind_some' e
    refine c2 ρ z ez H0 B3 σ H3 _ r3 fun vz B4 H4 v4 d4 => ?_
    exact k' y z d e B4 H4 vy vz Q v4.s (d2.mono (v3.trans v4).b) d4 fun v B5 H5 v5 d5 => q v B5 H5 ((((v1.trans v2).trans v3).trans v4).trans v5) d5
  · cases e
    cases d3
    exact ⟨false, rfl, iteF (q _ B3 H3 ((v1.trans v2).trans v3) (.bl false))⟩
  · cases e
theorem ped_ch3 [Wd] {op op' op'' : CmpOp} {r r' r'' : R2} {f g h : D → D → Option D} (ho : ∀ i, OpR (X i) (compareOp op) r) (ho' : ∀ i, OpR (X i) (compareOp op') r') (ho'' : ∀ i, OpR (X i) (compareOp op'') r'') (k : OpE r f) (k' : OpE r' g) (k'' : OpE r'' h)
    (ha : PEd X a m) (hb : PEd X b m') (hc : PEd X c m2) (hd : PEd X d m3) (hm : lastMarks [op, op', op''] [b, c, d] = false) : PEd X (.Compare a [op, op', op''] [b, c, d] pos) (mCh3 f g h m m' m2 m3) := by
  obtain ⟨ta, a1, a2⟩ := ha.ex
  obtain ⟨tb, b1, b2⟩ := hb.ex
  obtain ⟨tc, c1, c2⟩ := hc.ex
  obtain ⟨td, d1, d2⟩ := hd.ex
  refine ⟨tChain3 r r' r'' ta tb tc td, fun i => pe_chain3 (ho i) (ho' i) (ho'' i) (a1 i) (b1 i) (c1 i) (d1 i) hm, fun ρ d e H0 B σ H Q rp q => ?_⟩
  obtain ⟨x, ex, e⟩ := bind_some' e
  obtain ⟨y, ey, e⟩ := bind_some' e
  obtain ⟨w, ew, e⟩ := bind_some' e
  refine a2 ρ x ex H0 B σ H _ rp fun vx B1 H1 v1 dx => ?_
  refine b2 ρ y ey H0 B1 σ H1 _ (rp.adv v1) fun vy B2 H2 v2 dy => ?_
  refine k x y w ew B2 H2 vx vy _ v2.s (dx.mono v2.b) dy fun vw B3 H3 v3 dw => ?_
  have r3 := ((rp.adv v1).adv v2).adv v3
  split at e
  · cases dw
    refine ⟨true, rfl, iteT ?_⟩
    obtain ⟨z, ez, e⟩ := bind_some' e
    obtain ⟨w2, ew2, e⟩ := bind_some' e
    refine c2 ρ z ez H0 B3 σ H3 _ r3 fun vz B4 H4 v4 dz => ?_
    refine k' y z w2 ew2 B4 H4 vy vz _ v4.s (dy.mono (v3.trans v4).b) dz fun vw2 B5 H5 v5 dw2 => ?_
    split at e
    · cases dw2
      refine ⟨true, rfl, iteT ?_⟩
      obtain ⟨u, eu, e⟩ := bind_some' e
      refine d2 ρ u eu H0 B5 σ H5 _ ((r3.adv v4).adv v5) fun vu B6 H6 v6 du => ?_
      exact k'' z u d e B6 H6 vz vu Q v6.s (dz.mono (v5.trans v6).b) du fun v B7 H7 v7 d7 => q v B7 H7 ((((((v1.trans v2).trans v3).trans v4).trans v5).trans v6).trans v7) d7
    · cases e
      cases dw2
      exact ⟨false, rfl, iteF (q _ B5 H5 ((((v1.trans v2).trans v3).trans v4).trans v5) (.bl false))⟩
    · cases e
  · cases e
    cases dw
    exact ⟨false, rfl, iteF (q _ B3 H3 ((v1.trans v2).trans v3) (.bl false))⟩
  · cases e
theorem opE_lt [Wd] : OpE (rI0 fun i j => .bl (decide (i < j))) dLt := opE_I0 fun _ i j => .bl _
theorem opE_le [Wd] : OpE (rI0 fun i j => .bl (decide (i ≤ j))) dLe := opE_I0 fun _ i j => .bl _
end

/-! ### tests, and, or, not -/
def mAnd (a b : En → Option D) : En → Option D := fun ρ => (a ρ).bind fun x => match x with
  | .bool true => b ρ
  | .bool false => some (.bool false)
  | _ => none
def mOr (a b : En → Option D) : En → Option D := fun ρ => (a ρ).bind fun x => match x with
  | .bool false => b ρ
  | .bool true => some (.bool true)
  | _ => none
def dNot : D → Option D
  | .bool b => some (.bool (!b))
  | _ => none
def qVal (a : En → Option D) : En → Option Bool := fun ρ => (a ρ).bind asB
def qAnd (a b : En → Option Bool) : En → Option Bool := fun ρ => (a ρ).bind fun x => if x = true then b ρ else some false
def qOr (a b : En → Option Bool) : En → Option Bool := fun ρ => (a ρ).bind fun x => if x = true then some true else b ρ
def qNot (a : En → Option Bool) : En → Option Bool := fun ρ => (a ρ).map (!·)
theorem asB_some {x : D} {b : Bool} (h : asB x = some b) : x = .bool b := by
  cases x <;> simp [asB] at h
  rw [h]
section
variable {ι : Type} {X : ι → Cx} {a b c d : Expr} {rest : List Expr} {op : BoolOp} {pos : Pos} {m m' m2 m3 : En → Option D} {q q' : En → Option Bool}
theorem ped_one [Wd] (ha : PEd X a m) : PEd X (.BoolOp op [a] pos) m := by
  obtain ⟨t, h1, h2⟩ := ha.ex
  exact ⟨t, fun i => pe_one (h1 i), h2⟩
theorem ped_and [Wd] (ha : PEd X a m) (hb : PEd X (.BoolOp .And (b :: rest) pos) m') : PEd X (.BoolOp .And (a :: b :: rest) pos) (mAnd m m') := by
  obtain ⟨t, h1, h2⟩ := ha.ex
  obtain ⟨u, k1, k2⟩ := hb.ex
  refine ⟨tAndV t u, fun i => pe_and (h1 i) (k1 i), fun ρ d e H0 B σ H Q rp q => ?_⟩
  obtain ⟨x, ex, e⟩ := bind_some' e
  refine h2 ρ x ex H0 B σ H _ rp fun v B1 H1 v1 d1 => ?_
  split at e
  · cases d1
    exact ⟨true, rfl, iteT (k2 ρ d e H0 B1 σ H1 _ (rp.adv v1) fun v B2 H2 v2 d2 => q v B2 H2 (v1.trans v2) d2)⟩
  · cases e
    cases d1
    exact ⟨false, rfl, iteF (q _ B1 H1 v1 (.bl false))⟩
  · cases e
theorem ped_or [Wd] (ha : PEd X a m) (hb : PEd X (.BoolOp .Or (b :: rest) pos) m') : PEd X (.BoolOp .Or (a :: b :: rest) pos) (mOr m m') := by
  obtain ⟨t, h1, h2⟩ := ha.ex
  obtain ⟨u, k1, k2⟩ := hb.ex
  refine ⟨tOrV t u, fun i => pe_or (h1 i) (k1 i), fun ρ d e H0 B σ H Q rp q => ?_⟩
  obtain ⟨x, ex, e⟩ := bind_some' e
  refine h2 ρ x ex H0 B σ H _ rp fun v B1 H1 v1 d1 => ?_
  split at e
  · cases d1
    exact ⟨false, rfl, iteF (k2 ρ d e H0 B1 σ H1 _ (rp.adv v1) fun v B2 H2 v2 d2 => q v B2 H2 (v1.trans v2) d2)⟩
  · cases e
    cases d1
    exact ⟨true, rfl, iteT (q _ B1 H1 v1 (.bl true))⟩
  · cases e
theorem ped_not [Wd] (ha : PEd X a m) : PEd X (.UnaryOp .Not a pos) (mU dNot m) := by
  obtain ⟨t, h1, h2⟩ := ha.ex
  refine ⟨tNotV t, fun i => pe_not (h1 i), fun ρ d e H0 B σ H Q rp q => ?_⟩
  obtain ⟨x, ex, e⟩ := bind_some' e
  refine h2 ρ x ex H0 B σ H _ rp fun v B1 H1 v1 d1 => ?_
  unfold dNot at e
  split at e
  · cases e
    cases d1
    exact ⟨_, rfl, q _ B1 H1 v1 (.bl _)⟩
  · cases e
theorem ptd_val [Wd] (ha : PEd X a m) (he : ∀ i whole, isTrue a (X i).env whole = (do let v ← whole; standAt a.pos; holding [v] (truthy v)) := by intro _ _; rfl) : PTd X a (qVal m) := by
  obtain ⟨t, h1, h2⟩ := ha.ex
  refine ⟨tB t, fun i => pt_val (h1 i) (he i), fun ρ d e H0 B σ H Q rp q => ?_⟩
  obtain ⟨x, ex, e⟩ := bind_some' e
  refine h2 ρ x ex H0 B σ H _ rp fun v B1 H1 v1 d1 => ?_
  rw [asB_some e] at d1
  cases d1
  exact ⟨_, rfl, q B1 H1 v1⟩
/-- a comparison as a test -/
theorem ptd_cmp [Wd] {op : CmpOp} {r : R2} {g : D → D → Option D} (ho : ∀ i, OpR (X i) (compareOp op) r) (k : OpE r g) (ha : PEd X a m) (hb : PEd X b m') (hm : behindInMarks op b = false) : PTd X (.Compare a [op] [b] pos) (qVal (mB g m m')) := by
  obtain ⟨t, h1, h2⟩ := ha.ex
  obtain ⟨u, k1, k2⟩ := hb.ex
  refine ⟨tTest (tOp r t u), fun i => pt_cmpR (ho i) (h1 i) (k1 i) hm, fun ρ d e H0 B σ H Q rp q => ?_⟩
  obtain ⟨x, ex, e⟩ := bind_some' e
  refine ev_op k h2 k2 ρ x ex H0 B σ H _ rp fun v B1 H1 v1 d1 => ?_
  rw [asB_some e] at d1
  cases d1
  exact ⟨_, rfl, q B1 H1 v1⟩
theorem ptd_ch2 [Wd] {op op' : CmpOp} {r r' : R2} {f g : D → D → Option D} (ho : ∀ i, OpR (X i) (compareOp op) r) (ho' : ∀ i, OpR (X i) (compareOp op') r') (k : OpE r f) (k' : OpE r' g) (ha : PEd X a m) (hb : PEd X b m') (hc : PEd X c m2)
    (hm : lastMarks [op, op'] [b, c] = false) : PTd X (.Compare a [op, op'] [b, c] pos) (qVal (mCh2 f g m m' m2)) := by
  obtain ⟨ta, a1, a2⟩ := ha.ex
  obtain ⟨tb, b1, b2⟩ := hb.ex
  obtain ⟨tc, c1, c2⟩ := hc.ex
  refine ⟨tTest (tChain r r' ta tb tc), fun i => pt_chain (ho i) (ho' i) (a1 i) (b1 i) (c1 i) hm, fun ρ d e H0 B σ H Q rp q => ?_⟩
  obtain ⟨x, ex, e⟩ := bind_some' e
  have hx := asB_some e
  subst hx
  obtain ⟨x, ex', e2⟩ := bind_some' ex
  obtain ⟨y, ey, e2⟩ := bind_some' e2
  obtain ⟨w, ew, e2⟩ := bind_some' e2
  refine a2 ρ x ex' H0 B σ H _ rp fun vx B1 H1 v1 d1 => ?_
  refine b2 ρ y ey H0 B1 σ H1 _ (rp.adv v1) fun vy B2 H2 v2 d2 => ?_
  refine k x y w ew B2 H2 vx vy _ v2.s (d1.mono v2.b) d2 fun vw B3 H3 v3 d3 => ?_
  have r3 := ((rp.adv v1).adv v2).adv v3
  split at e2
  · cases d3
    refine ⟨true, rfl, iteT ?_⟩
    obtain ⟨z, ez, e2⟩ := bind_some' e2
    refine c2 ρ z ez H0 B3 σ H3 _ r3 fun vz B4 H4 v4 d4 => ?_
    refine k' y z _ e2 B4 H4 vy vz _ v4.s (d2.mono (v3.trans v4).b) d4 fun v B5 H5 v5 d5 => ?_
    cases d5
    exact ⟨_, rfl, q B5 H5 ((((v1.trans v2).trans v3).trans v4).trans v5)⟩
  · cases e2
    cases d3
    exact ⟨false, rfl, iteF ⟨_, rfl, q B3 H3 ((v1.trans v2).trans v3)⟩⟩
  · cases e2
theorem PWd.pt [Wd] (h : PWd X a q) : PTd X a q := by
  obtain ⟨t, h1, h2⟩ := h.ex
  exact ⟨t, fun i => (h1 i).pt, h2⟩
theorem pwd_and1 [Wd] (ha : PTd X a q) : PWd X (.BoolOp .And [a] pos) q := by
  obtain ⟨t, h1, h2⟩ := ha.ex
  exact ⟨t, fun i => pw_and1 (h1 i), h2⟩
theorem pwd_or1 [Wd] (ha : PTd X a q) : PWd X (.BoolOp .Or [a] pos) q := by
  obtain ⟨t, h1, h2⟩ := ha.ex
  exact ⟨t, fun i => pw_or1 (h1 i), h2⟩
theorem pwd_and [Wd] (ha : PTd X a q) (hb : PWd X (.BoolOp .And (b :: rest) pos) q') : PWd X (.BoolOp .And (a :: b :: rest) pos) (qAnd q q') := by
  obtain ⟨t, h1, h2⟩ := ha.ex
  obtain ⟨u, k1, k2⟩ := hb.ex
  refine ⟨tAnd t u, fun i => pw_and (h1 i) (k1 i), fun ρ d e H0 B σ H Q rp q => ?_⟩
  obtain ⟨x, ex, e⟩ := bind_some' e
  refine h2 ρ x ex H0 B σ H _ rp fun B1 H1 v1 => ?_
  cases x with
  | true => exact iteT (k2 ρ d (by simpa using e) H0 B1 σ H1 _ (rp.adv v1) fun B2 H2 v2 => q B2 H2 (v1.trans v2))
  | false =>
    cases (show false = d by simpa using e)
    exact iteF (q B1 H1 v1)
theorem pwd_or [Wd] (ha : PTd X a q) (hb : PWd X (.BoolOp .Or (b :: rest) pos) q') : PWd X (.BoolOp .Or (a :: b :: rest) pos) (qOr q q') := by
  obtain ⟨t, h1, h2⟩ := ha.ex
  obtain ⟨u, k1, k2⟩ := hb.ex
  refine ⟨tOr t u, fun i => pw_or (h1 i) (k1 i), fun ρ d e H0 B σ H Q rp q => ?_⟩
  obtain ⟨x, ex, e⟩ := bind_some' e
  refine h2 ρ x ex H0 B σ H _ rp fun B1 H1 v1 => ?_
  cases x with
  | false => exact iteF (k2 ρ d (by simpa using e) H0 B1 σ H1 _ (rp.adv v1) fun B2 H2 v2 => q B2 H2 (v1.trans v2))
  | true =>
    cases (show true = d by simpa using e)
    exact iteT (q B1 H1 v1)
theorem ptd_not [Wd] (ha : PTd X a q) : PTd X (.UnaryOp .Not a pos) (qNot q) := by
  obtain ⟨t, h1, h2⟩ := ha.ex
  refine ⟨tNot t, fun i => pt_not (h1 i), fun ρ d e H0 B σ H Q rp q' => ?_⟩
  unfold qNot at e
  obtain ⟨x, ex, e⟩ := Option.map_eq_some_iff.mp e
  subst e
  exact h2 ρ x ex H0 B σ H _ rp fun B1 H1 v1 => q' B1 H1 v1
end
end Dl

end
section
set_option Elab.async false
set_option linter.all false
set_option maxRecDepth 100000
set_option autoImplicit false
namespace Dl
open PySem PySem.Spec PyProof.Rows L2

/-! ### subscripts -/
def dIx : D → D → Option D
  | .tuple ds, .int i => if 0 ≤ i then ds[i.toNat]? else none
  | .list ds, .int i => if 0 ≤ i then ds[i.toNat]? else none
  | _, _ => none
theorem at_nn {α : Type} {xs : List α} {i : Int} {v : α} (h0 : 0 ≤ i) (h : xs[i.toNat]? = some v) : atI xs i = some v := by
  have := atI_nat h
  rwa [Int.toNat_of_nonneg h0] at this
theorem opE_ix [Wd] {K : PySem.W.Frag} : OpE (rIx K) dIx := fun x y d e B H a b Q s ha hb q => by
  unfold dIx at e
  split at e
  · split at e
    · rename_i ds i h0
      cases ha with
      | tup hB hz hd =>
        obtain ⟨v, h1, h2⟩ := hd.get e
        exact .inr (.inl ⟨_, _, i, v, rfl, hb.int_inv, .of (s _ _ hB), at_nn h0 h1, q v B H (.refl s) h2⟩)
    · cases e
  · split at e
    · rename_i ds i h0
      cases ha with
      | lst hB hz hd =>
        obtain ⟨v, h1, h2⟩ := hd.get e
        exact .inl ⟨_, _, i, v, rfl, hb.int_inv, .of (s _ _ hB), at_nn h0 h1, q v B H (.refl s) h2⟩
    · cases e
  · cases e
section
variable {ι : Type} {X : ι → Cx} {a b c e : Expr} {es : List Expr} {pos p2 : Pos} {m m' m2 : En → Option D} {ms : En → Option (List D)}
theorem ped_ix [Wd] (ha : PEd X a m) (hb : PEd X b m') (hs : PlainIx b := by exact fun _ _ => rfl) : PEd X (.Subscript a b pos) (mB dIx m m') := by
  obtain ⟨t, h1, h2⟩ := ha.ex
  obtain ⟨u, k1, k2⟩ := hb.ex
  exact ⟨tOp (rAll rIx) t u, fun i => pe_ix (rAll_ix ix_seq) (h1 i) (k1 i) hs, ev_op (rAll_e fun _ => opE_ix) h2 k2⟩

/-! ### slices -/
def dSl : D → D → D → Option D
  | .tuple ds, .int i, .int j => if 0 ≤ i ∧ 0 ≤ j then some (.tuple ((ds.drop i.toNat).take (j.toNat - i.toNat))) else none
  | _, _, _ => none
def mSl (a b c : En → Option D) : En → Option D := fun ρ => (a ρ).bind fun x => (b ρ).bind fun y => (c ρ).bind fun z => dSl x y z
theorem cut_nat {α : Type} (xs : List α) (i j : Nat) : (xs.drop (min i xs.length)).take (min j xs.length - min i xs.length) = (xs.drop i).take (j - i) := by
  by_cases hi : i ≤ xs.length
  · rw [Nat.min_eq_left hi]
    by_cases hj : j ≤ xs.length
    · rw [Nat.min_eq_left hj]
    · rw [Nat.min_eq_right (by omega), List.take_of_length_le (by rw [List.length_drop]; omega), List.take_of_length_le (by rw [List.length_drop]; omega)]
  · rw [List.drop_of_length_le (show xs.length ≤ min i xs.length by omega), List.drop_of_length_le (show xs.length ≤ i by omega)]
    simp
theorem rSlA_all {X : Cx} {r : PySem.W.Frag → V → Option Int → Option Int → Hp → VK → Prop} (h : SlR X (r X.K)) : SlR X (fun x lo hi H Q => ∀ K, r K x lo hi H Q) := fun pins s σ H x v vl vu lo hi sl Q I rx hs pl pu q => h pins s σ H x v vl vu lo hi sl Q I rx hs pl pu (q _)
theorem ped_slT [Wd] (ha : PEd X a m) (hb : PEd X b m') (hc : PEd X c m2) : PEd X (.Subscript a (.Slice (some b) (some c) none p2) pos) (mSl m m' m2) := by
  obtain ⟨ta, a1, a2⟩ := ha.ex
  obtain ⟨tb, b1, b2⟩ := hb.ex
  obtain ⟨tc, c1, c2⟩ := hc.ex
  refine ⟨tSl (fun x lo hi H Q => ∀ K, rSlA K x lo hi H Q) ta (tPart tb) (tPart tc), fun i => pe_slice (rSlA_all sl_tupA) (a1 i) (po_some (b1 i)) (po_some (c1 i)), fun ρ d e H0 B σ H Q rp q => ?_⟩
  obtain ⟨x, ex, e1⟩ := bind_some' e
  obtain ⟨y, ey, e2⟩ := bind_some' e1
  obtain ⟨z, ez, e3⟩ := bind_some' e2
  clear e e1 e2
  refine a2 ρ x ex H0 B σ H _ rp fun vx B1 H1 v1 d1 => ?_
  refine b2 ρ y ey H0 B1 σ H1 _ (rp.adv v1) fun vy B2 H2 v2 d2 => ?_
  unfold dSl at e3
  split at e3
  · rename_i ds i j
    split at e3
    · rename_i hij
      cases e3
      refine ⟨i, d2.int_inv, ?_⟩
      refine c2 ρ _ ez H0 B2 σ H2 _ ((rp.adv v1).adv v2) fun vz B3 H3 v3 d3 => ?_
      refine ⟨j, d3.int_inv, fun K => ?_⟩
      have d1 := d1.mono (v2.trans v3).b
      cases d1 with
      | @tup aa xs _ hB hz hd =>
        have hv := ((v1.trans v2).trans v3)
        have e1 : HT.sIx xs.length 0 (some i) = min i.toNat xs.length := by
          have := HT.sIx_nat xs.length 0 i.toNat
          rwa [Int.toNat_of_nonneg hij.1] at this
        have e2 : HT.sIx xs.length xs.length (some j) = min j.toNat xs.length := by
          have := HT.sIx_nat xs.length xs.length j.toNat
          rwa [Int.toNat_of_nonneg hij.2] at this
        have hdd : DenA B3 ((xs.drop i.toNat).take (j.toNat - i.toNat)) ((ds.drop i.toNat).take (j.toNat - i.toNat)) := (hd.drop _).take _
        have ec : cutV xs (some i) (some j) = (xs.drop i.toNat).take (j.toNat - i.toNat) := by
          unfold cutV
          rw [e1, e2]
          exact cut_nat xs _ _
        have hzz : ((xs.drop i.toNat).take (j.toNat - i.toNat)).length ≤ sizeLine := by
          rw [List.length_take, List.length_drop]
          omega
        refine ⟨_, xs, rfl, .of (hv.s _ _ hB), fun hw => ?_, fun _ p hp => ?_⟩
        · rw [e1, e2] at hw
          have eq : (ds.drop i.toNat).take (j.toNat - i.toNat) = ds := by
            have hl := hd.length
            rw [← cut_nat, ← hl, hw.1, hw.2, List.drop_zero, Nat.sub_zero, hl, List.take_length]
          rw [eq] at q
          exact q _ B3 H3 hv (.tup hB hz hd)
        · rw [ec]
          exact q _ _ _ (hv.trans (.new hv.s hp)) (.tup upd_same hzz (hdd.mono (Adv.new hv.s hp).b))
    · cases e3
  · cases e3
/-- a reading may be weakened -/
def tTm (t : TE) : TE := fun σ H Q => ∃ Q0 : VK, t σ H Q0 ∧ ∀ x H1, Q0 x H1 → Q x H1
theorem pe_tm {X : Cx} {e : Expr} {t : TE} (h : PE X e t) : PE X e (tTm t) := ⟨fun pins s σ H Q I ⟨Q0, h0, k⟩ => thn (h.run pins s σ H Q0 I h0) fun u s1 ⟨x, H1, I1, r1, q1⟩ => ⟨x, H1, I1, r1, k x H1 q1⟩⟩
def tTmA (t : TA) : TA := fun σ H Q => ∃ Q0 : List V → Hp → Prop, t σ H Q0 ∧ ∀ x H1, Q0 x H1 → Q x H1
theorem pa_tm {X : Cx} {e : List Expr} {t : TA} (h : PA X e t) : PA X e (tTmA t) := ⟨fun pos pins s σ H Q I ⟨Q0, h0, k⟩ => thn (h.run pos pins s σ H Q0 I h0) fun u s1 ⟨x, H1, I1, r1, q1⟩ => ⟨x, H1, I1, r1, k x H1 q1⟩⟩
/-- xs[::-1] -/
def dRev : D → Option D
  | .list ds => some (.list ds.reverse)
  | _ => none
theorem peo_rev [Wd] {k : Nat} {p1 p2 p3 : Pos} (ha : PEd X a m) : PEo X (.Subscript a (.Slice none none (some (.UnaryOp .USub (.Constant (.int 1) k p1) p2)) p3) pos) (mU dRev m) := by
  obtain ⟨t, h1, h2⟩ := ha.ex
  refine ⟨fun σ H Q => t σ H fun x H1 => ∀ K, ∃ a xs, x = .ref a ∧ SqL K H1 a xs ∧ ∀ p, H1 p = none → Q (.ref p) (upd H1 p (.lst xs.reverse)), fun i => ⟨fun pins s σ H Q I h => (pe_revL (pe_tm (h1 i))).run pins s σ H Q I ⟨_, h, fun x H1 q => q _⟩⟩, fun ρ d e H0 B σ H Q rp q => ?_⟩
  · obtain ⟨x, ex, e⟩ := bind_some' e
    refine h2 ρ x ex H0 B σ H _ rp fun v B1 H1 v1 d1 => ?_
    unfold dRev at e
    split at e
    · cases e
      intro K
      cases d1 with
      | lst hB hz hd =>
        exact ⟨_, _, rfl, .of (v1.s _ _ hB), fun p hp => q _ _ _ _ (v1.trans (.lay v1.s hp)) (v1.h.free hp) (v1.s.free hp) upd_same (.lst (by rw [List.length_reverse]; exact hz) hd.reverse)⟩
    · cases e
end

/-! ### calls of built-ins -/
abbrev RC := List V → Hp → VK → Prop
def CalE [Wd] (r : RC) (f : List D → Option D) : Prop := ∀ ds d, f ds = some d → ∀ (B H : Hp) (vs : List V) (Q : VK), Same B H → DenA B vs ds → (∀ v B' H', Adv B H B' H' → Den B' v d → Q v H') → r vs H Q
def CalO [Wd] (r : RC) (f : List D → Option D) : Prop := ∀ ds d, f ds = some d → ∀ (B H : Hp) (vs : List V) (Q : VK), Same B H → DenA B vs ds → (∀ o ho B' H', Adv B H B' H' → H o = none → B' o = none → H' o = some ho → DenO B' o ho d → Q (.ref o) H') → r vs H Q
def rcAll (r : PySem.W.Frag → RC) : RC := fun vs H Q => ∀ K, r K vs H Q
theorem rcAll_c {X : Cx} {f : Value} {r : PySem.W.Frag → RC} (h : CallR X f (r X.K)) : CallR X f (rcAll r) := fun pins s σ H xs us Q I rv q => h pins s σ H xs us Q I rv (q _)
theorem rcAll_e [Wd] {r : PySem.W.Frag → RC} {f : List D → Option D} (h : ∀ K, CalE (r K) f) : CalE (rcAll r) f := fun ds d e B H vs Q s ha q K => h K ds d e B H vs Q s ha q
theorem rcAll_o [Wd] {r : PySem.W.Frag → RC} {f : List D → Option D} (h : ∀ K, CalO (r K) f) : CalO (rcAll r) f := fun ds d e B H vs Q s ha q K => h K ds d e B H vs Q s ha q
section
variable {ι : Type} {X : ι → Cx} {e : Expr} {es : List Expr} {pos p : Pos} {ms : En → Option (List D)} {x : Str} {r : RC} {f : List D → Option D} {id : String}
theorem ev_cal [Wd] {t : TA} (k : CalE r f) (h : EvA t ms) : Ev (tCB r t) (mF f ms) := fun ρ d e H0 B σ H Q rp q => by
  obtain ⟨ds, ed, e⟩ := bind_some' e
  exact h ρ ds ed H0 B σ H _ rp fun vs B1 H1 v1 d1 => k ds d e B1 H1 vs Q v1.s d1 fun v B2 H2 v2 d2 => q v B2 H2 (v1.trans v2) d2
theorem ev_calO [Wd] {t : TA} (k : CalO r f) (h : EvA t ms) : EvO (tCB r t) (mF f ms) := fun ρ d e H0 B σ H Q rp q => by
  obtain ⟨ds, ed, e⟩ := bind_some' e
  exact h ρ ds ed H0 B σ H _ rp fun vs B1 H1 v1 d1 => k ds d e B1 H1 vs Q v1.s d1 fun o ho B2 H2 v2 h0 h3 h4 d2 => q o ho B2 H2 (v1.trans v2) (v1.h.free h0) h3 h4 d2
theorem ped_callB [Wd] (hc : ∀ i, CallR (X i) (.builtin id) r) (k : CalE r f) (hg : ∀ i, Gl (X i) x) (hm : ∀ i, (X i).mg x = none) (hv : bootBuiltins x = some (.builtin id)) (ha : PAd X (e :: es) ms) (hn : x ≠ "__name__" := by decide) (hdb : (x == ("__debug__" : Str)) = false := by decide)
    (he : ∀ i, starEach (e :: es) (X i).env = (false, eval e (X i).env) :: starEach es (X i).env := by intro _; rfl) (hpl : ∀ i, (backTo pos (starEach es (X i).env)).any (·.1) = false := by intro _; rfl) : PEd X (.Call (.Name x p) (e :: es) [] pos) (mF f ms) := by
  obtain ⟨t, h1, h2⟩ := ha.ex
  exact ⟨tCB r t, fun i => pe_callB (hc i) (hg i) (hm i) hv (h1 i) hn hdb (he i) (hpl i), ev_cal k h2⟩
theorem peo_callB [Wd] (hc : ∀ i, CallR (X i) (.builtin id) r) (k : CalO r f) (hg : ∀ i, Gl (X i) x) (hm : ∀ i, (X i).mg x = none) (hv : bootBuiltins x = some (.builtin id)) (ha : PAd X (e :: es) ms) (hn : x ≠ "__name__" := by decide) (hdb : (x == ("__debug__" : Str)) = false := by decide)
    (he : ∀ i, starEach (e :: es) (X i).env = (false, eval e (X i).env) :: starEach es (X i).env := by intro _; rfl) (hpl : ∀ i, (backTo pos (starEach es (X i).env)).any (·.1) = false := by intro _; rfl) : PEo X (.Call (.Name x p) (e :: es) [] pos) (mF f ms) := by
  obtain ⟨t, h1, h2⟩ := ha.ex
  exact ⟨tCB r t, fun i => pe_callB (hc i) (hg i) (hm i) hv (h1 i) hn hdb (he i) (hpl i), ev_calO k h2⟩
theorem ped_callTy [Wd] (hc : ∀ i, CallR (X i) (.type id) r) (k : CalE r f) (hg : ∀ i, Gl (X i) x) (hm : ∀ i, (X i).mg x = none) (hv : bootBuiltins x = some (.type id)) (ha : PAd X (e :: es) ms) (hn : x ≠ "__name__" := by decide) (hdb : (x == ("__debug__" : Str)) = false := by decide)
    (he : ∀ i, starEach (e :: es) (X i).env = (false, eval e (X i).env) :: starEach es (X i).env := by intro _; rfl) (hpl : ∀ i, (backTo pos (starEach es (X i).env)).any (·.1) = false := by intro _; rfl) : PEd X (.Call (.Name x p) (e :: es) [] pos) (mF f ms) := by
  obtain ⟨t, h1, h2⟩ := ha.ex
  exact ⟨tCB r t, fun i => pe_callTy (hc i) (hg i) (hm i) hv (h1 i) hn hdb (he i) (hpl i), ev_cal k h2⟩
theorem peo_callTy [Wd] (hc : ∀ i, CallR (X i) (.type id) r) (k : CalO r f) (hg : ∀ i, Gl (X i) x) (hm : ∀ i, (X i).mg x = none) (hv : bootBuiltins x = some (.type id)) (ha : PAd X (e :: es) ms) (hn : x ≠ "__name__" := by decide) (hdb : (x == ("__debug__" : Str)) = false := by decide)
    (he : ∀ i, starEach (e :: es) (X i).env = (false, eval e (X i).env) :: starEach es (X i).env := by intro _; rfl) (hpl : ∀ i, (backTo pos (starEach es (X i).env)).any (·.1) = false := by intro _; rfl) : PEo X (.Call (.Name x p) (e :: es) [] pos) (mF f ms) := by
  obtain ⟨t, h1, h2⟩ := ha.ex
  exact ⟨tCB r t, fun i => pe_callTy (hc i) (hg i) (hm i) hv (h1 i) hn hdb (he i) (hpl i), ev_calO k h2⟩
end
theorem DenA.one [Wd] {B : Hp} {vs : List V} {d : D} (h : DenA B vs [d]) : ∃ v, vs = [v] ∧ Den B v d := by
  cases h with
  | cons h t => cases t; exact ⟨_, rfl, h⟩
theorem DenA.two [Wd] {B : Hp} {vs : List V} {d e : D} (h : DenA B vs [d, e]) : ∃ v w, vs = [v, w] ∧ Den B v d ∧ Den B w e := by
  cases h with
  | cons h t =>
    obtain ⟨w, rfl, h2⟩ := t.one
    exact ⟨_, _, rfl, h, h2⟩
/-- a list or a tuple, as data -/
def items : D → Option (List D)
  | .list ds => some ds
  | .tuple ds => some ds
  | _ => none
theorem Den.items [Wd] {B : Hp} {v : V} {d : D} {ds : List D} (h : Den B v d) (e : items d = some ds) : ∃ a vs, v = .ref a ∧ (B a = some (.lst vs) ∨ B a = some (.tup vs)) ∧ vs.length ≤ sizeLine ∧ DenA B vs ds := by
  cases h <;> simp [Dl.items] at e
  · subst e; exact ⟨_, _, rfl, .inr (by assumption), by assumption, by assumption⟩
  · subst e; exact ⟨_, _, rfl, .inl (by assumption), by assumption, by assumption⟩
theorem sq_or {K : PySem.W.Frag} {B H : Hp} {a : Addr} {vs : List V} (s : Same B H) (h : B a = some (.lst vs) ∨ B a = some (.tup vs)) : SqL K H a vs ∨ SqT K H a vs := by
  rcases h with h | h
  · exact .inl (.of (s _ _ h))
  · exact .inr (.of (s _ _ h))
/-! len, list, tuple -/
def fLen : List D → Option D
  | [d] => (items d).map fun ds => .int ds.length
  | _ => none
theorem calE_len [Wd] {K : PySem.W.Frag} : CalE (fun xs H Q => ∃ p ys, xs = [.ref p] ∧ (SqL K H p ys ∨ SqT K H p ys) ∧ Q (.int ys.length) H) fLen := fun ds d e B H vs Q s ha q => by
  unfold fLen at e
  split at e
  · obtain ⟨ys, ei, e⟩ := Option.map_eq_some_iff.mp e
    subst e
    obtain ⟨v, rfl, hv⟩ := ha.one
    obtain ⟨a, us, rfl, h1, h2, h3⟩ := hv.items ei
    refine ⟨a, us, rfl, sq_or s h1, ?_⟩
    rw [h3.length]
    exact q _ B H (.refl s) (.int _)
  · cases e
def fList : List D → Option D
  | [d] => (items d).map fun ds => .list ds
  | _ => none
theorem calO_list [Wd] {K : PySem.W.Frag} : CalO (fun xs H Q => ∃ p ys, xs = [.ref p] ∧ (SqL K H p ys ∨ SqT K H p ys) ∧ ∀ l, H l = none → Q (.ref l) (upd H l (.lst ys))) fList := fun ds d e B H vs Q s ha q => by
  unfold fList at e
  split at e
  · obtain ⟨ys, ei, e⟩ := Option.map_eq_some_iff.mp e
    subst e
    obtain ⟨v, rfl, hv⟩ := ha.one
    obtain ⟨a, us, rfl, h1, h2, h3⟩ := hv.items ei
    exact ⟨a, us, rfl, sq_or s h1, fun l hl => q _ _ _ _ (.lay s hl) hl (s.free hl) upd_same (.lst h2 h3)⟩
  · cases e
def fTuple : List D → Option D
  | [d] => (items d).map fun ds => .tuple ds
  | _ => none
theorem calE_tuple [Wd] {K : PySem.W.Frag} : CalE (fun xs H Q => ∃ p ys, xs = [.ref p] ∧ ((SqL K H p ys ∧ ∀ l, H l = none → Q (.ref l) (upd H l (.tup ys))) ∨ (SqT K H p ys ∧ Q (.ref p) H))) fTuple := fun ds d e B H vs Q s ha q => by
  unfold fTuple at e
  split at e
  · obtain ⟨ys, ei, e⟩ := Option.map_eq_some_iff.mp e
    subst e
    obtain ⟨v, rfl, hv⟩ := ha.one
    obtain ⟨a, us, rfl, h1, h2, h3⟩ := hv.items ei
    refine ⟨a, us, rfl, ?_⟩
    rcases h1 with h1 | h1
    · exact .inl ⟨.of (s _ _ h1), fun l hl => q _ _ _ (.new s hl) (.tup upd_same h2 (h3.mono (Adv.new s hl).b))⟩
    · exact .inr ⟨.of (s _ _ h1), q _ B H (.refl s) (.tup h1 h2 h3)⟩
  · cases e
/-! sum, all, max, min -/
def ints? : List D → Option (List Int)
  | [] => some []
  | .int i :: ds => (ints? ds).map (i :: ·)
  | _ => none
def bools? : List D → Option (List Bool)
  | [] => some []
  | .bool i :: ds => (bools? ds).map (i :: ·)
  | _ => none
theorem ints?_some : ∀ {ds : List D} {ns : List Int}, ints? ds = some ns → ds = ns.map .int
  | [], ns, h => by cases h; rfl
  | .int i :: ds, ns, h => by
    obtain ⟨ms, h1, h2⟩ := Option.map_eq_some_iff.mp h
    subst h2
    rw [ints?_some h1]
    rfl
  | .none :: _, _, h => by simp [ints?] at h
  | .bool _ :: _, _, h => by simp [ints?] at h
  | .str _ :: _, _, h => by simp [ints?] at h
  | .list _ :: _, _, h => by simp [ints?] at h
  | .tuple _ :: _, _, h => by simp [ints?] at h
  | .dict _ :: _, _, h => by simp [ints?] at h
theorem bools?_some : ∀ {ds : List D} {ns : List Bool}, bools? ds = some ns → ds = ns.map .bool
  | [], ns, h => by cases h; rfl
  | .bool i :: ds, ns, h => by
    obtain ⟨ms, h1, h2⟩ := Option.map_eq_some_iff.mp h
    subst h2
    rw [bools?_some h1]
    rfl
  | .none :: _, _, h => by simp [bools?] at h
  | .int _ :: _, _, h => by simp [bools?] at h
  | .str _ :: _, _, h => by simp [bools?] at h
  | .list _ :: _, _, h => by simp [bools?] at h
  | .tuple _ :: _, _, h => by simp [bools?] at h
  | .dict _ :: _, _, h => by simp [bools?] at h
theorem ints?_map : ∀ ns : List Int, ints? (ns.map .int) = some ns
  | [] => rfl
  | n :: ns => by simp [ints?, ints?_map ns]
theorem bools?_map : ∀ ns : List Bool, bools? (ns.map .bool) = some ns
  | [] => rfl
  | n :: ns => by simp [bools?, bools?_map ns]
def fSum : List D → Option D
  | [.list ds] => (ints? ds).map fun ns => .int ns.sum
  | _ => none
def fAll : List D → Option D
  | [.list ds] => (bools? ds).map fun ns => .bool (ns.all id)
  | _ => none
theorem calE_sum [Wd] {K : PySem.W.Frag} : CalE (rSum K) fSum := fun ds d e B H vs Q s ha q => by
  unfold fSum at e
  split at e
  · obtain ⟨ns, ei, e⟩ := Option.map_eq_some_iff.mp e
    subst e
    obtain ⟨v, rfl, hv⟩ := ha.one
    rw [ints?_some ei] at hv
    cases hv with
    | lst h1 h2 h3 =>
      rw [h3.ints] at h1
      exact ⟨_, ns, rfl, .of (s _ _ h1), q _ B H (.refl s) (.int _)⟩
  · cases e
theorem calE_all [Wd] {K : PySem.W.Frag} : CalE (L2.rAll K) fAll := fun ds d e B H vs Q s ha q => by
  unfold fAll at e
  split at e
  · obtain ⟨ns, ei, e⟩ := Option.map_eq_some_iff.mp e
    subst e
    obtain ⟨v, rfl, hv⟩ := ha.one
    rw [bools?_some ei] at hv
    cases hv with
    | lst h1 h2 h3 =>
      rw [h3.bools] at h1
      exact ⟨_, ns, rfl, .of (s _ _ h1), q _ B H (.refl s) (.bl _)⟩
  · cases e
/-- min, max of a tuple or list of ints -/
def rMn (mx : Bool) (K : PySem.W.Frag) : RC := fun vs H Q => ∃ (a : Addr) (n : Int) (ns : List Int), vs = [V.ref a] ∧ (SqL K H a ((n :: ns).map V.int) ∨ SqT K H a ((n :: ns).map V.int)) ∧ Q (.int (if mx = true then ns.foldl max n else ns.foldl min n)) H
theorem readsAll_ints {h : Heap} : ∀ {us : List Value} {ns : List Int}, Vals (ns.map V.int) us → ∃ as, ReadsAll h us (ns.map .int) as
  | _, [], r => by cases r; exact ⟨_, .nil⟩
  | _, n :: ns, r => by
    cases r with
    | cons r t =>
      obtain ⟨as, q⟩ := readsAll_ints (ns := ns) t
      obtain ⟨t, rfl⟩ := r
      exact ⟨_, .cons (.int n t) q⟩
theorem alike_ints' : ∀ ns : List Int, PySem.W.AlikeAll (ns.map .int) := fun ns => PySem.W.alikeAll_datum ns
theorem reads_int {h : Heap} {v : Value} {i : Int} {as : List Addr} (r : Reads h v (.int i) as) : ∃ t, v = .int i t := by cases r; exact ⟨_, rfl⟩
end Dl

end
section
set_option Elab.async false
set_option linter.all false
set_option maxRecDepth 100000
set_option autoImplicit false
namespace Dl
open PySem PySem.Spec PyProof.Rows L2

/-! ### min, max of ints -/
theorem mn_list {X : Cx} {pins : List (Addr × Obj)} {σ : L2.St} {H : Hp} {s : Shared} {a : Addr} {xs : List V} (I : Inv X pins σ H s) (h : SqL X.K H a xs ∨ SqT X.K H a xs) :
    ∃ its : List Value, Vals xs its ∧ (s.heap.IsList a its.toArray ∨ s.heap.IsTuple a its.toArray) := by
  rcases h with h | h
  · obtain ⟨its, rv, p, _⟩ := I.list h
    exact ⟨its, rv, .inl p.isList⟩
  · obtain ⟨its, rv, p, _⟩ := I.tuple h
    exact ⟨its, rv, .inr p⟩
theorem dAll_ints (n : Int) (ns : List Int) : PyData.depthAll (.int n :: ns.map .int) = 0 := PySem.W.depth_ints (n :: ns)
theorem cr_min1 {X : Cx} (hr : Room 0 X.A) : CallR X (.builtin "min") (rMn false X.K) := by
  intro pins s σ H vs us Q I r h
  obtain ⟨a, n, ns, rfl, hq, q⟩ := h
  obtain ⟨u, rfl, ru⟩ := vals1 r
  obtain rfl : u = Value.ref a := ru
  obtain ⟨its, rv, hl⟩ := mn_list I hq
  obtain ⟨as, hrd⟩ := readsAll_ints rv
  have hrd' : ReadsAll s.heap its.toArray.toList (PyData.int n :: ns.map PyData.int) as := hrd
  have ha : PySem.W.AlikeAll (PyData.int n :: ns.map PyData.int) := alike_ints' (n :: ns)
  have hu : X.A.units + 1 + PyData.depthAll (PyData.int n :: ns.map PyData.int) < cLine := by
    rw [dAll_ints]
    have := hr.un
    omega
  have fin : ∀ (i : Nat) (v : Value) (h' : Heap) (tk : Nat) (bs : List Addr), its.toArray[i]? = some v → Reads h' v (PySem.W.minD (PyData.int n) (ns.map PyData.int)) bs → (∀ b o, s.heap.get? b = some o → h'.get? b = some o) → EP X pins σ Q v { s with heap := h', toks := tk } := fun i v h' tk bs _ hv hk => by
    rw [PySem.W.minD_ints] at hv
    obtain ⟨t, rfl⟩ := reads_int hv
    exact ⟨.int _, H, I.kept (t' := tk) hk, ⟨t, rfl⟩, q⟩
  rcases hl with hl | hl
  · exact PySem.W.min_list_data hr.hd hl hrd' ha hu fin
  · exact PySem.W.min_tuple_data hr.hd hl hrd' ha hu fin
theorem cr_max1 {X : Cx} (hr : Room 0 X.A) : CallR X (.builtin "max") (rMn true X.K) := by
  intro pins s σ H vs us Q I r h
  obtain ⟨a, n, ns, rfl, hq, q⟩ := h
  obtain ⟨u, rfl, ru⟩ := vals1 r
  obtain rfl : u = Value.ref a := ru
  obtain ⟨its, rv, hl⟩ := mn_list I hq
  obtain ⟨as, hrd⟩ := readsAll_ints rv
  have hrd' : ReadsAll s.heap its.toArray.toList (PyData.int n :: ns.map PyData.int) as := hrd
  have ha : PySem.W.AlikeAll (PyData.int n :: ns.map PyData.int) := alike_ints' (n :: ns)
  have hu : X.A.units + 1 + PyData.depthAll (PyData.int n :: ns.map PyData.int) < cLine := by
    rw [dAll_ints]
    have := hr.un
    omega
  have fin : ∀ (i : Nat) (v : Value) (h' : Heap) (tk : Nat) (bs : List Addr), its.toArray[i]? = some v → Reads h' v (PySem.W.maxD (PyData.int n) (ns.map PyData.int)) bs → (∀ b o, s.heap.get? b = some o → h'.get? b = some o) → EP X pins σ Q v { s with heap := h', toks := tk } := fun i v h' tk bs _ hv hk => by
    rw [PySem.W.maxD_ints] at hv
    obtain ⟨t, rfl⟩ := reads_int hv
    exact ⟨.int _, H, I.kept (t' := tk) hk, ⟨t, rfl⟩, q⟩
  rcases hl with hl | hl
  · exact PySem.W.max_list_data hr.hd hl hrd' ha hu fin
  · exact PySem.W.max_tuple_data hr.hd hl hrd' ha hu fin
/-- min(m, n), min(xs) -/
def fMin : List D → Option D
  | [.int i, .int j] => some (.int (if j < i then j else i))
  | [d] => (items d).bind fun ds => match ints? ds with
    | some (n :: ns) => some (.int (ns.foldl min n))
    | _ => none
  | _ => none
def fMax : List D → Option D
  | [.int i, .int j] => some (.int (if j > i then j else i))
  | [d] => (items d).bind fun ds => match ints? ds with
    | some (n :: ns) => some (.int (ns.foldl max n))
    | _ => none
  | _ => none
theorem calE_min [Wd] {K : PySem.W.Frag} : CalE (fun xs H Q => (∃ i j, xs = [.int i, .int j] ∧ Q (.int (if j < i then j else i)) H) ∨ rMn false K xs H Q) fMin := fun ds d e B H vs Q s ha q => by
  unfold fMin at e
  split at e
  · cases e
    obtain ⟨v, w, rfl, h1, h2⟩ := ha.two
    exact .inl ⟨_, _, by rw [h1.int_inv, h2.int_inv], q _ B H (.refl s) (.int _)⟩
  · obtain ⟨ys, ei, e⟩ := bind_some' e
    split at e
    · rename_i n ns hi
      cases e
      obtain ⟨v, rfl, hv⟩ := ha.one
      obtain ⟨a, us, rfl, h1, h2, h3⟩ := hv.items ei
      rw [ints?_some hi] at h3
      rw [h3.ints] at h1
      exact .inr ⟨a, n, ns, rfl, sq_or s h1, q _ B H (.refl s) (.int _)⟩
    · cases e
  · cases e
theorem calE_max [Wd] {K : PySem.W.Frag} : CalE (fun xs H Q => (∃ i j, xs = [.int i, .int j] ∧ Q (.int (if j > i then j else i)) H) ∨ rMn true K xs H Q) fMax := fun ds d e B H vs Q s ha q => by
  unfold fMax at e
  split at e
  · cases e
    obtain ⟨v, w, rfl, h1, h2⟩ := ha.two
    exact .inl ⟨_, _, by rw [h1.int_inv, h2.int_inv], q _ B H (.refl s) (.int _)⟩
  · obtain ⟨ys, ei, e⟩ := bind_some' e
    split at e
    · rename_i n ns hi
      cases e
      obtain ⟨v, rfl, hv⟩ := ha.one
      obtain ⟨a, us, rfl, h1, h2, h3⟩ := hv.items ei
      rw [ints?_some hi] at h3
      rw [h3.ints] at h1
      exact .inr ⟨a, n, ns, rfl, sq_or s h1, q _ B H (.refl s) (.int _)⟩
    · cases e
  · cases e

/-! ### sorted of a list of data -/
def isTupNE : D → Bool
  | .tuple (_ :: _) => true
  | _ => false
def notTup : D → Bool
  | .none => false
  | .tuple _ => false
  | _ => true
def sortOk (ds : List D) : Bool := decide (ds.length ≤ 1) || (ds.all SeqAt.shaped && ds.all (fun d => ds.all (PySem.W.alike d)) && (ds.all isTupNE || ds.all notTup))
def rSrt (K : PySem.W.Frag) : RC := fun vs H Q => ∃ (a : Addr) (ps : List (V × D)), vs = [V.ref a] ∧ SqL K H a (ps.map Prod.fst) ∧
  (ps.length ≤ 1 ∨ ((∀ p ∈ ps, Dp K H p.1 p.2 ∧ p.2.depth ≤ 64) ∧ PySem.W.AllAlike (ps.map Prod.snd) ∧ PySem.W.Sortable (ps.map Prod.snd))) ∧ ∀ l, H l = none → Q (.ref l) (upd H l (.lst ((ps.mergeSort (PySem.W.dataLe false Prod.snd)).map Prod.fst)))
theorem short_sort {α : Type} (le : α → α → Bool) : ∀ {l : List α}, l.length ≤ 1 → l.mergeSort le = l
  | [], _ => by simp
  | [x], _ => by simp
  | _ :: _ :: _, h => absurd h (by simp)
theorem each_of : ∀ {ps : List (V × D)} {its : List Value}, Vals (ps.map Prod.fst) its → PySem.W.EachIs (fun v (b : V × D) => RelV b.1 v) its ps
  | [], _, r => by cases r; exact .nil
  | p :: ps, _, r => by
    cases r with
    | cons r t => exact .cons r (each_of t)
theorem vals_of : ∀ {ps : List (V × D)} {its : List Value}, PySem.W.EachIs (fun v (b : V × D) => RelV b.1 v) its ps → Vals (ps.map Prod.fst) its
  | _, _, .nil => .nil
  | _, _, .cons r t => .cons r (vals_of t)
theorem each_reads {X : Cx} {pins : List (Addr × Obj)} {σ : L2.St} {H : Hp} {s : Shared} (I : Inv X pins σ H s) : ∀ {ps : List (V × D)} {its : List Value}, (∀ p ∈ ps, Dp X.K H p.1 p.2) → Vals (ps.map Prod.fst) its →
    PySem.W.EachIs (fun v (b : V × D) => ∃ as, Reads s.heap v b.2 as) its ps
  | [], _, _, r => by cases r; exact .nil
  | p :: ps, _, h, r => by
    cases r with
    | cons r t => exact .cons (Dp.reads I _ _ _ (h p List.mem_cons_self) r) (each_reads I (fun q hq => h q (List.mem_cons_of_mem _ hq)) t)
theorem perm_short {α : Type} : ∀ {l m : List α}, l.length ≤ 1 → m.Perm l → m = l
  | [], _, _, h => h.eq_nil
  | [x], _, _, h => h.eq_singleton
  | _ :: _ :: _, _, h, _ => absurd h (by simp)
theorem cr_srt {X : Cx} (hr : Room 0 X.A) : CallR X (.builtin "sorted") (rSrt X.K) := by
  intro pins s σ H vs us Q I r h
  obtain ⟨a, ps, rfl, hq, hc, q⟩ := h
  obtain ⟨u, rfl, ru⟩ := vals1 r
  obtain rfl : u = Value.ref a := ru
  obtain ⟨its, rv, pl, hz⟩ := I.list hq
  have hlen : its.length = ps.length := by rw [← rv.length, List.length_map]
  have hz' : ps.length ≤ sizeLine := by rwa [List.length_map] at hz
  have fin : ∀ (out : List Value), Vals ((ps.mergeSort (PySem.W.dataLe false Prod.snd)).map Prod.fst) out → EP X pins σ Q (.ref (s.heap.objs.size + 1)) { s with heap := sortedAll s.heap its out.toArray } := fun out ro => by
    obtain ⟨ep, he'⟩ := PyProof.Rows.sortedAll_at s.heap its out.toArray
    refine ⟨.ref _, upd H (s.heap.objs.size + 1) (.lst ((ps.mergeSort (PySem.W.dataLe false Prod.snd)).map Prod.fst)), I.laid (t' := s.toks) (fun _ _ => PyProof.Rows.sortedAll_old) (Nat.le_succ _) ⟨?_, out, ep, ro, he'⟩, rfl, q _ (I.hok.fresh (Nat.le_succ _))⟩
    rw [List.length_map, List.length_mergeSort]
    exact hz'
  rcases hc with hc | ⟨hd, hal, hso⟩
  · refine SrtO.sorted_ord (ltv := fun _ _ => false) ⟨fun _ _ h => (by cases h), fun _ _ _ _ _ => rfl⟩ pl.isList (by rw [hlen]; exact hz') (fun h2 => absurd h2 (by omega)) fun out _ hb => ?_
    have e : out = its := perm_short (by omega) hb.perm
    refine fin out ?_
    rw [short_sort _ hc, e]
    exact rv
  · refine PySem.W.sorted_data pl.isList (each_of rv) (each_reads I (fun p hp => (hd p hp).1) rv) hal hso hz' (fun p hp => ?_) fun out _ ho => fin out (vals_of ho)
    have h1 := (hd p hp).2
    have h2 := hr.un
    omega
def fSorted : List D → Option D
  | [.list ds] => if sortOk ds = true then some (.list (ds.mergeSort (PySem.W.dataLe false id))) else none
  | _ => none
theorem zip_fst : ∀ {vs : List V} {ds : List D}, vs.length = ds.length → (vs.zip ds).map Prod.fst = vs ∧ (vs.zip ds).map Prod.snd = ds
  | [], [], _ => ⟨rfl, rfl⟩
  | v :: vs, d :: ds, h => by
    obtain ⟨h1, h2⟩ := zip_fst (vs := vs) (ds := ds) (by simpa using h)
    exact ⟨by simp [h1], by simp [h2]⟩
  | [], _ :: _, h => by simp at h
  | _ :: _, [], h => by simp at h
theorem DenA.zip [Wd] {B : Hp} : ∀ {vs : List V} {ds : List D}, DenA B vs ds → ∀ p ∈ vs.zip ds, Den B p.1 p.2
  | _, _, .nil, p, hp => by simp at hp
  | _, _, .cons h t, p, hp => by
    rcases List.mem_cons.mp hp with rfl | hp
    · exact h
    · exact t.zip p hp
theorem DenA.of [Wd] : ∀ {B : Hp} {ps : List (V × D)}, (∀ p ∈ ps, Den B p.1 p.2) → DenA B (ps.map Prod.fst) (ps.map Prod.snd)
  | _, [], _ => .nil
  | _, p :: ps, h => .cons (h p List.mem_cons_self) (DenA.of fun q hq => h q (List.mem_cons_of_mem _ hq))
theorem isTupNE_iff {d : D} (h : isTupNE d = true) : ∃ x r, d = .tuple (x :: r) := by
  unfold isTupNE at h
  split at h
  · exact ⟨_, _, rfl⟩
  · cases h
theorem notTup_iff {d : D} (h : notTup d = true) : d ≠ .none ∧ ∀ xs, d ≠ .tuple xs := by
  unfold notTup at h
  split at h
  · cases h
  · cases h
  · rename_i h1 h2
    exact ⟨h1, h2⟩
theorem calO_sorted [Wd] {K : PySem.W.Frag} : CalO (rSrt K) fSorted := fun ds d e B H vs Q s ha q => by
  unfold fSorted at e
  split at e
  · split at e
    · rename_i ys hok
      cases e
      obtain ⟨v, rfl, hv⟩ := ha.one
      cases hv with
      | @lst a us _ h1 h2 h3 =>
        obtain ⟨z1, z2⟩ := zip_fst h3.length
        have hz := h3.zip
        refine ⟨a, us.zip ys, rfl, .of (by rw [z1]; exact s _ _ h1), ?_, fun l hl => ?_⟩
        · unfold sortOk at hok
          rcases (Bool.or_eq_true _ _).mp hok with hok | hok
          · have := of_decide_eq_true hok
            exact .inl (by rw [List.length_zip]; omega)
          · simp only [Bool.and_eq_true, List.all_eq_true] at hok
            obtain ⟨⟨o1, o2⟩, o3⟩ := hok
            refine .inr ⟨fun p hp => ?_, ?_, ?_⟩
            · have hm : p.2 ∈ ys := (List.of_mem_zip (a := p.1) (b := p.2) hp).2
              exact ⟨(hz p hp).dp s (.inl (o1 _ hm)), SeqAt.depth_of_shaped (o1 _ hm)⟩
            · rw [z2]
              exact fun d hd d' hd' => o2 d hd d' hd'
            · rw [z2]
              rcases (Bool.or_eq_true _ _).mp o3 with o3 | o3
              · exact .inl fun d hd => isTupNE_iff (List.all_eq_true.mp o3 d hd)
              · exact .inr fun d hd => notTup_iff (List.all_eq_true.mp o3 d hd)
        · refine q _ _ _ _ (.lay s hl) hl (s.free hl) upd_same ?_
          have hm : ((us.zip ys).mergeSort (PySem.W.dataLe false Prod.snd)).map Prod.snd = ys.mergeSort (PySem.W.dataLe false id) := by
            rw [PySem.W.sort_maps (r := PySem.W.dataLe false Prod.snd) (s := PySem.W.dataLe false id) Prod.snd (fun a _ b _ => rfl), z2]
          rw [← hm]
          refine .lst ?_ (DenA.of fun p hp => hz p (List.mem_mergeSort.mp hp))
          rw [List.length_map, List.length_mergeSort, List.length_zip]
          omega
    · cases e
  · cases e

/-! ### int(b), isinstance -/
def fInt : List D → Option D
  | [.int i] => some (.int i)
  | [.bool b] => some (.int (if b then 1 else 0))
  | _ => none
theorem calE_int [Wd] : CalE (fun xs H Q => (∃ i, xs = [.int i] ∧ Q (.int i) H) ∨ ∃ k, xs = [.bl k] ∧ Q (.int (if k then 1 else 0)) H) fInt := fun ds d e B H vs Q s ha q => by
  unfold fInt at e
  split at e
  · cases e
    obtain ⟨v, rfl, h1⟩ := ha.one
    exact .inl ⟨_, by rw [h1.int_inv], q _ B H (.refl s) (.int _)⟩
  · cases e
    obtain ⟨v, rfl, h1⟩ := ha.one
    exact .inr ⟨_, by rw [h1.bool_inv], q _ B H (.refl s) (.int _)⟩
  · cases e
def tyName : D → Option String
  | .none => some "NoneType"
  | .bool _ => some "bool"
  | .int _ => some "int"
  | .str _ => some "str"
  | .list _ => some "list"
  | .tuple _ => some "tuple"
  | .dict _ => none
theorem Den.tyX [Wd] {K : PySem.W.Frag} {B H : Hp} {v : V} {d : D} {n : String} (s : Same B H) (h : Den B v d) (e : tyName d = some n) : TyX K H v (.type n) := by
  cases h <;> simp [tyName] at e <;> subst e
  · exact .base .non
  · exact .base (.bl _)
  · exact .base (.int _)
  · exact .base (.str _)
  · exact .base (.tup (s _ _ (by assumption)))
  · exact .base (.lst (s _ _ (by assumption)))
def mIsi (f : String → Option Bool) (m : En → Option D) : En → Option D := fun ρ => (m ρ).bind fun d => (tyName d).bind fun n => (f n).map .bool
def isT (T : String) : String → Option Bool := fun n => kitB n T
section
variable {ι : Type} {X : ι → Cx} {e : Expr} {pos p p2 : Pos} {m : En → Option D} {T : Str} {n : String}
theorem ped_isi [Wd] (hg : ∀ i, Gl (X i) "isinstance") (hm : ∀ i, (X i).mg "isinstance" = none) (hgT : ∀ i, Gl (X i) T) (hmT : ∀ i, (X i).mg T = none) (hT : bootBuiltins T = some (.type n)) (ha : PEd X e m)
    (hn : T ≠ "__name__" := by decide) (hd : (T == ("__debug__" : Str)) = false := by decide) (hs : ∀ i, starEach [e, .Name T p2] (X i).env = (false, eval e (X i).env) :: starEach [.Name T p2] (X i).env := by intro _; rfl)
    (hpl : ∀ i, (backTo pos (starEach [.Name T p2] (X i).env)).any (·.1) = false := by intro _; rfl) : PEd X (.Call (.Name "isinstance" p) [e, .Name T p2] [] pos) (mIsi (isT n) m) := by
  obtain ⟨t, h1, h2⟩ := ha.ex
  refine ⟨tCB (fun vs H Q => ∀ K, rIsi K vs H Q) (tCons t (tCons (tC (.ty n)) tNil)), fun i => pe_callB (rcAll_c (r := rIsi) call_isi) (hg i) (hm i) (by decide +kernel)
    (pa_cons (h1 i) (pa_cons (pe_bltn (v := .ty n) (hgT i) (hmT i) hT rfl hn hd) pa_nil) (hs i)) (he := hs i) (hpl := hpl i), fun ρ d e H0 B σ H Q rp q => ?_⟩
  obtain ⟨x, ex, e⟩ := bind_some' e
  obtain ⟨y, ey, e⟩ := bind_some' e
  obtain ⟨b, eb, e⟩ := Option.map_eq_some_iff.mp e
  subst e
  refine h2 ρ x ex H0 B σ H _ rp fun v B1 H1 v1 d1 => fun K => ?_
  exact ⟨v, .ty n, _, _, b, rfl, .ty n, d1.tyX v1.s ey, kit_ty eb, q _ B1 H1 v1 (.bl b)⟩
end

/-! ### own defs -/
/-- what a def without changes promises -/
def spD [Wd] (n : Nat) (F : List D → Option D) : Sp := fun vs H Q _ => vs.length = n ∧ ∃ (B : Hp) (ds : List D) (r : D), Same B H ∧ DenA B vs ds ∧ F ds = some r ∧ ∀ v B' H', Adv B H B' H' → Den B' v r → Q v H'
theorem spD_len [Wd] {n : Nat} {F : List D → Option D} {ps : List Str} (h : ps.length = n) : ∀ vs H Q E, spD n F vs H Q E → vs.length = ps.length := fun vs H Q E q => q.1.trans h.symm
section
variable {ι : Type} {X : ι → Cx} {e : Expr} {es : List Expr} {pos p : Pos} {ms : En → Option (List D)} {x : Str} {P : Program} {w : World} {K : PySem.W.Frag} {mg : Str → Option Value} {base : Heap} {k : Nat} {f : Addr} {fd : FuncData} {ps : List Str} {F : List D → Option D}
theorem ped_call [Wd] {n : Nat} (G : FnOk P w K mg base CX0 k f fd ps (spD n F)) (hX : ∀ i, (X i).prog = P ∧ (X i).w = w ∧ (X i).K = K ∧ (X i).mg = mg ∧ (X i).base = base) (hr : ∀ i, Room k (X i).A) (hg : ∀ i, Gl (X i) x) (hm : mg x = some (.ref f)) (hk : PySem.W.keepIn K (.ref f) = true) (hb : Binds K fd ps [])
    (ha : PAd X (e :: es) ms) (hl : (e :: es).length = n := by rfl) (hdb : (x == ("__debug__" : Str)) = false := by decide)
    (hs : ∀ i, starEach (e :: es) (X i).env = (false, eval e (X i).env) :: starEach es (X i).env := by intro _; rfl) (hpl : ∀ i, (backTo pos (starEach es (X i).env)).any (·.1) = false := by intro _; rfl) : PEd X (.Call (.Name x p) (e :: es) [] pos) (mF F ms) := by
  obtain ⟨t, h1, h2⟩ := ha.ex
  refine ⟨tCall (spD n F) [] E0 t, fun i => ?_, fun ρ d e H0 B σ H Q rp q => ?_⟩
  · obtain ⟨rfl, rfl, rfl, rfl, rfl⟩ := hX i
    exact pe_call G (hr i) (hg i) hm hk hb .nil pass0 (h1 i) hdb (he := hs i) (hpl := hpl i)
  · obtain ⟨ds, ed, e⟩ := bind_some' e
    refine h2 ρ ds ed H0 B σ H _ rp fun vs B1 H1 v1 d1 => ?_
    refine ⟨?_, B1, ds, d, v1.s, ?_, e, fun v B2 H2 v2 d2 => q v B2 H2 (v1.trans v2) d2⟩
    · rw [List.append_nil, d1.length, ha.len _ _ ed]
      exact hl
    · rw [List.append_nil]
      exact d1
end
end Dl

end
section
set_option Elab.async false
set_option linter.all false
set_option maxRecDepth 100000
set_option autoImplicit false
namespace Dl
open PySem PySem.Spec PyProof.Rows L2

/-! ### families of contexts -/
structure Fam where
  ι : Type
  X : ι → Cx
  N : List Str
  sc : Scope
  k : Nat
  P : Program
  w : World
  K : PySem.W.Frag
  mg : Str → Option Value
  base : Heap
  hN : ∀ i, (X i).N = N
  nd : N.Nodup
  hsc : ∀ i, (X i).env.scope = sc
  calm : ∀ i, (X i).calm = true
  hr : ∀ i, Room k (X i).A
  hX : ∀ i, (X i).prog = P ∧ (X i).w = w ∧ (X i).K = K ∧ (X i).mg = mg ∧ (X i).base = base
  nox : ∀ i, (X i).xe = fun _ _ => False
theorem Fam.rm (F : Fam) : Rm F.X := fun i => (F.hr i).mono (Nat.zero_le _)
theorem Fam.mgE (F : Fam) (i : F.ι) : (F.X i).mg = F.mg := (F.hX i).2.2.2.1
abbrev BI (ι : Type) : Type := ι × Shared × Hp × Addr × List (Str × Addr) × List Addr
/-- a comprehension's block -/
def Fam.blk (F : Fam) (scope : Scope) : Fam where
  ι := BI F.ι
  X := fun p => (F.X p.1).blk p.2.1 p.2.2.1 scope (compEnvC scope p.2.2.2.2.1 p.2.2.2.1 (F.X p.1).env) p.2.2.2.2.2
  N := F.N
  sc := relS scope F.sc
  k := F.k
  P := F.P
  w := F.w
  K := F.K
  mg := F.mg
  base := F.base
  hN := fun p => F.hN p.1
  nd := F.nd
  hsc := fun p => by
    rw [← F.hsc p.1]
    rfl
  calm := fun p => F.calm p.1
  hr := fun p => F.hr p.1
  hX := fun p => F.hX p.1
  nox := fun p => rfl

section
variable {F : Fam} {e : Expr} {pos p p2 : Pos} {m : En → Option D} {x : Str}
theorem nm [Wd] (k : Nat) (hN : F.N[k]? = some x) (hv : Vis F.sc x) (hd : (x == ("__debug__" : Str)) = false := by decide) (hcd : (x == ("__classdict__" : Str)) = false := by decide) : PEd F.X (.Name x pos) (mN k) :=
  ped_name k (fun i => by rw [F.hN i]; exact hN) (fun i => by rw [F.hsc i]; exact hv) hd hcd
theorem gl_of (h : F.sc.names.lookup x = some .globalImplicit) (i : F.ι) : Gl (F.X i) x := by
  unfold Gl Env.kindOf
  rw [F.hsc i]
  exact h
theorem gint [Wd] {z : Int} (hg : F.sc.names.lookup x = some .globalImplicit) (hm : ∃ t, F.mg x = some (.int z t)) (hd : (x == ("__debug__" : Str)) = false := by decide) : PEd F.X (.Name x pos) (mC (.int z)) :=
  let ⟨t, hm⟩ := hm
  ped_glob (gl_of hg) (fun i => by rw [F.mgE i]; exact hm) hd
theorem mg_of' (h : F.mg x = none) (i : F.ι) : (F.X i).mg x = none := by rw [F.mgE i]; exact h
end

/-! ### targets -/
abbrev TgF := D → En → Option En
def gN (i : Nat) : TgF := fun d ρ => some (ρ.set i (.val d))
def gTs : List TgF → List D → En → Option En
  | [], [], ρ => some ρ
  | t :: ts, d :: ds, ρ => (t d ρ).bind (gTs ts ds)
  | _, _, _ => none
def gT (ts : List TgF) : TgF := fun d ρ => match d with
  | .tuple ds => gTs ts ds ρ
  | _ => none
def EvG [Wd] (g : TG) (T : TgF) (is : List Nat) : Prop := ∀ d ρ ρ', T d ρ = some ρ' → ∀ (H0 B : Hp) (σ : L2.St) (H : Hp) (v : V) (Q : L2.St → Hp → Prop), Rep H0 B σ H ρ → Den B v d →
  (∀ σ', Rep H0 B σ' H ρ' → σ'.length = σ.length → (∀ j : Nat, j ∉ is → σ'[j]? = σ[j]?) → Q σ' H) → g v σ H Q
def EvGs [Wd] (g : TGs) (T : List TgF) (is : List Nat) : Prop := ∀ ds ρ ρ', gTs T ds ρ = some ρ' → ∀ (H0 B : Hp) (σ : L2.St) (H : Hp) (vs : List V) (Q : L2.St → Hp → Prop), Rep H0 B σ H ρ → DenA B vs ds →
  (∀ σ', Rep H0 B σ' H ρ' → σ'.length = σ.length → (∀ j : Nat, j ∉ is → σ'[j]? = σ[j]?) → Q σ' H) → g vs σ H Q
theorem Rep.set [Wd] {H0 B H : Hp} {σ : L2.St} {ρ : En} (r : Rep H0 B σ H ρ) {v : V} {d : D} (h : Den B v d) (i : Nat) : Rep H0 B (σ.set i (some v)) H (ρ.set i (.val d)) where
  len := by rw [List.length_set, List.length_set]; exact r.len
  sub := r.sub
  val := fun j e hj => by
    by_cases hij : i = j
    · subst hij
      by_cases hi : i < ρ.length
      · rw [List.getElem?_set_self hi] at hj
        cases hj
        exact ⟨v, List.getElem?_set_self (by rw [r.len]; exact hi), h⟩
      · rw [List.getElem?_eq_none (by rw [List.length_set]; omega)] at hj
        cases hj
    · rw [List.getElem?_set_ne hij] at hj ⊢
      exact r.val j e hj
  own := fun j e hj => by
    by_cases hij : i = j
    · subst hij
      by_cases hi : i < ρ.length
      · rw [List.getElem?_set_self hi] at hj
        cases hj
      · rw [List.getElem?_eq_none (by rw [List.length_set]; omega)] at hj
        cases hj
    · rw [List.getElem?_set_ne hij] at hj ⊢
      exact r.own j e hj
  raw := fun j e hj => by
    by_cases hij : i = j
    · subst hij
      by_cases hi : i < ρ.length
      · rw [List.getElem?_set_self hi] at hj
        cases hj
      · rw [List.getElem?_eq_none (by rw [List.length_set]; omega)] at hj
        cases hj
    · rw [List.getElem?_set_ne hij] at hj ⊢
      exact r.raw j e hj
  ne := fun j l d1 d2 o h1 h2 h3 h4 => by
    have ij : i ≠ j := fun z => by
      subst z
      by_cases hi : i < ρ.length
      · rw [List.getElem?_set_self hi] at h1; cases h1
      · rw [List.getElem?_eq_none (by rw [List.length_set]; omega)] at h1; cases h1
    have il : i ≠ l := fun z => by
      subst z
      by_cases hi : i < ρ.length
      · rw [List.getElem?_set_self hi] at h2; cases h2
      · rw [List.getElem?_eq_none (by rw [List.length_set]; omega)] at h2; cases h2
    rw [List.getElem?_set_ne ij] at h1 h3
    rw [List.getElem?_set_ne il] at h2 h4
    exact r.ne j l d1 d2 o h1 h2 h3 h4
/-- a new container at a slot -/
theorem Rep.setO [Wd] {H0 B H : Hp} {σ : L2.St} {ρ : En} (r : Rep H0 B σ H ρ) {o : Addr} {ho : HO} {d : D} (h0 : H0 o = none) (hB : B o = none) (hH : H o = some ho) (h : DenO B o ho d) (i : Nat)
    (new : ∀ j e, ρ[j]? = some (Sl.own e) → j ≠ i → σ[j]? ≠ some (some (V.ref o))) : Rep H0 B (σ.set i (some (.ref o))) H (ρ.set i (.own d)) where
  len := by rw [List.length_set, List.length_set]; exact r.len
  sub := r.sub
  val := fun j e hj => by
    by_cases hij : i = j
    · subst hij
      by_cases hi : i < ρ.length
      · rw [List.getElem?_set_self hi] at hj; cases hj
      · rw [List.getElem?_eq_none (by rw [List.length_set]; omega)] at hj; cases hj
    · rw [List.getElem?_set_ne hij] at hj ⊢
      exact r.val j e hj
  own := fun j e hj => by
    by_cases hij : i = j
    · subst hij
      by_cases hi : i < ρ.length
      · rw [List.getElem?_set_self hi] at hj
        cases hj
        exact ⟨o, ho, List.getElem?_set_self (by rw [r.len]; exact hi), h0, hB, hH, h⟩
      · rw [List.getElem?_eq_none (by rw [List.length_set]; omega)] at hj; cases hj
    · rw [List.getElem?_set_ne hij] at hj ⊢
      exact r.own j e hj
  raw := fun j e hj => by
    by_cases hij : i = j
    · subst hij
      by_cases hi : i < ρ.length
      · rw [List.getElem?_set_self hi] at hj; cases hj
      · rw [List.getElem?_eq_none (by rw [List.length_set]; omega)] at hj; cases hj
    · rw [List.getElem?_set_ne hij] at hj ⊢
      exact r.raw j e hj
  ne := fun j l d1 d2 q h1 h2 h3 h4 => by
    by_cases ij : i = j
    · by_cases il : i = l
      · rw [← ij, ← il]
      · rw [List.getElem?_set_ne il] at h2 h4
        subst ij
        by_cases hi : i < σ.length
        · rw [List.getElem?_set_self hi] at h3
          cases h3
          exact absurd h4 (new l d2 h2 (Ne.symm il))
        · rw [List.getElem?_eq_none (by rw [List.length_set]; omega)] at h3; cases h3
    · rw [List.getElem?_set_ne ij] at h1 h3
      by_cases il : i = l
      · subst il
        by_cases hi : i < σ.length
        · rw [List.getElem?_set_self hi] at h4
          cases h4
          exact absurd h3 (new j d1 h1 (Ne.symm ij))
        · rw [List.getElem?_eq_none (by rw [List.length_set]; omega)] at h4; cases h4
      · rw [List.getElem?_set_ne il] at h2 h4
        exact r.ne j l d1 d2 q h1 h2 h3 h4
/-- forget a slot -/
theorem Rep.wipe1 [Wd] {H0 B H : Hp} {σ : L2.St} {ρ : En} (r : Rep H0 B σ H ρ) (i : Nat) (x : Option V) : Rep H0 B (σ.set i x) H (ρ.set i .un) where
  len := by rw [List.length_set, List.length_set]; exact r.len
  sub := r.sub
  val := fun j e hj => by
    by_cases hij : i = j
    · subst hij
      by_cases hi : i < ρ.length
      · rw [List.getElem?_set_self hi] at hj; cases hj
      · rw [List.getElem?_eq_none (by rw [List.length_set]; omega)] at hj; cases hj
    · rw [List.getElem?_set_ne hij] at hj ⊢
      exact r.val j e hj
  own := fun j e hj => by
    by_cases hij : i = j
    · subst hij
      by_cases hi : i < ρ.length
      · rw [List.getElem?_set_self hi] at hj; cases hj
      · rw [List.getElem?_eq_none (by rw [List.length_set]; omega)] at hj; cases hj
    · rw [List.getElem?_set_ne hij] at hj ⊢
      exact r.own j e hj
  raw := fun j e hj => by
    by_cases hij : i = j
    · subst hij
      by_cases hi : i < ρ.length
      · rw [List.getElem?_set_self hi] at hj; cases hj
      · rw [List.getElem?_eq_none (by rw [List.length_set]; omega)] at hj; cases hj
    · rw [List.getElem?_set_ne hij] at hj ⊢
      exact r.raw j e hj
  ne := fun j l d1 d2 o h1 h2 h3 h4 => by
    have ij : i ≠ j := fun z => by
      subst z
      by_cases hi : i < ρ.length
      · rw [List.getElem?_set_self hi] at h1; cases h1
      · rw [List.getElem?_eq_none (by rw [List.length_set]; omega)] at h1; cases h1
    have il : i ≠ l := fun z => by
      subst z
      by_cases hi : i < ρ.length
      · rw [List.getElem?_set_self hi] at h2; cases h2
      · rw [List.getElem?_eq_none (by rw [List.length_set]; omega)] at h2; cases h2
    rw [List.getElem?_set_ne ij] at h1 h3
    rw [List.getElem?_set_ne il] at h2 h4
    exact r.ne j l d1 d2 o h1 h2 h3 h4
def wipeE (ρ : En) : List Nat → En
  | [] => ρ
  | v :: vs => (wipeE ρ vs).set v .un
theorem Rep.wipe [Wd] {H0 B H : Hp} {σ : L2.St} {ρ : En} (r : Rep H0 B σ H ρ) : ∀ vs : List Nat, Rep H0 B (L2.wipe σ vs) H (wipeE ρ vs)
  | [] => r
  | v :: vs => (Rep.wipe r vs).wipe1 v none
section
variable {F : Fam} {tg : Expr} {es : List Expr} {pos : Pos} {x : Str} {k : Nat}
structure PGd [Wd] (F : Fam) (tg : Expr) (T : TgF) (is : List Nat) : Prop where
  ex : ∃ g, (∀ i, PG (F.X i) tg g) ∧ EvG g T is
structure PGsd [Wd] (F : Fam) (tg : List Expr) (T : List TgF) (is : List Nat) : Prop where
  ex : ∃ g, (∀ i, PGs (F.X i) tg g) ∧ EvGs g T is
  len : T.length = tg.length
theorem pgd_name [Wd] (n : Nat) (hN : F.N[n]? = some x) (hx : Loc F.sc x) (hf : ∀ i, (F.X i).fn x = true ∨ F.sc.names.lookup x = some .local) : PGd F (.Name x pos) (gN n) [n] := by
  refine ⟨gName n, fun i => pg_name (by rw [F.hN i]; exact F.nd) (by rw [F.hN i]; exact hN) (by rw [F.hsc i]; exact hx) (by rw [F.hsc i]; exact hf i), fun d ρ ρ' e H0 B σ H v Q r h q => ?_⟩
  cases e
  exact q _ (r.set h n) (List.length_set) fun j hj => List.getElem?_set_ne (fun z => hj (by simp [z]))
theorem pgsd_nil [Wd] : PGsd F [] [] [] := by
  refine ⟨⟨gNil, fun i => pgs_nil, fun ds ρ ρ' e H0 B σ H vs Q r h q => ?_⟩, rfl⟩
  cases h with
  | nil => cases e; exact ⟨rfl, q σ r rfl fun _ _ => rfl⟩
  | cons h t => cases e
theorem pgsd_cons [Wd] {T : TgF} {Ts : List TgF} {is js : List Nat} (h : PGd F tg T is) (k : PGsd F es Ts js) (hs : ∀ i, (assignEach (tg :: es) (F.X i).env).map (·.2) = assign tg (F.X i).env :: (assignEach es (F.X i).env).map (·.2) := by intro _; rfl) :
    PGsd F (tg :: es) (T :: Ts) (is ++ js) := by
  obtain ⟨g, h1, h2⟩ := h.ex
  obtain ⟨gs, k1, k2⟩ := k.ex
  refine ⟨⟨gCons g gs, fun i => pgs_cons (h1 i) (k1 i) (hs i), fun ds ρ ρ' e H0 B σ H vs Q r h q => ?_⟩, by simp [k.len]⟩
  cases h with
  | nil => cases e
  | cons hd tl =>
    obtain ⟨ρ1, e1, e2⟩ := bind_some' e
    refine ⟨_, _, rfl, h2 _ ρ ρ1 e1 H0 B σ H _ _ r hd fun σ1 r1 l1 n1 => ?_⟩
    refine k2 _ ρ1 ρ' e2 H0 B σ1 H _ _ r1 tl fun σ2 r2 l2 n2 => ?_
    exact q σ2 r2 (l2.trans l1) fun j hj => (n2 j fun z => hj (List.mem_append_right _ z)).trans (n1 j fun z => hj (List.mem_append_left _ z))
theorem gTs_len : ∀ {Ts : List TgF} {ds : List D} {ρ ρ' : En}, gTs Ts ds ρ = some ρ' → ds.length = Ts.length
  | [], [], _, _, _ => rfl
  | t :: ts, d :: ds, ρ, ρ', h => by
    obtain ⟨ρ1, _, h2⟩ := bind_some' (show (t d ρ).bind (gTs ts ds) = some ρ' from h)
    exact congrArg (· + 1) (gTs_len h2)
  | [], _ :: _, _, _, h => by cases h
  | _ :: _, [], _, _, h => by cases h
theorem pgd_tup [Wd] {Ts : List TgF} {is : List Nat} (h : PGsd F es Ts is) (hn : ∀ i, (assignEach es (F.X i).env).length = es.length := by intro _; rfl) (hst : ∀ i, (assignEach es (F.X i).env).findIdx? (·.1) = none := by intro _; rfl) : PGd F (.Tuple es k pos) (gT Ts) is := by
  obtain ⟨g, h1, h2⟩ := h.ex
  refine ⟨gTup F.K es.length g, fun i => by rw [← (F.hX i).2.2.1]; exact pg_tup (F.calm i) (h1 i) (hn i) (hst i), fun d ρ ρ' e H0 B σ H v Q r hv q => ?_⟩
  unfold gT at e
  split at e
  · cases hv with
    | @tup a us _ hB hz hd =>
      exact ⟨_, us, rfl, .of (r.sub _ _ hB), by rw [hd.length, gTs_len e, h.len], h2 _ ρ ρ' e H0 B σ H us Q r hd q⟩
  · cases e
end
theorem wipe_eq {σ σ' : L2.St} {is vs : List Nat} (hl : σ'.length = σ.length) (h : ∀ j : Nat, j ∉ is → σ'[j]? = (L2.wipe σ vs)[j]?) (hl2 : σ'.length = (L2.wipe σ vs).length) (hs : ∀ i ∈ is, i ∈ vs) : L2.wipe σ' vs = L2.wipe σ vs := by
  have in_ : ∀ (τ : L2.St) (ws : List Nat) (j : Nat), j ∈ ws → j < τ.length → (L2.wipe τ ws)[j]? = some none := by
    intro τ ws
    induction ws with
    | nil => intro j hj; simp at hj
    | cons w ws ih =>
      intro j hj hl
      unfold L2.wipe
      by_cases hw : w = j
      · subst hw
        exact List.getElem?_set_self (by rw [wipe_length]; exact hl)
      · rw [List.getElem?_set_ne hw]
        exact ih j ((List.mem_cons.mp hj).resolve_left (fun z => hw z.symm)) hl
  have out_ : ∀ (τ : L2.St) (ws : List Nat) (j : Nat), j ∉ ws → (L2.wipe τ ws)[j]? = τ[j]? := by
    intro τ ws
    induction ws with
    | nil => intro j hj; rfl
    | cons w ws ih =>
      intro j hj
      unfold L2.wipe
      rw [List.getElem?_set_ne (fun z => hj (by simp [z]))]
      exact ih j (fun z => hj (List.mem_cons_of_mem _ z))
  apply List.ext_getElem?
  intro j
  by_cases hj : j ∈ vs
  · by_cases hlt : j < σ.length
    · rw [in_ σ vs j hj hlt, in_ σ' vs j hj (by rw [hl]; exact hlt)]
    · rw [List.getElem?_eq_none (by rw [wipe_length]; omega), List.getElem?_eq_none (by rw [wipe_length]; omega)]
  · rw [out_ σ' vs j hj, h j fun z => hj (hs j z)]

/-! ### what is walked -/
structure WalkD [Wd] (J : It) (B : Hp) (xs : List D) : Prop where
  stop : ∀ B1 H1, Same B B1 → Same B1 H1 → J.stop xs.length H1
  go : ∀ i B1 H1, i < xs.length → Same B B1 → Same B1 H1 → J.go i H1
  yld : ∀ i B1 H1 x H2, i < xs.length → Same B B1 → Same B1 H1 → J.yld i H1 x H2 → ∃ B2 d, Adv B1 H1 B2 H2 ∧ xs[i]? = some d ∧ Den B2 x d
  len : xs.length ≤ sizeLine
def EvI [Wd] (wi : TI) (m : En → Option (List D)) : Prop := ∀ ρ xs, m ρ = some xs → ∀ (H0 B : Hp) (σ : L2.St) (H : Hp) (R : It → Hp → Prop), Rep H0 B σ H ρ → (∀ J B' H', Adv B H B' H' → WalkD J B' xs → R J H') → wi σ H R
structure PId [Wd] (F : Fam) (tg iter : Expr) (m : En → Option (List D)) : Prop where
  ex : ∃ wi, (∀ i, PI (F.X i) tg iter wi) ∧ EvI wi m
def iL (m : En → Option D) : En → Option (List D) := fun ρ => (m ρ).bind fun d => match d with
  | .list xs => some xs
  | _ => none
def iT (m : En → Option D) : En → Option (List D) := fun ρ => (m ρ).bind fun d => match d with
  | .tuple xs => some xs
  | _ => none
theorem DenA.some_at [Wd] {B : Hp} {vs : List V} {ds : List D} (h : DenA B vs ds) {i : Nat} (hi : i < ds.length) : ∃ v d, vs[i]? = some v ∧ ds[i]? = some d ∧ Den B v d := by
  obtain ⟨v, h1, h2⟩ := h.get (i := i) (d := ds[i]) (List.getElem?_eq_getElem hi)
  exact ⟨v, _, h1, List.getElem?_eq_getElem hi, h2⟩
theorem walkD_list [Wd] {K : PySem.W.Frag} {B : Hp} {a : Addr} {vs : List V} {xs : List D} (e : B a = some (.lst vs)) (hz : vs.length ≤ sizeLine) (h : DenA B vs xs) : WalkD (Itl K a) B xs where
  stop := fun B1 H1 s1 s2 => ⟨vs, .of (s2 _ _ (s1 _ _ e)), by rw [h.length]; exact Nat.le_refl _⟩
  go := fun i B1 H1 hi s1 s2 => by
    obtain ⟨v, d, h1, h2, h3⟩ := h.some_at hi
    exact ⟨vs, v, .of (s2 _ _ (s1 _ _ e)), h1⟩
  yld := fun i B1 H1 x H2 hi s1 s2 y => by
    obtain ⟨v, d, h1, h2, h3⟩ := h.some_at hi
    obtain ⟨rfl, y⟩ := y
    have ex : v = x := Option.some.inj (h1.symm.trans (y vs (.of (s2 _ _ (s1 _ _ e)))))
    subst ex
    exact ⟨B1, d, .refl s2, h2, h3.mono s1⟩
  len := by rw [← h.length]; exact hz
theorem walkD_tup [Wd] {K : PySem.W.Frag} {B : Hp} {a : Addr} {vs : List V} {xs : List D} (e : B a = some (.tup vs)) (hz : vs.length ≤ sizeLine) (h : DenA B vs xs) : WalkD (Itt K a) B xs where
  stop := fun B1 H1 s1 s2 => ⟨vs, .of (s2 _ _ (s1 _ _ e)), by rw [h.length]; exact Nat.le_refl _⟩
  go := fun i B1 H1 hi s1 s2 => by
    obtain ⟨v, d, h1, h2, h3⟩ := h.some_at hi
    exact ⟨vs, v, .of (s2 _ _ (s1 _ _ e)), h1⟩
  yld := fun i B1 H1 x H2 hi s1 s2 y => by
    obtain ⟨v, d, h1, h2, h3⟩ := h.some_at hi
    obtain ⟨rfl, y⟩ := y
    have ex : v = x := Option.some.inj (h1.symm.trans (y vs (.of (s2 _ _ (s1 _ _ e)))))
    subst ex
    exact ⟨B1, d, .refl s2, h2, h3.mono s1⟩
  len := by rw [← h.length]; exact hz
theorem walkD_rangeC [Wd] {B : Hp} {lo c : Int} {n : Nat} (hn : n ≤ sizeLine) : WalkD (Itc lo c n) B ((List.range n).map fun k => .int (lo + (k : Nat) * c)) where
  stop := fun B1 H1 _ _ => by show n ≤ _; simp
  go := fun i B1 H1 hi _ _ => by show i < n; simpa using hi
  yld := fun i B1 H1 x H2 hi s1 s2 y => by
    obtain ⟨rfl, rfl⟩ := y
    have hi' : i < n := by simpa using hi
    exact ⟨B1, _, .refl s2, by rw [List.getElem?_map, List.getElem?_range hi']; rfl, .int _⟩
  len := by simpa using hn
theorem walkD_range [Wd] {B : Hp} {lo : Int} {n : Nat} (hn : n ≤ sizeLine) : WalkD (Itr lo n) B ((List.range n).map fun k => .int (lo + (k : Nat))) where
  stop := fun B1 H1 _ _ => by show n ≤ _; simp
  go := fun i B1 H1 hi _ _ => by show i < n; simpa using hi
  yld := fun i B1 H1 x H2 hi s1 s2 y => by
    obtain ⟨rfl, rfl⟩ := y
    have hi' : i < n := by simpa using hi
    exact ⟨B1, _, .refl s2, by rw [List.getElem?_map, List.getElem?_range hi']; rfl, .int _⟩
  len := by simpa using hn
def rg1 : List D → Option (List D)
  | [.int j] => if -1000000 ≤ j ∧ j ≤ 1000000 then some ((List.range j.toNat).map fun k => .int (0 + (k : Nat))) else none
  | _ => none
def rg2 : List D → Option (List D)
  | [.int i, .int j] => if -1000000 ≤ i ∧ i ≤ 1000000 ∧ -1000000 ≤ j ∧ j ≤ 1000000 then some ((List.range (j - i).toNat).map fun k => .int (i + (k : Nat))) else none
  | _ => none
def rg3 : List D → Option (List D)
  | [.int i, .int j, .int c] => if c = -1 ∧ -1000000 ≤ i ∧ i ≤ 1000000 ∧ -1000000 ≤ j ∧ j ≤ 1000000 then some ((List.range (i - j).toNat).map fun k => .int (i + (k : Nat) * (-1))) else none
  | _ => none
def iR (f : List D → Option (List D)) (a : En → Option (List D)) : En → Option (List D) := fun ρ => (a ρ).bind f
theorem DenA.three [Wd] {B : Hp} {vs : List V} {d e f : D} (h : DenA B vs [d, e, f]) : ∃ v w u, vs = [v, w, u] ∧ Den B v d ∧ Den B w e ∧ Den B u f := by
  cases h with
  | cons h t =>
    obtain ⟨w, u, rfl, h2, h3⟩ := t.two
    exact ⟨_, _, _, rfl, h, h2, h3⟩
theorem size_big {n : Nat} (h : n ≤ 2000000) : n ≤ sizeLine := Nat.le_trans h (by decide)
section
variable {F : Fam} {tg e a b c : Expr} {pos p : Pos} {m : En → Option D} {ms : En → Option (List D)}
theorem pid_list [Wd] (h : PEd F.X e m) : PId F tg e (iL m) := by
  obtain ⟨t, h1, h2⟩ := h.ex
  refine ⟨iList F.K t, fun i => by rw [← (F.hX i).2.2.1]; exact pi_list (h1 i), fun ρ xs ex H0 B σ H R rp q => ?_⟩
  obtain ⟨d, ed, ex⟩ := bind_some' ex
  refine h2 ρ d ed H0 B σ H _ rp fun v B1 H1 v1 d1 => ?_
  split at ex
  · cases ex
    cases d1 with
    | @lst aa us _ hB hz hd => exact ⟨aa, rfl, ⟨us, .of (v1.s _ _ hB)⟩, q _ B1 H1 v1 (walkD_list hB hz hd)⟩
  · cases ex
theorem pid_tup [Wd] (h : PEd F.X e m) : PId F tg e (iT m) := by
  obtain ⟨t, h1, h2⟩ := h.ex
  refine ⟨iTup F.K t, fun i => by rw [← (F.hX i).2.2.1]; exact pi_tup (h1 i), fun ρ xs ex H0 B σ H R rp q => ?_⟩
  obtain ⟨d, ed, ex⟩ := bind_some' ex
  refine h2 ρ d ed H0 B σ H _ rp fun v B1 H1 v1 d1 => ?_
  split at ex
  · cases ex
    cases d1 with
    | @tup aa us _ hB hz hd => exact ⟨aa, rfl, ⟨us, .of (v1.s _ _ hB)⟩, q _ B1 H1 v1 (walkD_tup hB hz hd)⟩
  · cases ex
theorem pid_rg1 [Wd] (hg : F.sc.names.lookup ("range" : Str) = some .globalImplicit) (hm : F.mg "range" = none) (h : PAd F.X [a] ms) (hs : ∀ i, starEach [a] (F.X i).env = [(false, eval a (F.X i).env)] := by intro _; rfl) :
    PId F tg (.Call (.Name "range" p) [a] [] pos) (iR rg1 ms) := by
  obtain ⟨t, h1, h2⟩ := h.ex
  refine ⟨iRng1 t, fun i => pi_range1 (gl_of hg i) (mg_of' hm i) (h1 i) (hs i), fun ρ xs ex H0 B σ H R rp q => ?_⟩
  obtain ⟨d, ed, ex⟩ := bind_some' ex
  refine h2 ρ d ed H0 B σ H _ rp fun v B1 H1 v1 d1 => ?_
  unfold rg1 at ex
  split at ex
  · split at ex
    · rename_i hb
      cases ex
      obtain ⟨u, rfl, hu⟩ := d1.one
      refine ⟨_, by rw [hu.int_inv], by omega, by omega, q _ B1 H1 v1 (walkD_range (size_big (by omega)))⟩
    · cases ex
  · cases ex
theorem pid_rg2 [Wd] (hg : F.sc.names.lookup ("range" : Str) = some .globalImplicit) (hm : F.mg "range" = none) (h : PAd F.X [a, b] ms) (hs : ∀ i, starEach [a, b] (F.X i).env = [(false, eval a (F.X i).env), (false, eval b (F.X i).env)] := by intro _; rfl) (hs2 : ∀ i, starEach [b] (F.X i).env = [(false, eval b (F.X i).env)] := by intro _; rfl) :
    PId F tg (.Call (.Name "range" p) [a, b] [] pos) (iR rg2 ms) := by
  obtain ⟨t, h1, h2⟩ := h.ex
  refine ⟨iRng2 t, fun i => pi_range2 (gl_of hg i) (mg_of' hm i) (h1 i) (hs i) (hs2 i), fun ρ xs ex H0 B σ H R rp q => ?_⟩
  obtain ⟨d, ed, ex⟩ := bind_some' ex
  refine h2 ρ d ed H0 B σ H _ rp fun v B1 H1 v1 d1 => ?_
  unfold rg2 at ex
  split at ex
  · split at ex
    · rename_i hb
      cases ex
      obtain ⟨u, u2, rfl, hu, hu2⟩ := d1.two
      refine ⟨_, _, by rw [hu.int_inv, hu2.int_inv], by omega, q _ B1 H1 v1 (walkD_range (size_big (by omega)))⟩
    · cases ex
  · cases ex
theorem pid_rg3 [Wd] (hg : F.sc.names.lookup ("range" : Str) = some .globalImplicit) (hm : F.mg "range" = none) (h : PAd F.X [a, b, c] ms) (hs : ∀ i, starEach [a, b, c] (F.X i).env = (false, eval a (F.X i).env) :: starEach [b, c] (F.X i).env := by intro _; rfl) (hpl : ∀ i, (backTo pos (starEach [b, c] (F.X i).env)).any (·.1) = false := by intro _; rfl) :
    PId F tg (.Call (.Name "range" p) [a, b, c] [] pos) (iR rg3 ms) := by
  obtain ⟨t, h1, h2⟩ := h.ex
  refine ⟨iRng3 t, fun i => pi_range3 (gl_of hg i) (mg_of' hm i) (h1 i) (hs i) (hpl i), fun ρ xs ex H0 B σ H R rp q => ?_⟩
  obtain ⟨d, ed, ex⟩ := bind_some' ex
  refine h2 ρ d ed H0 B σ H _ rp fun v B1 H1 v1 d1 => ?_
  unfold rg3 at ex
  split at ex
  · split at ex
    · rename_i hb
      cases ex
      obtain ⟨u, u2, u3, rfl, hu, hu2, hu3⟩ := d1.three
      obtain ⟨rfl, hb1, hb2, hb3, hb4⟩ := hb
      refine ⟨_, _, _, _, by rw [hu.int_inv, hu2.int_inv, hu3.int_inv], RgC.neg (by omega) (by omega) (by omega) (by omega), q _ B1 H1 v1 (walkD_rangeC (size_big (by omega)))⟩
    · cases ex
  · cases ex
end
end Dl

end
section
set_option Elab.async false
set_option linter.all false
set_option maxRecDepth 100000
set_option autoImplicit false
namespace Dl
open PySem PySem.Spec PyProof.Rows L2

/-! ### list comprehensions, one clause -/
def tests (q : En → Option Bool) : En → Option Bool := q
def qYes : En → Option Bool := fun _ => some true
structure PTsd [Wd] (F : Fam) (ifs : List Expr) (q : En → Option Bool) : Prop where
  ex : ∃ t, (∀ i, PTs (F.X i) ifs t) ∧ EvT t q
theorem ptsd_nil [Wd] {F : Fam} : PTsd F [] qYes := ⟨_, fun _ => pts_nil, fun ρ d e H0 B σ H Q rp q => by cases e; exact q B H (.refl rp.sub)⟩
theorem ptsd_one [Wd] {F : Fam} {c : Expr} {q : En → Option Bool} (h : PTd F.X c q) : PTsd F [c] q := by
  obtain ⟨t, h1, h2⟩ := h.ex
  exact ⟨t, fun i => pts_one (h1 i), h2⟩
def compGo (T : TgF) (q : En → Option Bool) (f : En → Option D) (ρ : En) : List D → Option (List D)
  | [] => some []
  | x :: xs => (T x ρ).bind fun ρ1 => (q ρ1).bind fun b => if b = true then (f ρ1).bind fun y => (compGo T q f ρ xs).map (y :: ·) else compGo T q f ρ xs
def mLc (items : En → Option (List D)) (T : TgF) (q : En → Option Bool) (f : En → Option D) (vs : List Nat) : En → Option D := fun ρ => (items ρ).bind fun xs => (compGo T q f (wipeE ρ vs) xs).map .list
theorem Adv.sub {B H B' H' : Hp} (v : Adv B H B' H') {D : Addr} (hd : H D = none) : B' D = none ∨ H' D ≠ none := by
  cases h : H' D with
  | none => exact .inl (v.s.free h)
  | some o => exact .inr (by simp)
/-- one container of the caller's is changed -/
theorem Adv.write {B H B' H' : Hp} (v : Adv B H B' H') {o : Addr} {ho : HO} (h0 : H o = none) (hb : B' o = none) : Adv B H B' (upd H' o ho) := by
  refine ⟨v.b, fun a x e => ?_, fun a x e => ?_, v.n⟩
  · rw [upd_ne (ne_of_none e h0)]; exact v.h a x e
  · rw [upd_ne (ne_of_none e hb)]; exact v.s a x e
section
variable {F : Fam} {elt tg iter kx vx : Expr} {ifs : List Expr} {scope : Scope} {pos : Pos} {items : En → Option (List D)} {T : TgF} {is : List Nat} {q : En → Option Bool} {f : En → Option D} {own : List (Str × Nat)}
theorem ev_lc [Wd] {wi : TI} {g : TG} {tt : TT} {te : TE} {vs : List Nat} (i2 : EvI wi items) (g2 : EvG g T is) (his' : ∀ i ∈ is, i ∈ vs) (t2 : EvT tt q) (e2 : Ev te f) : EvO (tLc wi g tt te vs) (mLc items T q f vs) := fun ρ d e H0 B σ H Q rp k => by
  obtain ⟨xs, ex, e⟩ := bind_some' e
  obtain ⟨total, et, rfl⟩ := Option.map_eq_some_iff.mp e
  clear e
  refine i2 ρ xs ex H0 B σ H _ rp fun J B1 H1 v1 wk => ?_
  intro D hD
  have rp1 := rp.adv v1
  refine ⟨fun i m Hc => m = xs.length - i ∧ i ≤ xs.length ∧ ∃ (Bc : Hp) (acc : List V) (ds rest : List Dl.D), Adv B1 H1 Bc Hc ∧ Bc D = none ∧ Hc D = some (.lst acc) ∧ DenA Bc acc ds ∧ acc.length ≤ i ∧ compGo T q f (wipeE ρ vs) (xs.drop i) = some rest ∧ ds ++ rest = total,
    ⟨xs.length, by omega, Nat.zero_le _, B1, [], [], total, .lay v1.s hD, v1.s.free hD, upd_same, .nil, Nat.zero_le _, et, rfl⟩, ?_⟩
  rintro i m Hc ⟨rfl, hi, Bc, acc, ds, rest, va, hB, hH, hden, hlen, hgo, htot⟩
  by_cases hlt : i < xs.length
  · refine .inr ⟨wk.go i Bc Hc hlt va.b va.s, fun H' => xs.length - (i + 1) = xs.length - (i + 1) ∧ i + 1 ≤ xs.length ∧ ∃ (Bc : Hp) (acc : List V) (ds rest : List Dl.D), Adv B1 H1 Bc H' ∧ Bc D = none ∧ H' D = some (.lst acc) ∧ DenA Bc acc ds ∧ acc.length ≤ i + 1 ∧ compGo T q f (wipeE ρ vs) (xs.drop (i + 1)) = some rest ∧ ds ++ rest = total,
      fun H' p => ⟨xs.length - (i + 1), by omega, p⟩, fun x H2 y => ?_⟩
    obtain ⟨B2, d, v2, hd, hx⟩ := wk.yld i Bc Hc x H2 hlt va.b va.s y
    have hdrop : xs.drop i = d :: xs.drop (i + 1) := by
      rw [List.drop_eq_getElem_cons hlt]
      congr 1
      rw [List.getElem?_eq_getElem hlt] at hd
      exact Option.some.inj hd
    rw [hdrop] at hgo
    obtain ⟨ρ1, eT, hgo⟩ := bind_some' (show (T d (wipeE ρ vs)).bind _ = some rest from hgo)
    obtain ⟨b, eb, hgo⟩ := bind_some' hgo
    have va2 := va.trans v2
    refine g2 d _ ρ1 eT H0 B2 (L2.wipe σ vs) H2 x _ ((rp1.adv va2).wipe _) hx fun σ2 r2 l2 n2 => ?_
    refine ⟨wipe_eq (is := is) (by rw [l2, wipe_length]) n2 l2 his', ?_⟩
    refine t2 ρ1 b eb H0 B2 σ2 H2 _ r2 fun B3 H3 v3 => ?_
    have va3 := va2.trans v3
    cases b with
    | false =>
      refine iteF ⟨rfl, hlt, B3, acc, ds, rest, va3, ?_, ?_, hden.mono (v2.trans v3).b, by omega, by simpa using hgo, htot⟩
      · exact (v2.trans v3).n D hB (by rw [hH]; simp)
      · exact (v2.trans v3).h _ _ hH
    | true =>
      rw [if_pos rfl] at hgo
      obtain ⟨y2, ey, hgo⟩ := bind_some' hgo
      obtain ⟨rest2, er, rfl⟩ := Option.map_eq_some_iff.mp hgo
      refine iteT (e2 ρ1 y2 ey H0 B3 σ2 H3 _ (r2.adv v3) fun vy B4 H4 v4 d4 => ?_)
      have v24 := (v2.trans v3).trans v4
      have hB4 : B4 D = none := v24.n D hB (by rw [hH]; simp)
      have hH4 : H4 D = some (.lst acc) := v24.h _ _ hH
      have hw := wk.len
      refine ⟨acc, hH4, by omega, rfl, hlt, B4, acc ++ [vy], ds ++ [y2], rest2, (va3.trans v4).write hD hB4, hB4, upd_same, (hden.mono v24.b).append (.cons d4 .nil), by simp; omega, er, by rw [List.append_assoc]; exact htot⟩
  · have e : i = xs.length := by omega
    subst e
    rw [List.drop_length] at hgo
    cases hgo
    rw [List.append_nil] at htot
    subst htot
    refine .inl ⟨wk.stop Bc Hc va.b va.s, ?_⟩
    have hw := wk.len
    exact k D (.lst acc) Bc Hc (v1.trans va) (v1.h.free hD) hB hH (.lst (by omega) hden)
theorem peo_lc [Wd] (hi : PId F tg iter items) (ok : blkC F.N F.sc scope own = true) (hg : PGd (F.blk scope) tg T is) (his : (is.all fun i => (own.map (·.2)).contains i) = true) (ht : PTsd (F.blk scope) ifs q) (he : PEd (F.blk scope).X elt f)
    (hs : ∀ i x, foldedSetIterable iter (F.X i).env x = pure x := by intro _ _; rfl) : PEo F.X (.ListComp elt [⟨tg, iter, ifs, 0⟩] scope pos) (mLc items T q f (own.map (·.2))) := by
  obtain ⟨wi, i1, i2⟩ := hi.ex
  obtain ⟨g, g1, g2⟩ := hg.ex
  obtain ⟨tt, t1, t2⟩ := ht.ex
  obtain ⟨te, e1, e2⟩ := he.ex
  have his' : ∀ i ∈ is, i ∈ own.map (·.2) := fun i h => by
    have := List.all_eq_true.mp his i h
    simpa using this
  exact ⟨tLc wi g tt te (own.map (·.2)), fun i => pe_lc (F.calm i) (by rw [F.hN i]; exact F.nd) (i1 i) (by rw [F.hN i, F.hsc i]; exact blkOk_by ok) (fun s H C cl fp => g1 (i, s, H, C, cl, fp)) (fun s H C cl fp => t1 (i, s, H, C, cl, fp)) (fun s H C cl fp => e1 (i, s, H, C, cl, fp)) (hs i), ev_lc i2 g2 his' t2 e2⟩
end
end Dl

end
section
set_option Elab.async false
set_option linter.all false
set_option maxRecDepth 100000
set_option autoImplicit false
namespace Dl
open PySem PySem.Spec PyProof.Rows L2

/-! ### list comprehensions, two clauses -/
def noOwn (ρ : En) : Bool := ρ.all fun s => match s with
  | .own _ => false
  | _ => true
theorem noOwn_no {ρ : En} (h : noOwn ρ = true) {i : Nat} {d : D} (e : ρ[i]? = some (.own d)) : False := by
  have := List.all_eq_true.mp h _ (List.mem_of_getElem? e)
  cases this
/-- the inner items, for one outer item -/
def compGo2 (T : TgF) (q : En → Option Bool) (items2 : En → Option (List D)) (vs1 : List Nat) (T2 : TgF) (f : En → Option D) (ρ : En) : List D → Option (List D)
  | [] => some []
  | x :: xs => (T x ρ).bind fun ρ1 => if noOwn ρ1 = false then none else (q ρ1).bind fun b => if b = true then (items2 ρ1).bind fun ys => (compGo T2 qYes f (wipeE ρ1 vs1) ys).bind fun zs => (compGo2 T q items2 vs1 T2 f ρ xs).map (zs ++ ·) else compGo2 T q items2 vs1 T2 f ρ xs
def mLc2 (items : En → Option (List D)) (T : TgF) (q : En → Option Bool) (items2 : En → Option (List D)) (vs1 : List Nat) (T2 : TgF) (f : En → Option D) (vs : List Nat) : En → Option D := fun ρ => (items ρ).bind fun xs => (compGo2 T q items2 vs1 T2 f (wipeE ρ vs) xs).bind fun zs => if zs.length ≤ 1000000 then some (.list zs) else none
theorem wipeE_length (ρ : En) : ∀ vs : List Nat, (wipeE ρ vs).length = ρ.length
  | [] => rfl
  | v :: vs => by unfold wipeE; rw [List.length_set, wipeE_length ρ vs]
section
variable {F : Fam} {elt tg iter tg1 iter1 : Expr} {ifs : List Expr} {scope : Scope} {pos : Pos} {items items2 : En → Option (List D)} {T T2 : TgF} {is is2 vs1 : List Nat} {q : En → Option Bool} {f : En → Option D} {own : List (Str × Nat)}
theorem peo_lc2 [Wd] (hi : PId F tg iter items) (ok : blkC F.N F.sc scope own = true) (hv : (vs1.all fun i => (own.map (·.2)).contains i) = true) (hg : PGd (F.blk scope) tg T is) (his : (is.all fun i => (own.map (·.2)).contains i) = true) (ht : PTsd (F.blk scope) ifs q)
    (hi1 : PId (F.blk scope) tg1 iter1 items2) (hg1 : PGd (F.blk scope) tg1 T2 is2) (his2 : (is2.all fun i => vs1.contains i) = true) (he : PEd (F.blk scope).X elt f)
    (hs : ∀ i x, foldedSetIterable iter (F.X i).env x = pure x := by intro _ _; rfl) (hs1 : ∀ env x, foldedSetIterable iter1 env x = pure x := by intro _ _; rfl) :
    PEo F.X (.ListComp elt [⟨tg, iter, ifs, 0⟩, ⟨tg1, iter1, [], 0⟩] scope pos) (mLc2 items T q items2 vs1 T2 f (own.map (·.2))) := by
  obtain ⟨wi, i1, i2⟩ := hi.ex
  obtain ⟨g, g1, g2⟩ := hg.ex
  obtain ⟨tt, t1, t2⟩ := ht.ex
  obtain ⟨wi1, j1, j2⟩ := hi1.ex
  obtain ⟨gg, h1, h2⟩ := hg1.ex
  obtain ⟨te, e1, e2⟩ := he.ex
  have his' : ∀ i ∈ is, i ∈ own.map (·.2) := fun i h => by simpa using List.all_eq_true.mp his i h
  have his2' : ∀ i ∈ is2, i ∈ vs1 := fun i h => by simpa using List.all_eq_true.mp his2 i h
  have hv' : ∀ i ∈ vs1, i ∈ own.map (·.2) := fun i h => by simpa using List.all_eq_true.mp hv i h
  refine ⟨tLc2 wi g tt wi1 gg tYes te (own.map (·.2)) vs1, fun i => pe_lc2 (F.calm i) (by rw [F.hN i]; exact F.nd) (i1 i) (by rw [F.hN i, F.hsc i]; exact blkOk_by ok) hv' (fun s H C cl fp => g1 (i, s, H, C, cl, fp)) (fun s H C cl fp => t1 (i, s, H, C, cl, fp)) (fun s H C cl fp => j1 (i, s, H, C, cl, fp)) (fun s H C cl fp => h1 (i, s, H, C, cl, fp)) (fun s H C cl fp => pts_nil) (fun s H C cl fp => e1 (i, s, H, C, cl, fp)) (hs i) hs1, fun ρ d e H0 B σ H Q rp k => ?_⟩
  obtain ⟨xs, ex, e⟩ := bind_some' e
  obtain ⟨total, et, e⟩ := bind_some' e
  split at e
  · rename_i hbig
    cases e
    refine i2 ρ xs ex H0 B σ H _ rp fun J B1 H1 v1 wk => ?_
    intro D hD
    have rp1 := rp.adv v1
    have hsz : ∀ ds rest : List Dl.D, ds ++ rest = total → ds.length ≤ 1000000 := fun ds rest h => by
      have := congrArg List.length h
      rw [List.length_append] at this
      omega
    refine ⟨fun i m Hc => m = xs.length - i ∧ i ≤ xs.length ∧ ∃ (Bc : Hp) (acc : List V) (ds rest : List Dl.D), Adv B1 H1 Bc Hc ∧ Bc D = none ∧ Hc D = some (.lst acc) ∧ DenA Bc acc ds ∧ compGo2 T q items2 vs1 T2 f (wipeE ρ (own.map (·.2))) (xs.drop i) = some rest ∧ ds ++ rest = total,
      ⟨xs.length, by omega, Nat.zero_le _, B1, [], [], total, .lay v1.s hD, v1.s.free hD, upd_same, .nil, et, rfl⟩, ?_⟩
    rintro i m Hc ⟨rfl, hi, Bc, acc, ds, rest, va, hB, hH, hden, hgo, htot⟩
    by_cases hlt : i < xs.length
    · refine .inr ⟨wk.go i Bc Hc hlt va.b va.s, fun H' => i + 1 ≤ xs.length ∧ ∃ (Bc : Hp) (acc : List V) (ds rest : List Dl.D), Adv B1 H1 Bc H' ∧ Bc D = none ∧ H' D = some (.lst acc) ∧ DenA Bc acc ds ∧ compGo2 T q items2 vs1 T2 f (wipeE ρ (own.map (·.2))) (xs.drop (i + 1)) = some rest ∧ ds ++ rest = total,
        fun H' p => ⟨xs.length - (i + 1), by omega, rfl, p⟩, fun x H2 y => ?_⟩
      obtain ⟨B2, d, v2, hd, hx⟩ := wk.yld i Bc Hc x H2 hlt va.b va.s y
      have hdrop : xs.drop i = d :: xs.drop (i + 1) := by
        rw [List.drop_eq_getElem_cons hlt]
        congr 1
        rw [List.getElem?_eq_getElem hlt] at hd
        exact Option.some.inj hd
      rw [hdrop] at hgo
      obtain ⟨ρ1, eT, hgo⟩ := bind_some' (show (T d (wipeE ρ (own.map (·.2)))).bind _ = some rest from hgo)
      cases hno : noOwn ρ1 with
      | false => rw [hno] at hgo; cases hgo
      | true =>
      rw [hno, if_neg (by decide)] at hgo
      obtain ⟨b, eb, hgo⟩ := bind_some' hgo
      have va2 := va.trans v2
      refine g2 d _ ρ1 eT H0 B2 (L2.wipe σ (own.map (·.2))) H2 x _ ((rp1.adv va2).wipe _) hx fun σ2 r2 l2 n2 => ?_
      refine ⟨wipe_eq (is := is) (by rw [l2, wipe_length]) n2 l2 his', ?_⟩
      refine t2 ρ1 b eb H0 B2 σ2 H2 _ r2 fun B3 H3 v3 => ?_
      have va3 := va2.trans v3
      have hB3 : B3 D = none := (v2.trans v3).n D hB (by rw [hH]; simp)
      have hH3 : H3 D = some (.lst acc) := (v2.trans v3).h _ _ hH
      cases b with
      | false => exact iteF ⟨hlt, B3, acc, ds, rest, va3, hB3, hH3, hden.mono (v2.trans v3).b, by simpa using hgo, htot⟩
      | true =>
        rw [if_pos rfl] at hgo
        obtain ⟨ys, eys, hgo⟩ := bind_some' hgo
        obtain ⟨zs, ezs, hgo⟩ := bind_some' hgo
        obtain ⟨rest2, er, rfl⟩ := Option.map_eq_some_iff.mp hgo
        refine iteT (j2 ρ1 ys eys H0 B3 σ2 H3 _ (r2.adv v3) fun J1 B4 H4 v4 wk1 => ?_)
        have hB4 : B4 D = none := v4.n D hB3 (by rw [hH3]; simp)
        have hH4 : H4 D = some (.lst acc) := v4.h _ _ hH3
        have r4 := (r2.adv v3).adv v4
        have den4 := hden.mono ((v2.trans v3).trans v4).b
        -- the inner loop: what holds of the heap apart from the list
        refine ⟨fun j m1 Hj => m1 = ys.length - j ∧ j ≤ ys.length ∧ ∃ (Bj : Hp) (acc1 : List V) (ds1 rest1 : List Dl.D), Adv B1 H1 Bj Hj ∧ Same B4 Bj ∧ Rep H0 Bj σ2 Hj ρ1 ∧ Bj D = none ∧ Hj D = some (.lst acc1) ∧ DenA Bj acc1 ds1 ∧ compGo T2 qYes f (wipeE ρ1 vs1) (ys.drop j) = some rest1 ∧ ds1 ++ (rest1 ++ rest2) = total,
          ⟨ys.length, by omega, Nat.zero_le _, B4, acc, ds, zs, va3.trans v4, .refl _, r4, hB4, hH4, den4, ezs, htot⟩, ?_⟩
        rintro j m1 Hj ⟨rfl, hj, Bj, acc1, ds1, rest1, vj, hs4, rj, hBj, hHj, denj, hgoj, htotj⟩
        by_cases hltj : j < ys.length
        · refine .inr ⟨wk1.go j Bj Hj hltj hs4 vj.s, fun H' => j + 1 ≤ ys.length ∧ ∃ (Bj : Hp) (acc1 : List V) (ds1 rest1 : List Dl.D), Adv B1 H1 Bj H' ∧ Same B4 Bj ∧ Rep H0 Bj σ2 H' ρ1 ∧ Bj D = none ∧ H' D = some (.lst acc1) ∧ DenA Bj acc1 ds1 ∧ compGo T2 qYes f (wipeE ρ1 vs1) (ys.drop (j + 1)) = some rest1 ∧ ds1 ++ (rest1 ++ rest2) = total,
            fun H' p => ⟨ys.length - (j + 1), by omega, rfl, p⟩, fun x H5 y => ?_⟩
          obtain ⟨B5, d5, v5, hd5, hx5⟩ := wk1.yld j Bj Hj x H5 hltj hs4 vj.s y
          have hdrop5 : ys.drop j = d5 :: ys.drop (j + 1) := by
            rw [List.drop_eq_getElem_cons hltj]
            congr 1
            rw [List.getElem?_eq_getElem hltj] at hd5
            exact Option.some.inj hd5
          rw [hdrop5] at hgoj
          obtain ⟨ρ5, eT5, hgoj⟩ := bind_some' (show (T2 d5 (wipeE ρ1 vs1)).bind _ = some rest1 from hgoj)
          obtain ⟨b5, eb5, hgoj⟩ := bind_some' hgoj
          cases eb5
          rw [if_pos rfl] at hgoj
          obtain ⟨y5, ey5, hgoj⟩ := bind_some' hgoj
          obtain ⟨rest5, er5, rfl⟩ := Option.map_eq_some_iff.mp hgoj
          refine h2 d5 _ ρ5 eT5 H0 B5 (L2.wipe σ2 vs1) H5 x _ ((rj.adv v5).wipe _) hx5 fun σ5 r5 l5 n5 => ?_
          refine ⟨wipe_eq (is := is2) (by rw [l5, wipe_length]) n5 l5 his2', ?_⟩
          dsimp only [tYes]
          rw [if_pos rfl]
          refine e2 ρ5 y5 ey5 H0 B5 σ5 H5 _ r5 fun vy B6 H6 v6 d6 => ?_
          have v56 := v5.trans v6
          have hB6 : B6 D = none := v56.n D hBj (by rw [hHj]; simp)
          have hH6 : H6 D = some (.lst acc1) := v56.h _ _ hHj
          have hlen1 : acc1.length < sizeLine := by
            rw [denj.length]
            exact Nat.lt_of_le_of_lt (hsz ds1 _ htotj) (by decide)
          refine ⟨acc1, hH6, hlen1, hltj, B6, acc1 ++ [vy], ds1 ++ [y5], rest5, (vj.trans v56).write hD hB6, hs4.trans v56.b, ?_, hB6, upd_same, (denj.mono v56.b).append (.cons d6 .nil), er5, by rw [← htotj]; simp⟩
          have r6 := rj.adv v56
          have nD : ∀ a o, B6 a = some o → a ≠ D := fun a o e => ne_of_none e hB6
          refine ⟨r6.len, fun a o e => by rw [upd_ne (nD a o e)]; exact r6.sub a o e, r6.val, fun n dd hn => ?_, r6.raw, r6.ne⟩
          exact (noOwn_no hno hn).elim
        · have e : j = ys.length := by omega
          subst e
          rw [List.drop_length] at hgoj
          cases hgoj
          exact .inl ⟨wk1.stop Bj Hj hs4 vj.s, hlt, Bj, acc1, ds1, rest2, vj, hBj, hHj, denj, er, htotj⟩
    · have e : i = xs.length := by omega
      subst e
      rw [List.drop_length] at hgo
      cases hgo
      rw [List.append_nil] at htot
      subst htot
      refine .inl ⟨wk.stop Bc Hc va.b va.s, ?_⟩
      exact k D (.lst acc) Bc Hc (v1.trans va) (v1.h.free hD) hB hH (.lst (by rw [hden.length]; exact Nat.le_trans hbig (by decide)) hden)
  · cases e
end
end Dl

end
section
set_option Elab.async false
set_option linter.all false
set_option maxRecDepth 100000
set_option autoImplicit false
namespace Dl
open PySem PySem.Spec PyProof.Rows L2

/-! ### statements -/
inductive Out where
  | nx (ρ : En)
  | rt (d : D)
def Post [Wd] (H0 B0 : Hp) (E : Ends) : Out → Prop
  | .nx ρ' => ∀ B' σ' H', Adv B0 H0 B' H' → Rep H0 B' σ' H' ρ' → E.nx σ' H'
  | .rt d => ∀ v B' H', Adv B0 H0 B' H' → Den B' v d → E.rt v H'
def Sx [Wd] (t : TS) (m : En → Option Out) : Prop := ∀ ρ o, m ρ = some o → ∀ (H0 B0 B : Hp) (σ : L2.St) (H : Hp) (E : Ends), Adv B0 H0 B H → Rep H0 B σ H ρ → Post H0 B0 E o → t E σ H
structure PSd [Wd] (F : Fam) (st : Stmt) (m : En → Option Out) : Prop where
  ex : ∃ t, (∀ i, PS (F.X i) st t) ∧ Sx t m
structure PSsd [Wd] (F : Fam) (st : List Stmt) (m : En → Option Out) : Prop where
  ex : ∃ t, (∀ i, PSs (F.X i) st t) ∧ Sx t m

def sNil : En → Option Out := fun ρ => some (.nx ρ)
def sSeq (a b : En → Option Out) : En → Option Out := fun ρ => (a ρ).bind fun o => match o with
  | .nx ρ' => b ρ'
  | .rt d => some (.rt d)
def sNever : En → Option Out := fun _ => none
def sRet (m : En → Option D) : En → Option Out := fun ρ => (m ρ).map .rt
def sSet (i : Nat) (m : En → Option D) : En → Option Out := fun ρ => (m ρ).map fun d => .nx (ρ.set i (.val d))
def sSetO (i : Nat) (m : En → Option D) : En → Option Out := fun ρ => (m ρ).map fun d => .nx (ρ.set i (.own d))
def sAsg (T : TgF) (m : En → Option D) : En → Option Out := fun ρ => (m ρ).bind fun d => (T d ρ).map .nx
def sIf (q : En → Option Bool) (a b : En → Option Out) : En → Option Out := fun ρ => (q ρ).bind fun c => if c = true then a ρ else b ρ
def sDrop (m : En → Option D) : En → Option Out := fun ρ => (m ρ).map fun _ => .nx ρ
def forGo (T : TgF) (b : En → Option Out) : List D → En → Option Out
  | [], ρ => some (.nx ρ)
  | x :: xs, ρ => (T x ρ).bind fun ρ1 => (b ρ1).bind fun o => match o with
    | .nx ρ2 => forGo T b xs ρ2
    | .rt d => some (.rt d)
def sFor (items : En → Option (List D)) (T : TgF) (b : En → Option Out) : En → Option Out := fun ρ => (items ρ).bind fun xs => forGo T b xs ρ
def whileGo (q : En → Option Bool) (b : En → Option Out) : Nat → En → Option Out
  | 0, _ => none
  | n + 1, ρ => (q ρ).bind fun c => if c = true then (b ρ).bind fun o => match o with
    | .nx ρ2 => whileGo q b n ρ2
    | .rt d => some (.rt d)
    else some (.nx ρ)
def sWhile (n : Nat) (q : En → Option Bool) (b : En → Option Out) : En → Option Out := whileGo q b n
/-- freeze a container -/
def frz (i : Nat) (ρ : En) : En := match ρ[i]? with
  | some (.own d) => ρ.set i (.val d)
  | _ => ρ
def sFrz (i : Nat) (b : En → Option Out) : En → Option Out := fun ρ => b (frz i ρ)
/-- a container that is being built is read; what is read has no container within -/
def mThaw (i : Nat) (m : En → Option D) : En → Option D := fun ρ => match ρ[i]? with
  | some (.own d) => (m (ρ.set i (.val d))).bind fun r => if flat r = true then some r else none
  | _ => none
def sApp (i : Nat) (m : En → Option D) : En → Option Out := fun ρ => (m ρ).bind fun d => match ρ[i]? with
  | some (.own (.list ds)) => if ds.length < 16000000 then some (.nx (ρ.set i (.own (.list (ds ++ [d]))))) else none
  | _ => none
def sExt (i : Nat) (m : En → Option D) : En → Option Out := fun ρ => (m ρ).bind fun d => match d, ρ[i]? with
  | .list es, some (.own (.list ds)) => if ds.length + es.length < 16000000 then some (.nx (ρ.set i (.own (.list (ds ++ es))))) else none
  | _, _ => none
def sPop (i j : Nat) : En → Option Out := fun ρ => match ρ[i]? with
  | some (.own (.list ds)) => match ds[ds.length - 1]? with
    | some d => if i ≠ j then some (.nx ((ρ.set i (.own (.list ds.dropLast))).set j (.val d))) else none
    | none => none
  | _ => none
def sAug (i : Nat) (f : Int → Int → Int) (m : En → Option D) : En → Option Out := fun ρ => match ρ[i]? with
  | some (.val (.int a)) => (m ρ).bind fun d => match d with
    | .int b => some (.nx (ρ.set i (.val (.int (f a b)))))
    | _ => none
  | _ => none
/-- xs[i] -= e -/
def sAugL (n : Nat) (f : Int → Int → Int) (ix m : En → Option D) : En → Option Out := fun ρ => (ix ρ).bind fun x => match x, ρ[n]? with
  | .int k, some (.own (.list ds)) => if 0 ≤ k then match ds[k.toNat]? with
    | some (.int a) => (m ρ).bind fun d => match d with
      | .int b => some (.nx (ρ.set n (.own (.list (ds.set k.toNat (.int (f a b)))))))
      | _ => none
    | _ => none
    else none
  | _, _ => none

theorem Fam.own (F : Fam) (i : F.ι) : PassesOwn (model (F.X i).prog (F.X i).w) (F.X i).A (F.X i).env (F.X i).xe := by
  rw [F.nox i]
  exact PassesOwn.never
/-- from the entry on -/
theorem Adv.trans' {B0 H0 B H B' H' : Hp} (p : Adv B0 H0 B H) (q : Adv B H B' H') : Adv B0 H0 B' H' := p.trans q
section
variable {F : Fam} {st : Stmt} {sts a b : List Stmt} {e c tg iter : Expr} {pos p p2 : Pos} {m m' : En → Option D} {s s' : En → Option Out} {q : En → Option Bool} {x : Str}
theorem pssd_nil [Wd] : PSsd F [] sNil := ⟨_, fun _ => pss_nil, fun ρ o e H0 B0 B σ H E v r p => by cases e; exact p B σ H v r⟩
theorem pssd_cons [Wd] (h : PSd F st s) (k : PSsd F sts s') : PSsd F (st :: sts) (sSeq s s') := by
  obtain ⟨t, h1, h2⟩ := h.ex
  obtain ⟨u, k1, k2⟩ := k.ex
  refine ⟨tSeq t u, fun i => pss_cons (h1 i) (k1 i), fun ρ o e H0 B0 B σ H E v r p => ?_⟩
  obtain ⟨o1, e1, e⟩ := bind_some' e
  refine h2 ρ o1 e1 H0 B0 B σ H _ v r ?_
  cases o1 with
  | nx ρ' => exact fun B' σ' H' v' r' => k2 ρ' o e H0 B0 B' σ' H' E v' r' p
  | rt d => cases e; exact p
theorem pssd_one [Wd] (h : PSd F st s) : PSsd F [st] s := by
  obtain ⟨t, h1, h2⟩ := h.ex
  exact ⟨t, fun i => pss_one (h1 i), h2⟩
theorem psd_never [Wd] : PSd F st sNever := ⟨_, fun _ => ps_never, fun ρ o e => by cases e⟩
theorem pssd_never [Wd] : PSsd F sts sNever := ⟨_, fun _ => pss_never, fun ρ o e => by cases e⟩
theorem psd_ret [Wd] (h : PEd F.X e m) : PSd F (.Return (some e) pos) (sRet m) := by
  obtain ⟨t, h1, h2⟩ := h.ex
  refine ⟨tRet t, fun i => ps_ret (h1 i), fun ρ o eo H0 B0 B σ H E v r p => ?_⟩
  obtain ⟨d, ed, rfl⟩ := Option.map_eq_some_iff.mp eo
  exact h2 ρ d ed H0 B σ H _ r fun w B1 H1 v1 d1 => p w B1 H1 (v.trans' v1) d1

theorem psd_set [Wd] (n : Nat) (hN : F.N[n]? = some x) (hx : Loc F.sc x) (hf : ∀ i, (F.X i).fn x = true ∨ F.sc.names.lookup x = some .local) (h : PEd F.X e m) (hs : ∀ i, swapsWith e (some (.Name x p)) pos.line (F.X i).env = pure false := by intro _; rfl) :
    PSd F (.Assign [.Name x p] e pos) (sSet n m) := by
  obtain ⟨t, h1, h2⟩ := h.ex
  refine ⟨tAsg t (gName n), fun i => ps_set (by rw [F.hN i]; exact F.nd) (by rw [F.hN i]; exact hN) (by rw [F.hsc i]; exact hx) (h1 i) (hs i) (by rw [F.hsc i]; exact hf i), fun ρ o eo H0 B0 B σ H E v r k => ?_⟩
  obtain ⟨d, ed, rfl⟩ := Option.map_eq_some_iff.mp eo
  exact h2 ρ d ed H0 B σ H _ r fun w B1 H1 v1 d1 => k B1 _ H1 (v.trans v1) ((r.adv v1).set d1 n)
theorem psd_setO [Wd] (n : Nat) (hN : F.N[n]? = some x) (hx : Loc F.sc x) (hf : ∀ i, (F.X i).fn x = true ∨ F.sc.names.lookup x = some .local) (h : PEo F.X e m) (hs : ∀ i, swapsWith e (some (.Name x p)) pos.line (F.X i).env = pure false := by intro _; rfl) :
    PSd F (.Assign [.Name x p] e pos) (sSetO n m) := by
  obtain ⟨t, h1, h2⟩ := h.ex
  refine ⟨tAsg t (gName n), fun i => ps_set (by rw [F.hN i]; exact F.nd) (by rw [F.hN i]; exact hN) (by rw [F.hsc i]; exact hx) (h1 i) (hs i) (by rw [F.hsc i]; exact hf i), fun ρ o eo H0 B0 B σ H E v r k => ?_⟩
  obtain ⟨d, ed, rfl⟩ := Option.map_eq_some_iff.mp eo
  refine h2 ρ d ed H0 B σ H _ r fun w ho B1 H1 v1 hw hb hh d1 => k B1 _ H1 (v.trans v1) ((r.adv v1).setO (v.h.free hw) hb hh d1 n fun j e hj _ z => ?_)
  obtain ⟨o, ho, q1, q2, q3, q4, q5⟩ := r.own j e hj
  rw [q1] at z
  cases z
  rw [hw] at q4
  cases q4
theorem psd_asg [Wd] {T : TgF} {is : List Nat} (h : PEd F.X e m) (hg : PGd F tg T is) (hs : ∀ i, swapsWithSole [tg] e pos.line (F.X i).env = pure false := by intro _; rfl) (hw : ∀ i, swappedStores [tg] e (F.X i).env = pure none := by intro _; rfl)
    (h1 : ∀ i, (assignEach [tg] (F.X i).env).map (·.2) = [assign tg (F.X i).env] := by intro _; rfl) : PSd F (.Assign [tg] e pos) (sAsg T m) := by
  obtain ⟨t, t1, t2⟩ := h.ex
  obtain ⟨g, g1, g2⟩ := hg.ex
  refine ⟨tAsg t g, fun i => ps_asg (t1 i) (g1 i) (hs i) (hw i) (h1 i), fun ρ o eo H0 B0 B σ H E v r k => ?_⟩
  obtain ⟨d, ed, eo⟩ := bind_some' eo
  obtain ⟨ρ1, e1, rfl⟩ := Option.map_eq_some_iff.mp eo
  exact t2 ρ d ed H0 B σ H _ r fun w B1 H1 v1 d1 => g2 d ρ ρ1 e1 H0 B1 σ H1 w _ (r.adv v1) d1 fun σ1 r1 _ _ => k B1 σ1 H1 (v.trans v1) r1
theorem psd_if [Wd] (hc : PTd F.X c q) (ha : PSsd F a s) (hb : PSsd F b s') : PSd F (.If c a b pos) (sIf q s s') := by
  obtain ⟨t, t1, t2⟩ := hc.ex
  obtain ⟨u, u1, u2⟩ := ha.ex
  obtain ⟨w, w1, w2⟩ := hb.ex
  refine ⟨tIfS t u w, fun i => ps_if (t1 i) (u1 i) (w1 i), fun ρ o eo H0 B0 B σ H E v r k => ?_⟩
  obtain ⟨d, ed, eo⟩ := bind_some' eo
  refine t2 ρ d ed H0 B σ H _ r fun B1 H1 v1 => ?_
  cases d with
  | true => exact iteT (u2 ρ o (by simpa using eo) H0 B0 B1 σ H1 E (v.trans v1) (r.adv v1) k)
  | false => exact iteF (w2 ρ o (by simpa using eo) H0 B0 B1 σ H1 E (v.trans v1) (r.adv v1) k)
theorem psd_drop [Wd] (h : PEd F.X e m) (hs : ∀ i, swapsWith e none pos.line (F.X i).env = pure false := by intro _; rfl) : PSd F (.Expr e pos) (sDrop m) := by
  obtain ⟨t, h1, h2⟩ := h.ex
  refine ⟨tDrop t, fun i => ps_expr (h1 i) (hs i), fun ρ o eo H0 B0 B σ H E v r k => ?_⟩
  obtain ⟨d, ed, rfl⟩ := Option.map_eq_some_iff.mp eo
  exact h2 ρ d ed H0 B σ H _ r fun w B1 H1 v1 d1 => k B1 σ H1 (v.trans v1) (r.adv v1)
theorem psd_for [Wd] {items : En → Option (List D)} {T : TgF} {is : List Nat} (hi : PId F tg iter items) (hg : PGd F tg T is) (hb : PSsd F a s) (hs : ∀ i x, foldedSetIterable iter (F.X i).env x = pure x := by intro _ _; rfl) : PSd F (.For tg iter a [] pos) (sFor items T s) := by
  obtain ⟨wi, i1, i2⟩ := hi.ex
  obtain ⟨g, g1, g2⟩ := hg.ex
  obtain ⟨u, u1, u2⟩ := hb.ex
  refine ⟨tFor wi g u, fun i => ps_for (F.own i) (F.calm i) (i1 i) (g1 i) (u1 i) (hs i), fun ρ o eo H0 B0 B σ H E v r k => ?_⟩
  obtain ⟨xs, ex, eo⟩ := bind_some' eo
  refine i2 ρ xs ex H0 B σ H _ r fun J B1 H1 v1 wk => ?_
  have va := v.trans v1
  have start : Adv B1 H0 B1 H1 := ⟨.refl _, va.h, va.s, fun a e _ => e⟩
  refine ⟨fun i m σc Hc => m = xs.length - i ∧ i ≤ xs.length ∧ ∃ (Bc : Hp) (ρc : En), Adv B1 H0 Bc Hc ∧ Rep H0 Bc σc Hc ρc ∧ forGo T s (xs.drop i) ρc = some o, ⟨xs.length, by omega, Nat.zero_le _, B1, ρ, start, r.adv v1, eo⟩, ?_⟩
  rintro i m σc Hc ⟨rfl, hi, Bc, ρc, vc, rc, hgo⟩
  have v0c : Adv B0 H0 Bc Hc := ⟨va.b.trans vc.b, vc.h, vc.s, fun a e ne => vc.n a (va.n a e ne) ne⟩
  by_cases hlt : i < xs.length
  · refine .inr ⟨wk.go i Bc Hc hlt vc.b vc.s, fun σ' H' => i + 1 ≤ xs.length ∧ ∃ (Bc : Hp) (ρc : En), Adv B1 H0 Bc H' ∧ Rep H0 Bc σ' H' ρc ∧ forGo T s (xs.drop (i + 1)) ρc = some o, fun σ' H' p => ⟨xs.length - (i + 1), by omega, rfl, p⟩, fun y H2 hy => ?_⟩
    obtain ⟨B2, d, v2, hd, hx⟩ := wk.yld i Bc Hc y H2 hlt vc.b vc.s hy
    have hdrop : xs.drop i = d :: xs.drop (i + 1) := by
      rw [List.drop_eq_getElem_cons hlt]
      congr 1
      rw [List.getElem?_eq_getElem hlt] at hd
      exact Option.some.inj hd
    rw [hdrop] at hgo
    obtain ⟨ρ1, eT, hgo⟩ := bind_some' (show (T d ρc).bind _ = some o from hgo)
    obtain ⟨o1, eo1, hgo⟩ := bind_some' hgo
    refine g2 d ρc ρ1 eT H0 B2 σc H2 y _ (rc.adv v2) hx fun σ2 r2 _ _ => ?_
    cases o1 with
    | nx ρ2 => exact u2 ρ1 _ eo1 H0 B1 B2 σ2 H2 _ (vc.trans v2) r2 fun B' σ' H' v' r' => ⟨hlt, B', ρ2, v', r', hgo⟩
    | rt dd =>
      cases hgo
      exact u2 ρ1 _ eo1 H0 B0 B2 σ2 H2 _ (v0c.trans v2) r2 k
  · have e : i = xs.length := by omega
    subst e
    rw [List.drop_length] at hgo
    cases hgo
    exact .inl ⟨wk.stop Bc Hc vc.b vc.s, k Bc σc Hc v0c rc⟩
theorem psd_while [Wd] (n : Nat) (hc : PTd F.X c q) (hb : PSsd F a s) : PSd F (.While c a [] pos) (sWhile n q s) := by
  obtain ⟨t, t1, t2⟩ := hc.ex
  obtain ⟨u, u1, u2⟩ := hb.ex
  refine ⟨tWhile t u, fun i => ps_while (F.own i) (t1 i) (u1 i), fun ρ o eo H0 B0 B σ H E v r k => ?_⟩
  refine ⟨fun l σc Hc => ∃ (Bc : Hp) (ρc : En), Adv B0 H0 Bc Hc ∧ Rep H0 Bc σc Hc ρc ∧ whileGo q s l ρc = some o, ⟨n, B, ρ, v, r, eo⟩, ?_⟩
  rintro l σc Hc ⟨Bc, ρc, vc, rc, hgo⟩
  cases l with
  | zero => cases hgo
  | succ l =>
    obtain ⟨b, eb, hgo⟩ := bind_some' (show (q ρc).bind _ = some o from hgo)
    refine t2 ρc b eb H0 Bc σc Hc _ rc fun B1 H1 v1 => ?_
    cases b with
    | false =>
      cases hgo
      exact iteF (k B1 σc H1 (vc.trans v1) (rc.adv v1))
    | true =>
      rw [if_pos rfl] at hgo
      obtain ⟨o1, eo1, hgo⟩ := bind_some' hgo
      refine iteT ⟨fun σ' H' => ∃ (Bc : Hp) (ρc : En), Adv B0 H0 Bc H' ∧ Rep H0 Bc σ' H' ρc ∧ whileGo q s l ρc = some o, fun σ' H' p => ⟨l, Nat.lt_succ_self _, p⟩, ?_⟩
      cases o1 with
      | nx ρ2 => exact u2 ρc _ eo1 H0 B0 B1 σc H1 _ (vc.trans v1) (rc.adv v1) fun B' σ' H' v' r' => ⟨B', ρ2, v', r', hgo⟩
      | rt dd =>
        cases hgo
        exact u2 ρc _ eo1 H0 B0 B1 σc H1 _ (vc.trans v1) (rc.adv v1) k
/-- a container is frozen -/
theorem Rep.frz [Wd] {H0 B H : Hp} {σ : L2.St} {ρ : En} (r : Rep H0 B σ H ρ) {i : Nat} {d : D} {o : Addr} {ho : HO} (hi : ρ[i]? = some (.own d)) (hs : σ[i]? = some (some (V.ref o))) (hB : B o = none) (hH : H o = some ho) (hd : DenO B o ho d) :
    Rep H0 (upd B o ho) σ H (ρ.set i (.val d)) where
  len := by rw [List.length_set]; exact r.len
  sub := fun a x e => by
    by_cases h : a = o
    · subst h; rw [upd_same] at e; cases e; exact hH
    · rw [upd_ne h] at e; exact r.sub a x e
  val := fun j e hj => by
    by_cases hij : i = j
    · subst hij
      rw [List.getElem?_set_self (List.getElem?_eq_some_iff.mp hi).1] at hj
      cases hj
      exact ⟨_, hs, (hd.mono (none_upd hB)).den upd_same⟩
    · rw [List.getElem?_set_ne hij] at hj
      obtain ⟨v, h1, h2⟩ := r.val j e hj
      exact ⟨v, h1, h2.mono (none_upd hB)⟩
  own := fun j e hj => by
    by_cases hij : i = j
    · subst hij
      rw [List.getElem?_set_self (List.getElem?_eq_some_iff.mp hi).1] at hj
      cases hj
    · rw [List.getElem?_set_ne hij] at hj
      obtain ⟨o', ho', h1, h2, h3, h4, h5⟩ := r.own j e hj
      refine ⟨o', ho', h1, h2, ?_, h4, h5.mono (none_upd hB)⟩
      rw [upd_ne (fun z => hij (r.ne i j d e o hi hj hs (by rw [h1, z])))]
      exact h3
  raw := fun j e hj => by
    by_cases hij : i = j
    · subst hij
      rw [List.getElem?_set_self (List.getElem?_eq_some_iff.mp hi).1] at hj
      cases hj
    · rw [List.getElem?_set_ne hij] at hj
      exact r.raw j e hj
  ne := fun j l d1 d2 q h1 h2 h3 h4 => by
    have ij : i ≠ j := fun z => by
      subst z
      rw [List.getElem?_set_self (List.getElem?_eq_some_iff.mp hi).1] at h1; cases h1
    have il : i ≠ l := fun z => by
      subst z
      rw [List.getElem?_set_self (List.getElem?_eq_some_iff.mp hi).1] at h2; cases h2
    rw [List.getElem?_set_ne ij] at h1
    rw [List.getElem?_set_ne il] at h2
    exact r.ne j l d1 d2 q h1 h2 h3 h4
theorem pssd_frz [Wd] (n : Nat) (h : PSsd F sts s) : PSsd F sts (sFrz n s) := by
  obtain ⟨t, h1, h2⟩ := h.ex
  refine ⟨t, h1, fun ρ o eo H0 B0 B σ H E v r k => ?_⟩
  unfold sFrz Dl.frz at eo
  split at eo
  · rename_i d hd
    obtain ⟨o1, ho, q1, q2, q3, q4, q5⟩ := r.own _ _ hd
    exact h2 _ o eo H0 B0 _ σ H E (v.freeze q4 q2 q3) (r.frz hd q1 q3 q4 q5) k
  · exact h2 _ o eo H0 B0 B σ H E v r k
/-- .. and after it has been read it goes on -/
theorem ped_thaw [Wd] (n : Nat) (h : PEd F.X e m) : PEd F.X e (mThaw n m) := by
  obtain ⟨t, h1, h2⟩ := h.ex
  refine ⟨t, h1, fun ρ d ed H0 B σ H Q r k => ?_⟩
  unfold mThaw at ed
  split at ed
  · rename_i d0 hd
    obtain ⟨y, ey, ed⟩ := bind_some' ed
    split at ed
    · rename_i hfl
      cases ed
      obtain ⟨o, ho, q1, q2, q3, q4, q5⟩ := r.own _ _ hd
      refine h2 _ d ey H0 (upd B o ho) σ H Q (r.frz hd q1 q3 q4 q5) fun v B1 H1 v1 d1 => ?_
      have hb1 : B1 o = some ho := v1.b _ _ upd_same
      have nt : ∀ xs, ho ≠ .tup xs := fun xs z => by subst z; cases q5
      refine k v (fun a => if a = o then none else B1 a) H1 ⟨fun a x e => ?_, v1.h, fun a x e => ?_, fun a e ne => ?_⟩ (d1.tups (fun a xs e => ?_) hfl)
      · rw [if_neg (ne_of_none e q3)]
        exact v1.b a x (by rw [upd_ne (ne_of_none e q3)]; exact e)
      · by_cases hz : a = o
        · rw [if_pos hz] at e; cases e
        · rw [if_neg hz] at e; exact v1.s a x e
      · by_cases hz : a = o
        · rw [if_pos hz]
        · rw [if_neg hz]; exact v1.n a (by rw [upd_ne hz]; exact e) ne
      · have hz : a ≠ o := fun z => by
          subst z
          rw [hb1] at e
          exact nt xs (Option.some.inj e)
        rw [if_neg hz]
        exact e
    · cases ed
  · cases ed
/-- a container is changed -/
theorem Rep.upd [Wd] {H0 B H : Hp} {σ : L2.St} {ρ : En} (r : Rep H0 B σ H ρ) {i : Nat} {d d' : D} {o : Addr} {ho' : HO} (hi : ρ[i]? = some (.own d)) (hs : σ[i]? = some (some (V.ref o))) (h0 : H0 o = none) (hB : B o = none) (hd : DenO B o ho' d') :
    Rep H0 B σ (L2.upd H o ho') (ρ.set i (.own d')) where
  len := by rw [List.length_set]; exact r.len
  sub := fun a x e => by rw [upd_ne (ne_of_none e hB)]; exact r.sub a x e
  val := fun j e hj => by
    by_cases hij : i = j
    · subst hij
      rw [List.getElem?_set_self (List.getElem?_eq_some_iff.mp hi).1] at hj
      cases hj
    · rw [List.getElem?_set_ne hij] at hj
      exact r.val j e hj
  own := fun j e hj => by
    by_cases hij : i = j
    · subst hij
      rw [List.getElem?_set_self (List.getElem?_eq_some_iff.mp hi).1] at hj
      cases hj
      exact ⟨o, ho', hs, h0, hB, upd_same, hd⟩
    · rw [List.getElem?_set_ne hij] at hj
      obtain ⟨o', ho2, h1, h2, h3, h4, h5⟩ := r.own j e hj
      refine ⟨o', ho2, h1, h2, h3, ?_, h5⟩
      rw [upd_ne (fun z => hij (r.ne i j d e o hi hj hs (by rw [h1, z])))]
      exact h4
  raw := fun j e hj => by
    by_cases hij : i = j
    · subst hij
      rw [List.getElem?_set_self (List.getElem?_eq_some_iff.mp hi).1] at hj
      cases hj
    · rw [List.getElem?_set_ne hij] at hj
      exact r.raw j e hj
  ne := fun j l d1 d2 q h1 h2 h3 h4 => by
    have key : ∀ {n : Nat} {dd : D}, (ρ.set i (.own d'))[n]? = some (Sl.own dd) → ∃ de, ρ[n]? = some (Sl.own de) := fun {n dd} h => by
      by_cases hn : i = n
      · exact ⟨d, by rw [← hn]; exact hi⟩
      · rw [List.getElem?_set_ne hn] at h; exact ⟨_, h⟩
    obtain ⟨e1, k1⟩ := key h1
    obtain ⟨e2, k2⟩ := key h2
    exact r.ne j l e1 e2 q k1 k2 h3 h4
theorem get_own [Wd] {H0 B H : Hp} {σ : L2.St} {ρ : En} {n : Nat} {ds : List D} (r : Rep H0 B σ H ρ) (hd : ρ[n]? = some (.own (.list ds))) : ∃ o vs, σ[n]? = some (some (V.ref o)) ∧ H0 o = none ∧ B o = none ∧ H o = some (.lst vs) ∧ DenA B vs ds ∧ vs.length = ds.length ∧ vs.length ≤ sizeLine := by
  obtain ⟨o, ho, q1, q2, q3, q4, q5⟩ := r.own _ _ hd
  cases q5 with
  | lst z h => exact ⟨o, _, q1, q2, q3, q4, h, h.length, z⟩
theorem big16 {n : Nat} (h : n < 16000000) : n < sizeLine := Nat.lt_trans h (by decide)
theorem psd_app [Wd] (n : Nat) {apos : Pos} (hN : F.N[n]? = some x) (hv : Vis F.sc x) (h : PEd F.X e m) (hx : (x == ("__debug__" : Str)) = false := by decide) (hcd : (x == ("__classdict__" : Str)) = false := by decide)
    (hbase : ∀ i, attributeBase (.Name x p) "append" (F.X i).env (eval (.Name x p) (F.X i).env) = eval (.Name x p) (F.X i).env := by intro _; rfl)
    (hfew : ∀ i, ((backTo p2 (starEach [e] (F.X i).env)).all (fun x => !x.1) && (backToKw p2 (keywordEach [] (F.X i).env)).all (fun x => x.1.isSome) && decide (([e] : List Expr).length + ([] : List Keyword).length + (if ([] : List Keyword).isEmpty then 0 else 1) < 30)) = true := by intro _; rfl)
    (hline : (apos.endLine == p2.line) = true := by rfl) (hs : ∀ i, starEach [e] (F.X i).env = (false, eval e (F.X i).env) :: starEach [] (F.X i).env := by intro _; rfl)
    (hsw : ∀ i, swapsWith (.Call (.Attribute (.Name x p) "append" apos) [e] [] p2) none pos.line (F.X i).env = pure false := by intro _; rfl) : PSd F (.Expr (.Call (.Attribute (.Name x p) "append" apos) [e] [] p2) pos) (sApp n m) := by
  obtain ⟨t, h1, h2⟩ := h.ex
  refine ⟨tDrop (tBM F.K "list" rAppend (tVar n) (tCons t tNil)), fun i => ps_expr (by
    rw [← (F.hX i).2.2.1]
    exact pe_bm PySem.F.plainAttrs_list PySem.F.slot_list_append PySem.F.type_list_append mt_append (pe_var (by rw [F.hN i]; exact hN) (by rw [F.hsc i]; exact hv) hx hcd) (pa_cons (h1 i) pa_nil (hs i)) (hbase i) (hfew i) hline (hs i)) (hsw i), fun ρ o eo H0 B0 B σ H E v r k => ?_⟩
  obtain ⟨d, ed, eo⟩ := bind_some' eo
  split at eo
  · rename_i ds hd
    split at eo
    · rename_i hlt
      cases eo
      obtain ⟨o, vs, q1, q2, q3, q4, q5, q6, q7⟩ := get_own r hd
      refine ⟨.ref o, q1, .inl ⟨rfl, vs, .of q4⟩, h2 ρ d ed H0 B σ H _ r fun y B1 H1 v1 d1 => ?_⟩
      have r1 := r.adv v1
      obtain ⟨o', vs', p1, p2, p3, p4, p5, p6, p7⟩ := get_own r1 hd
      have eo : o = o' := by rw [q1] at p1; cases p1; rfl
      subst eo
      refine ⟨o, vs', y, rfl, rfl, p4, by rw [p6]; exact big16 hlt, k B1 σ _ ((v.trans v1).write p2 p3) (r1.upd hd p1 p2 p3 (.lst ?_ (p5.append (.cons d1 .nil))))⟩
      rw [List.length_append, p6]
      exact Nat.succ_le_of_lt (big16 hlt)
    · cases eo
  · cases eo
theorem psd_ext [Wd] (n : Nat) {apos : Pos} (hN : F.N[n]? = some x) (hv : Vis F.sc x) (h : PEd F.X e m) (hx : (x == ("__debug__" : Str)) = false := by decide) (hcd : (x == ("__classdict__" : Str)) = false := by decide)
    (hbase : ∀ i, attributeBase (.Name x p) "extend" (F.X i).env (eval (.Name x p) (F.X i).env) = eval (.Name x p) (F.X i).env := by intro _; rfl)
    (hfew : ∀ i, ((backTo p2 (starEach [e] (F.X i).env)).all (fun x => !x.1) && (backToKw p2 (keywordEach [] (F.X i).env)).all (fun x => x.1.isSome) && decide (([e] : List Expr).length + ([] : List Keyword).length + (if ([] : List Keyword).isEmpty then 0 else 1) < 30)) = true := by intro _; rfl)
    (hline : (apos.endLine == p2.line) = true := by rfl) (hs : ∀ i, starEach [e] (F.X i).env = (false, eval e (F.X i).env) :: starEach [] (F.X i).env := by intro _; rfl)
    (hsw : ∀ i, swapsWith (.Call (.Attribute (.Name x p) "extend" apos) [e] [] p2) none pos.line (F.X i).env = pure false := by intro _; rfl) : PSd F (.Expr (.Call (.Attribute (.Name x p) "extend" apos) [e] [] p2) pos) (sExt n m) := by
  obtain ⟨t, h1, h2⟩ := h.ex
  refine ⟨tDrop (tBM F.K "list" rExtend (tVar n) (tCons t tNil)), fun i => ps_expr (by
    rw [← (F.hX i).2.2.1]
    exact pe_bm PySem.F.plainAttrs_list PySem.F.slot_list_extend PySem.F.type_list_extend mt_extend (pe_var (by rw [F.hN i]; exact hN) (by rw [F.hsc i]; exact hv) hx hcd) (pa_cons (h1 i) pa_nil (hs i)) (hbase i) (hfew i) hline (hs i)) (hsw i), fun ρ o eo H0 B0 B σ H E v r k => ?_⟩
  obtain ⟨d, ed, eo⟩ := bind_some' eo
  split at eo
  · rename_i es ds hd
    split at eo
    · rename_i hlt
      cases eo
      obtain ⟨o, vs, q1, q2, q3, q4, q5, q6, q7⟩ := get_own r hd
      refine ⟨.ref o, q1, .inl ⟨rfl, vs, .of q4⟩, h2 ρ _ ed H0 B σ H _ r fun y B1 H1 v1 d1 => ?_⟩
      have r1 := r.adv v1
      obtain ⟨o', vs', p1, p2, p3, p4, p5, p6, p7⟩ := get_own r1 hd
      have eo : o = o' := by rw [q1] at p1; cases p1; rfl
      subst eo
      cases d1 with
      | @lst b us _ hb hz hden =>
        have hl : vs'.length + us.length ≤ sizeLine := by rw [p6, hden.length]; exact Nat.le_of_lt (big16 hlt)
        refine ⟨o, b, vs', us, rfl, rfl, p4, v1.s _ _ hb, hl, k B1 σ _ ((v.trans v1).write p2 p3) (r1.upd hd p1 p2 p3 (.lst ?_ (p5.append hden)))⟩
        rw [List.length_append]
        exact hl
    · cases eo
  · cases eo
/-- y = xs.pop() -/
theorem psd_pop [Wd] (n l : Nat) {apos : Pos} {y : Str} {py : Pos} (hN : F.N[n]? = some x) (hv : Vis F.sc x) (hNl : F.N[l]? = some y) (hyl : Loc F.sc y) (hf : ∀ i, (F.X i).fn y = true ∨ F.sc.names.lookup y = some .local) (hx : (x == ("__debug__" : Str)) = false := by decide) (hcd : (x == ("__classdict__" : Str)) = false := by decide)
    (hbase : ∀ i, attributeBase (.Name x p) "pop" (F.X i).env (eval (.Name x p) (F.X i).env) = eval (.Name x p) (F.X i).env := by intro _; rfl)
    (hline : (apos.endLine == p2.line) = true := by rfl) 
    (hsw : ∀ i, swapsWith (.Call (.Attribute (.Name x p) "pop" apos) [] [] p2) (some (.Name y py)) pos.line (F.X i).env = pure false := by intro _; rfl) : PSd F (.Assign [.Name y py] (.Call (.Attribute (.Name x p) "pop" apos) [] [] p2) pos) (sPop n l) := by
  refine ⟨tAsg (tBM0 F.K "list" rPop (tVar n)) (gName l), fun i => ps_set (by rw [F.hN i]; exact F.nd) (by rw [F.hN i]; exact hNl) (by rw [F.hsc i]; exact hyl) (by
    rw [← (F.hX i).2.2.1]
    exact pe_bm0 PySem.F.plainAttrs_list PySem.F.slot_list_pop PySem.F.type_list_pop mt_pop (pe_var (by rw [F.hN i]; exact hN) (by rw [F.hsc i]; exact hv) hx hcd) (hbase i) hline) (hsw i) (by rw [F.hsc i]; exact hf i), fun ρ o eo H0 B0 B σ H E v r k => ?_⟩
  unfold sPop at eo
  split at eo
  · rename_i ds hd
    split at eo
    · rename_i d hd2
      split at eo
      · rename_i hne
        cases eo
        obtain ⟨o, vs, q1, q2, q3, q4, q5, q6, q7⟩ := get_own r hd
        obtain ⟨w, hw, hden⟩ := q5.get hd2
        refine ⟨.ref o, q1, .inl ⟨rfl, vs, .of q4⟩, o, vs, w, rfl, rfl, q4, by rw [q6]; exact hw, ?_⟩
        refine k B _ _ (v.write q2 q3) ((r.upd hd q1 q2 q3 (.lst ?_ ?_)).set hden l)
        · rw [List.length_dropLast]
          exact Nat.le_trans (Nat.sub_le _ _) q7
        · rw [List.dropLast_eq_take, List.dropLast_eq_take, q6]
          exact q5.take _
      · cases eo
    · cases eo
  · cases eo
/-- x op= e, whole numbers -/
theorem psd_aug [Wd] {op : Operator} {f : Int → Int → Int} (n : Nat) (hip : ∀ i, PIp (F.X i) op (ipI f)) (hN : F.N[n]? = some x) (hx : Loc F.sc x) (hf : ∀ i, (F.X i).fn x = true ∨ F.sc.names.lookup x = some .local) (h : PEd F.X e m) : PSd F (.AugAssign (.Name x p) op e pos) (sAug n f m) := by
  obtain ⟨t, h1, h2⟩ := h.ex
  refine ⟨tAug n t (ipI f), fun i => ps_aug (by rw [F.hN i]; exact F.nd) (by rw [F.hN i]; exact hN) (by rw [F.hsc i]; exact hx) (h1 i) (hip i) (by rw [F.hsc i]; exact hf i), fun ρ o eo H0 B0 B σ H E v r k => ?_⟩
  unfold sAug at eo
  split at eo
  · rename_i a ha
    obtain ⟨d, ed, eo⟩ := bind_some' eo
    split at eo
    · rename_i b
      cases eo
      obtain ⟨w, hw, hd⟩ := r.val _ _ ha
      rw [hd.int_inv] at hw
      refine ⟨.int a, hw, h2 ρ _ ed H0 B σ H _ r fun y B1 H1 v1 d1 => ?_⟩
      exact ⟨a, b, rfl, d1.int_inv, k B1 _ H1 (v.trans v1) ((r.adv v1).set (.int _) n)⟩
    · cases eo
  · cases eo
/-- xs[i], by values -/
def rGetL : V → V → Hp → VK → Prop := fun o i H Q => ∃ p xs j y, o = .ref p ∧ i = .int (j : Nat) ∧ H p = some (.lst xs) ∧ xs[j]? = some y ∧ Q y H
theorem get_list {X : Cx} : PGet X rGetL := by
  intro pins s σ H o i ov iv Q I ro ri h
  obtain ⟨p, xs, j, y, rfl, rfl, hp, hy, q⟩ := h
  cases ro
  obtain ⟨t, rfl⟩ := ri
  obtain ⟨its, n, rv, ho, hz⟩ := I.lst hp
  obtain ⟨u, hu, ru⟩ := rv.get hy
  have hl := rv.length
  have hj : j < xs.length := (List.getElem?_eq_some_iff.mp hy).1
  have hn := line63
  exact wpAny_getItem_list (items := its.toArray) (x := u) ⟨_, ho, rfl, n, rfl⟩ (Int.natCast_nonneg j) (by omega) (by simpa using hu) ⟨y, H, I, ru, q⟩
theorem psd_augL [Wd] {op : Operator} {f : Int → Int → Int} {tpos : Pos} {ie : Expr} {mi : En → Option D} (n : Nat) (hip : ∀ i, PIp (F.X i) op (ipI f)) (hN : F.N[n]? = some x) (hv : Vis F.sc x) (hi : PEd F.X ie mi) (h : PEd F.X e m) (hx : (x == ("__debug__" : Str)) = false := by decide) (hcd : (x == ("__classdict__" : Str)) = false := by decide)
    (ha : ∀ ov iv new, augStore ie ov iv new = (do holding [new, ov, iv] (setItem ov iv new); release [new, ov, iv] []; pure .next) := by intros; rfl) : PSd F (.AugAssign (.Subscript (.Name x p) ie tpos) op e pos) (sAugL n f mi m) := by
  obtain ⟨t, h1, h2⟩ := h.ex
  obtain ⟨u, k1, k2⟩ := hi.ex
  refine ⟨tAugS (tVar n) u t rGetL (ipI f) rSetL, fun i => ps_augS (pe_var (by rw [F.hN i]; exact hN) (by rw [F.hsc i]; exact hv) hx hcd) (k1 i) get_list (h1 i) (hip i) set_list ha, fun ρ o eo H0 B0 B σ H E v r k => ?_⟩
  obtain ⟨ix, eix, eo⟩ := bind_some' eo
  split at eo
  · rename_i kk ds hd
    split at eo
    · rename_i h0
      split at eo
      · rename_i a ha
        obtain ⟨d, ed, eo⟩ := bind_some' eo
        split at eo
        · rename_i b
          cases eo
          obtain ⟨o, vs, q1, q2, q3, q4, q5, q6, q7⟩ := get_own r hd
          refine ⟨.ref o, q1, k2 ρ _ eix H0 B σ H _ r fun w B1 H1 v1 d1 => ?_⟩
          have r1 := r.adv v1
          obtain ⟨o', vs', p1, p2, p3, p4, p5, p6, p7⟩ := get_own r1 hd
          have eo : o = o' := by rw [q1] at p1; cases p1; rfl
          subst eo
          obtain ⟨y, hy, hyd⟩ := p5.get ha
          rw [hyd.int_inv] at hy
          refine ⟨o, vs', kk.toNat, .int a, rfl, by rw [d1.int_inv, Int.toNat_of_nonneg h0], p4, hy, h2 ρ _ ed H0 B1 σ H1 _ r1 fun z B2 H2 v2 d2 => ?_⟩
          have r2 := r1.adv v2
          obtain ⟨o2, vs2, u1, u2, u3, u4, u5, u6, u7⟩ := get_own r2 hd
          have eo : o = o2 := by rw [q1] at u1; cases u1; rfl
          subst eo
          have hlt : kk.toNat < vs2.length := by rw [u6]; exact (List.getElem?_eq_some_iff.mp ha).1
          refine ⟨a, b, rfl, d2.int_inv, o, vs2, kk, kk.toNat, rfl, d1.int_inv, u4, ?_, k B2 σ _ ((v.trans (v1.trans v2)).write u2 u3) (r2.upd hd u1 u2 u3 (.lst ?_ (DenA.set (.int _) _ u5)))⟩
          · unfold ixN
            rw [if_pos h0, if_pos (by omega)]
          · rw [List.length_set]
            exact u7
        · cases eo
      · cases eo
    · cases eo
  · cases eo
/-- name = [..] on one line, the name a local -/
theorem psd_setLc [Wd] {elt : Expr} {ifs : List Expr} {scope : Scope} {items : En → Option (List D)} {T : TgF} {is : List Nat} {f : En → Option D} {own : List (Str × Nat)} (n : Nat) (hN : F.N[n]? = some x) (hx : F.sc.names.lookup x = some .local) (hi : PId F tg iter items) (ok : blkC F.N F.sc scope own = true) (hg : PGd (F.blk scope) tg T is) (his : (is.all fun i => (own.map (·.2)).contains i) = true) (ht : PTsd (F.blk scope) ifs q) (he : PEd (F.blk scope).X elt f)
    (hsw : ∀ i, swapsWith (.ListComp elt [⟨tg, iter, ifs, 0⟩] scope p2) (some (.Name x p)) pos.line (F.X i).env = pure true)
    (hs : ∀ i x, foldedSetIterable iter (F.X i).env x = pure x := by intro _ _; rfl) : PSd F (.Assign [.Name x p] (.ListComp elt [⟨tg, iter, ifs, 0⟩] scope p2) pos) (sSet n (mLc items T q f (own.map (·.2)))) := by
  obtain ⟨wi, i1, i2⟩ := hi.ex
  obtain ⟨g, g1, g2⟩ := hg.ex
  obtain ⟨tt, t1, t2⟩ := ht.ex
  obtain ⟨te, e1, e2⟩ := he.ex
  have his' : ∀ i ∈ is, i ∈ own.map (·.2) := fun i h => by
    have := List.all_eq_true.mp his i h
    simpa using this
  refine ⟨tAsg (tLc wi g tt te (own.map (·.2))) (gName n), fun i => ps_setLc (F.calm i) (by rw [F.hN i]; exact F.nd) (by rw [F.hN i]; exact hN) (by rw [F.hsc i]; exact hx) (hsw i) (i1 i) (by rw [F.hN i, F.hsc i]; exact blkOk_by ok) (fun s H C cl fp => g1 (i, s, H, C, cl, fp)) (fun s H C cl fp => t1 (i, s, H, C, cl, fp)) (fun s H C cl fp => e1 (i, s, H, C, cl, fp)) (hs i), fun ρ o eo H0 B0 B σ H E v r k => ?_⟩
  obtain ⟨d, ed, rfl⟩ := Option.map_eq_some_iff.mp eo
  exact (ev_lc i2 g2 his' t2 e2).ev ρ d ed H0 B σ H _ r fun w B1 H1 v1 d1 => k B1 _ H1 (v.trans v1) ((r.adv v1).set d1 n)
end
end Dl

end
section
set_option Elab.async false
set_option linter.all false
set_option maxRecDepth 100000
set_option autoImplicit false
namespace Dl
open PySem PySem.Spec PyProof.Rows L2

/-- a def's calls -/
structure CallI (k : Nat) (qual : Str) (scope : Scope) (f : Addr) where
  cdv : Value
  A : Around
  outer : List Env
  s : Shared
  H : Hp
  E : XK
  hr : Room k (A.deeper (envOfC qual scope s.heap.objs.size f cdv))
def famOf (P : Program) (w : World) (K : PySem.W.Frag) (mg : Str → Option Value) (base : Heap) (N : List Str) (nd : N.Nodup) (qual : Str) (scope : Scope) (f : Addr) (k : Nat) : Fam where
  ι := CallI k qual scope f
  X := fun i => (cxOf CX0 P w K mg base N qual scope f i.cdv i.A i.outer i.s i.H i.E).nox
  N := N
  sc := scope
  k := k
  P := P
  w := w
  K := K
  mg := mg
  base := base
  hN := fun _ => rfl
  nd := nd
  hsc := fun _ => rfl
  calm := fun _ => rfl
  hr := fun i => i.hr
  hX := fun _ => ⟨rfl, rfl, rfl, rfl, rfl⟩
  nox := fun _ => rfl
/-- the plain function of a def's body -/
def bodyF (n : Nat) (s : En → Option Out) : List D → Option D := fun ds => match s (ds.map .val ++ List.replicate (n - ds.length) .un) with
  | some (.rt d) => some d
  | some (.nx _) => some .none
  | none => none
theorem rep_start [Wd] {B H : Hp} {vs : List V} {ds : List D} {N : List Str} (s : Same B H) (h : DenA B vs ds) : Rep H B (L2.start N vs) H (ds.map .val ++ List.replicate (N.length - ds.length) .un) where
  len := by
    unfold L2.start
    rw [List.length_append, List.length_append, List.length_map, List.length_map, List.length_replicate, List.length_replicate, h.length]
  sub := s
  val := fun i d e => by
    by_cases hi : i < ds.length
    · rw [List.getElem?_append_left (by simpa using hi), List.getElem?_map] at e
      obtain ⟨v, h1, h2⟩ := h.get (i := i) (d := ds[i]) (List.getElem?_eq_getElem hi)
      rw [List.getElem?_eq_getElem hi] at e
      cases e
      refine ⟨v, ?_, h2⟩
      unfold L2.start
      rw [List.getElem?_append_left (by rw [List.length_map, h.length]; exact hi), List.getElem?_map, h1]
      rfl
    · rw [List.getElem?_append_right (by simpa using hi)] at e
      have := List.mem_of_getElem? e
      rw [List.mem_replicate] at this
      cases this.2
  own := fun i d e => by
    have := List.mem_of_getElem? e
    rcases List.mem_append.mp this with h | h
    · obtain ⟨x, _, q⟩ := List.mem_map.mp h
      cases q
    · rw [List.mem_replicate] at h
      cases h.2
  raw := fun i d e => by
    have := List.mem_of_getElem? e
    rcases List.mem_append.mp this with h | h
    · obtain ⟨x, _, q⟩ := List.mem_map.mp h
      cases q
    · rw [List.mem_replicate] at h
      cases h.2
  ne := fun i j d e o h1 => by
    have := List.mem_of_getElem? h1
    rcases List.mem_append.mp this with h | h
    · obtain ⟨x, _, q⟩ := List.mem_map.mp h
      cases q
    · rw [List.mem_replicate] at h
      cases h.2
section
variable {P : Program} {w : World} {K : PySem.W.Frag} {mg : Str → Option Value} {base : Heap} {x qual : Str} {st : Stmt} {f : Addr} {fd : FuncData} {N ps : List Str} {k n : Nat}
/-- THE RULE: a def by its plain function -/
theorem fnD [Wd] (Fn : Fun K x qual st f fd) (S : FnScope N ps (defScope st)) {s : En → Option Out} (hb : PSsd (famOf P w K mg base N S.nd qual (defScope st) f k) (defBody st) s) (hn : ps.length = n := by rfl) :
    FnOk P w K mg base CX0 (k + 1) f fd ps (spD n (bodyF N.length s)) := by
  obtain ⟨t, h1, h2⟩ := hb.ex
  refine Fn.ok S (spD_len hn) fun cdv A outer sh H vs Q E hr h => ⟨t, h1 ⟨cdv, A, outer, sh, H, E, hr⟩, ?_⟩
  obtain ⟨hl, B, ds, r, sm, hd, e, q⟩ := h
  unfold bodyF at e
  have rp := rep_start (N := N) sm hd
  split at e
  · rename_i d hd2
    cases e
    exact h2 _ _ hd2 H B B (L2.start N vs) H _ (.refl sm) rp fun v B' H' v' d' => q v B' H' v' d'
  · rename_i ρ hd2
    cases e
    exact h2 _ _ hd2 H B B (L2.start N vs) H _ (.refl sm) rp fun B' σ' H' v' r' => q _ B' H' v' .non
  · cases e
theorem spD_imp [Wd] {F G : List D → Option D} (h : ∀ ds d, F ds = some d → G ds = some d) (hG : FnOk P w K mg base CX0 k f fd ps (spD n G)) : FnOk P w K mg base CX0 k f fd ps (spD n F) :=
  hG.imp fun vs H Q E ⟨hl, B, ds, r, sm, hd, e, q⟩ => ⟨hl, B, ds, r, sm, hd, h ds r e, q⟩
end
end Dl

end
section
set_option Elab.async false
set_option linter.all false
set_option maxRecDepth 100000
set_option autoImplicit false
namespace Dl
open PySem PySem.Spec PyProof.Rows L2

def dNeg : D → Option D
  | .int i => some (.int (-i))
  | _ => none
section
variable {F : Fam} {e a b : Expr} {es : List Expr} {pos p p2 : Pos} {m m' : En → Option D} {ms : En → Option (List D)} {x : Str}
theorem ped_neg [Wd] (h : PEd F.X e m) : PEd F.X (.UnaryOp .USub e pos) (mU dNeg m) := by
  obtain ⟨t, h1, h2⟩ := h.ex
  refine ⟨tUn (rU fun i => .int (-i)) t, fun i => pe_un un_neg (h1 i), fun ρ d e H0 B σ H Q rp q => ?_⟩
  obtain ⟨x, ex, e⟩ := bind_some' e
  refine h2 ρ x ex H0 B σ H _ rp fun v B1 H1 v1 d1 => ?_
  unfold dNeg at e
  split at e
  · cases e
    exact ⟨_, d1.int_inv, q _ B1 H1 v1 (.int _)⟩
  · cases e

/-- which built-ins the module leaves alone -/
structure Tx (mg : Str → Option Value) : Prop where
  isinstance : mg "isinstance" = none
  len : mg "len" = none
  all : mg "all" = none
  sum : mg "sum" = none
  max : mg "max" = none
  min : mg "min" = none
  sorted : mg "sorted" = none
  set : mg "set" = none
  list : mg "list" = none
  tuple : mg "tuple" = none
  dict : mg "dict" = none
  int : mg "int" = none
  bool : mg "bool" = none
  range : mg "range" = none
  enumerate : mg "enumerate" = none
  abs : mg "abs" = none

abbrev GI' (F : Fam) (x : Str) : Prop := F.sc.names.lookup x = some .globalImplicit
abbrev St1 (F : Fam) (e : Expr) (es : List Expr) : Prop := ∀ i, starEach (e :: es) (F.X i).env = (false, eval e (F.X i).env) :: starEach es (F.X i).env
abbrev Pl1 (F : Fam) (es : List Expr) (pos : Pos) : Prop := ∀ i, (backTo pos (starEach es (F.X i).env)).any (·.1) = false
theorem b_len [Wd] (hg : GI' F "len") (T : Tx F.mg) (ha : PAd F.X (e :: es) ms) (he : St1 F e es := by intro _; rfl) (hpl : Pl1 F es pos := by intro _; rfl) : PEd F.X (.Call (.Name "len" p) (e :: es) [] pos) (mF fLen ms) :=
  ped_callB (fun i => rcAll_c (r := fun K xs H Q => ∃ p ys, xs = [.ref p] ∧ (SqL K H p ys ∨ SqT K H p ys) ∧ Q (.int ys.length) H) call_len_seq) (rcAll_e fun _ => calE_len) (gl_of hg) (mg_of' T.len) PySem.boot_len ha (he := he) (hpl := hpl)
theorem b_all [Wd] (hg : GI' F "all") (T : Tx F.mg) (ha : PAd F.X (e :: es) ms) (he : St1 F e es := by intro _; rfl) (hpl : Pl1 F es pos := by intro _; rfl) : PEd F.X (.Call (.Name "all" p) (e :: es) [] pos) (mF fAll ms) :=
  ped_callB (fun i => rcAll_c (r := L2.rAll) (cr_all (F.calm i))) (rcAll_e fun _ => calE_all) (gl_of hg) (mg_of' T.all) (by decide +kernel) ha (he := he) (hpl := hpl)
theorem b_sum [Wd] (hg : GI' F "sum") (T : Tx F.mg) (ha : PAd F.X (e :: es) ms) (he : St1 F e es := by intro _; rfl) (hpl : Pl1 F es pos := by intro _; rfl) : PEd F.X (.Call (.Name "sum" p) (e :: es) [] pos) (mF fSum ms) :=
  ped_callB (fun i => rcAll_c (r := rSum) (cr_sum (F.calm i))) (rcAll_e fun _ => calE_sum) (gl_of hg) (mg_of' T.sum) (by decide +kernel) ha (he := he) (hpl := hpl)
theorem b_min [Wd] (hg : GI' F "min") (T : Tx F.mg) (ha : PAd F.X (e :: es) ms) (he : St1 F e es := by intro _; rfl) (hpl : Pl1 F es pos := by intro _; rfl) : PEd F.X (.Call (.Name "min" p) (e :: es) [] pos) (mF fMin ms) :=
  ped_callB (fun i => rcAll_c (r := fun K xs H Q => (∃ i j, xs = [.int i, .int j] ∧ Q (.int (if j < i then j else i)) H) ∨ rMn false K xs H Q) ((call_min2 (F.calm i)).or (cr_min1 (F.rm i)))) (rcAll_e fun _ => calE_min) (gl_of hg) (mg_of' T.min) (by decide +kernel) ha (he := he) (hpl := hpl)
theorem b_max [Wd] (hg : GI' F "max") (T : Tx F.mg) (ha : PAd F.X (e :: es) ms) (he : St1 F e es := by intro _; rfl) (hpl : Pl1 F es pos := by intro _; rfl) : PEd F.X (.Call (.Name "max" p) (e :: es) [] pos) (mF fMax ms) :=
  ped_callB (fun i => rcAll_c (r := fun K xs H Q => (∃ i j, xs = [.int i, .int j] ∧ Q (.int (if j > i then j else i)) H) ∨ rMn true K xs H Q) ((call_max2 (F.calm i)).or (cr_max1 (F.rm i)))) (rcAll_e fun _ => calE_max) (gl_of hg) (mg_of' T.max) (by decide +kernel) ha (he := he) (hpl := hpl)
theorem b_sorted [Wd] (hg : GI' F "sorted") (T : Tx F.mg) (ha : PAd F.X (e :: es) ms) (he : St1 F e es := by intro _; rfl) (hpl : Pl1 F es pos := by intro _; rfl) : PEo F.X (.Call (.Name "sorted" p) (e :: es) [] pos) (mF fSorted ms) :=
  peo_callB (fun i => rcAll_c (r := rSrt) (cr_srt (F.rm i))) (rcAll_o fun _ => calO_sorted) (gl_of hg) (mg_of' T.sorted) (by decide +kernel) ha (he := he) (hpl := hpl)
theorem b_list [Wd] (hg : GI' F "list") (T : Tx F.mg) (ha : PAd F.X (e :: es) ms) (he : St1 F e es := by intro _; rfl) (hpl : Pl1 F es pos := by intro _; rfl) : PEo F.X (.Call (.Name "list" p) (e :: es) [] pos) (mF fList ms) :=
  peo_callTy (fun i => rcAll_c (r := fun K xs H Q => ∃ p ys, xs = [.ref p] ∧ (SqL K H p ys ∨ SqT K H p ys) ∧ ∀ l, H l = none → Q (.ref l) (upd H l (.lst ys))) call_list_of) (rcAll_o fun _ => calO_list) (gl_of hg) (mg_of' T.list) (by decide +kernel) ha (he := he) (hpl := hpl)
theorem b_tuple [Wd] (hg : GI' F "tuple") (T : Tx F.mg) (ha : PAd F.X (e :: es) ms) (he : St1 F e es := by intro _; rfl) (hpl : Pl1 F es pos := by intro _; rfl) : PEd F.X (.Call (.Name "tuple" p) (e :: es) [] pos) (mF fTuple ms) :=
  ped_callTy (fun i => rcAll_c (r := fun K xs H Q => ∃ p ys, xs = [.ref p] ∧ ((SqL K H p ys ∧ ∀ l, H l = none → Q (.ref l) (upd H l (.tup ys))) ∨ (SqT K H p ys ∧ Q (.ref p) H))) call_tuple_of) (rcAll_e fun _ => calE_tuple) (gl_of hg) (mg_of' T.tuple) (by decide +kernel) ha (he := he) (hpl := hpl)
theorem b_int [Wd] (hg : GI' F "int") (T : Tx F.mg) (ha : PAd F.X (e :: es) ms) (he : St1 F e es := by intro _; rfl) (hpl : Pl1 F es pos := by intro _; rfl) : PEd F.X (.Call (.Name "int" p) (e :: es) [] pos) (mF fInt ms) :=
  ped_callTy (fun i => call_int1) calE_int (gl_of hg) (mg_of' T.int) (by decide +kernel) ha (he := he) (hpl := hpl)
theorem b_isInt [Wd] (hg : GI' F "isinstance") (hT : GI' F "int") (T : Tx F.mg) (ha : PEd F.X e m) (he : St1 F e [.Name "int" p2] := by intro _; rfl) (hpl : Pl1 F [.Name "int" p2] pos := by intro _; rfl) : PEd F.X (.Call (.Name "isinstance" p) [e, .Name "int" p2] [] pos) (mIsi (isT "int") m) :=
  ped_isi (gl_of hg) (mg_of' T.isinstance) (gl_of hT) (mg_of' T.int) (by decide +kernel) ha (hs := he) (hpl := hpl)
theorem b_isBool [Wd] (hg : GI' F "isinstance") (hT : GI' F "bool") (T : Tx F.mg) (ha : PEd F.X e m) (he : St1 F e [.Name "bool" p2] := by intro _; rfl) (hpl : Pl1 F [.Name "bool" p2] pos := by intro _; rfl) : PEd F.X (.Call (.Name "isinstance" p) [e, .Name "bool" p2] [] pos) (mIsi (isT "bool") m) :=
  ped_isi (gl_of hg) (mg_of' T.isinstance) (gl_of hT) (mg_of' T.bool) (by decide +kernel) ha (hs := he) (hpl := hpl)
theorem b_isTuple [Wd] (hg : GI' F "isinstance") (hT : GI' F "tuple") (T : Tx F.mg) (ha : PEd F.X e m) (he : St1 F e [.Name "tuple" p2] := by intro _; rfl) (hpl : Pl1 F [.Name "tuple" p2] pos := by intro _; rfl) : PEd F.X (.Call (.Name "isinstance" p) [e, .Name "tuple" p2] [] pos) (mIsi (isT "tuple") m) :=
  ped_isi (gl_of hg) (mg_of' T.isinstance) (gl_of hT) (mg_of' T.tuple) (by decide +kernel) ha (hs := he) (hpl := hpl)

/-- a def that may be called by its name -/
structure CalD [Wd] (P : Program) (w : World) (K : PySem.W.Frag) (mg : Str → Option Value) (base : Heap) (k : Nat) (x : Str) (n : Nat) (G : List D → Option D) : Prop where
  ex : ∃ (f : Addr) (fd : FuncData) (ps : List Str), FnOk P w K mg base CX0 k f fd ps (spD n G) ∧ mg x = some (.ref f) ∧ PySem.W.keepIn K (.ref f) = true ∧ Binds K fd ps []
theorem CalD.imp [Wd] {P : Program} {w : World} {K : PySem.W.Frag} {mg : Str → Option Value} {base : Heap} {k : Nat} {x : Str} {n : Nat} {G G' : List D → Option D} (c : CalD P w K mg base k x n G) (h : ∀ ds d, G' ds = some d → G ds = some d) : CalD P w K mg base k x n G' := by
  obtain ⟨f, fd, ps, h1, h2⟩ := c.ex
  exact ⟨f, fd, ps, spD_imp h h1, h2⟩
theorem c_own [Wd] {k n : Nat} {G : List D → Option D} (c : CalD F.P F.w F.K F.mg F.base k x n G) (hg : GI' F x) (ha : PAd F.X (e :: es) ms) (hk : Nat.ble k F.k = true := by rfl) (hl : (e :: es).length = n := by rfl) (hdb : (x == ("__debug__" : Str)) = false := by decide) (hs : St1 F e es := by intro _; rfl) (hpl : Pl1 F es pos := by intro _; rfl) :
    PEd F.X (.Call (.Name x p) (e :: es) [] pos) (mF G ms) := by
  obtain ⟨f, fd, ps, h1, h2, h3, h4⟩ := c.ex
  exact ped_call h1 F.hX (fun i => (F.hr i).mono (Nat.le_of_ble_eq_true hk)) (gl_of hg) h2 h3 h4 ha hl hdb hs hpl
end
/-- a def of the text as it stands behind the top -/
structure Std (K : PySem.W.Frag) (mg : Str → Option Value) (x : Str) (st : Stmt) (ps : List Str) : Prop where
  ex : ∃ (f : Addr) (fd : FuncData), Fun K x x st f fd ∧ Binds K fd ps [] ∧ mg x = some (.ref f)
section
variable {P : Program} {w : World} {K : PySem.W.Frag} {mg : Str → Option Value} {base : Heap} {x : Str} {st : Stmt} {N ps : List Str} {k n : Nat} {s : En → Option Out}
theorem calD [Wd] (S : Std K mg x st ps) (sc : FnScope N ps (defScope st)) (hb : ∀ f, PSsd (famOf P w K mg base N sc.nd x (defScope st) f k) (defBody st) s) (hn : ps.length = n := by rfl) : CalD P w K mg base (k + 1) x n (bodyF N.length s) := by
  obtain ⟨f, fd, h1, h2, h3⟩ := S.ex
  exact ⟨f, fd, ps, fnD h1 sc (hb f) hn, h3, h1.kp, h2⟩
end
end Dl

end
section
set_option Elab.async false
set_option linter.all false
set_option maxRecDepth 100000
set_option maxHeartbeats 1000000
set_option autoImplicit false
namespace Dl
open PySem PySem.Spec PyProof.Rows L2

/-! ### stars -/
section
variable {F : Fam} {e : Expr} {es : List Expr} {pos p : Pos} {m : En → Option D} {ms : En → Option (List D)} {x : Str}
theorem pas_star [Wd] (h : PEd F.X e m) (k : PAs F.X es ms) (hs : ∀ i, starEach (.Starred e p :: es) (F.X i).env = (true, eval e (F.X i).env) :: starEach es (F.X i).env := by intro _; rfl) : PAs F.X (.Starred e p :: es) (aS m ms) := by
  obtain ⟨t, h1, h2⟩ := h.ex
  obtain ⟨u, k1, k2⟩ := k.ex
  refine ⟨StX.tStar F.K t u, fun i => by rw [← (F.hX i).2.2.1]; exact StX.pa_star (h1 i) (k1 i) (hs i), fun ρ d e H0 B σ H Q r q => ?_⟩
  obtain ⟨x, ex, e⟩ := bind_some' e
  obtain ⟨xs, exs, e⟩ := bind_some' e
  refine h2 ρ x ex H0 B σ H _ r fun v B1 H1 a1 d1 => ?_
  split at e
  · cases e
    cases d1 with
    | tup hB hz hd =>
      refine ⟨_, _, rfl, .inl (.of (a1.s _ _ hB)), ?_⟩
      refine k2 ρ xs exs H0 B1 σ H1 _ (r.adv a1) fun vs B2 H2 a2 d2 => ?_
      exact q _ B2 H2 (a1.trans a2) ((hd.mono a2.b).append d2)
  · cases e
    cases d1 with
    | lst hB hz hd =>
      refine ⟨_, _, rfl, .inr (.of (a1.s _ _ hB)), ?_⟩
      refine k2 ρ xs exs H0 B1 σ H1 _ (r.adv a1) fun vs B2 H2 a2 d2 => ?_
      exact q _ B2 H2 (a1.trans a2) ((hd.mono a2.b).append d2)
  · cases e
end

/-! ### several at once -/
abbrev SlM := En → Option (List Sl)
def pN : SlM := fun _ => some []
def pV (m : En → Option D) (ms : SlM) : SlM := fun ρ => (m ρ).bind fun d => (ms ρ).map (.val d :: ·)
def pO (m : En → Option D) (ms : SlM) : SlM := fun ρ => (m ρ).bind fun d => (ms ρ).map (.own d :: ·)
/-- what stands for the slots that are made -/
inductive RepL [Wd] (H0 B H : Hp) : List V → List Sl → Prop
  | nil : RepL H0 B H [] []
  | val {v : V} {d : D} {vs : List V} {ss : List Sl} : Den B v d → RepL H0 B H vs ss → RepL H0 B H (v :: vs) (.val d :: ss)
  | own {o : Addr} {ho : HO} {d : D} {vs : List V} {ss : List Sl} : H0 o = none → B o = none → H o = some ho → DenO B o ho d → RepL H0 B H vs ss → RepL H0 B H (.ref o :: vs) (.own d :: ss)
/-- the containers among them, in order -/
def ownsOf : List V → List Sl → List Addr
  | .ref o :: vs, .own _ :: ss => o :: ownsOf vs ss
  | _ :: vs, _ :: ss => ownsOf vs ss
  | _, _ => []
theorem RepL.adv [Wd] {H0 B H B' H' : Hp} (v : Adv B H B' H') : ∀ {vs : List V} {ss : List Sl}, RepL H0 B H vs ss → RepL H0 B' H' vs ss
  | _, _, .nil => .nil
  | _, _, .val h t => .val (h.mono v.b) (t.adv v)
  | _, _, .own a b c d t => .own a (v.n _ b (by rw [c]; simp)) (v.h _ _ c) (d.mono v.b) (t.adv v)
theorem RepL.owns [Wd] {H0 B H : Hp} : ∀ {vs : List V} {ss : List Sl}, RepL H0 B H vs ss → ∀ o ∈ ownsOf vs ss, H o ≠ none ∧ B o = none
  | _, _, .nil, o, h => by cases h
  | .ref _ :: _, _, .val _ t, o, h => t.owns o h
  | .non :: _, _, .val _ t, o, h => t.owns o h
  | .bl _ :: _, _, .val _ t, o, h => t.owns o h
  | .int _ :: _, _, .val _ t, o, h => t.owns o h
  | .str _ :: _, _, .val _ t, o, h => t.owns o h
  | v :: vs, _ :: ss, .val hd t, o, h => by
    refine t.owns o ?_
    cases v <;> exact h
  | _, _, .own _ b c _ t, o, h => by
    rcases List.mem_cons.mp h with rfl | h
    · exact ⟨by rw [c]; simp, b⟩
    · exact t.owns o h
def EvM [Wd] (t : TA) (m : SlM) : Prop := ∀ ρ ss, m ρ = some ss → ∀ (H0 B : Hp) (σ : L2.St) (H : Hp) (Q : List V → Hp → Prop), Rep H0 B σ H ρ → Same H0 H →
  (∀ vs B' H', Adv B H B' H' → RepL H0 B' H' vs ss → (ownsOf vs ss).Nodup → (∀ o ∈ ownsOf vs ss, H o = none) → Q vs H') → t σ H Q
structure PAm [Wd] (F : Fam) (es : List Expr) (m : SlM) : Prop where
  ex : ∃ t, (∀ i, PA (F.X i) es t) ∧ EvM t m
section
variable {F : Fam} {e a b c : Expr} {es : List Expr} {pos p : Pos} {m : En → Option D} {ms : SlM} {x y z : Str}
theorem pam_nil [Wd] : PAm F [] pN := ⟨_, fun _ => pa_nil, fun ρ d h H0 B σ H Q r _ q => by
  cases h
  exact q _ B H (.refl r.sub) .nil List.nodup_nil (fun o h => by cases h)⟩
theorem pam_val [Wd] (h : PEd F.X e m) (k : PAm F es ms) (hs : St1 F e es := by intro _; rfl) : PAm F (e :: es) (pV m ms) := by
  obtain ⟨t, h1, h2⟩ := h.ex
  obtain ⟨u, k1, k2⟩ := k.ex
  refine ⟨tCons t u, fun i => pa_cons (h1 i) (k1 i) (hs i), fun ρ ss e H0 B σ H Q r s0 q => ?_⟩
  obtain ⟨d, ed, e⟩ := bind_some' e
  obtain ⟨ss', es', rfl⟩ := Option.map_eq_some_iff.mp e
  refine h2 ρ d ed H0 B σ H _ r fun v B1 H1 a1 d1 => ?_
  refine k2 ρ ss' es' H0 B1 σ H1 _ (r.adv a1) (s0.trans a1.h) fun vs B2 H2 a2 rl nd nw => ?_
  have e0 : ownsOf (v :: vs) (.val d :: ss') = ownsOf vs ss' := by cases v <;> rfl
  refine q _ B2 H2 (a1.trans a2) (.val (d1.mono a2.b) rl) (by rw [e0]; exact nd) fun o ho => ?_
  rw [e0] at ho
  exact a1.h.free (nw o ho)
theorem pam_own [Wd] (h : PEo F.X e m) (k : PAm F es ms) (hs : St1 F e es := by intro _; rfl) : PAm F (e :: es) (pO m ms) := by
  obtain ⟨t, h1, h2⟩ := h.ex
  obtain ⟨u, k1, k2⟩ := k.ex
  refine ⟨tCons t u, fun i => pa_cons (h1 i) (k1 i) (hs i), fun ρ ss e H0 B σ H Q r s0 q => ?_⟩
  obtain ⟨d, ed, e⟩ := bind_some' e
  obtain ⟨ss', es', rfl⟩ := Option.map_eq_some_iff.mp e
  refine h2 ρ d ed H0 B σ H _ r fun o ho B1 H1 a1 hw hb hh d1 => ?_
  refine k2 ρ ss' es' H0 B1 σ H1 _ (r.adv a1) (s0.trans a1.h) fun vs B2 H2 a2 rl nd nw => ?_
  refine q _ B2 H2 (a1.trans a2) (.own (s0.free hw) (a2.n o hb (by rw [hh]; simp)) (a2.h _ _ hh) (d1.mono a2.b) rl) (List.nodup_cons.mpr ⟨fun z => ?_, nd⟩) fun o' ho' => ?_
  · have := nw o z
    rw [hh] at this
    cases this
  · rcases List.mem_cons.mp ho' with rfl | ho'
    · exact hw
    · exact a1.h.free (nw o' ho')
def setAll (ρ : En) : List Nat → List Sl → En
  | i :: is, s :: ss => setAll (ρ.set i s) is ss
  | _, _ => ρ
def sPar (is : List Nat) (ms : SlM) : En → Option Out := fun ρ => (ms ρ).map fun ss => .nx (setAll ρ is ss)
def setV (σ : L2.St) : List Nat → List V → L2.St
  | i :: is, v :: vs => setV (σ.set i (some v)) is vs
  | _, _ => σ
/-- no container of the slots is among the new ones -/
def Apart (σ : L2.St) (ρ : En) (os : List Addr) : Prop := ∀ (j : Nat) (e : D) (o : Addr), ρ[j]? = some (Sl.own e) → σ[j]? = some (some (V.ref o)) → o ∉ os
theorem rep_all [Wd] {H0 B H : Hp} : ∀ {vs : List V} {ss : List Sl} {is : List Nat} {σ : L2.St} {ρ : En}, RepL H0 B H vs ss → Rep H0 B σ H ρ → (ownsOf vs ss).Nodup → Apart σ ρ (ownsOf vs ss) → Rep H0 B (setV σ is vs) H (setAll ρ is ss)
  | _, _, [], σ, ρ, rl, r, nd, ap => by
    cases rl <;> exact r
  | _, _, i :: is, σ, ρ, .nil, r, nd, ap => r
  | v :: vs, .val d :: ss, i :: is, σ, ρ, .val h t, r, nd, ap => by
    have e0 : ownsOf (v :: vs) (.val d :: ss) = ownsOf vs ss := by cases v <;> rfl
    rw [e0] at nd ap
    refine rep_all (is := is) t (r.set h i) nd fun j e o hj hs => ?_
    by_cases hij : i = j
    · subst hij
      by_cases hi : i < ρ.length
      · rw [List.getElem?_set_self hi] at hj; cases hj
      · rw [List.getElem?_eq_none (by rw [List.length_set]; omega)] at hj; cases hj
    · rw [List.getElem?_set_ne hij] at hj hs
      exact ap j e o hj hs
  | .ref o0 :: vs, .own d :: ss, i :: is, σ, ρ, .own a b c h t, r, nd, ap => by
    obtain ⟨n1, n2⟩ := List.nodup_cons.mp (show (o0 :: ownsOf vs ss).Nodup from nd)
    refine rep_all (is := is) t (r.setO a b c h i fun j e hj _ z => ap j e o0 hj z List.mem_cons_self) n2 fun j e o hj hs => ?_
    by_cases hij : i = j
    · subst hij
      by_cases hi : i < ρ.length
      · rw [List.getElem?_set_self (by rw [r.len]; exact hi)] at hs
        cases hs
        exact n1
      · rw [List.getElem?_eq_none (by rw [List.length_set]; omega)] at hj; cases hj
    · rw [List.getElem?_set_ne hij] at hj hs
      exact fun z => ap j e o hj hs (List.mem_cons_of_mem _ z)
theorem RepL.length [Wd] {H0 B H : Hp} : ∀ {vs : List V} {ss : List Sl}, RepL H0 B H vs ss → vs.length = ss.length
  | _, _, .nil => rfl
  | _, _, .val _ t => congrArg (· + 1) t.length
  | _, _, .own _ _ _ _ t => congrArg (· + 1) t.length
theorem par_core [Wd] {t : TA} {is : List Nat} {n : Nat} (h2 : EvM t ms) (hl : ∀ ρ ss, ms ρ = some ss → ss.length = n) {ρ : En} {o : Out} (eo : sPar is ms ρ = some o) {H0 B0 B : Hp} {σ : L2.St} {H : Hp} {E : Ends} (v : Adv B0 H0 B H) (r : Rep H0 B σ H ρ) (k : Post H0 B0 E o) :
    t σ H fun vs H1 => vs.length = n ∧ E.nx (setV σ is vs) H1 := by
  obtain ⟨ss, es, rfl⟩ := Option.map_eq_some_iff.mp eo
  refine h2 ρ ss es H0 B σ H _ r v.h fun vs B1 H1 v1 rl nd nw => ?_
  refine ⟨rl.length.trans (hl ρ ss es), k B1 _ H1 (v.trans v1) (rep_all rl (r.adv v1) nd fun j e o hj hs z => ?_)⟩
  obtain ⟨o', ho, q1, q2, q3, q4, q5⟩ := r.own j e hj
  rw [q1] at hs
  cases hs
  rw [nw _ z] at q4
  cases q4
end
theorem pV_len {m : En → Option D} {ms : SlM} {n : Nat} (h : ∀ ρ ss, ms ρ = some ss → ss.length = n) : ∀ ρ ss, pV m ms ρ = some ss → ss.length = n + 1 := fun ρ ss e => by
  obtain ⟨d, _, e⟩ := bind_some' e
  obtain ⟨s', es, rfl⟩ := Option.map_eq_some_iff.mp e
  exact congrArg (· + 1) (h _ _ es)
theorem pO_len {m : En → Option D} {ms : SlM} {n : Nat} (h : ∀ ρ ss, ms ρ = some ss → ss.length = n) : ∀ ρ ss, pO m ms ρ = some ss → ss.length = n + 1 := fun ρ ss e => by
  obtain ⟨d, _, e⟩ := bind_some' e
  obtain ⟨s', es, rfl⟩ := Option.map_eq_some_iff.mp e
  exact congrArg (· + 1) (h _ _ es)
theorem pN_len : ∀ ρ ss, pN ρ = some ss → ss.length = 0 := fun ρ ss e => by cases e; rfl
theorem len2 {vs : List V} (h : vs.length = 2) : ∃ a b, vs = [a, b] := by
  match vs, h with
  | [a, b], _ => exact ⟨a, b, rfl⟩
theorem len3 {vs : List V} (h : vs.length = 3) : ∃ a b c, vs = [a, b, c] := by
  match vs, h with
  | [a, b, c], _ => exact ⟨a, b, c, rfl⟩
section
variable {F : Fam} {e a b c : Expr} {es : List Expr} {pos p px py pz pt pt2 : Pos} {ms : SlM} {x y z : Str} {kt k2 : Nat}
theorem psd_par2 [Wd] (i j : Nat) (hi : F.N[i]? = some x) (hj : F.N[j]? = some y) (hx : F.sc.names.lookup x = some .local) (hy : F.sc.names.lookup y = some .local) (h : PAm F [a, b] ms)
    (hw : ∀ n, swappedStores [.Tuple [.Name x px, .Name y py] kt pt] (.Tuple [a, b] k2 pt2) (F.X n).env = pure (some [x, y])) (hl : ∀ ρ ss, ms ρ = some ss → ss.length = 2 := by first | exact pV_len (pV_len pN_len) | exact pO_len (pV_len pN_len) | exact pV_len (pO_len pN_len) | exact pO_len (pO_len pN_len)) (hij : i ≠ j := by decide)
    (hs : ∀ n, swapsWithSole [.Tuple [.Name x px, .Name y py] kt pt] (.Tuple [a, b] k2 pt2) pos.line (F.X n).env = pure false := by intro _; rfl) :
    PSd F (.Assign [.Tuple [.Name x px, .Name y py] kt pt] (.Tuple [a, b] k2 pt2) pos) (sPar [i, j] ms) := by
  obtain ⟨t, h1, h2⟩ := h.ex
  refine ⟨fun E σ H => t σ H fun vs H1 => vs.length = 2 ∧ E.nx (setV σ [i, j] vs) H1, fun n => ⟨fun pins s σ H E I q => ?_⟩, fun ρ o eo H0 B0 B σ H E v r k => par_core h2 hl eo v r k⟩
  refine (ps_par (F.calm n) (by rw [F.hN n]; exact F.nd) (by rw [F.hN n]; exact hi) (by rw [F.hN n]; exact hj) hij (by rw [F.hsc n]; exact hx) (by rw [F.hsc n]; exact hy) (pa_tm (h1 n)) (hw n) (hs n)).run pins s σ H E I ?_
  exact ⟨_, q, fun vs H1 ⟨l, q1⟩ => by
    obtain ⟨u, w, rfl⟩ := len2 l
    exact ⟨u, w, rfl, q1⟩⟩
theorem psd_par3 [Wd] (i j l : Nat) (hi : F.N[i]? = some x) (hj : F.N[j]? = some y) (hk : F.N[l]? = some z) (hx : F.sc.names.lookup x = some .local) (hy : F.sc.names.lookup y = some .local) (hz : F.sc.names.lookup z = some .local) (h : PAm F [a, b, c] ms)
    (hw : ∀ n, swappedStores [.Tuple [.Name x px, .Name y py, .Name z pz] kt pt] (.Tuple [a, b, c] k2 pt2) (F.X n).env = pure (some [x, y, z])) (hl : ∀ ρ ss, ms ρ = some ss → ss.length = 3 := by first | exact pV_len (pV_len (pV_len pN_len)) | exact pV_len (pO_len (pV_len pN_len))) (hij : i ≠ j := by decide) (hil : i ≠ l := by decide) (hjl : j ≠ l := by decide)
    (hs : ∀ n, swapsWithSole [.Tuple [.Name x px, .Name y py, .Name z pz] kt pt] (.Tuple [a, b, c] k2 pt2) pos.line (F.X n).env = pure false := by intro _; rfl) :
    PSd F (.Assign [.Tuple [.Name x px, .Name y py, .Name z pz] kt pt] (.Tuple [a, b, c] k2 pt2) pos) (sPar [i, j, l] ms) := by
  obtain ⟨t, h1, h2⟩ := h.ex
  refine ⟨fun E σ H => t σ H fun vs H1 => vs.length = 3 ∧ E.nx (setV σ [i, j, l] vs) H1, fun n => ⟨fun pins s σ H E I q => ?_⟩, fun ρ o eo H0 B0 B σ H E v r k => par_core h2 hl eo v r k⟩
  refine (ps_par3 (F.calm n) (by rw [F.hN n]; exact F.nd) (by rw [F.hN n]; exact hi) (by rw [F.hN n]; exact hj) (by rw [F.hN n]; exact hk) hij hil hjl (by rw [F.hsc n]; exact hx) (by rw [F.hsc n]; exact hy) (by rw [F.hsc n]; exact hz) (pa_tm (h1 n)) (hw n) (hs n)).run pins s σ H E I ?_
  exact ⟨_, q, fun vs H1 ⟨l, q1⟩ => by
    obtain ⟨u, w, x, rfl⟩ := len3 l
    exact ⟨u, w, x, rfl, q1⟩⟩
end
end Dl

end
section
set_option Elab.async false
set_option linter.all false
set_option maxRecDepth 100000
set_option maxHeartbeats 2000000
set_option autoImplicit false
namespace Dl
open PySem PySem.Spec PyProof.Rows L2

/-! ### enumerate of a tuple -/
theorem new_enumB {v : Value} {o : Obj} {S : Heap → Prop} (Bg : Begins v o S) : Meets (Builtin.«enumerate.__new__» ⟨[.type "enumerate", v], []⟩) (fun _ R s => S s.heap ∧
    R (.ok (.ret (.ref (s.heap.push o).objs.size))) { s with heap := (s.heap.push o).push { cls := .type "enumerate", data := .fields #[.none, .bool false, .ref s.heap.objs.size, rawInt 0, .none, .none] } }) := by
  refine .of_wp fun prog w A R s h => ?_
  obtain ⟨hp, gg, dr, tk, os⟩ := s
  obtain ⟨h1, h⟩ := h
  have hsub := sub_enumerate
  have qi : ∀ {A' : Around} {E : Value → Shared → Prop} {Q : Value → Shared → Prop}, Q (.ref hp.objs.size) ⟨hp.push o, gg, dr, tk, os⟩ → wpAny (model prog w) A' (pyIter v) Q E ⟨hp, gg, dr, tk, os⟩ :=
    fun q => Bg.iter prog w _ _ ⟨hp, gg, dr, tk, os⟩ _ h1 q
  wp_walk using qi
  refine wpAny_stack_any fun st => wpAny_pure ?_
  split
  · rename_i c _ _ _ _ _
    cases (c == Value.type "enumerate") <;> (wp_walk using qi; exact ⟨_, rfl, h⟩)
  · wp_walk using qi
    exact ⟨_, rfl, h⟩
theorem call_enumB {prog : Program} {w : World} {A : Around} {E : Value → Shared → Prop} {s : Shared} {v : Value} {o : Obj} {S : Heap → Prop} {Q : Value → Shared → Prop} (Bg : Begins v o S) (h1 : S s.heap)
    (h : ∀ h', IsEnum h' (s.heap.objs.size + 1) s.heap.objs.size 0 .none → h'.get? s.heap.objs.size = some o → h'.objs.size = s.heap.objs.size + 2 → (∀ b x, s.heap.get? b = some x → h'.get? b = some x) → Q (.ref (s.heap.objs.size + 1)) { s with heap := h' }) :
    wpAny (model prog w) A (call (.type "enumerate") [v]) Q E s := by
  refine callType_new F.called_enumerate (by decide) (F.typeCall_enumerate_1 _) (F.newCall_enumerate_1 _) (fun obj => F.args_object_init_2 obj _) F.entry_enumerate_new (new_enumB Bg) ⟨h1, ?_⟩
  have hz : (s.heap.push o).objs.size = s.heap.objs.size + 1 := Heap.size_push ..
  have he := Heap.get?_push_size (s.heap.push o) (o := { cls := .type "enumerate", data := .fields #[.none, .bool false, .ref s.heap.objs.size, rawInt 0, .none, .none] }) rfl
  show _ ∧ _
  rw [hz] at he ⊢
  exact ⟨⟨_, he, rfl⟩, h _ he (Heap.get?_push_of_some _ (Heap.get?_push_size _ Bg.free)) (by rw [Heap.size_push, hz]) fun b x q => Heap.get?_push_of_some _ (Heap.get?_push_of_some _ q)⟩
/-- the tuple at a, each item with its place in a new pair -/
def ItEt (K : PySem.W.Frag) (a : Addr) : It where
  go := fun i H => ∃ (xs : List V) (x : V), SqT K H a xs ∧ xs[i]? = some x
  yld := fun i H v H' => ∃ T x, v = .ref T ∧ H T = none ∧ H' = upd H T (.tup [.int (i : Nat), x]) ∧ ∀ xs, SqT K H a xs → xs[i]? = some x
  stop := fun i H => ∃ xs : List V, SqT K H a xs ∧ xs.length = i
theorem turn_enumT {P : Program} {w : World} {K : PySem.W.Frag} {elts : List Expr} {kk : Nat} {tpos : Pos} (a e it : Addr) (hea : e ≠ a) (hia : a ≠ it) :
    Turn P w K (.Tuple elts kk tpos) (ItEt K a) [e, it] e (fun i h => (∃ old, IsEnum h e it ((i : Nat) : Int) old) ∧ h.IsTupleIter it a i ∧ e ≠ it) where
  mem := by simp
  obj := fun i h st b hb => by
    obtain ⟨⟨old, he⟩, ⟨o, ho, hc, hd⟩, _⟩ := st
    rcases (show b = e ∨ b = it by simpa using hb) with rfl | rfl
    · exact ⟨_, he, fun v q => nomatch q⟩
    · exact ⟨o, ho, fun v q => by rw [hd] at q; cases q⟩
  keep := fun i h h' st k => by
    obtain ⟨⟨old, he⟩, hi, hne⟩ := st
    exact ⟨⟨old, k e (by simp) _ he⟩, hi.at fun o q => k it (by simp) o q, hne⟩
  item := by
    intro X hP hw hK hc i pins s σ H E I hf st hg
    subst hP hw hK
    obtain ⟨⟨old, he⟩, hit, hne⟩ := st
    obtain ⟨xs, x, hq, hx⟩ := hg
    obtain ⟨its, rv, pl, hz⟩ := I.tuple hq
    obtain ⟨u, hu, ru⟩ := rv.get hx
    have hel : e < s.heap.objs.size := Heap.lt_size he
    have hil : it < s.heap.objs.size := by
      obtain ⟨_, q, _⟩ := hit
      exact Heap.lt_size q
    have hT : s.heap.IsTuple a its.toArray := pl
    have hD := Draws.tuple (prog := X.prog) (w := X.w) (A := X.A.in1) (I.ok.hd hc) it a hia its.toArray
    have hsz0 : its.toArray.size = its.length := by simp
    have hlt : i < its.toArray.size := by rw [hsz0]; exact (List.getElem?_eq_some_iff.mp hu).1
    refine wpAny_pyNext_enum_itemD hD he ⟨hit, hT⟩ hlt hne (by simp [hne, hea]) fun y h' tk hy ho hst' hT2 hsz hk => ?_
    have ey : y = u := by
      have : its[i]? = some y := by simpa using hy
      rw [hu] at this
      exact (Option.some.inj this).symm
    subst ey
    refine ⟨_, rfl, wpAny_letOwnedTupleGo_enum (s := { s with heap := h', toks := tk + 1 }) ho fun h'' he' sb => ?_⟩
    have hT3 := (sb.2 _ (Nat.ne_of_gt hel)).trans hT2
    have new : ObjOk X.prog X.w (upd H s.heap.objs.size (.tup [.int (i : Nat), x])) h'' s.heap.objs.size (.tup [.int (i : Nat), x]) :=
      ⟨by show 2 ≤ sizeLine; decide, [.int i tk, y], .cons ⟨_, rfl⟩ (.cons ru .nil), ⟨_, hT3, rfl, _, rfl⟩⟩
    have I1 : Inv X pins σ (upd H s.heap.objs.size (.tup [.int (i : Nat), x])) { s with heap := h'', toks := tk + 1 } :=
      I.turnedNew (ch := [e, it]) (fun b ob hb q => (sb.2 b (fun z => hb (by simp [z]))).trans (hk b ob (fun z => hb (by simp [z])) (fun z => hb (by simp [z])) q)) hf (Nat.le_refl _) new
    refine ⟨.ref s.heap.objs.size, _, I1, rfl, ⟨_, x, rfl, I.hok.fresh (Nat.le_refl _), rfl, fun ys hy => by rw [I.tuple_inj hy hq]; exact hx⟩, ⟨⟨y, ?_⟩, hst'.1.at fun o q => (sb.2 it (Ne.symm hne)).trans q, hne⟩, fun b hb => ?_⟩
    · have e1 : ((i + 1 : Nat) : Int) = (i : Int) + 1 := by omega
      rw [e1]
      exact he'
    · rw [upd_ne (Nat.ne_of_lt ?_)]
      · exact (hf b hb).1
      · rcases (show b = e ∨ b = it by simpa using hb) with rfl | rfl
        · exact hel
        · exact hil
  done := by
    intro X hP hw hK hc i pins s σ H E I hf st hg
    subst hP hw hK
    obtain ⟨⟨old, he⟩, hit, hne⟩ := st
    obtain ⟨xs, hq, hx⟩ := hg
    obtain ⟨its, rv, pl, hz⟩ := I.tuple hq
    obtain ⟨f0, f1, f2, f3, f4, f5⟩ := hf it (by simp)
    have hl := rv.length
    have hT : s.heap.IsTuple a its.toArray := pl
    have hD := Draws.tuple (prog := X.prog) (w := X.w) (A := X.A.in1) (I.ok.hd hc) it a hia its.toArray
    have hsz0 : its.toArray.size = i := by
      rw [← hx, hl]
      simp
    exact wpAny_pyNext_enum_endD hD he ⟨by rw [hsz0]; exact hit, hT⟩ fun h' eb => ⟨rfl, I.turned (t' := s.toks) (fun b o hb q => eb b o hb q) f0 f1 f3 f4 f5⟩
  self := fun A i s Q E st h => by
    obtain ⟨⟨_, he⟩, _⟩ := st
    exact wpAny_pyIter_enum he h
def iEnT (K : PySem.W.Frag) (ta : TA) : TI := fun σ H R => ta σ H fun vs H1 => ∃ a xs, vs = [.ref a] ∧ SqT K H1 a xs ∧ R (ItEt K a) H1
theorem pi_enumT {X : Cx} {e : Expr} {ta : TA} {p pos tpos : Pos} {elts : List Expr} {kk : Nat} (hg : Gl X "enumerate") (hm : X.mg "enumerate" = none) (ha : PA X [e] ta) (hs : starEach [e] X.env = [(false, eval e X.env)] := by rfl) :
    PI X (.Tuple elts kk tpos) (.Call (.Name "enumerate" p) [e] [] pos) (iEnT X.K ta) := by
  refine ⟨fun pins s σ H R I h => ?_⟩
  refine Call_ (ld_blt I hg hm boot_enumerate (PyProof.Rows.callWith_type1 (thn (ha.run pos pins s σ H _ I h) fun us s1 ⟨vs, H1, I1, r1, a, xs, ex, hq, q⟩ => ?_) hs rfl))
  subst ex
  obtain ⟨u, rfl, ru⟩ := vals1 r1
  obtain rfl : u = Value.ref a := ru
  obtain ⟨its, rv, pl, hz⟩ := I1.tuple hq
  have hT : s1.heap.IsTuple a its.toArray := pl
  refine call_enumB (begins_tuple a its.toArray) hT fun h' he hit hsz hk => wpAny_pyIter_enum he ?_
  have I2 : Inv X pins σ H1 { s1 with heap := h' } := I1.kept (t' := s1.toks) hk
  have hal : a < s1.heap.objs.size := by
    obtain ⟨o, ho, _⟩ := hT
    exact Heap.lt_size ho
  refine ⟨s1.heap.objs.size + 1, [s1.heap.objs.size + 1, s1.heap.objs.size], _, _, H1, rfl, I2, turn_enumT a (s1.heap.objs.size + 1) s1.heap.objs.size (Nat.ne_of_gt (Nat.lt_succ_of_lt hal)) (Nat.ne_of_lt hal), ⟨⟨.none, he⟩, ⟨_, hit, rfl, rfl⟩, Nat.succ_ne_self _⟩, fun b hb => ?_, q⟩
  have hle : s1.heap.objs.size ≤ b := by
    rcases (show b = s1.heap.objs.size + 1 ∨ b = s1.heap.objs.size by simpa using hb) with z | z
    · rw [z]; exact Nat.le_succ _
    · rw [z]; exact Nat.le_refl _
  exact I1.fpOk hle (I1.hok.fresh hle)
/-- the pairs -/
def enumL : Nat → List D → List D
  | _, [] => []
  | n, d :: ds => .tuple [.int (n : Nat), d] :: enumL (n + 1) ds
theorem enumL_length : ∀ (n : Nat) (ds : List D), (enumL n ds).length = ds.length
  | _, [] => rfl
  | n, d :: ds => congrArg (· + 1) (enumL_length (n + 1) ds)
theorem enumL_at : ∀ (n i : Nat) (ds : List D) (d : D), ds[i]? = some d → (enumL n ds)[i]? = some (.tuple [.int ((n + i : Nat) : Nat), d])
  | _, _, [], _, h => by simp at h
  | n, 0, d :: ds, _, h => by simp at h; subst h; rfl
  | n, i + 1, d :: ds, _, h => by
    have := enumL_at (n + 1) i ds _ (by simpa using h)
    rw [show n + 1 + i = n + (i + 1) by omega] at this
    simpa [enumL] using this
theorem walkD_enumT [Wd] {K : PySem.W.Frag} {B : Hp} {a : Addr} {vs : List V} {xs : List D} (e : B a = some (.tup vs)) (hz : vs.length ≤ sizeLine) (h : DenA B vs xs) : WalkD (ItEt K a) B (enumL 0 xs) where
  stop := fun B1 H1 s1 s2 => ⟨vs, .of (s2 _ _ (s1 _ _ e)), by rw [enumL_length, h.length]⟩
  go := fun i B1 H1 hi s1 s2 => by
    rw [enumL_length] at hi
    obtain ⟨v, d, h1, h2, h3⟩ := h.some_at hi
    exact ⟨vs, v, .of (s2 _ _ (s1 _ _ e)), h1⟩
  yld := fun i B1 H1 x H2 hi s1 s2 y => by
    rw [enumL_length] at hi
    obtain ⟨v, d, h1, h2, h3⟩ := h.some_at hi
    obtain ⟨T, x', rfl, hT, rfl, y⟩ := y
    have ex : v = x' := Option.some.inj (h1.symm.trans (y vs (.of (s2 _ _ (s1 _ _ e)))))
    subst ex
    have av := Adv.new (o := .tup [.int (i : Nat), v]) s2 hT
    refine ⟨upd B1 T (.tup [.int (i : Nat), v]), .tuple [.int (i : Nat), d], av, ?_, .tup upd_same (by show 2 ≤ sizeLine; decide) (.cons (.int _) (.cons (h3.mono (s1.trans av.b)) .nil))⟩
    have := enumL_at 0 i xs d h2
    rwa [Nat.zero_add] at this
  len := by rw [enumL_length, ← h.length]; exact hz
def iE (a : En → Option (List D)) : En → Option (List D) := fun ρ => (a ρ).bind fun ds => match ds with
  | [.tuple xs] => some (enumL 0 xs)
  | _ => none
theorem pid_enumT [Wd] {F : Fam} {elts : List Expr} {kk : Nat} {tpos p pos : Pos} {e : Expr} {ms : En → Option (List D)} (hg : GI' F "enumerate") (hm : F.mg "enumerate" = none) (h : PAd F.X [e] ms) (hs : ∀ i, starEach [e] (F.X i).env = [(false, eval e (F.X i).env)] := by intro _; rfl) :
    PId F (.Tuple elts kk tpos) (.Call (.Name "enumerate" p) [e] [] pos) (iE ms) := by
  obtain ⟨t, h1, h2⟩ := h.ex
  refine ⟨iEnT F.K t, fun i => by rw [← (F.hX i).2.2.1]; exact pi_enumT (gl_of hg i) (mg_of' hm i) (h1 i) (hs i), fun ρ xs ex H0 B σ H R rp q => ?_⟩
  obtain ⟨d, ed, ex⟩ := bind_some' ex
  refine h2 ρ d ed H0 B σ H _ rp fun v B1 H1 v1 d1 => ?_
  split at ex
  · cases ex
    obtain ⟨u, rfl, hu⟩ := d1.one
    cases hu with
    | @tup aa us _ hB hz hd => exact ⟨aa, us, rfl, .of (v1.s _ _ hB), q _ B1 H1 v1 (walkD_enumT hB hz hd)⟩
  · cases ex
end Dl

end
section
set_option Elab.async false
set_option linter.all false
set_option maxRecDepth 100000
set_option maxHeartbeats 2000000
set_option autoImplicit false
namespace Dl
open PySem PySem.Spec PyProof.Rows L2

/-! ### data as keys -/
mutual
def nk : D → Option NestedKey
  | .none => some .none
  | .int i => some (.num i)
  | .str x => some (.text x)
  | .tuple ds => (nks ds).map .tup
  | .bool _ => none
  | .list _ => none
  | .dict _ => none
def nks : List D → Option (List NestedKey)
  | [] => some []
  | d :: ds => (nk d).bind fun k => (nks ds).map (k :: ·)
end
mutual
theorem nk_data : ∀ k : NestedKey, nk k.data = some k
  | .none => rfl
  | .num _ => rfl
  | .text _ => rfl
  | .tup ks => by
    show (nks (NestedKey.datas ks)).map NestedKey.tup = _
    rw [nks_data ks]
    rfl
theorem nks_data : ∀ ks : List NestedKey, nks (NestedKey.datas ks) = some ks
  | [] => rfl
  | k :: ks => by
    show (nk k.data).bind _ = _
    rw [nk_data k, nks_data ks]
    rfl
end
mutual
theorem data_nk : ∀ (d : D) (k : NestedKey), nk d = some k → k.data = d
  | .none, _, h => by cases h; rfl
  | .int _, _, h => by cases h; rfl
  | .str _, _, h => by cases h; rfl
  | .tuple ds, k, h => by
    obtain ⟨ks, e, rfl⟩ := Option.map_eq_some_iff.mp (show (nks ds).map NestedKey.tup = some k from h)
    show PyData.tuple (NestedKey.datas ks) = _
    rw [datas_nks ds ks e]
  | .bool _, _, h => by cases h
  | .list _, _, h => by cases h
  | .dict _, _, h => by cases h
theorem datas_nks : ∀ (ds : List D) (ks : List NestedKey), nks ds = some ks → NestedKey.datas ks = ds
  | [], _, h => by cases h; rfl
  | d :: ds, ks, h => by
    obtain ⟨k, e, h⟩ := bind_some' (show (nk d).bind _ = some ks from h)
    obtain ⟨ks', e', rfl⟩ := Option.map_eq_some_iff.mp h
    show k.data :: NestedKey.datas ks' = _
    rw [data_nk d k e, datas_nks ds ks' e']
end
section
variable {X : Cx} {pins : List (Addr × Obj)} {σ : L2.St} {H : Hp} {s : Shared}
mutual
theorem Den.nest [Wd] {B : Hp} (I : Inv X pins σ H s) (sB : Same B H) : ∀ {v : V} {d : D} {k : NestedKey} {u : Value}, Den B v d → nk d = some k → RelV v u → NestedIs s.heap k u
  | _, _, _, _, .non, e, r => by cases e; cases r; exact .none
  | _, _, _, _, .bl _, e, _ => by cases e
  | _, _, _, _, .int i, e, r => by cases e; obtain ⟨t, rfl⟩ := r; exact .int i t
  | _, _, _, _, .str x, e, r => by cases e; obtain ⟨t, rfl⟩ := r; exact .text x t
  | _, .tuple ds, k, _, .tup (a := a) hB z hd, e, r => by
    cases r
    obtain ⟨ks, e', rfl⟩ := Option.map_eq_some_iff.mp (show (nks ds).map NestedKey.tup = some k from e)
    obtain ⟨_, its, rv, o, h1, h2, n, h3⟩ := (show ObjOk X.prog X.w H s.heap a (.tup _) from I.hok a _ (sB _ _ hB))
    exact .tup h1 h2 h3 (by
      have := DenA.nest I sB hd e' rv
      simpa using this)
  | _, _, _, _, .lst _ _ _, e, _ => by cases e
  | _, _, _, _, .dct _ _ _, e, _ => by cases e
theorem DenA.nest [Wd] {B : Hp} (I : Inv X pins σ H s) (sB : Same B H) : ∀ {vs : List V} {ds : List D} {ks : List NestedKey} {us : List Value}, DenA B vs ds → nks ds = some ks → Vals vs us → NestedAll s.heap ks us
  | _, _, _, _, .nil, e, r => by cases e; cases r; exact .nil
  | _, d :: ds, ks, _, .cons h t, e, .cons r r' => by
    obtain ⟨k, e1, e2⟩ := bind_some' (show (nk d).bind _ = some ks from e)
    obtain ⟨ks', e3, rfl⟩ := Option.map_eq_some_iff.mp e2
    exact .cons (Den.nest I sB h e1 r) (DenA.nest I sB t e3 r')
end
theorem DenK.isk [Wd] {B : Hp} (I : Inv X pins σ H s) (sB : Same B H) : ∀ {xs : List NE} {ps : List (D × D)}, DenK B xs ps → ∀ x ∈ xs, (nestedKind X.prog X.w).is s.heap x.1 x.2.1
  | _, _, .nil, x, h => by cases h
  | _, _, .cons (k := k) e z hk _ _ t, x, h => by
    rcases List.mem_cons.mp h with rfl | h
    · exact ⟨Den.nest I sB hk (by rw [e]; exact nk_data k) rfl, z⟩
    · exact t.isk I sB x h
/-- the dict as the kit tells it -/
theorem nd_at [Wd] {B : Hp} {a : Addr} {xs : List NE} {ep : Nat} {ps : List (D × D)} (hW : X.w = Wd.w) (I : Inv X pins σ H s) (sB : Same B H) (e : H a = some (NDO a xs ep)) (h : DenK B xs ps) :
    (a == sysModules) = false ∧ s.heap.DictOfH (nestedKind X.prog X.w) a xs := by
  obtain ⟨⟨h1, h2, o, es, h3, h4, h5, h6⟩, _⟩ := I.hok a _ e
  refine ⟨h1, o, es, ep, h3, h4, h5, ?_, h.isk I sB, h2⟩
  rw [h6]
  refine List.map_congr_left fun x _ => ?_
  show (⟨x.1.hash Wd.w, _, _⟩ : DictEntry) = ⟨x.1.hash X.w, _, _⟩
  rw [hW]
end
theorem nd_ok [Wd] {P : Program} {w : World} {H : Hp} {h : Heap} {a : Addr} {xs : List NE} (hW : w = Wd.w) (hs : (a == sysModules) = false) (hd : h.DictOfH (nestedKind P w) a xs) : ∃ ep, ObjOk P w H h a (NDO a xs ep) := by
  obtain ⟨o, es, ep, h3, h4, h5, h6, _, h2⟩ := hd
  refine ⟨ep, ⟨hs, h2, o, es, h3, h4, h5, ?_⟩, ⟨o, h3⟩, fun h1 h2 ⟨q1, q2, o', es', q3, q4, q5, q6⟩ k => ⟨q1, q2, o', es', k o' q3, q4, q5, q6⟩⟩
  rw [h6]
  refine List.map_congr_left fun x _ => ?_
  show (⟨x.1.hash w, _, _⟩ : DictEntry) = ⟨x.1.hash Wd.w, _, _⟩
  rw [hW]

/-! ### tables as data -/
def dFind : List (D × D) → NestedKey → Option D
  | [], _ => none
  | p :: ps, k => if nk p.1 = some k then some p.2 else dFind ps k
def dPutP (ps : List (D × D)) (kd : D) (k : NestedKey) (d : D) : List (D × D) := if (dFind ps k).isSome then ps.map (fun p => if nk p.1 = some k then (p.1, d) else p) else ps ++ [(kd, d)]
theorem DenK.find [Wd] {B : Hp} {k : NestedKey} : ∀ {xs : List NE} {ps : List (D × D)}, DenK B xs ps → (∀ d, dFind ps k = some d → ∃ b u v, atKey xs k = some (b, u) ∧ RelV v u ∧ Den B v d) ∧ (dFind ps k = none → atKey xs k = none)
  | _, _, .nil => ⟨fun d h => (by cases h), fun _ => rfl⟩
  | _, _, .cons (k := k') (b := b) (v := v) (u := u) e z hk r h t => by
    obtain ⟨i1, i2⟩ := t.find (k := k)
    unfold dFind
    by_cases hkk : k' = k
    · have e1 : nk (k'.data) = some k := by rw [nk_data, hkk]
      rw [e, if_pos e1]
      exact ⟨fun d hd => ⟨b, u, v, by simp [atKey, List.find?_cons, hkk], r, by cases hd; exact h⟩, fun hd => by cases hd⟩
    · have e1 : ¬ nk (k'.data) = some k := by
        rw [nk_data]
        exact fun z => hkk (Option.some.inj z)
      rw [e, if_neg e1]
      have e2 : ∀ l : List NE, atKey ((k', b, u) :: l) k = atKey l k := fun l => by simp [atKey, List.find?_cons, hkk]
      rw [e2]
      exact ⟨i1, i2⟩
theorem DenK.isSome [Wd] {B : Hp} {k : NestedKey} {xs : List NE} {ps : List (D × D)} (h : DenK B xs ps) : (atKey xs k).isSome = (dFind ps k).isSome := by
  obtain ⟨h1, h2⟩ := h.find (k := k)
  cases e : dFind ps k with
  | none => rw [h2 e]; rfl
  | some d =>
    obtain ⟨b, u, v, e', _⟩ := h1 d e
    rw [e']
    rfl
theorem DenK.append [Wd] {B : Hp} : ∀ {xs : List NE} {ps : List (D × D)} {ys : List NE} {qs : List (D × D)}, DenK B xs ps → DenK B ys qs → DenK B (xs ++ ys) (ps ++ qs)
  | _, _, _, _, .nil, h => h
  | _, _, _, _, .cons a b c d e t, h => .cons a b c d e (t.append h)
theorem DenK.repl [Wd] {B : Hp} {k : NestedKey} {v : V} {u : Value} {d : D} (r : RelV v u) (hd : Den B v d) : ∀ {xs : List NE} {ps : List (D × D)}, DenK B xs ps → DenK B (xs.map (putAt k u)) (ps.map fun p => if nk p.1 = some k then (p.1, d) else p)
  | _, _, .nil => .nil
  | _, _, .cons (k := k') e z hk r' h t => by
    have ih := t.repl (k := k) r hd
    rw [List.map_cons, List.map_cons]
    unfold putAt
    by_cases hkk : k' = k
    · rw [if_pos hkk, if_pos (by rw [e, nk_data, hkk])]
      exact .cons e z hk r hd ih
    · rw [if_neg hkk, if_neg (by rw [e, nk_data]; exact fun z => hkk (Option.some.inj z))]
      exact .cons e z hk r' h ih
theorem DenK.put [Wd] {B : Hp} {k : NestedKey} {b : Addr} {v : V} {u : Value} {kd d : D} {xs : List NE} {ps : List (D × D)} (h : DenK B xs ps) (e : kd = k.data) (z : k.depth ≤ 8) (hk : Den B (.ref b) kd) (r : RelV v u) (hd : Den B v d) :
    DenK B (storedH xs k b u) (dPutP ps kd k d) := by
  unfold storedH dPutP
  rw [h.isSome]
  by_cases q : (dFind ps k).isSome = true
  · rw [if_pos q, if_pos q]
    exact h.repl r hd
  · rw [if_neg q, if_neg q]
    exact h.append (.cons e z hk r hd .nil)
theorem DenK.length [Wd] {B : Hp} : ∀ {xs : List NE} {ps : List (D × D)}, DenK B xs ps → xs.length = ps.length
  | _, _, .nil => rfl
  | _, _, .cons _ _ _ _ _ t => congrArg (· + 1) t.length

/-! ### readings -/
/-- at a there is a dict of ps, y is its key k -/
structure NAt [Wd] (H : Hp) (a : Addr) (xs : List NE) (ep : Nat) (y : V) (k : NestedKey) : Prop where
  ob : H a = some (NDO a xs ep)
  key : ∃ (B : Hp) (ps : List (D × D)) (b : Addr), Same B H ∧ DenK B xs ps ∧ y = .ref b ∧ Den B (.ref b) k.data ∧ k.depth ≤ 8
section
variable {X : Cx} {pins : List (Addr × Obj)} {σ : L2.St} {H : Hp} {s : Shared} {a : Addr} {xs : List NE} {ep : Nat} {y v : V} {k : NestedKey} {u r : Value} {A : Around} {E : Value → Shared → Prop}
theorem NAt.heap [Wd] (g : NAt H a xs ep y k) (hW : X.w = Wd.w) (I : Inv X pins σ H s) (ry : RelV y u) : ∃ b, u = .ref b ∧ y = .ref b ∧ (a == sysModules) = false ∧ s.heap.DictOfH (nestedKind X.prog X.w) a xs ∧ (nestedKind X.prog X.w).is s.heap k b := by
  obtain ⟨B, ps, b, sB, hk, rfl, hd, z⟩ := g.key
  obtain ⟨h1, h2⟩ := nd_at hW I sB g.ob hk
  cases ry
  exact ⟨b, rfl, rfl, h1, h2, Den.nest I sB hd (nk_data k) rfl, z⟩
theorem nd_getItem [Wd] {Q : Value → Shared → Prop} {p : Addr × Value} (hW : X.w = Wd.w) (hu : A.units + 20 < cLine) (I : Inv X pins σ H s) (g : NAt H a xs ep y k) (hp : atKey xs k = some p) (ry : RelV y u) (h : ∀ s', Inv X pins σ H s' → Q p.2 s') :
    wpAny (model X.prog X.w) A (getItem (.ref a) u) Q E s := by
  obtain ⟨b, rfl, rfl, h1, h2, h3⟩ := g.heap hW I ry
  exact wpAny_getItem_heap (by show A.units + 1 + 8 < cLine; omega) h3 h2 hp (h _ (I.tok _))
theorem nd_in [Wd] {Q : Value → Shared → Prop} (hW : X.w = Wd.w) (hu : A.units + 20 < cLine) (I : Inv X pins σ H s) (g : NAt H a xs ep y k) (ry : RelV y u) (h : ∀ s', Inv X pins σ H s' → Q (.bool (atKey xs k).isSome) s') :
    wpAny (model X.prog X.w) A (compareOp .In u (.ref a)) Q E s := by
  obtain ⟨b, rfl, rfl, h1, h2, h3⟩ := g.heap hW I ry
  exact wpAny_in_heap (by show A.units + 1 + 8 < cLine; omega) h3 h1 h2 (h _ (I.tok _))
theorem nd_notIn [Wd] {Q : Value → Shared → Prop} (hW : X.w = Wd.w) (hu : A.units + 20 < cLine) (I : Inv X pins σ H s) (g : NAt H a xs ep y k) (ry : RelV y u) (h : ∀ s', Inv X pins σ H s' → Q (.bool (!(atKey xs k).isSome)) s') :
    wpAny (model X.prog X.w) A (compareOp .NotIn u (.ref a)) Q E s := by
  obtain ⟨b, rfl, rfl, h1, h2, h3⟩ := g.heap hW I ry
  exact wpAny_notIn_heap (by show A.units + 1 + 8 < cLine; omega) h3 h1 h2 (h _ (I.tok _))
theorem nd_get2 [Wd] {Q : Value → Shared → Prop} (hW : X.w = Wd.w) (hu : A.units + 20 < cLine) (I : Inv X pins σ H s) (g : NAt H a xs ep y k) (ry : RelV y u) (h : ∀ s', Inv X pins σ H s' → Q (((atKey xs k).map (·.2)).getD r) s') :
    wpAny (model X.prog X.w) A (call (.builtin "dict.get") [.ref a, u, r]) Q E s := by
  obtain ⟨b, rfl, rfl, h1, h2, h3⟩ := g.heap hW I ry
  exact call_meetsIn PySem.F.slot_dict_get h2.typeIs PySem.F.entry_dict_get (PySem.F.args_dict_get_3 _ _ _) (meetsH_dict_get_default (nestedKind X.prog X.w) a b h1 r) ⟨by show A.units + 1 + 8 < cLine; omega, k, xs, h3, h2, h _ (I.tok _)⟩
theorem nd_setItem [Wd] {Q : Unit → Shared → Prop} (hW : X.w = Wd.w) (hu : A.units + 20 < cLine) (I : Inv X pins σ H s) (g : NAt H a xs ep y k) (hz : xs.length ≤ sizeLine) (ry : RelV y u)
    (h : ∀ b ep' s', y = .ref b → Inv X pins σ (upd H a (NDO a (storedH xs k b r) ep')) s' → Q () s') : wpAny (model X.prog X.w) A (setItem (.ref a) u r) Q E s := by
  obtain ⟨b, rfl, rfl, h1, h2, h3⟩ := g.heap hW I ry
  refine wpAny_setItem_heap (hsz := hz) (by show A.units + 1 + 8 < cLine; omega) h3 h2 fun h' dd' hs => ?_
  obtain ⟨ep', ok⟩ := nd_ok (H := H) hW h1 dd'
  obtain ⟨o, es, ep2, ho, _⟩ := dd'
  refine h b ep' _ rfl (I.write (x := a) (e := a) (by rw [g.ob]; exact True.intro) (.inl rfl) (fun b q hb z => (hs.2 b hb).trans z) ⟨o, ho⟩ ?_)
  obtain ⟨ep', ok⟩ := ok
  exact ⟨ep', ok⟩
theorem nd_dict [Wd] (hW : X.w = Wd.w) (I : Inv X pins σ H s) (e : H a = some (NDO a xs ep)) : s.TypeIs (.ref a) "dict" ∧ (∀ b, Value.ref a = .ref b → ∃ ob, s.heap.get? b = some ob ∧ ob.dict = none) ∧ (a == sysModules) = false := by
  obtain ⟨⟨h1, h2, o, es, h3, h4, h5, h6⟩, _⟩ := I.hok a _ e
  exact ⟨⟨o, h3, h4.1⟩, fun b q => by cases q; exact ⟨o, h3, h4.2.1⟩, h1⟩
end
end Dl

end
section
set_option Elab.async false
set_option linter.all false
set_option maxRecDepth 100000
set_option maxHeartbeats 2000000
set_option autoImplicit false
namespace Dl
open PySem PySem.Spec PyProof.Rows L2

/-! ### rules of dicts -/
section
variable {X : Cx} {o i e f value : Expr} {pos pos' apos cpos : Pos} {td ty tx tv : TE}
theorem pe_nnew [Wd] : PE X (.Dict [] [] pos) (fun σ H Q => ∀ p, H p = none → Q (.ref p) (upd H p (NDO p [] 0))) := ⟨fun pins s σ H Q I h => by
  refine wpAny_Dict_empty ⟨.ref s.heap.objs.size, _, I.laid (a := s.heap.objs.size) (o := NDO s.heap.objs.size [] 0) (t' := s.toks) (fun _ _ q => Heap.get?_push_of_some _ q) (Nat.le_refl _) ?_, rfl, h _ (I.hok.fresh (Nat.le_refl _))⟩
  exact ⟨⟨beq_eq_false_iff_ne.mpr (Ne.symm (Nat.ne_of_lt I.big)), List.nodup_nil, _, #[], Heap.get?_push_size _ rfl, ⟨rfl, rfl, rfl⟩, rfl, rfl⟩, ⟨_, Heap.get?_push_size _ rfl⟩, fun h1 h2 ⟨q1, q2, o', es', q3, q4⟩ k => ⟨q1, q2, o', es', k o' q3, q4⟩⟩⟩
/-- d[k] -/
def tNGet [Wd] (td ty : TE) : TE := fun σ H Q => td σ H fun x H1 => ty σ H1 fun y H2 => ∃ a xs ep k b u v, x = .ref a ∧ NAt H2 a xs ep y k ∧ atKey xs k = some (b, u) ∧ RelV v u ∧ Q v H2
theorem pe_nget [Wd] (hW : X.w = Wd.w) (hu : X.A.units + 20 < cLine) (ho : PE X o td) (hi : PE X i ty) (hs : NoSl i := by intro _ _; rfl) : PE X (.Subscript o i pos) (tNGet td ty) := by
  refine ⟨fun pins s σ H Q I h => ?_⟩
  refine subD_of PySem.F.slot_dict_getitem.lookup hs (thn (ho.run pins s σ H _ I h) fun u s1 ⟨x, H1, I1, rx, q1⟩ => thn (hi.run pins s1 σ H1 _ I1 q1) fun iv s2 ⟨y, H2, I2, ry, a, xs, ep, k, b, u', v, ex, g, hk, rv, q2⟩ => ?_)
  subst ex
  obtain rfl : u = Value.ref a := rx
  exact ⟨(nd_dict hW I2 g.ob).1, nd_getItem hW hu I2 g hk ry fun s3 I3 => ⟨v, H2, I3, rv, q2⟩⟩
def tNIn [Wd] (ty td : TE) : TE := fun σ H Q => ty σ H fun y H1 => td σ H1 fun x H2 => ∃ a xs ep k, x = .ref a ∧ NAt H2 a xs ep y k ∧ Q (.bl (atKey xs k).isSome) H2
def tNNotIn [Wd] (ty td : TE) : TE := fun σ H Q => ty σ H fun y H1 => td σ H1 fun x H2 => ∃ a xs ep k, x = .ref a ∧ NAt H2 a xs ep y k ∧ Q (.bl (!(atKey xs k).isSome)) H2
/-- the same by the operator's reading -/
def rNIn [Wd] (n : Bool) : R2 := fun y x H Q => ∃ a xs ep k, x = .ref a ∧ NAt H a xs ep y k ∧ Q (.bl (n != (atKey xs k).isSome)) H
theorem op_nin [Wd] (hW : X.w = Wd.w) (hu : X.A.units + 20 < cLine) : OpR X (compareOp .In) (rNIn false) := by
  intro pins s σ H y x yv xv Q I ry rx ⟨a, xs, ep, k, ex, g, q⟩
  subst ex
  obtain rfl : xv = Value.ref a := rx
  refine nd_in hW hu I g ry fun s3 I3 => ⟨.bl _, H, I3, rfl, ?_⟩
  have e : (false != (atKey xs k).isSome) = (atKey xs k).isSome := by cases (atKey xs k).isSome <;> rfl
  rw [e] at q
  exact q
theorem op_nnotIn [Wd] (hW : X.w = Wd.w) (hu : X.A.units + 20 < cLine) : OpR X (compareOp .NotIn) (rNIn true) := by
  intro pins s σ H y x yv xv Q I ry rx ⟨a, xs, ep, k, ex, g, q⟩
  subst ex
  obtain rfl : xv = Value.ref a := rx
  refine nd_notIn hW hu I g ry fun s3 I3 => ⟨.bl _, H, I3, rfl, ?_⟩
  have e : (true != (atKey xs k).isSome) = !(atKey xs k).isSome := by cases (atKey xs k).isSome <;> rfl
  rw [e] at q
  exact q
/-- d[k] = v -/
def sNPut [Wd] (td ty tv : TE) : TS := fun D σ H => tv σ H fun v H1 => td σ H1 fun x H2 => ty σ H2 fun y H3 => ∃ a xs ep k, x = .ref a ∧ NAt H3 a xs ep y k ∧ xs.length < sizeLine ∧
  ∀ b r ep', y = .ref b → RelV v r → D.nx σ (upd H3 a (NDO a (storedH xs k b r) ep'))
theorem ps_nput [Wd] (hW : X.w = Wd.w) (hu : X.A.units + 20 < cLine) (ho : PE X o td) (hi : PE X i ty) (hv : PE X value tv) (hs : swapsWith value (some (.Subscript o i pos')) pos.line X.env = pure false) :
    PS X (.Assign [.Subscript o i pos'] value pos) (sNPut td ty tv) := by
  refine ⟨fun pins s σ H D I h => ?_⟩
  refine wpAny_Assign_Subscript (thn (hv.run pins s σ H _ I h) fun r s1 ⟨v, H1, I1, rv, q1⟩ => thn (ho.run pins s1 σ H1 _ I1 q1) fun u s2 ⟨x, H2, I2, rx, q2⟩ => thn (hi.run pins s2 σ H2 _ I2 q2) fun iv s3 ⟨y, H3, I3, ry, a, xs, ep, k, ex, g, z, q3⟩ => ?_) hs
  subst ex
  obtain rfl : u = Value.ref a := rx
  exact nd_setItem hW hu I3 g (Nat.le_of_lt z) ry fun b ep' s4 eb I4 => ⟨σ, _, I4, q3 b r ep' eb rv⟩
/-- d.get(k, x) -/
def tNGet2 [Wd] (td ty tx : TE) : TE := fun σ H Q => td σ H fun x H1 => ∃ a xs0 ep0, x = .ref a ∧ H1 a = some (NDO a xs0 ep0) ∧ ty σ H1 fun y H2 => tx σ H2 fun z H3 => ∃ xs ep k, NAt H3 a xs ep y k ∧
  ((∃ b u v, atKey xs k = some (b, u) ∧ RelV v u ∧ Q v H3) ∨ (atKey xs k = none ∧ Q z H3))
theorem pe_nget2 [Wd] (hW : X.w = Wd.w) (hu : X.A.units + 20 < cLine) (ho : PE X o td) (he : PE X e ty) (hf : PE X f tx) (m : M2 X o "get" apos e f cpos) : PE X (.Call (.Attribute o "get" apos) [e, f] [] cpos) (tNGet2 td ty tx) := by
  refine ⟨fun pins s σ H Q I h => ?_⟩
  refine wpAny_Call_method m.base m.few m.line PySem.F.plainAttrs_dict PySem.F.slot_dict_get PySem.F.type_dict_get (thn (ho.run pins s σ H _ I h) fun u s1 ⟨x, H1, I1, rx, a, xs0, ep0, ex, d, q1⟩ => ?_)
  subst ex
  obtain rfl : u = Value.ref a := rx
  obtain ⟨t1, t2, _⟩ := nd_dict hW I1 d
  refine ⟨t1, t2, ?_⟩
  rw [m.trees]
  refine Calls.callWith_builtin rfl (Calls.evalArgs_plain (Calls.spliced_cons (thn (he.run pins s1 σ H1 _ I1 q1) fun iv s2 ⟨y, H2, I2, ry, q2⟩ =>
    Calls.spliced_cons (thn (hf.run pins s2 σ H2 _ I2 q2) fun fv s3 ⟨z, H3, I3, rz, xs, ep, k, g, q3⟩ => Calls.spliced_nil ?_))))
  refine nd_get2 hW hu I3 g ry fun s4 I4 => ?_
  rcases q3 with ⟨b, u, v, e1, rv, q⟩ | ⟨e1, q⟩
  · rw [e1]
    exact ⟨v, H3, I4, rv, q⟩
  · rw [e1]
    exact ⟨z, H3, I4, rz, q⟩
/-- {k: v} -/
def tNDisp1 [Wd] (tk tv : TE) : TE := fun σ H Q => ∀ p, H p = none → tk σ (upd H p (NDO p [] 0)) fun y H1 => tv σ H1 fun v H2 => ∃ (B : Hp) (b : Addr) (k : NestedKey), H2 p = some (NDO p [] 0) ∧ y = .ref b ∧ Same B H2 ∧ Den B (.ref b) k.data ∧ k.depth ≤ 8 ∧
  ∀ r ep, RelV v r → Q (.ref p) (upd H2 p (NDO p [(k, b, r)] ep))
theorem pe_ndisp1 [Wd] {kx vx : Expr} (hW : X.w = Wd.w) (hu : X.A.units + 20 < cLine) (hk : PE X kx ty) (hv : PE X vx tv) : PE X (.Dict [some kx] [vx] pos) (tNDisp1 ty tv) := by
  refine ⟨fun pins s σ H Q I q => ?_⟩
  have hn := I.hok.fresh (Nat.le_refl s.heap.objs.size)
  have I1 := I.laid (a := s.heap.objs.size) (o := NDO s.heap.objs.size [] 0) (h' := s.heap.push { cls := .type "dict", data := .dict #[] }) (t' := s.toks) (fun _ _ q => Heap.get?_push_of_some _ q) (Nat.le_refl _)
    ⟨⟨beq_eq_false_iff_ne.mpr (Ne.symm (Nat.ne_of_lt I.big)), List.nodup_nil, _, #[], Heap.get?_push_size _ rfl, ⟨rfl, rfl, rfl⟩, rfl, rfl⟩, ⟨_, Heap.get?_push_size _ rfl⟩, fun h1 h2 ⟨q1, q2, o', es', q3, q4⟩ k => ⟨q1, q2, o', es', k o' q3, q4⟩⟩
  have hlen := pairTrees_length [some kx] [vx] X.env pos rfl rfl
  rw [arm_eval_Dict, zip_pairTrees [some kx] [vx] X.env pos rfl rfl, dictDisplay_pairs (pairTrees [some kx] [vx] X.env pos) (fun z => by
      rw [z] at hlen
      cases hlen) (by rw [hlen]; show 1 < 17; omega)]
  refine wpAny_bind (wpAny_standAt (wpAny_bind (wpAny_subDictH (knd := nestedKind X.prog X.w) (Q := fun d s' => wpAny (model X.prog X.w) X.A (pure (Value.ref d)) (EP X pins σ Q) X.xe s') (by show X.A.units + 8 < cLine; omega) (by rw [hlen]; show 1 ≤ 15; omega) ?_)))
  refine pairTrees_cons_walk (thn (hk.run pins _ σ _ _ I1 (q _ hn)) fun u s1 ⟨y, H1, I2, ry, q1⟩ => thn (hv.run pins s1 σ H1 _ I2 q1) fun w2 s2 ⟨v, H2, I3, rv, B, b, k, e, ey, sB, hd, z, q2⟩ => pairTrees_nil_walk ?_)
  subst ey
  cases ry
  have hki : (nestedKind X.prog X.w).is s2.heap k b := ⟨Den.nest I3 sB hd (nk_data k) rfl, z⟩
  have hd0 : s2.heap.DictOfH (nestedKind X.prog X.w) s.heap.objs.size [] := by
    obtain ⟨⟨h1, h2, o, es, h3, h4, h5, h6⟩, _⟩ := I3.hok _ _ e
    exact ⟨o, es, 0, h3, h4, h5, by simpa using h6, fun x hx => (by cases hx), List.nodup_nil⟩
  have hsy := (nd_dict hW I3 e).2.2
  refine ⟨[(k, b, w2)], ⟨rfl, rfl, hki, True.intro⟩, hd0, fun h' tk dd hsb => wpAny_pure ?_⟩
  have dd2 : h'.DictOfH (nestedKind X.prog X.w) s.heap.objs.size [(k, b, w2)] := dd
  obtain ⟨ep', ok⟩ := nd_ok (H := H2) hW hsy dd2
  have ok2 : ObjOk X.prog X.w (upd H2 s.heap.objs.size (NDO s.heap.objs.size [(k, b, w2)] ep')) h' s.heap.objs.size (NDO s.heap.objs.size [(k, b, w2)] ep') := ok
  obtain ⟨o, es, ep2, ho, _⟩ := dd2
  refine ⟨.ref _, _, I3.write (x := s.heap.objs.size) (e := s.heap.objs.size) (t' := tk) (by rw [e]; exact True.intro) (.inl rfl) (fun c r hc z => (hsb.2 c hc).trans z) ⟨o, ho⟩ ok2, rfl, q2 w2 ep' rv⟩
end

/-! ### .. as data -/
def dKey (d : D) : Option NestedKey := (nk d).bind fun k => match k with
  | .tup _ => if k.depth ≤ 8 then some k else none
  | _ => none
theorem dKey_inv {d : D} {k : NestedKey} (h : dKey d = some k) : d = k.data ∧ k.depth ≤ 8 ∧ ∃ ds, d = .tuple ds := by
  obtain ⟨k', e, h⟩ := bind_some' h
  have e2 := data_nk d k' e
  split at h
  · rename_i ks
    split at h
    · rename_i hz
      cases h
      exact ⟨e2.symm, hz, _, e2.symm⟩
    · cases h
  · cases h
theorem Den.keyRef [Wd] {B : Hp} {v : V} {d : D} {k : NestedKey} (h : Den B v d) (e : dKey d = some k) : ∃ b, v = .ref b ∧ Den B (.ref b) k.data ∧ k.depth ≤ 8 := by
  obtain ⟨e1, z, ds, e2⟩ := dKey_inv e
  rw [e1] at h
  have : ∃ b, v = .ref b := by
    rw [← e1, e2] at h
    cases h
    exact ⟨_, rfl⟩
  obtain ⟨b, rfl⟩ := this
  exact ⟨b, rfl, h, z⟩
def dGet : D → D → Option D
  | .dict ps, kd => (dKey kd).bind (dFind ps)
  | _, _ => none
def dDIn : D → D → Option D
  | kd, .dict ps => (dKey kd).map fun k => .bool (dFind ps k).isSome
  | _, _ => none
def dDNotIn : D → D → Option D
  | kd, .dict ps => (dKey kd).map fun k => .bool (!(dFind ps k).isSome)
  | _, _ => none
def mG2 (a b c : En → Option D) : En → Option D := fun ρ => (a ρ).bind fun x => (b ρ).bind fun y => (c ρ).bind fun z => match x with
  | .dict ps => (dKey y).map fun k => (dFind ps k).getD z
  | _ => none
def sDPut (n : Nat) (ix m : En → Option D) : En → Option Out := fun ρ => (m ρ).bind fun d => (ix ρ).bind fun y => (dKey y).bind fun k => match ρ[n]? with
  | some (.own (.dict ps)) => if ps.length < 1000000 then some (.nx (ρ.set n (.own (.dict (dPutP ps y k d))))) else none
  | _ => none
def mDisp1 (a b : En → Option D) : En → Option D := fun ρ => (a ρ).bind fun y => (b ρ).bind fun d => (dKey y).map fun _ => .dict [(y, d)]
/-- a container that is being built is looked at -/
def qThaw (i : Nat) (q : En → Option Bool) : En → Option Bool := fun ρ => match ρ[i]? with
  | some (.own d) => q (ρ.set i (.val d))
  | _ => none
section
variable {F : Fam} {e a b c : Expr} {pos p p2 apos cpos : Pos} {m m' m2 : En → Option D} {q : En → Option Bool} {x : Str}
structure FW [Wd] (F : Fam) : Prop where
  eq : F.w = Wd.w
theorem FW.at_ [Wd] (h : FW F) (i : F.ι) : (F.X i).w = Wd.w := (F.hX i).2.1.trans h.eq
theorem Fam.un20 (F : Fam) (i : F.ι) : (F.X i).A.units + 20 < cLine := by
  have := (F.rm i).un
  omega
theorem peo_dnew [Wd] : PEo F.X (.Dict [] [] pos) (mC (.dict [])) := ⟨_, fun _ => pe_nnew, fun ρ d h H0 B σ H Q r q p hp => by
  cases h
  exact q p _ B _ (.lay r.sub hp) hp (r.sub.free hp) upd_same (.dct (Nat.zero_le _) .nil)⟩
theorem ped_dget [Wd] (hW : FW F) (ha : PEd F.X a m) (hb : PEd F.X b m') (hs : NoSl b := by intro _ _; rfl) : PEd F.X (.Subscript a b pos) (mB dGet m m') := by
  obtain ⟨t, h1, h2⟩ := ha.ex
  obtain ⟨u, k1, k2⟩ := hb.ex
  refine ⟨tNGet t u, fun i => pe_nget (hW.at_ i) (F.un20 i) (h1 i) (k1 i) hs, fun ρ d e H0 B σ H Q rp q => ?_⟩
  obtain ⟨x, ex, e⟩ := bind_some' e
  obtain ⟨y, ey, e⟩ := bind_some' e
  refine h2 ρ x ex H0 B σ H _ rp fun v B1 H1 v1 d1 => ?_
  refine k2 ρ y ey H0 B1 σ H1 _ (rp.adv v1) fun u B2 H2 v2 d2 => ?_
  unfold dGet at e
  split at e
  · obtain ⟨k, ek, e⟩ := bind_some' e
    obtain ⟨b, rfl, dk, z⟩ := d2.keyRef ek
    have d1 := d1.mono v2.b
    cases d1 with
    | dct hB hz hd =>
      obtain ⟨b', u', v', e1, r1, dv⟩ := (hd.find (k := k)).1 _ e
      exact ⟨_, _, _, k, b', u', v', rfl, ⟨v2.s _ _ hB, B2, _, b, v2.s, hd, rfl, dk, z⟩, e1, r1, q _ _ _ (v1.trans v2) dv⟩
  · cases e
theorem opE_nin [Wd] : OpE (rNIn false) dDIn := fun x y d e B H a b Q s ha hb q => by
  unfold dDIn at e
  split at e
  · obtain ⟨k, ek, rfl⟩ := Option.map_eq_some_iff.mp e
    obtain ⟨b', rfl, dk, z⟩ := ha.keyRef ek
    cases hb with
    | dct hB hz hd =>
      refine ⟨_, _, _, k, rfl, ⟨s _ _ hB, B, _, b', s, hd, rfl, dk, z⟩, ?_⟩
      rw [hd.isSome, Bool.false_bne]
      exact q _ B H (.refl s) (.bl _)
  · cases e
theorem opE_nnotIn [Wd] : OpE (rNIn true) dDNotIn := fun x y d e B H a b Q s ha hb q => by
  unfold dDNotIn at e
  split at e
  · obtain ⟨k, ek, rfl⟩ := Option.map_eq_some_iff.mp e
    obtain ⟨b', rfl, dk, z⟩ := ha.keyRef ek
    cases hb with
    | dct hB hz hd =>
      refine ⟨_, _, _, k, rfl, ⟨s _ _ hB, B, _, b', s, hd, rfl, dk, z⟩, ?_⟩
      rw [hd.isSome, Bool.true_bne]
      exact q _ B H (.refl s) (.bl _)
  · cases e
theorem ped_dIn [Wd] (hW : FW F) (ha : PEd F.X a m) (hb : PEd F.X b m') (hm : behindInMarks .In b = false := by rfl) : PEd F.X (.Compare a [.In] [b] pos) (mB dDIn m m') := ped_cmp (fun i => op_nin (hW.at_ i) (F.un20 i)) opE_nin ha hb hm
theorem ped_dNotIn [Wd] (hW : FW F) (ha : PEd F.X a m) (hb : PEd F.X b m') (hm : behindInMarks .NotIn b = false := by rfl) : PEd F.X (.Compare a [.NotIn] [b] pos) (mB dDNotIn m m') := ped_cmp (fun i => op_nnotIn (hW.at_ i) (F.un20 i)) opE_nnotIn ha hb hm
theorem ptd_dIn [Wd] (hW : FW F) (ha : PEd F.X a m) (hb : PEd F.X b m') (hm : behindInMarks .In b = false := by rfl) : PTd F.X (.Compare a [.In] [b] pos) (qVal (mB dDIn m m')) := ptd_cmp (fun i => op_nin (hW.at_ i) (F.un20 i)) opE_nin ha hb hm
theorem ptd_dNotIn [Wd] (hW : FW F) (ha : PEd F.X a m) (hb : PEd F.X b m') (hm : behindInMarks .NotIn b = false := by rfl) : PTd F.X (.Compare a [.NotIn] [b] pos) (qVal (mB dDNotIn m m')) := ptd_cmp (fun i => op_nnotIn (hW.at_ i) (F.un20 i)) opE_nnotIn ha hb hm
theorem ped_get2 [Wd] (hW : FW F) (ha : PEd F.X a m) (hb : PEd F.X b m') (hc : PEd F.X c m2) (h : ∀ i, M2 (F.X i) a "get" apos b c cpos) : PEd F.X (.Call (.Attribute a "get" apos) [b, c] [] cpos) (mG2 m m' m2) := by
  obtain ⟨t, h1, h2⟩ := ha.ex
  obtain ⟨u, k1, k2⟩ := hb.ex
  obtain ⟨w, l1, l2⟩ := hc.ex
  refine ⟨tNGet2 t u w, fun i => pe_nget2 (hW.at_ i) (F.un20 i) (h1 i) (k1 i) (l1 i) (h i), fun ρ d e H0 B σ H Q rp q => ?_⟩
  obtain ⟨x, ex, e⟩ := bind_some' e
  obtain ⟨y, ey, e⟩ := bind_some' e
  obtain ⟨z, ez, e⟩ := bind_some' e
  refine h2 ρ x ex H0 B σ H _ rp fun v B1 H1 v1 d1 => ?_
  split at e
  · obtain ⟨k, ek, rfl⟩ := Option.map_eq_some_iff.mp e
    cases d1 with
    | dct hB hz hd =>
      refine ⟨_, _, _, rfl, v1.s _ _ hB, ?_⟩
      refine k2 ρ y ey H0 B1 σ H1 _ (rp.adv v1) fun u B2 H2 v2 d2 => ?_
      refine l2 ρ z ez H0 B2 σ H2 _ ((rp.adv v1).adv v2) fun w B3 H3 v3 d3 => ?_
      have v23 := v2.trans v3
      obtain ⟨b, rfl, dk, zz⟩ := (d2.mono v3.b).keyRef ek
      have hd3 := hd.mono v23.b
      refine ⟨_, _, k, ⟨v23.s _ _ (v23.b _ _ hB), B3, _, b, v3.s, hd3, rfl, dk, zz⟩, ?_⟩
      obtain ⟨f1, f2⟩ := hd3.find (k := k)
      cases ef : dFind _ k with
      | some d =>
        obtain ⟨b', u', v', e1, r1, dv⟩ := f1 d ef
        refine .inl ⟨b', u', v', e1, r1, q _ _ _ (v1.trans v23) ?_⟩
        rw [ef]
        exact dv
      | none =>
        refine .inr ⟨f2 ef, q _ _ _ (v1.trans v23) ?_⟩
        rw [ef]
        exact d3
  · cases e
theorem get_ownD [Wd] {H0 B H : Hp} {σ : L2.St} {ρ : En} {n : Nat} {ps : List (D × D)} (r : Rep H0 B σ H ρ) (hd : ρ[n]? = some (.own (.dict ps))) : ∃ o xs ep, σ[n]? = some (some (V.ref o)) ∧ H0 o = none ∧ B o = none ∧ H o = some (NDO o xs ep) ∧ DenK B xs ps := by
  obtain ⟨o, ho, q1, q2, q3, q4, q5⟩ := r.own _ _ hd
  cases q5 with
  | dct z h => exact ⟨o, _, _, q1, q2, q3, q4, h⟩
theorem psd_dput [Wd] (n : Nat) {tpos : Pos} {mi : En → Option D} (hW : FW F) (hN : F.N[n]? = some x) (hv : Vis F.sc x) (hi : PEd F.X a mi) (h : PEd F.X e m) (hx : (x == ("__debug__" : Str)) = false := by decide) (hcd : (x == ("__classdict__" : Str)) = false := by decide)
    (hs : ∀ i, swapsWith e (some (.Subscript (.Name x p) a tpos)) pos.line (F.X i).env = pure false := by intro _; rfl) : PSd F (.Assign [.Subscript (.Name x p) a tpos] e pos) (sDPut n mi m) := by
  obtain ⟨t, h1, h2⟩ := h.ex
  obtain ⟨u, k1, k2⟩ := hi.ex
  refine ⟨sNPut (tVar n) u t, fun i => ps_nput (hW.at_ i) (F.un20 i) (pe_var (by rw [F.hN i]; exact hN) (by rw [F.hsc i]; exact hv) hx hcd) (k1 i) (h1 i) (hs i), fun ρ o eo H0 B0 B σ H E v r k => ?_⟩
  obtain ⟨d, ed, eo⟩ := bind_some' eo
  obtain ⟨y, ey, eo⟩ := bind_some' eo
  obtain ⟨kk, ek, eo⟩ := bind_some' eo
  split at eo
  · rename_i ps hd
    split at eo
    · rename_i hlt
      cases eo
      refine h2 ρ d ed H0 B σ H _ r fun w B1 H1 v1 d1 => ?_
      have r1 := r.adv v1
      obtain ⟨o, xs, ep, q1, q2, q3, q4, q5⟩ := get_ownD r1 hd
      refine ⟨.ref o, q1, k2 ρ y ey H0 B1 σ H1 _ r1 fun yv B2 H2 v2 d2 => ?_⟩
      have r2 := r1.adv v2
      obtain ⟨o', xs', ep', p1, p2, p3, p4, p5⟩ := get_ownD r2 hd
      have eo : o = o' := by rw [q1] at p1; cases p1; rfl
      subst eo
      obtain ⟨b, rfl, dk, z⟩ := d2.keyRef ek
      have hl := p5.length
      refine ⟨o, xs', ep', kk, rfl, ⟨p4, B2, _, b, v2.s, p5, rfl, dk, z⟩, Nat.lt_of_le_of_lt (Nat.le_of_eq hl) (Nat.lt_trans hlt (by decide)), fun b' r' ep2 eb rv => ?_⟩
      cases eb
      have e1 := (dKey_inv ek).1
      have hput := p5.put (k := kk) e1 z (by rw [e1]; exact dk) rv (d1.mono v2.b)
      refine k B2 σ _ ((v.trans (v1.trans v2)).write p2 p3) (r2.upd hd p1 p2 p3 (.dct ?_ hput))
      have := storedH_length xs' kk b r'
      exact Nat.le_trans this (Nat.le_trans (Nat.succ_le_succ (Nat.le_of_eq hl)) (Nat.le_trans (show ps.length + 1 ≤ 1000000 from hlt) (by decide)))
    · cases eo
  · cases eo
theorem peo_disp1 [Wd] (hW : FW F) (ha : PEd F.X a m) (hb : PEd F.X b m') : PEo F.X (.Dict [some a] [b] pos) (mDisp1 m m') := by
  obtain ⟨t, h1, h2⟩ := ha.ex
  obtain ⟨u, k1, k2⟩ := hb.ex
  refine ⟨tNDisp1 t u, fun i => pe_ndisp1 (hW.at_ i) (F.un20 i) (h1 i) (k1 i), fun ρ d e H0 B σ H Q rp q p hp => ?_⟩
  obtain ⟨y, ey, e⟩ := bind_some' e
  obtain ⟨x, ex, e⟩ := bind_some' e
  obtain ⟨k, ek, rfl⟩ := Option.map_eq_some_iff.mp e
  have v0 : Adv B H B (upd H p (NDO p [] 0)) := .lay rp.sub hp
  refine h2 ρ y ey H0 B σ _ _ (rp.adv v0) fun yv B1 H1 v1 d1 => ?_
  refine k2 ρ x ex H0 B1 σ H1 _ ((rp.adv v0).adv v1) fun w B2 H2 v2 d2 => ?_
  obtain ⟨b, rfl, dk, z⟩ := (d1.mono v2.b).keyRef ek
  have v12 := v1.trans v2
  have hB2 : B2 p = none := v12.n p (rp.sub.free hp) (by rw [upd_same]; simp)
  have hH2 : H2 p = some (NDO p [] 0) := v12.h _ _ upd_same
  have e1 := (dKey_inv ek).1
  refine ⟨B2, b, k, hH2, rfl, v2.s, dk, z, fun r ep rv => ?_⟩
  refine q p _ B2 _ ((v0.trans v12).write hp hB2) hp hB2 upd_same (.dct (by show 1 ≤ sizeLine; decide) (.cons e1 z (by rw [e1]; exact dk) rv d2 .nil))
theorem ptd_thaw [Wd] (n : Nat) (h : PTd F.X e q) : PTd F.X e (qThaw n q) := by
  obtain ⟨t, h1, h2⟩ := h.ex
  refine ⟨t, h1, fun ρ d ed H0 B σ H Q r k => ?_⟩
  unfold qThaw at ed
  split at ed
  · rename_i d0 hd
    obtain ⟨o, ho, q1, q2, q3, q4, q5⟩ := r.own _ _ hd
    refine h2 _ d ed H0 (upd B o ho) σ H Q (r.frz hd q1 q3 q4 q5) fun B1 H1 v1 => ?_
    have hb1 : B1 o = some ho := v1.b _ _ upd_same
    refine k (fun a => if a = o then none else B1 a) H1 ⟨fun a x e => ?_, v1.h, fun a x e => ?_, fun a e ne => ?_⟩
    · rw [if_neg (ne_of_none e q3)]
      exact v1.b a x (by rw [upd_ne (ne_of_none e q3)]; exact e)
    · by_cases hz : a = o
      · rw [if_pos hz] at e; cases e
      · rw [if_neg hz] at e; exact v1.s a x e
    · by_cases hz : a = o
      · rw [if_pos hz]
      · rw [if_neg hz]; exact v1.n a (by rw [upd_ne hz]; exact e) ne
  · cases ed
end
end Dl

end
section
set_option Elab.async false
set_option linter.all false
set_option maxRecDepth 100000
set_option maxHeartbeats 2000000
set_option autoImplicit false
namespace Dl
open PySem PySem.Spec PyProof.Rows L2

/-! ### walks over dicts -/
/-- the entries -/
def esN [Wd] (xs : List NE) : Array DictEntry := (xs.map entN).toArray
theorem esN_size [Wd] (xs : List NE) : (esN xs).size = xs.length := by simp [esN]
theorem esN_key [Wd] {xs : List NE} {i : Nat} {x : NE} (h : xs[i]? = some x) (hi : i < (esN xs).size) : (esN xs)[i].key = .ref x.2.1 ∧ (esN xs)[i].val = x.2.2 := by
  have e : (esN xs)[i] = entN x := by
    have hx : xs[i]'(by rw [esN_size] at hi; exact hi) = x := by
      rw [List.getElem?_eq_getElem (by rw [esN_size] at hi; exact hi)] at h
      exact Option.some.inj h
    simp [esN, hx]
  rw [e]
  exact ⟨rfl, rfl⟩
section
variable {X : Cx} {pins : List (Addr × Obj)} {σ : L2.St} {H : Hp} {s : Shared}
theorem nd_raw [Wd] {a : Addr} {xs : List NE} {ep : Nat} (I : Inv X pins σ H s) (e : H a = some (NDO a xs ep)) : (a == sysModules) = false ∧ s.heap.DictRaw a (esN xs) ep := by
  obtain ⟨⟨h1, h2, o, es, h3, h4, h5, h6⟩, _⟩ := I.hok a _ e
  have : es = esN xs := by
    unfold esN
    rw [← h6]
  subst this
  exact ⟨h1, o, h3, h4, h5⟩
end
theorem nd_dict' [Wd] {X : Cx} {pins : List (Addr × Obj)} {σ : L2.St} {H : Hp} {s : Shared} {a : Addr} {xs : List NE} {ep : Nat} (I : Inv X pins σ H s) (e : H a = some (NDO a xs ep)) : s.TypeIs (.ref a) "dict" ∧ (∀ b, Value.ref a = .ref b → ∃ ob, s.heap.get? b = some ob ∧ ob.dict = none) := by
  obtain ⟨⟨h1, h2, o, es, h3, h4, h5, h6⟩, _⟩ := I.hok a _ e
  exact ⟨⟨o, h3, h4.1⟩, fun b q => by cases q; exact ⟨o, h3, h4.2.1⟩⟩
/-- the keys -/
def ItK [Wd] (a : Addr) (xs : List NE) (ep : Nat) : It where
  go := fun i H => H a = some (NDO a xs ep) ∧ i < xs.length
  yld := fun i H v H' => H' = H ∧ ∃ x, xs[i]? = some x ∧ v = .ref x.2.1
  stop := fun i H => H a = some (NDO a xs ep) ∧ i = xs.length
theorem turn_nk [Wd] {P : Program} {w : World} {K : PySem.W.Frag} {tg : Expr} (a it : Addr) (xs : List NE) (ep : Nat) : Turn P w K tg (ItK a xs ep) [it] it (fun i h => h.IsKeyIter it a i xs.length ep) where
  mem := by simp
  obj := fun i h st b hb => by
    obtain rfl : b = it := by simpa using hb
    obtain ⟨o, ho, hc, hd⟩ := st
    exact ⟨o, ho, fun v q => by rw [hd] at q; cases q⟩
  keep := fun i h h' st k => by
    obtain ⟨o, ho, r⟩ := st
    exact ⟨o, k it (by simp) o ho, r⟩
  item := by
    intro X hP hw hK hc i pins s σ H E I hf st hg
    subst hP hw hK
    obtain ⟨ha, hi⟩ := hg
    obtain ⟨h1, h2⟩ := nd_raw I ha
    obtain ⟨f0, f1, f2, f3, f4, f5⟩ := hf it (by simp)
    rw [← esN_size xs] at st
    have hi' : i < (esN xs).size := by rw [esN_size]; exact hi
    refine wpAny_pyNext_keys_item_raw st h2 hi' fun h' hit' hs' => ?_
    obtain ⟨o', ho', hc', hd'⟩ := id hit'
    refine ⟨_, rfl, go_of (s := { s with heap := h' }) ho' hc' hd' (by decide) ?_⟩
    have hx : xs[i]? = some xs[i] := List.getElem?_eq_getElem hi
    obtain ⟨k1, k2⟩ := esN_key hx hi'
    rw [k1]
    refine ⟨.ref xs[i].2.1, H, I.turned (t' := s.toks) (fun b o hb q => hs'.extBut b o hb q) f0 f1 f3 f4 f5, rfl, ⟨rfl, _, hx, rfl⟩, by rw [← esN_size xs]; exact hit', fun b hb => ?_⟩
    obtain rfl : b = it := by simpa using hb
    exact f0
  done := by
    intro X hP hw hK hc i pins s σ H E I hf st hg
    subst hP hw hK
    obtain ⟨ha, hi⟩ := hg
    obtain ⟨h1, h2⟩ := nd_raw I ha
    obtain ⟨f0, f1, f2, f3, f4, f5⟩ := hf it (by simp)
    rw [← esN_size xs] at st
    exact wpAny_pyNext_keys_end_raw (I.ok.hd hc) st h2 (by rw [esN_size, hi]; exact Nat.le_refl _) fun h' eb => ⟨rfl, I.turned (t' := s.toks) (fun b o hb q => eb b o hb q) f0 f1 f3 f4 f5⟩
  self := fun A i s Q E st h => wpAny_pyIter_keyiter st h
/-- the pairs; vs: what stands at the keys -/
def ItI [Wd] (a : Addr) (xs : List NE) (ep : Nat) (vs : List V) : It where
  go := fun i H => H a = some (NDO a xs ep) ∧ i < xs.length
  yld := fun i H v H' => ∃ T x y, v = .ref T ∧ H T = none ∧ xs[i]? = some x ∧ vs[i]? = some y ∧ H' = upd H T (.tup [.ref x.2.1, y])
  stop := fun i H => H a = some (NDO a xs ep) ∧ i = xs.length
theorem turn_ni [Wd] {P : Program} {w : World} {K : PySem.W.Frag} {elts : List Expr} {kk : Nat} {tpos : Pos} (a it : Addr) (xs : List NE) (ep : Nat) (vs : List V) (hv : ∀ (i : Nat) (x : NE), xs[i]? = some x → ∃ y, vs[i]? = some y ∧ RelV y x.2.2) :
    Turn P w K (.Tuple elts kk tpos) (ItI a xs ep vs) [it] it (fun i h => ∃ ok ov, IsItemIter h it a i xs.length ep ok ov) where
  mem := by simp
  obj := fun i h st b hb => by
    obtain rfl : b = it := by simpa using hb
    obtain ⟨ok, ov, e⟩ := st
    exact ⟨_, e, fun v q => nomatch q⟩
  keep := fun i h h' st k => by
    obtain ⟨ok, ov, e⟩ := st
    exact ⟨ok, ov, k it (by simp) _ e⟩
  item := by
    intro X hP hw hK hc i pins s σ H E I hf st hg
    subst hP hw hK
    obtain ⟨ha, hi⟩ := hg
    obtain ⟨h1, h2⟩ := nd_raw I ha
    rw [← esN_size xs] at st
    obtain ⟨ok, ov, st⟩ := st
    have hi' : i < (esN xs).size := by rw [esN_size]; exact hi
    have hx : xs[i]? = some xs[i] := List.getElem?_eq_getElem hi
    obtain ⟨y, hy, ry⟩ := hv i _ hx
    obtain ⟨k1, k2⟩ := esN_key hx hi'
    have hil : it < s.heap.objs.size := Heap.lt_size st
    refine wpAny_pyNext_items_item_raw st h2 hi' fun h' hit' ht hz hk => ?_
    refine ⟨_, rfl, wpAny_letOwnedTupleGo_items (s := { s with heap := h' }) hit' fun h'' hit'' hs => ?_⟩
    have ht2 : h''.get? s.heap.objs.size = some { cls := .type "tuple", data := .seq #[.ref xs[i].2.1, xs[i].2.2] } := by
      rw [← k1, ← k2]
      exact (hs.2 _ (Nat.ne_of_gt hil)).trans ht
    have new : ObjOk X.prog X.w (upd H s.heap.objs.size (.tup [.ref xs[i].2.1, y])) h'' s.heap.objs.size (.tup [.ref xs[i].2.1, y]) :=
      ⟨by show 2 ≤ sizeLine; decide, [.ref xs[i].2.1, xs[i].2.2], .cons rfl (.cons ry .nil), ⟨_, ht2, rfl, _, rfl⟩⟩
    have I1 : Inv X pins σ (upd H s.heap.objs.size (.tup [.ref xs[i].2.1, y])) { s with heap := h'' } :=
      I.turnedNew (t' := s.toks) (ch := [it]) (fun b ob hb q => (hs.2 b (fun z => hb (by simp [z]))).trans (hk b ob (fun z => hb (by simp [z])) q)) hf (Nat.le_refl _) new
    refine ⟨.ref s.heap.objs.size, _, I1, rfl, ⟨_, _, y, rfl, I.hok.fresh (Nat.le_refl _), hx, hy, rfl⟩, ⟨_, _, by rw [← esN_size xs]; exact hit''⟩, fun b hb => ?_⟩
    obtain rfl : b = it := by simpa using hb
    rw [upd_ne (Nat.ne_of_lt hil)]
    exact (hf b hb).1
  done := by
    intro X hP hw hK hc i pins s σ H E I hf st hg
    subst hP hw hK
    obtain ⟨ha, hi⟩ := hg
    obtain ⟨h1, h2⟩ := nd_raw I ha
    obtain ⟨f0, f1, f2, f3, f4, f5⟩ := hf it (by simp)
    rw [← esN_size xs] at st
    obtain ⟨ok, ov, st⟩ := st
    exact wpAny_pyNext_items_end_raw (I.ok.hd hc) st h2 (by rw [esN_size, hi]; exact Nat.le_refl _) fun h' eb => ⟨rfl, I.turned (t' := s.toks) (fun b o hb q => eb b o hb q) f0 f1 f3 f4 f5⟩
  self := fun A i s Q E st h => by
    obtain ⟨ok, ov, st⟩ := st
    exact wpAny_pyIter_itemiter st h
theorem DenK.vals [Wd] {B : Hp} : ∀ {xs : List NE} {ps : List (D × D)}, DenK B xs ps → ∃ vs : List V, vs.length = xs.length ∧ (∀ (i : Nat) (x : NE), xs[i]? = some x → ∃ y, vs[i]? = some y ∧ RelV y x.2.2) ∧
    ∀ (i : Nat) (x : NE), xs[i]? = some x → ∃ (p : D × D) (y : V), ps[i]? = some p ∧ vs[i]? = some y ∧ Den B (.ref x.2.1) p.1 ∧ Den B y p.2
  | _, _, .nil => ⟨[], rfl, fun i x h => (by simp at h), fun i x h => (by simp at h)⟩
  | _, _, .cons (v := v) e z hk r h t => by
    obtain ⟨vs, l, h1, h2⟩ := t.vals
    refine ⟨v :: vs, congrArg (· + 1) l, fun i x hx => ?_, fun i x hx => ?_⟩
    · cases i with
      | zero =>
        simp at hx
        subst hx
        exact ⟨v, rfl, r⟩
      | succ i =>
        obtain ⟨y, e1, e2⟩ := h1 i x (by simpa using hx)
        exact ⟨y, by simpa using e1, e2⟩
    · cases i with
      | zero =>
        simp at hx
        subst hx
        exact ⟨_, v, rfl, rfl, hk, h⟩
      | succ i =>
        obtain ⟨p, y, e1, e2, e3⟩ := h2 i x (by simpa using hx)
        exact ⟨p, y, by simpa using e1, by simpa using e2, e3⟩
theorem DenK.mono' [Wd] {B B' : Hp} (s : Same B B') {xs : List NE} {ps : List (D × D)} (h : DenK B xs ps) : DenK B' xs ps := h.stay (.of s)
theorem walkD_nk [Wd] {B : Hp} {a : Addr} {xs : List NE} {ep : Nat} {ps : List (D × D)} (e : B a = some (NDO a xs ep)) (hz : xs.length ≤ sizeLine) (h : DenK B xs ps) : WalkD (ItK a xs ep) B (ps.map (·.1)) where
  stop := fun B1 H1 s1 s2 => ⟨s2 _ _ (s1 _ _ e), by rw [List.length_map, h.length]⟩
  go := fun i B1 H1 hi s1 s2 => ⟨s2 _ _ (s1 _ _ e), by rw [List.length_map] at hi; rw [h.length]; exact hi⟩
  yld := fun i B1 H1 x H2 hi s1 s2 y => by
    obtain ⟨rfl, x', hx, rfl⟩ := y
    obtain ⟨vs, l, _, h2⟩ := h.vals
    obtain ⟨p, y, e1, e2, e3, e4⟩ := h2 i x' hx
    exact ⟨B1, p.1, .refl s2, by rw [List.getElem?_map, e1]; rfl, e3.mono s1⟩
  len := by rw [List.length_map, ← h.length]; exact hz
def pairD (p : D × D) : D := .tuple [p.1, p.2]
theorem walkD_ni [Wd] {B : Hp} {a : Addr} {xs : List NE} {ep : Nat} {ps : List (D × D)} {vs : List V} (e : B a = some (NDO a xs ep)) (hz : xs.length ≤ sizeLine) (h : DenK B xs ps)
    (hv : ∀ (i : Nat) (x : NE), xs[i]? = some x → ∃ (p : D × D) (y : V), ps[i]? = some p ∧ vs[i]? = some y ∧ Den B (.ref x.2.1) p.1 ∧ Den B y p.2) : WalkD (ItI a xs ep vs) B (ps.map pairD) where
  stop := fun B1 H1 s1 s2 => ⟨s2 _ _ (s1 _ _ e), by rw [List.length_map, h.length]⟩
  go := fun i B1 H1 hi s1 s2 => ⟨s2 _ _ (s1 _ _ e), by rw [List.length_map] at hi; rw [h.length]; exact hi⟩
  yld := fun i B1 H1 x H2 hi s1 s2 y => by
    obtain ⟨T, x', y', rfl, hT, hx, hy, rfl⟩ := y
    obtain ⟨p, y, e1, e2, e3, e4⟩ := hv i x' hx
    have ey : y = y' := by rw [e2] at hy; exact Option.some.inj hy
    subst ey
    have av := Adv.new (o := .tup [.ref x'.2.1, y]) s2 hT
    exact ⟨_, pairD p, av, by rw [List.getElem?_map, e1]; rfl, .tup upd_same (by show 2 ≤ sizeLine; decide) (.cons (e3.mono (s1.trans av.b)) (.cons (e4.mono (s1.trans av.b)) .nil))⟩
  len := by rw [List.length_map, ← h.length]; exact hz

/-! ### for k in d; for k, v in d.items() -/
def iNK [Wd] (td : TE) : TI := fun σ H R => td σ H fun v H1 => ∃ a xs ep, v = V.ref a ∧ H1 a = some (NDO a xs ep) ∧ R (ItK a xs ep) H1
def iNI [Wd] (td : TE) : TI := fun σ H R => td σ H fun v H1 => ∃ a xs ep vs, v = V.ref a ∧ H1 a = some (NDO a xs ep) ∧ (∀ (i : Nat) (x : NE), xs[i]? = some x → ∃ y, vs[i]? = some y ∧ RelV y x.2.2) ∧ R (ItI a xs ep vs) H1
section
variable {X : Cx} {tg o e : Expr} {td : TE} {elts : List Expr} {kk : Nat} {tpos apos cpos : Pos}
theorem pi_nk [Wd] (he : PE X e td) : PI X tg e (iNK td) := by
  refine ⟨fun pins s σ H R I h => ?_⟩
  refine thn (he.run pins s σ H _ I h) fun u s1 ⟨x, H1, I1, rx, a, xs, ep, ex, ha, q⟩ => ?_
  subst ex
  obtain rfl : u = Value.ref a := rx
  obtain ⟨h1, h2⟩ := nd_raw I1 ha
  refine wpAny_pyIter_dict_raw h1 h2 ?_
  have I2 : Inv X pins σ H1 { s1 with heap := s1.heap.push { cls := .type "dict_keyiterator", data := .fields #[.ref a, .int 0 0, .int (esN xs).size 0, .int ep 0] } } := I1.kept (t' := s1.toks) fun b o e => Heap.get?_push_of_some _ e
  refine ⟨s1.heap.objs.size, [s1.heap.objs.size], _, _, H1, rfl, I2, turn_nk a s1.heap.objs.size xs ep, ⟨_, Heap.get?_push_size _ rfl, rfl, by rw [← esN_size xs]; rfl⟩, fun b hb => ?_, q⟩
  obtain rfl : b = s1.heap.objs.size := by simpa using hb
  exact I1.fpOk (Nat.le_refl _) (I1.hok.fresh (Nat.le_refl _))
theorem pi_ni [Wd] (ho : PE X o td) (hbase : attributeBase o "items" X.env (eval o X.env) = eval o X.env := by rfl) (hline : (apos.endLine == cpos.line) = true := by rfl) : PI X (.Tuple elts kk tpos) (.Call (.Attribute o "items" apos) [] [] cpos) (iNI td) := by
  refine ⟨fun pins s σ H R I h => ?_⟩
  refine wpAny_Call_method0_late hbase hline (thn (ho.run pins s σ H _ I h) fun u s1 ⟨x, H1, I1, rx, a, xs, ep, vs, ex, ha, hv, q⟩ => ?_)
  subst ex
  obtain rfl : u = Value.ref a := rx
  obtain ⟨h1, h2⟩ := nd_raw I1 ha
  have hd := nd_dict' I1 ha
  refine ⟨"dict", "dict.items", PySem.F.plainAttrs_dict, PySem.F.slot_dict_items, PySem.F.type_dict_items, hd.1, hd.2, Calls.callWith_builtin rfl (PySem.evalArgs_none ?_)⟩
  refine call_meetsIn PySem.F.slot_dict_items h2.typeIs PySem.F.entry_dict_items (PySem.F.args_dict_items_1 _) (meets_dict_items_raw a h1) ⟨⟨_, _, h2⟩, ?_⟩
  have I2 : Inv X pins σ H1 { s1 with heap := s1.heap.push { cls := .type "dict_items", data := .fields #[.ref a] } } := I1.kept (t' := s1.toks) fun b o e => Heap.get?_push_of_some _ e
  obtain ⟨h1', h2'⟩ := nd_raw I2 ha
  refine wpAny_pyIter_items_raw (s := { s1 with heap := s1.heap.push { cls := .type "dict_items", data := .fields #[.ref a] } }) ⟨_, Heap.get?_push_size _ rfl, rfl, rfl⟩ h2' ?_
  have I3 := I2.kept (t' := s1.toks) (h' := (s1.heap.push { cls := .type "dict_items", data := .fields #[.ref a] }).push { cls := .type "dict_itemiterator", data := .fields #[.none, .bool false, .ref a, .int 0 0, .int (esN xs).size 0, .int ep 0, .none, .none] }) fun b o e => Heap.get?_push_of_some _ e
  refine ⟨_, [_], _, _, H1, rfl, I3, turn_ni a _ xs ep vs hv, ⟨.none, .none, ?_⟩, fun b hb => ?_, q⟩
  · rw [← esN_size xs]
    exact Heap.get?_push_size _ rfl
  · obtain rfl := List.mem_singleton.mp hb
    exact I2.fpOk (Nat.le_refl _) (I2.hok.fresh (Nat.le_refl _))
end
end Dl

end
section
set_option Elab.async false
set_option linter.all false
set_option maxRecDepth 100000
set_option maxHeartbeats 2000000
set_option autoImplicit false
namespace Dl
open PySem PySem.Spec PyProof.Rows L2

theorem refs_vals : ∀ as : List Addr, Vals (as.map V.ref) (as.map Value.ref)
  | [] => .nil
  | _ :: as => .cons rfl (refs_vals as)
/-! ### list(d.items()) -/
section
variable {X : Cx} {pins : List (Addr × Obj)} {σ : L2.St} {H : Hp} {s : Shared}
/-- new pairs that stand in the heap are tracked, and stay -/
theorem take_pairs [Wd] {h' : Heap} {tk : Nat} (I0 : Inv X pins σ H s) : ∀ (as : List Addr) {xs : List NE} {ps : List (D × D)} {B1 H1 : Hp}, Inv X pins σ H1 { s with heap := h', toks := tk } → Same B1 H1 → DenK B1 xs ps → as.length = xs.length → as.Nodup →
    (∀ (j : Nat) (a : Addr), as[j]? = some a → s.heap.objs.size ≤ a ∧ H1 a = none ∧ ∃ x : NE, xs[j]? = some x ∧ h'.get? a = some { cls := .type "tuple", data := .seq #[.ref x.2.1, x.2.2] }) →
    ∃ B2 H2, Inv X pins σ H2 { s with heap := h', toks := tk } ∧ Adv B1 H1 B2 H2 ∧ DenA B2 (as.map V.ref) (ps.map pairD) ∧ ∀ c, c ∉ as → H1 c = none → H2 c = none
  | [], xs, ps, B1, H1, I1, sB, hk, hl, hn, h => by
    cases hk with
    | nil => exact ⟨B1, H1, I1, .refl sB, .nil, fun c _ e => e⟩
    | cons => cases hl
  | a :: as, _, _, B1, H1, I1, sB, .cons (k := k) (b := b) (v := v) (u := u) (xs := xs) e z hk r hd t, hl, hn, h => by
    obtain ⟨h1, h2, x, hx, hg⟩ := h 0 a rfl
    obtain rfl : (k, b, u) = x := by simpa using hx
    have ok : ObjOk X.prog X.w (upd H1 a (.tup [.ref b, v])) h' a (.tup [.ref b, v]) := ⟨by show 2 ≤ sizeLine; decide, [.ref b, u], .cons rfl (.cons r .nil), ⟨_, hg, rfl, _, rfl⟩⟩
    have I2 : Inv X pins σ (upd H1 a (.tup [.ref b, v])) { s with heap := h', toks := tk } := I1.take (h' := h') (t' := tk) (fun c ob _ q => q) (I0.fpOk h1 h2) ok
    have av := Adv.new (o := .tup [.ref b, v]) sB h2
    rw [List.nodup_cons] at hn
    obtain ⟨B2, H2, I3, v3, d3, f3⟩ := take_pairs I0 as I2 av.s (t.mono' av.b) (by simpa using hl) hn.2 fun j c hj => by
      obtain ⟨q1, q2, y, q3, q4⟩ := h (j + 1) c (by simpa using hj)
      refine ⟨q1, ?_, y, by simpa using q3, q4⟩
      rw [upd_ne (fun zz => hn.1 (by rw [← zz]; exact List.mem_of_getElem? hj))]
      exact q2
    refine ⟨B2, H2, I3, av.trans v3, .cons (.tup (v3.b _ _ upd_same) (by show 2 ≤ sizeLine; decide) (.cons ((hk.mono av.b).mono v3.b) (.cons ((hd.mono av.b).mono v3.b) .nil))) d3, fun c hc q => ?_⟩
    refine f3 c (fun zz => hc (List.mem_cons_of_mem _ zz)) ?_
    rw [upd_ne (fun zz => hc (by rw [zz]; exact List.mem_cons_self))]
    exact q
end
/-- the view of a dict's items, then its pairs in a new list -/
def tNItems [Wd] (td : TE) : TE := fun σ H Q => td σ H fun x H1 => ∃ a xs ep B ps, x = V.ref a ∧ H1 a = some (NDO a xs ep) ∧ Same B H1 ∧ xs.length ≤ sizeLine ∧ DenK B xs ps ∧
  ∀ B' H' l vs, Adv B H1 B' H' → H1 l = none → B' l = none → H' l = some (.lst vs) → vs.length ≤ sizeLine → DenA B' vs (ps.map pairD) → Q (.ref l) H'
section
variable {X : Cx} {o : Expr} {td : TE} {apos cpos p pos : Pos}
theorem pe_nitems [Wd] (hc : X.calm = true) (hg : Gl X "list") (hm : X.mg "list" = none) (ho : PE X o td) (hbase : attributeBase o "items" X.env (eval o X.env) = eval o X.env := by rfl) (hline : (apos.endLine == cpos.line) = true := by rfl)
    (hs : starEach [.Call (.Attribute o "items" apos) [] [] cpos] X.env = [(false, eval (.Call (.Attribute o "items" apos) [] [] cpos) X.env)] := by rfl) : PE X (.Call (.Name "list" p) [.Call (.Attribute o "items" apos) [] [] cpos] [] pos) (tNItems td) := by
  refine ⟨fun pins s σ H Q I h => ?_⟩
  refine Call_ (ld_blt I hg hm PyProof.Rows.boot_list (PyProof.Rows.callWith_type1 ?_ hs rfl))
  rw [hs]
  refine Calls.spliced_cons (wpAny_Call_method0_late hbase hline (thn (ho.run pins s σ H _ I h) fun u s1 ⟨x, H1, I1, rx, a, xs, ep, B, ps, ex, ha, sB, hz, hk, q⟩ => ?_))
  subst ex
  obtain rfl : u = Value.ref a := rx
  obtain ⟨h1, h2⟩ := nd_raw I1 ha
  have hd := nd_dict' I1 ha
  refine ⟨"dict", "dict.items", PySem.F.plainAttrs_dict, PySem.F.slot_dict_items, PySem.F.type_dict_items, hd.1, hd.2, Calls.callWith_builtin rfl (PySem.evalArgs_none ?_)⟩
  refine call_meetsIn PySem.F.slot_dict_items h2.typeIs PySem.F.entry_dict_items (PySem.F.args_dict_items_1 _) (meets_dict_items_raw a h1) ⟨⟨_, _, h2⟩, ?_⟩
  have I2 : Inv X pins σ H1 { s1 with heap := s1.heap.push { cls := .type "dict_items", data := .fields #[.ref a] } } := I1.kept (t' := s1.toks) fun b o e => Heap.get?_push_of_some _ e
  obtain ⟨h1', h2'⟩ := nd_raw I2 ha
  refine Calls.spliced_nil ?_
  refine PySem.W.dil_call (s := { s1 with heap := s1.heap.push { cls := .type "dict_items", data := .fields #[.ref a] } }) (I.ok.hd hc) (r := s1.heap.objs.size) ⟨_, Heap.get?_push_size _ rfl, rfl, rfl⟩ h2' (by rw [esN_size]; exact hz) fun h' tk acc c as hk' hl ha2 hG hacc => ?_
  have I3 : Inv X pins σ H1 { s1 with heap := h', toks := tk } := I2.kept (t' := tk) hk'
  have hsz : s1.heap.objs.size ≤ (s1.heap.push { cls := .type "dict_items", data := .fields #[.ref a] }).objs.size := by rw [Heap.size_push]; exact Nat.le_succ _
  rw [esN_size] at ha2
  have nd : as.Nodup := List.Pairwise.imp (fun h => Nat.ne_of_lt h) hG.rise
  obtain ⟨B2, H2, I4, v4, d4, f4⟩ := take_pairs (s := s1) I1 as I3 sB hk ha2 nd fun j b hj => by
    have hlt := hG.above b (List.mem_of_getElem? hj)
    have hle : s1.heap.objs.size ≤ b := Nat.le_trans hsz (Nat.le_of_lt hlt)
    obtain ⟨hj', hg'⟩ := hG.pairs j b hj
    have hjx : j < xs.length := by rw [esN_size] at hj'; exact hj'
    have hx : xs[j]? = some xs[j] := List.getElem?_eq_getElem hjx
    obtain ⟨k1, k2⟩ := esN_key hx hj'
    refine ⟨hle, I1.hok.fresh hle, xs[j], hx, ?_⟩
    rw [hg', k1, k2]
  generalize hL : (s1.heap.push { cls := .type "dict_items", data := .fields #[.ref a] }).objs.size = L at hl hsz hG
  have hln : H1 L = none := I1.hok.fresh hsz
  have hl2 : H2 L = none := f4 L (fun z => Nat.lt_irrefl _ (hG.above L z)) hln
  have hlz : (as.map V.ref).length ≤ sizeLine := by rw [List.length_map, ha2]; exact hz
  have hvals : Vals (as.map V.ref) acc.toList := by
    rw [hacc]
    exact refs_vals as
  have ok : ObjOk X.prog X.w (upd H2 L (.lst (as.map V.ref))) h' L (.lst (as.map V.ref)) := ⟨hlz, acc.toList, c, hvals, by simpa using hl⟩
  have I5 := I4.take (h' := h') (t' := tk) (fun b ob _ e => e) (I1.fpOk hsz hl2) ok
  have v5 : Adv B2 H2 B2 (upd H2 L (.lst (as.map V.ref))) := .lay v4.s hl2
  exact ⟨.ref L, _, I5, rfl, q B2 _ L _ (v4.trans v5) hln (v4.s.free hl2) upd_same hlz d4⟩
end
def dItems : D → Option D
  | .dict ps => some (.list (ps.map pairD))
  | _ => none
theorem peo_nitems [Wd] {F : Fam} {o : Expr} {apos cpos p pos : Pos} {m : En → Option D} (hg : GI' F "list") (hm : Tx F.mg) (ho : PEd F.X o m) (hbase : ∀ i, attributeBase o "items" (F.X i).env (eval o (F.X i).env) = eval o (F.X i).env := by intro _; rfl) (hline : (apos.endLine == cpos.line) = true := by rfl)
    (hs : ∀ i, starEach [.Call (.Attribute o "items" apos) [] [] cpos] (F.X i).env = [(false, eval (.Call (.Attribute o "items" apos) [] [] cpos) (F.X i).env)] := by intro _; rfl) : PEo F.X (.Call (.Name "list" p) [.Call (.Attribute o "items" apos) [] [] cpos] [] pos) (mU dItems m) := by
  obtain ⟨t, h1, h2⟩ := ho.ex
  refine ⟨tNItems t, fun i => pe_nitems (F.calm i) (gl_of hg i) (mg_of' hm.list i) (h1 i) (hbase i) hline (hs i), fun ρ d e H0 B σ H Q rp q => ?_⟩
  obtain ⟨x, ex, e⟩ := bind_some' e
  refine h2 ρ x ex H0 B σ H _ rp fun v B1 H1 v1 d1 => ?_
  unfold dItems at e
  split at e
  · cases e
    cases d1 with
    | dct hB hz hd => exact ⟨_, _, _, B1, _, rfl, v1.s _ _ hB, v1.s, hz, hd, fun B' H' l vs v2 e1 e2 e3 z d2 => q l _ B' H' (v1.trans v2) (v1.h.free e1) e2 e3 (.lst z d2)⟩
  · cases e

/-! ### dict(pairs) -/
def pairOf : D → Option (D × NestedKey × D)
  | .tuple [kd, d] => (dKey kd).map fun k => (kd, k, d)
  | _ => none
def pairsOf : List D → Option (List (D × NestedKey × D))
  | [] => some []
  | d :: ds => (pairOf d).bind fun p => (pairsOf ds).map (p :: ·)
def putAll (acc : List (D × D)) (l : List (D × NestedKey × D)) : List (D × D) := l.foldl (fun acc p => dPutP acc p.1 p.2.1 p.2.2) acc
def fDict : List D → Option D
  | [.list ds] => (pairsOf ds).map fun l => .dict (putAll [] l)
  | _ => none
theorem DenK.putAll [Wd] {B : Hp} : ∀ {ys : List NE} {l : List (D × NestedKey × D)} {xs : List NE} {ps : List (D × D)}, DenK B ys (l.map fun p => (p.1, p.2.2)) → (∀ p ∈ l, p.1 = p.2.1.data) → ys.map (·.1) = l.map (·.2.1) → DenK B xs ps → DenK B (storedAllH xs ys) (putAll ps l)
  | [], [], xs, ps, _, _, _, h => h
  | [], _ :: _, _, _, _, _, e, _ => by cases e
  | _ :: _, [], _, _, _, _, e, _ => by cases e
  | y :: ys, p :: l, xs, ps, .cons e z hk r hd t, hl, em, h => by
    have e1 : y.1 = p.2.1 := by
      have := congrArg List.head? em
      simpa using this
    have e2 : ys.map (·.1) = l.map (·.2.1) := by
      have := congrArg List.tail em
      simpa using this
    have := h.put e z hk r hd
    have e3 : p.1 = y.1.data := e
    refine DenK.putAll (ys := ys) (l := l) t (fun q hq => hl q (List.mem_cons_of_mem _ hq)) e2 ?_
    show DenK B (storedH xs y.1 y.2.1 y.2.2) (dPutP ps p.1 p.2.1 p.2.2)
    rw [← e1]
    exact this
section
variable {X : Cx} {pins : List (Addr × Obj)} {σ : L2.St} {H : Hp} {s : Shared}
/-- the pairs as they stand in the heap -/
theorem pairs_at [Wd] {B : Hp} (I : Inv X pins σ H s) (sB : Same B H) : ∀ {vs : List V} {ds : List D} {l : List (D × NestedKey × D)} {us : List Value}, DenA B vs ds → pairsOf ds = some l → Vals vs us →
    ∃ (Ts : List Addr) (ys : List NE), us = Ts.map Value.ref ∧ Ts.length = l.length ∧ DenK B ys (l.map fun p => (p.1, p.2.2)) ∧ ys.map (·.1) = l.map (·.2.1) ∧
      ∀ (j : Nat) (y : NE), ys[j]? = some y → ∃ T, Ts[j]? = some T ∧ s.heap.IsTuple T #[.ref y.2.1, y.2.2]
  | _, [], _, _, .nil, e, r => by cases e; cases r; exact ⟨[], [], rfl, rfl, .nil, rfl, fun j y h => (by simp at h)⟩
  | v :: _, d :: ds, l, _, .cons h t, e, .cons r r' => by
    obtain ⟨p, e1, e2⟩ := bind_some' (show (pairOf d).bind _ = some l from e)
    obtain ⟨l', e3, rfl⟩ := Option.map_eq_some_iff.mp e2
    obtain ⟨Ts, ys, q1, q2, q3, q4, q5⟩ := pairs_at I sB t e3 r'
    unfold pairOf at e1
    split at e1
    · rename_i kd dd
      obtain ⟨k, ek, rfl⟩ := Option.map_eq_some_iff.mp e1
      cases h with
      | @tup T xs _ hB hz hd =>
        obtain ⟨kv, vv, rfl, hk, hv⟩ := hd.two
        obtain ⟨b, rfl, hk2, z⟩ := hk.keyRef ek
        cases r
        obtain ⟨_, its, rv, o, h1, h2, n, h3⟩ := (show ObjOk X.prog X.w H s.heap T (.tup _) from I.hok T _ (sB _ _ hB))
        cases rv with
        | cons rk rv =>
          cases rv with
          | cons rw' rv =>
            cases rv
            cases rk
            refine ⟨T :: Ts, (k, b, _) :: ys, by rw [q1]; rfl, congrArg (· + 1) q2, .cons (dKey_inv ek).1 z hk rw' hv q3, by simp [q4], fun j y hj => ?_⟩
            cases j with
            | zero =>
              simp at hj
              subst hj
              exact ⟨T, rfl, o, h1, h2, n, h3⟩
            | succ j =>
              obtain ⟨T', t1, t2⟩ := q5 j y (by simpa using hj)
              exact ⟨T', by simpa using t1, t2⟩
    · cases e1
end
def rDictP [Wd] : RC := fun vs H Q => ∃ (a : Addr) (B : Hp) (us : List V) (ds : List D) (l : List (D × NestedKey × D)), vs = [V.ref a] ∧ Same B H ∧ B a = some (.lst us) ∧ us.length ≤ 1000000 ∧ DenA B us ds ∧ pairsOf ds = some l ∧
  ∀ p xs ep, H p = none → xs.length ≤ sizeLine → DenK B xs (putAll [] l) → Q (.ref p) (upd H p (NDO p xs ep))
theorem pairsOf_keys : ∀ {ds : List D} {l : List (D × NestedKey × D)}, pairsOf ds = some l → (∀ p ∈ l, p.1 = p.2.1.data) ∧ l.length = ds.length
  | [], l, e => by cases e; exact ⟨fun p h => (by cases h), rfl⟩
  | d :: ds, l, e => by
    obtain ⟨p, e1, e2⟩ := bind_some' (show (pairOf d).bind _ = some l from e)
    obtain ⟨l', e3, rfl⟩ := Option.map_eq_some_iff.mp e2
    obtain ⟨h1, h2⟩ := pairsOf_keys e3
    refine ⟨fun q hq => ?_, congrArg (· + 1) h2⟩
    rcases List.mem_cons.mp hq with rfl | hq
    · unfold pairOf at e1
      split at e1
      · obtain ⟨k, ek, rfl⟩ := Option.map_eq_some_iff.mp e1
        exact (dKey_inv ek).1
      · cases e1
    · exact h1 q hq
theorem cr_dictP [Wd] {X : Cx} (hc : X.calm = true) (hW : X.w = Wd.w) (hu : X.A.units + 20 < cLine) : CallR X (.type "dict") rDictP := by
  intro pins s σ H vs us Q I r h
  obtain ⟨a, B, vs', ds, l, rfl, sB, ha, hz, hd, hl, q⟩ := h
  obtain ⟨u, rfl, ru⟩ := vals1 r
  obtain rfl : u = Value.ref a := ru
  obtain ⟨hz', its, n, rv, ho⟩ := (show ObjOk X.prog X.w H s.heap a (.lst _) from I.hok a _ (sB _ _ ha))
  obtain ⟨Ts, ys, q1, q2, q3, q4, q5⟩ := pairs_at I sB hd hl rv
  obtain ⟨pk, pl⟩ := pairsOf_keys hl
  have hys : ys.length = l.length := by
    have := congrArg List.length q4
    simpa using this
  let T : Nat → Addr := fun j => Ts.getD j 0
  let prs : List (Value × Value) := ys.map fun y => (Value.ref y.2.1, y.2.2)
  have hpl : prs.length = ys.length := List.length_map _
  have hits : its.length = ys.length := by rw [q1, List.length_map, q2, hys]
  have PI' : PairItems s.heap its.toArray T prs := by
    refine ⟨by rw [hpl, ← hits]; simp, fun j k v hj => ?_⟩
    rw [List.getElem?_map] at hj
    obtain ⟨y, hy, e⟩ := Option.map_eq_some_iff.mp hj
    cases e
    obtain ⟨T', t1, t2⟩ := q5 j y hy
    have eT : T j = T' := by
      show Ts.getD j 0 = T'
      rw [List.getD_eq_getElem?_getD, t1]
      rfl
    rw [eT]
    refine ⟨?_, .inl t2⟩
    rw [q1]
    simp [t1]
  have hun : (nestedKind X.prog X.w).room X.A.in1.in1 := by
    show X.A.units + 1 + 1 + 8 < cLine
    omega
  have hisk := q3.isk I sB
  have hc2 : PairsHaveH (nestedKind X.prog X.w) prs.length (PairRel prs) ys := by
    refine ⟨hpl.symm, fun i key v hi => ?_⟩
    have hi' : (ys.map fun y => (Value.ref y.2.1, y.2.2))[i]? = some (key, v) := hi
    rw [List.getElem?_map] at hi'
    obtain ⟨y, hy, e⟩ := Option.map_eq_some_iff.mp hi'
    cases e
    exact ⟨y.1, y.2.1, hy, rfl⟩
  have hst : KeysStay (nestedKind X.prog X.w) s.heap s.heap.objs.size [] ys := fun h' hk x hx => nestedKind_stays.stays (fun b o vs n e _ => hk b o (Nat.ne_of_lt (Heap.lt_size e)) (by simp) e) (hisk x hx)
  refine call_dict_pairsH (knd := nestedKind X.prog X.w) (PairArg.list a its.toArray T prs) (I.ok.hd hc) hun ⟨⟨_, n, ho, rfl, rfl, rfl⟩, PI'⟩ hc2 hst ?_ fun h' tk dd hk => ?_
  · rw [hpl, hys, pl, ← hd.length]
    exact hz'
  · have hk' : ∀ b o, s.heap.get? b = some o → h'.get? b = some o := fun b o e => hk b o (by simp) e
    obtain ⟨ep, ok⟩ := nd_ok (H := H) hW (beq_eq_false_iff_ne.mpr (Ne.symm (Nat.ne_of_lt I.big))) dd
    obtain ⟨o, es, ep2, ho2, _⟩ := dd
    have ok2 : ObjOk X.prog X.w (upd H s.heap.objs.size (NDO s.heap.objs.size (storedAllH [] ys) ep)) h' s.heap.objs.size (NDO s.heap.objs.size (storedAllH [] ys) ep) := ok
    refine ⟨.ref s.heap.objs.size, _, I.laid (t' := tk) hk' (Nat.le_refl _) ok2, rfl, q _ _ ep (I.hok.fresh (Nat.le_refl _)) ?_ (q3.putAll pk q4 .nil)⟩
    have h2 := storedAllH_length ys ([] : List NE)
    have h3 : ys.length ≤ 1000000 := by rw [hys, pl, ← hd.length]; exact hz
    exact Nat.le_trans h2 (Nat.le_trans (by simpa using h3) (by decide))
theorem calO_dict [Wd] : CalO rDictP (fun ds => match ds with
  | [.list xs] => if xs.length ≤ 1000000 then fDict [.list xs] else none
  | _ => none) := fun ds d e B H vs Q s ha q => by
  dsimp only at e
  split at e
  · rename_i xs
    split at e
    · rename_i hz
      obtain ⟨l, el, rfl⟩ := Option.map_eq_some_iff.mp (show (pairsOf xs).map _ = some d from e)
      obtain ⟨v, rfl, hv⟩ := ha.one
      cases hv with
      | @lst a us _ h1 h2 h3 =>
        refine ⟨a, B, us, xs, l, rfl, s, h1, by rw [h3.length]; exact hz, h3, el, fun p xs' ep hp hzx hk => ?_⟩
        exact q p _ B _ (.lay s hp) hp (s.free hp) upd_same (.dct hzx hk)
    · cases e
  · cases e
def fDictL : List D → Option D := fun ds => match ds with
  | [.list xs] => if xs.length ≤ 1000000 then fDict [.list xs] else none
  | _ => none
theorem b_dict [Wd] {F : Fam} {e : Expr} {es : List Expr} {pos p : Pos} {ms : En → Option (List D)} (hW : FW F) (hg : GI' F "dict") (T : Tx F.mg) (ha : PAd F.X (e :: es) ms) (he : St1 F e es := by intro _; rfl) (hpl : Pl1 F es pos := by intro _; rfl) : PEo F.X (.Call (.Name "dict" p) (e :: es) [] pos) (mF fDictL ms) :=
  peo_callTy (fun i => cr_dictP (F.calm i) (hW.at_ i) (F.un20 i)) calO_dict (gl_of hg) (mg_of' T.dict) (by decide +kernel) ha (he := he) (hpl := hpl)

/-! ### sorted(d) -/
theorem sort_src {prog : Program} {w : World} {A : Around} {E : Value → Shared → Prop} {s : Shared} {T : String} {r d : Addr} {n : Nat} {Pv : Nat → Value → Prop} {OK : Heap → Prop} {Q : Value → Shared → Prop} (K : PySem.W.KdlSrc prog w T r d n Pv OK) (hh : A.handled = none) (hok : OK s.heap) (hn : n ≤ sizeLine)
    (h : ∀ (h' : Heap) (tk : Nat) (acc : List Value), (∀ b o, s.heap.get? b = some o → h'.get? b = some o) → acc.length = n → (∀ j v, acc[j]? = some v → Pv j v) →
      wpAny (model prog w) A.in1 (call (.builtin "list.sort") [.ref h'.objs.size]) (fun _ s' => Q (.ref h'.objs.size) s') E { s with heap := h'.push (seqObj "list" acc.toArray 0), toks := tk }) :
    wpAny (model prog w) A (call (.builtin "sorted") [.ref r]) Q E s := by
  refine Calls.call_function_entry PyProof.Rows.kind_sorted PyProof.Rows.plain_sorted PyProof.Rows.entry_sorted (PyProof.Rows.args_sorted1 _) ?_
  unfold Builtin.«sorted»
  refine wpAny_bind (m := checkCount "sorted" 1 1 _) (wpAny_pure ?_)
  refine wpAny_bind (PySem.W.kdu_collect (A := A.in1) K hh hok hn fun h' tk acc hk hacc => ?_)
  have hal : acc.toList.length = n := by rw [Array.length_toList, hacc.1]
  refine wpAny_bind (wpAny_newList ?_ (by rw [hal]; exact hn))
  have hg := h h' tk acc.toList hk hal fun j v e => hacc.2 j v (by rw [← Array.getElem?_toList]; exact e)
  refine wpAny_bind (wpAny_holding (wpAny_mono hg (fun _ s' x => ?_) fun _ _ e => e))
  exact wpAny_pure ⟨_, rfl, x⟩
end Dl

end
section
set_option Elab.async false
set_option linter.all false
set_option maxRecDepth 100000
set_option maxHeartbeats 2000000
set_option autoImplicit false
namespace Dl
open PySem PySem.Spec PyProof.Rows L2

mutual
theorem reads_flat {h : Heap} : ∀ {v : Value} {d : D} {as : List Addr}, flat d = true → Reads h v d as → as = []
  | _, _, _, _, .none => rfl
  | _, _, _, _, .bool _ => rfl
  | _, _, _, _, .int _ _ => rfl
  | _, _, _, _, .str _ _ => rfl
  | _, _, _, f, .tuple _ _ _ h4 => readsAll_flat (by simpa [flat] using f) h4
  | _, _, _, f, .list _ _ _ _ => by simp [flat] at f
  | _, _, _, f, .dict _ _ _ _ _ => by simp [flat] at f
theorem readsAll_flat {h : Heap} : ∀ {vs : List Value} {ds : List D} {as : List Addr}, flatA ds = true → ReadsAll h vs ds as → as = []
  | _, _, _, _, .nil => rfl
  | _, _, _, f, .cons h1 h2 => by
    simp only [flatA, Bool.and_eq_true] at f
    rw [reads_flat f.1 h1, readsAll_flat f.2 h2]
    rfl
end
theorem vals_at : ∀ {xs : List V} {us : List Value}, xs.length = us.length → (∀ (j : Nat) (x : V) (u : Value), xs[j]? = some x → us[j]? = some u → RelV x u) → Vals xs us
  | [], [], _, _ => .nil
  | _ :: _, _ :: _, l, h => .cons (h 0 _ _ rfl rfl) (vals_at (by simpa using l) fun j x u h1 h2 => h (j + 1) x u (by simpa using h1) (by simpa using h2))
  | [], _ :: _, l, _ => by simp at l
  | _ :: _, [], l, _ => by simp at l
def sortKOk (ds : List D) : Bool := ds.all flat && ds.all SeqAt.shaped && ds.all (fun d => ds.all (PySem.W.alike d)) && ds.all isTupNE
def rSrtD [Wd] (K : PySem.W.Frag) : RC := fun vs H Q => ∃ (a : Addr) (xs : List NE) (ep : Nat) (ps : List (V × D)), vs = [V.ref a] ∧ H a = some (NDO a xs ep) ∧ xs.length ≤ sizeLine ∧ ps.map Prod.fst = xs.map (fun x => V.ref x.2.1) ∧
  (∀ p ∈ ps, Dp K H p.1 p.2 ∧ p.2.depth ≤ 64) ∧ sortKOk (ps.map Prod.snd) = true ∧ ∀ l, H l = none → Q (.ref l) (upd H l (.lst ((ps.mergeSort (PySem.W.dataLe false Prod.snd)).map Prod.fst)))
theorem cr_srtD [Wd] {X : Cx} (hr : Room 0 X.A) : CallR X (.builtin "sorted") (rSrtD X.K) := by
  intro pins s σ H vs us Q I r h
  obtain ⟨a, xs, ep, ps, rfl, ha, hz, hpx, hd, hok, q⟩ := h
  obtain ⟨u, rfl, ru⟩ := vals1 r
  obtain rfl : u = Value.ref a := ru
  obtain ⟨h1, h2⟩ := nd_raw I ha
  have hpl : ps.length = xs.length := by
    have := congrArg List.length hpx
    simpa using this
  simp only [sortKOk, Bool.and_eq_true, List.all_eq_true] at hok
  obtain ⟨⟨⟨o1, o2⟩, o3⟩, o4⟩ := hok
  refine sort_src (PySem.KdlSrc.rawDict h1) hr.hd h2 (by rw [esN_size]; exact hz) fun h' tk acc hk hal hacc => ?_
  rw [esN_size] at hal
  have rv : Vals (ps.map Prod.fst) acc := by
    rw [hpx]
    refine vals_at (by rw [List.length_map, hal]) fun j x u hx hu => ?_
    rw [List.getElem?_map] at hx
    obtain ⟨y, hy, rfl⟩ := Option.map_eq_some_iff.mp hx
    obtain ⟨hj, e⟩ := hacc j u hu
    rw [e, (esN_key hy hj).1]
    rfl
  have I1 : Inv X pins σ H { s with heap := h', toks := tk } := I.kept (t' := tk) hk
  have hob : (h'.push (seqObj "list" acc.toArray 0)).get? h'.objs.size = some (seqObj "list" acc.toArray 0) := Heap.get?_push_size _ rfl
  refine PySem.W.list_sort_data (s := { s with heap := h'.push (seqObj "list" acc.toArray 0), toks := tk }) (n := 0) hob (each_of rv) ?_ (fun d hd1 d' hd2 => o3 d hd1 d' hd2) (.inl fun d hd1 => isTupNE_iff (o4 d hd1)) (by rw [hpl]; exact hz) (fun p hp => ?_) fun out hlen ho => ?_
  · have er := each_reads I1 (fun p hp => (hd p hp).1) rv
    have er2 := PySem.W.each_mem er
    refine er2.mono fun v b ⟨⟨as, ra⟩, hb⟩ => ⟨as, PyProof.Rows.Reads.keeps (fun c o e => Heap.get?_push_of_some _ e) ra, ?_⟩
    rw [reads_flat (o1 _ (List.mem_map.mpr ⟨b, hb, rfl⟩)) ra]
    exact List.not_mem_nil
  · have q1 := (hd p hp).2
    have q2 := hr.un
    show X.A.units + 1 + 1 + p.2.depth < cLine
    omega
  · obtain ⟨e', he'⟩ := PyProof.Rows.sortedHeap_at (vs := acc) (out := out.toArray) hob
    refine ⟨.ref h'.objs.size, upd H h'.objs.size (.lst ((ps.mergeSort (PySem.W.dataLe false Prod.snd)).map Prod.fst)), I1.laid (t' := tk) (fun b u e => ?_) (Nat.le_refl _) ⟨?_, out, e', vals_of ho, he'⟩, rfl, q _ (I1.hok.fresh (Nat.le_refl _))⟩
    · have hb : b < h'.objs.size := Heap.lt_size e
      rw [PyProof.Rows.sortedHeap_old (Nat.ne_of_lt hb) (by rw [size_push']; exact Nat.lt_succ_of_lt hb)]
      exact Heap.get?_push_of_some _ e
    · rw [List.length_map, List.length_mergeSort, hpl]
      exact hz
def fSortedD : List D → Option D
  | [.dict ps] => if sortKOk (ps.map (·.1)) = true then some (.list ((ps.map (·.1)).mergeSort (PySem.W.dataLe false id))) else none
  | _ => none
theorem DenK.refs [Wd] {B : Hp} : ∀ {xs : List NE} {ps : List (D × D)}, DenK B xs ps → DenA B (xs.map fun x => V.ref x.2.1) (ps.map (·.1))
  | _, _, .nil => .nil
  | _, _, .cons _ _ hk _ _ t => .cons hk t.refs
theorem calO_sortedD [Wd] {K : PySem.W.Frag} : CalO (rSrtD K) fSortedD := fun ds d e B H vs Q s ha q => by
  unfold fSortedD at e
  split at e
  · rename_i ps
    split at e
    · rename_i hok
      cases e
      obtain ⟨v, rfl, hv⟩ := ha.one
      cases hv with
      | @dct a xs ep _ h1 h2 h3 =>
        have h4 := h3.refs
        obtain ⟨z1, z2⟩ := zip_fst h4.length
        have hz := h4.zip
        refine ⟨a, xs, ep, (xs.map fun x => V.ref x.2.1).zip (ps.map (·.1)), rfl, s _ _ h1, h2, z1, fun p hp => ?_, by rw [z2]; exact hok, fun l hl => ?_⟩
        · have hm : p.2 ∈ ps.map (·.1) := (List.of_mem_zip (a := p.1) (b := p.2) hp).2
          simp only [sortKOk, Bool.and_eq_true, List.all_eq_true] at hok
          exact ⟨(hz p hp).dp s (.inl (hok.1.1.2 _ hm)), SeqAt.depth_of_shaped (hok.1.1.2 _ hm)⟩
        · refine q _ _ _ _ (.lay s hl) hl (s.free hl) upd_same ?_
          have hm : (((xs.map fun x => V.ref x.2.1).zip (ps.map (·.1))).mergeSort (PySem.W.dataLe false Prod.snd)).map Prod.snd = (ps.map (·.1)).mergeSort (PySem.W.dataLe false id) := by
            rw [PySem.W.sort_maps (r := PySem.W.dataLe false Prod.snd) (s := PySem.W.dataLe false id) Prod.snd (fun a _ b _ => rfl), z2]
          rw [← hm]
          refine .lst ?_ (DenA.of fun p hp => hz p (List.mem_mergeSort.mp hp))
          rw [List.length_map, List.length_mergeSort, List.length_zip, List.length_map]
          omega
    · cases e
  · cases e
theorem b_sortedD [Wd] {F : Fam} {e : Expr} {es : List Expr} {pos p : Pos} {ms : En → Option (List D)} (hg : GI' F "sorted") (T : Tx F.mg) (ha : PAd F.X (e :: es) ms) (he : St1 F e es := by intro _; rfl) (hpl : Pl1 F es pos := by intro _; rfl) : PEo F.X (.Call (.Name "sorted" p) (e :: es) [] pos) (mF fSortedD ms) :=
  peo_callB (fun i => rcAll_c (r := rSrtD) (cr_srtD (F.rm i))) (rcAll_o fun _ => calO_sortedD) (gl_of hg) (mg_of' T.sorted) (by decide +kernel) ha (he := he) (hpl := hpl)
/-! what is walked -/
def iK (m : En → Option D) : En → Option (List D) := fun ρ => (m ρ).bind fun d => match d with
  | .dict ps => some (ps.map (·.1))
  | _ => none
def iI (m : En → Option D) : En → Option (List D) := fun ρ => (m ρ).bind fun d => match d with
  | .dict ps => some (ps.map pairD)
  | _ => none
theorem pid_nk [Wd] {F : Fam} {tg e : Expr} {m : En → Option D} (h : PEd F.X e m) : PId F tg e (iK m) := by
  obtain ⟨t, h1, h2⟩ := h.ex
  refine ⟨iNK t, fun i => pi_nk (h1 i), fun ρ xs ex H0 B σ H R rp q => ?_⟩
  obtain ⟨d, ed, ex⟩ := bind_some' ex
  refine h2 ρ d ed H0 B σ H _ rp fun v B1 H1 v1 d1 => ?_
  split at ex
  · cases ex
    cases d1 with
    | dct hB hz hd => exact ⟨_, _, _, rfl, v1.s _ _ hB, q _ B1 H1 v1 (walkD_nk hB hz hd)⟩
  · cases ex
theorem pid_ni [Wd] {F : Fam} {elts : List Expr} {kk : Nat} {tpos apos cpos : Pos} {o : Expr} {m : En → Option D} (h : PEd F.X o m) (hbase : ∀ i, attributeBase o "items" (F.X i).env (eval o (F.X i).env) = eval o (F.X i).env := by intro _; rfl) (hline : (apos.endLine == cpos.line) = true := by rfl) :
    PId F (.Tuple elts kk tpos) (.Call (.Attribute o "items" apos) [] [] cpos) (iI m) := by
  obtain ⟨t, h1, h2⟩ := h.ex
  refine ⟨iNI t, fun i => pi_ni (h1 i) (hbase i) hline, fun ρ xs ex H0 B σ H R rp q => ?_⟩
  obtain ⟨d, ed, ex⟩ := bind_some' ex
  refine h2 ρ d ed H0 B σ H _ rp fun v B1 H1 v1 d1 => ?_
  split at ex
  · cases ex
    cases d1 with
    | dct hB hz hd =>
      obtain ⟨vs, l, q1, q2⟩ := hd.vals
      exact ⟨_, _, _, vs, rfl, v1.s _ _ hB, q1, q _ B1 H1 v1 (walkD_ni hB hz hd q2)⟩
  · cases ex

/-! ### sorted(set(xs)), xs pairs that stand in order already -/
def ipair : D → Option (Int × Int)
  | .tuple [.int x, .int y] => if 0 ≤ x ∧ x < 64 ∧ 0 ≤ y ∧ y < 64 then some (x, y) else none
  | _ => none
def ipairs : List D → Option (List (Int × Int))
  | [] => some []
  | d :: ds => (ipair d).bind fun p => (ipairs ds).map (p :: ·)
def rising : List (Int × Int) → Bool
  | [] => true
  | p :: ps => ps.all (fun q => decide (p.1 * 64 + p.2 < q.1 * 64 + q.2)) && rising ps
def dSortedSet : D → Option D
  | .list ds => (ipairs ds).bind fun ps => if rising ps = true ∧ ps.length < 64 then some (.list ds) else none
  | _ => none
theorem ipairs_data : ∀ {ds : List D} {ps : List (Int × Int)}, ipairs ds = some ps → ds = ps.map (fun p => .tuple [.int p.1, .int p.2]) ∧ ∀ p ∈ ps, 0 ≤ p.1 ∧ p.1 < 64 ∧ 0 ≤ p.2 ∧ p.2 < 64
  | [], ps, e => by cases e; exact ⟨rfl, fun p h => (by cases h)⟩
  | d :: ds, ps, e => by
    obtain ⟨p, e1, e2⟩ := bind_some' (show (ipair d).bind _ = some ps from e)
    obtain ⟨ps', e3, rfl⟩ := Option.map_eq_some_iff.mp e2
    obtain ⟨h1, h2⟩ := ipairs_data e3
    unfold ipair at e1
    split at e1
    · split at e1
      · rename_i hb
        cases e1
        exact ⟨by rw [h1]; rfl, fun q hq => (List.mem_cons.mp hq).elim (fun z => by rw [z]; exact hb) (h2 q)⟩
      · cases e1
    · cases e1
theorem rising_pw : ∀ {ps : List (Int × Int)}, rising ps = true → ps.Pairwise fun p q => p.1 * 64 + p.2 < q.1 * 64 + q.2
  | [], _ => .nil
  | p :: ps, h => by
    simp only [rising, Bool.and_eq_true, List.all_eq_true, decide_eq_true_eq] at h
    exact .cons h.1 (rising_pw h.2)
theorem DenA.addrs [Wd] {B : Hp} : ∀ {vs : List V} {ps : List (Int × Int)}, DenA B vs (ps.map fun p => PyData.tuple [.int p.1, .int p.2]) →
    ∃ ks : List (Addr × List Int), vs = ks.map (fun k => V.ref k.1) ∧ ks.map (·.2) = ps.map (fun p => [p.1, p.2]) ∧ ∀ k ∈ ks, B k.1 = some (.tup (k.2.map V.int))
  | _, [], h => by cases h; exact ⟨[], rfl, rfl, fun k h => (by cases h)⟩
  | _, p :: ps, h => by
    cases h with
    | cons h t =>
      obtain ⟨ks, h1, h2, h3⟩ := t.addrs
      cases h with
      | @tup a xs _ hB hz hd =>
        obtain ⟨x, y, rfl, hx, hy⟩ := hd.two
        refine ⟨(a, [p.1, p.2]) :: ks, by rw [h1]; rfl, by simp [h2], fun k hk => ?_⟩
        rcases List.mem_cons.mp hk with rfl | hk
        · rw [hB, hx.int_inv, hy.int_inv]
          rfl
        · exact h3 k hk
theorem same_by_code : ∀ {l m : List (Int × Int)}, (∀ p ∈ l, 0 ≤ p.2 ∧ p.2 < 64) → (∀ p ∈ m, 0 ≤ p.2 ∧ p.2 < 64) → l.map (fun p => p.1 * 64 + p.2) = m.map (fun p => p.1 * 64 + p.2) → l = m
  | [], [], _, _, _ => rfl
  | [], _ :: _, _, _, e => by cases e
  | _ :: _, [], _, _, e => by cases e
  | p :: l, q :: m, h1, h2, e => by
    rw [List.map_cons, List.map_cons] at e
    injection e with e1 e2
    have a := h1 p List.mem_cons_self
    have b := h2 q List.mem_cons_self
    have : p = q := by
      obtain ⟨x, y⟩ := p
      obtain ⟨x', y'⟩ := q
      simp only at e1 a b
      have : x = x' := by omega
      have : y = y' := by omega
      subst_vars
      rfl
    rw [this, same_by_code (fun r hr => h1 r (List.mem_cons_of_mem _ hr)) (fun r hr => h2 r (List.mem_cons_of_mem _ hr)) e2]
end Dl

end
section
set_option Elab.async false
set_option linter.all false
set_option maxRecDepth 100000
set_option maxHeartbeats 2000000
set_option autoImplicit false
namespace Dl
open PySem PySem.Spec PyProof.Rows L2

theorem peo_sortedSet [Wd] {F : Fam} {a : Expr} {p p2 pos pos2 : Pos} {m : En → Option D} (hg : GI' F "sorted") (hg2 : GI' F "set") (T : Tx F.mg) (ha : PEd F.X a m) (hs : St1 F a [] := by intro _; rfl)
    (hs2 : St1 F (.Call (.Name "set" p2) [a] [] pos2) [] := by intro _; rfl) : PEo F.X (.Call (.Name "sorted" p) [.Call (.Name "set" p2) [a] [] pos2] [] pos) (mU dSortedSet m) := by
  obtain ⟨t, h1, h2⟩ := ha.ex
  have hX : ∀ i, (F.X i).prog = F.P ∧ (F.X i).w = F.w ∧ (F.X i).K = F.K := fun i => ⟨(F.hX i).1, (F.hX i).2.1, (F.hX i).2.2.1⟩
  refine ⟨tCB (rSortedT F.K F.P F.w) (tCons (tCB (rSetOfT F.K F.P F.w) (tCons t tNil)) tNil), fun i => ?_, fun ρ d e H0 B σ H Q rp q => ?_⟩
  · obtain ⟨e1, e2, e3⟩ := hX i
    have hu := (F.rm i).un
    have c1 : CallR (F.X i) (.builtin "sorted") (rSortedT F.K F.P F.w) := by
      rw [← e1, ← e2, ← e3]
      exact cr_sortedT (F.calm i)
    have c2 : CallR (F.X i) (.type "set") (rSetOfT F.K F.P F.w) := by
      rw [← e1, ← e2, ← e3]
      exact cr_setOfT (F.calm i) (by omega)
    exact pe_callB c1 (gl_of hg i) (mg_of' T.sorted i) (by decide +kernel) (pa_cons (pe_callTy c2 (gl_of hg2 i) (mg_of' T.set i) (by decide +kernel) (pa_cons (h1 i) pa_nil (hs i)) (he := hs i)) pa_nil (hs2 i)) (he := hs2 i)
  · obtain ⟨x, ex, e⟩ := bind_some' e
    unfold dSortedSet at e
    split at e
    · rename_i ds
      obtain ⟨ps, eps, e⟩ := bind_some' e
      split at e
      · rename_i hok
        cases e
        refine h2 ρ _ ex H0 B σ H _ rp fun v B1 H1 v1 d1 => ?_
        obtain ⟨eds, hbd⟩ := ipairs_data eps
        cases d1 with
        | @lst l vs _ hB hz hd =>
          rw [eds] at hd
          obtain ⟨ks, k1, k2, k3⟩ := hd.addrs
          have kl : ks.length = ps.length := by
            have := congrArg List.length k2
            simpa using this
          have sk : ∀ k ∈ ks, ∃ q ∈ ps, k.2 = [q.1, q.2] := fun k hk => by
            have : k.2 ∈ ks.map (·.2) := List.mem_map.mpr ⟨k, hk, rfl⟩
            rw [k2] at this
            obtain ⟨q, hq, e⟩ := List.mem_map.mp this
            exact ⟨q, hq, e.symm⟩
          refine ⟨l, ks, rfl, .of (by rw [← k1]; exact v1.s _ _ hB), fun k hk => .of (v1.s _ _ (k3 k hk)), by rw [kl]; exact hok.2, fun a L hA hsub hcov => ?_⟩
          have v2 := Adv.lay (o := SetTO F.P F.w a L) v1.s hA
          refine ⟨a, L, 2, 64, rfl, upd_same, fun k hk => .of (v2.s _ _ (k3 k (hsub k hk))), by decide, fun k hk => ?_, fun L' p pm nd hlt pw hp => ?_⟩
          · obtain ⟨q, hq, e⟩ := sk k (hsub k hk)
            obtain ⟨b1, b2, b3, b4⟩ := hbd q hq
            rw [e]
            refine ⟨rfl, fun z hz => ?_⟩
            rcases List.mem_cons.mp hz with rfl | hz
            · exact ⟨b1, b2⟩
            · rw [List.mem_singleton.mp hz]
              exact ⟨b3, b4⟩
          · have v3 := Adv.lay (o := .lst (L'.map fun q => V.ref q.1)) v2.s hp
            have hsub' : ∀ k ∈ L', k ∈ ks := fun k hk => hsub k (pm.mem_iff.mp hk)
            have hrise := rising_pw hok.1
            have ndp : (ps.map fun p => [p.1, p.2]).Nodup := by
              refine List.Pairwise.map _ (fun p q h e => ?_) hrise
              injection e with e1 e2
              injection e2 with e2 _
              omega
            have pm2 : (L'.map (·.2)).Perm (ps.map fun p => [p.1, p.2]) := by
              refine (List.perm_ext_iff_of_nodup nd ndp).mpr fun z => ⟨fun hz => ?_, fun hz => ?_⟩
              · obtain ⟨k, hk, rfl⟩ := List.mem_map.mp hz
                rw [← k2]
                exact List.mem_map.mpr ⟨k, hsub' k hk, rfl⟩
              · rw [← k2] at hz
                obtain ⟨k, hk, rfl⟩ := List.mem_map.mp hz
                exact (pm.map (·.2)).mem_iff.mpr (hcov k hk)
            have pm3 : ((L'.map (·.2)).map (TS.code 64)).Perm (ps.map fun p => p.1 * 64 + p.2) := by
              have := pm2.map (TS.code 64)
              have e : (ps.map fun p => [p.1, p.2]).map (TS.code 64) = ps.map fun p => p.1 * 64 + p.2 := by
                rw [List.map_map]
                exact List.map_congr_left fun p _ => code_pair p.1 p.2
              rw [e] at this
              exact this
            have eqc := PySem.W.ksm_same pm3 (by
              rw [List.map_map]
              exact List.Pairwise.map _ (fun a b h => h) pw) (List.Pairwise.map _ (fun a b h => Int.le_of_lt h) hrise)
            -- the same rows
            have eqr : L'.map (·.2) = ps.map fun p => [p.1, p.2] := by
              have hL : ∀ k ∈ L', ∃ q ∈ ps, k.2 = [q.1, q.2] := fun k hk => sk k (hsub' k hk)
              let g : Addr × List Int → Int × Int := fun k => (k.2.getD 0 0, k.2.getD 1 0)
              have e1 : L'.map (·.2) = (L'.map g).map fun p => [p.1, p.2] := by
                rw [List.map_map]
                refine List.map_congr_left fun k hk => ?_
                obtain ⟨q, _, e⟩ := hL k hk
                show k.2 = [k.2.getD 0 0, k.2.getD 1 0]
                rw [e]
                rfl
              have e2 : L'.map g = ps := by
                refine same_by_code (fun z hz => ?_) (fun z hz => ⟨(hbd z hz).2.2.1, (hbd z hz).2.2.2⟩) ?_
                · obtain ⟨k, hk, rfl⟩ := List.mem_map.mp hz
                  obtain ⟨q, hq, e⟩ := hL k hk
                  have := hbd q hq
                  show 0 ≤ k.2.getD 1 0 ∧ k.2.getD 1 0 < 64
                  rw [e]
                  exact ⟨this.2.2.1, this.2.2.2⟩
                · rw [← eqc, e1, List.map_map (l := L'.map g)]
                  refine List.map_congr_left fun z hz => ?_
                  exact (code_pair _ _).symm
              rw [e1, e2]
            have den : ∀ {M : List (Addr × List Int)} {qs : List (Int × Int)}, (∀ k ∈ M, B1 k.1 = some (.tup (k.2.map V.int))) → M.map (·.2) = qs.map (fun p => [p.1, p.2]) → DenA B1 (M.map fun k => V.ref k.1) (qs.map fun p => PyData.tuple [.int p.1, .int p.2]) := by
              intro M
              induction M with
              | nil => intro qs _ e; cases qs with
                | nil => exact .nil
                | cons => cases e
              | cons k M ih => intro qs hM e; cases qs with
                | nil => cases e
                | cons q qs =>
                  rw [List.map_cons, List.map_cons] at e
                  injection e with e1 e2
                  have := hM k List.mem_cons_self
                  rw [e1] at this
                  exact .cons (.tup this (by show 2 ≤ sizeLine; decide) (.cons (.int _) (.cons (.int _) .nil))) (ih (fun c hc => hM c (List.mem_cons_of_mem _ hc)) e2)
            have dd := den (M := L') (qs := ps) (fun k hk => k3 k (hsub' k hk)) eqr
            rw [← eds] at dd
            have hH1p : H1 p = none := v2.h.free hp
            refine q p _ B1 _ ((v1.trans v2).trans v3) (v1.h.free hH1p) (v1.s.free hH1p) upd_same (.lst ?_ dd)
            rw [List.length_map]
            exact Nat.le_trans (Nat.le_of_lt hlt) (by decide)
      · cases e
    · cases e
end Dl

end
section
set_option Elab.async false
set_option linter.all false
set_option maxRecDepth 100000
set_option maxHeartbeats 2000000
set_option autoImplicit false
namespace Dl
open PySem PySem.Spec PyProof.Rows L2

/-! ### {k: v for target in iter} -/
theorem nd_dictSet [Wd] {X : Cx} {pins : List (Addr × Obj)} {σ : L2.St} {H : Hp} {s : Shared} {E : Value → Shared → Prop} {a : Addr} {xs : List NE} {ep : Nat} {y : V} {k : NestedKey} {u r : Value} {Q : Unit → Shared → Prop} (hW : X.w = Wd.w) (hu : X.A.units + 20 < cLine) (I : Inv X pins σ H s) (g : NAt H a xs ep y k) (hz : xs.length ≤ sizeLine) (ry : RelV y u)
    (h : ∀ b ep' s', y = .ref b → Inv X pins σ (upd H a (NDO a (storedH xs k b r) ep')) s' → Q () s') : wpAny (model X.prog X.w) X.A (dictSet a u r) Q E s := by
  obtain ⟨b, rfl, rfl, h1, h2, h3⟩ := g.heap hW I ry
  refine wpAny_dictSet_heap (hsz := hz) (by show X.A.units + 8 < cLine; omega) h3 h2 fun h' dd' hs => ?_
  obtain ⟨ep', ok⟩ := nd_ok (H := H) hW h1 dd'
  obtain ⟨o, es, ep2, ho, _⟩ := dd'
  have ok2 : ObjOk X.prog X.w (upd H a (NDO a (storedH xs k b r) ep')) h' a (NDO a (storedH xs k b r) ep') := ok
  exact h b ep' _ rfl (I.write (x := a) (e := a) (by rw [g.ob]; exact True.intro) (.inl rfl) (fun b q hb z => (hs.2 b hb).trans z) ⟨o, ho⟩ ok2)
theorem nd_empty [Wd] {P : Program} {w : World} {H : Hp} (h : Heap) (hb : sysModules < h.objs.size) : ObjOk P w H (h.push { cls := .type "dict", data := .dict #[] }) h.objs.size (NDO h.objs.size [] 0) :=
  ⟨⟨beq_eq_false_iff_ne.mpr (Ne.symm (Nat.ne_of_lt hb)), List.nodup_nil, _, #[], Heap.get?_push_size _ rfl, ⟨rfl, rfl, rfl⟩, rfl, rfl⟩, ⟨_, Heap.get?_push_size _ rfl⟩, fun h1 h2 ⟨q1, q2, o', es', q3, q4⟩ k => ⟨q1, q2, o', es', k o' q3, q4⟩⟩
/-- N: the new dict; W: what holds ahead of each turn -/
def tNDc [Wd] (wi : TI) (g : TG) (tk tv : TE) (vs : List Nat) : TE := fun σ H Q => wi σ H fun J H1 => ∀ N, H1 N = none → ∃ W : Nat → Nat → Hp → Prop, (∃ m, W 0 m (upd H1 N (NDO N [] 0))) ∧ ∀ i m H, W i m H →
  (J.stop i H ∧ Q (.ref N) H) ∨ (J.go i H ∧ ∃ Nx : Hp → Prop, (∀ H', Nx H' → ∃ m', m' < m ∧ W (i + 1) m' H') ∧ ∀ x H', J.yld i H x H' → g x (wipe σ vs) H' fun σ2 H2 => wipe σ2 vs = wipe σ vs ∧
    tk σ2 H2 fun y H4 => tv σ2 H4 fun z H5 => ∃ xs ep k, NAt H5 N xs ep y k ∧ xs.length ≤ sizeLine ∧ ∀ b r ep', y = .ref b → RelV z r → Nx (upd H5 N (NDO N (storedH xs k b r) ep')))
section
variable {X : Cx}
theorem pe_ndc [Wd] {kx vx tg iter : Expr} {scope : Scope} {own : List (Str × Nat)} {pos : Pos} {wi : TI} {g : TG} {tk tv : TE} (hW : X.w = Wd.w) (hu : X.A.units + 20 < cLine) (hc : X.calm = true) (hN : X.N.Nodup) (hi : PI X tg iter wi) (ok : BlkOk X.N X.env.scope scope own)
    (hg : ∀ (s : Shared) (H : Hp) (C : Addr) (cl : List (Str × Addr)) (fp : List Addr), PG (X.blk s H scope (compEnvC scope cl C X.env) fp) tg g)
    (hk : ∀ (s : Shared) (H : Hp) (C : Addr) (cl : List (Str × Addr)) (fp : List Addr), PE (X.blk s H scope (compEnvC scope cl C X.env) fp) kx tk)
    (he : ∀ (s : Shared) (H : Hp) (C : Addr) (cl : List (Str × Addr)) (fp : List Addr), PE (X.blk s H scope (compEnvC scope cl C X.env) fp) vx tv) (hs : ∀ x, foldedSetIterable iter X.env x = pure x := by intro _; rfl) :
    PE X (.DictComp kx vx [⟨tg, iter, [], 0⟩] scope pos) (tNDc wi g tk tv (own.map (·.2))) := by
  refine ⟨fun pins s σ H Q I h => ?_⟩
  rw [arm_eval_DictComp]
  have hfree : ∀ y ∈ scope.names, y.2 = .free → ∃ c, X.env.cells.lookup y.1 = some c := fun y hy e => (ok.free y hy e).elim (fun k => I.ok.has _ (.inl k)) fun k => I.ok.has _ (.inr k)
  refine wpAny_comprehension_free rfl hs (closure_ok hfree) ok.kind (fun y hy e => by rw [ok.uniq y hy, e]) (thn (hi.run pins s σ H _ I h) fun xv s1 hx => thn hx fun itv s2 h2 => ?_)
  obtain ⟨it, fp, tn, J, H2, rfl, I2, T, st2, f2, q⟩ := h2
  refine wpAny_newObj_type (newEnv_comp ?_)
  -- the new dict stands
  generalize eN : s2.heap.objs.size = N
  have hNn : H2 N = none := I2.hok.fresh (Nat.le_of_eq eN)
  obtain ⟨W, ⟨m0, w0⟩, turn⟩ := q N hNn
  generalize es3 : ({ s2 with heap := s2.heap.push { cls := .type "dict", data := .dict #[] } } : Shared) = s3
  have h3 : s3.heap = s2.heap.push { cls := .type "dict", data := .dict #[] } := by rw [← es3]
  have I3 : Inv X pins σ (upd H2 N (NDO N [] 0)) s3 := by
    rw [← es3, ← eN]
    exact I2.laid (t' := s2.toks) (fun b o e => Heap.get?_push_of_some _ e) (Nat.le_refl _) (nd_empty s2.heap I2.big)
  have f3 : ∀ b ∈ fp, FpOk X pins (upd H2 N (NDO N [] 0)) b ∧ b < s3.heap.objs.size := fun b hb => by
    obtain ⟨o, e, _⟩ := T.obj _ _ st2 b hb
    have hlt := Heap.lt_size e
    refine ⟨⟨?_, (f2 b hb).2⟩, by rw [h3, Heap.size_push]; exact Nat.lt_succ_of_lt hlt⟩
    rw [upd_ne (by rw [← eN]; exact Nat.ne_of_lt hlt)]
    exact (f2 b hb).1
  have st3 : tn 0 s3.heap := T.keep _ _ _ st2 fun b _ o e => by rw [h3]; exact Heap.get?_push_of_some _ e
  have I4 := block_start I3 ok hN f3
  generalize eH3 : upd H2 N (NDO N [] 0) = H3 at I3 I4 w0 f3
  let cl := cellsFrom (s3.heap.objs.size + 1) scope.names (cloFrom X.env.cells scope.names [])
  have pg := hg s3 H3 s3.heap.objs.size cl fp
  have pk := hk s3 H3 s3.heap.objs.size cl fp
  have pe := he s3 H3 s3.heap.objs.size cl fp
  let post := compPost (model X.prog X.w) X.A X.xe none (EP X pins σ Q) (.ref N) s3.heap.objs.size
  let tree : Expr := .DictComp kx vx [⟨tg, iter, [], 0⟩] scope pos
  show codeAny _ _ (.compStart tree 0 (.ref it) (.ref N) (compEnvC scope cl s3.heap.objs.size X.env)) post { s3 with heap := pushCells (s3.heap.push { cls := .type "dict", data := .dict #[] }) scope.names }
  have nfp : ∀ b ∈ fp, H3 b = none := fun b hb => (f3 b hb).1.1
  generalize ece : compEnvC scope cl s3.heap.objs.size X.env = ce at I4 pg pk pe ⊢
  have cL : ce.locals = s3.heap.objs.size := by subst ece; rfl
  generalize es4 : ({ s3 with heap := pushCells (s3.heap.push { cls := .type "dict", data := .dict #[] }) scope.names } : Shared) = s4 at I4 ⊢
  have st4 : tn 0 s4.heap := T.keep _ _ _ st3 fun b _ o e => by rw [← es4]; exact pushCells_keeps _ _ _ _ (Heap.get?_push_of_some _ e)
  let Y : Cx := X.blk s3 H3 scope ce fp
  have stat : ∀ {σ' : L2.St} {H' : Hp} {s' : Shared}, Inv Y [] σ' H' s' → (∀ b ∈ fp, H' b = none) → ∀ b ∈ fp, FpOk Y [] H' b := fun {σ' H' s'} I' hn b hb => ⟨hn b hb, (I'.ok.exf b hb).1, I'.ok.exfs b hb, .inl hb, fun x c e => (I'.ok.exf b hb).2 x c e, fun p hp => absurd (show p ∈ ([] : List (Addr × Obj)) ++ [] from hp) (by simp)⟩
  have loop : codeAny (model X.prog X.w) X.A (.compLoop tree 0 (.ref it) (.ref N) ce) post s4 := by
    refine compLoop_anyD (fun n s' => ∃ i H', Inv Y [] (wipe σ (own.map (·.2))) H' s' ∧ tn i s'.heap ∧ (∀ b ∈ fp, H' b = none) ∧ W i n H') ?_ m0 ⟨0, H3, I4, st4, nfp, w0⟩
    rintro n s5 ⟨i, H5, I5, st5, n5, w5⟩
    rcases turn i n H5 w5 with ⟨stop, qq⟩ | ⟨go, Nx, hNx, step⟩
    · refine thnF (T.done Y rfl rfl rfl hc i [] s5 _ H5 (fun _ _ => False) I5 (stat I5 n5) st5 stop) fun r s6 ⟨hr, I6⟩ => ?_
      subst hr
      have I7 : Inv X pins σ H5 s6 := I3.call' (ch := fp) I6.os I6.base I6.hok I6.bare fun b hb => ⟨(f3 b hb).1.2.2.2.1, (f3 b hb).1.2.1, (f3 b hb).1.2.2.2.2.1, (f3 b hb).1.2.2.2.2.2⟩
      have nC : H5 s3.heap.objs.size = none := cL ▸ (show H5 ce.locals = none from I6.free)
      obtain ⟨m, hn, _⟩ := I6.loc
      have hn2 : s6.heap.Ns s3.heap.objs.size m := cL ▸ (show s6.heap.Ns ce.locals m from hn)
      refine ⟨m, hn2, fun h'' sb => ?_⟩
      obtain ⟨f0, f1, f2, f3', f4, f5⟩ := I3.fpOk (H' := H5) (Nat.le_refl _) nC
      exact ⟨.ref N, H5, I7.turned (t' := s6.toks) (fun b o hb e => (sb.2 b hb).trans e) f0 f1 f3' f4 f5, rfl, qq⟩
    · refine thnF (T.item Y rfl rfl rfl hc i [] s5 _ H5 (fun _ _ => False) I5 (stat I5 n5) st5 go) fun r s6 ⟨u, hr, h6⟩ => ?_
      subst hr
      refine thnF h6 fun _ s7 ⟨x, H7, I7, r7, y7, st7, n7⟩ => ?_
      refine thnF (pg.run _ s7 _ H7 x u _ (I7.pinned (stat I7 n7) (T.obj _ _ st7)) r7 (step x H7 y7)) fun _ s8 ⟨σ8, H8, I8, hw8, q8⟩ => ?_
      refine wpAny_pure ?_
      rw [if_pos rfl]
      refine thnF (pk.run _ s8 σ8 H8 _ I8 q8) fun z s10 ⟨yk, H10, I10, r10, q10⟩ => ?_
      refine thnF (pe.run _ s10 σ8 H10 _ I10 q10) fun z2 s11 ⟨yv, H11, I11, r11, xs, ep, k, gk, hz, nx⟩ => ?_
      refine nd_dictSet (X := Y) hW hu I11 gk hz r10 fun b ep' s12 eb I12 => ?_
      obtain ⟨m', hm, w'⟩ := hNx _ (nx b z2 ep' eb r11)
      have pin' : ∀ c ∈ fp, ∀ o, s7.heap.get? c = some o → s12.heap.get? c = some o ∧ _ := fun c hc o e =>
        let zz := I12.pin (c, o) (List.mem_append_right _ (List.mem_append_right _ (mem_pinsAt hc e)))
        ⟨zz.1, zz.2.1⟩
      refine ⟨m', hm, i + 1, _, (I12.unpinned (pins := [])).weak (by rw [← hw8, wipe_length]) (fun j v e => ?_), T.keep _ _ _ st7 fun c hc o e => (pin' c hc o e).1, fun c hc => ?_, w'⟩
      · rw [← hw8] at e
        exact (wipe_some e).1
      · obtain ⟨o, e, _⟩ := T.obj _ _ st7 c hc
        exact (pin' c hc o e).2
  exact codeAny_compStart_dict loop (T.self X.A 0 _ _ _ st4 loop)
end
def dcGo (T : TgF) (fk fv : En → Option D) (ρ : En) : List D → List (D × D) → Option (List (D × D))
  | [], acc => some acc
  | x :: xs, acc => (T x ρ).bind fun ρ1 => (fk ρ1).bind fun y => (fv ρ1).bind fun d => (dKey y).bind fun k => dcGo T fk fv ρ xs (dPutP acc y k d)
def mDc (items : En → Option (List D)) (T : TgF) (fk fv : En → Option D) (vs : List Nat) : En → Option D := fun ρ => (items ρ).bind fun xs => if xs.length ≤ 1000000 then (dcGo T fk fv (wipeE ρ vs) xs []).map .dict else none
theorem dPutP_length (ps : List (D × D)) (kd : D) (k : NestedKey) (d : D) : (dPutP ps kd k d).length ≤ ps.length + 1 := by
  unfold dPutP
  split
  · rw [List.length_map]; omega
  · rw [List.length_append]; exact Nat.le_refl _
section
variable {F : Fam} {tg iter kx vx : Expr} {scope : Scope} {pos : Pos} {items : En → Option (List D)} {T : TgF} {is : List Nat} {fk fv : En → Option D} {own : List (Str × Nat)}
theorem peo_dc [Wd] (hW : FW F) (hi : PId F tg iter items) (ok : blkC F.N F.sc scope own = true) (hg : PGd (F.blk scope) tg T is) (his : (is.all fun i => (own.map (·.2)).contains i) = true) (hk : PEd (F.blk scope).X kx fk) (he : PEd (F.blk scope).X vx fv)
    (hs : ∀ i x, foldedSetIterable iter (F.X i).env x = pure x := by intro _ _; rfl) : PEo F.X (.DictComp kx vx [⟨tg, iter, [], 0⟩] scope pos) (mDc items T fk fv (own.map (·.2))) := by
  obtain ⟨wi, i1, i2⟩ := hi.ex
  obtain ⟨g, g1, g2⟩ := hg.ex
  obtain ⟨tk, k1, k2⟩ := hk.ex
  obtain ⟨te, e1, e2⟩ := he.ex
  have his' : ∀ i ∈ is, i ∈ own.map (·.2) := fun i h => by
    have := List.all_eq_true.mp his i h
    simpa using this
  refine ⟨tNDc wi g tk te (own.map (·.2)), fun i => pe_ndc (hW.at_ i) (F.un20 i) (F.calm i) (by rw [F.hN i]; exact F.nd) (i1 i) (by rw [F.hN i, F.hsc i]; exact blkOk_by ok) (fun s H C cl fp => g1 (i, s, H, C, cl, fp)) (fun s H C cl fp => k1 (i, s, H, C, cl, fp)) (fun s H C cl fp => e1 (i, s, H, C, cl, fp)) (hs i), fun ρ d e H0 B σ H Q rp k => ?_⟩
  obtain ⟨xs, ex, e⟩ := bind_some' e
  split at e
  · rename_i hbig
    obtain ⟨total, et, rfl⟩ := Option.map_eq_some_iff.mp e
    refine i2 ρ xs ex H0 B σ H _ rp fun J B1 H1 v1 wk => ?_
    intro N hN
    have rp1 := rp.adv v1
    refine ⟨fun i m Hc => m = xs.length - i ∧ i ≤ xs.length ∧ ∃ (Bc : Hp) (ys : List NE) (ep : Nat) (acc : List (D × D)), Adv B1 H1 Bc Hc ∧ Bc N = none ∧ Hc N = some (NDO N ys ep) ∧ DenK Bc ys acc ∧ acc.length ≤ i ∧ dcGo T fk fv (wipeE ρ (own.map (·.2))) (xs.drop i) acc = some total,
      ⟨xs.length, by omega, Nat.zero_le _, B1, [], 0, [], .lay v1.s hN, v1.s.free hN, upd_same, .nil, Nat.zero_le _, et⟩, ?_⟩
    rintro i m Hc ⟨rfl, hi, Bc, ys, ep, acc, va, hB, hH, hden, hlen, hgo⟩
    by_cases hlt : i < xs.length
    · refine .inr ⟨wk.go i Bc Hc hlt va.b va.s, fun H' => i + 1 ≤ xs.length ∧ ∃ (Bc : Hp) (ys : List NE) (ep : Nat) (acc : List (D × D)), Adv B1 H1 Bc H' ∧ Bc N = none ∧ H' N = some (NDO N ys ep) ∧ DenK Bc ys acc ∧ acc.length ≤ i + 1 ∧ dcGo T fk fv (wipeE ρ (own.map (·.2))) (xs.drop (i + 1)) acc = some total,
        fun H' p => ⟨xs.length - (i + 1), by omega, rfl, p⟩, fun x H2 y => ?_⟩
      obtain ⟨B2, d, v2, hd, hx⟩ := wk.yld i Bc Hc x H2 hlt va.b va.s y
      have hdrop : xs.drop i = d :: xs.drop (i + 1) := by
        rw [List.drop_eq_getElem_cons hlt]
        congr 1
        rw [List.getElem?_eq_getElem hlt] at hd
        exact Option.some.inj hd
      rw [hdrop] at hgo
      obtain ⟨ρ1, eT, hgo⟩ := bind_some' (show (T d (wipeE ρ (own.map (·.2)))).bind _ = some total from hgo)
      obtain ⟨yd, ey, hgo⟩ := bind_some' hgo
      obtain ⟨vd, ev, hgo⟩ := bind_some' hgo
      obtain ⟨kk, ek, hgo⟩ := bind_some' hgo
      have va2 := va.trans v2
      refine g2 d _ ρ1 eT H0 B2 (L2.wipe σ (own.map (·.2))) H2 x _ ((rp1.adv va2).wipe _) hx fun σ2 r2 l2 n2 => ?_
      refine ⟨wipe_eq (is := is) (by rw [l2, wipe_length]) n2 l2 his', ?_⟩
      refine k2 ρ1 yd ey H0 B2 σ2 H2 _ r2 fun vy B3 H3 v3 d3 => ?_
      refine e2 ρ1 vd ev H0 B3 σ2 H3 _ (r2.adv v3) fun vv B4 H4 v4 d4 => ?_
      have v24 := (v2.trans v3).trans v4
      have hB4 : B4 N = none := v24.n N hB (by rw [hH]; simp)
      have hH4 : H4 N = some (NDO N ys ep) := v24.h _ _ hH
      obtain ⟨b, rfl, dk, z⟩ := (d3.mono v4.b).keyRef ek
      have hden4 := hden.mono' v24.b
      have hl := hden.length
      refine ⟨ys, ep, kk, ⟨hH4, B4, _, b, v4.s, hden4, rfl, dk, z⟩, Nat.le_trans (by omega) (show 1000000 ≤ sizeLine by decide), fun b' r ep' eb rv => ?_⟩
      cases eb
      have e3 := (dKey_inv ek).1
      have hput := hden4.put (k := kk) e3 z (by rw [e3]; exact dk) rv d4
      have hpl := dPutP_length acc yd kk vd
      exact ⟨hlt, B4, _, ep', _, ((va2.trans v3).trans v4).write hN hB4, hB4, upd_same, hput, by omega, hgo⟩
    · have e : i = xs.length := by omega
      subst e
      rw [List.drop_length] at hgo
      cases hgo
      refine .inl ⟨wk.stop Bc Hc va.b va.s, ?_⟩
      have hl := hden.length
      exact k N _ Bc Hc (v1.trans va) (v1.h.free hN) hB hH (.dct (Nat.le_trans (by omega) (show 1000000 ≤ sizeLine by decide)) hden)
  · cases e
end
end Dl

end
section
set_option Elab.async false
set_option linter.all false
set_option maxRecDepth 100000
set_option maxHeartbeats 2000000
set_option autoImplicit false
namespace Dl
open PySem PySem.Spec PyProof.Rows L2

/-! ### d != e, both alike -/
theorem pairs_alike {prog : Program} {w : World} {A : Around} {E : Value → Shared → Prop} {s : Shared} {nm : String} {a b : Addr} {xs ys : List NE} {Q : Bool → Shared → Prop} (hu : A.units + 10 < cLine) (ha : (a == sysModules) = false) (hb : (b == sysModules) = false)
    (da : s.heap.DictOfH (nestedKind prog w) a xs) (db : s.heap.DictOfH (nestedKind prog w) b ys) (hl : xs.length = ys.length)
    (hh : ∀ (i : Nat) (x : NE), xs[i]? = some x → ∃ c u, ys[i]? = some (x.1, c, u) ∧ SeqAt.EqAt A s x.2.2 u true) (h : Q true s) : wpAny (model prog w) A (Builtin.Dict.samePairs nm a b) Q E s := by
  obtain ⟨oa, es, ep, hoa, _, hda, hea, hia, hna⟩ := da
  obtain ⟨ob, es', ep', hob, _, hdb, heb, hib, hnb⟩ := db
  have sa : es.size = xs.length := size_of_entries hea
  have sb : es'.size = ys.length := size_of_entries heb
  unfold Builtin.Dict.samePairs Builtin.Dict.showsAll
  rw [if_neg (by rw [ha]; exact Bool.false_ne_true), if_neg (by rw [hb]; exact Bool.false_ne_true)]
  refine wpAny_bind (wpAny_pure (wpAny_bind (wpAny_pure ?_)))
  refine wpAny_bind (wpAny_dictEntries hoa hda ?_)
  dsimp only
  refine wpAny_bind (wpAny_dictEntries hob hdb ?_)
  have hsz : es.size = es'.size := by rw [sa, sb, hl]
  rw [if_neg (by rw [hsz]; simp)]
  refine wpAny_bind (wpAny_dictEpoch hoa hda (wpAny_bind ?_))
  rw [Std.Legacy.Range.forIn_eq_forIn_range']
  simp only [Std.Legacy.Range.size, Nat.sub_zero, Nat.add_sub_cancel, Nat.div_one]
  refine wpAny_forIn_list _ (fun rest q s' => s' = s ∧ q = (none, ()) ∧ ∃ i, rest = List.range' i (es.size - i) ∧ i ≤ es.size) _ ?_ ?_ _ _ ⟨rfl, rfl, 0, by simp, Nat.zero_le _⟩
  · rintro x rest q s' ⟨rfl, rfl, i, hr, hi⟩
    have hlt : i < es.size := by
      rcases Nat.lt_or_ge i es.size with z | z
      · exact z
      · rw [Nat.sub_eq_zero_of_le z] at hr
        cases hr
    have e1 : es.size - i = (es.size - (i + 1)) + 1 := by omega
    rw [e1, List.range'_succ] at hr
    injection hr with hx hrest
    subst hx
    have hltx : x < xs.length := by rw [← sa]; exact hlt
    have hx : xs[x]? = some xs[x] := List.getElem?_eq_getElem hltx
    obtain ⟨c, u, hy, heq⟩ := hh x _ hx
    have hex : es[x] = entryOfKey (nestedKind prog w) xs[x] := by
      have := entry_at hea x
      rw [Array.getElem?_eq_getElem hlt, hx] at this
      exact Option.some.inj this
    have hlty : x < es'.size := by rw [← hsz]; exact hlt
    have hey : es'[x] = entryOfKey (nestedKind prog w) (xs[x].1, c, u) := by
      have := entry_at heb x
      rw [Array.getElem?_eq_getElem hlty, hy] at this
      exact Option.some.inj this
    refine wpAny_bind (wpAny_dictEntries hoa hda ?_)
    rw [Array.getElem?_eq_getElem hlt, hex]
    show wpAny _ _ (holding [Value.ref xs[x].2.1, xs[x].2.2] _ >>= _) _ _ _
    have hkx := hia xs[x] (List.getElem_mem hltx)
    refine wpAny_bind (wpAny_holding (wpAny_bind (wpAny_dictFind_heap (knd := nestedKind prog w) (by show A.units + 8 < cLine; omega) hkx hob hdb heb hib hnb (fun hn => absurd hy (hn x _)) fun j p hj => ?_)))
    have ej : j = x := idxH_unique hnb hj hy
    subst ej
    refine wpAny_bind (wpAny_dictEntries hob hdb ?_)
    rw [Array.getElem?_eq_getElem hlty, hey]
    show wpAny _ _ (holding [u] (eqBool xs[j].2.2 u)) _ _ _
    refine wpAny_holding (heq _ _ _ _ ?_)
    rw [if_neg (by decide)]
    refine wpAny_bind (wpAny_dictEpoch hoa hda ?_)
    rw [if_neg (by simp)]
    exact wpAny_pure ⟨rfl, rfl, j + 1, hrest, hlt⟩
  · rintro q s' ⟨rfl, rfl, i, hr, hi⟩
    exact wpAny_pure h
def rNeN [Wd] (K : PySem.W.Frag) : R2 := fun x y H Q => ∃ a b xs ys ep ep' B ps qs, x = .ref a ∧ y = .ref b ∧ H a = some (NDO a xs ep) ∧ H b = some (NDO b ys ep') ∧ Same B H ∧ DenK B xs ps ∧ DenK B ys qs ∧ xs.length = ys.length ∧
  (∀ (i : Nat) (x : NE), xs[i]? = some x → ∃ c u v v' d, ys[i]? = some (x.1, c, u) ∧ RelV v x.2.2 ∧ RelV v' u ∧ Dp K H v d ∧ Dp K H v' d ∧ SeqAt.shaped d = true ∧ PyData.eqv d d = true) ∧ Q (.bl false) H
theorem op_neN [Wd] {X : Cx} (hW : X.w = Wd.w) (hu : X.A.units + 100 < cLine) : OpR X (compareOp .NotEq) (rNeN X.K) := by
  intro pins s σ H x y v u Q I rx ry h
  obtain ⟨a, b, xs, ys, ep, ep', B, ps, qs, rfl, rfl, ea, eb, sB, hx, hy, hl, hh, q⟩ := h
  obtain rfl : v = Value.ref a := rx
  obtain rfl : u = Value.ref b := ry
  obtain ⟨a1, da⟩ := nd_at hW I sB ea hx
  obtain ⟨b1, db⟩ := nd_at hW I sB eb hy
  refine wpAny_richCompare_same_room (op := .NotEq) da.typeIs db.typeIs PySem.F.slot_dict_ne (wpAny_call_entry PySem.F.slot_dict_ne da.typeIs PySem.F.entry_dict_ne ?_ (PySem.F.args_dict_ne_2 _ _)) (by omega)
  show wpAny _ _ (Builtin.Dict.dictSlotArgs "__ne__" ⟨[.ref a, .ref b], []⟩ >>= _) _ _ s
  refine wpAny_bind ?_
  unfold Builtin.Dict.dictSlotArgs
  refine wpAny_bind (wpAny_notOrdered_dict da.typeIs ?_)
  show wpAny _ _ (pure (Value.ref a, Value.ref b)) _ _ s
  refine wpAny_pure (wpAny_bind (wpAny_isInstance (T := "dict") db.typeIs PySem.F.sub_dict_dict ?_))
  simp only [Bool.not_true, Bool.false_eq_true, if_false]
  refine wpAny_bind (wpAny_pure (wpAny_bind (wpAny_pure (wpAny_bind (pairs_alike (by show X.A.units + 1 + 10 < cLine; omega) a1 b1 da db hl (fun i z hz => ?_) ?_)))))
  · obtain ⟨c, u, v, v', d, h1, r1, r2, d1, d2, hs, he⟩ := hh i z hz
    refine ⟨c, u, h1, ?_⟩
    obtain ⟨as, ra⟩ := Dp.reads I _ _ _ d1 r1
    obtain ⟨bs, rb⟩ := Dp.reads I _ _ _ d2 r2
    have := PySem.W.keq_at (A := X.A) ra rb hs hs (by show X.A.units + 1 + 64 < cLine; omega)
    rw [he] at this
    exact this
  · exact wpAny_pure ⟨_, rfl, fun x => (nomatch x), ⟨.bl false, H, I, rfl, q⟩⟩
/-- the same keys in the same order, the same values -/
def alikeD : List (D × D) → List (D × D) → Bool
  | [], [] => true
  | p :: ps, q :: qs => decide (nk p.1 = nk q.1) && (match p.2, q.2 with
    | .int i, .int j => decide (i = j)
    | _, _ => false) && alikeD ps qs
  | _, _ => false
def dNeD : D → D → Option D
  | .dict ps, .dict qs => if alikeD ps qs = true then some (.bool false) else none
  | _, _ => none
theorem alikeD_at [Wd] {B : Hp} : ∀ {xs ys : List NE} {ps qs : List (D × D)}, DenK B xs ps → DenK B ys qs → alikeD ps qs = true → xs.length = ys.length ∧
    ∀ (i : Nat) (x : NE), xs[i]? = some x → ∃ c u v v' n, ys[i]? = some (x.1, c, u) ∧ RelV v x.2.2 ∧ RelV v' u ∧ Den B v (.int n) ∧ Den B v' (.int n)
  | _, _, _, _, .nil, .nil, _ => ⟨rfl, fun i x h => (by simp at h)⟩
  | _, _, _, _, .nil, .cons _ _ _ _ _ _, h => by cases h
  | _, _, _, _, .cons _ _ _ _ _ _, .nil, h => by cases h
  | _, _, _, _, .cons (k := k) e z hk r hd t, .cons (k := k') (b := b') (v := v') (u := u') e' z' hk' r' hd' t', h => by
    simp only [alikeD, Bool.and_eq_true, decide_eq_true_eq] at h
    obtain ⟨⟨h1, h2⟩, h3⟩ := h
    rw [e, e', nk_data, nk_data] at h1
    have ek : k = k' := Option.some.inj h1
    obtain ⟨l, hh⟩ := alikeD_at t t' h3
    split at h2
    · rename_i i j
      have eij : i = j := of_decide_eq_true h2
      subst eij
      refine ⟨congrArg (· + 1) l, fun m x hx => ?_⟩
      cases m with
      | zero =>
        simp at hx
        subst hx
        exact ⟨b', u', _, v', i, by rw [ek]; rfl, r, r', hd, hd'⟩
      | succ m =>
        obtain ⟨c, u, v, w, n, q1, q2⟩ := hh m x (by simpa using hx)
        exact ⟨c, u, v, w, n, by simpa using q1, q2⟩
    · cases h2
theorem opE_neD [Wd] {K : PySem.W.Frag} : OpE (rNeN K) dNeD := fun x y d e B H a b Q s ha hb q => by
  unfold dNeD at e
  split at e
  · split at e
    · rename_i hal
      cases e
      cases ha with
      | dct hB hz hd =>
        cases hb with
        | dct hB' hz' hd' =>
          obtain ⟨l, hh⟩ := alikeD_at hd hd' hal
          refine ⟨_, _, _, _, _, _, B, _, _, rfl, rfl, s _ _ hB, s _ _ hB', s, hd, hd', l, fun i x hx => ?_, q _ B H (.refl s) (.bl false)⟩
          obtain ⟨c, u, v, v', n, h1, r1, r2, d1, d2⟩ := hh i x hx
          exact ⟨c, u, v, v', .int n, h1, r1, r2, d1.dp s (.inl rfl), d2.dp s (.inl rfl), rfl, by simp [PyData.eqv]⟩
    · cases e
  · cases e
section
variable {F : Fam} {a b : Expr} {pos : Pos} {m m' : En → Option D}
theorem Fam.un100 (F : Fam) (i : F.ι) : (F.X i).A.units + 100 < cLine := by
  have := (F.rm i).un
  omega
theorem ped_neD [Wd] (hW : FW F) (ha : PEd F.X a m) (hb : PEd F.X b m') : PEd F.X (.Compare a [.NotEq] [b] pos) (mB dNeD m m') := ped_cmp (fun i => rAll_op (op_neN (hW.at_ i) (F.un100 i))) (rAll_e fun _ => opE_neD) ha hb (nomark _)
theorem ptd_neD [Wd] (hW : FW F) (ha : PEd F.X a m) (hb : PEd F.X b m') : PTd F.X (.Compare a [.NotEq] [b] pos) (qVal (mB dNeD m m')) := ptd_cmp (fun i => rAll_op (op_neN (hW.at_ i) (F.un100 i))) (rAll_e fun _ => opE_neD) ha hb (nomark _)
end
theorem opE_gt [Wd] : OpE (rI0 fun i j => .bl (decide (j < i))) dGt := opE_I0 fun _ i j => .bl _
theorem opE_ge [Wd] : OpE (rI0 fun i j => .bl (decide (j ≤ i))) dGe := opE_I0 fun _ i j => .bl _
end Dl

end
section
set_option Elab.async false
set_option linter.all false
set_option maxRecDepth 100000
set_option maxHeartbeats 2000000
set_option autoImplicit false
namespace Dl
open PySem PySem.Spec PyProof.Rows L2 GenW

/-! ### yield from a list -/
section
variable {prog : Program} {w : World} {A : Around} {E : Value → Shared → Prop} {s : Shared}
theorem lst_next {it l : Addr} {i : Nat} {items : Array Value} {x : Value} {Q : Option Value → Shared → Prop} (hit : s.heap.IsListIter it l i) (hl : s.heap.IsList l items) (hx : items[i]? = some x)
    (hQ : ∀ h', h'.IsListIter it l (i + 1) → Heap.SameBut it s.heap h' → Q (some x) { s with heap := h' }) : wpAny (model prog w) A (callSpecial? (.ref it) "__next__") Q E s := by
  obtain ⟨oi, hoi, ci, di⟩ := id hit
  obtain ⟨ol, hol, _, nl, dl⟩ := hl
  refine wpAny_callSpecial?_slot (name := Str.ofString "__next__") hit.typeIs slot_listiter_next (wpAny_call_entry slot_listiter_next hit.typeIs entry_listiter_next ?_ (args_listiter_next _))
  show wpAny _ _ (field (.ref it) 0 >>= _) _ _ s
  refine wpAny_bind (wpAny_field hoi di (x := .ref l) rfl ?_)
  show wpAny _ _ (if (Value.ref l == Value.none) = true then _ else _) _ _ s
  rw [if_neg (fun z => by cases z)]
  show wpAny _ _ (field (.ref it) 1 >>= _) _ _ s
  refine wpAny_bind (wpAny_field hoi di (x := .int i 0) rfl ?_)
  show wpAny _ _ (seqItems? (.ref l) >>= _) _ _ s
  refine wpAny_bind (wpAny_seqItems hol dl ?_)
  simp only [Int.toNat_natCast, hx]
  refine wpAny_bind (wpAny_setField hoi di (by simp) (wpAny_pure ⟨x, rfl, hQ _ ⟨_, Heap.get?_update_self _ hoi (Obj.isFreed_of_fields (Obj.data_mapFields di _)), (Obj.cls_mapFields ..).trans ci, ?_⟩ (Heap.SameBut.update ..)⟩))
  rw [Obj.data_mapFields di]
  simp [rawInt]
theorem lst_over {it l : Addr} {i : Nat} {items : Array Value} {Q : Option Value → Shared → Prop} (hh : A.handled = none) (hit : s.heap.IsListIter it l i) (hl : s.heap.IsList l items) (hx : items[i]? = none)
    (hE : ∀ e h', StopX e h' → Heap.ExtBut it s.heap h' → E e { s with heap := h' }) : wpAny (model prog w) A (callSpecial? (.ref it) "__next__") Q E s := by
  obtain ⟨oi, hoi, ci, di⟩ := id hit
  obtain ⟨ol, hol, _, nl, dl⟩ := hl
  refine wpAny_callSpecial?_slot (name := Str.ofString "__next__") hit.typeIs slot_listiter_next (wpAny_call_entry slot_listiter_next hit.typeIs entry_listiter_next ?_ (args_listiter_next _))
  show wpAny _ _ (field (.ref it) 0 >>= _) _ _ s
  refine wpAny_bind (wpAny_field hoi di (x := .ref l) rfl ?_)
  show wpAny _ _ (if (Value.ref l == Value.none) = true then _ else _) _ _ s
  rw [if_neg (fun z => by cases z)]
  show wpAny _ _ (field (.ref it) 1 >>= _) _ _ s
  refine wpAny_bind (wpAny_field hoi di (x := .int i 0) rfl ?_)
  show wpAny _ _ (seqItems? (.ref l) >>= _) _ _ s
  refine wpAny_bind (wpAny_seqItems hol dl ?_)
  simp only [Int.toNat_natCast, hx]
  refine wpAny_bind (wpAny_rule (wpAny_bind (wpAny_setField hoi di (by simp) ?_)))
  show wpAny _ _ (newExc (.type "StopIteration") [] >>= _) _ _ _
  refine wpAny_bind ?_
  simp only [newExc, newTuple]
  refine wpAny_bind (wpAny_newObj_type ?_ (by size_fits))
  refine wpAny_bind (m := firstArgMember _ _) (wpAny_of_eq (a := Value.none) (by first | rfl | (simp only [firstArgMember]; rfl)) (wpAny_newObj_type ?_ (by size_fits)))
  simp only [raiseNew]
  refine wpAny_bind (wpAny_handled ?_)
  first | rw [show A.in1.handled = none from hh] | rw [hh]
  refine wpAny_bind (wpAny_pure (wpAny_throw (hE _ _ ⟨_, _, _, rfl, Heap.get?_push_size _ rfl, rfl, rfl, ?_⟩ (((Heap.SameBut.update ..).extBut.push _).push _))))
  first
    | rfl
    | (rw [Array.getElem?_append_left (by decide)]; rfl)
    | kernel_rfl
end
def tYfLst (te : TE) : TYf := fun σ H Q => te σ H fun x H1 => ∃ a xs, x = .ref a ∧ H1 a = some (.lst xs) ∧ Q xs H1
theorem close_lst : typeLookup (.type "list_iterator") "close" = pure none := by rw [typeLookup_type, builtinLookup_eq_fast]; kernel_rfl
theorem yf_lst {X : Cx} {e : Expr} {te : TE} (he : PE X e te) : YfE X e (tYfLst te) := by
  refine ⟨fun pins s σ H Q I h => ?_⟩
  refine thn (he.run pins s σ H _ I h) fun v s1 ⟨x, H1, I1, r1, a, xs, ex, ha, hq⟩ => ?_
  subst ex
  obtain rfl : v = Value.ref a := r1
  obtain ⟨hlen, its, n, rits, ho⟩ := (show ObjOk X.prog X.w H1 s1.heap a (.lst xs) from I1.hok a _ ha)
  have hl : s1.heap.IsList a its.toArray := ⟨_, ho, rfl, n, rfl⟩
  have hal : a < s1.heap.objs.size := Heap.lt_size ho
  refine ⟨"list", ⟨_, ho, rfl⟩, by decide, wpAny_pyIter_list hl ?_⟩
  have older : ∀ b o, s1.heap.get? b = some o → b ≠ s1.heap.objs.size := fun b o e => Nat.ne_of_lt (Heap.lt_size e)
  have kp : ∀ b o, s1.heap.get? b = some o → (s1.heap.push { cls := .type "list_iterator", data := .fields #[.ref a, .int 0 0] }).get? b = some o := fun b o e => Heap.get?_push_of_some _ e
  refine ⟨s1.heap.objs.size, H1, xs, fun j h => h.IsListIter s1.heap.objs.size a j ∧ ∀ h2 : Heap, (∀ b o, H1 b ≠ none → h.get? b = some o → h2.get? b = some o) → h2.IsList a its.toArray, rfl, I1.kept (t' := s1.toks) kp, .inr I1.sz, Nat.ne_of_gt I1.lt, fun y c hy => ?_, I1.hok.fresh (Nat.le_refl _), fun p hp => ?_,
    ⟨⟨_, Heap.get?_push_size _ rfl, rfl, rfl⟩, fun h2 k => hl.at fun o e => k a o (by rw [ha]; exact fun z => by cases z) (kp a o e)⟩, ⟨⟨"list_iterator", fun j h q => ?_, close_lst, by decide⟩, fun j h h' q hk => ?_, fun A' j x s2 Q' E' hA hx q hQ => ?_, fun A' s2 Q' E' hA q hE => ?_⟩, hq⟩
  · obtain ⟨v, o, ho, _⟩ := I1.cell y c hy
    exact older c o ho
  · exact older p.1 _ (I1.pin p hp).1
  · obtain ⟨⟨o, ho, hc, _⟩, _⟩ := q
    exact ⟨o, ho, hc⟩
  · obtain ⟨⟨o, ho, r⟩, q2⟩ := q
    exact ⟨⟨o, hk _ o (.inl rfl) ho, r⟩, fun h2 k => q2 h2 fun b ob nb e => k b ob nb (hk b ob (.inr nb) e)⟩
  · obtain ⟨q1, q2⟩ := q
    obtain ⟨u, hu, ru⟩ := rits.get hx
    have ql := q2 s2.heap fun b o _ e => e
    refine lst_next q1 ql (x := u) (by simpa using hu) fun h' q1' hs => hQ u h' s2.toks ru ⟨q1', fun h2 k => q2 h2 fun b o nb e => ?_⟩ fun b o hb eb => hs.extBut b o hb eb
    refine k b o nb (hs.extBut b o (fun z => ?_) e)
    rw [z] at nb
    exact nb (I1.hok.fresh (Nat.le_refl _))
  · obtain ⟨q1, q2⟩ := q
    have hnone : its.toArray[xs.length]? = none := by
      have e := rits.length
      have e2 : its[xs.length]? = none := List.getElem?_eq_none_iff.mpr (by omega)
      simpa using e2
    exact lst_over hA q1 (q2 s2.heap fun b o _ e => e) hnone fun e h' hS hk => hE e h' s2.toks hS fun b o hb eb => hk b o hb eb

/-! ### a generator def that hands out a list's items at its end -/
theorem PS.nox' {X : Cx} {st : Stmt} {t : TS} (h : PS X.nox st t) : PS X st t := ⟨fun pins s σ H D I hw => wpAny_mono (h.run pins s σ H D (I.wish _) hw) (fun _ _ q => q.unwish) fun _ _ z => False.elim z⟩
/-- a generator def's runs -/
structure CallG (k : Nat) (qual : Str) (scope : Scope) (f : Addr) (cdv : Value) where
  A : Around
  outer : List Env
  s : Shared
  H : Hp
  E : XK
  pn : List (Addr × Obj)
  hr : Room k (A.deeper (envOfC qual scope s.heap.objs.size f cdv))
def famG (P : Program) (w : World) (K : PySem.W.Frag) (mg : Str → Option Value) (base : Heap) (N : List Str) (nd : N.Nodup) (qual : Str) (scope : Scope) (f : Addr) (cdv : Value) (k : Nat) : Fam where
  ι := CallG k qual scope f cdv
  X := fun i => (gcxOf P w K mg base N qual scope f cdv i.A i.outer i.s i.H i.E i.pn).nox
  N := N
  sc := scope
  k := k
  P := P
  w := w
  K := K
  mg := mg
  base := base
  hN := fun _ => rfl
  nd := nd
  hsc := fun _ => rfl
  calm := fun _ => rfl
  hr := fun i => i.hr
  hX := fun _ => ⟨rfl, rfl, rfl, rfl, rfl⟩
  nox := fun _ => rfl
/-- what such a def promises -/
def spG [Wd] (n : Nat) (G : List D → Option (List D)) : SpG := fun vs H Q _ => vs.length = n ∧ ∃ (B : Hp) (ds xs : List D), Same B H ∧ DenA B vs ds ∧ G ds = some xs ∧ ∀ out B' H', Adv B H B' H' → DenA B' out xs → out.length ≤ sizeLine → Q out H'
/-- the plain function: the statements ahead, then what is handed out -/
def bodyG (n : Nat) (s : En → Option Out) (m : En → Option D) : List D → Option (List D) := fun ds => (s (ds.map .val ++ List.replicate (n - ds.length) .un)).bind fun o => match o with
  | .nx ρ => (m ρ).bind fun d => match d with
    | .list xs => some xs
    | _ => none
  | .rt _ => none
section
variable {P : Program} {w : World} {K : PySem.W.Frag} {mg : Str → Option Value} {base : Heap} {k n : Nat} {f : Addr} {name qual : Str} {params : Arguments} {body : List Stmt} {scope : Scope} {dV kV doc pm cdv ct oc : Value} {an od : Option Addr} {osl : Array (Option Value)} {N ps : List Str}
/-- THE RULE: three statements, then yield from -/
theorem gfnD [Wd] {a b c : Stmt} {e : Expr} {yp pos : Pos} {sa sb sc : En → Option Out} {m : En → Option D} (lk : K.lookup f = some ⟨oc, od, .func (PySem.W.fnOf name qual params body scope dV kV doc pm an cdv ct), osl⟩) (hcd : PySem.W.codeIn K cdv qual = true) (S : GScope N ps scope) (hbod : body = [a, b, c, .Expr (.YieldFrom e yp) pos])
    (ha : PSd (famG P w K mg base N S.nd qual scope f cdv k) a sa) (hb : PSd (famG P w K mg base N S.nd qual scope f cdv k) b sb) (hc : PSd (famG P w K mg base N S.nd qual scope f cdv k) c sc) (he : PEd (famG P w K mg base N S.nd qual scope f cdv k).X e m) (hn : ps.length = n := by rfl)
    (hi : ∀ i, interactive ((famG P w K mg base N S.nd qual scope f cdv k).X i).env = false := by intro _; rfl) :
    GFn P w K mg base (k + 1) f (PySem.W.fnOf name qual params body scope dV kV doc pm an cdv ct) ps (spG n (bodyG N.length (sSeq sa (sSeq sb sc)) m)) := by
  subst hbod
  obtain ⟨ta, a1, a2⟩ := ha.ex
  obtain ⟨tb, b1, b2⟩ := hb.ex
  obtain ⟨tc, c1, c2⟩ := hc.ex
  obtain ⟨te, e1, e2⟩ := he.ex
  refine gfn_of lk hcd S (fun vs H Q E q => q.1.trans hn.symm) fun A outer s H vs Q E pn hr h => ?_
  let i : CallG k qual scope f cdv := ⟨A, outer, s, H, E, pn, hr⟩
  refine ⟨_, gss_cons (gs_ps (PS.nox' (a1 i))) (gss_cons (gs_ps (PS.nox' (b1 i))) (gss_cons (gs_ps (PS.nox' (c1 i))) (gss_cons (gs_yieldFrom (yf_lst (PE.nox (e1 i))) hr.hd (hi i)) gss_nil))), ?_⟩
  obtain ⟨hl, B, ds, xs, sm, hd, eG, q⟩ := h
  unfold bodyG at eG
  obtain ⟨o, eo, eG⟩ := bind_some' eG
  obtain ⟨o1, eo1, eo⟩ := bind_some' eo
  have rp := rep_start (N := N) sm hd
  refine a2 _ o1 eo1 H B B (L2.start N vs) H _ (.refl sm) rp ?_
  cases o1 with
  | rt d =>
    cases eo
    cases eG
  | nx ρ1 =>
    intro B1 σ1 H1 v1 r1
    obtain ⟨o2, eo2, eo⟩ := bind_some' eo
    refine b2 _ o2 eo2 H B B1 σ1 H1 _ v1 r1 ?_
    cases o2 with
    | rt d =>
      cases eo
      cases eG
    | nx ρ2 =>
      intro B2 σ2 H2 v2 r2
      refine c2 _ o eo H B B2 σ2 H2 _ v2 r2 ?_
      cases o with
      | rt d => cases eG
      | nx ρ3 =>
        intro B3 σ3 H3 v3 r3
        obtain ⟨d, ed, eG⟩ := bind_some' eG
        split at eG
        · cases eG
          refine e2 ρ3 _ ed H B3 σ3 H3 _ r3 fun v B4 H4 v4 d4 => ?_
          cases d4 with
          | @lst l us _ hB hz hdn =>
            refine ⟨l, us, rfl, v4.s _ _ hB, by simpa using hz, ?_⟩
            exact q us B4 H4 (v3.trans v4) hdn hz
        · cases eG
end
/-- .. that may be called by its name -/
structure CalG [Wd] (P : Program) (w : World) (K : PySem.W.Frag) (mg : Str → Option Value) (base : Heap) (k : Nat) (x : Str) (n : Nat) (G : List D → Option (List D)) : Prop where
  ex : ∃ (f : Addr) (fd : FuncData) (ps : List Str), GFn P w K mg base k f fd ps (spG n G) ∧ mg x = some (.ref f) ∧ PySem.W.keepIn K (.ref f) = true ∧ Binds K fd ps []
section
variable {P : Program} {K : PySem.W.Frag} {mg : Str → Option Value} {base : Heap} {x : Str} {st : Stmt} {N ps : List Str} {k n : Nat}
theorem calG [Wd] {a b c : Stmt} {e : Expr} {yp pos : Pos} {sa sb sc : En → Option Out} {m : En → Option D} (Sd : Std K mg x st ps) (S : GScope N ps (defScope st)) (hbod : defBody st = [a, b, c, .Expr (.YieldFrom e yp) pos])
    (ha : ∀ f cdv, PSd (famG P Wd.w K mg base N S.nd x (defScope st) f cdv k) a sa) (hb : ∀ f cdv, PSd (famG P Wd.w K mg base N S.nd x (defScope st) f cdv k) b sb) (hc : ∀ f cdv, PSd (famG P Wd.w K mg base N S.nd x (defScope st) f cdv k) c sc)
    (he : ∀ f cdv, PEd (famG P Wd.w K mg base N S.nd x (defScope st) f cdv k).X e m) (hn : ps.length = n := by rfl)
    (hi : ∀ f cdv i, interactive ((famG P Wd.w K mg base N S.nd x (defScope st) f cdv k).X i).env = false := by intro _ _ _; rfl) : CalG P Wd.w K mg base (k + 1) x n (bodyG N.length (sSeq sa (sSeq sb sc)) m) := by
  obtain ⟨f, fd, h1, h2, h3⟩ := Sd.ex
  obtain ⟨oc, od, kV, doc, pm, an, cdv, ct, osl, rfl, lk, hcd⟩ := h1.ex
  exact ⟨f, _, ps, gfnD lk hcd S hbod (ha f cdv) (hb f cdv) (hc f cdv) (he f cdv) hn (hi f cdv), h3, h1.kp, h2⟩
end
theorem passE {P : Program} {w : World} {X : Cx} : Passes (CX P w) X (fun _ _ _ => False) := fun pins σ H s e s' I ⟨a, B, H', cls, d, _, _, _, _, _, _, _, z⟩ => z.elim
/-- list(g(..)) -/
theorem peo_listG [Wd] {F : Fam} {x : Str} {e : Expr} {es : List Expr} {p p2 pos pos2 : Pos} {ms : En → Option (List D)} {k n : Nat} {G : List D → Option (List D)} (c : CalG F.P F.w F.K F.mg F.base k x n G) (hg : GI' F x) (hgl : GI' F "list") (T : Tx F.mg) (ha : PAd F.X (e :: es) ms)
    (hk : Nat.ble (k + 3) F.k = true := by rfl) (hl : (e :: es).length = n := by rfl) (hdb : (x == ("__debug__" : Str)) = false := by decide) (hs : St1 F e es := by intro _; rfl) (hpl : Pl1 F es pos := by intro _; rfl) (hs2 : St1 F (.Call (.Name x p) (e :: es) [] pos) [] := by intro _; rfl) :
    PEo F.X (.Call (.Name "list" p2) [.Call (.Name x p) (e :: es) [] pos] [] pos2) (mF (fun ds => (G ds).map .list) ms) := by
  obtain ⟨f, fd, ps, h1, h2, h3, h4⟩ := c.ex
  obtain ⟨t, t1, t2⟩ := ha.ex
  have hk' := Nat.le_of_ble_eq_true hk
  refine ⟨tListG (tCallG (spG n G) [] (fun _ _ _ => False) t), fun i => ?_, fun ρ d ed H0 B σ H Q rp q => ?_⟩
  · obtain ⟨e1, e2, e3, e4, e5⟩ := F.hX i
    have h1' : GFn (F.X i).prog (F.X i).w (F.X i).K (F.X i).mg (F.X i).base k f fd ps (spG n G) := by
      rw [e1, e2, e3, e4, e5]
      exact h1
    have pg : PGen (F.X i) k (.Call (.Name x p) (e :: es) [] pos) (tCallG (spG n G) [] (fun _ _ _ => False) t) (fun _ _ _ => False) :=
      pgen_call h1' ((F.hr i).mono (by omega)) (gl_of hg i) (by rw [e4]; exact h2) (by rw [e3]; exact h3) (by rw [e3]; exact h4) .nil (t1 i) hdb (hs i) (hpl i)
    exact pe_listG pg passE (fun cls d H z => z.elim) ((F.hr i).mono hk') (gl_of hgl i) (mg_of' T.list i) (by decide +kernel) (by decide) (by decide) (hs2 i)
  · obtain ⟨ds, eds, ed⟩ := bind_some' ed
    obtain ⟨xs, exs, rfl⟩ := Option.map_eq_some_iff.mp ed
    refine t2 ρ ds eds H0 B σ H _ rp fun vs B1 H1 v1 d1 => ?_
    refine ⟨?_, B1, ds, xs, v1.s, ?_, exs, fun out B2 H2 v2 d2 hz p hp => ?_⟩
    · rw [List.append_nil, d1.length, ha.len _ _ eds]
      exact hl
    · rw [List.append_nil]
      exact d1
    · have v12 := v1.trans v2
      exact q p _ B2 _ (v12.trans (.lay v12.s hp)) (v12.h.free hp) (v12.s.free hp) upd_same (.lst hz d2)
end Dl

end
section
set_option Elab.async false
set_option linter.all false
set_option maxRecDepth 100000
set_option maxHeartbeats 4000000
namespace Ar
open PySem PySem.Spec PyProof.Rows L2 Dl
def topS (i : Nat) : Stmt := PySem.Challenge.pw_arrowsizes_k83_whole_bar_rows_below_othe.main.body.getD i (.Pass ⟨0, 0, 0, 0⟩)
/-- the module's whole numbers -/
structure TG (mg : Str → Option Value) : Prop where
  MOST_DIGITS : ∃ t, mg "MOST_DIGITS" = some (.int (10 ^ 60) t)
  MOST_LENGTH : ∃ t, mg "MOST_LENGTH" = some (.int 6 t)
  MOST_SIZE_numbers : ∃ t, mg "MOST_SIZE_numbers" = some (.int 6 t)
  MAX_BAR_ROWS : ∃ t, mg "MAX_BAR_ROWS" = some (.int 3000 t)
  MOST_POINTS : ∃ t, mg "MOST_POINTS" = some (.int 6 t)
  MOST_SIZE_bars : ∃ t, mg "MOST_SIZE_bars" = some (.int 6 t)
section
variable {P : Program} {K : PySem.W.Frag} {mg : Str → Option Value} {base : Heap}
abbrev t_is_whole : Stmt := topS 11
theorem sc_is_whole : FnScope ["value"] ["value"] (defScope t_is_whole) := ⟨rfl, rfl, rfl, by decide +kernel, rfl, by decide +kernel, by decide +kernel⟩
def s_is_whole : En → Option Out := sRet (mAnd (mIsi (isT "int") (mN 0)) (mU dNot (mIsi (isT "bool") (mN 0))))
def F_is_whole : List D → Option D := bodyF 1 s_is_whole
theorem d_is_whole [Wd] (TT : Tx mg) {f : Addr} : PSsd (famOf P Wd.w K mg base _ sc_is_whole.nd "is_whole" (defScope t_is_whole) f 0) (defBody t_is_whole) s_is_whole :=
  pssd_one (psd_ret (ped_and (b_isInt rfl rfl TT (nm 0 rfl (by first | exact .inl rfl | exact .inr (.inl rfl) | exact .inr (.inr rfl)))) (ped_one (ped_not (b_isBool rfl rfl TT (nm 0 rfl (by first | exact .inl rfl | exact .inr (.inl rfl) | exact .inr (.inr rfl))))))))
theorem ok_is_whole [Wd] (TT : Tx mg) (S : Std K mg "is_whole" t_is_whole ["value"]) : CalD P Wd.w K mg base 1 "is_whole" 1 F_is_whole :=
  calD S sc_is_whole fun f => d_is_whole TT

abbrev t_is_integer : Stmt := topS 12
theorem sc_is_integer : FnScope ["value"] ["value"] (defScope t_is_integer) := ⟨rfl, rfl, rfl, by decide +kernel, rfl, by decide +kernel, by decide +kernel⟩
def s_is_integer : En → Option Out := sRet (mAnd (mF F_is_whole (aC (mN 0) (aN))) (mCh2 dLt dLt (mU dNeg (mC (.int 1000000000000000000000000000000000000000000000000000000000000))) (mN 0) (mC (.int 1000000000000000000000000000000000000000000000000000000000000))))
def F_is_integer : List D → Option D := bodyF 1 s_is_integer
theorem d_is_integer [Wd] (TT : Tx mg) (TG : TG mg) (c_is_whole : CalD P Wd.w K mg base 1 "is_whole" 1 F_is_whole) {f : Addr} : PSsd (famOf P Wd.w K mg base _ sc_is_integer.nd "is_integer" (defScope t_is_integer) f 1) (defBody t_is_integer) s_is_integer :=
  pssd_one (psd_ret (ped_and (c_own c_is_whole rfl (pad_cons (nm 0 rfl (by first | exact .inl rfl | exact .inr (.inl rfl) | exact .inr (.inr rfl))) (pad_nil))) (ped_one (ped_ch2 (fun _ => op_lt) (fun _ => op_lt) opE_lt opE_lt (ped_neg (gint rfl TG.MOST_DIGITS)) (nm 0 rfl (by first | exact .inl rfl | exact .inr (.inl rfl) | exact .inr (.inr rfl))) (gint rfl TG.MOST_DIGITS) rfl))))
theorem ok_is_integer [Wd] (TT : Tx mg) (TG : TG mg) (S : Std K mg "is_integer" t_is_integer ["value"]) (c_is_whole : CalD P Wd.w K mg base 1 "is_whole" 1 F_is_whole) : CalD P Wd.w K mg base 2 "is_integer" 1 F_is_integer :=
  calD S sc_is_integer fun f => d_is_integer TT TG c_is_whole

abbrev t_require_count : Stmt := topS 13
theorem sc_require_count : FnScope ["value", "least", "most"] ["value", "least", "most"] (defScope t_require_count) := ⟨rfl, rfl, rfl, by decide +kernel, rfl, by decide +kernel, by decide +kernel⟩
def s_require_count : En → Option Out := sIf (qOr (qNot (qVal (mF F_is_integer (aC (mN 0) (aN))))) (qOr (qVal (mB dLt (mN 0) (mN 1))) (qVal (mB dGt (mN 0) (mN 2))))) (sNever) (sNil)
def F_require_count : List D → Option D := bodyF 3 s_require_count
theorem d_require_count [Wd] (TT : Tx mg) (c_is_integer : CalD P Wd.w K mg base 2 "is_integer" 1 F_is_integer) {f : Addr} : PSsd (famOf P Wd.w K mg base _ sc_require_count.nd "require_count" (defScope t_require_count) f 2) (defBody t_require_count) s_require_count :=
  pssd_one (psd_if (PWd.pt (pwd_or (ptd_not (ptd_val (c_own c_is_integer rfl (pad_cons (nm 0 rfl (by first | exact .inl rfl | exact .inr (.inl rfl) | exact .inr (.inr rfl))) (pad_nil))))) (pwd_or (ptd_cmp (fun _ => op_lt) opE_lt (nm 0 rfl (by first | exact .inl rfl | exact .inr (.inl rfl) | exact .inr (.inr rfl))) (nm 1 rfl (by first | exact .inl rfl | exact .inr (.inl rfl) | exact .inr (.inr rfl))) (nomark _)) (pwd_or1 (ptd_cmp (fun _ => op_gt) opE_gt (nm 0 rfl (by first | exact .inl rfl | exact .inr (.inl rfl) | exact .inr (.inr rfl))) (nm 2 rfl (by first | exact .inl rfl | exact .inr (.inl rfl) | exact .inr (.inr rfl))) (nomark _)))))) (pssd_one (psd_never)) (pssd_nil))
theorem ok_require_count [Wd] (TT : Tx mg) (S : Std K mg "require_count" t_require_count ["value", "least", "most"]) (c_is_integer : CalD P Wd.w K mg base 2 "is_integer" 1 F_is_integer) : CalD P Wd.w K mg base 3 "require_count" 3 F_require_count :=
  calD S sc_require_count fun f => d_require_count TT c_is_integer

abbrev t_is_row : Stmt := topS 14
theorem sc_is_row : FnScope ["value", "size"] ["value"] (defScope t_is_row) := ⟨rfl, rfl, rfl, by decide +kernel, rfl, by decide +kernel, by decide +kernel⟩
def s_is_row : En → Option Out := sSeq (sIf (qOr (qNot (qVal (mIsi (isT "tuple") (mN 0)))) (qNot (qVal (mCh2 dLe dLe (mC (.int 1)) (mF fLen (aC (mN 0) (aN))) (mC (.int 6)))))) (sRet (mC (.bool false))) (sNil))
  (sRet (mF fAll (aC (mLc (iT (mN 0)) (gN 1) (qYes) (mAnd (mF F_is_whole (aC (mN 1) (aN))) (mCh2 dLe dLe (mC (.int 0)) (mN 1) (mC (.int 6)))) [1]) (aN))))
def F_is_row : List D → Option D := bodyF 2 s_is_row
theorem d_is_row [Wd] (TT : Tx mg) (TG : TG mg) (c_is_whole : CalD P Wd.w K mg base 1 "is_whole" 1 F_is_whole) {f : Addr} : PSsd (famOf P Wd.w K mg base _ sc_is_row.nd "is_row" (defScope t_is_row) f 1) (defBody t_is_row) s_is_row :=
  pssd_cons (psd_if (PWd.pt (pwd_or (ptd_not (ptd_val (b_isTuple rfl rfl TT (nm 0 rfl (by first | exact .inl rfl | exact .inr (.inl rfl) | exact .inr (.inr rfl)))))) (pwd_or1 (ptd_not (ptd_ch2 (fun _ => op_le) (fun _ => op_le) opE_le opE_le (ped_int) (b_len rfl TT (pad_cons (nm 0 rfl (by first | exact .inl rfl | exact .inr (.inl rfl) | exact .inr (.inr rfl))) (pad_nil))) (gint rfl TG.MOST_LENGTH) rfl))))) (pssd_one (psd_ret (ped_bl))) (pssd_nil))
  (pssd_one (psd_ret (b_all rfl TT (pad_cons (PEo.ped (peo_lc (own := [("size", 1)]) (pid_tup (nm 0 rfl (by first | exact .inl rfl | exact .inr (.inl rfl) | exact .inr (.inr rfl)))) (by dsimp only [famOf, Fam.blk]; decide +kernel) (pgd_name 1 rfl (by first | exact .inl rfl | exact .inr rfl) (by intro _; first | exact .inl rfl | exact .inr rfl)) rfl (ptsd_nil) (ped_and (c_own c_is_whole rfl (pad_cons (nm 1 rfl (by first | exact .inl rfl | exact .inr (.inl rfl) | exact .inr (.inr rfl))) (pad_nil))) (ped_one (ped_ch2 (fun _ => op_le) (fun _ => op_le) opE_le opE_le (ped_int) (nm 1 rfl (by first | exact .inl rfl | exact .inr (.inl rfl) | exact .inr (.inr rfl))) (gint rfl TG.MOST_SIZE_numbers) rfl))))) (pad_nil)))))
theorem ok_is_row [Wd] (TT : Tx mg) (TG : TG mg) (S : Std K mg "is_row" t_is_row ["value"]) (c_is_whole : CalD P Wd.w K mg base 1 "is_whole" 1 F_is_whole) : CalD P Wd.w K mg base 2 "is_row" 1 F_is_row :=
  calD S sc_is_row fun f => d_is_row TT TG c_is_whole

abbrev t_is_bar : Stmt := topS 23
theorem sc_is_bar : FnScope ["size", "value", "point"] ["size", "value"] (defScope t_is_bar) := ⟨rfl, rfl, rfl, by decide +kernel, rfl, by decide +kernel, by decide +kernel⟩
def s_is_bar : En → Option Out := sSeq (sIf (qOr (qNot (qVal (mIsi (isT "tuple") (mN 1)))) (qOr (qVal (mB dNe (mF fLen (aC (mN 1) (aN))) (mC (.int 2)))) (qNot (qVal (mF fAll (aC (mLc (iT (mN 1)) (gN 2) (qYes) (mF F_is_whole (aC (mN 2) (aN))) [2]) (aN))))))) (sRet (mC (.bool false))) (sNil))
  (sRet (mCh3 dLe dLe dLt (mC (.int 0)) (mB dIx (mN 1) (mC (.int 0))) (mB dIx (mN 1) (mC (.int 1))) (mN 0)))
def F_is_bar : List D → Option D := bodyF 3 s_is_bar
theorem d_is_bar [Wd] (TT : Tx mg) (c_is_whole : CalD P Wd.w K mg base 1 "is_whole" 1 F_is_whole) {f : Addr} : PSsd (famOf P Wd.w K mg base _ sc_is_bar.nd "is_bar" (defScope t_is_bar) f 1) (defBody t_is_bar) s_is_bar :=
  pssd_cons (psd_if (PWd.pt (pwd_or (ptd_not (ptd_val (b_isTuple rfl rfl TT (nm 1 rfl (by first | exact .inl rfl | exact .inr (.inl rfl) | exact .inr (.inr rfl)))))) (pwd_or (ptd_cmp (fun i => rAll_op (op_neD (Fam.rm _ i).units)) (rAll_e fun _ => opE_ne) (b_len rfl TT (pad_cons (nm 1 rfl (by first | exact .inl rfl | exact .inr (.inl rfl) | exact .inr (.inr rfl))) (pad_nil))) (ped_int) (nomark _)) (pwd_or1 (ptd_not (ptd_val (b_all rfl TT (pad_cons (PEo.ped (peo_lc (own := [("point", 2)]) (pid_tup (nm 1 rfl (by first | exact .inl rfl | exact .inr (.inl rfl) | exact .inr (.inr rfl)))) (by dsimp only [famOf, Fam.blk]; decide +kernel) (pgd_name 2 rfl (by first | exact .inl rfl | exact .inr rfl) (by intro _; first | exact .inl rfl | exact .inr rfl)) rfl (ptsd_nil) (c_own c_is_whole rfl (pad_cons (nm 2 rfl (by first | exact .inl rfl | exact .inr (.inl rfl) | exact .inr (.inr rfl))) (pad_nil))))) (pad_nil))))))))) (pssd_one (psd_ret (ped_bl))) (pssd_nil))
  (pssd_one (psd_ret (ped_ch3 (fun _ => op_le) (fun _ => op_le) (fun _ => op_lt) opE_le opE_le opE_lt (ped_int) (ped_ix (nm 1 rfl (by first | exact .inl rfl | exact .inr (.inl rfl) | exact .inr (.inr rfl))) (ped_int)) (ped_ix (nm 1 rfl (by first | exact .inl rfl | exact .inr (.inl rfl) | exact .inr (.inr rfl))) (ped_int)) (nm 0 rfl (by first | exact .inl rfl | exact .inr (.inl rfl) | exact .inr (.inr rfl))) rfl)))
theorem ok_is_bar [Wd] (TT : Tx mg) (S : Std K mg "is_bar" t_is_bar ["size", "value"]) (c_is_whole : CalD P Wd.w K mg base 1 "is_whole" 1 F_is_whole) : CalD P Wd.w K mg base 2 "is_bar" 2 F_is_bar :=
  calD S sc_is_bar fun f => d_is_bar TT c_is_whole

abbrev t_bars_of : Stmt := topS 24
theorem sc_bars_of : FnScope ["size", "start", "last"] ["size"] (defScope t_bars_of) := ⟨rfl, rfl, rfl, by decide +kernel, rfl, by decide +kernel, by decide +kernel⟩
def s_bars_of : En → Option Out := sRet (mLc2 (iR rg1 (aC (mN 0) (aN))) (gN 1) qYes (iR rg2 (aC (mN 1) (aC (mN 0) (aN)))) [2] (gN 2) (mTup (aC (mN 1) (aC (mN 2) (aN)))) [1, 2])
def F_bars_of : List D → Option D := bodyF 3 s_bars_of
theorem d_bars_of [Wd] (TT : Tx mg) {f : Addr} : PSsd (famOf P Wd.w K mg base _ sc_bars_of.nd "bars_of" (defScope t_bars_of) f 0) (defBody t_bars_of) s_bars_of :=
  pssd_one (psd_ret (PEo.ped (peo_lc2 (own := [("start", 1), ("last", 2)]) (vs1 := [2]) (pid_rg1 rfl TT.range (pad_cons (nm 0 rfl (by first | exact .inl rfl | exact .inr (.inl rfl) | exact .inr (.inr rfl))) (pad_nil))) (by dsimp only [famOf, Fam.blk]; decide +kernel) rfl (pgd_name 1 rfl (by first | exact .inl rfl | exact .inr rfl) (by intro _; first | exact .inl rfl | exact .inr rfl)) rfl ptsd_nil (pid_rg2 rfl TT.range (pad_cons (nm 1 rfl (by first | exact .inl rfl | exact .inr (.inl rfl) | exact .inr (.inr rfl))) (pad_cons (nm 0 rfl (by first | exact .inl rfl | exact .inr (.inl rfl) | exact .inr (.inr rfl))) (pad_nil)))) (pgd_name 2 rfl (by first | exact .inl rfl | exact .inr rfl) (by intro _; first | exact .inl rfl | exact .inr rfl)) rfl (ped_tup (pad_cons (nm 1 rfl (by first | exact .inl rfl | exact .inr (.inl rfl) | exact .inr (.inr rfl))) (pad_cons (nm 2 rfl (by first | exact .inl rfl | exact .inr (.inl rfl) | exact .inr (.inr rfl))) (pad_nil)))))))
theorem ok_bars_of [Wd] (TT : Tx mg) (S : Std K mg "bars_of" t_bars_of ["size"]) : CalD P Wd.w K mg base 1 "bars_of" 1 F_bars_of :=
  calD S sc_bars_of fun f => d_bars_of TT

abbrev t_is_pair_of_bar : Stmt := topS 25
theorem sc_is_pair_of_bar : FnScope ["size", "value"] ["size", "value"] (defScope t_is_pair_of_bar) := ⟨rfl, rfl, rfl, by decide +kernel, rfl, by decide +kernel, by decide +kernel⟩
def s_is_pair_of_bar : En → Option Out := sSeq (sIf (qOr (qNot (qVal (mIsi (isT "tuple") (mN 1)))) (qOr (qVal (mB dNe (mF fLen (aC (mN 1) (aN))) (mC (.int 2)))) (qNot (qVal (mF F_is_bar (aC (mN 0) (aC (mB dIx (mN 1) (mC (.int 0))) (aN)))))))) (sRet (mC (.bool false))) (sNil))
  (sRet (mAnd (mF F_is_whole (aC (mB dIx (mN 1) (mC (.int 1))) (aN))) (mCh2 dLe dLe (mC (.int 1)) (mB dIx (mN 1) (mC (.int 1))) (mC (.int 6)))))
def F_is_pair_of_bar : List D → Option D := bodyF 2 s_is_pair_of_bar
theorem d_is_pair_of_bar [Wd] (TT : Tx mg) (TG : TG mg) (c_is_bar : CalD P Wd.w K mg base 2 "is_bar" 2 F_is_bar) (c_is_whole : CalD P Wd.w K mg base 1 "is_whole" 1 F_is_whole) {f : Addr} : PSsd (famOf P Wd.w K mg base _ sc_is_pair_of_bar.nd "is_pair_of_bar" (defScope t_is_pair_of_bar) f 2) (defBody t_is_pair_of_bar) s_is_pair_of_bar :=
  pssd_cons (psd_if (PWd.pt (pwd_or (ptd_not (ptd_val (b_isTuple rfl rfl TT (nm 1 rfl (by first | exact .inl rfl | exact .inr (.inl rfl) | exact .inr (.inr rfl)))))) (pwd_or (ptd_cmp (fun i => rAll_op (op_neD (Fam.rm _ i).units)) (rAll_e fun _ => opE_ne) (b_len rfl TT (pad_cons (nm 1 rfl (by first | exact .inl rfl | exact .inr (.inl rfl) | exact .inr (.inr rfl))) (pad_nil))) (ped_int) (nomark _)) (pwd_or1 (ptd_not (ptd_val (c_own c_is_bar rfl (pad_cons (nm 0 rfl (by first | exact .inl rfl | exact .inr (.inl rfl) | exact .inr (.inr rfl))) (pad_cons (ped_ix (nm 1 rfl (by first | exact .inl rfl | exact .inr (.inl rfl) | exact .inr (.inr rfl))) (ped_int)) (pad_nil)))))))))) (pssd_one (psd_ret (ped_bl))) (pssd_nil))
  (pssd_one (psd_ret (ped_and (c_own c_is_whole rfl (pad_cons (ped_ix (nm 1 rfl (by first | exact .inl rfl | exact .inr (.inl rfl) | exact .inr (.inr rfl))) (ped_int)) (pad_nil))) (ped_one (ped_ch2 (fun _ => op_le) (fun _ => op_le) opE_le opE_le (ped_int) (ped_ix (nm 1 rfl (by first | exact .inl rfl | exact .inr (.inl rfl) | exact .inr (.inr rfl))) (ped_int)) (gint rfl TG.MOST_SIZE_bars) rfl)))))
theorem ok_is_pair_of_bar [Wd] (TT : Tx mg) (TG : TG mg) (S : Std K mg "is_pair_of_bar" t_is_pair_of_bar ["size", "value"]) (c_is_bar : CalD P Wd.w K mg base 2 "is_bar" 2 F_is_bar) (c_is_whole : CalD P Wd.w K mg base 1 "is_whole" 1 F_is_whole) : CalD P Wd.w K mg base 3 "is_pair_of_bar" 2 F_is_pair_of_bar :=
  calD S sc_is_pair_of_bar fun f => d_is_pair_of_bar TT TG c_is_bar c_is_whole

abbrev t_sizes_in : Stmt := topS 26
theorem sc_sizes_in : FnScope ["size", "bars", "point", "many", "start", "last"] ["size", "bars"] (defScope t_sizes_in) := ⟨rfl, rfl, rfl, by decide +kernel, rfl, by decide +kernel, by decide +kernel⟩
def s_sizes_in : En → Option Out := sRet (mF fTuple (aC (mLc (iR rg1 (aC (mN 0) (aN))) (gN 2) (qYes) (mF fSum (aC (mLc (iT (mN 1)) (gT [gT [gN 4, gN 5], gN 3]) (qVal (mCh2 dLe dLe (mN 4) (mN 2) (mN 5))) (mN 3) [3, 4, 5]) (aN))) [2]) (aN)))
def F_sizes_in : List D → Option D := bodyF 6 s_sizes_in
theorem d_sizes_in [Wd] (TT : Tx mg) {f : Addr} : PSsd (famOf P Wd.w K mg base _ sc_sizes_in.nd "sizes_in" (defScope t_sizes_in) f 0) (defBody t_sizes_in) s_sizes_in :=
  pssd_one (psd_ret (b_tuple rfl TT (pad_cons (PEo.ped (peo_lc (own := [("point", 2)]) (pid_rg1 rfl TT.range (pad_cons (nm 0 rfl (by first | exact .inl rfl | exact .inr (.inl rfl) | exact .inr (.inr rfl))) (pad_nil))) (by dsimp only [famOf, Fam.blk]; decide +kernel) (pgd_name 2 rfl (by first | exact .inl rfl | exact .inr rfl) (by intro _; first | exact .inl rfl | exact .inr rfl)) rfl (ptsd_nil) (b_sum rfl TT (pad_cons (PEo.ped (peo_lc (own := [("many", 3), ("start", 4), ("last", 5)]) (pid_tup (nm 1 rfl (by first | exact .inl rfl | exact .inr (.inl rfl) | exact .inr (.inr rfl)))) (by dsimp only [famOf, Fam.blk]; decide +kernel) (pgd_tup (pgsd_cons (pgd_tup (pgsd_cons (pgd_name 4 rfl (by first | exact .inl rfl | exact .inr rfl) (by intro _; first | exact .inl rfl | exact .inr rfl)) (pgsd_cons (pgd_name 5 rfl (by first | exact .inl rfl | exact .inr rfl) (by intro _; first | exact .inl rfl | exact .inr rfl)) (pgsd_nil)))) (pgsd_cons (pgd_name 3 rfl (by first | exact .inl rfl | exact .inr rfl) (by intro _; first | exact .inl rfl | exact .inr rfl)) (pgsd_nil)))) rfl (ptsd_one (ptd_ch2 (fun _ => op_le) (fun _ => op_le) opE_le opE_le (nm 4 rfl (by first | exact .inl rfl | exact .inr (.inl rfl) | exact .inr (.inr rfl))) (nm 2 rfl (by first | exact .inl rfl | exact .inr (.inl rfl) | exact .inr (.inr rfl))) (nm 5 rfl (by first | exact .inl rfl | exact .inr (.inl rfl) | exact .inr (.inr rfl))) rfl)) (nm 3 rfl (by first | exact .inl rfl | exact .inr (.inl rfl) | exact .inr (.inr rfl))))) (pad_nil))))) (pad_nil))))
theorem ok_sizes_in [Wd] (TT : Tx mg) (S : Std K mg "sizes_in" t_sizes_in ["size", "bars"]) : CalD P Wd.w K mg base 1 "sizes_in" 2 F_sizes_in :=
  calD S sc_sizes_in fun f => d_sizes_in TT

abbrev t_bar_hom : Stmt := topS 33
theorem sc_bar_hom : FnScope ["one", "other"] ["one", "other"] (defScope t_bar_hom) := ⟨rfl, rfl, rfl, by decide +kernel, rfl, by decide +kernel, by decide +kernel⟩
def s_bar_hom : En → Option Out := sRet (mF fInt (aC (mCh3 dLe dLe dLe (mB dIx (mN 1) (mC (.int 0))) (mB dIx (mN 0) (mC (.int 0))) (mB dIx (mN 1) (mC (.int 1))) (mB dIx (mN 0) (mC (.int 1)))) (aN)))
def F_bar_hom : List D → Option D := bodyF 2 s_bar_hom
theorem d_bar_hom [Wd] (TT : Tx mg) {f : Addr} : PSsd (famOf P Wd.w K mg base _ sc_bar_hom.nd "bar_hom" (defScope t_bar_hom) f 0) (defBody t_bar_hom) s_bar_hom :=
  pssd_one (psd_ret (b_int rfl TT (pad_cons (ped_ch3 (fun _ => op_le) (fun _ => op_le) (fun _ => op_le) opE_le opE_le opE_le (ped_ix (nm 1 rfl (by first | exact .inl rfl | exact .inr (.inl rfl) | exact .inr (.inr rfl))) (ped_int)) (ped_ix (nm 0 rfl (by first | exact .inl rfl | exact .inr (.inl rfl) | exact .inr (.inr rfl))) (ped_int)) (ped_ix (nm 1 rfl (by first | exact .inl rfl | exact .inr (.inl rfl) | exact .inr (.inr rfl))) (ped_int)) (ped_ix (nm 0 rfl (by first | exact .inl rfl | exact .inr (.inl rfl) | exact .inr (.inr rfl))) (ped_int)) rfl) (pad_nil))))
theorem ok_bar_hom [Wd] (TT : Tx mg) (S : Std K mg "bar_hom" t_bar_hom ["one", "other"]) : CalD P Wd.w K mg base 1 "bar_hom" 2 F_bar_hom :=
  calD S sc_bar_hom fun f => d_bar_hom TT

abbrev t_homs_of_rows : Stmt := topS 34
theorem sc_homs_of_rows : FnScope ["one", "other", "bar", "many", "end", "more"] ["one", "other"] (defScope t_homs_of_rows) := ⟨rfl, rfl, rfl, by decide +kernel, rfl, by decide +kernel, by decide +kernel⟩
def s_homs_of_rows : En → Option Out := sRet (mF fSum (aC (mLc2 (iT (mN 0)) (gT [gN 2, gN 3]) qYes (iT (mN 1)) [4, 5] (gT [gN 4, gN 5]) (mB dMul (mB dMul (mN 3) (mN 5)) (mF F_bar_hom (aC (mN 2) (aC (mN 4) (aN))))) [2, 3, 4, 5]) (aN)))
def F_homs_of_rows : List D → Option D := bodyF 6 s_homs_of_rows
theorem d_homs_of_rows [Wd] (TT : Tx mg) (c_bar_hom : CalD P Wd.w K mg base 1 "bar_hom" 2 F_bar_hom) {f : Addr} : PSsd (famOf P Wd.w K mg base _ sc_homs_of_rows.nd "homs_of_rows" (defScope t_homs_of_rows) f 1) (defBody t_homs_of_rows) s_homs_of_rows :=
  pssd_one (psd_ret (b_sum rfl TT (pad_cons (PEo.ped (peo_lc2 (own := [("bar", 2), ("many", 3), ("end", 4), ("more", 5)]) (vs1 := [4, 5]) (pid_tup (nm 0 rfl (by first | exact .inl rfl | exact .inr (.inl rfl) | exact .inr (.inr rfl)))) (by dsimp only [famOf, Fam.blk]; decide +kernel) rfl (pgd_tup (pgsd_cons (pgd_name 2 rfl (by first | exact .inl rfl | exact .inr rfl) (by intro _; first | exact .inl rfl | exact .inr rfl)) (pgsd_cons (pgd_name 3 rfl (by first | exact .inl rfl | exact .inr rfl) (by intro _; first | exact .inl rfl | exact .inr rfl)) (pgsd_nil)))) rfl ptsd_nil (pid_tup (nm 1 rfl (by first | exact .inl rfl | exact .inr (.inl rfl) | exact .inr (.inr rfl)))) (pgd_tup (pgsd_cons (pgd_name 4 rfl (by first | exact .inl rfl | exact .inr rfl) (by intro _; first | exact .inl rfl | exact .inr rfl)) (pgsd_cons (pgd_name 5 rfl (by first | exact .inl rfl | exact .inr rfl) (by intro _; first | exact .inl rfl | exact .inr rfl)) (pgsd_nil)))) rfl (ped_mul (ped_mul (nm 3 rfl (by first | exact .inl rfl | exact .inr (.inl rfl) | exact .inr (.inr rfl))) (nm 5 rfl (by first | exact .inl rfl | exact .inr (.inl rfl) | exact .inr (.inr rfl)))) (c_own c_bar_hom rfl (pad_cons (nm 2 rfl (by first | exact .inl rfl | exact .inr (.inl rfl) | exact .inr (.inr rfl))) (pad_cons (nm 4 rfl (by first | exact .inl rfl | exact .inr (.inl rfl) | exact .inr (.inr rfl))) (pad_nil))))))) (pad_nil))))
theorem ok_homs_of_rows [Wd] (TT : Tx mg) (S : Std K mg "homs_of_rows" t_homs_of_rows ["one", "other"]) (c_bar_hom : CalD P Wd.w K mg base 1 "bar_hom" 2 F_bar_hom) : CalD P Wd.w K mg base 2 "homs_of_rows" 2 F_homs_of_rows :=
  calD S sc_homs_of_rows fun f => d_homs_of_rows TT c_bar_hom

abbrev t_shares_of : Stmt := topS 16
theorem sc_shares_of : FnScope ["left", "start", "last", "found", "point", "longer", "many", "whole", "more"] ["left", "start", "last"] (defScope t_shares_of) := ⟨rfl, rfl, rfl, by decide +kernel, rfl, by decide +kernel, by decide +kernel⟩
def s_shares_of : En → Option Out := sSeq (sSet 3 (mLst (aC (mTup (aC (mTup (aN)) (aC (mC (.int 0)) (aN)))) (aN))))
  (sSeq (sFor (iR rg3 (aC (mN 2) (aC (mN 1) (aC (mU dNeg (mC (.int 1))) (aN))))) (gN 4) (sSeq (sSetO 5 (mLst (aN)))
  (sSeq (sFor (iL (mN 3)) (gT [gN 6, gN 7]) (sExt 5 (mLc (iR rg1 (aC (mB dAdd (mB dSub (mF fMin (aC (mB dIx (mN 0) (mN 4)) (aC (mB dIx (mN 0) (mN 1)) (aN)))) (mN 7)) (mC (.int 1))) (aN))) (gN 8) (qYes) (mTup (aC (mTupS (aS (mN 6) (aC (mN 8) (aN)))) (aC (mB dAdd (mN 7) (mN 8)) (aN)))) [8])))
  (sFrz 5 (sSet 3 (mF fList (aC (mN 5) (aN))))))))
  (sRet (mLc (iL (mN 3)) (gT [gN 6, gN 7]) (qYes) (mTupS (aS (mN 6) (aC (mB dSub (mB dIx (mN 0) (mN 1)) (mN 7)) (aN)))) [6, 7])))
def F_shares_of : List D → Option D := bodyF 9 s_shares_of
theorem d_shares_of [Wd] (TT : Tx mg) {f : Addr} : PSsd (famOf P Wd.w K mg base _ sc_shares_of.nd "shares_of" (defScope t_shares_of) f 0) (defBody t_shares_of) s_shares_of :=
  pssd_cons (psd_set 3 rfl (by first | exact .inl rfl | exact .inr rfl) (by intro _; first | exact .inl rfl | exact .inr rfl) (PEo.ped (peo_lst (pad_cons (ped_tup (pad_cons (ped_tup (pad_nil)) (pad_cons (ped_int) (pad_nil)))) (pad_nil)))))
  (pssd_cons (psd_for (pid_rg3 rfl TT.range (pad_cons (nm 2 rfl (by first | exact .inl rfl | exact .inr (.inl rfl) | exact .inr (.inr rfl))) (pad_cons (nm 1 rfl (by first | exact .inl rfl | exact .inr (.inl rfl) | exact .inr (.inr rfl))) (pad_cons (ped_neg (ped_int)) (pad_nil))))) (pgd_name 4 rfl (by first | exact .inl rfl | exact .inr rfl) (by intro _; first | exact .inl rfl | exact .inr rfl)) (pssd_cons (psd_setO 5 rfl (by first | exact .inl rfl | exact .inr rfl) (by intro _; first | exact .inl rfl | exact .inr rfl) (peo_lst (pad_nil)))
  (pssd_cons (psd_for (pid_list (nm 3 rfl (by first | exact .inl rfl | exact .inr (.inl rfl) | exact .inr (.inr rfl)))) (pgd_tup (pgsd_cons (pgd_name 6 rfl (by first | exact .inl rfl | exact .inr rfl) (by intro _; first | exact .inl rfl | exact .inr rfl)) (pgsd_cons (pgd_name 7 rfl (by first | exact .inl rfl | exact .inr rfl) (by intro _; first | exact .inl rfl | exact .inr rfl)) (pgsd_nil)))) (pssd_one (psd_ext 5 rfl (by first | exact .inl rfl | exact .inr (.inl rfl) | exact .inr (.inr rfl)) (PEo.ped (peo_lc (own := [("more", 8)]) (pid_rg1 rfl TT.range (pad_cons (ped_add (ped_sub (b_min rfl TT (pad_cons (ped_ix (nm 0 rfl (by first | exact .inl rfl | exact .inr (.inl rfl) | exact .inr (.inr rfl))) (nm 4 rfl (by first | exact .inl rfl | exact .inr (.inl rfl) | exact .inr (.inr rfl)))) (pad_cons (ped_ix (nm 0 rfl (by first | exact .inl rfl | exact .inr (.inl rfl) | exact .inr (.inr rfl))) (nm 1 rfl (by first | exact .inl rfl | exact .inr (.inl rfl) | exact .inr (.inr rfl)))) (pad_nil)))) (nm 7 rfl (by first | exact .inl rfl | exact .inr (.inl rfl) | exact .inr (.inr rfl)))) (ped_int)) (pad_nil))) (by dsimp only [famOf, Fam.blk]; decide +kernel) (pgd_name 8 rfl (by first | exact .inl rfl | exact .inr rfl) (by intro _; first | exact .inl rfl | exact .inr rfl)) rfl (ptsd_nil) (ped_tup (pad_cons (ped_tupS (pas_star (nm 6 rfl (by first | exact .inl rfl | exact .inr (.inl rfl) | exact .inr (.inr rfl))) (pas_cons (nm 8 rfl (by first | exact .inl rfl | exact .inr (.inl rfl) | exact .inr (.inr rfl))) (pas_nil)))) (pad_cons (ped_add (nm 7 rfl (by first | exact .inl rfl | exact .inr (.inl rfl) | exact .inr (.inr rfl))) (nm 8 rfl (by first | exact .inl rfl | exact .inr (.inl rfl) | exact .inr (.inr rfl)))) (pad_nil)))))))))
  (pssd_frz 5 (pssd_one (psd_set 3 rfl (by first | exact .inl rfl | exact .inr rfl) (by intro _; first | exact .inl rfl | exact .inr rfl) (PEo.ped (b_list rfl TT (pad_cons (nm 5 rfl (by first | exact .inl rfl | exact .inr (.inl rfl) | exact .inr (.inr rfl))) (pad_nil))))))))))
  (pssd_one (psd_ret (PEo.ped (peo_lc (own := [("many", 6), ("whole", 7)]) (pid_list (nm 3 rfl (by first | exact .inl rfl | exact .inr (.inl rfl) | exact .inr (.inr rfl)))) (by dsimp only [famOf, Fam.blk]; decide +kernel) (pgd_tup (pgsd_cons (pgd_name 6 rfl (by first | exact .inl rfl | exact .inr rfl) (by intro _; first | exact .inl rfl | exact .inr rfl)) (pgsd_cons (pgd_name 7 rfl (by first | exact .inl rfl | exact .inr rfl) (by intro _; first | exact .inl rfl | exact .inr rfl)) (pgsd_nil)))) rfl (ptsd_nil) (ped_tupS (pas_star (nm 6 rfl (by first | exact .inl rfl | exact .inr (.inl rfl) | exact .inr (.inr rfl))) (pas_cons (ped_sub (ped_ix (nm 0 rfl (by first | exact .inl rfl | exact .inr (.inl rfl) | exact .inr (.inr rfl))) (nm 1 rfl (by first | exact .inl rfl | exact .inr (.inl rfl) | exact .inr (.inr rfl)))) (nm 7 rfl (by first | exact .inl rfl | exact .inr (.inl rfl) | exact .inr (.inr rfl)))) (pas_nil)))))))))
theorem ok_shares_of [Wd] (TT : Tx mg) (S : Std K mg "shares_of" t_shares_of ["left", "start", "last"]) : CalD P Wd.w K mg base 1 "shares_of" 3 F_shares_of :=
  calD S sc_shares_of fun f => d_shares_of TT

abbrev t_behind_share : Stmt := topS 17
theorem sc_behind_share : FnScope ["bars", "left", "start", "share", "rest", "last", "more", "held", "step", "many"] ["bars", "left", "start", "share"] (defScope t_behind_share) := ⟨rfl, rfl, rfl, by decide +kernel, rfl, by decide +kernel, by decide +kernel⟩
def s_behind_share : En → Option Out := sSeq (sPar [5, 6, 7] (pV (mB dSub (mF fLen (aC (mN 1) (aN))) (mC (.int 1))) (pO (mLst (aN)) (pV (mC (.int 0)) (pN)))))
  (sSeq (sSetO 4 (mF fList (aC (mN 1) (aN))))
  (sSeq (sFor (iE (aC (mN 3) (aN))) (gT [gN 8, gN 9]) (sSeq (sAug 7 (fun i j => i + j) (mN 9))
  (sSeq (sAugL 4 (fun i j => i - j) (mB dSub (mN 5) (mN 8)) (mN 7))
  (sIf (qVal (mB dGt (mN 9) (mC (.int 0)))) (sApp 6 (mTup (aC (mTup (aC (mN 2) (aC (mB dSub (mN 5) (mN 8)) (aN)))) (aC (mN 9) (aN))))) (sNil)))))
  (sFrz 4 (sFrz 6 (sRet (mTup (aC (mTupS (aS (mN 0) (aS (mU dRev (mN 6)) (aN)))) (aC (mF fTuple (aC (mN 4) (aN))) (aN)))))))))
def F_behind_share : List D → Option D := bodyF 10 s_behind_share
theorem d_behind_share [Wd] (TT : Tx mg) {f : Addr} : PSsd (famOf P Wd.w K mg base _ sc_behind_share.nd "behind_share" (defScope t_behind_share) f 0) (defBody t_behind_share) s_behind_share :=
  pssd_cons (psd_par3 (5) (6) (7) rfl rfl rfl rfl rfl rfl (pam_val (ped_sub (b_len rfl TT (pad_cons (nm 1 rfl (by first | exact .inl rfl | exact .inr (.inl rfl) | exact .inr (.inr rfl))) (pad_nil))) (ped_int)) (pam_own (peo_lst (pad_nil)) (pam_val (ped_int) (pam_nil)))) (fun _ => rfl))
  (pssd_cons (psd_setO 4 rfl (by first | exact .inl rfl | exact .inr rfl) (by intro _; first | exact .inl rfl | exact .inr rfl) (b_list rfl TT (pad_cons (nm 1 rfl (by first | exact .inl rfl | exact .inr (.inl rfl) | exact .inr (.inr rfl))) (pad_nil))))
  (pssd_cons (psd_for (pid_enumT rfl TT.enumerate (pad_cons (nm 3 rfl (by first | exact .inl rfl | exact .inr (.inl rfl) | exact .inr (.inr rfl))) (pad_nil))) (pgd_tup (pgsd_cons (pgd_name 8 rfl (by first | exact .inl rfl | exact .inr rfl) (by intro _; first | exact .inl rfl | exact .inr rfl)) (pgsd_cons (pgd_name 9 rfl (by first | exact .inl rfl | exact .inr rfl) (by intro _; first | exact .inl rfl | exact .inr rfl)) (pgsd_nil)))) (pssd_cons (psd_aug 7 (fun _ => ip_add) rfl (by first | exact .inl rfl | exact .inr rfl) (by intro _; first | exact .inl rfl | exact .inr rfl) (nm 9 rfl (by first | exact .inl rfl | exact .inr (.inl rfl) | exact .inr (.inr rfl))))
  (pssd_cons (psd_augL 4 (fun _ => ip_sub) rfl (by first | exact .inl rfl | exact .inr (.inl rfl) | exact .inr (.inr rfl)) (ped_sub (nm 5 rfl (by first | exact .inl rfl | exact .inr (.inl rfl) | exact .inr (.inr rfl))) (nm 8 rfl (by first | exact .inl rfl | exact .inr (.inl rfl) | exact .inr (.inr rfl)))) (nm 7 rfl (by first | exact .inl rfl | exact .inr (.inl rfl) | exact .inr (.inr rfl))))
  (pssd_one (psd_if (ptd_cmp (fun _ => op_gt) opE_gt (nm 9 rfl (by first | exact .inl rfl | exact .inr (.inl rfl) | exact .inr (.inr rfl))) (ped_int) (nomark _)) (pssd_one (psd_app 6 rfl (by first | exact .inl rfl | exact .inr (.inl rfl) | exact .inr (.inr rfl)) (ped_tup (pad_cons (ped_tup (pad_cons (nm 2 rfl (by first | exact .inl rfl | exact .inr (.inl rfl) | exact .inr (.inr rfl))) (pad_cons (ped_sub (nm 5 rfl (by first | exact .inl rfl | exact .inr (.inl rfl) | exact .inr (.inr rfl))) (nm 8 rfl (by first | exact .inl rfl | exact .inr (.inl rfl) | exact .inr (.inr rfl)))) (pad_nil)))) (pad_cons (nm 9 rfl (by first | exact .inl rfl | exact .inr (.inl rfl) | exact .inr (.inr rfl))) (pad_nil)))))) (pssd_nil))))))
  (pssd_frz 4 (pssd_frz 6 (pssd_one (psd_ret (ped_tup (pad_cons (ped_tupS (pas_star (nm 0 rfl (by first | exact .inl rfl | exact .inr (.inl rfl) | exact .inr (.inr rfl))) (pas_star (PEo.ped (peo_rev (nm 6 rfl (by first | exact .inl rfl | exact .inr (.inl rfl) | exact .inr (.inr rfl))))) (pas_nil)))) (pad_cons (b_tuple rfl TT (pad_cons (nm 4 rfl (by first | exact .inl rfl | exact .inr (.inl rfl) | exact .inr (.inr rfl))) (pad_nil))) (pad_nil))))))))))
theorem ok_behind_share [Wd] (TT : Tx mg) (S : Std K mg "behind_share" t_behind_share ["bars", "left", "start", "share"]) : CalD P Wd.w K mg base 1 "behind_share" 4 F_behind_share :=
  calD S sc_behind_share fun f => d_behind_share TT

abbrev t_rows_of_bars : Stmt := topS 18
theorem sc_rows_of_bars : FnScope ["sizes", "most", "start", "last", "found", "longer", "bars", "left", "share"] ["sizes", "most"] (defScope t_rows_of_bars) := ⟨rfl, rfl, rfl, by decide +kernel, rfl, by decide +kernel, by decide +kernel⟩
def s_rows_of_bars : En → Option Out := sSeq (sPar [3, 4] (pV (mB dSub (mF fLen (aC (mN 0) (aN))) (mC (.int 1))) (pV (mLst (aC (mTup (aC (mTup (aN)) (aC (mN 0) (aN)))) (aN))) (pN))))
  (sSeq (sFor (iR rg1 (aC (mF fLen (aC (mN 0) (aN))) (aN))) (gN 2) (sSeq (sSetO 5 (mLst (aN)))
  (sSeq (sFor (iL (mN 4)) (gT [gN 6, gN 7]) (sFor (iL (mF F_shares_of (aC (mN 7) (aC (mN 2) (aC (mN 3) (aN)))))) (gN 8) (sSeq (sApp 5 (mF F_behind_share (aC (mN 6) (aC (mN 7) (aC (mN 2) (aC (mN 8) (aN)))))))
  (sIf (qThaw 5 (qVal (mB dGt (mF fLen (aC (mN 5) (aN))) (mN 1)))) (sRet (mC .none)) (sNil)))))
  (sFrz 5 (sSet 4 (mF fList (aC (mN 5) (aN))))))))
  (sRet (mF fSorted (aC (mLc (iL (mN 4)) (gT [gN 6, gN 7]) (qYes) (mN 6) [6, 7]) (aN)))))
def F_rows_of_bars : List D → Option D := bodyF 9 s_rows_of_bars
theorem d_rows_of_bars [Wd] (TT : Tx mg) (c_shares_of : CalD P Wd.w K mg base 1 "shares_of" 3 F_shares_of) (c_behind_share : CalD P Wd.w K mg base 1 "behind_share" 4 F_behind_share) {f : Addr} : PSsd (famOf P Wd.w K mg base _ sc_rows_of_bars.nd "rows_of_bars" (defScope t_rows_of_bars) f 1) (defBody t_rows_of_bars) s_rows_of_bars :=
  pssd_cons (psd_par2 (3) (4) rfl rfl rfl rfl (pam_val (ped_sub (b_len rfl TT (pad_cons (nm 0 rfl (by first | exact .inl rfl | exact .inr (.inl rfl) | exact .inr (.inr rfl))) (pad_nil))) (ped_int)) (pam_val (PEo.ped (peo_lst (pad_cons (ped_tup (pad_cons (ped_tup (pad_nil)) (pad_cons (nm 0 rfl (by first | exact .inl rfl | exact .inr (.inl rfl) | exact .inr (.inr rfl))) (pad_nil)))) (pad_nil)))) (pam_nil))) (fun _ => rfl))
  (pssd_cons (psd_for (pid_rg1 rfl TT.range (pad_cons (b_len rfl TT (pad_cons (nm 0 rfl (by first | exact .inl rfl | exact .inr (.inl rfl) | exact .inr (.inr rfl))) (pad_nil))) (pad_nil))) (pgd_name 2 rfl (by first | exact .inl rfl | exact .inr rfl) (by intro _; first | exact .inl rfl | exact .inr rfl)) (pssd_cons (psd_setO 5 rfl (by first | exact .inl rfl | exact .inr rfl) (by intro _; first | exact .inl rfl | exact .inr rfl) (peo_lst (pad_nil)))
  (pssd_cons (psd_for (pid_list (nm 4 rfl (by first | exact .inl rfl | exact .inr (.inl rfl) | exact .inr (.inr rfl)))) (pgd_tup (pgsd_cons (pgd_name 6 rfl (by first | exact .inl rfl | exact .inr rfl) (by intro _; first | exact .inl rfl | exact .inr rfl)) (pgsd_cons (pgd_name 7 rfl (by first | exact .inl rfl | exact .inr rfl) (by intro _; first | exact .inl rfl | exact .inr rfl)) (pgsd_nil)))) (pssd_one (psd_for (pid_list (c_own c_shares_of rfl (pad_cons (nm 7 rfl (by first | exact .inl rfl | exact .inr (.inl rfl) | exact .inr (.inr rfl))) (pad_cons (nm 2 rfl (by first | exact .inl rfl | exact .inr (.inl rfl) | exact .inr (.inr rfl))) (pad_cons (nm 3 rfl (by first | exact .inl rfl | exact .inr (.inl rfl) | exact .inr (.inr rfl))) (pad_nil)))))) (pgd_name 8 rfl (by first | exact .inl rfl | exact .inr rfl) (by intro _; first | exact .inl rfl | exact .inr rfl)) (pssd_cons (psd_app 5 rfl (by first | exact .inl rfl | exact .inr (.inl rfl) | exact .inr (.inr rfl)) (c_own c_behind_share rfl (pad_cons (nm 6 rfl (by first | exact .inl rfl | exact .inr (.inl rfl) | exact .inr (.inr rfl))) (pad_cons (nm 7 rfl (by first | exact .inl rfl | exact .inr (.inl rfl) | exact .inr (.inr rfl))) (pad_cons (nm 2 rfl (by first | exact .inl rfl | exact .inr (.inl rfl) | exact .inr (.inr rfl))) (pad_cons (nm 8 rfl (by first | exact .inl rfl | exact .inr (.inl rfl) | exact .inr (.inr rfl))) (pad_nil)))))))
  (pssd_one (psd_if (ptd_thaw 5 (ptd_cmp (fun _ => op_gt) opE_gt (b_len rfl TT (pad_cons (nm 5 rfl (by first | exact .inl rfl | exact .inr (.inl rfl) | exact .inr (.inr rfl))) (pad_nil))) (nm 1 rfl (by first | exact .inl rfl | exact .inr (.inl rfl) | exact .inr (.inr rfl))) (nomark _))) (pssd_one (psd_ret (ped_non))) (pssd_nil)))))))
  (pssd_frz 5 (pssd_one (psd_set 4 rfl (by first | exact .inl rfl | exact .inr rfl) (by intro _; first | exact .inl rfl | exact .inr rfl) (PEo.ped (b_list rfl TT (pad_cons (nm 5 rfl (by first | exact .inl rfl | exact .inr (.inl rfl) | exact .inr (.inr rfl))) (pad_nil))))))))))
  (pssd_one (psd_ret (PEo.ped (b_sorted rfl TT (pad_cons (PEo.ped (peo_lc (own := [("bars", 6), ("left", 7)]) (pid_list (nm 4 rfl (by first | exact .inl rfl | exact .inr (.inl rfl) | exact .inr (.inr rfl)))) (by dsimp only [famOf, Fam.blk]; decide +kernel) (pgd_tup (pgsd_cons (pgd_name 6 rfl (by first | exact .inl rfl | exact .inr rfl) (by intro _; first | exact .inl rfl | exact .inr rfl)) (pgsd_cons (pgd_name 7 rfl (by first | exact .inl rfl | exact .inr rfl) (by intro _; first | exact .inl rfl | exact .inr rfl)) (pgsd_nil)))) rfl (ptsd_nil) (nm 6 rfl (by first | exact .inl rfl | exact .inr (.inl rfl) | exact .inr (.inr rfl))))) (pad_nil)))))))
theorem ok_rows_of_bars [Wd] (TT : Tx mg) (S : Std K mg "rows_of_bars" t_rows_of_bars ["sizes", "most"]) (c_shares_of : CalD P Wd.w K mg base 1 "shares_of" 3 F_shares_of) (c_behind_share : CalD P Wd.w K mg base 1 "behind_share" 4 F_behind_share) : CalD P Wd.w K mg base 2 "rows_of_bars" 2 F_rows_of_bars :=
  calD S sc_rows_of_bars fun f => d_rows_of_bars TT c_shares_of c_behind_share

abbrev t_is_bar_row_in : Stmt := topS 27
theorem sc_is_bar_row_in : FnScope ["size", "value", "bars", "bar", "many", "pair"] ["size", "value"] (defScope t_is_bar_row_in) := ⟨rfl, rfl, rfl, by decide +kernel, rfl, by decide +kernel, by decide +kernel⟩
def s_is_bar_row_in : En → Option Out := sSeq (sIf (qOr (qNot (qVal (mIsi (isT "tuple") (mN 1)))) (qNot (qVal (mF fAll (aC (mLc (iT (mN 1)) (gN 5) (qYes) (mF F_is_pair_of_bar (aC (mN 0) (aC (mN 5) (aN)))) [5]) (aN)))))) (sRet (mC (.bool false))) (sNil))
  (sSeq (sSet 2 (mLc (iT (mN 1)) (gT [gN 3, gN 4]) (qYes) (mN 3) [3, 4]))
  (sRet (mAnd (mB dEq (mN 2) (mU dSortedSet (mN 2))) (mB dLe (mF fMax (aC (mF F_sizes_in (aC (mN 0) (aC (mN 1) (aN)))) (aN))) (mC (.int 6))))))
def F_is_bar_row_in : List D → Option D := bodyF 6 s_is_bar_row_in
theorem d_is_bar_row_in [Wd] (TT : Tx mg) (TG : TG mg) (c_is_pair_of_bar : CalD P Wd.w K mg base 3 "is_pair_of_bar" 2 F_is_pair_of_bar) (c_sizes_in : CalD P Wd.w K mg base 1 "sizes_in" 2 F_sizes_in) {f : Addr} : PSsd (famOf P Wd.w K mg base _ sc_is_bar_row_in.nd "is_bar_row_in" (defScope t_is_bar_row_in) f 3) (defBody t_is_bar_row_in) s_is_bar_row_in :=
  pssd_cons (psd_if (PWd.pt (pwd_or (ptd_not (ptd_val (b_isTuple rfl rfl TT (nm 1 rfl (by first | exact .inl rfl | exact .inr (.inl rfl) | exact .inr (.inr rfl)))))) (pwd_or1 (ptd_not (ptd_val (b_all rfl TT (pad_cons (PEo.ped (peo_lc (own := [("pair", 5)]) (pid_tup (nm 1 rfl (by first | exact .inl rfl | exact .inr (.inl rfl) | exact .inr (.inr rfl)))) (by dsimp only [famOf, Fam.blk]; decide +kernel) (pgd_name 5 rfl (by first | exact .inl rfl | exact .inr rfl) (by intro _; first | exact .inl rfl | exact .inr rfl)) rfl (ptsd_nil) (c_own c_is_pair_of_bar rfl (pad_cons (nm 0 rfl (by first | exact .inl rfl | exact .inr (.inl rfl) | exact .inr (.inr rfl))) (pad_cons (nm 5 rfl (by first | exact .inl rfl | exact .inr (.inl rfl) | exact .inr (.inr rfl))) (pad_nil)))))) (pad_nil)))))))) (pssd_one (psd_ret (ped_bl))) (pssd_nil))
  (pssd_cons (psd_setLc (own := [("bar", 3), ("many", 4)]) 2 rfl rfl (pid_tup (nm 1 rfl (by first | exact .inl rfl | exact .inr (.inl rfl) | exact .inr (.inr rfl)))) (by dsimp only [famOf, Fam.blk]; decide +kernel) (pgd_tup (pgsd_cons (pgd_name 3 rfl (by first | exact .inl rfl | exact .inr rfl) (by intro _; first | exact .inl rfl | exact .inr rfl)) (pgsd_cons (pgd_name 4 rfl (by first | exact .inl rfl | exact .inr rfl) (by intro _; first | exact .inl rfl | exact .inr rfl)) (pgsd_nil)))) rfl (ptsd_nil) (nm 3 rfl (by first | exact .inl rfl | exact .inr (.inl rfl) | exact .inr (.inr rfl))) (fun _ => sw_true rfl rfl rfl (by decide +kernel)))
  (pssd_one (psd_ret (ped_and (ped_eq (Fam.rm _) (nm 2 rfl (by first | exact .inl rfl | exact .inr (.inl rfl) | exact .inr (.inr rfl))) (PEo.ped (peo_sortedSet rfl rfl TT (nm 2 rfl (by first | exact .inl rfl | exact .inr (.inl rfl) | exact .inr (.inr rfl)))))) (ped_one (ped_le (b_max rfl TT (pad_cons (c_own c_sizes_in rfl (pad_cons (nm 0 rfl (by first | exact .inl rfl | exact .inr (.inl rfl) | exact .inr (.inr rfl))) (pad_cons (nm 1 rfl (by first | exact .inl rfl | exact .inr (.inl rfl) | exact .inr (.inr rfl))) (pad_nil)))) (pad_nil))) (gint rfl TG.MOST_SIZE_bars)))))))
theorem ok_is_bar_row_in [Wd] (TT : Tx mg) (TG : TG mg) (S : Std K mg "is_bar_row_in" t_is_bar_row_in ["size", "value"]) (c_is_pair_of_bar : CalD P Wd.w K mg base 3 "is_pair_of_bar" 2 F_is_pair_of_bar) (c_sizes_in : CalD P Wd.w K mg base 1 "sizes_in" 2 F_sizes_in) : CalD P Wd.w K mg base 4 "is_bar_row_in" 2 F_is_bar_row_in :=
  calD S sc_is_bar_row_in fun f => d_is_bar_row_in TT TG c_is_pair_of_bar c_sizes_in

abbrev t_require_points : Stmt := topS 28
theorem sc_require_points : FnScope ["size"] ["size"] (defScope t_require_points) := ⟨rfl, rfl, rfl, by decide +kernel, rfl, by decide +kernel, by decide +kernel⟩
def s_require_points : En → Option Out := sDrop (mF F_require_count (aC (mN 0) (aC (mC (.int 1)) (aC (mC (.int 6)) (aN)))))
def F_require_points : List D → Option D := bodyF 1 s_require_points
theorem d_require_points [Wd] (TT : Tx mg) (TG : TG mg) (c_require_count : CalD P Wd.w K mg base 3 "require_count" 3 F_require_count) {f : Addr} : PSsd (famOf P Wd.w K mg base _ sc_require_points.nd "require_points" (defScope t_require_points) f 3) (defBody t_require_points) s_require_points :=
  pssd_one (psd_drop (c_own c_require_count rfl (pad_cons (nm 0 rfl (by first | exact .inl rfl | exact .inr (.inl rfl) | exact .inr (.inr rfl))) (pad_cons (ped_int) (pad_cons (gint rfl TG.MOST_POINTS) (pad_nil))))))
theorem ok_require_points [Wd] (TT : Tx mg) (TG : TG mg) (S : Std K mg "require_points" t_require_points ["size"]) (c_require_count : CalD P Wd.w K mg base 3 "require_count" 3 F_require_count) : CalD P Wd.w K mg base 4 "require_points" 1 F_require_points :=
  calD S sc_require_points fun f => d_require_points TT TG c_require_count

abbrev t_require_bars : Stmt := topS 29
theorem sc_require_bars : FnScope ["size", "bars"] ["size", "bars"] (defScope t_require_bars) := ⟨rfl, rfl, rfl, by decide +kernel, rfl, by decide +kernel, by decide +kernel⟩
def s_require_bars : En → Option Out := sIf (qNot (qVal (mF F_is_bar_row_in (aC (mN 0) (aC (mN 1) (aN)))))) (sNever) (sNil)
def F_require_bars : List D → Option D := bodyF 2 s_require_bars
theorem d_require_bars [Wd] (TT : Tx mg) (c_is_bar_row_in : CalD P Wd.w K mg base 4 "is_bar_row_in" 2 F_is_bar_row_in) {f : Addr} : PSsd (famOf P Wd.w K mg base _ sc_require_bars.nd "require_bars" (defScope t_require_bars) f 4) (defBody t_require_bars) s_require_bars :=
  pssd_one (psd_if (ptd_not (ptd_val (c_own c_is_bar_row_in rfl (pad_cons (nm 0 rfl (by first | exact .inl rfl | exact .inr (.inl rfl) | exact .inr (.inr rfl))) (pad_cons (nm 1 rfl (by first | exact .inl rfl | exact .inr (.inl rfl) | exact .inr (.inr rfl))) (pad_nil)))))) (pssd_one (psd_never)) (pssd_nil))
theorem ok_require_bars [Wd] (TT : Tx mg) (S : Std K mg "require_bars" t_require_bars ["size", "bars"]) (c_is_bar_row_in : CalD P Wd.w K mg base 4 "is_bar_row_in" 2 F_is_bar_row_in) : CalD P Wd.w K mg base 5 "require_bars" 2 F_require_bars :=
  calD S sc_require_bars fun f => d_require_bars TT c_is_bar_row_in

abbrev t_require_both_bars : Stmt := topS 30
theorem sc_require_both_bars : FnScope ["size", "one", "other"] ["size", "one", "other"] (defScope t_require_both_bars) := ⟨rfl, rfl, rfl, by decide +kernel, rfl, by decide +kernel, by decide +kernel⟩
def s_require_both_bars : En → Option Out := sSeq (sDrop (mF F_require_points (aC (mN 0) (aN))))
  (sSeq (sDrop (mF F_require_bars (aC (mN 0) (aC (mN 1) (aN)))))
  (sDrop (mF F_require_bars (aC (mN 0) (aC (mN 2) (aN))))))
def F_require_both_bars : List D → Option D := bodyF 3 s_require_both_bars
theorem d_require_both_bars [Wd] (TT : Tx mg) (c_require_points : CalD P Wd.w K mg base 4 "require_points" 1 F_require_points) (c_require_bars : CalD P Wd.w K mg base 5 "require_bars" 2 F_require_bars) {f : Addr} : PSsd (famOf P Wd.w K mg base _ sc_require_both_bars.nd "require_both_bars" (defScope t_require_both_bars) f 5) (defBody t_require_both_bars) s_require_both_bars :=
  pssd_cons (psd_drop (c_own c_require_points rfl (pad_cons (nm 0 rfl (by first | exact .inl rfl | exact .inr (.inl rfl) | exact .inr (.inr rfl))) (pad_nil))))
  (pssd_cons (psd_drop (c_own c_require_bars rfl (pad_cons (nm 0 rfl (by first | exact .inl rfl | exact .inr (.inl rfl) | exact .inr (.inr rfl))) (pad_cons (nm 1 rfl (by first | exact .inl rfl | exact .inr (.inl rfl) | exact .inr (.inr rfl))) (pad_nil)))))
  (pssd_one (psd_drop (c_own c_require_bars rfl (pad_cons (nm 0 rfl (by first | exact .inl rfl | exact .inr (.inl rfl) | exact .inr (.inr rfl))) (pad_cons (nm 2 rfl (by first | exact .inl rfl | exact .inr (.inl rfl) | exact .inr (.inr rfl))) (pad_nil)))))))
theorem ok_require_both_bars [Wd] (TT : Tx mg) (S : Std K mg "require_both_bars" t_require_both_bars ["size", "one", "other"]) (c_require_points : CalD P Wd.w K mg base 4 "require_points" 1 F_require_points) (c_require_bars : CalD P Wd.w K mg base 5 "require_bars" 2 F_require_bars) : CalD P Wd.w K mg base 6 "require_both_bars" 3 F_require_both_bars :=
  calD S sc_require_both_bars fun f => d_require_both_bars TT c_require_points c_require_bars

abbrev t_ranks_in : Stmt := topS 31
theorem sc_ranks_in : FnScope ["size", "bars", "found", "start", "last", "many", "first", "end"] ["size", "bars"] (defScope t_ranks_in) := ⟨rfl, rfl, rfl, by decide +kernel, rfl, by decide +kernel, by decide +kernel⟩
def s_ranks_in : En → Option Out := sSeq (sSetO 2 (mC (.dict [])))
  (sSeq (sFor (iL (mF F_bars_of (aC (mN 0) (aN)))) (gT [gN 3, gN 4]) (sDPut 2 (mTup (aC (mN 3) (aC (mN 4) (aN)))) (mF fSum (aC (mLc (iT (mN 1)) (gT [gT [gN 6, gN 7], gN 5]) (qAnd (qVal (mB dLe (mN 6) (mN 3))) (qVal (mB dLe (mN 4) (mN 7)))) (mN 5) [5, 6, 7]) (aN)))))
  (sFrz 2 (sRet (mN 2))))
def F_ranks_in : List D → Option D := bodyF 8 s_ranks_in
theorem d_ranks_in [Wd] (TT : Tx mg) (c_bars_of : CalD P Wd.w K mg base 1 "bars_of" 1 F_bars_of) {f : Addr} : PSsd (famOf P Wd.w K mg base _ sc_ranks_in.nd "ranks_in" (defScope t_ranks_in) f 1) (defBody t_ranks_in) s_ranks_in :=
  pssd_cons (psd_setO 2 rfl (by first | exact .inl rfl | exact .inr rfl) (by intro _; first | exact .inl rfl | exact .inr rfl) (peo_dnew))
  (pssd_cons (psd_for (pid_list (c_own c_bars_of rfl (pad_cons (nm 0 rfl (by first | exact .inl rfl | exact .inr (.inl rfl) | exact .inr (.inr rfl))) (pad_nil)))) (pgd_tup (pgsd_cons (pgd_name 3 rfl (by first | exact .inl rfl | exact .inr rfl) (by intro _; first | exact .inl rfl | exact .inr rfl)) (pgsd_cons (pgd_name 4 rfl (by first | exact .inl rfl | exact .inr rfl) (by intro _; first | exact .inl rfl | exact .inr rfl)) (pgsd_nil)))) (pssd_one (psd_dput 2 ⟨rfl⟩ rfl (by first | exact .inl rfl | exact .inr (.inl rfl) | exact .inr (.inr rfl)) (ped_tup (pad_cons (nm 3 rfl (by first | exact .inl rfl | exact .inr (.inl rfl) | exact .inr (.inr rfl))) (pad_cons (nm 4 rfl (by first | exact .inl rfl | exact .inr (.inl rfl) | exact .inr (.inr rfl))) (pad_nil)))) (b_sum rfl TT (pad_cons (PEo.ped (peo_lc (own := [("many", 5), ("first", 6), ("end", 7)]) (pid_tup (nm 1 rfl (by first | exact .inl rfl | exact .inr (.inl rfl) | exact .inr (.inr rfl)))) (by dsimp only [famOf, Fam.blk]; decide +kernel) (pgd_tup (pgsd_cons (pgd_tup (pgsd_cons (pgd_name 6 rfl (by first | exact .inl rfl | exact .inr rfl) (by intro _; first | exact .inl rfl | exact .inr rfl)) (pgsd_cons (pgd_name 7 rfl (by first | exact .inl rfl | exact .inr rfl) (by intro _; first | exact .inl rfl | exact .inr rfl)) (pgsd_nil)))) (pgsd_cons (pgd_name 5 rfl (by first | exact .inl rfl | exact .inr rfl) (by intro _; first | exact .inl rfl | exact .inr rfl)) (pgsd_nil)))) rfl (ptsd_one (PWd.pt (pwd_and (ptd_cmp (fun _ => op_le) opE_le (nm 6 rfl (by first | exact .inl rfl | exact .inr (.inl rfl) | exact .inr (.inr rfl))) (nm 3 rfl (by first | exact .inl rfl | exact .inr (.inl rfl) | exact .inr (.inr rfl))) (nomark _)) (pwd_and1 (ptd_cmp (fun _ => op_le) opE_le (nm 4 rfl (by first | exact .inl rfl | exact .inr (.inl rfl) | exact .inr (.inr rfl))) (nm 7 rfl (by first | exact .inl rfl | exact .inr (.inl rfl) | exact .inr (.inr rfl))) (nomark _)))))) (nm 5 rfl (by first | exact .inl rfl | exact .inr (.inl rfl) | exact .inr (.inr rfl))))) (pad_nil))))))
  (pssd_frz 2 (pssd_one (psd_ret (nm 2 rfl (by first | exact .inl rfl | exact .inr (.inl rfl) | exact .inr (.inr rfl)))))))
theorem ok_ranks_in [Wd] (TT : Tx mg) (S : Std K mg "ranks_in" t_ranks_in ["size", "bars"]) (c_bars_of : CalD P Wd.w K mg base 1 "bars_of" 1 F_bars_of) : CalD P Wd.w K mg base 2 "ranks_in" 2 F_ranks_in :=
  calD S sc_ranks_in fun f => d_ranks_in TT c_bars_of

abbrev t_bars_by_ranks : Stmt := topS 32
theorem sc_bars_by_ranks : FnScope ["size", "ranks", "found", "start", "last", "many"] ["size", "ranks"] (defScope t_bars_by_ranks) := ⟨rfl, rfl, rfl, by decide +kernel, rfl, by decide +kernel, by decide +kernel⟩
def s_bars_by_ranks : En → Option Out := sSeq (sSetO 2 (mLst (aN)))
  (sSeq (sFor (iL (mF F_bars_of (aC (mN 0) (aN)))) (gT [gN 3, gN 4]) (sSeq (sSet 5 (mB dSub (mB dSub (mB dGet (mN 1) (mTup (aC (mN 3) (aC (mN 4) (aN))))) (mG2 (mN 1) (mTup (aC (mB dSub (mN 3) (mC (.int 1))) (aC (mN 4) (aN)))) (mC (.int 0)))) (mG2 (mN 1) (mTup (aC (mN 3) (aC (mB dAdd (mN 4) (mC (.int 1))) (aN)))) (mC (.int 0)))))
  (sSeq (sAug 5 (fun i j => i + j) (mG2 (mN 1) (mTup (aC (mB dSub (mN 3) (mC (.int 1))) (aC (mB dAdd (mN 4) (mC (.int 1))) (aN)))) (mC (.int 0))))
  (sIf (qVal (mB dGt (mN 5) (mC (.int 0)))) (sApp 2 (mTup (aC (mTup (aC (mN 3) (aC (mN 4) (aN)))) (aC (mN 5) (aN))))) (sNil)))))
  (sFrz 2 (sRet (mF fTuple (aC (mN 2) (aN))))))
def F_bars_by_ranks : List D → Option D := bodyF 6 s_bars_by_ranks
theorem d_bars_by_ranks [Wd] (TT : Tx mg) (c_bars_of : CalD P Wd.w K mg base 1 "bars_of" 1 F_bars_of) {f : Addr} : PSsd (famOf P Wd.w K mg base _ sc_bars_by_ranks.nd "bars_by_ranks" (defScope t_bars_by_ranks) f 1) (defBody t_bars_by_ranks) s_bars_by_ranks :=
  pssd_cons (psd_setO 2 rfl (by first | exact .inl rfl | exact .inr rfl) (by intro _; first | exact .inl rfl | exact .inr rfl) (peo_lst (pad_nil)))
  (pssd_cons (psd_for (pid_list (c_own c_bars_of rfl (pad_cons (nm 0 rfl (by first | exact .inl rfl | exact .inr (.inl rfl) | exact .inr (.inr rfl))) (pad_nil)))) (pgd_tup (pgsd_cons (pgd_name 3 rfl (by first | exact .inl rfl | exact .inr rfl) (by intro _; first | exact .inl rfl | exact .inr rfl)) (pgsd_cons (pgd_name 4 rfl (by first | exact .inl rfl | exact .inr rfl) (by intro _; first | exact .inl rfl | exact .inr rfl)) (pgsd_nil)))) (pssd_cons (psd_set 5 rfl (by first | exact .inl rfl | exact .inr rfl) (by intro _; first | exact .inl rfl | exact .inr rfl) (ped_sub (ped_sub (ped_dget ⟨rfl⟩ (nm 1 rfl (by first | exact .inl rfl | exact .inr (.inl rfl) | exact .inr (.inr rfl))) (ped_tup (pad_cons (nm 3 rfl (by first | exact .inl rfl | exact .inr (.inl rfl) | exact .inr (.inr rfl))) (pad_cons (nm 4 rfl (by first | exact .inl rfl | exact .inr (.inl rfl) | exact .inr (.inr rfl))) (pad_nil))))) (ped_get2 ⟨rfl⟩ (nm 1 rfl (by first | exact .inl rfl | exact .inr (.inl rfl) | exact .inr (.inr rfl))) (ped_tup (pad_cons (ped_sub (nm 3 rfl (by first | exact .inl rfl | exact .inr (.inl rfl) | exact .inr (.inr rfl))) (ped_int)) (pad_cons (nm 4 rfl (by first | exact .inl rfl | exact .inr (.inl rfl) | exact .inr (.inr rfl))) (pad_nil)))) (ped_int) (fun _ => ⟨rfl, rfl, rfl, rfl⟩))) (ped_get2 ⟨rfl⟩ (nm 1 rfl (by first | exact .inl rfl | exact .inr (.inl rfl) | exact .inr (.inr rfl))) (ped_tup (pad_cons (nm 3 rfl (by first | exact .inl rfl | exact .inr (.inl rfl) | exact .inr (.inr rfl))) (pad_cons (ped_add (nm 4 rfl (by first | exact .inl rfl | exact .inr (.inl rfl) | exact .inr (.inr rfl))) (ped_int)) (pad_nil)))) (ped_int) (fun _ => ⟨rfl, rfl, rfl, rfl⟩))))
  (pssd_cons (psd_aug 5 (fun _ => ip_add) rfl (by first | exact .inl rfl | exact .inr rfl) (by intro _; first | exact .inl rfl | exact .inr rfl) (ped_get2 ⟨rfl⟩ (nm 1 rfl (by first | exact .inl rfl | exact .inr (.inl rfl) | exact .inr (.inr rfl))) (ped_tup (pad_cons (ped_sub (nm 3 rfl (by first | exact .inl rfl | exact .inr (.inl rfl) | exact .inr (.inr rfl))) (ped_int)) (pad_cons (ped_add (nm 4 rfl (by first | exact .inl rfl | exact .inr (.inl rfl) | exact .inr (.inr rfl))) (ped_int)) (pad_nil)))) (ped_int) (fun _ => ⟨rfl, rfl, rfl, rfl⟩)))
  (pssd_one (psd_if (ptd_cmp (fun _ => op_gt) opE_gt (nm 5 rfl (by first | exact .inl rfl | exact .inr (.inl rfl) | exact .inr (.inr rfl))) (ped_int) (nomark _)) (pssd_one (psd_app 2 rfl (by first | exact .inl rfl | exact .inr (.inl rfl) | exact .inr (.inr rfl)) (ped_tup (pad_cons (ped_tup (pad_cons (nm 3 rfl (by first | exact .inl rfl | exact .inr (.inl rfl) | exact .inr (.inr rfl))) (pad_cons (nm 4 rfl (by first | exact .inl rfl | exact .inr (.inl rfl) | exact .inr (.inr rfl))) (pad_nil)))) (pad_cons (nm 5 rfl (by first | exact .inl rfl | exact .inr (.inl rfl) | exact .inr (.inr rfl))) (pad_nil)))))) (pssd_nil))))))
  (pssd_frz 2 (pssd_one (psd_ret (b_tuple rfl TT (pad_cons (nm 2 rfl (by first | exact .inl rfl | exact .inr (.inl rfl) | exact .inr (.inr rfl))) (pad_nil)))))))
theorem ok_bars_by_ranks [Wd] (TT : Tx mg) (S : Std K mg "bars_by_ranks" t_bars_by_ranks ["size", "ranks"]) (c_bars_of : CalD P Wd.w K mg base 1 "bars_of" 1 F_bars_of) : CalD P Wd.w K mg base 2 "bars_by_ranks" 2 F_bars_by_ranks :=
  calD S sc_bars_by_ranks fun f => d_bars_by_ranks TT c_bars_of

abbrev t_bar_homs : Stmt := topS 35
theorem sc_bar_homs : FnScope ["size", "one", "other"] ["size", "one", "other"] (defScope t_bar_homs) := ⟨rfl, rfl, rfl, by decide +kernel, rfl, by decide +kernel, by decide +kernel⟩
def s_bar_homs : En → Option Out := sSeq (sDrop (mF F_require_both_bars (aC (mN 0) (aC (mN 1) (aC (mN 2) (aN))))))
  (sRet (mF F_homs_of_rows (aC (mN 1) (aC (mN 2) (aN)))))
def F_bar_homs : List D → Option D := bodyF 3 s_bar_homs
theorem d_bar_homs [Wd] (TT : Tx mg) (c_require_both_bars : CalD P Wd.w K mg base 6 "require_both_bars" 3 F_require_both_bars) (c_homs_of_rows : CalD P Wd.w K mg base 2 "homs_of_rows" 2 F_homs_of_rows) {f : Addr} : PSsd (famOf P Wd.w K mg base _ sc_bar_homs.nd "bar_homs" (defScope t_bar_homs) f 6) (defBody t_bar_homs) s_bar_homs :=
  pssd_cons (psd_drop (c_own c_require_both_bars rfl (pad_cons (nm 0 rfl (by first | exact .inl rfl | exact .inr (.inl rfl) | exact .inr (.inr rfl))) (pad_cons (nm 1 rfl (by first | exact .inl rfl | exact .inr (.inl rfl) | exact .inr (.inr rfl))) (pad_cons (nm 2 rfl (by first | exact .inl rfl | exact .inr (.inl rfl) | exact .inr (.inr rfl))) (pad_nil))))))
  (pssd_one (psd_ret (c_own c_homs_of_rows rfl (pad_cons (nm 1 rfl (by first | exact .inl rfl | exact .inr (.inl rfl) | exact .inr (.inr rfl))) (pad_cons (nm 2 rfl (by first | exact .inl rfl | exact .inr (.inl rfl) | exact .inr (.inr rfl))) (pad_nil))))))
theorem ok_bar_homs [Wd] (TT : Tx mg) (S : Std K mg "bar_homs" t_bar_homs ["size", "one", "other"]) (c_require_both_bars : CalD P Wd.w K mg base 6 "require_both_bars" 3 F_require_both_bars) (c_homs_of_rows : CalD P Wd.w K mg base 2 "homs_of_rows" 2 F_homs_of_rows) : CalD P Wd.w K mg base 7 "bar_homs" 3 F_bar_homs :=
  calD S sc_bar_homs fun f => d_bar_homs TT c_require_both_bars c_homs_of_rows

abbrev t_are_below : Stmt := topS 36
theorem sc_are_below : FnScope ["size", "one", "other", "ranks", "bar", "rank"] ["size", "one", "other"] (defScope t_are_below) := ⟨rfl, rfl, rfl, by decide +kernel, rfl, by decide +kernel, by decide +kernel⟩
def s_are_below : En → Option Out := sSeq (sDrop (mF F_require_both_bars (aC (mN 0) (aC (mN 1) (aC (mN 2) (aN))))))
  (sSeq (sIf (qVal (mB dNe (mF F_sizes_in (aC (mN 0) (aC (mN 1) (aN)))) (mF F_sizes_in (aC (mN 0) (aC (mN 2) (aN)))))) (sNever) (sNil))
  (sSeq (sSet 3 (mF F_ranks_in (aC (mN 0) (aC (mN 2) (aN)))))
  (sRet (mF fAll (aC (mLc (iI (mF F_ranks_in (aC (mN 0) (aC (mN 1) (aN))))) (gT [gN 4, gN 5]) (qYes) (mB dLe (mN 5) (mB dGet (mN 3) (mN 4))) [4, 5]) (aN))))))
def F_are_below : List D → Option D := bodyF 6 s_are_below
theorem d_are_below [Wd] (TT : Tx mg) (c_require_both_bars : CalD P Wd.w K mg base 6 "require_both_bars" 3 F_require_both_bars) (c_sizes_in : CalD P Wd.w K mg base 1 "sizes_in" 2 F_sizes_in) (c_ranks_in : CalD P Wd.w K mg base 2 "ranks_in" 2 F_ranks_in) {f : Addr} : PSsd (famOf P Wd.w K mg base _ sc_are_below.nd "are_below" (defScope t_are_below) f 6) (defBody t_are_below) s_are_below :=
  pssd_cons (psd_drop (c_own c_require_both_bars rfl (pad_cons (nm 0 rfl (by first | exact .inl rfl | exact .inr (.inl rfl) | exact .inr (.inr rfl))) (pad_cons (nm 1 rfl (by first | exact .inl rfl | exact .inr (.inl rfl) | exact .inr (.inr rfl))) (pad_cons (nm 2 rfl (by first | exact .inl rfl | exact .inr (.inl rfl) | exact .inr (.inr rfl))) (pad_nil))))))
  (pssd_cons (psd_if (ptd_cmp (fun i => rAll_op (op_neD (Fam.rm _ i).units)) (rAll_e fun _ => opE_ne) (c_own c_sizes_in rfl (pad_cons (nm 0 rfl (by first | exact .inl rfl | exact .inr (.inl rfl) | exact .inr (.inr rfl))) (pad_cons (nm 1 rfl (by first | exact .inl rfl | exact .inr (.inl rfl) | exact .inr (.inr rfl))) (pad_nil)))) (c_own c_sizes_in rfl (pad_cons (nm 0 rfl (by first | exact .inl rfl | exact .inr (.inl rfl) | exact .inr (.inr rfl))) (pad_cons (nm 2 rfl (by first | exact .inl rfl | exact .inr (.inl rfl) | exact .inr (.inr rfl))) (pad_nil)))) (nomark _)) (pssd_one (psd_never)) (pssd_nil))
  (pssd_cons (psd_set 3 rfl (by first | exact .inl rfl | exact .inr rfl) (by intro _; first | exact .inl rfl | exact .inr rfl) (c_own c_ranks_in rfl (pad_cons (nm 0 rfl (by first | exact .inl rfl | exact .inr (.inl rfl) | exact .inr (.inr rfl))) (pad_cons (nm 2 rfl (by first | exact .inl rfl | exact .inr (.inl rfl) | exact .inr (.inr rfl))) (pad_nil)))))
  (pssd_one (psd_ret (b_all rfl TT (pad_cons (PEo.ped (peo_lc (own := [("bar", 4), ("rank", 5)]) (pid_ni (c_own c_ranks_in rfl (pad_cons (nm 0 rfl (by first | exact .inl rfl | exact .inr (.inl rfl) | exact .inr (.inr rfl))) (pad_cons (nm 1 rfl (by first | exact .inl rfl | exact .inr (.inl rfl) | exact .inr (.inr rfl))) (pad_nil))))) (by dsimp only [famOf, Fam.blk]; decide +kernel) (pgd_tup (pgsd_cons (pgd_name 4 rfl (by first | exact .inl rfl | exact .inr rfl) (by intro _; first | exact .inl rfl | exact .inr rfl)) (pgsd_cons (pgd_name 5 rfl (by first | exact .inl rfl | exact .inr rfl) (by intro _; first | exact .inl rfl | exact .inr rfl)) (pgsd_nil)))) rfl (ptsd_nil) (ped_le (nm 5 rfl (by first | exact .inl rfl | exact .inr (.inl rfl) | exact .inr (.inr rfl))) (ped_dget ⟨rfl⟩ (nm 3 rfl (by first | exact .inl rfl | exact .inr (.inl rfl) | exact .inr (.inr rfl))) (nm 4 rfl (by first | exact .inl rfl | exact .inr (.inl rfl) | exact .inr (.inr rfl))))))) (pad_nil)))))))
theorem ok_are_below [Wd] (TT : Tx mg) (S : Std K mg "are_below" t_are_below ["size", "one", "other"]) (c_require_both_bars : CalD P Wd.w K mg base 6 "require_both_bars" 3 F_require_both_bars) (c_sizes_in : CalD P Wd.w K mg base 1 "sizes_in" 2 F_sizes_in) (c_ranks_in : CalD P Wd.w K mg base 2 "ranks_in" 2 F_ranks_in) : CalD P Wd.w K mg base 7 "are_below" 3 F_are_below :=
  calD S sc_are_below fun f => d_are_below TT c_require_both_bars c_sizes_in c_ranks_in

abbrev t_require_bar_sizes : Stmt := topS 37
theorem sc_require_bar_sizes : FnScope ["sizes"] ["sizes"] (defScope t_require_bar_sizes) := ⟨rfl, rfl, rfl, by decide +kernel, rfl, by decide +kernel, by decide +kernel⟩
def s_require_bar_sizes : En → Option Out := sIf (qNot (qVal (mF F_is_row (aC (mN 0) (aN))))) (sNever) (sNil)
def F_require_bar_sizes : List D → Option D := bodyF 1 s_require_bar_sizes
theorem d_require_bar_sizes [Wd] (TT : Tx mg) (c_is_row : CalD P Wd.w K mg base 2 "is_row" 1 F_is_row) {f : Addr} : PSsd (famOf P Wd.w K mg base _ sc_require_bar_sizes.nd "require_bar_sizes" (defScope t_require_bar_sizes) f 2) (defBody t_require_bar_sizes) s_require_bar_sizes :=
  pssd_one (psd_if (ptd_not (ptd_val (c_own c_is_row rfl (pad_cons (nm 0 rfl (by first | exact .inl rfl | exact .inr (.inl rfl) | exact .inr (.inr rfl))) (pad_nil))))) (pssd_one (psd_never)) (pssd_nil))
theorem ok_require_bar_sizes [Wd] (TT : Tx mg) (S : Std K mg "require_bar_sizes" t_require_bar_sizes ["sizes"]) (c_is_row : CalD P Wd.w K mg base 2 "is_row" 1 F_is_row) : CalD P Wd.w K mg base 3 "require_bar_sizes" 1 F_require_bar_sizes :=
  calD S sc_require_bar_sizes fun f => d_require_bar_sizes TT c_is_row

abbrev t_bar_rows : Stmt := topS 38
theorem sc_bar_rows : GScope ["sizes", "found"] ["sizes"] (defScope t_bar_rows) := ⟨rfl, rfl, rfl, by decide +kernel, rfl, by decide +kernel, by decide +kernel⟩
def s_bar_rows_0 : En → Option Out := sDrop (mF F_require_bar_sizes (aC (mN 0) (aN)))
def s_bar_rows_1 : En → Option Out := sSet 1 (mF F_rows_of_bars (aC (mN 0) (aC (mC (.int 3000)) (aN))))
def s_bar_rows_2 : En → Option Out := sIf (qVal (mB dIsN (mN 1) (mC .none))) (sNever) (sNil)
def m_bar_rows : En → Option D := mN 1
def G_bar_rows : List D → Option (List D) := bodyG 2 (sSeq s_bar_rows_0 (sSeq s_bar_rows_1 s_bar_rows_2)) m_bar_rows
theorem ok_bar_rows [Wd] (TT : Tx mg) (TG : TG mg) (S : Std K mg "bar_rows" t_bar_rows ["sizes"]) (c_require_bar_sizes : CalD P Wd.w K mg base 3 "require_bar_sizes" 1 F_require_bar_sizes) (c_rows_of_bars : CalD P Wd.w K mg base 2 "rows_of_bars" 2 F_rows_of_bars) : CalG P Wd.w K mg base 4 "bar_rows" 1 G_bar_rows :=
  calG (k := 3) S sc_bar_rows rfl (fun f cdv => (psd_drop (c_own c_require_bar_sizes rfl (pad_cons (nm 0 rfl (by first | exact .inl rfl | exact .inr (.inl rfl) | exact .inr (.inr rfl))) (pad_nil))) : PSd (famG P Wd.w K mg base _ sc_bar_rows.nd "bar_rows" (defScope t_bar_rows) f cdv 3) _ s_bar_rows_0))
    (fun f cdv => (psd_set 1 rfl (by first | exact .inl rfl | exact .inr rfl) (by intro _; first | exact .inl rfl | exact .inr rfl) (c_own c_rows_of_bars rfl (pad_cons (nm 0 rfl (by first | exact .inl rfl | exact .inr (.inl rfl) | exact .inr (.inr rfl))) (pad_cons (gint rfl TG.MAX_BAR_ROWS) (pad_nil)))) : PSd (famG P Wd.w K mg base _ sc_bar_rows.nd "bar_rows" (defScope t_bar_rows) f cdv 3) _ s_bar_rows_1))
    (fun f cdv => (psd_if (ptd_cmp (fun _ => op_isN) opE_isN (nm 1 rfl (by first | exact .inl rfl | exact .inr (.inl rfl) | exact .inr (.inr rfl))) (ped_non) (nomark _)) (pssd_one (psd_never)) (pssd_nil) : PSd (famG P Wd.w K mg base _ sc_bar_rows.nd "bar_rows" (defScope t_bar_rows) f cdv 3) _ s_bar_rows_2)) (fun f cdv => (nm 1 rfl (by first | exact .inl rfl | exact .inr (.inl rfl) | exact .inr (.inr rfl)) : PEd (famG P Wd.w K mg base _ sc_bar_rows.nd "bar_rows" (defScope t_bar_rows) f cdv 3).X _ m_bar_rows))

abbrev t_greatest_bars : Stmt := topS 39
theorem sc_greatest_bars : FnScope ["sizes", "size", "start", "last"] ["sizes"] (defScope t_greatest_bars) := ⟨rfl, rfl, rfl, by decide +kernel, rfl, by decide +kernel, by decide +kernel⟩
def s_greatest_bars : En → Option Out := sSeq (sDrop (mF F_require_bar_sizes (aC (mN 0) (aN))))
  (sSeq (sSet 1 (mF fLen (aC (mN 0) (aN))))
  (sRet (mF F_bars_by_ranks (aC (mN 1) (aC (mDc (iL (mF F_bars_of (aC (mN 1) (aN)))) (gT [gN 2, gN 3]) (mTup (aC (mN 2) (aC (mN 3) (aN)))) (mF fMin (aC (mSl (mN 0) (mN 2) (mB dAdd (mN 3) (mC (.int 1)))) (aN))) [2, 3]) (aN))))))
def F_greatest_bars : List D → Option D := bodyF 4 s_greatest_bars
theorem d_greatest_bars [Wd] (TT : Tx mg) (c_require_bar_sizes : CalD P Wd.w K mg base 3 "require_bar_sizes" 1 F_require_bar_sizes) (c_bars_of : CalD P Wd.w K mg base 1 "bars_of" 1 F_bars_of) (c_bars_by_ranks : CalD P Wd.w K mg base 2 "bars_by_ranks" 2 F_bars_by_ranks) {f : Addr} : PSsd (famOf P Wd.w K mg base _ sc_greatest_bars.nd "greatest_bars" (defScope t_greatest_bars) f 3) (defBody t_greatest_bars) s_greatest_bars :=
  pssd_cons (psd_drop (c_own c_require_bar_sizes rfl (pad_cons (nm 0 rfl (by first | exact .inl rfl | exact .inr (.inl rfl) | exact .inr (.inr rfl))) (pad_nil))))
  (pssd_cons (psd_set 1 rfl (by first | exact .inl rfl | exact .inr rfl) (by intro _; first | exact .inl rfl | exact .inr rfl) (b_len rfl TT (pad_cons (nm 0 rfl (by first | exact .inl rfl | exact .inr (.inl rfl) | exact .inr (.inr rfl))) (pad_nil))))
  (pssd_one (psd_ret (c_own c_bars_by_ranks rfl (pad_cons (nm 1 rfl (by first | exact .inl rfl | exact .inr (.inl rfl) | exact .inr (.inr rfl))) (pad_cons (PEo.ped (peo_dc (own := [("start", 2), ("last", 3)]) ⟨rfl⟩ (pid_list (c_own c_bars_of rfl (pad_cons (nm 1 rfl (by first | exact .inl rfl | exact .inr (.inl rfl) | exact .inr (.inr rfl))) (pad_nil)))) (by dsimp only [famOf, Fam.blk]; decide +kernel) (pgd_tup (pgsd_cons (pgd_name 2 rfl (by first | exact .inl rfl | exact .inr rfl) (by intro _; first | exact .inl rfl | exact .inr rfl)) (pgsd_cons (pgd_name 3 rfl (by first | exact .inl rfl | exact .inr rfl) (by intro _; first | exact .inl rfl | exact .inr rfl)) (pgsd_nil)))) rfl (ped_tup (pad_cons (nm 2 rfl (by first | exact .inl rfl | exact .inr (.inl rfl) | exact .inr (.inr rfl))) (pad_cons (nm 3 rfl (by first | exact .inl rfl | exact .inr (.inl rfl) | exact .inr (.inr rfl))) (pad_nil)))) (b_min rfl TT (pad_cons (ped_slT (nm 0 rfl (by first | exact .inl rfl | exact .inr (.inl rfl) | exact .inr (.inr rfl))) (nm 2 rfl (by first | exact .inl rfl | exact .inr (.inl rfl) | exact .inr (.inr rfl))) (ped_add (nm 3 rfl (by first | exact .inl rfl | exact .inr (.inl rfl) | exact .inr (.inr rfl))) (ped_int))) (pad_nil))))) (pad_nil)))))))
theorem ok_greatest_bars [Wd] (TT : Tx mg) (S : Std K mg "greatest_bars" t_greatest_bars ["sizes"]) (c_require_bar_sizes : CalD P Wd.w K mg base 3 "require_bar_sizes" 1 F_require_bar_sizes) (c_bars_of : CalD P Wd.w K mg base 1 "bars_of" 1 F_bars_of) (c_bars_by_ranks : CalD P Wd.w K mg base 2 "bars_by_ranks" 2 F_bars_by_ranks) : CalD P Wd.w K mg base 4 "greatest_bars" 1 F_greatest_bars :=
  calD S sc_greatest_bars fun f => d_greatest_bars TT c_require_bar_sizes c_bars_of c_bars_by_ranks

abbrev t_law_bb_all : Stmt := topS 45
theorem sc_law_bb_all : FnScope ["_law_size", "_law_s", "_law_t", "_law_at"] ["_law_size"] (defScope t_law_bb_all) := ⟨rfl, rfl, rfl, by decide +kernel, rfl, by decide +kernel, by decide +kernel⟩
def s_law_bb_all : En → Option Out := sRet (mLc (iL (mLc (iR rg1 (aC (mB dMul (mN 0) (mN 0)) (aN))) (gN 3) (qYes) (mTup (aC (mB dDiv (mN 3) (mN 0)) (aC (mB dMod (mN 3) (mN 0)) (aN)))) [3])) (gT [gN 1, gN 2]) (qVal (mB dLe (mN 1) (mN 2))) (mTup (aC (mN 1) (aC (mN 2) (aN)))) [1, 2])
def F_law_bb_all : List D → Option D := bodyF 4 s_law_bb_all
theorem d_law_bb_all [Wd] (TT : Tx mg) {f : Addr} : PSsd (famOf P Wd.w K mg base _ sc_law_bb_all.nd "_law_bb_all" (defScope t_law_bb_all) f 0) (defBody t_law_bb_all) s_law_bb_all :=
  pssd_one (psd_ret (PEo.ped (peo_lc (own := [("_law_s", 1), ("_law_t", 2)]) (pid_list (PEo.ped (peo_lc (own := [("_law_at", 3)]) (pid_rg1 rfl TT.range (pad_cons (ped_mul (nm 0 rfl (by first | exact .inl rfl | exact .inr (.inl rfl) | exact .inr (.inr rfl))) (nm 0 rfl (by first | exact .inl rfl | exact .inr (.inl rfl) | exact .inr (.inr rfl)))) (pad_nil))) (by dsimp only [famOf, Fam.blk]; decide +kernel) (pgd_name 3 rfl (by first | exact .inl rfl | exact .inr rfl) (by intro _; first | exact .inl rfl | exact .inr rfl)) rfl (ptsd_nil) (ped_tup (pad_cons (ped_div (nm 3 rfl (by first | exact .inl rfl | exact .inr (.inl rfl) | exact .inr (.inr rfl))) (nm 0 rfl (by first | exact .inl rfl | exact .inr (.inl rfl) | exact .inr (.inr rfl)))) (pad_cons (ped_mod (nm 3 rfl (by first | exact .inl rfl | exact .inr (.inl rfl) | exact .inr (.inr rfl))) (nm 0 rfl (by first | exact .inl rfl | exact .inr (.inl rfl) | exact .inr (.inr rfl)))) (pad_nil))))))) (by dsimp only [famOf, Fam.blk]; decide +kernel) (pgd_tup (pgsd_cons (pgd_name 1 rfl (by first | exact .inl rfl | exact .inr rfl) (by intro _; first | exact .inl rfl | exact .inr rfl)) (pgsd_cons (pgd_name 2 rfl (by first | exact .inl rfl | exact .inr rfl) (by intro _; first | exact .inl rfl | exact .inr rfl)) (pgsd_nil)))) rfl (ptsd_one (ptd_cmp (fun _ => op_le) opE_le (nm 1 rfl (by first | exact .inl rfl | exact .inr (.inl rfl) | exact .inr (.inr rfl))) (nm 2 rfl (by first | exact .inl rfl | exact .inr (.inl rfl) | exact .inr (.inr rfl))) (nomark _))) (ped_tup (pad_cons (nm 1 rfl (by first | exact .inl rfl | exact .inr (.inl rfl) | exact .inr (.inr rfl))) (pad_cons (nm 2 rfl (by first | exact .inl rfl | exact .inr (.inl rfl) | exact .inr (.inr rfl))) (pad_nil)))))))
theorem ok_law_bb_all [Wd] (TT : Tx mg) (S : Std K mg "_law_bb_all" t_law_bb_all ["_law_size"]) : CalD P Wd.w K mg base 1 "_law_bb_all" 1 F_law_bb_all :=
  calD S sc_law_bb_all fun f => d_law_bb_all TT

abbrev t_law_bb_ranks : Stmt := topS 46
theorem sc_law_bb_ranks : FnScope ["_law_size", "_law_bars", "_law_found", "_law_s", "_law_t", "_law_many", "_law_u", "_law_v"] ["_law_size", "_law_bars"] (defScope t_law_bb_ranks) := ⟨rfl, rfl, rfl, by decide +kernel, rfl, by decide +kernel, by decide +kernel⟩
def s_law_bb_ranks : En → Option Out := sSeq (sSetO 2 (mC (.dict [])))
  (sSeq (sFor (iL (mF F_law_bb_all (aC (mN 0) (aN)))) (gT [gN 3, gN 4]) (sDPut 2 (mTup (aC (mN 3) (aC (mN 4) (aN)))) (mF fSum (aC (mLc (iT (mN 1)) (gT [gT [gN 6, gN 7], gN 5]) (qAnd (qVal (mB dLe (mN 6) (mN 3))) (qVal (mB dLe (mN 4) (mN 7)))) (mN 5) [5, 6, 7]) (aN)))))
  (sFrz 2 (sRet (mN 2))))
def F_law_bb_ranks : List D → Option D := bodyF 8 s_law_bb_ranks
theorem d_law_bb_ranks [Wd] (TT : Tx mg) (c_law_bb_all : CalD P Wd.w K mg base 1 "_law_bb_all" 1 F_law_bb_all) {f : Addr} : PSsd (famOf P Wd.w K mg base _ sc_law_bb_ranks.nd "_law_bb_ranks" (defScope t_law_bb_ranks) f 1) (defBody t_law_bb_ranks) s_law_bb_ranks :=
  pssd_cons (psd_setO 2 rfl (by first | exact .inl rfl | exact .inr rfl) (by intro _; first | exact .inl rfl | exact .inr rfl) (peo_dnew))
  (pssd_cons (psd_for (pid_list (c_own c_law_bb_all rfl (pad_cons (nm 0 rfl (by first | exact .inl rfl | exact .inr (.inl rfl) | exact .inr (.inr rfl))) (pad_nil)))) (pgd_tup (pgsd_cons (pgd_name 3 rfl (by first | exact .inl rfl | exact .inr rfl) (by intro _; first | exact .inl rfl | exact .inr rfl)) (pgsd_cons (pgd_name 4 rfl (by first | exact .inl rfl | exact .inr rfl) (by intro _; first | exact .inl rfl | exact .inr rfl)) (pgsd_nil)))) (pssd_one (psd_dput 2 ⟨rfl⟩ rfl (by first | exact .inl rfl | exact .inr (.inl rfl) | exact .inr (.inr rfl)) (ped_tup (pad_cons (nm 3 rfl (by first | exact .inl rfl | exact .inr (.inl rfl) | exact .inr (.inr rfl))) (pad_cons (nm 4 rfl (by first | exact .inl rfl | exact .inr (.inl rfl) | exact .inr (.inr rfl))) (pad_nil)))) (b_sum rfl TT (pad_cons (PEo.ped (peo_lc (own := [("_law_many", 5), ("_law_u", 6), ("_law_v", 7)]) (pid_tup (nm 1 rfl (by first | exact .inl rfl | exact .inr (.inl rfl) | exact .inr (.inr rfl)))) (by dsimp only [famOf, Fam.blk]; decide +kernel) (pgd_tup (pgsd_cons (pgd_tup (pgsd_cons (pgd_name 6 rfl (by first | exact .inl rfl | exact .inr rfl) (by intro _; first | exact .inl rfl | exact .inr rfl)) (pgsd_cons (pgd_name 7 rfl (by first | exact .inl rfl | exact .inr rfl) (by intro _; first | exact .inl rfl | exact .inr rfl)) (pgsd_nil)))) (pgsd_cons (pgd_name 5 rfl (by first | exact .inl rfl | exact .inr rfl) (by intro _; first | exact .inl rfl | exact .inr rfl)) (pgsd_nil)))) rfl (ptsd_one (PWd.pt (pwd_and (ptd_cmp (fun _ => op_le) opE_le (nm 6 rfl (by first | exact .inl rfl | exact .inr (.inl rfl) | exact .inr (.inr rfl))) (nm 3 rfl (by first | exact .inl rfl | exact .inr (.inl rfl) | exact .inr (.inr rfl))) (nomark _)) (pwd_and1 (ptd_cmp (fun _ => op_le) opE_le (nm 4 rfl (by first | exact .inl rfl | exact .inr (.inl rfl) | exact .inr (.inr rfl))) (nm 7 rfl (by first | exact .inl rfl | exact .inr (.inl rfl) | exact .inr (.inr rfl))) (nomark _)))))) (nm 5 rfl (by first | exact .inl rfl | exact .inr (.inl rfl) | exact .inr (.inr rfl))))) (pad_nil))))))
  (pssd_frz 2 (pssd_one (psd_ret (nm 2 rfl (by first | exact .inl rfl | exact .inr (.inl rfl) | exact .inr (.inr rfl)))))))
theorem ok_law_bb_ranks [Wd] (TT : Tx mg) (S : Std K mg "_law_bb_ranks" t_law_bb_ranks ["_law_size", "_law_bars"]) (c_law_bb_all : CalD P Wd.w K mg base 1 "_law_bb_all" 1 F_law_bb_all) : CalD P Wd.w K mg base 2 "_law_bb_ranks" 2 F_law_bb_ranks :=
  calD S sc_law_bb_ranks fun f => d_law_bb_ranks TT c_law_bb_all

abbrev t_law_bb_told : Stmt := topS 47
theorem sc_law_bb_told : FnScope ["_law_counts", "_law_bar"] ["_law_counts"] (defScope t_law_bb_told) := ⟨rfl, rfl, rfl, by decide +kernel, rfl, by decide +kernel, by decide +kernel⟩
def s_law_bb_told : En → Option Out := sRet (mF fTuple (aC (mLc (iL (mF fSortedD (aC (mN 0) (aN)))) (gN 1) (qVal (mB dGt (mB dGet (mN 0) (mN 1)) (mC (.int 0)))) (mTup (aC (mN 1) (aC (mB dGet (mN 0) (mN 1)) (aN)))) [1]) (aN)))
def F_law_bb_told : List D → Option D := bodyF 2 s_law_bb_told
theorem d_law_bb_told [Wd] (TT : Tx mg) {f : Addr} : PSsd (famOf P Wd.w K mg base _ sc_law_bb_told.nd "_law_bb_told" (defScope t_law_bb_told) f 0) (defBody t_law_bb_told) s_law_bb_told :=
  pssd_one (psd_ret (b_tuple rfl TT (pad_cons (PEo.ped (peo_lc (own := [("_law_bar", 1)]) (pid_list (PEo.ped (b_sortedD rfl TT (pad_cons (nm 0 rfl (by first | exact .inl rfl | exact .inr (.inl rfl) | exact .inr (.inr rfl))) (pad_nil))))) (by dsimp only [famOf, Fam.blk]; decide +kernel) (pgd_name 1 rfl (by first | exact .inl rfl | exact .inr rfl) (by intro _; first | exact .inl rfl | exact .inr rfl)) rfl (ptsd_one (ptd_cmp (fun _ => op_gt) opE_gt (ped_dget ⟨rfl⟩ (nm 0 rfl (by first | exact .inl rfl | exact .inr (.inl rfl) | exact .inr (.inr rfl))) (nm 1 rfl (by first | exact .inl rfl | exact .inr (.inl rfl) | exact .inr (.inr rfl)))) (ped_int) (nomark _))) (ped_tup (pad_cons (nm 1 rfl (by first | exact .inl rfl | exact .inr (.inl rfl) | exact .inr (.inr rfl))) (pad_cons (ped_dget ⟨rfl⟩ (nm 0 rfl (by first | exact .inl rfl | exact .inr (.inl rfl) | exact .inr (.inr rfl))) (nm 1 rfl (by first | exact .inl rfl | exact .inr (.inl rfl) | exact .inr (.inr rfl)))) (pad_nil)))))) (pad_nil))))
theorem ok_law_bb_told [Wd] (TT : Tx mg) (S : Std K mg "_law_bb_told" t_law_bb_told ["_law_counts"]) : CalD P Wd.w K mg base 1 "_law_bb_told" 1 F_law_bb_told :=
  calD S sc_law_bb_told fun f => d_law_bb_told TT

abbrev t_law_bb_longer : Stmt := topS 49
theorem sc_law_bb_longer : FnScope ["_law_counts", "_law_left", "_law_bar", "_law_found", "_law_many", "_law_s", "_law_t", "_law_more", "_law_rest", "_law_at", "_law_entry"] ["_law_counts", "_law_left", "_law_bar"] (defScope t_law_bb_longer) := ⟨rfl, rfl, rfl, by decide +kernel, rfl, by decide +kernel, by decide +kernel⟩
def s_law_bb_longer : En → Option Out := sSeq (sAsg (gT [gN 5, gN 6]) (mN 2))
  (sSeq (sSetO 3 (mLst (aN)))
  (sSeq (sFor (iR rg1 (aC (mB dAdd (mF fMin (aC (mSl (mN 1) (mN 5) (mB dAdd (mN 6) (mC (.int 1)))) (aN))) (mC (.int 1))) (aN))) (gN 4) (sSeq (sSetO 7 (mF fDictL (aC (mU dItems (mN 0)) (aN))))
  (sSeq (sDPut 7 (mN 2) (mN 4))
  (sSeq (sSet 8 (mF fTuple (aC (mLc (iE (aC (mN 1) (aN))) (gT [gN 9, gN 10]) (qYes) (mB dSub (mN 10) (mB dMul (mN 4) (mF fInt (aC (mCh2 dLe dLe (mN 5) (mN 9) (mN 6)) (aN))))) [9, 10]) (aN))))
  (sIf (qOr (qVal (mB dLt (mN 6) (mB dSub (mF fLen (aC (mN 1) (aN))) (mC (.int 1))))) (qVal (mB dEq (mB dIx (mN 8) (mN 5)) (mC (.int 0))))) (sFrz 7 (sApp 3 (mTup (aC (mN 7) (aC (mN 8) (aN)))))) (sNil))))))
  (sFrz 3 (sRet (mN 3)))))
def F_law_bb_longer : List D → Option D := bodyF 11 s_law_bb_longer
theorem d_law_bb_longer [Wd] (TT : Tx mg) {f : Addr} : PSsd (famOf P Wd.w K mg base _ sc_law_bb_longer.nd "_law_bb_longer" (defScope t_law_bb_longer) f 0) (defBody t_law_bb_longer) s_law_bb_longer :=
  pssd_cons (psd_asg (nm 2 rfl (by first | exact .inl rfl | exact .inr (.inl rfl) | exact .inr (.inr rfl))) (pgd_tup (pgsd_cons (pgd_name 5 rfl (by first | exact .inl rfl | exact .inr rfl) (by intro _; first | exact .inl rfl | exact .inr rfl)) (pgsd_cons (pgd_name 6 rfl (by first | exact .inl rfl | exact .inr rfl) (by intro _; first | exact .inl rfl | exact .inr rfl)) (pgsd_nil)))))
  (pssd_cons (psd_setO 3 rfl (by first | exact .inl rfl | exact .inr rfl) (by intro _; first | exact .inl rfl | exact .inr rfl) (peo_lst (pad_nil)))
  (pssd_cons (psd_for (pid_rg1 rfl TT.range (pad_cons (ped_add (b_min rfl TT (pad_cons (ped_slT (nm 1 rfl (by first | exact .inl rfl | exact .inr (.inl rfl) | exact .inr (.inr rfl))) (nm 5 rfl (by first | exact .inl rfl | exact .inr (.inl rfl) | exact .inr (.inr rfl))) (ped_add (nm 6 rfl (by first | exact .inl rfl | exact .inr (.inl rfl) | exact .inr (.inr rfl))) (ped_int))) (pad_nil))) (ped_int)) (pad_nil))) (pgd_name 4 rfl (by first | exact .inl rfl | exact .inr rfl) (by intro _; first | exact .inl rfl | exact .inr rfl)) (pssd_cons (psd_setO 7 rfl (by first | exact .inl rfl | exact .inr rfl) (by intro _; first | exact .inl rfl | exact .inr rfl) (b_dict ⟨rfl⟩ rfl TT (pad_cons (PEo.ped (peo_nitems rfl TT (nm 0 rfl (by first | exact .inl rfl | exact .inr (.inl rfl) | exact .inr (.inr rfl))))) (pad_nil))))
  (pssd_cons (psd_dput 7 ⟨rfl⟩ rfl (by first | exact .inl rfl | exact .inr (.inl rfl) | exact .inr (.inr rfl)) (nm 2 rfl (by first | exact .inl rfl | exact .inr (.inl rfl) | exact .inr (.inr rfl))) (nm 4 rfl (by first | exact .inl rfl | exact .inr (.inl rfl) | exact .inr (.inr rfl))))
  (pssd_cons (psd_set 8 rfl (by first | exact .inl rfl | exact .inr rfl) (by intro _; first | exact .inl rfl | exact .inr rfl) (b_tuple rfl TT (pad_cons (PEo.ped (peo_lc (own := [("_law_at", 9), ("_law_entry", 10)]) (pid_enumT rfl TT.enumerate (pad_cons (nm 1 rfl (by first | exact .inl rfl | exact .inr (.inl rfl) | exact .inr (.inr rfl))) (pad_nil))) (by dsimp only [famOf, Fam.blk]; decide +kernel) (pgd_tup (pgsd_cons (pgd_name 9 rfl (by first | exact .inl rfl | exact .inr rfl) (by intro _; first | exact .inl rfl | exact .inr rfl)) (pgsd_cons (pgd_name 10 rfl (by first | exact .inl rfl | exact .inr rfl) (by intro _; first | exact .inl rfl | exact .inr rfl)) (pgsd_nil)))) rfl (ptsd_nil) (ped_sub (nm 10 rfl (by first | exact .inl rfl | exact .inr (.inl rfl) | exact .inr (.inr rfl))) (ped_mul (nm 4 rfl (by first | exact .inl rfl | exact .inr (.inl rfl) | exact .inr (.inr rfl))) (b_int rfl TT (pad_cons (ped_ch2 (fun _ => op_le) (fun _ => op_le) opE_le opE_le (nm 5 rfl (by first | exact .inl rfl | exact .inr (.inl rfl) | exact .inr (.inr rfl))) (nm 9 rfl (by first | exact .inl rfl | exact .inr (.inl rfl) | exact .inr (.inr rfl))) (nm 6 rfl (by first | exact .inl rfl | exact .inr (.inl rfl) | exact .inr (.inr rfl))) rfl) (pad_nil))))))) (pad_nil))))
  (pssd_one (psd_if (PWd.pt (pwd_or (ptd_cmp (fun _ => op_lt) opE_lt (nm 6 rfl (by first | exact .inl rfl | exact .inr (.inl rfl) | exact .inr (.inr rfl))) (ped_sub (b_len rfl TT (pad_cons (nm 1 rfl (by first | exact .inl rfl | exact .inr (.inl rfl) | exact .inr (.inr rfl))) (pad_nil))) (ped_int)) (nomark _)) (pwd_or1 (ptd_cmp (fun i => rAll_op (op_eqD (Fam.rm _ i).units)) (rAll_e fun _ => opE_eq) (ped_ix (nm 8 rfl (by first | exact .inl rfl | exact .inr (.inl rfl) | exact .inr (.inr rfl))) (nm 5 rfl (by first | exact .inl rfl | exact .inr (.inl rfl) | exact .inr (.inr rfl)))) (ped_int) (nomark _))))) (pssd_frz 7 (pssd_one (psd_app 3 rfl (by first | exact .inl rfl | exact .inr (.inl rfl) | exact .inr (.inr rfl)) (ped_tup (pad_cons (nm 7 rfl (by first | exact .inl rfl | exact .inr (.inl rfl) | exact .inr (.inr rfl))) (pad_cons (nm 8 rfl (by first | exact .inl rfl | exact .inr (.inl rfl) | exact .inr (.inr rfl))) (pad_nil))))))) (pssd_nil)))))))
  (pssd_frz 3 (pssd_one (psd_ret (nm 3 rfl (by first | exact .inl rfl | exact .inr (.inl rfl) | exact .inr (.inr rfl))))))))
theorem ok_law_bb_longer [Wd] (TT : Tx mg) (S : Std K mg "_law_bb_longer" t_law_bb_longer ["_law_counts", "_law_left", "_law_bar"]) : CalD P Wd.w K mg base 1 "_law_bb_longer" 3 F_law_bb_longer :=
  calD S sc_law_bb_longer fun f => d_law_bb_longer TT

abbrev t_law_bb_rows : Stmt := topS 48
theorem sc_law_bb_rows : FnScope ["_law_sizes", "_law_size", "_law_found", "_law_s", "_law_t", "_law_longer", "_law_counts", "_law_left"] ["_law_sizes"] (defScope t_law_bb_rows) := ⟨rfl, rfl, rfl, by decide +kernel, rfl, by decide +kernel, by decide +kernel⟩
def s_law_bb_rows : En → Option Out := sSeq (sPar [1, 2] (pV (mF fLen (aC (mN 0) (aN))) (pV (mLst (aC (mTup (aC (mC (.dict [])) (aC (mF fTuple (aC (mN 0) (aN))) (aN)))) (aN))) (pN))))
  (sSeq (sFor (iL (mF F_law_bb_all (aC (mN 1) (aN)))) (gT [gN 3, gN 4]) (sSeq (sSetO 5 (mLst (aN)))
  (sSeq (sFor (iL (mN 2)) (gT [gN 6, gN 7]) (sExt 5 (mF F_law_bb_longer (aC (mN 6) (aC (mN 7) (aC (mTup (aC (mN 3) (aC (mN 4) (aN)))) (aN)))))))
  (sFrz 5 (sSet 2 (mF fList (aC (mN 5) (aN))))))))
  (sRet (mF fSorted (aC (mLc (iL (mN 2)) (gT [gN 6, gN 7]) (qVal (mB dEq (mF fMax (aC (mN 7) (aN))) (mC (.int 0)))) (mF F_law_bb_told (aC (mN 6) (aN))) [6, 7]) (aN)))))
def F_law_bb_rows : List D → Option D := bodyF 8 s_law_bb_rows
theorem d_law_bb_rows [Wd] (TT : Tx mg) (c_law_bb_all : CalD P Wd.w K mg base 1 "_law_bb_all" 1 F_law_bb_all) (c_law_bb_longer : CalD P Wd.w K mg base 1 "_law_bb_longer" 3 F_law_bb_longer) (c_law_bb_told : CalD P Wd.w K mg base 1 "_law_bb_told" 1 F_law_bb_told) {f : Addr} : PSsd (famOf P Wd.w K mg base _ sc_law_bb_rows.nd "_law_bb_rows" (defScope t_law_bb_rows) f 1) (defBody t_law_bb_rows) s_law_bb_rows :=
  pssd_cons (psd_par2 (1) (2) rfl rfl rfl rfl (pam_val (b_len rfl TT (pad_cons (nm 0 rfl (by first | exact .inl rfl | exact .inr (.inl rfl) | exact .inr (.inr rfl))) (pad_nil))) (pam_val (PEo.ped (peo_lst (pad_cons (ped_tup (pad_cons (PEo.ped (peo_dnew)) (pad_cons (b_tuple rfl TT (pad_cons (nm 0 rfl (by first | exact .inl rfl | exact .inr (.inl rfl) | exact .inr (.inr rfl))) (pad_nil))) (pad_nil)))) (pad_nil)))) (pam_nil))) (fun _ => rfl))
  (pssd_cons (psd_for (pid_list (c_own c_law_bb_all rfl (pad_cons (nm 1 rfl (by first | exact .inl rfl | exact .inr (.inl rfl) | exact .inr (.inr rfl))) (pad_nil)))) (pgd_tup (pgsd_cons (pgd_name 3 rfl (by first | exact .inl rfl | exact .inr rfl) (by intro _; first | exact .inl rfl | exact .inr rfl)) (pgsd_cons (pgd_name 4 rfl (by first | exact .inl rfl | exact .inr rfl) (by intro _; first | exact .inl rfl | exact .inr rfl)) (pgsd_nil)))) (pssd_cons (psd_setO 5 rfl (by first | exact .inl rfl | exact .inr rfl) (by intro _; first | exact .inl rfl | exact .inr rfl) (peo_lst (pad_nil)))
  (pssd_cons (psd_for (pid_list (nm 2 rfl (by first | exact .inl rfl | exact .inr (.inl rfl) | exact .inr (.inr rfl)))) (pgd_tup (pgsd_cons (pgd_name 6 rfl (by first | exact .inl rfl | exact .inr rfl) (by intro _; first | exact .inl rfl | exact .inr rfl)) (pgsd_cons (pgd_name 7 rfl (by first | exact .inl rfl | exact .inr rfl) (by intro _; first | exact .inl rfl | exact .inr rfl)) (pgsd_nil)))) (pssd_one (psd_ext 5 rfl (by first | exact .inl rfl | exact .inr (.inl rfl) | exact .inr (.inr rfl)) (c_own c_law_bb_longer rfl (pad_cons (nm 6 rfl (by first | exact .inl rfl | exact .inr (.inl rfl) | exact .inr (.inr rfl))) (pad_cons (nm 7 rfl (by first | exact .inl rfl | exact .inr (.inl rfl) | exact .inr (.inr rfl))) (pad_cons (ped_tup (pad_cons (nm 3 rfl (by first | exact .inl rfl | exact .inr (.inl rfl) | exact .inr (.inr rfl))) (pad_cons (nm 4 rfl (by first | exact .inl rfl | exact .inr (.inl rfl) | exact .inr (.inr rfl))) (pad_nil)))) (pad_nil))))))))
  (pssd_frz 5 (pssd_one (psd_set 2 rfl (by first | exact .inl rfl | exact .inr rfl) (by intro _; first | exact .inl rfl | exact .inr rfl) (PEo.ped (b_list rfl TT (pad_cons (nm 5 rfl (by first | exact .inl rfl | exact .inr (.inl rfl) | exact .inr (.inr rfl))) (pad_nil))))))))))
  (pssd_one (psd_ret (PEo.ped (b_sorted rfl TT (pad_cons (PEo.ped (peo_lc (own := [("_law_counts", 6), ("_law_left", 7)]) (pid_list (nm 2 rfl (by first | exact .inl rfl | exact .inr (.inl rfl) | exact .inr (.inr rfl)))) (by dsimp only [famOf, Fam.blk]; decide +kernel) (pgd_tup (pgsd_cons (pgd_name 6 rfl (by first | exact .inl rfl | exact .inr rfl) (by intro _; first | exact .inl rfl | exact .inr rfl)) (pgsd_cons (pgd_name 7 rfl (by first | exact .inl rfl | exact .inr rfl) (by intro _; first | exact .inl rfl | exact .inr rfl)) (pgsd_nil)))) rfl (ptsd_one (ptd_cmp (fun i => rAll_op (op_eqD (Fam.rm _ i).units)) (rAll_e fun _ => opE_eq) (b_max rfl TT (pad_cons (nm 7 rfl (by first | exact .inl rfl | exact .inr (.inl rfl) | exact .inr (.inr rfl))) (pad_nil))) (ped_int) (nomark _))) (c_own c_law_bb_told rfl (pad_cons (nm 6 rfl (by first | exact .inl rfl | exact .inr (.inl rfl) | exact .inr (.inr rfl))) (pad_nil))))) (pad_nil)))))))
theorem ok_law_bb_rows [Wd] (TT : Tx mg) (S : Std K mg "_law_bb_rows" t_law_bb_rows ["_law_sizes"]) (c_law_bb_all : CalD P Wd.w K mg base 1 "_law_bb_all" 1 F_law_bb_all) (c_law_bb_longer : CalD P Wd.w K mg base 1 "_law_bb_longer" 3 F_law_bb_longer) (c_law_bb_told : CalD P Wd.w K mg base 1 "_law_bb_told" 1 F_law_bb_told) : CalD P Wd.w K mg base 2 "_law_bb_rows" 1 F_law_bb_rows :=
  calD S sc_law_bb_rows fun f => d_law_bb_rows TT c_law_bb_all c_law_bb_longer c_law_bb_told

abbrev t_law_bb_ext : Stmt := topS 50
theorem sc_law_bb_ext : FnScope ["_law_one", "_law_other"] ["_law_one", "_law_other"] (defScope t_law_bb_ext) := ⟨rfl, rfl, rfl, by decide +kernel, rfl, by decide +kernel, by decide +kernel⟩
def s_law_bb_ext : En → Option Out := sRet (mF fInt (aC (mCh3 dLe dLe dLe (mB dAdd (mB dIx (mN 0) (mC (.int 0))) (mC (.int 1))) (mB dIx (mN 1) (mC (.int 0))) (mB dAdd (mB dIx (mN 0) (mC (.int 1))) (mC (.int 1))) (mB dIx (mN 1) (mC (.int 1)))) (aN)))
def F_law_bb_ext : List D → Option D := bodyF 2 s_law_bb_ext
theorem d_law_bb_ext [Wd] (TT : Tx mg) {f : Addr} : PSsd (famOf P Wd.w K mg base _ sc_law_bb_ext.nd "_law_bb_ext" (defScope t_law_bb_ext) f 0) (defBody t_law_bb_ext) s_law_bb_ext :=
  pssd_one (psd_ret (b_int rfl TT (pad_cons (ped_ch3 (fun _ => op_le) (fun _ => op_le) (fun _ => op_le) opE_le opE_le opE_le (ped_add (ped_ix (nm 0 rfl (by first | exact .inl rfl | exact .inr (.inl rfl) | exact .inr (.inr rfl))) (ped_int)) (ped_int)) (ped_ix (nm 1 rfl (by first | exact .inl rfl | exact .inr (.inl rfl) | exact .inr (.inr rfl))) (ped_int)) (ped_add (ped_ix (nm 0 rfl (by first | exact .inl rfl | exact .inr (.inl rfl) | exact .inr (.inr rfl))) (ped_int)) (ped_int)) (ped_ix (nm 1 rfl (by first | exact .inl rfl | exact .inr (.inl rfl) | exact .inr (.inr rfl))) (ped_int)) rfl) (pad_nil))))
theorem ok_law_bb_ext [Wd] (TT : Tx mg) (S : Std K mg "_law_bb_ext" t_law_bb_ext ["_law_one", "_law_other"]) : CalD P Wd.w K mg base 1 "_law_bb_ext" 2 F_law_bb_ext :=
  calD S sc_law_bb_ext fun f => d_law_bb_ext TT

abbrev t_law_steps : Stmt := topS 51
theorem sc_law_steps : FnScope ["_law_row", "_law_one", "_law_found", "_law_counts", "_law_other", "_law_more", "_law_bar", "_law_change", "_law_many"] ["_law_row"] (defScope t_law_steps) := ⟨rfl, rfl, rfl, by decide +kernel, rfl, by decide +kernel, by decide +kernel⟩
def s_law_steps : En → Option Out := sSeq (sPar [2, 3] (pO (mLst (aN)) (pV (mF fDictL (aC (mLc (iT (mN 0)) (gT [gN 6, gN 8]) (qYes) (mTup (aC (mN 6) (aC (mN 8) (aN)))) [6, 8]) (aN))) (pN))))
  (sSeq (sFor (iL (mF fSortedD (aC (mN 3) (aN)))) (gN 1) (sFor (iL (mF fSortedD (aC (mN 3) (aN)))) (gN 4) (sIf (qVal (mB dEq (mF F_law_bb_ext (aC (mN 1) (aC (mN 4) (aN)))) (mC (.int 1)))) (sSeq (sSetO 5 (mF fDictL (aC (mU dItems (mN 3)) (aN))))
  (sSeq (sFor (iL (mLst (aC (mTup (aC (mN 1) (aC (mU dNeg (mC (.int 1))) (aN)))) (aC (mTup (aC (mN 4) (aC (mU dNeg (mC (.int 1))) (aN)))) (aC (mTup (aC (mTup (aC (mB dIx (mN 1) (mC (.int 0))) (aC (mB dIx (mN 4) (mC (.int 1))) (aN)))) (aC (mC (.int 1)) (aN)))) (aN)))))) (gT [gN 6, gN 7]) (sDPut 5 (mN 6) (mThaw 5 (mB dAdd (mG2 (mN 5) (mN 6) (mC (.int 0))) (mN 7)))))
  (sSeq (sIf (qVal (mB dLe (mB dIx (mN 4) (mC (.int 0))) (mB dIx (mN 1) (mC (.int 1))))) (sDPut 5 (mTup (aC (mB dIx (mN 4) (mC (.int 0))) (aC (mB dIx (mN 1) (mC (.int 1))) (aN)))) (mThaw 5 (mB dAdd (mG2 (mN 5) (mTup (aC (mB dIx (mN 4) (mC (.int 0))) (aC (mB dIx (mN 1) (mC (.int 1))) (aN)))) (mC (.int 0))) (mC (.int 1))))) (sNil))
  (sFrz 5 (sApp 2 (mF F_law_bb_told (aC (mN 5) (aN)))))))) (sNil))))
  (sFrz 2 (sRet (mN 2))))
def F_law_steps : List D → Option D := bodyF 9 s_law_steps
theorem d_law_steps [Wd] (TT : Tx mg) (c_law_bb_ext : CalD P Wd.w K mg base 1 "_law_bb_ext" 2 F_law_bb_ext) (c_law_bb_told : CalD P Wd.w K mg base 1 "_law_bb_told" 1 F_law_bb_told) {f : Addr} : PSsd (famOf P Wd.w K mg base _ sc_law_steps.nd "_law_steps" (defScope t_law_steps) f 1) (defBody t_law_steps) s_law_steps :=
  pssd_cons (psd_par2 (2) (3) rfl rfl rfl rfl (pam_own (peo_lst (pad_nil)) (pam_val (PEo.ped (b_dict ⟨rfl⟩ rfl TT (pad_cons (PEo.ped (peo_lc (own := [("_law_bar", 6), ("_law_many", 8)]) (pid_tup (nm 0 rfl (by first | exact .inl rfl | exact .inr (.inl rfl) | exact .inr (.inr rfl)))) (by dsimp only [famOf, Fam.blk]; decide +kernel) (pgd_tup (pgsd_cons (pgd_name 6 rfl (by first | exact .inl rfl | exact .inr rfl) (by intro _; first | exact .inl rfl | exact .inr rfl)) (pgsd_cons (pgd_name 8 rfl (by first | exact .inl rfl | exact .inr rfl) (by intro _; first | exact .inl rfl | exact .inr rfl)) (pgsd_nil)))) rfl (ptsd_nil) (ped_tup (pad_cons (nm 6 rfl (by first | exact .inl rfl | exact .inr (.inl rfl) | exact .inr (.inr rfl))) (pad_cons (nm 8 rfl (by first | exact .inl rfl | exact .inr (.inl rfl) | exact .inr (.inr rfl))) (pad_nil)))))) (pad_nil)))) (pam_nil))) (fun _ => rfl))
  (pssd_cons (psd_for (pid_list (PEo.ped (b_sortedD rfl TT (pad_cons (nm 3 rfl (by first | exact .inl rfl | exact .inr (.inl rfl) | exact .inr (.inr rfl))) (pad_nil))))) (pgd_name 1 rfl (by first | exact .inl rfl | exact .inr rfl) (by intro _; first | exact .inl rfl | exact .inr rfl)) (pssd_one (psd_for (pid_list (PEo.ped (b_sortedD rfl TT (pad_cons (nm 3 rfl (by first | exact .inl rfl | exact .inr (.inl rfl) | exact .inr (.inr rfl))) (pad_nil))))) (pgd_name 4 rfl (by first | exact .inl rfl | exact .inr rfl) (by intro _; first | exact .inl rfl | exact .inr rfl)) (pssd_one (psd_if (ptd_cmp (fun i => rAll_op (op_eqD (Fam.rm _ i).units)) (rAll_e fun _ => opE_eq) (c_own c_law_bb_ext rfl (pad_cons (nm 1 rfl (by first | exact .inl rfl | exact .inr (.inl rfl) | exact .inr (.inr rfl))) (pad_cons (nm 4 rfl (by first | exact .inl rfl | exact .inr (.inl rfl) | exact .inr (.inr rfl))) (pad_nil)))) (ped_int) (nomark _)) (pssd_cons (psd_setO 5 rfl (by first | exact .inl rfl | exact .inr rfl) (by intro _; first | exact .inl rfl | exact .inr rfl) (b_dict ⟨rfl⟩ rfl TT (pad_cons (PEo.ped (peo_nitems rfl TT (nm 3 rfl (by first | exact .inl rfl | exact .inr (.inl rfl) | exact .inr (.inr rfl))))) (pad_nil))))
  (pssd_cons (psd_for (pid_list (PEo.ped (peo_lst (pad_cons (ped_tup (pad_cons (nm 1 rfl (by first | exact .inl rfl | exact .inr (.inl rfl) | exact .inr (.inr rfl))) (pad_cons (ped_neg (ped_int)) (pad_nil)))) (pad_cons (ped_tup (pad_cons (nm 4 rfl (by first | exact .inl rfl | exact .inr (.inl rfl) | exact .inr (.inr rfl))) (pad_cons (ped_neg (ped_int)) (pad_nil)))) (pad_cons (ped_tup (pad_cons (ped_tup (pad_cons (ped_ix (nm 1 rfl (by first | exact .inl rfl | exact .inr (.inl rfl) | exact .inr (.inr rfl))) (ped_int)) (pad_cons (ped_ix (nm 4 rfl (by first | exact .inl rfl | exact .inr (.inl rfl) | exact .inr (.inr rfl))) (ped_int)) (pad_nil)))) (pad_cons (ped_int) (pad_nil)))) (pad_nil))))))) (pgd_tup (pgsd_cons (pgd_name 6 rfl (by first | exact .inl rfl | exact .inr rfl) (by intro _; first | exact .inl rfl | exact .inr rfl)) (pgsd_cons (pgd_name 7 rfl (by first | exact .inl rfl | exact .inr rfl) (by intro _; first | exact .inl rfl | exact .inr rfl)) (pgsd_nil)))) (pssd_one (psd_dput 5 ⟨rfl⟩ rfl (by first | exact .inl rfl | exact .inr (.inl rfl) | exact .inr (.inr rfl)) (nm 6 rfl (by first | exact .inl rfl | exact .inr (.inl rfl) | exact .inr (.inr rfl))) (ped_thaw 5 (ped_add (ped_get2 ⟨rfl⟩ (nm 5 rfl (by first | exact .inl rfl | exact .inr (.inl rfl) | exact .inr (.inr rfl))) (nm 6 rfl (by first | exact .inl rfl | exact .inr (.inl rfl) | exact .inr (.inr rfl))) (ped_int) (fun _ => ⟨rfl, rfl, rfl, rfl⟩)) (nm 7 rfl (by first | exact .inl rfl | exact .inr (.inl rfl) | exact .inr (.inr rfl))))))))
  (pssd_cons (psd_if (ptd_cmp (fun _ => op_le) opE_le (ped_ix (nm 4 rfl (by first | exact .inl rfl | exact .inr (.inl rfl) | exact .inr (.inr rfl))) (ped_int)) (ped_ix (nm 1 rfl (by first | exact .inl rfl | exact .inr (.inl rfl) | exact .inr (.inr rfl))) (ped_int)) (nomark _)) (pssd_one (psd_dput 5 ⟨rfl⟩ rfl (by first | exact .inl rfl | exact .inr (.inl rfl) | exact .inr (.inr rfl)) (ped_tup (pad_cons (ped_ix (nm 4 rfl (by first | exact .inl rfl | exact .inr (.inl rfl) | exact .inr (.inr rfl))) (ped_int)) (pad_cons (ped_ix (nm 1 rfl (by first | exact .inl rfl | exact .inr (.inl rfl) | exact .inr (.inr rfl))) (ped_int)) (pad_nil)))) (ped_thaw 5 (ped_add (ped_get2 ⟨rfl⟩ (nm 5 rfl (by first | exact .inl rfl | exact .inr (.inl rfl) | exact .inr (.inr rfl))) (ped_tup (pad_cons (ped_ix (nm 4 rfl (by first | exact .inl rfl | exact .inr (.inl rfl) | exact .inr (.inr rfl))) (ped_int)) (pad_cons (ped_ix (nm 1 rfl (by first | exact .inl rfl | exact .inr (.inl rfl) | exact .inr (.inr rfl))) (ped_int)) (pad_nil)))) (ped_int) (fun _ => ⟨rfl, rfl, rfl, rfl⟩)) (ped_int))))) (pssd_nil))
  (pssd_frz 5 (pssd_one (psd_app 2 rfl (by first | exact .inl rfl | exact .inr (.inl rfl) | exact .inr (.inr rfl)) (c_own c_law_bb_told rfl (pad_cons (nm 5 rfl (by first | exact .inl rfl | exact .inr (.inl rfl) | exact .inr (.inr rfl))) (pad_nil))))))))) (pssd_nil))))))
  (pssd_frz 2 (pssd_one (psd_ret (nm 2 rfl (by first | exact .inl rfl | exact .inr (.inl rfl) | exact .inr (.inr rfl)))))))
theorem ok_law_steps [Wd] (TT : Tx mg) (S : Std K mg "_law_steps" t_law_steps ["_law_row"]) (c_law_bb_ext : CalD P Wd.w K mg base 1 "_law_bb_ext" 2 F_law_bb_ext) (c_law_bb_told : CalD P Wd.w K mg base 1 "_law_bb_told" 1 F_law_bb_told) : CalD P Wd.w K mg base 2 "_law_steps" 1 F_law_steps :=
  calD S sc_law_steps fun f => d_law_steps TT c_law_bb_ext c_law_bb_told

abbrev t_law_reached : Stmt := topS 52
theorem sc_law_reached : FnScope ["_law_row", "_law_found", "_law_waits", "_law_here", "_law_more"] ["_law_row"] (defScope t_law_reached) := ⟨rfl, rfl, rfl, by decide +kernel, rfl, by decide +kernel, by decide +kernel⟩
def s_law_reached : En → Option Out := sSeq (sPar [1, 2] (pO (mDisp1 (mN 0) (mC (.bool true))) (pO (mLst (aC (mN 0) (aN))) (pN))))
  (sSeq (sWhile 200 (qThaw 2 (qVal (mB dNe (mN 2) (mLst (aN))))) (sSeq (sPop 2 3)
  (sFor (iL (mF F_law_steps (aC (mN 3) (aN)))) (gN 4) (sIf (qThaw 1 (qVal (mB dDNotIn (mN 4) (mN 1)))) (sSeq (sDPut 1 (mN 4) (mC (.bool true)))
  (sApp 2 (mN 4))) (sNil)))))
  (sFrz 1 (sRet (mN 1))))
def F_law_reached : List D → Option D := bodyF 5 s_law_reached
theorem d_law_reached [Wd] (TT : Tx mg) (c_law_steps : CalD P Wd.w K mg base 2 "_law_steps" 1 F_law_steps) {f : Addr} : PSsd (famOf P Wd.w K mg base _ sc_law_reached.nd "_law_reached" (defScope t_law_reached) f 2) (defBody t_law_reached) s_law_reached :=
  pssd_cons (psd_par2 (1) (2) rfl rfl rfl rfl (pam_own (peo_disp1 ⟨rfl⟩ (nm 0 rfl (by first | exact .inl rfl | exact .inr (.inl rfl) | exact .inr (.inr rfl))) (ped_bl)) (pam_own (peo_lst (pad_cons (nm 0 rfl (by first | exact .inl rfl | exact .inr (.inl rfl) | exact .inr (.inr rfl))) (pad_nil))) (pam_nil))) (fun _ => rfl))
  (pssd_cons (psd_while 200 (ptd_thaw 2 (ptd_cmp (fun i => rAll_op (op_neD (Fam.rm _ i).units)) (rAll_e fun _ => opE_ne) (nm 2 rfl (by first | exact .inl rfl | exact .inr (.inl rfl) | exact .inr (.inr rfl))) (PEo.ped (peo_lst (pad_nil))) (nomark _))) (pssd_cons (psd_pop 2 3 rfl (by first | exact .inl rfl | exact .inr (.inl rfl) | exact .inr (.inr rfl)) rfl (by first | exact .inl rfl | exact .inr rfl) (by intro _; first | exact .inl rfl | exact .inr rfl))
  (pssd_one (psd_for (pid_list (c_own c_law_steps rfl (pad_cons (nm 3 rfl (by first | exact .inl rfl | exact .inr (.inl rfl) | exact .inr (.inr rfl))) (pad_nil)))) (pgd_name 4 rfl (by first | exact .inl rfl | exact .inr rfl) (by intro _; first | exact .inl rfl | exact .inr rfl)) (pssd_one (psd_if (ptd_thaw 1 (ptd_dNotIn ⟨rfl⟩ (nm 4 rfl (by first | exact .inl rfl | exact .inr (.inl rfl) | exact .inr (.inr rfl))) (nm 1 rfl (by first | exact .inl rfl | exact .inr (.inl rfl) | exact .inr (.inr rfl))))) (pssd_cons (psd_dput 1 ⟨rfl⟩ rfl (by first | exact .inl rfl | exact .inr (.inl rfl) | exact .inr (.inr rfl)) (nm 4 rfl (by first | exact .inl rfl | exact .inr (.inl rfl) | exact .inr (.inr rfl))) (ped_bl))
  (pssd_one (psd_app 2 rfl (by first | exact .inl rfl | exact .inr (.inl rfl) | exact .inr (.inr rfl)) (nm 4 rfl (by first | exact .inl rfl | exact .inr (.inl rfl) | exact .inr (.inr rfl)))))) (pssd_nil)))))))
  (pssd_frz 1 (pssd_one (psd_ret (nm 1 rfl (by first | exact .inl rfl | exact .inr (.inl rfl) | exact .inr (.inr rfl)))))))
theorem ok_law_reached [Wd] (TT : Tx mg) (S : Std K mg "_law_reached" t_law_reached ["_law_row"]) (c_law_steps : CalD P Wd.w K mg base 2 "_law_steps" 1 F_law_steps) : CalD P Wd.w K mg base 3 "_law_reached" 1 F_law_reached :=
  calD S sc_law_reached fun f => d_law_reached TT c_law_steps

end
end Ar

end
section
set_option Elab.async false
set_option linter.all false
set_option maxRecDepth 100000
set_option maxHeartbeats 4000000
namespace Ar
open PySem PySem.Spec PyProof.Rows L2 Dl
/-- a def with a promise of its own that may be called by its name -/
structure CalS (P : Program) (w : World) (K : PySem.W.Frag) (mg : Str → Option Value) (base : Heap) (k : Nat) (x : Str) (sp : Sp) : Prop where
  ex : ∃ (f : Addr) (fd : FuncData) (ps : List Str), FnOk P w K mg base CX0 k f fd ps sp ∧ mg x = some (.ref f) ∧ PySem.W.keepIn K (.ref f) = true ∧ Binds K fd ps []
section
variable {P : Program} {w : World} {K : PySem.W.Frag} {mg : Str → Option Value} {base : Heap} {x : Str} {st : Stmt} {N ps : List Str} {k j : Nat} {sp : Sp}
theorem calS (S : Std K mg x st ps) (sc : FnScope N ps (defScope st)) (len : ∀ vs H Q E, sp vs H Q E → vs.length = ps.length)
    (hb : ∀ (f : Addr) (cdv : Value) (A : Around) (outer : List Env) (s : Shared) (H : Hp) (vs : List V) (Q : VK) (E : XK), Room k (A.deeper (envOfC x (defScope st) s.heap.objs.size f cdv)) → sp vs H Q E →
      ∃ t, PSs (cxOf CX0 P w K mg base N x (defScope st) f cdv A outer s H E).nox (defBody st) t ∧ t { nx := fun _ H' => Q .non H', rt := Q } (L2.start N vs) H) : CalS P w K mg base (k + 1) x sp := by
  obtain ⟨f, fd, h1, h2, h3⟩ := S.ex
  exact ⟨f, fd, ps, h1.ok sc len fun cdv A outer s H vs Q E hr h => hb f cdv A outer s H vs Q E hr h, h3, h1.kp, h2⟩
def tCalS (sp : Sp) (t : TA) : TE := fun σ H Q => t σ H fun vs H1 => sp vs H1 Q E0
theorem pe_calS {X : Cx} {e : Expr} {es : List Expr} {t : TA} {p pos : Pos} (c : CalS P w K mg base k x sp) (hX : X.prog = P ∧ X.w = w ∧ X.K = K ∧ X.mg = mg ∧ X.base = base) (hr : Room j X.A) (hk : k ≤ j) (hg : Gl X x) (ha : PA X (e :: es) t) (hd : (x == ("__debug__" : Str)) = false := by decide)
    (he : starEach (e :: es) X.env = (false, eval e X.env) :: starEach es X.env := by rfl) (hpl : (backTo pos (starEach es X.env)).any (·.1) = false := by rfl) : PE X (.Call (.Name x p) (e :: es) [] pos) (tCalS sp t) := by
  obtain ⟨f, fd, ps, h1, h2, h3, h4⟩ := c.ex
  obtain ⟨rfl, rfl, rfl, rfl, rfl⟩ := hX
  refine ⟨fun pins s σ H Q I h => (pe_call h1 (hr.mono hk) hg h2 h3 h4 .nil pass0 ha hd (he := he) (hpl := hpl)).run pins s σ H Q I ?_⟩
  refine (?_ : tCall sp [] E0 t σ H Q)
  have : tCall sp [] E0 t = tCalS sp t := by
    funext σ H Q
    simp only [tCall, tCalS, List.append_nil]
  rw [this]
  exact h
end
/-! ### the lot -/
/-- the lot's list -/
def LotA (H : Hp) (L : Addr) (a b c : Int) : Prop := H L = some (.lst [.int a, .int b, .int c])
section
variable {P : Program} {w : World} {K : PySem.W.Frag} {mg : Str → Option Value} {base : Heap}
abbrev t_lot : Stmt := topS 41
theorem sc_lot : FnScope ["_law_script", "_law_spot", "_law_cell", "_law_left"] ["_law_script", "_law_spot"] (defScope t_lot) := ⟨rfl, rfl, rfl, by decide +kernel, rfl, by decide +kernel, by decide +kernel⟩
def spLot (K : PySem.W.Frag) : Sp := fun vs H Q _ => ∃ (a : Addr) (ns : List Int) (s : Nat), vs = [.ref a, .int (s : Nat)] ∧ SqL K H a (ns.map V.int) ∧ ∀ p x y, H p = none → 0 ≤ x → Q (.ref p) (upd H p (.lst [.int x, .int y, .int 0]))
theorem ok_lot (TT : Tx mg) (S : Std K mg "_law_lot" t_lot ["_law_script", "_law_spot"]) : CalS P w K mg base 1 "_law_lot" (spLot K) := by
  refine calS (k := 0) S sc_lot (fun vs H Q E h => ?_) fun f cdv A outer s H vs Q E hr h => ?_
  · obtain ⟨a, ns, i, rfl, _⟩ := h
    rfl
  · obtain ⟨a, ns, i, rfl, hS, q⟩ := h
    have s0 : ∀ cell : Int, 0 ≤ (if cell < 0 then -cell else cell) % 1152921504606846697 ∧ (if cell < 0 then -cell else cell) % 1152921504606846697 < 1152921504606846697 := fun cell => ⟨Int.emod_nonneg _ (by decide), Int.emod_lt_of_pos _ (by decide)⟩
    -- the return
    obtain ⟨t3, w3, h3⟩ : ∃ t, PSs (cxOf CX0 P w K mg base ["_law_script", "_law_spot", "_law_cell", "_law_left"] "_law_lot" (defScope t_lot) f cdv A outer s H E).nox ((defBody t_lot).drop 2) t ∧
        ∀ cell left : Int, 0 ≤ left → t { nx := fun _ H' => Q .non H', rt := Q } [some (.ref a), some (.int (i : Nat)), some (.int cell), some (.int left)] H :=
      ⟨_, pss_one (ps_ret (pe_lst (pa_cons (pv 3) (pa_cons (pe_op op_add (pe_op op_add (pe_op op_add (pe_op op_mul (pe_op op_mod (pe_callB call_abs rfl TT.abs (by decide +kernel) (pa_cons (pv 2) pa_nil)) pe_int) pe_int) (pe_op op_mul pe_int (pv 1))) (pe_op op_mul pe_int (pe_callTy call_int1 rfl TT.int (by decide +kernel) (pa_cons (pe_cmpR op_lt (pv 2) pe_int (nomark _)) pa_nil)))) pe_int) (pa_cons pe_int pa_nil))))),
      fun cell left hl => by
        refine ⟨.int left, rfl, .int cell, rfl, cell, rfl, _, _, rfl, rfl, (by decide : (0 : Int) < 1152921504606846697), _, _, rfl, rfl, .inl ⟨?_, ?_⟩, .int (i : Nat), rfl, 991, (i : Nat), rfl, rfl, .inl ⟨by decide, by decide⟩, _, _, rfl, rfl, .int cell, rfl, cell, 0, rfl, rfl, .inr ⟨_, rfl, 43, _, rfl, rfl, .inl ⟨by decide, by decide⟩, _, _, rfl, rfl, _, 9, rfl, rfl, (by decide : 3 ≤ sizeLine), fun p hp => q p _ _ hp hl⟩⟩
        · exact Int.lt_of_lt_of_le (by decide) (s0 cell).1
        · exact Int.lt_trans (s0 cell).2 (by decide)⟩
    obtain ⟨t2, w2, h2⟩ : ∃ t, PS (cxOf CX0 P w K mg base ["_law_script", "_law_spot", "_law_cell", "_law_left"] "_law_lot" (defScope t_lot) f cdv A outer s H E).nox ((defBody t_lot).getD 1 (.Pass ⟨0, 0, 0, 0⟩)) t ∧
        ∀ cell : Int, ∀ D : Ends, (∀ left : Int, 0 ≤ left → D.nx [some (.ref a), some (.int (i : Nat)), some (.int cell), some (.int left)] H) → t D [some (.ref a), some (.int (i : Nat)), some (.int cell), none] H :=
      ⟨_, ps_set (i := 3) sc_lot.nd rfl (.inl rfl) (pe_op op_mod (pe_callB (call_max2 rfl) rfl TT.max (by decide +kernel) (pa_cons pe_int (pa_cons (pe_op op_sub (pe_callB call_abs rfl TT.abs (by decide +kernel) (pa_cons (pv 2) pa_nil)) (pe_op op_pow pe_int pe_int)) pa_nil))) (pe_op op_mulW (pe_op op_pow pe_int pe_int) (pe_op op_pow pe_int pe_int))),
      fun cell D hD => by
        have hp : (0 : Int) < 10 ^ (58 : Int).toNat * 10 ^ (59 : Int).toNat := by decide +kernel
        refine ⟨.int cell, rfl, cell, rfl, 10, 17, rfl, rfl, ⟨by decide, by decide, by decide⟩, _, _, rfl, rfl, 0, _, rfl, 10, 58, rfl, rfl, ⟨by decide, by decide, by decide⟩, 10, 59, rfl, rfl, ⟨by decide, by decide, by decide⟩, _, _, rfl, rfl, ?_, _, _, rfl, rfl, hp, hD _ (Int.emod_nonneg _ (Int.ne_of_gt hp))⟩
        show (10 ^ (58 : Int).toNat : Int).natAbs.log2 + (10 ^ (59 : Int).toNat : Int).natAbs.log2 < 1000000
        decide +kernel⟩
    refine ⟨_, pss_cons (ps_set (i := 2) sc_lot.nd rfl (.inl rfl) (pe_ifExp (pt_cmp (pc_lt (pv 1) (pe_callB call_len_seq rfl TT.len PySem.boot_len (pa_cons (pv 0) pa_nil)))) (pe_callTy call_int1 rfl TT.int (by decide +kernel) (pa_cons (pe_ix ix_seq (pv 0) (pv 1) fun _ _ => rfl) pa_nil)) (pe_op op_add (pe_op op_mul pe_int (pv 1)) pe_int))) (pss_cons w2 w3), ?_⟩
    refine ⟨.int (i : Nat), rfl, .ref a, rfl, a, ns.map V.int, rfl, .inl hS, (i : Nat), ((ns.map V.int).length : Nat), rfl, rfl, _, rfl, ?_⟩
    refine ite2 (fun hlt => ?_) fun _ => ?_
    · have hlt' : i < ns.length := by
        have := of_decide_eq_true hlt
        rw [List.length_map] at this
        omega
      refine ⟨.ref a, rfl, .int (i : Nat), rfl, .inl ⟨a, ns.map V.int, (i : Nat), .int ns[i], rfl, rfl, hS, atI_nat ?_, .inl ⟨ns[i], rfl, h2 _ _ fun left hl => h3 _ left hl⟩⟩⟩
      rw [List.getElem?_map, List.getElem?_eq_getElem hlt']
      rfl
    · exact ⟨.int (i : Nat), rfl, 61, (i : Nat), rfl, rfl, .inl ⟨by decide, by decide⟩, _, 37, rfl, rfl, h2 _ _ fun left hl => h3 _ left hl⟩

abbrev t_pull : Stmt := topS 42
theorem sc_pull : FnScope ["_law_lot_here", "_law_total", "_law_found", "_law_one", "_law_two"] ["_law_lot_here", "_law_total"] (defScope t_pull) := ⟨rfl, rfl, rfl, by decide +kernel, rfl, by decide +kernel, by decide +kernel⟩
def spPull : Sp := fun vs H Q _ => ∃ (L : Addr) (n a b c : Int), vs = [.ref L, .int n] ∧ 0 < n ∧ n < 1073741824 ∧ LotA H L a b c ∧ 0 ≤ a ∧ ∀ r a' c', 0 ≤ r → r < n → 0 ≤ a' → Q (.int r) (upd H L (.lst [.int a', .int b, .int c']))
theorem ixR0 {K : PySem.W.Frag} {H : Hp} {L : Addr} {xs : List V} {j : Nat} {v : V} {Q : VK} (h : H L = some (.lst xs)) (hv : xs[j]? = some v) (q : Q v H) : rIx K (.ref L) (.int (j : Nat)) H Q := .inl ⟨L, xs, (j : Nat), v, rfl, rfl, .of h, atI_nat hv, q⟩
theorem upd_upd' {H : Hp} {p : Addr} {a b : HO} : upd (upd H p a) p b = upd H p b := by
  funext x
  by_cases h : x = p
  · subst h
    rw [upd_same, upd_same]
  · rw [upd_ne h, upd_ne h, upd_ne h]
theorem ok_pull (TT : Tx mg) (S : Std K mg "_law_pull" t_pull ["_law_lot_here", "_law_total"]) : CalS P w K mg base 1 "_law_pull" spPull := by
  refine calS (k := 0) S sc_pull (fun vs H Q E h => ?_) fun f cdv A outer s H vs Q E hr h => ?_
  · obtain ⟨L, n, a, b, c, rfl, _⟩ := h
    rfl
  · obtain ⟨L, n, a, b, c, rfl, n0, n1, hL, a0, q⟩ := h
    refine ⟨_, pss_cons (ps_if (pt_cmpR op_gt (pe_ix ix_seq (pv 0) pe_int fun _ _ => rfl) pe_int (nomark _))
        (pss_cons (ps_set (i := 2) sc_pull.nd rfl (.inl rfl) (pe_op op_mod (pe_callTy call_int1 rfl TT.int (by decide +kernel) (pa_cons (pe_ix ix_seq (pv 0) pe_int fun _ _ => rfl) pa_nil)) (pv 1)))
        (pss_cons (ps_asg (pe_op op_fdiv (pe_ix ix_seq (pv 0) pe_int fun _ _ => rfl) (pv 1)) (pg_sub (pv 0) pe_int set_list))
        (pss_one (ps_ret (pv 2))))) pss_nil)
      (pss_cons (ps_asg (pe_op op_add (pe_ix ix_seq (pv 0) pe_int fun _ _ => rfl) pe_int) (pg_sub (pv 0) pe_int set_list))
      (pss_cons (ps_set (i := 3) sc_pull.nd rfl (.inl rfl) (pe_op op_mod (pe_callTy call_int1 rfl TT.int (by decide +kernel) (pa_cons (pe_op op_add (pe_ix ix_seq (pv 0) pe_int fun _ _ => rfl) (pe_op op_mul pe_int (pe_ix ix_seq (pv 0) pe_int fun _ _ => rfl))) pa_nil)) pe_int))
      (pss_cons (ps_set (i := 4) sc_pull.nd rfl (.inl rfl) (pe_op op_add (pe_op op_mul (pe_op op_mod (pe_callTy call_int1 rfl TT.int (by decide +kernel) (pa_cons (pe_op op_add (pe_op op_mul (pv 3) (pv 3)) (pe_op op_mul pe_int (pe_ix ix_seq (pv 0) pe_int fun _ _ => rfl))) pa_nil)) pe_int) pe_int) (pv 3)))
      (pss_one (ps_ret (pe_op op_mod (pe_callTy call_int1 rfl TT.int (by decide +kernel) (pa_cons (pe_op op_fdiv (pv 4) pe_int) pa_nil)) (pv 1))))))), ?_⟩
    have hL' : H L = some (.lst [.int a, .int b, .int c]) := hL
    refine ⟨.ref L, rfl, ixR0 (j := 0) hL' rfl ⟨a, 0, rfl, rfl, ⟨_, rfl, ite2 (fun hp => ?_) fun hp => ?_⟩⟩⟩
    · have ha : 0 < a := of_decide_eq_true hp
      refine ⟨.ref L, rfl, ixR0 (j := 0) hL' rfl (.inl ⟨a, rfl, .int n, rfl, a, n, rfl, rfl, n0, ?_⟩)⟩
      refine ⟨.ref L, rfl, ixR0 (j := 0) hL' rfl ⟨.int n, rfl, a, n, rfl, rfl, ⟨n0, n1⟩, ?_⟩⟩
      refine ⟨.ref L, rfl, L, _, 0, 0, rfl, rfl, hL', rfl, .int (a % n), rfl, ?_⟩
      exact q _ _ _ (Int.emod_nonneg _ (Int.ne_of_gt n0)) (Int.emod_lt_of_pos _ n0) (Int.ediv_nonneg (Int.le_of_lt ha) (Int.le_of_lt n0))
    · refine ⟨.ref L, rfl, ixR0 (j := 2) hL' rfl ⟨c, 1, rfl, rfl, ?_⟩⟩
      refine ⟨.ref L, rfl, L, _, 2, 2, rfl, rfl, hL', rfl, ?_⟩
      have hU : (upd H L (.lst ([.int a, .int b, .int c].set 2 (.int (c + 1))))) L = some (.lst [.int a, .int b, .int (c + 1)]) := upd_same
      have m1 : ∀ z : Int, 0 ≤ z % 2305843009213693409 ∧ z % 2305843009213693409 < 2305843009213693409 := fun z => ⟨Int.emod_nonneg _ (by decide), Int.emod_lt_of_pos _ (by decide)⟩
      have m2 : ∀ z : Int, 0 ≤ z % 2305843009213693381 ∧ z % 2305843009213693381 < 2305843009213693381 := fun z => ⟨Int.emod_nonneg _ (by decide), Int.emod_lt_of_pos _ (by decide)⟩
      refine ⟨.ref L, rfl, ixR0 (j := 1) hU rfl ⟨.ref L, rfl, ixR0 (j := 2) hU rfl ⟨99990001, c + 1, rfl, rfl, .inl ⟨by decide, by decide⟩, b, _, rfl, rfl, .inl ⟨_, rfl, _, _, rfl, rfl, (by decide : (0 : Int) < 2305843009213693409), ?_⟩⟩⟩⟩
      have h1 := m1 (b + 99990001 * (c + 1))
      refine ⟨_, rfl, _, rfl, _, _, rfl, rfl, .inl ⟨Int.lt_of_lt_of_le (by decide) h1.1, Int.lt_trans h1.2 (by decide)⟩, .ref L, rfl, ixR0 (j := 2) hU rfl ⟨89, c + 1, rfl, rfl, .inl ⟨by decide, by decide⟩, _, _, rfl, rfl, .inl ⟨_, rfl, _, _, rfl, rfl, (by decide : (0 : Int) < 2305843009213693381), ?_⟩⟩⟩
      refine ⟨_, 8675309, rfl, rfl, .inl ⟨Int.lt_of_lt_of_le (by decide) (m2 _).1, Int.lt_trans (m2 _).2 (by decide)⟩, _, rfl, _, _, rfl, rfl, ?_⟩
      refine ⟨_, rfl, _, 65537, rfl, rfl, ⟨by decide, by decide⟩, .inl ⟨_, rfl, .int n, rfl, _, n, rfl, rfl, n0, ?_⟩⟩
      exact q _ _ _ (Int.emod_nonneg _ (Int.ne_of_gt n0)) (Int.emod_lt_of_pos _ n0) a0

/-- all but the lot stays -/
def Mv (L : Addr) (H H' : Hp) : Prop := ∀ x o, x ≠ L → H x = some o → H' x = some o
theorem Mv.refl {L : Addr} {H : Hp} : Mv L H H := fun _ _ _ e => e
theorem Mv.trans {L : Addr} {H H1 H2 : Hp} (a : Mv L H H1) (b : Mv L H1 H2) : Mv L H H2 := fun x o h e => b x o h (a x o h e)
theorem Mv.lot {L : Addr} {H : Hp} {o : HO} : Mv L H (upd H L o) := fun x z h e => by rw [upd_ne h]; exact e
theorem Mv.new {L p : Addr} {H : Hp} {o : HO} (hp : H p = none) : Mv L H (upd H p o) := fun x z h e => by rw [upd_ne (ne_of_none e hp)]; exact e
theorem Mv.of {L : Addr} {H H' : Hp} (s : Same H H') : Mv L H H' := fun x o _ e => s x o e
def LotOk (H : Hp) (L : Addr) : Prop := ∃ a b c, LotA H L a b c ∧ 0 ≤ a
theorem LotOk.put {H : Hp} {L : Addr} {a b c : Int} (h : 0 ≤ a) : LotOk (upd H L (.lst [.int a, .int b, .int c])) L := ⟨a, b, c, upd_same, h⟩
theorem LotOk.same {H H' : Hp} {L : Addr} (s : Same H H') (h : LotOk H L) : LotOk H' L := by
  obtain ⟨a, b, c, e, z⟩ := h
  exact ⟨a, b, c, s _ _ e, z⟩
abbrev t_one_of : Stmt := topS 43
theorem sc_one_of : FnScope ["_law_lot_here", "_law_items"] ["_law_lot_here", "_law_items"] (defScope t_one_of) := ⟨rfl, rfl, rfl, by decide +kernel, rfl, by decide +kernel, by decide +kernel⟩
def spOne [Wd] : Sp := fun vs H Q _ => ∃ (L : Addr) (v : V) (B : Hp) (ds : List D), vs = [.ref L, v] ∧ Same B H ∧ B L = none ∧ LotOk H L ∧ Den B v (.list ds) ∧ 0 < ds.length ∧ ds.length < 1073741824 ∧
  ∀ v' d H', Mv L H H' → LotOk H' L → Same B H' → d ∈ ds → Den B v' d → Q v' H'
theorem same_lot {B H : Hp} {L : Addr} {o : HO} (s : Same B H) (h : B L = none) : Same B (upd H L o) := fun x z e => by rw [upd_ne (ne_of_none e h)]; exact s x z e
theorem ok_one_of [Wd] (TT : Tx mg) (S : Std K mg "_law_one_of" t_one_of ["_law_lot_here", "_law_items"]) (c_pull : CalS P w K mg base 1 "_law_pull" spPull) : CalS P w K mg base 2 "_law_one_of" spOne := by
  refine calS (k := 1) S sc_one_of (fun vs H Q E h => ?_) fun f cdv A outer s H vs Q E hr h => ?_
  · obtain ⟨L, v, B, ds, rfl, _⟩ := h
    rfl
  · obtain ⟨L, v, B, ds, rfl, sB, bL, hL, hd, n0, n1, q⟩ := h
    refine ⟨_, pss_one (ps_ret (pe_ix ix_seq (pv 1) (pe_calS c_pull ⟨rfl, rfl, rfl, rfl, rfl⟩ hr (Nat.le_refl _) rfl (pa_cons (pv 0) (pa_cons (pe_callB call_len_seq rfl TT.len PySem.boot_len (pa_cons (pv 1) pa_nil)) pa_nil))) fun _ _ => rfl)), ?_⟩
    cases hd with
    | @lst aa us _ hB hz hda =>
      obtain ⟨a, b, c, hA, a0⟩ := hL
      have hl := hda.length
      refine ⟨_, rfl, .ref L, rfl, .ref aa, rfl, aa, us, rfl, .inl (.of (sB _ _ hB)), L, (us.length : Nat), a, b, c, rfl, by omega, by omega, hA, a0, fun r a' c' r0 r1 h0 => ?_⟩
      have hr' : r.toNat < us.length := by omega
      have sB' : Same B (upd H L (.lst [.int a', .int b, .int c'])) := same_lot sB bL
      obtain ⟨v', d, e1, e2, e3⟩ := hda.some_at (i := r.toNat) (by omega)
      refine .inl ⟨aa, us, r, v', rfl, rfl, .of (sB' _ _ hB), ?_, q v' d _ Mv.lot (.put h0) sB' (List.mem_of_getElem? e2) e3⟩
      have := atI_nat e1
      rwa [Int.toNat_of_nonneg r0] at this

abbrev t_drawn : Stmt := topS 44
abbrev N_drawn : List Str := ["_law_lot_here", "_law_size", "_law_most", "_law_found", "_law_left", "_law_turn", "_law_at", "_law_more"]
theorem sc_drawn : FnScope N_drawn ["_law_lot_here", "_law_size", "_law_most"] (defScope t_drawn) := ⟨rfl, rfl, rfl, by decide +kernel, rfl, by decide +kernel, by decide +kernel⟩
/-- sizes that may be drawn -/
def SzOk (n : Nat) (most : Int) (ns : List Int) : Prop := ns.length = n ∧ (∀ x ∈ ns, 0 ≤ x ∧ x ≤ 6) ∧ ns.sum ≤ most
def spDrawn : Sp := fun vs H Q _ => ∃ (L : Addr) (n : Nat) (most : Int), vs = [.ref L, .int (n : Nat), .int most] ∧ 1 ≤ n ∧ n ≤ 1000 ∧ 0 ≤ most ∧ LotOk H L ∧ ∀ p ns H', Mv L H H' → LotOk H' L → H p = none → H' p = some (.tup (ns.map V.int)) → SzOk n most ns → Q (.ref p) H'
theorem sum_rep0 (n : Nat) : (List.replicate n (0 : Int)).sum = 0 := by
  induction n with
  | zero => rfl
  | succ n ih => rw [List.replicate_succ, List.sum_cons, ih]; rfl
theorem sum_set : ∀ (ns : List Int) (j : Nat) (x y : Int), ns[j]? = some x → (ns.set j y).sum = ns.sum - x + y
  | [], _, _, _, h => by simp at h
  | z :: ns, 0, x, y, h => by
    simp at h
    subst h
    simp only [List.set_cons_zero, List.sum_cons]
    omega
  | z :: ns, j + 1, x, y, h => by
    have := sum_set ns j x y (by simpa using h)
    simp only [List.set_cons_succ, List.sum_cons, this]
    omega
theorem rep_flat (n : Nat) (v : V) : (List.replicate n [v]).flatten = List.replicate n v := by
  induction n with
  | zero => rfl
  | succ n ih => rw [List.replicate_succ, List.replicate_succ, List.flatten_cons, ih]; rfl
theorem ok_drawn (TT : Tx mg) (S : Std K mg "_law_sizes_drawn" t_drawn ["_law_lot_here", "_law_size", "_law_most"]) (c_pull : CalS P w K mg base 1 "_law_pull" spPull) : CalS P w K mg base 2 "_law_sizes_drawn" spDrawn := by
  refine calS (k := 1) S sc_drawn (fun vs H Q E h => ?_) fun f cdv A outer s H vs Q E hr h => ?_
  · obtain ⟨L, n, most, rfl, _⟩ := h
    rfl
  · obtain ⟨L, n, most, rfl, n0, n1, m0, hL, q⟩ := h
    refine ⟨_, pss_cons (ps_par (i := 3) (j := 4) rfl sc_drawn.nd rfl rfl (by decide) rfl rfl (pa_cons (pe_op op_rep (pe_lst (pa_cons pe_int pa_nil)) (pv 1)) (pa_cons (pv 2) pa_nil)) rfl)
      (pss_cons (ps_for PassesOwn.never rfl (pi_range1 rfl TT.range (pa_cons (pe_op op_mul pe_int (pv 1)) pa_nil)) (pg_name (i := 5) sc_drawn.nd rfl (.inl rfl))
        (pss_cons (ps_par (i := 6) (j := 7) rfl sc_drawn.nd rfl rfl (by decide) rfl rfl (pa_cons (pe_calS c_pull ⟨rfl, rfl, rfl, rfl, rfl⟩ hr (Nat.le_refl _) rfl (pa_cons (pv 0) (pa_cons (pv 1) pa_nil))) (pa_cons (pe_calS c_pull ⟨rfl, rfl, rfl, rfl, rfl⟩ hr (Nat.le_refl _) rfl (pa_cons (pv 0) (pa_cons pe_int pa_nil))) pa_nil)) rfl)
        (pss_one (ps_if (PW.pt (pw_and (pt_cmpR op_le (pv 7) (pv 4) (nomark _)) (pw_and1 (pt_cmpR op_le (pe_op op_add (pe_ix ix_seq (pv 3) (pv 6) fun _ _ => rfl) (pv 7)) pe_int (nomark _)))))
          (pss_one (ps_asg (pe_tup (pa_cons (pe_op op_add (pe_ix ix_seq (pv 3) (pv 6) fun _ _ => rfl) (pv 7)) (pa_cons (pe_op op_sub (pv 4) (pv 7)) pa_nil))) (pg_tup rfl (pgs_cons (pg_sub (pv 3) (pv 6) set_list) (pgs_cons (pg_name (i := 4) sc_drawn.nd rfl (.inl rfl)) pgs_nil))))) pss_nil))))
      (pss_one (ps_ret (pe_callTy call_tuple_of rfl TT.tuple (by decide +kernel) (pa_cons (pv 3) pa_nil))))), ?_⟩
    -- [0] * size
    refine ⟨by decide, fun z hz => ?_⟩
    have v1 : Mv L H (upd H z (.lst [.int 0])) := .new hz
    have zL : z ≠ L := fun e => by
      obtain ⟨a, b, c, e1, _⟩ := hL
      have e1 : H L = _ := e1
      rw [← e, hz] at e1
      cases e1
    refine ⟨_, rfl, z, (n : Nat), _, rfl, rfl, upd_same, by omega, by omega, ?_, fun o ho => ⟨_, rfl, _, _, rfl, ?_⟩⟩
    · rw [Int.toNat_natCast]
      exact Nat.le_trans (by simp; omega) (show 1000 ≤ sizeLine by decide)
    have v2 : Mv L (upd H z (.lst [.int 0])) (upd (upd H z (.lst [.int 0])) o (.lst (List.replicate (n : Int).toNat [V.int 0]).flatten)) := .new ho
    have hoz : o ≠ z := fun e => by
      rw [e, upd_same] at ho
      cases ho
    have ho0 : H o = none := by rw [upd_ne hoz] at ho; exact ho
    have oL : o ≠ L := fun e => by
      obtain ⟨a, b, c, e1, _⟩ := hL
      have e1 : H L = _ := e1
      rw [← e, ho0] at e1
      cases e1
    have hL2 : LotOk (upd (upd H z (.lst [.int 0])) o (.lst (List.replicate (n : Int).toNat [V.int 0]).flatten)) L := by
      obtain ⟨a, b, c, e1, z1⟩ := hL
      refine ⟨a, b, c, ?_, z1⟩
      show upd _ _ _ L = _
      rw [upd_ne oL.symm, upd_ne zL.symm]
      exact e1
    have e0 : (List.replicate (n : Int).toNat [V.int 0]).flatten = (List.replicate n (0 : Int)).map V.int := by
      rw [rep_flat, Int.toNat_natCast, List.map_replicate]
    rw [e0] at v2 hL2 ⊢
    -- the loop
    refine ⟨.int (n : Nat), rfl, 2, (n : Nat), rfl, rfl, .inl ⟨by decide, by decide⟩, _, rfl, by omega, by omega, ?_⟩
    refine ⟨fun i m σ Hc => ∃ (ns : List Int) (left : Int) (x5 x6 x7 : Option V), σ = [some (.ref L), some (.int (n : Nat)), some (.int most), some (.ref o), some (.int left), x5, x6, x7] ∧ i + m = (2 * (n : Int)).toNat ∧ Mv L H Hc ∧ LotOk Hc L ∧ Hc o = some (.lst (ns.map V.int)) ∧ ns.length = n ∧ (∀ x ∈ ns, 0 ≤ x ∧ x ≤ 6) ∧ ns.sum + left = most ∧ 0 ≤ left,
      ⟨(2 * (n : Int)).toNat, List.replicate n 0, most, none, none, none, rfl, by omega, v1.trans v2, hL2, upd_same, List.length_replicate, fun x hx => ?_, by rw [sum_rep0]; omega, m0⟩, ?_⟩
    · rw [List.eq_of_mem_replicate hx]
      exact ⟨by decide, by decide⟩
    rintro i m σ Hc ⟨ns, left, x5, x6, x7, rfl, him, mv, lot, eo, hlen, hall, hsum, hleft⟩
    by_cases hi : i < (2 * (n : Int)).toNat
    · refine .inr ⟨hi, fun σ' H' => ∃ (ns : List Int) (left : Int) (x5 x6 x7 : Option V), σ' = [some (.ref L), some (.int (n : Nat)), some (.int most), some (.ref o), some (.int left), x5, x6, x7] ∧ Mv L H H' ∧ LotOk H' L ∧ H' o = some (.lst (ns.map V.int)) ∧ ns.length = n ∧ (∀ x ∈ ns, 0 ≤ x ∧ x ≤ 6) ∧ ns.sum + left = most ∧ 0 ≤ left,
        fun σ' H' ⟨ns, left, x5, x6, x7, h1, h2⟩ => ⟨m - 1, by omega, ns, left, x5, x6, x7, h1, by omega, h2⟩, fun x H' hy => ?_⟩
      obtain ⟨rfl, rfl⟩ := hy
      obtain ⟨a, b, c, lA, a0⟩ := lot
      refine ⟨.ref L, rfl, .int (n : Nat), rfl, L, (n : Nat), a, b, c, rfl, by omega, by omega, lA, a0, fun at_ a1 c1 at0 atn h1 => ?_⟩
      refine ⟨.ref L, rfl, L, 3, a1, b, c1, rfl, by decide, by decide, upd_same, h1, fun more a2 c2 mo0 mo3 h2 => ⟨_, _, rfl, ?_⟩⟩
      rw [upd_upd']
      have eo2 : (upd H' L (.lst [.int a2, .int b, .int c2])) o = some (.lst (ns.map V.int)) := by
        rw [upd_ne oL]
        exact eo
      have mv2 : Mv L H (upd H' L (.lst [.int a2, .int b, .int c2])) := mv.trans .lot
      have lot2 : LotOk (upd H' L (.lst [.int a2, .int b, .int c2])) L := .put h2
      generalize upd H' L (.lst [.int a2, .int b, .int c2]) = Hd at eo2 mv2 lot2 ⊢
      have atl : at_.toNat < ns.length := by omega
      obtain ⟨cur, hcur⟩ : ∃ cur, ns[at_.toNat]? = some cur := ⟨_, List.getElem?_eq_getElem atl⟩
      have hcv : (ns.map V.int)[at_.toNat]? = some (.int cur) := by
        rw [List.getElem?_map, hcur]
        rfl
      have gat : ∀ Q : VK, Q (.int cur) Hd → rIx K (.ref o) (.int at_) Hd Q := fun Q h => by
        have := ixR0 (K := K) (j := at_.toNat) eo2 hcv h
        rwa [Int.toNat_of_nonneg at0] at this
      refine ⟨.int more, rfl, .int left, rfl, more, left, rfl, rfl, ⟨_, rfl, ite2 (fun hle => ?_) fun _ => ?_⟩⟩
      · have hle : more ≤ left := of_decide_eq_true hle
        refine ⟨.ref o, rfl, .int at_, rfl, gat _ ⟨.int more, rfl, cur, more, rfl, rfl, _, 6, rfl, rfl, ⟨_, rfl, ite2 (fun h6 => ?_) fun _ => ?_⟩⟩⟩
        · have h6 : cur + more ≤ 6 := of_decide_eq_true h6
          refine ⟨.ref o, rfl, .int at_, rfl, gat _ ⟨.int more, rfl, cur, more, rfl, rfl, .int left, rfl, .int more, rfl, left, more, rfl, rfl, (by decide : 2 ≤ sizeLine), fun p hp => ?_⟩⟩
          have po : o ≠ p := ne_of_none eo2 hp
          refine ⟨p, _, rfl, .of upd_same, rfl, _, _, rfl, ⟨.ref o, rfl, .int at_, rfl, o, ns.map V.int, at_, at_.toNat, rfl, rfl, ?_, ?_, _, _, rfl, rfl, ?_⟩⟩
          · rw [upd_ne po]
            exact eo2
          · unfold ixN
            rw [if_pos at0, if_pos (by rw [List.length_map]; omega)]
          · have pL : p ≠ L := fun e => by
              obtain ⟨a, b, c, e1, _⟩ := lot2
              have e1 : Hd L = _ := e1
              rw [← e, hp] at e1
              cases e1
            refine ⟨ns.set at_.toNat (cur + more), left - more, some (.int (0 + (i : Nat))), _, _, rfl, ?_, ?_, ?_, ?_, fun x hx => ?_, ?_, by omega⟩
            · refine fun x z hx e => ?_
              have : x ≠ o := ne_of_none e ho0
              rw [upd_ne this]
              exact (mv2.trans (.new hp)) x z hx e
            · obtain ⟨a, b, c, e1, z1⟩ := lot2
              refine ⟨a, b, c, ?_, z1⟩
              show upd _ _ _ L = _
              rw [upd_ne oL.symm, upd_ne pL.symm]
              exact e1
            · rw [upd_same, List.map_set]
            · rw [List.length_set, hlen]
            · rcases List.mem_or_eq_of_mem_set hx with h | h
              · exact hall x h
              · have := hall cur (List.mem_of_getElem? hcur)
                omega
            · have := sum_set ns at_.toNat cur (cur + more) hcur
              omega
        · exact ⟨ns, left, some (.int (0 + (i : Nat))), _, _, rfl, mv2, lot2, eo2, hlen, hall, hsum, hleft⟩
      · exact ⟨ns, left, some (.int (0 + (i : Nat))), _, _, rfl, mv2, lot2, eo2, hlen, hall, hsum, hleft⟩
    · refine .inl ⟨Nat.le_of_not_lt hi, ?_⟩
      refine ⟨.ref o, rfl, o, ns.map V.int, rfl, .inl ⟨.of eo, fun p hp => ?_⟩⟩
      refine q p ns _ (mv.trans (.new hp)) ?_ ?_ upd_same ⟨hlen, hall, by omega⟩
      · obtain ⟨a, b, c, e1, z1⟩ := lot
        refine ⟨a, b, c, ?_, z1⟩
        show upd _ _ _ L = _
        rw [upd_ne (ne_of_none e1 hp)]
        exact e1
      · cases e : H p with
        | none => rfl
        | some w =>
          by_cases hpL : p = L
          · obtain ⟨a, b, c, e1, z1⟩ := lot
            have e1 : Hc L = _ := e1
            rw [← hpL, hp] at e1
            cases e1
          · rw [mv p w hpL e] at hp
            cases hp
end
end Ar

end
section
set_option Elab.async false
set_option linter.all false
set_option maxRecDepth 100000
set_option maxHeartbeats 4000000
namespace Ar
open PySem Dl
/-! ### the rows as plain things -/
abbrev Bar := Int × Int
abbrev Row := List (Bar × Int)
def eB (b : Bar) : D := .tuple [.int b.1, .int b.2]
def eP (p : Bar × Int) : D := .tuple [eB p.1, .int p.2]
def eR (r : Row) : D := .tuple (r.map eP)
def eS (s : List Int) : D := .tuple (s.map .int)
def eE (p : Bar × Int) : D × D := (eB p.1, .int p.2)
def eC (c : Row) : D := .dict (c.map eE)
/-! ### loops -/
theorem compGo_map {α : Type} {T : TgF} {q : En → Option Bool} {f : En → Option D} {ρ : En} (e : α → D) (p : α → Bool) (g : α → D) : ∀ xs : List α, (∀ x ∈ xs, ∃ ρ1, T (e x) ρ = some ρ1 ∧ q ρ1 = some (p x) ∧ (p x = true → f ρ1 = some (g x))) →
    compGo T q f ρ (xs.map e) = some ((xs.filter p).map g)
  | [], _ => rfl
  | x :: xs, h => by
    obtain ⟨ρ1, h1, h2, h3⟩ := h x List.mem_cons_self
    have ih := compGo_map (T := T) (q := q) (f := f) (ρ := ρ) e p g xs fun y hy => h y (List.mem_cons_of_mem _ hy)
    rw [List.map_cons]
    unfold compGo
    rw [h1, Option.bind_some, h2, Option.bind_some]
    cases hp : p x with
    | true => rw [if_pos rfl, h3 hp, Option.bind_some, ih, List.filter_cons, if_pos hp]; rfl
    | false => rw [if_neg (by decide), ih, List.filter_cons, if_neg (by rw [hp]; decide)]
theorem compGo_all {α : Type} {T : TgF} {f : En → Option D} {ρ : En} (e : α → D) (g : α → D) (xs : List α) (h : ∀ x ∈ xs, ∃ ρ1, T (e x) ρ = some ρ1 ∧ f ρ1 = some (g x)) : compGo T qYes f ρ (xs.map e) = some (xs.map g) := by
  have := compGo_map (T := T) (q := qYes) (f := f) (ρ := ρ) e (fun _ => true) g xs fun x hx => by
    obtain ⟨ρ1, h1, h2⟩ := h x hx
    exact ⟨ρ1, h1, rfl, fun _ => h2⟩
  rwa [List.filter_eq_self.mpr (fun _ _ => rfl)] at this
theorem forGo_fold {α S : Type} {T : TgF} {b : En → Option Out} (e : α → D) (I : S → En → Prop) (P : S → Prop) (step : S → α → S) (mono : ∀ s x, P (step s x) → P s) : ∀ (xs : List α),
    (∀ x ∈ xs, ∀ s ρ, I s ρ → P (step s x) → ∃ ρ1 ρ2, T (e x) ρ = some ρ1 ∧ b ρ1 = some (.nx ρ2) ∧ I (step s x) ρ2) → ∀ s ρ, I s ρ → P (xs.foldl step s) → ∃ ρ', forGo T b (xs.map e) ρ = some (.nx ρ') ∧ I (xs.foldl step s) ρ'
  | [], _, s, ρ, hI, _ => ⟨ρ, rfl, hI⟩
  | x :: xs, h, s, ρ, hI, hP => by
    have back : ∀ (l : List α) (s : S), P (l.foldl step s) → P s := fun l => by
      induction l with
      | nil => exact fun s h => h
      | cons y l ih => exact fun s h => mono s y (ih _ h)
    rw [List.foldl_cons] at hP ⊢
    obtain ⟨ρ1, ρ2, h1, h2, h3⟩ := h x List.mem_cons_self s ρ hI (back xs _ hP)
    obtain ⟨ρ', h4, h5⟩ := forGo_fold e I P step mono xs (fun y hy => h y (List.mem_cons_of_mem _ hy)) _ ρ2 h3 hP
    refine ⟨ρ', ?_, h5⟩
    rw [List.map_cons]
    unfold forGo
    rw [h1, Option.bind_some, h2, Option.bind_some]
    exact h4
/-! ### small laws of the plain functions -/
theorem k1 : L2.kitB "int" "int" = some true := by decide +kernel
theorem k2 : L2.kitB "int" "bool" = some false := by decide +kernel
theorem k3 : L2.kitB "tuple" "tuple" = some true := by decide +kernel
theorem whole (i : Int) : F_is_whole [.int i] = some (.bool true) := by
  simp [F_is_whole, s_is_whole, mIsi, isT, tyName, k1, k2, bodyF, sSeq, sRet, sSet, sSetO, sIf, sNil, sDrop, sAsg, sPar, setAll, sFrz, frz, sApp, sExt, sAug, sAugL, pV, pO, pN, mN, mC, aC, aN, aS, mTup, mTupS, mLst, mB, mU, mF, mSl, mAnd, mOr, mCh2, mCh3, qVal, asB, qAnd, qOr, qNot, qYes, dAdd, dSub, dMul, dLt, dLe, dGt, dGe, fI, fIc, dIx, dNot, dNeg, dIsN, gT, gTs, gN, iR, iL, iT, iE, iI, iK, wipeE, fLen, items, fTuple, fList, List.map, List.replicate, List.length, List.cons_append, List.nil_append, List.getElem?_cons_zero, List.getElem?_cons_succ, Option.bind_some, Option.map_some, List.set_cons_zero, List.set_cons_succ, Option.bind_none]
def homM (a b : Bar) : Int := if b.1 ≤ a.1 ∧ a.1 ≤ b.2 ∧ b.2 ≤ a.2 then 1 else 0
theorem bar_homM (a b : Bar) : F_bar_hom [eB a, eB b] = some (.int (homM a b)) := by
  obtain ⟨x, y⟩ := a
  obtain ⟨z, t⟩ := b
  simp only [F_bar_hom, s_bar_hom, eB, homM, bodyF, sSeq, sRet, sSet, sSetO, sIf, sNil, sDrop, sAsg, sPar, setAll, sFrz, frz, sApp, sExt, sAug, sAugL, pV, pO, pN, mN, mC, aC, aN, aS, mTup, mTupS, mLst, mB, mU, mF, mSl, mAnd, mOr, mCh2, mCh3, qVal, asB, qAnd, qOr, qNot, qYes, dAdd, dSub, dMul, dLt, dLe, dGt, dGe, fI, fIc, dIx, dNot, dNeg, dIsN, gT, gTs, gN, iR, iL, iT, iE, iI, iK, wipeE, fLen, items, fTuple, fList, List.map, List.replicate, List.length, List.cons_append, List.nil_append, List.getElem?_cons_zero, List.getElem?_cons_succ, Option.bind_some, Option.map_some, List.set_cons_zero, List.set_cons_succ, Option.bind_none]
  by_cases h1 : z ≤ x <;> by_cases h2 : x ≤ t <;> by_cases h3 : t ≤ y <;> simp [h1, h2, h3, fInt]
def extM (a b : Bar) : Int := if a.1 + 1 ≤ b.1 ∧ b.1 ≤ a.2 + 1 ∧ a.2 + 1 ≤ b.2 then 1 else 0
theorem bb_extM (a b : Bar) : F_law_bb_ext [eB a, eB b] = some (.int (extM a b)) := by
  obtain ⟨x, y⟩ := a
  obtain ⟨z, t⟩ := b
  simp only [F_law_bb_ext, s_law_bb_ext, eB, extM, bodyF, sSeq, sRet, sSet, sSetO, sIf, sNil, sDrop, sAsg, sPar, setAll, sFrz, frz, sApp, sExt, sAug, sAugL, pV, pO, pN, mN, mC, aC, aN, aS, mTup, mTupS, mLst, mB, mU, mF, mSl, mAnd, mOr, mCh2, mCh3, qVal, asB, qAnd, qOr, qNot, qYes, dAdd, dSub, dMul, dLt, dLe, dGt, dGe, fI, fIc, dIx, dNot, dNeg, dIsN, gT, gTs, gN, iR, iL, iT, iE, iI, iK, wipeE, fLen, items, fTuple, fList, List.map, List.replicate, List.length, List.cons_append, List.nil_append, List.getElem?_cons_zero, List.getElem?_cons_succ, Option.bind_some, Option.map_some, List.set_cons_zero, List.set_cons_succ, Option.bind_none]
  by_cases h1 : x + 1 ≤ z <;> by_cases h2 : z ≤ y + 1 <;> by_cases h3 : y + 1 ≤ t <;> simp [h1, h2, h3, fInt]
/-- whole numbers of the program's size -/
theorem integerM {i : Int} (h : -1000000 ≤ i ∧ i ≤ 1000000) : F_is_integer [.int i] = some (.bool true) := by
  have h1 : (-(1000000000000000000000000000000000000000000000000000000000000 : Int)) < i := by omega
  have h2 : i < (1000000000000000000000000000000000000000000000000000000000000 : Int) := by omega
  simp [F_is_integer, s_is_integer, whole, h1, h2, bodyF, sSeq, sRet, sSet, sSetO, sIf, sNil, sDrop, sAsg, sPar, setAll, sFrz, frz, sApp, sExt, sAug, sAugL, pV, pO, pN, mN, mC, aC, aN, aS, mTup, mTupS, mLst, mB, mU, mF, mSl, mAnd, mOr, mCh2, mCh3, qVal, asB, qAnd, qOr, qNot, qYes, dAdd, dSub, dMul, dLt, dLe, dGt, dGe, fI, fIc, dIx, dNot, dNeg, dIsN, gT, gTs, gN, iR, iL, iT, iE, iI, iK, wipeE, fLen, items, fTuple, fList, List.map, List.replicate, List.length, List.cons_append, List.nil_append, List.getElem?_cons_zero, List.getElem?_cons_succ, Option.bind_some, Option.map_some, List.set_cons_zero, List.set_cons_succ, Option.bind_none]
theorem countM {i lo hi : Int} (h : -1000000 ≤ i ∧ i ≤ 1000000) (h1 : lo ≤ i) (h2 : i ≤ hi) : F_require_count [.int i, .int lo, .int hi] = some .none := by
  have h3 : ¬ i < lo := by omega
  have h4 : ¬ hi < i := by omega
  simp [F_require_count, s_require_count, integerM h, h3, h4, bodyF, sSeq, sRet, sSet, sSetO, sIf, sNil, sDrop, sAsg, sPar, setAll, sFrz, frz, sApp, sExt, sAug, sAugL, pV, pO, pN, mN, mC, aC, aN, aS, mTup, mTupS, mLst, mB, mU, mF, mSl, mAnd, mOr, mCh2, mCh3, qVal, asB, qAnd, qOr, qNot, qYes, dAdd, dSub, dMul, dLt, dLe, dGt, dGe, fI, fIc, dIx, dNot, dNeg, dIsN, gT, gTs, gN, iR, iL, iT, iE, iI, iK, wipeE, fLen, items, fTuple, fList, List.map, List.replicate, List.length, List.cons_append, List.nil_append, List.getElem?_cons_zero, List.getElem?_cons_succ, Option.bind_some, Option.map_some, List.set_cons_zero, List.set_cons_succ, Option.bind_none]
theorem bools_all {α : Type} (xs : List α) : bools? (xs.map fun _ => PyData.bool true) = some (xs.map fun _ => true) := by
  induction xs with
  | nil => rfl
  | cons x xs ih => simp [bools?, ih]
theorem all_all {α : Type} (xs : List α) : fAll [.list (xs.map fun _ => PyData.bool true)] = some (.bool true) := by
  simp [fAll, bools_all, bodyF, sSeq, sRet, sSet, sSetO, sIf, sNil, sDrop, sAsg, sPar, setAll, sFrz, frz, sApp, sExt, sAug, sAugL, pV, pO, pN, mN, mC, aC, aN, aS, mTup, mTupS, mLst, mB, mU, mF, mSl, mAnd, mOr, mCh2, mCh3, qVal, asB, qAnd, qOr, qNot, qYes, dAdd, dSub, dMul, dLt, dLe, dGt, dGe, fI, fIc, dIx, dNot, dNeg, dIsN, gT, gTs, gN, iR, iL, iT, iE, iI, iK, wipeE, fLen, items, fTuple, fList, List.map, List.replicate, List.length, List.cons_append, List.nil_append, List.getElem?_cons_zero, List.getElem?_cons_succ, Option.bind_some, Option.map_some, List.set_cons_zero, List.set_cons_succ, Option.bind_none]
theorem is_barM {n : Int} {b : Bar} (h : 0 ≤ b.1 ∧ b.1 ≤ b.2 ∧ b.2 < n) : F_is_bar [.int n, eB b] = some (.bool true) := by
  obtain ⟨x, y⟩ := b
  obtain ⟨h1, h2, h3⟩ := h
  simp only at h1 h2 h3
  have e1 : SeqAt.shaped (.int 2) = true := rfl
  simp [F_is_bar, s_is_bar, eB, mIsi, isT, tyName, k3, mLc, compGo, whole, fAll, bools?, dNe, e1, PyData.eqv, h1, h2, h3, bodyF, sSeq, sRet, sSet, sSetO, sIf, sNil, sDrop, sAsg, sPar, setAll, sFrz, frz, sApp, sExt, sAug, sAugL, pV, pO, pN, mN, mC, aC, aN, aS, mTup, mTupS, mLst, mB, mU, mF, mSl, mAnd, mOr, mCh2, mCh3, qVal, asB, qAnd, qOr, qNot, qYes, dAdd, dSub, dMul, dLt, dLe, dGt, dGe, fI, fIc, dIx, dNot, dNeg, dIsN, gT, gTs, gN, iR, iL, iT, iE, iI, iK, wipeE, fLen, items, fTuple, fList, List.map, List.replicate, List.length, List.cons_append, List.nil_append, List.getElem?_cons_zero, List.getElem?_cons_succ, Option.bind_some, Option.map_some, List.set_cons_zero, List.set_cons_succ, Option.bind_none]
theorem is_pairM {n : Int} {p : Bar × Int} (h : 0 ≤ p.1.1 ∧ p.1.1 ≤ p.1.2 ∧ p.1.2 < n ∧ 1 ≤ p.2 ∧ p.2 ≤ 6) : F_is_pair_of_bar [.int n, eP p] = some (.bool true) := by
  obtain ⟨b, m⟩ := p
  obtain ⟨h1, h2, h3, h4, h5⟩ := h
  simp only at h1 h2 h3 h4 h5
  have e1 : SeqAt.shaped (.int 2) = true := rfl
  simp [F_is_pair_of_bar, s_is_pair_of_bar, eP, mIsi, isT, tyName, k3, whole, is_barM ⟨h1, h2, h3⟩, dNe, e1, PyData.eqv, h4, h5, bodyF, sSeq, sRet, sSet, sSetO, sIf, sNil, sDrop, sAsg, sPar, setAll, sFrz, frz, sApp, sExt, sAug, sAugL, pV, pO, pN, mN, mC, aC, aN, aS, mTup, mTupS, mLst, mB, mU, mF, mSl, mAnd, mOr, mCh2, mCh3, qVal, asB, qAnd, qOr, qNot, qYes, dAdd, dSub, dMul, dLt, dLe, dGt, dGe, fI, fIc, dIx, dNot, dNeg, dIsN, gT, gTs, gN, iR, iL, iT, iE, iI, iK, wipeE, fLen, items, fTuple, fList, List.map, List.replicate, List.length, List.cons_append, List.nil_append, List.getElem?_cons_zero, List.getElem?_cons_succ, Option.bind_some, Option.map_some, List.set_cons_zero, List.set_cons_succ, Option.bind_none]
/-- sums -/
theorem ints_map (xs : List Int) : ints? (xs.map PyData.int) = some xs := by
  induction xs with
  | nil => rfl
  | cons x xs ih => simp [ints?, ih]
theorem sum_map (xs : List Int) : fSum [.list (xs.map PyData.int)] = some (.int xs.sum) := by
  simp [fSum, ints_map, bodyF, sSeq, sRet, sSet, sSetO, sIf, sNil, sDrop, sAsg, sPar, setAll, sFrz, frz, sApp, sExt, sAug, sAugL, pV, pO, pN, mN, mC, aC, aN, aS, mTup, mTupS, mLst, mB, mU, mF, mSl, mAnd, mOr, mCh2, mCh3, qVal, asB, qAnd, qOr, qNot, qYes, dAdd, dSub, dMul, dLt, dLe, dGt, dGe, fI, fIc, dIx, dNot, dNeg, dIsN, gT, gTs, gN, iR, iL, iT, iE, iI, iK, wipeE, fLen, items, fTuple, fList, List.map, List.replicate, List.length, List.cons_append, List.nil_append, List.getElem?_cons_zero, List.getElem?_cons_succ, Option.bind_some, Option.map_some, List.set_cons_zero, List.set_cons_succ, Option.bind_none]
/-- how many bars of the row hold the bar -/
def rkM (r : Row) (s t : Int) : Int := ((r.filter fun p => decide (p.1.1 ≤ s ∧ t ≤ p.1.2)).map (·.2)).sum
def sizesM (n : Nat) (r : Row) : List Int := (List.range n).map fun (k : Nat) => rkM r k k
theorem rangeM (n : Nat) (h : n ≤ 1000) : rg1 [.int (n : Nat)] = some ((List.range n).map fun k => .int ((k : Nat) : Int)) := by
  have : (-1000000 : Int) ≤ (n : Nat) ∧ ((n : Nat) : Int) ≤ 1000000 := by omega
  simp [rg1, this]
theorem sizes_inM {n : Nat} (hn : n ≤ 1000) (r : Row) : F_sizes_in [.int (n : Nat), eR r] = some (eS (sizesM n r)) := by
  have inner : ∀ (k : Nat) (x3 x4 x5 : Sl), mLc (iT (mN 1)) (gT [gT [gN 4, gN 5], gN 3]) (qVal (mCh2 dLe dLe (mN 4) (mN 2) (mN 5))) (mN 3) [3, 4, 5] [.val (.int (n : Nat)), .val (eR r), .val (.int ((k : Nat) : Int)), x3, x4, x5] = some (.list ((((r.filter fun p => decide (p.1.1 ≤ (k : Int) ∧ (k : Int) ≤ p.1.2)).map (·.2)).map PyData.int))) := by
    intro k x3 x4 x5
    have := compGo_map (T := gT [gT [gN 4, gN 5], gN 3]) (q := qVal (mCh2 dLe dLe (mN 4) (mN 2) (mN 5))) (f := mN 3) (ρ := [.val (.int (n : Nat)), .val (eR r), .val (.int ((k : Nat) : Int)), .un, .un, .un]) eP (fun p => decide (p.1.1 ≤ (k : Int) ∧ (k : Int) ≤ p.1.2)) (fun p => .int p.2) r fun p hp => by
      obtain ⟨⟨x, y⟩, m⟩ := p
      refine ⟨[.val (.int (n : Nat)), .val (eR r), .val (.int ((k : Nat) : Int)), .val (.int m), .val (.int x), .val (.int y)], rfl, ?_, fun _ => rfl⟩
      by_cases h1 : x ≤ (k : Int) <;> by_cases h2 : (k : Int) ≤ y <;> simp [h1, h2, bodyF, sSeq, sRet, sSet, sSetO, sIf, sNil, sDrop, sAsg, sPar, setAll, sFrz, frz, sApp, sExt, sAug, sAugL, pV, pO, pN, mN, mC, aC, aN, aS, mTup, mTupS, mLst, mB, mU, mF, mSl, mAnd, mOr, mCh2, mCh3, qVal, asB, qAnd, qOr, qNot, qYes, dAdd, dSub, dMul, dLt, dLe, dGt, dGe, fI, fIc, dIx, dNot, dNeg, dIsN, gT, gTs, gN, iR, iL, iT, iE, iI, iK, wipeE, fLen, items, fTuple, fList, List.map, List.replicate, List.length, List.cons_append, List.nil_append, List.getElem?_cons_zero, List.getElem?_cons_succ, Option.bind_some, Option.map_some, List.set_cons_zero, List.set_cons_succ, Option.bind_none]
    simp only [mLc, eR, bodyF, sSeq, sRet, sSet, sSetO, sIf, sNil, sDrop, sAsg, sPar, setAll, sFrz, frz, sApp, sExt, sAug, sAugL, pV, pO, pN, mN, mC, aC, aN, aS, mTup, mTupS, mLst, mB, mU, mF, mSl, mAnd, mOr, mCh2, mCh3, qVal, asB, qAnd, qOr, qNot, qYes, dAdd, dSub, dMul, dLt, dLe, dGt, dGe, fI, fIc, dIx, dNot, dNeg, dIsN, gT, gTs, gN, iR, iL, iT, iE, iI, iK, wipeE, fLen, items, fTuple, fList, List.map, List.replicate, List.length, List.cons_append, List.nil_append, List.getElem?_cons_zero, List.getElem?_cons_succ, Option.bind_some, Option.map_some, List.set_cons_zero, List.set_cons_succ, Option.bind_none] at this ⊢
    rw [this, Option.map_some, List.map_map]
    rfl
  have outer := compGo_all (T := gN 2) (f := mF fSum (aC (mLc (iT (mN 1)) (gT [gT [gN 4, gN 5], gN 3]) (qVal (mCh2 dLe dLe (mN 4) (mN 2) (mN 5))) (mN 3) [3, 4, 5]) (aN))) (ρ := [.val (.int (n : Nat)), .val (eR r), .un, .un, .un, .un]) (fun (k : Nat) => PyData.int ((k : Nat) : Int)) (fun k => .int (rkM r k k)) (List.range n) fun k hk =>
    ⟨[.val (.int (n : Nat)), .val (eR r), .val (.int ((k : Nat) : Int)), .un, .un, .un], rfl, by
      simp only [mF, aC, aN, inner, Option.bind_some, sum_map, rkM]⟩
  unfold F_sizes_in s_sizes_in
  simp only [bodyF, sRet, mF, aC, aN, mLc, iR, mN, List.map, List.length, List.replicate, List.cons_append, List.nil_append, List.getElem?_cons_zero, List.getElem?_cons_succ, Option.bind_some, rangeM n hn, wipeE, List.set_cons_zero, List.set_cons_succ] at outer ⊢
  rw [outer]
  simp [fTuple, Dl.items, eS, sizesM]
end Ar

end
section
set_option Elab.async false
set_option linter.all false
set_option maxRecDepth 100000
set_option maxHeartbeats 4000000
namespace Ar
open PySem Dl
/-! ### rows that stand -/
def RowOk (n : Nat) (r : Row) : Prop := (∀ p ∈ r, 0 ≤ p.1.1 ∧ p.1.1 ≤ p.1.2 ∧ p.1.2 < (n : Int) ∧ 1 ≤ p.2 ∧ p.2 ≤ 6) ∧ rising (r.map (·.1)) = true ∧ r.length < 64 ∧ ∃ a l, sizesM n r = a :: l ∧ l.foldl max a ≤ 6
instance {n : Nat} {r : Row} : Decidable (∃ a l, sizesM n r = a :: l ∧ l.foldl max a ≤ 6) :=
  match h : sizesM n r with
  | [] => isFalse fun ⟨a, l, e, _⟩ => by cases e
  | a :: l => if h2 : l.foldl max a ≤ 6 then isTrue ⟨a, l, rfl, h2⟩ else isFalse fun ⟨a', l', e, q⟩ => by cases e; exact h2 q
instance {n : Nat} {r : Row} : Decidable (RowOk n r) := inferInstanceAs (Decidable (_ ∧ _))
theorem ipairs_eB : ∀ {l : List Bar}, (∀ b ∈ l, 0 ≤ b.1 ∧ b.1 ≤ b.2 ∧ b.2 < 64) → ipairs (l.map eB) = some l
  | [], _ => rfl
  | b :: l, h => by
    obtain ⟨x, y⟩ := b
    have h1 := h (x, y) List.mem_cons_self
    simp only at h1
    have h2 : 0 ≤ x ∧ x < 64 ∧ 0 ≤ y ∧ y < 64 := by omega
    simp [ipairs, ipair, eB, h2, ipairs_eB fun b hb => h b (List.mem_cons_of_mem _ hb)]
theorem depth_eB (b : Bar) : (eB b).depth = 1 := by simp [eB, PyData.depth, PyData.depthAll]
theorem lay_eB (b : Bar) : (eB b).canLay0 = true := by simp [eB, PyData.canLay0, PyData.canLayAll0]
theorem eqv_eB (a b : Bar) : PyData.eqv (eB a) (eB b) = decide (a = b) := PySem.W.Datum.eqv a b
theorem layAll_eB (l : List Bar) : PyData.canLayAll0 (l.map eB) = true := by
  induction l with
  | nil => rfl
  | cons b l ih => simp [PyData.canLayAll0, lay_eB, ih]
theorem depthAll_eB (l : List Bar) : PyData.depthAll (l.map eB) ≤ 1 := by
  induction l with
  | nil => exact Nat.zero_le _
  | cons b l ih =>
    simp only [List.map_cons, PyData.depthAll, depth_eB]
    exact Nat.max_le.mpr ⟨Nat.le_refl _, ih⟩
theorem shaped_bars (l : List Bar) : SeqAt.shaped (.list (l.map eB)) = true := by
  simp only [SeqAt.shaped, PyData.canLay0, layAll_eB, PyData.depth, Bool.true_and]
  exact decide_eq_true (Nat.le_trans (Nat.succ_le_succ (depthAll_eB l)) (show 2 ≤ 64 by decide))
theorem eqv_bars (l m : List Bar) : PyData.eqv (.list (l.map eB)) (.list (m.map eB)) = decide (l = m) := PySem.W.Datum.eqv l m
theorem is_bar_rowM {n : Nat} (hn : n ≤ 6) {r : Row} (h : RowOk n r) : F_is_bar_row_in [.int (n : Nat), eR r] = some (.bool true) := by
  obtain ⟨h1, h2, h3, a, l, h4, h5⟩ := h
  have e1 := compGo_all (T := gN 5) (f := mF F_is_pair_of_bar (aC (mN 0) (aC (mN 5) aN))) (ρ := [.val (.int (n : Nat)), .val (eR r), .un, .un, .un, .un]) eP (fun _ => .bool true) r fun p hp =>
    ⟨[.val (.int (n : Nat)), .val (eR r), .un, .un, .un, .val (eP p)], rfl, by simp only [is_pairM (h1 p hp), bodyF, sSeq, sRet, sSet, sSetO, sIf, sNil, sDrop, sAsg, sPar, setAll, sFrz, frz, sApp, sExt, sAug, sAugL, pV, pO, pN, mN, mC, aC, aN, aS, mTup, mTupS, mLst, mB, mU, mF, mSl, mAnd, mOr, mCh2, mCh3, qVal, asB, qAnd, qOr, qNot, qYes, dAdd, dSub, dMul, dLt, dLe, dGt, dGe, fI, fIc, dIx, dNot, dNeg, dIsN, gT, gTs, gN, iR, iL, iT, iE, iI, iK, wipeE, fLen, items, fTuple, fList, List.map, List.replicate, List.length, List.cons_append, List.nil_append, List.getElem?_cons_zero, List.getElem?_cons_succ, Option.bind_some, Option.map_some, Option.map_none, Bool.not_true, Bool.not_false, Bool.false_eq_true, ↓reduceIte, decide_true, decide_false, List.set_cons_zero, List.set_cons_succ, Option.bind_none]⟩
  have e2 := compGo_all (T := gT [gN 3, gN 4]) (f := mN 3) (ρ := [.val (.int (n : Nat)), .val (eR r), .un, .un, .un, .un]) eP (fun p => eB p.1) r fun p hp =>
    ⟨[.val (.int (n : Nat)), .val (eR r), .un, .val (eB p.1), .val (.int p.2), .un], rfl, rfl⟩
  have e4 : dSortedSet (.list ((r.map (·.1)).map eB)) = some (.list ((r.map (·.1)).map eB)) := by
    simp only [dSortedSet]
    rw [ipairs_eB fun b hb => ?_, Option.bind_some, if_pos ⟨h2, by simpa using h3⟩]
    obtain ⟨p, hp, rfl⟩ := List.mem_map.mp hb
    have := h1 p hp
    omega
  have e5 : fMax [eS (sizesM n r)] = some (.int (l.foldl max a)) := by
    rw [h4]
    simp only [fMax, eS, Dl.items, Option.bind_some, ints_map]
  have e7 := sizes_inM (show n ≤ 1000 by omega) r
  have e8 : dEq (.list ((r.map (·.1)).map eB)) (.list ((r.map (·.1)).map eB)) = some (.bool true) := by
    simp only [dEq, shaped_bars, eqv_bars, Bool.and_self, if_true, decide_true]
  have e3 : (r.map fun p => eB p.1) = (r.map (·.1)).map eB := by rw [List.map_map]; rfl
  rw [e3] at e2
  generalize (r.map (·.1)).map eB = L at e2 e4 e8
  have e10 : mIsi (isT "tuple") (mN 1) [.val (.int (n : Nat)), .val (eR r), .un, .un, .un, .un] = some (.bool true) := by
    simp [mIsi, isT, eR, tyName, k3, mN]
  have e11 : mLc (iT (mN 1)) (gN 5) qYes (mF F_is_pair_of_bar (aC (mN 0) (aC (mN 5) aN))) [5] [.val (.int (n : Nat)), .val (eR r), .un, .un, .un, .un] = some (.list (r.map fun _ => .bool true)) := by
    show (compGo _ _ _ _ _).map _ = _
    rw [show wipeE [Sl.val (.int (n : Nat)), .val (eR r), .un, .un, .un, .un] [5] = [Sl.val (.int (n : Nat)), .val (eR r), .un, .un, .un, .un] from rfl, e1]
    rfl
  have e12 : mLc (iT (mN 1)) (gT [gN 3, gN 4]) qYes (mN 3) [3, 4] [.val (.int (n : Nat)), .val (eR r), .un, .un, .un, .un] = some (.list L) := by
    show (compGo _ _ _ _ _).map _ = _
    rw [show wipeE [Sl.val (.int (n : Nat)), .val (eR r), .un, .un, .un, .un] [3, 4] = [Sl.val (.int (n : Nat)), .val (eR r), .un, .un, .un, .un] from rfl, e2]
    rfl
  simp only [F_is_bar_row_in, s_is_bar_row_in, e10, e11, e12, all_all, e4, e8, e7, e5, h5, bodyF, sSeq, sRet, sSet, sSetO, sIf, sNil, sDrop, sAsg, sPar, setAll, sFrz, frz, sApp, sExt, sAug, sAugL, pV, pO, pN, mN, mC, aC, aN, aS, mTup, mTupS, mLst, mB, mU, mF, mSl, mAnd, mOr, mCh2, mCh3, qVal, asB, qAnd, qOr, qNot, qYes, dAdd, dSub, dMul, dLt, dLe, dGt, dGe, fI, fIc, dIx, dNot, dNeg, dIsN, gT, gTs, gN, iR, iL, iT, iE, iI, iK, wipeE, fLen, items, fTuple, fList, List.map, List.replicate, List.length, List.cons_append, List.nil_append, List.getElem?_cons_zero, List.getElem?_cons_succ, Option.bind_some, Option.map_some, Option.map_none, Bool.not_true, Bool.not_false, Bool.false_eq_true, ↓reduceIte, decide_true, decide_false, List.set_cons_zero, List.set_cons_succ, Option.bind_none]
theorem barsOkM {n : Nat} (hn : n ≤ 6) {r : Row} (h : RowOk n r) : F_require_bars [.int (n : Nat), eR r] = some .none := by
  simp [F_require_bars, s_require_bars, is_bar_rowM hn h, bodyF, sSeq, sRet, sSet, sSetO, sIf, sNil, sDrop, sAsg, sPar, setAll, sFrz, frz, sApp, sExt, sAug, sAugL, pV, pO, pN, mN, mC, aC, aN, aS, mTup, mTupS, mLst, mB, mU, mF, mSl, mAnd, mOr, mCh2, mCh3, qVal, asB, qAnd, qOr, qNot, qYes, dAdd, dSub, dMul, dLt, dLe, dGt, dGe, fI, fIc, dIx, dNot, dNeg, dIsN, gT, gTs, gN, iR, iL, iT, iE, iI, iK, wipeE, fLen, items, fTuple, fList, List.map, List.replicate, List.length, List.cons_append, List.nil_append, List.getElem?_cons_zero, List.getElem?_cons_succ, Option.bind_some, Option.map_some, Option.map_none, Bool.not_true, Bool.not_false, Bool.false_eq_true, ↓reduceIte, decide_true, decide_false, List.set_cons_zero, List.set_cons_succ, Option.bind_none]
theorem points_x (F_require_count : List D → Option D) {n : Int} (a1 : F_require_count [.int n, .int 1, .int 6] = some .none) : bodyF 1 (sDrop (mF F_require_count (aC (mN 0) (aC (mC (.int 1)) (aC (mC (.int 6)) (aN)))))) [.int n] = some .none := by
  simp only [a1, bodyF, sSeq, sRet, sSet, sSetO, sIf, sNil, sDrop, sAsg, sPar, setAll, sFrz, frz, sApp, sExt, sAug, sAugL, pV, pO, pN, mN, mC, aC, aN, aS, mTup, mTupS, mLst, mB, mU, mF, mSl, mAnd, mOr, mCh2, mCh3, qVal, asB, qAnd, qOr, qNot, qYes, dAdd, dSub, dMul, dLt, dLe, dGt, dGe, fI, fIc, dIx, dNot, dNeg, dIsN, gT, gTs, gN, iR, iL, iT, iE, iI, iK, wipeE, fLen, items, fTuple, fList, List.map, List.replicate, List.length, List.cons_append, List.nil_append, List.getElem?_cons_zero, List.getElem?_cons_succ, Option.bind_some, Option.map_some, Option.map_none, Bool.not_true, Bool.not_false, Bool.false_eq_true, ↓reduceIte, decide_true, decide_false, List.set_cons_zero, List.set_cons_succ, Option.bind_none]
theorem pointsM {n : Nat} (h1 : 1 ≤ n) (h2 : n ≤ 6) : F_require_points [.int (n : Nat)] = some .none := points_x F_require_count (countM (by omega) (by omega) (by omega))
theorem both_x (F_require_points F_require_bars : List D → Option D) {n r r' : D} (a1 : F_require_points [n] = some .none) (a2 : F_require_bars [n, r] = some .none) (a3 : F_require_bars [n, r'] = some .none) : bodyF 3 (sSeq (sDrop (mF F_require_points (aC (mN 0) (aN))))   (sSeq (sDrop (mF F_require_bars (aC (mN 0) (aC (mN 1) (aN)))))   (sDrop (mF F_require_bars (aC (mN 0) (aC (mN 2) (aN))))))) [n, r, r'] = some .none := by
  simp only [a1, a2, a3, bodyF, sSeq, sRet, sSet, sSetO, sIf, sNil, sDrop, sAsg, sPar, setAll, sFrz, frz, sApp, sExt, sAug, sAugL, pV, pO, pN, mN, mC, aC, aN, aS, mTup, mTupS, mLst, mB, mU, mF, mSl, mAnd, mOr, mCh2, mCh3, qVal, asB, qAnd, qOr, qNot, qYes, dAdd, dSub, dMul, dLt, dLe, dGt, dGe, fI, fIc, dIx, dNot, dNeg, dIsN, gT, gTs, gN, iR, iL, iT, iE, iI, iK, wipeE, fLen, items, fTuple, fList, List.map, List.replicate, List.length, List.cons_append, List.nil_append, List.getElem?_cons_zero, List.getElem?_cons_succ, Option.bind_some, Option.map_some, Option.map_none, Bool.not_true, Bool.not_false, Bool.false_eq_true, ↓reduceIte, decide_true, decide_false, List.set_cons_zero, List.set_cons_succ, Option.bind_none]
theorem bothM {n : Nat} (h1 : 1 ≤ n) (h2 : n ≤ 6) {r r' : Row} (h : RowOk n r) (h' : RowOk n r') : F_require_both_bars [.int (n : Nat), eR r, eR r'] = some .none := both_x _ _ (pointsM h1 h2) (barsOkM h2 h) (barsOkM h2 h')
/-! ### homs -/
def homsM (r r' : Row) : Int := ((r.flatMap fun p => r'.map fun q => p.2 * q.2 * homM p.1 q.1)).sum
theorem compGo2_all {α β : Type} {T : TgF} {i2 : En → Option (List D)} {vs1 : List Nat} {T2 : TgF} {f : En → Option D} {ρ : En} (e : α → D) (e2 : β → D) (m : α → List β) (g : α → β → D) : ∀ xs : List α, (∀ x ∈ xs, ∃ ρ1, T (e x) ρ = some ρ1 ∧ noOwn ρ1 = true ∧ i2 ρ1 = some ((m x).map e2) ∧ ∀ y ∈ m x, ∃ ρ2, T2 (e2 y) (wipeE ρ1 vs1) = some ρ2 ∧ f ρ2 = some (g x y)) →
    compGo2 T qYes i2 vs1 T2 f ρ (xs.map e) = some (xs.flatMap fun x => (m x).map (g x))
  | [], _ => rfl
  | x :: xs, h => by
    obtain ⟨ρ1, h1, h2, h3, h4⟩ := h x List.mem_cons_self
    have ih := compGo2_all (T := T) (i2 := i2) (vs1 := vs1) (T2 := T2) (f := f) (ρ := ρ) e e2 m g xs fun y hy => h y (List.mem_cons_of_mem _ hy)
    have hi := compGo_all (T := T2) (f := f) (ρ := wipeE ρ1 vs1) e2 (g x) (m x) h4
    rw [List.map_cons]
    unfold compGo2
    rw [h1, Option.bind_some, if_neg (by rw [h2]; decide)]
    show (some true).bind _ = _
    rw [Option.bind_some, if_pos rfl, h3, Option.bind_some, hi, Option.bind_some, ih]
    rfl
theorem flat_len {α β : Type} (n : Nat) (f : α → List β) : ∀ l : List α, (∀ x ∈ l, (f x).length ≤ n) → (l.flatMap f).length ≤ l.length * n
  | [], _ => by simp
  | x :: l, h => by
    have h1 := h x List.mem_cons_self
    have h2 := flat_len n f l fun y hy => h y (List.mem_cons_of_mem _ hy)
    rw [List.flatMap_cons, List.length_append, List.length_cons, Nat.succ_mul]
    omega
theorem homsRM {r r' : Row} (h : ∀ p ∈ r, 0 ≤ p.2 ∧ p.2 ≤ 6) (h' : ∀ p ∈ r', 0 ≤ p.2 ∧ p.2 ≤ 6) (hl : r.length < 64) (hl' : r'.length < 64) : F_homs_of_rows [eR r, eR r'] = some (.int (homsM r r')) := by
  have main := compGo2_all (T := gT [gN 2, gN 3]) (i2 := iT (mN 1)) (vs1 := [4, 5]) (T2 := gT [gN 4, gN 5]) (f := mB dMul (mB dMul (mN 3) (mN 5)) (mF F_bar_hom (aC (mN 2) (aC (mN 4) (aN))))) (ρ := [.val (eR r), .val (eR r'), .un, .un, .un, .un]) eP eP (fun _ => r') (fun p q => .int (p.2 * q.2 * homM p.1 q.1)) r fun p hp =>
    ⟨[.val (eR r), .val (eR r'), .val (eB p.1), .val (.int p.2), .un, .un], rfl, rfl, rfl, fun q hq => ⟨[.val (eR r), .val (eR r'), .val (eB p.1), .val (.int p.2), .val (eB q.1), .val (.int q.2)], rfl, by
      have h1 := h p hp
      have h2 := h' q hq
      have h3 : 0 ≤ p.2 * q.2 := Int.mul_nonneg h1.1 h2.1
      have h4 : p.2 * q.2 ≤ 6 * 6 := Int.mul_le_mul h1.2 h2.2 h2.1 (by decide)
      have h5 : -(2 ^ 64) < p.2 ∧ p.2 < 2 ^ 64 := by omega
      have h6 : -(2 ^ 64) < p.2 * q.2 ∧ p.2 * q.2 < 2 ^ 64 := by omega
      have h7 : dMul (.int p.2) (.int q.2) = some (.int (p.2 * q.2)) := by
        show (if decide (-(2 ^ 64) < p.2 ∧ p.2 < 2 ^ 64) = true then _ else none) = _
        rw [if_pos (decide_eq_true h5)]
      have h8 : dMul (.int (p.2 * q.2)) (.int (homM p.1 q.1)) = some (.int (p.2 * q.2 * homM p.1 q.1)) := by
        show (if decide (-(2 ^ 64) < p.2 * q.2 ∧ p.2 * q.2 < 2 ^ 64) = true then _ else none) = _
        rw [if_pos (decide_eq_true h6)]
      simp only [mB, mN, mF, aC, aN, List.getElem?_cons_zero, List.getElem?_cons_succ, Option.bind_some, h7, bar_homM, h8]⟩⟩
  have len : (r.flatMap fun p => r'.map fun q => PyData.int (p.2 * q.2 * homM p.1 q.1)).length ≤ 1000000 := by
    have := flat_len 64 (fun p : Bar × Int => r'.map fun q => PyData.int (p.2 * q.2 * homM p.1 q.1)) r fun p _ => by rw [List.length_map]; omega
    have h2 : r.length * 64 ≤ 64 * 64 := Nat.mul_le_mul_right 64 (by omega)
    omega
  have e1 : mLc2 (iT (mN 0)) (gT [gN 2, gN 3]) qYes (iT (mN 1)) [4, 5] (gT [gN 4, gN 5]) (mB dMul (mB dMul (mN 3) (mN 5)) (mF F_bar_hom (aC (mN 2) (aC (mN 4) (aN))))) [2, 3, 4, 5] [.val (eR r), .val (eR r'), .un, .un, .un, .un] = some (.list (r.flatMap fun p => r'.map fun q => PyData.int (p.2 * q.2 * homM p.1 q.1))) := by
    show ((compGo2 _ _ _ _ _ _ _ _).bind _) = _
    rw [show wipeE [Sl.val (eR r), .val (eR r'), .un, .un, .un, .un] [2, 3, 4, 5] = [Sl.val (eR r), .val (eR r'), .un, .un, .un, .un] from rfl, main, Option.bind_some, if_pos len]
  have e2 : (r.flatMap fun p => r'.map fun q => PyData.int (p.2 * q.2 * homM p.1 q.1)) = (r.flatMap fun p => r'.map fun q => p.2 * q.2 * homM p.1 q.1).map PyData.int := by
    rw [List.map_flatMap]
    simp only [List.map_map]
    rfl
  rw [e2] at e1
  have e3 := sum_map (r.flatMap fun p => r'.map fun q => p.2 * q.2 * homM p.1 q.1)
  simp only [F_homs_of_rows, s_homs_of_rows, bodyF, sRet, mF, aC, aN, List.map, List.length, List.replicate, List.cons_append, List.nil_append, e1, Option.bind_some, e3, Option.map_some, homsM]
theorem bar_homs_x (F_require_both_bars F_homs_of_rows : List D → Option D) {n r r' d : D} (a1 : F_require_both_bars [n, r, r'] = some .none) (a2 : F_homs_of_rows [r, r'] = some d) : bodyF 3 (sSeq (sDrop (mF F_require_both_bars (aC (mN 0) (aC (mN 1) (aC (mN 2) (aN))))))   (sRet (mF F_homs_of_rows (aC (mN 1) (aC (mN 2) (aN)))))) [n, r, r'] = some d := by
  simp only [a1, a2, bodyF, sSeq, sRet, sSet, sSetO, sIf, sNil, sDrop, sAsg, sPar, setAll, sFrz, frz, sApp, sExt, sAug, sAugL, pV, pO, pN, mN, mC, aC, aN, aS, mTup, mTupS, mLst, mB, mU, mF, mSl, mAnd, mOr, mCh2, mCh3, qVal, asB, qAnd, qOr, qNot, qYes, dAdd, dSub, dMul, dLt, dLe, dGt, dGe, fI, fIc, dIx, dNot, dNeg, dIsN, gT, gTs, gN, iR, iL, iT, iE, iI, iK, wipeE, fLen, items, fTuple, fList, List.map, List.replicate, List.length, List.cons_append, List.nil_append, List.getElem?_cons_zero, List.getElem?_cons_succ, Option.bind_some, Option.map_some, Option.map_none, Bool.not_true, Bool.not_false, Bool.false_eq_true, ↓reduceIte, decide_true, decide_false, List.set_cons_zero, List.set_cons_succ, Option.bind_none]
theorem bar_homsM {n : Nat} (h1 : 1 ≤ n) (h2 : n ≤ 6) {r r' : Row} (h : RowOk n r) (h' : RowOk n r') : F_bar_homs [.int (n : Nat), eR r, eR r'] = some (.int (homsM r r')) :=
  bar_homs_x _ _ (bothM h1 h2 h h') (homsRM (fun p hp => by have := h.1 p hp; omega) (fun p hp => by have := h'.1 p hp; omega) h.2.2.1 h'.2.2.1)
end Ar

end
section
set_option Elab.async false
set_option linter.all false
set_option maxRecDepth 100000
set_option maxHeartbeats 4000000
namespace Ar
open PySem Dl
/-! ### tables -/
def findM : Row → Bar → Option Int
  | [], _ => none
  | p :: r, b => if p.1 = b then some p.2 else findM r b
def putM (acc : Row) (b : Bar) (v : Int) : Row := if (findM acc b).isSome then acc.map (fun p => if p.1 = b then (p.1, v) else p) else acc ++ [(b, v)]
def keyB (b : Bar) : NestedKey := .tup [.num b.1, .num b.2]
theorem nk_eB (b : Bar) : nk (eB b) = some (keyB b) := rfl
theorem keyB_inj {a b : Bar} : nk (eB a) = some (keyB b) ↔ a = b := by
  rw [nk_eB]
  constructor
  · intro h
    obtain ⟨x, y⟩ := a
    obtain ⟨z, t⟩ := b
    simp [keyB] at h
    rw [h.1, h.2]
  · rintro rfl
    rfl
theorem dKey_eB (b : Bar) : dKey (eB b) = some (keyB b) := by
  simp [dKey, nk_eB, keyB, NestedKey.depth, NestedKey.depthAll]
theorem find_eC (b : Bar) : ∀ acc : Row, dFind (acc.map eE) (keyB b) = (findM acc b).map .int
  | [] => rfl
  | p :: acc => by
    rw [List.map_cons]
    unfold dFind findM
    show (if nk (eB p.1) = some (keyB b) then some (PyData.int p.2) else dFind (acc.map eE) (keyB b)) = _
    by_cases h : p.1 = b
    · rw [if_pos (keyB_inj.mpr h), if_pos h]
      rfl
    · rw [if_neg (fun z => h (keyB_inj.mp z)), if_neg h, find_eC b acc]
theorem put_eC (acc : Row) (b : Bar) (v : Int) : dPutP (acc.map eE) (eB b) (keyB b) (.int v) = (putM acc b v).map eE := by
  unfold dPutP putM
  rw [find_eC]
  by_cases h : (findM acc b).isSome = true
  · rw [if_pos (by rw [Option.isSome_map]; exact h), if_pos h, List.map_map, List.map_map]
    refine List.map_congr_left fun p _ => ?_
    show (if nk (eB p.1) = some (keyB b) then (eB p.1, PyData.int v) else eE p) = eE (if p.1 = b then (p.1, v) else p)
    by_cases hp : p.1 = b
    · rw [if_pos (keyB_inj.mpr hp), if_pos hp]
      rfl
    · rw [if_neg (fun z => hp (keyB_inj.mp z)), if_neg hp]
  · rw [if_neg (by rw [Option.isSome_map]; exact h), if_neg h, List.map_append]
    rfl
theorem putM_len (acc : Row) (b : Bar) (v : Int) : acc.length ≤ (putM acc b v).length := by
  unfold putM
  split
  · rw [List.length_map]; exact Nat.le_refl _
  · rw [List.length_append]; omega
/-! ### the bars of so many points -/
def barsM : Nat → List Bar
  | 1 => [(0, 0)]
  | 2 => [(0, 0), (0, 1), (1, 1)]
  | 3 => [(0, 0), (0, 1), (0, 2), (1, 1), (1, 2), (2, 2)]
  | 4 => [(0, 0), (0, 1), (0, 2), (0, 3), (1, 1), (1, 2), (1, 3), (2, 2), (2, 3), (3, 3)]
  | _ => []
theorem four {P : Nat → Prop} (h1 : P 1) (h2 : P 2) (h3 : P 3) (h4 : P 4) {n : Nat} (a : 1 ≤ n) (b : n ≤ 4) : P n := by
  match n, a, b with
  | 1, _, _ => exact h1
  | 2, _, _ => exact h2
  | 3, _, _ => exact h3
  | 4, _, _ => exact h4
theorem bars_ofM {n : Nat} (a : 1 ≤ n) (b : n ≤ 4) : F_bars_of [.int (n : Nat)] = some (.list ((barsM n).map eB)) := by
  refine four (P := fun n => F_bars_of [.int (n : Nat)] = some (.list ((barsM n).map eB))) ?_ ?_ ?_ ?_ a b <;> kernel_rfl
theorem bb_allM {n : Nat} (a : 1 ≤ n) (b : n ≤ 4) : F_law_bb_all [.int (n : Nat)] = some (.list ((barsM n).map eB)) := by
  refine four (P := fun n => F_law_bb_all [.int (n : Nat)] = some (.list ((barsM n).map eB))) ?_ ?_ ?_ ?_ a b <;> kernel_rfl
/-! ### ranks -/
def ranksM (n : Nat) (r : Row) : Row := (barsM n).map fun b => (b, rkM r b.1 b.2)
def rksum : En → Option D := mF fSum (aC (mLc (iT (mN 1)) (gT [gT [gN 6, gN 7], gN 5]) (qAnd (qVal (mB dLe (mN 6) (mN 3))) (qVal (mB dLe (mN 4) (mN 7)))) (mN 5) [5, 6, 7]) (aN))
theorem rksumM (x0 x2 x5 x6 x7 : Sl) (r : Row) (s t : Int) : rksum [x0, .val (eR r), x2, .val (.int s), .val (.int t), x5, x6, x7] = some (.int (rkM r s t)) := by
  have := compGo_map (T := gT [gT [gN 6, gN 7], gN 5]) (q := qAnd (qVal (mB dLe (mN 6) (mN 3))) (qVal (mB dLe (mN 4) (mN 7)))) (f := mN 5) (ρ := [x0, .val (eR r), x2, .val (.int s), .val (.int t), .un, .un, .un]) eP (fun p => decide (p.1.1 ≤ s ∧ t ≤ p.1.2)) (fun p => .int p.2) r fun p hp => by
      obtain ⟨⟨x, y⟩, m⟩ := p
      refine ⟨[x0, .val (eR r), x2, .val (.int s), .val (.int t), .val (.int m), .val (.int x), .val (.int y)], rfl, ?_, fun _ => rfl⟩
      by_cases h1 : x ≤ s <;> by_cases h2 : t ≤ y <;> simp [h1, h2, bodyF, sSeq, sRet, sSet, sSetO, sIf, sNil, sDrop, sAsg, sPar, setAll, sFrz, frz, sApp, sExt, sAug, sAugL, pV, pO, pN, mN, mC, aC, aN, aS, mTup, mTupS, mLst, mB, mU, mF, mSl, mAnd, mOr, mCh2, mCh3, qVal, asB, qAnd, qOr, qNot, qYes, dAdd, dSub, dMul, dLt, dLe, dGt, dGe, fI, fIc, dIx, dNot, dNeg, dIsN, gT, gTs, gN, iR, iL, iT, iE, iI, iK, wipeE, fLen, items, fTuple, fList, List.map, List.replicate, List.length, List.cons_append, List.nil_append, List.getElem?_cons_zero, List.getElem?_cons_succ, Option.bind_some, Option.map_some, Option.map_none, Bool.not_true, Bool.not_false, Bool.false_eq_true, ↓reduceIte, decide_true, decide_false, List.set_cons_zero, List.set_cons_succ, Option.bind_none]
  have e1 : mLc (iT (mN 1)) (gT [gT [gN 6, gN 7], gN 5]) (qAnd (qVal (mB dLe (mN 6) (mN 3))) (qVal (mB dLe (mN 4) (mN 7)))) (mN 5) [5, 6, 7] [x0, .val (eR r), x2, .val (.int s), .val (.int t), x5, x6, x7] = some (.list (((r.filter fun p => decide (p.1.1 ≤ s ∧ t ≤ p.1.2)).map (·.2)).map PyData.int)) := by
    show (compGo _ _ _ _ _).map _ = _
    rw [show wipeE [x0, Sl.val (eR r), x2, .val (.int s), .val (.int t), x5, x6, x7] [5, 6, 7] = [x0, Sl.val (eR r), x2, .val (.int s), .val (.int t), .un, .un, .un] from rfl, this, Option.map_some, List.map_map]
    rfl
  simp only [rksum, mF, aC, aN, e1, Option.bind_some, sum_map, rkM]
theorem foldPut (n : Nat) (f : Bar → Int) (a : 1 ≤ n) (b : n ≤ 4) : (barsM n).foldl (fun acc b => putM acc b (f b)) [] = (barsM n).map fun b => (b, f b) := by
  refine four (P := fun n => (barsM n).foldl (fun acc b => putM acc b (f b)) [] = (barsM n).map fun b => (b, f b)) ?_ ?_ ?_ ?_ a b <;> kernel_rfl
theorem bars_few {n : Nat} (a : 1 ≤ n) (b : n ≤ 4) : (barsM n).length ≤ 10 := by
  refine four (P := fun n => (barsM n).length ≤ 10) ?_ ?_ ?_ ?_ a b <;> decide
theorem rank_loop {n : Nat} (a : 1 ≤ n) (b : n ≤ 4) (r : Row) (x3 x4 x5 x6 x7 : Sl) : ∃ y3 y4 y5 y6 y7, forGo (gT [gN 3, gN 4]) (sDPut 2 (mTup (aC (mN 3) (aC (mN 4) (aN)))) rksum) ((barsM n).map eB) [.val (.int (n : Nat)), .val (eR r), .own (.dict []), x3, x4, x5, x6, x7] =
    some (.nx [.val (.int (n : Nat)), .val (eR r), .own (eC (ranksM n r)), y3, y4, y5, y6, y7]) := by
  obtain ⟨ρ', h1, y3, y4, y5, y6, y7, h2⟩ := forGo_fold (T := gT [gN 3, gN 4]) (b := sDPut 2 (mTup (aC (mN 3) (aC (mN 4) (aN)))) rksum) eB (fun (acc : Row) ρ => ∃ y3 y4 y5 y6 y7, ρ = [.val (.int (n : Nat)), .val (eR r), .own (eC acc), y3, y4, y5, y6, y7]) (fun acc => acc.length ≤ 10)
    (fun acc b => putM acc b (rkM r b.1 b.2)) (fun s x h => Nat.le_trans (putM_len _ _ _) h) (barsM n) (fun x hx acc ρ hI hP => by
      obtain ⟨y3, y4, y5, y6, y7, rfl⟩ := hI
      refine ⟨_, [.val (.int (n : Nat)), .val (eR r), .own (eC (putM acc x (rkM r x.1 x.2))), .val (.int x.1), .val (.int x.2), y5, y6, y7], rfl, ?_, _, _, _, _, _, rfl⟩
      show sDPut 2 _ _ [.val (.int (n : Nat)), .val (eR r), .own (eC acc), .val (.int x.1), .val (.int x.2), y5, y6, y7] = _
      have hl : (acc.map eE).length < 1000000 := by
        rw [List.length_map]
        have := putM_len acc x (rkM r x.1 x.2)
        omega
      have e2 : mTup (aC (mN 3) (aC (mN 4) (aN))) [.val (.int (n : Nat)), .val (eR r), .own (eC acc), .val (.int x.1), .val (.int x.2), y5, y6, y7] = some (eB x) := rfl
      unfold sDPut
      rw [rksumM, Option.bind_some, e2, Option.bind_some, dKey_eB, Option.bind_some]
      show (if (acc.map eE).length < 1000000 then _ else none) = _
      rw [if_pos hl, put_eC]
      rfl) [] _ ⟨x3, x4, x5, x6, x7, rfl⟩ (by
        rw [foldPut n (fun b => rkM r b.1 b.2) a b, List.length_map]
        exact bars_few a b)
  rw [foldPut n (fun b => rkM r b.1 b.2) a b] at h2
  subst h2
  exact ⟨y3, y4, y5, y6, y7, h1⟩
theorem ranks_x {α : Type} (F_bars_of : List D → Option D) {n : Nat} (a : 1 ≤ n) (b : n ≤ 4) (r : Row) (h : F_bars_of [.int (n : Nat)] = some (.list ((barsM n).map eB))) : bodyF 8 (sSeq (sSetO 2 (mC (.dict [])))   (sSeq (sFor (iL (mF F_bars_of (aC (mN 0) (aN)))) (gT [gN 3, gN 4]) (sDPut 2 (mTup (aC (mN 3) (aC (mN 4) (aN)))) (mF fSum (aC (mLc (iT (mN 1)) (gT [gT [gN 6, gN 7], gN 5]) (qAnd (qVal (mB dLe (mN 6) (mN 3))) (qVal (mB dLe (mN 4) (mN 7)))) (mN 5) [5, 6, 7]) (aN)))))   (sFrz 2 (sRet (mN 2))))) [.int (n : Nat), eR r] = some (eC (ranksM n r)) := by
  obtain ⟨y3, y4, y5, y6, y7, h1⟩ := rank_loop a b r .un .un .un .un .un
  unfold rksum at h1
  simp only [bodyF, sSeq, sSetO, sFor, iL, mF, mC, mN, aC, aN, sFrz, frz, sRet, List.map, List.length, List.replicate, List.cons_append, List.nil_append, List.getElem?_cons_zero, List.getElem?_cons_succ, Option.bind_some, Option.map_some, List.set_cons_zero, List.set_cons_succ, h] at h1 ⊢
  rw [h1]
  rfl
theorem ranks_inM {n : Nat} (a : 1 ≤ n) (b : n ≤ 4) (r : Row) : F_ranks_in [.int (n : Nat), eR r] = some (eC (ranksM n r)) := ranks_x (α := Unit) F_bars_of a b r (bars_ofM a b)
theorem bb_ranksM {n : Nat} (a : 1 ≤ n) (b : n ≤ 4) (r : Row) : F_law_bb_ranks [.int (n : Nat), eR r] = some (eC (ranksM n r)) := ranks_x (α := Unit) F_law_bb_all a b r (bb_allM a b)
end Ar

end
section
set_option Elab.async false
set_option linter.all false
set_option maxRecDepth 100000
set_option maxHeartbeats 4000000
namespace Ar
open PySem Dl
theorem dAdd_i (i j : Int) : dAdd (.int i) (.int j) = some (.int (i + j)) := rfl
theorem dSub_i (i j : Int) : dSub (.int i) (.int j) = some (.int (i - j)) := rfl
theorem dLt_i (i j : Int) : dLt (.int i) (.int j) = some (.bool (decide (i < j))) := rfl
theorem dLe_i (i j : Int) : dLe (.int i) (.int j) = some (.bool (decide (i ≤ j))) := rfl
theorem dGt_i (i j : Int) : dGt (.int i) (.int j) = some (.bool (decide (j < i))) := rfl
theorem dGe_i (i j : Int) : dGe (.int i) (.int j) = some (.bool (decide (j ≤ i))) := rfl
theorem find_map (f : Bar → Int) {b : Bar} : ∀ {l : List Bar}, b ∈ l → findM (l.map fun b => (b, f b)) b = some (f b)
  | [], h => by cases h
  | a :: l, h => by
    rw [List.map_cons]
    unfold findM
    by_cases e : a = b
    · show (if a = b then some (f a) else _) = _
      rw [if_pos e, e]
    · show (if a = b then some (f a) else _) = _
      rw [if_neg e, find_map f ((List.mem_cons.mp h).resolve_left fun z => e z.symm)]
theorem get_eC {tab : Row} {b : Bar} {v : Int} (h : findM tab b = some v) : dGet (eC tab) (eB b) = some (.int v) := by
  show (dKey (eB b)).bind (dFind (tab.map eE)) = _
  rw [dKey_eB, Option.bind_some, find_eC, h]
  rfl
/-! ### below -/
def belowM (n : Nat) (r r' : Row) : Bool := (barsM n).all fun b => decide (rkM r b.1 b.2 ≤ rkM r' b.1 b.2)
theorem bools_map {α : Type} (p : α → Bool) (xs : List α) : bools? (xs.map fun x => PyData.bool (p x)) = some (xs.map p) := by
  induction xs with
  | nil => rfl
  | cons x xs ih => simp [bools?, ih]
theorem eqv_eS (s t : List Int) : PyData.eqv (eS s) (eS t) = decide (s = t) := by
  have := PySem.W.Datum.eqv (PySem.W.Tup.mk s) (PySem.W.Tup.mk t)
  refine Eq.trans this ?_
  simp
theorem layInts (l : List Int) : PyData.canLayAll0 (l.map .int) = true := by
  induction l with
  | nil => rfl
  | cons x l ih => simp [PyData.canLayAll0, PyData.canLay0, ih]
theorem depthInts (l : List Int) : PyData.depthAll (l.map .int) = 0 := by
  induction l with
  | nil => rfl
  | cons x l ih => simp [PyData.depthAll, PyData.depth, ih]
theorem shaped_eS (s : List Int) : SeqAt.shaped (eS s) = true := by
  simp only [eS, SeqAt.shaped, PyData.canLay0, layInts, PyData.depth, depthInts, Bool.true_and]
  rfl
theorem below_x (F_require_both_bars F_sizes_in F_ranks_in : List D → Option D) {n : Nat} {r r' : Row} (a1 : F_require_both_bars [.int (n : Nat), eR r, eR r'] = some .none) (a2 : ∀ r, F_sizes_in [.int (n : Nat), eR r] = some (eS (sizesM n r))) (a3 : ∀ r, F_ranks_in [.int (n : Nat), eR r] = some (eC (ranksM n r)))
    (hs : sizesM n r = sizesM n r') : bodyF 6 (sSeq (sDrop (mF F_require_both_bars (aC (mN 0) (aC (mN 1) (aC (mN 2) (aN))))))   (sSeq (sIf (qVal (mB dNe (mF F_sizes_in (aC (mN 0) (aC (mN 1) (aN)))) (mF F_sizes_in (aC (mN 0) (aC (mN 2) (aN)))))) (sNever) (sNil))   (sSeq (sSet 3 (mF F_ranks_in (aC (mN 0) (aC (mN 2) (aN)))))   (sRet (mF fAll (aC (mLc (iI (mF F_ranks_in (aC (mN 0) (aC (mN 1) (aN))))) (gT [gN 4, gN 5]) (qYes) (mB dLe (mN 5) (mB dGet (mN 3) (mN 4))) [4, 5]) (aN))))))) [.int (n : Nat), eR r, eR r'] = some (.bool (belowM n r r')) := by
  have e0 : dNe (eS (sizesM n r)) (eS (sizesM n r')) = some (.bool false) := by
    simp only [dNe, shaped_eS, eqv_eS, hs, Bool.and_self, decide_true, Bool.not_true, if_true]
  have e1 := compGo_all (T := gT [gN 4, gN 5]) (f := mB dLe (mN 5) (mB dGet (mN 3) (mN 4))) (ρ := [.val (.int (n : Nat)), .val (eR r), .val (eR r'), .val (eC (ranksM n r')), .un, .un]) (fun b : Bar => pairD (eE (b, rkM r b.1 b.2))) (fun b => .bool (decide (rkM r b.1 b.2 ≤ rkM r' b.1 b.2))) (barsM n) fun b hb =>
    ⟨[.val (.int (n : Nat)), .val (eR r), .val (eR r'), .val (eC (ranksM n r')), .val (eB b), .val (.int (rkM r b.1 b.2))], rfl, by
      have e2 := get_eC (find_map (fun b => rkM r' b.1 b.2) hb)
      have e2 : dGet (eC (ranksM n r')) (eB b) = some (.int (rkM r' b.1 b.2)) := e2
      simp only [mB, mN, List.getElem?_cons_zero, List.getElem?_cons_succ, Option.bind_some, e2, dLe, fI]⟩
  have e3 : mLc (iI (mF F_ranks_in (aC (mN 0) (aC (mN 1) (aN))))) (gT [gN 4, gN 5]) (qYes) (mB dLe (mN 5) (mB dGet (mN 3) (mN 4))) [4, 5] [.val (.int (n : Nat)), .val (eR r), .val (eR r'), .val (eC (ranksM n r')), .un, .un] = some (.list ((barsM n).map fun b => .bool (decide (rkM r b.1 b.2 ≤ rkM r' b.1 b.2)))) := by
    have e4 : iI (mF F_ranks_in (aC (mN 0) (aC (mN 1) (aN)))) [.val (.int (n : Nat)), .val (eR r), .val (eR r'), .val (eC (ranksM n r')), .un, .un] = some ((barsM n).map fun b : Bar => pairD (eE (b, rkM r b.1 b.2))) := by
      simp only [iI, mF, aC, aN, mN, List.getElem?_cons_zero, List.getElem?_cons_succ, Option.bind_some, a3, eC]
      rw [List.map_map, ranksM, List.map_map]
      rfl
    simp only [mLc, e4, Option.bind_some]
    rw [show wipeE [Sl.val (.int (n : Nat)), .val (eR r), .val (eR r'), .val (eC (ranksM n r')), .un, .un] [4, 5] = [Sl.val (.int (n : Nat)), .val (eR r), .val (eR r'), .val (eC (ranksM n r')), .un, .un] from rfl, e1]
    rfl
  have e5 : fAll [.list ((barsM n).map fun b => .bool (decide (rkM r b.1 b.2 ≤ rkM r' b.1 b.2)))] = some (.bool (belowM n r r')) := by
    simp only [fAll, bools_map, Option.map_some, belowM, List.all_map]
    rfl
  simp only [a1, a2, a3, e0, e3, e5, bodyF, sSeq, sRet, sSet, sSetO, sIf, sNil, sDrop, sAsg, sPar, setAll, sFrz, frz, sApp, sExt, sAug, sAugL, pV, pO, pN, mN, mC, aC, aN, aS, mTup, mTupS, mLst, mB, mU, mF, mSl, mAnd, mOr, mCh2, mCh3, qVal, asB, qAnd, qOr, qNot, qYes, dAdd_i, dSub_i, dLt_i, dLe_i, dGt_i, dGe_i, dIx, dNot, dNeg, dIsN, gT, gTs, gN, iR, iL, iT, iE, iI, iK, wipeE, fLen, items, fTuple, fList, List.map, List.replicate, List.length, List.cons_append, List.nil_append, List.getElem?_cons_zero, List.getElem?_cons_succ, Option.bind_some, Option.map_some, Option.map_none, Bool.not_true, Bool.not_false, Bool.false_eq_true, ↓reduceIte, decide_true, decide_false, List.set_cons_zero, List.set_cons_succ, Option.bind_none]
theorem are_belowM {n : Nat} (h1 : 1 ≤ n) (h2 : n ≤ 4) {r r' : Row} (h : RowOk n r) (h' : RowOk n r') (hs : sizesM n r = sizesM n r') : F_are_below [.int (n : Nat), eR r, eR r'] = some (.bool (belowM n r r')) :=
  below_x _ _ _ (bothM h1 (by omega) h h') (fun r => sizes_inM (by omega) r) (fun r => ranks_inM h1 h2 r) hs
/-! ### the greatest row -/
def getM (tab : Row) (b : Bar) : Int := (findM tab b).getD 0
def manyM (tab : Row) (b : Bar) : Int := getM tab b - getM tab (b.1 - 1, b.2) - getM tab (b.1, b.2 + 1) + getM tab (b.1 - 1, b.2 + 1)
def byRanksM (n : Nat) (tab : Row) : Row := (barsM n).foldl (fun acc b => if manyM tab b > 0 then acc ++ [(b, manyM tab b)] else acc) []
theorem g2M {a b : En → Option D} {ρ : En} {tab : Row} {x : Bar} (h1 : a ρ = some (eC tab)) (h2 : b ρ = some (eB x)) : mG2 a b (mC (.int 0)) ρ = some (.int (getM tab x)) := by
  unfold mG2
  rw [h1, Option.bind_some, h2, Option.bind_some]
  show (dKey (eB x)).map (fun k => (dFind (tab.map eE) k).getD (.int 0)) = _
  rw [dKey_eB, Option.map_some, find_eC]
  unfold getM
  cases findM tab x <;> rfl
theorem byRanks_x (F_bars_of : List D → Option D) {n : Nat} (a : 1 ≤ n) (b : n ≤ 4) (tab : Row) (hb : F_bars_of [.int (n : Nat)] = some (.list ((barsM n).map eB))) (ht : ∀ b ∈ barsM n, ∃ v, findM tab b = some v) :
    bodyF 6 (sSeq (sSetO 2 (mLst (aN)))   (sSeq (sFor (iL (mF F_bars_of (aC (mN 0) (aN)))) (gT [gN 3, gN 4]) (sSeq (sSet 5 (mB dSub (mB dSub (mB dGet (mN 1) (mTup (aC (mN 3) (aC (mN 4) (aN))))) (mG2 (mN 1) (mTup (aC (mB dSub (mN 3) (mC (.int 1))) (aC (mN 4) (aN)))) (mC (.int 0)))) (mG2 (mN 1) (mTup (aC (mN 3) (aC (mB dAdd (mN 4) (mC (.int 1))) (aN)))) (mC (.int 0)))))   (sSeq (sAug 5 (fun i j => i + j) (mG2 (mN 1) (mTup (aC (mB dSub (mN 3) (mC (.int 1))) (aC (mB dAdd (mN 4) (mC (.int 1))) (aN)))) (mC (.int 0))))   (sIf (qVal (mB dGt (mN 5) (mC (.int 0)))) (sApp 2 (mTup (aC (mTup (aC (mN 3) (aC (mN 4) (aN)))) (aC (mN 5) (aN))))) (sNil)))))   (sFrz 2 (sRet (mF fTuple (aC (mN 2) (aN))))))) [.int (n : Nat), eC tab] = some (eR (byRanksM n tab)) := by
  obtain ⟨ρ', h1, y3, y4, y5, h2⟩ := forGo_fold (T := gT [gN 3, gN 4]) (b := sSeq (sSet 5 (mB dSub (mB dSub (mB dGet (mN 1) (mTup (aC (mN 3) (aC (mN 4) (aN))))) (mG2 (mN 1) (mTup (aC (mB dSub (mN 3) (mC (.int 1))) (aC (mN 4) (aN)))) (mC (.int 0)))) (mG2 (mN 1) (mTup (aC (mN 3) (aC (mB dAdd (mN 4) (mC (.int 1))) (aN)))) (mC (.int 0)))))
    (sSeq (sAug 5 (fun i j => i + j) (mG2 (mN 1) (mTup (aC (mB dSub (mN 3) (mC (.int 1))) (aC (mB dAdd (mN 4) (mC (.int 1))) (aN)))) (mC (.int 0))))
    (sIf (qVal (mB dGt (mN 5) (mC (.int 0)))) (sApp 2 (mTup (aC (mTup (aC (mN 3) (aC (mN 4) (aN)))) (aC (mN 5) (aN))))) (sNil)))) eB (fun (acc : Row) ρ => ∃ y3 y4 y5, ρ = [.val (.int (n : Nat)), .val (eC tab), .own (.list (acc.map eP)), y3, y4, y5]) (fun acc => acc.length ≤ 10)
    (fun acc b => if manyM tab b > 0 then acc ++ [(b, manyM tab b)] else acc) (fun s x h => by
      refine Nat.le_trans ?_ h
      split
      · rw [List.length_append]; omega
      · exact Nat.le_refl _) (barsM n) (fun x hx acc ρ hI hP => by
      obtain ⟨y3, y4, y5, rfl⟩ := hI
      refine ⟨[.val (.int (n : Nat)), .val (eC tab), .own (.list (acc.map eP)), .val (.int x.1), .val (.int x.2), y5], [.val (.int (n : Nat)), .val (eC tab), .own (.list ((if manyM tab x > 0 then acc ++ [(x, manyM tab x)] else acc).map eP)), .val (.int x.1), .val (.int x.2), .val (.int (manyM tab x))], rfl, ?_, _, _, _, rfl⟩
      obtain ⟨v, hv⟩ := ht x hx
      have e1 := get_eC hv
      have ev : getM tab x = v := by rw [getM, hv]; rfl
      have e2 : mG2 (mN 1) (mTup (aC (mB dSub (mN 3) (mC (.int 1))) (aC (mN 4) (aN)))) (mC (.int 0)) [.val (.int (n : Nat)), .val (eC tab), .own (.list (acc.map eP)), .val (.int x.1), .val (.int x.2), y5] = some (.int (getM tab (x.1 - 1, x.2))) := g2M rfl rfl
      have e3 : mG2 (mN 1) (mTup (aC (mN 3) (aC (mB dAdd (mN 4) (mC (.int 1))) (aN)))) (mC (.int 0)) [.val (.int (n : Nat)), .val (eC tab), .own (.list (acc.map eP)), .val (.int x.1), .val (.int x.2), y5] = some (.int (getM tab (x.1, x.2 + 1))) := g2M rfl rfl
      have e4 : ∀ y5, mG2 (mN 1) (mTup (aC (mB dSub (mN 3) (mC (.int 1))) (aC (mB dAdd (mN 4) (mC (.int 1))) (aN)))) (mC (.int 0)) [.val (.int (n : Nat)), .val (eC tab), .own (.list (acc.map eP)), .val (.int x.1), .val (.int x.2), y5] = some (.int (getM tab (x.1 - 1, x.2 + 1))) := fun y5 => g2M rfl rfl
      have hl : (acc.map eP).length < 16000000 := by
        rw [List.length_map]
        have : acc.length ≤ 10 := by
          refine Nat.le_trans ?_ hP
          split
          · rw [List.length_append]; omega
          · exact Nat.le_refl _
        omega
      have e1 : mB dGet (mN 1) (mTup (aC (mN 3) (aC (mN 4) (aN)))) [.val (.int (n : Nat)), .val (eC tab), .own (.list (acc.map eP)), .val (.int x.1), .val (.int x.2), y5] = some (.int (getM tab x)) := by
        rw [ev]
        exact e1
      have em : ∀ a b : En → Option D, ∀ ρ, ∀ i j : Int, a ρ = some (.int i) → b ρ = some (.int j) → mB dSub a b ρ = some (.int (i - j)) := fun a b ρ i j h1 h2 => by
        show (a ρ).bind _ = _
        rw [h1, Option.bind_some, h2]
        rfl
      have e5 := em _ _ _ _ _ (em _ _ _ _ _ e1 e2) e3
      simp only [sSeq, sSet, sAug, e5, e4, Option.map_some, Option.bind_some, List.set_cons_zero, List.set_cons_succ, List.getElem?_cons_zero, List.getElem?_cons_succ]
      simp only [bodyF, sSeq, sRet, sSet, sSetO, sIf, sNil, sDrop, sAsg, sPar, setAll, sFrz, frz, sApp, sExt, sAug, sAugL, pV, pO, pN, mN, mC, aC, aN, aS, mTup, mTupS, mLst, mB, mU, mF, mSl, mAnd, mOr, mCh2, mCh3, qVal, asB, qAnd, qOr, qNot, qYes, dAdd_i, dSub_i, dLt_i, dLe_i, dGt_i, dGe_i, dIx, dNot, dNeg, dIsN, gT, gTs, gN, iR, iL, iT, iE, iI, iK, wipeE, fLen, items, fTuple, fList, List.map, List.replicate, List.length, List.cons_append, List.nil_append, List.getElem?_cons_zero, List.getElem?_cons_succ, Option.bind_some, Option.map_some, Option.map_none, Bool.not_true, Bool.not_false, Bool.false_eq_true, ↓reduceIte, decide_true, decide_false, List.set_cons_zero, List.set_cons_succ, Option.bind_none]
      show (if decide (0 < manyM tab x) = true then _ else _) = _
      by_cases hm : manyM tab x > 0
      · rw [if_pos (decide_eq_true hm), if_pos hm]
        show (if (acc.map eP).length < 16000000 then _ else none) = _
        rw [if_pos hl, List.map_append]
        rfl
      · rw [if_neg (by simpa using hm), if_neg hm]
        rfl) [] [.val (.int (n : Nat)), .val (eC tab), .own (.list []), .un, .un, .un] ⟨_, _, _, rfl⟩ (by
        have : ∀ (l : List Bar) (acc : Row), (l.foldl (fun acc b => if manyM tab b > 0 then acc ++ [(b, manyM tab b)] else acc) acc).length ≤ acc.length + l.length := by
          intro l
          induction l with
          | nil => intro acc; exact Nat.le_refl _
          | cons b l ih =>
            intro acc
            rw [List.foldl_cons]
            refine Nat.le_trans (ih _) ?_
            split
            · rw [List.length_append]; simp only [List.length_cons, List.length_nil]; omega
            · simp only [List.length_cons]; omega
        have h0 := this (barsM n) []
        have h1 := bars_few a b
        simp only [List.length_nil, Nat.zero_add] at h0
        exact Nat.le_trans h0 h1)
  simp only [bodyF, sSeq, sSetO, sFor, iL, mF, mC, mN, aC, aN, mLst, sFrz, frz, sRet, List.map, List.length, List.replicate, List.cons_append, List.nil_append, List.getElem?_cons_zero, List.getElem?_cons_succ, Option.bind_some, Option.map_some, List.set_cons_zero, List.set_cons_succ, hb] at h1 ⊢
  rw [h1, h2]
  rfl
end Ar

end
section
set_option Elab.async false
set_option linter.all false
set_option maxRecDepth 100000
set_option maxHeartbeats 4000000
namespace Ar
open PySem Dl
/-! ### loops that may stop -/
def foldO {α S : Type} (step : S → α → Option S) : S → List α → Option S
  | s, [] => some s
  | s, x :: xs => (step s x).bind fun s' => foldO step s' xs
theorem forGo_opt {α S : Type} {T : TgF} {b : En → Option Out} (e : α → D) (I : S → En → Prop) (step : S → α → Option S) : ∀ xs : List α,
    (∀ x ∈ xs, ∀ s s' ρ, I s ρ → step s x = some s' → ∃ ρ1 ρ2, T (e x) ρ = some ρ1 ∧ b ρ1 = some (.nx ρ2) ∧ I s' ρ2) → ∀ s s' ρ, I s ρ → foldO step s xs = some s' → ∃ ρ', forGo T b (xs.map e) ρ = some (.nx ρ') ∧ I s' ρ'
  | [], _, s, s', ρ, hI, hs => by cases hs; exact ⟨ρ, rfl, hI⟩
  | x :: xs, h, s, s', ρ, hI, hs => by
    obtain ⟨s1, e1, hs⟩ := Dl.bind_some' (show (step s x).bind _ = some s' from hs)
    obtain ⟨ρ1, ρ2, h1, h2, h3⟩ := h x List.mem_cons_self s s1 ρ hI e1
    obtain ⟨ρ', h4, h5⟩ := forGo_opt e I step xs (fun y hy => h y (List.mem_cons_of_mem _ hy)) s1 s' ρ2 h3 hs
    refine ⟨ρ', ?_, h5⟩
    rw [List.map_cons]
    unfold forGo
    rw [h1, Option.bind_some, h2, Option.bind_some]
    exact h4
def compO {α β : Type} (p : α → Option Bool) (g : α → Option β) : List α → Option (List β)
  | [] => some []
  | x :: xs => (p x).bind fun c => if c = true then (g x).bind fun y => (compO p g xs).map (y :: ·) else compO p g xs
theorem compGo_opt {α β : Type} {T : TgF} {q : En → Option Bool} {f : En → Option D} {ρ : En} (e : α → D) (e2 : β → D) (p : α → Option Bool) (g : α → Option β) : ∀ (xs : List α) (ys : List β),
    (∀ x ∈ xs, ∃ ρ1, T (e x) ρ = some ρ1 ∧ (∀ c, p x = some c → q ρ1 = some c) ∧ ∀ y, g x = some y → f ρ1 = some (e2 y)) → compO p g xs = some ys → compGo T q f ρ (xs.map e) = some (ys.map e2)
  | [], ys, _, h => by cases h; rfl
  | x :: xs, ys, h, hr => by
    obtain ⟨ρ1, h1, h2, h3⟩ := h x List.mem_cons_self
    obtain ⟨c, e1, hr⟩ := Dl.bind_some' (show (p x).bind _ = some ys from hr)
    rw [List.map_cons]
    unfold compGo
    rw [h1, Option.bind_some, h2 c e1, Option.bind_some]
    by_cases hc : c = true
    · rw [if_pos hc] at hr ⊢
      obtain ⟨y, e3, hr⟩ := Dl.bind_some' hr
      obtain ⟨zs, e4, rfl⟩ := Option.map_eq_some_iff.mp hr
      rw [h3 y e3, Option.bind_some, compGo_opt e e2 p g xs zs (fun y hy => h y (List.mem_cons_of_mem _ hy)) e4]
      rfl
    · rw [if_neg hc] at hr ⊢
      exact compGo_opt e e2 p g xs ys (fun y hy => h y (List.mem_cons_of_mem _ hy)) hr
/-! ### sorted keys -/
def barLe (p q : Bar) : Bool := decide (p.1 < q.1 ∨ (p.1 = q.1 ∧ p.2 ≤ q.2))
def sortBM (l : List Bar) : List Bar := (barsM 4).filter fun b => decide (b ∈ l)
theorem dataLe_eB : PySem.W.dataLe false eB = barLe := PySem.W.dataLe_ii (β := Bar) (·.1) (·.2)
theorem sort_bars {l : List Bar} (h1 : l.Nodup) (h2 : ∀ b ∈ l, b ∈ barsM 4) : (l.map eB).mergeSort (PySem.W.dataLe false id) = (sortBM l).map eB := by
  have e1 := PySem.W.sort_maps eB (r := barLe) (s := PySem.W.dataLe false id) (l := l) fun a _ b _ => by rw [← dataLe_eB]; rfl
  have tot : PySem.W.TotalLe barLe := by
    rw [← dataLe_eB]
    exact PySem.W.sortLe_total _ _ _
  rw [← e1]
  congr 1
  refine List.Perm.eq_of_pairwise (le := fun a b => barLe a b = true) ?_ (PySem.W.sort_pairwise tot l) ?_ ?_
  · intro a b _ _ h3 h4
    unfold barLe at h3 h4
    simp only [decide_eq_true_eq] at h3 h4
    exact Prod.ext (by omega) (by omega)
  · exact List.Pairwise.filter _ (by decide)
  · refine (List.mergeSort_perm l barLe).trans ?_
    refine (List.perm_ext_iff_of_nodup h1 (show List.Nodup _ from List.Pairwise.filter _ (show List.Nodup (barsM 4) by decide))).mpr fun a => ?_
    show a ∈ l ↔ a ∈ (barsM 4).filter fun b => decide (b ∈ l)
    rw [List.mem_filter, decide_eq_true_eq]
    exact ⟨fun h => ⟨h2 a h, h⟩, fun h => h.2⟩
def KeysOk (c : Row) : Prop := (c.map (·.1)).Nodup ∧ ∀ b ∈ c.map (·.1), b ∈ barsM 4
instance {c : Row} : Decidable (KeysOk c) := inferInstanceAs (Decidable (_ ∧ _))
theorem alike_eB (a b : Bar) : PySem.W.alike (eB a) (eB b) = true := by simp [eB, PySem.W.alike, PySem.W.alikeAll]
theorem keys_eC (c : Row) : (c.map eE).map (·.1) = (c.map (·.1)).map eB := by rw [List.map_map, List.map_map]; rfl
theorem all_map_true {α β : Type} {f : α → β} {p : β → Bool} {l : List α} (h : ∀ a, p (f a) = true) : (l.map f).all p = true := by
  rw [List.all_map, List.all_eq_true]
  exact fun a _ => h a
theorem shaped_eB (b : Bar) : SeqAt.shaped (eB b) = true := by
  simp only [SeqAt.shaped, eB, PyData.canLay0, PyData.canLayAll0, PyData.depth, PyData.depthAll]
  rfl
theorem sortedD_eC {c : Row} (h : KeysOk c) : fSortedD [eC c] = some (.list ((sortBM (c.map (·.1))).map eB)) := by
  have e1 : sortKOk ((c.map (·.1)).map eB) = true := by
    unfold sortKOk
    rw [all_map_true fun _ => rfl, all_map_true shaped_eB, all_map_true (p := isTupNE) fun _ => rfl, all_map_true (p := fun d => ((c.map (·.1)).map eB).all (PySem.W.alike d)) fun a => all_map_true (p := PySem.W.alike (eB a)) fun b => alike_eB a b]
    rfl
  show (if sortKOk ((c.map eE).map (·.1)) = true then some (PyData.list (((c.map eE).map (·.1)).mergeSort (PySem.W.dataLe false id))) else none) = _
  rw [keys_eC, if_pos e1, sort_bars h.1 h.2]
def told (c : Row) : Row := ((sortBM (c.map (·.1))).filter fun b => decide (0 < getM c b)).map fun b => (b, getM c b)
theorem find_some {c : Row} {b : Bar} (h : b ∈ c.map (·.1)) : findM c b = some (getM c b) := by
  have : ∃ v, findM c b = some v := by
    induction c with
    | nil => cases h
    | cons p c ih =>
      unfold findM
      by_cases e : p.1 = b
      · exact ⟨_, if_pos e⟩
      · rw [if_neg e]
        exact ih ((List.mem_cons.mp h).resolve_left fun z => e z.symm)
  obtain ⟨v, hv⟩ := this
  rw [getM, hv]
  rfl
theorem told_x {c : Row} (h : KeysOk c) : F_law_bb_told [eC c] = some (eR (told c)) := by
  have e1 := compGo_map (T := gN 1) (q := qVal (mB dGt (mB dGet (mN 0) (mN 1)) (mC (.int 0)))) (f := mTup (aC (mN 1) (aC (mB dGet (mN 0) (mN 1)) (aN)))) (ρ := [.val (eC c), .un]) eB (fun b => decide (0 < getM c b)) (fun b => eP (b, getM c b)) (sortBM (c.map (·.1))) fun b hb => by
    have hm : b ∈ c.map (·.1) := of_decide_eq_true (List.mem_filter.mp hb).2
    have e2 := get_eC (find_some hm)
    refine ⟨[.val (eC c), .val (eB b)], rfl, ?_, fun _ => ?_⟩
    · simp only [qVal, mB, mN, mC, List.getElem?_cons_zero, List.getElem?_cons_succ, Option.bind_some, e2, dGt_i, asB]
    · simp only [mTup, aC, aN, mB, mN, mC, List.getElem?_cons_zero, List.getElem?_cons_succ, Option.bind_some, e2, eP]
  have e3 : mLc (iL (mF fSortedD (aC (mN 0) (aN)))) (gN 1) (qVal (mB dGt (mB dGet (mN 0) (mN 1)) (mC (.int 0)))) (mTup (aC (mN 1) (aC (mB dGet (mN 0) (mN 1)) (aN)))) [1] [.val (eC c), .un] = some (.list (((sortBM (c.map (·.1))).filter fun b => decide (0 < getM c b)).map fun b => eP (b, getM c b))) := by
    have e4 : iL (mF fSortedD (aC (mN 0) (aN))) [.val (eC c), .un] = some ((sortBM (c.map (·.1))).map eB) := by
      simp only [iL, mF, aC, aN, mN, List.getElem?_cons_zero, Option.bind_some, sortedD_eC h]
    unfold mLc
    rw [e4, Option.bind_some, show wipeE [Sl.val (eC c), .un] [1] = [Sl.val (eC c), .un] from rfl, e1]
    rfl
  unfold F_law_bb_told s_law_bb_told
  simp only [bodyF, sRet, mF, aC, aN, List.map, List.length, List.replicate, List.cons_append, List.nil_append, e3, Option.bind_some, fTuple, Dl.items, Option.map_some, told, eR, List.map_map]
  rfl
end Ar

end
section
set_option Elab.async false
set_option linter.all false
set_option maxRecDepth 100000
set_option maxHeartbeats 4000000
namespace Ar
open PySem Dl
def minL : List Int → Option Int
  | [] => none
  | n :: ns => some (ns.foldl min n)
def maxL : List Int → Option Int
  | [] => none
  | n :: ns => some (ns.foldl max n)
def cutM (l : List Int) (s t : Int) : List Int := (l.drop s.toNat).take ((t + 1).toNat - s.toNat)
theorem fMin_eS {l : List Int} {m : Int} (h : minL l = some m) : fMin [eS l] = some (.int m) := by
  cases l with
  | nil => cases h
  | cons n ns =>
    cases h
    simp only [fMin, eS, Dl.items, Option.bind_some, ints_map]
theorem fMax_eS {l : List Int} {m : Int} (h : maxL l = some m) : fMax [eS l] = some (.int m) := by
  cases l with
  | nil => cases h
  | cons n ns =>
    cases h
    simp only [fMax, eS, Dl.items, Option.bind_some, ints_map]
theorem sl_eS {l : List Int} {s t : Int} (hs : 0 ≤ s) (ht : 0 ≤ t) : dSl (eS l) (.int s) (.int (t + 1)) = some (eS (cutM l s t)) := by
  show (if 0 ≤ s ∧ 0 ≤ t + 1 then _ else none) = _
  rw [if_pos ⟨hs, by omega⟩]
  simp only [eS, cutM, List.map_drop, List.map_take]
theorem ix_eS {l : List Int} {s : Int} {v : Int} (hs : 0 ≤ s) (h : l[s.toNat]? = some v) : dIx (eS l) (.int s) = some (.int v) := by
  show (if 0 ≤ s then (l.map PyData.int)[s.toNat]? else none) = _
  rw [if_pos hs, List.getElem?_map, h]
  rfl
theorem len_eS (l : List Int) : fLen [eS l] = some (.int (l.length : Nat)) := by
  simp only [fLen, eS, Dl.items, Option.map_some, List.length_map]
/-! ### copies of tables -/
theorem pairsOf_eC : ∀ c : Row, pairsOf (c.map fun p => pairD (eE p)) = some (c.map fun p => (eB p.1, keyB p.1, PyData.int p.2))
  | [] => rfl
  | p :: c => by
    rw [List.map_cons]
    unfold pairsOf
    have : pairOf (pairD (eE p)) = some (eB p.1, keyB p.1, .int p.2) := by
      show (dKey (eB p.1)).map (fun k => (eB p.1, k, PyData.int p.2)) = _
      rw [dKey_eB]
      rfl
    rw [this, Option.bind_some, pairsOf_eC c]
    rfl
theorem putAll_eC : ∀ (c acc : Row), putAll (acc.map eE) (c.map fun p => (eB p.1, keyB p.1, PyData.int p.2)) = (c.foldl (fun acc p => putM acc p.1 p.2) acc).map eE
  | [], acc => rfl
  | p :: c, acc => by
    show putAll (dPutP (acc.map eE) (eB p.1) (keyB p.1) (.int p.2)) (c.map _) = _
    rw [put_eC, putAll_eC c]
    rfl
theorem find_none {c : Row} {b : Bar} (h : b ∉ c.map (·.1)) : findM c b = none := by
  induction c with
  | nil => rfl
  | cons p c ih =>
    unfold findM
    rw [if_neg fun e => h (List.mem_cons.mpr (.inl e.symm)), ih fun e => h (List.mem_cons_of_mem _ e)]
theorem foldPut_self : ∀ (c acc : Row), (acc.map (·.1) ++ c.map (·.1)).Nodup → c.foldl (fun acc p => putM acc p.1 p.2) acc = acc ++ c
  | [], acc, _ => by rw [List.append_nil]; rfl
  | p :: c, acc, h => by
    have e1 : putM acc p.1 p.2 = acc ++ [p] := by
      unfold putM
      rw [find_none]
      · rfl
      · intro hm
        exact (List.nodup_append.mp h).2.2 _ hm _ (List.mem_cons_self) rfl
    rw [List.foldl_cons, e1, foldPut_self c]
    · rw [List.append_assoc]; rfl
    · rw [List.map_append, List.append_assoc]
      exact h
theorem dict_pairs {c : Row} (h : (c.map (·.1)).Nodup) (hl : c.length ≤ 1000000) {xs : List D} (hx : xs = c.map fun p => pairD (eE p)) : fDictL [.list xs] = some (eC c) := by
  subst hx
  show (if (c.map fun p => pairD (eE p)).length ≤ 1000000 then (pairsOf (c.map fun p => pairD (eE p))).map (fun l => PyData.dict (putAll [] l)) else none) = _
  rw [if_pos (by rw [List.length_map]; exact hl), pairsOf_eC, Option.map_some]
  have := putAll_eC c []
  rw [List.map_nil] at this
  rw [this, foldPut_self c [] (by simpa using h)]
  rfl
theorem copyM {c : Row} (h : (c.map (·.1)).Nodup) (hl : c.length ≤ 1000000) : (dItems (eC c)).bind (fun d => fDictL [d]) = some (eC c) := by
  show fDictL [.list ((c.map eE).map pairD)] = _
  exact dict_pairs h hl (by rw [List.map_map]; rfl)
/-! ### one bar more -/
def eF (p : Row × List Int) : D := .tuple [eC p.1, eS p.2]
def restM (l : List Int) (b : Bar) (k : Int) : List Int := l.zipIdx.map fun p => p.1 - k * (if b.1 ≤ (p.2 : Int) ∧ (p.2 : Int) ≤ b.2 then 1 else 0)
def longStep (c : Row) (l : List Int) (b : Bar) (found : List (Row × List Int)) (k : Nat) : Option (List (Row × List Int)) :=
  if b.2 < (l.length : Int) - 1 ∨ (restM l b k)[b.1.toNat]? = some 0 then (if found.length < 1000 then some (found ++ [(putM c b k, restM l b k)]) else none) else some found
def longerM (c : Row) (l : List Int) (b : Bar) : Option (List (Row × List Int)) :=
  (minL (cutM l b.1 b.2)).bind fun m => if 0 ≤ m ∧ m ≤ 6 then foldO (longStep c l b) [] (List.range (m + 1).toNat) else none
theorem enum_ints : ∀ (l : List Int) (n : Nat), enumL n (l.map PyData.int) = (l.zipIdx n).map fun p => .tuple [.int ((p.2 : Nat) : Int), .int p.1]
  | [], _ => rfl
  | x :: l, n => by
    rw [List.map_cons, List.zipIdx_cons, List.map_cons, ← enum_ints l (n + 1)]
    rfl
theorem restM_len (l : List Int) (b : Bar) (k : Int) : (restM l b k).length = l.length := by simp [restM]
theorem dEq_int (i j : Int) : dEq (.int i) (.int j) = some (.bool (decide (i = j))) := by
  simp only [dEq, SeqAt.shaped, PyData.canLay0, PyData.depth, PyData.eqv]
  rfl
theorem rg1_i {j : Int} (h : -1000000 ≤ j ∧ j ≤ 1000000) : rg1 [.int j] = some ((List.range j.toNat).map fun k => .int (0 + (k : Nat))) := by
  simp only [rg1, h, and_self, if_true]
theorem dMul_i {i j : Int} (h : -(2 ^ 64) < i ∧ i < 2 ^ 64) : dMul (.int i) (.int j) = some (.int (i * j)) := by
  show (if decide (-(2 ^ 64) < i ∧ i < 2 ^ 64) = true then _ else none) = _
  rw [if_pos (decide_eq_true h)]
theorem dMul_k {k : Nat} {j : Int} (h : k ≤ 6) : dMul (.int (k : Nat)) (.int j) = some (.int ((k : Nat) * j)) := by
  have h1 : (0 : Int) ≤ (k : Nat) := Int.natCast_nonneg k
  have h2 : ((k : Nat) : Int) ≤ 6 := by omega
  generalize ((k : Nat) : Int) = i at h1 h2
  exact dMul_i ⟨Int.lt_of_lt_of_le (by decide) h1, Int.lt_of_le_of_lt h2 (by decide)⟩
theorem mB_sub {a b : En → Option D} {ρ : En} {i j : Int} (h1 : a ρ = some (.int i)) (h2 : b ρ = some (.int j)) : mB dSub a b ρ = some (.int (i - j)) := by
  show (a ρ).bind _ = _
  rw [h1, Option.bind_some, h2]
  rfl
theorem mB_mul6 {a b : En → Option D} {ρ : En} {k : Nat} {j : Int} (hk : k ≤ 6) (h1 : a ρ = some (.int (k : Nat))) (h2 : b ρ = some (.int j)) : mB dMul a b ρ = some (.int ((k : Nat) * j)) := by
  show (a ρ).bind _ = _
  rw [h1, Option.bind_some, h2, Option.bind_some]
  exact dMul_k hk
theorem fIntB (q : Bool) : fInt [.bool q] = some (.int (if q = true then 1 else 0)) := rfl
theorem indM (p : Prop) [Decidable p] : (if decide p = true then (1 : Int) else 0) = if p then 1 else 0 := by
  by_cases h : p <;> simp [h]
theorem longer_x {c : Row} {l : List Int} {b : Bar} {found : List (Row × List Int)} (hc : (c.map (·.1)).Nodup) (hcl : c.length < 1000) (hb : 0 ≤ b.1 ∧ b.1 ≤ b.2 ∧ b.2 < l.length) (h : longerM c l b = some found) :
    F_law_bb_longer [eC c, eS l, eB b] = some (.list (found.map eF)) := by
  obtain ⟨m, hm, h⟩ := Dl.bind_some' h
  split at h
  case isFalse => cases h
  rename_i h6
  have e0 : iR rg1 (aC (mB dAdd (mF fMin (aC (mSl (mN 1) (mN 5) (mB dAdd (mN 6) (mC (.int 1)))) (aN))) (mC (.int 1))) (aN)) [.val (eC c), .val (eS l), .val (eB b), .own (.list []), .un, .val (.int b.1), .val (.int b.2), .un, .un, .un, .un] = some ((List.range (m + 1).toNat).map fun k => .int (0 + (k : Nat))) := by
    simp only [iR, aC, aN, mB, mF, mSl, mN, mC, List.getElem?_cons_zero, List.getElem?_cons_succ, Option.bind_some, dAdd_i, sl_eS hb.1 (show 0 ≤ b.2 by omega), fMin_eS hm]
    exact rg1_i (by omega)
  have loop := forGo_opt (T := gN 4) (b := (sSeq (sSetO 7 (mF fDictL (aC (mU dItems (mN 0)) (aN))))
  (sSeq (sDPut 7 (mN 2) (mN 4))
  (sSeq (sSet 8 (mF fTuple (aC (mLc (iE (aC (mN 1) (aN))) (gT [gN 9, gN 10]) (qYes) (mB dSub (mN 10) (mB dMul (mN 4) (mF fInt (aC (mCh2 dLe dLe (mN 5) (mN 9) (mN 6)) (aN))))) [9, 10]) (aN))))
  (sIf (qOr (qVal (mB dLt (mN 6) (mB dSub (mF fLen (aC (mN 1) (aN))) (mC (.int 1))))) (qVal (mB dEq (mB dIx (mN 8) (mN 5)) (mC (.int 0))))) (sFrz 7 (sApp 3 (mTup (aC (mN 7) (aC (mN 8) (aN)))))) (sNil))))))
    (fun (k : Nat) => PyData.int (0 + (k : Nat))) (fun (found : List (Row × List Int)) ρ => ∃ x4 x7 x8 x9 x10, ρ = [.val (eC c), .val (eS l), .val (eB b), .own (.list (found.map eF)), x4, .val (.int b.1), .val (.int b.2), x7, x8, x9, x10])
    (longStep c l b) (List.range (m + 1).toNat) (fun k hk s s' ρ hI hs => by
      obtain ⟨x4, x7, x8, x9, x10, rfl⟩ := hI
      have hk6 : k ≤ 6 := by
        have := List.mem_range.mp hk
        omega
      have e1 : ∀ x7 x8 x9 x10, mF fDictL (aC (mU dItems (mN 0)) (aN)) [.val (eC c), .val (eS l), .val (eB b), .own (.list (s.map eF)), .val (.int (k : Nat)), .val (.int b.1), .val (.int b.2), x7, x8, x9, x10] = some (eC c) := fun x7 x8 x9 x10 => by
        have := copyM hc (by omega)
        simp only [mF, aC, aN, mU, mN, List.getElem?_cons_zero, Option.bind_some] at this ⊢
        simpa only [Option.bind_assoc, Option.bind_some] using this
      have e2 : ∀ x8 x9 x10, sDPut 7 (mN 2) (mN 4) [.val (eC c), .val (eS l), .val (eB b), .own (.list (s.map eF)), .val (.int (k : Nat)), .val (.int b.1), .val (.int b.2), .own (eC c), x8, x9, x10] = some (.nx [.val (eC c), .val (eS l), .val (eB b), .own (.list (s.map eF)), .val (.int (k : Nat)), .val (.int b.1), .val (.int b.2), .own (eC (putM c b k)), x8, x9, x10]) := fun x8 x9 x10 => by
        simp only [sDPut, mN, List.getElem?_cons_zero, List.getElem?_cons_succ, Option.bind_some, dKey_eB]
        show (if (c.map eE).length < 1000000 then _ else none) = _
        rw [if_pos (by rw [List.length_map]; omega), put_eC]
        rfl
      have e3 : ∀ x7 x8 x9 x10, mLc (iE (aC (mN 1) (aN))) (gT [gN 9, gN 10]) (qYes) (mB dSub (mN 10) (mB dMul (mN 4) (mF fInt (aC (mCh2 dLe dLe (mN 5) (mN 9) (mN 6)) (aN))))) [9, 10] [.val (eC c), .val (eS l), .val (eB b), .own (.list (s.map eF)), .val (.int (k : Nat)), .val (.int b.1), .val (.int b.2), x7, x8, x9, x10] = some (.list ((restM l b k).map PyData.int)) := fun x7 x8 x9 x10 => by
        have e4 : iE (aC (mN 1) (aN)) [.val (eC c), .val (eS l), .val (eB b), .own (.list (s.map eF)), .val (.int (k : Nat)), .val (.int b.1), .val (.int b.2), x7, x8, x9, x10] = some ((l.zipIdx).map fun p => .tuple [.int ((p.2 : Nat) : Int), .int p.1]) := by
          rw [← enum_ints l 0]
          rfl
        have e5 := compGo_all (T := gT [gN 9, gN 10]) (f := mB dSub (mN 10) (mB dMul (mN 4) (mF fInt (aC (mCh2 dLe dLe (mN 5) (mN 9) (mN 6)) (aN))))) (ρ := [.val (eC c), .val (eS l), .val (eB b), .own (.list (s.map eF)), .val (.int (k : Nat)), .val (.int b.1), .val (.int b.2), x7, x8, .un, .un]) (fun p : Int × Nat => .tuple [.int ((p.2 : Nat) : Int), .int p.1]) (fun p => .int (p.1 - k * (if b.1 ≤ (p.2 : Int) ∧ (p.2 : Int) ≤ b.2 then 1 else 0))) l.zipIdx fun p hp =>
          ⟨[.val (eC c), .val (eS l), .val (eB b), .own (.list (s.map eF)), .val (.int (k : Nat)), .val (.int b.1), .val (.int b.2), x7, x8, .val (.int (p.2 : Nat)), .val (.int p.1)], rfl, by
            have h8 : mCh2 dLe dLe (mN 5) (mN 9) (mN 6) [.val (eC c), .val (eS l), .val (eB b), .own (.list (s.map eF)), .val (.int (k : Nat)), .val (.int b.1), .val (.int b.2), x7, x8, .val (.int (p.2 : Nat)), .val (.int p.1)] = some (.bool (decide (b.1 ≤ (p.2 : Int) ∧ (p.2 : Int) ≤ b.2))) := by
              simp only [mCh2, mN, List.getElem?_cons_zero, List.getElem?_cons_succ, Option.bind_some, dLe_i]
              by_cases q1 : b.1 ≤ (p.2 : Int) <;> by_cases q2 : (p.2 : Int) ≤ b.2 <;> simp [q1, q2]
            refine mB_sub rfl (mB_mul6 hk6 rfl ?_)
            simp only [mF, aC, aN, h8, Option.bind_some, fIntB, indM]⟩
        unfold mLc
        rw [e4, Option.bind_some]
        show (compGo _ _ _ [.val (eC c), .val (eS l), .val (eB b), .own (.list (s.map eF)), .val (.int (k : Nat)), .val (.int b.1), .val (.int b.2), x7, x8, .un, .un] _).map _ = _
        rw [e5, restM, List.map_map]
        rfl
      have hr : ∃ v, (restM l b k)[b.1.toNat]? = some v := by
        have : b.1.toNat < (restM l b k).length := by rw [restM_len]; omega
        exact ⟨_, List.getElem?_eq_getElem this⟩
      obtain ⟨v, hv⟩ := hr
      have e6 : ∀ x9 x10, qOr (qVal (mB dLt (mN 6) (mB dSub (mF fLen (aC (mN 1) (aN))) (mC (.int 1))))) (qVal (mB dEq (mB dIx (mN 8) (mN 5)) (mC (.int 0)))) [.val (eC c), .val (eS l), .val (eB b), .own (.list (s.map eF)), .val (.int (k : Nat)), .val (.int b.1), .val (.int b.2), .own (eC (putM c b k)), .val (eS (restM l b k)), x9, x10]
          = some (decide (b.2 < (l.length : Int) - 1 ∨ (restM l b k)[b.1.toNat]? = some 0)) := fun x9 x10 => by
        simp only [qOr, qVal, mB, mF, aC, aN, mN, mC, List.getElem?_cons_zero, List.getElem?_cons_succ, Option.bind_some, len_eS, dSub_i, dLt_i, ix_eS hb.1 hv, dEq_int, asB, hv, Option.some.injEq]
        by_cases q1 : b.2 < (l.length : Int) - 1 <;> simp [q1]
      have e7 : ∀ x9 x10, sSet 8 (mF fTuple (aC (mLc (iE (aC (mN 1) (aN))) (gT [gN 9, gN 10]) (qYes) (mB dSub (mN 10) (mB dMul (mN 4) (mF fInt (aC (mCh2 dLe dLe (mN 5) (mN 9) (mN 6)) (aN))))) [9, 10]) (aN))) [.val (eC c), .val (eS l), .val (eB b), .own (.list (s.map eF)), .val (.int (k : Nat)), .val (.int b.1), .val (.int b.2), .own (eC (putM c b k)), x8, x9, x10] = some (.nx [.val (eC c), .val (eS l), .val (eB b), .own (.list (s.map eF)), .val (.int (k : Nat)), .val (.int b.1), .val (.int b.2), .own (eC (putM c b k)), .val (eS (restM l b k)), x9, x10]) := fun x9 x10 => by
        simp only [sSet, mF, aC, aN, e3, Option.bind_some, Option.map_some]
        rfl
      unfold longStep at hs
      by_cases hq : b.2 < (l.length : Int) - 1 ∨ (restM l b k)[b.1.toNat]? = some 0
      · rw [if_pos hq] at hs
        split at hs
        case isFalse => cases hs
        cases hs
        rename_i hl
        refine ⟨[.val (eC c), .val (eS l), .val (eB b), .own (.list (s.map eF)), .val (.int (k : Nat)), .val (.int b.1), .val (.int b.2), x7, x8, x9, x10], [.val (eC c), .val (eS l), .val (eB b), .own (.list ((s ++ [(putM c b k, restM l b k)]).map eF)), .val (.int (k : Nat)), .val (.int b.1), .val (.int b.2), .val (eC (putM c b k)), .val (eS (restM l b k)), x9, x10], by rw [Int.zero_add]; rfl, ?_, _, _, _, _, _, rfl⟩
        simp only [sSeq, sSetO, e1, Option.map_some, Option.bind_some, List.set_cons_zero, List.set_cons_succ, e2, e7]
        simp only [sIf, e6, Option.bind_some]
        rw [if_pos (decide_eq_true hq)]
        simp only [sFrz, frz, sApp, mTup, aC, aN, mN, List.getElem?_cons_zero, List.getElem?_cons_succ, Option.bind_some, List.set_cons_zero, List.set_cons_succ]
        rw [if_pos (by rw [List.length_map]; omega), List.map_append]
        rfl
      · rw [if_neg hq] at hs
        cases hs
        refine ⟨[.val (eC c), .val (eS l), .val (eB b), .own (.list (s.map eF)), .val (.int (k : Nat)), .val (.int b.1), .val (.int b.2), x7, x8, x9, x10], [.val (eC c), .val (eS l), .val (eB b), .own (.list (s.map eF)), .val (.int (k : Nat)), .val (.int b.1), .val (.int b.2), .own (eC (putM c b k)), .val (eS (restM l b k)), x9, x10], by rw [Int.zero_add]; rfl, ?_, _, _, _, _, _, rfl⟩
        simp only [sSeq, sSetO, e1, Option.map_some, Option.bind_some, List.set_cons_zero, List.set_cons_succ, e2, e7]
        simp only [sIf, e6, Option.bind_some]
        rw [if_neg (by simpa using hq)]
        rfl) [] found [.val (eC c), .val (eS l), .val (eB b), .own (.list []), .un, .val (.int b.1), .val (.int b.2), .un, .un, .un, .un] ⟨_, _, _, _, _, rfl⟩ h
  obtain ⟨ρ', h1, x4, x7, x8, x9, x10, h2⟩ := loop
  subst h2
  unfold F_law_bb_longer s_law_bb_longer
  have e9 : sAsg (gT [gN 5, gN 6]) (mN 2) [.val (eC c), .val (eS l), .val (eB b), .un, .un, .un, .un, .un, .un, .un, .un] = some (.nx [.val (eC c), .val (eS l), .val (eB b), .un, .un, .val (.int b.1), .val (.int b.2), .un, .un, .un, .un]) := rfl
  have e10 : sSetO 3 (mLst (aN)) [.val (eC c), .val (eS l), .val (eB b), .un, .un, .val (.int b.1), .val (.int b.2), .un, .un, .un, .un] = some (.nx [.val (eC c), .val (eS l), .val (eB b), .own (.list []), .un, .val (.int b.1), .val (.int b.2), .un, .un, .un, .un]) := rfl
  show (match sSeq _ _ [.val (eC c), .val (eS l), .val (eB b), .un, .un, .un, .un, .un, .un, .un, .un] with | some (.rt d) => some d | some (.nx _) => some .none | none => none) = _
  rw [sSeq, e9, Option.bind_some]
  show (match sSeq _ _ [.val (eC c), .val (eS l), .val (eB b), .un, .un, .val (.int b.1), .val (.int b.2), .un, .un, .un, .un] with | some (.rt d) => some d | some (.nx _) => some .none | none => none) = _
  rw [sSeq, e10, Option.bind_some]
  show (match sSeq _ _ [.val (eC c), .val (eS l), .val (eB b), .own (.list []), .un, .val (.int b.1), .val (.int b.2), .un, .un, .un, .un] with | some (.rt d) => some d | some (.nx _) => some .none | none => none) = _
  rw [sSeq, sFor, e0, Option.bind_some, h1]
  rfl
end Ar

end
section
set_option Elab.async false
set_option linter.all false
set_option maxRecDepth 100000
set_option maxHeartbeats 4000000
namespace Ar
open PySem Dl
/-! ### sorted rows -/
theorem alike_eP (a b : Bar × Int) : PySem.W.alike (eP a) (eP b) = true := by simp [eP, eB, PySem.W.alike, PySem.W.alikeAll]
theorem alikeAll_eP : ∀ r r' : Row, PySem.W.alikeAll (r.map eP) (r'.map eP) = true
  | [], _ => by simp [PySem.W.alikeAll]
  | _ :: _, [] => by simp [PySem.W.alikeAll]
  | p :: r, q :: r' => by
    rw [List.map_cons, List.map_cons, PySem.W.alikeAll, alike_eP, alikeAll_eP r r']
    rfl
theorem alike_eR (r r' : Row) : PySem.W.alike (eR r) (eR r') = true := by
  rw [eR, eR, PySem.W.alike]
  exact alikeAll_eP r r'
theorem lay_eP (p : Bar × Int) : (eP p).canLay0 = true := by simp [eP, PyData.canLay0, PyData.canLayAll0, lay_eB]
theorem layAll_eP (r : Row) : PyData.canLayAll0 (r.map eP) = true := by
  induction r with
  | nil => rfl
  | cons p r ih => simp [PyData.canLayAll0, lay_eP, ih]
theorem depth_eP (p : Bar × Int) : (eP p).depth = 2 := by simp [eP, PyData.depth, PyData.depthAll, depth_eB]
theorem depthAll_eP (r : Row) : PyData.depthAll (r.map eP) ≤ 2 := by
  induction r with
  | nil => exact Nat.zero_le _
  | cons p r ih =>
    simp only [List.map_cons, PyData.depthAll, depth_eP]
    exact Nat.max_le.mpr ⟨Nat.le_refl _, ih⟩
theorem shaped_eR (r : Row) : SeqAt.shaped (eR r) = true := by
  simp only [SeqAt.shaped, eR, PyData.canLay0, layAll_eP, PyData.depth, Bool.true_and]
  exact decide_eq_true (Nat.le_trans (Nat.succ_le_succ (depthAll_eP r)) (show 3 ≤ 64 by decide))
def SortOkR (rs : List Row) : Prop := rs.length ≤ 1 ∨ ∀ r ∈ rs, r ≠ []
instance {rs : List Row} : Decidable (SortOkR rs) := inferInstanceAs (Decidable (_ ∨ _))
def sortR (rs : List Row) : List Row := rs.mergeSort (PySem.W.dataLe false eR)
theorem sorted_eR {rs : List Row} (h : SortOkR rs) : fSorted [.list (rs.map eR)] = some (.list ((sortR rs).map eR)) := by
  have e1 : sortOk (rs.map eR) = true := by
    unfold sortOk
    rcases h with h | h
    · rw [decide_eq_true (by rw [List.length_map]; exact h)]
      rfl
    · rw [all_map_true shaped_eR, all_map_true (p := fun d => (rs.map eR).all (PySem.W.alike d)) fun a => all_map_true (p := PySem.W.alike (eR a)) fun b => alike_eR a b]
      have : (rs.map eR).all isTupNE = true := by
        rw [List.all_map, List.all_eq_true]
        intro r hr
        cases r with
        | nil => exact absurd rfl (h _ hr)
        | cons p r => rfl
      rw [this]
      simp
  show (if sortOk (rs.map eR) = true then some (PyData.list ((rs.map eR).mergeSort (PySem.W.dataLe false id))) else none) = _
  rw [if_pos e1, sortR, PySem.W.sort_maps eR (r := PySem.W.dataLe false eR) (s := PySem.W.dataLe false id) (l := rs) fun a _ b _ => rfl]
/-! the order tells rows apart -/
theorem toks_eP (p : Bar × Int) : PySem.W.keyToks (eP p) = [.inl 1, .inl 1, .inl p.1.1, .inl 1, .inl p.1.2, .inl 0, .inl 1, .inl p.2, .inl 0] := by
  simp [eP, eB, PySem.W.keyToks, PySem.W.keyToksAll]
theorem toks_inj : ∀ r r' : Row, PySem.W.keyToksAll (r.map eP) = PySem.W.keyToksAll (r'.map eP) → r = r'
  | [], [], _ => rfl
  | [], _ :: _, h => by simp [PySem.W.keyToksAll] at h
  | _ :: _, [], h => by simp [PySem.W.keyToksAll] at h
  | p :: r, q :: r', h => by
    obtain ⟨⟨x, y⟩, m⟩ := p
    obtain ⟨⟨z, t⟩, k⟩ := q
    simp only [List.map_cons, PySem.W.keyToksAll, toks_eP, List.cons_append, List.nil_append, List.cons.injEq, Sum.inl.injEq, true_and] at h
    obtain ⟨h1, h2, h3, h4⟩ := h
    rw [h1, h2, h3, toks_inj r r' h4]
theorem sort_perm {a b : List Row} (h : a.Perm b) : sortR a = sortR b := by
  have tot : PySem.W.TotalLe (PySem.W.dataLe false eR) := PySem.W.sortLe_total _ _ _
  refine List.Perm.eq_of_pairwise (le := fun a b => PySem.W.dataLe false eR a b = true) ?_ (PySem.W.sort_pairwise tot a) (PySem.W.sort_pairwise tot b) (((List.mergeSort_perm a _).trans h).trans (List.mergeSort_perm b _).symm)
  intro r r' _ _ h1 h2
  have h1 : (!PySem.W.dataLt (eR r') (eR r)) = true := h1
  have h2 : (!PySem.W.dataLt (eR r) (eR r')) = true := h2
  rw [Bool.not_eq_true'] at h1 h2
  have := PyProof.Rows.lex_total _ _ h2 h1
  simp only [eR, PySem.W.keyToks] at this
  exact toks_inj r r' this
theorem mem_sortR {r : Row} {rs : List Row} : r ∈ sortR rs ↔ r ∈ rs := (List.mergeSort_perm rs _).mem_iff
/-! ### the law's own rows -/
def goodF (b : Bar) (p : Row × List Int) : Prop := (p.1.map (·.1)).Nodup ∧ p.1.length < 1000 ∧ 0 ≤ b.1 ∧ b.1 ≤ b.2 ∧ b.2 < p.2.length
instance {b : Bar} {p : Row × List Int} : Decidable (goodF b p) := inferInstanceAs (Decidable (_ ∧ _))
def extStep (b : Bar) (acc : List (Row × List Int)) (p : Row × List Int) : Option (List (Row × List Int)) :=
  if goodF b p then (longerM p.1 p.2 b).bind fun xs => if acc.length + xs.length < 1000 then some (acc ++ xs) else none else none
def bbStep (found : List (Row × List Int)) (b : Bar) : Option (List (Row × List Int)) := foldO (extStep b) [] found
def bbM (n : Nat) (sizes : List Int) : Option (List Row) := (foldO bbStep [([], sizes)] (barsM n)).bind fun found =>
  compO (fun p => (maxL p.2).map fun m => decide (m = 0)) (fun p => if KeysOk p.1 then some (told p.1) else none) found
theorem bb_rows_x (F_all F_longer F_told : List D → Option D) {n : Nat} {sizes : List Int} (hn : sizes.length = n) (a1 : F_all [.int (n : Nat)] = some (.list ((barsM n).map eB)))
    (a2 : ∀ {c l b found}, (c.map (·.1)).Nodup → c.length < 1000 → 0 ≤ b.1 ∧ b.1 ≤ b.2 ∧ b.2 < l.length → longerM c l b = some found → F_longer [eC c, eS l, eB b] = some (.list (found.map eF)))
    (a3 : ∀ {c}, KeysOk c → F_told [eC c] = some (eR (told c))) {rows : List Row} (h : bbM n sizes = some rows) (hs : SortOkR rows) :
    bodyF 8 (sSeq (sPar [1, 2] (pV (mF fLen (aC (mN 0) (aN))) (pV (mLst (aC (mTup (aC (mC (.dict [])) (aC (mF fTuple (aC (mN 0) (aN))) (aN)))) (aN))) (pN))))
  (sSeq (sFor (iL (mF F_all (aC (mN 1) (aN)))) (gT [gN 3, gN 4]) (sSeq (sSetO 5 (mLst (aN)))
  (sSeq (sFor (iL (mN 2)) (gT [gN 6, gN 7]) (sExt 5 (mF F_longer (aC (mN 6) (aC (mN 7) (aC (mTup (aC (mN 3) (aC (mN 4) (aN)))) (aN)))))))
  (sFrz 5 (sSet 2 (mF fList (aC (mN 5) (aN))))))))
  (sRet (mF fSorted (aC (mLc (iL (mN 2)) (gT [gN 6, gN 7]) (qVal (mB dEq (mF fMax (aC (mN 7) (aN))) (mC (.int 0)))) (mF F_told (aC (mN 6) (aN))) [6, 7]) (aN)))))) [eS sizes] = some (.list ((sortR rows).map eR)) := by
  obtain ⟨found, h1, h2⟩ := Dl.bind_some' h
  have inner : ∀ (b : Bar) (found : List (Row × List Int)) (out : List (Row × List Int)) (x6 x7 : Sl), bbStep found b = some out → ∃ y6 y7, forGo (gT [gN 6, gN 7]) (sExt 5 (mF F_longer (aC (mN 6) (aC (mN 7) (aC (mTup (aC (mN 3) (aC (mN 4) (aN)))) (aN)))))) (found.map eF) [.val (eS sizes), .val (.int (n : Nat)), .val (.list (found.map eF)), .val (.int b.1), .val (.int b.2), .own (.list []), x6, x7]
      = some (.nx [.val (eS sizes), .val (.int (n : Nat)), .val (.list (found.map eF)), .val (.int b.1), .val (.int b.2), .own (.list (out.map eF)), y6, y7]) := fun b found out x6 x7 hb => by
    obtain ⟨ρ', h3, y6, y7, h4⟩ := forGo_opt (T := gT [gN 6, gN 7]) (b := sExt 5 (mF F_longer (aC (mN 6) (aC (mN 7) (aC (mTup (aC (mN 3) (aC (mN 4) (aN)))) (aN)))))) eF (fun (acc : List (Row × List Int)) ρ => ∃ x6 x7, ρ = [.val (eS sizes), .val (.int (n : Nat)), .val (.list (found.map eF)), .val (.int b.1), .val (.int b.2), .own (.list (acc.map eF)), x6, x7])
      (extStep b) found (fun p hp s s' ρ hI hs => by
        obtain ⟨x6, x7, rfl⟩ := hI
        unfold extStep at hs
        split at hs
        case isFalse => cases hs
        rename_i hg
        obtain ⟨xs, e1, hs⟩ := Dl.bind_some' hs
        split at hs
        case isFalse => cases hs
        rename_i hl
        cases hs
        refine ⟨[.val (eS sizes), .val (.int (n : Nat)), .val (.list (found.map eF)), .val (.int b.1), .val (.int b.2), .own (.list (s.map eF)), .val (eC p.1), .val (eS p.2)], [.val (eS sizes), .val (.int (n : Nat)), .val (.list (found.map eF)), .val (.int b.1), .val (.int b.2), .own (.list ((s ++ xs).map eF)), .val (eC p.1), .val (eS p.2)], rfl, ?_, _, _, rfl⟩
        have e2 := a2 hg.1 hg.2.1 hg.2.2 e1
        have e3 : mF F_longer (aC (mN 6) (aC (mN 7) (aC (mTup (aC (mN 3) (aC (mN 4) (aN)))) (aN)))) [.val (eS sizes), .val (.int (n : Nat)), .val (.list (found.map eF)), .val (.int b.1), .val (.int b.2), .own (.list (s.map eF)), .val (eC p.1), .val (eS p.2)] = some (.list (xs.map eF)) := e2
        unfold sExt
        rw [e3, Option.bind_some]
        show (if (s.map eF).length + (xs.map eF).length < 16000000 then _ else none) = _
        rw [if_pos (by rw [List.length_map, List.length_map]; omega), List.map_append]
        rfl) [] out _ ⟨x6, x7, rfl⟩ hb
    exact ⟨y6, y7, by rw [← h4]; exact h3⟩
  obtain ⟨ρ', h3, y3, y4, y5, y6, y7, h4⟩ := forGo_opt (T := gT [gN 3, gN 4]) (b := (sSeq (sSetO 5 (mLst (aN)))
  (sSeq (sFor (iL (mN 2)) (gT [gN 6, gN 7]) (sExt 5 (mF F_longer (aC (mN 6) (aC (mN 7) (aC (mTup (aC (mN 3) (aC (mN 4) (aN)))) (aN)))))))
  (sFrz 5 (sSet 2 (mF fList (aC (mN 5) (aN)))))))) eB (fun (found : List (Row × List Int)) ρ => ∃ x3 x4 x5 x6 x7, ρ = [.val (eS sizes), .val (.int (n : Nat)), .val (.list (found.map eF)), x3, x4, x5, x6, x7])
    bbStep (barsM n) (fun b hb s s' ρ hI hs => by
      obtain ⟨x3, x4, x5, x6, x7, rfl⟩ := hI
      obtain ⟨y6, y7, h5⟩ := inner b s s' x6 x7 hs
      refine ⟨[.val (eS sizes), .val (.int (n : Nat)), .val (.list (s.map eF)), .val (.int b.1), .val (.int b.2), x5, x6, x7], [.val (eS sizes), .val (.int (n : Nat)), .val (.list (s'.map eF)), .val (.int b.1), .val (.int b.2), .val (.list (s'.map eF)), y6, y7], rfl, ?_, _, _, _, _, _, rfl⟩
      have e1 : sSetO 5 (mLst (aN)) [.val (eS sizes), .val (.int (n : Nat)), .val (.list (s.map eF)), .val (.int b.1), .val (.int b.2), x5, x6, x7] = some (.nx [.val (eS sizes), .val (.int (n : Nat)), .val (.list (s.map eF)), .val (.int b.1), .val (.int b.2), .own (.list []), x6, x7]) := rfl
      have e2 : iL (mN 2) [.val (eS sizes), .val (.int (n : Nat)), .val (.list (s.map eF)), .val (.int b.1), .val (.int b.2), .own (.list []), x6, x7] = some (s.map eF) := rfl
      rw [sSeq, e1, Option.bind_some]
      show sSeq _ _ [.val (eS sizes), .val (.int (n : Nat)), .val (.list (s.map eF)), .val (.int b.1), .val (.int b.2), .own (.list []), x6, x7] = _
      rw [sSeq, sFor, e2, Option.bind_some, h5]
      rfl) [([], sizes)] found [.val (eS sizes), .val (.int (n : Nat)), .val (.list ([(([] : Row), sizes)].map eF)), .un, .un, .un, .un, .un] ⟨_, _, _, _, _, rfl⟩ h1
  subst h4
  have e5 := compGo_opt (T := gT [gN 6, gN 7]) (q := qVal (mB dEq (mF fMax (aC (mN 7) (aN))) (mC (.int 0)))) (f := mF F_told (aC (mN 6) (aN))) (ρ := [.val (eS sizes), .val (.int (n : Nat)), .val (.list (found.map eF)), y3, y4, y5, .un, .un]) eF eR (fun p => (maxL p.2).map fun m => decide (m = 0)) (fun p => if KeysOk p.1 then some (told p.1) else none) found rows (fun p hp => by
    refine ⟨[.val (eS sizes), .val (.int (n : Nat)), .val (.list (found.map eF)), y3, y4, y5, .val (eC p.1), .val (eS p.2)], rfl, fun c hc => ?_, fun y hy => ?_⟩
    · obtain ⟨m, hm, rfl⟩ := Option.map_eq_some_iff.mp hc
      simp only [qVal, mB, mF, aC, aN, mN, mC, List.getElem?_cons_zero, List.getElem?_cons_succ, Option.bind_some, fMax_eS hm, dEq_int, asB]
    · split at hy
      case isFalse => cases hy
      rename_i hk
      cases hy
      exact a3 hk) h2
  have e6 : mLc (iL (mN 2)) (gT [gN 6, gN 7]) (qVal (mB dEq (mF fMax (aC (mN 7) (aN))) (mC (.int 0)))) (mF F_told (aC (mN 6) (aN))) [6, 7] [.val (eS sizes), .val (.int (n : Nat)), .val (.list (found.map eF)), y3, y4, y5, y6, y7] = some (.list (rows.map eR)) := by
    show (compGo _ _ _ [.val (eS sizes), .val (.int (n : Nat)), .val (.list (found.map eF)), y3, y4, y5, .un, .un] (found.map eF)).map _ = _
    rw [e5]
    rfl
  have e7 : sPar [1, 2] (pV (mF fLen (aC (mN 0) (aN))) (pV (mLst (aC (mTup (aC (mC (.dict [])) (aC (mF fTuple (aC (mN 0) (aN))) (aN)))) (aN))) (pN))) [.val (eS sizes), .un, .un, .un, .un, .un, .un, .un] = some (.nx [.val (eS sizes), .val (.int (n : Nat)), .val (.list ([(([] : Row), sizes)].map eF)), .un, .un, .un, .un, .un]) := by
    have := len_eS sizes
    rw [hn] at this
    simp only [sPar, pV, pN, mF, aC, aN, mN, List.getElem?_cons_zero, Option.bind_some, this]
    rfl
  have e8 : iL (mF F_all (aC (mN 1) (aN))) [.val (eS sizes), .val (.int (n : Nat)), .val (.list ([(([] : Row), sizes)].map eF)), .un, .un, .un, .un, .un] = some ((barsM n).map eB) := by
    show (F_all [.int (n : Nat)]).bind _ = _
    rw [a1]
    rfl
  show (match sSeq _ _ [.val (eS sizes), .un, .un, .un, .un, .un, .un, .un] with | some (.rt d) => some d | some (.nx _) => some .none | none => none) = _
  rw [sSeq, e7, Option.bind_some]
  show (match sSeq _ _ [.val (eS sizes), .val (.int (n : Nat)), .val (.list ([(([] : Row), sizes)].map eF)), .un, .un, .un, .un, .un] with | some (.rt d) => some d | some (.nx _) => some .none | none => none) = _
  rw [sSeq, sFor, e8, Option.bind_some, h3, Option.bind_some]
  show (match sRet _ [.val (eS sizes), .val (.int (n : Nat)), .val (.list (found.map eF)), y3, y4, y5, y6, y7] with | some (.rt d) => some d | some (.nx _) => some .none | none => none) = _
  rw [sRet, mF, aC, e6]
  show (match (fSorted [.list (rows.map eR)]).map Out.rt with | some (.rt d) => some d | some (.nx _) => some .none | none => none) = _
  rw [sorted_eR hs]
  rfl
theorem bb_rowsM {n : Nat} (a : 1 ≤ n) (b : n ≤ 4) {sizes : List Int} (hn : sizes.length = n) {rows : List Row} (h : bbM n sizes = some rows) (hs : SortOkR rows) : F_law_bb_rows [eS sizes] = some (.list ((sortR rows).map eR)) :=
  bb_rows_x F_law_bb_all F_law_bb_longer F_law_bb_told hn (bb_allM a b) longer_x told_x h hs
end Ar

end
section
set_option Elab.async false
set_option linter.all false
set_option maxRecDepth 100000
set_option maxHeartbeats 4000000
namespace Ar
open PySem Dl
/-! ### shares -/
def eQ (p : List Int × Int) : D := .tuple [eS p.1, .int p.2]
def lessM (x y : Int) : Int := if y < x then y else x
def shareExt (l : List Int) (start point : Int) (acc : List (List Int × Int)) (p : List Int × Int) : Option (List (List Int × Int)) :=
  (l[point.toNat]?).bind fun x => (l[start.toNat]?).bind fun y =>
    if -1000 ≤ lessM x y - p.2 + 1 ∧ lessM x y - p.2 + 1 ≤ 1000 ∧ acc.length < 1000 ∧ p.1.length < 1000 then some (acc ++ (List.range (lessM x y - p.2 + 1).toNat).map fun (k : Nat) => (p.1 ++ [(k : Int)], p.2 + (k : Int))) else none
def shareStep (l : List Int) (start last : Int) (found : List (List Int × Int)) (k : Nat) : Option (List (List Int × Int)) :=
  if 0 ≤ last + (k : Int) * (-1) then foldO (shareExt l start (last + (k : Int) * (-1))) [] found else none
def sharesM (l : List Int) (start last : Int) : Option (List (List Int)) := (foldO (shareStep l start last) [([], 0)] (List.range (last - start).toNat)).bind fun found =>
  (l[start.toNat]?).bind fun y => compO (fun _ => some true) (fun p : List Int × Int => if p.1.length < 1000 then some (p.1 ++ [y - p.2]) else none) found
theorem rg3_i {i j : Int} (h : -1000000 ≤ i ∧ i ≤ 1000000) (h2 : -1000000 ≤ j ∧ j ≤ 1000000) : rg3 [.int i, .int j, .int (-1)] = some ((List.range (i - j).toNat).map fun k => .int (i + (k : Nat) * (-1))) := by
  simp only [rg3, h, h2, and_self, if_true]
theorem fMin2 (i j : Int) : fMin [.int i, .int j] = some (.int (lessM i j)) := rfl
theorem tupS_eS {l m : List Int} (h : l.length < 5000 ∧ m.length < 5000) : (if ((l.map PyData.int) ++ (m.map PyData.int)).length ≤ 10000 then some (PyData.tuple ((l.map PyData.int) ++ (m.map PyData.int))) else none) = some (eS (l ++ m)) := by
  rw [if_pos (by rw [List.length_append, List.length_map, List.length_map]; omega), ← List.map_append]
  rfl
theorem shares_x {l : List Int} {start last : Int} {out : List (List Int)} (hs : 0 ≤ start ∧ start < 1000) (hl : 0 ≤ last ∧ last < 1000) (h : sharesM l start last = some out) : F_shares_of [eS l, .int start, .int last] = some (.list (out.map eS)) := by
  obtain ⟨found, h1, h2⟩ := Dl.bind_some' h
  obtain ⟨y, hy, h2⟩ := Dl.bind_some' h2
  have inner : ∀ (point : Int) (found out : List (List Int × Int)) (x6 x7 x8 : Sl), 0 ≤ point → foldO (shareExt l start point) [] found = some out → ∃ y6 y7 y8, forGo (gT [gN 6, gN 7]) (sExt 5 (mLc (iR rg1 (aC (mB dAdd (mB dSub (mF fMin (aC (mB dIx (mN 0) (mN 4)) (aC (mB dIx (mN 0) (mN 1)) (aN)))) (mN 7)) (mC (.int 1))) (aN))) (gN 8) (qYes) (mTup (aC (mTupS (aS (mN 6) (aC (mN 8) (aN)))) (aC (mB dAdd (mN 7) (mN 8)) (aN)))) [8])) (found.map eQ) [.val (eS l), .val (.int start), .val (.int last), .val (.list (found.map eQ)), .val (.int point), .own (.list []), x6, x7, x8]
      = some (.nx [.val (eS l), .val (.int start), .val (.int last), .val (.list (found.map eQ)), .val (.int point), .own (.list (out.map eQ)), y6, y7, y8]) := fun point found out x6 x7 x8 hp0 hb => by
    obtain ⟨ρ', h3, y6, y7, y8, h4⟩ := forGo_opt (T := gT [gN 6, gN 7]) (b := (sExt 5 (mLc (iR rg1 (aC (mB dAdd (mB dSub (mF fMin (aC (mB dIx (mN 0) (mN 4)) (aC (mB dIx (mN 0) (mN 1)) (aN)))) (mN 7)) (mC (.int 1))) (aN))) (gN 8) (qYes) (mTup (aC (mTupS (aS (mN 6) (aC (mN 8) (aN)))) (aC (mB dAdd (mN 7) (mN 8)) (aN)))) [8]))) eQ (fun (acc : List (List Int × Int)) ρ => ∃ x6 x7 x8, ρ = [.val (eS l), .val (.int start), .val (.int last), .val (.list (found.map eQ)), .val (.int point), .own (.list (acc.map eQ)), x6, x7, x8])
      (shareExt l start point) found (fun p hp s s' ρ hI hs' => by
        obtain ⟨x6, x7, x8, rfl⟩ := hI
        obtain ⟨x, e1, hs'⟩ := Dl.bind_some' hs'
        obtain ⟨y, e2, hs'⟩ := Dl.bind_some' hs'
        split at hs'
        case isFalse => cases hs'
        rename_i hg
        cases hs'
        refine ⟨[.val (eS l), .val (.int start), .val (.int last), .val (.list (found.map eQ)), .val (.int point), .own (.list (s.map eQ)), .val (eS p.1), .val (.int p.2), x8], [.val (eS l), .val (.int start), .val (.int last), .val (.list (found.map eQ)), .val (.int point), .own (.list ((s ++ (List.range (lessM x y - p.2 + 1).toNat).map fun (k : Nat) => (p.1 ++ [(k : Int)], p.2 + (k : Int))).map eQ)), .val (eS p.1), .val (.int p.2), x8], rfl, ?_, _, _, _, rfl⟩
        have e3 : iR rg1 (aC (mB dAdd (mB dSub (mF fMin (aC (mB dIx (mN 0) (mN 4)) (aC (mB dIx (mN 0) (mN 1)) (aN)))) (mN 7)) (mC (.int 1))) (aN)) [.val (eS l), .val (.int start), .val (.int last), .val (.list (found.map eQ)), .val (.int point), .own (.list (s.map eQ)), .val (eS p.1), .val (.int p.2), x8] = some ((List.range (lessM x y - p.2 + 1).toNat).map fun k => .int (0 + (k : Nat))) := by
          simp only [iR, aC, aN, mB, mF, mN, mC, List.getElem?_cons_zero, List.getElem?_cons_succ, Option.bind_some, ix_eS hp0 e1, ix_eS hs.1 e2, fMin2, dSub_i, dAdd_i]
          exact rg1_i (by omega)
        have e4 := compGo_all (T := gN 8) (f := mTup (aC (mTupS (aS (mN 6) (aC (mN 8) (aN)))) (aC (mB dAdd (mN 7) (mN 8)) (aN)))) (ρ := [.val (eS l), .val (.int start), .val (.int last), .val (.list (found.map eQ)), .val (.int point), .own (.list (s.map eQ)), .val (eS p.1), .val (.int p.2), .un]) (fun k : Nat => .int (0 + (k : Nat))) (fun k : Nat => eQ (p.1 ++ [(k : Int)], p.2 + (k : Int))) (List.range (lessM x y - p.2 + 1).toNat) fun k hk =>
          ⟨[.val (eS l), .val (.int start), .val (.int last), .val (.list (found.map eQ)), .val (.int point), .own (.list (s.map eQ)), .val (eS p.1), .val (.int p.2), .val (.int (k : Nat))], by rw [Int.zero_add]; rfl, by
            have e5 : mTupS (aS (mN 6) (aC (mN 8) (aN))) [.val (eS l), .val (.int start), .val (.int last), .val (.list (found.map eQ)), .val (.int point), .own (.list (s.map eQ)), .val (eS p.1), .val (.int p.2), .val (.int (k : Nat))] = some (eS (p.1 ++ [((k : Nat) : Int)])) := tupS_eS (m := [((k : Nat) : Int)]) ⟨by omega, by simp⟩
            simp only [mTup, aC, aN, e5, Option.bind_some]
            rfl⟩
        have e6 : mLc (iR rg1 (aC (mB dAdd (mB dSub (mF fMin (aC (mB dIx (mN 0) (mN 4)) (aC (mB dIx (mN 0) (mN 1)) (aN)))) (mN 7)) (mC (.int 1))) (aN))) (gN 8) (qYes) (mTup (aC (mTupS (aS (mN 6) (aC (mN 8) (aN)))) (aC (mB dAdd (mN 7) (mN 8)) (aN)))) [8] [.val (eS l), .val (.int start), .val (.int last), .val (.list (found.map eQ)), .val (.int point), .own (.list (s.map eQ)), .val (eS p.1), .val (.int p.2), x8] = some (.list (((List.range (lessM x y - p.2 + 1).toNat).map fun (k : Nat) => (p.1 ++ [(k : Int)], p.2 + (k : Int))).map eQ)) := by
          unfold mLc
          rw [e3, Option.bind_some]
          show (compGo _ _ _ [.val (eS l), .val (.int start), .val (.int last), .val (.list (found.map eQ)), .val (.int point), .own (.list (s.map eQ)), .val (eS p.1), .val (.int p.2), .un] _).map _ = _
          rw [e4, List.map_map]
          rfl
        unfold sExt
        rw [e6, Option.bind_some]
        show (if (s.map eQ).length + _ < 16000000 then _ else none) = _
        rw [if_pos (by rw [List.length_map, List.length_map, List.length_map, List.length_range]; omega), List.map_append]
        rfl) [] out _ ⟨x6, x7, x8, rfl⟩ hb
    exact ⟨y6, y7, y8, by rw [← h4]; exact h3⟩
  obtain ⟨ρ', h3, y4, y5, y6, y7, y8, h4⟩ := forGo_opt (T := gN 4) (b := (sSeq (sSetO 5 (mLst (aN)))
  (sSeq (sFor (iL (mN 3)) (gT [gN 6, gN 7]) (sExt 5 (mLc (iR rg1 (aC (mB dAdd (mB dSub (mF fMin (aC (mB dIx (mN 0) (mN 4)) (aC (mB dIx (mN 0) (mN 1)) (aN)))) (mN 7)) (mC (.int 1))) (aN))) (gN 8) (qYes) (mTup (aC (mTupS (aS (mN 6) (aC (mN 8) (aN)))) (aC (mB dAdd (mN 7) (mN 8)) (aN)))) [8])))
  (sFrz 5 (sSet 3 (mF fList (aC (mN 5) (aN)))))))) (fun k : Nat => .int (last + (k : Nat) * (-1))) (fun (found : List (List Int × Int)) ρ => ∃ x4 x5 x6 x7 x8, ρ = [.val (eS l), .val (.int start), .val (.int last), .val (.list (found.map eQ)), x4, x5, x6, x7, x8])
    (shareStep l start last) (List.range (last - start).toNat) (fun k hk s s' ρ hI hs' => by
      obtain ⟨x4, x5, x6, x7, x8, rfl⟩ := hI
      unfold shareStep at hs'
      split at hs'
      case isFalse => cases hs'
      rename_i hk0
      generalize last + (k : Int) * (-1) = point at hs' hk0
      obtain ⟨y6, y7, y8, h5⟩ := inner point s s' x6 x7 x8 hk0 hs'
      refine ⟨[.val (eS l), .val (.int start), .val (.int last), .val (.list (s.map eQ)), .val (.int point), x5, x6, x7, x8], [.val (eS l), .val (.int start), .val (.int last), .val (.list (s'.map eQ)), .val (.int point), .val (.list (s'.map eQ)), y6, y7, y8], rfl, ?_, _, _, _, _, _, rfl⟩
      have e1 : sSetO 5 (mLst (aN)) [.val (eS l), .val (.int start), .val (.int last), .val (.list (s.map eQ)), .val (.int point), x5, x6, x7, x8] = some (.nx [.val (eS l), .val (.int start), .val (.int last), .val (.list (s.map eQ)), .val (.int point), .own (.list []), x6, x7, x8]) := rfl
      have e2 : iL (mN 3) [.val (eS l), .val (.int start), .val (.int last), .val (.list (s.map eQ)), .val (.int point), .own (.list []), x6, x7, x8] = some (s.map eQ) := rfl
      rw [sSeq, e1, Option.bind_some]
      show sSeq _ _ [.val (eS l), .val (.int start), .val (.int last), .val (.list (s.map eQ)), .val (.int point), .own (.list []), x6, x7, x8] = _
      rw [sSeq, sFor, e2, Option.bind_some, h5]
      rfl) [([], 0)] found [.val (eS l), .val (.int start), .val (.int last), .val (.list ([(([] : List Int), (0 : Int))].map eQ)), .un, .un, .un, .un, .un] ⟨_, _, _, _, _, rfl⟩ h1
  subst h4
  have e5 := compGo_opt (T := gT [gN 6, gN 7]) (q := qYes) (f := mTupS (aS (mN 6) (aC (mB dSub (mB dIx (mN 0) (mN 1)) (mN 7)) (aN)))) (ρ := [.val (eS l), .val (.int start), .val (.int last), .val (.list (found.map eQ)), y4, y5, .un, .un, y8]) eQ eS (fun _ => some true) (fun p : List Int × Int => if p.1.length < 1000 then some (p.1 ++ [y - p.2]) else none) found out (fun p hp => by
    refine ⟨[.val (eS l), .val (.int start), .val (.int last), .val (.list (found.map eQ)), y4, y5, .val (eS p.1), .val (.int p.2), y8], rfl, fun c hc => hc, fun z hz => ?_⟩
    split at hz
    case isFalse => cases hz
    rename_i hg
    cases hz
    have e6 : mB dSub (mB dIx (mN 0) (mN 1)) (mN 7) [.val (eS l), .val (.int start), .val (.int last), .val (.list (found.map eQ)), y4, y5, .val (eS p.1), .val (.int p.2), y8] = some (.int (y - p.2)) := mB_sub (ix_eS hs.1 hy) rfl
    simp only [mTupS, aS, aC, aN, mN, List.getElem?_cons_zero, List.getElem?_cons_succ, Option.bind_some, e6]
    exact tupS_eS (m := [y - p.2]) ⟨by omega, by simp⟩) h2
  have e7 : sSet 3 (mLst (aC (mTup (aC (mTup (aN)) (aC (mC (.int 0)) (aN)))) (aN))) [.val (eS l), .val (.int start), .val (.int last), .un, .un, .un, .un, .un, .un] = some (.nx [.val (eS l), .val (.int start), .val (.int last), .val (.list ([(([] : List Int), (0 : Int))].map eQ)), .un, .un, .un, .un, .un]) := rfl
  have e8 : iR rg3 (aC (mN 2) (aC (mN 1) (aC (mU dNeg (mC (.int 1))) (aN)))) [.val (eS l), .val (.int start), .val (.int last), .val (.list ([(([] : List Int), (0 : Int))].map eQ)), .un, .un, .un, .un, .un] = some ((List.range (last - start).toNat).map fun k : Nat => .int (last + (k : Nat) * (-1))) := rg3_i (by omega) (by omega)
  show (match sSeq _ _ [.val (eS l), .val (.int start), .val (.int last), .un, .un, .un, .un, .un, .un] with | some (.rt d) => some d | some (.nx _) => some .none | none => none) = _
  rw [sSeq, e7, Option.bind_some]
  show (match sSeq _ _ [.val (eS l), .val (.int start), .val (.int last), .val (.list ([(([] : List Int), (0 : Int))].map eQ)), .un, .un, .un, .un, .un] with | some (.rt d) => some d | some (.nx _) => some .none | none => none) = _
  rw [sSeq, sFor, e8, Option.bind_some, h3, Option.bind_some]
  show (match sRet _ [.val (eS l), .val (.int start), .val (.int last), .val (.list (found.map eQ)), y4, y5, y6, y7, y8] with | some (.rt d) => some d | some (.nx _) => some .none | none => none) = _
  show (match ((compGo _ _ _ [.val (eS l), .val (.int start), .val (.int last), .val (.list (found.map eQ)), y4, y5, .un, .un, y8] (found.map eQ)).map PyData.list).map Out.rt with | some (.rt d) => some d | some (.nx _) => some .none | none => none) = _
  rw [e5]
  rfl
end Ar

end
section
set_option Elab.async false
set_option linter.all false
set_option maxRecDepth 100000
set_option maxHeartbeats 4000000
namespace Ar
open PySem Dl
abbrev BSt := Int × List Int × Row
def behindStep (start last : Int) (st : BSt) (p : Int × Nat) : Option BSt :=
  if 0 ≤ last - (p.2 : Int) then (st.2.1[(last - (p.2 : Int)).toNat]?).bind fun a =>
    if 0 < p.1 then (if st.2.2.length < 1000 then some (st.1 + p.1, st.2.1.set (last - (p.2 : Int)).toNat (a - (st.1 + p.1)), st.2.2 ++ [((start, last - (p.2 : Int)), p.1)]) else none)
    else some (st.1 + p.1, st.2.1.set (last - (p.2 : Int)).toNat (a - (st.1 + p.1)), st.2.2)
  else none
def behindM (bars : Row) (left : List Int) (start : Int) (share : List Int) : Option (Row × List Int) := (foldO (behindStep start ((left.length : Int) - 1)) (0, left, []) share.zipIdx).bind fun st =>
  if bars.length < 1000 ∧ st.2.2.length < 1000 then some (bars ++ st.2.2.reverse, st.2.1) else none
def eG (p : Row × List Int) : D := .tuple [eR p.1, eS p.2]
theorem tupS_eR {l m : Row} (h : l.length < 5000 ∧ m.length < 5000) : (if ((l.map eP) ++ ((m.map eP) ++ [])).length ≤ 10000 then some (PyData.tuple ((l.map eP) ++ ((m.map eP) ++ []))) else none) = some (eR (l ++ m)) := by
  rw [List.append_nil, if_pos (by rw [List.length_append, List.length_map, List.length_map]; omega), ← List.map_append]
  rfl
theorem behind_x {bars : Row} {left share : List Int} {start : Int} {out : Row × List Int} (h : behindM bars left start share = some out) : F_behind_share [eR bars, eS left, .int start, eS share] = some (eG out) := by
  obtain ⟨st, h1, h2⟩ := Dl.bind_some' h
  split at h2
  case isFalse => cases h2
  rename_i hg
  cases h2
  generalize hlast : ((left.length : Int) - 1) = last at h1
  obtain ⟨ρ', h3, y8, y9, h4⟩ := forGo_opt (T := gT [gN 8, gN 9]) (b := (sSeq (sAug 7 (fun i j => i + j) (mN 9))
  (sSeq (sAugL 4 (fun i j => i - j) (mB dSub (mN 5) (mN 8)) (mN 7))
  (sIf (qVal (mB dGt (mN 9) (mC (.int 0)))) (sApp 6 (mTup (aC (mTup (aC (mN 2) (aC (mB dSub (mN 5) (mN 8)) (aN)))) (aC (mN 9) (aN))))) (sNil))))) (fun p : Int × Nat => .tuple [.int ((p.2 : Nat) : Int), .int p.1])
    (fun (st : BSt) ρ => ∃ x8 x9, ρ = [.val (eR bars), .val (eS left), .val (.int start), .val (eS share), .own (.list (st.2.1.map PyData.int)), .val (.int last), .own (.list (st.2.2.map eP)), .val (.int st.1), x8, x9])
    (behindStep start last) share.zipIdx (fun p hp s s' ρ hI hs => by
      obtain ⟨x8, x9, rfl⟩ := hI
      obtain ⟨v, i⟩ := p
      obtain ⟨held, rest, more⟩ := s
      unfold behindStep at hs
      simp only at hs
      have hi : ∃ j : Int, (i : Int) = j := ⟨_, rfl⟩
      obtain ⟨j, hj⟩ := hi
      simp only [hj] at hs
      split at hs
      case isFalse => cases hs
      rename_i h0
      obtain ⟨a, ha, hs⟩ := Dl.bind_some' hs
      have e1 : sAug 7 (fun i j => i + j) (mN 9) [.val (eR bars), .val (eS left), .val (.int start), .val (eS share), .own (.list (rest.map PyData.int)), .val (.int last), .own (.list (more.map eP)), .val (.int held), .val (.int j), .val (.int v)]
        = some (.nx [.val (eR bars), .val (eS left), .val (.int start), .val (eS share), .own (.list (rest.map PyData.int)), .val (.int last), .own (.list (more.map eP)), .val (.int (held + v)), .val (.int j), .val (.int v)]) := rfl
      have e2 : sAugL 4 (fun i j => i - j) (mB dSub (mN 5) (mN 8)) (mN 7) [.val (eR bars), .val (eS left), .val (.int start), .val (eS share), .own (.list (rest.map PyData.int)), .val (.int last), .own (.list (more.map eP)), .val (.int (held + v)), .val (.int j), .val (.int v)]
        = some (.nx [.val (eR bars), .val (eS left), .val (.int start), .val (eS share), .own (.list ((rest.set (last - j).toNat (a - (held + v))).map PyData.int)), .val (.int last), .own (.list (more.map eP)), .val (.int (held + v)), .val (.int j), .val (.int v)]) := by
        have e3 : mB dSub (mN 5) (mN 8) [.val (eR bars), .val (eS left), .val (.int start), .val (eS share), .own (.list (rest.map PyData.int)), .val (.int last), .own (.list (more.map eP)), .val (.int (held + v)), .val (.int j), .val (.int v)] = some (.int (last - j)) := rfl
        have e4 : (rest.map PyData.int)[(last - j).toNat]? = some (.int a) := by rw [List.getElem?_map, ha]; rfl
        unfold sAugL
        rw [e3, Option.bind_some]
        show (if 0 ≤ last - j then _ else none) = _
        rw [if_pos h0]
        simp only [e4]
        rw [List.map_set]
        rfl
      by_cases hv : 0 < v
      · rw [if_pos hv] at hs
        split at hs
        case isFalse => cases hs
        rename_i hl
        cases hs
        refine ⟨[.val (eR bars), .val (eS left), .val (.int start), .val (eS share), .own (.list (rest.map PyData.int)), .val (.int last), .own (.list (more.map eP)), .val (.int held), .val (.int j), .val (.int v)], [.val (eR bars), .val (eS left), .val (.int start), .val (eS share), .own (.list ((rest.set (last - j).toNat (a - (held + v))).map PyData.int)), .val (.int last), .own (.list ((more ++ [((start, last - j), v)]).map eP)), .val (.int (held + v)), .val (.int j), .val (.int v)], by simp only [hj]; rfl, ?_, _, _, rfl⟩
        rw [sSeq, e1, Option.bind_some]
        show sSeq _ _ [.val (eR bars), .val (eS left), .val (.int start), .val (eS share), .own (.list (rest.map PyData.int)), .val (.int last), .own (.list (more.map eP)), .val (.int (held + v)), .val (.int j), .val (.int v)] = _
        rw [sSeq, e2, Option.bind_some]
        show (if decide (0 < v) = true then _ else _) = _
        rw [if_pos (decide_eq_true hv)]
        show (if (more.map eP).length < 16000000 then _ else none) = _
        rw [if_pos (by rw [List.length_map]; exact Nat.lt_trans hl (by decide)), List.map_append]
        rfl
      · rw [if_neg hv] at hs
        cases hs
        refine ⟨[.val (eR bars), .val (eS left), .val (.int start), .val (eS share), .own (.list (rest.map PyData.int)), .val (.int last), .own (.list (more.map eP)), .val (.int held), .val (.int j), .val (.int v)], [.val (eR bars), .val (eS left), .val (.int start), .val (eS share), .own (.list ((rest.set (last - j).toNat (a - (held + v))).map PyData.int)), .val (.int last), .own (.list (more.map eP)), .val (.int (held + v)), .val (.int j), .val (.int v)], by simp only [hj]; rfl, ?_, _, _, rfl⟩
        rw [sSeq, e1, Option.bind_some]
        show sSeq _ _ [.val (eR bars), .val (eS left), .val (.int start), .val (eS share), .own (.list (rest.map PyData.int)), .val (.int last), .own (.list (more.map eP)), .val (.int (held + v)), .val (.int j), .val (.int v)] = _
        rw [sSeq, e2, Option.bind_some]
        show (if decide (0 < v) = true then _ else _) = _
        rw [if_neg (by simpa using hv)]
        rfl) (0, left, []) st [.val (eR bars), .val (eS left), .val (.int start), .val (eS share), .own (.list (left.map PyData.int)), .val (.int last), .own (.list (([] : Row).map eP)), .val (.int 0), .un, .un] ⟨_, _, rfl⟩ h1
  subst h4
  have e7 : sPar [5, 6, 7] (pV (mB dSub (mF fLen (aC (mN 1) (aN))) (mC (.int 1))) (pO (mLst (aN)) (pV (mC (.int 0)) (pN)))) [.val (eR bars), .val (eS left), .val (.int start), .val (eS share), .un, .un, .un, .un, .un, .un] = some (.nx [.val (eR bars), .val (eS left), .val (.int start), .val (eS share), .un, .val (.int last), .own (.list []), .val (.int 0), .un, .un]) := by
    have : mB dSub (mF fLen (aC (mN 1) (aN))) (mC (.int 1)) [.val (eR bars), .val (eS left), .val (.int start), .val (eS share), .un, .un, .un, .un, .un, .un] = some (.int last) := by
      rw [← hlast]
      exact mB_sub (len_eS left) rfl
    simp only [sPar, pV, pO, pN, this, Option.bind_some]
    rfl
  have e8 : iE (aC (mN 3) (aN)) [.val (eR bars), .val (eS left), .val (.int start), .val (eS share), .own (.list (left.map PyData.int)), .val (.int last), .own (.list []), .val (.int 0), .un, .un] = some (share.zipIdx.map fun p : Int × Nat => .tuple [.int ((p.2 : Nat) : Int), .int p.1]) := by
    rw [← enum_ints share 0]
    rfl
  show (match sSeq _ _ [.val (eR bars), .val (eS left), .val (.int start), .val (eS share), .un, .un, .un, .un, .un, .un] with | some (.rt d) => some d | some (.nx _) => some .none | none => none) = _
  rw [sSeq, e7, Option.bind_some]
  show (match sSeq _ _ [.val (eR bars), .val (eS left), .val (.int start), .val (eS share), .own (.list (left.map PyData.int)), .val (.int last), .own (.list []), .val (.int 0), .un, .un] with | some (.rt d) => some d | some (.nx _) => some .none | none => none) = _
  rw [List.map_nil] at h3
  rw [sSeq, sFor, e8, Option.bind_some, h3, Option.bind_some]
  have e9 : mTupS (aS (mN 0) (aS (mU dRev (mN 6)) (aN))) [.val (eR bars), .val (eS left), .val (.int start), .val (eS share), .val (.list (st.2.1.map PyData.int)), .val (.int last), .val (.list (st.2.2.map eP)), .val (.int st.1), y8, y9] = some (eR (bars ++ st.2.2.reverse)) := by
    have := tupS_eR (l := bars) (m := st.2.2.reverse) ⟨by omega, by rw [List.length_reverse]; omega⟩
    rw [List.map_reverse] at this
    exact this
  show (match sRet (mTup (aC (mTupS (aS (mN 0) (aS (mU dRev (mN 6)) (aN)))) (aC (mF fTuple (aC (mN 4) (aN))) (aN)))) [.val (eR bars), .val (eS left), .val (.int start), .val (eS share), .val (.list (st.2.1.map PyData.int)), .val (.int last), .val (.list (st.2.2.map eP)), .val (.int st.1), y8, y9] with | some (.rt d) => some d | some (.nx _) => some .none | none => none) = _
  simp only [sRet, mTup, aC, e9, Option.bind_some]
  rfl
end Ar

end
section
set_option Elab.async false
set_option linter.all false
set_option maxRecDepth 100000
set_option maxHeartbeats 4000000
namespace Ar
open PySem Dl
abbrev RSt := List (Row × List Int)
def putShare (start : Int) (p : Row × List Int) (acc : RSt) (share : List Int) : Option RSt := (behindM p.1 p.2 start share).bind fun q => if acc.length < 1000 then some (acc ++ [q]) else none
def perFound (start last : Int) (acc : RSt) (p : Row × List Int) : Option RSt := (sharesM p.2 start last).bind fun ss => foldO (putShare start p) acc ss
def rowStep (last : Int) (found : RSt) (k : Nat) : Option RSt := foldO (perFound (k : Int) last) [] found
def rowsM (n : Nat) (sizes : List Int) : Option (List Row) := (foldO (rowStep ((n : Int) - 1)) [([], sizes)] (List.range n)).map fun found => found.map (·.1)
def bShare : En → Option Out := (sSeq (sApp 5 (mF F_behind_share (aC (mN 6) (aC (mN 7) (aC (mN 2) (aC (mN 8) (aN)))))))
  (sIf (qThaw 5 (qVal (mB dGt (mF fLen (aC (mN 5) (aN))) (mN 1)))) (sRet (mC .none)) (sNil)))
def bFound : En → Option Out := (sFor (iL (mF F_shares_of (aC (mN 7) (aC (mN 2) (aC (mN 3) (aN)))))) (gN 8) bShare)
def bStart : En → Option Out := (sSeq (sSetO 5 (mLst (aN)))
  (sSeq (sFor (iL (mN 4)) (gT [gN 6, gN 7]) bFound)
  (sFrz 5 (sSet 4 (mF fList (aC (mN 5) (aN)))))))
theorem few_l (most len : Int) (h : len ≤ most) : (decide (most < len)) = false := by
  rw [decide_eq_false_iff_not]
  omega
section
variable {sizes : List Int} {most last : Int} (hm : 1000 ≤ most)
include hm
theorem share_loop (start : Int) (p : Row × List Int) (x4 : Sl) : ∀ (ss : List (List Int)) (acc out : RSt) (x8 : Sl), foldO (putShare start p) acc ss = some out → ∃ y8, forGo (gN 8) bShare (ss.map eS) [.val (eS sizes), .val (.int most), .val (.int start), .val (.int last), x4, .own (.list (acc.map eG)), .val (eR p.1), .val (eS p.2), x8]
    = some (.nx [.val (eS sizes), .val (.int most), .val (.int start), .val (.int last), x4, .own (.list (out.map eG)), .val (eR p.1), .val (eS p.2), y8]) := fun ss acc out x8 h => by
  obtain ⟨ρ', h3, y8, h4⟩ := forGo_opt (T := gN 8) (b := bShare) eS (fun (acc : RSt) ρ => ∃ x8, ρ = [.val (eS sizes), .val (.int most), .val (.int start), .val (.int last), x4, .own (.list (acc.map eG)), .val (eR p.1), .val (eS p.2), x8])
    (putShare start p) ss (fun share hp s s' ρ hI hs => by
      obtain ⟨x8, rfl⟩ := hI
      obtain ⟨q, e1, hs⟩ := Dl.bind_some' hs
      split at hs
      case isFalse => cases hs
      rename_i hl
      cases hs
      refine ⟨[.val (eS sizes), .val (.int most), .val (.int start), .val (.int last), x4, .own (.list (s.map eG)), .val (eR p.1), .val (eS p.2), .val (eS share)], [.val (eS sizes), .val (.int most), .val (.int start), .val (.int last), x4, .own (.list ((s ++ [q]).map eG)), .val (eR p.1), .val (eS p.2), .val (eS share)], rfl, ?_, _, rfl⟩
      have e2 : mF F_behind_share (aC (mN 6) (aC (mN 7) (aC (mN 2) (aC (mN 8) (aN))))) [.val (eS sizes), .val (.int most), .val (.int start), .val (.int last), x4, .own (.list (s.map eG)), .val (eR p.1), .val (eS p.2), .val (eS share)] = some (eG q) := behind_x e1
      have e3 : sApp 5 (mF F_behind_share (aC (mN 6) (aC (mN 7) (aC (mN 2) (aC (mN 8) (aN)))))) [.val (eS sizes), .val (.int most), .val (.int start), .val (.int last), x4, .own (.list (s.map eG)), .val (eR p.1), .val (eS p.2), .val (eS share)] = some (.nx [.val (eS sizes), .val (.int most), .val (.int start), .val (.int last), x4, .own (.list ((s ++ [q]).map eG)), .val (eR p.1), .val (eS p.2), .val (eS share)]) := by
        unfold sApp
        rw [e2, Option.bind_some]
        show (if (s.map eG).length < 16000000 then _ else none) = _
        rw [if_pos (by rw [List.length_map]; exact Nat.lt_trans hl (by decide)), List.map_append]
        rfl
      have e4 : qThaw 5 (qVal (mB dGt (mF fLen (aC (mN 5) (aN))) (mN 1))) [.val (eS sizes), .val (.int most), .val (.int start), .val (.int last), x4, .own (.list ((s ++ [q]).map eG)), .val (eR p.1), .val (eS p.2), .val (eS share)] = some false := by
        have hlen : (((s ++ [q]).map eG).length : Int) ≤ most := by
          rw [List.length_map, List.length_append, List.length_singleton]
          omega
        have e5 : fLen [.list ((s ++ [q]).map eG)] = some (.int (((s ++ [q]).map eG).length : Nat)) := rfl
        simp only [qThaw, qVal, mB, mF, aC, aN, mN, List.getElem?_cons_zero, List.getElem?_cons_succ, Option.bind_some, List.set_cons_zero, List.set_cons_succ, e5, dGt_i, asB, few_l _ _ hlen]
      unfold bShare
      rw [sSeq, e3, Option.bind_some]
      show sIf _ _ _ [.val (eS sizes), .val (.int most), .val (.int start), .val (.int last), x4, .own (.list ((s ++ [q]).map eG)), .val (eR p.1), .val (eS p.2), .val (eS share)] = _
      rw [sIf, e4, Option.bind_some]
      rfl) acc out _ ⟨x8, rfl⟩ h
  exact ⟨y8, by rw [← h4]; exact h3⟩
theorem found_loop (start : Int) (hs : 0 ≤ start ∧ start < 1000) (hl : 0 ≤ last ∧ last < 1000) (found out : RSt) (x6 x7 x8 : Sl) (h : foldO (perFound start last) [] found = some out) : ∃ y6 y7 y8, forGo (gT [gN 6, gN 7]) bFound (found.map eG) [.val (eS sizes), .val (.int most), .val (.int start), .val (.int last), .val (.list (found.map eG)), .own (.list []), x6, x7, x8]
    = some (.nx [.val (eS sizes), .val (.int most), .val (.int start), .val (.int last), .val (.list (found.map eG)), .own (.list (out.map eG)), y6, y7, y8]) := by
  obtain ⟨ρ', h3, y6, y7, y8, h4⟩ := forGo_opt (T := gT [gN 6, gN 7]) (b := bFound) eG (fun (acc : RSt) ρ => ∃ x6 x7 x8, ρ = [.val (eS sizes), .val (.int most), .val (.int start), .val (.int last), .val (.list (found.map eG)), .own (.list (acc.map eG)), x6, x7, x8])
    (perFound start last) found (fun p hp s s' ρ hI hs' => by
      obtain ⟨x6, x7, x8, rfl⟩ := hI
      obtain ⟨ss, e1, hs'⟩ := Dl.bind_some' hs'
      obtain ⟨y8, e2⟩ := share_loop (sizes := sizes) (last := last) hm start p (.val (.list (found.map eG))) ss s s' x8 hs'
      refine ⟨[.val (eS sizes), .val (.int most), .val (.int start), .val (.int last), .val (.list (found.map eG)), .own (.list (s.map eG)), .val (eR p.1), .val (eS p.2), x8], [.val (eS sizes), .val (.int most), .val (.int start), .val (.int last), .val (.list (found.map eG)), .own (.list (s'.map eG)), .val (eR p.1), .val (eS p.2), y8], rfl, ?_, _, _, _, rfl⟩
      have e3 : iL (mF F_shares_of (aC (mN 7) (aC (mN 2) (aC (mN 3) (aN))))) [.val (eS sizes), .val (.int most), .val (.int start), .val (.int last), .val (.list (found.map eG)), .own (.list (s.map eG)), .val (eR p.1), .val (eS p.2), x8] = some (ss.map eS) := by
        show (F_shares_of [eS p.2, .int start, .int last]).bind _ = _
        rw [shares_x hs hl e1]
        rfl
      unfold bFound
      rw [sFor, e3, Option.bind_some, e2]) [] out _ ⟨x6, x7, x8, rfl⟩ h
  exact ⟨y6, y7, y8, by rw [← h4]; exact h3⟩
end
theorem rows_x {n : Nat} (hn : 1 ≤ n ∧ n ≤ 900) {sizes : List Int} {most : Int} (hm : 1000 ≤ most) (hlen : sizes.length = n) {rows : List Row} (h : rowsM n sizes = some rows) (hs : SortOkR rows) : F_rows_of_bars [eS sizes, .int most] = some (.list ((sortR rows).map eR)) := by
  obtain ⟨found, h1, rfl⟩ := Option.map_eq_some_iff.mp h
  have hl : (0 : Int) ≤ (n : Int) - 1 ∧ (n : Int) - 1 < 1000 := by omega
  have hlast : ∃ last, (n : Int) - 1 = last := ⟨_, rfl⟩
  obtain ⟨last, hlast⟩ := hlast
  rw [hlast] at hl h1
  obtain ⟨ρ', h3, y2, y5, y6, y7, y8, h4⟩ := forGo_opt (T := gN 2) (b := bStart) (fun k : Nat => PyData.int (0 + (k : Nat))) (fun (found : RSt) ρ => ∃ x2 x5 x6 x7 x8, ρ = [.val (eS sizes), .val (.int most), x2, .val (.int last), .val (.list (found.map eG)), x5, x6, x7, x8])
    (rowStep last) (List.range n) (fun k hk s s' ρ hI hs' => by
      obtain ⟨x2, x5, x6, x7, x8, rfl⟩ := hI
      have hk' := List.mem_range.mp hk
      have hst : (0 : Int) ≤ (k : Int) ∧ (k : Int) < 1000 := by omega
      unfold rowStep at hs'
      rw [Int.zero_add]
      generalize (k : Int) = start at hs' hst
      obtain ⟨y6, y7, y8, h5⟩ := found_loop (sizes := sizes) hm start hst hl s s' x6 x7 x8 hs'
      refine ⟨[.val (eS sizes), .val (.int most), .val (.int start), .val (.int last), .val (.list (s.map eG)), x5, x6, x7, x8], [.val (eS sizes), .val (.int most), .val (.int start), .val (.int last), .val (.list (s'.map eG)), .val (.list (s'.map eG)), y6, y7, y8], rfl, ?_, _, _, _, _, _, rfl⟩
      have e1 : sSetO 5 (mLst (aN)) [.val (eS sizes), .val (.int most), .val (.int start), .val (.int last), .val (.list (s.map eG)), x5, x6, x7, x8] = some (.nx [.val (eS sizes), .val (.int most), .val (.int start), .val (.int last), .val (.list (s.map eG)), .own (.list []), x6, x7, x8]) := rfl
      have e2 : iL (mN 4) [.val (eS sizes), .val (.int most), .val (.int start), .val (.int last), .val (.list (s.map eG)), .own (.list []), x6, x7, x8] = some (s.map eG) := rfl
      unfold bStart
      rw [sSeq, e1, Option.bind_some]
      show sSeq _ _ [.val (eS sizes), .val (.int most), .val (.int start), .val (.int last), .val (.list (s.map eG)), .own (.list []), x6, x7, x8] = _
      rw [sSeq, sFor, e2, Option.bind_some, h5]
      rfl) [([], sizes)] found [.val (eS sizes), .val (.int most), .un, .val (.int last), .val (.list ([(([] : Row), sizes)].map eG)), .un, .un, .un, .un] ⟨_, _, _, _, _, rfl⟩ h1
  subst h4
  have e5 := compGo_all (T := gT [gN 6, gN 7]) (f := mN 6) (ρ := [.val (eS sizes), .val (.int most), y2, .val (.int last), .val (.list (found.map eG)), y5, .un, .un, y8]) eG (fun p => eR p.1) found (fun p hp =>
    ⟨[.val (eS sizes), .val (.int most), y2, .val (.int last), .val (.list (found.map eG)), y5, .val (eR p.1), .val (eS p.2), y8], rfl, rfl⟩)
  have e7 : sPar [3, 4] (pV (mB dSub (mF fLen (aC (mN 0) (aN))) (mC (.int 1))) (pV (mLst (aC (mTup (aC (mTup (aN)) (aC (mN 0) (aN)))) (aN))) (pN))) [.val (eS sizes), .val (.int most), .un, .un, .un, .un, .un, .un, .un] = some (.nx [.val (eS sizes), .val (.int most), .un, .val (.int last), .val (.list ([(([] : Row), sizes)].map eG)), .un, .un, .un, .un]) := by
    have : mB dSub (mF fLen (aC (mN 0) (aN))) (mC (.int 1)) [.val (eS sizes), .val (.int most), .un, .un, .un, .un, .un, .un, .un] = some (.int last) := by
      rw [← hlast, ← hlen]
      exact mB_sub (len_eS sizes) rfl
    simp only [sPar, pV, pN, this, Option.bind_some]
    rfl
  have e8 : iR rg1 (aC (mF fLen (aC (mN 0) (aN))) (aN)) [.val (eS sizes), .val (.int most), .un, .val (.int last), .val (.list ([(([] : Row), sizes)].map eG)), .un, .un, .un, .un] = some ((List.range n).map fun k : Nat => PyData.int (0 + (k : Nat))) := by
    have := len_eS sizes
    simp only [iR, aC, aN, mF, mN, List.getElem?_cons_zero, Option.bind_some, this, hlen]
    have h9 := rg1_i (j := (n : Int)) (by omega)
    rw [Int.toNat_natCast] at h9
    exact h9
  show (match sSeq _ (sSeq (sFor _ _ bStart) _) [.val (eS sizes), .val (.int most), .un, .un, .un, .un, .un, .un, .un] with | some (.rt d) => some d | some (.nx _) => some .none | none => none) = _
  rw [sSeq, e7, Option.bind_some]
  show (match sSeq (sFor _ _ bStart) _ [.val (eS sizes), .val (.int most), .un, .val (.int last), .val (.list ([(([] : Row), sizes)].map eG)), .un, .un, .un, .un] with | some (.rt d) => some d | some (.nx _) => some .none | none => none) = _
  rw [sSeq, sFor, e8, Option.bind_some, h3, Option.bind_some]
  have e6 : mLc (iL (mN 4)) (gT [gN 6, gN 7]) (qYes) (mN 6) [6, 7] [.val (eS sizes), .val (.int most), y2, .val (.int last), .val (.list (found.map eG)), y5, y6, y7, y8] = some (.list ((found.map (·.1)).map eR)) := by
    show (compGo _ _ _ [.val (eS sizes), .val (.int most), y2, .val (.int last), .val (.list (found.map eG)), y5, .un, .un, y8] (found.map eG)).map _ = _
    rw [e5, List.map_map]
    rfl
  show (match sRet (mF fSorted (aC (mLc (iL (mN 4)) (gT [gN 6, gN 7]) (qYes) (mN 6) [6, 7]) (aN))) [.val (eS sizes), .val (.int most), y2, .val (.int last), .val (.list (found.map eG)), y5, y6, y7, y8] with | some (.rt d) => some d | some (.nx _) => some .none | none => none) = _
  rw [sRet, mF, aC, e6]
  show (match (fSorted [.list ((found.map (·.1)).map eR)]).map Out.rt with | some (.rt d) => some d | some (.nx _) => some .none | none => none) = _
  rw [sorted_eR hs]
  rfl
end Ar

end
section
set_option Elab.async false
set_option linter.all false
set_option maxRecDepth 100000
set_option maxHeartbeats 4000000
namespace Ar
open PySem Dl
def SzM (n : Nat) (s : List Int) : Prop := s.length = n ∧ ∀ x ∈ s, 0 ≤ x ∧ x ≤ 6
theorem is_rowM {n : Nat} (a : 1 ≤ n) (b : n ≤ 6) {s : List Int} (h : SzM n s) : F_is_row [eS s] = some (.bool true) := by
  have e1 := compGo_all (T := gN 1) (f := mAnd (mF F_is_whole (aC (mN 1) (aN))) (mCh2 dLe dLe (mC (.int 0)) (mN 1) (mC (.int 6)))) (ρ := [.val (eS s), .un]) PyData.int (fun _ => .bool true) s (fun x hx =>
    ⟨[.val (eS s), .val (.int x)], rfl, by
      have h1 := (h.2 x hx).1
      have h2 := (h.2 x hx).2
      simp only [mAnd, mCh2, mF, aC, aN, mN, mC, List.getElem?_cons_zero, List.getElem?_cons_succ, Option.bind_some, whole, dLe_i, h1, h2, decide_true]⟩)
  have e2 : mLc (iT (mN 0)) (gN 1) (qYes) (mAnd (mF F_is_whole (aC (mN 1) (aN))) (mCh2 dLe dLe (mC (.int 0)) (mN 1) (mC (.int 6)))) [1] [.val (eS s), .un] = some (.list (s.map fun _ => PyData.bool true)) := by
    show (compGo _ _ _ [.val (eS s), .un] (s.map PyData.int)).map _ = _
    rw [e1]
    rfl
  have e3 : qOr (qNot (qVal (mIsi (isT "tuple") (mN 0)))) (qNot (qVal (mCh2 dLe dLe (mC (.int 1)) (mF fLen (aC (mN 0) (aN))) (mC (.int 6))))) [.val (eS s), .un] = some false := by
    have q1 : mIsi (isT "tuple") (mN 0) [.val (eS s), .un] = some (.bool true) := by simp [mIsi, isT, eS, tyName, k3, mN]
    have q2 : (1 : Int) ≤ (s.length : Int) := by rw [h.1]; omega
    have q3 : (s.length : Int) ≤ 6 := by rw [h.1]; omega
    simp only [qOr, qNot, qVal, q1, Option.bind_some, asB, Option.map_some, Bool.not_true, Bool.false_eq_true, if_false, mCh2, mF, aC, aN, mN, mC, List.getElem?_cons_zero, len_eS, dLe_i, q2, q3, decide_true]
  show (match sSeq (sIf _ _ _) _ [.val (eS s), .un] with | some (.rt d) => some d | some (.nx _) => some .none | none => none) = _
  rw [sSeq, sIf, e3, Option.bind_some]
  show (match sRet _ [.val (eS s), .un] with | some (.rt d) => some d | some (.nx _) => some .none | none => none) = _
  rw [sRet, mF, aC, e2]
  show (match (fAll [.list (s.map fun _ => PyData.bool true)]).map Out.rt with | some (.rt d) => some d | some (.nx _) => some .none | none => none) = _
  rw [all_all]
  rfl
theorem req_sizes_x (F_is_row : List D → Option D) {d : D} (a1 : F_is_row [d] = some (.bool true)) : bodyF 1 (sIf (qNot (qVal (mF F_is_row (aC (mN 0) (aN))))) (sNever) (sNil)) [d] = some .none := by
  simp only [a1, bodyF, sSeq, sRet, sSet, sSetO, sIf, sNil, sDrop, sAsg, sPar, setAll, sFrz, frz, sApp, sExt, sAug, sAugL, pV, pO, pN, mN, mC, aC, aN, aS, mTup, mTupS, mLst, mB, mU, mF, mSl, mAnd, mOr, mCh2, mCh3, qVal, asB, qAnd, qOr, qNot, qYes, dAdd, dSub, dMul, dLt, dLe, dGt, dGe, fI, fIc, dIx, dNot, dNeg, dIsN, gT, gTs, gN, iR, iL, iT, iE, iI, iK, wipeE, fLen, items, fTuple, fList, List.map, List.replicate, List.length, List.cons_append, List.nil_append, List.getElem?_cons_zero, List.getElem?_cons_succ, Option.bind_some, Option.map_some, Option.map_none, Bool.not_true, Bool.not_false, Bool.false_eq_true, ↓reduceIte, decide_true, decide_false, List.set_cons_zero, List.set_cons_succ, Option.bind_none]
theorem req_sizesM {n : Nat} (a : 1 ≤ n) (b : n ≤ 6) {s : List Int} (h : SzM n s) : F_require_bar_sizes [eS s] = some .none := req_sizes_x _ (is_rowM a b h)
theorem bar_rows_x (F_req F_rows : List D → Option D) {d r : D} {xs : List D} (a1 : F_req [d] = some .none) (a2 : F_rows [d, .int 3000] = some r) (hr : r = .list xs) :
    bodyG 2 (sSeq (sDrop (mF F_req (aC (mN 0) (aN)))) (sSeq (sSet 1 (mF F_rows (aC (mN 0) (aC (mC (.int 3000)) (aN))))) (sIf (qVal (mB dIsN (mN 1) (mC .none))) (sNever) (sNil)))) (mN 1) [d] = some xs := by
  subst hr
  simp only [bodyG, sSeq, sDrop, sSet, sIf, sNil, mF, aC, aN, mN, mC, qVal, mB, List.map, List.length, List.replicate, List.cons_append, List.nil_append, List.getElem?_cons_zero, List.getElem?_cons_succ, List.set_cons_zero, List.set_cons_succ, Option.bind_some, Option.map_some, a1, a2, dIsN, asB, Bool.false_eq_true, if_false]
theorem bar_rowsM {n : Nat} (a : 1 ≤ n) (b : n ≤ 6) {s : List Int} (h : SzM n s) {rows : List Row} (hr : rowsM n s = some rows) (hs : SortOkR rows) : G_bar_rows [eS s] = some ((sortR rows).map eR) :=
  bar_rows_x F_require_bar_sizes F_rows_of_bars (req_sizesM a b h) (rows_x ⟨a, by omega⟩ (by decide) h.1 hr hs) rfl
/-! ### least sizes, the greatest row -/
def leastOf (s : List Int) (b : Bar) : Int := (minL (cutM s b.1 b.2)).getD 0
def leastM (n : Nat) (s : List Int) : Row := (barsM n).map fun b => (b, leastOf s b)
def greatestM (n : Nat) (s : List Int) : Row := byRanksM n (leastM n s)
theorem bars_ok {n : Nat} (a : 1 ≤ n) (b : n ≤ 4) : ∀ x ∈ barsM n, 0 ≤ x.1 ∧ x.1 ≤ x.2 ∧ x.2 < (n : Int) := by
  refine four (P := fun n => ∀ x ∈ barsM n, 0 ≤ x.1 ∧ x.1 ≤ x.2 ∧ x.2 < (n : Int)) ?_ ?_ ?_ ?_ a b <;> decide
theorem cut_some {s : List Int} {b : Bar} (h : 0 ≤ b.1 ∧ b.1 ≤ b.2 ∧ b.2 < (s.length : Int)) : minL (cutM s b.1 b.2) = some (leastOf s b) := by
  have : 0 < (cutM s b.1 b.2).length := by
    rw [cutM, List.length_take, List.length_drop]
    omega
  unfold leastOf
  cases hc : cutM s b.1 b.2 with
  | nil => rw [hc] at this; cases this
  | cons x l => rfl
theorem min_cut {s : List Int} {b : Bar} (h : 0 ≤ b.1 ∧ b.1 ≤ b.2 ∧ b.2 < (s.length : Int)) : (dSl (eS s) (.int b.1) (.int (b.2 + 1))).bind (fun d => fMin [d]) = some (.int (leastOf s b)) := by
  rw [sl_eS h.1 (by omega), Option.bind_some, fMin_eS (cut_some h)]
theorem dcGo_fold {T : TgF} {fk fv : En → Option D} {ρ : En} (f : Bar → Int) : ∀ (l : List Bar) (acc : Row), (∀ b ∈ l, ∃ ρ1, T (eB b) ρ = some ρ1 ∧ fk ρ1 = some (eB b) ∧ fv ρ1 = some (.int (f b))) →
    dcGo T fk fv ρ (l.map eB) (acc.map eE) = some ((l.foldl (fun acc b => putM acc b (f b)) acc).map eE)
  | [], acc, _ => rfl
  | b :: l, acc, h => by
    obtain ⟨ρ1, h1, h2, h3⟩ := h b List.mem_cons_self
    rw [List.map_cons]
    unfold dcGo
    rw [h1, Option.bind_some, h2, Option.bind_some, h3, Option.bind_some, dKey_eB, Option.bind_some, put_eC, dcGo_fold f l _ fun x hx => h x (List.mem_cons_of_mem _ hx)]
    rfl
theorem greatest_x (F_req F_bars_of F_by : List D → Option D) {n : Nat} (a : 1 ≤ n) (b : n ≤ 4) {s : List Int} (h : SzM n s) (a1 : F_req [eS s] = some .none) (a2 : F_bars_of [.int (n : Nat)] = some (.list ((barsM n).map eB))) (a3 : F_by [.int (n : Nat), eC (leastM n s)] = some (eR (greatestM n s))) :
    bodyF 4 (sSeq (sDrop (mF F_req (aC (mN 0) (aN))))
  (sSeq (sSet 1 (mF fLen (aC (mN 0) (aN))))
  (sRet (mF F_by (aC (mN 1) (aC (mDc (iL (mF F_bars_of (aC (mN 1) (aN)))) (gT [gN 2, gN 3]) (mTup (aC (mN 2) (aC (mN 3) (aN)))) (mF fMin (aC (mSl (mN 0) (mN 2) (mB dAdd (mN 3) (mC (.int 1)))) (aN))) [2, 3]) (aN))))))) [eS s] = some (eR (greatestM n s)) := by
  have e1 := dcGo_fold (T := gT [gN 2, gN 3]) (fk := mTup (aC (mN 2) (aC (mN 3) (aN)))) (fv := mF fMin (aC (mSl (mN 0) (mN 2) (mB dAdd (mN 3) (mC (.int 1)))) (aN))) (ρ := [.val (eS s), .val (.int (n : Nat)), .un, .un]) (leastOf s) (barsM n) [] fun b' hb =>
    ⟨[.val (eS s), .val (.int (n : Nat)), .val (.int b'.1), .val (.int b'.2)], rfl, rfl, by
      have := min_cut (s := s) (b := b') (by rw [h.1]; exact bars_ok a b b' hb)
      simpa only [mF, aC, aN, mSl, mB, mN, mC, List.getElem?_cons_zero, List.getElem?_cons_succ, Option.bind_some, dAdd_i, Option.bind_assoc] using this⟩
  have e2 : mDc (iL (mF F_bars_of (aC (mN 1) (aN)))) (gT [gN 2, gN 3]) (mTup (aC (mN 2) (aC (mN 3) (aN)))) (mF fMin (aC (mSl (mN 0) (mN 2) (mB dAdd (mN 3) (mC (.int 1)))) (aN))) [2, 3] [.val (eS s), .val (.int (n : Nat)), .un, .un] = some (eC (leastM n s)) := by
    have e3 : iL (mF F_bars_of (aC (mN 1) (aN))) [.val (eS s), .val (.int (n : Nat)), .un, .un] = some ((barsM n).map eB) := by
      show (F_bars_of [.int (n : Nat)]).bind _ = _
      rw [a2]
      rfl
    have hl : ((barsM n).map eB).length ≤ 1000000 := by
      rw [List.length_map]
      exact Nat.le_trans (bars_few a b) (by decide)
    unfold mDc
    rw [e3, Option.bind_some, if_pos hl]
    show (dcGo _ _ _ [.val (eS s), .val (.int (n : Nat)), .un, .un] _ (([] : Row).map eE)).map _ = _
    rw [e1, foldPut n (leastOf s) a b]
    rfl
  have e4 := len_eS s
  rw [h.1] at e4
  show (match sSeq (sDrop _) _ [.val (eS s), .un, .un, .un] with | some (.rt d) => some d | some (.nx _) => some .none | none => none) = _
  have e5 : sDrop (mF F_req (aC (mN 0) (aN))) [.val (eS s), .un, .un, .un] = some (.nx [.val (eS s), .un, .un, .un]) := by
    show ((F_req [eS s]).map _) = _
    rw [a1]
    rfl
  rw [sSeq, e5, Option.bind_some]
  show (match sSeq (sSet _ _) _ [.val (eS s), .un, .un, .un] with | some (.rt d) => some d | some (.nx _) => some .none | none => none) = _
  have e6 : sSet 1 (mF fLen (aC (mN 0) (aN))) [.val (eS s), .un, .un, .un] = some (.nx [.val (eS s), .val (.int (n : Nat)), .un, .un]) := by
    show ((fLen [eS s]).map _) = _
    rw [e4]
    rfl
  rw [sSeq, e6, Option.bind_some]
  show (match sRet _ [.val (eS s), .val (.int (n : Nat)), .un, .un] with | some (.rt d) => some d | some (.nx _) => some .none | none => none) = _
  have e7 : mF F_by (aC (mN 1) (aC (mDc (iL (mF F_bars_of (aC (mN 1) (aN)))) (gT [gN 2, gN 3]) (mTup (aC (mN 2) (aC (mN 3) (aN)))) (mF fMin (aC (mSl (mN 0) (mN 2) (mB dAdd (mN 3) (mC (.int 1)))) (aN))) [2, 3]) (aN))) [.val (eS s), .val (.int (n : Nat)), .un, .un] = some (eR (greatestM n s)) := by
    simp only [mF, aC, aN, e2, Option.bind_some]
    exact a3
  rw [sRet, e7]
  rfl
theorem greatestMM {n : Nat} (a : 1 ≤ n) (b : n ≤ 4) {s : List Int} (h : SzM n s) : F_greatest_bars [eS s] = some (eR (greatestM n s)) :=
  greatest_x F_require_bar_sizes F_bars_of F_bars_by_ranks a b h (req_sizesM a (by omega) h) (bars_ofM a b) (byRanks_x F_bars_of a b _ (bars_ofM a b) fun x hx => ⟨_, find_map (leastOf s) hx⟩)
/-! ### the least sizes as the law builds them; two tables alike -/
theorem alikeD_self : ∀ c : Row, alikeD (c.map eE) (c.map eE) = true
  | [] => rfl
  | p :: c => by
    show (decide (nk (eB p.1) = nk (eB p.1)) && decide (p.2 = p.2) && alikeD (c.map eE) (c.map eE)) = true
    rw [alikeD_self c, decide_eq_true rfl, decide_eq_true rfl]
    rfl
theorem neD_self (c : Row) : dNeD (eC c) (eC c) = some (.bool false) := by
  show (if alikeD (c.map eE) (c.map eE) = true then some (PyData.bool false) else none) = _
  rw [if_pos (alikeD_self c)]
theorem keys_map (l : List Bar) (f : Bar → Int) : (l.map fun b => (b, f b)).map (·.1) = l := by
  rw [List.map_map]
  exact List.map_id _
end Ar

end
section
set_option Elab.async false
set_option linter.all false
set_option maxRecDepth 100000
set_option maxHeartbeats 4000000
namespace Ar
open PySem Dl
def putAdd (c : Row) (b : Bar) (d : Int) : Row := putM c b (getM c b + d)
theorem putM_len2 (acc : Row) (b : Bar) (v : Int) : (putM acc b v).length ≤ acc.length + 1 := by
  unfold putM
  split
  · rw [List.length_map]; omega
  · rw [List.length_append]; exact Nat.le_refl _
theorem dputM {ix ch : En → Option D} {ρ : En} {c : Row} {b : Bar} {d : Int} (h5 : ρ[5]? = some (.own (eC c))) (hix : ix ρ = some (eB b)) (hix' : ix (ρ.set 5 (.val (eC c))) = some (eB b)) (hch : ch (ρ.set 5 (.val (eC c))) = some (.int d)) (hl : c.length < 1000000) :
    sDPut 5 ix (mThaw 5 (mB dAdd (mG2 (mN 5) ix (mC (.int 0))) ch)) ρ = some (.nx (ρ.set 5 (.own (eC (putAdd c b d))))) := by
  have e1 : mN 5 (ρ.set 5 (.val (eC c))) = some (eC c) := by
    have hlen : 5 < ρ.length := (List.getElem?_eq_some_iff.mp h5).1
    have : (ρ.set 5 (.val (eC c)))[5]? = some (.val (eC c)) := by
      rw [List.getElem?_set]
      simp [hlen]
    unfold mN
    rw [this]
  have e2 := g2M (a := mN 5) (b := ix) e1 hix'
  have e3 : mThaw 5 (mB dAdd (mG2 (mN 5) ix (mC (.int 0))) ch) ρ = some (.int (getM c b + d)) := by
    unfold mThaw
    rw [h5]
    show ((mB dAdd (mG2 (mN 5) ix (mC (.int 0))) ch (ρ.set 5 (.val (eC c)))).bind _) = _
    unfold mB
    rw [e2, Option.bind_some, hch]
    rfl
  unfold sDPut
  rw [e3, Option.bind_some, hix, Option.bind_some, dKey_eB, Option.bind_some, h5]
  show (if (c.map eE).length < 1000000 then _ else none) = _
  rw [if_pos (by rw [List.length_map]; exact hl), put_eC]
  rfl
def moreM (row : Row) (one other : Bar) : Row :=
  if other.1 ≤ one.2 then putAdd (putAdd (putAdd (putAdd row one (-1)) other (-1)) (one.1, other.2) 1) (other.1, one.2) 1 else putAdd (putAdd (putAdd row one (-1)) other (-1)) (one.1, other.2) 1
def stepOther (row : Row) (one : Bar) (acc : List Row) (other : Bar) : Option (List Row) :=
  if extM one other = 1 then (if KeysOk (moreM row one other) ∧ acc.length < 1000 then some (acc ++ [told (moreM row one other)]) else none) else some acc
def stepOne (row : Row) (acc : List Row) (one : Bar) : Option (List Row) := foldO (stepOther row one) acc (sortBM (row.map (·.1)))
def stepsM (row : Row) : Option (List Row) := if KeysOk row ∧ row.length < 1000 then foldO (stepOne row) [] (sortBM (row.map (·.1))) else none
def bThree : En → Option Out := (sFor (iL (mLst (aC (mTup (aC (mN 1) (aC (mU dNeg (mC (.int 1))) (aN)))) (aC (mTup (aC (mN 4) (aC (mU dNeg (mC (.int 1))) (aN)))) (aC (mTup (aC (mTup (aC (mB dIx (mN 1) (mC (.int 0))) (aC (mB dIx (mN 4) (mC (.int 1))) (aN)))) (aC (mC (.int 1)) (aN)))) (aN)))))) (gT [gN 6, gN 7]) (sDPut 5 (mN 6) (mThaw 5 (mB dAdd (mG2 (mN 5) (mN 6) (mC (.int 0))) (mN 7)))))
def bFour : En → Option Out := (sIf (qVal (mB dLe (mB dIx (mN 4) (mC (.int 0))) (mB dIx (mN 1) (mC (.int 1))))) (sDPut 5 (mTup (aC (mB dIx (mN 4) (mC (.int 0))) (aC (mB dIx (mN 1) (mC (.int 1))) (aN)))) (mThaw 5 (mB dAdd (mG2 (mN 5) (mTup (aC (mB dIx (mN 4) (mC (.int 0))) (aC (mB dIx (mN 1) (mC (.int 1))) (aN)))) (mC (.int 0))) (mC (.int 1))))) (sNil))
def bOther (F_ext F_told : List D → Option D) : En → Option Out := (sIf (qVal (mB dEq (mF F_ext (aC (mN 1) (aC (mN 4) (aN)))) (mC (.int 1)))) (sSeq (sSetO 5 (mF fDictL (aC (mU dItems (mN 3)) (aN))))
  (sSeq bThree
  (sSeq bFour
  (sFrz 5 (sApp 2 (mF F_told (aC (mN 5) (aN)))))))) (sNil))
theorem threeM {x0 x2 x3 x6 x7 x8 : Sl} {row : Row} {one other : Bar} (hl : row.length < 1000) : ∃ y6 y7, bThree [x0, .val (eB one), x2, x3, .val (eB other), .own (eC row), x6, x7, x8]
    = some (.nx [x0, .val (eB one), x2, x3, .val (eB other), .own (eC (putAdd (putAdd (putAdd row one (-1)) other (-1)) (one.1, other.2) 1)), y6, y7, x8]) := by
  have p1 : ∀ (c : Row) (b : Bar) (d : Int), (putAdd c b d).length ≤ c.length + 1 := fun c b d => putM_len2 _ _ _
  have st : ∀ (c : Row) (b : Bar) (d : Int), c.length < 1000000 → sDPut 5 (mN 6) (mThaw 5 (mB dAdd (mG2 (mN 5) (mN 6) (mC (.int 0))) (mN 7))) [x0, .val (eB one), x2, x3, .val (eB other), .own (eC c), .val (eB b), .val (.int d), x8] = some (.nx [x0, .val (eB one), x2, x3, .val (eB other), .own (eC (putAdd c b d)), .val (eB b), .val (.int d), x8]) := fun c b d hl => dputM rfl rfl rfl rfl hl
  have e1 : iL (mLst (aC (mTup (aC (mN 1) (aC (mU dNeg (mC (.int 1))) (aN)))) (aC (mTup (aC (mN 4) (aC (mU dNeg (mC (.int 1))) (aN)))) (aC (mTup (aC (mTup (aC (mB dIx (mN 1) (mC (.int 0))) (aC (mB dIx (mN 4) (mC (.int 1))) (aN)))) (aC (mC (.int 1)) (aN)))) (aN))))) [x0, .val (eB one), x2, x3, .val (eB other), .own (eC row), x6, x7, x8]
    = some [.tuple [eB one, .int (-1)], .tuple [eB other, .int (-1)], .tuple [eB (one.1, other.2), .int 1]] := rfl
  refine ⟨.val (eB (one.1, other.2)), .val (.int 1), ?_⟩
  unfold bThree
  rw [sFor, e1, Option.bind_some]
  unfold forGo
  show (sDPut 5 _ _ [x0, .val (eB one), x2, x3, .val (eB other), .own (eC row), .val (eB one), .val (.int (-1)), x8]).bind _ = _
  rw [st _ _ _ (by omega), Option.bind_some]
  show forGo _ _ _ [x0, .val (eB one), x2, x3, .val (eB other), .own (eC (putAdd row one (-1))), .val (eB one), .val (.int (-1)), x8] = _
  unfold forGo
  show (sDPut 5 _ _ [x0, .val (eB one), x2, x3, .val (eB other), .own (eC (putAdd row one (-1))), .val (eB other), .val (.int (-1)), x8]).bind _ = _
  rw [st _ _ _ (by have := p1 row one (-1); omega), Option.bind_some]
  show forGo _ _ _ [x0, .val (eB one), x2, x3, .val (eB other), .own (eC (putAdd (putAdd row one (-1)) other (-1))), .val (eB other), .val (.int (-1)), x8] = _
  unfold forGo
  show (sDPut 5 _ _ [x0, .val (eB one), x2, x3, .val (eB other), .own (eC (putAdd (putAdd row one (-1)) other (-1))), .val (eB (one.1, other.2)), .val (.int 1), x8]).bind _ = _
  rw [st _ _ _ (by have := p1 row one (-1); have := p1 (putAdd row one (-1)) other (-1); omega), Option.bind_some]
  rfl
theorem fourM {x0 x2 x3 x6 x7 x8 : Sl} {c : Row} {one other : Bar} (hl : c.length < 1000000) : bFour [x0, .val (eB one), x2, x3, .val (eB other), .own (eC c), x6, x7, x8]
    = some (.nx [x0, .val (eB one), x2, x3, .val (eB other), .own (eC (if other.1 ≤ one.2 then putAdd c (other.1, one.2) 1 else c)), x6, x7, x8]) := by
  unfold bFour
  have e1 : qVal (mB dLe (mB dIx (mN 4) (mC (.int 0))) (mB dIx (mN 1) (mC (.int 1)))) [x0, .val (eB one), x2, x3, .val (eB other), .own (eC c), x6, x7, x8] = some (decide (other.1 ≤ one.2)) := rfl
  rw [sIf, e1, Option.bind_some]
  by_cases h : other.1 ≤ one.2
  · rw [if_pos (decide_eq_true h), if_pos h]
    exact dputM (b := (other.1, one.2)) rfl rfl rfl rfl hl
  · rw [if_neg (by simpa using h), if_neg h]
    rfl
theorem otherM (F_ext F_told : List D → Option D) (a1 : ∀ a b, F_ext [eB a, eB b] = some (.int (extM a b))) (a2 : ∀ {c}, KeysOk c → F_told [eC c] = some (eR (told c))) {row : Row} (hk : KeysOk row) (hl : row.length < 1000) {one other : Bar} {acc acc' : List Row} {x0 x5 x6 x7 x8 : Sl}
    (h : stepOther row one acc other = some acc') : ∃ y5 y6 y7, bOther F_ext F_told [x0, .val (eB one), .own (.list (acc.map eR)), .val (eC row), .val (eB other), x5, x6, x7, x8] = some (.nx [x0, .val (eB one), .own (.list (acc'.map eR)), .val (eC row), .val (eB other), y5, y6, y7, x8]) := by
  have e1 : qVal (mB dEq (mF F_ext (aC (mN 1) (aC (mN 4) (aN)))) (mC (.int 1))) [x0, .val (eB one), .own (.list (acc.map eR)), .val (eC row), .val (eB other), x5, x6, x7, x8] = some (decide (extM one other = 1)) := by
    simp only [qVal, mB, mF, aC, aN, mN, mC, List.getElem?_cons_zero, List.getElem?_cons_succ, Option.bind_some, a1, dEq_int, asB]
  unfold stepOther at h
  unfold bOther
  rw [sIf, e1, Option.bind_some]
  by_cases he : extM one other = 1
  · rw [if_pos he] at h
    split at h
    case isFalse => cases h
    rename_i hg
    cases h
    rw [if_pos (decide_eq_true he)]
    have e2 : sSetO 5 (mF fDictL (aC (mU dItems (mN 3)) (aN))) [x0, .val (eB one), .own (.list (acc.map eR)), .val (eC row), .val (eB other), x5, x6, x7, x8] = some (.nx [x0, .val (eB one), .own (.list (acc.map eR)), .val (eC row), .val (eB other), .own (eC row), x6, x7, x8]) := by
      have := copyM hk.1 (show row.length ≤ 1000000 by omega)
      have e : mF fDictL (aC (mU dItems (mN 3)) (aN)) [x0, .val (eB one), .own (.list (acc.map eR)), .val (eC row), .val (eB other), x5, x6, x7, x8] = some (eC row) := by
        simp only [mF, aC, aN, mU, mN, List.getElem?_cons_zero, List.getElem?_cons_succ, Option.bind_some] at this ⊢
        simpa only [Option.bind_assoc, Option.bind_some] using this
      unfold sSetO
      rw [e]
      rfl
    obtain ⟨y6, y7, e3⟩ := threeM (x0 := x0) (x2 := .own (.list (acc.map eR))) (x3 := .val (eC row)) (x6 := x6) (x7 := x7) (x8 := x8) (one := one) (other := other) hl
    have hl3 : (putAdd (putAdd (putAdd row one (-1)) other (-1)) (one.1, other.2) 1).length < 1000000 := by
      have h1 := putM_len2 row one (getM row one + -1)
      have h2 := putM_len2 (putAdd row one (-1)) other (getM (putAdd row one (-1)) other + -1)
      have h3 := putM_len2 (putAdd (putAdd row one (-1)) other (-1)) (one.1, other.2) (getM (putAdd (putAdd row one (-1)) other (-1)) (one.1, other.2) + 1)
      unfold putAdd at h2 h3 ⊢
      omega
    have e4 := fourM (x0 := x0) (x2 := .own (.list (acc.map eR))) (x3 := .val (eC row)) (x6 := y6) (x7 := y7) (x8 := x8) (one := one) (other := other) hl3
    refine ⟨.val (eC (moreM row one other)), y6, y7, ?_⟩
    rw [sSeq, e2, Option.bind_some]
    show sSeq bThree _ [x0, .val (eB one), .own (.list (acc.map eR)), .val (eC row), .val (eB other), .own (eC row), x6, x7, x8] = _
    rw [sSeq, e3, Option.bind_some]
    show sSeq bFour _ _ = _
    rw [sSeq, e4, Option.bind_some]
    show sApp 2 _ [x0, .val (eB one), .own (.list (acc.map eR)), .val (eC row), .val (eB other), .val (eC (moreM row one other)), y6, y7, x8] = _
    have e5 : mF F_told (aC (mN 5) (aN)) [x0, .val (eB one), .own (.list (acc.map eR)), .val (eC row), .val (eB other), .val (eC (moreM row one other)), y6, y7, x8] = some (eR (told (moreM row one other))) := a2 hg.1
    unfold sApp
    rw [e5, Option.bind_some]
    show (if (acc.map eR).length < 16000000 then _ else none) = _
    rw [if_pos (by rw [List.length_map]; exact Nat.lt_trans hg.2 (by decide)), List.map_append]
    rfl
  · rw [if_neg he] at h
    cases h
    rw [if_neg (by simpa using he)]
    exact ⟨x5, x6, x7, rfl⟩
theorem steps_x (F_ext F_told : List D → Option D) (a1 : ∀ a b, F_ext [eB a, eB b] = some (.int (extM a b))) (a2 : ∀ {c}, KeysOk c → F_told [eC c] = some (eR (told c))) {row : Row} {out : List Row} (h : stepsM row = some out) :
    bodyF 9 (sSeq (sPar [2, 3] (pO (mLst (aN)) (pV (mF fDictL (aC (mLc (iT (mN 0)) (gT [gN 6, gN 8]) (qYes) (mTup (aC (mN 6) (aC (mN 8) (aN)))) [6, 8]) (aN))) (pN))))
  (sSeq (sFor (iL (mF fSortedD (aC (mN 3) (aN)))) (gN 1) (sFor (iL (mF fSortedD (aC (mN 3) (aN)))) (gN 4) (bOther F_ext F_told)))
  (sFrz 2 (sRet (mN 2))))) [eR row] = some (.list (out.map eR)) := by
  unfold stepsM at h
  split at h
  case isFalse => cases h
  rename_i hg
  have inner : ∀ (one : Bar) (acc acc' : List Row) (x4 x5 x6 x7 : Sl), stepOne row acc one = some acc' → ∃ y4 y5 y6 y7, forGo (gN 4) (bOther F_ext F_told) ((sortBM (row.map (·.1))).map eB) [.val (eR row), .val (eB one), .own (.list (acc.map eR)), .val (eC row), x4, x5, x6, x7, .un]
      = some (.nx [.val (eR row), .val (eB one), .own (.list (acc'.map eR)), .val (eC row), y4, y5, y6, y7, .un]) := fun one acc acc' x4 x5 x6 x7 hb => by
    obtain ⟨ρ', h3, y4, y5, y6, y7, h4⟩ := forGo_opt (T := gN 4) (b := bOther F_ext F_told) eB (fun (acc : List Row) ρ => ∃ x4 x5 x6 x7, ρ = [.val (eR row), .val (eB one), .own (.list (acc.map eR)), .val (eC row), x4, x5, x6, x7, .un])
      (stepOther row one) (sortBM (row.map (fun p : Bar × Int => p.1))) (fun other ho s s' ρ hI hs => by
        obtain ⟨x4, x5, x6, x7, rfl⟩ := hI
        obtain ⟨y5, y6, y7, e1⟩ := otherM F_ext F_told a1 a2 hg.1 hg.2 (x0 := .val (eR row)) (x5 := x5) (x6 := x6) (x7 := x7) (x8 := .un) hs
        exact ⟨_, _, rfl, e1, _, _, _, _, rfl⟩) acc acc' _ ⟨x4, x5, x6, x7, rfl⟩ hb
    exact ⟨y4, y5, y6, y7, by rw [← h4]; exact h3⟩
  have eI : ∀ (x1 x2 x4 x5 x6 x7 : Sl), iL (mF fSortedD (aC (mN 3) (aN))) [.val (eR row), x1, x2, .val (eC row), x4, x5, x6, x7, .un] = some ((sortBM (row.map (·.1))).map eB) := fun x1 x2 x4 x5 x6 x7 => by
    show (fSortedD [eC row]).bind _ = _
    rw [sortedD_eC hg.1]
    rfl
  obtain ⟨ρ', h3, y1, y4, y5, y6, y7, h4⟩ := forGo_opt (T := gN 1) (b := sFor (iL (mF fSortedD (aC (mN 3) (aN)))) (gN 4) (bOther F_ext F_told)) eB (fun (acc : List Row) ρ => ∃ x1 x4 x5 x6 x7, ρ = [.val (eR row), x1, .own (.list (acc.map eR)), .val (eC row), x4, x5, x6, x7, .un])
    (stepOne row) (sortBM (row.map (fun p : Bar × Int => p.1))) (fun one ho s s' ρ hI hs => by
      obtain ⟨x1, x4, x5, x6, x7, rfl⟩ := hI
      obtain ⟨y4, y5, y6, y7, e1⟩ := inner one s s' x4 x5 x6 x7 hs
      refine ⟨[.val (eR row), .val (eB one), .own (.list (s.map eR)), .val (eC row), x4, x5, x6, x7, .un], [.val (eR row), .val (eB one), .own (.list (s'.map eR)), .val (eC row), y4, y5, y6, y7, .un], rfl, ?_, _, _, _, _, _, rfl⟩
      rw [sFor, eI, Option.bind_some]
      exact e1) [] out [.val (eR row), .un, .own (.list (([] : List Row).map eR)), .val (eC row), .un, .un, .un, .un, .un] ⟨_, _, _, _, _, rfl⟩ h
  subst h4
  have e2 : mF fDictL (aC (mLc (iT (mN 0)) (gT [gN 6, gN 8]) (qYes) (mTup (aC (mN 6) (aC (mN 8) (aN)))) [6, 8]) (aN)) [.val (eR row), .un, .un, .un, .un, .un, .un, .un, .un] = some (eC row) := by
    have e3 := compGo_all (T := gT [gN 6, gN 8]) (f := mTup (aC (mN 6) (aC (mN 8) (aN)))) (ρ := [.val (eR row), .un, .un, .un, .un, .un, .un, .un, .un]) eP (fun p => pairD (eE p)) row fun p hp =>
      ⟨[.val (eR row), .un, .un, .un, .un, .un, .val (eB p.1), .un, .val (.int p.2)], rfl, rfl⟩
    have e4 : mLc (iT (mN 0)) (gT [gN 6, gN 8]) (qYes) (mTup (aC (mN 6) (aC (mN 8) (aN)))) [6, 8] [.val (eR row), .un, .un, .un, .un, .un, .un, .un, .un] = some (.list (row.map fun p => pairD (eE p))) := by
      show (compGo _ _ _ [.val (eR row), .un, .un, .un, .un, .un, .un, .un, .un] (row.map eP)).map _ = _
      rw [e3]
      rfl
    simp only [mF, aC, aN, e4, Option.bind_some]
    exact dict_pairs hg.1.1 (by omega) rfl
  have e7 : sPar [2, 3] (pO (mLst (aN)) (pV (mF fDictL (aC (mLc (iT (mN 0)) (gT [gN 6, gN 8]) (qYes) (mTup (aC (mN 6) (aC (mN 8) (aN)))) [6, 8]) (aN))) (pN))) [.val (eR row), .un, .un, .un, .un, .un, .un, .un, .un] = some (.nx [.val (eR row), .un, .own (.list (([] : List Row).map eR)), .val (eC row), .un, .un, .un, .un, .un]) := by
    simp only [sPar, pO, pV, pN, e2, Option.bind_some]
    rfl
  show (match sSeq _ _ [.val (eR row), .un, .un, .un, .un, .un, .un, .un, .un] with | some (.rt d) => some d | some (.nx _) => some .none | none => none) = _
  rw [sSeq, e7, Option.bind_some]
  show (match sSeq (sFor _ _ _) _ [.val (eR row), .un, .own (.list (([] : List Row).map eR)), .val (eC row), .un, .un, .un, .un, .un] with | some (.rt d) => some d | some (.nx _) => some .none | none => none) = _
  rw [sSeq, sFor, eI, Option.bind_some, h3, Option.bind_some]
  rfl
theorem stepsMM {row : Row} {out : List Row} (h : stepsM row = some out) : F_law_steps [eR row] = some (.list (out.map eR)) := steps_x F_law_bb_ext F_law_bb_told bb_extM told_x h
end Ar

end
section
set_option Elab.async false
set_option linter.all false
set_option maxRecDepth 100000
set_option maxHeartbeats 4000000
namespace Ar
open PySem Dl
/-! ### rows as keys -/
def keyR (r : Row) : NestedKey := .tup (r.map fun p => .tup [keyB p.1, .num p.2])
theorem nks_eP : ∀ r : Row, nks (r.map eP) = some (r.map fun p => .tup [keyB p.1, .num p.2])
  | [] => by simp [nks]
  | p :: r => by
    have h1 : nk (eP p) = some (.tup [keyB p.1, .num p.2]) := rfl
    simp only [List.map_cons, nks, h1, nks_eP r, Option.bind_some, Option.map_some]
theorem nk_eR (r : Row) : nk (eR r) = some (keyR r) := by
  rw [eR, nk, nks_eP]
  rfl
theorem eP_inj {p q : Bar × Int} (h : eP p = eP q) : p = q := by
  obtain ⟨⟨x, y⟩, m⟩ := p
  obtain ⟨⟨z, t⟩, k⟩ := q
  simp only [eP, eB, PyData.tuple.injEq, PyData.int.injEq, List.cons.injEq, and_true] at h
  obtain ⟨⟨h1, h2⟩, h3⟩ := h
  rw [h1, h2, h3]
theorem eR_inj {r r' : Row} (h : eR r = eR r') : r = r' := by
  have : r.map eP = r'.map eP := by
    simpa only [eR, PyData.tuple.injEq] using h
  exact (List.map_inj_right fun _ _ => eP_inj).mp this
theorem keyR_inj {r r' : Row} : nk (eR r) = some (keyR r') ↔ r = r' := by
  constructor
  · intro h
    rw [← nk_eR] at h
    rw [nk_eR, nk_eR] at h
    have h1 := data_nk _ _ (nk_eR r)
    have h2 := data_nk _ _ (nk_eR r')
    rw [Option.some.inj h] at h1
    exact eR_inj (h1.symm.trans h2)
  · rintro rfl
    exact nk_eR _
theorem kdepth_eP (p : Bar × Int) : NestedKey.depth (.tup [keyB p.1, .num p.2]) = 2 := by simp [keyB, NestedKey.depth, NestedKey.depthAll]
theorem kdepthAll : ∀ r : Row, NestedKey.depthAll (r.map fun p => .tup [keyB p.1, .num p.2]) ≤ 2
  | [] => Nat.zero_le _
  | p :: r => by
    simp only [List.map_cons, NestedKey.depthAll, kdepth_eP]
    exact Nat.max_le.mpr ⟨Nat.le_refl _, kdepthAll r⟩
theorem dKey_eR (r : Row) : dKey (eR r) = some (keyR r) := by
  unfold dKey
  rw [nk_eR, Option.bind_some]
  show (if (keyR r).depth ≤ 8 then some (keyR r) else none) = _
  rw [if_pos]
  simp only [keyR, NestedKey.depth]
  have := kdepthAll r
  omega
def eK (l : List Row) : D := .dict (l.map fun r => (eR r, .bool true))
theorem find_eK (r : Row) : ∀ l : List Row, (dFind (l.map fun r => (eR r, PyData.bool true)) (keyR r)).isSome = decide (r ∈ l)
  | [] => by simp [dFind]
  | a :: l => by
    rw [List.map_cons]
    unfold dFind
    by_cases h : a = r
    · rw [if_pos (keyR_inj.mpr h)]
      simp [h]
    · rw [if_neg fun z => h (keyR_inj.mp z), find_eK r l]
      have : ¬ r = a := fun z => h z.symm
      simp [this]
theorem put_eK {l : List Row} {r : Row} (h : r ∉ l) : dPutP (l.map fun r => (eR r, PyData.bool true)) (eR r) (keyR r) (.bool true) = (l ++ [r]).map fun r => (eR r, PyData.bool true) := by
  unfold dPutP
  rw [if_neg (by rw [find_eK]; simpa using h), List.map_append]
  rfl
theorem in_eK (r : Row) (l : List Row) : dDIn (eR r) (eK l) = some (.bool (decide (r ∈ l))) := by
  show (dKey (eR r)).map _ = _
  rw [dKey_eR, Option.map_some, find_eK]
theorem notin_eK (r : Row) (l : List Row) : dDNotIn (eR r) (eK l) = some (.bool (!decide (r ∈ l))) := by
  show (dKey (eR r)).map _ = _
  rw [dKey_eR, Option.map_some, find_eK]
theorem lay_eR (r : Row) : (eR r).canLay0 = true := by simp [eR, PyData.canLay0, layAll_eP]
theorem layAll_eR (l : List Row) : PyData.canLayAll0 (l.map eR) = true := by
  induction l with
  | nil => rfl
  | cons r l ih => simp [PyData.canLayAll0, lay_eR, ih]
theorem depth_eR (r : Row) : (eR r).depth ≤ 3 := by
  simp only [eR, PyData.depth]
  exact Nat.succ_le_succ (depthAll_eP r)
theorem depthAll_eR (l : List Row) : PyData.depthAll (l.map eR) ≤ 3 := by
  induction l with
  | nil => exact Nat.zero_le _
  | cons r l ih =>
    simp only [List.map_cons, PyData.depthAll]
    exact Nat.max_le.mpr ⟨depth_eR r, ih⟩
theorem shaped_rows (l : List Row) : SeqAt.shaped (.list (l.map eR)) = true := by
  simp only [SeqAt.shaped, PyData.canLay0, layAll_eR, PyData.depth, Bool.true_and]
  exact decide_eq_true (Nat.le_trans (Nat.succ_le_succ (depthAll_eR l)) (show 4 ≤ 64 by decide))
theorem ne_nil (l : List Row) : dNe (.list (l.map eR)) (.list []) = some (.bool (!l.isEmpty)) := by
  have e1 : PyData.eqv (.list (l.map eR)) (.list []) = l.isEmpty := by
    cases l with
    | nil => simp [PyData.eqv, PyData.eqvAll]
    | cons r l => simp [PyData.eqv, PyData.eqvAll]
  have e2 : SeqAt.shaped (.list ([] : List D)) = true := shaped_rows []
  simp only [dNe, shaped_rows, e1, e2, Bool.and_self, if_true]
/-! ### what is reached -/
abbrev WSt := List Row × List Row
def visit (st : WSt) (more : Row) : Option WSt := if more ∈ st.1 then some st else if st.1.length < 1000 ∧ st.2.length < 1000 then some (st.1 ++ [more], st.2 ++ [more]) else none
def turnM (st : WSt) : Option WSt := (st.2[st.2.length - 1]?).bind fun here => (stepsM here).bind fun ss => foldO visit (st.1, st.2.dropLast) ss
def goM : Nat → WSt → Option (List Row)
  | 0, _ => none
  | k + 1, st => if st.2.isEmpty = true then some st.1 else (turnM st).bind (goM k)
def reachedM (row : Row) : Option (List Row) := goM 200 ([row], [row])
def qWaits : En → Option Bool := (qThaw 2 (qVal (mB dNe (mN 2) (mLst (aN)))))
def bVisit : En → Option Out := (sIf (qThaw 1 (qVal (mB dDNotIn (mN 4) (mN 1)))) (sSeq (sDPut 1 (mN 4) (mC (.bool true)))
  (sApp 2 (mN 4))) (sNil))
def bTurn (F_steps : List D → Option D) : En → Option Out := (sSeq (sPop 2 3)
  (sFor (iL (mF F_steps (aC (mN 3) (aN)))) (gN 4) bVisit))
theorem visit_loop {x0 x3 : Sl} : ∀ (ss : List Row) (st st' : WSt) (x4 : Sl), foldO visit st ss = some st' → ∃ y4, forGo (gN 4) bVisit (ss.map eR) [x0, .own (eK st.1), .own (.list (st.2.map eR)), x3, x4] = some (.nx [x0, .own (eK st'.1), .own (.list (st'.2.map eR)), x3, y4]) := fun ss st st' x4 h => by
  obtain ⟨ρ', h3, y4, h4⟩ := forGo_opt (T := gN 4) (b := bVisit) eR (fun (st : WSt) ρ => ∃ x4, ρ = [x0, .own (eK st.1), .own (.list (st.2.map eR)), x3, x4]) visit ss (fun more hm s s' ρ hI hs => by
    obtain ⟨x4, rfl⟩ := hI
    unfold visit at hs
    have e1 : qThaw 1 (qVal (mB dDNotIn (mN 4) (mN 1))) [x0, .own (eK s.1), .own (.list (s.2.map eR)), x3, .val (eR more)] = some (!decide (more ∈ s.1)) := by
      show ((dDNotIn (eR more) (eK s.1)).bind asB) = _
      rw [notin_eK]
      rfl
    by_cases hin : more ∈ s.1
    · rw [if_pos hin] at hs
      cases hs
      refine ⟨[x0, .own (eK s.1), .own (.list (s.2.map eR)), x3, .val (eR more)], [x0, .own (eK s.1), .own (.list (s.2.map eR)), x3, .val (eR more)], rfl, ?_, _, rfl⟩
      unfold bVisit
      rw [sIf, e1, Option.bind_some, if_neg (by simpa using hin)]
      rfl
    · rw [if_neg hin] at hs
      split at hs
      case isFalse => cases hs
      rename_i hg
      cases hs
      refine ⟨[x0, .own (eK s.1), .own (.list (s.2.map eR)), x3, .val (eR more)], [x0, .own (eK (s.1 ++ [more])), .own (.list ((s.2 ++ [more]).map eR)), x3, .val (eR more)], rfl, ?_, _, rfl⟩
      unfold bVisit
      rw [sIf, e1, Option.bind_some, if_pos (by simpa using hin)]
      have e2 : sDPut 1 (mN 4) (mC (.bool true)) [x0, .own (eK s.1), .own (.list (s.2.map eR)), x3, .val (eR more)] = some (.nx [x0, .own (eK (s.1 ++ [more])), .own (.list (s.2.map eR)), x3, .val (eR more)]) := by
        show ((dKey (eR more)).bind _) = _
        rw [dKey_eR, Option.bind_some]
        show (if (s.1.map fun r => (eR r, PyData.bool true)).length < 1000000 then _ else none) = _
        rw [if_pos (by rw [List.length_map]; exact Nat.lt_trans hg.1 (by decide)), put_eK hin]
        rfl
      rw [sSeq, e2, Option.bind_some]
      show (if (s.2.map eR).length < 16000000 then _ else none) = _
      rw [if_pos (by rw [List.length_map]; exact Nat.lt_trans hg.2 (by decide)), List.map_append]
      rfl) st st' _ ⟨x4, rfl⟩ h
  exact ⟨y4, by rw [← h4]; exact h3⟩
theorem go_loop (F_steps : List D → Option D) (a1 : ∀ {r ss}, stepsM r = some ss → F_steps [eR r] = some (.list (ss.map eR))) {x0 : Sl} : ∀ (k : Nat) (st : WSt) (out : List Row) (x3 x4 : Sl), goM k st = some out → ∃ y2 y3 y4, whileGo qWaits (bTurn F_steps) k [x0, .own (eK st.1), .own (.list (st.2.map eR)), x3, x4] = some (.nx [x0, .own (eK out), y2, y3, y4])
  | 0, _, _, _, _, h => by cases h
  | k + 1, st, out, x3, x4, h => by
    have e1 : qWaits [x0, .own (eK st.1), .own (.list (st.2.map eR)), x3, x4] = some (!st.2.isEmpty) := by
      show ((dNe (.list (st.2.map eR)) (.list [])).bind asB) = _
      rw [ne_nil]
      rfl
    unfold goM at h
    unfold whileGo
    rw [e1, Option.bind_some]
    by_cases he : st.2.isEmpty = true
    · rw [if_pos he] at h
      cases h
      rw [if_neg (by rw [he]; decide)]
      exact ⟨_, _, _, rfl⟩
    · rw [if_neg he] at h
      obtain ⟨st1, h1, h2⟩ := Dl.bind_some' h
      obtain ⟨here, h3, h1⟩ := Dl.bind_some' h1
      obtain ⟨ss, h4, h5⟩ := Dl.bind_some' h1
      rw [if_pos (by simpa using he)]
      obtain ⟨y4, e2⟩ := visit_loop (x0 := x0) (x3 := .val (eR here)) ss (st.1, st.2.dropLast) st1 x4 h5
      have e3 : sPop 2 3 [x0, .own (eK st.1), .own (.list (st.2.map eR)), x3, x4] = some (.nx [x0, .own (eK st.1), .own (.list (st.2.dropLast.map eR)), .val (eR here), x4]) := by
        have : (st.2.map eR)[(st.2.map eR).length - 1]? = some (eR here) := by
          rw [List.length_map, List.getElem?_map, h3]
          rfl
        unfold sPop
        simp only [List.getElem?_cons_zero, List.getElem?_cons_succ, this, List.map_dropLast]
        rfl
      have e4 : bTurn F_steps [x0, .own (eK st.1), .own (.list (st.2.map eR)), x3, x4] = some (.nx [x0, .own (eK st1.1), .own (.list (st1.2.map eR)), .val (eR here), y4]) := by
        unfold bTurn
        rw [sSeq, e3, Option.bind_some]
        show sFor _ _ _ [x0, .own (eK st.1), .own (.list (st.2.dropLast.map eR)), .val (eR here), x4] = _
        have e5 : iL (mF F_steps (aC (mN 3) (aN))) [x0, .own (eK st.1), .own (.list (st.2.dropLast.map eR)), .val (eR here), x4] = some (ss.map eR) := by
          show (F_steps [eR here]).bind _ = _
          rw [a1 h4]
          rfl
        rw [sFor, e5, Option.bind_some]
        exact e2
      rw [e4, Option.bind_some]
      exact go_loop F_steps a1 k st1 out _ _ h2
theorem reached_x (F_steps : List D → Option D) (a1 : ∀ {r ss}, stepsM r = some ss → F_steps [eR r] = some (.list (ss.map eR))) {row : Row} {out : List Row} (h : reachedM row = some out) :
    bodyF 5 (sSeq (sPar [1, 2] (pO (mDisp1 (mN 0) (mC (.bool true))) (pO (mLst (aC (mN 0) (aN))) (pN))))
  (sSeq (sWhile 200 qWaits (bTurn F_steps))
  (sFrz 1 (sRet (mN 1))))) [eR row] = some (eK out) := by
  obtain ⟨y2, y3, y4, h1⟩ := go_loop F_steps a1 (x0 := .val (eR row)) 200 ([row], [row]) out .un .un h
  have e1 : sPar [1, 2] (pO (mDisp1 (mN 0) (mC (.bool true))) (pO (mLst (aC (mN 0) (aN))) (pN))) [.val (eR row), .un, .un, .un, .un] = some (.nx [.val (eR row), .own (eK [row]), .own (.list ([row].map eR)), .un, .un]) := by
    have : mDisp1 (mN 0) (mC (.bool true)) [.val (eR row), .un, .un, .un, .un] = some (eK [row]) := by
      show ((dKey (eR row)).map _) = _
      rw [dKey_eR]
      rfl
    simp only [sPar, pO, pN, this, Option.bind_some]
    rfl
  show (match sSeq _ _ [.val (eR row), .un, .un, .un, .un] with | some (.rt d) => some d | some (.nx _) => some .none | none => none) = _
  rw [sSeq, e1, Option.bind_some]
  show (match sSeq (sWhile _ _ _) _ [.val (eR row), .own (eK [row]), .own (.list ([row].map eR)), .un, .un] with | some (.rt d) => some d | some (.nx _) => some .none | none => none) = _
  rw [sSeq, sWhile, h1, Option.bind_some]
  rfl
theorem reachedMM {row : Row} {out : List Row} (h : reachedM row = some out) : F_law_reached [eR row] = some (eK out) := reached_x F_law_steps stepsMM h
end Ar

end
section
set_option Elab.async false
set_option linter.all false
set_option maxRecDepth 100000
set_option maxHeartbeats 4000000
namespace Ar
open PySem Dl
structure Facts (n : Nat) (s : List Int) (bb rows : List Row) : Prop where
  is_bb : bbM n s = some bb
  is_rows : rowsM n s = some rows
  same : sortR rows = sortR bb
  ok1 : SortOkR rows
  ok2 : SortOkR bb
  each : ∀ r ∈ bb, RowOk n r ∧ sizesM n r = s
  top : greatestM n s ∈ bb
  least : ranksM n (greatestM n s) = leastM n s
  below : ∀ r ∈ bb, belowM n r (greatestM n s) = true
  steps : ∀ r ∈ bb, ∃ ss found, stepsM r = some ss ∧ reachedM r = some found ∧ (∀ o ∈ ss, RowOk n o ∧ homsM o o < homsM r r) ∧ ∀ o ∈ bb, decide (o ∈ found) = belowM n r o
end Ar

end
section
set_option Elab.async false
set_option linter.all false
set_option maxRecDepth 100000
set_option maxHeartbeats 4000000
namespace Ar
open PySem PySem.Spec PyProof.Rows L2 Dl
section
variable {P : Program} {K : PySem.W.Frag} {mg : Str → Option Value} {base : Heap}
abbrev t_right : Stmt := topS 53
abbrev N_right : List Str := ["_law_lot_here", "_law_size", "_law_sizes", "_law_due", "_law_top", "_law_least", "_law_turn", "_law_row", "_law_other", "_law_ranks", "_law_reached_here", "_law_more", "_law_is_due", "_law_s", "_law_t", "_law_one", "_law_bar"]
theorem sc_right : FnScope N_right ["_law_lot_here"] (defScope t_right) := ⟨rfl, rfl, rfl, by decide +kernel, rfl, by decide +kernel, by decide +kernel⟩
def forBody : Stmt → List Stmt
  | .For _ _ b _ _ => b
  | _ => []
def s_right_2 : En → Option Out := sSet 3 (mF F_law_bb_rows (aC (mN 2) (aN)))
theorem d_right_2 [Wd] (TT : Tx mg) (c_law_bb_rows : CalD P Wd.w K mg base 2 "_law_bb_rows" 1 F_law_bb_rows) {f : Addr} : PSd (famOf P Wd.w K mg base _ sc_right.nd "_law_right" (defScope t_right) f 7) ((defBody t_right).getD 2 (.Pass ⟨0, 0, 0, 0⟩)) s_right_2 :=
  psd_set 3 rfl (by first | exact .inl rfl | exact .inr rfl) (by intro _; first | exact .inl rfl | exact .inr rfl) (c_own c_law_bb_rows rfl (pad_cons (nm 2 rfl (by first | exact .inl rfl | exact .inr (.inl rfl) | exact .inr (.inr rfl))) (pad_nil)))
def s_right_3 : En → Option Out := sIf (qVal (mB dNe (mF (fun ds => (G_bar_rows ds).map .list) (aC (mN 2) (aN))) (mN 3))) (sRet (mC (.bool false))) (sNil)
theorem d_right_3 [Wd] (TT : Tx mg) (c_bar_rows : CalG P Wd.w K mg base 4 "bar_rows" 1 G_bar_rows) {f : Addr} : PSd (famOf P Wd.w K mg base _ sc_right.nd "_law_right" (defScope t_right) f 7) ((defBody t_right).getD 3 (.Pass ⟨0, 0, 0, 0⟩)) s_right_3 :=
  psd_if (ptd_cmp (fun i => rAll_op (op_neD (Fam.rm _ i).units)) (rAll_e fun _ => opE_ne) (PEo.ped (peo_listG c_bar_rows rfl rfl TT (pad_cons (nm 2 rfl (by first | exact .inl rfl | exact .inr (.inl rfl) | exact .inr (.inr rfl))) (pad_nil)))) (nm 3 rfl (by first | exact .inl rfl | exact .inr (.inl rfl) | exact .inr (.inr rfl))) (nomark _)) (pssd_one (psd_ret (ped_bl))) (pssd_nil)
def s_right_4 : En → Option Out := sSet 4 (mF F_greatest_bars (aC (mN 2) (aN)))
theorem d_right_4 [Wd] (TT : Tx mg) (c_greatest_bars : CalD P Wd.w K mg base 4 "greatest_bars" 1 F_greatest_bars) {f : Addr} : PSd (famOf P Wd.w K mg base _ sc_right.nd "_law_right" (defScope t_right) f 7) ((defBody t_right).getD 4 (.Pass ⟨0, 0, 0, 0⟩)) s_right_4 :=
  psd_set 4 rfl (by first | exact .inl rfl | exact .inr rfl) (by intro _; first | exact .inl rfl | exact .inr rfl) (c_own c_greatest_bars rfl (pad_cons (nm 2 rfl (by first | exact .inl rfl | exact .inr (.inl rfl) | exact .inr (.inr rfl))) (pad_nil)))
def s_right_5 : En → Option Out := sSet 5 (mF fDictL (aC (mLc (iL (mF F_law_bb_all (aC (mN 1) (aN)))) (gT [gN 13, gN 14]) (qYes) (mTup (aC (mTup (aC (mN 13) (aC (mN 14) (aN)))) (aC (mF fMin (aC (mSl (mN 2) (mN 13) (mB dAdd (mN 14) (mC (.int 1)))) (aN))) (aN)))) [13, 14]) (aN)))
theorem d_right_5 [Wd] (TT : Tx mg) (c_law_bb_all : CalD P Wd.w K mg base 1 "_law_bb_all" 1 F_law_bb_all) {f : Addr} : PSd (famOf P Wd.w K mg base _ sc_right.nd "_law_right" (defScope t_right) f 7) ((defBody t_right).getD 5 (.Pass ⟨0, 0, 0, 0⟩)) s_right_5 :=
  psd_set 5 rfl (by first | exact .inl rfl | exact .inr rfl) (by intro _; first | exact .inl rfl | exact .inr rfl) (PEo.ped (b_dict ⟨rfl⟩ rfl TT (pad_cons (PEo.ped (peo_lc (own := [("_law_s", 13), ("_law_t", 14)]) (pid_list (c_own c_law_bb_all rfl (pad_cons (nm 1 rfl (by first | exact .inl rfl | exact .inr (.inl rfl) | exact .inr (.inr rfl))) (pad_nil)))) (by dsimp only [famOf, Fam.blk]; decide +kernel) (pgd_tup (pgsd_cons (pgd_name 13 rfl (by first | exact .inl rfl | exact .inr rfl) (by intro _; first | exact .inl rfl | exact .inr rfl)) (pgsd_cons (pgd_name 14 rfl (by first | exact .inl rfl | exact .inr rfl) (by intro _; first | exact .inl rfl | exact .inr rfl)) (pgsd_nil)))) rfl (ptsd_nil) (ped_tup (pad_cons (ped_tup (pad_cons (nm 13 rfl (by first | exact .inl rfl | exact .inr (.inl rfl) | exact .inr (.inr rfl))) (pad_cons (nm 14 rfl (by first | exact .inl rfl | exact .inr (.inl rfl) | exact .inr (.inr rfl))) (pad_nil)))) (pad_cons (b_min rfl TT (pad_cons (ped_slT (nm 2 rfl (by first | exact .inl rfl | exact .inr (.inl rfl) | exact .inr (.inr rfl))) (nm 13 rfl (by first | exact .inl rfl | exact .inr (.inl rfl) | exact .inr (.inr rfl))) (ped_add (nm 14 rfl (by first | exact .inl rfl | exact .inr (.inl rfl) | exact .inr (.inr rfl))) (ped_int))) (pad_nil))) (pad_nil)))))) (pad_nil))))
def s_right_6 : En → Option Out := sIf (qOr (qVal (mB dNotIn (mN 4) (mN 3))) (qOr (qVal (mB dNeD (mF F_law_bb_ranks (aC (mN 1) (aC (mN 4) (aN)))) (mN 5))) (qVal (mB dNe (mLc (iL (mN 3)) (gN 7) (qNot (qVal (mF F_are_below (aC (mN 1) (aC (mN 7) (aC (mN 4) (aN))))))) (mN 7) [7]) (mLst (aN)))))) (sRet (mC (.bool false))) (sNil)
theorem d_right_6 [Wd] (TT : Tx mg) (c_law_bb_ranks : CalD P Wd.w K mg base 2 "_law_bb_ranks" 2 F_law_bb_ranks) (c_are_below : CalD P Wd.w K mg base 7 "are_below" 3 F_are_below) {f : Addr} : PSd (famOf P Wd.w K mg base _ sc_right.nd "_law_right" (defScope t_right) f 7) ((defBody t_right).getD 6 (.Pass ⟨0, 0, 0, 0⟩)) s_right_6 :=
  psd_if (PWd.pt (pwd_or (ptd_cmp (fun i => rAll_op (op_notInD (by have := (Fam.rm _ i).un; omega))) (rAll_e fun _ => opE_notIn) (nm 4 rfl (by first | exact .inl rfl | exact .inr (.inl rfl) | exact .inr (.inr rfl))) (nm 3 rfl (by first | exact .inl rfl | exact .inr (.inl rfl) | exact .inr (.inr rfl))) rfl) (pwd_or (ptd_neD ⟨rfl⟩ (c_own c_law_bb_ranks rfl (pad_cons (nm 1 rfl (by first | exact .inl rfl | exact .inr (.inl rfl) | exact .inr (.inr rfl))) (pad_cons (nm 4 rfl (by first | exact .inl rfl | exact .inr (.inl rfl) | exact .inr (.inr rfl))) (pad_nil)))) (nm 5 rfl (by first | exact .inl rfl | exact .inr (.inl rfl) | exact .inr (.inr rfl)))) (pwd_or1 (ptd_cmp (fun i => rAll_op (op_neD (Fam.rm _ i).units)) (rAll_e fun _ => opE_ne) (PEo.ped (peo_lc (own := [("_law_row", 7)]) (pid_list (nm 3 rfl (by first | exact .inl rfl | exact .inr (.inl rfl) | exact .inr (.inr rfl)))) (by dsimp only [famOf, Fam.blk]; decide +kernel) (pgd_name 7 rfl (by first | exact .inl rfl | exact .inr rfl) (by intro _; first | exact .inl rfl | exact .inr rfl)) rfl (ptsd_one (ptd_not (ptd_val (c_own c_are_below rfl (pad_cons (nm 1 rfl (by first | exact .inl rfl | exact .inr (.inl rfl) | exact .inr (.inr rfl))) (pad_cons (nm 7 rfl (by first | exact .inl rfl | exact .inr (.inl rfl) | exact .inr (.inr rfl))) (pad_cons (nm 4 rfl (by first | exact .inl rfl | exact .inr (.inl rfl) | exact .inr (.inr rfl))) (pad_nil)))))))) (nm 7 rfl (by first | exact .inl rfl | exact .inr (.inl rfl) | exact .inr (.inr rfl))))) (PEo.ped (peo_lst (pad_nil))) (nomark _)))))) (pssd_one (psd_ret (ped_bl))) (pssd_nil)
def s_right_7_1 : En → Option Out := sAsg (gT [gN 9, gN 10]) (mTup (aC (mF F_law_bb_ranks (aC (mN 1) (aC (mN 7) (aN)))) (aC (mF F_law_reached (aC (mN 7) (aN))) (aN))))
theorem d_right_7_1 [Wd] (TT : Tx mg) (c_law_reached : CalD P Wd.w K mg base 3 "_law_reached" 1 F_law_reached) (c_law_bb_ranks : CalD P Wd.w K mg base 2 "_law_bb_ranks" 2 F_law_bb_ranks) {f : Addr} : PSd (famOf P Wd.w K mg base _ sc_right.nd "_law_right" (defScope t_right) f 7) ((forBody ((defBody t_right).getD 7 (.Pass ⟨0, 0, 0, 0⟩))).getD 1 (.Pass ⟨0, 0, 0, 0⟩)) s_right_7_1 :=
  psd_asg (ped_tup (pad_cons (c_own c_law_bb_ranks rfl (pad_cons (nm 1 rfl (by first | exact .inl rfl | exact .inr (.inl rfl) | exact .inr (.inr rfl))) (pad_cons (nm 7 rfl (by first | exact .inl rfl | exact .inr (.inl rfl) | exact .inr (.inr rfl))) (pad_nil)))) (pad_cons (c_own c_law_reached rfl (pad_cons (nm 7 rfl (by first | exact .inl rfl | exact .inr (.inl rfl) | exact .inr (.inr rfl))) (pad_nil))) (pad_nil)))) (pgd_tup (pgsd_cons (pgd_name 9 rfl (by first | exact .inl rfl | exact .inr rfl) (by intro _; first | exact .inl rfl | exact .inr rfl)) (pgsd_cons (pgd_name 10 rfl (by first | exact .inl rfl | exact .inr rfl) (by intro _; first | exact .inl rfl | exact .inr rfl)) (pgsd_nil))))
def s_right_7_2 : En → Option Out := sFor (iL (mN 3)) (gN 8) (sSeq (sSet 11 (mF F_law_bb_ranks (aC (mN 1) (aC (mN 8) (aN)))))
  (sSeq (sSet 12 (mB dEq (mLc (iK (mN 9)) (gN 16) (qVal (mB dGt (mB dGet (mN 9) (mN 16)) (mB dGet (mN 11) (mN 16)))) (mN 16) [16]) (mLst (aN))))
  (sIf (qOr (qVal (mB dNe (mF F_are_below (aC (mN 1) (aC (mN 7) (aC (mN 8) (aN))))) (mN 12))) (qVal (mB dNe (mB dDIn (mN 8) (mN 10)) (mN 12)))) (sRet (mC (.bool false))) (sNil))))
theorem d_right_7_2 [Wd] (TT : Tx mg) (c_law_bb_ranks : CalD P Wd.w K mg base 2 "_law_bb_ranks" 2 F_law_bb_ranks) (c_are_below : CalD P Wd.w K mg base 7 "are_below" 3 F_are_below) {f : Addr} : PSd (famOf P Wd.w K mg base _ sc_right.nd "_law_right" (defScope t_right) f 7) ((forBody ((defBody t_right).getD 7 (.Pass ⟨0, 0, 0, 0⟩))).getD 2 (.Pass ⟨0, 0, 0, 0⟩)) s_right_7_2 :=
  psd_for (pid_list (nm 3 rfl (by first | exact .inl rfl | exact .inr (.inl rfl) | exact .inr (.inr rfl)))) (pgd_name 8 rfl (by first | exact .inl rfl | exact .inr rfl) (by intro _; first | exact .inl rfl | exact .inr rfl)) (pssd_cons (psd_set 11 rfl (by first | exact .inl rfl | exact .inr rfl) (by intro _; first | exact .inl rfl | exact .inr rfl) (c_own c_law_bb_ranks rfl (pad_cons (nm 1 rfl (by first | exact .inl rfl | exact .inr (.inl rfl) | exact .inr (.inr rfl))) (pad_cons (nm 8 rfl (by first | exact .inl rfl | exact .inr (.inl rfl) | exact .inr (.inr rfl))) (pad_nil)))))
  (pssd_cons (psd_set 12 rfl (by first | exact .inl rfl | exact .inr rfl) (by intro _; first | exact .inl rfl | exact .inr rfl) (ped_eq (Fam.rm _) (PEo.ped (peo_lc (own := [("_law_bar", 16)]) (pid_nk (nm 9 rfl (by first | exact .inl rfl | exact .inr (.inl rfl) | exact .inr (.inr rfl)))) (by dsimp only [famOf, Fam.blk]; decide +kernel) (pgd_name 16 rfl (by first | exact .inl rfl | exact .inr rfl) (by intro _; first | exact .inl rfl | exact .inr rfl)) rfl (ptsd_one (ptd_cmp (fun _ => op_gt) opE_gt (ped_dget ⟨rfl⟩ (nm 9 rfl (by first | exact .inl rfl | exact .inr (.inl rfl) | exact .inr (.inr rfl))) (nm 16 rfl (by first | exact .inl rfl | exact .inr (.inl rfl) | exact .inr (.inr rfl)))) (ped_dget ⟨rfl⟩ (nm 11 rfl (by first | exact .inl rfl | exact .inr (.inl rfl) | exact .inr (.inr rfl))) (nm 16 rfl (by first | exact .inl rfl | exact .inr (.inl rfl) | exact .inr (.inr rfl)))) (nomark _))) (nm 16 rfl (by first | exact .inl rfl | exact .inr (.inl rfl) | exact .inr (.inr rfl))))) (PEo.ped (peo_lst (pad_nil)))))
  (pssd_one (psd_if (PWd.pt (pwd_or (ptd_cmp (fun i => rAll_op (op_neD (Fam.rm _ i).units)) (rAll_e fun _ => opE_ne) (c_own c_are_below rfl (pad_cons (nm 1 rfl (by first | exact .inl rfl | exact .inr (.inl rfl) | exact .inr (.inr rfl))) (pad_cons (nm 7 rfl (by first | exact .inl rfl | exact .inr (.inl rfl) | exact .inr (.inr rfl))) (pad_cons (nm 8 rfl (by first | exact .inl rfl | exact .inr (.inl rfl) | exact .inr (.inr rfl))) (pad_nil))))) (nm 12 rfl (by first | exact .inl rfl | exact .inr (.inl rfl) | exact .inr (.inr rfl))) (nomark _)) (pwd_or1 (ptd_cmp (fun i => rAll_op (op_neD (Fam.rm _ i).units)) (rAll_e fun _ => opE_ne) (ped_dIn ⟨rfl⟩ (nm 8 rfl (by first | exact .inl rfl | exact .inr (.inl rfl) | exact .inr (.inr rfl))) (nm 10 rfl (by first | exact .inl rfl | exact .inr (.inl rfl) | exact .inr (.inr rfl)))) (nm 12 rfl (by first | exact .inl rfl | exact .inr (.inl rfl) | exact .inr (.inr rfl))) (nomark _))))) (pssd_one (psd_ret (ped_bl))) (pssd_nil)))))
def s_right_7_3 : En → Option Out := sIf (qVal (mB dNe (mLc (iL (mF F_law_steps (aC (mN 7) (aN)))) (gN 15) (qVal (mB dGe (mF F_bar_homs (aC (mN 1) (aC (mN 15) (aC (mN 15) (aN))))) (mF F_bar_homs (aC (mN 1) (aC (mN 7) (aC (mN 7) (aN))))))) (mN 15) [15]) (mLst (aN)))) (sRet (mC (.bool false))) (sNil)
theorem d_right_7_3 [Wd] (TT : Tx mg) (c_law_steps : CalD P Wd.w K mg base 2 "_law_steps" 1 F_law_steps) (c_bar_homs : CalD P Wd.w K mg base 7 "bar_homs" 3 F_bar_homs) {f : Addr} : PSd (famOf P Wd.w K mg base _ sc_right.nd "_law_right" (defScope t_right) f 7) ((forBody ((defBody t_right).getD 7 (.Pass ⟨0, 0, 0, 0⟩))).getD 3 (.Pass ⟨0, 0, 0, 0⟩)) s_right_7_3 :=
  psd_if (ptd_cmp (fun i => rAll_op (op_neD (Fam.rm _ i).units)) (rAll_e fun _ => opE_ne) (PEo.ped (peo_lc (own := [("_law_one", 15)]) (pid_list (c_own c_law_steps rfl (pad_cons (nm 7 rfl (by first | exact .inl rfl | exact .inr (.inl rfl) | exact .inr (.inr rfl))) (pad_nil)))) (by dsimp only [famOf, Fam.blk]; decide +kernel) (pgd_name 15 rfl (by first | exact .inl rfl | exact .inr rfl) (by intro _; first | exact .inl rfl | exact .inr rfl)) rfl (ptsd_one (ptd_cmp (fun _ => op_ge) opE_ge (c_own c_bar_homs rfl (pad_cons (nm 1 rfl (by first | exact .inl rfl | exact .inr (.inl rfl) | exact .inr (.inr rfl))) (pad_cons (nm 15 rfl (by first | exact .inl rfl | exact .inr (.inl rfl) | exact .inr (.inr rfl))) (pad_cons (nm 15 rfl (by first | exact .inl rfl | exact .inr (.inl rfl) | exact .inr (.inr rfl))) (pad_nil))))) (c_own c_bar_homs rfl (pad_cons (nm 1 rfl (by first | exact .inl rfl | exact .inr (.inl rfl) | exact .inr (.inr rfl))) (pad_cons (nm 7 rfl (by first | exact .inl rfl | exact .inr (.inl rfl) | exact .inr (.inr rfl))) (pad_cons (nm 7 rfl (by first | exact .inl rfl | exact .inr (.inl rfl) | exact .inr (.inr rfl))) (pad_nil))))) (nomark _))) (nm 15 rfl (by first | exact .inl rfl | exact .inr (.inl rfl) | exact .inr (.inr rfl))))) (PEo.ped (peo_lst (pad_nil))) (nomark _)) (pssd_one (psd_ret (ped_bl))) (pssd_nil)
end
end Ar

end
section
set_option Elab.async false
set_option linter.all false
set_option maxRecDepth 100000
set_option maxHeartbeats 4000000
namespace Ar
open PySem Dl
theorem sSeq_nx {a b : En → Option Out} {ρ ρ' : En} (h : a ρ = some (.nx ρ')) : sSeq a b ρ = b ρ' := by
  rw [sSeq, h, Option.bind_some]
theorem dNe_self {d : D} (h : SeqAt.shaped d = true) : dNe d d = some (.bool false) := by
  simp only [dNe, h, SeqAt.eqv_refl d (SeqAt.canLay_of_shaped h), Bool.and_self, Bool.not_true, if_true]
theorem dNe_bool (a : Bool) : dNe (.bool a) (.bool a) = some (.bool false) := dNe_self (by cases a <;> rfl)
theorem notIn_M {r : Row} {l : List Row} (h : r ∈ l) : dNotIn (eR r) (.list (l.map eR)) = some (.bool false) := by
  have e : ((l.map eR).any fun z => PyData.eqv z (eR r)) = true := List.any_eq_true.mpr ⟨eR r, List.mem_map.mpr ⟨r, h, rfl⟩, SeqAt.eqv_refl _ (lay_eR r)⟩
  simp only [dNotIn, shaped_eR, shaped_rows, e, Bool.and_self, Bool.not_true, if_true]
theorem filter_no {α : Type} (l : List α) : l.filter (fun _ => false) = [] := List.filter_eq_nil_iff.mpr fun _ _ => by decide
theorem ne_nil0 : dNe (.list []) (.list []) = some (.bool false) := dNe_self (d := .list ([] : List D)) (shaped_rows [])
section
variable {v : L2.V} {n : Nat} {s : List Int}
theorem right2_x (F_law_bb_rows : List D → Option D) {d : D} (a1 : F_law_bb_rows [eS s] = some d) : (sSet 3 (mF F_law_bb_rows (aC (mN 2) (aN)))) [.raw v, .val (.int (n : Nat)), .val (eS s), .un, .un, .un, .un, .un, .un, .un, .un, .un, .un, .un, .un, .un, .un] = some (.nx [.raw v, .val (.int (n : Nat)), .val (eS s), .val d, .un, .un, .un, .un, .un, .un, .un, .un, .un, .un, .un, .un, .un]) := by
  simp only [a1, bodyF, sSeq, sRet, sSet, sSetO, sIf, sNil, sDrop, sAsg, sPar, setAll, sFrz, frz, sApp, sExt, sAug, sAugL, pV, pO, pN, mN, mC, aC, aN, aS, mTup, mTupS, mLst, mB, mU, mF, mSl, mAnd, mOr, mCh2, mCh3, qVal, asB, qAnd, qOr, qNot, qYes, dAdd, dSub, dMul, dLt, dLe, dGt, dGe, fI, fIc, dIx, dNot, dNeg, dIsN, gT, gTs, gN, iR, iL, iT, iE, iI, iK, wipeE, fLen, items, fTuple, fList, List.map, List.replicate, List.length, List.cons_append, List.nil_append, List.getElem?_cons_zero, List.getElem?_cons_succ, Option.bind_some, Option.map_some, Option.map_none, Bool.not_true, Bool.not_false, Bool.false_eq_true, ↓reduceIte, decide_true, decide_false, List.set_cons_zero, List.set_cons_succ, Option.bind_none]
theorem right3_x (G_bar_rows : List D → Option (List D)) {xs : List D} (a1 : G_bar_rows [eS s] = some xs) (h : SeqAt.shaped (.list xs) = true) : (sIf (qVal (mB dNe (mF (fun ds => (G_bar_rows ds).map .list) (aC (mN 2) (aN))) (mN 3))) (sRet (mC (.bool false))) (sNil)) [.raw v, .val (.int (n : Nat)), .val (eS s), .val (.list xs), .un, .un, .un, .un, .un, .un, .un, .un, .un, .un, .un, .un, .un] = some (.nx [.raw v, .val (.int (n : Nat)), .val (eS s), .val (.list xs), .un, .un, .un, .un, .un, .un, .un, .un, .un, .un, .un, .un, .un]) := by
  simp only [a1, dNe_self h, bodyF, sSeq, sRet, sSet, sSetO, sIf, sNil, sDrop, sAsg, sPar, setAll, sFrz, frz, sApp, sExt, sAug, sAugL, pV, pO, pN, mN, mC, aC, aN, aS, mTup, mTupS, mLst, mB, mU, mF, mSl, mAnd, mOr, mCh2, mCh3, qVal, asB, qAnd, qOr, qNot, qYes, dAdd, dSub, dMul, dLt, dLe, dGt, dGe, fI, fIc, dIx, dNot, dNeg, dIsN, gT, gTs, gN, iR, iL, iT, iE, iI, iK, wipeE, fLen, items, fTuple, fList, List.map, List.replicate, List.length, List.cons_append, List.nil_append, List.getElem?_cons_zero, List.getElem?_cons_succ, Option.bind_some, Option.map_some, Option.map_none, Bool.not_true, Bool.not_false, Bool.false_eq_true, ↓reduceIte, decide_true, decide_false, List.set_cons_zero, List.set_cons_succ, Option.bind_none]
theorem right4_x (F_greatest_bars : List D → Option D) {xs d : D} (a1 : F_greatest_bars [eS s] = some d) : (sSet 4 (mF F_greatest_bars (aC (mN 2) (aN)))) [.raw v, .val (.int (n : Nat)), .val (eS s), .val xs, .un, .un, .un, .un, .un, .un, .un, .un, .un, .un, .un, .un, .un] = some (.nx [.raw v, .val (.int (n : Nat)), .val (eS s), .val xs, .val d, .un, .un, .un, .un, .un, .un, .un, .un, .un, .un, .un, .un]) := by
  simp only [a1, bodyF, sSeq, sRet, sSet, sSetO, sIf, sNil, sDrop, sAsg, sPar, setAll, sFrz, frz, sApp, sExt, sAug, sAugL, pV, pO, pN, mN, mC, aC, aN, aS, mTup, mTupS, mLst, mB, mU, mF, mSl, mAnd, mOr, mCh2, mCh3, qVal, asB, qAnd, qOr, qNot, qYes, dAdd, dSub, dMul, dLt, dLe, dGt, dGe, fI, fIc, dIx, dNot, dNeg, dIsN, gT, gTs, gN, iR, iL, iT, iE, iI, iK, wipeE, fLen, items, fTuple, fList, List.map, List.replicate, List.length, List.cons_append, List.nil_append, List.getElem?_cons_zero, List.getElem?_cons_succ, Option.bind_some, Option.map_some, Option.map_none, Bool.not_true, Bool.not_false, Bool.false_eq_true, ↓reduceIte, decide_true, decide_false, List.set_cons_zero, List.set_cons_succ, Option.bind_none]
theorem right5_x (F_law_bb_all : List D → Option D) (a : 1 ≤ n) (b : n ≤ 4) (h : SzM n s) {xs d : D} (a1 : F_law_bb_all [.int (n : Nat)] = some (.list ((barsM n).map eB))) : (sSet 5 (mF fDictL (aC (mLc (iL (mF F_law_bb_all (aC (mN 1) (aN)))) (gT [gN 13, gN 14]) (qYes) (mTup (aC (mTup (aC (mN 13) (aC (mN 14) (aN)))) (aC (mF fMin (aC (mSl (mN 2) (mN 13) (mB dAdd (mN 14) (mC (.int 1)))) (aN))) (aN)))) [13, 14]) (aN)))) [.raw v, .val (.int (n : Nat)), .val (eS s), .val xs, .val d, .un, .un, .un, .un, .un, .un, .un, .un, .un, .un, .un, .un] = some (.nx [.raw v, .val (.int (n : Nat)), .val (eS s), .val xs, .val d, .val (eC (leastM n s)), .un, .un, .un, .un, .un, .un, .un, .un, .un, .un, .un]) := by
  have e1 := compGo_all (T := gT [gN 13, gN 14]) (f := mTup (aC (mTup (aC (mN 13) (aC (mN 14) (aN)))) (aC (mF fMin (aC (mSl (mN 2) (mN 13) (mB dAdd (mN 14) (mC (.int 1)))) (aN))) (aN)))) (ρ := [.raw v, .val (.int (n : Nat)), .val (eS s), .val xs, .val d, .un, .un, .un, .un, .un, .un, .un, .un, .un, .un, .un, .un]) eB (fun b => pairD (eE (b, leastOf s b))) (barsM n) fun b' hb =>
    ⟨[.raw v, .val (.int (n : Nat)), .val (eS s), .val xs, .val d, .un, .un, .un, .un, .un, .un, .un, .un, .val (.int b'.1), .val (.int b'.2), .un, .un], rfl, by
      obtain ⟨c, e3, e4⟩ := Dl.bind_some' (min_cut (s := s) (b := b') (by rw [h.1]; exact bars_ok a b b' hb))
      simp only [mTup, aC, aN, mF, mSl, mB, mC, mN, List.getElem?_cons_zero, List.getElem?_cons_succ, Option.bind_some, dAdd_i, e3, e4]
      rfl⟩
  have e2 : fDictL [.list ((barsM n).map fun b => pairD (eE (b, leastOf s b)))] = some (eC (leastM n s)) := by
    refine dict_pairs (c := leastM n s) ?_ ?_ ?_
    · rw [leastM, keys_map]
      exact four (P := fun n => (barsM n).Nodup) (by decide) (by decide) (by decide) (by decide) a b
    · rw [leastM, List.length_map]
      exact Nat.le_trans (bars_few a b) (by decide)
    · rw [leastM, List.map_map]
      rfl
  have e3 : mLc (iL (mF F_law_bb_all (aC (mN 1) (aN)))) (gT [gN 13, gN 14]) (qYes) (mTup (aC (mTup (aC (mN 13) (aC (mN 14) (aN)))) (aC (mF fMin (aC (mSl (mN 2) (mN 13) (mB dAdd (mN 14) (mC (.int 1)))) (aN))) (aN)))) [13, 14] [.raw v, .val (.int (n : Nat)), .val (eS s), .val xs, .val d, .un, .un, .un, .un, .un, .un, .un, .un, .un, .un, .un, .un] = some (.list ((barsM n).map fun b => pairD (eE (b, leastOf s b)))) := by
    have e4 : iL (mF F_law_bb_all (aC (mN 1) (aN))) [.raw v, .val (.int (n : Nat)), .val (eS s), .val xs, .val d, .un, .un, .un, .un, .un, .un, .un, .un, .un, .un, .un, .un] = some ((barsM n).map eB) := by
      simp only [iL, mF, aC, aN, mN, List.getElem?_cons_zero, List.getElem?_cons_succ, Option.bind_some, a1]
    rw [mLc, e4, Option.bind_some]
    show (compGo _ _ _ [.raw v, .val (.int (n : Nat)), .val (eS s), .val xs, .val d, .un, .un, .un, .un, .un, .un, .un, .un, .un, .un, .un, .un] _).map _ = _
    rw [e1]
    rfl
  simp only [e3, e2, sSet, mF, aC, aN, Option.bind_some, Option.map_some]
  rfl
theorem right6_x (F_law_bb_ranks F_are_below : List D → Option D) {top : Row} {rk : Row} {l : List Row} (a1 : F_law_bb_ranks [.int (n : Nat), eR top] = some (eC rk)) (a2 : ∀ r ∈ l, F_are_below [.int (n : Nat), eR r, eR top] = some (.bool true)) (ht : top ∈ l) : (sIf (qOr (qVal (mB dNotIn (mN 4) (mN 3))) (qOr (qVal (mB dNeD (mF F_law_bb_ranks (aC (mN 1) (aC (mN 4) (aN)))) (mN 5))) (qVal (mB dNe (mLc (iL (mN 3)) (gN 7) (qNot (qVal (mF F_are_below (aC (mN 1) (aC (mN 7) (aC (mN 4) (aN))))))) (mN 7) [7]) (mLst (aN)))))) (sRet (mC (.bool false))) (sNil)) [.raw v, .val (.int (n : Nat)), .val (eS s), .val (.list (l.map eR)), .val (eR top), .val (eC rk), .un, .un, .un, .un, .un, .un, .un, .un, .un, .un, .un]
    = some (.nx [.raw v, .val (.int (n : Nat)), .val (eS s), .val (.list (l.map eR)), .val (eR top), .val (eC rk), .un, .un, .un, .un, .un, .un, .un, .un, .un, .un, .un]) := by
  have e1 := compGo_map (T := gN 7) (q := qNot (qVal (mF F_are_below (aC (mN 1) (aC (mN 7) (aC (mN 4) (aN))))))) (f := mN 7) (ρ := [.raw v, .val (.int (n : Nat)), .val (eS s), .val (.list (l.map eR)), .val (eR top), .val (eC rk), .un, .un, .un, .un, .un, .un, .un, .un, .un, .un, .un]) eR (fun _ => false) eR l fun r hr =>
    ⟨[.raw v, .val (.int (n : Nat)), .val (eS s), .val (.list (l.map eR)), .val (eR top), .val (eC rk), .un, .val (eR r), .un, .un, .un, .un, .un, .un, .un, .un, .un], rfl, by
      simp only [a2 r hr, bodyF, sSeq, sRet, sSet, sSetO, sIf, sNil, sDrop, sAsg, sPar, setAll, sFrz, frz, sApp, sExt, sAug, sAugL, pV, pO, pN, mN, mC, aC, aN, aS, mTup, mTupS, mLst, mB, mU, mF, mSl, mAnd, mOr, mCh2, mCh3, qVal, asB, qAnd, qOr, qNot, qYes, dAdd, dSub, dMul, dLt, dLe, dGt, dGe, fI, fIc, dIx, dNot, dNeg, dIsN, gT, gTs, gN, iR, iL, iT, iE, iI, iK, wipeE, fLen, items, fTuple, fList, List.map, List.replicate, List.length, List.cons_append, List.nil_append, List.getElem?_cons_zero, List.getElem?_cons_succ, Option.bind_some, Option.map_some, Option.map_none, Bool.not_true, Bool.not_false, Bool.false_eq_true, ↓reduceIte, decide_true, decide_false, List.set_cons_zero, List.set_cons_succ, Option.bind_none], fun z => by cases z⟩
  rw [filter_no, List.map_nil] at e1
  have e2 : mLc (iL (mN 3)) (gN 7) (qNot (qVal (mF F_are_below (aC (mN 1) (aC (mN 7) (aC (mN 4) (aN))))))) (mN 7) [7] [.raw v, .val (.int (n : Nat)), .val (eS s), .val (.list (l.map eR)), .val (eR top), .val (eC rk), .un, .un, .un, .un, .un, .un, .un, .un, .un, .un, .un] = some (.list []) := by
    show (compGo _ _ _ [.raw v, .val (.int (n : Nat)), .val (eS s), .val (.list (l.map eR)), .val (eR top), .val (eC rk), .un, .un, .un, .un, .un, .un, .un, .un, .un, .un, .un] (l.map eR)).map _ = _
    rw [e1]
    rfl
  simp only [e2, a1, notIn_M ht, neD_self, ne_nil0, bodyF, sSeq, sRet, sSet, sSetO, sIf, sNil, sDrop, sAsg, sPar, setAll, sFrz, frz, sApp, sExt, sAug, sAugL, pV, pO, pN, mN, mC, aC, aN, aS, mTup, mTupS, mLst, mB, mU, mF, mSl, mAnd, mOr, mCh2, mCh3, qVal, asB, qAnd, qOr, qNot, qYes, dAdd, dSub, dMul, dLt, dLe, dGt, dGe, fI, fIc, dIx, dNot, dNeg, dIsN, gT, gTs, gN, iR, iL, iT, iE, iI, iK, wipeE, fLen, items, fTuple, fList, List.map, List.replicate, List.length, List.cons_append, List.nil_append, List.getElem?_cons_zero, List.getElem?_cons_succ, Option.bind_some, Option.map_some, Option.map_none, Bool.not_true, Bool.not_false, Bool.false_eq_true, ↓reduceIte, decide_true, decide_false, List.set_cons_zero, List.set_cons_succ, Option.bind_none]
variable {r : Row} {l : List Row} {d4 d5 : D} {x6 : Sl}
theorem right71_x (F_law_bb_ranks F_law_reached : List D → Option D) {e f : D} (a1 : F_law_bb_ranks [.int (n : Nat), eR r] = some e) (a2 : F_law_reached [eR r] = some f) (x8 x9 x10 x11 x12 x13 x14 x15 x16 : Sl) :
    (sAsg (gT [gN 9, gN 10]) (mTup (aC (mF F_law_bb_ranks (aC (mN 1) (aC (mN 7) (aN)))) (aC (mF F_law_reached (aC (mN 7) (aN))) (aN))))) [.raw v, .val (.int (n : Nat)), .val (eS s), .val (.list (l.map eR)), .val d4, .val d5, x6, .val (eR r), x8, x9, x10, x11, x12, x13, x14, x15, x16]
    = some (.nx [.raw v, .val (.int (n : Nat)), .val (eS s), .val (.list (l.map eR)), .val d4, .val d5, x6, .val (eR r), x8, .val e, .val f, x11, x12, x13, x14, x15, x16]) := by
  simp only [a1, a2, bodyF, sSeq, sRet, sSet, sSetO, sIf, sNil, sDrop, sAsg, sPar, setAll, sFrz, frz, sApp, sExt, sAug, sAugL, pV, pO, pN, mN, mC, aC, aN, aS, mTup, mTupS, mLst, mB, mU, mF, mSl, mAnd, mOr, mCh2, mCh3, qVal, asB, qAnd, qOr, qNot, qYes, dAdd, dSub, dMul, dLt, dLe, dGt, dGe, fI, fIc, dIx, dNot, dNeg, dIsN, gT, gTs, gN, iR, iL, iT, iE, iI, iK, wipeE, fLen, items, fTuple, fList, List.map, List.replicate, List.length, List.cons_append, List.nil_append, List.getElem?_cons_zero, List.getElem?_cons_succ, Option.bind_some, Option.map_some, Option.map_none, Bool.not_true, Bool.not_false, Bool.false_eq_true, ↓reduceIte, decide_true, decide_false, List.set_cons_zero, List.set_cons_succ, Option.bind_none]
theorem for_inv {α : Type} {T : TgF} {b : En → Option Out} (e : α → D) (I : En → Prop) : ∀ xs : List α, (∀ x ∈ xs, ∀ ρ, I ρ → ∃ ρ1 ρ2, T (e x) ρ = some ρ1 ∧ b ρ1 = some (.nx ρ2) ∧ I ρ2) → ∀ ρ, I ρ → ∃ ρ', forGo T b (xs.map e) ρ = some (.nx ρ') ∧ I ρ'
  | [], _, ρ, h => ⟨ρ, rfl, h⟩
  | x :: xs, h, ρ, hI => by
    obtain ⟨ρ1, ρ2, h1, h2, h3⟩ := h x List.mem_cons_self ρ hI
    obtain ⟨ρ', h4, h5⟩ := for_inv e I xs (fun y hy => h y (List.mem_cons_of_mem _ hy)) ρ2 h3
    refine ⟨ρ', ?_, h5⟩
    rw [List.map_cons]
    unfold forGo
    rw [h1, Option.bind_some, h2, Option.bind_some]
    exact h4
theorem eq_nilB (m : List Bar) : dEq (.list (m.map eB)) (.list []) = some (.bool m.isEmpty) := by
  have e1 : PyData.eqv (.list (m.map eB)) (.list []) = m.isEmpty := by
    cases m with
    | nil => simp [PyData.eqv, PyData.eqvAll]
    | cons r l => simp [PyData.eqv, PyData.eqvAll]
  have e2 : SeqAt.shaped (.list ([] : List D)) = true := shaped_bars []
  simp only [dEq, shaped_bars, e1, e2, Bool.and_self, if_true]
theorem below_filter (n : Nat) (r o : Row) : ((barsM n).filter fun b => decide (rkM o b.1 b.2 < rkM r b.1 b.2)).isEmpty = belowM n r o := by
  unfold belowM
  rw [Bool.eq_iff_iff, List.isEmpty_iff, List.filter_eq_nil_iff, List.all_eq_true]
  exact ⟨fun h b hb => decide_eq_true (Int.not_lt.mp fun z => h b hb (decide_eq_true z)), fun h b hb z => absurd (of_decide_eq_true z) (Int.not_lt.mpr (of_decide_eq_true (h b hb)))⟩
theorem right72_x (F_law_bb_ranks F_are_below : List D → Option D) {found : List Row} (a1 : ∀ r, F_law_bb_ranks [.int (n : Nat), eR r] = some (eC (ranksM n r))) (a2 : ∀ o ∈ l, F_are_below [.int (n : Nat), eR r, eR o] = some (.bool (belowM n r o))) (a3 : ∀ o ∈ l, decide (o ∈ found) = belowM n r o) (x8 x11 x12 x13 x14 x15 x16 : Sl) (hx : noOwn [x8, x11, x12] = true) :
    ∃ y8 y11 y12, noOwn [y8, y11, y12] = true ∧ (sFor (iL (mN 3)) (gN 8) (sSeq (sSet 11 (mF F_law_bb_ranks (aC (mN 1) (aC (mN 8) (aN)))))   (sSeq (sSet 12 (mB dEq (mLc (iK (mN 9)) (gN 16) (qVal (mB dGt (mB dGet (mN 9) (mN 16)) (mB dGet (mN 11) (mN 16)))) (mN 16) [16]) (mLst (aN))))   (sIf (qOr (qVal (mB dNe (mF F_are_below (aC (mN 1) (aC (mN 7) (aC (mN 8) (aN))))) (mN 12))) (qVal (mB dNe (mB dDIn (mN 8) (mN 10)) (mN 12)))) (sRet (mC (.bool false))) (sNil))))) [.raw v, .val (.int (n : Nat)), .val (eS s), .val (.list (l.map eR)), .val d4, .val d5, x6, .val (eR r), x8, .val (eC (ranksM n r)), .val (eK found), x11, x12, x13, x14, x15, x16]
      = some (.nx [.raw v, .val (.int (n : Nat)), .val (eS s), .val (.list (l.map eR)), .val d4, .val d5, x6, .val (eR r), y8, .val (eC (ranksM n r)), .val (eK found), y11, y12, x13, x14, x15, x16]) := by
  obtain ⟨ρ', h1, y8, y11, y12, h2, h3⟩ := for_inv (T := gN 8) (b := (sSeq (sSet 11 (mF F_law_bb_ranks (aC (mN 1) (aC (mN 8) (aN)))))
  (sSeq (sSet 12 (mB dEq (mLc (iK (mN 9)) (gN 16) (qVal (mB dGt (mB dGet (mN 9) (mN 16)) (mB dGet (mN 11) (mN 16)))) (mN 16) [16]) (mLst (aN))))
  (sIf (qOr (qVal (mB dNe (mF F_are_below (aC (mN 1) (aC (mN 7) (aC (mN 8) (aN))))) (mN 12))) (qVal (mB dNe (mB dDIn (mN 8) (mN 10)) (mN 12)))) (sRet (mC (.bool false))) (sNil))))) eR
    (fun ρ => ∃ y8 y11 y12, noOwn [y8, y11, y12] = true ∧ ρ = [.raw v, .val (.int (n : Nat)), .val (eS s), .val (.list (l.map eR)), .val d4, .val d5, x6, .val (eR r), y8, .val (eC (ranksM n r)), .val (eK found), y11, y12, x13, x14, x15, x16]) l (fun o ho ρ hI => by
      obtain ⟨y8, y11, y12, _, rfl⟩ := hI
      refine ⟨[.raw v, .val (.int (n : Nat)), .val (eS s), .val (.list (l.map eR)), .val d4, .val d5, x6, .val (eR r), .val (eR o), .val (eC (ranksM n r)), .val (eK found), y11, y12, x13, x14, x15, x16], [.raw v, .val (.int (n : Nat)), .val (eS s), .val (.list (l.map eR)), .val d4, .val d5, x6, .val (eR r), .val (eR o), .val (eC (ranksM n r)), .val (eK found), .val (eC (ranksM n o)), .val (.bool (belowM n r o)), x13, x14, x15, x16], rfl, ?_, _, _, _, rfl, rfl⟩
      have e1 : sSet 11 (mF F_law_bb_ranks (aC (mN 1) (aC (mN 8) (aN)))) [.raw v, .val (.int (n : Nat)), .val (eS s), .val (.list (l.map eR)), .val d4, .val d5, x6, .val (eR r), .val (eR o), .val (eC (ranksM n r)), .val (eK found), y11, y12, x13, x14, x15, x16]
        = some (.nx [.raw v, .val (.int (n : Nat)), .val (eS s), .val (.list (l.map eR)), .val d4, .val d5, x6, .val (eR r), .val (eR o), .val (eC (ranksM n r)), .val (eK found), .val (eC (ranksM n o)), y12, x13, x14, x15, x16]) := by
        simp only [a1, bodyF, sSeq, sRet, sSet, sSetO, sIf, sNil, sDrop, sAsg, sPar, setAll, sFrz, frz, sApp, sExt, sAug, sAugL, pV, pO, pN, mN, mC, aC, aN, aS, mTup, mTupS, mLst, mB, mU, mF, mSl, mAnd, mOr, mCh2, mCh3, qVal, asB, qAnd, qOr, qNot, qYes, dAdd, dSub, dMul, dLt, dLe, dGt, dGe, fI, fIc, dIx, dNot, dNeg, dIsN, gT, gTs, gN, iR, iL, iT, iE, iI, iK, wipeE, fLen, items, fTuple, fList, List.map, List.replicate, List.length, List.cons_append, List.nil_append, List.getElem?_cons_zero, List.getElem?_cons_succ, Option.bind_some, Option.map_some, Option.map_none, Bool.not_true, Bool.not_false, Bool.false_eq_true, ↓reduceIte, decide_true, decide_false, List.set_cons_zero, List.set_cons_succ, Option.bind_none]
      have e2 := compGo_map (T := gN 16) (q := (qVal (mB dGt (mB dGet (mN 9) (mN 16)) (mB dGet (mN 11) (mN 16))))) (f := mN 16) (ρ := [.raw v, .val (.int (n : Nat)), .val (eS s), .val (.list (l.map eR)), .val d4, .val d5, x6, .val (eR r), .val (eR o), .val (eC (ranksM n r)), .val (eK found), .val (eC (ranksM n o)), y12, x13, x14, x15, .un]) eB (fun b => decide (rkM o b.1 b.2 < rkM r b.1 b.2)) eB (barsM n) fun b hb =>
        ⟨[.raw v, .val (.int (n : Nat)), .val (eS s), .val (.list (l.map eR)), .val d4, .val d5, x6, .val (eR r), .val (eR o), .val (eC (ranksM n r)), .val (eK found), .val (eC (ranksM n o)), y12, x13, x14, x15, .val (eB b)], rfl, by
          have g1 : dGet (eC (ranksM n r)) (eB b) = some (.int (rkM r b.1 b.2)) := get_eC (find_map (fun b => rkM r b.1 b.2) hb)
          have g2 : dGet (eC (ranksM n o)) (eB b) = some (.int (rkM o b.1 b.2)) := get_eC (find_map (fun b => rkM o b.1 b.2) hb)
          simp only [qVal, mB, mN, List.getElem?_cons_zero, List.getElem?_cons_succ, Option.bind_some, g1, g2, dGt_i, asB], fun _ => rfl⟩
      have e3 : mLc (iK (mN 9)) (gN 16) (qVal (mB dGt (mB dGet (mN 9) (mN 16)) (mB dGet (mN 11) (mN 16)))) (mN 16) [16] [.raw v, .val (.int (n : Nat)), .val (eS s), .val (.list (l.map eR)), .val d4, .val d5, x6, .val (eR r), .val (eR o), .val (eC (ranksM n r)), .val (eK found), .val (eC (ranksM n o)), y12, x13, x14, x15, x16] = some (.list (((barsM n).filter fun b => decide (rkM o b.1 b.2 < rkM r b.1 b.2)).map eB)) := by
        have e4 : iK (mN 9) [.raw v, .val (.int (n : Nat)), .val (eS s), .val (.list (l.map eR)), .val d4, .val d5, x6, .val (eR r), .val (eR o), .val (eC (ranksM n r)), .val (eK found), .val (eC (ranksM n o)), y12, x13, x14, x15, x16] = some ((barsM n).map eB) := by
          show some (((ranksM n r).map eE).map (·.1)) = _
          rw [keys_eC, ranksM, keys_map]
        rw [mLc, e4, Option.bind_some]
        show (compGo _ _ _ [.raw v, .val (.int (n : Nat)), .val (eS s), .val (.list (l.map eR)), .val d4, .val d5, x6, .val (eR r), .val (eR o), .val (eC (ranksM n r)), .val (eK found), .val (eC (ranksM n o)), y12, x13, x14, x15, .un] _).map _ = _
        rw [e2]
        rfl
      have e5 : sSet 12 (mB dEq (mLc (iK (mN 9)) (gN 16) (qVal (mB dGt (mB dGet (mN 9) (mN 16)) (mB dGet (mN 11) (mN 16)))) (mN 16) [16]) (mLst (aN))) [.raw v, .val (.int (n : Nat)), .val (eS s), .val (.list (l.map eR)), .val d4, .val d5, x6, .val (eR r), .val (eR o), .val (eC (ranksM n r)), .val (eK found), .val (eC (ranksM n o)), y12, x13, x14, x15, x16]
        = some (.nx [.raw v, .val (.int (n : Nat)), .val (eS s), .val (.list (l.map eR)), .val d4, .val d5, x6, .val (eR r), .val (eR o), .val (eC (ranksM n r)), .val (eK found), .val (eC (ranksM n o)), .val (.bool (belowM n r o)), x13, x14, x15, x16]) := by
        simp only [sSet, mB, e3, mLst, aN, Option.bind_some, eq_nilB, below_filter, Option.map_some]
        rfl
      rw [sSeq_nx e1, sSeq_nx e5]
      simp only [a2 o ho, in_eK, a3 o ho, dNe_bool, bodyF, sSeq, sRet, sSet, sSetO, sIf, sNil, sDrop, sAsg, sPar, setAll, sFrz, frz, sApp, sExt, sAug, sAugL, pV, pO, pN, mN, mC, aC, aN, aS, mTup, mTupS, mLst, mB, mU, mF, mSl, mAnd, mOr, mCh2, mCh3, qVal, asB, qAnd, qOr, qNot, qYes, dAdd, dSub, dMul, dLt, dLe, dGt, dGe, fI, fIc, dIx, dNot, dNeg, dIsN, gT, gTs, gN, iR, iL, iT, iE, iI, iK, wipeE, fLen, items, fTuple, fList, List.map, List.replicate, List.length, List.cons_append, List.nil_append, List.getElem?_cons_zero, List.getElem?_cons_succ, Option.bind_some, Option.map_some, Option.map_none, Bool.not_true, Bool.not_false, Bool.false_eq_true, ↓reduceIte, decide_true, decide_false, List.set_cons_zero, List.set_cons_succ, Option.bind_none]) [.raw v, .val (.int (n : Nat)), .val (eS s), .val (.list (l.map eR)), .val d4, .val d5, x6, .val (eR r), x8, .val (eC (ranksM n r)), .val (eK found), x11, x12, x13, x14, x15, x16] ⟨x8, x11, x12, hx, rfl⟩
  subst h3
  exact ⟨y8, y11, y12, h2, h1⟩
theorem right73_x (F_law_steps F_bar_homs : List D → Option D) {ss : List Row} (a1 : F_law_steps [eR r] = some (.list (ss.map eR))) (a2 : F_bar_homs [.int (n : Nat), eR r, eR r] = some (.int (homsM r r))) (a3 : ∀ o ∈ ss, F_bar_homs [.int (n : Nat), eR o, eR o] = some (.int (homsM o o)) ∧ homsM o o < homsM r r) (x8 x9 x10 x11 x12 x13 x14 x15 x16 : Sl) :
    (sIf (qVal (mB dNe (mLc (iL (mF F_law_steps (aC (mN 7) (aN)))) (gN 15) (qVal (mB dGe (mF F_bar_homs (aC (mN 1) (aC (mN 15) (aC (mN 15) (aN))))) (mF F_bar_homs (aC (mN 1) (aC (mN 7) (aC (mN 7) (aN))))))) (mN 15) [15]) (mLst (aN)))) (sRet (mC (.bool false))) (sNil)) [.raw v, .val (.int (n : Nat)), .val (eS s), .val (.list (l.map eR)), .val d4, .val d5, x6, .val (eR r), x8, x9, x10, x11, x12, x13, x14, x15, x16]
      = some (.nx [.raw v, .val (.int (n : Nat)), .val (eS s), .val (.list (l.map eR)), .val d4, .val d5, x6, .val (eR r), x8, x9, x10, x11, x12, x13, x14, x15, x16]) := by
  have e1 := compGo_map (T := gN 15) (q := (qVal (mB dGe (mF F_bar_homs (aC (mN 1) (aC (mN 15) (aC (mN 15) (aN))))) (mF F_bar_homs (aC (mN 1) (aC (mN 7) (aC (mN 7) (aN)))))))) (f := mN 15) (ρ := [.raw v, .val (.int (n : Nat)), .val (eS s), .val (.list (l.map eR)), .val d4, .val d5, x6, .val (eR r), x8, x9, x10, x11, x12, x13, x14, .un, x16]) eR (fun _ => false) eR ss fun o ho =>
    ⟨[.raw v, .val (.int (n : Nat)), .val (eS s), .val (.list (l.map eR)), .val d4, .val d5, x6, .val (eR r), x8, x9, x10, x11, x12, x13, x14, .val (eR o), x16], rfl, by
      have e3 := decide_eq_false (Int.not_le.mpr (a3 o ho).2)
      simp only [qVal, mB, mF, aC, aN, mN, List.getElem?_cons_zero, List.getElem?_cons_succ, Option.bind_some, (a3 o ho).1, a2, dGe_i, asB, e3], fun z => by cases z⟩
  rw [filter_no, List.map_nil] at e1
  have e2 : mLc (iL (mF F_law_steps (aC (mN 7) (aN)))) (gN 15) (qVal (mB dGe (mF F_bar_homs (aC (mN 1) (aC (mN 15) (aC (mN 15) (aN))))) (mF F_bar_homs (aC (mN 1) (aC (mN 7) (aC (mN 7) (aN))))))) (mN 15) [15] [.raw v, .val (.int (n : Nat)), .val (eS s), .val (.list (l.map eR)), .val d4, .val d5, x6, .val (eR r), x8, x9, x10, x11, x12, x13, x14, x15, x16] = some (.list []) := by
    have e4 : iL (mF F_law_steps (aC (mN 7) (aN))) [.raw v, .val (.int (n : Nat)), .val (eS s), .val (.list (l.map eR)), .val d4, .val d5, x6, .val (eR r), x8, x9, x10, x11, x12, x13, x14, x15, x16] = some (ss.map eR) := by
      simp only [iL, mF, aC, aN, mN, List.getElem?_cons_zero, List.getElem?_cons_succ, Option.bind_some, a1]
    rw [mLc, e4, Option.bind_some]
    show (compGo _ _ _ [.raw v, .val (.int (n : Nat)), .val (eS s), .val (.list (l.map eR)), .val d4, .val d5, x6, .val (eR r), x8, x9, x10, x11, x12, x13, x14, .un, x16] _).map _ = _
    rw [e1]
    rfl
  simp only [e2, ne_nil0, bodyF, sSeq, sRet, sSet, sSetO, sIf, sNil, sDrop, sAsg, sPar, setAll, sFrz, frz, sApp, sExt, sAug, sAugL, pV, pO, pN, mN, mC, aC, aN, aS, mTup, mTupS, mLst, mB, mU, mF, mSl, mAnd, mOr, mCh2, mCh3, qVal, asB, qAnd, qOr, qNot, qYes, dAdd_i, dSub_i, dLt_i, dLe_i, dGt_i, dGe_i, dIx, dNot, dNeg, dIsN, gT, gTs, gN, iR, iL, iT, iE, iI, iK, wipeE, fLen, items, fTuple, fList, List.map, List.replicate, List.length, List.cons_append, List.nil_append, List.getElem?_cons_zero, List.getElem?_cons_succ, Option.bind_some, Option.map_some, Option.map_none, Bool.not_true, Bool.not_false, Bool.false_eq_true, ↓reduceIte, decide_true, decide_false, List.set_cons_zero, List.set_cons_succ, Option.bind_none]
end
/-- the pure statements ahead of the turns -/
def sA : En → Option Out := sSeq s_right_2 (sSeq s_right_3 (sSeq s_right_4 (sSeq s_right_5 s_right_6)))
/-- the pure statements of a turn -/
def sT : En → Option Out := sSeq s_right_7_1 (sSeq s_right_7_2 s_right_7_3)
theorem rightA {v : L2.V} {n : Nat} {s : List Int} {bb rows : List Row} (a : 1 ≤ n) (b : n ≤ 4) (h : SzM n s) (f : Facts n s bb rows) : sA [.raw v, .val (.int (n : Nat)), .val (eS s), .un, .un, .un, .un, .un, .un, .un, .un, .un, .un, .un, .un, .un, .un]
    = some (.nx [.raw v, .val (.int (n : Nat)), .val (eS s), .val (.list ((sortR bb).map eR)), .val (eR (greatestM n s)), .val (eC (leastM n s)), .un, .un, .un, .un, .un, .un, .un, .un, .un, .un, .un]) := by
  have ht : greatestM n s ∈ sortR bb := mem_sortR.mpr f.top
  have g2 := right2_x (v := v) (n := n) (s := s) F_law_bb_rows (bb_rowsM a b h.1 f.is_bb f.ok2)
  have g3 := right3_x (v := v) (n := n) (s := s) G_bar_rows (xs := (sortR bb).map eR) (by rw [← f.same]; exact bar_rowsM a (by omega) h f.is_rows f.ok1) (shaped_rows _)
  have g4 := right4_x (v := v) (n := n) (s := s) F_greatest_bars (xs := .list ((sortR bb).map eR)) (greatestMM a b h)
  have g5 := right5_x (v := v) (n := n) (s := s) F_law_bb_all a b h (xs := .list ((sortR bb).map eR)) (d := eR (greatestM n s)) (bb_allM a b)
  have g6 := right6_x (v := v) (n := n) (s := s) F_law_bb_ranks F_are_below (l := sortR bb) (top := greatestM n s) (rk := leastM n s) (by rw [← f.least]; exact bb_ranksM a b _) (fun r hr => by
    have hr' := mem_sortR.mp hr
    have := are_belowM a b (f.each r hr').1 (f.each _ f.top).1 (by rw [(f.each r hr').2, (f.each _ f.top).2])
    rwa [f.below r hr'] at this) ht
  unfold sA
  rw [sSeq_nx (a := s_right_2) g2, sSeq_nx (a := s_right_3) g3, sSeq_nx (a := s_right_4) g4, sSeq_nx (a := s_right_5) g5]
  exact g6
theorem rightT {v : L2.V} {n : Nat} {s : List Int} {bb rows : List Row} {r : Row} {d4 d5 : D} (a : 1 ≤ n) (b : n ≤ 4) (f : Facts n s bb rows) (hr : r ∈ bb) (x6 x8 x9 x10 x11 x12 x13 x14 x15 x16 : Sl) (hx : noOwn [x8, x11, x12] = true) :
    ∃ y8 y9 y10 y11 y12, noOwn [y8, y9, y10, y11, y12] = true ∧ sT [.raw v, .val (.int (n : Nat)), .val (eS s), .val (.list ((sortR bb).map eR)), .val d4, .val d5, x6, .val (eR r), x8, x9, x10, x11, x12, x13, x14, x15, x16]
      = some (.nx [.raw v, .val (.int (n : Nat)), .val (eS s), .val (.list ((sortR bb).map eR)), .val d4, .val d5, x6, .val (eR r), y8, y9, y10, y11, y12, x13, x14, x15, x16]) := by
  obtain ⟨ss, found, h1, h2, h3, h4⟩ := f.steps r hr
  have g1 := right71_x (v := v) (n := n) (s := s) (r := r) (l := sortR bb) (d4 := d4) (d5 := d5) (x6 := x6) F_law_bb_ranks F_law_reached (bb_ranksM a b r) (reachedMM h2) x8 x9 x10 x11 x12 x13 x14 x15 x16
  obtain ⟨y8, y11, y12, hy, g2⟩ := right72_x (v := v) (n := n) (s := s) (r := r) (l := sortR bb) (d4 := d4) (d5 := d5) (x6 := x6) F_law_bb_ranks F_are_below (found := found) (bb_ranksM a b) (fun o ho => are_belowM a b (f.each r hr).1 (f.each o (mem_sortR.mp ho)).1 (by rw [(f.each r hr).2, (f.each o (mem_sortR.mp ho)).2])) (fun o ho => h4 o (mem_sortR.mp ho)) x8 x11 x12 x13 x14 x15 x16 hx
  have g3 := right73_x (v := v) (n := n) (s := s) (r := r) (l := sortR bb) (d4 := d4) (d5 := d5) (x6 := x6) F_law_steps F_bar_homs (stepsMM h1) (bar_homsM a (by omega) (f.each r hr).1 (f.each r hr).1) (fun o ho => ⟨bar_homsM a (by omega) (h3 o ho).1 (h3 o ho).1, (h3 o ho).2⟩) y8 (.val (eC (ranksM n r))) (.val (eK found)) y11 y12 x13 x14 x15 x16
  refine ⟨y8, .val (eC (ranksM n r)), .val (eK found), y11, y12, ?_, ?_⟩
  · simpa [noOwn] using hy
  · unfold sT
    rw [sSeq_nx (a := s_right_7_1) g1, sSeq_nx (a := s_right_7_2) g2]
    exact g3
end Ar

end
section
set_option Elab.async false
set_option linter.all false
set_option maxRecDepth 100000
set_option maxHeartbeats 4000000
namespace Ar
open PySem PySem.Spec PyProof.Rows L2 Dl
theorem Rep.rebase [Wd] {H0 B H H1 H2 : Hp} {σ : L2.St} {ρ : En} (r : Rep H0 B σ H ρ) (hn : noOwn ρ = true) (s : Same B H2) : Rep H1 B σ H2 ρ where
  len := r.len
  sub := s
  val := r.val
  own := fun i d e => (noOwn_no hn e).elim
  raw := r.raw
  ne := fun i j d e o h1 => (noOwn_no hn h1).elim
theorem den_ints [Wd] {B : Hp} : ∀ ns : List Int, DenA B (ns.map V.int) (ns.map PyData.int)
  | [] => .nil
  | n :: ns => .cons (.int n) (den_ints ns)
/-- the first part's slots -/
theorem rep_A [Wd] {B H : Hp} {L p : Addr} {n : Nat} {s : List Int} (sB : Same B H) (hp : Den B (.ref p) (eS s)) :
    Rep H B [some (.ref L), some (.int (n : Nat)), some (.ref p), none, none, none, none, none, none, none, none, none, none, none, none, none, none] H [.raw (.ref L), .val (.int (n : Nat)), .val (eS s), .un, .un, .un, .un, .un, .un, .un, .un, .un, .un, .un, .un, .un, .un] where
  len := rfl
  sub := sB
  val := fun i d e => by
    match i with
    | 0 => cases e
    | 1 => cases e; exact ⟨_, rfl, .int _⟩
    | 2 => cases e; exact ⟨_, rfl, hp⟩
    | i + 3 =>
      have : Sl.val d ∈ List.replicate 14 Sl.un := List.mem_of_getElem? (i := i) e
      rw [List.mem_replicate] at this
      cases this.2
  own := fun i d e => (noOwn_no (by rfl) e).elim
  raw := fun i v e => by
    match i with
    | 0 => cases e; rfl
    | 1 => cases e
    | 2 => cases e
    | i + 3 =>
      have : Sl.raw v ∈ List.replicate 14 Sl.un := List.mem_of_getElem? (i := i) e
      rw [List.mem_replicate] at this
      cases this.2
  ne := fun i j d e o h1 => (noOwn_no (by rfl) h1).elim
theorem sx_seq [Wd] {t u : TS} {a b : En → Option Out} (h2 : Sx t a) (k2 : Sx u b) : Sx (tSeq t u) (sSeq a b) := fun ρ o e H0 B0 B σ H E v r p => by
  obtain ⟨o1, e1, e⟩ := Dl.bind_some' e
  refine h2 ρ o1 e1 H0 B0 B σ H _ v r ?_
  cases o1 with
  | nx ρ' => exact fun B' σ' H' v' r' => k2 ρ' o e H0 B0 B' σ' H' E v' r' p
  | rt d => cases e; exact p
/-- the slots at a turn -/
def enT (L : Addr) (n : Nat) (s : List Int) (bb : List Row) (x6 x7 x8 x9 x10 x11 x12 x13 x14 x15 x16 : Sl) : En := [.raw (.ref L), .val (.int (n : Nat)), .val (eS s), .val (.list ((sortR bb).map eR)), .val (eR (greatestM n s)), .val (eC (leastM n s)), x6, x7, x8, x9, x10, x11, x12, x13, x14, x15, x16]
def InvT [Wd] (L : Addr) (n : Nat) (s : List Int) (bb : List Row) (σ : L2.St) (H : Hp) : Prop :=
  ∃ (B : Hp) (x6 x7 x8 x9 x10 x11 x12 x13 x14 x15 x16 : Sl), noOwn (enT L n s bb x6 x7 x8 x9 x10 x11 x12 x13 x14 x15 x16) = true ∧ B L = none ∧ LotOk H L ∧ Rep H B σ H (enT L n s bb x6 x7 x8 x9 x10 x11 x12 x13 x14 x15 x16)
theorem LotOk.ne {H : Hp} {L : Addr} (h : LotOk H L) : H L ≠ none := by
  obtain ⟨a, b, c, e, _⟩ := h
  have e : H L = _ := e
  rw [e]
  exact fun z => by cases z
abbrev FactsAll : Prop := ∀ (n : Nat) (s : List Int), 1 ≤ n → n ≤ 4 → SzM n s → s.sum ≤ 7 → ∃ bb rows, Facts n s bb rows
def spRight : Sp := fun vs H Q _ => ∃ L : Addr, vs = [.ref L] ∧ LotOk H L ∧ ∀ H', Mv L H H' → LotOk H' L → Q (.bl true) H'
section
variable {P : Program} {K : PySem.W.Frag} {mg : Str → Option Value} {base : Heap}
theorem ok_right [Wd] (facts : FactsAll) (TT : Tx mg) (S : Std K mg "_law_right" t_right ["_law_lot_here"]) (c_pull : CalS P Wd.w K mg base 1 "_law_pull" spPull) (c_one : CalS P Wd.w K mg base 2 "_law_one_of" spOne) (c_drawn : CalS P Wd.w K mg base 2 "_law_sizes_drawn" spDrawn)
    (c_law_bb_rows : CalD P Wd.w K mg base 2 "_law_bb_rows" 1 F_law_bb_rows) (c_bar_rows : CalG P Wd.w K mg base 4 "bar_rows" 1 G_bar_rows) (c_greatest_bars : CalD P Wd.w K mg base 4 "greatest_bars" 1 F_greatest_bars) (c_law_bb_all : CalD P Wd.w K mg base 1 "_law_bb_all" 1 F_law_bb_all)
    (c_law_bb_ranks : CalD P Wd.w K mg base 2 "_law_bb_ranks" 2 F_law_bb_ranks) (c_are_below : CalD P Wd.w K mg base 7 "are_below" 3 F_are_below) (c_law_reached : CalD P Wd.w K mg base 3 "_law_reached" 1 F_law_reached) (c_law_steps : CalD P Wd.w K mg base 2 "_law_steps" 1 F_law_steps) (c_bar_homs : CalD P Wd.w K mg base 7 "bar_homs" 3 F_bar_homs) :
    CalS P Wd.w K mg base 8 "_law_right" spRight := by
  refine calS (k := 7) S sc_right (fun vs H Q E h => ?_) fun f cdv A outer s H vs Q E hr h => ?_
  · obtain ⟨L, rfl, _⟩ := h
    rfl
  · obtain ⟨L, rfl, hL, q⟩ := h
    let i : CallI 7 "_law_right" (defScope t_right) f := ⟨cdv, A, outer, s, H, E, hr⟩
    obtain ⟨t2, p2, z2⟩ := (d_right_2 (base := base) TT c_law_bb_rows (f := f)).ex
    obtain ⟨t3, p3, z3⟩ := (d_right_3 (base := base) TT c_bar_rows (f := f)).ex
    obtain ⟨t4, p4, z4⟩ := (d_right_4 (base := base) TT c_greatest_bars (f := f)).ex
    obtain ⟨t5, p5, z5⟩ := (d_right_5 (base := base) TT c_law_bb_all (f := f)).ex
    obtain ⟨t6, p6, z6⟩ := (d_right_6 (base := base) TT c_law_bb_ranks c_are_below (f := f)).ex
    obtain ⟨u1, q1, y1⟩ := (d_right_7_1 (base := base) TT c_law_reached c_law_bb_ranks (f := f)).ex
    obtain ⟨u2, q2, y2⟩ := (d_right_7_2 (base := base) TT c_law_bb_ranks c_are_below (f := f)).ex
    obtain ⟨u3, q3, y3⟩ := (d_right_7_3 (base := base) TT c_law_steps c_bar_homs (f := f)).ex
    have zA : Sx (tSeq t2 (tSeq t3 (tSeq t4 (tSeq t5 t6)))) sA := sx_seq z2 (sx_seq z3 (sx_seq z4 (sx_seq z5 z6)))
    have zT : Sx (tSeq u1 (tSeq u2 u3)) sT := sx_seq y1 (sx_seq y2 y3)
    -- a turn
    obtain ⟨tb, wb, hb⟩ : ∃ t, PSs (cxOf CX0 P Wd.w K mg base N_right "_law_right" (defScope t_right) f cdv A outer s H E).nox (forBody ((defBody t_right).getD 7 (.Pass ⟨0, 0, 0, 0⟩))) t ∧
        ∀ (n : Nat) (ns : List Int) (bb rows : List Row), 1 ≤ n → n ≤ 4 → Facts n ns bb rows → ∀ (D : Ends) (σ : L2.St) (Hc : Hp), InvT L n ns bb σ Hc → (∀ σ' H', InvT L n ns bb σ' H' → Mv L Hc H' → D.nx σ' H') → t D σ Hc := by
      refine ⟨_, pss_cons (ps_set (i := 7) sc_right.nd rfl (.inr rfl) (pe_calS c_one ⟨rfl, rfl, rfl, rfl, rfl⟩ hr (by decide) rfl (pa_cons (pv 0) (pa_cons (pv 3) pa_nil))))
        (pss_cons (q1 i) (pss_cons (q2 i) (pss_one (q3 i)))), fun n ns bb rows n1 n4 fa D σ Hc hI hD => ?_⟩
      obtain ⟨B, x6, x7, x8, x9, x10, x11, x12, x13, x14, x15, x16, no, hB, lot, rp⟩ := hI
      obtain ⟨v3, e3, d3⟩ := rp.val 3 _ rfl
      have hm : greatestM n ns ∈ sortR bb := mem_sortR.mpr fa.top
      refine ⟨.ref L, rp.raw 0 _ rfl, v3, e3, L, v3, B, (sortR bb).map eR, rfl, rp.sub, hB, lot, d3, ?_, ?_, fun v' d H' mv lot' sB hd den => ?_⟩
      · rw [List.length_map]
        exact List.length_pos_of_mem hm
      · cases d3 with
        | lst e z hda =>
          rw [← hda.length]
          exact Nat.lt_of_le_of_lt z (by decide)
      · obtain ⟨r, hr1, rfl⟩ := List.mem_map.mp hd
        have hr2 := mem_sortR.mp hr1
        have rp1 : Rep H' B (σ.set 7 (some v')) H' (enT L n ns bb x6 (.val (eR r)) x8 x9 x10 x11 x12 x13 x14 x15 x16) := (Rep.rebase (H1 := H') rp no sB).set den 7
        have nx : noOwn [x8, x11, x12] = true := by
          simp only [noOwn, enT, List.all_cons, List.all_nil, Bool.and_eq_true, and_true, true_and] at no ⊢
          exact ⟨no.2.2.1, no.2.2.2.2.2.1, no.2.2.2.2.2.2.1⟩
        obtain ⟨y8, y9, y10, y11, y12, hy, eT⟩ := rightT (v := .ref L) (d4 := eR (greatestM n ns)) (d5 := eC (leastM n ns)) n1 n4 fa hr2 x6 x8 x9 x10 x11 x12 x13 x14 x15 x16 nx
        refine zT _ _ eT H' B B (σ.set 7 (some v')) H' D (.refl sB) rp1 fun B' σ' H2 va r' => ?_
        have no' : noOwn (enT L n ns bb x6 (.val (eR r)) y8 y9 y10 y11 y12 x13 x14 x15 x16) = true := by
          simp only [noOwn, enT, List.all_cons, List.all_nil, Bool.and_eq_true, and_true, true_and] at no hy ⊢
          exact ⟨no.1, hy.1, hy.2.1, hy.2.2.1, hy.2.2.2.1, hy.2.2.2.2, no.2.2.2.2.2.2.2⟩
        exact hD σ' H2 ⟨B', x6, _, y8, y9, y10, y11, y12, x13, x14, x15, x16, no', va.n L hB lot'.ne, lot'.same va.h, Rep.rebase r' no' r'.sub⟩ (mv.trans (.of va.h))
    -- the turns, then True
    obtain ⟨tt, wt, ht⟩ : ∃ t, PSs (cxOf CX0 P Wd.w K mg base N_right "_law_right" (defScope t_right) f cdv A outer s H E).nox ((defBody t_right).drop 7) t ∧
        ∀ (n : Nat) (ns : List Int) (bb rows : List Row), 1 ≤ n → n ≤ 4 → Facts n ns bb rows → ∀ (σ : L2.St) (Hc : Hp), InvT L n ns bb σ Hc → Mv L H Hc → t { nx := fun _ H' => Q .non H', rt := Q } σ Hc := by
      refine ⟨_, pss_cons (ps_for PassesOwn.never rfl (pi_range1 rfl TT.range (pa_cons pe_int pa_nil)) (pg_name (i := 6) sc_right.nd rfl (.inl rfl)) wb) (pss_one (ps_ret pe_bl)), fun n ns bb rows n1 n4 fa σ Hc hI mv => ?_⟩
      refine ⟨_, rfl, by decide, by decide, ?_⟩
      refine ⟨fun j m σ H1 => j + m = 3 ∧ InvT L n ns bb σ H1 ∧ Mv L H H1, ⟨3, rfl, hI, mv⟩, ?_⟩
      rintro j m σ1 H1 ⟨hj, hI1, mv1⟩
      by_cases hi : j < (3 : Int).toNat
      · refine .inr ⟨hi, fun σ' H' => InvT L n ns bb σ' H' ∧ Mv L H H', fun σ' H' h => ⟨m - 1, ?_, ?_, h⟩, fun x H' hy => ?_⟩
        · have : j < 3 := hi
          omega
        · have : j < 3 := hi
          omega
        · obtain ⟨rfl, rfl⟩ := hy
          obtain ⟨B, x6, x7, x8, x9, x10, x11, x12, x13, x14, x15, x16, no, hB, lot, rp⟩ := hI1
          refine hb n ns bb rows n1 n4 fa _ _ _ ⟨B, .val (.int (0 + (j : Nat))), x7, x8, x9, x10, x11, x12, x13, x14, x15, x16, ?_, hB, lot, rp.set (.int _) 6⟩ fun σ' H2 h mv2 => ⟨h, mv1.trans mv2⟩
          simp only [noOwn, enT, List.all_cons, List.all_nil, Bool.and_eq_true, and_true, true_and] at no ⊢
          exact no.2
      · refine .inl ⟨Nat.le_of_not_lt hi, ?_⟩
        obtain ⟨B, x6, x7, x8, x9, x10, x11, x12, x13, x14, x15, x16, no, hB, lot, rp⟩ := hI1
        exact q _ mv1 lot
    -- the pure part
    obtain ⟨tm, wm, hm⟩ : ∃ t, PSs (cxOf CX0 P Wd.w K mg base N_right "_law_right" (defScope t_right) f cdv A outer s H E).nox ((defBody t_right).drop 2) t ∧
        ∀ (n : Nat) (ns : List Int) (p : Addr) (Hc : Hp), 1 ≤ n → n ≤ 4 → SzM n ns → ns.sum ≤ 7 → Mv L H Hc → LotOk Hc L → p ≠ L → Hc p = some (.tup (ns.map V.int)) → t { nx := fun _ H' => Q .non H', rt := Q } [some (.ref L), some (.int (n : Nat)), some (.ref p), none, none, none, none, none, none, none, none, none, none, none, none, none, none] Hc := by
      refine ⟨_, pss_cons (p2 i) (pss_cons (p3 i) (pss_cons (p4 i) (pss_cons (p5 i) (pss_cons (p6 i) wt)))), fun n ns p Hc n1 n4 sz sm mv lot pL hp => ?_⟩
      obtain ⟨bb, rows, fa⟩ := facts n ns n1 n4 sz sm
      have sB : Same (upd (fun _ => none) p (.tup (ns.map V.int)) : Hp) Hc := fun x o e => by
        by_cases h : x = p
        · subst h
          rw [upd_same] at e
          rw [hp]
          exact e
        · rw [upd_ne h] at e
          cases e
      have bL : (upd (fun _ => none) p (.tup (ns.map V.int)) : Hp) L = none := by rw [upd_ne (fun z => pL z.symm)]
      have den : Den (upd (fun _ => none) p (.tup (ns.map V.int)) : Hp) (.ref p) (eS ns) := .tup upd_same (by rw [List.length_map, sz.1]; exact Nat.le_trans n4 (by decide)) (den_ints ns)
      exact zA _ _ (rightA (v := .ref L) n1 n4 sz fa) Hc _ _ _ Hc { nx := fun σ' H' => tt { nx := fun _ H' => Q .non H', rt := Q } σ' H', rt := Q } (.refl sB) (rep_A sB den) fun B' σ' H2 va r' =>
        ht n ns bb rows n1 n4 fa σ' H2 ⟨B', .un, .un, .un, .un, .un, .un, .un, .un, .un, .un, .un, rfl, va.n L bL lot.ne, lot.same va.h, Rep.rebase r' rfl r'.sub⟩ (mv.trans (.of va.h))
    -- the second statement
    obtain ⟨t1, w1, h1⟩ : ∃ t, PS (cxOf CX0 P Wd.w K mg base N_right "_law_right" (defScope t_right) f cdv A outer s H E).nox ((defBody t_right).getD 1 (.Pass ⟨0, 0, 0, 0⟩)) t ∧
        ∀ (n : Nat) (D : Ends) (Hc : Hp), 1 ≤ n → n ≤ 4 → Mv L H Hc → LotOk Hc L → (∀ (ns : List Int) (p : Addr) (H' : Hp), SzM n ns → ns.sum ≤ 7 → Mv L H H' → LotOk H' L → p ≠ L → H' p = some (.tup (ns.map V.int)) → D.nx [some (.ref L), some (.int (n : Nat)), some (.ref p), none, none, none, none, none, none, none, none, none, none, none, none, none, none] H') →
        t D [some (.ref L), some (.int (n : Nat)), none, none, none, none, none, none, none, none, none, none, none, none, none, none, none] Hc := by
      refine ⟨_, ps_set (i := 2) sc_right.nd rfl (.inr rfl) (pe_calS c_drawn ⟨rfl, rfl, rfl, rfl, rfl⟩ hr (by decide) rfl (pa_cons (pv 0) (pa_cons (pv 1) (pa_cons (pe_op op_add pe_int (pe_calS c_pull ⟨rfl, rfl, rfl, rfl, rfl⟩ hr (by decide) rfl (pa_cons (pv 0) (pa_cons pe_int pa_nil)))) pa_nil)))), fun n D Hc n1 n4 mv lot hD => ?_⟩
      obtain ⟨a, b, c, lA, a0⟩ := lot
      refine ⟨.ref L, rfl, .int (n : Nat), rfl, .ref L, rfl, L, 4, a, b, c, rfl, by decide, by decide, lA, a0, fun r a1 c1 r0 r4 h1 => ⟨_, _, rfl, rfl, ?_⟩⟩
      refine ⟨L, n, 4 + r, rfl, n1, by omega, by omega, .put h1, fun p ns H' mv2 lot2 pn hp sz => ?_⟩
      refine hD ns p H' ⟨sz.1, sz.2.1⟩ (by have := sz.2.2; omega) ((mv.trans .lot).trans mv2) lot2 (fun z => ?_) hp
      rw [z, upd_same] at pn
      cases pn
    -- the first
    obtain ⟨t0, w0, h0⟩ : ∃ t, PS (cxOf CX0 P Wd.w K mg base N_right "_law_right" (defScope t_right) f cdv A outer s H E).nox ((defBody t_right).getD 0 (.Pass ⟨0, 0, 0, 0⟩)) t ∧
        ∀ (D : Ends), (∀ (n : Nat) (H' : Hp), 1 ≤ n → n ≤ 4 → Mv L H H' → LotOk H' L → D.nx [some (.ref L), some (.int (n : Nat)), none, none, none, none, none, none, none, none, none, none, none, none, none, none, none] H') →
        t D [some (.ref L), none, none, none, none, none, none, none, none, none, none, none, none, none, none, none, none] H := by
      refine ⟨_, ps_set (i := 1) sc_right.nd rfl (.inr rfl) (pe_op op_add pe_int (pe_calS c_pull ⟨rfl, rfl, rfl, rfl, rfl⟩ hr (by decide) rfl (pa_cons (pv 0) (pa_cons pe_int pa_nil)))), fun D hD => ?_⟩
      obtain ⟨a, b, c, lA, a0⟩ := hL
      refine ⟨.ref L, rfl, L, 4, a, b, c, rfl, by decide, by decide, lA, a0, fun r a1 c1 r0 r4 h1 => ⟨_, _, rfl, rfl, ?_⟩⟩
      obtain ⟨k, rfl⟩ := Int.eq_ofNat_of_zero_le r0
      have := hD (1 + k) (upd H L (.lst [.int a1, .int b, .int c1])) (by omega) (by omega) .lot (.put h1)
      rw [Int.natCast_add] at this
      exact this
    refine ⟨_, pss_cons w0 (pss_cons w1 wm), ?_⟩
    exact h0 _ fun n H1 n1 n4 mv lot => h1 n _ H1 n1 n4 mv lot fun ns p H' sz sm mv' lot' pL hp => hm n ns p H' n1 n4 sz sm mv' lot' pL hp
end
end Ar

end
section
set_option Elab.async false
set_option linter.all false
set_option maxRecDepth 100000
set_option maxHeartbeats 4000000
namespace Ar
open PySem PySem.Spec PyProof.Rows L2 Dl
section
variable {P : Program} {K : PySem.W.Frag} {mg : Str → Option Value} {base : Heap}
abbrev t_law : Stmt := topS 54
abbrev N_law : List Str := ["_law_script", "_law_spot", "_law_lot_here"]
theorem sc_law : FnScope N_law ["_law_script"] (defScope t_law) := ⟨rfl, rfl, rfl, by decide +kernel, rfl, by decide +kernel, by decide +kernel⟩
def s_law_1 : En → Option Out := sIf (qOr (qVal (mB dNe (mF (fun ds => (G_bar_rows ds).map .list) (aC (mTup (aC (mC (.int 1)) (aC (mC (.int 1)) (aN)))) (aN))) (mLst (aC (mTup (aC (mTup (aC (mTup (aC (mC (.int 0)) (aC (mC (.int 0)) (aN)))) (aC (mC (.int 1)) (aN)))) (aC (mTup (aC (mTup (aC (mC (.int 1)) (aC (mC (.int 1)) (aN)))) (aC (mC (.int 1)) (aN)))) (aN)))) (aC (mTup (aC (mTup (aC (mTup (aC (mC (.int 0)) (aC (mC (.int 1)) (aN)))) (aC (mC (.int 1)) (aN)))) (aN))) (aN)))))) (qVal (mB dNe (mF (fun ds => (G_bar_rows ds).map .list) (aC (mTup (aC (mC (.int 0)) (aC (mC (.int 0)) (aC (mC (.int 0)) (aN))))) (aN))) (mLst (aC (mTup (aN)) (aN)))))) (sRet (mC (.bool false))) (sNil)
theorem d_law_1 [Wd] (TT : Tx mg) (c_bar_rows : CalG P Wd.w K mg base 4 "bar_rows" 1 G_bar_rows) {f : Addr} : PSd (famOf P Wd.w K mg base _ sc_law.nd "law" (defScope t_law) f 8) ((defBody t_law).getD 1 (.Pass ⟨0, 0, 0, 0⟩)) s_law_1 :=
  psd_if (PWd.pt (pwd_or (ptd_cmp (fun i => rAll_op (op_neD (Fam.rm _ i).units)) (rAll_e fun _ => opE_ne) (PEo.ped (peo_listG c_bar_rows rfl rfl TT (pad_cons (ped_tup (pad_cons (ped_int) (pad_cons (ped_int) (pad_nil)))) (pad_nil)))) (PEo.ped (peo_lst (pad_cons (ped_tup (pad_cons (ped_tup (pad_cons (ped_tup (pad_cons (ped_int) (pad_cons (ped_int) (pad_nil)))) (pad_cons (ped_int) (pad_nil)))) (pad_cons (ped_tup (pad_cons (ped_tup (pad_cons (ped_int) (pad_cons (ped_int) (pad_nil)))) (pad_cons (ped_int) (pad_nil)))) (pad_nil)))) (pad_cons (ped_tup (pad_cons (ped_tup (pad_cons (ped_tup (pad_cons (ped_int) (pad_cons (ped_int) (pad_nil)))) (pad_cons (ped_int) (pad_nil)))) (pad_nil))) (pad_nil))))) (nomark _)) (pwd_or1 (ptd_cmp (fun i => rAll_op (op_neD (Fam.rm _ i).units)) (rAll_e fun _ => opE_ne) (PEo.ped (peo_listG c_bar_rows rfl rfl TT (pad_cons (ped_tup (pad_cons (ped_int) (pad_cons (ped_int) (pad_cons (ped_int) (pad_nil))))) (pad_nil)))) (PEo.ped (peo_lst (pad_cons (ped_tup (pad_nil)) (pad_nil)))) (nomark _))))) (pssd_one (psd_ret (ped_bl))) (pssd_nil)
def s_law_2 : En → Option Out := sRet (mAnd (mB dEq (mF F_greatest_bars (aC (mTup (aC (mC (.int 2)) (aC (mC (.int 3)) (aC (mC (.int 1)) (aN))))) (aN))) (mTup (aC (mTup (aC (mTup (aC (mC (.int 0)) (aC (mC (.int 1)) (aN)))) (aC (mC (.int 1)) (aN)))) (aC (mTup (aC (mTup (aC (mC (.int 0)) (aC (mC (.int 2)) (aN)))) (aC (mC (.int 1)) (aN)))) (aC (mTup (aC (mTup (aC (mC (.int 1)) (aC (mC (.int 1)) (aN)))) (aC (mC (.int 1)) (aN)))) (aN)))))) (mB dEq (mF F_greatest_bars (aC (mTup (aC (mC (.int 0)) (aN))) (aN))) (mTup (aN))))
theorem d_law_2 [Wd] (TT : Tx mg) (c_greatest_bars : CalD P Wd.w K mg base 4 "greatest_bars" 1 F_greatest_bars) {f : Addr} : PSd (famOf P Wd.w K mg base _ sc_law.nd "law" (defScope t_law) f 8) ((defBody t_law).getD 2 (.Pass ⟨0, 0, 0, 0⟩)) s_law_2 :=
  psd_ret (ped_and (ped_eq (Fam.rm _) (c_own c_greatest_bars rfl (pad_cons (ped_tup (pad_cons (ped_int) (pad_cons (ped_int) (pad_cons (ped_int) (pad_nil))))) (pad_nil))) (ped_tup (pad_cons (ped_tup (pad_cons (ped_tup (pad_cons (ped_int) (pad_cons (ped_int) (pad_nil)))) (pad_cons (ped_int) (pad_nil)))) (pad_cons (ped_tup (pad_cons (ped_tup (pad_cons (ped_int) (pad_cons (ped_int) (pad_nil)))) (pad_cons (ped_int) (pad_nil)))) (pad_cons (ped_tup (pad_cons (ped_tup (pad_cons (ped_int) (pad_cons (ped_int) (pad_nil)))) (pad_cons (ped_int) (pad_nil)))) (pad_nil)))))) (ped_one (ped_eq (Fam.rm _) (c_own c_greatest_bars rfl (pad_cons (ped_tup (pad_cons (ped_int) (pad_nil))) (pad_nil))) (ped_tup (pad_nil)))))
end
/-! ### the closed tests -/
theorem sort_to {a b : List Row} (h : a.Perm b) (hb : b.Pairwise fun x y => PySem.W.dataLe false eR x y = true) : sortR a = b := by
  rw [sort_perm h]
  exact List.mergeSort_of_pairwise hb
theorem dEq_self {d : D} (h : SeqAt.shaped d = true) : dEq d d = some (.bool true) := by
  simp only [dEq, h, SeqAt.eqv_refl d (SeqAt.canLay_of_shaped h), Bool.and_self, if_true]
abbrev due2 : List Row := [[((0, 0), 1), ((1, 1), 1)], [((0, 1), 1)]]
theorem rows2 : ∃ rows, rowsM 2 [1, 1] = some rows ∧ SortOkR rows ∧ rows.Perm due2 := by
  have h : (((rowsM 2 [1, 1]).map fun rows => decide (SortOkR rows) && rows.isPerm due2).getD false) = true := by decide +kernel
  cases e : rowsM 2 [1, 1] with
  | none => rw [e] at h; cases h
  | some rows =>
    rw [e] at h
    simp only [Option.map_some, Option.getD_some, Bool.and_eq_true, decide_eq_true_eq] at h
    exact ⟨rows, rfl, h.1, List.isPerm_iff.mp h.2⟩
theorem rows3 : rowsM 3 [0, 0, 0] = some [[]] := by decide +kernel
theorem g_rows2 : G_bar_rows [eS [1, 1]] = some (due2.map eR) := by
  obtain ⟨rows, h1, h2, h3⟩ := rows2
  rw [bar_rowsM (n := 2) (by decide) (by decide) ⟨rfl, by decide⟩ h1 h2, sort_to h3]
  refine List.pairwise_pair.mpr ?_
  decide +kernel
theorem g_rows3 : G_bar_rows [eS [0, 0, 0]] = some (([[]] : List Row).map eR) := by
  rw [bar_rowsM (n := 3) (by decide) (by decide) ⟨rfl, by decide⟩ rows3 (.inl (by decide)), sort_to (.refl _) (List.pairwise_singleton _ _)]
abbrev top3 : Row := [((0, 1), 1), ((0, 2), 1), ((1, 1), 1)]
theorem g_top3 : F_greatest_bars [eS [2, 3, 1]] = some (eR top3) := by
  rw [greatestMM (n := 3) (by decide) (by decide) ⟨rfl, by decide⟩]
  have : greatestM 3 [2, 3, 1] = top3 := by decide +kernel
  rw [this]
theorem g_top1 : F_greatest_bars [eS [0]] = some (eR []) := by
  rw [greatestMM (n := 1) (by decide) (by decide) ⟨rfl, by decide⟩]
  have : greatestM 1 [0] = [] := by decide +kernel
  rw [this]
theorem or_ff {a b : En → Option Bool} {ρ : En} (h1 : a ρ = some false) (h2 : b ρ = some false) : qOr a b ρ = some false := by
  simp only [qOr, h1, h2, Option.bind_some, Bool.false_eq_true, if_false]
theorem val_b {a : En → Option D} {ρ : En} {b : Bool} (h : a ρ = some (.bool b)) : qVal a ρ = some b := by
  rw [qVal, h]
  rfl
theorem law1_x (G_bar_rows : List D → Option (List D)) (a1 : G_bar_rows [eS [1, 1]] = some (due2.map eR)) (a2 : G_bar_rows [eS [0, 0, 0]] = some (([[]] : List Row).map eR)) (ρ : En) : (sIf (qOr (qVal (mB dNe (mF (fun ds => (G_bar_rows ds).map .list) (aC (mTup (aC (mC (.int 1)) (aC (mC (.int 1)) (aN)))) (aN))) (mLst (aC (mTup (aC (mTup (aC (mTup (aC (mC (.int 0)) (aC (mC (.int 0)) (aN)))) (aC (mC (.int 1)) (aN)))) (aC (mTup (aC (mTup (aC (mC (.int 1)) (aC (mC (.int 1)) (aN)))) (aC (mC (.int 1)) (aN)))) (aN)))) (aC (mTup (aC (mTup (aC (mTup (aC (mC (.int 0)) (aC (mC (.int 1)) (aN)))) (aC (mC (.int 1)) (aN)))) (aN))) (aN)))))) (qVal (mB dNe (mF (fun ds => (G_bar_rows ds).map .list) (aC (mTup (aC (mC (.int 0)) (aC (mC (.int 0)) (aC (mC (.int 0)) (aN))))) (aN))) (mLst (aC (mTup (aN)) (aN)))))) (sRet (mC (.bool false))) (sNil)) ρ = some (.nx ρ) := by
  have e1 : ∀ x : En → Option D, x ρ = some (.list (due2.map eR)) → mB dNe (mF (fun ds => (G_bar_rows ds).map .list) (aC (mTup (aC (mC (.int 1)) (aC (mC (.int 1)) (aN)))) (aN))) x ρ = some (.bool false) := fun x hx => by
    show ((G_bar_rows [eS [1, 1]]).map PyData.list).bind (fun y => (x ρ).bind fun z => dNe y z) = _
    rw [a1, hx, Option.map_some, Option.bind_some, Option.bind_some]
    exact dNe_self (shaped_rows _)
  have e2 : ∀ x : En → Option D, x ρ = some (.list (([[]] : List Row).map eR)) → mB dNe (mF (fun ds => (G_bar_rows ds).map .list) (aC (mTup (aC (mC (.int 0)) (aC (mC (.int 0)) (aC (mC (.int 0)) (aN))))) (aN))) x ρ = some (.bool false) := fun x hx => by
    show ((G_bar_rows [eS [0, 0, 0]]).map PyData.list).bind (fun y => (x ρ).bind fun z => dNe y z) = _
    rw [a2, hx, Option.map_some, Option.bind_some, Option.bind_some]
    exact dNe_self (shaped_rows _)
  rw [sIf, or_ff (val_b (e1 _ rfl)) (val_b (e2 _ rfl))]
  rfl
theorem law2_x (F_greatest_bars : List D → Option D) (a1 : F_greatest_bars [eS [2, 3, 1]] = some (eR top3)) (a2 : F_greatest_bars [eS [0]] = some (eR [])) (ρ : En) : (sRet (mAnd (mB dEq (mF F_greatest_bars (aC (mTup (aC (mC (.int 2)) (aC (mC (.int 3)) (aC (mC (.int 1)) (aN))))) (aN))) (mTup (aC (mTup (aC (mTup (aC (mC (.int 0)) (aC (mC (.int 1)) (aN)))) (aC (mC (.int 1)) (aN)))) (aC (mTup (aC (mTup (aC (mC (.int 0)) (aC (mC (.int 2)) (aN)))) (aC (mC (.int 1)) (aN)))) (aC (mTup (aC (mTup (aC (mC (.int 1)) (aC (mC (.int 1)) (aN)))) (aC (mC (.int 1)) (aN)))) (aN)))))) (mB dEq (mF F_greatest_bars (aC (mTup (aC (mC (.int 0)) (aN))) (aN))) (mTup (aN))))) ρ = some (.rt (.bool true)) := by
  have e1 : ∀ x : En → Option D, x ρ = some (eR top3) → mB dEq (mF F_greatest_bars (aC (mTup (aC (mC (.int 2)) (aC (mC (.int 3)) (aC (mC (.int 1)) (aN))))) (aN))) x ρ = some (.bool true) := fun x hx => by
    show (F_greatest_bars [eS [2, 3, 1]]).bind (fun y => (x ρ).bind fun z => dEq y z) = _
    rw [a1, hx, Option.bind_some, Option.bind_some]
    exact dEq_self (shaped_eR _)
  have e2 : ∀ x : En → Option D, x ρ = some (eR []) → mB dEq (mF F_greatest_bars (aC (mTup (aC (mC (.int 0)) (aN))) (aN))) x ρ = some (.bool true) := fun x hx => by
    show (F_greatest_bars [eS [0]]).bind (fun y => (x ρ).bind fun z => dEq y z) = _
    rw [a2, hx, Option.bind_some, Option.bind_some]
    exact dEq_self (shaped_eR _)
  rw [sRet, mAnd, e1 _ rfl, Option.bind_some]
  show Option.map Out.rt (mB dEq _ _ ρ) = _
  rw [e2 _ rfl]
  rfl
theorem law1 (ρ : En) : s_law_1 ρ = some (.nx ρ) := law1_x G_bar_rows g_rows2 g_rows3 ρ
theorem law2 (ρ : En) : s_law_2 ρ = some (.rt (.bool true)) := law2_x F_greatest_bars g_top3 g_top1 ρ
def zL (l : Nat) : Int := if (if (l : Int) < 2 then (l : Int) else 2) > 1 then (if (l : Int) < 2 then (l : Int) else 2) else 1
theorem zL_few (l : Nat) : 0 ≤ zL l ∧ zL l ≤ 2 := by
  unfold zL
  split
  · split <;> omega
  · omega
def spLaw (K : PySem.W.Frag) : Sp := fun vs H Q _ => ∃ (a : Addr) (ns : List Int), vs = [.ref a] ∧ SqL K H a (ns.map V.int) ∧ ∀ H', Q (.bl true) H'
theorem rep_un [Wd] {B H : Hp} {a b c : Option V} (sB : Same B H) : Rep H B [a, b, c] H [.un, .un, .un] where
  len := rfl
  sub := sB
  val := fun i d e => by
    have := List.mem_of_getElem? e
    rw [show [Sl.un, .un, .un] = List.replicate 3 Sl.un from rfl, List.mem_replicate] at this
    cases this.2
  own := fun i d e => (noOwn_no (by rfl) e).elim
  raw := fun i v e => by
    have := List.mem_of_getElem? e
    rw [show [Sl.un, .un, .un] = List.replicate 3 Sl.un from rfl, List.mem_replicate] at this
    cases this.2
  ne := fun i j d e o h1 => (noOwn_no (by rfl) h1).elim
section
variable {P : Program} {K : PySem.W.Frag} {mg : Str → Option Value} {base : Heap}
theorem ok_law [Wd] {f : Addr} {fd : FuncData} (TT : Tx mg) (Fn : Fun K "law" "law" t_law f fd) (c_lot : CalS P Wd.w K mg base 1 "_law_lot" (spLot K)) (c_right : CalS P Wd.w K mg base 8 "_law_right" spRight) (c_bar_rows : CalG P Wd.w K mg base 4 "bar_rows" 1 G_bar_rows) (c_greatest_bars : CalD P Wd.w K mg base 4 "greatest_bars" 1 F_greatest_bars) :
    FnOk P Wd.w K mg base CX0 9 f fd ["_law_script"] (spLaw K) := by
  refine Fn.ok sc_law (fun vs H Q E h => ?_) fun cdv A outer s H vs Q E hr h => ?_
  · obtain ⟨a, ns, rfl, _⟩ := h
    rfl
  · obtain ⟨a, ns, rfl, hS, q⟩ := h
    let i : CallI 8 "law" (defScope t_law) f := ⟨cdv, A, outer, s, H, E, hr⟩
    obtain ⟨t1, p1, z1⟩ := (d_law_1 (base := base) TT c_bar_rows (f := f)).ex
    obtain ⟨t2, p2, z2⟩ := (d_law_2 (base := base) TT c_greatest_bars (f := f)).ex
    refine ⟨_, pss_cons (ps_for PassesOwn.never rfl (pi_range1 rfl TT.range (pa_cons (pe_callB (call_max2 rfl) rfl TT.max (by decide +kernel) (pa_cons pe_int (pa_cons (pe_callB (call_min2 rfl) rfl TT.min (by decide +kernel) (pa_cons pe_int (pa_cons (pe_callB call_len_seq rfl TT.len PySem.boot_len (pa_cons (pv 0) pa_nil)) pa_nil))) pa_nil))) pa_nil)) (pg_name (i := 1) sc_law.nd rfl (.inl rfl))
        (pss_cons (ps_set (i := 2) sc_law.nd rfl (.inl rfl) (pe_calS c_lot ⟨rfl, rfl, rfl, rfl, rfl⟩ hr (by decide) rfl (pa_cons (pv 0) (pa_cons (pv 1) pa_nil))))
        (pss_one (ps_if (PW.pt (pw_or (pt_not (pt_val (pe_calS c_right ⟨rfl, rfl, rfl, rfl, rfl⟩ hr (by decide) rfl (pa_cons (pv 2) pa_nil)) (fun _ => rfl))) (pw_or1 (pt_not (pt_val (pe_calS c_right ⟨rfl, rfl, rfl, rfl, rfl⟩ hr (by decide) rfl (pa_cons (pv 2) pa_nil)) (fun _ => rfl))))))
          (pss_one (ps_ret pe_bl)) pss_nil))))
      (pss_cons (p1 i) (pss_one (p2 i))), ?_⟩
    refine ⟨.ref a, rfl, a, ns.map V.int, rfl, .inl hS, 2, _, rfl, 1, _, rfl, zL (ns.map V.int).length, rfl, Int.le_trans (by decide) (zL_few _).1, Int.lt_of_le_of_lt (zL_few _).2 (by decide), ?_⟩
    generalize zL (ns.map V.int).length = z
    refine ⟨fun j m σ H1 => j + m = z.toNat ∧ ∃ x1 x2, σ = [some (.ref a), x1, x2] ∧ Same H H1, ⟨z.toNat, by omega, none, none, rfl, .refl _⟩, ?_⟩
    rintro j m σ1 H1 ⟨hj, x1, x2, rfl, sm⟩
    by_cases hi : j < z.toNat
    · refine .inr ⟨hi, fun σ' H' => ∃ x1 x2, σ' = [some (.ref a), x1, x2] ∧ Same H H', fun σ' H' h => ⟨m - 1, by omega, by omega, h⟩, fun x H' hy => ?_⟩
      obtain ⟨rfl, rfl⟩ := hy
      refine ⟨.ref a, rfl, .int (0 + (j : Nat)), rfl, a, ns, j, by rw [Int.zero_add], sm.seq hS, fun p x y hp x0 => ?_⟩
      have lot : LotOk (upd H' p (.lst [.int x, .int y, .int 0])) p := .put x0
      refine ⟨.ref p, rfl, p, rfl, lot, fun H2 mv2 lot2 => ⟨true, rfl, iteF ⟨.ref p, rfl, p, rfl, lot2, fun H3 mv3 lot3 => ⟨true, rfl, iteF ?_⟩⟩⟩⟩
      refine ⟨_, _, rfl, fun b o e => ?_⟩
      have e1 := sm b o e
      have hb : b ≠ p := ne_of_none e1 hp
      exact mv3 b o hb (mv2 b o hb (by rw [upd_ne hb]; exact e1))
    · refine .inl ⟨Nat.le_of_not_lt hi, ?_⟩
      have sB : Same (fun _ => none : Hp) H1 := fun b o e => by cases e
      refine z1 _ _ (law1 [.un, .un, .un]) H1 _ _ [some (.ref a), x1, x2] H1 { nx := fun σ' H' => t2 { nx := fun _ H' => Q .non H', rt := Q } σ' H', rt := Q } (.refl sB) (rep_un sB) fun B' σ' H' va r' => ?_
      refine z2 _ _ (law2 [.un, .un, .un]) H1 _ B' σ' H' { nx := fun _ H' => Q .non H', rt := Q } va r' fun v B2 H2 va2 d2 => ?_
      rw [d2.bool_inv]
      exact q H2
end
end Ar

end
section
set_option Elab.async false
set_option linter.all false
set_option maxRecDepth 100000
set_option maxHeartbeats 4000000
namespace Ar
open PySem Dl
def tups : Nat → Nat → List (List Int)
  | 0, _ => [[]]
  | n + 1, m => (List.range (min m 6 + 1)).flatMap fun (k : Nat) => (tups n (m - k)).map fun l => (k : Int) :: l
theorem mem_tups : ∀ (n m : Nat) (s : List Int), s.length = n → (∀ x ∈ s, 0 ≤ x ∧ x ≤ 6) → s.sum ≤ (m : Int) → s ∈ tups n m
  | 0, m, s, h, _, _ => by
    rw [List.length_eq_zero_iff.mp h]
    exact List.mem_singleton.mpr rfl
  | n + 1, m, [], h, _, _ => by cases h
  | n + 1, m, x :: l, h, h2, h3 => by
    have hx := h2 x List.mem_cons_self
    have hl : ∀ x ∈ l, 0 ≤ x ∧ x ≤ 6 := fun y hy => h2 y (List.mem_cons_of_mem _ hy)
    have h0 : ∀ l : List Int, (∀ x ∈ l, 0 ≤ x ∧ x ≤ 6) → 0 ≤ l.sum := by
      intro l
      induction l with
      | nil => intro _; exact Int.le_refl _
      | cons y l ih =>
        intro h
        have h1 := h y List.mem_cons_self
        have h2 := ih fun z hz => h z (List.mem_cons_of_mem _ hz)
        rw [List.sum_cons]
        omega
    have hs := h0 l hl
    rw [List.sum_cons] at h3
    obtain ⟨k, rfl⟩ := Int.eq_ofNat_of_zero_le hx.1
    have hk : k ≤ m ∧ k ≤ 6 := by omega
    refine List.mem_flatMap.mpr ⟨k, List.mem_range.mpr (by omega), List.mem_map.mpr ⟨l, mem_tups n (m - k) l (by simpa using h) hl (by omega), rfl⟩⟩
/-! steps by places -/
def idxN : List Row → Row → Nat
  | [], _ => 0
  | x :: l, o => if x = o then 0 else idxN l o + 1
def atN (bb : List Row) (i : Nat) : Row := bb.getD i []
theorem at_idx : ∀ (bb : List Row) (o : Row), idxN bb o < bb.length → atN bb (idxN bb o) = o
  | [], _, h => by cases h
  | x :: l, o, h => by
    unfold idxN at h ⊢
    split
    · rename_i e
      exact e
    · rename_i e
      rw [if_neg e] at h
      exact at_idx l o (Nat.lt_of_succ_lt_succ h)
theorem at_mem {bb : List Row} {i : Nat} (h : i < bb.length) : atN bb i ∈ bb := by
  unfold atN
  rw [List.getD_eq_getElem?_getD, List.getElem?_eq_getElem h]
  exact List.getElem_mem h
theorem mem_at {bb : List Row} {r : Row} (h : r ∈ bb) : ∃ i, i < bb.length ∧ atN bb i = r := by
  obtain ⟨i, hi, e⟩ := List.getElem_of_mem h
  refine ⟨i, hi, ?_⟩
  unfold atN
  rw [List.getD_eq_getElem?_getD, List.getElem?_eq_getElem hi]
  exact e
def memN : Nat → List Nat → Bool
  | _, [] => false
  | m, x :: l => Nat.beq m x || memN m l
theorem memN_eq (m : Nat) : ∀ l : List Nat, memN m l = decide (m ∈ l)
  | [] => rfl
  | x :: l => by
    unfold memN
    rw [memN_eq m l, Bool.eq_iff_iff, Bool.or_eq_true, Nat.beq_eq, decide_eq_true_eq, decide_eq_true_eq, List.mem_cons]
abbrev NSt := List Nat × List Nat
def visitN (st : NSt) (m : Nat) : Option NSt := if memN m st.1 = true then some st else if st.1.length < 1000 ∧ st.2.length < 1000 then some (st.1 ++ [m], st.2 ++ [m]) else none
def turnN (T : List (List Nat)) (st : NSt) : Option NSt := (st.2[st.2.length - 1]?).bind fun here => foldO visitN (st.1, st.2.dropLast) (T.getD here [])
def goN (T : List (List Nat)) : Nat → NSt → Option (List Nat)
  | 0, _ => none
  | k + 1, st => if st.2.isEmpty = true then some st.1 else (turnN T st).bind (goN T k)
section
variable {f : Nat → Row} {L : Nat} {T : List (List Nat)}
def liftS (f : Nat → Row) (st : NSt) : WSt := (st.1.map f, st.2.map f)
def OkS (L : Nat) (st : NSt) : Prop := (∀ i ∈ st.1, i < L) ∧ ∀ i ∈ st.2, i < L
theorem visit_map (inj : ∀ i j, i < L → j < L → f i = f j → i = j) {st : NSt} {m : Nat} (ok : OkS L st) (hm : m < L) : visit (liftS f st) (f m) = (visitN st m).map (liftS f) ∧ ∀ st', visitN st m = some st' → OkS L st' := by
  have e : f m ∈ (liftS f st).1 ↔ m ∈ st.1 := by
    constructor
    · intro h
      obtain ⟨i, hi, e⟩ := List.mem_map.mp h
      rw [← inj i m (ok.1 i hi) hm e]
      exact hi
    · exact fun h => List.mem_map.mpr ⟨m, h, rfl⟩
  unfold visit visitN
  rw [memN_eq]
  by_cases h : m ∈ st.1
  · rw [if_pos (e.mpr h), if_pos (decide_eq_true h)]
    exact ⟨rfl, fun st' h => by cases h; exact ok⟩
  · rw [if_neg (fun z => h (e.mp z)), if_neg (show ¬ decide (m ∈ st.1) = true from fun z => h (of_decide_eq_true z))]
    simp only [liftS, List.length_map]
    by_cases h2 : st.1.length < 1000 ∧ st.2.length < 1000
    · rw [if_pos h2, if_pos h2]
      refine ⟨by simp [liftS], fun st' h => ?_⟩
      cases h
      constructor
      · intro i hi
        rcases List.mem_append.mp hi with hi | hi
        · exact ok.1 i hi
        · rw [List.mem_singleton.mp hi]
          exact hm
      · intro i hi
        rcases List.mem_append.mp hi with hi | hi
        · exact ok.2 i hi
        · rw [List.mem_singleton.mp hi]
          exact hm
    · rw [if_neg h2, if_neg h2]
      exact ⟨rfl, fun st' h => by cases h⟩
theorem fold_map (inj : ∀ i j, i < L → j < L → f i = f j → i = j) : ∀ (ms : List Nat) (st : NSt), OkS L st → (∀ m ∈ ms, m < L) → foldO visit (liftS f st) (ms.map f) = (foldO visitN st ms).map (liftS f) ∧ ∀ st', foldO visitN st ms = some st' → OkS L st'
  | [], st, ok, _ => ⟨rfl, fun st' h => by cases h; exact ok⟩
  | m :: ms, st, ok, hm => by
    obtain ⟨h1, h2⟩ := visit_map inj ok (hm m List.mem_cons_self)
    rw [List.map_cons]
    unfold foldO
    rw [h1]
    cases e : visitN st m with
    | none => exact ⟨rfl, fun st' h => by cases h⟩
    | some st1 =>
      obtain ⟨h3, h4⟩ := fold_map inj ms st1 (h2 _ e) fun x hx => hm x (List.mem_cons_of_mem _ hx)
      exact ⟨h3, h4⟩
theorem go_map (inj : ∀ i j, i < L → j < L → f i = f j → i = j) (hT : ∀ i, i < L → stepsM (f i) = some ((T.getD i []).map f) ∧ ∀ j ∈ T.getD i [], j < L) : ∀ (k : Nat) (st : NSt), OkS L st → goM k (liftS f st) = (goN T k st).map (·.map f)
  | 0, _, _ => rfl
  | k + 1, st, ok => by
    unfold goM goN
    have e1 : (liftS f st).2.isEmpty = st.2.isEmpty := by
      show (st.2.map f).isEmpty = _
      cases st.2 <;> rfl
    rw [e1]
    by_cases h : st.2.isEmpty = true
    · rw [if_pos h, if_pos h]
      rfl
    · rw [if_neg h, if_neg h]
      unfold turnM turnN
      have e2 : (liftS f st).2[(liftS f st).2.length - 1]? = (st.2[st.2.length - 1]?).map f := by
        show (st.2.map f)[(st.2.map f).length - 1]? = _
        rw [List.length_map, List.getElem?_map]
      rw [e2]
      cases e3 : st.2[st.2.length - 1]? with
      | none => rfl
      | some here =>
        have hh : here < L := ok.2 here (List.mem_of_getElem? e3)
        rw [Option.map_some, Option.bind_some, Option.bind_some, (hT here hh).1, Option.bind_some]
        have ok1 : OkS L (st.1, st.2.dropLast) := ⟨ok.1, fun i hi => ok.2 i ((List.dropLast_sublist _).subset hi)⟩
        have e4 : ((liftS f st).1, (liftS f st).2.dropLast) = liftS f (st.1, st.2.dropLast) := by
          simp [liftS, List.map_dropLast]
        obtain ⟨h1, h2⟩ := fold_map inj (T.getD here []) _ ok1 (hT here hh).2
        rw [e4, h1]
        cases e5 : foldO visitN (st.1, st.2.dropLast) (T.getD here []) with
        | none => rfl
        | some st1 => exact go_map inj hT k st1 (h2 _ e5)
end
def tabN (bb : List Row) : List Row → Option (List (List Nat))
  | [] => some []
  | r :: l => (stepsM r).bind fun ss => (tabN bb l).map fun t => ss.map (idxN bb) :: t
theorem tabN_at (bb : List Row) : ∀ (l : List Row) (T : List (List Nat)), tabN bb l = some T → ∀ i, i < l.length → ∃ ss, stepsM (atN l i) = some ss ∧ T.getD i [] = ss.map (idxN bb)
  | [], _, _, i, h => by cases h
  | r :: l, T, e, i, h => by
    obtain ⟨ss, e1, e⟩ := Dl.bind_some' e
    obtain ⟨t, e2, rfl⟩ := Option.map_eq_some_iff.mp e
    cases i with
    | zero => exact ⟨ss, e1, rfl⟩
    | succ i => exact tabN_at bb l t e2 i (Nat.lt_of_succ_lt_succ h)
def checkStep (bb : List Row) (T : List (List Nat)) (i : Nat) : Bool := (T.getD i []).all fun j => Nat.blt j bb.length && decide (homsM (atN bb j) (atN bb j) < homsM (atN bb i) (atN bb i))
def checkFound (n : Nat) (bb : List Row) (i : Nat) (found : List Nat) : Bool := (List.range bb.length).all fun j => memN j found == belowM n (atN bb i) (atN bb j)
def checkRow (n : Nat) (bb : List Row) (T : List (List Nat)) (i : Nat) : Bool := Nat.beq (idxN bb (atN bb i)) i && checkStep bb T i && ((goN T 200 ([i], [i])).map (checkFound n bb i)).getD false
def checkRows (n : Nat) (bb : List Row) : Bool := ((tabN bb bb).map fun T => (List.range bb.length).all (checkRow n bb T)).getD false
def checkTop (n : Nat) (s : List Int) (bb : List Row) (top : Row) : Bool := decide (top ∈ bb) && decide (ranksM n top = leastM n s) && bb.all (fun r => belowM n r top)
def checkTwo (n : Nat) (s : List Int) (bb rows : List Row) : Bool := rows.isPerm bb && decide (SortOkR rows) && decide (SortOkR bb) && bb.all (fun r => decide (RowOk n r) && decide (sizesM n r = s)) && checkTop n s bb (greatestM n s) && checkRows n bb
def checkSz (n : Nat) (s : List Int) : Bool := ((bbM n s).bind fun bb => (rowsM n s).map fun rows => checkTwo n s bb rows).getD false
theorem all_step {α : Type} {p : α → Bool} {l : List α} (k : Nat) (h1 : (l.take k).all p = true) (h2 : (l.drop k).all p = true) : l.all p = true := by
  rw [← List.take_append_drop k l, List.all_append, h1, h2]
  rfl
theorem all1 : (tups 1 7).all (checkSz 1) = true := by decide +kernel
theorem all2_0 : (((tups 2 7).drop 0).take 12).all (checkSz 2) = true := by decide +kernel
theorem all2_12 : (((tups 2 7).drop 12).take 12).all (checkSz 2) = true := by decide +kernel
theorem all2_24 : ((tups 2 7).drop 24).all (checkSz 2) = true := by decide +kernel
theorem all2 : (tups 2 7).all (checkSz 2) = true := by
  have d12 : ((tups 2 7).drop 12).all (checkSz 2) = true := all_step 12 all2_12 (by rw [List.drop_drop]; exact all2_24)
  have d0 : ((tups 2 7).drop 0).all (checkSz 2) = true := all_step 12 all2_0 (by rw [List.drop_drop]; exact d12)
  exact d0
theorem all3_0 : (((tups 3 7).drop 0).take 20).all (checkSz 3) = true := by decide +kernel
theorem all3_20 : (((tups 3 7).drop 20).take 20).all (checkSz 3) = true := by decide +kernel
theorem all3_40 : (((tups 3 7).drop 40).take 20).all (checkSz 3) = true := by decide +kernel
theorem all3_60 : (((tups 3 7).drop 60).take 20).all (checkSz 3) = true := by decide +kernel
theorem all3_80 : (((tups 3 7).drop 80).take 20).all (checkSz 3) = true := by decide +kernel
theorem all3_100 : ((tups 3 7).drop 100).all (checkSz 3) = true := by decide +kernel
theorem all3 : (tups 3 7).all (checkSz 3) = true := by
  have d80 : ((tups 3 7).drop 80).all (checkSz 3) = true := all_step 20 all3_80 (by rw [List.drop_drop]; exact all3_100)
  have d60 : ((tups 3 7).drop 60).all (checkSz 3) = true := all_step 20 all3_60 (by rw [List.drop_drop]; exact d80)
  have d40 : ((tups 3 7).drop 40).all (checkSz 3) = true := all_step 20 all3_40 (by rw [List.drop_drop]; exact d60)
  have d20 : ((tups 3 7).drop 20).all (checkSz 3) = true := all_step 20 all3_20 (by rw [List.drop_drop]; exact d40)
  have d0 : ((tups 3 7).drop 0).all (checkSz 3) = true := all_step 20 all3_0 (by rw [List.drop_drop]; exact d20)
  exact d0
theorem all4_0 : (((tups 4 7).drop 0).take 20).all (checkSz 4) = true := by decide +kernel
theorem all4_20 : (((tups 4 7).drop 20).take 20).all (checkSz 4) = true := by decide +kernel
theorem all4_40 : (((tups 4 7).drop 40).take 20).all (checkSz 4) = true := by decide +kernel
theorem all4_60 : (((tups 4 7).drop 60).take 20).all (checkSz 4) = true := by decide +kernel
theorem all4_80 : (((tups 4 7).drop 80).take 20).all (checkSz 4) = true := by decide +kernel
theorem all4_100 : (((tups 4 7).drop 100).take 20).all (checkSz 4) = true := by decide +kernel
theorem all4_120 : (((tups 4 7).drop 120).take 20).all (checkSz 4) = true := by decide +kernel
theorem all4_140 : (((tups 4 7).drop 140).take 20).all (checkSz 4) = true := by decide +kernel
theorem all4_160 : (((tups 4 7).drop 160).take 20).all (checkSz 4) = true := by decide +kernel
theorem all4_180 : (((tups 4 7).drop 180).take 20).all (checkSz 4) = true := by decide +kernel
theorem all4_200 : (((tups 4 7).drop 200).take 20).all (checkSz 4) = true := by decide +kernel
theorem all4_220 : (((tups 4 7).drop 220).take 20).all (checkSz 4) = true := by decide +kernel
theorem all4_240 : (((tups 4 7).drop 240).take 20).all (checkSz 4) = true := by decide +kernel
theorem all4_260 : (((tups 4 7).drop 260).take 20).all (checkSz 4) = true := by decide +kernel
theorem all4_280 : (((tups 4 7).drop 280).take 20).all (checkSz 4) = true := by decide +kernel
theorem all4_300 : (((tups 4 7).drop 300).take 20).all (checkSz 4) = true := by decide +kernel
theorem all4_320 : ((tups 4 7).drop 320).all (checkSz 4) = true := by decide +kernel
theorem all4 : (tups 4 7).all (checkSz 4) = true := by
  have d300 : ((tups 4 7).drop 300).all (checkSz 4) = true := all_step 20 all4_300 (by rw [List.drop_drop]; exact all4_320)
  have d280 : ((tups 4 7).drop 280).all (checkSz 4) = true := all_step 20 all4_280 (by rw [List.drop_drop]; exact d300)
  have d260 : ((tups 4 7).drop 260).all (checkSz 4) = true := all_step 20 all4_260 (by rw [List.drop_drop]; exact d280)
  have d240 : ((tups 4 7).drop 240).all (checkSz 4) = true := all_step 20 all4_240 (by rw [List.drop_drop]; exact d260)
  have d220 : ((tups 4 7).drop 220).all (checkSz 4) = true := all_step 20 all4_220 (by rw [List.drop_drop]; exact d240)
  have d200 : ((tups 4 7).drop 200).all (checkSz 4) = true := all_step 20 all4_200 (by rw [List.drop_drop]; exact d220)
  have d180 : ((tups 4 7).drop 180).all (checkSz 4) = true := all_step 20 all4_180 (by rw [List.drop_drop]; exact d200)
  have d160 : ((tups 4 7).drop 160).all (checkSz 4) = true := all_step 20 all4_160 (by rw [List.drop_drop]; exact d180)
  have d140 : ((tups 4 7).drop 140).all (checkSz 4) = true := all_step 20 all4_140 (by rw [List.drop_drop]; exact d160)
  have d120 : ((tups 4 7).drop 120).all (checkSz 4) = true := all_step 20 all4_120 (by rw [List.drop_drop]; exact d140)
  have d100 : ((tups 4 7).drop 100).all (checkSz 4) = true := all_step 20 all4_100 (by rw [List.drop_drop]; exact d120)
  have d80 : ((tups 4 7).drop 80).all (checkSz 4) = true := all_step 20 all4_80 (by rw [List.drop_drop]; exact d100)
  have d60 : ((tups 4 7).drop 60).all (checkSz 4) = true := all_step 20 all4_60 (by rw [List.drop_drop]; exact d80)
  have d40 : ((tups 4 7).drop 40).all (checkSz 4) = true := all_step 20 all4_40 (by rw [List.drop_drop]; exact d60)
  have d20 : ((tups 4 7).drop 20).all (checkSz 4) = true := all_step 20 all4_20 (by rw [List.drop_drop]; exact d40)
  have d0 : ((tups 4 7).drop 0).all (checkSz 4) = true := all_step 20 all4_0 (by rw [List.drop_drop]; exact d20)
  exact d0
end Ar

end
section
set_option Elab.async false
set_option linter.all false
set_option maxRecDepth 100000
set_option maxHeartbeats 4000000
namespace Ar
open PySem Dl
theorem getD_some {o : Option Bool} (h : o.getD false = true) : o = some true := by
  cases o with
  | none => cases h
  | some b => exact congrArg some h
theorem go_ok {f : Nat → Row} {L : Nat} {T : List (List Nat)} (inj : ∀ i j, i < L → j < L → f i = f j → i = j) (hT : ∀ i, i < L → ∀ j ∈ T.getD i [], j < L) : ∀ (k : Nat) (st : NSt), OkS L st → ∀ out, goN T k st = some out → ∀ i ∈ out, i < L
  | 0, _, _, _, e => by cases e
  | k + 1, st, ok, out, e => by
    unfold goN at e
    split at e
    · cases e
      exact ok.1
    · obtain ⟨st1, e1, e2⟩ := Dl.bind_some' e
      obtain ⟨here, e3, e4⟩ := Dl.bind_some' e1
      have ok1 : OkS L (st.1, st.2.dropLast) := ⟨ok.1, fun i hi => ok.2 i ((List.dropLast_sublist _).subset hi)⟩
      exact go_ok inj hT k st1 ((fold_map inj (T.getD here []) _ ok1 (hT here (ok.2 here (List.mem_of_getElem? e3)))).2 _ e4) out e2
theorem rows_of {n : Nat} {bb : List Row} (ok : ∀ r ∈ bb, RowOk n r) (h : checkRows n bb = true) : ∀ r ∈ bb, ∃ ss found, stepsM r = some ss ∧ reachedM r = some found ∧ (∀ o ∈ ss, RowOk n o ∧ homsM o o < homsM r r) ∧ ∀ o ∈ bb, decide (o ∈ found) = belowM n r o := by
  obtain ⟨T, hT, h⟩ := Option.map_eq_some_iff.mp (getD_some h)
  rw [List.all_eq_true] at h
  have row : ∀ i, i < bb.length → idxN bb (atN bb i) = i ∧ checkStep bb T i = true ∧ ∃ found, goN T 200 ([i], [i]) = some found ∧ checkFound n bb i found = true := fun i hi => by
    have q := h i (List.mem_range.mpr hi)
    simp only [checkRow, Bool.and_eq_true] at q
    obtain ⟨found, q1, q2⟩ := Option.map_eq_some_iff.mp (getD_some q.2)
    exact ⟨Nat.eq_of_beq_eq_true q.1.1, q.1.2, found, q1, q2⟩
  have inj : ∀ i j, i < bb.length → j < bb.length → atN bb i = atN bb j → i = j := fun i j hi hj e => by
    rw [← (row i hi).1, e, (row j hj).1]
  have step : ∀ i, i < bb.length → ∀ j ∈ T.getD i [], j < bb.length ∧ homsM (atN bb j) (atN bb j) < homsM (atN bb i) (atN bb i) := fun i hi j hj => by
    have q := (row i hi).2.1
    unfold checkStep at q
    have q := List.all_eq_true.mp q j hj
    rw [Bool.and_eq_true, decide_eq_true_eq] at q
    exact ⟨Nat.le_of_ble_eq_true q.1, q.2⟩
  have hS : ∀ i, i < bb.length → stepsM (atN bb i) = some ((T.getD i []).map (atN bb)) := fun i hi => by
    obtain ⟨ss, e1, e2⟩ := tabN_at bb bb T hT i hi
    rw [e1, e2, List.map_map]
    refine congrArg some (List.map_id ss).symm |>.trans (congrArg some (List.map_congr_left fun o ho => ?_))
    refine (at_idx bb o (step i hi _ ?_).1).symm
    rw [e2]
    exact List.mem_map.mpr ⟨o, ho, rfl⟩
  intro r hr
  obtain ⟨i, hi, rfl⟩ := mem_at hr
  obtain ⟨_, _, found, e1, e2⟩ := row i hi
  have e3 := go_map inj (T := T) (fun i hi => ⟨hS i hi, fun j hj => (step i hi j hj).1⟩) 200 ([i], [i]) ⟨fun k hk => by rw [List.mem_singleton.mp hk]; exact hi, fun k hk => by rw [List.mem_singleton.mp hk]; exact hi⟩
  rw [e1] at e3
  refine ⟨_, _, hS i hi, e3, fun o ho => ?_, fun o ho => ?_⟩
  · obtain ⟨j, hj, rfl⟩ := List.mem_map.mp ho
    exact ⟨ok _ (at_mem (step i hi j hj).1), (step i hi j hj).2⟩
  · obtain ⟨j, hj, rfl⟩ := mem_at ho
    unfold checkFound at e2
    have q := List.all_eq_true.mp e2 j (List.mem_range.mpr hj)
    rw [beq_iff_eq, memN_eq] at q
    rw [← q]
    have lt : ∀ k ∈ found, k < bb.length := go_ok inj (T := T) (fun i hi j hj => (step i hi j hj).1) 200 ([i], [i]) ⟨fun k hk => by rw [List.mem_singleton.mp hk]; exact hi, fun k hk => by rw [List.mem_singleton.mp hk]; exact hi⟩ found e1
    refine decide_eq_decide.mpr ⟨fun h => ?_, fun h => List.mem_map.mpr ⟨j, h, rfl⟩⟩
    obtain ⟨k, hk, e⟩ := List.mem_map.mp h
    rw [← inj k j (lt k hk) hj e]
    exact hk
theorem facts_of {n : Nat} {s : List Int} (h : checkSz n s = true) : ∃ bb rows, Facts n s bb rows := by
  obtain ⟨bb, h1, h⟩ := Dl.bind_some' (getD_some h)
  obtain ⟨rows, h2, h⟩ := Option.map_eq_some_iff.mp h
  simp only [checkTwo, Bool.and_eq_true, checkTop, decide_eq_true_eq, List.all_eq_true] at h
  obtain ⟨⟨⟨⟨⟨q1, q2⟩, q3⟩, q4⟩, ⟨⟨q5, q6⟩, q7⟩⟩, q8⟩ := h
  exact ⟨bb, rows, h1, h2, sort_perm (List.isPerm_iff.mp q1), q2, q3, q4, q5, q6, q7, rows_of (fun r hr => (q4 r hr).1) q8⟩
theorem facts {n : Nat} {s : List Int} (a : 1 ≤ n) (b : n ≤ 4) (h : SzM n s) (hs : s.sum ≤ 7) : ∃ bb rows, Facts n s bb rows := by
  have hm := mem_tups n 7 s h.1 h.2 hs
  refine facts_of ?_
  match n, a, b with
  | 1, _, _ => exact List.all_eq_true.mp all1 s hm
  | 2, _, _ => exact List.all_eq_true.mp all2 s hm
  | 3, _, _ => exact List.all_eq_true.mp all3 s hm
  | 4, _, _ => exact List.all_eq_true.mp all4 s hm
end Ar

end
section
set_option Elab.async false
set_option linter.all false
set_option maxRecDepth 100000
set_option maxHeartbeats 4000000
namespace Ar
open PySem PySem.Spec PyProof.Rows L2 Dl
theorem factsAll : FactsAll := fun _ _ a b h hs => facts a b h hs
theorem all_mk [Wd] {l : PySem.W.OpenLaw} {K : PySem.W.Frag} {h : Heap} {mg : Str → Option Value} {fa : Addr} (X : K.In h) (G : h.Ns mainGlobals mg) (hfa : mg "law" = some (.ref fa))
    {f1 : Addr} {od1 an1 : Option Addr} {sl1 : Array (Option Value)} {oc1 kV1 dc1 pm1 cd1 ct1 : Value}
    (a1 : PySem.W.nsIn K mainGlobals "is_whole" = some (some (.ref f1))) (l1 : K.lookup f1 = some ⟨oc1, od1, .func (PySem.W.fnOf "is_whole" "is_whole" (defArgs t_is_whole) (defBody t_is_whole) (defScope t_is_whole) .none kV1 dc1 pm1 an1 cd1 ct1), sl1⟩) (c1 : PySem.W.codeIn K cd1 "is_whole" = true) (k1 : PySem.W.keepIn K (.ref f1) = true)
    {f2 : Addr} {od2 an2 : Option Addr} {sl2 : Array (Option Value)} {oc2 kV2 dc2 pm2 cd2 ct2 : Value}
    (a2 : PySem.W.nsIn K mainGlobals "is_integer" = some (some (.ref f2))) (l2 : K.lookup f2 = some ⟨oc2, od2, .func (PySem.W.fnOf "is_integer" "is_integer" (defArgs t_is_integer) (defBody t_is_integer) (defScope t_is_integer) .none kV2 dc2 pm2 an2 cd2 ct2), sl2⟩) (c2 : PySem.W.codeIn K cd2 "is_integer" = true) (k2 : PySem.W.keepIn K (.ref f2) = true)
    {f3 : Addr} {od3 an3 : Option Addr} {sl3 : Array (Option Value)} {oc3 kV3 dc3 pm3 cd3 ct3 : Value}
    (a3 : PySem.W.nsIn K mainGlobals "require_count" = some (some (.ref f3))) (l3 : K.lookup f3 = some ⟨oc3, od3, .func (PySem.W.fnOf "require_count" "require_count" (defArgs t_require_count) (defBody t_require_count) (defScope t_require_count) .none kV3 dc3 pm3 an3 cd3 ct3), sl3⟩) (c3 : PySem.W.codeIn K cd3 "require_count" = true) (k3 : PySem.W.keepIn K (.ref f3) = true)
    {f4 : Addr} {od4 an4 : Option Addr} {sl4 : Array (Option Value)} {oc4 kV4 dc4 pm4 cd4 ct4 : Value}
    (a4 : PySem.W.nsIn K mainGlobals "is_row" = some (some (.ref f4))) (l4 : K.lookup f4 = some ⟨oc4, od4, .func (PySem.W.fnOf "is_row" "is_row" (defArgs t_is_row) (defBody t_is_row) (defScope t_is_row) .none kV4 dc4 pm4 an4 cd4 ct4), sl4⟩) (c4 : PySem.W.codeIn K cd4 "is_row" = true) (k4 : PySem.W.keepIn K (.ref f4) = true)
    {f5 : Addr} {od5 an5 : Option Addr} {sl5 : Array (Option Value)} {oc5 kV5 dc5 pm5 cd5 ct5 : Value}
    (a5 : PySem.W.nsIn K mainGlobals "is_bar" = some (some (.ref f5))) (l5 : K.lookup f5 = some ⟨oc5, od5, .func (PySem.W.fnOf "is_bar" "is_bar" (defArgs t_is_bar) (defBody t_is_bar) (defScope t_is_bar) .none kV5 dc5 pm5 an5 cd5 ct5), sl5⟩) (c5 : PySem.W.codeIn K cd5 "is_bar" = true) (k5 : PySem.W.keepIn K (.ref f5) = true)
    {f6 : Addr} {od6 an6 : Option Addr} {sl6 : Array (Option Value)} {oc6 kV6 dc6 pm6 cd6 ct6 : Value}
    (a6 : PySem.W.nsIn K mainGlobals "bars_of" = some (some (.ref f6))) (l6 : K.lookup f6 = some ⟨oc6, od6, .func (PySem.W.fnOf "bars_of" "bars_of" (defArgs t_bars_of) (defBody t_bars_of) (defScope t_bars_of) .none kV6 dc6 pm6 an6 cd6 ct6), sl6⟩) (c6 : PySem.W.codeIn K cd6 "bars_of" = true) (k6 : PySem.W.keepIn K (.ref f6) = true)
    {f7 : Addr} {od7 an7 : Option Addr} {sl7 : Array (Option Value)} {oc7 kV7 dc7 pm7 cd7 ct7 : Value}
    (a7 : PySem.W.nsIn K mainGlobals "is_pair_of_bar" = some (some (.ref f7))) (l7 : K.lookup f7 = some ⟨oc7, od7, .func (PySem.W.fnOf "is_pair_of_bar" "is_pair_of_bar" (defArgs t_is_pair_of_bar) (defBody t_is_pair_of_bar) (defScope t_is_pair_of_bar) .none kV7 dc7 pm7 an7 cd7 ct7), sl7⟩) (c7 : PySem.W.codeIn K cd7 "is_pair_of_bar" = true) (k7 : PySem.W.keepIn K (.ref f7) = true)
    {f8 : Addr} {od8 an8 : Option Addr} {sl8 : Array (Option Value)} {oc8 kV8 dc8 pm8 cd8 ct8 : Value}
    (a8 : PySem.W.nsIn K mainGlobals "sizes_in" = some (some (.ref f8))) (l8 : K.lookup f8 = some ⟨oc8, od8, .func (PySem.W.fnOf "sizes_in" "sizes_in" (defArgs t_sizes_in) (defBody t_sizes_in) (defScope t_sizes_in) .none kV8 dc8 pm8 an8 cd8 ct8), sl8⟩) (c8 : PySem.W.codeIn K cd8 "sizes_in" = true) (k8 : PySem.W.keepIn K (.ref f8) = true)
    {f9 : Addr} {od9 an9 : Option Addr} {sl9 : Array (Option Value)} {oc9 kV9 dc9 pm9 cd9 ct9 : Value}
    (a9 : PySem.W.nsIn K mainGlobals "bar_hom" = some (some (.ref f9))) (l9 : K.lookup f9 = some ⟨oc9, od9, .func (PySem.W.fnOf "bar_hom" "bar_hom" (defArgs t_bar_hom) (defBody t_bar_hom) (defScope t_bar_hom) .none kV9 dc9 pm9 an9 cd9 ct9), sl9⟩) (c9 : PySem.W.codeIn K cd9 "bar_hom" = true) (k9 : PySem.W.keepIn K (.ref f9) = true)
    {f10 : Addr} {od10 an10 : Option Addr} {sl10 : Array (Option Value)} {oc10 kV10 dc10 pm10 cd10 ct10 : Value}
    (a10 : PySem.W.nsIn K mainGlobals "homs_of_rows" = some (some (.ref f10))) (l10 : K.lookup f10 = some ⟨oc10, od10, .func (PySem.W.fnOf "homs_of_rows" "homs_of_rows" (defArgs t_homs_of_rows) (defBody t_homs_of_rows) (defScope t_homs_of_rows) .none kV10 dc10 pm10 an10 cd10 ct10), sl10⟩) (c10 : PySem.W.codeIn K cd10 "homs_of_rows" = true) (k10 : PySem.W.keepIn K (.ref f10) = true)
    {f11 : Addr} {od11 an11 : Option Addr} {sl11 : Array (Option Value)} {oc11 kV11 dc11 pm11 cd11 ct11 : Value}
    (a11 : PySem.W.nsIn K mainGlobals "shares_of" = some (some (.ref f11))) (l11 : K.lookup f11 = some ⟨oc11, od11, .func (PySem.W.fnOf "shares_of" "shares_of" (defArgs t_shares_of) (defBody t_shares_of) (defScope t_shares_of) .none kV11 dc11 pm11 an11 cd11 ct11), sl11⟩) (c11 : PySem.W.codeIn K cd11 "shares_of" = true) (k11 : PySem.W.keepIn K (.ref f11) = true)
    {f12 : Addr} {od12 an12 : Option Addr} {sl12 : Array (Option Value)} {oc12 kV12 dc12 pm12 cd12 ct12 : Value}
    (a12 : PySem.W.nsIn K mainGlobals "behind_share" = some (some (.ref f12))) (l12 : K.lookup f12 = some ⟨oc12, od12, .func (PySem.W.fnOf "behind_share" "behind_share" (defArgs t_behind_share) (defBody t_behind_share) (defScope t_behind_share) .none kV12 dc12 pm12 an12 cd12 ct12), sl12⟩) (c12 : PySem.W.codeIn K cd12 "behind_share" = true) (k12 : PySem.W.keepIn K (.ref f12) = true)
    {f13 : Addr} {od13 an13 : Option Addr} {sl13 : Array (Option Value)} {oc13 kV13 dc13 pm13 cd13 ct13 : Value}
    (a13 : PySem.W.nsIn K mainGlobals "rows_of_bars" = some (some (.ref f13))) (l13 : K.lookup f13 = some ⟨oc13, od13, .func (PySem.W.fnOf "rows_of_bars" "rows_of_bars" (defArgs t_rows_of_bars) (defBody t_rows_of_bars) (defScope t_rows_of_bars) .none kV13 dc13 pm13 an13 cd13 ct13), sl13⟩) (c13 : PySem.W.codeIn K cd13 "rows_of_bars" = true) (k13 : PySem.W.keepIn K (.ref f13) = true)
    {f14 : Addr} {od14 an14 : Option Addr} {sl14 : Array (Option Value)} {oc14 kV14 dc14 pm14 cd14 ct14 : Value}
    (a14 : PySem.W.nsIn K mainGlobals "is_bar_row_in" = some (some (.ref f14))) (l14 : K.lookup f14 = some ⟨oc14, od14, .func (PySem.W.fnOf "is_bar_row_in" "is_bar_row_in" (defArgs t_is_bar_row_in) (defBody t_is_bar_row_in) (defScope t_is_bar_row_in) .none kV14 dc14 pm14 an14 cd14 ct14), sl14⟩) (c14 : PySem.W.codeIn K cd14 "is_bar_row_in" = true) (k14 : PySem.W.keepIn K (.ref f14) = true)
    {f15 : Addr} {od15 an15 : Option Addr} {sl15 : Array (Option Value)} {oc15 kV15 dc15 pm15 cd15 ct15 : Value}
    (a15 : PySem.W.nsIn K mainGlobals "require_points" = some (some (.ref f15))) (l15 : K.lookup f15 = some ⟨oc15, od15, .func (PySem.W.fnOf "require_points" "require_points" (defArgs t_require_points) (defBody t_require_points) (defScope t_require_points) .none kV15 dc15 pm15 an15 cd15 ct15), sl15⟩) (c15 : PySem.W.codeIn K cd15 "require_points" = true) (k15 : PySem.W.keepIn K (.ref f15) = true)
    {f16 : Addr} {od16 an16 : Option Addr} {sl16 : Array (Option Value)} {oc16 kV16 dc16 pm16 cd16 ct16 : Value}
    (a16 : PySem.W.nsIn K mainGlobals "require_bars" = some (some (.ref f16))) (l16 : K.lookup f16 = some ⟨oc16, od16, .func (PySem.W.fnOf "require_bars" "require_bars" (defArgs t_require_bars) (defBody t_require_bars) (defScope t_require_bars) .none kV16 dc16 pm16 an16 cd16 ct16), sl16⟩) (c16 : PySem.W.codeIn K cd16 "require_bars" = true) (k16 : PySem.W.keepIn K (.ref f16) = true)
    {f17 : Addr} {od17 an17 : Option Addr} {sl17 : Array (Option Value)} {oc17 kV17 dc17 pm17 cd17 ct17 : Value}
    (a17 : PySem.W.nsIn K mainGlobals "require_both_bars" = some (some (.ref f17))) (l17 : K.lookup f17 = some ⟨oc17, od17, .func (PySem.W.fnOf "require_both_bars" "require_both_bars" (defArgs t_require_both_bars) (defBody t_require_both_bars) (defScope t_require_both_bars) .none kV17 dc17 pm17 an17 cd17 ct17), sl17⟩) (c17 : PySem.W.codeIn K cd17 "require_both_bars" = true) (k17 : PySem.W.keepIn K (.ref f17) = true)
    {f18 : Addr} {od18 an18 : Option Addr} {sl18 : Array (Option Value)} {oc18 kV18 dc18 pm18 cd18 ct18 : Value}
    (a18 : PySem.W.nsIn K mainGlobals "ranks_in" = some (some (.ref f18))) (l18 : K.lookup f18 = some ⟨oc18, od18, .func (PySem.W.fnOf "ranks_in" "ranks_in" (defArgs t_ranks_in) (defBody t_ranks_in) (defScope t_ranks_in) .none kV18 dc18 pm18 an18 cd18 ct18), sl18⟩) (c18 : PySem.W.codeIn K cd18 "ranks_in" = true) (k18 : PySem.W.keepIn K (.ref f18) = true)
    {f19 : Addr} {od19 an19 : Option Addr} {sl19 : Array (Option Value)} {oc19 kV19 dc19 pm19 cd19 ct19 : Value}
    (a19 : PySem.W.nsIn K mainGlobals "bars_by_ranks" = some (some (.ref f19))) (l19 : K.lookup f19 = some ⟨oc19, od19, .func (PySem.W.fnOf "bars_by_ranks" "bars_by_ranks" (defArgs t_bars_by_ranks) (defBody t_bars_by_ranks) (defScope t_bars_by_ranks) .none kV19 dc19 pm19 an19 cd19 ct19), sl19⟩) (c19 : PySem.W.codeIn K cd19 "bars_by_ranks" = true) (k19 : PySem.W.keepIn K (.ref f19) = true)
    {f20 : Addr} {od20 an20 : Option Addr} {sl20 : Array (Option Value)} {oc20 kV20 dc20 pm20 cd20 ct20 : Value}
    (a20 : PySem.W.nsIn K mainGlobals "bar_homs" = some (some (.ref f20))) (l20 : K.lookup f20 = some ⟨oc20, od20, .func (PySem.W.fnOf "bar_homs" "bar_homs" (defArgs t_bar_homs) (defBody t_bar_homs) (defScope t_bar_homs) .none kV20 dc20 pm20 an20 cd20 ct20), sl20⟩) (c20 : PySem.W.codeIn K cd20 "bar_homs" = true) (k20 : PySem.W.keepIn K (.ref f20) = true)
    {f21 : Addr} {od21 an21 : Option Addr} {sl21 : Array (Option Value)} {oc21 kV21 dc21 pm21 cd21 ct21 : Value}
    (a21 : PySem.W.nsIn K mainGlobals "are_below" = some (some (.ref f21))) (l21 : K.lookup f21 = some ⟨oc21, od21, .func (PySem.W.fnOf "are_below" "are_below" (defArgs t_are_below) (defBody t_are_below) (defScope t_are_below) .none kV21 dc21 pm21 an21 cd21 ct21), sl21⟩) (c21 : PySem.W.codeIn K cd21 "are_below" = true) (k21 : PySem.W.keepIn K (.ref f21) = true)
    {f22 : Addr} {od22 an22 : Option Addr} {sl22 : Array (Option Value)} {oc22 kV22 dc22 pm22 cd22 ct22 : Value}
    (a22 : PySem.W.nsIn K mainGlobals "require_bar_sizes" = some (some (.ref f22))) (l22 : K.lookup f22 = some ⟨oc22, od22, .func (PySem.W.fnOf "require_bar_sizes" "require_bar_sizes" (defArgs t_require_bar_sizes) (defBody t_require_bar_sizes) (defScope t_require_bar_sizes) .none kV22 dc22 pm22 an22 cd22 ct22), sl22⟩) (c22 : PySem.W.codeIn K cd22 "require_bar_sizes" = true) (k22 : PySem.W.keepIn K (.ref f22) = true)
    {f23 : Addr} {od23 an23 : Option Addr} {sl23 : Array (Option Value)} {oc23 kV23 dc23 pm23 cd23 ct23 : Value}
    (a23 : PySem.W.nsIn K mainGlobals "bar_rows" = some (some (.ref f23))) (l23 : K.lookup f23 = some ⟨oc23, od23, .func (PySem.W.fnOf "bar_rows" "bar_rows" (defArgs t_bar_rows) (defBody t_bar_rows) (defScope t_bar_rows) .none kV23 dc23 pm23 an23 cd23 ct23), sl23⟩) (c23 : PySem.W.codeIn K cd23 "bar_rows" = true) (k23 : PySem.W.keepIn K (.ref f23) = true)
    {f24 : Addr} {od24 an24 : Option Addr} {sl24 : Array (Option Value)} {oc24 kV24 dc24 pm24 cd24 ct24 : Value}
    (a24 : PySem.W.nsIn K mainGlobals "greatest_bars" = some (some (.ref f24))) (l24 : K.lookup f24 = some ⟨oc24, od24, .func (PySem.W.fnOf "greatest_bars" "greatest_bars" (defArgs t_greatest_bars) (defBody t_greatest_bars) (defScope t_greatest_bars) .none kV24 dc24 pm24 an24 cd24 ct24), sl24⟩) (c24 : PySem.W.codeIn K cd24 "greatest_bars" = true) (k24 : PySem.W.keepIn K (.ref f24) = true)
    {f25 : Addr} {od25 an25 : Option Addr} {sl25 : Array (Option Value)} {oc25 kV25 dc25 pm25 cd25 ct25 : Value}
    (a25 : PySem.W.nsIn K mainGlobals "_law_bb_all" = some (some (.ref f25))) (l25 : K.lookup f25 = some ⟨oc25, od25, .func (PySem.W.fnOf "_law_bb_all" "_law_bb_all" (defArgs t_law_bb_all) (defBody t_law_bb_all) (defScope t_law_bb_all) .none kV25 dc25 pm25 an25 cd25 ct25), sl25⟩) (c25 : PySem.W.codeIn K cd25 "_law_bb_all" = true) (k25 : PySem.W.keepIn K (.ref f25) = true)
    {f26 : Addr} {od26 an26 : Option Addr} {sl26 : Array (Option Value)} {oc26 kV26 dc26 pm26 cd26 ct26 : Value}
    (a26 : PySem.W.nsIn K mainGlobals "_law_bb_ranks" = some (some (.ref f26))) (l26 : K.lookup f26 = some ⟨oc26, od26, .func (PySem.W.fnOf "_law_bb_ranks" "_law_bb_ranks" (defArgs t_law_bb_ranks) (defBody t_law_bb_ranks) (defScope t_law_bb_ranks) .none kV26 dc26 pm26 an26 cd26 ct26), sl26⟩) (c26 : PySem.W.codeIn K cd26 "_law_bb_ranks" = true) (k26 : PySem.W.keepIn K (.ref f26) = true)
    {f27 : Addr} {od27 an27 : Option Addr} {sl27 : Array (Option Value)} {oc27 kV27 dc27 pm27 cd27 ct27 : Value}
    (a27 : PySem.W.nsIn K mainGlobals "_law_bb_told" = some (some (.ref f27))) (l27 : K.lookup f27 = some ⟨oc27, od27, .func (PySem.W.fnOf "_law_bb_told" "_law_bb_told" (defArgs t_law_bb_told) (defBody t_law_bb_told) (defScope t_law_bb_told) .none kV27 dc27 pm27 an27 cd27 ct27), sl27⟩) (c27 : PySem.W.codeIn K cd27 "_law_bb_told" = true) (k27 : PySem.W.keepIn K (.ref f27) = true)
    {f28 : Addr} {od28 an28 : Option Addr} {sl28 : Array (Option Value)} {oc28 kV28 dc28 pm28 cd28 ct28 : Value}
    (a28 : PySem.W.nsIn K mainGlobals "_law_bb_longer" = some (some (.ref f28))) (l28 : K.lookup f28 = some ⟨oc28, od28, .func (PySem.W.fnOf "_law_bb_longer" "_law_bb_longer" (defArgs t_law_bb_longer) (defBody t_law_bb_longer) (defScope t_law_bb_longer) .none kV28 dc28 pm28 an28 cd28 ct28), sl28⟩) (c28 : PySem.W.codeIn K cd28 "_law_bb_longer" = true) (k28 : PySem.W.keepIn K (.ref f28) = true)
    {f29 : Addr} {od29 an29 : Option Addr} {sl29 : Array (Option Value)} {oc29 kV29 dc29 pm29 cd29 ct29 : Value}
    (a29 : PySem.W.nsIn K mainGlobals "_law_bb_rows" = some (some (.ref f29))) (l29 : K.lookup f29 = some ⟨oc29, od29, .func (PySem.W.fnOf "_law_bb_rows" "_law_bb_rows" (defArgs t_law_bb_rows) (defBody t_law_bb_rows) (defScope t_law_bb_rows) .none kV29 dc29 pm29 an29 cd29 ct29), sl29⟩) (c29 : PySem.W.codeIn K cd29 "_law_bb_rows" = true) (k29 : PySem.W.keepIn K (.ref f29) = true)
    {f30 : Addr} {od30 an30 : Option Addr} {sl30 : Array (Option Value)} {oc30 kV30 dc30 pm30 cd30 ct30 : Value}
    (a30 : PySem.W.nsIn K mainGlobals "_law_bb_ext" = some (some (.ref f30))) (l30 : K.lookup f30 = some ⟨oc30, od30, .func (PySem.W.fnOf "_law_bb_ext" "_law_bb_ext" (defArgs t_law_bb_ext) (defBody t_law_bb_ext) (defScope t_law_bb_ext) .none kV30 dc30 pm30 an30 cd30 ct30), sl30⟩) (c30 : PySem.W.codeIn K cd30 "_law_bb_ext" = true) (k30 : PySem.W.keepIn K (.ref f30) = true)
    {f31 : Addr} {od31 an31 : Option Addr} {sl31 : Array (Option Value)} {oc31 kV31 dc31 pm31 cd31 ct31 : Value}
    (a31 : PySem.W.nsIn K mainGlobals "_law_steps" = some (some (.ref f31))) (l31 : K.lookup f31 = some ⟨oc31, od31, .func (PySem.W.fnOf "_law_steps" "_law_steps" (defArgs t_law_steps) (defBody t_law_steps) (defScope t_law_steps) .none kV31 dc31 pm31 an31 cd31 ct31), sl31⟩) (c31 : PySem.W.codeIn K cd31 "_law_steps" = true) (k31 : PySem.W.keepIn K (.ref f31) = true)
    {f32 : Addr} {od32 an32 : Option Addr} {sl32 : Array (Option Value)} {oc32 kV32 dc32 pm32 cd32 ct32 : Value}
    (a32 : PySem.W.nsIn K mainGlobals "_law_reached" = some (some (.ref f32))) (l32 : K.lookup f32 = some ⟨oc32, od32, .func (PySem.W.fnOf "_law_reached" "_law_reached" (defArgs t_law_reached) (defBody t_law_reached) (defScope t_law_reached) .none kV32 dc32 pm32 an32 cd32 ct32), sl32⟩) (c32 : PySem.W.codeIn K cd32 "_law_reached" = true) (k32 : PySem.W.keepIn K (.ref f32) = true)
    {f33 : Addr} {od33 an33 : Option Addr} {sl33 : Array (Option Value)} {oc33 kV33 dc33 pm33 cd33 ct33 : Value}
    (a33 : PySem.W.nsIn K mainGlobals "_law_lot" = some (some (.ref f33))) (l33 : K.lookup f33 = some ⟨oc33, od33, .func (PySem.W.fnOf "_law_lot" "_law_lot" (defArgs t_lot) (defBody t_lot) (defScope t_lot) .none kV33 dc33 pm33 an33 cd33 ct33), sl33⟩) (c33 : PySem.W.codeIn K cd33 "_law_lot" = true) (k33 : PySem.W.keepIn K (.ref f33) = true)
    {f34 : Addr} {od34 an34 : Option Addr} {sl34 : Array (Option Value)} {oc34 kV34 dc34 pm34 cd34 ct34 : Value}
    (a34 : PySem.W.nsIn K mainGlobals "_law_pull" = some (some (.ref f34))) (l34 : K.lookup f34 = some ⟨oc34, od34, .func (PySem.W.fnOf "_law_pull" "_law_pull" (defArgs t_pull) (defBody t_pull) (defScope t_pull) .none kV34 dc34 pm34 an34 cd34 ct34), sl34⟩) (c34 : PySem.W.codeIn K cd34 "_law_pull" = true) (k34 : PySem.W.keepIn K (.ref f34) = true)
    {f35 : Addr} {od35 an35 : Option Addr} {sl35 : Array (Option Value)} {oc35 kV35 dc35 pm35 cd35 ct35 : Value}
    (a35 : PySem.W.nsIn K mainGlobals "_law_one_of" = some (some (.ref f35))) (l35 : K.lookup f35 = some ⟨oc35, od35, .func (PySem.W.fnOf "_law_one_of" "_law_one_of" (defArgs t_one_of) (defBody t_one_of) (defScope t_one_of) .none kV35 dc35 pm35 an35 cd35 ct35), sl35⟩) (c35 : PySem.W.codeIn K cd35 "_law_one_of" = true) (k35 : PySem.W.keepIn K (.ref f35) = true)
    {f36 : Addr} {od36 an36 : Option Addr} {sl36 : Array (Option Value)} {oc36 kV36 dc36 pm36 cd36 ct36 : Value}
    (a36 : PySem.W.nsIn K mainGlobals "_law_sizes_drawn" = some (some (.ref f36))) (l36 : K.lookup f36 = some ⟨oc36, od36, .func (PySem.W.fnOf "_law_sizes_drawn" "_law_sizes_drawn" (defArgs t_drawn) (defBody t_drawn) (defScope t_drawn) .none kV36 dc36 pm36 an36 cd36 ct36), sl36⟩) (c36 : PySem.W.codeIn K cd36 "_law_sizes_drawn" = true) (k36 : PySem.W.keepIn K (.ref f36) = true)
    {f37 : Addr} {od37 an37 : Option Addr} {sl37 : Array (Option Value)} {oc37 kV37 dc37 pm37 cd37 ct37 : Value}
    (a37 : PySem.W.nsIn K mainGlobals "_law_right" = some (some (.ref f37))) (l37 : K.lookup f37 = some ⟨oc37, od37, .func (PySem.W.fnOf "_law_right" "_law_right" (defArgs t_right) (defBody t_right) (defScope t_right) .none kV37 dc37 pm37 an37 cd37 ct37), sl37⟩) (c37 : PySem.W.codeIn K cd37 "_law_right" = true) (k37 : PySem.W.keepIn K (.ref f37) = true)
    {f38 : Addr} {od38 an38 : Option Addr} {sl38 : Array (Option Value)} {oc38 kV38 dc38 pm38 cd38 ct38 : Value}
    (a38 : PySem.W.nsIn K mainGlobals "law" = some (some (.ref f38))) (l38 : K.lookup f38 = some ⟨oc38, od38, .func (PySem.W.fnOf "law" "law" (defArgs t_law) (defBody t_law) (defScope t_law) .none kV38 dc38 pm38 an38 cd38 ct38), sl38⟩) (c38 : PySem.W.codeIn K cd38 "law" = true) (k38 : PySem.W.keepIn K (.ref f38) = true)
    (z1 : PySem.W.nsIn K mainGlobals "isinstance" = some none)
    (z2 : PySem.W.nsIn K mainGlobals "len" = some none)
    (z3 : PySem.W.nsIn K mainGlobals "all" = some none)
    (z4 : PySem.W.nsIn K mainGlobals "sum" = some none)
    (z5 : PySem.W.nsIn K mainGlobals "max" = some none)
    (z6 : PySem.W.nsIn K mainGlobals "min" = some none)
    (z7 : PySem.W.nsIn K mainGlobals "sorted" = some none)
    (z8 : PySem.W.nsIn K mainGlobals "set" = some none)
    (z9 : PySem.W.nsIn K mainGlobals "list" = some none)
    (z10 : PySem.W.nsIn K mainGlobals "tuple" = some none)
    (z11 : PySem.W.nsIn K mainGlobals "dict" = some none)
    (z12 : PySem.W.nsIn K mainGlobals "int" = some none)
    (z13 : PySem.W.nsIn K mainGlobals "bool" = some none)
    (z14 : PySem.W.nsIn K mainGlobals "range" = some none)
    (z15 : PySem.W.nsIn K mainGlobals "enumerate" = some none)
    (z16 : PySem.W.nsIn K mainGlobals "abs" = some none)
    {tk1 : Tok} (n1 : PySem.W.nsIn K mainGlobals "MOST_DIGITS" = some (some (.int 1000000000000000000000000000000000000000000000000000000000000 tk1)))
    {tk2 : Tok} (n2 : PySem.W.nsIn K mainGlobals "MOST_LENGTH" = some (some (.int 6 tk2)))
    {tk3 : Tok} (n3 : PySem.W.nsIn K mainGlobals "MOST_SIZE_numbers" = some (some (.int 6 tk3)))
    {tk4 : Tok} (n4 : PySem.W.nsIn K mainGlobals "MAX_BAR_ROWS" = some (some (.int 3000 tk4)))
    {tk5 : Tok} (n5 : PySem.W.nsIn K mainGlobals "MOST_POINTS" = some (some (.int 6 tk5)))
    {tk6 : Tok} (n6 : PySem.W.nsIn K mainGlobals "MOST_SIZE_bars" = some (some (.int 6 tk6)))
    : ∃ fd : FuncData, (∀ (s : Shared) (v : Value), BindsTo s fd ⟨[v], []⟩ [("_law_script", v)]) ∧ ∀ base : Heap, K.In base → base.Ns mainGlobals mg → FnOk l.prog Wd.w K mg base CX0 9 fa fd ["_law_script"] (spLaw K) := by
  have e := hfa.symm.trans (PySem.W.mg_of X G a38)
  cases e
  have TT : Tx mg := ⟨PySem.W.mg_none_of X G z1, PySem.W.mg_none_of X G z2, PySem.W.mg_none_of X G z3, PySem.W.mg_none_of X G z4, PySem.W.mg_none_of X G z5, PySem.W.mg_none_of X G z6, PySem.W.mg_none_of X G z7, PySem.W.mg_none_of X G z8, PySem.W.mg_none_of X G z9, PySem.W.mg_none_of X G z10, PySem.W.mg_none_of X G z11, PySem.W.mg_none_of X G z12, PySem.W.mg_none_of X G z13, PySem.W.mg_none_of X G z14, PySem.W.mg_none_of X G z15, PySem.W.mg_none_of X G z16⟩
  have e60 : (10 ^ 60 : Int) = 1000000000000000000000000000000000000000000000000000000000000 := by decide +kernel
  have TGg : TG mg := ⟨⟨_, by rw [e60]; exact PySem.W.mg_of X G n1⟩, ⟨_, PySem.W.mg_of X G n2⟩, ⟨_, PySem.W.mg_of X G n3⟩, ⟨_, PySem.W.mg_of X G n4⟩, ⟨_, PySem.W.mg_of X G n5⟩, ⟨_, PySem.W.mg_of X G n6⟩⟩
  have F1 := fun_mk (st := t_is_whole) l1 c1 k1
  have S1 : Std K mg "is_whole" t_is_whole ["value"] := ⟨⟨f1, _, F1, F1.binds (ps := ["value"]) fun _ _ _ _ _ _ us hl => (match us, hl with | [_], _ => rfl), PySem.W.mg_of X G a1⟩⟩
  have F2 := fun_mk (st := t_is_integer) l2 c2 k2
  have S2 : Std K mg "is_integer" t_is_integer ["value"] := ⟨⟨f2, _, F2, F2.binds (ps := ["value"]) fun _ _ _ _ _ _ us hl => (match us, hl with | [_], _ => rfl), PySem.W.mg_of X G a2⟩⟩
  have F3 := fun_mk (st := t_require_count) l3 c3 k3
  have S3 : Std K mg "require_count" t_require_count ["value", "least", "most"] := ⟨⟨f3, _, F3, F3.binds (ps := ["value", "least", "most"]) fun _ _ _ _ _ _ us hl => (match us, hl with | [_, _, _], _ => rfl), PySem.W.mg_of X G a3⟩⟩
  have F4 := fun_mk (st := t_is_row) l4 c4 k4
  have S4 : Std K mg "is_row" t_is_row ["value"] := ⟨⟨f4, _, F4, F4.binds (ps := ["value"]) fun _ _ _ _ _ _ us hl => (match us, hl with | [_], _ => rfl), PySem.W.mg_of X G a4⟩⟩
  have F5 := fun_mk (st := t_is_bar) l5 c5 k5
  have S5 : Std K mg "is_bar" t_is_bar ["size", "value"] := ⟨⟨f5, _, F5, F5.binds (ps := ["size", "value"]) fun _ _ _ _ _ _ us hl => (match us, hl with | [_, _], _ => rfl), PySem.W.mg_of X G a5⟩⟩
  have F6 := fun_mk (st := t_bars_of) l6 c6 k6
  have S6 : Std K mg "bars_of" t_bars_of ["size"] := ⟨⟨f6, _, F6, F6.binds (ps := ["size"]) fun _ _ _ _ _ _ us hl => (match us, hl with | [_], _ => rfl), PySem.W.mg_of X G a6⟩⟩
  have F7 := fun_mk (st := t_is_pair_of_bar) l7 c7 k7
  have S7 : Std K mg "is_pair_of_bar" t_is_pair_of_bar ["size", "value"] := ⟨⟨f7, _, F7, F7.binds (ps := ["size", "value"]) fun _ _ _ _ _ _ us hl => (match us, hl with | [_, _], _ => rfl), PySem.W.mg_of X G a7⟩⟩
  have F8 := fun_mk (st := t_sizes_in) l8 c8 k8
  have S8 : Std K mg "sizes_in" t_sizes_in ["size", "bars"] := ⟨⟨f8, _, F8, F8.binds (ps := ["size", "bars"]) fun _ _ _ _ _ _ us hl => (match us, hl with | [_, _], _ => rfl), PySem.W.mg_of X G a8⟩⟩
  have F9 := fun_mk (st := t_bar_hom) l9 c9 k9
  have S9 : Std K mg "bar_hom" t_bar_hom ["one", "other"] := ⟨⟨f9, _, F9, F9.binds (ps := ["one", "other"]) fun _ _ _ _ _ _ us hl => (match us, hl with | [_, _], _ => rfl), PySem.W.mg_of X G a9⟩⟩
  have F10 := fun_mk (st := t_homs_of_rows) l10 c10 k10
  have S10 : Std K mg "homs_of_rows" t_homs_of_rows ["one", "other"] := ⟨⟨f10, _, F10, F10.binds (ps := ["one", "other"]) fun _ _ _ _ _ _ us hl => (match us, hl with | [_, _], _ => rfl), PySem.W.mg_of X G a10⟩⟩
  have F11 := fun_mk (st := t_shares_of) l11 c11 k11
  have S11 : Std K mg "shares_of" t_shares_of ["left", "start", "last"] := ⟨⟨f11, _, F11, F11.binds (ps := ["left", "start", "last"]) fun _ _ _ _ _ _ us hl => (match us, hl with | [_, _, _], _ => rfl), PySem.W.mg_of X G a11⟩⟩
  have F12 := fun_mk (st := t_behind_share) l12 c12 k12
  have S12 : Std K mg "behind_share" t_behind_share ["bars", "left", "start", "share"] := ⟨⟨f12, _, F12, F12.binds (ps := ["bars", "left", "start", "share"]) fun _ _ _ _ _ _ us hl => (match us, hl with | [_, _, _, _], _ => rfl), PySem.W.mg_of X G a12⟩⟩
  have F13 := fun_mk (st := t_rows_of_bars) l13 c13 k13
  have S13 : Std K mg "rows_of_bars" t_rows_of_bars ["sizes", "most"] := ⟨⟨f13, _, F13, F13.binds (ps := ["sizes", "most"]) fun _ _ _ _ _ _ us hl => (match us, hl with | [_, _], _ => rfl), PySem.W.mg_of X G a13⟩⟩
  have F14 := fun_mk (st := t_is_bar_row_in) l14 c14 k14
  have S14 : Std K mg "is_bar_row_in" t_is_bar_row_in ["size", "value"] := ⟨⟨f14, _, F14, F14.binds (ps := ["size", "value"]) fun _ _ _ _ _ _ us hl => (match us, hl with | [_, _], _ => rfl), PySem.W.mg_of X G a14⟩⟩
  have F15 := fun_mk (st := t_require_points) l15 c15 k15
  have S15 : Std K mg "require_points" t_require_points ["size"] := ⟨⟨f15, _, F15, F15.binds (ps := ["size"]) fun _ _ _ _ _ _ us hl => (match us, hl with | [_], _ => rfl), PySem.W.mg_of X G a15⟩⟩
  have F16 := fun_mk (st := t_require_bars) l16 c16 k16
  have S16 : Std K mg "require_bars" t_require_bars ["size", "bars"] := ⟨⟨f16, _, F16, F16.binds (ps := ["size", "bars"]) fun _ _ _ _ _ _ us hl => (match us, hl with | [_, _], _ => rfl), PySem.W.mg_of X G a16⟩⟩
  have F17 := fun_mk (st := t_require_both_bars) l17 c17 k17
  have S17 : Std K mg "require_both_bars" t_require_both_bars ["size", "one", "other"] := ⟨⟨f17, _, F17, F17.binds (ps := ["size", "one", "other"]) fun _ _ _ _ _ _ us hl => (match us, hl with | [_, _, _], _ => rfl), PySem.W.mg_of X G a17⟩⟩
  have F18 := fun_mk (st := t_ranks_in) l18 c18 k18
  have S18 : Std K mg "ranks_in" t_ranks_in ["size", "bars"] := ⟨⟨f18, _, F18, F18.binds (ps := ["size", "bars"]) fun _ _ _ _ _ _ us hl => (match us, hl with | [_, _], _ => rfl), PySem.W.mg_of X G a18⟩⟩
  have F19 := fun_mk (st := t_bars_by_ranks) l19 c19 k19
  have S19 : Std K mg "bars_by_ranks" t_bars_by_ranks ["size", "ranks"] := ⟨⟨f19, _, F19, F19.binds (ps := ["size", "ranks"]) fun _ _ _ _ _ _ us hl => (match us, hl with | [_, _], _ => rfl), PySem.W.mg_of X G a19⟩⟩
  have F20 := fun_mk (st := t_bar_homs) l20 c20 k20
  have S20 : Std K mg "bar_homs" t_bar_homs ["size", "one", "other"] := ⟨⟨f20, _, F20, F20.binds (ps := ["size", "one", "other"]) fun _ _ _ _ _ _ us hl => (match us, hl with | [_, _, _], _ => rfl), PySem.W.mg_of X G a20⟩⟩
  have F21 := fun_mk (st := t_are_below) l21 c21 k21
  have S21 : Std K mg "are_below" t_are_below ["size", "one", "other"] := ⟨⟨f21, _, F21, F21.binds (ps := ["size", "one", "other"]) fun _ _ _ _ _ _ us hl => (match us, hl with | [_, _, _], _ => rfl), PySem.W.mg_of X G a21⟩⟩
  have F22 := fun_mk (st := t_require_bar_sizes) l22 c22 k22
  have S22 : Std K mg "require_bar_sizes" t_require_bar_sizes ["sizes"] := ⟨⟨f22, _, F22, F22.binds (ps := ["sizes"]) fun _ _ _ _ _ _ us hl => (match us, hl with | [_], _ => rfl), PySem.W.mg_of X G a22⟩⟩
  have F23 := fun_mk (st := t_bar_rows) l23 c23 k23
  have S23 : Std K mg "bar_rows" t_bar_rows ["sizes"] := ⟨⟨f23, _, F23, F23.binds (ps := ["sizes"]) fun _ _ _ _ _ _ us hl => (match us, hl with | [_], _ => rfl), PySem.W.mg_of X G a23⟩⟩
  have F24 := fun_mk (st := t_greatest_bars) l24 c24 k24
  have S24 : Std K mg "greatest_bars" t_greatest_bars ["sizes"] := ⟨⟨f24, _, F24, F24.binds (ps := ["sizes"]) fun _ _ _ _ _ _ us hl => (match us, hl with | [_], _ => rfl), PySem.W.mg_of X G a24⟩⟩
  have F25 := fun_mk (st := t_law_bb_all) l25 c25 k25
  have S25 : Std K mg "_law_bb_all" t_law_bb_all ["_law_size"] := ⟨⟨f25, _, F25, F25.binds (ps := ["_law_size"]) fun _ _ _ _ _ _ us hl => (match us, hl with | [_], _ => rfl), PySem.W.mg_of X G a25⟩⟩
  have F26 := fun_mk (st := t_law_bb_ranks) l26 c26 k26
  have S26 : Std K mg "_law_bb_ranks" t_law_bb_ranks ["_law_size", "_law_bars"] := ⟨⟨f26, _, F26, F26.binds (ps := ["_law_size", "_law_bars"]) fun _ _ _ _ _ _ us hl => (match us, hl with | [_, _], _ => rfl), PySem.W.mg_of X G a26⟩⟩
  have F27 := fun_mk (st := t_law_bb_told) l27 c27 k27
  have S27 : Std K mg "_law_bb_told" t_law_bb_told ["_law_counts"] := ⟨⟨f27, _, F27, F27.binds (ps := ["_law_counts"]) fun _ _ _ _ _ _ us hl => (match us, hl with | [_], _ => rfl), PySem.W.mg_of X G a27⟩⟩
  have F28 := fun_mk (st := t_law_bb_longer) l28 c28 k28
  have S28 : Std K mg "_law_bb_longer" t_law_bb_longer ["_law_counts", "_law_left", "_law_bar"] := ⟨⟨f28, _, F28, F28.binds (ps := ["_law_counts", "_law_left", "_law_bar"]) fun _ _ _ _ _ _ us hl => (match us, hl with | [_, _, _], _ => rfl), PySem.W.mg_of X G a28⟩⟩
  have F29 := fun_mk (st := t_law_bb_rows) l29 c29 k29
  have S29 : Std K mg "_law_bb_rows" t_law_bb_rows ["_law_sizes"] := ⟨⟨f29, _, F29, F29.binds (ps := ["_law_sizes"]) fun _ _ _ _ _ _ us hl => (match us, hl with | [_], _ => rfl), PySem.W.mg_of X G a29⟩⟩
  have F30 := fun_mk (st := t_law_bb_ext) l30 c30 k30
  have S30 : Std K mg "_law_bb_ext" t_law_bb_ext ["_law_one", "_law_other"] := ⟨⟨f30, _, F30, F30.binds (ps := ["_law_one", "_law_other"]) fun _ _ _ _ _ _ us hl => (match us, hl with | [_, _], _ => rfl), PySem.W.mg_of X G a30⟩⟩
  have F31 := fun_mk (st := t_law_steps) l31 c31 k31
  have S31 : Std K mg "_law_steps" t_law_steps ["_law_row"] := ⟨⟨f31, _, F31, F31.binds (ps := ["_law_row"]) fun _ _ _ _ _ _ us hl => (match us, hl with | [_], _ => rfl), PySem.W.mg_of X G a31⟩⟩
  have F32 := fun_mk (st := t_law_reached) l32 c32 k32
  have S32 : Std K mg "_law_reached" t_law_reached ["_law_row"] := ⟨⟨f32, _, F32, F32.binds (ps := ["_law_row"]) fun _ _ _ _ _ _ us hl => (match us, hl with | [_], _ => rfl), PySem.W.mg_of X G a32⟩⟩
  have F33 := fun_mk (st := t_lot) l33 c33 k33
  have S33 : Std K mg "_law_lot" t_lot ["_law_script", "_law_spot"] := ⟨⟨f33, _, F33, F33.binds (ps := ["_law_script", "_law_spot"]) fun _ _ _ _ _ _ us hl => (match us, hl with | [_, _], _ => rfl), PySem.W.mg_of X G a33⟩⟩
  have F34 := fun_mk (st := t_pull) l34 c34 k34
  have S34 : Std K mg "_law_pull" t_pull ["_law_lot_here", "_law_total"] := ⟨⟨f34, _, F34, F34.binds (ps := ["_law_lot_here", "_law_total"]) fun _ _ _ _ _ _ us hl => (match us, hl with | [_, _], _ => rfl), PySem.W.mg_of X G a34⟩⟩
  have F35 := fun_mk (st := t_one_of) l35 c35 k35
  have S35 : Std K mg "_law_one_of" t_one_of ["_law_lot_here", "_law_items"] := ⟨⟨f35, _, F35, F35.binds (ps := ["_law_lot_here", "_law_items"]) fun _ _ _ _ _ _ us hl => (match us, hl with | [_, _], _ => rfl), PySem.W.mg_of X G a35⟩⟩
  have F36 := fun_mk (st := t_drawn) l36 c36 k36
  have S36 : Std K mg "_law_sizes_drawn" t_drawn ["_law_lot_here", "_law_size", "_law_most"] := ⟨⟨f36, _, F36, F36.binds (ps := ["_law_lot_here", "_law_size", "_law_most"]) fun _ _ _ _ _ _ us hl => (match us, hl with | [_, _, _], _ => rfl), PySem.W.mg_of X G a36⟩⟩
  have F37 := fun_mk (st := t_right) l37 c37 k37
  have S37 : Std K mg "_law_right" t_right ["_law_lot_here"] := ⟨⟨f37, _, F37, F37.binds (ps := ["_law_lot_here"]) fun _ _ _ _ _ _ us hl => (match us, hl with | [_], _ => rfl), PySem.W.mg_of X G a37⟩⟩
  have F38 := fun_mk (st := t_law) l38 c38 k38
  refine ⟨PySem.W.fnOf "law" "law" (defArgs t_law) (defBody t_law) (defScope t_law) .none kV38 dc38 pm38 an38 cd38 ct38, fun s v => .of_eq rfl, fun base _ _ => ?_⟩
  have q_is_whole := ok_is_whole (P := l.prog) (base := base) TT S1
  have q_is_integer := ok_is_integer (P := l.prog) (base := base) TT TGg S2 q_is_whole
  have q_require_count := ok_require_count (P := l.prog) (base := base) TT S3 q_is_integer
  have q_is_row := ok_is_row (P := l.prog) (base := base) TT TGg S4 q_is_whole
  have q_is_bar := ok_is_bar (P := l.prog) (base := base) TT S5 q_is_whole
  have q_bars_of := ok_bars_of (P := l.prog) (base := base) TT S6
  have q_is_pair_of_bar := ok_is_pair_of_bar (P := l.prog) (base := base) TT TGg S7 q_is_bar q_is_whole
  have q_sizes_in := ok_sizes_in (P := l.prog) (base := base) TT S8
  have q_bar_hom := ok_bar_hom (P := l.prog) (base := base) TT S9
  have q_homs_of_rows := ok_homs_of_rows (P := l.prog) (base := base) TT S10 q_bar_hom
  have q_shares_of := ok_shares_of (P := l.prog) (base := base) TT S11
  have q_behind_share := ok_behind_share (P := l.prog) (base := base) TT S12
  have q_rows_of_bars := ok_rows_of_bars (P := l.prog) (base := base) TT S13 q_shares_of q_behind_share
  have q_is_bar_row_in := ok_is_bar_row_in (P := l.prog) (base := base) TT TGg S14 q_is_pair_of_bar q_sizes_in
  have q_require_points := ok_require_points (P := l.prog) (base := base) TT TGg S15 q_require_count
  have q_require_bars := ok_require_bars (P := l.prog) (base := base) TT S16 q_is_bar_row_in
  have q_require_both_bars := ok_require_both_bars (P := l.prog) (base := base) TT S17 q_require_points q_require_bars
  have q_ranks_in := ok_ranks_in (P := l.prog) (base := base) TT S18 q_bars_of
  have q_bars_by_ranks := ok_bars_by_ranks (P := l.prog) (base := base) TT S19 q_bars_of
  have q_bar_homs := ok_bar_homs (P := l.prog) (base := base) TT S20 q_require_both_bars q_homs_of_rows
  have q_are_below := ok_are_below (P := l.prog) (base := base) TT S21 q_require_both_bars q_sizes_in q_ranks_in
  have q_require_bar_sizes := ok_require_bar_sizes (P := l.prog) (base := base) TT S22 q_is_row
  have q_bar_rows := ok_bar_rows (P := l.prog) (base := base) TT TGg S23 q_require_bar_sizes q_rows_of_bars
  have q_greatest_bars := ok_greatest_bars (P := l.prog) (base := base) TT S24 q_require_bar_sizes q_bars_of q_bars_by_ranks
  have q_law_bb_all := ok_law_bb_all (P := l.prog) (base := base) TT S25
  have q_law_bb_ranks := ok_law_bb_ranks (P := l.prog) (base := base) TT S26 q_law_bb_all
  have q_law_bb_told := ok_law_bb_told (P := l.prog) (base := base) TT S27
  have q_law_bb_longer := ok_law_bb_longer (P := l.prog) (base := base) TT S28
  have q_law_bb_rows := ok_law_bb_rows (P := l.prog) (base := base) TT S29 q_law_bb_all q_law_bb_longer q_law_bb_told
  have q_law_bb_ext := ok_law_bb_ext (P := l.prog) (base := base) TT S30
  have q_law_steps := ok_law_steps (P := l.prog) (base := base) TT S31 q_law_bb_ext q_law_bb_told
  have q_law_reached := ok_law_reached (P := l.prog) (base := base) TT S32 q_law_steps
  have q_lot := ok_lot (P := l.prog) (w := Wd.w) (base := base) TT S33
  have q_pull := ok_pull (P := l.prog) (w := Wd.w) (base := base) TT S34
  have q_one := ok_one_of (P := l.prog) (w := Wd.w) (base := base) TT S35 q_pull
  have q_drawn := ok_drawn (P := l.prog) (w := Wd.w) (base := base) TT S36 q_pull
  have q_right := ok_right (P := l.prog) (base := base) factsAll TT S37 q_pull q_one q_drawn q_law_bb_rows q_bar_rows q_greatest_bars q_law_bb_all q_law_bb_ranks q_are_below q_law_reached q_law_steps q_bar_homs
  exact ok_law TT F38 q_lot q_right q_bar_rows q_greatest_bars
end Ar
open PySem PySem.W PyProof.Rows
set_option maxHeartbeats 0 in
theorem PySem.Challenge.cw_arrowsizes_k83_whole_bar_rows_below_othe_holds : PySem.Challenge.rw_arrowsizes_k83_whole_bar_rows_below_othe.Holds := by
  w_on; o_law; k_head; (case hw => w_witness2)
  k_fill
  refine L2.walk_of (l := PySem.Challenge.rw_arrowsizes_k83_whole_bar_rows_below_othe) (n := 63) (k := 9) (x := "_law_script") (CX := fun _ => L2.CX0) (sp := fun w => Ar.spLaw _) rfl (by decide) rfl ⟨rfl, by decide, by decide⟩ (fun w h Y => PySem.W.kIn_of Y) ?F (fun _ _ a ns hl _ hS => ⟨a, ns, rfl, hS, fun _ => rfl⟩) (fun _ _ _ _ _ h => h)
  case F =>
    intro w mg fa h KX G hmg
    letI : Dl.Wd := ⟨w⟩
    refine' Ar.all_mk (l := PySem.Challenge.rw_arrowsizes_k83_whole_bar_rows_below_othe) KX G hmg ?a1 ?l1 ?c1 ?k1 ?a2 ?l2 ?c2 ?k2 ?a3 ?l3 ?c3 ?k3 ?a4 ?l4 ?c4 ?k4 ?a5 ?l5 ?c5 ?k5 ?a6 ?l6 ?c6 ?k6 ?a7 ?l7 ?c7 ?k7 ?a8 ?l8 ?c8 ?k8 ?a9 ?l9 ?c9 ?k9 ?a10 ?l10 ?c10 ?k10 ?a11 ?l11 ?c11 ?k11 ?a12 ?l12 ?c12 ?k12 ?a13 ?l13 ?c13 ?k13 ?a14 ?l14 ?c14 ?k14 ?a15 ?l15 ?c15 ?k15 ?a16 ?l16 ?c16 ?k16 ?a17 ?l17 ?c17 ?k17 ?a18 ?l18 ?c18 ?k18 ?a19 ?l19 ?c19 ?k19 ?a20 ?l20 ?c20 ?k20 ?a21 ?l21 ?c21 ?k21 ?a22 ?l22 ?c22 ?k22 ?a23 ?l23 ?c23 ?k23 ?a24 ?l24 ?c24 ?k24 ?a25 ?l25 ?c25 ?k25 ?a26 ?l26 ?c26 ?k26 ?a27 ?l27 ?c27 ?k27 ?a28 ?l28 ?c28 ?k28 ?a29 ?l29 ?c29 ?k29 ?a30 ?l30 ?c30 ?k30 ?a31 ?l31 ?c31 ?k31 ?a32 ?l32 ?c32 ?k32 ?a33 ?l33 ?c33 ?k33 ?a34 ?l34 ?c34 ?k34 ?a35 ?l35 ?c35 ?k35 ?a36 ?l36 ?c36 ?k36 ?a37 ?l37 ?c37 ?k37 ?a38 ?l38 ?c38 ?k38 ?z1 ?z2 ?z3 ?z4 ?z5 ?z6 ?z7 ?z8 ?z9 ?z10 ?z11 ?z12 ?z13 ?z14 ?z15 ?z16 ?n1 ?n2 ?n3 ?n4 ?n5 ?n6
    (case a1 => k_is)
    (case l1 => k_is)
    (case c1 => k_is)
    (case k1 => k_is)
    (case a2 => k_is)
    (case l2 => k_is)
    (case c2 => k_is)
    (case k2 => k_is)
    (case a3 => k_is)
    (case l3 => k_is)
    (case c3 => k_is)
    (case k3 => k_is)
    (case a4 => k_is)
    (case l4 => k_is)
    (case c4 => k_is)
    (case k4 => k_is)
    (case a5 => k_is)
    (case l5 => k_is)
    (case c5 => k_is)
    (case k5 => k_is)
    (case a6 => k_is)
    (case l6 => k_is)
    (case c6 => k_is)
    (case k6 => k_is)
    (case a7 => k_is)
    (case l7 => k_is)
    (case c7 => k_is)
    (case k7 => k_is)
    (case a8 => k_is)
    (case l8 => k_is)
    (case c8 => k_is)
    (case k8 => k_is)
    (case a9 => k_is)
    (case l9 => k_is)
    (case c9 => k_is)
    (case k9 => k_is)
    (case a10 => k_is)
    (case l10 => k_is)
    (case c10 => k_is)
    (case k10 => k_is)
    (case a11 => k_is)
    (case l11 => k_is)
    (case c11 => k_is)
    (case k11 => k_is)
    (case a12 => k_is)
    (case l12 => k_is)
    (case c12 => k_is)
    (case k12 => k_is)
    (case a13 => k_is)
    (case l13 => k_is)
    (case c13 => k_is)
    (case k13 => k_is)
    (case a14 => k_is)
    (case l14 => k_is)
    (case c14 => k_is)
    (case k14 => k_is)
    (case a15 => k_is)
    (case l15 => k_is)
    (case c15 => k_is)
    (case k15 => k_is)
    (case a16 => k_is)
    (case l16 => k_is)
    (case c16 => k_is)
    (case k16 => k_is)
    (case a17 => k_is)
    (case l17 => k_is)
    (case c17 => k_is)
    (case k17 => k_is)
    (case a18 => k_is)
    (case l18 => k_is)
    (case c18 => k_is)
    (case k18 => k_is)
    (case a19 => k_is)
    (case l19 => k_is)
    (case c19 => k_is)
    (case k19 => k_is)
    (case a20 => k_is)
    (case l20 => k_is)
    (case c20 => k_is)
    (case k20 => k_is)
    (case a21 => k_is)
    (case l21 => k_is)
    (case c21 => k_is)
    (case k21 => k_is)
    (case a22 => k_is)
    (case l22 => k_is)
    (case c22 => k_is)
    (case k22 => k_is)
    (case a23 => k_is)
    (case l23 => k_is)
    (case c23 => k_is)
    (case k23 => k_is)
    (case a24 => k_is)
    (case l24 => k_is)
    (case c24 => k_is)
    (case k24 => k_is)
    (case a25 => k_is)
    (case l25 => k_is)
    (case c25 => k_is)
    (case k25 => k_is)
    (case a26 => k_is)
    (case l26 => k_is)
    (case c26 => k_is)
    (case k26 => k_is)
    (case a27 => k_is)
    (case l27 => k_is)
    (case c27 => k_is)
    (case k27 => k_is)
    (case a28 => k_is)
    (case l28 => k_is)
    (case c28 => k_is)
    (case k28 => k_is)
    (case a29 => k_is)
    (case l29 => k_is)
    (case c29 => k_is)
    (case k29 => k_is)
    (case a30 => k_is)
    (case l30 => k_is)
    (case c30 => k_is)
    (case k30 => k_is)
    (case a31 => k_is)
    (case l31 => k_is)
    (case c31 => k_is)
    (case k31 => k_is)
    (case a32 => k_is)
    (case l32 => k_is)
    (case c32 => k_is)
    (case k32 => k_is)
    (case a33 => k_is)
    (case l33 => k_is)
    (case c33 => k_is)
    (case k33 => k_is)
    (case a34 => k_is)
    (case l34 => k_is)
    (case c34 => k_is)
    (case k34 => k_is)
    (case a35 => k_is)
    (case l35 => k_is)
    (case c35 => k_is)
    (case k35 => k_is)
    (case a36 => k_is)
    (case l36 => k_is)
    (case c36 => k_is)
    (case k36 => k_is)
    (case a37 => k_is)
    (case l37 => k_is)
    (case c37 => k_is)
    (case k37 => k_is)
    (case a38 => k_is)
    (case l38 => k_is)
    (case c38 => k_is)
    (case k38 => k_is)
    (case z1 => k_is)
    (case z2 => k_is)
    (case z3 => k_is)
    (case z4 => k_is)
    (case z5 => k_is)
    (case z6 => k_is)
    (case z7 => k_is)
    (case z8 => k_is)
    (case z9 => k_is)
    (case z10 => k_is)
    (case z11 => k_is)
    (case z12 => k_is)
    (case z13 => k_is)
    (case z14 => k_is)
    (case z15 => k_is)
    (case z16 => k_is)
    (case n1 => k_is)
    (case n2 => k_is)
    (case n3 => k_is)
    (case n4 => k_is)
    (case n5 => k_is)
    (case n6 => k_is)

end
