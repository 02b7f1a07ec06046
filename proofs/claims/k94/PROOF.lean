import PyProof.Rows.All
import Wide.All
import OpenK.AllK
import Wide.FinOn
import HandS.ForMost
import HandS.Walk
import HandS.Deep
import HandS.TupAny
import HandS.Lambda
import HandS.Exc
import HandS.ExcInit
import HandS.ExcField
import HandS.TryMany
import HandS.TryOnly
import HandS.WordsExc
import HandS.Wide
import HandS.Flow
import HandS.Style
import HandS.Star
import HandS.IsInst
import HandS.Conv
import HandS.SortInts
import HandS.Codes
import KE.GoesEnum
import HandS.Strs
import HandS.Dict
import HandS.IterVal
import HandS.ExcOwn
import HandS.Iter
import HandS.Head0
import HandS.Head1
import HandS.Head2
import HandS.HeadEnd
import HandS.HeadHook4
import HandS.HeadWalk
import HandS.NestedK
import HandS.EndTab
import HandS.Defaults
import PySem.Challenge.RW_switchrests_k94_whole_deciding_heeds
set_option Elab.async false
set_option linter.all false
set_option maxRecDepth 100000
namespace Vm
open PySem L2
/-! tuples that are known to have no dict of their own -/
def STup (K : PySem.W.Frag) (H : Hp) (a : Addr) (xs : List V) : Prop :=
  (∃ o : Obj, H a = some (.frz o (.tup xs)) ∧ o.dict = none) ∨
    ∃ (o : Obj) (its : Array Value) (n : Nat), K.lookup a = some o ∧ o.cls = .type "tuple" ∧ o.dict = none ∧ o.data = .seq its n ∧ its.size ≤ sizeLine ∧ Vals xs its.toList
theorem STup.sq {K : PySem.W.Frag} {H : Hp} {a : Addr} {xs : List V} (h : STup K H a xs) : SqT K H a xs := by
  rcases h with ⟨o, h, _⟩ | ⟨o, its, n, h1, h2, _, h3, h4, h5⟩
  · exact .inl (.inr ⟨o, h⟩)
  · exact .inr ⟨o, its, n, h1, h2, h3, h4, h5⟩
theorem STup.bare {X : Cx} {pins : List (Addr × Obj)} {σ : St} {H : Hp} {s : Shared} {a : Addr} {xs : List V} (h : STup X.K H a xs) (I : Inv X pins σ H s) : ∃ ob, s.heap.get? a = some ob ∧ ob.dict = none := by
  rcases h with ⟨o, h, hd⟩ | ⟨o, its, n, h1, h2, hd, _⟩
  · exact ⟨o, (I.hok a _ h).1, hd⟩
  · exact ⟨o, I.kIn a o h1, hd⟩
/-- how a new tuple's place looks -/
abbrev NewT (H : Hp) (xs : List V) (Q : VK) : Prop := ∀ (p : Addr) (o : Obj), H p = none → o.dict = none → Q (.ref p) (upd H p (.frz o (.tup xs)))
section
variable {X : Cx} {es : List Expr} {t : TA} {pos : Pos} {pins : List (Addr × Obj)} {σ : St} {H : Hp} {s : Shared}
theorem laidT {xs : List V} {us : List Value} {Q : VK} (I : Inv X pins σ H s) (r : Vals xs us) (hz : xs.length ≤ sizeLine) (q : NewT H xs Q) :
    EP X pins σ Q (.ref s.heap.objs.size) { s with heap := s.heap.push { cls := .type "tuple", data := .seq us.toArray } } := by
  have new : (s.heap.push { cls := .type "tuple", data := .seq us.toArray }).get? s.heap.objs.size = some { cls := .type "tuple", data := .seq us.toArray } := Heap.get?_push_size _ rfl
  refine ⟨.ref s.heap.objs.size, _, I.laid (a := s.heap.objs.size) (t' := s.toks) (o := .frz { cls := .type "tuple", data := .seq us.toArray } (.tup xs)) ?_ (Nat.le_refl _) ⟨new, hz, us, r, _, new, rfl, _, rfl⟩, rfl, q _ _ (I.hok.fresh (Nat.le_refl _)) rfl⟩
  exact fun b u e => Heap.get?_push_of_some _ e
theorem pe_tupF {k : Nat} (h : PA X es t) : PE X (.Tuple es k pos) (fun σ H Q => t σ H fun xs H1 => xs.length ≤ sizeLine ∧ NewT H1 xs Q) := by
  constructor
  intro pins s σ H Q I hq
  refine wpAny_Tuple_spliced (thn (h.run pos pins s σ H _ I hq) ?_)
  rintro us s1 ⟨xs, H1, I1, r, z, q⟩
  exact ⟨by rw [← r.length]; exact z, laidT I1 r z q⟩
/-- tuple(xs), tuple(t) -/
theorem call_tuple_ofF : CallR X (.type "tuple") (fun xs H Q => ∃ p ys, xs = [.ref p] ∧ ((SqL X.K H p ys ∧ NewT H ys Q) ∨ (SqT X.K H p ys ∧ Q (.ref p) H))) := by
  rintro pins s σ H xs us Q I r ⟨p, ys, rfl, h⟩
  obtain ⟨u, rfl, rx⟩ := vals1 r
  cases rx
  rcases h with ⟨hq, q⟩ | ⟨hq, q⟩
  · obtain ⟨its, r', pl, hz⟩ := I.list hq
    refine call_tuple_list pl.isList (fun h' kp => ?_) (by have := r'.length; simp only [List.size_toArray] <;> omega)
    exact laidT (s := { s with heap := h' }) (I.kept (t' := s.toks) kp) r' hz q
  · obtain ⟨its, r', pl, hz⟩ := I.tuple hq
    exact call_tuple_same pl ⟨.ref p, H, I, rfl, q⟩
/-- t[lo:hi] -/
theorem sl_tupF : SlR X (fun x lo hi H Q => ∃ a xs, x = .ref a ∧ SqT X.K H a xs ∧ (HT.sIx xs.length 0 lo = 0 ∧ HT.sIx xs.length xs.length hi = xs.length → Q (.ref a) H) ∧
    (¬ (HT.sIx xs.length 0 lo = 0 ∧ HT.sIx xs.length xs.length hi = xs.length) → NewT H (cutV xs lo hi) Q)) := by
  rintro pins s σ H x v vl vu lo hi sl Q I rx hs pl pu ⟨a, xs, rfl, hx, q1, q2⟩
  by_cases hw : HT.sIx xs.length 0 lo = 0 ∧ HT.sIx xs.length xs.length hi = xs.length
  · exact sl_tupA pins s σ H _ v vl vu lo hi sl Q I rx hs pl pu ⟨a, xs, rfl, hx, q1, fun n => absurd hw n⟩
  · cases rx
    obtain ⟨its, r, ht, hz⟩ := I.tuple hx
    have hl : its.toArray.size = xs.length := by rw [List.size_toArray]; exact r.length.symm
    refine ⟨"tuple", _, PyProof.Rows.slot_tuple_getitem.lookup, ht.typeIs, HT.getItem_tuple_cut ht hs pl pu (by rw [hl]; exact hw) ?_ (by rw [hl]; exact hz)⟩
    rw [hl]
    exact laidT I ((r.drop (HT.sIx xs.length 0 lo)).take (HT.sIx xs.length xs.length hi - HT.sIx xs.length 0 lo)) (Nat.le_trans (cutV_length xs lo hi) hz) (q2 hw)
/-- t + u -/
theorem op_catF : OpR X (binaryOp .Add) (fun x y H Q => ∃ a b xs ys, x = .ref a ∧ y = .ref b ∧ SqT X.K H a xs ∧ SqT X.K H b ys ∧ xs.length + ys.length ≤ sizeLine ∧
    (xs = [] → Q (.ref b) H) ∧ (xs ≠ [] → ys = [] → Q (.ref a) H) ∧ (xs ≠ [] → ys ≠ [] → NewT H (xs ++ ys) Q)) := by
  rintro pins s σ H x y v u Q I rx ry ⟨a, b, xs, ys, rfl, rfl, ha, hb, hz, q0, q1, q2⟩
  by_cases h1 : xs = []
  · exact op_catA pins s σ H _ _ v u Q I rx ry ⟨a, b, xs, ys, rfl, rfl, ha, hb, hz, q0, fun n => absurd h1 n, fun n => absurd h1 n⟩
  · cases rx
    cases ry
    obtain ⟨its, r1, p1, _⟩ := I.tuple ha
    obtain ⟨its2, r2, p2, _⟩ := I.tuple hb
    refine HT.cat_tup p1 p2 (fun z => h1 (r1.nil_iff.mp z)) (fun z => ⟨.ref a, H, I, rfl, q1 h1 (r2.nil_iff.mp z)⟩) (fun z => ?_) (by rw [← r1.length, ← r2.length]; exact hz)
    exact laidT I (r1.append r2) (by rw [List.length_append]; exact hz) (q2 h1 fun w => z (r2.nil_iff.mpr w))
end
end Vm

set_option Elab.async false
set_option linter.all false
set_option maxRecDepth 100000
namespace Vm
open PySem L2

/-! ### a tree of draws -/
/-- an exception of the text's own classes: its class by name, what it is made with -/
structure Exn where
  cls : Str
  fs : List (Str × PyData)
inductive M (α : Type) where
  | ret (a : α)
  | stuck
  | raise (x : Exn)
  | draw (n : Nat) (k : Nat → M α)
namespace M
variable {α β γ : Type}
def bind : M α → (α → M β) → M β
  | .ret a, f => f a
  | .stuck, _ => .stuck
  | .raise x, _ => .raise x
  | .draw n k, f => .draw n fun z => (k z).bind f
instance : Monad M where
  pure := M.ret
  bind := M.bind
/-- whatever is drawn: every leaf is right, with what is left of the budget -/
def all (R : Exn → Nat → Prop) (P : α → Nat → Prop) : M α → Nat → Prop
  | .ret a, b => P a b
  | .stuck, _ => False
  | .raise x, b => R x b
  | .draw n k, b => 0 < n ∧ 0 < b ∧ ∀ z, z < n → (k z).all R P (b - 1)
/-- nothing is raised -/
def R0 : Exn → Nat → Prop := fun _ _ => False
/-- what raises is not told -/
def calm : M α → M α
  | .ret a => .ret a
  | .stuck => .stuck
  | .raise _ => .stuck
  | .draw n k => .draw n fun z => (k z).calm
@[simp] theorem bind_ret (a : α) (f : α → M β) : (M.ret a >>= f) = f a := rfl
@[simp] theorem bind_pure' (a : α) (f : α → M β) : ((pure a : M α) >>= f) = f a := rfl
@[simp] theorem bind_stuck (f : α → M β) : ((M.stuck : M α) >>= f) = M.stuck := rfl
@[simp] theorem bind_draw (n : Nat) (k : Nat → M α) (f : α → M β) : (M.draw n k >>= f) = M.draw n (fun z => k z >>= f) := rfl
@[simp] theorem bind_raise (x : Exn) (f : α → M β) : ((M.raise x : M α) >>= f) = M.raise x := rfl
@[simp] theorem all_ret (R : Exn → Nat → Prop) (P : α → Nat → Prop) (a : α) (b : Nat) : (M.ret a).all R P b = P a b := rfl
@[simp] theorem all_pure (R : Exn → Nat → Prop) (P : α → Nat → Prop) (a : α) (b : Nat) : (pure a : M α).all R P b = P a b := rfl
@[simp] theorem all_stuck (R : Exn → Nat → Prop) (P : α → Nat → Prop) (b : Nat) : (M.stuck : M α).all R P b = False := rfl
@[simp] theorem all_raise (R : Exn → Nat → Prop) (P : α → Nat → Prop) (x : Exn) (b : Nat) : (M.raise x : M α).all R P b = R x b := rfl
@[simp] theorem calm_ret (a : α) : (M.ret a).calm = M.ret a := rfl
theorem all_bind (R : Exn → Nat → Prop) (P : β → Nat → Prop) (f : α → M β) : ∀ (m : M α) (b : Nat), (m >>= f).all R P b ↔ m.all R (fun a b' => (f a).all R P b') b
  | .ret a, b => Iff.rfl
  | .stuck, b => Iff.rfl
  | .raise x, b => Iff.rfl
  | .draw n k, b => by
    show (0 < n ∧ 0 < b ∧ ∀ z, z < n → ((k z) >>= f).all R P (b - 1)) ↔ (0 < n ∧ 0 < b ∧ ∀ z, z < n → (k z).all R _ (b - 1))
    exact and_congr Iff.rfl (and_congr Iff.rfl (forall_congr' fun z => imp_congr Iff.rfl (all_bind R P f (k z) (b - 1))))
theorem all_mono {R : Exn → Nat → Prop} {P Q : α → Nat → Prop} (h : ∀ a b, P a b → Q a b) : ∀ (m : M α) (b : Nat), m.all R P b → m.all R Q b
  | .ret a, b, q => h a b q
  | .stuck, b, q => q
  | .raise x, b, q => q
  | .draw n k, b, q => ⟨q.1, q.2.1, fun z hz => all_mono h (k z) (b - 1) (q.2.2 z hz)⟩
theorem all_calm {R R' : Exn → Nat → Prop} {P : α → Nat → Prop} : ∀ (m : M α) (b : Nat), m.calm.all R P b → m.all R' P b
  | .ret a, b, q => q
  | .stuck, b, q => q
  | .raise x, b, q => q.elim
  | .draw n k, b, q => ⟨q.1, q.2.1, fun z hz => all_calm (k z) (b - 1) (q.2.2 z hz)⟩
/-- what is raised is wished otherwise, too -/
theorem all_both {R R' : Exn → Nat → Prop} {P Q : α → Nat → Prop} (hr : ∀ x b, R x b → R' x b) (h : ∀ a b, P a b → Q a b) : ∀ (m : M α) (b : Nat), m.all R P b → m.all R' Q b
  | .ret a, b, q => h a b q
  | .stuck, b, q => q
  | .raise x, b, q => hr x b q
  | .draw n k, b, q => ⟨q.1, q.2.1, fun z hz => all_both hr h (k z) (b - 1) (q.2.2 z hz)⟩
theorem bind_assoc (f : α → M β) (g : β → M γ) : ∀ (m : M α), ((m >>= f) >>= g) = (m >>= fun a => f a >>= g)
  | .ret a => rfl
  | .stuck => rfl
  | .raise x => rfl
  | .draw n k => by
    show M.draw n (fun z => ((k z) >>= f) >>= g) = M.draw n (fun z => k z >>= fun a => f a >>= g)
    exact congrArg _ (funext fun z => bind_assoc f g (k z))
theorem bind_ret_right : ∀ (m : M α), (m >>= M.ret) = m
  | .ret a => rfl
  | .stuck => rfl
  | .raise x => rfl
  | .draw n k => by
    show M.draw n (fun z => (k z) >>= M.ret) = M.draw n k
    exact congrArg _ (funext fun z => bind_ret_right (k z))
instance : LawfulMonad M := LawfulMonad.mk'
  (id_map := fun m => bind_ret_right m)
  (pure_bind := fun _ _ => rfl)
  (bind_assoc := fun m f g => bind_assoc f g m)
  (map_const := by intros; rfl)
  (bind_pure_comp := by intros; rfl)
  (seqLeft_eq := by intros; rfl)
  (seqRight_eq := by intros; rfl)
  (bind_map := by intros; rfl)
def guard (c : Bool) : M Unit := if c then .ret () else .stuck
def ofOption : Option α → M α
  | some a => .ret a
  | none => .stuck
theorem all_guard {R : Exn → Nat → Prop} {c : Bool} {P : Unit → Nat → Prop} {b : Nat} : (guard c).all R P b ↔ c = true ∧ P () b := by
  unfold guard; cases c <;> simp
theorem all_ofOption {R : Exn → Nat → Prop} {o : Option α} {P : α → Nat → Prop} {b : Nat} : (ofOption o).all R P b ↔ ∃ a, o = some a ∧ P a b := by
  cases o <;> simp [ofOption]
end M

/-! ### data -/
mutual
/-- no list, no dict in it -/
def imm : PyData → Bool
  | .list _ => false
  | .dict _ => false
  | .tuple xs => imms xs
  | _ => true
def imms : List PyData → Bool
  | [] => true
  | x :: xs => imm x && imms xs
end
theorem imms_iff : ∀ {xs : List PyData}, imms xs = true ↔ ∀ x ∈ xs, imm x = true
  | [] => by simp [imms]
  | x :: xs => by simp [imms, imms_iff (xs := xs)]

/-- the key of a dict, as it stands in one of the layer's dicts -/
def kData : Key → PyData
  | .inl i => .int i
  | .inr x => .str x
/-- a dict at a, its keys and the values' places -/
def DictAt (H : Hp) (a : Addr) (ks : List PyData) (vs : List V) : Prop :=
  (∃ kvs : List (Key × V), H a = some (.dK kvs) ∧ ks = kvs.map (fun p => kData p.1) ∧ vs = kvs.map (·.2)) ∨
  (∃ kvs : List (List Key × V), H a = some (.dT kvs) ∧ ks = kvs.map (fun p => .tuple (p.1.map kData)) ∧ vs = kvs.map (·.2))

/-- the tables of code objects -/
class TabsC where
  T : List (Addr × Str)
variable [TabsC]
/-- the stream's places -/
structure StA where
  a : Addr
  c : Addr
def Off (st : StA) (x : Addr) : Prop := x ≠ st.2 ∧ ∀ p ∈ TabsC.T, x ≠ p.1

mutual
/-- the data d stands at v; fp: the places that may be written -/
def Rep (K : PySem.W.Frag) (st : StA) (H : Hp) : PyData → V → List Addr → Prop
  | .none, v, fp => v = .non ∧ fp = []
  | .bool b, v, fp => v = .bl b ∧ fp = []
  | .int i, v, fp => v = .int i ∧ fp = []
  | .str x, v, fp => v = .str x ∧ fp = []
  | .tuple ds, v, fp => ∃ a vs, v = .ref a ∧ STup K H a vs ∧ Reps K st H ds vs fp
  | .list ds, v, fp => ∃ a vs f, v = .ref a ∧ H a = some (.lst vs) ∧ a ≠ st.1 ∧ Off st a ∧ Reps K st H ds vs f ∧ fp = a :: f
  | .dict kvs, v, fp => ∃ a ks vs f, v = .ref a ∧ DictAt H a ks vs ∧ a ≠ st.1 ∧ Off st a ∧ RepKs K st H kvs ks vs f ∧ fp = a :: f
def Reps (K : PySem.W.Frag) (st : StA) (H : Hp) : List PyData → List V → List Addr → Prop
  | [], vs, fp => vs = [] ∧ fp = []
  | d :: ds, vs, fp => ∃ v vr f1 f2, vs = v :: vr ∧ Rep K st H d v f1 ∧ Reps K st H ds vr f2 ∧ fp = f1 ++ f2
def RepKs (K : PySem.W.Frag) (st : StA) (H : Hp) : List (PyData × PyData) → List PyData → List V → List Addr → Prop
  | [], ks, vs, fp => ks = [] ∧ vs = [] ∧ fp = []
  | (k, d) :: kvs, ks, vs, fp => ∃ kr v vr f1 f2, ks = k :: kr ∧ vs = v :: vr ∧ Rep K st H d v f1 ∧ RepKs K st H kvs kr vr f2 ∧ fp = f1 ++ f2
end


def SameX (st : StA) (H H' : Hp) : Prop := ∀ a o, a ≠ st.1 → Off st a → H a = some o → H' a = some o
theorem SameX.refl {st : StA} (H : Hp) : SameX st H H := fun _ _ _ _ e => e
theorem SameX.trans {st : StA} {H H1 H2 : Hp} (x : SameX st H H1) (y : SameX st H1 H2) : SameX st H H2 := fun a o h1 h2 e => y a o h1 h2 (x a o h1 h2 e)
theorem SameX.new {st : StA} {H : Hp} {p : Addr} {o : HO} (h : H p = none) : SameX st H (upd H p o) := fun a u _ _ e => by rw [upd_ne (ne_of_none e h)]; exact e

/-- the stream: its list at st.1, the cells that are left at st.2; b draws may still come -/
def Big : Nat := 2 ^ 40
def Stm (H : Hp) (st : StA) (b : Nat) : Prop :=
  ∃ (cells : List Int) (big c mix : Int), H st.1 = some (.lst [.ref st.2, .int big, .int c, .int mix]) ∧ H st.2 = some (.lst (cells.map V.int)) ∧ st.1 ≠ st.2 ∧
    0 ≤ big ∧ 0 ≤ c ∧ c + (b : Int) ≤ (Big : Int) ∧ 0 ≤ mix ∧ mix < 2147483647 ∧ LamX.Tabs TabsC.T H
theorem Stm.at1 {H : Hp} {st : StA} {b : Nat} (s : Stm H st b) : ∃ xs, H st.1 = some (.lst xs) := by obtain ⟨_, _, _, _, e, _⟩ := s; exact ⟨_, e⟩
theorem Stm.at2 {H : Hp} {st : StA} {b : Nat} (s : Stm H st b) : ∃ xs, H st.2 = some (.lst xs) := by obtain ⟨_, _, _, _, _, e, _⟩ := s; exact ⟨_, e⟩
theorem Stm.tabs {H : Hp} {st : StA} {b : Nat} (s : Stm H st b) : LamX.Tabs TabsC.T H := by obtain ⟨_, _, _, _, _, _, _, _, _, _, _, _, t⟩ := s; exact t
/-- something tracked that is no list is not the stream's -/
theorem Stm.ne {H : Hp} {st : StA} {b : Nat} (s : Stm H st b) {a : Addr} {o : HO} (e : H a = some o) (h : ∀ xs, o ≠ .lst xs) (h' : ∀ ps, o ≠ .tbl ps := by intro _ z; cases z) : a ≠ st.1 ∧ Off st a := by
  obtain ⟨x1, e1⟩ := s.at1
  obtain ⟨x2, e2⟩ := s.at2
  refine ⟨fun z => ?_, fun z => ?_, fun p hp z => ?_⟩
  · subst z; rw [e1] at e; cases e; exact h _ rfl
  · subst z; rw [e2] at e; cases e; exact h _ rfl
  · obtain ⟨ps, e3, _⟩ := s.tabs p hp
    rw [← z, e] at e3
    exact h' ps (Option.some.inj e3)
/-- what is not tracked is not the stream's -/
theorem Stm.off {H : Hp} {st : StA} {b : Nat} (s : Stm H st b) {a : Addr} (e : H a = none) : a ≠ st.1 ∧ Off st a := by
  obtain ⟨x1, e1⟩ := s.at1
  obtain ⟨x2, e2⟩ := s.at2
  refine ⟨fun z => ?_, fun z => ?_, fun p hp z => ?_⟩
  · rw [z, e1] at e; cases e
  · rw [z, e2] at e; cases e
  · obtain ⟨ps, e3, _⟩ := s.tabs p hp
    rw [← z, e] at e3; cases e3
/-- more is tracked, no new table -/
structure Grow (H H' : Hp) : Prop where
  k : ∀ a o, H a = some o → H' a = some o
  t : ∀ a ps, H' a = some (.tbl ps) → H a = some (.tbl ps)
instance {H H' : Hp} : CoeFun (Grow H H') (fun _ => ∀ a o, H a = some o → H' a = some o) := ⟨Grow.k⟩
theorem Grow.refl (H : Hp) : Grow H H := ⟨fun _ _ e => e, fun _ _ e => e⟩
theorem Grow.upd {H : Hp} {p : Addr} {o : HO} (h : H p = none) (ho : ∀ ps, o ≠ .tbl ps := by intro _ z; cases z) : Grow H (upd H p o) := by
  refine ⟨fun a u e => by rw [upd_ne (ne_of_none e h)]; exact e, fun a ps e => ?_⟩
  by_cases ha : a = p
  · subst ha
    rw [upd_same] at e
    exact absurd (Option.some.inj e) (ho ps)
  · rw [upd_ne ha] at e; exact e
theorem Stm.ext {H H' : Hp} {st : StA} {b : Nat} (s : Stm H st b) (g : Grow H H') : Stm H' st b := by
  obtain ⟨cells, big, c, mix, e1, e2, n, r1, r2, r3, r4, r5, t⟩ := s
  exact ⟨cells, big, c, mix, g _ _ e1, g _ _ e2, n, r1, r2, r3, r4, r5, t.ext g.k⟩
theorem Stm.new {H : Hp} {st : StA} {b : Nat} (s : Stm H st b) {p : Addr} {o : HO} (h : H p = none) (ho : ∀ ps, o ≠ .tbl ps := by intro _ z; cases z) : Stm (L2.upd H p o) st b := s.ext (Grow.upd h ho)

theorem STup.sameX {K : PySem.W.Frag} {st : StA} {H H' : Hp} {b : Nat} (s : Stm H st b) (x : SameX st H H') {a : Addr} {xs : List V} (r : STup K H a xs) : STup K H' a xs := by
  rcases r with ⟨o, r, hd⟩ | r
  · obtain ⟨n1, n2⟩ := s.ne r (fun _ => by simp)
    exact .inl ⟨o, x a _ n1 n2 r, hd⟩
  · exact .inr r
theorem DictAt.sameX {st : StA} {H H' : Hp} (x : SameX st H H') {a : Addr} {ks : List PyData} {vs : List V} (h1 : a ≠ st.1) (h2 : Off st a) (r : DictAt H a ks vs) : DictAt H' a ks vs := by
  rcases r with ⟨kvs, e, r⟩ | ⟨kvs, e, r⟩
  · exact .inl ⟨kvs, x a _ h1 h2 e, r⟩
  · exact .inr ⟨kvs, x a _ h1 h2 e, r⟩
mutual
theorem Rep.sameX {K : PySem.W.Frag} {st : StA} {H H' : Hp} {b : Nat} (s : Stm H st b) (x : SameX st H H') : ∀ {d : PyData} {v : V} {fp : List Addr}, Rep K st H d v fp → Rep K st H' d v fp
  | .none, _, _, r => by unfold Rep at r ⊢; exact r
  | .bool _, _, _, r => by unfold Rep at r ⊢; exact r
  | .int _, _, _, r => by unfold Rep at r ⊢; exact r
  | .str _, _, _, r => by unfold Rep at r ⊢; exact r
  | .tuple ds, _, _, r => by
    unfold Rep at r ⊢
    obtain ⟨a, vs, e, h, q⟩ := r
    exact ⟨a, vs, e, STup.sameX s x h, Reps.sameX s x q⟩
  | .list ds, _, _, r => by
    unfold Rep at r ⊢
    obtain ⟨a, vs, f, e, h, n1, n2, q, ef⟩ := r
    exact ⟨a, vs, f, e, x a _ n1 n2 h, n1, n2, Reps.sameX s x q, ef⟩
  | .dict kvs, _, _, r => by
    unfold Rep at r ⊢
    obtain ⟨a, ks, vs, f, e, h, n1, n2, q, ef⟩ := r
    exact ⟨a, ks, vs, f, e, DictAt.sameX x n1 n2 h, n1, n2, RepKs.sameX s x q, ef⟩
theorem Reps.sameX {K : PySem.W.Frag} {st : StA} {H H' : Hp} {b : Nat} (s : Stm H st b) (x : SameX st H H') : ∀ {ds : List PyData} {vs : List V} {fp : List Addr}, Reps K st H ds vs fp → Reps K st H' ds vs fp
  | [], _, _, r => by unfold Reps at r ⊢; exact r
  | d :: ds, _, _, r => by
    unfold Reps at r ⊢
    obtain ⟨v, vr, f1, f2, e, h1, h2, ef⟩ := r
    exact ⟨v, vr, f1, f2, e, Rep.sameX s x h1, Reps.sameX s x h2, ef⟩
theorem RepKs.sameX {K : PySem.W.Frag} {st : StA} {H H' : Hp} {b : Nat} (s : Stm H st b) (x : SameX st H H') : ∀ {kvs : List (PyData × PyData)} {ks : List PyData} {vs : List V} {fp : List Addr}, RepKs K st H kvs ks vs fp → RepKs K st H' kvs ks vs fp
  | [], _, _, _, r => by unfold RepKs at r ⊢; exact r
  | (k, d) :: kvs, _, _, _, r => by
    unfold RepKs at r ⊢
    obtain ⟨kr, v, vr, f1, f2, e, e', h1, h2, ef⟩ := r
    exact ⟨kr, v, vr, f1, f2, e, e', Rep.sameX s x h1, RepKs.sameX s x h2, ef⟩
end
mutual
theorem Rep.fp_imm {K : PySem.W.Frag} {st : StA} {H : Hp} : ∀ {d : PyData} {v : V} {fp : List Addr}, imm d = true → Rep K st H d v fp → fp = []
  | .none, _, _, _, r => by unfold Rep at r; exact r.2
  | .bool _, _, _, _, r => by unfold Rep at r; exact r.2
  | .int _, _, _, _, r => by unfold Rep at r; exact r.2
  | .str _, _, _, _, r => by unfold Rep at r; exact r.2
  | .tuple ds, _, _, i, r => by
    unfold Rep at r
    obtain ⟨a, vs, e, h, q⟩ := r
    exact Reps.fp_imm (by simpa [imm] using i) q
  | .list ds, _, _, i, r => by simp [imm] at i
  | .dict ds, _, _, i, r => by simp [imm] at i
theorem Reps.fp_imm {K : PySem.W.Frag} {st : StA} {H : Hp} : ∀ {ds : List PyData} {vs : List V} {fp : List Addr}, imms ds = true → Reps K st H ds vs fp → fp = []
  | [], _, _, _, r => by unfold Reps at r; exact r.2
  | d :: ds, _, _, i, r => by
    unfold Reps at r
    obtain ⟨v, vr, f1, f2, e, h1, h2, ef⟩ := r
    simp [imms] at i
    rw [ef, Rep.fp_imm i.1 h1, Reps.fp_imm i.2 h2]; rfl
end
mutual
/-- all of it is tracked, and none of it the stream's -/
theorem Rep.trk {K : PySem.W.Frag} {st : StA} {H : Hp} : ∀ {d : PyData} {v : V} {fp : List Addr}, Rep K st H d v fp → ∀ a ∈ fp, (∃ o, H a = some o) ∧ a ≠ st.1 ∧ Off st a
  | .none, _, _, r => by unfold Rep at r; rw [r.2]; simp
  | .bool _, _, _, r => by unfold Rep at r; rw [r.2]; simp
  | .int _, _, _, r => by unfold Rep at r; rw [r.2]; simp
  | .str _, _, _, r => by unfold Rep at r; rw [r.2]; simp
  | .tuple ds, _, _, r => by
    unfold Rep at r
    obtain ⟨a, vs, e, h, q⟩ := r
    exact Reps.trk q
  | .list ds, _, _, r => by
    unfold Rep at r
    obtain ⟨a, vs, f, e, h, n1, n2, q, ef⟩ := r
    rw [ef]
    intro c hc
    rcases List.mem_cons.mp hc with rfl | hc
    · exact ⟨⟨_, h⟩, n1, n2⟩
    · exact Reps.trk q c hc
  | .dict kvs, _, _, r => by
    unfold Rep at r
    obtain ⟨a, ks, vs, f, e, h, n1, n2, q, ef⟩ := r
    rw [ef]
    intro c hc
    rcases List.mem_cons.mp hc with rfl | hc
    · refine ⟨?_, n1, n2⟩
      rcases h with ⟨_, h, _⟩ | ⟨_, h, _⟩ <;> exact ⟨_, h⟩
    · exact RepKs.trk q c hc
theorem Reps.trk {K : PySem.W.Frag} {st : StA} {H : Hp} : ∀ {ds : List PyData} {vs : List V} {fp : List Addr}, Reps K st H ds vs fp → ∀ a ∈ fp, (∃ o, H a = some o) ∧ a ≠ st.1 ∧ Off st a
  | [], _, _, r => by unfold Reps at r; rw [r.2]; simp
  | d :: ds, _, _, r => by
    unfold Reps at r
    obtain ⟨v, vr, f1, f2, e, h1, h2, ef⟩ := r
    rw [ef]
    intro c hc
    rcases List.mem_append.mp hc with hc | hc
    · exact Rep.trk h1 c hc
    · exact Reps.trk h2 c hc
theorem RepKs.trk {K : PySem.W.Frag} {st : StA} {H : Hp} : ∀ {kvs : List (PyData × PyData)} {ks : List PyData} {vs : List V} {fp : List Addr}, RepKs K st H kvs ks vs fp → ∀ a ∈ fp, (∃ o, H a = some o) ∧ a ≠ st.1 ∧ Off st a
  | [], _, _, _, r => by unfold RepKs at r; rw [r.2.2]; simp
  | (k, d) :: kvs, _, _, _, r => by
    unfold RepKs at r
    obtain ⟨kr, v, vr, f1, f2, e, e', h1, h2, ef⟩ := r
    rw [ef]
    intro c hc
    rcases List.mem_append.mp hc with hc | hc
    · exact Rep.trk h1 c hc
    · exact RepKs.trk h2 c hc
end
end Vm

set_option Elab.async false
set_option linter.all false
set_option maxRecDepth 100000
namespace Vm
variable [TabsC]
open PySem L2

/-! ### values in flight, slots -/
inductive Lv where
  /-- it may be read only -/
  | shr
  /-- its outermost list is ours -/
  | top
  /-- all of it is ours -/
  | own
  deriving DecidableEq
/-- a value: its data; whose it is; the slots that it hangs on -/
structure RV where
  d : PyData
  lv : Lv
  al : List Nat
inductive Sl where
  | stm
  | dat (d : PyData) (lv : Lv)
abbrev Env := List (Option Sl)
def mkRV (d : PyData) (lv : Lv) (al : List Nat) : RV := if imm d then ⟨d, .own, []⟩ else ⟨d, lv, al⟩
def sl (env : Env) (i : Nat) : Option Sl := (env[i]?).join
def val (σ : St) (i : Nat) : Option V := (σ[i]?).join
def frz1 : Option Sl → Option Sl
  | some (.dat d _) => some (.dat d .shr)
  | x => x
def frz (env : Env) : List Nat → Env
  | [] => env
  | i :: l => (frz env l).set i (frz1 (sl env i))
def kill (env : Env) : List Nat → Env
  | [] => env
  | i :: l => (kill env l).set i none

theorem sl_set {env : Env} {i j : Nat} {x : Option Sl} : sl (env.set i x) j = if i = j then (if i < env.length then x else none) else sl env j := by
  unfold sl
  by_cases h : i = j
  · subst h
    by_cases hl : i < env.length
    · simp [hl]
    · simp [hl, List.getElem?_eq_none (by simpa using hl)]
  · simp [h]
theorem val_set {σ : St} {i j : Nat} {x : Option V} : val (σ.set i x) j = if i = j then (if i < σ.length then x else none) else val σ j := by
  unfold val
  by_cases h : i = j
  · subst h
    by_cases hl : i < σ.length
    · simp [hl]
    · simp [hl, List.getElem?_eq_none (by simpa using hl)]
  · simp [h]
theorem sl_lt {env : Env} {i : Nat} {x : Sl} (h : sl env i = some x) : i < env.length := by
  unfold sl at h
  by_cases hl : i < env.length
  · exact hl
  · rw [List.getElem?_eq_none (by simpa using hl)] at h; cases h
theorem val_some {σ : St} {i : Nat} {v : V} (h : val σ i = some v) : σ[i]? = some (some v) := by
  unfold val at h
  cases e : σ[i]? with
  | none => rw [e] at h; cases h
  | some x => rw [e] at h; simpa using h
theorem val_lt {σ : St} {i : Nat} {v : V} (h : val σ i = some v) : i < σ.length := by
  have e := val_some h
  exact (List.getElem?_eq_some_iff.mp e).1
@[simp] theorem frz_length (env : Env) : ∀ l, (frz env l).length = env.length
  | [] => rfl
  | i :: l => by simp [frz, frz_length env l]
@[simp] theorem kill_length (env : Env) : ∀ l, (kill env l).length = env.length
  | [] => rfl
  | i :: l => by simp [kill, kill_length env l]
theorem sl_none_of_ge {env : Env} {i : Nat} (h : ¬ i < env.length) : sl env i = none := by
  unfold sl; rw [List.getElem?_eq_none (by simpa using h)]; rfl
theorem sl_frz (env : Env) : ∀ (l : List Nat) (j : Nat), sl (frz env l) j = if j ∈ l then frz1 (sl env j) else sl env j
  | [], j => by simp [frz]
  | i :: l, j => by
    simp only [frz]
    rw [sl_set, sl_frz env l j]
    by_cases h : i = j
    · subst h
      simp only [frz_length, if_true, List.mem_cons, true_or]
      by_cases hl : i < env.length
      · simp [hl]
      · simp [hl, sl_none_of_ge hl, frz1]
    · have h' : ¬ j = i := fun e => h e.symm
      simp [h, h']
theorem sl_kill (env : Env) : ∀ (l : List Nat) (j : Nat), sl (kill env l) j = if j ∈ l then none else sl env j
  | [], j => by simp [kill]
  | i :: l, j => by
    simp only [kill]
    rw [sl_set, sl_kill env l j]
    by_cases h : i = j
    · subst h
      simp only [kill_length, if_true, List.mem_cons, true_or]
      split <;> rfl
    · have h' : ¬ j = i := fun e => h e.symm
      simp [h, h']

/-! ### the frame's state -/
/-- what is fixed while a def runs: the module's part, the stream, the heap at its entry, what was handed in -/
structure Gx where
  K : PySem.W.Frag
  st : StA
  H0 : Hp
  S0 : Addr → Prop
  R : Exn → Nat → Prop

/-- nothing may be raised -/
def Gx.calm (G : Gx) : Gx := { G with R := M.R0 }
def SlOk (K : PySem.W.Frag) (st : StA) (S : Addr → Prop) (H : Hp) (s : Option Sl) (v : Option V) (o : List Addr) : Prop :=
  match s with
  | none => o = []
  | some .stm => v = some (.ref st.1) ∧ o = []
  | some (.dat d lv) => ∃ u fp, v = some u ∧ Rep K st H d u fp ∧ (match lv with
      | .shr => o = [] ∧ ∀ c ∈ fp, S c
      | .top => ∃ a f, fp = a :: f ∧ o = [a] ∧ a ∉ f ∧ ∀ c ∈ f, S c
      | .own => o = fp ∧ fp.Nodup)

structure ER (G : Gx) (S : Addr → Prop) (H : Hp) (env : Env) (σ : St) (os : Nat → List Addr) : Prop where
  len : env.length = σ.length
  at_ : ∀ i, SlOk G.K G.st S H (sl env i) (val σ i) (os i)
  dj : ∀ i j c, i ≠ j → c ∈ os i → c ∉ os j
  ns : ∀ i c, c ∈ os i → ¬ S c
  fr : ∀ i c, c ∈ os i → G.H0 c = none
  sub : ∀ c, S c → G.S0 c ∨ G.H0 c = none
  trk : ∀ c, S c → (∃ o, H c = some o) ∧ c ≠ G.st.1 ∧ Off G.st c
  same : SameX G.st G.H0 H

theorem ER.calm {G : Gx} {S : Addr → Prop} {H : Hp} {env : Env} {σ : St} {os : Nat → List Addr} (E : ER G S H env σ os) : ER G.calm S H env σ os := ⟨E.len, E.at_, E.dj, E.ns, E.fr, E.sub, E.trk, E.same⟩
/-- the exception x, in the air: its class at cls, its own dict at d; what it is made with lies in places that are ok -/
def ExnC (K : PySem.W.Frag) (st : StA) (ok : Addr → Prop) (x : Exn) (cls : Value) (d : Option Addr) (H' : Hp) : Prop :=
  PySem.W.nsIn K mainGlobals x.cls = some (some cls) ∧ ((x.fs = [] ∧ d = none) ∨ ∃ (dx : Addr) (fs : List (Str × V)), d = some dx ∧ H' dx = some (.xd fs) ∧
    ∀ f dt, x.fs.lookup f = some dt → ∃ v fp, fs.lookup f = some v ∧ Rep K st H' dt v fp ∧ ∀ c ∈ fp, ok c)
theorem ExnC.imp {K : PySem.W.Frag} {st : StA} {ok ok' : Addr → Prop} {x : Exn} {cls : Value} {d : Option Addr} {H' : Hp} (h : ExnC K st ok x cls d H') (i : ∀ c, ok c → ok' c) : ExnC K st ok' x cls d H' := by
  obtain ⟨h1, h2⟩ := h
  refine ⟨h1, h2.imp id ?_⟩
  rintro ⟨dx, fs, e, e2, h⟩
  exact ⟨dx, fs, e, e2, fun f dt q => let ⟨v, fp, a, b, c⟩ := h f dt q; ⟨v, fp, a, b, fun z hz => i z (c z hz)⟩⟩
def ExnOk (G : Gx) : Exn → Value → Option Addr → Hp → Prop := ExnC G.K G.st fun c => G.S0 c ∨ G.H0 c = none
/-- what is raised in the context X is what G wishes -/
structure GOk (G : Gx) (X : Cx) : Prop where
  K : G.K = X.K
  ex : ∃ W : WX, Takes X W ∧ ∀ (x : Exn) (b : Nat) (cls : Value) (d : Option Addr) (σ : St) (H' : Hp), G.R x b → SameX G.st G.H0 H' → Stm H' G.st b → ExnOk G x cls d H' → W cls d σ H'
/-- what may be raised in X -/
def EX (X : Cx) : XK := fun cls d H => ∃ W : WX, Takes X W ∧ ∀ σ, W cls d σ H
theorem takes_max (X : Cx) : Takes X (fun cls d σ H => ∃ W : WX, Takes X W ∧ W cls d σ H) := fun u s' ⟨a, B, sI, pins, σ, H, cls, d, e, I, nb, up, sky, na, os, ag, W, tk, w⟩ => tk u s' ⟨a, B, sI, pins, σ, H, cls, d, e, I, nb, up, sky, na, os, ag, w⟩
theorem pass_max (X : Cx) : Passes (CX X.prog X.w) X (EX X) := passes_call (takes_max X) fun cls d σ H ⟨W, tk, h⟩ => ⟨W, tk, h σ⟩
theorem takes_none (X : Cx) : Takes X (fun _ _ _ _ => False) := fun _ _ ⟨_, _, _, _, _, _, _, _, _, _, _, _, _, _, _, _, w⟩ => w.elim
/-- a calm one -/
structure GC (G : Gx) (K : PySem.W.Frag) : Prop where
  K : G.K = K
  R : G.R = M.R0
theorem GC.ok {G : Gx} {X : Cx} (h : GC G X.K) : GOk G X := ⟨h.K, _, takes_none X, fun x b _ _ _ _ r => by rw [h.R] at r; exact r.elim⟩
theorem GC.of {G : Gx} {K : PySem.W.Frag} (h : G.K = K) : GC G.calm K := ⟨h, rfl⟩
theorem SlOk.sameX {K : PySem.W.Frag} {st : StA} {S : Addr → Prop} {H H' : Hp} {s : Option Sl} {v : Option V} {o : List Addr} {b : Nat} (sm : Stm H st b) (x : SameX st H H') (h : SlOk K st S H s v o) : SlOk K st S H' s v o := by
  match s, h with
  | none, h => exact h
  | some .stm, h => exact h
  | some (.dat d lv), h =>
    obtain ⟨u, fp, e, r, q⟩ := h
    exact ⟨u, fp, e, Rep.sameX sm x r, q⟩
theorem ER.mono {G : Gx} {S : Addr → Prop} {H H' : Hp} {env : Env} {σ : St} {os : Nat → List Addr} {b : Nat} (E : ER G S H env σ os) (sm : Stm H G.st b) (x : SameX G.st H H') : ER G S H' env σ os :=
  ⟨E.len, fun i => (E.at_ i).sameX sm x, E.dj, E.ns, E.fr, E.sub, fun c hc => by
    obtain ⟨⟨o, e⟩, n1, n2⟩ := E.trk c hc
    exact ⟨⟨o, x c o n1 n2 e⟩, n1, n2⟩, E.same.trans x⟩
/-- what a slot owns is tracked -/
theorem ER.own_trk {G : Gx} {S : Addr → Prop} {H : Hp} {env : Env} {σ : St} {os : Nat → List Addr} (E : ER G S H env σ os) {i : Nat} {c : Addr} (hc : c ∈ os i) : (∃ o, H c = some o) ∧ c ≠ G.st.1 ∧ Off G.st c := by
  have h := E.at_ i
  match e : sl env i, h with
  | none, h => rw [show os i = [] from h] at hc; cases hc
  | some .stm, h => rw [h.2] at hc; cases hc
  | some (.dat d lv), h =>
    obtain ⟨u, fp, _, r, q⟩ := h
    cases lv with
    | shr => rw [q.1] at hc; cases hc
    | top =>
      obtain ⟨a, f, e1, e2, _⟩ := q
      rw [e2] at hc
      have : c = a := by simpa using hc
      subst this
      exact r.trk c (by rw [e1]; exact List.mem_cons_self)
    | own => rw [q.1] at hc; exact r.trk c hc
theorem ER.own_nd {G : Gx} {S : Addr → Prop} {H : Hp} {env : Env} {σ : St} {os : Nat → List Addr} (E : ER G S H env σ os) (i : Nat) : (os i).Nodup := by
  have h := E.at_ i
  match e : sl env i, h with
  | none, h => rw [show os i = [] from h]; exact List.nodup_nil
  | some .stm, h => rw [h.2]; exact List.nodup_nil
  | some (.dat d lv), h =>
    obtain ⟨u, fp, _, r, q⟩ := h
    cases lv with
    | shr => rw [q.1]; exact List.nodup_nil
    | top =>
      obtain ⟨a, f, e1, e2, _⟩ := q
      rw [e2]; simp
    | own => rw [q.1]; exact q.2

/-! ### a value's place -/
def okc (S : Addr → Prop) (os : Nat → List Addr) (H : Hp) (al : List Nat) (c : Addr) : Prop := H c = none ∨ S c ∨ ∃ i ∈ al, c ∈ os i
def oko (os : Nat → List Addr) (H : Hp) (al : List Nat) (c : Addr) : Prop := H c = none ∨ ∃ i ∈ al, c ∈ os i
theorem oko.okc {S : Addr → Prop} {os : Nat → List Addr} {H : Hp} {al : List Nat} {c : Addr} (h : oko os H al c) : okc S os H al c := h.elim .inl fun h => .inr (.inr h)
theorem okc.al {S : Addr → Prop} {os : Nat → List Addr} {H : Hp} {al al' : List Nat} {c : Addr} (h : okc S os H al c) (s : ∀ i ∈ al, i ∈ al') : okc S os H al' c := by
  rcases h with h | h | ⟨i, hi, h⟩
  · exact .inl h
  · exact .inr (.inl h)
  · exact .inr (.inr ⟨i, s i hi, h⟩)
theorem oko.al {os : Nat → List Addr} {H : Hp} {al al' : List Nat} {c : Addr} (h : oko os H al c) (s : ∀ i ∈ al, i ∈ al') : oko os H al' c := by
  rcases h with h | ⟨i, hi, h⟩
  · exact .inl h
  · exact .inr ⟨i, s i hi, h⟩
/-- fresh later is fresh now -/
theorem fresh_back {st : StA} {H H1 : Hp} {b : Nat} (sm : Stm H1 st b) (x : SameX st H H1) {c : Addr} (h : H1 c = none) : H c = none := by
  cases e : H c with
  | none => rfl
  | some o =>
    obtain ⟨h1, h2⟩ := sm.off h
    rw [x c o h1 h2 e] at h; cases h
theorem okc.back {st : StA} {S : Addr → Prop} {os : Nat → List Addr} {H H1 : Hp} {al : List Nat} {c : Addr} {b : Nat} (sm : Stm H1 st b) (x : SameX st H H1) (h : okc S os H1 al c) : okc S os H al c := h.elim (fun z => .inl (fresh_back sm x z)) .inr
theorem oko.back {st : StA} {os : Nat → List Addr} {H H1 : Hp} {al : List Nat} {c : Addr} {b : Nat} (sm : Stm H1 st b) (x : SameX st H H1) (h : oko os H1 al c) : oko os H al c := h.elim (fun z => .inl (fresh_back sm x z)) .inr

def LvOk (S : Addr → Prop) (os : Nat → List Addr) (H : Hp) (lv : Lv) (al : List Nat) (fp : List Addr) : Prop :=
  match lv with
  | .shr => ∀ c ∈ fp, okc S os H al c
  | .top => ∃ a f, fp = a :: f ∧ a ∉ f ∧ H a = none ∧ ∀ c ∈ f, okc S os H al c
  | .own => fp.Nodup ∧ ∀ c ∈ fp, oko os H al c
theorem LvOk.shr {S : Addr → Prop} {os : Nat → List Addr} {H : Hp} {lv : Lv} {al : List Nat} {fp : List Addr} (h : LvOk S os H lv al fp) : ∀ c ∈ fp, okc S os H al c := by
  cases lv with
  | shr => exact h
  | top =>
    obtain ⟨a, f, e, _, ha, hf⟩ := h
    rw [e]
    intro c hc
    rcases List.mem_cons.mp hc with rfl | hc
    · exact .inl ha
    · exact hf c hc
  | own => exact fun c hc => (h.2 c hc).okc
theorem LvOk.nil {S : Addr → Prop} {os : Nat → List Addr} {H : Hp} {al : List Nat} {lv : Lv} (h : lv ≠ .top) : LvOk S os H lv al [] := by
  cases lv with
  | shr => intro c hc; cases hc
  | top => exact absurd rfl h
  | own => exact ⟨List.nodup_nil, fun c hc => by cases hc⟩
theorem LvOk.al {S : Addr → Prop} {os : Nat → List Addr} {H : Hp} {lv : Lv} {al al' : List Nat} {fp : List Addr} (h : LvOk S os H lv al fp) (s : ∀ i ∈ al, i ∈ al') : LvOk S os H lv al' fp := by
  cases lv with
  | shr => exact fun c hc => (h c hc).al s
  | top =>
    obtain ⟨a, f, e, n, ha, hf⟩ := h
    exact ⟨a, f, e, n, ha, fun c hc => (hf c hc).al s⟩
  | own => exact ⟨h.1, fun c hc => (h.2 c hc).al s⟩
theorem LvOk.back {st : StA} {S : Addr → Prop} {os : Nat → List Addr} {H H1 : Hp} {lv : Lv} {al : List Nat} {fp : List Addr} {b : Nat} (sm : Stm H1 st b) (x : SameX st H H1) (h : LvOk S os H1 lv al fp) : LvOk S os H lv al fp := by
  cases lv with
  | shr => exact fun c hc => (h c hc).back sm x
  | top =>
    obtain ⟨a, f, e, n, ha, hf⟩ := h
    exact ⟨a, f, e, n, fresh_back sm x ha, fun c hc => (hf c hc).back sm x⟩
  | own => exact ⟨h.1, fun c hc => (h.2 c hc).back sm x⟩

def RVok (K : PySem.W.Frag) (st : StA) (S : Addr → Prop) (os : Nat → List Addr) (H H' : Hp) (r : RV) (v : V) : Prop :=
  ∃ fp, Rep K st H' r.d v fp ∧ LvOk S os H r.lv r.al fp
theorem RVok.mk {K : PySem.W.Frag} {st : StA} {S : Addr → Prop} {os : Nat → List Addr} {H H' : Hp} {d : PyData} {lv : Lv} {al : List Nat} {v : V} {fp : List Addr} (r : Rep K st H' d v fp) (h : imm d = false → LvOk S os H lv al fp) : RVok K st S os H H' (mkRV d lv al) v := by
  unfold mkRV
  cases e : imm d with
  | true => exact ⟨fp, r, by rw [Rep.fp_imm e r]; exact LvOk.nil (by intro h; cases h)⟩
  | false => exact ⟨fp, r, h e⟩
theorem RVok.imm {K : PySem.W.Frag} {st : StA} {S : Addr → Prop} {os : Nat → List Addr} {H H' : Hp} {d : PyData} {v : V} {fp : List Addr} (e : imm d = true) (r : Rep K st H' d v fp) : RVok K st S os H H' ⟨d, .own, []⟩ v :=
  ⟨fp, r, by rw [Rep.fp_imm e r]; exact LvOk.nil (by intro h; cases h)⟩
theorem RVok.later {K : PySem.W.Frag} {st : StA} {S : Addr → Prop} {os : Nat → List Addr} {H H1 H2 : Hp} {r : RV} {v : V} {b : Nat} (sm : Stm H1 st b) (x : SameX st H1 H2) (h : RVok K st S os H H1 r v) : RVok K st S os H H2 r v :=
  let ⟨fp, q, z⟩ := h
  ⟨fp, Rep.sameX sm x q, z⟩
theorem RVok.back {K : PySem.W.Frag} {st : StA} {S : Addr → Prop} {os : Nat → List Addr} {H H1 H2 : Hp} {r : RV} {v : V} {b : Nat} (sm : Stm H1 st b) (x : SameX st H H1) (h : RVok K st S os H1 H2 r v) : RVok K st S os H H2 r v :=
  let ⟨fp, q, z⟩ := h
  ⟨fp, q, z.back sm x⟩

/-! ### the judgements -/
/-- what is wanted behind an expression -/
def Post (K : PySem.W.Frag) (st : StA) (S : Addr → Prop) (os : Nat → List Addr) (H : Hp) (Q : VK) : RV → Nat → Prop := fun r b' => ∀ v H', SameX st H H' → Stm H' st b' → RVok K st S os H H' r v → Q v H'
/-- the expression e gives what f says -/
structure DE (X : Cx) (e : Expr) (f : Env → M RV) : Prop where
  run : ∃ t, PE X e t ∧ ∀ (G : Gx) (S : Addr → Prop) (H : Hp) (env : Env) (σ : St) (os : Nat → List Addr) (b : Nat) (Q : VK), GOk G X → ER G S H env σ os → Stm H G.st b →
    (f env).all G.R (Post X.K G.st S os H Q) b → t σ H Q
/-- a test -/
structure DT (X : Cx) (e : Expr) (f : Env → M Bool) : Prop where
  run : ∃ t, PT X e t ∧ ∀ (G : Gx) (S : Addr → Prop) (H : Hp) (env : Env) (σ : St) (os : Nat → List Addr) (b : Nat) (Q : Bool → Hp → Prop), GOk G X → ER G S H env σ os → Stm H G.st b →
    (f env).all G.R (fun c b' => ∀ H', SameX G.st H H' → Stm H' G.st b' → Q c H') b → t σ H Q
/-- arguments: none is the stream -/
abbrev RA := Option RV
/-- two values that are ours and hang on different slots stand apart -/
def Sep (r : RV) (fp : List Addr) : List RA → List (List Addr) → Prop
  | some r' :: rs, fp' :: fr => (r.lv = .own → r'.lv = .own → (∀ i ∈ r.al, i ∉ r'.al) → ∀ c ∈ fp, c ∉ fp') ∧ Sep r fp rs fr
  | none :: rs, _ :: fr => Sep r fp rs fr
  | _, _ => True
def RAok (K : PySem.W.Frag) (st : StA) (S : Addr → Prop) (os : Nat → List Addr) (H H' : Hp) : List RA → List V → List (List Addr) → Prop
  | [], vs, fps => vs = [] ∧ fps = []
  | none :: rs, vs, fps => ∃ vr fr, vs = .ref st.1 :: vr ∧ fps = [] :: fr ∧ RAok K st S os H H' rs vr fr
  | some r :: rs, vs, fps => ∃ v vr fp fr, vs = v :: vr ∧ fps = fp :: fr ∧ Rep K st H' r.d v fp ∧ LvOk S os H r.lv r.al fp ∧ RAok K st S os H H' rs vr fr ∧ Sep r fp rs fr
structure DA (X : Cx) (es : List Expr) (f : Env → M (List RA)) : Prop where
  run : ∃ t, PA X es t ∧ ∀ (G : Gx) (S : Addr → Prop) (H : Hp) (env : Env) (σ : St) (os : Nat → List Addr) (b : Nat) (Q : List V → Hp → Prop), GOk G X → ER G S H env σ os → Stm H G.st b →
    (f env).all G.R (fun rs b' => ∀ vs H' fps, SameX G.st H H' → Stm H' G.st b' → RAok X.K G.st S os H H' rs vs fps → Q vs H') b → t σ H Q
theorem RAok.later {K : PySem.W.Frag} {st : StA} {S : Addr → Prop} {os : Nat → List Addr} {H H1 H2 : Hp} {b : Nat} (sm : Stm H1 st b) (x : SameX st H1 H2) : ∀ {rs : List RA} {vs : List V} {fps : List (List Addr)}, RAok K st S os H H1 rs vs fps → RAok K st S os H H2 rs vs fps
  | [], _, _, h => h
  | none :: rs, _, _, h => by
    obtain ⟨vr, fr, e, e2, h⟩ := h
    exact ⟨vr, fr, e, e2, RAok.later sm x h⟩
  | some r :: rs, _, _, h => by
    obtain ⟨v, vr, fp, fr, e, e2, h1, h2, h, sp⟩ := h
    exact ⟨v, vr, fp, fr, e, e2, h1.sameX sm x, h2, RAok.later sm x h, sp⟩
theorem RAok.back {K : PySem.W.Frag} {st : StA} {S : Addr → Prop} {os : Nat → List Addr} {H H1 H2 : Hp} {b : Nat} (sm : Stm H1 st b) (x : SameX st H H1) : ∀ {rs : List RA} {vs : List V} {fps : List (List Addr)}, RAok K st S os H1 H2 rs vs fps → RAok K st S os H H2 rs vs fps
  | [], _, _, h => h
  | none :: rs, _, _, h => by
    obtain ⟨vr, fr, e, e2, h⟩ := h
    exact ⟨vr, fr, e, e2, RAok.back sm x h⟩
  | some r :: rs, _, _, h => by
    obtain ⟨v, vr, fp, fr, e, e2, h1, h2, h, sp⟩ := h
    exact ⟨v, vr, fp, fr, e, e2, h1, h2.back sm x, RAok.back sm x h, sp⟩
/-- a value told ahead stands apart from those told behind it -/
theorem Sep.of {G : Gx} {S : Addr → Prop} {H H1 H2 : Hp} {env : Env} {σ : St} {os : Nat → List Addr} (E : ER G S H env σ os) {r : RV} {v : V} {fp : List Addr} (h1 : Rep G.K G.st H1 r.d v fp) (h2 : LvOk S os H r.lv r.al fp) :
    ∀ {rs : List RA} {vs : List V} {fps : List (List Addr)}, RAok G.K G.st S os H1 H2 rs vs fps → Sep r fp rs fps
  | [], _, _, h => by rw [h.2]; exact True.intro
  | none :: rs, _, _, h => by
    obtain ⟨vr, fr, e, e2, h⟩ := h
    rw [e2]
    show Sep r fp rs fr
    exact Sep.of E h1 h2 h
  | some r' :: rs, _, _, h => by
    obtain ⟨v', vr, fp', fr, e, e2, h1', h2', h, sp⟩ := h
    rw [e2]
    refine ⟨fun o1 o2 hd c hc hc' => ?_, Sep.of E h1 h2 h⟩
    rw [o1] at h2
    rw [o2] at h2'
    obtain ⟨⟨o, ho⟩, _⟩ := h1.trk c hc
    rcases h2'.2 c hc' with z | ⟨k', hk', z⟩
    · rw [z] at ho; cases ho
    · rcases h2.2 c hc with y | ⟨k, hk, y⟩
      · obtain ⟨⟨o', ho'⟩, _⟩ := E.own_trk z
        rw [y] at ho'; cases ho'
      · by_cases e : k = k'
        · subst e; exact hd k hk hk'
        · exact E.dj k k' c e y z
end Vm

set_option Elab.async false
set_option linter.all false
set_option maxRecDepth 100000
namespace Vm
variable [TabsC]
variable {R : Exn → Nat → Prop}
open PySem L2

/-! ### small helps -/
theorem Post.thn {K : PySem.W.Frag} {st : StA} {S : Addr → Prop} {os : Nat → List Addr} {H H1 : Hp} {Q : VK} {b : Nat} (sm : Stm H1 st b) (x : SameX st H H1) {r : RV} {b' : Nat} (h : Post K st S os H Q r b') : Post K st S os H1 Q r b' :=
  fun v H' x' sm' ok => h v H' (x.trans x') sm' (ok.back sm x)
theorem Rep.int_inv {K : PySem.W.Frag} {st : StA} {H : Hp} {i : Int} {v : V} {fp : List Addr} (h : Rep K st H (.int i) v fp) : v = .int i := by unfold Rep at h; exact h.1
theorem Rep.bool_inv {K : PySem.W.Frag} {st : StA} {H : Hp} {i : Bool} {v : V} {fp : List Addr} (h : Rep K st H (.bool i) v fp) : v = .bl i := by unfold Rep at h; exact h.1
theorem Rep.none_inv {K : PySem.W.Frag} {st : StA} {H : Hp} {v : V} {fp : List Addr} (h : Rep K st H .none v fp) : v = .non := by unfold Rep at h; exact h.1
theorem Rep.str_inv {K : PySem.W.Frag} {st : StA} {H : Hp} {x : Str} {v : V} {fp : List Addr} (h : Rep K st H (.str x) v fp) : v = .str x := by unfold Rep at h; exact h.1
theorem Rep.of_int {K : PySem.W.Frag} {st : StA} {H : Hp} (i : Int) : Rep K st H (.int i) (.int i) [] := by unfold Rep; exact ⟨rfl, rfl⟩
theorem Rep.of_bool {K : PySem.W.Frag} {st : StA} {H : Hp} (i : Bool) : Rep K st H (.bool i) (.bl i) [] := by unfold Rep; exact ⟨rfl, rfl⟩
theorem Rep.of_none {K : PySem.W.Frag} {st : StA} {H : Hp} : Rep K st H .none .non [] := by unfold Rep; exact ⟨rfl, rfl⟩
theorem Rep.of_str {K : PySem.W.Frag} {st : StA} {H : Hp} (x : Str) : Rep K st H (.str x) (.str x) [] := by unfold Rep; exact ⟨rfl, rfl⟩

/-- a value that is no list and no dict -/
def flat (d : PyData) : M RV := .ret ⟨d, .own, []⟩
theorem all_flat_int {K : PySem.W.Frag} {st : StA} {S : Addr → Prop} {os : Nat → List Addr} {H : Hp} {Q : VK} {b : Nat} {i : Int} (h : (flat (.int i)).all R (Post K st S os H Q) b) (sm : Stm H st b) : Q (.int i) H :=
  h (.int i) H (SameX.refl H) sm (RVok.imm rfl (Rep.of_int i))

/-! ### names, constants -/
def hang (lv : Lv) (i : Nat) : List Nat := match lv with
  | .shr => []
  | _ => [i]
/-- a name's value: what is ours alone may go on as ours -/
def nameLv : Lv → Lv
  | .own => .own
  | _ => .shr
def eName (i : Nat) (env : Env) : M RV := match sl env i with
  | some (.dat d lv) => .ret (mkRV d (nameLv lv) (hang lv i))
  | _ => .stuck
section
variable {X : Cx}
theorem ER.name {G : Gx} {S : Addr → Prop} {H : Hp} {env : Env} {σ : St} {os : Nat → List Addr} (E : ER G S H env σ os) {i : Nat} {d : PyData} {lv : Lv} (e : sl env i = some (.dat d lv)) :
    ∃ v, val σ i = some v ∧ RVok G.K G.st S os H H (mkRV d (nameLv lv) (hang lv i)) v := by
  have h := E.at_ i
  rw [e] at h
  obtain ⟨u, fp, e1, r, q⟩ := h
  refine ⟨u, e1, RVok.mk r fun _ => ?_⟩
  cases lv with
  | shr => exact fun c hc => .inr (.inl (q.2 c hc))
  | top =>
    obtain ⟨a, f, e2, e3, n, hf⟩ := q
    intro c hc
    rw [e2] at hc
    rcases List.mem_cons.mp hc with rfl | hc
    · exact .inr (.inr ⟨i, by simp [hang], by rw [e3]; simp⟩)
    · exact .inr (.inl (hf c hc))
  | own => exact ⟨q.2, fun c hc => .inr ⟨i, by simp [hang], by rw [q.1]; exact hc⟩⟩
theorem de_name {i : Nat} {x : Str} {pos : Pos} (hN : X.N[i]? = some x) (hv : Vis X.env.scope x) (hd : (x == ("__debug__" : Str)) = false := by decide) (hcd : (x == ("__classdict__" : Str)) = false := by decide) : DE X (.Name x pos) (eName i) := by
  refine ⟨_, pe_var hN hv hd hcd, fun G S H env σ os b Q hK E sm h => ?_⟩
  unfold eName at h
  split at h
  · rename_i d lv e
    obtain ⟨v, e1, ok⟩ := E.name e
    exact ⟨v, val_some e1, h v H (SameX.refl H) sm (hK.K ▸ ok)⟩
  · exact h.elim
theorem de_int {i j pos} : DE X (.Constant (.int i) j pos) (fun _ => flat (.int i)) := ⟨_, pe_int, fun G S H env σ os b Q hK E sm h => h _ H (SameX.refl H) sm (RVok.imm rfl (Rep.of_int i))⟩
theorem de_bl {i j pos} : DE X (.Constant (.bool i) j pos) (fun _ => flat (.bool i)) := ⟨_, pe_bl, fun G S H env σ os b Q hK E sm h => h _ H (SameX.refl H) sm (RVok.imm rfl (Rep.of_bool i))⟩
theorem de_non {j pos} : DE X (.Constant .none j pos) (fun _ => flat .none) := ⟨_, pe_non, fun G S H env σ os b Q hK E sm h => h _ H (SameX.refl H) sm (RVok.imm rfl Rep.of_none)⟩
theorem de_str {i j pos} : DE X (.Constant (.str i) j pos) (fun _ => flat (.str i)) := ⟨_, pe_str, fun G S H env σ os b Q hK E sm h => h _ H (SameX.refl H) sm (RVok.imm rfl (Rep.of_str i))⟩

/-! ### argument lists -/
def aNil (_ : Env) : M (List RA) := .ret []
def aCons (f : Env → M RV) (g : Env → M (List RA)) (env : Env) : M (List RA) := f env >>= fun r => g env >>= fun rs => .ret (some r :: rs)
def aStm (i : Nat) (g : Env → M (List RA)) (env : Env) : M (List RA) := match sl env i with
  | some .stm => g env >>= fun rs => .ret (none :: rs)
  | _ => .stuck
variable {e : Expr} {es : List Expr} {f : Env → M RV} {g : Env → M (List RA)}
theorem da_nil : DA X [] aNil := ⟨_, pa_nil, fun G S H env σ os b Q hK E sm h => h [] H [] (SameX.refl H) sm ⟨rfl, rfl⟩⟩
theorem da_cons (ha : DE X e f) (hr : DA X es g) (hs : starEach (e :: es) X.env = (false, eval e X.env) :: starEach es X.env := by rfl) : DA X (e :: es) (aCons f g) := by
  obtain ⟨t, ht, qt⟩ := ha
  obtain ⟨u, hu, qu⟩ := hr
  refine ⟨_, pa_cons ht hu hs, fun G S H env σ os b Q hK E sm h => ?_⟩
  unfold aCons at h
  rw [M.all_bind] at h
  refine qt G S H env σ os b _ hK E sm (M.all_mono (fun r b1 h1 v H1 x1 sm1 ok1 => ?_) _ _ h)
  rw [M.all_bind] at h1
  refine qu G S H1 env σ os b1 _ hK (E.mono sm x1) sm1 (M.all_mono (fun rs b2 h2 vs H2 fps x2 sm2 ok2 => ?_) _ _ h1)
  obtain ⟨fp, r1, l1⟩ := ok1
  exact h2 (v :: vs) H2 (fp :: fps) (x1.trans x2) sm2 ⟨v, vs, fp, fps, rfl, rfl, r1.sameX sm1 x2, l1, ok2.back sm1 x1, Sep.of E (hK.K ▸ r1) l1 (hK.K ▸ ok2)⟩
theorem da_stm {i : Nat} {x : Str} {pos : Pos} (hN : X.N[i]? = some x) (hv : Vis X.env.scope x) (hr : DA X es g) (hd : (x == ("__debug__" : Str)) = false := by decide) (hcd : (x == ("__classdict__" : Str)) = false := by decide)
    (hs : starEach (.Name x pos :: es) X.env = (false, eval (.Name x pos) X.env) :: starEach es X.env := by rfl) : DA X (.Name x pos :: es) (aStm i g) := by
  obtain ⟨u, hu, qu⟩ := hr
  refine ⟨_, pa_cons (pe_var hN hv hd hcd) hu hs, fun G S H env σ os b Q hK E sm h => ?_⟩
  unfold aStm at h
  split at h
  · rename_i e
    have a := E.at_ i
    rw [e] at a
    refine ⟨_, val_some a.1, ?_⟩
    rw [M.all_bind] at h
    refine qu G S H env σ os b _ hK E sm (M.all_mono (fun rs b2 h2 vs H2 fps x2 sm2 ok2 => ?_) _ _ h)
    exact h2 (.ref G.st.1 :: vs) H2 ([] :: fps) x2 sm2 ⟨vs, fps, rfl, rfl, ok2⟩
  · exact h.elim
end
end Vm

set_option Elab.async false
set_option linter.all false
set_option maxRecDepth 100000
namespace Vm
variable [TabsC]
variable {R : Exn → Nat → Prop}
open PySem L2

theorem Rep.dp {K : PySem.W.Frag} {st : StA} {H : Hp} : True := True.intro
mutual
def noDict : PyData → Bool
  | .dict _ => false
  | .list xs => noDicts xs
  | .tuple xs => noDicts xs
  | _ => true
def noDicts : List PyData → Bool
  | [] => true
  | x :: xs => noDict x && noDicts xs
end
mutual
theorem Rep.toDp {K : PySem.W.Frag} {st : StA} {H : Hp} : ∀ {d : PyData} {v : V} {fp : List Addr}, noDict d = true → Rep K st H d v fp → Dp K H v d
  | .none, _, _, _, r => by unfold Rep at r; rw [r.1]; exact .non
  | .bool _, _, _, _, r => by unfold Rep at r; rw [r.1]; exact .bl _
  | .int _, _, _, _, r => by unfold Rep at r; rw [r.1]; exact .int _
  | .str _, _, _, _, r => by unfold Rep at r; rw [r.1]; exact .str _
  | .tuple ds, _, _, n, r => by
    unfold Rep at r
    obtain ⟨a, vs, e, h, q⟩ := r
    rw [e]
    exact .tup h.sq (Reps.toDp (by simpa [noDict] using n) q)
  | .list ds, _, _, n, r => by
    unfold Rep at r
    obtain ⟨a, vs, f, e, h, n1, n2, q, ef⟩ := r
    rw [e]
    exact .lst (SqL.of h) (Reps.toDp (by simpa [noDict] using n) q)
  | .dict kvs, _, _, n, r => by simp [noDict] at n
theorem Reps.toDp {K : PySem.W.Frag} {st : StA} {H : Hp} : ∀ {ds : List PyData} {vs : List V} {fp : List Addr}, noDicts ds = true → Reps K st H ds vs fp → DpAll K H vs ds
  | [], _, _, _, r => by unfold Reps at r; rw [r.1]; exact .nil
  | d :: ds, _, _, n, r => by
    unfold Reps at r
    obtain ⟨v, vr, f1, f2, e, h1, h2, ef⟩ := r
    simp [noDicts] at n
    rw [e]
    exact .cons (Rep.toDp n.1 h1) (Reps.toDp n.2 h2)
end
theorem Reps.length {K : PySem.W.Frag} {st : StA} {H : Hp} : ∀ {ds : List PyData} {vs : List V} {fp : List Addr}, Reps K st H ds vs fp → vs.length = ds.length
  | [], _, _, r => by unfold Reps at r; rw [r.1]; rfl
  | d :: ds, _, _, r => by
    unfold Reps at r
    obtain ⟨v, vr, f1, f2, e, h1, h2, ef⟩ := r
    rw [e, List.length_cons, List.length_cons, Reps.length h2]
theorem Reps.get {K : PySem.W.Frag} {st : StA} {H : Hp} : ∀ {ds : List PyData} {vs : List V} {fp : List Addr} {i : Nat} {d : PyData}, Reps K st H ds vs fp → ds[i]? = some d → ∃ v f, vs[i]? = some v ∧ Rep K st H d v f ∧ ∀ c ∈ f, c ∈ fp
  | [], _, _, _, _, r, e => by simp at e
  | d :: ds, _, _, 0, _, r, e => by
    unfold Reps at r
    obtain ⟨v, vr, f1, f2, e1, h1, h2, ef⟩ := r
    simp at e
    subst e
    exact ⟨v, f1, by rw [e1]; rfl, h1, fun c hc => by rw [ef]; exact List.mem_append_left _ hc⟩
  | d :: ds, _, _, i + 1, _, r, e => by
    unfold Reps at r
    obtain ⟨v, vr, f1, f2, e1, h1, h2, ef⟩ := r
    obtain ⟨u, f, q1, q2, q3⟩ := Reps.get (i := i) h2 (by simpa using e)
    exact ⟨u, f, by rw [e1]; simpa using q1, q2, fun c hc => by rw [ef]; exact List.mem_append_right _ (q3 c hc)⟩
theorem Reps.append {K : PySem.W.Frag} {st : StA} {H : Hp} : ∀ {ds es : List PyData} {vs us : List V} {fp gp : List Addr}, Reps K st H ds vs fp → Reps K st H es us gp → Reps K st H (ds ++ es) (vs ++ us) (fp ++ gp)
  | [], _, _, _, _, _, r, q => by
    unfold Reps at r
    rw [r.1, r.2]
    exact q
  | d :: ds, es, _, us, _, gp, r, q => by
    unfold Reps at r
    obtain ⟨v, vr, f1, f2, e1, h1, h2, ef⟩ := r
    rw [e1, ef]
    show Reps K st H (d :: (ds ++ es)) (v :: (vr ++ us)) _
    unfold Reps
    exact ⟨v, vr ++ us, f1, f2 ++ gp, rfl, h1, Reps.append h2 q, by rw [List.append_assoc]⟩
theorem Reps.take {K : PySem.W.Frag} {st : StA} {H : Hp} : ∀ {ds : List PyData} {vs : List V} {fp : List Addr} (n : Nat), Reps K st H ds vs fp → ∃ f, Reps K st H (ds.take n) (vs.take n) f ∧ ∀ c ∈ f, c ∈ fp
  | ds, vs, fp, 0, r => ⟨[], by simp [Reps], fun c hc => by cases hc⟩
  | [], vs, fp, n + 1, r => by
    unfold Reps at r
    exact ⟨[], by rw [r.1]; simp [Reps], fun c hc => by cases hc⟩
  | d :: ds, vs, fp, n + 1, r => by
    unfold Reps at r
    obtain ⟨v, vr, f1, f2, e1, h1, h2, ef⟩ := r
    obtain ⟨f, q1, q2⟩ := Reps.take n h2
    refine ⟨f1 ++ f, ?_, fun c hc => ?_⟩
    · rw [e1]
      show Reps K st H (d :: ds.take n) (v :: vr.take n) _
      unfold Reps
      exact ⟨v, vr.take n, f1, f, rfl, h1, q1, rfl⟩
    · rw [ef]
      rcases List.mem_append.mp hc with h | h
      · exact List.mem_append_left _ h
      · exact List.mem_append_right _ (q2 c h)
theorem Reps.drop {K : PySem.W.Frag} {st : StA} {H : Hp} : ∀ {ds : List PyData} {vs : List V} {fp : List Addr} (n : Nat), Reps K st H ds vs fp → ∃ f, Reps K st H (ds.drop n) (vs.drop n) f ∧ ∀ c ∈ f, c ∈ fp
  | ds, vs, fp, 0, r => ⟨fp, by simpa using r, fun c hc => hc⟩
  | [], vs, fp, n + 1, r => by
    unfold Reps at r
    exact ⟨[], by rw [r.1]; simp [Reps], fun c hc => by cases hc⟩
  | d :: ds, vs, fp, n + 1, r => by
    unfold Reps at r
    obtain ⟨v, vr, f1, f2, e1, h1, h2, ef⟩ := r
    obtain ⟨f, q1, q2⟩ := Reps.drop n h2
    exact ⟨f, by rw [e1]; simpa using q1, fun c hc => by rw [ef]; exact List.mem_append_right _ (q2 c hc)⟩

/-! ### new lists, new tuples -/
/-- a new list; its items hang on al -/
def mkL (ds : List PyData) (al : List Nat) : RV := if imms ds then ⟨.list ds, .own, []⟩ else ⟨.list ds, .top, al⟩
def mkT (ds : List PyData) (al : List Nat) : RV := mkRV (.tuple ds) .shr al
section
variable {K : PySem.W.Frag} {st : StA} {S : Addr → Prop} {os : Nat → List Addr} {H H1 H2 : Hp} {Q : VK} {b : Nat}
theorem Rep.newL {ds : List PyData} {vs : List V} {f : List Addr} {p : Addr} (sm : Stm H st b) (hp : H p = none) (r : Reps K st H ds vs f) : Rep K st (upd H p (.lst vs)) (.list ds) (.ref p) (p :: f) := by
  unfold Rep
  obtain ⟨x1, e1⟩ := sm.at1
  obtain ⟨x2, e2⟩ := sm.at2
  exact ⟨p, vs, f, rfl, upd_same, (sm.off hp).1, (sm.off hp).2, r.sameX sm (SameX.new hp), rfl⟩
theorem Rep.newT {ds : List PyData} {vs : List V} {f : List Addr} {p : Addr} {o : Obj} (sm : Stm H st b) (hp : H p = none) (ho : o.dict = none) (r : Reps K st H ds vs f) : Rep K st (upd H p (.frz o (.tup vs))) (.tuple ds) (.ref p) f := by
  unfold Rep
  exact ⟨p, vs, rfl, .inl ⟨o, upd_same, ho⟩, r.sameX sm (SameX.new hp)⟩
/-- a new list whose items stand in H2 (H: the heap ahead of all) -/
theorem new_list {ds : List PyData} {al : List Nat} {vs : List V} {f : List Addr} (sm : Stm H2 st b) (x : SameX st H H2) (r : Reps K st H2 ds vs f) (hf : ∀ c ∈ f, okc S os H al c)
    (h : ∀ v H', SameX st H2 H' → Stm H' st b → RVok K st S os H H' (mkL ds al) v → Q v H') : ∀ p, H2 p = none → Q (.ref p) (upd H2 p (.lst vs)) := by
  intro p hp
  have nf : p ∉ f := fun hc => by
    obtain ⟨⟨o, e⟩, _⟩ := r.trk p hc
    rw [hp] at e; cases e
  refine h _ _ (SameX.new hp) (sm.new hp) ?_
  unfold mkL
  split
  · rename_i hi
    have e : f = [] := r.fp_imm hi
    subst e
    exact ⟨[p], Rep.newL sm hp r, by simp, fun c hc => .inl (by rw [show c = p by simpa using hc]; exact fresh_back sm x hp)⟩
  · exact ⟨p :: f, Rep.newL sm hp r, p, f, rfl, nf, fresh_back sm x hp, hf⟩
theorem new_tup {ds : List PyData} {al : List Nat} {vs : List V} {f : List Addr} (sm : Stm H2 st b) (x : SameX st H H2) (r : Reps K st H2 ds vs f) (hf : ∀ c ∈ f, okc S os H al c)
    (h : ∀ v H', SameX st H2 H' → Stm H' st b → RVok K st S os H H' (mkT ds al) v → Q v H') : NewT H2 vs Q := by
  intro p o hp ho
  exact h _ _ (SameX.new hp) (sm.new hp) (RVok.mk (Rep.newT sm hp ho r) fun _ => hf)
end

/-! ### operations of two values -/
def O2 (X : Cx) (f : Value → Value → Sem Value) (op : RV → RV → M RV) : Prop :=
  ∃ r : R2, OpR X f r ∧ ∀ (R : Exn → Nat → Prop) (st : StA) (S : Addr → Prop) (os : Nat → List Addr) (H H2 : Hp) (b : Nat) (x y : V) (r1 r2 : RV) (Q : VK), Stm H2 st b → SameX st H H2 →
    RVok X.K st S os H H2 r1 x → RVok X.K st S os H H2 r2 y → (op r1 r2).all R (fun r b' => ∀ v H', SameX st H2 H' → Stm H' st b' → RVok X.K st S os H H' r v → Q v H') b → r x y H2 Q
/-- the first that is not stuck -/
def orElse (m n : M RV) : M RV := match m with
  | .stuck => n
  | x => x
section
variable {X : Cx} {e e1 e2 : Expr} {es : List Expr} {f g : Env → M RV} {pos : Pos}
theorem O2.or {fn : Value → Value → Sem Value} {op op' : RV → RV → M RV} (h : O2 X fn op) (h' : O2 X fn op') : O2 X fn (fun r1 r2 => orElse (op r1 r2) (op' r1 r2)) := by
  obtain ⟨r, h1, h2⟩ := h
  obtain ⟨r', h1', h2'⟩ := h'
  refine ⟨_, OpR.or h1 h1', fun R st S os H H2 b x y r1 r2 Q sm sx k1 k2 q => ?_⟩
  cases e : op r1 r2 with
  | stuck =>
    simp only [e, orElse] at q
    exact .inr (h2' R st S os H H2 b x y r1 r2 Q sm sx k1 k2 q)
  | ret a =>
    simp only [e, orElse] at q
    exact .inl (h2 R st S os H H2 b x y r1 r2 Q sm sx k1 k2 (by rw [e]; exact q))
  | raise xn =>
    simp only [e, orElse] at q
    exact .inl (h2 R st S os H H2 b x y r1 r2 Q sm sx k1 k2 (by rw [e]; exact q))
  | draw n k =>
    simp only [e, orElse] at q
    exact .inl (h2 R st S os H H2 b x y r1 r2 Q sm sx k1 k2 (by rw [e]; exact q))
def ev2 (op : RV → RV → M RV) (f g : Env → M RV) (env : Env) : M RV := f env >>= fun r1 => g env >>= fun r2 => op r1 r2
theorem two {fn : Value → Value → Sem Value} {op : RV → RV → M RV} {r : R2} {ta tb : TE} {G : Gx} {S : Addr → Prop} {H : Hp} {env : Env} {σ : St} {os : Nat → List Addr} {b : Nat} {Q : VK}
    (ho : ∀ (R : Exn → Nat → Prop) (st : StA) (S : Addr → Prop) (os : Nat → List Addr) (H H2 : Hp) (b : Nat) (x y : V) (r1 r2 : RV) (Q : VK), Stm H2 st b → SameX st H H2 →
      RVok X.K st S os H H2 r1 x → RVok X.K st S os H H2 r2 y → (op r1 r2).all R (fun r b' => ∀ v H', SameX st H2 H' → Stm H' st b' → RVok X.K st S os H H' r v → Q v H') b → r x y H2 Q)
    (qa : ∀ (G : Gx) (S : Addr → Prop) (H : Hp) (env : Env) (σ : St) (os : Nat → List Addr) (b : Nat) (Q : VK), GOk G X → ER G S H env σ os → Stm H G.st b → (f env).all G.R (Post X.K G.st S os H Q) b → ta σ H Q)
    (qb : ∀ (G : Gx) (S : Addr → Prop) (H : Hp) (env : Env) (σ : St) (os : Nat → List Addr) (b : Nat) (Q : VK), GOk G X → ER G S H env σ os → Stm H G.st b → (g env).all G.R (Post X.K G.st S os H Q) b → tb σ H Q)
    (hK : GOk G X) (E : ER G S H env σ os) (sm : Stm H G.st b) (h : (ev2 op f g env).all G.R (Post X.K G.st S os H Q) b) : tOp r ta tb σ H Q := by
  unfold ev2 at h
  rw [M.all_bind] at h
  refine qa G S H env σ os b _ hK E sm (M.all_mono (fun r1 b1 h1 v1 H1 x1 sm1 ok1 => ?_) _ _ h)
  rw [M.all_bind] at h1
  refine qb G S H1 env σ os b1 _ hK (E.mono sm x1) sm1 (M.all_mono (fun r2 b2 h2 v2 H2 x2 sm2 ok2 => ?_) _ _ h1)
  exact ho G.R G.st S os H H2 b2 v1 v2 r1 r2 Q sm2 (x1.trans x2) (ok1.later sm1 x2) (ok2.back sm1 x1) (M.all_mono (fun r b' hr v H' x' sm' ok => hr v H' ((x1.trans x2).trans x') sm' ok) _ _ h2)
theorem de_bin {op : Operator} {o : RV → RV → M RV} (ho : O2 X (binaryOp op) o) (ha : DE X e1 f) (hb : DE X e2 g) : DE X (.BinOp e1 op e2 pos) (ev2 o f g) := by
  obtain ⟨ta, pa, qa⟩ := ha
  obtain ⟨tb, pb, qb⟩ := hb
  obtain ⟨r, h1, h2⟩ := ho
  exact ⟨_, pe_op h1 pa pb, fun G S H env σ os b Q hK E sm h => two (fn := binaryOp op) h2 qa qb hK E sm h⟩
theorem de_cmp {op : CmpOp} {o : RV → RV → M RV} (ho : O2 X (compareOp op) o) (ha : DE X e1 f) (hb : DE X e2 g) (hm : behindInMarks op e2 = false := by first | exact nomark _ | rfl) : DE X (.Compare e1 [op] [e2] pos) (ev2 o f g) := by
  obtain ⟨ta, pa, qa⟩ := ha
  obtain ⟨tb, pb, qb⟩ := hb
  obtain ⟨r, h1, h2⟩ := ho
  exact ⟨_, pe_cmpR h1 pa pb hm, fun G S H env σ os b Q hK E sm h => two (fn := compareOp op) h2 qa qb hK E sm h⟩

/-! ints -/
def oInt (C : Int → Int → Bool) (g : Int → Int → PyData) (r1 r2 : RV) : M RV := match r1.d, r2.d with
  | .int i, .int j => if C i j then flat (g i j) else .stuck
  | _, _ => .stuck
theorem oInt_ok {C : Int → Int → Bool} {g : Int → Int → PyData} {gv : Int → Int → V} (hg : ∀ (K : PySem.W.Frag) st H i j, Rep K st H (g i j) (gv i j) []) (hi : ∀ i j, imm (g i j) = true)
    {K : PySem.W.Frag} {st : StA} {S : Addr → Prop} {os : Nat → List Addr} {H H2 : Hp} {b : Nat} {x y : V} {r1 r2 : RV} {Q : VK} (sm : Stm H2 st b)
    (k1 : RVok K st S os H H2 r1 x) (k2 : RVok K st S os H H2 r2 y) (q : (oInt C g r1 r2).all R (fun r b' => ∀ v H', SameX st H2 H' → Stm H' st b' → RVok K st S os H H' r v → Q v H') b) :
    ∃ i j, x = .int i ∧ y = .int j ∧ C i j = true ∧ Q (gv i j) H2 := by
  obtain ⟨d1, l1, a1⟩ := r1
  obtain ⟨d2, l2, a2⟩ := r2
  obtain ⟨f1, p1, _⟩ := k1
  obtain ⟨f2, p2, _⟩ := k2
  unfold oInt at q
  split at q
  · rename_i i j e1 e2
    simp only at e1 e2 p1 p2
    subst e1 e2
    by_cases hc : C i j = true
    · rw [if_pos hc] at q
      exact ⟨i, j, p1.int_inv, p2.int_inv, hc, q _ H2 (SameX.refl _) sm (RVok.imm (hi i j) (hg K st H2 i j))⟩
    · rw [if_neg hc] at q
      exact q.elim
  · exact q.elim
def oAddI := oInt (fun _ _ => true) fun i j => .int (i + j)
def oSubI := oInt (fun _ _ => true) fun i j => .int (i - j)
/-- an int is not too large -/
def sm62 (i : Int) : Bool := decide (i.natAbs < 4611686018427387904)
def sm64 (i : Int) : Bool := decide (i.natAbs < 18446744073709551616)
theorem sm62_ok {i : Int} (h : sm62 i = true) : -(2 ^ 62) ≤ i ∧ i < 2 ^ 62 := by
  have := of_decide_eq_true h
  omega
theorem sm64_ok {i : Int} (h : sm64 i = true) : -(2 ^ 64) < i ∧ i < 2 ^ 64 := by
  have := of_decide_eq_true h
  omega
def oMulI := oInt (fun i j => sm64 i || sm64 j) fun i j => .int (i * j)
def oModI := oInt (fun _ j => decide (j ≠ 0)) fun i j => .int (i.fmod j)
def oDivI := oInt (fun _ j => decide (j ≠ 0) && decide (j.natAbs < 1073741824)) fun i j => .int (i.fdiv j)
def oPowI := oInt (fun i j => decide (0 ≤ j) && decide (j ≤ 1000000) && decide (i.natAbs < 2 ^ 64)) fun i j => .int (i ^ j.toNat)
def oShlI := oInt (fun i j => decide (0 ≤ j) && decide (j ≤ 1000000) && decide (i.natAbs < 2 ^ 64)) fun i j => .int (i * 2 ^ j.toNat)
def oAndI := oInt (fun _ _ => true) fun i j => .int (Builtin.bitAnd i j)
def oLtI := oInt (fun _ _ => true) fun i j => .bool (decide (i < j))
def oLeI := oInt (fun _ _ => true) fun i j => .bool (decide (i ≤ j))
def oGtI := oInt (fun _ _ => true) fun i j => .bool (decide (j < i))
def oGeI := oInt (fun _ _ => true) fun i j => .bool (decide (j ≤ i))
theorem o_addI : O2 X (binaryOp .Add) oAddI := ⟨_, op_add, fun R st S os H H2 b x y r1 r2 Q sm sx k1 k2 q => by
  obtain ⟨i, j, e1, e2, _, q⟩ := oInt_ok (gv := fun i j => .int (i + j)) (fun _ _ _ _ _ => Rep.of_int _) (fun _ _ => rfl) sm k1 k2 q
  exact ⟨i, j, e1, e2, q⟩⟩
theorem o_subI : O2 X (binaryOp .Sub) oSubI := ⟨_, op_sub, fun R st S os H H2 b x y r1 r2 Q sm sx k1 k2 q => by
  obtain ⟨i, j, e1, e2, _, q⟩ := oInt_ok (gv := fun i j => .int (i - j)) (fun _ _ _ _ _ => Rep.of_int _) (fun _ _ => rfl) sm k1 k2 q
  exact ⟨i, j, e1, e2, q⟩⟩
theorem o_mulI : O2 X (binaryOp .Mult) oMulI := ⟨_, op_mul, fun R st S os H H2 b x y r1 r2 Q sm sx k1 k2 q => by
  obtain ⟨i, j, e1, e2, c, q⟩ := oInt_ok (gv := fun i j => .int (i * j)) (fun _ _ _ _ _ => Rep.of_int _) (fun _ _ => rfl) sm k1 k2 q
  simp only [Bool.or_eq_true] at c
  exact ⟨i, j, e1, e2, c.imp sm64_ok sm64_ok, q⟩⟩
theorem o_modI : O2 X (binaryOp .Mod) oModI := ⟨_, op_modN, fun R st S os H H2 b x y r1 r2 Q sm sx k1 k2 q => by
  obtain ⟨i, j, e1, e2, c, q⟩ := oInt_ok (gv := fun i j => .int (i.fmod j)) (fun _ _ _ _ _ => Rep.of_int _) (fun _ _ => rfl) sm k1 k2 q
  exact ⟨i, j, e1, e2, of_decide_eq_true c, q⟩⟩
theorem o_divI : O2 X (binaryOp .FloorDiv) oDivI := ⟨_, op_fdivN, fun R st S os H H2 b x y r1 r2 Q sm sx k1 k2 q => by
  obtain ⟨i, j, e1, e2, c, q⟩ := oInt_ok (gv := fun i j => .int (i.fdiv j)) (fun _ _ _ _ _ => Rep.of_int _) (fun _ _ => rfl) sm k1 k2 q
  simp only [Bool.and_eq_true, decide_eq_true_eq] at c
  exact ⟨i, j, e1, e2, c, q⟩⟩
theorem o_powI : O2 X (binaryOp .Pow) oPowI := ⟨_, op_pow, fun R st S os H H2 b x y r1 r2 Q sm sx k1 k2 q => by
  obtain ⟨i, j, e1, e2, c, q⟩ := oInt_ok (gv := fun i j => .int (i ^ j.toNat)) (fun _ _ _ _ _ => Rep.of_int _) (fun _ _ => rfl) sm k1 k2 q
  simp only [Bool.and_eq_true, decide_eq_true_eq] at c
  exact ⟨i, j, e1, e2, ⟨c.1.1, c.1.2, c.2⟩, q⟩⟩
theorem o_shlI : O2 X (binaryOp .LShift) oShlI := ⟨_, op_shl, fun R st S os H H2 b x y r1 r2 Q sm sx k1 k2 q => by
  obtain ⟨i, j, e1, e2, c, q⟩ := oInt_ok (gv := fun i j => .int (i * 2 ^ j.toNat)) (fun _ _ _ _ _ => Rep.of_int _) (fun _ _ => rfl) sm k1 k2 q
  simp only [Bool.and_eq_true, decide_eq_true_eq] at c
  exact ⟨i, j, e1, e2, ⟨c.1.1, c.1.2, c.2⟩, q⟩⟩
theorem o_andI : O2 X (binaryOp .BitAnd) oAndI := ⟨_, op_and, fun R st S os H H2 b x y r1 r2 Q sm sx k1 k2 q => by
  obtain ⟨i, j, e1, e2, _, q⟩ := oInt_ok (gv := fun i j => .int (Builtin.bitAnd i j)) (fun _ _ _ _ _ => Rep.of_int _) (fun _ _ => rfl) sm k1 k2 q
  exact ⟨i, j, e1, e2, q⟩⟩
theorem o_ltI : O2 X (compareOp .Lt) oLtI := ⟨_, op_lt, fun R st S os H H2 b x y r1 r2 Q sm sx k1 k2 q => by
  obtain ⟨i, j, e1, e2, _, q⟩ := oInt_ok (gv := fun i j => .bl (decide (i < j))) (fun _ _ _ _ _ => Rep.of_bool _) (fun _ _ => rfl) sm k1 k2 q
  exact ⟨i, j, e1, e2, q⟩⟩
theorem o_leI : O2 X (compareOp .LtE) oLeI := ⟨_, op_le, fun R st S os H H2 b x y r1 r2 Q sm sx k1 k2 q => by
  obtain ⟨i, j, e1, e2, _, q⟩ := oInt_ok (gv := fun i j => .bl (decide (i ≤ j))) (fun _ _ _ _ _ => Rep.of_bool _) (fun _ _ => rfl) sm k1 k2 q
  exact ⟨i, j, e1, e2, q⟩⟩
theorem o_gtI : O2 X (compareOp .Gt) oGtI := ⟨_, op_gt, fun R st S os H H2 b x y r1 r2 Q sm sx k1 k2 q => by
  obtain ⟨i, j, e1, e2, _, q⟩ := oInt_ok (gv := fun i j => .bl (decide (j < i))) (fun _ _ _ _ _ => Rep.of_bool _) (fun _ _ => rfl) sm k1 k2 q
  exact ⟨i, j, e1, e2, q⟩⟩
theorem o_geI : O2 X (compareOp .GtE) oGeI := ⟨_, op_ge, fun R st S os H H2 b x y r1 r2 Q sm sx k1 k2 q => by
  obtain ⟨i, j, e1, e2, _, q⟩ := oInt_ok (gv := fun i j => .bl (decide (j ≤ i))) (fun _ _ _ _ _ => Rep.of_bool _) (fun _ _ => rfl) sm k1 k2 q
  exact ⟨i, j, e1, e2, q⟩⟩

/-! == and != of data -/
def oEq (neg : Bool) (r1 r2 : RV) : M RV := if noDict r1.d && noDict r2.d && SeqAt.shaped r1.d && SeqAt.shaped r2.d then flat (.bool (if neg then !PyData.eqv r1.d r2.d else PyData.eqv r1.d r2.d)) else .stuck
theorem oEq_ok {neg : Bool} {K : PySem.W.Frag} {st : StA} {S : Addr → Prop} {os : Nat → List Addr} {H H2 : Hp} {b : Nat} {x y : V} {r1 r2 : RV} {Q : VK} (sm : Stm H2 st b)
    (k1 : RVok K st S os H H2 r1 x) (k2 : RVok K st S os H H2 r2 y) (q : (oEq neg r1 r2).all R (fun r b' => ∀ v H', SameX st H2 H' → Stm H' st b' → RVok K st S os H H' r v → Q v H') b) :
    Dp K H2 x r1.d ∧ Dp K H2 y r2.d ∧ SeqAt.shaped r1.d = true ∧ SeqAt.shaped r2.d = true ∧ Q (.bl (if neg then !PyData.eqv r1.d r2.d else PyData.eqv r1.d r2.d)) H2 := by
  obtain ⟨f1, p1, _⟩ := k1
  obtain ⟨f2, p2, _⟩ := k2
  unfold oEq at q
  split at q
  · rename_i hc
    simp only [Bool.and_eq_true] at hc
    exact ⟨p1.toDp hc.1.1.1, p2.toDp hc.1.1.2, hc.1.2, hc.2, q _ H2 (SameX.refl _) sm (RVok.imm rfl (Rep.of_bool _))⟩
  · exact q.elim
theorem o_eq (hu : X.A.units + 64 < cLine) : O2 X (compareOp .Eq) (oEq false) := ⟨_, op_eqD hu, fun R st S os H H2 b x y r1 r2 Q sm sx k1 k2 q => by
  obtain ⟨h1, h2, h3, h4, q⟩ := oEq_ok sm k1 k2 q
  exact ⟨_, _, h1, h2, h3, h4, q⟩⟩
theorem o_ne (hu : X.A.units + 64 < cLine) : O2 X (compareOp .NotEq) (oEq true) := ⟨_, op_neD hu, fun R st S os H H2 b x y r1 r2 Q sm sx k1 k2 q => by
  obtain ⟨h1, h2, h3, h4, q⟩ := oEq_ok sm k1 k2 q
  exact ⟨_, _, h1, h2, h3, h4, q⟩⟩

/-! is None -/
def isN : PyData → Bool
  | .none => true
  | _ => false
def oIsN (neg : Bool) (r1 r2 : RV) : M RV := if isN r2.d then flat (.bool (if neg then !isN r1.d else isN r1.d)) else .stuck
theorem rep_none_iff {K : PySem.W.Frag} {st : StA} {H : Hp} {d : PyData} {v : V} {fp : List Addr} (r : Rep K st H d v fp) : decide (v = V.non) = isN d := by
  cases d with
  | none => rw [r.none_inv]; rfl
  | bool _ => rw [r.bool_inv]; rfl
  | int _ => rw [r.int_inv]; rfl
  | str _ => rw [r.str_inv]; rfl
  | list _ => unfold Rep at r; obtain ⟨a, _, _, e, _⟩ := r; rw [e]; rfl
  | tuple _ => unfold Rep at r; obtain ⟨a, _, e, _⟩ := r; rw [e]; rfl
  | dict _ => unfold Rep at r; obtain ⟨a, _, _, _, e, _⟩ := r; rw [e]; rfl
theorem isN_eq : ∀ {d : PyData}, isN d = true → d = .none
  | .none, _ => rfl
theorem oIsN_ok {neg : Bool} {K : PySem.W.Frag} {st : StA} {S : Addr → Prop} {os : Nat → List Addr} {H H2 : Hp} {b : Nat} {x y : V} {r1 r2 : RV} {Q : VK} (sm : Stm H2 st b)
    (k1 : RVok K st S os H H2 r1 x) (k2 : RVok K st S os H H2 r2 y) (q : (oIsN neg r1 r2).all R (fun r b' => ∀ v H', SameX st H2 H' → Stm H' st b' → RVok K st S os H H' r v → Q v H') b) :
    y = .non ∧ Q (.bl (if neg then !decide (x = V.non) else decide (x = V.non))) H2 := by
  obtain ⟨f1, p1, _⟩ := k1
  obtain ⟨f2, p2, _⟩ := k2
  unfold oIsN at q
  split at q
  · rename_i hc
    rw [isN_eq hc] at p2
    refine ⟨p2.none_inv, ?_⟩
    rw [rep_none_iff p1]
    exact q _ H2 (SameX.refl _) sm (RVok.imm rfl (Rep.of_bool _))
  · exact q.elim
theorem o_is : O2 X (compareOp .Is) (oIsN false) := ⟨_, op_isN, fun R st S os H H2 b x y r1 r2 Q sm sx k1 k2 q => oIsN_ok sm k1 k2 q⟩
theorem o_isnot : O2 X (compareOp .IsNot) (oIsN true) := ⟨_, op_notN, fun R st S os H H2 b x y r1 r2 Q sm sx k1 k2 q => oIsN_ok sm k1 k2 q⟩

/-! lists and tuples put together -/
def oCat (r1 r2 : RV) : M RV := match r1.d, r2.d with
  | .list xs, .list ys => if xs.length + ys.length ≤ sizeLine then .ret (mkL (xs ++ ys) (r1.al ++ r2.al)) else .stuck
  | _, _ => .stuck
theorem o_cat : O2 X (binaryOp .Add) oCat := ⟨_, op_cat, fun R st S os H H2 b x y r1 r2 Q sm sx k1 k2 q => by
  obtain ⟨d1, l1, a1⟩ := r1
  obtain ⟨d2, l2, a2⟩ := r2
  obtain ⟨f1, p1, z1⟩ := k1
  obtain ⟨f2, p2, z2⟩ := k2
  have w1 := z1.shr
  have w2 := z2.shr
  unfold oCat at q
  split at q
  · rename_i xs ys e1 e2
    simp only at e1 e2 p1 p2 w1 w2
    subst e1 e2
    by_cases hc : xs.length + ys.length ≤ sizeLine
    · rw [if_pos hc] at q
      unfold Rep at p1 p2
      obtain ⟨a, vs, g1, e1, h1, n1, n2, r1, ef1⟩ := p1
      obtain ⟨a', us, g2, e2, h2, n3, n4, r2, ef2⟩ := p2
      refine ⟨a, a', vs, us, e1, e2, h1, h2, by rw [r1.length, r2.length]; exact hc, ?_⟩
      refine new_list sm sx (r1.append r2) (fun c hc => ?_) q
      rcases List.mem_append.mp hc with h | h
      · exact (w1 c (by rw [ef1]; exact List.mem_cons_of_mem _ h)).al fun i hi => List.mem_append_left _ hi
      · exact (w2 c (by rw [ef2]; exact List.mem_cons_of_mem _ h)).al fun i hi => List.mem_append_right _ hi
    · rw [if_neg hc] at q
      exact q.elim
  · exact q.elim⟩
/-- a list of flat items, so often -/
def oRep (r1 r2 : RV) : M RV := match r1.d, r2.d with
  | .list xs, .int k => if imms xs && sm62 k && decide (xs.length * k.toNat ≤ sizeLine) then .ret (mkL (List.replicate k.toNat xs).flatten []) else .stuck
  | _, _ => .stuck
theorem reps_rep {K : PySem.W.Frag} {st : StA} {H : Hp} {xs : List PyData} {vs : List V} (r : Reps K st H xs vs []) : ∀ n, Reps K st H (List.replicate n xs).flatten (List.replicate n vs).flatten []
  | 0 => by simp [Reps]
  | n + 1 => by
    rw [List.replicate_succ, List.replicate_succ, List.flatten_cons, List.flatten_cons]
    exact r.append (reps_rep r n)
theorem imms_rep {xs : List PyData} (h : imms xs = true) (n : Nat) : imms (List.replicate n xs).flatten = true := by
  rw [imms_iff] at h ⊢
  intro x hx
  obtain ⟨l, hl, hx⟩ := List.mem_flatten.mp hx
  rw [(List.mem_replicate.mp hl).2] at hx
  exact h x hx
theorem o_rep : O2 X (binaryOp .Mult) oRep := ⟨_, op_rep, fun R st S os H H2 b x y r1 r2 Q sm sx k1 k2 q => by
  obtain ⟨d1, l1, a1⟩ := r1
  obtain ⟨d2, l2, a2⟩ := r2
  obtain ⟨f1, p1, z1⟩ := k1
  obtain ⟨f2, p2, z2⟩ := k2
  unfold oRep at q
  split at q
  · rename_i xs k e1 e2
    simp only at e1 e2 p1 p2
    subst e1 e2
    split at q
    · rename_i hc
      simp only [Bool.and_eq_true, decide_eq_true_eq] at hc
      obtain ⟨⟨hi, h12⟩, h3⟩ := hc
      obtain ⟨h1, h2⟩ := sm62_ok h12
      unfold Rep at p1
      obtain ⟨a, vs, g1, e1, h, n1, n2, r1, ef1⟩ := p1
      have eg : g1 = [] := r1.fp_imm hi
      subst eg
      refine ⟨a, k, vs, e1, p2.int_inv, h, by omega, by omega, by rw [r1.length]; exact h3, ?_⟩
      exact new_list sm sx (reps_rep r1 _) (fun c hc => by cases hc) q
    · exact q.elim
  · exact q.elim⟩
end
end Vm

set_option Elab.async false
set_option linter.all false
set_option maxRecDepth 100000
namespace Vm
variable [TabsC]
variable {R : Exn → Nat → Prop}
open PySem L2

/-! ### truth, tests -/
def truth : PyData → Option Bool
  | .none => some false
  | .bool b => some b
  | .int i => some (i != 0)
  | .str y => if y.length ≤ sizeLine then some ((y.length : Int) != 0) else none
  | .list xs => some (!xs.isEmpty)
  | .tuple xs => some (!xs.isEmpty)
  | .dict _ => none
theorem isEmpty_len {α β : Type} {xs : List α} {ys : List β} (h : xs.length = ys.length) : xs.isEmpty = ys.isEmpty := by
  cases xs <;> cases ys <;> simp_all
theorem Rep.truth {K : PySem.W.Frag} {st : StA} {H : Hp} {d : PyData} {v : V} {fp : List Addr} {k : Bool} (r : Rep K st H d v fp) (h : truth d = some k) : TruV K v H k := by
  cases d with
  | none => rw [r.none_inv]; exact (Option.some.inj h).symm
  | bool _ => rw [r.bool_inv]; exact (Option.some.inj h).symm
  | int _ => rw [r.int_inv]; exact (Option.some.inj h).symm
  | str y =>
    rw [r.str_inv]
    have h' : (if y.length ≤ sizeLine then some ((y.length : Int) != 0) else none) = some k := h
    by_cases hl : y.length ≤ sizeLine
    · rw [if_pos hl] at h'; exact ⟨hl, (Option.some.inj h').symm⟩
    · rw [if_neg hl] at h'; cases h'
  | list xs =>
    unfold Rep at r
    obtain ⟨a, vs, f, e, h1, _, _, q, _⟩ := r
    rw [e]
    exact .inl ⟨vs, SqL.of h1, by rw [isEmpty_len q.length]; exact (Option.some.inj h).symm⟩
  | tuple xs =>
    unfold Rep at r
    obtain ⟨a, vs, e, h1, q⟩ := r
    rw [e]
    exact .inr (.inl ⟨vs, h1.sq, by rw [isEmpty_len q.length]; exact (Option.some.inj h).symm⟩)
  | dict _ => cases h
def tru (f : Env → M RV) (env : Env) : M Bool := f env >>= fun r => M.ofOption (truth r.d)
def asB (f : Env → M RV) (env : Env) : M Bool := f env >>= fun r => match r.d with
  | .bool b => .ret b
  | _ => .stuck
section
variable {X : Cx} {e e1 e2 e3 : Expr} {es rest : List Expr} {f g k : Env → M RV} {pos : Pos} {c d : Env → M Bool}
theorem dt_truth (he : DE X e f) (hs : ∀ whole, isTrue e X.env whole = (do let v ← whole; standAt e.pos; holding [v] (truthy v)) := by intro _; rfl) : DT X e (tru f) := by
  obtain ⟨t, ht, qt⟩ := he
  refine ⟨_, pt_truth ht hs, fun G S H env σ os b Q hK E sm h => ?_⟩
  unfold tru at h
  rw [M.all_bind] at h
  refine qt G S H env σ os b _ hK E sm (M.all_mono (fun r b1 h1 v H1 x1 sm1 ok1 => ?_) _ _ h)
  obtain ⟨kk, hk, h1⟩ := M.all_ofOption.mp h1
  obtain ⟨fp, r1, _⟩ := ok1
  exact ⟨kk, r1.truth hk, h1 H1 x1 sm1⟩
/-- behind a comparison: a bool -/
theorem asB_all {G : Gx} {S : Addr → Prop} {os : Nat → List Addr} {H : Hp} {b : Nat} {env : Env} {Q : Bool → Hp → Prop} (h : (asB f env).all G.R (fun c b' => ∀ H', SameX G.st H H' → Stm H' G.st b' → Q c H') b) :
    (f env).all G.R (Post X.K G.st S os H (fun x H' => ∃ k, x = .bl k ∧ Q k H')) b := by
  unfold asB at h
  rw [M.all_bind] at h
  refine M.all_mono (fun r b1 h1 v H1 x1 sm1 ok1 => ?_) _ _ h
  obtain ⟨fp, r1, _⟩ := ok1
  obtain ⟨d1, l1, a1⟩ := r
  cases d1 with
  | bool z => exact ⟨z, r1.bool_inv, h1 H1 x1 sm1⟩
  | _ => exact h1.elim
theorem dt_cmp {op : CmpOp} {o : RV → RV → M RV} (ho : O2 X (compareOp op) o) (ha : DE X e1 f) (hb : DE X e2 g) (hm : behindInMarks op e2 = false := by first | exact nomark _ | rfl) : DT X (.Compare e1 [op] [e2] pos) (asB (ev2 o f g)) := by
  obtain ⟨ta, pa, qa⟩ := ha
  obtain ⟨tb, pb, qb⟩ := hb
  obtain ⟨r, h1, h2⟩ := ho
  exact ⟨_, pt_cmpR h1 pa pb hm, fun G S H env σ os b Q hK E sm h => two (fn := compareOp op) h2 qa qb hK E sm (asB_all h)⟩
/-- a op1 b op2 c -/
def evChain (o o' : RV → RV → M RV) (f g k : Env → M RV) (env : Env) : M RV := f env >>= fun r1 => g env >>= fun r2 => o r1 r2 >>= fun z => match z.d with
  | .bool true => k env >>= fun r3 => o' r2 r3
  | .bool false => flat (.bool false)
  | _ => .stuck
theorem chain_ok {o o' : RV → RV → M RV} {r r' : R2} {ta tb tc : TE} {G : Gx} {S : Addr → Prop} {H : Hp} {env : Env} {σ : St} {os : Nat → List Addr} {b : Nat} {Q : VK}
    (ho : ∀ (R : Exn → Nat → Prop) (st : StA) (S : Addr → Prop) (os : Nat → List Addr) (H H2 : Hp) (b : Nat) (x y : V) (r1 r2 : RV) (Q : VK), Stm H2 st b → SameX st H H2 →
      RVok X.K st S os H H2 r1 x → RVok X.K st S os H H2 r2 y → (o r1 r2).all R (fun r b' => ∀ v H', SameX st H2 H' → Stm H' st b' → RVok X.K st S os H H' r v → Q v H') b → r x y H2 Q)
    (ho' : ∀ (R : Exn → Nat → Prop) (st : StA) (S : Addr → Prop) (os : Nat → List Addr) (H H2 : Hp) (b : Nat) (x y : V) (r1 r2 : RV) (Q : VK), Stm H2 st b → SameX st H H2 →
      RVok X.K st S os H H2 r1 x → RVok X.K st S os H H2 r2 y → (o' r1 r2).all R (fun r b' => ∀ v H', SameX st H2 H' → Stm H' st b' → RVok X.K st S os H H' r v → Q v H') b → r' x y H2 Q)
    (qa : ∀ (G : Gx) (S : Addr → Prop) (H : Hp) (env : Env) (σ : St) (os : Nat → List Addr) (b : Nat) (Q : VK), GOk G X → ER G S H env σ os → Stm H G.st b → (f env).all G.R (Post X.K G.st S os H Q) b → ta σ H Q)
    (qb : ∀ (G : Gx) (S : Addr → Prop) (H : Hp) (env : Env) (σ : St) (os : Nat → List Addr) (b : Nat) (Q : VK), GOk G X → ER G S H env σ os → Stm H G.st b → (g env).all G.R (Post X.K G.st S os H Q) b → tb σ H Q)
    (qc : ∀ (G : Gx) (S : Addr → Prop) (H : Hp) (env : Env) (σ : St) (os : Nat → List Addr) (b : Nat) (Q : VK), GOk G X → ER G S H env σ os → Stm H G.st b → (k env).all G.R (Post X.K G.st S os H Q) b → tc σ H Q)
    (hK : GOk G X) (E : ER G S H env σ os) (sm : Stm H G.st b) (h : (evChain o o' f g k env).all G.R (Post X.K G.st S os H Q) b) : tChain r r' ta tb tc σ H Q := by
  unfold evChain at h
  rw [M.all_bind] at h
  refine qa G S H env σ os b _ hK E sm (M.all_mono (fun r1 b1 h1 v1 H1 x1 sm1 ok1 => ?_) _ _ h)
  rw [M.all_bind] at h1
  refine qb G S H1 env σ os b1 _ hK (E.mono sm x1) sm1 (M.all_mono (fun r2 b2 h2 v2 H2 x2 sm2 ok2 => ?_) _ _ h1)
  rw [M.all_bind] at h2
  refine ho G.R G.st S os H H2 b2 v1 v2 r1 r2 _ sm2 (x1.trans x2) (ok1.later sm1 x2) (ok2.back sm1 x1) (M.all_mono (fun z b3 hz v3 H3 x3 sm3 ok3 => ?_) _ _ h2)
  obtain ⟨fp, rz, _⟩ := ok3
  obtain ⟨dz, lz, az⟩ := z
  have x03 := (x1.trans x2).trans x3
  cases dz with
  | bool q =>
    refine ⟨q, rz.bool_inv, ?_⟩
    cases q with
    | true =>
      rw [if_pos rfl]
      rw [M.all_bind] at hz
      refine qc G S H3 env σ os b3 _ hK (E.mono sm x03) sm3 (M.all_mono (fun r3 b4 h4 v4 H4 x4 sm4 ok4 => ?_) _ _ hz)
      exact ho' G.R G.st S os H H4 b4 v2 v4 r2 r3 Q sm4 (x03.trans x4) (((ok2.back sm1 x1).later sm2 x3).later sm3 x4) (ok4.back sm3 x03) (M.all_mono (fun r b' hr v H' x' sm' ok => hr v H' ((x03.trans x4).trans x') sm' ok) _ _ h4)
    | false =>
      rw [if_neg Bool.false_ne_true]
      exact hz _ H3 x03 sm3 (RVok.imm rfl (Rep.of_bool _))
  | _ => exact hz.elim
theorem de_chain {op op' : CmpOp} {o o' : RV → RV → M RV} (ho : O2 X (compareOp op) o) (ho' : O2 X (compareOp op') o') (ha : DE X e1 f) (hb : DE X e2 g) (hc : DE X e3 k)
    (hm : lastMarks [op, op'] [e2, e3] = false := by with_unfolding_all rfl) : DE X (.Compare e1 [op, op'] [e2, e3] pos) (evChain o o' f g k) := by
  obtain ⟨ta, pa, qa⟩ := ha
  obtain ⟨tb, pb, qb⟩ := hb
  obtain ⟨tc, pc, qc⟩ := hc
  obtain ⟨r, h1, h2⟩ := ho
  obtain ⟨r', h1', h2'⟩ := ho'
  exact ⟨_, pe_chain h1 h1' pa pb pc hm, fun G S H env σ os b Q hK E sm h => chain_ok h2 h2' qa qb qc hK E sm h⟩
theorem dt_chain {op op' : CmpOp} {o o' : RV → RV → M RV} (ho : O2 X (compareOp op) o) (ho' : O2 X (compareOp op') o') (ha : DE X e1 f) (hb : DE X e2 g) (hc : DE X e3 k)
    (hm : lastMarks [op, op'] [e2, e3] = false := by with_unfolding_all rfl) : DT X (.Compare e1 [op, op'] [e2, e3] pos) (asB (evChain o o' f g k)) := by
  obtain ⟨ta, pa, qa⟩ := ha
  obtain ⟨tb, pb, qb⟩ := hb
  obtain ⟨tc, pc, qc⟩ := hc
  obtain ⟨r, h1, h2⟩ := ho
  obtain ⟨r', h1', h2'⟩ := ho'
  exact ⟨_, pt_chain h1 h1' pa pb pc hm, fun G S H env σ os b Q hK E sm h => chain_ok h2 h2' qa qb qc hK E sm (asB_all h)⟩
/-! not, and, or as tests -/
def tNotM (c : Env → M Bool) (env : Env) : M Bool := c env >>= fun x => .ret (!x)
def tAndM (c d : Env → M Bool) (env : Env) : M Bool := c env >>= fun x => if x then d env else .ret false
def tOrM (c d : Env → M Bool) (env : Env) : M Bool := c env >>= fun x => if x then .ret true else d env
theorem dt_not (h : DT X e c) : DT X (.UnaryOp .Not e pos) (tNotM c) := by
  obtain ⟨t, ht, qt⟩ := h
  refine ⟨_, pt_not ht, fun G S H env σ os b Q hK E sm h => ?_⟩
  unfold tNotM at h
  rw [M.all_bind] at h
  exact qt G S H env σ os b _ hK E sm (M.all_mono (fun r b1 h1 H1 x1 sm1 => h1 H1 x1 sm1) _ _ h)
/-- a test whatever stands around it -/
structure DW (X : Cx) (e : Expr) (f : Env → M Bool) : Prop where
  run : ∃ t, PW X e t ∧ ∀ (G : Gx) (S : Addr → Prop) (H : Hp) (env : Env) (σ : St) (os : Nat → List Addr) (b : Nat) (Q : Bool → Hp → Prop), GOk G X → ER G S H env σ os → Stm H G.st b →
    (f env).all G.R (fun c b' => ∀ H', SameX G.st H H' → Stm H' G.st b' → Q c H') b → t σ H Q
theorem DW.dt (h : DW X e c) : DT X e c := let ⟨t, ht, q⟩ := h.run; ⟨t, ht.pt, q⟩
theorem dw_and1 (h : DT X e c) : DW X (.BoolOp .And [e] pos) c := let ⟨t, ht, q⟩ := h.run; ⟨t, pw_and1 ht, q⟩
theorem dw_or1 (h : DT X e c) : DW X (.BoolOp .Or [e] pos) c := let ⟨t, ht, q⟩ := h.run; ⟨t, pw_or1 ht, q⟩
theorem dw_and (h1 : DT X e1 c) (h2 : DW X (.BoolOp .And (e2 :: rest) pos) d) : DW X (.BoolOp .And (e1 :: e2 :: rest) pos) (tAndM c d) := by
  obtain ⟨t, ht, qt⟩ := h1
  obtain ⟨u, hu, qu⟩ := h2
  refine ⟨_, pw_and ht hu, fun G S H env σ os b Q hK E sm h => ?_⟩
  unfold tAndM at h
  rw [M.all_bind] at h
  refine qt G S H env σ os b _ hK E sm (M.all_mono (fun x b1 h1 H1 x1 sm1 => ?_) _ _ h)
  cases x with
  | true =>
    rw [if_pos rfl] at h1 ⊢
    exact qu G S H1 env σ os b1 _ hK (E.mono sm x1) sm1 (M.all_mono (fun r b2 h2 H2 x2 sm2 => h2 H2 (x1.trans x2) sm2) _ _ h1)
  | false => exact h1 H1 x1 sm1
theorem dw_or (h1 : DT X e1 c) (h2 : DW X (.BoolOp .Or (e2 :: rest) pos) d) : DW X (.BoolOp .Or (e1 :: e2 :: rest) pos) (tOrM c d) := by
  obtain ⟨t, ht, qt⟩ := h1
  obtain ⟨u, hu, qu⟩ := h2
  refine ⟨_, pw_or ht hu, fun G S H env σ os b Q hK E sm h => ?_⟩
  unfold tOrM at h
  rw [M.all_bind] at h
  refine qt G S H env σ os b _ hK E sm (M.all_mono (fun x b1 h1 H1 x1 sm1 => ?_) _ _ h)
  cases x with
  | true => exact h1 H1 x1 sm1
  | false =>
    rw [if_neg Bool.false_ne_true] at h1 ⊢
    exact qu G S H1 env σ os b1 _ hK (E.mono sm x1) sm1 (M.all_mono (fun r b2 h2 H2 x2 sm2 => h2 H2 (x1.trans x2) sm2) _ _ h1)
/-! as values -/
def vNot (f : Env → M RV) (env : Env) : M RV := f env >>= fun r => M.ofOption (truth r.d) >>= fun k => flat (.bool (!k))
def vAnd (f g : Env → M RV) (env : Env) : M RV := f env >>= fun r => M.ofOption (truth r.d) >>= fun k => if k then g env else .ret r
def vOr (f g : Env → M RV) (env : Env) : M RV := f env >>= fun r => M.ofOption (truth r.d) >>= fun k => if k then .ret r else g env
theorem de_not (h : DE X e f) : DE X (.UnaryOp .Not e pos) (vNot f) := by
  obtain ⟨t, ht, qt⟩ := h
  refine ⟨_, pe_notT ht, fun G S H env σ os b Q hK E sm h => ?_⟩
  unfold vNot at h
  rw [M.all_bind] at h
  refine qt G S H env σ os b _ hK E sm (M.all_mono (fun r b1 h1 v H1 x1 sm1 ok1 => ?_) _ _ h)
  rw [M.all_bind] at h1
  obtain ⟨kk, hk, h1⟩ := M.all_ofOption.mp h1
  obtain ⟨fp, r1, _⟩ := ok1
  exact ⟨kk, r1.truth hk, h1 _ H1 x1 sm1 (RVok.imm rfl (Rep.of_bool _))⟩
theorem de_and1 {op} (h : DE X e f) : DE X (.BoolOp op [e] pos) f := let ⟨t, ht, q⟩ := h.run; ⟨t, pe_one ht, q⟩
theorem de_and (h1 : DE X e1 f) (h2 : DE X (.BoolOp .And (e2 :: rest) pos) g) : DE X (.BoolOp .And (e1 :: e2 :: rest) pos) (vAnd f g) := by
  obtain ⟨t, ht, qt⟩ := h1
  obtain ⟨u, hu, qu⟩ := h2
  refine ⟨_, pe_andT ht hu, fun G S H env σ os b Q hK E sm h => ?_⟩
  unfold vAnd at h
  rw [M.all_bind] at h
  refine qt G S H env σ os b _ hK E sm (M.all_mono (fun r b1 h1 v H1 x1 sm1 ok1 => ?_) _ _ h)
  rw [M.all_bind] at h1
  obtain ⟨kk, hk, h1⟩ := M.all_ofOption.mp h1
  refine ⟨kk, let ⟨fp, r1, _⟩ := ok1; r1.truth hk, ?_⟩
  cases kk with
  | true =>
    rw [if_pos rfl] at h1 ⊢
    exact qu G S H1 env σ os b1 _ hK (E.mono sm x1) sm1 (M.all_mono (fun r b2 h2 => Post.thn sm1 x1 h2) _ _ h1)
  | false => exact h1 v H1 x1 sm1 ok1
theorem de_or (h1 : DE X e1 f) (h2 : DE X (.BoolOp .Or (e2 :: rest) pos) g) : DE X (.BoolOp .Or (e1 :: e2 :: rest) pos) (vOr f g) := by
  obtain ⟨t, ht, qt⟩ := h1
  obtain ⟨u, hu, qu⟩ := h2
  refine ⟨_, pe_orT ht hu, fun G S H env σ os b Q hK E sm h => ?_⟩
  unfold vOr at h
  rw [M.all_bind] at h
  refine qt G S H env σ os b _ hK E sm (M.all_mono (fun r b1 h1 v H1 x1 sm1 ok1 => ?_) _ _ h)
  rw [M.all_bind] at h1
  obtain ⟨kk, hk, h1⟩ := M.all_ofOption.mp h1
  refine ⟨kk, let ⟨fp, r1, _⟩ := ok1; r1.truth hk, ?_⟩
  cases kk with
  | true => exact h1 v H1 x1 sm1 ok1
  | false =>
    rw [if_neg Bool.false_ne_true] at h1 ⊢
    exact qu G S H1 env σ os b1 _ hK (E.mono sm x1) sm1 (M.all_mono (fun r b2 h2 => Post.thn sm1 x1 h2) _ _ h1)
/-- a if c else b -/
def vIf (c : Env → M Bool) (f g : Env → M RV) (env : Env) : M RV := c env >>= fun x => if x then f env else g env
theorem de_if (hc : DT X e c) (ha : DE X e1 f) (hb : DE X e2 g) : DE X (.IfExp e e1 e2 pos) (vIf c f g) := by
  obtain ⟨t, ht, qt⟩ := hc
  obtain ⟨ta, pa, qa⟩ := ha
  obtain ⟨tb, pb, qb⟩ := hb
  refine ⟨_, pe_ifExp ht pa pb, fun G S H env σ os b Q hK E sm h => ?_⟩
  unfold vIf at h
  rw [M.all_bind] at h
  refine qt G S H env σ os b _ hK E sm (M.all_mono (fun x b1 h1 H1 x1 sm1 => ?_) _ _ h)
  cases x with
  | true =>
    rw [if_pos rfl] at h1 ⊢
    exact qa G S H1 env σ os b1 _ hK (E.mono sm x1) sm1 (M.all_mono (fun r b2 h2 => Post.thn sm1 x1 h2) _ _ h1)
  | false =>
    rw [if_neg Bool.false_ne_true] at h1 ⊢
    exact qb G S H1 env σ os b1 _ hK (E.mono sm x1) sm1 (M.all_mono (fun r b2 h2 => Post.thn sm1 x1 h2) _ _ h1)

/-! ### items -/
theorem Reps.atI {K : PySem.W.Frag} {st : StA} {H : Hp} {ds : List PyData} {vs : List V} {fp : List Addr} {i : Int} {d : PyData} (r : Reps K st H ds vs fp) (h : atI ds i = some d) : ∃ v f, atI vs i = some v ∧ Rep K st H d v f ∧ ∀ c ∈ f, c ∈ fp := by
  unfold L2.atI at h ⊢
  rw [r.length]
  cases e : ixN ds.length i with
  | none => rw [e] at h; cases h
  | some j =>
    rw [e] at h
    exact r.get h
def oIx (r1 r2 : RV) : M RV := match r1.d, r2.d with
  | .list xs, .int i => M.ofOption (atI xs i) >>= fun d => .ret (mkRV d .shr r1.al)
  | .tuple xs, .int i => M.ofOption (atI xs i) >>= fun d => .ret (mkRV d .shr r1.al)
  | .str z, .int i => if z.length ≤ sizeLine then M.ofOption (atI z.cps.toList i) >>= fun c => flat (.str ⟨#[c]⟩) else .stuck
  | _, _ => .stuck
theorem de_ix (ha : DE X e1 f) (hb : DE X e2 g) (hs : PlainIx e2) : DE X (.Subscript e1 e2 pos) (ev2 oIx f g) := by
  obtain ⟨ta, pa, qa⟩ := ha
  obtain ⟨tb, pb, qb⟩ := hb
  refine ⟨_, pe_ix ix_seq pa pb hs, fun G S H env σ os b Q hK E sm h => two (fn := compareOp .Eq) (op := oIx) (fun R st S os H H2 b x y r1 r2 Q sm sx k1 k2 q => ?_) qa qb hK E sm h⟩
  obtain ⟨d1, l1, a1⟩ := r1
  obtain ⟨d2, l2, a2⟩ := r2
  obtain ⟨f1, p1, z1⟩ := k1
  obtain ⟨f2, p2, z2⟩ := k2
  have w1 := z1.shr
  unfold oIx at q
  split at q
  · rename_i xs i e1 e2
    simp only at e1 e2 p1 p2 w1 q
    subst e1 e2
    rw [M.all_bind] at q
    obtain ⟨d, hd, q⟩ := M.all_ofOption.mp q
    unfold Rep at p1
    obtain ⟨a, vs, g1, e1, h1, n1, n2, r1, ef1⟩ := p1
    obtain ⟨v, fv, hv, rv, hf⟩ := r1.atI hd
    exact .inl ⟨a, vs, i, v, e1, p2.int_inv, SqL.of h1, hv, q v H2 (SameX.refl _) sm (RVok.mk rv fun _ c hc => w1 c (by rw [ef1]; exact List.mem_cons_of_mem _ (hf c hc)))⟩
  · rename_i xs i e1 e2
    simp only at e1 e2 p1 p2 w1 q
    subst e1 e2
    rw [M.all_bind] at q
    obtain ⟨d, hd, q⟩ := M.all_ofOption.mp q
    unfold Rep at p1
    obtain ⟨a, vs, e1, h1, r1⟩ := p1
    obtain ⟨v, fv, hv, rv, hf⟩ := r1.atI hd
    exact .inr (.inl ⟨a, vs, i, v, e1, p2.int_inv, h1.sq, hv, q v H2 (SameX.refl _) sm (RVok.mk rv fun _ c hc => w1 c (hf c hc))⟩)
  · rename_i z i e1 e2
    simp only at e1 e2 p1 p2 q
    subst e1 e2
    by_cases hz : z.length ≤ sizeLine
    · rw [if_pos hz, M.all_bind] at q
      obtain ⟨c, hc, q⟩ := M.all_ofOption.mp q
      exact .inr (.inr ⟨z, i, c, p1.str_inv, p2.int_inv, hz, hc, q _ H2 (SameX.refl _) sm (RVok.imm rfl (Rep.of_str _))⟩)
    · rw [if_neg hz] at q
      exact q.elim
  · exact q.elim

/-! ### slices -/
def cutD (xs : List PyData) (lo hi : Option Int) : List PyData := (xs.drop (HT.sIx xs.length 0 lo)).take (HT.sIx xs.length xs.length hi - HT.sIx xs.length 0 lo)
structure DP (X : Cx) (e : Option Expr) (f : Env → M (Option Int)) : Prop where
  run : ∃ t, PO X e t ∧ ∀ (G : Gx) (S : Addr → Prop) (H : Hp) (env : Env) (σ : St) (os : Nat → List Addr) (b : Nat) (Q : Option Int → Hp → Prop), GOk G X → ER G S H env σ os → Stm H G.st b →
    (f env).all G.R (fun o b' => ∀ H', SameX G.st H H' → Stm H' G.st b' → Q o H') b → t σ H Q
def pNo (_ : Env) : M (Option Int) := .ret none
def pSome (f : Env → M RV) (env : Env) : M (Option Int) := f env >>= fun r => match r.d with
  | .int i => .ret (some i)
  | _ => .stuck
theorem dp_no : DP X none pNo := ⟨_, po_none, fun G S H env σ os b Q hK E sm h => h H (SameX.refl _) sm⟩
theorem dp_some (he : DE X e f) : DP X (some e) (pSome f) := by
  obtain ⟨t, ht, qt⟩ := he
  refine ⟨_, po_some ht, fun G S H env σ os b Q hK E sm h => ?_⟩
  unfold pSome at h
  rw [M.all_bind] at h
  refine qt G S H env σ os b _ hK E sm (M.all_mono (fun r b1 h1 v H1 x1 sm1 ok1 => ?_) _ _ h)
  obtain ⟨d1, l1, a1⟩ := r
  obtain ⟨f1, p1, z1⟩ := ok1
  cases d1 with
  | int i => exact ⟨i, p1.int_inv, h1 H1 x1 sm1⟩
  | _ => exact h1.elim
def oSl (r : RV) (lo hi : Option Int) : M RV := match r.d with
  | .list xs => .ret (mkL (cutD xs lo hi) r.al)
  | .tuple xs => .ret (mkT (cutD xs lo hi) r.al)
  | .str z => if z.length ≤ sizeLine then flat (.str (cutS z lo hi)) else .stuck
  | _ => .stuck
def evSl (f : Env → M RV) (p q : Env → M (Option Int)) (env : Env) : M RV := f env >>= fun r => p env >>= fun lo => q env >>= fun hi => oSl r lo hi
theorem Reps.cut {K : PySem.W.Frag} {st : StA} {H : Hp} {ds : List PyData} {vs : List V} {fp : List Addr} (lo hi : Option Int) (r : Reps K st H ds vs fp) : ∃ f, Reps K st H (cutD ds lo hi) (cutV vs lo hi) f ∧ ∀ c ∈ f, c ∈ fp := by
  unfold cutD cutV
  rw [r.length]
  obtain ⟨f1, r1, h1⟩ := Reps.drop (HT.sIx ds.length 0 lo) r
  obtain ⟨f2, r2, h2⟩ := Reps.take (HT.sIx ds.length ds.length hi - HT.sIx ds.length 0 lo) r1
  exact ⟨f2, r2, fun c hc => h1 c (h2 c hc)⟩
theorem cut_whole {xs : List PyData} {lo hi : Option Int} (h1 : HT.sIx xs.length 0 lo = 0) (h2 : HT.sIx xs.length xs.length hi = xs.length) : cutD xs lo hi = xs := by
  unfold cutD
  rw [h1, h2]; simp
theorem de_sl {lo hi : Option Expr} {p q : Env → M (Option Int)} {p2 : Pos} (he : DE X e f) (hl : DP X lo p) (hh : DP X hi q) : DE X (.Subscript e (.Slice lo hi none p2) pos) (evSl f p q) := by
  obtain ⟨t, ht, qt⟩ := he
  obtain ⟨tl, pl, ql⟩ := hl
  obtain ⟨th, ph, qh⟩ := hh
  refine ⟨_, pe_slice (SlR.or sl_list (SlR.or sl_tupF sl_str)) ht pl ph, fun G S H env σ os b Q hK E sm h => ?_⟩
  unfold evSl at h
  rw [M.all_bind] at h
  refine qt G S H env σ os b _ hK E sm (M.all_mono (fun r b1 h1 v H1 x1 sm1 ok1 => ?_) _ _ h)
  rw [M.all_bind] at h1
  refine ql G S H1 env σ os b1 _ hK (E.mono sm x1) sm1 (M.all_mono (fun l b2 h2 H2 x2 sm2 => ?_) _ _ h1)
  rw [M.all_bind] at h2
  have x12 := x1.trans x2
  refine qh G S H2 env σ os b2 _ hK (E.mono sm x12) sm2 (M.all_mono (fun u b3 h3 H3 x3 sm3 => ?_) _ _ h2)
  have x13 := x12.trans x3
  obtain ⟨d1, l1, a1⟩ := r
  obtain ⟨f1, p1, z1⟩ := (ok1.later sm1 x2).later sm2 x3
  have w1 := z1.shr
  unfold oSl at h3
  have h3' : ∀ r, (M.ret r).all G.R (Post X.K G.st S os H Q) b3 → ∀ v H', SameX G.st H3 H' → Stm H' G.st b3 → RVok X.K G.st S os H H' r v → Q v H' := fun r q v H' x' s' ok => q v H' (x13.trans x') s' ok
  split at h3
  · rename_i xs e1
    simp only at e1 p1 w1
    subst e1
    unfold Rep at p1
    obtain ⟨a, vs, g1, e1, hh1, n1, n2, r1, ef1⟩ := p1
    obtain ⟨fc, rc, hc⟩ := r1.cut l u
    exact .inl ⟨a, vs, e1, SqL.of hh1, new_list sm3 x13 rc (fun c h => w1 c (by rw [ef1]; exact List.mem_cons_of_mem _ (hc c h))) (h3' _ h3)⟩
  · rename_i xs e1
    simp only at e1 p1 w1
    subst e1
    unfold Rep at p1
    obtain ⟨a, vs, e1, hh1, r1⟩ := p1
    refine .inr (.inl ⟨a, vs, e1, hh1.sq, fun ⟨y1, y2⟩ => ?_, fun _ => ?_⟩)
    · rw [r1.length] at y1 y2
      rw [cut_whole y1 y2] at h3
      exact h3' _ h3 _ H3 (SameX.refl _) sm3 (RVok.mk (fp := f1) (by unfold Rep; exact ⟨a, vs, rfl, hh1, r1⟩) fun _ => w1)
    · obtain ⟨fc, rc, hc⟩ := r1.cut l u
      exact new_tup sm3 x13 rc (fun c h => w1 c (hc c h)) (h3' _ h3)
  · rename_i z e1
    simp only at e1 p1
    subst e1
    by_cases hz : z.length ≤ sizeLine
    · rw [if_pos hz] at h3
      exact .inr (.inr ⟨z, p1.str_inv, hz, h3' _ h3 _ H3 (SameX.refl _) sm3 (RVok.imm rfl (Rep.of_str _))⟩)
    · rw [if_neg hz] at h3
      exact h3.elim
  · exact h3.elim
end
end Vm

set_option Elab.async false
set_option linter.all false
set_option maxRecDepth 100000
namespace Vm
variable [TabsC]
variable {R : Exn → Nat → Prop}
open PySem L2

/-! ### lists of values -/
/-- no stream among them -/
def noStm : List RA → Option (List RV)
  | [] => some []
  | none :: _ => none
  | some r :: rs => (noStm rs).map (r :: ·)
theorem noStm_eq : ∀ {rs : List RA} {ys : List RV}, noStm rs = some ys → rs = ys.map some
  | [], ys, h => by simp [noStm] at h; subst h; rfl
  | none :: rs, ys, h => by simp [noStm] at h
  | some r :: rs, ys, h => by
    simp only [noStm] at h
    cases e : noStm rs with
    | none => rw [e] at h; cases h
    | some zs =>
      rw [e] at h
      have := (Option.some.inj h).symm
      subst this
      rw [noStm_eq e]; rfl
def als (rs : List RV) : List Nat := rs.flatMap (·.al)
def dsOf (rs : List RV) : List PyData := rs.map (·.d)
def allOwn (rs : List RV) : Bool := rs.all (fun r => decide (r.lv = .own)) && decide (als rs).Nodup
section
variable {K : PySem.W.Frag} {st : StA} {S : Addr → Prop} {os : Nat → List Addr} {H H2 : Hp} {b : Nat} {Q : VK}
theorem RAok.reps : ∀ {rs : List RV} {vs : List V} {fps : List (List Addr)}, RAok K st S os H H2 (rs.map some) vs fps → Reps K st H2 (dsOf rs) vs fps.flatten ∧ ∀ c ∈ fps.flatten, okc S os H (als rs) c
  | [], vs, fps, h => by
    obtain ⟨e1, e2⟩ := h
    subst e1 e2
    exact ⟨by unfold dsOf Reps; exact ⟨rfl, rfl⟩, fun c hc => by cases hc⟩
  | r :: rs, vs, fps, h => by
    obtain ⟨v, vr, fp, fr, e1, e2, h1, h2, h3, sp⟩ := h
    obtain ⟨q1, q2⟩ := RAok.reps h3
    subst e1 e2
    refine ⟨?_, fun c hc => ?_⟩
    · show Reps K st H2 (r.d :: dsOf rs) (v :: vr) (fp ++ fr.flatten)
      unfold Reps
      exact ⟨v, vr, fp, fr.flatten, rfl, h1, q1, rfl⟩
    · rcases List.mem_append.mp (show c ∈ fp ++ fr.flatten from hc) with hc | hc
      · exact (h2.shr c hc).al fun i hi => List.mem_append_left _ hi
      · exact (q2 c hc).al fun i hi => List.mem_append_right _ hi
theorem Sep.apart {r : RV} {fp : List Addr} (ho : r.lv = .own) : ∀ {rs : List RV} {fps : List (List Addr)}, Sep r fp (rs.map some) fps → (∀ r' ∈ rs, r'.lv = .own) → (∀ i ∈ r.al, i ∉ als rs) → rs.length = fps.length → ∀ c ∈ fp, c ∉ fps.flatten
  | [], fps, _, _, _, hl, c, _ => by
    have : fps = [] := List.eq_nil_of_length_eq_zero hl.symm
    rw [this]; simp
  | r' :: rs, [], _, _, _, hl, _, _ => by simp at hl
  | r' :: rs, fp' :: fps, h, h1, h2, hl, c, hc => by
    obtain ⟨a, b⟩ := h
    rw [List.flatten_cons, List.mem_append]
    rintro (q | q)
    · exact a ho (h1 r' List.mem_cons_self) (fun i hi hi' => h2 i hi (List.mem_append_left _ hi')) c hc q
    · exact Sep.apart ho b (fun x hx => h1 x (List.mem_cons_of_mem _ hx)) (fun i hi hi' => h2 i hi (List.mem_append_right _ hi')) (by simpa using hl) c hc q
theorem RAok.length : ∀ {rs : List RA} {vs : List V} {fps : List (List Addr)}, RAok K st S os H H2 rs vs fps → rs.length = fps.length ∧ vs.length = rs.length
  | [], _, _, h => by rw [h.1, h.2]; exact ⟨rfl, rfl⟩
  | none :: rs, _, _, h => by
    obtain ⟨vr, fr, e1, e2, h⟩ := h
    have := RAok.length h
    rw [e1, e2]; simp [this.1, this.2]
  | some r :: rs, _, _, h => by
    obtain ⟨v, vr, fp, fr, e1, e2, _, _, h, _⟩ := h
    have := RAok.length h
    rw [e1, e2]; simp [this.1, this.2]
theorem RAok.own : ∀ {rs : List RV} {vs : List V} {fps : List (List Addr)}, RAok K st S os H H2 (rs.map some) vs fps → (∀ r' ∈ rs, r'.lv = .own) → (als rs).Nodup → fps.flatten.Nodup ∧ ∀ c ∈ fps.flatten, oko os H (als rs) c
  | [], vs, fps, h, _, _ => by
    obtain ⟨e1, e2⟩ := h
    subst e1 e2
    exact ⟨List.nodup_nil, fun c hc => by cases hc⟩
  | r :: rs, vs, fps, h, ho, hn => by
    obtain ⟨v, vr, fp, fr, e1, e2, h1, h2, h3, sp⟩ := h
    have hn' : (r.al ++ als rs).Nodup := hn
    rw [List.nodup_append] at hn'
    obtain ⟨n1, n2, n3⟩ := hn'
    have ho' : ∀ r' ∈ rs, r'.lv = .own := fun x hx => ho x (List.mem_cons_of_mem _ hx)
    obtain ⟨q1, q2⟩ := RAok.own h3 ho' n2
    have hr : r.lv = .own := ho r List.mem_cons_self
    rw [hr] at h2
    subst e1 e2
    rw [List.flatten_cons]
    refine ⟨List.nodup_append.mpr ⟨h2.1, q1, fun c hc c' hc' e => ?_⟩, fun c hc => ?_⟩
    · subst e
      have hl := (RAok.length h3).1
      exact Sep.apart hr sp ho' (fun i hi hi' => n3 i hi i hi' rfl) (by simpa using hl) c hc hc'
    · rcases List.mem_append.mp hc with hc | hc
      · exact (h2.2 c hc).al fun i hi => List.mem_append_left _ hi
      · exact (q2 c hc).al fun i hi => List.mem_append_right _ hi
/-- a written list, a written tuple -/
def dispL (rs : List RV) : RV := if imms (dsOf rs) then ⟨.list (dsOf rs), .own, []⟩ else if allOwn rs then ⟨.list (dsOf rs), .own, als rs⟩ else ⟨.list (dsOf rs), .top, als rs⟩
def dispT (rs : List RV) : RV := if imms (dsOf rs) then ⟨.tuple (dsOf rs), .own, []⟩ else if allOwn rs then ⟨.tuple (dsOf rs), .own, als rs⟩ else ⟨.tuple (dsOf rs), .shr, als rs⟩
theorem dispL_ok {rs : List RV} {vs : List V} {fps : List (List Addr)} (sm : Stm H2 st b) (x : SameX st H H2) (r : RAok K st S os H H2 (rs.map some) vs fps) {p : Addr} (hp : H2 p = none) :
    RVok K st S os H (upd H2 p (.lst vs)) (dispL rs) (.ref p) := by
  obtain ⟨q1, q2⟩ := r.reps
  have nf : p ∉ fps.flatten := fun hc => by
    obtain ⟨⟨o, e⟩, _⟩ := q1.trk p hc
    rw [hp] at e; cases e
  have fr : H p = none := fresh_back sm x hp
  unfold dispL
  split
  · rename_i hi
    have e := q1.fp_imm hi
    rw [e] at q1
    exact ⟨[p], Rep.newL sm hp q1, by simp, fun c hc => .inl (by rw [show c = p by simpa using hc]; exact fr)⟩
  · split
    · rename_i _ ha
      unfold allOwn at ha
      simp only [Bool.and_eq_true, List.all_eq_true, decide_eq_true_eq] at ha
      obtain ⟨n1, n2⟩ := r.own ha.1 ha.2
      refine ⟨p :: fps.flatten, Rep.newL sm hp q1, List.nodup_cons.mpr ⟨nf, n1⟩, fun c hc => ?_⟩
      rcases List.mem_cons.mp hc with rfl | hc
      · exact .inl fr
      · exact n2 c hc
    · exact ⟨p :: fps.flatten, Rep.newL sm hp q1, p, _, rfl, nf, fr, q2⟩
theorem dispT_ok {rs : List RV} {vs : List V} {fps : List (List Addr)} (sm : Stm H2 st b) (x : SameX st H H2) (r : RAok K st S os H H2 (rs.map some) vs fps) {p : Addr} {o : Obj} (hp : H2 p = none) (ho : o.dict = none) :
    RVok K st S os H (upd H2 p (.frz o (.tup vs))) (dispT rs) (.ref p) := by
  obtain ⟨q1, q2⟩ := r.reps
  unfold dispT
  split
  · rename_i hi
    exact RVok.imm (by simpa [imm] using hi) (Rep.newT sm hp ho q1)
  · split
    · rename_i _ ha
      unfold allOwn at ha
      simp only [Bool.and_eq_true, List.all_eq_true, decide_eq_true_eq] at ha
      obtain ⟨n1, n2⟩ := r.own ha.1 ha.2
      exact ⟨fps.flatten, Rep.newT sm hp ho q1, n1, n2⟩
    · exact ⟨fps.flatten, Rep.newT sm hp ho q1, q2⟩
end
def vLst (g : Env → M (List RA)) (env : Env) : M RV := g env >>= fun rs => M.ofOption (noStm rs) >>= fun ys => if ys.length ≤ sizeLine then .ret (dispL ys) else .stuck
def vTup (g : Env → M (List RA)) (env : Env) : M RV := g env >>= fun rs => M.ofOption (noStm rs) >>= fun ys => if ys.length ≤ sizeLine then .ret (dispT ys) else .stuck
section
variable {X : Cx} {e e1 e2 e3 : Expr} {es rest : List Expr} {f k : Env → M RV} {g : Env → M (List RA)} {pos : Pos} {c d : Env → M Bool}
theorem de_lst (h : DA X es g) : DE X (.List es pos) (vLst g) := by
  obtain ⟨t, ht, qt⟩ := h
  refine ⟨_, pe_lst ht, fun G S H env σ os b Q hK E sm h => ?_⟩
  unfold vLst at h
  rw [M.all_bind] at h
  refine qt G S H env σ os b _ hK E sm (M.all_mono (fun rs b1 h1 vs H1 fps x1 sm1 ok1 => ?_) _ _ h)
  rw [M.all_bind] at h1
  obtain ⟨ys, hy, hh⟩ := M.all_ofOption.mp h1
  clear h1
  have ey := noStm_eq hy
  subst ey
  have h1 := hh
  have hl := (RAok.length ok1).2
  rw [List.length_map] at hl
  by_cases hs : ys.length ≤ sizeLine
  · rw [if_pos hs] at h1
    exact ⟨by rw [hl]; exact hs, fun p hp => h1 _ _ (x1.trans (SameX.new hp)) (sm1.new hp) (dispL_ok sm1 x1 ok1 hp)⟩
  · rw [if_neg hs] at h1
    exact h1.elim
theorem de_tup {kk} (h : DA X es g) : DE X (.Tuple es kk pos) (vTup g) := by
  obtain ⟨t, ht, qt⟩ := h
  refine ⟨_, pe_tupF ht, fun G S H env σ os b Q hK E sm h => ?_⟩
  unfold vTup at h
  rw [M.all_bind] at h
  refine qt G S H env σ os b _ hK E sm (M.all_mono (fun rs b1 h1 vs H1 fps x1 sm1 ok1 => ?_) _ _ h)
  rw [M.all_bind] at h1
  obtain ⟨ys, hy, hh⟩ := M.all_ofOption.mp h1
  clear h1
  have ey := noStm_eq hy
  subst ey
  have h1 := hh
  have hl := (RAok.length ok1).2
  rw [List.length_map] at hl
  by_cases hs : ys.length ≤ sizeLine
  · rw [if_pos hs] at h1
    exact ⟨by rw [hl]; exact hs, fun p o hp ho => h1 _ _ (x1.trans (SameX.new hp)) (sm1.new hp) (dispT_ok sm1 x1 ok1 hp ho)⟩
  · rw [if_neg hs] at h1
    exact h1.elim
/-! *xs within a display or a call -/
def spread (r : RV) : M (List RA) := match r.d with
  | .list xs => .ret (xs.map fun d => some (mkRV d .shr r.al))
  | .tuple xs => .ret (xs.map fun d => some (mkRV d .shr r.al))
  | _ => .stuck
def aStar (f : Env → M RV) (g : Env → M (List RA)) (env : Env) : M (List RA) := f env >>= fun r => spread r >>= fun xs => g env >>= fun rs => .ret (xs ++ rs)
theorem Sep.shr {d : PyData} {al : List Nat} {fp : List Addr} (h : imm d = true → fp = []) : ∀ (rs : List RA) (fps : List (List Addr)), Sep (mkRV d .shr al) fp rs fps
  | [], fps => by cases fps <;> exact True.intro
  | none :: rs, [] => True.intro
  | none :: rs, fp' :: fps => Sep.shr h rs fps
  | some r :: rs, [] => True.intro
  | some r :: rs, fp' :: fps => by
    refine ⟨fun ho _ _ c hc => ?_, Sep.shr h rs fps⟩
    unfold mkRV at ho
    cases hi : imm d with
    | true => rw [h hi] at hc; cases hc
    | false => rw [hi] at ho; cases ho
theorem spread_ok {K : PySem.W.Frag} {st : StA} {S : Addr → Prop} {os : Nat → List Addr} {H H2 : Hp} {al : List Nat} : ∀ {xs : List PyData} {vs : List V} {fp : List Addr} {rs : List RA} {us : List V} {fps : List (List Addr)}, Reps K st H2 xs vs fp → (∀ c ∈ fp, okc S os H al c) →
    RAok K st S os H H2 rs us fps → ∃ gps, RAok K st S os H H2 (xs.map (fun d => some (mkRV d .shr al)) ++ rs) (vs ++ us) gps
  | [], vs, fp, rs, us, fps, r, _, h => by
    unfold Reps at r
    rw [r.1]
    exact ⟨fps, h⟩
  | d :: xs, vs, fp, rs, us, fps, r, hf, h => by
    unfold Reps at r
    obtain ⟨v, vr, f1, f2, e1, h1, h2, ef⟩ := r
    obtain ⟨gps, q⟩ := spread_ok h2 (fun c hc => hf c (by rw [ef]; exact List.mem_append_right _ hc)) h
    rw [e1]
    refine ⟨f1 :: gps, v, vr ++ us, f1, gps, rfl, rfl, ?_, ?_, q, Sep.shr (fun hi => h1.fp_imm hi) _ _⟩
    · unfold mkRV; split <;> exact h1
    · unfold mkRV
      split
      · rename_i hi
        rw [h1.fp_imm hi]
        exact LvOk.nil (by intro h; cases h)
      · exact fun c hc => hf c (by rw [ef]; exact List.mem_append_left _ hc)
theorem da_star {p : Pos} (ha : DE X e f) (hr : DA X es g) (hs : starEach (.Starred e p :: es) X.env = (true, eval e X.env) :: starEach es X.env := by rfl) : DA X (.Starred e p :: es) (aStar f g) := by
  obtain ⟨t, ht, qt⟩ := ha
  obtain ⟨u, hu, qu⟩ := hr
  refine ⟨_, StX.pa_star ht hu hs, fun G S H env σ os b Q hK E sm h => ?_⟩
  unfold aStar at h
  rw [M.all_bind] at h
  refine qt G S H env σ os b _ hK E sm (M.all_mono (fun r b1 h1 v H1 x1 sm1 ok1 => ?_) _ _ h)
  rw [M.all_bind] at h1
  obtain ⟨d1, l1, a1⟩ := r
  obtain ⟨fp, r1, z1⟩ := ok1
  have w1 := z1.shr
  unfold spread at h1
  split at h1
  · rename_i xs e1
    simp only at e1 r1 w1
    subst e1
    have r1' := r1
    unfold Rep at r1
    obtain ⟨a, vs, g1, e1, hh1, n1, n2, q1, ef1⟩ := r1
    refine ⟨a, vs, e1, .inr (SqL.of hh1), ?_⟩
    rw [M.all_ret, M.all_bind] at h1
    refine qu G S H1 env σ os b1 _ hK (E.mono sm x1) sm1 (M.all_mono (fun rs b2 h2 us H2 fps x2 sm2 ok2 => ?_) _ _ h1)
    obtain ⟨gps, k⟩ := spread_ok (q1.sameX sm1 x2) (fun c hc => w1 c (by rw [ef1]; exact List.mem_cons_of_mem _ hc)) (ok2.back sm1 x1)
    exact h2 _ H2 gps (x1.trans x2) sm2 k
  · rename_i xs e1
    simp only at e1 r1 w1
    subst e1
    unfold Rep at r1
    obtain ⟨a, vs, e1, hh1, q1⟩ := r1
    refine ⟨a, vs, e1, .inl hh1.sq, ?_⟩
    rw [M.all_ret, M.all_bind] at h1
    refine qu G S H1 env σ os b1 _ hK (E.mono sm x1) sm1 (M.all_mono (fun rs b2 h2 us H2 fps x2 sm2 ok2 => ?_) _ _ h1)
    obtain ⟨gps, k⟩ := spread_ok (q1.sameX sm1 x2) w1 (ok2.back sm1 x1)
    exact h2 _ H2 gps (x1.trans x2) sm2 k
  · exact h1.elim

/-! ### calls of what Python brings -/
def OC (X : Cx) (fn : Value) (op : List RV → M RV) : Prop :=
  ∃ r : List V → Hp → VK → Prop, CallR X fn r ∧ ∀ (R : Exn → Nat → Prop) (st : StA) (S : Addr → Prop) (os : Nat → List Addr) (H H2 : Hp) (b : Nat) (vs : List V) (fps : List (List Addr)) (rs : List RV) (Q : VK), Stm H2 st b → SameX st H H2 →
    RAok X.K st S os H H2 (rs.map some) vs fps → (op rs).all R (fun r b' => ∀ v H', SameX st H2 H' → Stm H' st b' → RVok X.K st S os H H' r v → Q v H') b → r vs H2 Q
def vB (op : List RV → M RV) (g : Env → M (List RA)) (env : Env) : M RV := g env >>= fun rs => M.ofOption (noStm rs) >>= op
theorem callB_go {op : List RV → M RV} {t : TA} {r : List V → Hp → VK → Prop} {G : Gx} {S : Addr → Prop} {H : Hp} {env : Env} {σ : St} {os : Nat → List Addr} {b : Nat} {Q : VK}
    (h2 : ∀ (R : Exn → Nat → Prop) (st : StA) (S : Addr → Prop) (os : Nat → List Addr) (H H2 : Hp) (b : Nat) (vs : List V) (fps : List (List Addr)) (rs : List RV) (Q : VK), Stm H2 st b → SameX st H H2 →
      RAok X.K st S os H H2 (rs.map some) vs fps → (op rs).all R (fun r b' => ∀ v H', SameX st H2 H' → Stm H' st b' → RVok X.K st S os H H' r v → Q v H') b → r vs H2 Q)
    (qt : ∀ (G : Gx) (S : Addr → Prop) (H : Hp) (env : Env) (σ : St) (os : Nat → List Addr) (b : Nat) (Q : List V → Hp → Prop), GOk G X → ER G S H env σ os → Stm H G.st b →
      (g env).all G.R (fun rs b' => ∀ vs H' fps, SameX G.st H H' → Stm H' G.st b' → RAok X.K G.st S os H H' rs vs fps → Q vs H') b → t σ H Q)
    (hK : GOk G X) (E : ER G S H env σ os) (sm : Stm H G.st b) (h : (vB op g env).all G.R (Post X.K G.st S os H Q) b) : tCB r t σ H Q := by
  unfold vB at h
  rw [M.all_bind] at h
  refine qt G S H env σ os b _ hK E sm (M.all_mono (fun rs b1 h1 vs H1 fps x1 sm1 ok1 => ?_) _ _ h)
  rw [M.all_bind] at h1
  obtain ⟨ys, hy, hh⟩ := M.all_ofOption.mp h1
  clear h1
  have ey := noStm_eq hy
  subst ey
  have h1 := hh
  exact h2 G.R G.st S os H H1 b1 vs fps ys Q sm1 x1 ok1 (M.all_mono (fun r b' hr v H' x' sm' ok => hr v H' (x1.trans x') sm' ok) _ _ h1)
theorem de_callB {x : Str} {p : Pos} {id : String} {op : List RV → M RV} (hc : OC X (.builtin id) op) (hg : Gl X x) (hm : X.mg x = none) (hv : bootBuiltins x = some (.builtin id)) (ha : DA X (e :: es) g) (hn : x ≠ "__name__" := by decide) (hdb : (x == ("__debug__" : Str)) = false := by decide)
    (he : starEach (e :: es) X.env = (false, eval e X.env) :: starEach es X.env := by rfl) (hpl : (backTo pos (starEach es X.env)).any (·.1) = false := by rfl) : DE X (.Call (.Name x p) (e :: es) [] pos) (vB op g) := by
  obtain ⟨t, ht, qt⟩ := ha
  obtain ⟨r, h1, h2⟩ := hc
  exact ⟨_, pe_callB h1 hg hm hv ht hn hdb he hpl, fun G S H env σ os b Q hK E sm h => callB_go h2 qt hK E sm h⟩
theorem de_callTy {x : Str} {p : Pos} {id : String} {op : List RV → M RV} (hc : OC X (.type id) op) (hg : Gl X x) (hm : X.mg x = none) (hv : bootBuiltins x = some (.type id)) (ha : DA X (e :: es) g) (hn : x ≠ "__name__" := by decide) (hdb : (x == ("__debug__" : Str)) = false := by decide)
    (he : starEach (e :: es) X.env = (false, eval e X.env) :: starEach es X.env := by rfl) (hpl : (backTo pos (starEach es X.env)).any (·.1) = false := by rfl) : DE X (.Call (.Name x p) (e :: es) [] pos) (vB op g) := by
  obtain ⟨t, ht, qt⟩ := ha
  obtain ⟨r, h1, h2⟩ := hc
  exact ⟨_, pe_callTy h1 hg hm hv ht hn hdb he hpl, fun G S H env σ os b Q hK E sm h => callB_go h2 qt hK E sm h⟩
/-- one argument -/
theorem RAok.one {K : PySem.W.Frag} {st : StA} {S : Addr → Prop} {os : Nat → List Addr} {H H2 : Hp} {r : RV} {vs : List V} {fps : List (List Addr)} (h : RAok K st S os H H2 ([r].map some) vs fps) : ∃ v fp, vs = [v] ∧ Rep K st H2 r.d v fp ∧ LvOk S os H r.lv r.al fp := by
  obtain ⟨v, vr, fp, fr, e1, e2, h1, h2, h3, sp⟩ := h
  obtain ⟨z1, z2⟩ := h3
  subst z1 z2
  exact ⟨v, fp, e1, h1, h2⟩
theorem RAok.two {K : PySem.W.Frag} {st : StA} {S : Addr → Prop} {os : Nat → List Addr} {H H2 : Hp} {r r' : RV} {vs : List V} {fps : List (List Addr)} (h : RAok K st S os H H2 ([r, r'].map some) vs fps) :
    ∃ v v' fp fp', vs = [v, v'] ∧ Rep K st H2 r.d v fp ∧ LvOk S os H r.lv r.al fp ∧ Rep K st H2 r'.d v' fp' ∧ LvOk S os H r'.lv r'.al fp' := by
  obtain ⟨v, vr, fp, fr, e1, e2, h1, h2, h3, sp⟩ := h
  obtain ⟨v', vr', fp', fr', e1', e2', h1', h2', h3', sp'⟩ := h3
  obtain ⟨z1, z2⟩ := h3'
  subst z1 z2
  exact ⟨v, v', fp, fp', by rw [e1, e1'], h1, h2, h1', h2'⟩
def c1 (op : RV → M RV) (rs : List RV) : M RV := match rs with
  | [r] => op r
  | _ => .stuck
def c2 (op : RV → RV → M RV) (rs : List RV) : M RV := match rs with
  | [r, r'] => op r r'
  | _ => .stuck
/-! len, sum, all, any, abs, max, min, int, list, tuple -/
def bLen : List RV → M RV := c1 fun r => match r.d with
  | .list xs => flat (.int xs.length)
  | .tuple xs => flat (.int xs.length)
  | .str z => if z.length ≤ sizeLine then flat (.int z.length) else .stuck
  | _ => .stuck
theorem oc_len : OC X (.builtin "len") bLen := ⟨_, call_len, fun R st S os H H2 b vs fps rs Q sm sx ok q => by
  unfold bLen c1 at q
  split at q
  · rename_i r
    obtain ⟨v, fp, ev, r1, _⟩ := RAok.one ok
    dsimp only at q
    split at q
    · rename_i xs e1
      rw [e1] at r1
      unfold Rep at r1
      obtain ⟨a, us, g1, e1, h1, n1, n2, q1, ef1⟩ := r1
      exact ⟨v, us.length, ev, by rw [e1]; exact .inl ⟨us, SqL.of h1, rfl⟩, by rw [q1.length]; exact q _ H2 (SameX.refl _) sm (RVok.imm rfl (Rep.of_int _))⟩
    · rename_i xs e1
      rw [e1] at r1
      unfold Rep at r1
      obtain ⟨a, us, e1, h1, q1⟩ := r1
      exact ⟨v, us.length, ev, by rw [e1]; exact .inr ⟨us, h1.sq, rfl⟩, by rw [q1.length]; exact q _ H2 (SameX.refl _) sm (RVok.imm rfl (Rep.of_int _))⟩
    · rename_i z e1
      rw [e1] at r1
      split at q
      · rename_i hz
        exact ⟨v, z.length, ev, by rw [r1.str_inv]; exact ⟨hz, rfl⟩, q _ H2 (SameX.refl _) sm (RVok.imm rfl (Rep.of_int _))⟩
      · exact q.elim
    · exact q.elim
  · exact q.elim⟩
/-- the intsD of a list -/
def intsD : List PyData → Option (List Int)
  | [] => some []
  | .int i :: xs => (intsD xs).map (i :: ·)
  | _ :: _ => none
def boolsD : List PyData → Option (List Bool)
  | [] => some []
  | .bool i :: xs => (boolsD xs).map (i :: ·)
  | _ :: _ => none
theorem intsD_eq : ∀ {xs : List PyData} {ns : List Int}, intsD xs = some ns → xs = ns.map PyData.int
  | [], ns, h => by simp [intsD] at h; subst h; rfl
  | x :: xs, ns, h => by
    cases x with
    | int i =>
      simp only [intsD] at h
      cases e : intsD xs with
      | none => rw [e] at h; cases h
      | some zs =>
        rw [e] at h
        have := (Option.some.inj h).symm
        subst this
        rw [intsD_eq e]; rfl
    | _ => cases h
theorem boolsD_eq : ∀ {xs : List PyData} {ns : List Bool}, boolsD xs = some ns → xs = ns.map PyData.bool
  | [], ns, h => by simp [boolsD] at h; subst h; rfl
  | x :: xs, ns, h => by
    cases x with
    | bool i =>
      simp only [boolsD] at h
      cases e : boolsD xs with
      | none => rw [e] at h; cases h
      | some zs =>
        rw [e] at h
        have := (Option.some.inj h).symm
        subst this
        rw [boolsD_eq e]; rfl
    | _ => cases h
@[simp] theorem intsD_map (ns : List Int) : intsD (ns.map PyData.int) = some ns := by
  induction ns with
  | nil => rfl
  | cons n ns ih => simp [intsD, ih]
@[simp] theorem boolsD_map (ns : List Bool) : boolsD (ns.map PyData.bool) = some ns := by
  induction ns with
  | nil => rfl
  | cons n ns ih => simp [boolsD, ih]
theorem Reps.intsV {K : PySem.W.Frag} {st : StA} {H : Hp} : ∀ {ns : List Int} {vs : List V} {fp : List Addr}, Reps K st H (ns.map PyData.int) vs fp → vs = ns.map V.int
  | [], vs, fp, r => by unfold List.map Reps at r; exact r.1
  | n :: ns, vs, fp, r => by
    unfold List.map Reps at r
    obtain ⟨v, vr, f1, f2, e1, h1, h2, ef⟩ := r
    rw [e1, h1.int_inv, Reps.intsV h2]; rfl
theorem Reps.boolsV {K : PySem.W.Frag} {st : StA} {H : Hp} : ∀ {ns : List Bool} {vs : List V} {fp : List Addr}, Reps K st H (ns.map PyData.bool) vs fp → vs = ns.map V.bl
  | [], vs, fp, r => by unfold List.map Reps at r; exact r.1
  | n :: ns, vs, fp, r => by
    unfold List.map Reps at r
    obtain ⟨v, vr, f1, f2, e1, h1, h2, ef⟩ := r
    rw [e1, h1.bool_inv, Reps.boolsV h2]; rfl
theorem Reps.of_ints {K : PySem.W.Frag} {st : StA} {H : Hp} : ∀ (ns : List Int), Reps K st H (ns.map PyData.int) (ns.map V.int) []
  | [] => by unfold List.map Reps; exact ⟨rfl, rfl⟩
  | n :: ns => by
    show Reps K st H (PyData.int n :: ns.map PyData.int) (V.int n :: ns.map V.int) []
    unfold Reps
    exact ⟨_, _, [], [], rfl, Rep.of_int n, Reps.of_ints ns, rfl⟩
/-- a list of intsD in, by what is told of them -/
def bI (g : List Int → M RV) : List RV → M RV := c1 fun r => match r.d with
  | .list xs => M.ofOption (intsD xs) >>= g
  | _ => .stuck
theorem bI_ok {gg : List Int → M RV} {K : PySem.W.Frag} {st : StA} {S : Addr → Prop} {os : Nat → List Addr} {H H2 : Hp} {b : Nat} {vs : List V} {fps : List (List Addr)} {rs : List RV} {P : RV → Nat → Prop}
    (ok : RAok K st S os H H2 (rs.map some) vs fps) (q : (bI gg rs).all R P b) : ∃ a ns, vs = [.ref a] ∧ SqL K H2 a (ns.map V.int) ∧ (gg ns).all R P b := by
  unfold bI c1 at q
  split at q
  · rename_i r
    obtain ⟨v, fp, ev, r1, _⟩ := RAok.one ok
    dsimp only at q
    split at q
    · rename_i xs e1
      rw [e1] at r1
      rw [M.all_bind] at q
      obtain ⟨ns, hn, hh⟩ := M.all_ofOption.mp q
      clear q
      have := intsD_eq hn
      subst this
      have q := hh
      unfold Rep at r1
      obtain ⟨a, us, g1, e1, h1, n1, n2, q1, ef1⟩ := r1
      exact ⟨a, ns, by rw [ev, e1], SqL.of (by rw [h1, q1.intsV]), q⟩
    · exact q.elim
  · exact q.elim
def bSum : List RV → M RV := bI fun ns => flat (.int ns.sum)
theorem oc_sum (hc : X.calm = true := by rfl) : OC X (.builtin "sum") bSum := ⟨_, cr_sum hc, fun R st S os H H2 b vs fps rs Q sm sx ok q => by
  obtain ⟨a, ns, ev, h, q⟩ := bI_ok ok q
  exact ⟨a, ns, ev, h, q _ H2 (SameX.refl _) sm (RVok.imm rfl (Rep.of_int _))⟩⟩
/-- the greatest, the least of intsD -/
def maxI : List Int → Option Int
  | [] => none
  | [x] => some x
  | x :: xs => (maxI xs).map (max x)
def minI : List Int → Option Int
  | [] => none
  | [x] => some x
  | x :: xs => (minI xs).map (min x)
theorem maxI_is : ∀ {ns : List Int} {m : Int}, maxI ns = some m → m ∈ ns ∧ ∀ y ∈ ns, y ≤ m
  | [], m, h => by cases h
  | [x], m, h => by
    have := Option.some.inj h
    subst this
    simp
  | x :: y :: xs, m, h => by
    simp only [maxI] at h
    cases e : maxI (y :: xs) with
    | none => rw [e] at h; cases h
    | some z =>
      have e' := e
      rw [e] at h
      have hm : max x z = m := Option.some.inj h
      obtain ⟨h1, h2⟩ := maxI_is e'
      refine ⟨?_, fun w hw => ?_⟩
      · rcases Int.le_total x z with hl | hl
        · rw [← hm, Int.max_eq_right hl]; exact List.mem_cons_of_mem _ h1
        · rw [← hm, Int.max_eq_left hl]; exact List.mem_cons_self
      · rcases List.mem_cons.mp hw with rfl | hw
        · omega
        · have := h2 w hw; omega
theorem minI_is : ∀ {ns : List Int} {m : Int}, minI ns = some m → m ∈ ns ∧ ∀ y ∈ ns, m ≤ y
  | [], m, h => by cases h
  | [x], m, h => by
    have := Option.some.inj h
    subst this
    simp
  | x :: y :: xs, m, h => by
    simp only [minI] at h
    cases e : minI (y :: xs) with
    | none => rw [e] at h; cases h
    | some z =>
      have e' := e
      rw [e] at h
      have hm : min x z = m := Option.some.inj h
      obtain ⟨h1, h2⟩ := minI_is e'
      refine ⟨?_, fun w hw => ?_⟩
      · rcases Int.le_total x z with hl | hl
        · rw [← hm, Int.min_eq_left hl]; exact List.mem_cons_self
        · rw [← hm, Int.min_eq_right hl]; exact List.mem_cons_of_mem _ h1
      · rcases List.mem_cons.mp hw with rfl | hw
        · omega
        · have := h2 w hw; omega
def bMax1 : List RV → M RV := bI fun ns => M.ofOption (maxI ns) >>= fun m => flat (.int m)
def bMin1 : List RV → M RV := bI fun ns => M.ofOption (minI ns) >>= fun m => flat (.int m)
theorem oc_max1 (hc : X.calm = true := by rfl) : OC X (.builtin "max") bMax1 := ⟨_, cr_max hc, fun R st S os H H2 b vs fps rs Q sm sx ok q => by
  obtain ⟨a, ns, ev, h, q⟩ := bI_ok ok q
  rw [M.all_bind] at q
  obtain ⟨m, hm, q⟩ := M.all_ofOption.mp q
  obtain ⟨h1, h2⟩ := maxI_is hm
  refine ⟨a, ns, ev, h, List.length_pos_of_mem h1, fun m' hm' hy => ?_⟩
  have e : m' = m := Int.le_antisymm (h2 m' hm') (hy m h1)
  rw [e]
  exact q _ H2 (SameX.refl _) sm (RVok.imm rfl (Rep.of_int _))⟩
theorem oc_min1 (hc : X.calm = true := by rfl) : OC X (.builtin "min") bMin1 := ⟨_, cr_min hc, fun R st S os H H2 b vs fps rs Q sm sx ok q => by
  obtain ⟨a, ns, ev, h, q⟩ := bI_ok ok q
  rw [M.all_bind] at q
  obtain ⟨m, hm, q⟩ := M.all_ofOption.mp q
  obtain ⟨h1, h2⟩ := minI_is hm
  refine ⟨a, ns, ev, h, List.length_pos_of_mem h1, fun m' hm' hy => ?_⟩
  have e : m' = m := Int.le_antisymm (hy m h1) (h2 m' hm')
  rw [e]
  exact q _ H2 (SameX.refl _) sm (RVok.imm rfl (Rep.of_int _))⟩
def i2 (g : Int → Int → Int) : List RV → M RV := c2 fun r r' => match r.d, r'.d with
  | .int i, .int j => flat (.int (g i j))
  | _, _ => .stuck
theorem i2_ok {gg : Int → Int → Int} {K : PySem.W.Frag} {st : StA} {S : Addr → Prop} {os : Nat → List Addr} {H H2 : Hp} {b : Nat} {vs : List V} {fps : List (List Addr)} {rs : List RV} {P : RV → Nat → Prop}
    (ok : RAok K st S os H H2 (rs.map some) vs fps) (q : (i2 gg rs).all R P b) : ∃ i j, vs = [.int i, .int j] ∧ (flat (.int (gg i j))).all R P b := by
  unfold i2 c2 at q
  split at q
  · rename_i r r'
    obtain ⟨v, v', fp, fp', ev, r1, _, r2, _⟩ := RAok.two ok
    dsimp only at q
    split at q
    · rename_i i j e1 e2
      rw [e1] at r1
      rw [e2] at r2
      exact ⟨i, j, by rw [ev, r1.int_inv, r2.int_inv], q⟩
    · exact q.elim
  · exact q.elim
def bMax2 : List RV → M RV := i2 fun i j => if j > i then j else i
def bMin2 : List RV → M RV := i2 fun i j => if j < i then j else i
theorem oc_max2 (hc : X.calm = true := by rfl) : OC X (.builtin "max") bMax2 := ⟨_, call_max2 hc, fun R st S os H H2 b vs fps rs Q sm sx ok q => by
  obtain ⟨i, j, ev, q⟩ := i2_ok ok q
  exact ⟨i, j, ev, q _ H2 (SameX.refl _) sm (RVok.imm rfl (Rep.of_int _))⟩⟩
theorem oc_min2 (hc : X.calm = true := by rfl) : OC X (.builtin "min") bMin2 := ⟨_, call_min2 hc, fun R st S os H H2 b vs fps rs Q sm sx ok q => by
  obtain ⟨i, j, ev, q⟩ := i2_ok ok q
  exact ⟨i, j, ev, q _ H2 (SameX.refl _) sm (RVok.imm rfl (Rep.of_int _))⟩⟩
def bBools (g : List Bool → Bool) : List RV → M RV := c1 fun r => match r.d with
  | .list xs => M.ofOption (boolsD xs) >>= fun bs => flat (.bool (g bs))
  | _ => .stuck
theorem bBools_ok {gg : List Bool → Bool} {K : PySem.W.Frag} {st : StA} {S : Addr → Prop} {os : Nat → List Addr} {H H2 : Hp} {b : Nat} {vs : List V} {fps : List (List Addr)} {rs : List RV} {P : RV → Nat → Prop}
    (ok : RAok K st S os H H2 (rs.map some) vs fps) (q : (bBools gg rs).all R P b) : ∃ a bs, vs = [.ref a] ∧ SqL K H2 a (bs.map V.bl) ∧ (flat (.bool (gg bs))).all R P b := by
  unfold bBools c1 at q
  split at q
  · rename_i r
    obtain ⟨v, fp, ev, r1, _⟩ := RAok.one ok
    dsimp only at q
    split at q
    · rename_i xs e1
      rw [e1] at r1
      rw [M.all_bind] at q
      obtain ⟨ns, hn, hh⟩ := M.all_ofOption.mp q
      clear q
      have := boolsD_eq hn
      subst this
      have q := hh
      unfold Rep at r1
      obtain ⟨a, us, g1, e1, h1, n1, n2, q1, ef1⟩ := r1
      exact ⟨a, ns, by rw [ev, e1], SqL.of (by rw [h1, q1.boolsV]), q⟩
    · exact q.elim
  · exact q.elim
def bAll : List RV → M RV := bBools (·.all id)
def bAny : List RV → M RV := bBools (·.any id)
theorem oc_all (hc : X.calm = true := by rfl) : OC X (.builtin "all") bAll := ⟨_, cr_all hc, fun R st S os H H2 b vs fps rs Q sm sx ok q => by
  obtain ⟨a, bs, ev, h, q⟩ := bBools_ok ok q
  exact ⟨a, bs, ev, h, q _ H2 (SameX.refl _) sm (RVok.imm rfl (Rep.of_bool _))⟩⟩
theorem oc_any (hc : X.calm = true := by rfl) : OC X (.builtin "any") bAny := ⟨_, cr_any hc, fun R st S os H H2 b vs fps rs Q sm sx ok q => by
  obtain ⟨a, bs, ev, h, q⟩ := bBools_ok ok q
  exact ⟨a, bs, ev, h, q _ H2 (SameX.refl _) sm (RVok.imm rfl (Rep.of_bool _))⟩⟩
def bAbs : List RV → M RV := c1 fun r => match r.d with
  | .int i => flat (.int (if i < 0 then -i else i))
  | _ => .stuck
theorem oc_abs : OC X (.builtin "abs") bAbs := ⟨_, call_abs, fun R st S os H H2 b vs fps rs Q sm sx ok q => by
  unfold bAbs c1 at q
  split at q
  · rename_i r
    obtain ⟨v, fp, ev, r1, _⟩ := RAok.one ok
    dsimp only at q
    split at q
    · rename_i i e1
      rw [e1] at r1
      exact ⟨i, by rw [ev, r1.int_inv], q _ H2 (SameX.refl _) sm (RVok.imm rfl (Rep.of_int _))⟩
    · exact q.elim
  · exact q.elim⟩
def bInt : List RV → M RV := c1 fun r => match r.d with
  | .int i => flat (.int i)
  | .bool k => flat (.int (if k = true then 1 else 0))
  | _ => .stuck
theorem oc_int : OC X (.type "int") bInt := ⟨_, call_int1, fun R st S os H H2 b vs fps rs Q sm sx ok q => by
  unfold bInt c1 at q
  split at q
  · rename_i r
    obtain ⟨v, fp, ev, r1, _⟩ := RAok.one ok
    dsimp only at q
    split at q
    · rename_i i e1
      rw [e1] at r1
      exact .inl ⟨i, by rw [ev, r1.int_inv], q _ H2 (SameX.refl _) sm (RVok.imm rfl (Rep.of_int _))⟩
    · rename_i i e1
      rw [e1] at r1
      exact .inr ⟨i, by rw [ev, r1.bool_inv], q _ H2 (SameX.refl _) sm (RVok.imm rfl (Rep.of_int _))⟩
    · exact q.elim
  · exact q.elim⟩
def bList : List RV → M RV := c1 fun r => match r.d with
  | .list xs => .ret (mkL xs r.al)
  | .tuple xs => .ret (mkL xs r.al)
  | _ => .stuck
theorem oc_list : OC X (.type "list") bList := ⟨_, call_list_of, fun R st S os H H2 b vs fps rs Q sm sx ok q => by
  unfold bList c1 at q
  split at q
  · rename_i r
    obtain ⟨v, fp, ev, r1, z1⟩ := RAok.one ok
    have w1 := z1.shr
    dsimp only at q
    split at q
    · rename_i xs e1
      rw [e1] at r1
      unfold Rep at r1
      obtain ⟨a, us, g1, e1, h1, n1, n2, q1, ef1⟩ := r1
      exact ⟨a, us, by rw [ev, e1], .inl (SqL.of h1), new_list sm sx q1 (fun c hc => w1 c (by rw [ef1]; exact List.mem_cons_of_mem _ hc)) q⟩
    · rename_i xs e1
      rw [e1] at r1
      unfold Rep at r1
      obtain ⟨a, us, e1, h1, q1⟩ := r1
      exact ⟨a, us, by rw [ev, e1], .inr h1.sq, new_list sm sx q1 w1 q⟩
    · exact q.elim
  · exact q.elim⟩
def bTuple : List RV → M RV := c1 fun r => match r.d with
  | .list xs => .ret (if r.lv = .own then mkRV (.tuple xs) .own r.al else mkT xs r.al)
  | .tuple xs => .ret (if r.lv = .own then mkRV (.tuple xs) .own r.al else mkT xs r.al)
  | _ => .stuck
theorem oc_tuple : OC X (.type "tuple") bTuple := ⟨_, call_tuple_ofF, fun R st S os H H2 b vs fps rs Q sm sx ok q => by
  unfold bTuple c1 at q
  split at q
  · rename_i r
    obtain ⟨v, fp, ev, r1, z1⟩ := RAok.one ok
    have w1 := z1.shr
    dsimp only at q
    split at q
    · rename_i xs e1
      rw [e1] at r1
      unfold Rep at r1
      obtain ⟨a, us, g1, e1, h1, n1, n2, q1, ef1⟩ := r1
      by_cases ho : r.lv = .own
      · rw [if_pos ho] at q
        rw [ho, ef1] at z1
        refine ⟨a, us, by rw [ev, e1], .inl ⟨SqL.of h1, fun p o hp hd => ?_⟩⟩
        exact q _ _ (SameX.new hp) (sm.new hp) (RVok.mk (Rep.newT sm hp hd q1) fun _ => ⟨(List.nodup_cons.mp z1.1).2, fun c hc => z1.2 c (List.mem_cons_of_mem _ hc)⟩)
      · rw [if_neg ho] at q
        exact ⟨a, us, by rw [ev, e1], .inl ⟨SqL.of h1, new_tup sm sx q1 (fun c hc => w1 c (by rw [ef1]; exact List.mem_cons_of_mem _ hc)) q⟩⟩
    · rename_i xs e1
      rw [e1] at r1
      have r1' := r1
      unfold Rep at r1
      obtain ⟨a, us, e1, h1, q1⟩ := r1
      refine ⟨a, us, by rw [ev, e1], .inr ⟨h1.sq, ?_⟩⟩
      rw [e1] at r1'
      by_cases ho : r.lv = .own
      · rw [if_pos ho] at q
        rw [ho] at z1
        exact q _ H2 (SameX.refl _) sm (RVok.mk r1' fun _ => z1)
      · rw [if_neg ho] at q
        exact q _ H2 (SameX.refl _) sm (RVok.mk r1' fun _ => w1)
    · exact q.elim
  · exact q.elim⟩
theorem OC.or {fn : Value} {op op' : List RV → M RV} (h : OC X fn op) (h' : OC X fn op') : OC X fn (fun rs => orElse (op rs) (op' rs)) := by
  obtain ⟨r, h1, h2⟩ := h
  obtain ⟨r', h1', h2'⟩ := h'
  refine ⟨fun xs H Q => r xs H Q ∨ r' xs H Q, ?_, fun R st S os H H2 b vs fps rs Q sm sx ok q => ?_⟩
  · intro pins s σ H xs us Q I rv q
    rcases q with q | q
    · exact h1 pins s σ H xs us Q I rv q
    · exact h1' pins s σ H xs us Q I rv q
  · cases e : op rs with
    | stuck =>
      simp only [e, orElse] at q
      exact .inr (h2' R st S os H H2 b vs fps rs Q sm sx ok q)
    | ret a =>
      simp only [e, orElse] at q
      exact .inl (h2 R st S os H H2 b vs fps rs Q sm sx ok (by rw [e]; exact q))
    | raise xn =>
      simp only [e, orElse] at q
      exact .inl (h2 R st S os H H2 b vs fps rs Q sm sx ok (by rw [e]; exact q))
    | draw n k =>
      simp only [e, orElse] at q
      exact .inl (h2 R st S os H H2 b vs fps rs Q sm sx ok (by rw [e]; exact q))
/-! isinstance -/
/-- the type's name -/
def tyN : PyData → String
  | .none => "NoneType"
  | .bool _ => "bool"
  | .int _ => "int"
  | .str _ => "str"
  | .list _ => "list"
  | .tuple _ => "tuple"
  | .dict _ => "dict"
theorem Rep.tyX {K : PySem.W.Frag} {st : StA} {H : Hp} {d : PyData} {v : V} {fp : List Addr} (r : Rep K st H d v fp) : TyX K H v (.type (tyN d)) := by
  cases d with
  | none => rw [r.none_inv]; exact .base .non
  | bool _ => rw [r.bool_inv]; exact .base (.bl _)
  | int _ => rw [r.int_inv]; exact .base (.int _)
  | str _ => rw [r.str_inv]; exact .base (.str _)
  | list _ =>
    unfold Rep at r
    obtain ⟨a, us, g1, e1, h1, _⟩ := r
    rw [e1]; exact .base (.lst h1)
  | tuple _ =>
    unfold Rep at r
    obtain ⟨a, us, e1, h1, _⟩ := r
    rw [e1]
    rcases h1 with ⟨o, h1, _⟩ | ⟨o, its, n, h1, h2, _⟩
    · exact .fTuple h1
    · exact .kTuple h1 h2
  | dict _ =>
    unfold Rep at r
    obtain ⟨a, ks, us, g1, e1, h1, _⟩ := r
    rw [e1]
    rcases h1 with ⟨kvs, h1, _⟩ | ⟨kvs, h1, _⟩
    · exact .base (.dK h1)
    · exact .base (.dT h1)
/-- a class's answers at each of the seven kinds -/
structure IsiT (K : PySem.W.Frag) (T : String) (p : String → Bool) : Prop where
  at_ : ∀ d : PyData, PySem.W.kitOne K (.type (tyN d)) (.type T) = some (p (tyN d))
def vIsi (p : String → Bool) (f : Env → M RV) (env : Env) : M RV := f env >>= fun r => flat (.bool (p (tyN r.d)))
theorem de_isi {x T : Str} {p1 p2 : Pos} {n : String} {p : String → Bool} (hT : IsiT X.K n p) (hg : Gl X "isinstance") (hm : X.mg "isinstance" = none) (hg2 : Gl X T) (hm2 : X.mg T = none) (hv2 : bootBuiltins T = some (.type n)) (he : DE X e f)
    (hst : starEach [e, .Name T p2] X.env = (false, eval e X.env) :: starEach [.Name T p2] X.env := by rfl) (hn : T ≠ "__name__" := by decide) (hdb : (T == ("__debug__" : Str)) = false := by decide) :
    DE X (.Call (.Name "isinstance" p1) [e, .Name T p2] [] pos) (vIsi p f) := by
  obtain ⟨t, ht, qt⟩ := he
  refine ⟨_, pe_callB call_isi hg hm (by decide +kernel) (pa_cons ht (pa_cons (pe_bltn (v := .ty n) hg2 hm2 hv2 rfl hn hdb) pa_nil) hst) (by decide) (by decide) hst, fun G S H env σ os b Q hK E sm h => ?_⟩
  unfold vIsi at h
  rw [M.all_bind] at h
  refine qt G S H env σ os b _ hK E sm (M.all_mono (fun r b1 h1 v H1 x1 sm1 ok1 => ?_) _ _ h)
  obtain ⟨fp, r1, _⟩ := ok1
  exact ⟨v, .ty n, .type (tyN r.d), .type n, _, rfl, .ty n, r1.tyX, hT.at_ r.d, h1 _ H1 x1 sm1 (RVok.imm rfl (Rep.of_bool _))⟩
theorem de_isi2 {x T T' : Str} {p1 p2 p3 p4 : Pos} {kk : Nat} {n n' : String} {p : String → Bool} (hT : ∀ d : PyData, PySem.W.kitAny X.K (.type (tyN d)) [.type n, .type n'] = some (p (tyN d))) (hg : Gl X "isinstance") (hm : X.mg "isinstance" = none) (hg2 : Gl X T) (hm2 : X.mg T = none) (hv2 : bootBuiltins T = some (.type n))
    (hg3 : Gl X T') (hm3 : X.mg T' = none) (hv3 : bootBuiltins T' = some (.type n')) (he : DE X e f)
    (hst : starEach [e, .Tuple [.Name T p2, .Name T' p3] kk p4] X.env = (false, eval e X.env) :: starEach [.Tuple [.Name T p2, .Name T' p3] kk p4] X.env := by rfl)
    (hn : T ≠ "__name__" := by decide) (hdb : (T == ("__debug__" : Str)) = false := by decide) (hn' : T' ≠ "__name__" := by decide) (hdb' : (T' == ("__debug__" : Str)) = false := by decide) :
    DE X (.Call (.Name "isinstance" p1) [e, .Tuple [.Name T p2, .Name T' p3] kk p4] [] pos) (vIsi p f) := by
  obtain ⟨t, ht, qt⟩ := he
  refine ⟨_, pe_callB call_isiT hg hm (by decide +kernel) (pa_cons ht (pa_cons (pe_tup (pa_cons (pe_bltn (v := .ty n) hg2 hm2 hv2 rfl hn hdb) (pa_cons (pe_bltn (v := .ty n') hg3 hm3 hv3 rfl hn' hdb') pa_nil))) pa_nil) hst) (by decide) (by decide) hst, fun G S H env σ os b Q hK E sm h => ?_⟩
  unfold vIsi at h
  rw [M.all_bind] at h
  refine qt G S H env σ os b _ hK E sm (M.all_mono (fun r b1 h1 v H1 x1 sm1 ok1 => ?_) _ _ h)
  obtain ⟨fp, r1, _⟩ := ok1
  refine ⟨by show 2 ≤ sizeLine; decide, fun tp htp => ?_⟩
  have xx := SameX.new (st := G.st) (o := HO.tup [V.ty n, V.ty n']) htp
  exact ⟨v, tp, [.ty n, .ty n'], .type (tyN r.d), [.type n, .type n'], _, rfl, upd_same, .cons (.ty n) (.cons (.ty n') .nil), (r1.sameX sm1 xx).tyX, hT r.d, h1 _ _ (x1.trans xx) (sm1.new htp) (RVok.imm rfl (Rep.of_bool _))⟩
end
end Vm

set_option Elab.async false
set_option linter.all false
set_option maxRecDepth 100000
namespace Vm
variable [TabsC]
variable {R : Exn → Nat → Prop}
open PySem L2

/-! ### what a loop leans on -/
structure KpD (Dep : Addr → Prop) (H H' : Hp) : Prop where
  dep : ∀ a o, Dep a → H a = some o → H' a = some o
  tup : ∀ a xs, H a = some (.tup xs) → H' a = some (.tup xs)
  frz : ∀ a o u, H a = some (.frz o u) → H' a = some (.frz o u)
theorem KpD.refl {Dep : Addr → Prop} (H : Hp) : KpD Dep H H := ⟨fun _ _ _ e => e, fun _ _ e => e, fun _ _ _ e => e⟩
theorem KpD.trans {Dep : Addr → Prop} {H H1 H2 : Hp} (x : KpD Dep H H1) (y : KpD Dep H1 H2) : KpD Dep H H2 :=
  ⟨fun a o d e => y.dep a o d (x.dep a o d e), fun a xs e => y.tup a xs (x.tup a xs e), fun a o u e => y.frz a o u (x.frz a o u e)⟩
theorem KpD.of_all {Dep : Addr → Prop} {H H' : Hp} (h : ∀ a o, H a = some o → H' a = some o) : KpD Dep H H' := ⟨fun a o _ e => h a o e, fun a xs e => h a _ e, fun a o u e => h a _ e⟩
theorem KpD.weak {Dep Dep' : Addr → Prop} {H H' : Hp} (x : KpD Dep H H') (h : ∀ a, Dep' a → Dep a) : KpD Dep' H H' := ⟨fun a o d e => x.dep a o (h a d) e, x.tup, x.frz⟩
theorem SameX.kp {st : StA} {H H' : Hp} {b : Nat} (sm : Stm H st b) (x : SameX st H H') {Dep : Addr → Prop} (hd : ∀ a, Dep a → a ≠ st.1 ∧ Off st a) : KpD Dep H H' :=
  ⟨fun a o d e => x a o (hd a d).1 (hd a d).2 e, fun a xs e => let ⟨h1, h2⟩ := sm.ne e (fun _ => by simp); x a _ h1 h2 e, fun a o u e => let ⟨h1, h2⟩ := sm.ne e (fun _ => by simp); x a _ h1 h2 e⟩
theorem STup.kp {K : PySem.W.Frag} {Dep : Addr → Prop} {H H' : Hp} (x : KpD Dep H H') {a : Addr} {xs : List V} (r : STup K H a xs) : STup K H' a xs := by
  rcases r with ⟨o, r, hd⟩ | r
  · exact .inl ⟨o, x.frz a o _ r, hd⟩
  · exact .inr r
mutual
theorem Rep.kp {K : PySem.W.Frag} {st : StA} {Dep : Addr → Prop} {H H' : Hp} (x : KpD Dep H H') : ∀ {d : PyData} {v : V} {fp : List Addr}, (∀ c ∈ fp, Dep c) → Rep K st H d v fp → Rep K st H' d v fp
  | .none, _, _, _, r => by unfold Rep at r ⊢; exact r
  | .bool _, _, _, _, r => by unfold Rep at r ⊢; exact r
  | .int _, _, _, _, r => by unfold Rep at r ⊢; exact r
  | .str _, _, _, _, r => by unfold Rep at r ⊢; exact r
  | .tuple ds, _, _, h, r => by
    unfold Rep at r ⊢
    obtain ⟨a, vs, e, ha, q⟩ := r
    exact ⟨a, vs, e, STup.kp x ha, Reps.kp x h q⟩
  | .list ds, _, _, h, r => by
    unfold Rep at r ⊢
    obtain ⟨a, vs, f, e, ha, n1, n2, q, ef⟩ := r
    exact ⟨a, vs, f, e, x.dep a _ (h a (by rw [ef]; exact List.mem_cons_self)) ha, n1, n2, Reps.kp x (fun c hc => h c (by rw [ef]; exact List.mem_cons_of_mem _ hc)) q, ef⟩
  | .dict kvs, _, _, h, r => by
    unfold Rep at r ⊢
    obtain ⟨a, ks, vs, f, e, ha, n1, n2, q, ef⟩ := r
    refine ⟨a, ks, vs, f, e, ?_, n1, n2, RepKs.kp x (fun c hc => h c (by rw [ef]; exact List.mem_cons_of_mem _ hc)) q, ef⟩
    have hd := h a (by rw [ef]; exact List.mem_cons_self)
    rcases ha with ⟨k, ha, z⟩ | ⟨k, ha, z⟩
    · exact .inl ⟨k, x.dep a _ hd ha, z⟩
    · exact .inr ⟨k, x.dep a _ hd ha, z⟩
theorem Reps.kp {K : PySem.W.Frag} {st : StA} {Dep : Addr → Prop} {H H' : Hp} (x : KpD Dep H H') : ∀ {ds : List PyData} {vs : List V} {fp : List Addr}, (∀ c ∈ fp, Dep c) → Reps K st H ds vs fp → Reps K st H' ds vs fp
  | [], _, _, _, r => by unfold Reps at r ⊢; exact r
  | d :: ds, _, _, h, r => by
    unfold Reps at r ⊢
    obtain ⟨v, vr, f1, f2, e, h1, h2, ef⟩ := r
    exact ⟨v, vr, f1, f2, e, Rep.kp x (fun c hc => h c (by rw [ef]; exact List.mem_append_left _ hc)) h1, Reps.kp x (fun c hc => h c (by rw [ef]; exact List.mem_append_right _ hc)) h2, ef⟩
theorem RepKs.kp {K : PySem.W.Frag} {st : StA} {Dep : Addr → Prop} {H H' : Hp} (x : KpD Dep H H') : ∀ {kvs : List (PyData × PyData)} {ks : List PyData} {vs : List V} {fp : List Addr}, (∀ c ∈ fp, Dep c) → RepKs K st H kvs ks vs fp → RepKs K st H' kvs ks vs fp
  | [], _, _, _, _, r => by unfold RepKs at r ⊢; exact r
  | (k, d) :: kvs, _, _, _, h, r => by
    unfold RepKs at r ⊢
    obtain ⟨kr, v, vr, f1, f2, e, e', h1, h2, ef⟩ := r
    exact ⟨kr, v, vr, f1, f2, e, e', Rep.kp x (fun c hc => h c (by rw [ef]; exact List.mem_append_left _ hc)) h1, RepKs.kp x (fun c hc => h c (by rw [ef]; exact List.mem_append_right _ hc)) h2, ef⟩
end

/-! ### the frame's state, changed -/
theorem val_wipe (σ : St) : ∀ (vs : List Nat) (i : Nat), val (wipe σ vs) i = if i ∈ vs then none else val σ i
  | [], i => by simp [wipe]
  | v :: vs, i => by
    unfold wipe
    rw [val_set, val_wipe σ vs i]
    by_cases h : v = i
    · subst h; simp
    · have h' : ¬ i = v := fun e => h e.symm
      simp [h, h']
/-- some slots are frozen; what they had, and what stands in F, is to be read only from here on -/
theorem ER.freeze {G : Gx} {S F : Addr → Prop} {H : Hp} {env : Env} {σ : St} {os : Nat → List Addr} (E : ER G S H env σ os) (l : List Nat)
    (hF : ∀ c, F c → (∃ o, H c = some o) ∧ c ≠ G.st.1 ∧ Off G.st c ∧ (S c ∨ G.H0 c = none) ∧ ∀ i, i ∉ l → c ∉ os i) :
    ER G (fun c => S c ∨ F c ∨ ∃ i ∈ l, c ∈ os i) H (frz env l) σ (fun i => if i ∈ l then [] else os i) where
  len := by rw [frz_length]; exact E.len
  at_ := fun i => by
    have h := E.at_ i
    rw [sl_frz]
    by_cases hi : i ∈ l
    · rw [if_pos hi]
      simp only [hi, if_true]
      match e : sl env i, h with
      | none, h => exact rfl
      | some .stm, h => exact ⟨h.1, rfl⟩
      | some (.dat d lv), h =>
        obtain ⟨u, fp, e1, r, q⟩ := h
        refine ⟨u, fp, e1, r, rfl, fun c hc => ?_⟩
        cases lv with
        | shr => exact .inl (q.2 c hc)
        | top =>
          obtain ⟨a, f, e2, e3, n, hf⟩ := q
          rw [e2] at hc
          rcases List.mem_cons.mp hc with rfl | hc
          · exact .inr (.inr ⟨i, hi, by rw [e3]; exact List.mem_cons_self⟩)
          · exact .inl (hf c hc)
        | own => exact .inr (.inr ⟨i, hi, by rw [q.1]; exact hc⟩)
    · rw [if_neg hi]
      simp only [hi, if_false]
      match e : sl env i, h with
      | none, h => exact h
      | some .stm, h => exact h
      | some (.dat d lv), h =>
        obtain ⟨u, fp, e1, r, q⟩ := h
        refine ⟨u, fp, e1, r, ?_⟩
        cases lv with
        | shr => exact ⟨q.1, fun c hc => .inl (q.2 c hc)⟩
        | top =>
          obtain ⟨a, f, e2, e3, n, hf⟩ := q
          exact ⟨a, f, e2, e3, n, fun c hc => .inl (hf c hc)⟩
        | own => exact q
  dj := fun i j c hij hi hj => by
    by_cases h1 : i ∈ l
    · simp only [h1, if_true] at hi; cases hi
    · by_cases h2 : j ∈ l
      · simp only [h2, if_true] at hj; cases hj
      · simp only [h1, h2, if_false] at hi hj
        exact E.dj i j c hij hi hj
  ns := fun i c hi hs => by
    by_cases h1 : i ∈ l
    · simp only [h1, if_true] at hi; cases hi
    · simp only [h1, if_false] at hi
      rcases hs with hs | hs | ⟨j, hj, hs⟩
      · exact E.ns i c hi hs
      · exact (hF c hs).2.2.2.2 i h1 hi
      · exact E.dj i j c (fun e => h1 (e ▸ hj)) hi hs
  fr := fun i c hi => by
    by_cases h1 : i ∈ l
    · simp only [h1, if_true] at hi; cases hi
    · simp only [h1, if_false] at hi
      exact E.fr i c hi
  sub := fun c hs => by
    rcases hs with hs | hs | ⟨j, hj, hs⟩
    · exact E.sub c hs
    · rcases (hF c hs).2.2.2.1 with z | z
      · exact E.sub c z
      · exact .inr z
    · exact .inr (E.fr j c hs)
  trk := fun c hs => by
    rcases hs with hs | hs | ⟨j, hj, hs⟩
    · exact E.trk c hs
    · exact ⟨(hF c hs).1, (hF c hs).2.1, (hF c hs).2.2.1⟩
    · exact E.own_trk hs
  same := E.same
/-- slots forgotten -/
theorem ER.drop {G : Gx} {S : Addr → Prop} {H : Hp} {env : Env} {σ σ' : St} {os : Nat → List Addr} (E : ER G S H env σ os) (l : List Nat) (hl : σ'.length = σ.length) (hv : ∀ i, i ∉ l → val σ' i = val σ i) :
    ER G S H (kill env l) σ' (fun i => if i ∈ l then [] else os i) where
  len := by rw [kill_length, hl]; exact E.len
  at_ := fun i => by
    rw [sl_kill]
    by_cases hi : i ∈ l
    · simp only [hi, if_true]; exact rfl
    · simp only [hi, if_false]; rw [hv i hi]; exact E.at_ i
  dj := fun i j c hij hi hj => by
    by_cases h1 : i ∈ l
    · simp only [h1, if_true] at hi; cases hi
    · by_cases h2 : j ∈ l
      · simp only [h2, if_true] at hj; cases hj
      · simp only [h1, h2, if_false] at hi hj
        exact E.dj i j c hij hi hj
  ns := fun i c hi => by
    by_cases h1 : i ∈ l
    · simp only [h1, if_true] at hi; cases hi
    · simp only [h1, if_false] at hi; exact E.ns i c hi
  fr := fun i c hi => by
    by_cases h1 : i ∈ l
    · simp only [h1, if_true] at hi; cases hi
    · simp only [h1, if_false] at hi; exact E.fr i c hi
  sub := E.sub
  trk := E.trk
  same := E.same
/-- a value that may go into a slot -/
def Free (G : Gx) (S : Addr → Prop) (os : Nat → List Addr) (lv : Lv) (fp : List Addr) : Prop :=
  match lv with
  | .shr => ∀ c ∈ fp, S c
  | .top => ∃ a f, fp = a :: f ∧ a ∉ f ∧ (∀ c ∈ f, S c) ∧ ¬ S a ∧ (∀ i, a ∉ os i) ∧ G.H0 a = none
  | .own => fp.Nodup ∧ ∀ c ∈ fp, ¬ S c ∧ (∀ i, c ∉ os i) ∧ G.H0 c = none
def ownOf (lv : Lv) (fp : List Addr) : List Addr := match lv with
  | .shr => []
  | .top => fp.take 1
  | .own => fp
theorem Free.own {G : Gx} {S : Addr → Prop} {os : Nat → List Addr} {lv : Lv} {fp : List Addr} (h : Free G S os lv fp) : ∀ c ∈ ownOf lv fp, ¬ S c ∧ (∀ i, c ∉ os i) ∧ G.H0 c = none := by
  cases lv with
  | shr => intro c hc; cases hc
  | top =>
    obtain ⟨a, f, e, n, hs, h1, h2, h3⟩ := h
    rw [e]
    intro c hc
    have : c = a := by simpa [ownOf] using hc
    subst this
    exact ⟨h1, h2, h3⟩
  | own => exact fun c hc => h.2 c hc
theorem ER.set {G : Gx} {S : Addr → Prop} {H : Hp} {env : Env} {σ : St} {os : Nat → List Addr} (E : ER G S H env σ os) {i : Nat} {d : PyData} {lv : Lv} {v : V} {fp : List Addr} (hi : i < env.length) (r : Rep G.K G.st H d v fp) (fr : Free G S os lv fp) :
    ER G S H (env.set i (some (.dat d lv))) (σ.set i (some v)) (fun j => if j = i then ownOf lv fp else os j) where
  len := by simp [E.len]
  at_ := fun j => by
    rw [sl_set, val_set]
    by_cases h : i = j
    · subst h
      have hs : i < σ.length := by rw [← E.len]; exact hi
      simp only [if_true, hi, hs]
      refine ⟨v, fp, rfl, r, ?_⟩
      cases lv with
      | shr => exact ⟨rfl, fr⟩
      | top =>
        obtain ⟨a, f, e, n, h1, _⟩ := fr
        exact ⟨a, f, e, by rw [e]; rfl, n, h1⟩
      | own => exact ⟨rfl, fr.1⟩
    · have h' : ¬ j = i := fun e => h e.symm
      simp only [h, h', if_false]
      exact E.at_ j
  dj := fun j k c hjk hj hk => by
    by_cases h1 : j = i
    · by_cases h2 : k = i
      · exact hjk (h1.trans h2.symm)
      · simp only [h1, h2, if_true, if_false] at hj hk
        exact (fr.own c hj).2.1 k hk
    · by_cases h2 : k = i
      · simp only [h1, h2, if_true, if_false] at hj hk
        exact (fr.own c hk).2.1 j hj
      · simp only [h1, h2, if_false] at hj hk
        exact E.dj j k c hjk hj hk
  ns := fun j c hj => by
    by_cases h1 : j = i
    · simp only [h1, if_true] at hj; exact (fr.own c hj).1
    · simp only [h1, if_false] at hj; exact E.ns j c hj
  fr := fun j c hj => by
    by_cases h1 : j = i
    · simp only [h1, if_true] at hj; exact (fr.own c hj).2.2
    · simp only [h1, if_false] at hj; exact E.fr j c hj
  sub := E.sub
  trk := E.trk
  same := E.same

/-! ### targets -/
def TgPost (G : Gx) (S : Addr → Prop) (H : Hp) (env' : Env) (σ : St) (os : Nat → List Addr) (ws : List Nat) (o : List Addr) (Q : St → Hp → Prop) : Prop :=
  ∀ σ' os', ER G S H env' σ' os' → (∀ vs, (∀ w ∈ ws, w ∈ vs) → wipe σ' vs = wipe σ vs) → (∀ i c, c ∈ os' i → c ∈ os i ∨ c ∈ o) → Q σ' H
/-- ws: the slots that it stores -/
structure DG (X : Cx) (tg : Expr) (ws : List Nat) (f : Lv → PyData → Env → Option Env) : Prop where
  run : ∃ g, PG X tg g ∧ ∀ (G : Gx) (S : Addr → Prop) (H : Hp) (env env' : Env) (σ : St) (os : Nat → List Addr) (lv : Lv) (d : PyData) (v : V) (fp : List Addr) (Q : St → Hp → Prop), GOk G X → ER G S H env σ os → Rep X.K G.st H d v fp → Free G S os lv fp →
    f lv d env = some env' → TgPost G S H env' σ os ws (ownOf lv fp) Q → g v σ H Q
structure DGs (X : Cx) (tgs : List Expr) (ws : List Nat) (f : Lv → List PyData → Env → Option Env) : Prop where
  run : ∃ g, PGs X tgs g ∧ ∀ (G : Gx) (S : Addr → Prop) (H : Hp) (env env' : Env) (σ : St) (os : Nat → List Addr) (lv : Lv) (ds : List PyData) (vs : List V) (fp : List Addr) (Q : St → Hp → Prop), GOk G X → lv ≠ .top → ER G S H env σ os → Reps X.K G.st H ds vs fp → Free G S os lv fp →
    f lv ds env = some env' → TgPost G S H env' σ os ws (ownOf lv fp) Q → g vs σ H Q
def tgName (i : Nat) (lv : Lv) (d : PyData) (env : Env) : Option Env := if i < env.length then some (env.set i (some (.dat d lv))) else none
def tgTup (n : Nat) (f : Lv → List PyData → Env → Option Env) (lv : Lv) (d : PyData) (env : Env) : Option Env := match d with
  | .tuple ds => if ds.length = n ∧ lv ≠ .top then f lv ds env else none
  | _ => none
def tgNil (_ : Lv) (ds : List PyData) (env : Env) : Option Env := match ds with
  | [] => some env
  | _ => none
def tgCons (f : Lv → PyData → Env → Option Env) (g : Lv → List PyData → Env → Option Env) (lv : Lv) (ds : List PyData) (env : Env) : Option Env := match ds with
  | d :: ds => (f lv d env).bind fun env' => g lv ds env'
  | [] => none
section
variable {X : Cx} {e : Expr} {es : List Expr} {pos : Pos} {ws ws' : List Nat} {f : Lv → PyData → Env → Option Env} {g : Lv → List PyData → Env → Option Env}
theorem wipe_set_in {σ : St} {i : Nat} {x : Option V} : ∀ {vs : List Nat}, i ∈ vs → wipe (σ.set i x) vs = wipe σ vs
  | v :: vs, h => by
    unfold wipe
    by_cases hi : i ∈ vs
    · rw [wipe_set_in hi]
    · have e : i = v := by
        rcases List.mem_cons.mp h with h | h
        · exact h
        · exact absurd h hi
      subst e
      have c : ∀ (vs : List Nat), i ∉ vs → wipe (σ.set i x) vs = (wipe σ vs).set i x := by
        intro vs
        induction vs with
        | nil => intro _; rfl
        | cons w vs ih =>
          intro hn
          unfold wipe
          rw [ih fun z => hn (List.mem_cons_of_mem _ z), List.set_comm _ _ fun z => hn (by rw [z]; exact List.mem_cons_self)]
      rw [c vs hi, List.set_set]
theorem dg_name {i : Nat} {x : Str} (hN : X.N.Nodup) (hi : X.N[i]? = some x) (hx : Loc X.env.scope x) (hf : X.fn x = true ∨ X.env.scope.names.lookup x = some .local := by first | exact .inl rfl | exact .inr rfl | assumption) : DG X (.Name x pos) [i] (tgName i) := by
  refine ⟨_, pg_name hN hi hx hf, fun G S H env env' σ os lv d v fp Q hK E r fr h q => ?_⟩
  unfold tgName at h
  by_cases hl : i < env.length
  · rw [if_pos hl] at h
    have e := Option.some.inj h
    subst e
    refine q _ _ (E.set hl (hK.K ▸ r) fr) (fun vs hv => wipe_set_in (hv i (by simp))) (fun j c hc => ?_)
    by_cases hj : j = i
    · simp only [hj, if_true] at hc; exact .inr hc
    · simp only [hj, if_false] at hc; exact .inl hc
  · rw [if_neg hl] at h
    cases h
theorem dgs_nil : DGs X [] [] tgNil := ⟨_, pgs_nil, fun G S H env env' σ os lv ds vs fp Q hK hl E r fr h q => by
  unfold tgNil at h
  split at h
  · have e := Option.some.inj h
    subst e
    unfold Reps at r
    exact ⟨r.1, q σ os E (fun _ _ => rfl) fun i c hc => .inl hc⟩
  · cases h⟩
theorem Free.left {G : Gx} {S : Addr → Prop} {os : Nat → List Addr} {lv : Lv} {f1 f2 : List Addr} (hl : lv ≠ .top) (h : Free G S os lv (f1 ++ f2)) : Free G S os lv f1 := by
  cases lv with
  | shr => exact fun c hc => h c (List.mem_append_left _ hc)
  | top => exact absurd rfl hl
  | own => exact ⟨(List.nodup_append.mp h.1).1, fun c hc => h.2 c (List.mem_append_left _ hc)⟩
theorem Free.right {G : Gx} {S : Addr → Prop} {os os' : Nat → List Addr} {lv : Lv} {f1 f2 : List Addr} (hl : lv ≠ .top) (h : Free G S os lv (f1 ++ f2)) (ho : ∀ i c, c ∈ os' i → c ∈ os i ∨ c ∈ ownOf lv f1) : Free G S os' lv f2 := by
  cases lv with
  | shr => exact fun c hc => h c (List.mem_append_right _ hc)
  | top => exact absurd rfl hl
  | own =>
    obtain ⟨n1, n2, n3⟩ := List.nodup_append.mp h.1
    refine ⟨n2, fun c hc => ?_⟩
    obtain ⟨h1, h2, h3⟩ := h.2 c (List.mem_append_right _ hc)
    refine ⟨h1, fun i hi => ?_, h3⟩
    rcases ho i c hi with z | z
    · exact h2 i z
    · exact n3 c z c hc rfl
theorem dgs_cons (h1 : DG X e ws f) (h2 : DGs X es ws' g) (hs : (assignEach (e :: es) X.env).map (·.2) = assign e X.env :: (assignEach es X.env).map (·.2) := by rfl) : DGs X (e :: es) (ws ++ ws') (tgCons f g) := by
  obtain ⟨t, ht, qt⟩ := h1
  obtain ⟨u, hu, qu⟩ := h2
  refine ⟨_, pgs_cons ht hu hs, fun G S H env env' σ os lv ds vs fp Q hK hl E r fr h q => ?_⟩
  unfold tgCons at h
  split at h
  · rename_i d ds'
    unfold Reps at r
    obtain ⟨v, vr, f1, f2, e1, r1, r2, ef⟩ := r
    subst ef
    cases e : f lv d env with
    | none => rw [e] at h; cases h
    | some env1 =>
      rw [e] at h
      refine ⟨v, vr, e1, qt G S H env env1 σ os lv d v f1 _ hK E r1 (fr.left hl) e fun σ1 os1 E1 w1 o1 => ?_⟩
      refine qu G S H env1 env' σ1 os1 lv ds' vr f2 Q hK hl E1 r2 (fr.right hl o1) h fun σ2 os2 E2 w2 o2 => ?_
      refine q σ2 os2 E2 (fun vs hv => (w2 vs fun w hw => hv w (List.mem_append_right _ hw)).trans (w1 vs fun w hw => hv w (List.mem_append_left _ hw))) fun i c hc => ?_
      have mo : ∀ {f f' : List Addr}, (∀ c ∈ f, c ∈ f') → ∀ c ∈ ownOf lv f, lv ≠ .top → c ∈ ownOf lv f' := fun s c hc hl => by
        cases lv with
        | shr => cases hc
        | top => exact absurd rfl hl
        | own => exact s c hc
      rcases o2 i c hc with z | z
      · rcases o1 i c z with z | z
        · exact .inl z
        · exact .inr (mo (fun c hc => List.mem_append_left _ hc) c z hl)
      · exact .inr (mo (fun c hc => List.mem_append_right _ hc) c z hl)
  · cases h
theorem dg_tup {k n : Nat} (hc : X.calm = true) (h : DGs X es ws g) (hn : (assignEach es X.env).length = n := by rfl) (hst : (assignEach es X.env).findIdx? (·.1) = none := by rfl) : DG X (.Tuple es k pos) ws (tgTup n g) := by
  obtain ⟨t, ht, qt⟩ := h
  refine ⟨_, pg_tup hc ht hn hst, fun G S H env env' σ os lv d v fp Q hK E r fr h q => ?_⟩
  unfold tgTup at h
  split at h
  · rename_i ds
    split at h
    · rename_i hh
      unfold Rep at r
      obtain ⟨a, vs, e1, ha, r1⟩ := r
      exact ⟨a, vs, e1, ha.sq, by rw [r1.length]; exact hh.1, qt G S H env env' σ os lv ds vs fp Q hK hh.2 E r1 fr h q⟩
    · cases h
  · cases h
end

/-! ### what is walked -/
structure ItOk (K : PySem.W.Frag) (st : StA) (J : It) (ds : List PyData) (Dep : Addr → Prop) (H1 : Hp) : Prop where
  go : ∀ H2 i, KpD Dep H1 H2 → i < ds.length → J.go i H2
  stop : ∀ H2, KpD Dep H1 H2 → J.stop ds.length H2
  yld : ∀ H2 i x H3, KpD Dep H1 H2 → i < ds.length → J.yld i H2 x H3 → Grow H2 H3 ∧ ∃ d f, ds[i]? = some d ∧ Rep K st H3 d x f ∧ ∀ c ∈ f, Dep c
/-- what is walked: its items, the slots that they hang on -/
structure DI (X : Cx) (tg iter : Expr) (f : Env → M (List PyData × List Nat)) : Prop where
  run : ∃ wi, PI X tg iter wi ∧ ∀ (G : Gx) (S : Addr → Prop) (H : Hp) (env : Env) (σ : St) (os : Nat → List Addr) (b : Nat) (R : It → Hp → Prop), GOk G X → ER G S H env σ os → Stm H G.st b →
    (f env).all G.R (fun p b' => ∀ J H1 Dep, SameX G.st H H1 → Stm H1 G.st b' → ItOk X.K G.st J p.1 Dep H1 → (∀ c, Dep c → okc S os H p.2 c ∧ (∃ o, H1 c = some o) ∧ c ≠ G.st.1 ∧ Off G.st c) → R J H1) b → wi σ H R
def iSeq (f : Env → M RV) (env : Env) : M (List PyData × List Nat) := f env >>= fun r => match r.d with
  | .list xs => .ret (xs, r.al)
  | .tuple xs => .ret (xs, r.al)
  | _ => .stuck
section
variable {X : Cx} {tg e e1 e2 : Expr} {es : List Expr} {pos : Pos} {f : Env → M RV} {g : Env → M (List RA)}
theorem itl_ok {K : PySem.W.Frag} {st : StA} {H1 : Hp} {a : Addr} {xs : List PyData} {vs : List V} {fp : List Addr} (h : H1 a = some (.lst vs)) (r : Reps K st H1 xs vs fp) : ItOk K st (Itl K a) xs (fun c => c ∈ a :: fp) H1 where
  go := fun H2 i k hi => by
    have hv : i < vs.length := by rw [r.length]; exact hi
    exact ⟨vs, vs[i], SqL.of (k.dep a _ List.mem_cons_self h), by simp [hv]⟩
  stop := fun H2 k => ⟨vs, SqL.of (k.dep a _ List.mem_cons_self h), by rw [r.length]; exact Nat.le_refl _⟩
  yld := fun H2 i x H3 k hi y => by
    obtain ⟨e, y⟩ := y
    subst e
    have hx := y vs (SqL.of (k.dep a _ List.mem_cons_self h))
    obtain ⟨v, f, h1, h2, h3⟩ := (r.kp k fun c hc => List.mem_cons_of_mem _ hc).get (i := i) (d := xs[i]) (by simp [hi])
    rw [h1] at hx
    have e := Option.some.inj hx
    subst e
    exact ⟨Grow.refl _, xs[i], f, by simp [hi], h2, fun c hc => List.mem_cons_of_mem _ (h3 c hc)⟩
theorem itt_ok {K : PySem.W.Frag} {st : StA} {H1 : Hp} {a : Addr} {xs : List PyData} {vs : List V} {fp : List Addr} (h : STup K H1 a vs) (r : Reps K st H1 xs vs fp) : ItOk K st (Itt K a) xs (fun c => c ∈ fp) H1 where
  go := fun H2 i k hi => by
    have hv : i < vs.length := by rw [r.length]; exact hi
    exact ⟨vs, vs[i], (STup.kp k h).sq, by simp [hv]⟩
  stop := fun H2 k => ⟨vs, (STup.kp k h).sq, by rw [r.length]; exact Nat.le_refl _⟩
  yld := fun H2 i x H3 k hi y => by
    obtain ⟨e, y⟩ := y
    subst e
    have hx := y vs ((STup.kp k h).sq)
    obtain ⟨v, f, h1, h2, h3⟩ := (r.kp k fun c hc => hc).get (i := i) (d := xs[i]) (by simp [hi])
    rw [h1] at hx
    have e := Option.some.inj hx
    subst e
    exact ⟨Grow.refl _, xs[i], f, by simp [hi], h2, h3⟩
/-- a list or a tuple -/
theorem pi_seq {l : Expr} {tl : TE} (hl : PE X l tl) : PI X tg l (fun σ H R => tl σ H fun x H1 => ∃ a, x = .ref a ∧ ((∃ xs, SqL X.K H1 a xs ∧ R (Itl X.K a) H1) ∨ ∃ xs, SqT X.K H1 a xs ∧ R (Itt X.K a) H1)) := by
  constructor
  intro pins s σ H R I h
  refine thn (hl.run pins s σ H _ I h) ?_
  rintro v s1 ⟨x, H1, I1, r1, a, e, q1⟩
  subst e; cases r1
  have new : ∀ {ob : Obj}, ob.cls ≠ .none → ∀ b ∈ [s1.heap.objs.size], FpOk X pins H1 b := fun _ b hb => by
    have e : b = s1.heap.objs.size := by simpa using hb
    subst e; exact I1.fpOk (Nat.le_refl _) (I1.hok.fresh (Nat.le_refl _))
  have all : ∀ b ∈ [s1.heap.objs.size], FpOk X pins H1 b := fun b hb => by
    have e : b = s1.heap.objs.size := by simpa using hb
    subst e; exact I1.fpOk (Nat.le_refl _) (I1.hok.fresh (Nat.le_refl _))
  rcases q1 with ⟨xs, hq, q⟩ | ⟨xs, hq, q⟩
  · obtain ⟨its, rv, p, hz⟩ := I1.list hq
    refine wpAny_pyIter_list p.isList ⟨_, [s1.heap.objs.size], _, _, H1, rfl, ?_, turn_list a _, ?_, all, q⟩
    · exact I1.kept (t' := s1.toks) fun b o e => Heap.get?_push_of_some _ e
    · exact ⟨_, Heap.get?_push_size _ rfl, rfl, rfl⟩
  · obtain ⟨its, rv, p, hz⟩ := I1.tuple hq
    refine wpAny_pyIter_tuple (show s1.heap.IsTuple a its.toArray from p) ⟨_, [s1.heap.objs.size], _, _, H1, rfl, ?_, turn_tuple a _, ?_, all, q⟩
    · exact I1.kept (t' := s1.toks) fun b o e => Heap.get?_push_of_some _ e
    · exact ⟨_, Heap.get?_push_size _ rfl, rfl, rfl⟩
theorem di_seq (he : DE X e f) : DI X tg e (iSeq f) := by
  obtain ⟨t, ht, qt⟩ := he
  refine ⟨_, pi_seq ht, fun G S H env σ os b R hK E sm h => ?_⟩
  unfold iSeq at h
  rw [M.all_bind] at h
  refine qt G S H env σ os b _ hK E sm (M.all_mono (fun r b1 h1 v H1 x1 sm1 ok1 => ?_) _ _ h)
  obtain ⟨fp, r1, z1⟩ := ok1
  have w1 := z1.shr
  have tr := r1.trk
  split at h1
  · rename_i xs e1
    rw [e1] at r1
    unfold Rep at r1
    obtain ⟨a, vs, g1, e1, hh1, n1, n2, q1, ef1⟩ := r1
    rw [ef1] at w1 tr
    exact ⟨a, e1, .inl ⟨vs, SqL.of hh1, h1 _ H1 _ x1 sm1 (itl_ok hh1 q1) fun c hc => ⟨w1 c hc, tr c hc⟩⟩⟩
  · rename_i xs e1
    rw [e1] at r1
    unfold Rep at r1
    obtain ⟨a, vs, e1, hh1, q1⟩ := r1
    exact ⟨a, e1, .inr ⟨vs, hh1.sq, h1 _ H1 _ x1 sm1 (itt_ok hh1 q1) fun c hc => ⟨w1 c hc, tr c hc⟩⟩⟩
  · exact h1.elim
/-! range -/
def rng (lo : Int) (n : Nat) : List PyData := (List.range n).map fun (i : Nat) => .int (lo + (i : Int))
theorem itr_ok {K : PySem.W.Frag} {st : StA} {H1 : Hp} {lo : Int} {n : Nat} : ItOk K st (Itr lo n) (rng lo n) (fun _ => False) H1 where
  go := fun H2 i k hi => by show i < n; simpa [rng] using hi
  stop := fun H2 k => by show n ≤ _; simp [rng]
  yld := fun H2 i x H3 k hi y => by
    obtain ⟨e, y⟩ := y
    subst e y
    have hi' : i < n := by simpa [rng] using hi
    exact ⟨Grow.refl _, .int (lo + (i : Int)), [], by simp [rng, hi'], Rep.of_int _, fun c hc => by cases hc⟩
def iRange1 (g : Env → M (List RA)) (env : Env) : M (List PyData × List Nat) := g env >>= fun rs => match rs with
  | [some r] => (match r.d with
    | .int j => if sm62 j then .ret (rng 0 j.toNat, []) else .stuck
    | _ => .stuck)
  | _ => .stuck
def iRange2 (g : Env → M (List RA)) (env : Env) : M (List PyData × List Nat) := g env >>= fun rs => match rs with
  | [some r, some r'] => (match r.d, r'.d with
    | .int i, .int j => if sm62 i && sm62 j then .ret (rng i (j - i).toNat, []) else .stuck
    | _, _ => .stuck)
  | _ => .stuck
theorem di_range1 {p : Pos} (hg : Gl X "range") (hm : X.mg "range" = none) (ha : DA X [e] g) (hs : starEach [e] X.env = [(false, eval e X.env)] := by rfl) : DI X tg (.Call (.Name "range" p) [e] [] pos) (iRange1 g) := by
  obtain ⟨t, ht, qt⟩ := ha
  refine ⟨_, pi_range1 hg hm ht hs, fun G S H env σ os b R hK E sm h => ?_⟩
  unfold iRange1 at h
  rw [M.all_bind] at h
  refine qt G S H env σ os b _ hK E sm (M.all_mono (fun rs b1 h1 vs H1 fps x1 sm1 ok1 => ?_) _ _ h)
  split at h1
  · rename_i r
    obtain ⟨v, fp, ev, r1, z1⟩ := RAok.one (r := r) ok1
    split at h1
    · rename_i j e1
      rw [e1] at r1
      split at h1
      · rename_i hc
        exact ⟨j, by rw [ev, r1.int_inv], (sm62_ok hc).1, (sm62_ok hc).2, h1 _ H1 _ x1 sm1 itr_ok fun c hc => hc.elim⟩
      · exact h1.elim
    · exact h1.elim
  · exact h1.elim
theorem di_range2 {p : Pos} (hg : Gl X "range") (hm : X.mg "range" = none) (ha : DA X [e1, e2] g) (hs : starEach [e1, e2] X.env = [(false, eval e1 X.env), (false, eval e2 X.env)] := by rfl) (hs2 : starEach [e2] X.env = [(false, eval e2 X.env)] := by rfl) : DI X tg (.Call (.Name "range" p) [e1, e2] [] pos) (iRange2 g) := by
  obtain ⟨t, ht, qt⟩ := ha
  refine ⟨_, pi_range2 hg hm ht hs hs2, fun G S H env σ os b R hK E sm h => ?_⟩
  unfold iRange2 at h
  rw [M.all_bind] at h
  refine qt G S H env σ os b _ hK E sm (M.all_mono (fun rs b1 h1 vs H1 fps x1 sm1 ok1 => ?_) _ _ h)
  split at h1
  · rename_i r r'
    obtain ⟨v, v', fp, fp', ev, r1, _, r2, _⟩ := RAok.two (r := r) (r' := r') ok1
    split at h1
    · rename_i i j e1 e2
      rw [e1] at r1
      rw [e2] at r2
      split at h1
      · rename_i hc
        simp only [Bool.and_eq_true] at hc
        exact ⟨i, j, by rw [ev, r1.int_inv, r2.int_inv], ⟨(sm62_ok hc.1).1, (sm62_ok hc.1).2, (sm62_ok hc.2).1, (sm62_ok hc.2).2⟩, h1 _ H1 _ x1 sm1 itr_ok fun c hc => hc.elim⟩
      · exact h1.elim
    · exact h1.elim
  · exact h1.elim
end
end Vm

set_option Elab.async false
set_option linter.all false
set_option maxRecDepth 100000
namespace Vm
variable [TabsC]
variable {R : Exn → Nat → Prop}
open PySem L2

/-! ### the judgements' own readings -/
def tOf (K : PySem.W.Frag) (f : Env → M RV) : TE := fun σ H Q => ∃ (G : Gx) (S : Addr → Prop) (env : Env) (os : Nat → List Addr) (b : Nat), GC G K ∧ ER G S H env σ os ∧ Stm H G.st b ∧ (f env).all G.R (Post K G.st S os H Q) b
def ttOf (K : PySem.W.Frag) (f : Env → M Bool) : TT := fun σ H Q => ∃ (G : Gx) (S : Addr → Prop) (env : Env) (os : Nat → List Addr) (b : Nat), GC G K ∧ ER G S H env σ os ∧ Stm H G.st b ∧ (f env).all G.R (fun c b' => ∀ H', SameX G.st H H' → Stm H' G.st b' → Q c H') b
def gOf (K : PySem.W.Frag) (ws : List Nat) (f : Lv → PyData → Env → Option Env) : TG := fun v σ H Q => ∃ (G : Gx) (S : Addr → Prop) (env env' : Env) (os : Nat → List Addr) (lv : Lv) (d : PyData) (fp : List Addr), GC G K ∧ ER G S H env σ os ∧ Rep K G.st H d v fp ∧ Free G S os lv fp ∧
  f lv d env = some env' ∧ TgPost G S H env' σ os ws (ownOf lv fp) Q
section
variable {X : Cx} {e : Expr} {f : Env → M RV} {c : Env → M Bool} {ws : List Nat} {h : Lv → PyData → Env → Option Env}
theorem DE.pe (h : DE X e f) : PE X e (tOf X.K f) := by
  obtain ⟨t, ht, qt⟩ := h
  exact ⟨fun pins s σ H Q I ⟨G, S, env, os, b, hK, E, sm, q⟩ => ht.run pins s σ H Q I (qt G S H env σ os b Q hK.ok E sm q)⟩
theorem DT.pt (h : DT X e c) : PT X e (ttOf X.K c) := by
  obtain ⟨t, ht, qt⟩ := h
  exact ⟨fun pins s σ H Q I ⟨G, S, env, os, b, hK, E, sm, q⟩ => ht.run pins s σ H Q I (qt G S H env σ os b Q hK.ok E sm q)⟩
theorem DG.pg (k : DG X e ws h) : PG X e (gOf X.K ws h) := by
  obtain ⟨t, ht, qt⟩ := k
  exact ⟨fun pins s σ H v u Q I r ⟨G, S, env, env', os, lv, d, fp, hK, E, rp, fr, e, q⟩ => ht.run pins s σ H v u Q I r (qt G S H env env' σ os lv d v fp Q hK.ok E rp fr e q)⟩
/-- the tests of a comprehension -/
structure DTs (X : Cx) (ifs : List Expr) (f : Env → M Bool) : Prop where
  run : PTs X ifs (ttOf X.K f)
def cYes (_ : Env) : M Bool := .ret true
theorem dts_nil : DTs X [] cYes := ⟨⟨fun pins s σ H Q I ⟨G, S, env, os, b, hK, E, sm, q⟩ => (pts_nil (X := X)).run pins s σ H Q I (q H (SameX.refl _) sm)⟩⟩
theorem dts_one (h : DT X e c) : DTs X [e] c := ⟨pts_one h.pt⟩
end

/-! ### a list of one's own is changed -/
theorem kp_upd {H : Hp} {D : Addr} {o : HO} (hD : H D = none ∨ (∃ us, H D = some (.lst us)) ∨ (∃ kvs, H D = some (.dK kvs)) ∨ ∃ kvs, H D = some (.dT kvs)) : KpD (fun a => a ≠ D) H (upd H D o) := by
  refine ⟨fun a u d e => by rw [upd_ne d]; exact e, fun a xs e => ?_, fun a u v e => ?_⟩
  · have n : a ≠ D := by
      rintro rfl
      rcases hD with z | ⟨us, z⟩ | ⟨us, z⟩ | ⟨us, z⟩ <;> (rw [z] at e; cases e)
    rw [upd_ne n]; exact e
  · have n : a ≠ D := by
      rintro rfl
      rcases hD with z | ⟨us, z⟩ | ⟨us, z⟩ | ⟨us, z⟩ <;> (rw [z] at e; cases e)
    rw [upd_ne n]; exact e
theorem SlOk.fp_sub {K : PySem.W.Frag} {st : StA} {S : Addr → Prop} {H : Hp} {d : PyData} {lv : Lv} {v : Option V} {o : List Addr} (h : SlOk K st S H (some (.dat d lv)) v o) : ∃ u fp, v = some u ∧ Rep K st H d u fp ∧ ∀ c ∈ fp, c ∈ o ∨ S c := by
  obtain ⟨u, fp, e, r, q⟩ := h
  refine ⟨u, fp, e, r, fun c hc => ?_⟩
  cases lv with
  | shr => exact .inr (q.2 c hc)
  | top =>
    obtain ⟨a, f, e2, e3, n, hf⟩ := q
    rw [e2] at hc
    rcases List.mem_cons.mp hc with rfl | hc
    · exact .inl (by rw [e3]; exact List.mem_cons_self)
    · exact .inr (hf c hc)
  | own => exact .inl (by rw [q.1]; exact hc)
theorem SlOk.kp {K : PySem.W.Frag} {st : StA} {S Dep : Addr → Prop} {H H' : Hp} {s : Option Sl} {v : Option V} {o : List Addr} (x : KpD Dep H H') (h : SlOk K st S H s v o) (hd : ∀ c, c ∈ o ∨ S c → Dep c) : SlOk K st S H' s v o := by
  match s, h with
  | none, h => exact h
  | some .stm, h => exact h
  | some (.dat d lv), h =>
    have h' := h.fp_sub
    obtain ⟨u, fp, e, r, q⟩ := h
    obtain ⟨u', fp', e', r', q'⟩ := h'
    refine ⟨u, fp, e, Rep.kp x (fun c hc => ?_) r, q⟩
    apply hd
    cases lv with
    | shr => exact .inr (q.2 c hc)
    | top =>
      obtain ⟨a, f, e2, e3, n, hf⟩ := q
      rw [e2] at hc
      rcases List.mem_cons.mp hc with rfl | hc
      · exact .inl (by rw [e3]; exact List.mem_cons_self)
      · exact .inr (hf c hc)
    | own => exact .inl (by rw [q.1]; exact hc)
theorem ER.updL {G : Gx} {S : Addr → Prop} {H : Hp} {env : Env} {σ : St} {os : Nat → List Addr} (E : ER G S H env σ os) {D : Addr} {o : HO} (hD : H D = none ∨ (∃ us, H D = some (.lst us)) ∨ (∃ kvs, H D = some (.dK kvs)) ∨ ∃ kvs, H D = some (.dT kvs))
    (h1 : ¬ S D) (h2 : ∀ i, D ∉ os i) (h3 : G.H0 D = none) : ER G S (upd H D o) env σ os where
  len := E.len
  at_ := fun i => (E.at_ i).kp (kp_upd hD) fun c hc e => by
    subst e
    rcases hc with hc | hc
    · exact h2 i hc
    · exact h1 hc
  dj := E.dj
  ns := E.ns
  fr := E.fr
  sub := E.sub
  trk := fun c hc => by
    obtain ⟨⟨u, e⟩, n⟩ := E.trk c hc
    exact ⟨⟨u, by rw [upd_ne (fun z => h1 (by rw [← z]; exact hc))]; exact e⟩, n⟩
  same := fun a u n1 n2 e => by
    have := E.same a u n1 n2 e
    rw [upd_ne (fun z => by rw [z, h3] at e; cases e)]
    exact this
theorem Stm.updL {H : Hp} {st : StA} {b : Nat} (sm : Stm H st b) {D : Addr} {o : HO} (hD : H D = none ∨ (∃ us, H D = some (.lst us)) ∨ (∃ kvs, H D = some (.dK kvs)) ∨ ∃ kvs, H D = some (.dT kvs)) (h1 : D ≠ st.1) (h2 : Off st D) (ho : ∀ ps, o ≠ .tbl ps := by intro _ z; cases z) : Stm (upd H D o) st b := by
  obtain ⟨cells, big, c, mix, e1, e2, n, r1, r2, r3, r4, r5, t⟩ := sm
  refine ⟨cells, big, c, mix, by rw [upd_ne (Ne.symm h1)]; exact e1, by rw [upd_ne (Ne.symm h2.1)]; exact e2, n, r1, r2, r3, r4, r5, fun p hp => ?_⟩
  obtain ⟨ps, q1, q2, q3⟩ := t p hp
  refine ⟨ps, by rw [upd_ne (Ne.symm (h2.2 p hp))]; exact q1, q2, fun pos cv hc => ?_⟩
  obtain ⟨c, z1, z2⟩ := q3 pos cv hc
  refine ⟨c, z1, ?_⟩
  rw [upd_ne (fun e => ?_)]
  · exact z2
  · rw [e] at z2
    rcases hD with y | ⟨us, y⟩ | ⟨us, y⟩ | ⟨us, y⟩ <;> (rw [y] at z2; cases z2)

/-! ### comprehensions -/
def compLoop (tg : Lv → PyData → Env → Option Env) (cond : Env → M Bool) (elt : Env → M RV) (env0 : Env) : List PyData → M (List RV)
  | [] => .ret []
  | d :: ds => M.ofOption (tg .shr d env0) >>= fun env1 => cond env1 >>= fun c => if c then elt env1 >>= fun r => compLoop tg cond elt env0 ds >>= fun rs => .ret (r :: rs) else compLoop tg cond elt env0 ds
/-- all of each is new -/
def news (rs : List RV) : Bool := rs.all fun r => decide (r.lv = .own) && r.al.isEmpty
def compRV (rs : List RV) (al : List Nat) : RV := if imms (dsOf rs) then ⟨.list (dsOf rs), .own, []⟩ else if news rs then ⟨.list (dsOf rs), .own, []⟩ else ⟨.list (dsOf rs), .top, al ++ als rs⟩
def vComp (it : Env → M (List PyData × List Nat)) (vs : List Nat) (tg : Lv → PyData → Env → Option Env) (cond : Env → M Bool) (elt : Env → M RV) (env : Env) : M RV :=
  it env >>= fun p => if p.1.length ≤ sizeLine then (compLoop tg cond elt (kill (frz env p.2) vs) p.1).calm >>= fun rs => .ret (compRV rs p.2) else .stuck
/-- what has been made so far -/
structure Made (K : PySem.W.Frag) (st : StA) (S : Addr → Prop) (os : Nat → List Addr) (H0 H : Hp) (D : Addr) (al : List Nat) (rs : List RV) (us : List V) (f : List Addr) : Prop where
  at_ : H D = some (.lst us)
  rep : Reps K st H (dsOf rs) us f
  nd : D ∉ f
  ok : ∀ c ∈ f, okc S os H0 (al ++ als rs) c
  own : news rs = true → f.Nodup ∧ ∀ c ∈ f, H0 c = none
theorem als_append (rs : List RV) (r : RV) : als (rs ++ [r]) = als rs ++ r.al := by simp [als]
theorem dsOf_append (rs : List RV) (r : RV) : dsOf (rs ++ [r]) = dsOf rs ++ [r.d] := by simp [dsOf]
theorem Reps.single {K : PySem.W.Frag} {st : StA} {H : Hp} {d : PyData} {v : V} {fp : List Addr} (r : Rep K st H d v fp) : Reps K st H [d] [v] fp := by
  unfold Reps
  exact ⟨v, [], fp, [], rfl, r, by unfold Reps; exact ⟨rfl, rfl⟩, by simp⟩
theorem Made.done {K : PySem.W.Frag} {st : StA} {S : Addr → Prop} {os : Nat → List Addr} {H0 H : Hp} {D : Addr} {al : List Nat} {rs : List RV} {us : List V} {f : List Addr} (m : Made K st S os H0 H D al rs us f) (h0 : H0 D = none) (n1 : D ≠ st.1) (n2 : Off st D) :
    RVok K st S os H0 H (compRV rs al) (.ref D) := by
  have r : Rep K st H (.list (dsOf rs)) (.ref D) (D :: f) := by
    unfold Rep
    exact ⟨D, us, f, rfl, m.at_, n1, n2, m.rep, rfl⟩
  unfold compRV
  split
  · rename_i hi
    have e := m.rep.fp_imm hi
    rw [e] at r
    exact ⟨[D], r, by simp, fun c hc => .inl (by rw [show c = D by simpa using hc]; exact h0)⟩
  · split
    · rename_i hn
      obtain ⟨q1, q2⟩ := m.own hn
      refine ⟨D :: f, r, List.nodup_cons.mpr ⟨m.nd, q1⟩, fun c hc => ?_⟩
      rcases List.mem_cons.mp hc with rfl | hc
      · exact .inl h0
      · exact .inl (q2 c hc)
    · exact ⟨D :: f, r, D, f, rfl, m.nd, h0, m.ok⟩
section
variable {X : Cx}
/-- a comprehension's loop, the walk told -/
theorem comp_core {K : PySem.W.Frag} {vs ws : List Nat} {tg : Lv → PyData → Env → Option Env} {cond : Env → M Bool} {elt : Env → M RV}
    (hws : ∀ w ∈ ws, w ∈ vs) {G : Gx} {S : Addr → Prop} {H H1 : Hp} {env : Env} {σ : St} {os : Nat → List Addr} {b b1 : Nat} {Q : VK} {p : List PyData × List Nat} {J : It} {Dep : Addr → Prop} (hK : G.K = K) (E : ER G S H env σ os) (sm : Stm H G.st b)
    (h1 : (if p.1.length ≤ sizeLine then (compLoop tg cond elt (kill (frz env p.2) vs) p.1).calm >>= fun rs => .ret (compRV rs p.2) else .stuck : M RV).all G.R (Post K G.st S os H Q) b1)
    (x1 : SameX G.st H H1) (sm1 : Stm H1 G.st b1) (ok : ItOk K G.st J p.1 Dep H1) (dep : ∀ c, Dep c → okc S os H p.2 c ∧ (∃ o, H1 c = some o) ∧ c ≠ G.st.1 ∧ Off G.st c) : tLc (fun _ _ R => R J H1) (gOf K ws tg) (ttOf K cond) (tOf K elt) vs σ H Q := by
  by_cases hz : p.1.length ≤ sizeLine
  case neg => rw [if_neg hz] at h1; exact h1.elim
  rw [if_pos hz] at h1
  intro D hD
  obtain ⟨z1, e1⟩ := sm1.at1
  obtain ⟨z2, e2⟩ := sm1.at2
  obtain ⟨n1, n2⟩ := sm1.off hD
  have hD0 : H D = none := fresh_back sm1 x1 hD
  have hDG : G.H0 D = none := by
    cases e : G.H0 D with
    | none => rfl
    | some o => rw [E.same D o n1 n2 e] at hD0; cases hD0
  -- the block's state
  have E1 := E.mono sm x1
  have E2 := E1.freeze (F := Dep) p.2 fun c hc => by
    obtain ⟨k1, k2, k3, k4⟩ := dep c hc
    refine ⟨k2, k3, k4, ?_, fun i hi hc' => ?_⟩
    · rcases k1 with z | z | ⟨i, _, z⟩
      · right
        cases e : G.H0 c with
        | none => rfl
        | some o => rw [E.same c o k3 k4 e] at z; cases z
      · exact .inl z
      · exact .inr (E.fr i c z)
    · rcases k1 with z | z | ⟨j, hj, z⟩
      · obtain ⟨⟨o, e⟩, _⟩ := E.own_trk hc'; rw [z] at e; cases e
      · exact E.ns i c hc' z
      · exact E.dj i j c (fun e => hi (e ▸ hj)) hc' z
  have E3 := E2.drop (σ' := wipe σ vs) vs (wipe_length σ vs) fun i hi => by rw [val_wipe, if_neg hi]
  generalize hS : (fun c => S c ∨ Dep c ∨ ∃ i ∈ p.2, c ∈ os i) = S' at E2 E3
  generalize hO : (fun i => if i ∈ vs then [] else (fun i => if i ∈ p.2 then [] else os i) i) = os' at E3
  have hDS : ¬ S' D := fun z => by
    obtain ⟨⟨o, e⟩, _⟩ := E3.trk D z
    rw [hD] at e; cases e
  have hDo : ∀ i, D ∉ os' i := fun i z => by
    obtain ⟨⟨o, e⟩, _⟩ := E3.own_trk z
    rw [hD] at e; cases e
  have hDd : ∀ c, Dep c → c ≠ D := fun c hc e => by
    obtain ⟨_, ⟨o, k2⟩, _⟩ := dep c hc
    rw [e, hD] at k2; cases k2
  have sub : ∀ c, S' c → okc S os H p.2 c := fun c z => by
    rw [← hS] at z
    rcases z with z | z | z
    · exact .inr (.inl z)
    · exact (dep c z).1
    · exact .inr (.inr z)
  have subo : ∀ i c, c ∈ os' i → c ∈ os i := fun i c z => by
    rw [← hO] at z
    simp only at z
    split at z
    · cases z
    · split at z
      · cases z
      · exact z
  -- what holds between two turns
  let Pv : Nat → Hp → Prop := fun i H2 => ∃ (rs : List RV) (us : List V) (f : List Addr) (b2 : Nat), Made K G.st S os H H2 D p.2 rs us f ∧ us.length ≤ i ∧ Stm H2 G.st b2 ∧
    (∀ a o, a ≠ G.st.1 → Off G.st a → a ≠ D → H1 a = some o → H2 a = some o) ∧ ER G S' H2 (kill (frz env p.2) vs) (wipe σ vs) os' ∧
    (compLoop tg cond elt (kill (frz env p.2) vs) (p.1.drop i)).all M.R0 (fun rest b3 => Post K G.st S os H Q (compRV (rs ++ rest) p.2) b3) b2
  have kpd : ∀ H2, (∀ a o, a ≠ G.st.1 → Off G.st a → a ≠ D → H1 a = some o → H2 a = some o) → KpD Dep H1 H2 := fun H2 k => by
    refine ⟨fun a o d e => ?_, fun a xs e => ?_, fun a o u e => ?_⟩
    · obtain ⟨_, _, k3, k4⟩ := dep a d
      exact k a o k3 k4 (hDd a d) e
    · obtain ⟨k3, k4⟩ := sm1.ne e (fun _ => by simp)
      exact k a _ k3 k4 (fun z => by rw [z, hD] at e; cases e) e
    · obtain ⟨k3, k4⟩ := sm1.ne e (fun _ => by simp)
      exact k a _ k3 k4 (fun z => by rw [z, hD] at e; cases e) e
  refine ⟨fun i m H2 => m = p.1.length - i ∧ i ≤ p.1.length ∧ Pv i H2, ⟨p.1.length, by simp, Nat.zero_le _, [], [], [], b1, ?_, Nat.le_refl _, sm1.updL (.inl hD) n1 n2, fun a o _ _ h3 e => by rw [upd_ne h3]; exact e, E3.updL (.inl hD) hDS hDo hDG, ?_⟩, ?_⟩
  · exact ⟨upd_same, by unfold dsOf List.map Reps; exact ⟨rfl, rfl⟩, by simp, fun c hc => (by cases hc), fun _ => ⟨List.nodup_nil, fun c hc => by cases hc⟩⟩
  · rw [M.all_bind] at h1
    rw [List.drop_zero]
    exact M.all_mono (fun rs b3 q => by rw [List.nil_append]; exact q) _ _ (M.all_calm _ _ h1)
  rintro i m H2 ⟨rfl, hi, rs, us, f, b2, md, hl, sm2, k2, E4, q⟩
  by_cases hlt : i < p.1.length
  case neg =>
    have ei : i = p.1.length := by omega
    subst ei
    refine .inl ⟨ok.stop H2 (kpd H2 k2), ?_⟩
    rw [List.drop_length] at q
    have q' : Post K G.st S os H Q (compRV (rs ++ []) p.2) b2 := q
    rw [List.append_nil] at q'
    refine q' _ H2 (fun a o h1 h2 e => ?_) sm2 (md.done hD0 n1 n2)
    exact k2 a o h1 h2 (fun z => by rw [z, hD0] at e; cases e) (x1 a o h1 h2 e)
  refine .inr ⟨ok.go H2 i (kpd H2 k2) hlt, Pv (i + 1), fun H' p' => ⟨p.1.length - (i + 1), by omega, rfl, hlt, p'⟩, fun x H3 hy => ?_⟩
  obtain ⟨g1, d, fd, hd, rd, hfd⟩ := ok.yld H2 i x H3 (kpd H2 k2) hlt hy
  have edr : p.1.drop i = d :: p.1.drop (i + 1) := by
    obtain ⟨h1, h2⟩ := List.getElem?_eq_some_iff.mp hd
    rw [← h2]; exact List.drop_eq_getElem_cons h1
  rw [edr] at q
  unfold compLoop at q
  rw [M.all_bind] at q
  obtain ⟨env1, he1, q⟩ := M.all_ofOption.mp q
  have x23 : SameX G.st H2 H3 := fun a o _ _ e => g1 a o e
  have sm3 : Stm H3 G.st b2 := sm2.ext g1
  have E5 := E4.mono sm2 x23
  refine ⟨G.calm, S', _, env1, os', .shr, d, fd, .of hK, E5.calm, rd, fun c hc => ?_, he1, fun σ6 os6 E6 w6 o6 => ?_⟩
  · have := hfd c hc
    rw [← hS]
    exact .inr (.inl this)
  refine ⟨?_, G.calm, S', env1, os6, b2, .of hK, E6, sm3, ?_⟩
  · have idem : wipe (wipe σ vs) vs = wipe σ vs := by
      have c : ∀ (us : List Nat) (τ : St), (∀ i, i ∈ us → ∀ x, (τ[i]? = some x → x = none)) → wipe τ us = τ := by
        intro us
        induction us with
        | nil => intro τ _; rfl
        | cons w us ih =>
          intro τ hτ
          unfold wipe
          rw [ih τ fun i hi => hτ i (List.mem_cons_of_mem _ hi)]
          apply List.ext_getElem?
          intro j
          by_cases hj : w = j
          · subst hj
            by_cases hw : w < τ.length
            · rw [List.getElem?_set_self hw]
              have := hτ w List.mem_cons_self (τ[w]) (by simp [hw])
              simp [hw, this]
            · rw [List.getElem?_eq_none (by simpa using hw), List.getElem?_eq_none (by simpa using hw)]
          · rw [List.getElem?_set_ne hj]
      refine c vs (wipe σ vs) fun i hi y hy => ?_
      have := val_wipe σ vs i
      rw [if_pos hi] at this
      unfold val at this
      rw [hy] at this
      simpa using this
    exact (w6 vs hws).trans idem
  rw [M.all_bind] at q
  refine M.all_mono (fun ch b3 q3 H4 x4 sm4 => ?_) _ _ q
  have o6' : ∀ j c, c ∈ os6 j → c ∈ os' j := fun j c hc => (o6 j c hc).elim id fun z => by cases z
  cases ch with
  | false =>
    rw [if_neg Bool.false_ne_true] at q3
    refine iteF (?_ : Pv (i + 1) H4)
    have x24 : SameX G.st H2 H4 := x23.trans x4
    refine ⟨rs, us, f, b3, ⟨x24 D _ n1 n2 md.at_, md.rep.sameX sm2 x24, md.nd, md.ok, md.own⟩, by omega, sm4, fun a o h1 h2 h3 e => x24 a o h1 h2 (k2 a o h1 h2 h3 e), E4.mono sm2 x24, q3⟩
  | true =>
    rw [if_pos rfl] at q3
    refine iteT ?_
    rw [M.all_bind] at q3
    have x24 : SameX G.st H2 H4 := x23.trans x4
    refine ⟨G.calm, S', env1, os6, b3, .of hK, E6.mono sm3 x4, sm4, M.all_mono (fun r b4 q4 y H5 x5 sm5 ok5 => ?_) _ _ q3⟩
    obtain ⟨fr, rr, lr⟩ := ok5
    have x25 : SameX G.st H2 H5 := x24.trans x5
    have aD : H5 D = some (.lst us) := x25 D _ n1 n2 md.at_
    refine ⟨us, aD, Nat.lt_of_le_of_lt hl (Nat.lt_of_lt_of_le hlt hz), ?_⟩
    have trkD : ∃ o, H4 D = some o := ⟨_, x24 D _ n1 n2 md.at_⟩
    have nfr : D ∉ fr := fun hc => by
      rcases lr.shr D hc with z | z | ⟨j, _, z⟩
      · obtain ⟨o, e⟩ := trkD; rw [z] at e; cases e
      · exact hDS z
      · exact hDo j (o6' j D z)
    have back4 : ∀ c, H4 c = none → H c = none := fun c z => by
      cases e : H c with
      | none => rfl
      | some o =>
        obtain ⟨h1, h2⟩ := sm4.off z
        have e2 := k2 c o h1 h2 (fun w => by rw [w, hD0] at e; cases e) (x1 c o h1 h2 e)
        rw [x24 c o h1 h2 e2] at z; cases z
    have kk : KpD (fun a => a ≠ D) H5 (upd H5 D (.lst (us ++ [y]))) := kp_upd (.inr (.inl ⟨_, aD⟩))
    have rep' : Reps K G.st (upd H5 D (.lst (us ++ [y]))) (dsOf (rs ++ [r])) (us ++ [y]) (f ++ fr) := by
      rw [dsOf_append]
      refine Reps.append ((md.rep.sameX sm2 x25).kp kk fun c hc e => md.nd (e ▸ hc)) (Reps.single (rr.kp kk fun c hc e => nfr (e ▸ hc)))
    refine ⟨rs ++ [r], us ++ [y], f ++ fr, b4, ⟨upd_same, rep', ?_, ?_, ?_⟩, ?_, sm5.updL (.inr (.inl ⟨_, aD⟩)) n1 n2, ?_, ?_, ?_⟩
    · rw [List.mem_append]; rintro (z | z)
      · exact md.nd z
      · exact nfr z
    · intro c hc
      rw [als_append]
      rcases List.mem_append.mp hc with z | z
      · refine (md.ok c z).al fun i hi => ?_
        rcases List.mem_append.mp hi with w | w
        · exact List.mem_append_left _ w
        · exact List.mem_append_right _ (List.mem_append_left _ w)
      · rcases lr.shr c z with w | w | ⟨j, hj, w⟩
        · exact .inl (back4 c w)
        · exact (sub c w).al fun i hi => List.mem_append_left _ hi
        · exact .inr (.inr ⟨j, List.mem_append_right _ (List.mem_append_right _ hj), subo j c (o6' j c w)⟩)
    · intro hn
      have hn' : news rs = true ∧ r.lv = .own ∧ r.al = [] := by
        unfold news at hn ⊢
        rw [List.all_append, Bool.and_eq_true] at hn
        refine ⟨hn.1, ?_⟩
        simpa using hn.2
      obtain ⟨w1, w2⟩ := md.own hn'.1
      rw [hn'.2.1, hn'.2.2] at lr
      have fre : ∀ c ∈ fr, H4 c = none := fun c hc => by
        rcases lr.2 c hc with z | ⟨j, hj, _⟩
        · exact z
        · cases hj
      refine ⟨List.nodup_append.mpr ⟨w1, lr.1, fun c hc c' hc' e => ?_⟩, fun c hc => ?_⟩
      · subst e
        obtain ⟨⟨o, e⟩, h1, h2⟩ := md.rep.trk c hc
        have := fre c hc'
        rw [x24 c o h1 h2 e] at this; cases this
      · rcases List.mem_append.mp hc with z | z
        · exact w2 c z
        · exact back4 c (fre c z)
    · rw [List.length_append]; simp; exact hl
    · intro a o h1 h2 h3 e
      rw [upd_ne h3]
      exact x25 a o h1 h2 (k2 a o h1 h2 h3 e)
    · exact (E4.mono sm2 x25).updL (.inr (.inl ⟨_, aD⟩)) hDS hDo hDG
    · rw [M.all_bind] at q4
      refine M.all_mono (fun rest b5 q5 => ?_) _ _ q4
      rw [List.append_assoc]
      exact q5
/-- a comprehension's loop -/
theorem comp_go {K : PySem.W.Frag} {Ok : Gx → Prop} {wi : TI} {it : Env → M (List PyData × List Nat)} {vs ws : List Nat} {tg : Lv → PyData → Env → Option Env} {cond : Env → M Bool} {elt : Env → M RV}
    (qi : ∀ (G : Gx) (S : Addr → Prop) (H : Hp) (env : Env) (σ : St) (os : Nat → List Addr) (b : Nat) (R : It → Hp → Prop), Ok G → ER G S H env σ os → Stm H G.st b →
      (it env).all G.R (fun p b' => ∀ J H1 Dep, SameX G.st H H1 → Stm H1 G.st b' → ItOk K G.st J p.1 Dep H1 → (∀ c, Dep c → okc S os H p.2 c ∧ (∃ o, H1 c = some o) ∧ c ≠ G.st.1 ∧ Off G.st c) → R J H1) b → wi σ H R)
    (hws : ∀ w ∈ ws, w ∈ vs) {G : Gx} {S : Addr → Prop} {H : Hp} {env : Env} {σ : St} {os : Nat → List Addr} {b : Nat} {Q : VK} (hO : Ok G) (hK : G.K = K) (E : ER G S H env σ os) (sm : Stm H G.st b)
    (h : (vComp it vs tg cond elt env).all G.R (Post K G.st S os H Q) b) : tLc wi (gOf K ws tg) (ttOf K cond) (tOf K elt) vs σ H Q := by
  unfold vComp at h
  rw [M.all_bind] at h
  exact qi G S H env σ os b _ hO E sm (M.all_mono (fun p b1 h1 J H1 Dep x1 sm1 ok dep => comp_core hws hK E sm h1 x1 sm1 ok dep) _ _ h)
end
end Vm

set_option Elab.async false
set_option linter.all false
set_option maxRecDepth 100000
namespace Vm
variable [TabsC]
variable {R : Exn → Nat → Prop}
open PySem L2

theorem M.all_some {α : Type} {P : α → Nat → Prop} : ∀ {m : M α} {b : Nat}, m.all M.R0 P b → ∃ a b', P a b'
  | .ret a, b, h => ⟨a, b, h⟩
  | .stuck, b, h => h.elim
  | .raise x, b, h => h.elim
  | .draw n k, b, h => M.all_some (h.2.2 0 h.1)

/-! ### comprehensions of two clauses -/
def compLoop2 (tg : Lv → PyData → Env → Option Env) (cond : Env → M Bool) (it1 : Env → M (List PyData × List Nat)) (vs1 : List Nat) (tg1 : Lv → PyData → Env → Option Env) (cond1 : Env → M Bool) (elt : Env → M RV) (env0 : Env) : List PyData → M (List RV × List Nat)
  | [] => .ret ([], [])
  | d :: ds => M.ofOption (tg .shr d env0) >>= fun env1 => cond env1 >>= fun c => if c then
      it1 env1 >>= fun p1 => compLoop tg1 cond1 elt (kill (frz env1 p1.2) vs1) p1.1 >>= fun rs1 => compLoop2 tg cond it1 vs1 tg1 cond1 elt env0 ds >>= fun q => .ret (rs1 ++ q.1, p1.2 ++ q.2)
    else compLoop2 tg cond it1 vs1 tg1 cond1 elt env0 ds
def vComp2 (it : Env → M (List PyData × List Nat)) (vs : List Nat) (tg : Lv → PyData → Env → Option Env) (cond : Env → M Bool) (it1 : Env → M (List PyData × List Nat)) (vs1 : List Nat) (tg1 : Lv → PyData → Env → Option Env) (cond1 : Env → M Bool) (elt : Env → M RV) (env : Env) : M RV :=
  it env >>= fun p => (compLoop2 tg cond it1 vs1 tg1 cond1 elt (kill (frz env p.2) vs) p.1).calm >>= fun q => if q.1.length ≤ sizeLine then .ret (compRV q.1 (p.2 ++ q.2)) else .stuck
theorem wipe_idem (σ : St) (vs : List Nat) : wipe (wipe σ vs) vs = wipe σ vs := by
  have c : ∀ (us : List Nat) (τ : St), (∀ i, i ∈ us → ∀ x, (τ[i]? = some x → x = none)) → wipe τ us = τ := by
    intro us
    induction us with
    | nil => intro τ _; rfl
    | cons w us ih =>
      intro τ hτ
      unfold wipe
      rw [ih τ fun i hi => hτ i (List.mem_cons_of_mem _ hi)]
      apply List.ext_getElem?
      intro j
      by_cases hj : w = j
      · subst hj
        by_cases hw : w < τ.length
        · rw [List.getElem?_set_self hw]
          have := hτ w List.mem_cons_self (τ[w]) (by simp [hw])
          simp [hw, this]
        · rw [List.getElem?_eq_none (by simpa using hw), List.getElem?_eq_none (by simpa using hw)]
      · rw [List.getElem?_set_ne hj]
  refine c vs (wipe σ vs) fun i hi y hy => ?_
  have := val_wipe σ vs i
  rw [if_pos hi] at this
  unfold val at this
  rw [hy] at this
  simpa using this
/-- an iterator's reading -/
def iOf (K : PySem.W.Frag) (f : Env → M (List PyData × List Nat)) : TI := fun σ H R => ∃ (G : Gx) (S : Addr → Prop) (env : Env) (os : Nat → List Addr) (b : Nat), GC G K ∧ ER G S H env σ os ∧ Stm H G.st b ∧
  (f env).all G.R (fun p b' => ∀ J H1 Dep, SameX G.st H H1 → Stm H1 G.st b' → ItOk K G.st J p.1 Dep H1 → (∀ c, Dep c → okc S os H p.2 c ∧ (∃ o, H1 c = some o) ∧ c ≠ G.st.1 ∧ Off G.st c) → R J H1) b
theorem DI.pi {X : Cx} {tg e : Expr} {f : Env → M (List PyData × List Nat)} (h : DI X tg e f) : PI X tg e (iOf X.K f) := by
  obtain ⟨t, ht, qt⟩ := h
  exact ⟨fun pins s σ H R I ⟨G, S, env, os, b, hK, E, sm, q⟩ => ht.run pins s σ H R I (qt G S H env σ os b R hK.ok E sm q)⟩
/-- the heap behind H1, but for D -/
def ButD (st : StA) (D : Addr) (H1 H2 : Hp) : Prop := ∀ a o, a ≠ st.1 → Off st a → a ≠ D → H1 a = some o → H2 a = some o
/-- how one more item comes to the list -/
theorem Made.more {G : Gx} {S S' : Addr → Prop} {os os6 : Nat → List Addr} {H H3 H4 H5 : Hp} {D : Addr} {al : List Nat} {rs : List RV} {us : List V} {f fr : List Addr} {r : RV} {y : V} {b3 b4 : Nat} (md : Made G.K G.st S os H H3 D al rs us f) (n1 : D ≠ G.st.1) (n2 : Off G.st D)
    (sm3 : Stm H3 G.st b3) (sm4 : Stm H4 G.st b4) (x34 : SameX G.st H3 H4) (x45 : SameX G.st H4 H5) (back : ∀ c, H4 c = none → H c = none) (hDS : ¬ S' D) (hDo : ∀ i, D ∉ os6 i) (sub : ∀ c, S' c → okc S os H al c) (subo : ∀ i c, c ∈ os6 i → c ∈ os i)
    (rr : Rep G.K G.st H5 r.d y fr) (lr : LvOk S' os6 H4 r.lv r.al fr) : D ∉ fr ∧ H5 D = some (.lst us) ∧ Made G.K G.st S os H (upd H5 D (.lst (us ++ [y]))) D al (rs ++ [r]) (us ++ [y]) (f ++ fr) := by
  have x35 := x34.trans x45
  have aD4 : H4 D = some (.lst us) := x34 D _ n1 n2 md.at_
  have aD : H5 D = some (.lst us) := x45 D _ n1 n2 aD4
  have nfr : D ∉ fr := fun hc => by
    rcases lr.shr D hc with z | z | ⟨j, _, z⟩
    · rw [z] at aD4; cases aD4
    · exact hDS z
    · exact hDo j z
  have kk : KpD (fun a => a ≠ D) H5 (upd H5 D (.lst (us ++ [y]))) := kp_upd (.inr (.inl ⟨_, aD⟩))
  have rep' : Reps G.K G.st (upd H5 D (.lst (us ++ [y]))) (dsOf (rs ++ [r])) (us ++ [y]) (f ++ fr) := by
    rw [dsOf_append]
    exact Reps.append ((md.rep.sameX sm3 x35).kp kk fun c hc e => md.nd (e ▸ hc)) (Reps.single (rr.kp kk fun c hc e => nfr (e ▸ hc)))
  refine ⟨nfr, aD, upd_same, rep', ?_, ?_, ?_⟩
  · rw [List.mem_append]; rintro (z | z)
    · exact md.nd z
    · exact nfr z
  · intro c hc
    rw [als_append]
    rcases List.mem_append.mp hc with z | z
    · refine (md.ok c z).al fun i hi => ?_
      rcases List.mem_append.mp hi with w | w
      · exact List.mem_append_left _ w
      · exact List.mem_append_right _ (List.mem_append_left _ w)
    · rcases lr.shr c z with w | w | ⟨j, hj, w⟩
      · exact .inl (back c w)
      · exact (sub c w).al fun i hi => List.mem_append_left _ hi
      · exact .inr (.inr ⟨j, List.mem_append_right _ (List.mem_append_right _ hj), subo j c w⟩)
  · intro hn
    have hn' : news rs = true ∧ r.lv = .own ∧ r.al = [] := by
      unfold news at hn ⊢
      rw [List.all_append, Bool.and_eq_true] at hn
      exact ⟨hn.1, by simpa using hn.2⟩
    obtain ⟨w1, w2⟩ := md.own hn'.1
    rw [hn'.2.1, hn'.2.2] at lr
    have fre : ∀ c ∈ fr, H4 c = none := fun c hc => by
      rcases lr.2 c hc with z | ⟨j, hj, _⟩
      · exact z
      · cases hj
    refine ⟨List.nodup_append.mpr ⟨w1, lr.1, fun c hc c' hc' e => ?_⟩, fun c hc => ?_⟩
    · subst e
      obtain ⟨⟨o, e⟩, h1, h2⟩ := md.rep.trk c hc
      have := fre c hc'
      rw [x34 c o h1 h2 e] at this; cases this
    · rcases List.mem_append.mp hc with z | z
      · exact w2 c z
      · exact back c (fre c z)
theorem Made.wide {K : PySem.W.Frag} {st : StA} {S : Addr → Prop} {os : Nat → List Addr} {H0 H : Hp} {D : Addr} {al al' : List Nat} {rs : List RV} {us : List V} {f : List Addr} (m : Made K st S os H0 H D al rs us f) (h : ∀ i ∈ al, i ∈ al') : Made K st S os H0 H D al' rs us f :=
  ⟨m.at_, m.rep, m.nd, fun c hc => (m.ok c hc).al fun i hi => (List.mem_append.mp hi).elim (fun z => List.mem_append_left _ (h i z)) fun z => List.mem_append_right _ z, m.own⟩
theorem Made.same {K : PySem.W.Frag} {st : StA} {S : Addr → Prop} {os : Nat → List Addr} {H0 H H' : Hp} {D : Addr} {al : List Nat} {rs : List RV} {us : List V} {f : List Addr} {b : Nat} (m : Made K st S os H0 H D al rs us f) (sm : Stm H st b) (x : SameX st H H') (n1 : D ≠ st.1) (n2 : Off st D) : Made K st S os H0 H' D al rs us f :=
  ⟨x D _ n1 n2 m.at_, m.rep.sameX sm x, m.nd, m.ok, m.own⟩
/-- what a block sees of the frame around it -/
structure Blk (G : Gx) (S S' : Addr → Prop) (os os' : Nat → List Addr) (H : Hp) (D : Addr) (al : List Nat) : Prop where
  ds : ¬ S' D
  dos : ∀ i, D ∉ os' i
  sub : ∀ c, S' c → okc S os H al c
  subo : ∀ i c, c ∈ os' i → c ∈ os i
/-- a source's items may be read in the block -/
theorem blk_of {G : Gx} {S Dep : Addr → Prop} {H H1 : Hp} {env : Env} {σ : St} {os : Nat → List Addr} {b : Nat} {al vs : List Nat} (E : ER G S H env σ os) (sm : Stm H G.st b) (x1 : SameX G.st H H1)
    (dep : ∀ c, Dep c → okc S os H al c ∧ (∃ o, H1 c = some o) ∧ c ≠ G.st.1 ∧ Off G.st c) :
    ER G (fun c => S c ∨ Dep c ∨ ∃ i ∈ al, c ∈ os i) H1 (kill (frz env al) vs) (wipe σ vs) (fun i => if i ∈ vs then [] else (fun i => if i ∈ al then [] else os i) i) := by
  refine ((E.mono sm x1).freeze (F := Dep) al fun c hc => ?_).drop (σ' := wipe σ vs) vs (wipe_length σ vs) fun i hi => by rw [val_wipe, if_neg hi]
  obtain ⟨k1, k2, k3, k4⟩ := dep c hc
  refine ⟨k2, k3, k4, ?_, fun i hi hc' => ?_⟩
  · rcases k1 with z | z | ⟨i, _, z⟩
    · right
      cases e : G.H0 c with
      | none => rfl
      | some o => rw [E.same c o k3 k4 e] at z; cases z
    · exact .inl z
    · exact .inr (E.fr i c z)
  · rcases k1 with z | z | ⟨j, hj, z⟩
    · obtain ⟨⟨o, e⟩, _⟩ := E.own_trk hc'; rw [z] at e; cases e
    · exact E.ns i c hc' z
    · exact E.dj i j c (fun e => hi (e ▸ hj)) hc' z
theorem kpd_of {st : StA} {Dep : Addr → Prop} {H1 H2 : Hp} {D : Addr} {b : Nat} {us : List V} (sm1 : Stm H1 st b) (hD : H1 D = none ∨ H1 D = some (.lst us)) (dep : ∀ c, Dep c → c ≠ st.1 ∧ Off st c ∧ c ≠ D) (k : ButD st D H1 H2) : KpD Dep H1 H2 := by
  refine ⟨fun a o d e => ?_, fun a xs e => ?_, fun a o u e => ?_⟩
  · obtain ⟨k3, k4, k5⟩ := dep a d
    exact k a o k3 k4 k5 e
  · obtain ⟨k3, k4⟩ := sm1.ne e (fun _ => by simp)
    exact k a _ k3 k4 (fun z => by rcases hD with w | w <;> (rw [z, w] at e; cases e)) e
  · obtain ⟨k3, k4⟩ := sm1.ne e (fun _ => by simp)
    exact k a _ k3 k4 (fun z => by rcases hD with w | w <;> (rw [z, w] at e; cases e)) e
theorem Stm.grow {H H' : Hp} {st : StA} {b : Nat} (sm : Stm H st b) (g : Grow H H') : Stm H' st b := sm.ext g
theorem compRV_wide {K : PySem.W.Frag} {st : StA} {S : Addr → Prop} {os : Nat → List Addr} {H H' : Hp} {rs : List RV} {al al' : List Nat} {v : V} (h : RVok K st S os H H' (compRV rs al) v) (s : ∀ i ∈ al, i ∈ al') : RVok K st S os H H' (compRV rs al') v := by
  unfold compRV at h ⊢
  split
  · rename_i hi
    rw [if_pos hi] at h; exact h
  · rename_i hi
    rw [if_neg hi] at h
    split
    · rename_i hn
      rw [if_pos hn] at h; exact h
    · rename_i hn
      rw [if_neg hn] at h
      obtain ⟨fp, r, l⟩ := h
      exact ⟨fp, r, l.al fun i hi => (List.mem_append.mp hi).elim (fun z => List.mem_append_left _ (s i z)) fun z => List.mem_append_right _ z⟩
/-- two clauses -/
theorem comp2_go {K : PySem.W.Frag} {Ok : Gx → Prop} {wi : TI} {it it1 : Env → M (List PyData × List Nat)} {vs vs1 ws ws1 : List Nat} {tg tg1 : Lv → PyData → Env → Option Env} {cond cond1 : Env → M Bool} {elt : Env → M RV}
    (qi : ∀ (G : Gx) (S : Addr → Prop) (H : Hp) (env : Env) (σ : St) (os : Nat → List Addr) (b : Nat) (R : It → Hp → Prop), Ok G → ER G S H env σ os → Stm H G.st b →
      (it env).all G.R (fun p b' => ∀ J H1 Dep, SameX G.st H H1 → Stm H1 G.st b' → ItOk K G.st J p.1 Dep H1 → (∀ c, Dep c → okc S os H p.2 c ∧ (∃ o, H1 c = some o) ∧ c ≠ G.st.1 ∧ Off G.st c) → R J H1) b → wi σ H R)
    (hws : ∀ w ∈ ws, w ∈ vs) (hws1 : ∀ w ∈ ws1, w ∈ vs1) {G : Gx} {S : Addr → Prop} {H : Hp} {env : Env} {σ : St} {os : Nat → List Addr} {b : Nat} {Q : VK} (hO : Ok G) (hK : G.K = K) (E : ER G S H env σ os) (sm : Stm H G.st b)
    (h : (vComp2 it vs tg cond it1 vs1 tg1 cond1 elt env).all G.R (Post K G.st S os H Q) b) : tLc2 wi (gOf K ws tg) (ttOf K cond) (iOf K it1) (gOf K ws1 tg1) (ttOf K cond1) (tOf K elt) vs vs1 σ H Q := by
  subst hK
  unfold vComp2 at h
  rw [M.all_bind] at h
  refine qi G S H env σ os b _ hO E sm (M.all_mono (fun p b1 h1 J H1 Dep x1 sm1 ok dep => ?_) _ _ h)
  intro D hD
  obtain ⟨z1, e1⟩ := sm1.at1
  obtain ⟨z2, e2⟩ := sm1.at2
  obtain ⟨n1, n2⟩ := sm1.off hD
  have hD0 : H D = none := fresh_back sm1 x1 hD
  have hDG : G.H0 D = none := by
    cases e : G.H0 D with
    | none => rfl
    | some o => rw [E.same D o n1 n2 e] at hD0; cases hD0
  have E3 := blk_of (vs := vs) E sm x1 dep
  have hDd : ∀ c, Dep c → c ≠ G.st.1 ∧ Off G.st c ∧ c ≠ D := fun c hc => by
    obtain ⟨_, ⟨o, k2⟩, k3, k4⟩ := dep c hc
    exact ⟨k3, k4, fun e => by rw [e, hD] at k2; cases k2⟩
  have B : Blk G S (fun c => S c ∨ Dep c ∨ ∃ i ∈ p.2, c ∈ os i) os (fun i => if i ∈ vs then [] else (fun i => if i ∈ p.2 then [] else os i) i) H D p.2 := by
    refine ⟨fun z => ?_, fun i z => ?_, fun c z => ?_, fun i c z => ?_⟩
    · obtain ⟨⟨o, e⟩, _⟩ := E3.trk D z
      rw [hD] at e; cases e
    · obtain ⟨⟨o, e⟩, _⟩ := E3.own_trk z
      rw [hD] at e; cases e
    · rcases z with z | z | z
      · exact .inr (.inl z)
      · exact (dep c z).1
      · exact .inr (.inr z)
    · simp only at z
      split at z
      · cases z
      · split at z
        · cases z
        · exact z
  have fromS : ∀ c, Dep c → (fun c => S c ∨ Dep c ∨ ∃ i ∈ p.2, c ∈ os i) c := fun c hc => .inr (.inl hc)
  generalize (fun c => S c ∨ Dep c ∨ ∃ i ∈ p.2, c ∈ os i) = S' at E3 B fromS
  generalize (fun i => if i ∈ vs then [] else (fun i => if i ∈ p.2 then [] else os i) i) = os' at E3 B
  have backG : ∀ H2, ButD G.st D H1 H2 → (∃ b, Stm H2 G.st b) → ∀ c, H2 c = none → H c = none := fun H2 k ⟨b2, sm2⟩ c z => by
    cases e : H c with
    | none => rfl
    | some o =>
      obtain ⟨h1, h2⟩ := sm2.off z
      · · rw [k c o h1 h2 (fun w => by rw [w, hD0] at e; cases e) (x1 c o h1 h2 e)] at z; cases z
  let Fin : List RV → List Nat → List RV × List Nat → Nat → Prop := fun rs al q b3 => rs.length + q.1.length ≤ sizeLine ∧ Post G.K G.st S os H Q (compRV (rs ++ q.1) (al ++ q.2)) b3
  let Pv : Nat → Hp → Prop := fun i H2 => ∃ (rs : List RV) (al : List Nat) (us : List V) (f : List Addr) (b2 : Nat), (∀ i ∈ p.2, i ∈ al) ∧ Made G.K G.st S os H H2 D al rs us f ∧ Stm H2 G.st b2 ∧ ButD G.st D H1 H2 ∧
    ER G S' H2 (kill (frz env p.2) vs) (wipe σ vs) os' ∧ (compLoop2 tg cond it1 vs1 tg1 cond1 elt (kill (frz env p.2) vs) (p.1.drop i)).all M.R0 (Fin rs al) b2
  refine ⟨fun i m H2 => m = p.1.length - i ∧ i ≤ p.1.length ∧ Pv i H2, ⟨p.1.length, by simp, Nat.zero_le _, [], p.2, [], [], b1, fun i hi => hi, ?_, sm1.updL (.inl hD) n1 n2, fun a o _ _ h3 e => by rw [upd_ne h3]; exact e, E3.updL (.inl hD) B.ds B.dos hDG, ?_⟩, ?_⟩
  · exact ⟨upd_same, by unfold dsOf List.map Reps; exact ⟨rfl, rfl⟩, by simp, fun c hc => (by cases hc), fun _ => ⟨List.nodup_nil, fun c hc => by cases hc⟩⟩
  · rw [M.all_bind] at h1
    rw [List.drop_zero]
    refine M.all_mono (fun q b3 z => ?_) _ _ (M.all_calm (R' := M.R0) _ _ h1)
    by_cases hz : q.1.length ≤ sizeLine
    · rw [if_pos hz] at z
      exact ⟨by simpa using hz, by rw [List.nil_append]; exact z⟩
    · rw [if_neg hz] at z; exact z.elim
  rintro i m H2 ⟨rfl, hi, rs, al, us, f, b2, hal, md, sm2, k2, E4, q⟩
  have kp2 := kpd_of (us := us) sm1 (.inl hD) hDd k2
  by_cases hlt : i < p.1.length
  case neg =>
    have ei : i = p.1.length := by omega
    subst ei
    refine .inl ⟨ok.stop H2 kp2, ?_⟩
    rw [List.drop_length] at q
    have q' : Fin rs al ([], []) b2 := q
    have q2 := q'.2
    simp only [List.append_nil] at q2
    refine q2 _ H2 (fun a o h1 h2 e => ?_) sm2 (md.done hD0 n1 n2)
    exact k2 a o h1 h2 (fun z => by rw [z, hD0] at e; cases e) (x1 a o h1 h2 e)
  refine .inr ⟨ok.go H2 i kp2 hlt, Pv (i + 1), fun H' p' => ⟨p.1.length - (i + 1), by omega, rfl, hlt, p'⟩, fun x H3 hy => ?_⟩
  obtain ⟨g1, d, fd, hd, rd, hfd⟩ := ok.yld H2 i x H3 kp2 hlt hy
  have edr : p.1.drop i = d :: p.1.drop (i + 1) := by
    obtain ⟨h1, h2⟩ := List.getElem?_eq_some_iff.mp hd
    rw [← h2]; exact List.drop_eq_getElem_cons h1
  rw [edr] at q
  unfold compLoop2 at q
  rw [M.all_bind] at q
  obtain ⟨env1, he1, q⟩ := M.all_ofOption.mp q
  have x23 : SameX G.st H2 H3 := fun a o _ _ e => g1 a o e
  have sm3 : Stm H3 G.st b2 := sm2.grow g1
  have E5 := E4.mono sm2 x23
  have md3 := md.same sm2 x23 n1 n2
  have k3 : ButD G.st D H1 H3 := fun a o h1 h2 h3 e => g1 a o (k2 a o h1 h2 h3 e)
  refine ⟨G.calm, S', _, env1, os', .shr, d, fd, .of rfl, E5.calm, rd, fun c hc => fromS c (hfd c hc), he1, fun σ6 os6 E6 w6 o6 => ?_⟩
  have w6' : wipe σ6 vs = wipe σ vs := (w6 vs hws).trans (wipe_idem σ vs)
  refine ⟨w6', G.calm, S', env1, os6, b2, .of rfl, E6, sm3, ?_⟩
  rw [M.all_bind] at q
  refine M.all_mono (fun ch b3 q3 H4 x4 sm4 => ?_) _ _ q
  have o6' : ∀ j c, c ∈ os6 j → c ∈ os' j := fun j c hc => (o6 j c hc).elim id fun z => by cases z
  have md4 := md3.same sm3 x4 n1 n2
  have E64 := E6.mono sm3 x4
  have E54 := E5.mono sm3 x4
  have k4 : ButD G.st D H1 H4 := fun a o h1 h2 h3 e => x4 a o h1 h2 (k3 a o h1 h2 h3 e)
  cases ch with
  | false =>
    rw [if_neg Bool.false_ne_true] at q3
    refine iteF (?_ : Pv (i + 1) H4)
    exact ⟨rs, al, us, f, b3, hal, md4, sm4, k4, E54, q3⟩
  | true =>
    rw [if_pos rfl] at q3
    refine iteT ?_
    rw [M.all_bind] at q3
    refine ⟨G.calm, S', env1, os6, b3, .of rfl, E64, sm4, M.all_mono (fun p1 b5 q5 J1 H5 Dep1 x5 sm5 ok1 dep1 => ?_) _ _ q3⟩
    -- the second source's loop
    have E7 := blk_of (vs := vs1) E64 sm4 x5 dep1
    have md5 := md4.same sm4 x5 n1 n2
    have E55 := E54.mono sm4 x5
    have k5 : ButD G.st D H1 H5 := fun a o h1 h2 h3 e => x5 a o h1 h2 (k4 a o h1 h2 h3 e)
    have aD4 : H4 D = some (.lst us) := md4.at_
    have hD6 : ∀ c, okc S' os6 H4 p1.2 c → c ≠ D := fun c z e => by
      subst e
      rcases z with z | z | ⟨j, _, z⟩
      · rw [z] at aD4; cases aD4
      · exact B.ds z
      · exact B.dos j (o6' j _ z)
    have B1 : Blk G S (fun c => S' c ∨ Dep1 c ∨ ∃ i ∈ p1.2, c ∈ os6 i) os (fun i => if i ∈ vs1 then [] else (fun i => if i ∈ p1.2 then [] else os6 i) i) H D (al ++ p1.2) := by
      have sub6 : ∀ c, okc S' os6 H4 p1.2 c → okc S os H (al ++ p1.2) c := fun c z => by
        rcases z with z | z | ⟨j, hj, z⟩
        · exact .inl (backG H4 k4 ⟨_, sm4⟩ c z)
        · exact (B.sub c z).al fun i hi => List.mem_append_left _ (hal i hi)
        · exact .inr (.inr ⟨j, List.mem_append_right _ hj, B.subo j c (o6' j c z)⟩)
      refine ⟨fun z => ?_, fun i z => ?_, fun c z => ?_, fun i c z => ?_⟩
      · rcases z with z | z | ⟨j, hj, z⟩
        · exact B.ds z
        · exact hD6 D (dep1 D z).1 rfl
        · exact B.dos j (o6' j _ z)
      · simp only at z
        split at z
        · cases z
        · split at z
          · cases z
          · exact B.dos i (o6' i _ z)
      · rcases z with z | z | z
        · exact (B.sub c z).al fun i hi => List.mem_append_left _ (hal i hi)
        · exact sub6 c (dep1 c z).1
        · exact sub6 c (.inr (.inr z))
      · simp only at z
        split at z
        · cases z
        · split at z
          · cases z
          · exact B.subo i c (o6' i c z)
    have fromS1 : ∀ c, Dep1 c → (fun c => S' c ∨ Dep1 c ∨ ∃ i ∈ p1.2, c ∈ os6 i) c := fun c hc => .inr (.inl hc)
    have hDd1 : ∀ c, Dep1 c → c ≠ G.st.1 ∧ Off G.st c ∧ c ≠ D := fun c hc => by
      obtain ⟨k1, _, k3, k4⟩ := dep1 c hc
      exact ⟨k3, k4, hD6 c k1⟩
    generalize (fun c => S' c ∨ Dep1 c ∨ ∃ i ∈ p1.2, c ∈ os6 i) = S1 at E7 B1 fromS1
    generalize (fun i => if i ∈ vs1 then [] else (fun i => if i ∈ p1.2 then [] else os6 i) i) = os1 at E7 B1
    let Fin1 : List RV → List RV → Nat → Prop := fun rs1 rest1 b7 => (compLoop2 tg cond it1 vs1 tg1 cond1 elt (kill (frz env p.2) vs) (p.1.drop (i + 1))).all M.R0 (Fin (rs1 ++ rest1) (al ++ p1.2)) b7
    let Pv1 : Nat → Hp → Prop := fun j H6 => ∃ (rs1 : List RV) (us1 : List V) (f1 : List Addr) (b6 : Nat), Made G.K G.st S os H H6 D (al ++ p1.2) rs1 us1 f1 ∧ Stm H6 G.st b6 ∧ ButD G.st D H5 H6 ∧ ButD G.st D H1 H6 ∧
      ER G.calm S1 H6 (kill (frz env1 p1.2) vs1) (wipe σ6 vs1) os1 ∧ ER G S' H6 (kill (frz env p.2) vs) (wipe σ vs) os' ∧ (compLoop tg1 cond1 elt (kill (frz env1 p1.2) vs1) (p1.1.drop j)).all M.R0 (Fin1 rs1) b6
    refine ⟨fun j m H6 => m = p1.1.length - j ∧ j ≤ p1.1.length ∧ Pv1 j H6, ⟨p1.1.length, by simp, Nat.zero_le _, rs, us, f, b5, md5.wide fun i hi => List.mem_append_left _ hi, sm5, fun a o _ _ _ e => e, k5, E7, E55, ?_⟩, ?_⟩
    · rw [List.drop_zero]
      rw [M.all_bind] at q5
      refine M.all_mono (fun rest1 b7 z => ?_) _ _ q5
      rw [M.all_bind] at z
      refine M.all_mono (fun qq b8 w => ?_) _ _ z
      obtain ⟨w1, w2⟩ := (w : Fin rs al (rest1 ++ qq.1, p1.2 ++ qq.2) b8)
      simp only [List.length_append] at w1
      refine ⟨by simp only [List.length_append]; omega, ?_⟩
      rw [List.append_assoc, List.append_assoc]; exact w2
    rintro j m H6 ⟨rfl, hj, rs1, us1, f1, b6, md6, sm6, k56, k6, E8, E9, q6⟩
    have kp6 := kpd_of (us := us) sm5 (.inr md5.at_) hDd1 k56
    by_cases hlt1 : j < p1.1.length
    case neg =>
      have ej : j = p1.1.length := by omega
      subst ej
      refine .inl ⟨ok1.stop H6 kp6, (?_ : Pv (i + 1) H6)⟩
      rw [List.drop_length] at q6
      have q7 : Fin1 rs1 [] b6 := q6
      refine ⟨rs1, al ++ p1.2, us1, f1, b6, fun i hi => List.mem_append_left _ (hal i hi), md6, sm6, k6, E9, ?_⟩
      have q8 : (compLoop2 tg cond it1 vs1 tg1 cond1 elt (kill (frz env p.2) vs) (p.1.drop (i + 1))).all M.R0 (Fin (rs1 ++ []) (al ++ p1.2)) b6 := q7
      rw [List.append_nil] at q8
      exact q8
    refine .inr ⟨ok1.go H6 j kp6 hlt1, Pv1 (j + 1), fun H' p' => ⟨p1.1.length - (j + 1), by omega, rfl, hlt1, p'⟩, fun x1' H7 hy1 => ?_⟩
    obtain ⟨g7, d7, fd7, hd7, rd7, hfd7⟩ := ok1.yld H6 j x1' H7 kp6 hlt1 hy1
    have edr1 : p1.1.drop j = d7 :: p1.1.drop (j + 1) := by
      obtain ⟨h1, h2⟩ := List.getElem?_eq_some_iff.mp hd7
      rw [← h2]; exact List.drop_eq_getElem_cons h1
    rw [edr1] at q6
    unfold compLoop at q6
    rw [M.all_bind] at q6
    obtain ⟨env2, he2, q6⟩ := M.all_ofOption.mp q6
    have x67 : SameX G.st H6 H7 := fun a o _ _ e => g7 a o e
    have sm7 : Stm H7 G.st b6 := sm6.grow g7
    have E10 := E8.mono sm6 x67
    have E11 := E9.mono sm6 x67
    have md7 := md6.same sm6 x67 n1 n2
    have k57 : ButD G.st D H5 H7 := fun a o h1 h2 h3 e => g7 a o (k56 a o h1 h2 h3 e)
    have k7 : ButD G.st D H1 H7 := fun a o h1 h2 h3 e => g7 a o (k6 a o h1 h2 h3 e)
    refine ⟨G.calm, S1, _, env2, os1, .shr, d7, fd7, .of rfl, E10, rd7, fun c hc => fromS1 c (hfd7 c hc), he2, fun σ8 os8 E12 w8 o8 => ?_⟩
    refine ⟨(w8 vs1 hws1).trans (wipe_idem σ6 vs1), G.calm, S1, env2, os8, b6, .of rfl, E12, sm7, ?_⟩
    rw [M.all_bind] at q6
    refine M.all_mono (fun ch b8 q8 H8 x8 sm8 => ?_) _ _ q6
    have o8' : ∀ j c, c ∈ os8 j → c ∈ os1 j := fun j c hc => (o8 j c hc).elim id fun z => by cases z
    have md8 := md7.same sm7 x8 n1 n2
    have k58 : ButD G.st D H5 H8 := fun a o h1 h2 h3 e => x8 a o h1 h2 (k57 a o h1 h2 h3 e)
    have k8 : ButD G.st D H1 H8 := fun a o h1 h2 h3 e => x8 a o h1 h2 (k7 a o h1 h2 h3 e)
    cases ch with
    | false =>
      rw [if_neg Bool.false_ne_true] at q8
      refine iteF (?_ : Pv1 (j + 1) H8)
      exact ⟨rs1, us1, f1, b8, md8, sm8, k58, k8, E10.mono sm7 x8, E11.mono sm7 x8, q8⟩
    | true =>
      rw [if_pos rfl] at q8
      refine iteT ?_
      rw [M.all_bind] at q8
      refine ⟨G.calm, S1, env2, os8, b8, .of rfl, E12.mono sm7 x8, sm8, M.all_mono (fun r b9 q9 y H9 x9 sm9 ok9 => ?_) _ _ q8⟩
      obtain ⟨fr, rr, lr⟩ := ok9
      obtain ⟨nfr, aD, md9⟩ := md8.more n1 n2 sm8 sm8 (SameX.refl _) x9 (backG H8 k8 ⟨_, sm8⟩) B1.ds (fun i z => B1.dos i (o8' i D z)) B1.sub (fun i c z => B1.subo i c (o8' i c z)) rr lr
      rw [M.all_bind] at q9
      refine ⟨us1, aD, ?_, rs1 ++ [r], us1 ++ [y], f1 ++ fr, b9, md9, sm9.updL (.inr (.inl ⟨_, aD⟩)) n1 n2, ?_, ?_, ?_, ?_, ?_⟩
      · obtain ⟨rest1, b10, z⟩ := M.all_some q9
        obtain ⟨qq, b11, w⟩ := M.all_some (show (compLoop2 tg cond it1 vs1 tg1 cond1 elt (kill (frz env p.2) vs) (p.1.drop (i + 1))).all M.R0 (Fin (rs1 ++ (r :: rest1)) (al ++ p1.2)) b10 from z)
        have w1 := w.1
        have hl := md8.rep.length
        simp only [List.length_append, List.length_cons] at w1
        have : (dsOf rs1).length = rs1.length := by simp [dsOf]
        omega
      · intro a o h1 h2 h3 e
        rw [upd_ne h3]; exact x9 a o h1 h2 (k58 a o h1 h2 h3 e)
      · intro a o h1 h2 h3 e
        rw [upd_ne h3]; exact x9 a o h1 h2 (k8 a o h1 h2 h3 e)
      · exact ((E10.mono sm7 x8).mono sm8 x9).updL (.inr (.inl ⟨_, aD⟩)) B1.ds B1.dos hDG
      · exact ((E11.mono sm7 x8).mono sm8 x9).updL (.inr (.inl ⟨_, aD⟩)) B.ds B.dos hDG
      · refine M.all_mono (fun rest1 b10 z => ?_) _ _ q9
        have z' : (compLoop2 tg cond it1 vs1 tg1 cond1 elt (kill (frz env p.2) vs) (p.1.drop (i + 1))).all M.R0 (Fin (rs1 ++ (r :: rest1)) (al ++ p1.2)) b10 := z
        show (compLoop2 tg cond it1 vs1 tg1 cond1 elt (kill (frz env p.2) vs) (p.1.drop (i + 1))).all M.R0 (Fin ((rs1 ++ [r]) ++ rest1) (al ++ p1.2)) b10
        rw [List.append_assoc]
        exact z'
section
variable {X : Cx} {tg iter tg1 iter1 elt : Expr} {ifs ifs1 : List Expr} {scope : Scope} {own : List (Str × Nat)} {pos : Pos} {it it1 : Env → M (List PyData × List Nat)} {ws ws1 vs1 : List Nat} {ftg ftg1 : Lv → PyData → Env → Option Env} {fc fc1 : Env → M Bool} {fe : Env → M RV}
theorem de_comp (hc : X.calm = true) (hN : X.N.Nodup) (hi : DI X tg iter it) (ok : BlkOk X.N X.env.scope scope own) (hws : ∀ w ∈ ws, w ∈ own.map (·.2))
    (hg : ∀ (s : Shared) (H : Hp) (C : Addr) (cl : List (Str × Addr)) (fp : List Addr), DG (X.blk s H scope (compEnvC scope cl C X.env) fp) tg ws ftg)
    (ht : ∀ (s : Shared) (H : Hp) (C : Addr) (cl : List (Str × Addr)) (fp : List Addr), DTs (X.blk s H scope (compEnvC scope cl C X.env) fp) ifs fc)
    (he : ∀ (s : Shared) (H : Hp) (C : Addr) (cl : List (Str × Addr)) (fp : List Addr), DE (X.blk s H scope (compEnvC scope cl C X.env) fp) elt fe) (hs : ∀ x, foldedSetIterable iter X.env x = pure x := by intro _; rfl) :
    DE X (.ListComp elt [⟨tg, iter, ifs, 0⟩] scope pos) (vComp it (own.map (·.2)) ftg fc fe) := by
  obtain ⟨wi, hwi, qi⟩ := hi
  exact ⟨_, pe_lc hc hN hwi ok (fun s H C cl fp => (hg s H C cl fp).pg) (fun s H C cl fp => (ht s H C cl fp).run) (fun s H C cl fp => (he s H C cl fp).pe) hs, fun G S H env σ os b Q hK E sm h => comp_go (Ok := fun G => GOk G X) qi hws hK hK.K E sm h⟩
theorem de_comp2 (hc : X.calm = true) (hN : X.N.Nodup) (hi : DI X tg iter it) (ok : BlkOk X.N X.env.scope scope own) (hws : ∀ w ∈ ws, w ∈ own.map (·.2)) (hws1 : ∀ w ∈ ws1, w ∈ vs1) (hv : ∀ i ∈ vs1, i ∈ own.map (·.2))
    (hg : ∀ (s : Shared) (H : Hp) (C : Addr) (cl : List (Str × Addr)) (fp : List Addr), DG (X.blk s H scope (compEnvC scope cl C X.env) fp) tg ws ftg)
    (ht : ∀ (s : Shared) (H : Hp) (C : Addr) (cl : List (Str × Addr)) (fp : List Addr), DTs (X.blk s H scope (compEnvC scope cl C X.env) fp) ifs fc)
    (hi1 : ∀ (s : Shared) (H : Hp) (C : Addr) (cl : List (Str × Addr)) (fp : List Addr), DI (X.blk s H scope (compEnvC scope cl C X.env) fp) tg1 iter1 it1)
    (hg1 : ∀ (s : Shared) (H : Hp) (C : Addr) (cl : List (Str × Addr)) (fp : List Addr), DG (X.blk s H scope (compEnvC scope cl C X.env) fp) tg1 ws1 ftg1)
    (ht1 : ∀ (s : Shared) (H : Hp) (C : Addr) (cl : List (Str × Addr)) (fp : List Addr), DTs (X.blk s H scope (compEnvC scope cl C X.env) fp) ifs1 fc1)
    (he : ∀ (s : Shared) (H : Hp) (C : Addr) (cl : List (Str × Addr)) (fp : List Addr), DE (X.blk s H scope (compEnvC scope cl C X.env) fp) elt fe) (hs : ∀ x, foldedSetIterable iter X.env x = pure x := by intro _; rfl) (hs1 : ∀ env x, foldedSetIterable iter1 env x = pure x := by intro _ _; rfl) :
    DE X (.ListComp elt [⟨tg, iter, ifs, 0⟩, ⟨tg1, iter1, ifs1, 0⟩] scope pos) (vComp2 it (own.map (·.2)) ftg fc it1 vs1 ftg1 fc1 fe) := by
  obtain ⟨wi, hwi, qi⟩ := hi
  exact ⟨_, pe_lc2 hc hN hwi ok hv (fun s H C cl fp => (hg s H C cl fp).pg) (fun s H C cl fp => (ht s H C cl fp).run) (fun s H C cl fp => (hi1 s H C cl fp).pi) (fun s H C cl fp => (hg1 s H C cl fp).pg) (fun s H C cl fp => (ht1 s H C cl fp).run) (fun s H C cl fp => (he s H C cl fp).pe) hs hs1,
    fun G S H env σ os b Q hK E sm h => comp2_go (Ok := fun G => GOk G X) qi hws hws1 hK hK.K E sm h⟩
end
end Vm

set_option Elab.async false
set_option linter.all false
set_option maxRecDepth 100000
namespace Vm
variable [TabsC]
variable {R : Exn → Nat → Prop}
open PySem L2

/-! ### a value goes into a slot -/
/-- what the slots are behind a value's going somewhere -/
def prep (r : RV) (env : Env) : Env := match r.lv with
  | .own => kill env r.al
  | _ => frz env r.al
theorem okc_trk {G : Gx} {S : Addr → Prop} {H : Hp} {env : Env} {σ : St} {os : Nat → List Addr} (E : ER G S H env σ os) {al : List Nat} {c : Addr} (h : okc S os H al c) (n1 : c ≠ G.st.1) (n2 : Off G.st c) : (S c ∨ G.H0 c = none) ∧ ∀ i, i ∉ al → c ∉ os i := by
  refine ⟨?_, fun i hi hc => ?_⟩
  · rcases h with z | z | ⟨i, _, z⟩
    · right
      cases e : G.H0 c with
      | none => rfl
      | some o => rw [E.same c o n1 n2 e] at z; cases z
    · exact .inl z
    · exact .inr (E.fr i c z)
  · rcases h with z | z | ⟨j, hj, z⟩
    · obtain ⟨⟨o, e⟩, _⟩ := E.own_trk hc; rw [z] at e; cases e
    · exact E.ns i c hc z
    · exact E.dj i j c (fun e => hi (e ▸ hj)) hc z
theorem ER.store {G : Gx} {S : Addr → Prop} {H H' : Hp} {env : Env} {σ : St} {os : Nat → List Addr} {r : RV} {v : V} {b : Nat} (E : ER G S H env σ os) (sm : Stm H G.st b) (x : SameX G.st H H') (ok : RVok G.K G.st S os H H' r v) :
    ∃ S' os' fp, ER G S' H' (prep r env) σ os' ∧ Rep G.K G.st H' r.d v fp ∧ Free G S' os' r.lv fp ∧ (∀ c, S c → S' c) := by
  obtain ⟨fp, rp, l⟩ := ok
  have E' := E.mono sm x
  have tr := rp.trk
  cases hl : r.lv with
  | own =>
    rw [hl] at l
    have F : ER G S H' (prep r env) σ (fun i => if i ∈ r.al then [] else os i) := by
      unfold prep; rw [hl]
      exact E'.drop r.al rfl fun i _ => rfl
    refine ⟨S, _, fp, F, rp, ⟨l.1, fun c hc => ?_⟩, fun c h => h⟩
    obtain ⟨⟨o, ho⟩, n1, n2⟩ := tr c hc
    have oc : okc S os H r.al c := (l.2 c hc).okc
    obtain ⟨q1, q2⟩ := okc_trk E oc n1 n2
    refine ⟨fun hs => ?_, fun i hi => ?_, ?_⟩
    · rcases l.2 c hc with z | ⟨j, hj, z⟩
      · obtain ⟨⟨o', e⟩, _⟩ := E.trk c hs; rw [z] at e; cases e
      · exact E.ns j c z hs
    · simp only at hi
      split at hi
      · cases hi
      · rename_i hn
        exact q2 i hn hi
    · rcases q1 with z | z
      · rcases l.2 c hc with w | ⟨j, hj, w⟩
        · obtain ⟨⟨o', e⟩, _⟩ := E.trk c z; rw [w] at e; cases e
        · exact E.fr j c w
      · exact z
  | shr =>
    rw [hl] at l
    have F := E'.freeze (F := fun c => c ∈ fp) r.al fun c hc => by
      obtain ⟨k1, n1, n2⟩ := tr c hc
      obtain ⟨q1, q2⟩ := okc_trk E (l c hc) n1 n2
      exact ⟨k1, n1, n2, q1, q2⟩
    have F' : ER G (fun c => S c ∨ c ∈ fp ∨ ∃ i ∈ r.al, c ∈ os i) H' (prep r env) σ (fun i => if i ∈ r.al then [] else os i) := by
      unfold prep; rw [hl]
      exact F
    exact ⟨_, _, fp, F', rp, fun c hc => Or.inr (Or.inl hc), fun c h => Or.inl h⟩
  | top =>
    rw [hl] at l
    obtain ⟨a, f, e, na, fa, hf⟩ := l
    subst e
    have F := E'.freeze (F := fun c => c ∈ f) r.al fun c hc => by
      obtain ⟨k1, n1, n2⟩ := tr c (List.mem_cons_of_mem _ hc)
      obtain ⟨q1, q2⟩ := okc_trk E (hf c hc) n1 n2
      exact ⟨k1, n1, n2, q1, q2⟩
    obtain ⟨k1, n1, n2⟩ := tr a List.mem_cons_self
    have F' : ER G (fun c => S c ∨ c ∈ f ∨ ∃ i ∈ r.al, c ∈ os i) H' (prep r env) σ (fun i => if i ∈ r.al then [] else os i) := by
      unfold prep; rw [hl]
      exact F
    refine ⟨_, _, a :: f, F', rp, ⟨a, f, rfl, na, fun c hc => Or.inr (Or.inl hc), ?_, ?_, ?_⟩, fun c h => Or.inl h⟩
    · rintro (z | z | ⟨i, _, z⟩)
      · obtain ⟨⟨o, e⟩, _⟩ := E.trk a z; rw [fa] at e; cases e
      · exact na z
      · obtain ⟨⟨o, e⟩, _⟩ := E.own_trk z; rw [fa] at e; cases e
    · intro i hi
      simp only at hi
      split at hi
      · cases hi
      · obtain ⟨⟨o, e⟩, _⟩ := E.own_trk hi; rw [fa] at e; cases e
    · cases e : G.H0 a with
      | none => rfl
      | some o => rw [E.same a o n1 n2 e] at fa; cases fa

/-! ### statements -/
inductive Fl where
  | nx | brk | cnt
  | ret (d : PyData) (lv : Lv)
/-- what is handed back -/
def RetG (G : Gx) (d : PyData) (lv : Lv) (v : V) (H : Hp) : Prop :=
  ∃ fp, Rep G.K G.st H d v fp ∧ (match lv with
    | .shr => ∀ c ∈ fp, G.S0 c ∨ G.H0 c = none
    | .top => ∃ a f, fp = a :: f ∧ a ∉ f ∧ G.H0 a = none ∧ ∀ c ∈ f, G.S0 c ∨ G.H0 c = none
    | .own => fp.Nodup ∧ ∀ c ∈ fp, G.H0 c = none)
def SPost (G : Gx) (S : Addr → Prop) (H : Hp) (D : Ends) : Fl × Env → Nat → Prop := fun p b' => match p.1 with
  | .nx => ∀ σ' H' S' os', (∀ c, S c → S' c) → KpD S H H' → ER G S' H' p.2 σ' os' → Stm H' G.st b' → D.nx σ' H'
  | .brk => ∀ σ' H' S' os', (∀ c, S c → S' c) → KpD S H H' → ER G S' H' p.2 σ' os' → Stm H' G.st b' → D.bk σ' H'
  | .cnt => ∀ σ' H' S' os', (∀ c, S c → S' c) → KpD S H H' → ER G S' H' p.2 σ' os' → Stm H' G.st b' → D.ct σ' H'
  | .ret d lv => ∀ v H', SameX G.st G.H0 H' → Stm H' G.st b' → RetG G d lv v H' → D.rt v H'
theorem SPost.later {G : Gx} {S S1 : Addr → Prop} {H H1 : Hp} {D : Ends} (hs : ∀ c, S c → S1 c) (hk : KpD S H H1) {p : Fl × Env} {b : Nat} (h : SPost G S H D p b) : SPost G S1 H1 D p b := by
  obtain ⟨fl, e⟩ := p
  cases fl with
  | nx => exact fun σ' H' S' os' q1 q2 q3 q4 => h σ' H' S' os' (fun c z => q1 c (hs c z)) (hk.trans (q2.weak hs)) q3 q4
  | brk => exact fun σ' H' S' os' q1 q2 q3 q4 => h σ' H' S' os' (fun c z => q1 c (hs c z)) (hk.trans (q2.weak hs)) q3 q4
  | cnt => exact fun σ' H' S' os' q1 q2 q3 q4 => h σ' H' S' os' (fun c z => q1 c (hs c z)) (hk.trans (q2.weak hs)) q3 q4
  | ret d lv => exact h
structure DS (X : Cx) (st : Stmt) (f : Env → M (Fl × Env)) : Prop where
  run : ∃ t, PS X st t ∧ ∀ (G : Gx) (S : Addr → Prop) (H : Hp) (env : Env) (σ : St) (os : Nat → List Addr) (b : Nat) (D : Ends), GOk G X → ER G S H env σ os → Stm H G.st b → (f env).all G.R (SPost G S H D) b → t D σ H
structure DSs (X : Cx) (st : List Stmt) (f : Env → M (Fl × Env)) : Prop where
  run : ∃ t, PSs X st t ∧ ∀ (G : Gx) (S : Addr → Prop) (H : Hp) (env : Env) (σ : St) (os : Nat → List Addr) (b : Nat) (D : Ends), GOk G X → ER G S H env σ os → Stm H G.st b → (f env).all G.R (SPost G S H D) b → t D σ H
theorem SameX.kpS {G : Gx} {S : Addr → Prop} {H H' : Hp} {env : Env} {σ : St} {os : Nat → List Addr} {b : Nat} (E : ER G S H env σ os) (sm : Stm H G.st b) (x : SameX G.st H H') : KpD S H H' := x.kp sm fun a h => (E.trk a h).2
def sNil (env : Env) : M (Fl × Env) := .ret (.nx, env)
def sCons (f g : Env → M (Fl × Env)) (env : Env) : M (Fl × Env) := f env >>= fun p => match p.1 with
  | .nx => g p.2
  | _ => .ret p
section
variable {X : Cx} {st : Stmt} {rest body body2 : List Stmt} {f g : Env → M (Fl × Env)} {e tg : Expr} {fe : Env → M RV} {c : Env → M Bool} {pos : Pos}
theorem dss_nil : DSs X [] sNil := ⟨_, pss_nil, fun G S H env σ os b D hK E sm h => h σ H S os (fun _ z => z) (KpD.refl _) E sm⟩
theorem dss_cons (h1 : DS X st f) (h2 : DSs X rest g) : DSs X (st :: rest) (sCons f g) := by
  obtain ⟨t, ht, qt⟩ := h1
  obtain ⟨u, hu, qu⟩ := h2
  refine ⟨_, pss_cons ht hu, fun G S H env σ os b D hK E sm h => ?_⟩
  unfold sCons at h
  rw [M.all_bind] at h
  refine qt G S H env σ os b _ hK E sm (M.all_mono (fun p b1 h1 => ?_) _ _ h)
  obtain ⟨fl, env1⟩ := p
  cases fl with
  | nx =>
    intro σ' H' S' os' q1 q2 q3 q4
    exact qu G S' H' env1 σ' os' b1 D hK q3 q4 (M.all_mono (fun p b2 h2 => h2.later q1 q2) _ _ h1)
  | brk => exact h1
  | cnt => exact h1
  | ret d lv => exact h1
theorem ds_pass : DS X (.Pass pos) sNil := ⟨_, ps_pass, fun G S H env σ os b D hK E sm h => h σ H S os (fun _ z => z) (KpD.refl _) E sm⟩
def sBrk (env : Env) : M (Fl × Env) := .ret (.brk, env)
def sCnt (env : Env) : M (Fl × Env) := .ret (.cnt, env)
theorem ds_break : DS X (.Break pos) sBrk := ⟨_, ps_break, fun G S H env σ os b D hK E sm h => h σ H S os (fun _ z => z) (KpD.refl _) E sm⟩
theorem ds_continue : DS X (.Continue pos) sCnt := ⟨_, ps_continue, fun G S H env σ os b D hK E sm h => h σ H S os (fun _ z => z) (KpD.refl _) E sm⟩
/-- code that is never come to -/
def sNever (_ : Env) : M (Fl × Env) := .stuck
theorem ds_never : DS X st sNever := ⟨_, ps_never, fun G S H env σ os b D hK E sm h => h.elim⟩
theorem dss_never : DSs X rest sNever := ⟨_, pss_never, fun G S H env σ os b D hK E sm h => h.elim⟩
/-- an expression whose value is dropped -/
def sDrop (f : Env → M RV) (env : Env) : M (Fl × Env) := f env >>= fun _ => .ret (.nx, env)
theorem ds_expr (he : DE X e fe) (hs : swapsWith e none pos.line X.env = pure false := by rfl) : DS X (.Expr e pos) (sDrop fe) := by
  obtain ⟨t, ht, qt⟩ := he
  refine ⟨_, ps_expr ht hs, fun G S H env σ os b D hK E sm h => ?_⟩
  unfold sDrop at h
  rw [M.all_bind] at h
  exact qt G S H env σ os b _ hK E sm (M.all_mono (fun r b1 h1 v H1 x1 sm1 ok1 => h1 σ H1 S os (fun _ z => z) (x1.kpS E sm) (E.mono sm x1) sm1) _ _ h)
/-- return e: what is ours alone goes out as ours -/
def sRet (f : Env → M RV) (env : Env) : M (Fl × Env) := f env >>= fun r => .ret (.ret r.d r.lv, env)
theorem ret_ok {G : Gx} {S : Addr → Prop} {H H1 : Hp} {env : Env} {σ : St} {os : Nat → List Addr} {b : Nat} {r : RV} {v : V} (E : ER G S H env σ os) (sm : Stm H G.st b) (ok : RVok G.K G.st S os H H1 r v) : RetG G r.d r.lv v H1 := by
  obtain ⟨fp, rp, l⟩ := ok
  have back : ∀ c, c ≠ G.st.1 → Off G.st c → H c = none → G.H0 c = none := fun c n1 n2 z => by
    cases e : G.H0 c with
    | none => rfl
    | some o => rw [E.same c o n1 n2 e] at z; cases z
  have oc : ∀ c ∈ fp, okc S os H r.al c → G.S0 c ∨ G.H0 c = none := fun c hc z => by
    obtain ⟨_, n1, n2⟩ := rp.trk c hc
    rcases z with z | z | ⟨i, _, z⟩
    · exact .inr (back c n1 n2 z)
    · exact E.sub c z
    · exact .inr (E.fr i c z)
  refine ⟨fp, rp, ?_⟩
  cases hl : r.lv with
  | shr =>
    rw [hl] at l
    exact fun c hc => oc c hc (l c hc)
  | top =>
    rw [hl] at l
    obtain ⟨a, f, e, na, fa, hf⟩ := l
    obtain ⟨_, n1, n2⟩ := rp.trk a (by rw [e]; exact List.mem_cons_self)
    exact ⟨a, f, e, na, back a n1 n2 fa, fun c hc => oc c (by rw [e]; exact List.mem_cons_of_mem _ hc) (hf c hc)⟩
  | own =>
    rw [hl] at l
    refine ⟨l.1, fun c hc => ?_⟩
    obtain ⟨_, n1, n2⟩ := rp.trk c hc
    rcases l.2 c hc with z | ⟨i, _, z⟩
    · exact back c n1 n2 z
    · exact E.fr i c z
theorem ds_ret (he : DE X e fe) : DS X (.Return (some e) pos) (sRet fe) := by
  obtain ⟨t, ht, qt⟩ := he
  refine ⟨_, ps_ret ht, fun G S H env σ os b D hK E sm h => ?_⟩
  unfold sRet at h
  rw [M.all_bind] at h
  exact qt G S H env σ os b _ hK E sm (M.all_mono (fun r b1 h1 v H1 x1 sm1 ok1 => h1 v H1 (E.same.trans x1) sm1 (ret_ok E sm (hK.K ▸ ok1))) _ _ h)
def sRetN (env : Env) : M (Fl × Env) := .ret (.ret .none .own, env)
theorem ds_retN : DS X (.Return none pos) sRetN := ⟨_, ps_retN, fun G S H env σ os b D hK E sm h => h .non H E.same sm ⟨[], Rep.of_none, List.nodup_nil, fun c hc => by cases hc⟩⟩
/-- if -/
def sIf (c : Env → M Bool) (f g : Env → M (Fl × Env)) (env : Env) : M (Fl × Env) := c env >>= fun x => if x then f env else g env
theorem ds_if (hc : DT X e c) (h1 : DSs X body f) (h2 : DSs X body2 g) : DS X (.If e body body2 pos) (sIf c f g) := by
  obtain ⟨t, ht, qt⟩ := hc
  obtain ⟨u, hu, qu⟩ := h1
  obtain ⟨w, hw, qw⟩ := h2
  refine ⟨_, ps_if ht hu hw, fun G S H env σ os b D hK E sm h => ?_⟩
  unfold sIf at h
  rw [M.all_bind] at h
  refine qt G S H env σ os b _ hK E sm (M.all_mono (fun x b1 h1 H1 x1 sm1 => ?_) _ _ h)
  cases x with
  | true =>
    rw [if_pos rfl] at h1
    exact iteT (qu G S H1 env σ os b1 D hK (E.mono sm x1) sm1 (M.all_mono (fun p b2 h2 => h2.later (fun _ z => z) (x1.kpS E sm)) _ _ h1))
  | false =>
    rw [if_neg Bool.false_ne_true] at h1
    exact iteF (qw G S H1 env σ os b1 D hK (E.mono sm x1) sm1 (M.all_mono (fun p b2 h2 => h2.later (fun _ z => z) (x1.kpS E sm)) _ _ h1))
/-- target = e -/
def sAsg (ft : Lv → PyData → Env → Option Env) (f : Env → M RV) (env : Env) : M (Fl × Env) := f env >>= fun r => M.ofOption (ft r.lv r.d (prep r env)) >>= fun env' => .ret (.nx, env')
theorem asg_go {te : TE} {gt : TG} {ws : List Nat} {ft : Lv → PyData → Env → Option Env}
    (qe : ∀ (G : Gx) (S : Addr → Prop) (H : Hp) (env : Env) (σ : St) (os : Nat → List Addr) (b : Nat) (Q : VK), GOk G X → ER G S H env σ os → Stm H G.st b → (fe env).all G.R (Post X.K G.st S os H Q) b → te σ H Q)
    (qg : ∀ (G : Gx) (S : Addr → Prop) (H : Hp) (env env' : Env) (σ : St) (os : Nat → List Addr) (lv : Lv) (d : PyData) (v : V) (fp : List Addr) (Q : St → Hp → Prop), GOk G X → ER G S H env σ os → Rep X.K G.st H d v fp → Free G S os lv fp →
      ft lv d env = some env' → TgPost G S H env' σ os ws (ownOf lv fp) Q → gt v σ H Q)
    {G : Gx} {S : Addr → Prop} {H : Hp} {env : Env} {σ : St} {os : Nat → List Addr} {b : Nat} {D : Ends} (hK : GOk G X) (E : ER G S H env σ os) (sm : Stm H G.st b) (h : (sAsg ft fe env).all G.R (SPost G S H D) b) : tAsg te gt D σ H := by
  unfold sAsg at h
  rw [M.all_bind] at h
  refine qe G S H env σ os b _ hK E sm (M.all_mono (fun r b1 h1 v H1 x1 sm1 ok1 => ?_) _ _ h)
  rw [M.all_bind] at h1
  obtain ⟨env', he, h1⟩ := M.all_ofOption.mp h1
  obtain ⟨S', os', fp, E1, rp, fr, hs⟩ := E.store sm x1 (hK.K ▸ ok1)
  refine qg G S' H1 _ env' σ os' r.lv r.d v fp _ hK E1 (hK.K ▸ rp) fr he fun σ2 os2 E2 _ _ => ?_
  exact h1 σ2 H1 S' os2 hs (x1.kpS E sm) E2 sm1
theorem ds_asg {ws : List Nat} {ft : Lv → PyData → Env → Option Env} (he : DE X e fe) (hg : DG X tg ws ft) (hs : swapsWithSole [tg] e pos.line X.env = pure false := by rfl) (hw : swappedStores [tg] e X.env = pure none := by rfl)
    (h1 : (assignEach [tg] X.env).map (·.2) = [assign tg X.env] := by rfl) : DS X (.Assign [tg] e pos) (sAsg ft fe) := by
  obtain ⟨t, ht, qt⟩ := he
  obtain ⟨u, hu, qu⟩ := hg
  exact ⟨_, ps_asg ht hu hs hw h1, fun G S H env σ os b D hK E sm h => asg_go qt qu hK E sm h⟩
theorem gname_go {i : Nat} : ∀ (G : Gx) (S : Addr → Prop) (H : Hp) (env env' : Env) (σ : St) (os : Nat → List Addr) (lv : Lv) (d : PyData) (v : V) (fp : List Addr) (Q : St → Hp → Prop), GOk G X → ER G S H env σ os → Rep X.K G.st H d v fp → Free G S os lv fp →
      tgName i lv d env = some env' → TgPost G S H env' σ os [i] (ownOf lv fp) Q → gName i v σ H Q := by
  intro G S H env env' σ os lv d v fp Q hK E r fr h q
  unfold tgName at h
  by_cases hl : i < env.length
  · rw [if_pos hl] at h
    have e := Option.some.inj h
    subst e
    refine q _ _ (E.set hl (hK.K ▸ r) fr) (fun vs hv => wipe_set_in (hv i (by simp))) (fun j c hc => ?_)
    by_cases hj : j = i
    · simp only [hj, if_true] at hc; exact .inr hc
    · simp only [hj, if_false] at hc; exact .inl hc
  · rw [if_neg hl] at h
    cases h
theorem ds_set {i : Nat} {x : Str} {pos' : Pos} (hN : X.N.Nodup) (hi : X.N[i]? = some x) (hx : Loc X.env.scope x) (he : DE X e fe) (hs : swapsWith e (some (.Name x pos')) pos.line X.env = pure false := by rfl) (hf : X.fn x = true ∨ X.env.scope.names.lookup x = some .local := by first | exact .inl rfl | exact .inr rfl | assumption) :
    DS X (.Assign [.Name x pos'] e pos) (sAsg (tgName i) fe) := by
  obtain ⟨t, ht, qt⟩ := he
  exact ⟨_, ps_set hN hi hx ht hs hf, fun G S H env σ os b D hK E sm h => asg_go qt gname_go hK E sm h⟩
end
end Vm

set_option Elab.async false
set_option linter.all false
set_option maxRecDepth 100000
namespace Vm
variable [TabsC]
open PySem L2

/-! ### loops -/
def forLoop (tg : Lv → PyData → Env → Option Env) (body : Env → M (Fl × Env)) : List PyData → Env → M (Fl × Env)
  | [], env => .ret (.nx, env)
  | d :: ds, env => M.ofOption (tg .shr d env) >>= fun env1 => body env1 >>= fun q => match q.1 with
    | .nx => forLoop tg body ds q.2
    | .cnt => forLoop tg body ds q.2
    | .brk => .ret (.nx, q.2)
    | .ret _ _ => .ret q
def sFor (it : Env → M (List PyData × List Nat)) (tg : Lv → PyData → Env → Option Env) (body : Env → M (Fl × Env)) (env : Env) : M (Fl × Env) := it env >>= fun p => forLoop tg body p.1 (frz env p.2)
def whileLoop (c : Env → M Bool) (body : Env → M (Fl × Env)) : Nat → Env → M (Fl × Env)
  | 0, _ => .stuck
  | n + 1, env => c env >>= fun x => if x then body env >>= fun q => match q.1 with
      | .nx => whileLoop c body n q.2
      | .cnt => whileLoop c body n q.2
      | .brk => .ret (.nx, q.2)
      | .ret _ _ => .ret q
    else .ret (.nx, env)
section
variable {X : Cx} {st : Stmt} {rest body body2 : List Stmt} {f g : Env → M (Fl × Env)} {e tg iter : Expr} {fe : Env → M RV} {c : Env → M Bool} {pos : Pos}
theorem ds_while (n : Nat) (hp : PassesOwn (model X.prog X.w) X.A X.env X.xe) (hc : DT X e c) (hb : DSs X body f) : DS X (.While e body [] pos) (whileLoop c f n) := by
  obtain ⟨t, ht, qt⟩ := hc
  obtain ⟨u, hu, qu⟩ := hb
  refine ⟨_, ps_while hp ht hu, fun G S H env σ os b D hK E sm h => ?_⟩
  refine ⟨fun m σ2 H2 => ∃ env2 S2 os2 b2, (∀ z, S z → S2 z) ∧ KpD S H H2 ∧ ER G S2 H2 env2 σ2 os2 ∧ Stm H2 G.st b2 ∧ (whileLoop c f m env2).all G.R (SPost G S H D) b2, ⟨n, env, S, os, b, fun _ z => z, KpD.refl _, E, sm, h⟩, ?_⟩
  rintro m σ2 H2 ⟨env2, S2, os2, b2, hs, hk, E2, sm2, q⟩
  cases m with
  | zero => exact q.elim
  | succ m =>
    unfold whileLoop at q
    rw [M.all_bind] at q
    refine qt G S2 H2 env2 σ2 os2 b2 _ hK E2 sm2 (M.all_mono (fun x b3 q3 H3 x3 sm3 => ?_) _ _ q)
    have hk3 : KpD S H H3 := hk.trans ((x3.kpS E2 sm2).weak hs)
    cases x with
    | false =>
      rw [if_neg Bool.false_ne_true] at q3
      refine iteF (?_ : D.nx σ2 H3)
      exact q3 σ2 H3 S2 os2 hs hk3 (E2.mono sm2 x3) sm3
    | true =>
      rw [if_pos rfl] at q3
      refine iteT ⟨fun σ' H' => ∃ env2 S2 os2 b2, (∀ z, S z → S2 z) ∧ KpD S H H' ∧ ER G S2 H' env2 σ' os2 ∧ Stm H' G.st b2 ∧ (whileLoop c f m env2).all G.R (SPost G S H D) b2, fun σ' H' w => ⟨m, Nat.lt_succ_self m, w⟩, ?_⟩
      rw [M.all_bind] at q3
      refine qu G S2 H3 env2 σ2 os2 b3 _ hK (E2.mono sm2 x3) sm3 (M.all_mono (fun p b4 q4 => ?_) _ _ q3)
      obtain ⟨fl, env4⟩ := p
      cases fl with
      | nx => exact fun σ' H' S' os' h1 h2 h3 h4 => ⟨env4, S', os', b4, fun z hz => h1 z (hs z hz), hk3.trans (h2.weak hs), h3, h4, q4⟩
      | cnt => exact fun σ' H' S' os' h1 h2 h3 h4 => ⟨env4, S', os', b4, fun z hz => h1 z (hs z hz), hk3.trans (h2.weak hs), h3, h4, q4⟩
      | brk => exact fun σ' H' S' os' h1 h2 h3 h4 => q4 σ' H' S' os' (fun z hz => h1 z (hs z hz)) (hk3.trans (h2.weak hs)) h3 h4
      | ret d lv => exact q4
theorem ds_for {ws : List Nat} {ft : Lv → PyData → Env → Option Env} {it : Env → M (List PyData × List Nat)} (hp : PassesOwn (model X.prog X.w) X.A X.env X.xe) (hc : X.calm = true) (hi : DI X tg iter it) (hg : DG X tg ws ft) (hb : DSs X body f)
    (hs : ∀ x, foldedSetIterable iter X.env x = pure x := by intro _; rfl) : DS X (.For tg iter body [] pos) (sFor it ft f) := by
  obtain ⟨wi, hwi, qi⟩ := hi
  obtain ⟨gt, hgt, qg⟩ := hg
  obtain ⟨u, hu, qu⟩ := hb
  refine ⟨_, ps_for hp hc hwi hgt hu hs, fun G S H env σ os b D hK E sm h => ?_⟩
  unfold sFor at h
  rw [M.all_bind] at h
  refine qi G S H env σ os b _ hK E sm (M.all_mono (fun p b1 h1 J H1 Dep x1 sm1 ok dep => ?_) _ _ h)
  have E1 := blk_of (vs := []) E sm x1 dep
  have e0 : (fun i => if i ∈ ([] : List Nat) then [] else (fun i => if i ∈ p.2 then [] else os i) i) = (fun i => if i ∈ p.2 then [] else os i) := by funext i; simp
  rw [e0] at E1
  have hs1 : ∀ z, S z → (fun c => S c ∨ Dep c ∨ ∃ i ∈ p.2, c ∈ os i) z := fun z hz => Or.inl hz
  have hd1 : ∀ z, Dep z → (fun c => S c ∨ Dep c ∨ ∃ i ∈ p.2, c ∈ os i) z := fun z hz => Or.inr (Or.inl hz)
  have E1' : ER G (fun c => S c ∨ Dep c ∨ ∃ i ∈ p.2, c ∈ os i) H1 (frz env p.2) σ (fun i => if i ∈ p.2 then [] else os i) := E1
  clear E1
  generalize (fun c => S c ∨ Dep c ∨ ∃ i ∈ p.2, c ∈ os i) = S1 at E1' hs1 hd1
  generalize (fun i => if i ∈ p.2 then [] else os i) = os1 at E1'
  have hk1 : KpD S H H1 := x1.kpS E sm
  let Wv : Nat → St → Hp → Prop := fun i σ2 H2 => ∃ env2 S2 os2 b2, (∀ z, S1 z → S2 z) ∧ KpD S1 H1 H2 ∧ ER G S2 H2 env2 σ2 os2 ∧ Stm H2 G.st b2 ∧ (forLoop ft f (p.1.drop i) env2).all G.R (SPost G S H D) b2
  refine ⟨fun i m σ2 H2 => m = p.1.length - i ∧ i ≤ p.1.length ∧ Wv i σ2 H2, ⟨p.1.length, by simp, Nat.zero_le _, _, S1, os1, b1, fun _ z => z, KpD.refl _, E1', sm1, by rw [List.drop_zero]; exact h1⟩, ?_⟩
  rintro i m σ2 H2 ⟨rfl, hi, env2, S2, os2, b2, hs2, hk2, E2, sm2, q⟩
  have hkd : KpD Dep H1 H2 := hk2.weak hd1
  have hk02 : KpD S H H2 := hk1.trans (hk2.weak hs1)
  by_cases hlt : i < p.1.length
  case neg =>
    have ei : i = p.1.length := by omega
    subst ei
    refine .inl ⟨ok.stop H2 hkd, ?_⟩
    rw [List.drop_length] at q
    exact q σ2 H2 S2 os2 (fun z hz => hs2 z (hs1 z hz)) hk02 E2 sm2
  refine .inr ⟨ok.go H2 i hkd hlt, Wv (i + 1), fun σ' H' w => ⟨p.1.length - (i + 1), by omega, rfl, hlt, w⟩, fun x H3 hy => ?_⟩
  obtain ⟨g1, d, fd, hd, rd, hfd⟩ := ok.yld H2 i x H3 hkd hlt hy
  have edr : p.1.drop i = d :: p.1.drop (i + 1) := by
    obtain ⟨h1, h2⟩ := List.getElem?_eq_some_iff.mp hd
    rw [← h2]; exact List.drop_eq_getElem_cons h1
  rw [edr] at q
  unfold forLoop at q
  rw [M.all_bind] at q
  obtain ⟨env3, he3, q⟩ := M.all_ofOption.mp q
  have x23 : SameX G.st H2 H3 := fun a o _ _ e => g1 a o e
  have sm3 : Stm H3 G.st b2 := sm2.grow g1
  have E3 := E2.mono sm2 x23
  have hk13 : KpD S1 H1 H3 := hk2.trans ((x23.kpS E2 sm2).weak hs2)
  refine qg G S2 H3 env2 env3 σ2 os2 .shr d x fd _ hK E3 (hK.K ▸ rd) (fun z hz => hs2 z (hd1 z (hfd z hz))) he3 fun σ4 os4 E4 _ _ => ?_
  rw [M.all_bind] at q
  refine qu G S2 H3 env3 σ4 os4 b2 _ hK E4 sm3 (M.all_mono (fun r b4 q4 => ?_) _ _ q)
  obtain ⟨fl, env5⟩ := r
  cases fl with
  | nx => exact fun σ' H' S' os' k1 k2 k3 k4 => ⟨env5, S', os', b4, fun z hz => k1 z (hs2 z hz), hk13.trans (k2.weak hs2), k3, k4, q4⟩
  | cnt => exact fun σ' H' S' os' k1 k2 k3 k4 => ⟨env5, S', os', b4, fun z hz => k1 z (hs2 z hz), hk13.trans (k2.weak hs2), k3, k4, q4⟩
  | brk => exact fun σ' H' S' os' k1 k2 k3 k4 => q4 σ' H' S' os' (fun z hz => k1 z (hs2 z (hs1 z hz))) (hk1.trans ((hk13.trans (k2.weak hs2)).weak hs1)) k3 k4
  | ret d lv => exact q4
/-! y = [..] on one line -/
variable {tg1 iter1 elt : Expr} {ifs ifs1 : List Expr} {scope : Scope} {own : List (Str × Nat)} {it it1 : Env → M (List PyData × List Nat)} {ws ws1 vs1 : List Nat} {ftg ftg1 : Lv → PyData → Env → Option Env} {fc fc1 : Env → M Bool} {py spos : Pos} {y : Str} {i : Nat}
theorem ds_setLc (hc : X.calm = true) (hN : X.N.Nodup) (hy : X.N[i]? = some y) (hyl : X.env.scope.names.lookup y = some .local) (hsw : swapsWith (.ListComp elt [⟨tg, iter, ifs, 0⟩] scope pos) (some (.Name y py)) spos.line X.env = pure true)
    (hi : DI X tg iter it) (ok : BlkOk X.N X.env.scope scope own) (hws : ∀ w ∈ ws, w ∈ own.map (·.2))
    (hg : ∀ (s : Shared) (H : Hp) (C : Addr) (cl : List (Str × Addr)) (fp : List Addr), DG (X.blk s H scope (compEnvC scope cl C X.env) fp) tg ws ftg)
    (ht : ∀ (s : Shared) (H : Hp) (C : Addr) (cl : List (Str × Addr)) (fp : List Addr), DTs (X.blk s H scope (compEnvC scope cl C X.env) fp) ifs fc)
    (he : ∀ (s : Shared) (H : Hp) (C : Addr) (cl : List (Str × Addr)) (fp : List Addr), DE (X.blk s H scope (compEnvC scope cl C X.env) fp) elt fe) (hs : ∀ x, foldedSetIterable iter X.env x = pure x := by intro _; rfl) :
    DS X (.Assign [.Name y py] (.ListComp elt [⟨tg, iter, ifs, 0⟩] scope pos) spos) (sAsg (tgName i) (vComp it (own.map (·.2)) ftg fc fe)) := by
  obtain ⟨wi, hwi, qi⟩ := hi
  refine ⟨_, ps_setLc (g := gOf X.K ws ftg) (tt := ttOf X.K fc) (te := tOf X.K fe) hc hN hy hyl hsw hwi ok (fun s H C cl fp => (hg s H C cl fp).pg) (fun s H C cl fp => (ht s H C cl fp).run) (fun s H C cl fp => (he s H C cl fp).pe) hs, fun G S H env σ os b D hK E sm h => ?_⟩
  exact asg_go (fe := vComp it (own.map (·.2)) ftg fc fe) (fun G S H env σ os b Q hK E sm h => comp_go (Ok := fun G => GOk G X) qi hws hK hK.K E sm h) gname_go hK E sm h
theorem ds_setLc2 (hc : X.calm = true) (hN : X.N.Nodup) (hy : X.N[i]? = some y) (hyl : X.env.scope.names.lookup y = some .local) (hsw : swapsWith (.ListComp elt [⟨tg, iter, ifs, 0⟩, ⟨tg1, iter1, ifs1, 0⟩] scope pos) (some (.Name y py)) spos.line X.env = pure true)
    (hi : DI X tg iter it) (ok : BlkOk X.N X.env.scope scope own) (hws : ∀ w ∈ ws, w ∈ own.map (·.2)) (hws1 : ∀ w ∈ ws1, w ∈ vs1) (hv : ∀ i ∈ vs1, i ∈ own.map (·.2))
    (hg : ∀ (s : Shared) (H : Hp) (C : Addr) (cl : List (Str × Addr)) (fp : List Addr), DG (X.blk s H scope (compEnvC scope cl C X.env) fp) tg ws ftg)
    (ht : ∀ (s : Shared) (H : Hp) (C : Addr) (cl : List (Str × Addr)) (fp : List Addr), DTs (X.blk s H scope (compEnvC scope cl C X.env) fp) ifs fc)
    (hi1 : ∀ (s : Shared) (H : Hp) (C : Addr) (cl : List (Str × Addr)) (fp : List Addr), DI (X.blk s H scope (compEnvC scope cl C X.env) fp) tg1 iter1 it1)
    (hg1 : ∀ (s : Shared) (H : Hp) (C : Addr) (cl : List (Str × Addr)) (fp : List Addr), DG (X.blk s H scope (compEnvC scope cl C X.env) fp) tg1 ws1 ftg1)
    (ht1 : ∀ (s : Shared) (H : Hp) (C : Addr) (cl : List (Str × Addr)) (fp : List Addr), DTs (X.blk s H scope (compEnvC scope cl C X.env) fp) ifs1 fc1)
    (he : ∀ (s : Shared) (H : Hp) (C : Addr) (cl : List (Str × Addr)) (fp : List Addr), DE (X.blk s H scope (compEnvC scope cl C X.env) fp) elt fe) (hs : ∀ x, foldedSetIterable iter X.env x = pure x := by intro _; rfl) (hs1 : ∀ env x, foldedSetIterable iter1 env x = pure x := by intro _ _; rfl) :
    DS X (.Assign [.Name y py] (.ListComp elt [⟨tg, iter, ifs, 0⟩, ⟨tg1, iter1, ifs1, 0⟩] scope pos) spos) (sAsg (tgName i) (vComp2 it (own.map (·.2)) ftg fc it1 vs1 ftg1 fc1 fe)) := by
  obtain ⟨wi, hwi, qi⟩ := hi
  refine ⟨_, ps_setLc2 (g := gOf X.K ws ftg) (tt := ttOf X.K fc) (wi1 := iOf X.K it1) (g1 := gOf X.K ws1 ftg1) (tt1 := ttOf X.K fc1) (te := tOf X.K fe) hc hN hy hyl hsw hwi ok hv (fun s H C cl fp => (hg s H C cl fp).pg) (fun s H C cl fp => (ht s H C cl fp).run) (fun s H C cl fp => (hi1 s H C cl fp).pi) (fun s H C cl fp => (hg1 s H C cl fp).pg) (fun s H C cl fp => (ht1 s H C cl fp).run) (fun s H C cl fp => (he s H C cl fp).pe) hs hs1, fun G S H env σ os b D hK E sm h => ?_⟩
  exact asg_go (fe := vComp2 it (own.map (·.2)) ftg fc it1 vs1 ftg1 fc1 fe) (fun G S H env σ os b Q hK E sm h => comp2_go (Ok := fun G => GOk G X) qi hws hws1 hK hK.K E sm h) gname_go hK E sm h
end

/-! ### calls of the text's own defs -/
abbrev Fn := List (Option PyData) → M (PyData × Lv)
def ArgsOk (K : PySem.W.Frag) (st : StA) (H : Hp) : List (Option PyData) → List V → List (List Addr) → Prop
  | [], vs, fps => vs = [] ∧ fps = []
  | none :: ds, vs, fps => ∃ vr fr, vs = .ref st.1 :: vr ∧ fps = [] :: fr ∧ ArgsOk K st H ds vr fr
  | some d :: ds, vs, fps => ∃ v vr fp fr, vs = v :: vr ∧ fps = fp :: fr ∧ Rep K st H d v fp ∧ ArgsOk K st H ds vr fr
theorem ArgsOk.length {K : PySem.W.Frag} {st : StA} {H : Hp} : ∀ {ds : List (Option PyData)} {vs : List V} {fps : List (List Addr)}, ArgsOk K st H ds vs fps → vs.length = ds.length ∧ fps.length = ds.length
  | [], _, _, h => by rw [h.1, h.2]; exact ⟨rfl, rfl⟩
  | none :: ds, _, _, h => by
    obtain ⟨vr, fr, e1, e2, h⟩ := h
    have := h.length
    rw [e1, e2]; simp [this.1, this.2]
  | some d :: ds, _, _, h => by
    obtain ⟨v, vr, fp, fr, e1, e2, _, h⟩ := h
    have := h.length
    rw [e1, e2]; simp [this.1, this.2]
theorem RAok.args {K : PySem.W.Frag} {st : StA} {S : Addr → Prop} {os : Nat → List Addr} {H H2 : Hp} : ∀ {rs : List RA} {vs : List V} {fps : List (List Addr)}, RAok K st S os H H2 rs vs fps → ArgsOk K st H2 (rs.map (Option.map RV.d)) vs fps
  | [], _, _, h => h
  | none :: rs, _, _, h => by
    obtain ⟨vr, fr, e1, e2, h⟩ := h
    exact ⟨vr, fr, e1, e2, h.args⟩
  | some r :: rs, _, _, h => by
    obtain ⟨v, vr, fp, fr, e1, e2, h1, _, h, _⟩ := h
    exact ⟨v, vr, fp, fr, e1, e2, h1, h.args⟩
def alsA (rs : List RA) : List Nat := rs.flatMap fun r => match r with
  | none => []
  | some r => r.al
theorem RAok.okc {K : PySem.W.Frag} {st : StA} {S : Addr → Prop} {os : Nat → List Addr} {H H2 : Hp} : ∀ {rs : List RA} {vs : List V} {fps : List (List Addr)}, RAok K st S os H H2 rs vs fps → ∀ c ∈ fps.flatten, okc S os H (alsA rs) c
  | [], _, _, h, c, hc => by rw [h.2] at hc; cases hc
  | none :: rs, _, _, h, c, hc => by
    obtain ⟨vr, fr, e1, e2, h⟩ := h
    rw [e2] at hc
    exact h.okc c (by simpa using hc)
  | some r :: rs, _, _, h, c, hc => by
    obtain ⟨v, vr, fp, fr, e1, e2, h1, l, h, _⟩ := h
    rw [e2, List.flatten_cons] at hc
    rcases List.mem_append.mp hc with hc | hc
    · exact (l.shr c hc).al fun i hi => List.mem_append_left _ hi
    · exact (h.okc c hc).al fun i hi => List.mem_append_right _ hi
/-- what comes back of a call -/
def RetOk (K : PySem.W.Frag) (st : StA) (H H' : Hp) (F : List Addr) (d : PyData) (lv : Lv) (v : V) : Prop :=
  ∃ fp, Rep K st H' d v fp ∧ (match lv with
    | .shr => ∀ c ∈ fp, c ∈ F ∨ H c = none
    | .top => ∃ a f, fp = a :: f ∧ a ∉ f ∧ H a = none ∧ ∀ c ∈ f, c ∈ F ∨ H c = none
    | .own => fp.Nodup ∧ ∀ c ∈ fp, H c = none)
def spOf (K : PySem.W.Frag) (n : Nat) (F : Fn) : Sp := fun vs H Q E => vs.length = n ∧ ∃ (st : StA) (b : Nat) (ds : List (Option PyData)) (fps : List (List Addr)), ArgsOk K st H ds vs fps ∧ Stm H st b ∧
  (F ds).all (fun x b' => ∀ cls d H', SameX st H H' → Stm H' st b' → ExnC K st (fun c => c ∈ fps.flatten ∨ H c = none) x cls d H' → E cls d H') (fun r b' => ∀ v H', SameX st H H' → Stm H' st b' → RetOk K st H H' fps.flatten r.1 r.2 v → Q v H') b
/-- the def that the name x has is F -/
structure FnT (X : Cx) (k : Nat) (x : Str) (n : Nat) (F : Fn) : Prop where
  ex : ∃ f fd ps, X.mg x = some (.ref f) ∧ PySem.W.keepIn X.K (.ref f) = true ∧ FnOk X.prog X.w X.K X.mg X.base (L2.CX X.prog X.w) k f fd ps (spOf X.K n F) ∧ Binds X.K fd ps []
def vCall (n : Nat) (F : Fn) (g : Env → M (List RA)) (env : Env) : M RV := g env >>= fun rs => if rs.length = n then F (rs.map (Option.map RV.d)) >>= fun r => .ret (mkRV r.1 r.2 (if r.2 = .own then [] else alsA rs)) else .stuck
section
variable {X : Cx} {k n : Nat} {F : Fn} {x : Str} {p pos : Pos} {e : Expr} {es : List Expr} {g : Env → M (List RA)}
theorem RetOk.rv {K : PySem.W.Frag} {st : StA} {S : Addr → Prop} {os : Nat → List Addr} {H H1 H2 : Hp} {rs : List RA} {vs : List V} {fps : List (List Addr)} {d : PyData} {lv : Lv} {v : V} {b : Nat} (sm : Stm H1 st b) (x : SameX st H H1) (ra : RAok K st S os H H1 rs vs fps) (h : RetOk K st H1 H2 fps.flatten d lv v) :
    RVok K st S os H H2 (mkRV d lv (if lv = .own then [] else alsA rs)) v := by
  obtain ⟨fp, rp, q⟩ := h
  refine RVok.mk rp fun _ => ?_
  cases lv with
  | own =>
    rw [if_pos rfl]
    exact ⟨q.1, fun c hc => .inl (fresh_back sm x (q.2 c hc))⟩
  | shr =>
    rw [if_neg (by intro h; cases h)]
    exact fun c hc => (q c hc).elim (ra.okc c) fun z => .inl (fresh_back sm x z)
  | top =>
    rw [if_neg (by intro h; cases h)]
    obtain ⟨a, f, e, na, fa, hf⟩ := q
    exact ⟨a, f, e, na, fresh_back sm x fa, fun c hc => (hf c hc).elim (ra.okc c) fun z => .inl (fresh_back sm x z)⟩
/-- a call's exception is wished in X -/
theorem call_raise {G : Gx} {S : Addr → Prop} {os : Nat → List Addr} {H H1 : Hp} {env : Env} {σ : St} {b b1 b2 : Nat} {rs : List RA} {vs : List V} {fps : List (List Addr)} {xn : Exn} (hK : GOk G X) (E : ER G S H env σ os) (sm : Stm H G.st b) (x1 : SameX G.st H H1) (sm1 : Stm H1 G.st b1) (ok1 : RAok X.K G.st S os H H1 rs vs fps) (r : G.R xn b2) :
    ∀ cls d H', SameX G.st H1 H' → Stm H' G.st b2 → ExnC X.K G.st (fun c => c ∈ fps.flatten ∨ H1 c = none) xn cls d H' → EX X cls d H' := by
  intro cls d H' x' sm' ex
  obtain ⟨W, tk, hw⟩ := hK.ex
  refine ⟨W, tk, fun σ' => hw xn b2 cls d σ' H' r ((E.same.trans x1).trans x') sm' ?_⟩
  have hk := hK.K
  unfold ExnOk
  rw [hk]
  refine ex.imp fun c hc => ?_
  have new : ∀ c, H c = none → G.H0 c = none := fun c z => fresh_back sm E.same z
  rcases hc with hc | hc
  · rcases ok1.okc c hc with z | z | ⟨i, _, z⟩
    · exact .inr (new c z)
    · exact E.sub c z
    · exact .inr (E.fr i c z)
  · exact .inr (new c (fresh_back sm1 x1 hc))
theorem de_call (T : FnT X k x n F) (hr : Room k X.A) (hg : Gl X x) (ha : DA X (e :: es) g) (hdb : (x == ("__debug__" : Str)) = false := by decide) (he : starEach (e :: es) X.env = (false, eval e X.env) :: starEach es X.env := by rfl)
    (hpl : (backTo pos (starEach es X.env)).any (·.1) = false := by rfl) : DE X (.Call (.Name x p) (e :: es) [] pos) (vCall n F g) := by
  obtain ⟨f, fd, ps, hm, hk, ok, hb⟩ := T
  obtain ⟨t, ht, qt⟩ := ha
  refine ⟨_, pe_call (E := EX X) ok hr hg hm hk hb .nil (pass_max X) ht hdb he hpl, fun G S H env σ os b Q hK E sm h => ?_⟩
  unfold vCall at h
  rw [M.all_bind] at h
  refine qt G S H env σ os b _ hK E sm (M.all_mono (fun rs b1 h1 vs H1 fps x1 sm1 ok1 => ?_) _ _ h)
  by_cases hl : rs.length = n
  case neg => rw [if_neg hl] at h1; exact h1.elim
  rw [if_pos hl, M.all_bind] at h1
  show spOf X.K n F (vs ++ []) H1 Q (EX X)
  rw [List.append_nil]
  refine ⟨by rw [(RAok.length ok1).2]; exact hl, G.st, b1, _, fps, ok1.args, sm1, M.all_both (fun x b2 r => call_raise hK E sm x1 sm1 ok1 r) (fun r b2 h2 v H2 x2 sm2 ro => ?_) _ _ h1⟩
  exact h2 v H2 (x1.trans x2) sm2 (ro.rv sm1 x1 ok1)
/-! ### a def's promise from its body -/
def env0 (m : Nat) (ds : List (Option PyData)) : Env := ds.map (fun o => some (match o with
  | none => Sl.stm
  | some d => Sl.dat d .shr)) ++ List.replicate (m - ds.length) none
/-- what a def does: m: how many names it has -/
def fnOf (m : Nat) (body : Env → M (Fl × Env)) : Fn := fun ds => body (env0 m ds) >>= fun p => match p.1 with
  | .ret d lv => .ret (d, lv)
  | .nx => .ret (.none, .own)
  | _ => .stuck
theorem sl_env0 {m : Nat} {ds : List (Option PyData)} {i : Nat} : sl (env0 m ds) i = (ds[i]?).map fun o => match o with
  | none => Sl.stm
  | some d => Sl.dat d .shr := by
  unfold sl env0
  by_cases h : i < ds.length
  · rw [List.getElem?_append_left (by simpa using h)]
    simp [h]
  · rw [List.getElem?_append_right (by simpa using h), List.getElem?_replicate]
    rw [List.getElem?_eq_none (by simpa using h)]
    split <;> rfl
theorem val_start {N : List Str} {vs : List V} {i : Nat} : val (L2.start N vs) i = vs[i]? := by
  unfold val L2.start
  by_cases h : i < vs.length
  · rw [List.getElem?_append_left (by simpa using h)]
    simp [h]
  · rw [List.getElem?_append_right (by simpa using h), List.getElem?_replicate, List.getElem?_eq_none (by simpa using h)]
    split <;> rfl
theorem ArgsOk.get {K : PySem.W.Frag} {st : StA} {H : Hp} : ∀ {ds : List (Option PyData)} {vs : List V} {fps : List (List Addr)} {i : Nat} {o : Option PyData}, ArgsOk K st H ds vs fps → ds[i]? = some o →
    (o = none → vs[i]? = some (.ref st.1)) ∧ ∀ d, o = some d → ∃ v fp, vs[i]? = some v ∧ Rep K st H d v fp ∧ ∀ c ∈ fp, c ∈ fps.flatten
  | [], _, _, i, o, h, e => by simp at e
  | none :: ds, _, _, i, o, h, e => by
    obtain ⟨vr, fr, e1, e2, h⟩ := h
    subst e1 e2
    cases i with
    | zero =>
      simp at e; subst e
      exact ⟨fun _ => rfl, fun d hd => by cases hd⟩
    | succ i =>
      obtain ⟨q1, q2⟩ := h.get (i := i) (by simpa using e)
      exact ⟨fun z => by simpa using q1 z, fun d hd => let ⟨v, fp, w1, w2, w3⟩ := q2 d hd; ⟨v, fp, by simpa using w1, w2, fun c hc => by simpa using w3 c hc⟩⟩
  | some d0 :: ds, _, _, i, o, h, e => by
    obtain ⟨v0, vr, fp0, fr, e1, e2, r0, h⟩ := h
    subst e1 e2
    cases i with
    | zero =>
      simp at e; subst e
      exact ⟨fun z => (by cases z), fun d hd => by cases hd; exact ⟨v0, fp0, rfl, r0, fun c hc => by simp [hc]⟩⟩
    | succ i =>
      obtain ⟨q1, q2⟩ := h.get (i := i) (by simpa using e)
      exact ⟨fun z => by simpa using q1 z, fun d hd => let ⟨v, fp, w1, w2, w3⟩ := q2 d hd; ⟨v, fp, by simpa using w1, w2, fun c hc => by rw [List.flatten_cons]; exact List.mem_append_right _ (w3 c hc)⟩⟩
theorem ArgsOk.trk {K : PySem.W.Frag} {st : StA} {H : Hp} : ∀ {ds : List (Option PyData)} {vs : List V} {fps : List (List Addr)}, ArgsOk K st H ds vs fps → ∀ c ∈ fps.flatten, (∃ o, H c = some o) ∧ c ≠ st.1 ∧ Off st c
  | [], _, _, h, c, hc => by rw [h.2] at hc; cases hc
  | none :: ds, _, _, h, c, hc => by
    obtain ⟨vr, fr, e1, e2, h⟩ := h
    rw [e2] at hc
    exact h.trk c (by simpa using hc)
  | some d0 :: ds, _, _, h, c, hc => by
    obtain ⟨v0, vr, fp0, fr, e1, e2, r0, h⟩ := h
    rw [e2, List.flatten_cons] at hc
    rcases List.mem_append.mp hc with hc | hc
    · exact r0.trk c hc
    · exact h.trk c hc
theorem ER.entry {K : PySem.W.Frag} {R : Exn → Nat → Prop} {st : StA} {H : Hp} {ds : List (Option PyData)} {vs : List V} {fps : List (List Addr)} (h : ArgsOk K st H ds vs fps) (N : List Str) (hl : ds.length ≤ N.length) :
    ER ⟨K, st, H, fun c => c ∈ fps.flatten, R⟩ (fun c => c ∈ fps.flatten) H (env0 N.length ds) (L2.start N vs) (fun _ => []) where
  len := by
    have := h.length
    simp [env0, L2.start, this.1]
  at_ := fun i => by
    rw [sl_env0, val_start]
    cases e : ds[i]? with
    | none => exact rfl
    | some o =>
      obtain ⟨q1, q2⟩ := h.get e
      cases o with
      | none => exact ⟨q1 rfl, rfl⟩
      | some d =>
        obtain ⟨v, fp, w1, w2, w3⟩ := q2 d rfl
        exact ⟨v, fp, w1, w2, rfl, w3⟩
  dj := fun i j c _ hc => by cases hc
  ns := fun i c hc => by cases hc
  fr := fun i c hc => by cases hc
  sub := fun c hc => .inl hc
  trk := fun c hc => h.trk c hc
  same := SameX.refl _
variable {P : Program} {w : World} {K : PySem.W.Frag} {mg : Str → Option Value} {base : Heap} {qual : Str} {st : Stmt} {f : Addr} {fd : FuncData} {N ps : List Str} {body : Env → M (Fl × Env)}
/-- a def does what its body says -/
theorem fn_ok (Fu : Fun K x qual st f fd) (S : FnScope N ps (defScope st)) (hps : ps.length ≤ N.length)
    (hb : ∀ (cdv : Value) (A : Around) (outer : List PySem.Env) (s : Shared) (H : Hp) (E : XK), Room k (A.deeper (PyProof.Rows.envOfC qual (defScope st) s.heap.objs.size f cdv)) →
      DSs (cxOf (L2.CX P w) P w K mg base N qual (defScope st) f cdv A outer s H E) (defBody st) body) :
    FnOk P w K mg base (L2.CX P w) (k + 1) f fd ps (spOf K ps.length (fnOf N.length body)) := by
  refine Fu.okX S (fun vs H Q E h => h.1) fun cdv A outer s H vs Q E hr h => ?_
  obtain ⟨hl, stp, b, ds, fps, ha, sm, h⟩ := h
  obtain ⟨t, ht, qt⟩ := hb cdv A outer s H E hr
  refine ⟨t, ht, ?_⟩
  have hl2 := ha.length
  refine qt ⟨K, stp, H, fun c => c ∈ fps.flatten, fun x b' => ∀ cls d H', SameX stp H H' → Stm H' stp b' → ExnC K stp (fun c => c ∈ fps.flatten ∨ H c = none) x cls d H' → E cls d H'⟩ _ H (env0 N.length ds) (L2.start N vs) (fun _ => []) b _
    ⟨rfl, fun cls d _ H' => E cls d H', takes_of rfl rfl rfl rfl, fun x b cls d σ H' r x' sm' ex => r cls d H' x' sm' ex⟩ (ER.entry ha N (by rw [← hl2.1, hl]; exact hps)) sm ?_
  unfold fnOf at h
  rw [M.all_bind] at h
  refine M.all_mono (fun p b2 h2 => ?_) _ _ h
  obtain ⟨fl, env2⟩ := p
  cases fl with
  | nx => exact fun σ' H' S' os' q1 q2 q3 q4 => h2 .non H' q3.same q4 ⟨[], Rep.of_none, List.nodup_nil, fun c hc => by cases hc⟩
  | brk => exact h2.elim
  | cnt => exact h2.elim
  | ret d lv => exact fun v H' q1 q2 q3 => h2 v H' q1 q2 q3
end
end Vm

set_option Elab.async false
set_option linter.all false
set_option maxRecDepth 100000
namespace Vm
variable [TabsC]
variable {R : Exn → Nat → Prop}
open PySem L2

/-! ### a list in a slot is changed -/
/-- a slot's own list: only its outermost place stays ours -/
theorem ER.demote {G : Gx} {S : Addr → Prop} {H : Hp} {env : Env} {σ : St} {os : Nat → List Addr} (E : ER G S H env σ os) {x : Nat} {ds : List PyData} {lv : Lv} (e : sl env x = some (.dat (.list ds) lv)) (hl : lv ≠ .shr) :
    ∃ (a : Addr) (vs : List V) (f : List Addr) (S' : Addr → Prop) (os' : Nat → List Addr), val σ x = some (.ref a) ∧ H a = some (.lst vs) ∧ Reps G.K G.st H ds vs f ∧ ER G S' H (env.set x (some (.dat (.list ds) .top))) σ os' ∧ (∀ c, S c → S' c) ∧ (∀ c ∈ f, S' c) ∧ os' x = [a] ∧ (∀ j, j ≠ x → os' j = os j) ∧ a ∉ f := by
  have hx := E.at_ x
  rw [e] at hx
  obtain ⟨u, fp, eu, r, q⟩ := hx
  have r' := r
  unfold Rep at r
  obtain ⟨a, vs, f, ev, ha, n1, n2, rs, ef⟩ := r
  subst ev ef
  have hxl := sl_lt e
  have own : os x = (if lv = .top then [a] else a :: f) ∧ a ∉ f ∧ (lv = .top → ∀ c ∈ f, S c) := by
    cases lv with
    | shr => exact absurd rfl hl
    | top =>
      obtain ⟨a', f', e1, e2, h1, h2⟩ := q
      injection e1 with e1 e3
      subst e1 e3
      exact ⟨by rw [e2]; rfl, h1, fun _ => h2⟩
    | own => exact ⟨by rw [q.1]; rfl, (List.nodup_cons.mp q.2).1, fun z => by cases z⟩
  have fo : ∀ c ∈ f, S c ∨ c ∈ os x := fun c hc => by
    by_cases hl2 : lv = .top
    · exact .inl (own.2.2 hl2 c hc)
    · right; rw [own.1, if_neg hl2]; exact List.mem_cons_of_mem _ hc
  have aox : a ∈ os x := by rw [own.1]; split <;> simp
  refine ⟨a, vs, f, fun c => S c ∨ c ∈ f, fun j => if j = x then [a] else os j, eu, ha, rs, ?_, fun c h => .inl h, fun c h => .inr h, by simp, fun j hj => by simp [hj], own.2.1⟩
  refine ⟨by simp [E.len], fun j => ?_, fun i j c hij hi hj => ?_, fun i c hi hs => ?_, fun i c hi => ?_, fun c hc => ?_, fun c hc => ?_, E.same⟩
  · rw [sl_set]
    by_cases h : x = j
    · subst h
      simp only [if_true, hxl]
      exact ⟨_, a :: f, eu, r', a, f, rfl, rfl, own.2.1, fun c hc => .inr hc⟩
    · have h' : ¬ j = x := fun z => h z.symm
      simp only [h, h', if_false]
      have hj := E.at_ j
      match es : sl env j, hj with
      | none, hj => exact hj
      | some .stm, hj => exact hj
      | some (.dat d l2), hj =>
        obtain ⟨u2, fp2, e2, r2, q2⟩ := hj
        refine ⟨u2, fp2, e2, r2, ?_⟩
        cases l2 with
        | shr => exact ⟨q2.1, fun c hc => .inl (q2.2 c hc)⟩
        | top =>
          obtain ⟨a2, f2, w1, w2, w3, w4⟩ := q2
          exact ⟨a2, f2, w1, w2, w3, fun c hc => .inl (w4 c hc)⟩
        | own => exact q2
  · by_cases h1 : i = x
    · by_cases h2 : j = x
      · exact hij (h1.trans h2.symm)
      · simp only [h1, h2, if_true, if_false] at hi hj
        have : c = a := by simpa using hi
        subst this
        exact E.dj x j c (fun z => h2 z.symm) aox hj
    · by_cases h2 : j = x
      · simp only [h1, h2, if_true, if_false] at hi hj
        have : c = a := by simpa using hj
        subst this
        exact E.dj i x c h1 hi aox
      · simp only [h1, h2, if_false] at hi hj
        exact E.dj i j c hij hi hj
  · by_cases h1 : i = x
    · simp only [h1, if_true] at hi
      have : c = a := by simpa using hi
      subst this
      rcases hs with hs | hs
      · exact E.ns x c aox hs
      · exact own.2.1 hs
    · simp only [h1, if_false] at hi
      rcases hs with hs | hs
      · exact E.ns i c hi hs
      · rcases fo c hs with z | z
        · exact E.ns i c hi z
        · exact E.dj i x c h1 hi z
  · by_cases h1 : i = x
    · simp only [h1, if_true] at hi
      have : c = a := by simpa using hi
      subst this
      exact E.fr x c aox
    · simp only [h1, if_false] at hi
      exact E.fr i c hi
  · rcases hc with hc | hc
    · exact E.sub c hc
    · rcases fo c hc with z | z
      · exact E.sub c z
      · exact .inr (E.fr x c z)
  · rcases hc with hc | hc
    · exact E.trk c hc
    · exact r'.trk c (List.mem_cons_of_mem _ hc)
/-- the list at a slot gets other items -/
theorem ER.mutL {G : Gx} {S : Addr → Prop} {H : Hp} {env : Env} {σ : St} {os : Nat → List Addr} (E : ER G S H env σ os) {x : Nat} {ds ds' : List PyData} {lv lv' : Lv} {a : Addr} {vs vs' : List V} {f' : List Addr} (e : sl env x = some (.dat (.list ds) lv)) (hl : lv ≠ .shr)
    (ev : val σ x = some (.ref a)) (ha : H a = some (.lst vs)) (r : Reps G.K G.st H ds' vs' f') (naf : a ∉ f') (hf : (lv' = .top ∧ ∀ c ∈ f', S c) ∨ (lv' = .own ∧ f'.Nodup ∧ ∀ c ∈ f', ¬ S c ∧ (∀ i, i ≠ x → c ∉ os i) ∧ G.H0 c = none)) :
    (∃ os', ER G S (upd H a (.lst vs')) (env.set x (some (.dat (.list ds') lv'))) σ os') ∧ a ∈ os x ∧ (a ≠ G.st.1 ∧ Off G.st a) ∧ ¬ S a ∧ KpD (fun c => c ≠ a) H (upd H a (.lst vs')) := by
  have hx := E.at_ x
  rw [e] at hx
  obtain ⟨u, fp, eu, r0, q⟩ := hx
  have r0' := r0
  unfold Rep at r0
  obtain ⟨a', vs0, f, ev', ha', n1, n2, rs, ef⟩ := r0
  rw [ev] at eu
  have eu' := Option.some.inj eu
  rw [ev'] at eu'
  injection eu' with ea
  subst ea
  subst ev' ef
  have hxl := sl_lt e
  have aox : a ∈ os x := by
    cases lv with
    | shr => exact absurd rfl hl
    | top =>
      obtain ⟨a', f', e1, e2, h1, h2⟩ := q
      injection e1 with e1 e3
      rw [e2, e1]; exact List.mem_cons_self
    | own => rw [q.1]; exact List.mem_cons_self
  have aS : ¬ S a := E.ns x a aox
  have ao : ∀ j, j ≠ x → a ∉ os j := fun j hj h => E.dj j x a hj h aox
  have aG : G.H0 a = none := E.fr x a aox
  have kk : KpD (fun c => c ≠ a) H (upd H a (.lst vs')) := kp_upd (.inr (.inl ⟨_, ha⟩))
  have r' : Reps G.K G.st (upd H a (.lst vs')) ds' vs' f' := r.kp kk fun c hc z => naf (z ▸ hc)
  refine ⟨⟨fun j => if j = x then (if lv' = .top then [a] else a :: f') else os j, ?_⟩, aox, ⟨n1, n2⟩, aS, kk⟩
  refine ⟨by simp [E.len], fun j => ?_, fun i j c hij hi hj => ?_, fun i c hi hs => ?_, fun i c hi => ?_, E.sub, fun c hc => ?_, fun c o h1 h2 hc => ?_⟩
  · rw [sl_set]
    by_cases h : x = j
    · subst h
      simp only [if_true, hxl]
      refine ⟨_, a :: f', ev, by unfold Rep; exact ⟨a, vs', f', rfl, upd_same, n1, n2, r', rfl⟩, ?_⟩
      rcases hf with ⟨e1, h1⟩ | ⟨e1, h1, h2⟩
      · subst e1; exact ⟨a, f', rfl, rfl, naf, h1⟩
      · subst e1; exact ⟨rfl, List.nodup_cons.mpr ⟨naf, h1⟩⟩
    · have h' : ¬ j = x := fun z => h z.symm
      simp only [h, h', if_false]
      exact (E.at_ j).kp kk fun c hc z => by
        subst z
        rcases hc with hc | hc
        · exact ao j h' hc
        · exact aS hc
  · have key : ∀ j, j ≠ x → c ∈ (if lv' = .top then [a] else a :: f') → c ∉ os j := fun j hj' hc hcj => by
      have hc' : c = a ∨ c ∈ f' := by
        split at hc
        · left; simpa using hc
        · exact List.mem_cons.mp hc
      rcases hc' with z | z
      · subst z; exact ao j hj' hcj
      · rcases hf with ⟨e1, h1⟩ | ⟨e1, h1, h2⟩
        · exact E.ns j c hcj (h1 c z)
        · exact (h2 c z).2.1 j hj' hcj
    by_cases h1 : i = x
    · by_cases h2 : j = x
      · exact hij (h1.trans h2.symm)
      · rw [if_pos h1] at hi
        rw [if_neg h2] at hj
        exact key j h2 hi hj
    · by_cases h2 : j = x
      · rw [if_neg h1] at hi
        rw [if_pos h2] at hj
        exact key i h1 hj hi
      · rw [if_neg h1] at hi
        rw [if_neg h2] at hj
        exact E.dj i j c hij hi hj
  · by_cases h1 : i = x
    · rw [if_pos h1] at hi
      rcases hf with ⟨e1, h2⟩ | ⟨e1, h2, h3⟩
      · subst e1
        have : c = a := by simpa using hi
        subst this; exact aS hs
      · subst e1
        rcases List.mem_cons.mp hi with z | z
        · subst z; exact aS hs
        · exact (h3 c z).1 hs
    · rw [if_neg h1] at hi
      exact E.ns i c hi hs
  · by_cases h1 : i = x
    · rw [if_pos h1] at hi
      rcases hf with ⟨e1, h2⟩ | ⟨e1, h2, h3⟩
      · subst e1
        have : c = a := by simpa using hi
        subst this; exact aG
      · subst e1
        rcases List.mem_cons.mp hi with z | z
        · subst z; exact aG
        · exact (h3 c z).2.2
    · rw [if_neg h1] at hi
      exact E.fr i c hi
  · obtain ⟨⟨o, ho⟩, h⟩ := E.trk c hc
    exact ⟨⟨o, by rw [upd_ne (fun z => aS (by rw [← z]; exact hc))]; exact ho⟩, h⟩
  · have := E.same c o h1 h2 hc
    rw [upd_ne (fun z => by rw [z, aG] at hc; cases hc)]
    exact this
/-! x.append(e) -/
def mutApp (x : Nat) (r : RV) (env : Env) : Option Env := match sl env x with
  | some (.dat (.list ds) lv) => if lv = .shr ∨ x ∈ r.al ∨ ¬ ds.length < sizeLine then none else
      if lv = .own ∧ r.lv = .own then some ((kill env r.al).set x (some (.dat (.list (ds ++ [r.d])) .own)))
      else some ((frz env r.al).set x (some (.dat (.list (ds ++ [r.d])) .top)))
  | _ => none
def isLst : Option Sl → Bool
  | some (.dat (.list _) _) => true
  | _ => false
def sApp (x : Nat) (f : Env → M RV) (env : Env) : M (Fl × Env) := if isLst (sl env x) then f env >>= fun r => M.ofOption (mutApp x r env) >>= fun env' => .ret (.nx, env') else .stuck
theorem app_go {G : Gx} {S : Addr → Prop} {H H1 : Hp} {env env' : Env} {σ : St} {os : Nat → List Addr} {x : Nat} {r : RV} {v : V} {b : Nat} (E : ER G S H env σ os) (sm : Stm H G.st b) (x1 : SameX G.st H H1) (ok : RVok G.K G.st S os H H1 r v) (h : mutApp x r env = some env') :
    ∃ a vs, val σ x = some (.ref a) ∧ H1 a = some (.lst vs) ∧ vs.length < sizeLine ∧ ∃ S' os', (∀ c, S c → S' c) ∧ KpD S H (upd H1 a (.lst (vs ++ [v]))) ∧ ER G S' (upd H1 a (.lst (vs ++ [v]))) env' σ os' ∧ a ≠ G.st.1 ∧ Off G.st a := by
  unfold mutApp at h
  split at h
  · rename_i ds lv e
    split at h
    · cases h
    · rename_i hc
      have hl : lv ≠ .shr := fun z => hc (.inl z)
      have hxa : x ∉ r.al := fun z => hc (.inr (.inl z))
      have hz : ds.length < sizeLine := by
        apply Classical.byContradiction; intro z; exact hc (.inr (.inr z))
      have E1 := E.mono sm x1
      have hk : KpD S H H1 := x1.kpS E sm
      split at h
      · -- both are ours
        rename_i hh
        have eh := Option.some.inj h
        subst eh
        obtain ⟨e1, e2⟩ := hh
        subst e1
        obtain ⟨S', os', fp, E2, rp, fr, hs⟩ := E.store sm x1 ok
        unfold prep at E2
        rw [e2] at E2 fr
        have esl : sl (kill env r.al) x = some (.dat (.list ds) .own) := by rw [sl_kill, if_neg hxa]; exact e
        have hx := E2.at_ x
        rw [esl] at hx
        obtain ⟨u, fx, eu, rx, q⟩ := hx
        have rx' := rx
        unfold Rep at rx
        obtain ⟨a, vs, f, ev, ha, n1, n2, rs, ef⟩ := rx
        subst ev ef
        have nd := List.nodup_cons.mp q.2
        have afp : a ∉ fp := fun z => (fr.2 a z).2.1 x (by rw [q.1]; exact List.mem_cons_self)
        have := E2.mutL (ds' := ds ++ [r.d]) (lv' := .own) (vs' := vs ++ [v]) (f' := f ++ fp) esl (by intro z; cases z) eu ha (rs.append (Reps.single rp)) (by rw [List.mem_append]; rintro (z | z); exact nd.1 z; exact afp z)
          (.inr ⟨rfl, List.nodup_append.mpr ⟨nd.2, fr.1, fun c hc c' hc' z => by subst z; exact (fr.2 c hc').2.1 x (by rw [q.1]; exact List.mem_cons_of_mem _ hc)⟩, fun c hc => by
            rcases List.mem_append.mp hc with z | z
            · have co : c ∈ os' x := by rw [q.1]; exact List.mem_cons_of_mem _ z
              exact ⟨E2.ns x c co, fun i hi h => E2.dj i x c hi h co, E2.fr x c co⟩
            · obtain ⟨w1, w2, w3⟩ := fr.2 c z
              exact ⟨w1, fun i _ => w2 i, w3⟩⟩)
        obtain ⟨⟨os2, E3⟩, aox, n12, aS, kk⟩ := this
        refine ⟨a, vs, eu, ha, by rw [rs.length]; exact hz, S', os2, hs, ?_, E3, n12.1, n12.2⟩
        exact hk.trans (kk.weak fun c hc z => aS (z ▸ hs c hc))
      · -- the list's items are to be read only from here on
        have eh := Option.some.inj h
        subst eh
        obtain ⟨fp, rp, l⟩ := ok
        have tr := rp.trk
        have F := E1.freeze (F := fun c => c ∈ fp) r.al fun c hc => by
          obtain ⟨k1, n1, n2⟩ := tr c hc
          obtain ⟨q1, q2⟩ := okc_trk E (l.shr c hc) n1 n2
          exact ⟨k1, n1, n2, q1, q2⟩
        have hs1 : ∀ c, S c → (fun c => S c ∨ c ∈ fp ∨ ∃ i ∈ r.al, c ∈ os i) c := fun c hc => Or.inl hc
        have hf1 : ∀ c ∈ fp, (fun c => S c ∨ c ∈ fp ∨ ∃ i ∈ r.al, c ∈ os i) c := fun c hc => Or.inr (Or.inl hc)
        generalize (fun c => S c ∨ c ∈ fp ∨ ∃ i ∈ r.al, c ∈ os i) = S1 at F hs1 hf1
        generalize (fun i => if i ∈ r.al then [] else os i) = os1 at F
        have esl : sl (frz env r.al) x = some (.dat (.list ds) lv) := by rw [sl_frz, if_neg hxa]; exact e
        obtain ⟨a, vs, f, S2, os2, eu, ha, rs, E2, hs2, hf2, ox, oj, naf⟩ := F.demote esl hl
        have esl2 : sl ((frz env r.al).set x (some (.dat (.list ds) .top))) x = some (.dat (.list ds) .top) := by
          rw [sl_set, if_pos rfl, if_pos (sl_lt esl)]
        have aS2 : ¬ S2 a := E2.ns x a (by rw [ox]; exact List.mem_cons_self)
        have := E2.mutL (ds' := ds ++ [r.d]) (lv' := .top) (vs' := vs ++ [v]) (f' := f ++ fp) esl2 (by intro z; cases z) eu ha (rs.append (Reps.single rp))
          (by rw [List.mem_append]; rintro (z | z); exact naf z; exact aS2 (hs2 a (hf1 a z))) (.inl ⟨rfl, fun c hc => by
            rcases List.mem_append.mp hc with z | z
            · exact hf2 c z
            · exact hs2 c (hf1 c z)⟩)
        obtain ⟨⟨os3, E3⟩, aox, n12, aS, kk⟩ := this
        rw [List.set_set] at E3
        refine ⟨a, vs, eu, ha, by rw [rs.length]; exact hz, S2, os3, fun c hc => hs2 c (hs1 c hc), ?_, E3, n12.1, n12.2⟩
        exact hk.trans (kk.weak fun c hc z => aS (z ▸ hs2 c (hs1 c hc)))
  · cases h
section
variable {X : Cx} {fe : Env → M RV} {e : Expr} {x : Nat} {nm : Str} {p1 p2 pos spos : Pos}
theorem ds_append (hN : X.N[x]? = some nm) (hv : Vis X.env.scope nm) (he : DE X e fe) (hd : (nm == ("__debug__" : Str)) = false := by decide) (hcd : (nm == ("__classdict__" : Str)) = false := by decide)
    (hbase : attributeBase (.Name nm p1) "append" X.env (eval (.Name nm p1) X.env) = eval (.Name nm p1) X.env := by rfl)
    (hfew : ((backTo pos (starEach (e :: []) X.env)).all (fun x => !x.1) && (backToKw pos (keywordEach [] X.env)).all (fun x => x.1.isSome)
      && decide ((e :: ([] : List Expr)).length + ([] : List Keyword).length + (if ([] : List Keyword).isEmpty then 0 else 1) < 30)) = true := by rfl)
    (hline : (p2.endLine == pos.line) = true := by rfl) (hst : starEach (e :: []) X.env = (false, eval e X.env) :: starEach [] X.env := by rfl) (hplain : (backTo pos (starEach [] X.env)).any (·.1) = false := by rfl)
    (hs : swapsWith (.Call (.Attribute (.Name nm p1) "append" p2) [e] [] pos) none spos.line X.env = pure false := by rfl) : DS X (.Expr (.Call (.Attribute (.Name nm p1) "append" p2) [e] [] pos) spos) (sApp x fe) := by
  obtain ⟨t, ht, qt⟩ := he
  refine ⟨_, ps_expr (pe_bm PySem.F.plainAttrs_list PySem.F.slot_list_append PySem.F.type_list_append mt_append (pe_var hN hv hd hcd) (pa_cons ht pa_nil hst) hbase hfew hline hst hplain) hs, fun G S H env σ os b D hK E sm h => ?_⟩
  unfold sApp at h
  -- the list is there
  cases es : sl env x with
  | none =>
    rw [es] at h; exact h.elim
  | some s =>
    cases s with
    | stm =>
      rw [es] at h; exact h.elim
    | dat d lv =>
      have hx := E.at_ x
      rw [es] at hx
      obtain ⟨u, fx, eu, rx, _⟩ := hx
      refine ⟨u, val_some eu, ?_, ?_⟩
      · cases d with
        | list ds =>
          unfold Rep at rx
          obtain ⟨a, vs, f, ev, ha, _⟩ := rx
          rw [ev]
          exact .inl ⟨rfl, vs, SqL.of ha⟩
        | _ =>
          rw [es] at h; exact h.elim
      · rw [es] at h
        cases d with
        | list ds =>
          rw [show isLst (some (Sl.dat (PyData.list ds) lv)) = true from rfl, if_pos rfl, M.all_bind] at h
          refine qt G S H env σ os b _ hK E sm (M.all_mono (fun r b1 h1 v H1 x1 sm1 ok1 => ?_) _ _ h)
          rw [M.all_bind] at h1
          obtain ⟨env', hm, h1⟩ := M.all_ofOption.mp h1
          obtain ⟨a, vs, e1, ha, hz, S', os', hs', hk', E', n1, n2⟩ := app_go E sm x1 (hK.K ▸ ok1) hm
          rw [eu] at e1
          refine ⟨a, vs, v, Option.some.inj e1, rfl, ha, hz, ?_⟩
          exact h1 σ _ S' os' hs' hk' E' (sm1.updL (.inr (.inl ⟨_, ha⟩)) n1 n2)
        | _ => exact h.elim
end
end Vm

set_option Elab.async false
set_option linter.all false
set_option maxRecDepth 100000
namespace Vm
variable [TabsC]
variable {R : Exn → Nat → Prop}
open PySem L2

/-! x.extend(e) -/
def itemsL : PyData → Option (List PyData)
  | .list es => some es
  | _ => none
def mutExt (x : Nat) (r : RV) (env : Env) : Option Env := match sl env x with
  | some (.dat (.list ds) lv) => (itemsL r.d).bind fun es => if lv = .shr ∨ x ∈ r.al ∨ ¬ ds.length + es.length ≤ sizeLine then none else
      if lv = .own ∧ r.lv = .own then some ((kill env r.al).set x (some (.dat (.list (ds ++ es)) .own)))
      else some ((frz env r.al).set x (some (.dat (.list (ds ++ es)) .top)))
  | _ => none
def sExt (x : Nat) (f : Env → M RV) (env : Env) : M (Fl × Env) := if isLst (sl env x) then f env >>= fun r => M.ofOption (mutExt x r env) >>= fun env' => .ret (.nx, env') else .stuck
theorem ext_go {G : Gx} {S : Addr → Prop} {H H1 : Hp} {env env' : Env} {σ : St} {os : Nat → List Addr} {x : Nat} {r : RV} {v : V} {b : Nat} (E : ER G S H env σ os) (sm : Stm H G.st b) (x1 : SameX G.st H H1) (ok : RVok G.K G.st S os H H1 r v) (h : mutExt x r env = some env') :
    ∃ a vs c ws, val σ x = some (.ref a) ∧ H1 a = some (.lst vs) ∧ v = .ref c ∧ H1 c = some (.lst ws) ∧ vs.length + ws.length ≤ sizeLine ∧ ∃ S' os', (∀ c, S c → S' c) ∧ KpD S H (upd H1 a (.lst (vs ++ ws))) ∧ ER G S' (upd H1 a (.lst (vs ++ ws))) env' σ os' ∧ a ≠ G.st.1 ∧ Off G.st a := by
  unfold mutExt at h
  split at h
  · rename_i ds lv e
    cases ei : itemsL r.d with
    | none => rw [ei] at h; cases h
    | some es =>
    rw [ei] at h
    have ed : r.d = .list es := by
      cases hd : r.d with
      | list xs => rw [hd] at ei; exact congrArg PyData.list (Option.some.inj ei)
      | _ => rw [hd] at ei; cases ei
    simp only [Option.bind_some] at h
    split at h
    · cases h
    · rename_i hc
      have hl : lv ≠ .shr := fun z => hc (.inl z)
      have hxa : x ∉ r.al := fun z => hc (.inr (.inl z))
      have hz : ds.length + es.length ≤ sizeLine := by
        apply Classical.byContradiction; intro z; exact hc (.inr (.inr z))
      have E1 := E.mono sm x1
      have hk : KpD S H H1 := x1.kpS E sm
      split at h
      · -- both are ours
        rename_i hh
        have eh := Option.some.inj h
        subst eh
        obtain ⟨e1, e2⟩ := hh
        subst e1
        obtain ⟨S', os', fp, E2, rp, fr, hs⟩ := E.store sm x1 ok
        unfold prep at E2
        rw [e2] at E2 fr
        rw [ed] at rp
        unfold Rep at rp
        obtain ⟨c, ws, fw, evc, hcw, m1, m2, rws, efw⟩ := rp
        subst efw
        have esl : sl (kill env r.al) x = some (.dat (.list ds) .own) := by rw [sl_kill, if_neg hxa]; exact e
        have hx := E2.at_ x
        rw [esl] at hx
        obtain ⟨u, fx, eu, rx, q⟩ := hx
        have rx' := rx
        unfold Rep at rx
        obtain ⟨a, vs, f, ev, ha, n1, n2, rs, ef⟩ := rx
        subst ev ef
        have nd := List.nodup_cons.mp q.2
        have afp : a ∉ fw := fun z => (fr.2 a (List.mem_cons_of_mem _ z)).2.1 x (by rw [q.1]; exact List.mem_cons_self)
        have := E2.mutL (ds' := ds ++ es) (lv' := .own) (vs' := vs ++ ws) (f' := f ++ fw) esl (by intro z; cases z) eu ha (rs.append rws) (by rw [List.mem_append]; rintro (z | z); exact nd.1 z; exact afp z)
          (.inr ⟨rfl, List.nodup_append.mpr ⟨nd.2, (List.nodup_cons.mp fr.1).2, fun c hc c' hc' z => by subst z; exact (fr.2 c (List.mem_cons_of_mem _ hc')).2.1 x (by rw [q.1]; exact List.mem_cons_of_mem _ hc)⟩, fun c hc => by
            rcases List.mem_append.mp hc with z | z
            · have co : c ∈ os' x := by rw [q.1]; exact List.mem_cons_of_mem _ z
              exact ⟨E2.ns x c co, fun i hi h => E2.dj i x c hi h co, E2.fr x c co⟩
            · obtain ⟨w1, w2, w3⟩ := fr.2 c (List.mem_cons_of_mem _ z)
              exact ⟨w1, fun i _ => w2 i, w3⟩⟩)
        obtain ⟨⟨os2, E3⟩, aox, n12, aS, kk⟩ := this
        refine ⟨a, vs, c, ws, eu, ha, evc, hcw, by rw [rs.length, rws.length]; exact hz, S', os2, hs, ?_, E3, n12.1, n12.2⟩
        exact hk.trans (kk.weak fun c hc z => aS (z ▸ hs c hc))
      · -- the list's items are to be read only from here on
        have eh := Option.some.inj h
        subst eh
        obtain ⟨fp, rp, l⟩ := ok
        have tr := rp.trk
        rw [ed] at rp
        unfold Rep at rp
        obtain ⟨c, ws, fw, evc, hcw, m1, m2, rws, efw⟩ := rp
        have fwp : ∀ z ∈ fw, z ∈ fp := fun z hz => by rw [efw]; exact List.mem_cons_of_mem _ hz
        have F := E1.freeze (F := fun c => c ∈ fp) r.al fun c hc => by
          obtain ⟨k1, n1, n2⟩ := tr c hc
          obtain ⟨q1, q2⟩ := okc_trk E (l.shr c hc) n1 n2
          exact ⟨k1, n1, n2, q1, q2⟩
        have hs1 : ∀ c, S c → (fun c => S c ∨ c ∈ fp ∨ ∃ i ∈ r.al, c ∈ os i) c := fun c hc => Or.inl hc
        have hf1 : ∀ c ∈ fp, (fun c => S c ∨ c ∈ fp ∨ ∃ i ∈ r.al, c ∈ os i) c := fun c hc => Or.inr (Or.inl hc)
        generalize (fun c => S c ∨ c ∈ fp ∨ ∃ i ∈ r.al, c ∈ os i) = S1 at F hs1 hf1
        generalize (fun i => if i ∈ r.al then [] else os i) = os1 at F
        have esl : sl (frz env r.al) x = some (.dat (.list ds) lv) := by rw [sl_frz, if_neg hxa]; exact e
        obtain ⟨a, vs, f, S2, os2, eu, ha, rs, E2, hs2, hf2, ox, oj, naf⟩ := F.demote esl hl
        have esl2 : sl ((frz env r.al).set x (some (.dat (.list ds) .top))) x = some (.dat (.list ds) .top) := by
          rw [sl_set, if_pos rfl, if_pos (sl_lt esl)]
        have aS2 : ¬ S2 a := E2.ns x a (by rw [ox]; exact List.mem_cons_self)
        have := E2.mutL (ds' := ds ++ es) (lv' := .top) (vs' := vs ++ ws) (f' := f ++ fw) esl2 (by intro z; cases z) eu ha (rs.append rws)
          (by rw [List.mem_append]; rintro (z | z); exact naf z; exact aS2 (hs2 a (hf1 a (fwp a z)))) (.inl ⟨rfl, fun c hc => by
            rcases List.mem_append.mp hc with z | z
            · exact hf2 c z
            · exact hs2 c (hf1 c (fwp c z))⟩)
        obtain ⟨⟨os3, E3⟩, aox, n12, aS, kk⟩ := this
        rw [List.set_set] at E3
        refine ⟨a, vs, c, ws, eu, ha, evc, hcw, by rw [rs.length, rws.length]; exact hz, S2, os3, fun c hc => hs2 c (hs1 c hc), ?_, E3, n12.1, n12.2⟩
        exact hk.trans (kk.weak fun c hc z => aS (z ▸ hs2 c (hs1 c hc)))
  · cases h
section
variable {X : Cx} {fe : Env → M RV} {e : Expr} {x : Nat} {nm : Str} {p1 p2 pos spos : Pos}
theorem ds_extend (hN : X.N[x]? = some nm) (hv : Vis X.env.scope nm) (he : DE X e fe) (hd : (nm == ("__debug__" : Str)) = false := by decide) (hcd : (nm == ("__classdict__" : Str)) = false := by decide)
    (hbase : attributeBase (.Name nm p1) "extend" X.env (eval (.Name nm p1) X.env) = eval (.Name nm p1) X.env := by rfl)
    (hfew : ((backTo pos (starEach (e :: []) X.env)).all (fun x => !x.1) && (backToKw pos (keywordEach [] X.env)).all (fun x => x.1.isSome)
      && decide ((e :: ([] : List Expr)).length + ([] : List Keyword).length + (if ([] : List Keyword).isEmpty then 0 else 1) < 30)) = true := by rfl)
    (hline : (p2.endLine == pos.line) = true := by rfl) (hst : starEach (e :: []) X.env = (false, eval e X.env) :: starEach [] X.env := by rfl) (hplain : (backTo pos (starEach [] X.env)).any (·.1) = false := by rfl)
    (hs : swapsWith (.Call (.Attribute (.Name nm p1) "extend" p2) [e] [] pos) none spos.line X.env = pure false := by rfl) : DS X (.Expr (.Call (.Attribute (.Name nm p1) "extend" p2) [e] [] pos) spos) (sExt x fe) := by
  obtain ⟨t, ht, qt⟩ := he
  refine ⟨_, ps_expr (pe_bm PySem.F.plainAttrs_list PySem.F.slot_list_extend PySem.F.type_list_extend mt_extend (pe_var hN hv hd hcd) (pa_cons ht pa_nil hst) hbase hfew hline hst hplain) hs, fun G S H env σ os b D hK E sm h => ?_⟩
  unfold sExt at h
  -- the list is there
  cases es : sl env x with
  | none =>
    rw [es] at h; exact h.elim
  | some s =>
    cases s with
    | stm =>
      rw [es] at h; exact h.elim
    | dat d lv =>
      have hx := E.at_ x
      rw [es] at hx
      obtain ⟨u, fx, eu, rx, _⟩ := hx
      refine ⟨u, val_some eu, ?_, ?_⟩
      · cases d with
        | list ds =>
          unfold Rep at rx
          obtain ⟨a, vs, f, ev, ha, _⟩ := rx
          rw [ev]
          exact .inl ⟨rfl, vs, SqL.of ha⟩
        | _ =>
          rw [es] at h; exact h.elim
      · rw [es] at h
        cases d with
        | list ds =>
          rw [show isLst (some (Sl.dat (PyData.list ds) lv)) = true from rfl, if_pos rfl, M.all_bind] at h
          refine qt G S H env σ os b _ hK E sm (M.all_mono (fun r b1 h1 v H1 x1 sm1 ok1 => ?_) _ _ h)
          rw [M.all_bind] at h1
          obtain ⟨env', hm, h1⟩ := M.all_ofOption.mp h1
          obtain ⟨a, vs, c, ws, e1, ha, ec, hcw, hz, S', os', hs', hk', E', n1, n2⟩ := ext_go E sm x1 (hK.K ▸ ok1) hm
          rw [eu] at e1
          refine ⟨a, c, vs, ws, Option.some.inj e1, by rw [ec], ha, hcw, hz, ?_⟩
          exact h1 σ _ S' os' hs' hk' E' (sm1.updL (.inr (.inl ⟨_, ha⟩)) n1 n2)
        | _ => exact h.elim
end
end Vm

set_option Elab.async false
set_option linter.all false
set_option maxRecDepth 100000
set_option maxHeartbeats 1000000
open PySem
open PySem.Sem (wp)
open AutoSeq1 (wpAny_loadPart')
namespace Vm
variable [TabsC]
variable {R : Exn → Nat → Prop}
open PySem L2

/-! ### lists and tuples alike, and iterators of them -/
def SqK (k : Bool) (K : PySem.W.Frag) (H : Hp) (a : Addr) (xs : List V) : Prop := match k with
  | true => STup K H a xs
  | false => SqL K H a xs
def ItAt (k : Bool) (h : Heap) (it l : Addr) (i : Nat) : Prop := match k with
  | true => h.IsTupleIter it l i
  | false => h.IsListIter it l i
def SeqIs (k : Bool) (h : Heap) (l : Addr) (items : Array Value) : Prop := match k with
  | true => h.IsTuple l items
  | false => h.IsList l items
def itObj (k : Bool) (l : Addr) : Obj := match k with
  | true => { cls := .type "tuple_iterator", data := .fields #[.ref l, .int 0 0] }
  | false => { cls := .type "list_iterator", data := .fields #[.ref l, .int 0 0] }
theorem draws_k {prog : Program} {w : World} {A : Around} (hh : A.handled = none) (k : Bool) (it l : Addr) (hne : l ≠ it) (items : Array Value) :
    Draws prog w A it [it, l] items.size (fun i v => items[i]? = some v) (fun i h => ItAt k h it l i ∧ SeqIs k h l items) := by
  cases k with
  | true => exact Draws.tuple hh it l hne items
  | false => exact Draws.list hh it l hne items
theorem begins_k (k : Bool) (l : Addr) (items : Array Value) : Begins (.ref l) (itObj k l) fun h => SeqIs k h l items := by
  cases k with
  | true => exact begins_tuple l items
  | false => exact begins_list l items
theorem itAt_new {k : Bool} {h : Heap} {it l : Addr} (e : h.get? it = some (itObj k l)) : ItAt k h it l 0 := by
  cases k with
  | true => exact ⟨_, e, rfl, rfl⟩
  | false => exact ⟨_, e, rfl, rfl⟩
theorem ItAt.at' {k : Bool} {h h' : Heap} {it l : Addr} {i : Nat} (x : ItAt k h it l i) (hk : ∀ o, h.get? it = some o → h'.get? it = some o) : ItAt k h' it l i := by
  cases k with
  | true => exact Heap.IsTupleIter.at x hk
  | false => exact Heap.IsListIter.at x hk
theorem ItAt.obj {k : Bool} {h : Heap} {it l : Addr} {i : Nat} (x : ItAt k h it l i) : ∃ o, h.get? it = some o ∧ ∀ v, o.data ≠ .cell v := by
  cases k with
  | true => obtain ⟨o, ho, hc, hd⟩ := x; exact ⟨o, ho, fun v q => by rw [hd] at q; cases q⟩
  | false => obtain ⟨o, ho, hc, hd⟩ := x; exact ⟨o, ho, fun v q => by rw [hd] at q; cases q⟩
theorem ItAt.ne {k : Bool} {h : Heap} {it l : Addr} {i : Nat} {items : Array Value} (x : ItAt k h it l i) (p : SeqIs k h l items) : l ≠ it := by
  intro e; subst e
  cases k with
  | true =>
    obtain ⟨o, e1, e2, _⟩ := x
    obtain ⟨o', e3, e4, _⟩ := p
    rw [e1] at e3; cases e3; rw [e2] at e4
    exact absurd e4 (by decide)
  | false =>
    obtain ⟨o, e1, e2, _⟩ := x
    obtain ⟨o', e3, e4, _⟩ := p
    rw [e1] at e3; cases e3; rw [e2] at e4
    exact absurd e4 (by decide)
section
variable {X : Cx} {pins : List (Addr × Obj)} {σ : St} {H : Hp} {s : Shared} {k : Bool} {a : Addr} {xs ys : List V}
theorem SqK.items (h : SqK k X.K H a xs) (I : Inv X pins σ H s) : ∃ its : List Value, Vals xs its ∧ SeqIs k s.heap a its.toArray ∧ xs.length ≤ sizeLine ∧ ∃ o, s.heap.get? a = some o := by
  cases k with
  | true =>
    obtain ⟨its, r, p, z⟩ := I.tuple (STup.sq h)
    obtain ⟨o, ho, _⟩ := id p
    exact ⟨its, r, p, z, o, ho⟩
  | false =>
    obtain ⟨its, r, p, z⟩ := I.list h
    obtain ⟨o, ho, _⟩ := id p.isList
    exact ⟨its, r, p.isList, z, o, ho⟩
theorem SqK.inj (h : SqK k X.K H a xs) (h' : SqK k X.K H a ys) (I : Inv X pins σ H s) : xs = ys := by
  cases k with
  | true => exact I.tuple_inj (STup.sq h) (STup.sq h')
  | false => exact I.list_inj h h'
end

/-! ### zip of two -/
def Itz2 (K : PySem.W.Frag) (k1 k2 : Bool) (a b : Addr) : It :=
  ⟨fun i H => ∃ (xs ys : List V) (x y : V), SqK k1 K H a xs ∧ SqK k2 K H b ys ∧ xs[i]? = some x ∧ ys[i]? = some y,
    fun i H v H' => ∃ T o x y, v = .ref T ∧ H T = none ∧ o.dict = none ∧ H' = upd H T (.frz o (.tup [x, y])) ∧ (∀ xs, SqK k1 K H a xs → xs[i]? = some x) ∧ ∀ ys, SqK k2 K H b ys → ys[i]? = some y,
    fun i H => ∃ xs ys : List V, SqK k1 K H a xs ∧ SqK k2 K H b ys ∧ i ≤ xs.length ∧ i ≤ ys.length ∧ (i = xs.length ∨ i = ys.length)⟩
theorem ne5 {z TI TO i1 i2 N : Addr} {h : Heap} (h1 : ∃ o, h.get? z = some o) (h2 : ∃ o, h.get? TI = some o) (h3 : ∃ o, h.get? TO = some o) (h4 : ∃ o, h.get? i1 = some o) (h5 : ∃ o, h.get? i2 = some o) : ∀ c, c ∈ [z, TI, TO, i1, i2] → c < h.objs.size := by
  intro c hc
  have e' : c = z ∨ c = TI ∨ c = TO ∨ c = i1 ∨ c = i2 := by simpa using hc
  rcases e' with q | q | q | q | q
  · rw [q]; obtain ⟨_, e⟩ := h1; exact Heap.lt_size e
  · rw [q]; obtain ⟨_, e⟩ := h2; exact Heap.lt_size e
  · rw [q]; obtain ⟨_, e⟩ := h3; exact Heap.lt_size e
  · rw [q]; obtain ⟨_, e⟩ := h4; exact Heap.lt_size e
  · rw [q]; obtain ⟨_, e⟩ := h5; exact Heap.lt_size e
theorem turn_z2 {P : Program} {w : World} {K : PySem.W.Frag} {elts : List Expr} {kk : Nat} {tpos : Pos} {k1 k2 : Bool} {a b z TI TO i1 i2 : Addr} (D : ZipSep2 z TI TO i1 i2 [i1, a] [i2, b]) :
    Turn P w K (.Tuple elts kk tpos) (Itz2 K k1 k2 a b) [z, TI, TO, i1, i2] z (fun i h => IsZip h z TI TO .none ∧ IsTupOf2 h TI (.ref i1) (.ref i2) ∧ (∃ x y, IsTupOf2 h TO x y) ∧ ItAt k1 h i1 a i ∧ ItAt k2 h i2 b i) where
  mem := by simp
  obj := fun i h st c hcm => by
    obtain ⟨hz, hTI, ⟨x, y, hTO⟩, h1, h2⟩ := st
    have e' : c = z ∨ c = TI ∨ c = TO ∨ c = i1 ∨ c = i2 := by simpa using hcm
    rcases e' with q | q | q | q | q
    · rw [q]; exact ⟨_, hz, fun v q => nomatch q⟩
    · rw [q]; exact ⟨_, hTI, fun v q => nomatch q⟩
    · rw [q]; exact ⟨_, hTO, fun v q => nomatch q⟩
    · rw [q]; exact h1.obj
    · rw [q]; exact h2.obj
  keep := fun i h h' st k => by
    obtain ⟨hz, hTI, ⟨x, y, hTO⟩, h1, h2⟩ := st
    exact ⟨k z (by simp) _ hz, k TI (by simp) _ hTI, ⟨x, y, k TO (by simp) _ hTO⟩, h1.at' fun o e => k i1 (by simp) o e, h2.at' fun o e => k i2 (by simp) o e⟩
  item := by
    intro X hP hw hK hc i pins s σ H E I hf st hg
    subst hP hw hK
    obtain ⟨hz, hTI, ⟨x0, y0, hTO⟩, h1, h2⟩ := st
    obtain ⟨xs, ys, x, y, hqx, hqy, hx, hy⟩ := hg
    obtain ⟨its, rv, p, _, _⟩ := hqx.items I
    obtain ⟨its2, rv2, p2, _, _⟩ := hqy.items I
    obtain ⟨u, hu, ru⟩ := rv.get hx
    obtain ⟨u2, hu2, ru2⟩ := rv2.get hy
    have n1 : a ≠ i1 := h1.ne p
    have n2 : b ≠ i2 := h2.ne p2
    have hlt := ne5 (N := z) ⟨_, hz⟩ ⟨_, hTI⟩ ⟨_, hTO⟩ (h1.obj.imp fun _ q => q.1) (h2.obj.imp fun _ q => q.1)
    refine wpAny_pyNext_zipD2_item D (draws_k (A := X.A.in1) (I.ok.hd hc) k1 i1 a n1 its.toArray) (draws_k (A := X.A.in1) (I.ok.hd hc) k2 i2 b n2 its2.toArray) hz hTI hTO ⟨h1, p⟩ ⟨h2, p2⟩ (by
      have := (List.getElem?_eq_some_iff.mp hu).1
      simpa using this) (by
      have := (List.getElem?_eq_some_iff.mp hu2).1
      simpa using this) fun v1 v2 h' tk e1 e2 z' TO' st1 st2 hT hsz hk => ?_
    have ev1 : v1 = u := by
      have : some v1 = some u := by rw [← e1]; simpa using hu
      exact Option.some.inj this
    have ev2 : v2 = u2 := by
      have : some v2 = some u2 := by rw [← e2]; simpa using hu2
      exact Option.some.inj this
    subst ev1 ev2
    refine ⟨_, rfl, wpAny_letOwnedTupleGo_zip (s := { s with heap := h', toks := tk }) z' fun h'' z'' sb => ?_⟩
    have hzl : z < s.heap.objs.size := Heap.lt_size hz
    have hT2 : h''.get? s.heap.objs.size = some { cls := .type "tuple", data := .seq #[v1, v2] } := (sb.2 _ (Nat.ne_of_gt hzl)).trans hT
    have new : ObjOk X.prog X.w (upd H s.heap.objs.size (.frz { cls := .type "tuple", data := .seq #[v1, v2] } (.tup [x, y]))) h'' s.heap.objs.size (.frz { cls := .type "tuple", data := .seq #[v1, v2] } (.tup [x, y])) :=
      ⟨hT2, by show 2 ≤ sizeLine; decide, [v1, v2], .cons ru (.cons ru2 .nil), ⟨_, hT2, rfl, _, rfl⟩⟩
    have I1 := I.turnedNew (t' := tk) (ch := [z, TI, TO, i1, i2]) (fun c o hb q => (sb.2 c (fun q' => hb (by simp [q']))).trans (hk c o (fun q' => hb (by simp [q'])) (fun q' => hb (by simp [q'])) (fun q' => hb (by simp [q'])) (fun q' => hb (by simp [q'])) q)) hf (Nat.le_refl _) new
    refine ⟨.ref s.heap.objs.size, _, I1, rfl, ⟨_, _, x, y, rfl, I.hok.fresh (Nat.le_refl _), rfl, rfl, fun l hl => by rw [hl.inj hqx I]; exact hx, fun l hl => by rw [hl.inj hqy I]; exact hy⟩, ⟨z'', ?_, ⟨v1, v2, ?_⟩, ?_, ?_⟩, fun c hcm => ?_⟩
    · exact (sb.2 _ D.TIz).trans (hk _ _ D.TIz D.TITO D.TIi1 D.TIi2 hTI)
    · exact (sb.2 _ D.TOz).trans TO'
    · exact st1.1.at' fun o q => (sb.2 _ (Ne.symm D.zi1)).trans q
    · exact st2.1.at' fun o q => (sb.2 _ (Ne.symm D.zi2)).trans q
    · rw [upd_ne (Nat.ne_of_lt (hlt c hcm))]
      exact (hf c hcm).1
  done := by
    intro X hP hw hK hc i pins s σ H E I hf st hg
    subst hP hw hK
    obtain ⟨hz, hTI, ⟨x0, y0, hTO⟩, h1, h2⟩ := st
    obtain ⟨xs, ys, hqx, hqy, hle1, hle2, hend⟩ := hg
    obtain ⟨its, rv, p, _, _⟩ := hqx.items I
    obtain ⟨its2, rv2, p2, _, _⟩ := hqy.items I
    have l1 : xs.length = its.toArray.size := by rw [rv.length]; simp
    have l2 : ys.length = its2.toArray.size := by rw [rv2.length]; simp
    have n1 : a ≠ i1 := h1.ne p
    have n2 : b ≠ i2 := h2.ne p2
    exact wpAny_pyNext_zipD2_end D (draws_k (A := X.A.in1) (I.ok.hd hc) k1 i1 a n1 its.toArray) (draws_k (A := X.A.in1) (I.ok.hd hc) k2 i2 b n2 its2.toArray) hz hTI hTO ⟨h1, p⟩ ⟨h2, p2⟩ (l1 ▸ hle1) (l2 ▸ hle2) (by rw [← l1, ← l2]; exact hend) fun h' tk hk => ⟨rfl, I.turnedL (t' := tk) (ch := [z, TI, TO, i1, i2]) (fun c o hb q =>
      hk c o (fun q' => hb (by simp [q'])) (fun q' => hb (by simp [q'])) (fun q' => hb (by simp [q'])) (fun q' => hb (by simp [q'])) q) hf⟩
  self := fun A i s Q E st h => wpAny_pyIter_zip st.1 h
def iZip2 (K : PySem.W.Frag) (ta : TA) : TI := fun σ H R => ta σ H fun vs H1 => ∃ k1 k2 a b xs ys, vs = [.ref a, .ref b] ∧ SqK k1 K H1 a xs ∧ SqK k2 K H1 b ys ∧ R (Itz2 K k1 k2 a b) H1
section
variable {X : Cx} {e e2 e3 : Expr} {ta : TA} {p pos tpos : Pos} {elts : List Expr} {kk : Nat}
theorem pi_zip2 (hg : Gl X "zip") (hm : X.mg "zip" = none) (ha : PA X [e, e2] ta)
    (hs : starEach [e, e2] X.env = (false, eval e X.env) :: starEach [e2] X.env := by rfl) (hpl : (backTo pos (starEach [e2] X.env)).any (·.1) = false := by rfl) :
    PI X (.Tuple elts kk tpos) (.Call (.Name "zip" p) [e, e2] [] pos) (iZip2 X.K ta) := by
  refine ⟨fun pins s σ H R I h => ?_⟩
  refine PyProof.Rows.Call_ (ld_blt I hg hm PyProof.Rows.boot_zip (PyProof.Rows.callWith_type1 (thn (ha.run pos pins s σ H _ I h) fun us s1 ⟨vs, H1, I1, r1, q1⟩ => ?_) hs hpl))
  obtain ⟨k1, k2, a, b, xs, ys, ex, hqx, hqy, q⟩ := q1
  subst ex
  cases r1 with
  | cons r rr =>
    cases rr with
    | cons r' rr =>
      cases rr
      cases r
      cases r'
      obtain ⟨its, rv, p1, _, o1, ho1⟩ := hqx.items I1
      obtain ⟨its2, rv2, p2, _, o2, ho2⟩ := hqy.items I1
      refine zip_begins2 (begins_k k1 a its.toArray) (begins_k k2 b its2.toArray) p1 p2 fun h' hz hTI hTO h1 h2 hsz hk => wpAny_pyIter_zip hz ?_
      have I2 : Inv X pins σ H1 { s1 with heap := h' } := I1.kept (t' := s1.toks) hk
      refine ⟨s1.heap.objs.size + 4, [s1.heap.objs.size + 4, s1.heap.objs.size + 2, s1.heap.objs.size + 3, s1.heap.objs.size, s1.heap.objs.size + 1], _, _, H1, rfl, I2,
        turn_z2 (zip_sep2 (fp1 := [a]) (fp2 := [b]) (fun c hc => by rw [List.mem_singleton.mp hc]; exact Heap.lt_size ho1) (fun c hc => by rw [List.mem_singleton.mp hc]; exact Heap.lt_size ho2)), ⟨hz, hTI, ⟨_, _, hTO⟩, itAt_new h1, itAt_new h2⟩, fun c hcm => ?_, q⟩
      have e' : c = s1.heap.objs.size + 4 ∨ c = s1.heap.objs.size + 2 ∨ c = s1.heap.objs.size + 3 ∨ c = s1.heap.objs.size ∨ c = s1.heap.objs.size + 1 := by simpa using hcm
      have hle : s1.heap.objs.size ≤ c := by
        rcases e' with z | z | z | z | z
        · rw [z]; exact Nat.le_add_right _ _
        · rw [z]; exact Nat.le_add_right _ _
        · rw [z]; exact Nat.le_add_right _ _
        · rw [z]; exact Nat.le_refl _
        · rw [z]; exact Nat.le_add_right _ _
      exact I1.fpOk hle (I1.hok.fresh hle)
end
/-- what a list's or a tuple's items are -/
def seqOf : PyData → Option (List PyData)
  | .list xs => some xs
  | .tuple xs => some xs
  | _ => none
theorem Rep.seq {K : PySem.W.Frag} {st : StA} {H : Hp} {d : PyData} {v : V} {fp : List Addr} {xs : List PyData} (r : Rep K st H d v fp) (e : seqOf d = some xs) :
    ∃ k a vs f, v = .ref a ∧ SqK k K H a vs ∧ Reps K st H xs vs f ∧ (∀ c ∈ f, c ∈ fp) ∧ ∀ Dep H', KpD Dep H H' → (∀ c ∈ fp, Dep c) → SqK k K H' a vs := by
  cases d <;> simp only [seqOf] at e <;> cases e
  · unfold Rep at r
    obtain ⟨a, vs, f, e1, ha, n1, n2, q, ef⟩ := r
    exact ⟨false, a, vs, f, e1, SqL.of ha, q, fun c hc => by rw [ef]; exact List.mem_cons_of_mem _ hc, fun Dep H' k hd => SqL.of (k.dep a _ (hd a (by rw [ef]; exact List.mem_cons_self)) ha)⟩
  · unfold Rep at r
    obtain ⟨a, vs, e1, ha, q⟩ := r
    exact ⟨true, a, vs, _, e1, ha, q, fun c hc => hc, fun Dep H' k _ => STup.kp k ha⟩
def pair2 (a b : PyData) : PyData := .tuple [a, b]
theorem Rep.pair {K : PySem.W.Frag} {st : StA} {H : Hp} {T : Addr} {o : Obj} {d1 d2 : PyData} {x y : V} {f1 f2 : List Addr} (h1 : Rep K st H d1 x f1) (h2 : Rep K st H d2 y f2) (hT : H T = some (.frz o (.tup [x, y]))) (ho : o.dict = none) :
    Rep K st H (.tuple [d1, d2]) (.ref T) (f1 ++ f2) := by
  unfold Rep
  refine ⟨T, [x, y], rfl, .inl ⟨o, hT, ho⟩, ?_⟩
  unfold Reps
  exact ⟨x, [y], f1, f2, rfl, h1, Reps.single h2, rfl⟩
theorem upd_ext {H : Hp} {T : Addr} {o : HO} (h : H T = none) : ∀ a u, H a = some u → upd H T o a = some u := fun a u e => by
  rw [upd_ne (fun z => by rw [z, h] at e; cases e)]; exact e
theorem itz2_ok {K : PySem.W.Frag} {st : StA} {H1 : Hp} {k1 k2 : Bool} {a b : Addr} {xs ys : List PyData} {vs us : List V} {f g fa fb : List Addr}
    (ha : ∀ Dep H', KpD Dep H1 H' → (∀ c ∈ fa, Dep c) → SqK k1 K H' a vs) (hb : ∀ Dep H', KpD Dep H1 H' → (∀ c ∈ fb, Dep c) → SqK k2 K H' b us) (r1 : Reps K st H1 xs vs f) (r2 : Reps K st H1 ys us g) (sf : ∀ c ∈ f, c ∈ fa) (sg : ∀ c ∈ g, c ∈ fb)
    (ja : ∀ H' vs', SqK k1 K H' a vs → SqK k1 K H' a vs' → True) :
    ItOk K st (Itz2 K k1 k2 a b) (List.zipWith pair2 xs ys) (fun c => c ∈ fa ++ fb) H1 where
  go := fun H2 i k hi => by
    have l1 := r1.length
    have l2 := r2.length
    rw [List.length_zipWith] at hi
    exact ⟨vs, us, vs[i]'(by omega), us[i]'(by omega), ha _ H2 k fun c hc => List.mem_append_left _ hc, hb _ H2 k fun c hc => List.mem_append_right _ hc, by simp, by simp⟩
  stop := fun H2 k => by
    have l1 := r1.length
    have l2 := r2.length
    rw [List.length_zipWith]
    exact ⟨vs, us, ha _ H2 k fun c hc => List.mem_append_left _ hc, hb _ H2 k fun c hc => List.mem_append_right _ hc, by omega, by omega, by omega⟩
  yld := fun H2 i v H3 k hi y => by
    obtain ⟨T, o, x, y, e, hT, ho, e3, q1, q2⟩ := y
    subst e e3
    have l1 := r1.length
    have l2 := r2.length
    rw [List.length_zipWith] at hi
    have h1 := q1 vs (ha _ H2 k fun c hc => List.mem_append_left _ hc)
    have h2 := q2 us (hb _ H2 k fun c hc => List.mem_append_right _ hc)
    refine ⟨Grow.upd hT, pair2 (xs[i]'(by omega)) (ys[i]'(by omega)), ?_⟩
    have ext : KpD (fun c => c ∈ fa ++ fb) H2 (upd H2 T (.frz o (.tup [x, y]))) := KpD.of_all (upd_ext hT)
    obtain ⟨v1, f1, e1, w1, s1⟩ := (r1.kp k fun c hc => List.mem_append_left _ (sf c hc)).get (i := i) (d := xs[i]'(by omega)) (by simp)
    obtain ⟨v2, f2, e2, w2, s2⟩ := (r2.kp k fun c hc => List.mem_append_right _ (sg c hc)).get (i := i) (d := ys[i]'(by omega)) (by simp)
    rw [h1] at e1
    rw [h2] at e2
    cases e1
    cases e2
    refine ⟨f1 ++ f2, by simp [List.getElem?_zipWith, hi], ?_, fun c hc => ?_⟩
    · exact Rep.pair (w1.kp ext fun c hc => List.mem_append_left _ (sf c (s1 c hc))) (w2.kp ext fun c hc => List.mem_append_right _ (sg c (s2 c hc))) upd_same ho
    · rcases List.mem_append.mp hc with z | z
      · exact List.mem_append_left _ (sf c (s1 c z))
      · exact List.mem_append_right _ (sg c (s2 c z))
def itZip2 (g : Env → M (List RA)) (env : Env) : M (List PyData × List Nat) := g env >>= fun rs => match rs with
  | [some r, some r'] => M.ofOption (seqOf r.d) >>= fun xs => M.ofOption (seqOf r'.d) >>= fun ys => .ret (List.zipWith pair2 xs ys, r.al ++ r'.al)
  | _ => .stuck
section
variable {X : Cx} {e e2 e3 : Expr} {p pos tpos : Pos} {elts : List Expr} {kk : Nat} {g : Env → M (List RA)}
theorem di_zip2 (hg : Gl X "zip") (hm : X.mg "zip" = none) (ha : DA X [e, e2] g)
    (hs : starEach [e, e2] X.env = (false, eval e X.env) :: starEach [e2] X.env := by rfl) (hpl : (backTo pos (starEach [e2] X.env)).any (·.1) = false := by rfl) :
    DI X (.Tuple elts kk tpos) (.Call (.Name "zip" p) [e, e2] [] pos) (itZip2 g) := by
  obtain ⟨t, ht, qt⟩ := ha
  refine ⟨_, pi_zip2 hg hm ht hs hpl, fun G S H env σ os b R hK E sm h => ?_⟩
  unfold itZip2 at h
  rw [M.all_bind] at h
  refine qt G S H env σ os b _ hK E sm (M.all_mono (fun rs b1 h1 vs H1 fps x1 sm1 ok1 => ?_) _ _ h)
  split at h1
  · rename_i r r'
    rw [M.all_bind] at h1
    obtain ⟨xs, ex, h1⟩ := M.all_ofOption.mp h1
    rw [M.all_bind] at h1
    obtain ⟨ys, ey, h1⟩ := M.all_ofOption.mp h1
    obtain ⟨v, v', fp, fp', ev, r1, z1, r2, z2⟩ := RAok.two (r := r) (r' := r') ok1
    obtain ⟨k1, a, us, f, ea, qa, qr, qs, qk⟩ := r1.seq ex
    obtain ⟨k2, b', us', f', eb, qa', qr', qs', qk'⟩ := r2.seq ey
    subst ea eb
    refine ⟨k1, k2, a, b', us, us', ev, qa, qa', h1 _ H1 _ x1 sm1 (itz2_ok qk qk' qr qr' qs qs' fun _ _ _ _ => trivial) fun c hc => ?_⟩
    rcases List.mem_append.mp hc with hc | hc
    · exact ⟨(z1.shr c hc).al fun i hi => List.mem_append_left _ hi, r1.trk c hc⟩
    · exact ⟨(z2.shr c hc).al fun i hi => List.mem_append_right _ hi, r2.trk c hc⟩
  · exact h1.elim
end
end Vm

set_option Elab.async false
set_option linter.all false
set_option maxRecDepth 100000
set_option maxHeartbeats 1000000
namespace Vm
variable [TabsC]
variable {R : Exn → Nat → Prop}
open PySem L2
open PySem.Sem (wp)

/-! ### enumerate -/
theorem meets_enumerate_newB1 {v : Value} {o : Obj} {H : Heap → Prop} (B : Begins v o H) :
    Meets (Builtin.«enumerate.__new__» ⟨[.type "enumerate", v], []⟩) (fun _ R s => H s.heap ∧
      R (.ok (.ret (.ref (s.heap.push o).objs.size))) { s with heap := (s.heap.push o).push { cls := .type "enumerate", data := .fields #[.none, .bool false, .ref s.heap.objs.size, rawInt 0, .none, .none] } }) :=
  .of_wp fun prog w A R s h => by
    obtain ⟨hp, g, d, tk, os⟩ := s; obtain ⟨h1, h⟩ := h
    have hsub := sub_enumerate
    have q1 : ∀ {A' : Around} {E : Value → Shared → Prop} {Q : Value → Shared → Prop}, Q (.ref hp.objs.size) ⟨hp.push o, g, d, tk, os⟩ → wpAny (model prog w) A' (pyIter v) Q E ⟨hp, g, d, tk, os⟩ :=
      fun q => B.iter prog w _ _ ⟨hp, g, d, tk, os⟩ _ h1 q
    wp_walk using q1
    refine wpAny_stack_any fun st => wpAny_pure ?_
    split
    · rename_i c _ _ _ _ _
      cases (c == Value.type "enumerate")
      · wp_walk using q1
        exact ⟨_, rfl, h⟩
      · wp_walk using q1
        exact ⟨_, rfl, h⟩
    · wp_walk using q1
      exact ⟨_, rfl, h⟩
section
variable {prog : Program} {w : World} {A : Around} {E : Value → Shared → Prop} {s : Shared}
theorem enum_begins1 {v : Value} {o : Obj} {H : Heap → Prop} {Q : Value → Shared → Prop} (B : Begins v o H) (h1 : H s.heap)
    (h : ∀ h', IsEnum h' (s.heap.objs.size + 1) s.heap.objs.size 0 .none → h'.get? s.heap.objs.size = some o → h'.objs.size = s.heap.objs.size + 2 →
      (∀ b o, s.heap.get? b = some o → h'.get? b = some o) → Q (.ref (s.heap.objs.size + 1)) { s with heap := h' }) :
    wpAny (model prog w) A (call (.type "enumerate") [v]) Q E s := by
  refine callType_new F.called_enumerate (by decide) (F.typeCall_enumerate_1 _) (F.newCall_enumerate_1 _) (fun obj => F.args_object_init_2 obj _) F.entry_enumerate_new
    (meets_enumerate_newB1 B) ⟨h1, ?_⟩
  have hz : (s.heap.push o).objs.size = s.heap.objs.size + 1 := Heap.size_push ..
  show _ ∧ _
  rw [hz]
  have he : IsEnum ((s.heap.push o).push { cls := .type "enumerate", data := .fields #[.none, .bool false, .ref s.heap.objs.size, rawInt 0, .none, .none] }) (s.heap.objs.size + 1) s.heap.objs.size 0 .none := by
    have := Heap.get?_push_size (s.heap.push o) (o := { cls := .type "enumerate", data := .fields #[.none, .bool false, .ref s.heap.objs.size, rawInt 0, .none, .none] }) rfl
    rw [hz] at this; exact this
  refine ⟨⟨_, he, rfl⟩, h _ he (Heap.get?_push_of_some _ (Heap.get?_push_size _ B.free)) (by rw [Heap.size_push, hz]) fun b o x => Heap.get?_push_of_some _ (Heap.get?_push_of_some _ x)⟩
end
def Iten (K : PySem.W.Frag) (k : Bool) (a : Addr) : It :=
  ⟨fun i H => ∃ (xs : List V) (x : V), SqK k K H a xs ∧ xs[i]? = some x, fun i H v H' => ∃ T o x, v = .ref T ∧ H T = none ∧ o.dict = none ∧ H' = upd H T (.frz o (.tup [.int (i : Nat), x])) ∧ ∀ xs, SqK k K H a xs → xs[i]? = some x,
    fun i H => ∃ xs : List V, SqK k K H a xs ∧ i = xs.length⟩
theorem turn_en {P : Program} {w : World} {K : PySem.W.Frag} {elts : List Expr} {kk : Nat} {tpos : Pos} {k : Bool} (a e it : Addr) (hne : e ≠ it) (hea : e ≠ a) :
    Turn P w K (.Tuple elts kk tpos) (Iten K k a) [e, it] e (fun i h => (∃ old, IsEnum h e it ((i : Nat) : Int) old) ∧ ItAt k h it a i) where
  mem := by simp
  obj := fun i h st b hb => by
    obtain ⟨⟨old, he⟩, hi⟩ := st
    have e' : b = e ∨ b = it := by simpa using hb
    rcases e' with z | z
    · rw [z]; exact ⟨_, he, fun v q => nomatch q⟩
    · rw [z]; exact hi.obj
  keep := fun i h h' st k => let ⟨⟨old, he⟩, hi⟩ := st; ⟨⟨old, k e (by simp) _ he⟩, hi.at' fun o q => k it (by simp) o q⟩
  item := by
    intro X hP hw hK hc i pins s σ H E I hf st hg
    subst hP hw hK
    obtain ⟨⟨old, he⟩, hit⟩ := st
    obtain ⟨xs, x, hq, hx⟩ := hg
    obtain ⟨its, rv, p, _, _⟩ := hq.items I
    obtain ⟨u, hu, ru⟩ := rv.get hx
    have na : a ≠ it := hit.ne p
    have hel : e < s.heap.objs.size := Heap.lt_size he
    have hil : it < s.heap.objs.size := by obtain ⟨_, q, _⟩ := hit.obj; exact Heap.lt_size q
    refine wpAny_pyNext_enum_itemD (draws_k (A := X.A.in1) (I.ok.hd hc) k it a na its.toArray) he ⟨hit, p⟩ (by
      have := (List.getElem?_eq_some_iff.mp hu).1
      simpa using this) hne (by simp [hne, hea]) fun v1 h' tk e1 ho st1 hT hsz hk => ?_
    have ev1 : v1 = u := by
      have : some v1 = some u := by rw [← e1]; simpa using hu
      exact Option.some.inj this
    subst ev1
    refine ⟨_, rfl, wpAny_letOwnedTupleGo_enum (s := { s with heap := h', toks := tk + 1 }) ho fun h'' he' sb => ?_⟩
    have hT2 : h''.get? s.heap.objs.size = some { cls := .type "tuple", data := .seq #[.int i tk, v1] } := (sb.2 _ (Nat.ne_of_gt hel)).trans hT
    have new : ObjOk X.prog X.w (upd H s.heap.objs.size (.frz { cls := .type "tuple", data := .seq #[.int i tk, v1] } (.tup [.int (i : Nat), x]))) h'' s.heap.objs.size (.frz { cls := .type "tuple", data := .seq #[.int i tk, v1] } (.tup [.int (i : Nat), x])) :=
      ⟨hT2, by show 2 ≤ sizeLine; decide, [.int i tk, v1], .cons ⟨_, rfl⟩ (.cons ru .nil), ⟨_, hT2, rfl, _, rfl⟩⟩
    have I1 := I.turnedNew (t' := tk + 1) (ch := [e, it]) (fun b ob hb q => (sb.2 b (fun z => hb (by simp [z]))).trans (hk b ob (fun z => hb (by simp [z])) (fun z => hb (by simp [z])) q)) hf (Nat.le_refl _) new
    refine ⟨.ref s.heap.objs.size, _, I1, rfl, ⟨_, _, x, rfl, I.hok.fresh (Nat.le_refl _), rfl, rfl, fun ys hy => by rw [hy.inj hq I]; exact hx⟩, ⟨⟨v1, ?_⟩, st1.1.at' fun o q => (sb.2 it (Ne.symm hne)).trans q⟩, fun b hb => ?_⟩
    · have e1 : ((i + 1 : Nat) : Int) = (i : Int) + 1 := by omega
      rw [e1]; exact he'
    · have hb' : b < s.heap.objs.size := by
        have e' : b = e ∨ b = it := by simpa using hb
        rcases e' with z | z
        · rw [z]; exact hel
        · rw [z]; exact hil
      rw [upd_ne (Nat.ne_of_lt hb')]
      exact (hf b hb).1
  done := by
    intro X hP hw hK hc i pins s σ H E I hf st hg
    subst hP hw hK
    obtain ⟨⟨old, he⟩, hit⟩ := st
    obtain ⟨xs, hq, hx⟩ := hg
    obtain ⟨its, rv, p, _, _⟩ := hq.items I
    have na : a ≠ it := hit.ne p
    obtain ⟨f0, f1, f2, f3, f4, f5⟩ := hf it (by simp)
    have hl : i = its.toArray.size := by rw [hx, rv.length]; simp
    subst hl
    exact wpAny_pyNext_enum_endD (draws_k (A := X.A.in1) (I.ok.hd hc) k it a na its.toArray) he ⟨hit, p⟩ fun h' eb => ⟨rfl, I.turned (t' := s.toks) (fun b o hb q => eb b o hb q) f0 f1 f3 f4 f5⟩
  self := fun A i s Q E st h => let ⟨⟨_, he⟩, _⟩ := st; wpAny_pyIter_enum he h
def iEnumK (K : PySem.W.Frag) (ta : TA) : TI := fun σ H R => ta σ H fun vs H1 => ∃ k a xs, vs = [.ref a] ∧ SqK k K H1 a xs ∧ R (Iten K k a) H1
theorem pi_enumK {X : Cx} {e : Expr} {ta : TA} {p pos tpos : Pos} {elts : List Expr} {kk : Nat} (hg : Gl X "enumerate") (hm : X.mg "enumerate" = none) (ha : PA X [e] ta) (hs : starEach [e] X.env = [(false, eval e X.env)] := by rfl) :
    PI X (.Tuple elts kk tpos) (.Call (.Name "enumerate" p) [e] [] pos) (iEnumK X.K ta) := by
  refine ⟨fun pins s σ H R I h => ?_⟩
  refine PyProof.Rows.Call_ (ld_blt I hg hm PyProof.Rows.boot_enumerate (PyProof.Rows.callWith_type1 (thn (ha.run pos pins s σ H _ I h) fun us s1 ⟨vs, H1, I1, r1, q1⟩ => ?_) hs rfl))
  obtain ⟨k, a, xs, ex, hq, q⟩ := q1
  subst ex
  cases r1 with
  | cons r rr =>
    cases rr
    cases r
    obtain ⟨its, rv, p', hz, o1, ho1⟩ := hq.items I1
    refine enum_begins1 (begins_k k a its.toArray) p' fun h' he hit hsz hk => wpAny_pyIter_enum he ?_
    have I2 : Inv X pins σ H1 { s1 with heap := h' } := I1.kept (t' := s1.toks) hk
    refine ⟨s1.heap.objs.size + 1, [s1.heap.objs.size + 1, s1.heap.objs.size], _, _, H1, rfl, I2, turn_en a (s1.heap.objs.size + 1) s1.heap.objs.size (Nat.succ_ne_self _) (fun e => ?_), ⟨⟨.none, he⟩, itAt_new hit⟩, fun b hb => ?_, q⟩
    · have := Heap.lt_size ho1
      rw [← e] at this
      exact absurd this (Nat.not_lt.mpr (Nat.le_add_right _ _))
    · have e' : b = s1.heap.objs.size + 1 ∨ b = s1.heap.objs.size := by simpa using hb
      have hle : s1.heap.objs.size ≤ b := by
        rcases e' with z | z
        · rw [z]; exact Nat.le_add_right _ _
        · rw [z]; exact Nat.le_refl _
      exact I1.fpOk hle (I1.hok.fresh hle)
def enumL (xs : List PyData) : List PyData := List.zipWith pair2 (rng 0 xs.length) xs
theorem enumL_get {xs : List PyData} {i : Nat} (h : i < xs.length) : (enumL xs)[i]? = some (pair2 (.int (i : Nat)) xs[i]) := by
  simp [enumL, rng, List.getElem?_zipWith, h]
theorem enumL_length {xs : List PyData} : (enumL xs).length = xs.length := by simp [enumL, rng]
theorem iten_ok {K : PySem.W.Frag} {st : StA} {H1 : Hp} {k1 : Bool} {a : Addr} {xs : List PyData} {vs : List V} {f fa : List Addr}
    (ha : ∀ Dep H', KpD Dep H1 H' → (∀ c ∈ fa, Dep c) → SqK k1 K H' a vs) (r1 : Reps K st H1 xs vs f) (sf : ∀ c ∈ f, c ∈ fa) :
    ItOk K st (Iten K k1 a) (enumL xs) (fun c => c ∈ fa) H1 where
  go := fun H2 i k hi => by
    have l1 := r1.length
    rw [enumL_length] at hi
    exact ⟨vs, vs[i]'(by omega), ha _ H2 k fun c hc => hc, by simp⟩
  stop := fun H2 k => by
    have l1 := r1.length
    rw [enumL_length]
    exact ⟨vs, ha _ H2 k fun c hc => hc, by omega⟩
  yld := fun H2 i v H3 k hi y => by
    obtain ⟨T, o, x, e, hT, ho, e3, q1⟩ := y
    subst e e3
    have l1 := r1.length
    rw [enumL_length] at hi
    have h1 := q1 vs (ha _ H2 k fun c hc => hc)
    have ext : KpD (fun c => c ∈ fa) H2 (upd H2 T (.frz o (.tup [.int (i : Nat), x]))) := KpD.of_all (upd_ext hT)
    obtain ⟨v1, f1, e1, w1, s1⟩ := (r1.kp k fun c hc => sf c hc).get (i := i) (d := xs[i]'(by omega)) (by simp)
    rw [h1] at e1
    cases e1
    refine ⟨Grow.upd hT, pair2 (.int (i : Nat)) xs[i], f1, enumL_get hi, ?_, fun c hc => sf c (s1 c hc)⟩
    exact Rep.pair (f1 := []) (Rep.of_int _) (w1.kp ext fun c hc => sf c (s1 c hc)) upd_same ho
def itEnum (g : Env → M (List RA)) (env : Env) : M (List PyData × List Nat) := g env >>= fun rs => match rs with
  | [some r] => M.ofOption (seqOf r.d) >>= fun xs => .ret (enumL xs, r.al)
  | _ => .stuck
section
variable {X : Cx} {e e2 e3 : Expr} {p pos tpos : Pos} {elts : List Expr} {kk : Nat} {g : Env → M (List RA)}
theorem di_enum (hg : Gl X "enumerate") (hm : X.mg "enumerate" = none) (ha : DA X [e] g) (hs : starEach [e] X.env = [(false, eval e X.env)] := by rfl) :
    DI X (.Tuple elts kk tpos) (.Call (.Name "enumerate" p) [e] [] pos) (itEnum g) := by
  obtain ⟨t, ht, qt⟩ := ha
  refine ⟨_, pi_enumK hg hm ht hs, fun G S H env σ os b R hK E sm h => ?_⟩
  unfold itEnum at h
  rw [M.all_bind] at h
  refine qt G S H env σ os b _ hK E sm (M.all_mono (fun rs b1 h1 vs H1 fps x1 sm1 ok1 => ?_) _ _ h)
  split at h1
  · rename_i r
    rw [M.all_bind] at h1
    obtain ⟨xs, ex, h1⟩ := M.all_ofOption.mp h1
    obtain ⟨v, fp, ev, r1, z1⟩ := RAok.one (r := r) ok1
    obtain ⟨k1, a, us, f, ea, qa, qr, qs, qk⟩ := r1.seq ex
    subst ea
    exact ⟨k1, a, us, ev, qa, h1 _ H1 _ x1 sm1 (iten_ok qk qr qs) fun c hc => ⟨z1.shr c hc, r1.trk c hc⟩⟩
  · exact h1.elim
end
end Vm

set_option Elab.async false
set_option linter.all false
set_option maxRecDepth 100000
namespace Vm
variable [TabsC]
variable {R : Exn → Nat → Prop}
open PySem L2

/-! ### a, b = x, y -/
/-- what a value's storing does to the frame's books -/
structure Stored (S S' : Addr → Prop) (os os' : Nat → List Addr) (r : RV) (fp : List Addr) : Prop where
  sub : ∀ c, S c → S' c
  stay : ∀ i c, c ∈ os i → i ∉ r.al → c ∈ os' i
  keep : r.lv ≠ .own → ∀ i c, c ∈ os i → S' c ∨ c ∈ os' i
  back : ∀ i c, c ∈ os' i → c ∈ os i
  new : ∀ c, S' c → S c ∨ (r.lv ≠ .own ∧ ((c ∈ fp ∧ (r.lv = .top → c ∉ fp.take 1)) ∨ ∃ i, c ∈ os i))
theorem ER.storeX {G : Gx} {S : Addr → Prop} {H H' : Hp} {env : Env} {σ : St} {os : Nat → List Addr} {r : RV} {v : V} {b : Nat} (E : ER G S H env σ os) (sm : Stm H G.st b) (x : SameX G.st H H') (ok : RVok G.K G.st S os H H' r v) :
    ∃ S' os' fp, ER G S' H' (prep r env) σ os' ∧ Rep G.K G.st H' r.d v fp ∧ LvOk S os H r.lv r.al fp ∧ Free G S' os' r.lv fp ∧ Stored S S' os os' r fp := by
  obtain ⟨fp, rp, l⟩ := ok
  have l0 := l
  have E' := E.mono sm x
  have tr := rp.trk
  cases hl : r.lv with
  | own =>
    rw [hl] at l
    have F : ER G S H' (prep r env) σ (fun i => if i ∈ r.al then [] else os i) := by
      unfold prep; rw [hl]
      exact E'.drop r.al rfl fun i _ => rfl
    refine ⟨S, _, fp, F, rp, hl ▸ l0, ⟨l.1, fun c hc => ?_⟩, fun c h => h, fun i c hc hi => by simp only [hi, if_false]; exact hc, fun h => absurd hl h, fun i c hc => ?_, fun c h => .inl h⟩
    · obtain ⟨⟨o, ho⟩, n1, n2⟩ := tr c hc
      have oc : okc S os H r.al c := (l.2 c hc).okc
      obtain ⟨q1, q2⟩ := okc_trk E oc n1 n2
      refine ⟨fun hs => ?_, fun i hi => ?_, ?_⟩
      · rcases l.2 c hc with z | ⟨j, hj, z⟩
        · obtain ⟨⟨o', e⟩, _⟩ := E.trk c hs; rw [z] at e; cases e
        · exact E.ns j c z hs
      · simp only at hi
        split at hi
        · cases hi
        · rename_i hn
          exact q2 i hn hi
      · rcases q1 with z | z
        · rcases l.2 c hc with w | ⟨j, hj, w⟩
          · obtain ⟨⟨o', e⟩, _⟩ := E.trk c z; rw [w] at e; cases e
          · exact E.fr j c w
        · exact z
    · try simp only at hc
      split at hc
      · cases hc
      · exact hc
  | shr =>
    rw [hl] at l
    have F := E'.freeze (F := fun c => c ∈ fp) r.al fun c hc => by
      obtain ⟨k1, n1, n2⟩ := tr c hc
      obtain ⟨q1, q2⟩ := okc_trk E (l c hc) n1 n2
      exact ⟨k1, n1, n2, q1, q2⟩
    have F' : ER G (fun c => S c ∨ c ∈ fp ∨ ∃ i ∈ r.al, c ∈ os i) H' (prep r env) σ (fun i => if i ∈ r.al then [] else os i) := by
      unfold prep; rw [hl]
      exact F
    refine ⟨_, _, fp, F', rp, hl ▸ l0, fun c hc => Or.inr (Or.inl hc), fun c h => Or.inl h, fun i c hc hi => by simp only [hi, if_false]; exact hc, fun _ i c hc => ?_, fun i c hc => ?_, fun c h => ?_⟩
    · by_cases hi : i ∈ r.al
      · exact .inl (.inr (.inr ⟨i, hi, hc⟩))
      · exact .inr (by simp only [hi, if_false]; exact hc)
    · try simp only at hc
      split at hc
      · cases hc
      · exact hc
    · rw [hl]
      rcases h with h | h | ⟨i, _, h⟩
      · exact .inl h
      · exact .inr ⟨(by intro z; cases z), .inl ⟨h, fun z => by cases z⟩⟩
      · exact .inr ⟨(by intro z; cases z), .inr ⟨i, h⟩⟩
  | top =>
    rw [hl] at l
    obtain ⟨a, f, e, na, fa, hf⟩ := l
    subst e
    have F := E'.freeze (F := fun c => c ∈ f) r.al fun c hc => by
      obtain ⟨k1, n1, n2⟩ := tr c (List.mem_cons_of_mem _ hc)
      obtain ⟨q1, q2⟩ := okc_trk E (hf c hc) n1 n2
      exact ⟨k1, n1, n2, q1, q2⟩
    obtain ⟨k1, n1, n2⟩ := tr a List.mem_cons_self
    have F' : ER G (fun c => S c ∨ c ∈ f ∨ ∃ i ∈ r.al, c ∈ os i) H' (prep r env) σ (fun i => if i ∈ r.al then [] else os i) := by
      unfold prep; rw [hl]
      exact F
    refine ⟨_, _, a :: f, F', rp, hl ▸ l0, ⟨a, f, rfl, na, fun c hc => Or.inr (Or.inl hc), ?_, ?_, ?_⟩, fun c h => Or.inl h, fun i c hc hi => by simp only [hi, if_false]; exact hc, fun _ i c hc => ?_, fun i c hc => ?_, fun c h => ?_⟩
    · rintro (z | z | ⟨i, _, z⟩)
      · obtain ⟨⟨o, e⟩, _⟩ := E.trk a z; rw [fa] at e; cases e
      · exact na z
      · obtain ⟨⟨o, e⟩, _⟩ := E.own_trk z; rw [fa] at e; cases e
    · intro i hi
      simp only at hi
      split at hi
      · cases hi
      · obtain ⟨⟨o, e⟩, _⟩ := E.own_trk hi; rw [fa] at e; cases e
    · cases e : G.H0 a with
      | none => rfl
      | some o => rw [E.same a o n1 n2 e] at fa; cases fa
    · by_cases hi : i ∈ r.al
      · exact .inl (.inr (.inr ⟨i, hi, hc⟩))
      · exact .inr (by simp only [hi, if_false]; exact hc)
    · try simp only at hc
      split at hc
      · cases hc
      · exact hc
    · rw [hl]
      rcases h with h | h | ⟨i, _, h⟩
      · exact .inl h
      · exact .inr ⟨(by intro z; cases z), .inl ⟨List.mem_cons_of_mem _ h, fun _ z => na (by simpa using (show c = a by simpa using z) ▸ h)⟩⟩
      · exact .inr ⟨(by intro z; cases z), .inr ⟨i, h⟩⟩

/-- values that are told, not stored yet -/
def Pend (G : Gx) (S : Addr → Prop) (os : Nat → List Addr) (H : Hp) : List RV → List V → List (List Addr) → Prop
  | [], vs, fps => vs = [] ∧ fps = []
  | r :: rs, vs, fps => ∃ v vr fp fr, vs = v :: vr ∧ fps = fp :: fr ∧ Rep G.K G.st H r.d v fp ∧ Free G S os r.lv fp ∧ Pend G S os H rs vr fr ∧ ∀ c ∈ ownOf r.lv fp, ∀ p ∈ rs.zip fr, c ∉ ownOf p.1.lv p.2
theorem ownOf_sub {lv : Lv} {fp : List Addr} : ∀ c ∈ ownOf lv fp, c ∈ fp := by
  intro c hc
  cases lv with
  | shr => cases hc
  | top => exact List.mem_of_mem_take hc
  | own => exact hc
theorem Pend.length {G : Gx} {S : Addr → Prop} {os : Nat → List Addr} {H : Hp} : ∀ {rs : List RV} {vs : List V} {fps : List (List Addr)}, Pend G S os H rs vs fps → rs.length = fps.length
  | [], _, _, h => by rw [h.2]; rfl
  | r :: rs, _, _, h => by
    obtain ⟨v, vr, fp, fr, e1, e2, _, _, h, _⟩ := h
    rw [e2]; simp [h.length]
/-- one more -/
theorem Pend.step {G : Gx} {S S' : Addr → Prop} {os os' : Nat → List Addr} {H H' : Hp} {r : RV} {v : V} {fp : List Addr} {env : Env} {σ : St} {b : Nat} (E : ER G S H env σ os) (sm : Stm H G.st b) (x : SameX G.st H H') (rp : Rep G.K G.st H' r.d v fp) (l : LvOk S os H r.lv r.al fp) (fr : Free G S' os' r.lv fp)
    (st : Stored S S' os os' r fp) : ∀ {rs : List RV} {vs : List V} {fps : List (List Addr)}, Pend G S os H rs vs fps → Pend G S' os' H' (rs ++ [r]) (vs ++ [v]) (fps ++ [fp])
  | [], _, _, h => by
    obtain ⟨e1, e2⟩ := h
    subst e1 e2
    exact ⟨v, [], fp, [], rfl, rfl, rp, fr, ⟨rfl, rfl⟩, fun c _ p hp => by cases hp⟩
  | r' :: rs, _, _, h => by
    obtain ⟨v', vr, fp', fr', e1, e2, rp', fr0, h, hd⟩ := h
    subst e1 e2
    have own := fr0.own
    have trk := rp'.trk
    -- nothing of ours is in the new one
    have apart : ∀ c ∈ ownOf r'.lv fp', c ∉ fp := fun c hc hc' => by
      obtain ⟨n1, n2, _⟩ := own c hc
      obtain ⟨⟨o, e⟩, _⟩ := trk c (ownOf_sub c hc)
      rcases l.shr c hc' with z | z | ⟨i, _, z⟩
      · rw [z] at e; cases e
      · exact n1 z
      · exact n2 i z
    have noS : ∀ c ∈ ownOf r'.lv fp', ¬ S' c := fun c hc hs => by
      obtain ⟨n1, n2, _⟩ := own c hc
      rcases st.new c hs with z | ⟨_, ⟨z, _⟩ | ⟨i, z⟩⟩
      · exact n1 z
      · exact apart c hc z
      · exact n2 i z
    refine ⟨v', vr ++ [v], fp', fr' ++ [fp], rfl, rfl, rp'.sameX sm x, ?_, Pend.step E sm x rp l fr st h, fun c hc p hp => ?_⟩
    · generalize hlv : r'.lv = lv' at fr0 own apart noS
      cases lv' with
      | shr => exact fun c hc => st.sub c (fr0 c hc)
      | top =>
        obtain ⟨a, f, e, na, hf, h1, h2, h3⟩ := fr0
        subst e
        exact ⟨a, f, rfl, na, fun c hc => st.sub c (hf c hc), noS a (by simp [ownOf]), fun i hi => h2 i (st.back i a hi), h3⟩
      | own =>
        exact ⟨fr0.1, fun c hc => ⟨noS c hc, fun i hi => (own c hc).2.1 i (st.back i c hi), (own c hc).2.2⟩⟩
    · change p ∈ (rs ++ [r]).zip (fr' ++ [fp]) at hp
      rw [List.zip_append (Pend.length h)] at hp
      rcases List.mem_append.mp hp with hp | hp
      · exact hd c hc p hp
      · have e : p = (r, fp) := by simpa using hp
        subst e
        exact fun hc' => apart c hc (ownOf_sub c hc')
/-- how the books at the beginning and now hang together -/
structure Trans (S S1 : Addr → Prop) (os os1 : Nat → List Addr) (done : List RV) : Prop where
  sub : ∀ c, S c → S1 c
  stay : ∀ i c, c ∈ os i → (∀ r ∈ done, i ∉ r.al) → c ∈ os1 i
  keep : ∀ i c, c ∈ os i → (∀ r ∈ done, r.lv = .own → i ∉ r.al) → S1 c ∨ c ∈ os1 i
theorem Trans.step {S S1 S2 : Addr → Prop} {os os1 os2 : Nat → List Addr} {done : List RV} {r : RV} {fp : List Addr} (t : Trans S S1 os os1 done) (s : Stored S1 S2 os1 os2 r fp) : Trans S S2 os os2 (done ++ [r]) where
  sub := fun c h => s.sub c (t.sub c h)
  stay := fun i c hc hd => s.stay i c (t.stay i c hc fun r' hr' => hd r' (List.mem_append_left _ hr')) (hd r (by simp))
  keep := fun i c hc hd => by
    rcases t.keep i c hc fun r' hr' => hd r' (List.mem_append_left _ hr') with z | z
    · exact .inl (s.sub c z)
    · by_cases ho : r.lv = .own
      · exact .inr (s.stay i c z (hd r (by simp) ho))
      · exact s.keep ho i c z
def sepOk (done : List RV) (r : RV) : Bool := done.all fun r' => (decide (r'.lv ≠ .own) && decide (r.lv ≠ .own)) || r'.al.all fun i => !r.al.contains i
theorem LvOk.trans {S S1 : Addr → Prop} {os os1 : Nat → List Addr} {done : List RV} {H : Hp} {r : RV} {fp : List Addr} (t : Trans S S1 os os1 done) (h : sepOk done r = true) (l : LvOk S os H r.lv r.al fp) : LvOk S1 os1 H r.lv r.al fp := by
  unfold sepOk at h
  rw [List.all_eq_true] at h
  have dis : ∀ r' ∈ done, (r'.lv = .own ∨ r.lv = .own) → ∀ i ∈ r.al, i ∉ r'.al := fun r' hr' ho i hi hi' => by
    have q := h r' hr'
    rw [Bool.or_eq_true] at q
    rcases q with q | q
    · simp only [Bool.and_eq_true, decide_eq_true_eq] at q
      rcases ho with z | z
      · exact q.1 z
      · exact q.2 z
    · rw [List.all_eq_true] at q
      have q2 := q i hi'
      simp at q2
      exact q2 hi
  have oc : ∀ c, okc S os H r.al c → okc S1 os1 H r.al c := fun c z => by
    rcases z with z | z | ⟨i, hi, z⟩
    · exact .inl z
    · exact .inr (.inl (t.sub c z))
    · rcases t.keep i c z fun r' hr' ho => fun hi' => dis r' hr' (.inl ho) i hi hi' with w | w
      · exact .inr (.inl w)
      · exact .inr (.inr ⟨i, hi, w⟩)
  cases hl : r.lv with
  | shr => rw [hl] at l; exact fun c hc => oc c (l c hc)
  | top =>
    rw [hl] at l
    obtain ⟨a, f, e, na, fa, hf⟩ := l
    exact ⟨a, f, e, na, fa, fun c hc => oc c (hf c hc)⟩
  | own =>
    rw [hl] at l
    refine ⟨l.1, fun c hc => ?_⟩
    rcases l.2 c hc with z | ⟨i, hi, z⟩
    · exact .inl z
    · exact .inr ⟨i, hi, t.stay i c z fun r' hr' hi' => dis r' hr' (.inr hl) i hi hi'⟩
def parE (env0 : Env) : List (Env → M RV) → Env → List RV → M (List RV × Env)
  | [], env1, done => .ret (done, env1)
  | f :: fs, env1, done => f env0 >>= fun r => if sepOk done r then parE env0 fs (prep r env1) (done ++ [r]) else .stuck
inductive AllDE (X : Cx) : List Expr → List (Env → M RV) → Prop
  | nil : AllDE X [] []
  | cons {e : Expr} {es : List Expr} {f : Env → M RV} {fs : List (Env → M RV)} (h : DE X e f) (hr : AllDE X es fs) (hs : starEach (e :: es) X.env = (false, eval e X.env) :: starEach es X.env := by rfl) : AllDE X (e :: es) (f :: fs)
theorem par_go {X : Cx} : ∀ {es : List Expr} {fs : List (Env → M RV)}, AllDE X es fs → ∃ t, PA X es t ∧ ∀ (G : Gx) (S S1 : Addr → Prop) (H : Hp) (env0 env1 : Env) (σ : St) (os os1 : Nat → List Addr) (b : Nat) (done : List RV) (vs0 : List V) (fps0 : List (List Addr)) (Q : List V → Hp → Prop),
    GOk G X → ER G S H env0 σ os → ER G S1 H env1 σ os1 → Stm H G.st b → Trans S S1 os os1 done → Pend G S1 os1 H done vs0 fps0 →
    (parE env0 fs env1 done).all G.R (fun p b' => ∀ vs fps H' S2 os2, SameX G.st H H' → Stm H' G.st b' → (∀ c, S c → S2 c) → ER G S2 H' p.2 σ os2 → Pend G S2 os2 H' p.1 (vs0 ++ vs) fps → Q vs H') b → t σ H Q := by
  intro es fs h
  induction h with
  | nil =>
    refine ⟨_, pa_nil, fun G S S1 H env0 env1 σ os os1 b done vs0 fps0 Q hK E E1 sm tr pe h => ?_⟩
    exact h [] fps0 H S1 os1 (SameX.refl _) sm tr.sub E1 (by rw [List.append_nil]; exact pe)
  | cons h hr hs ih =>
    obtain ⟨ta, ha, qa⟩ := h
    obtain ⟨tb, hb, qb⟩ := ih
    refine ⟨_, pa_cons ha hb hs, fun G S S1 H env0 env1 σ os os1 b done vs0 fps0 Q hK E E1 sm tr pe h => ?_⟩
    unfold parE at h
    rw [M.all_bind] at h
    refine qa G S H env0 σ os b _ hK E sm (M.all_mono (fun r b1 h1 v H1 x1 sm1 ok1 => ?_) _ _ h)
    by_cases hs : sepOk done r = true
    case neg => rw [if_neg hs] at h1; exact h1.elim
    rw [if_pos hs] at h1
    have ok2 : RVok G.K G.st S1 os1 H H1 r v := by
      obtain ⟨fp, rp, l⟩ := ok1
      exact ⟨fp, hK.K ▸ rp, l.trans tr hs⟩
    obtain ⟨S2, os2, fp, E2, rp, l, fr, sd⟩ := E1.storeX sm x1 ok2
    refine qb G S S2 H1 env0 (prep r env1) σ os os2 b1 (done ++ [r]) (vs0 ++ [v]) (fps0 ++ [fp]) _ hK (E.mono sm x1) E2 sm1 (tr.step sd) (pe.step E1 sm x1 rp l fr sd) (M.all_mono (fun p b2 h2 vs fps H2 S3 os3 x2 sm2 s3 E3 p3 => ?_) _ _ h1)
    exact h2 (v :: vs) fps H2 S3 os3 (x1.trans x2) sm2 s3 E3 (by rw [List.append_assoc] at p3; exact p3)
/-- the slots that take them -/
def setAll : List Nat → List RV → Env → Option Env
  | [], [], env => some env
  | i :: is, r :: rs, env => if i < env.length then setAll is rs (env.set i (some (.dat r.d r.lv))) else none
  | _, _, _ => none
def setV : List Nat → List V → St → St
  | i :: is, v :: vs, σ => setV is vs (σ.set i (some v))
  | _, _, σ => σ
theorem pend_set {G : Gx} {H : Hp} {i : Nat} : ∀ {rs : List RV} {vs : List V} {fps : List (List Addr)} {S : Addr → Prop} {os : Nat → List Addr} {o : List Addr}, Pend G S os H rs vs fps → (∀ c ∈ o, ∀ p ∈ rs.zip fps, c ∉ ownOf p.1.lv p.2) → Pend G S (fun j => if j = i then o else os j) H rs vs fps
  | [], _, _, S, os, o, h, _ => h
  | r :: rs, _, _, S, os, o, h, ho => by
    obtain ⟨v, vr, fp, fr, e1, e2, rp, fr0, h, hd⟩ := h
    subst e1 e2
    have ho1 : ∀ c ∈ ownOf r.lv fp, c ∉ o := fun c hc hc' => ho c hc' (r, fp) (by simp) hc
    refine ⟨v, vr, fp, fr, rfl, rfl, rp, ?_, pend_set h fun c hc p hp => ho c hc p (by simp [hp]), hd⟩
    generalize hlv : r.lv = lv at fr0 ho1
    have nin : ∀ c, c ∈ ownOf lv fp → (∀ j, c ∉ os j) → ∀ j, c ∉ (if j = i then o else os j) := fun c hc hn j hj => by
      split at hj
      · exact ho1 c hc hj
      · exact hn j hj
    cases lv with
    | shr => exact fr0
    | top =>
      obtain ⟨a, f, e, na, hf, h1, h2, h3⟩ := fr0
      subst e
      exact ⟨a, f, rfl, na, hf, h1, nin a (by simp [ownOf]) h2, h3⟩
    | own => exact ⟨fr0.1, fun c hc => ⟨(fr0.2 c hc).1, nin c hc (fr0.2 c hc).2.1, (fr0.2 c hc).2.2⟩⟩
theorem set_all {G : Gx} {S : Addr → Prop} {H : Hp} : ∀ {is : List Nat} {rs : List RV} {vs : List V} {fps : List (List Addr)} {env env' : Env} {σ : St} {os : Nat → List Addr}, ER G S H env σ os → Pend G S os H rs vs fps → setAll is rs env = some env' → ∃ os', ER G S H env' (setV is vs σ) os'
  | [], [], vs, fps, env, env', σ, os, E, p, h => by
    cases h
    rw [p.1]
    exact ⟨os, E⟩
  | i :: is, r :: rs, vs, fps, env, env', σ, os, E, p, h => by
    obtain ⟨v, vr, fp, fr, e1, e2, rp, fr0, p, hd⟩ := p
    subst e1 e2
    unfold setAll at h
    by_cases hi : i < env.length
    case neg => rw [if_neg hi] at h; cases h
    rw [if_pos hi] at h
    exact set_all (is := is) (rs := rs) (vs := vr) (E.set hi rp fr0) (pend_set (vs := vr) p hd) h
  | [], _ :: _, _, _, _, _, _, _, _, _, h => by cases h
  | _ :: _, [], _, _, _, _, _, _, _, _, h => by cases h
def sPar (is : List Nat) (fs : List (Env → M RV)) (env : Env) : M (Fl × Env) := parE env fs env [] >>= fun p => M.ofOption (setAll is p.1 p.2) >>= fun env' => .ret (.nx, env')
section
variable {X : Cx}
theorem par_all {es : List Expr} {fs : List (Env → M RV)} (h : AllDE X es fs) (is : List Nat) : ∃ t, PA X es t ∧ ∀ (G : Gx) (S : Addr → Prop) (H : Hp) (env : Env) (σ : St) (os : Nat → List Addr) (b : Nat) (D : Ends) (Q : List V → Hp → Prop), GOk G X → ER G S H env σ os → Stm H G.st b →
    (sPar is fs env).all G.R (SPost G S H D) b → (∀ vs H', vs.length = is.length → D.nx (setV is vs σ) H' → Q vs H') → t σ H Q := by
  obtain ⟨t, ht, qt⟩ := par_go h
  refine ⟨t, ht, fun G S H env σ os b D Q hK E sm h hQ => ?_⟩
  unfold sPar at h
  rw [M.all_bind] at h
  refine qt G S S H env env σ os os b [] [] [] Q hK E E sm ⟨fun _ z => z, fun _ _ z _ => z, fun _ _ z _ => .inr z⟩ ⟨rfl, rfl⟩ (M.all_mono (fun p b1 h1 vs fps H1 S2 os2 x1 sm1 s2 E2 pe => ?_) _ _ h)
  rw [M.all_bind] at h1
  obtain ⟨env', he, h1⟩ := M.all_ofOption.mp h1
  obtain ⟨os3, E3⟩ := set_all E2 pe he
  refine hQ vs H1 ?_ (h1 _ H1 S2 os3 s2 (x1.kpS E sm) E3 sm1)
  have hl : ∀ {is : List Nat} {rs : List RV} {env : Env}, setAll is rs env = some env' → is.length = rs.length := by
    intro is
    induction is with
    | nil => intro rs env h; cases rs with
      | nil => rfl
      | cons => cases h
    | cons i is ih => intro rs env h; cases rs with
      | nil => cases h
      | cons r rs =>
        unfold setAll at h
        split at h
        · simp [ih h]
        · cases h
  have l2 : ∀ {rs : List RV} {vs : List V} {fps : List (List Addr)}, Pend G S2 os2 H1 rs vs fps → vs.length = rs.length := by
    intro rs
    induction rs with
    | nil => intro vs fps p; rw [p.1]; rfl
    | cons r rs ih => intro vs fps p; obtain ⟨v, vr, fp, fr, e1, e2, _, _, p, _⟩ := p; rw [e1]; simp [ih p]
  have := l2 pe
  rw [List.nil_append] at this
  rw [this, hl he]
theorem ds_par {i j : Nat} {x y : Str} {a b : Expr} {f g : Env → M RV} {px py pt pos : Pos} {kt k2 pt2} (hc : X.calm = true) (hN : X.N.Nodup) (hi : X.N[i]? = some x) (hj : X.N[j]? = some y) (hij : i ≠ j)
    (hx : X.env.scope.names.lookup x = some .local) (hy : X.env.scope.names.lookup y = some .local) (h : AllDE X [a, b] [f, g])
    (hw : swappedStores [.Tuple [.Name x px, .Name y py] kt pt] (.Tuple [a, b] k2 pt2) X.env = pure (some [x, y]))
    (hs : swapsWithSole [.Tuple [.Name x px, .Name y py] kt pt] (.Tuple [a, b] k2 pt2) pos.line X.env = pure false := by rfl) :
    DS X (.Assign [.Tuple [.Name x px, .Name y py] kt pt] (.Tuple [a, b] k2 pt2) pos) (sPar [i, j] [f, g]) := by
  obtain ⟨t, ht, qt⟩ := par_all h [i, j]
  refine ⟨_, ps_par hc hN hi hj hij hx hy ht hw hs, fun G S H env σ os b D hK E sm h => ?_⟩
  refine qt G S H env σ os b D _ hK E sm h fun vs H' hl q => ?_
  match vs, hl with
  | [v, w], _ => exact ⟨v, w, rfl, q⟩
theorem ds_par3 {i j l : Nat} {x y z : Str} {a b c : Expr} {f g h' : Env → M RV} {px py pz pt pos : Pos} {kt k2 pt2} (hc : X.calm = true) (hN : X.N.Nodup) (hi : X.N[i]? = some x) (hj : X.N[j]? = some y) (hl : X.N[l]? = some z) (hij : i ≠ j) (hil : i ≠ l) (hjl : j ≠ l)
    (hx : X.env.scope.names.lookup x = some .local) (hy : X.env.scope.names.lookup y = some .local) (hz : X.env.scope.names.lookup z = some .local) (h : AllDE X [a, b, c] [f, g, h'])
    (hw : swappedStores [.Tuple [.Name x px, .Name y py, .Name z pz] kt pt] (.Tuple [a, b, c] k2 pt2) X.env = pure (some [x, y, z]))
    (hs : swapsWithSole [.Tuple [.Name x px, .Name y py, .Name z pz] kt pt] (.Tuple [a, b, c] k2 pt2) pos.line X.env = pure false := by rfl) :
    DS X (.Assign [.Tuple [.Name x px, .Name y py, .Name z pz] kt pt] (.Tuple [a, b, c] k2 pt2) pos) (sPar [i, j, l] [f, g, h']) := by
  obtain ⟨t, ht, qt⟩ := par_all h [i, j, l]
  refine ⟨_, ps_par3 hc hN hi hj hl hij hil hjl hx hy hz ht hw hs, fun G S H env σ os b D hK E sm h => ?_⟩
  refine qt G S H env σ os b D _ hK E sm h fun vs H' hl q => ?_
  match vs, hl with
  | [u, v, w], _ => exact ⟨u, v, w, rfl, q⟩
end
end Vm

set_option Elab.async false
set_option linter.all false
set_option maxRecDepth 100000
namespace Vm
variable [TabsC]
variable {R : Exn → Nat → Prop}
open PySem L2
open PySem.Sem (wp)

/-! ### x in xs -/
def rInQ (K : PySem.W.Frag) (neg : Bool) : R2 := fun x y H Q => ∃ d e ds, Dp K H x d ∧ Dp K H y e ∧ (e = .list ds ∨ e = .tuple ds) ∧ SeqAt.shaped d = true ∧ SeqAt.shaped e = true ∧ Q (.bl (if neg then !ds.any (fun z => PyData.eqv z d) else ds.any fun z => PyData.eqv z d)) H
section
variable {X : Cx}
theorem op_inQ (hu : X.A.units + 65 < cLine) : OpR X (compareOp .In) (rInQ X.K false) := by
  intro pins s σ H x y v u Q I rx ry h
  obtain ⟨d, e, ds, hd, he, hk, sd, se, q⟩ := h
  obtain ⟨as, r1⟩ := Dp.reads I d x v hd rx
  obtain ⟨bs, r2⟩ := Dp.reads I e y u he ry
  rcases hk with rfl | rfl
  · exact SeqAt.in_list_reads r2 r1 (SeqAt.canLay_of_shaped se) (SeqAt.canLay_of_shaped sd) (PyProof.Rows.room_in_shaped sd hu) ⟨.bl _, H, I, rfl, q⟩
  · exact SeqAt.in_tuple_reads r2 r1 (SeqAt.canLay_of_shaped se) (SeqAt.canLay_of_shaped sd) (PyProof.Rows.room_in_shaped sd hu) ⟨.bl _, H, I, rfl, q⟩
theorem op_notInQ (hu : X.A.units + 65 < cLine) : OpR X (compareOp .NotIn) (rInQ X.K true) := by
  intro pins s σ H x y v u Q I rx ry h
  obtain ⟨d, e, ds, hd, he, hk, sd, se, q⟩ := h
  obtain ⟨as, r1⟩ := Dp.reads I d x v hd rx
  obtain ⟨bs, r2⟩ := Dp.reads I e y u he ry
  rcases hk with rfl | rfl
  · exact SeqAt.notIn_list_reads r2 r1 (SeqAt.canLay_of_shaped se) (SeqAt.canLay_of_shaped sd) (PyProof.Rows.room_in_shaped sd hu) ⟨.bl _, H, I, rfl, q⟩
  · exact SeqAt.notIn_tuple_reads r2 r1 (SeqAt.canLay_of_shaped se) (SeqAt.canLay_of_shaped sd) (PyProof.Rows.room_in_shaped sd hu) ⟨.bl _, H, I, rfl, q⟩
def oIn (neg : Bool) (r1 r2 : RV) : M RV := M.ofOption (seqOf r2.d) >>= fun ds => if noDict r1.d && noDict r2.d && SeqAt.shaped r1.d && SeqAt.shaped r2.d then flat (.bool (if neg then !ds.any (fun z => PyData.eqv z r1.d) else ds.any fun z => PyData.eqv z r1.d)) else .stuck
theorem oIn_ok {neg : Bool} {K : PySem.W.Frag} {st : StA} {S : Addr → Prop} {os : Nat → List Addr} {H H2 : Hp} {b : Nat} {x y : V} {r1 r2 : RV} {Q : VK} (sm : Stm H2 st b)
    (k1 : RVok K st S os H H2 r1 x) (k2 : RVok K st S os H H2 r2 y) (q : (oIn neg r1 r2).all R (fun r b' => ∀ v H', SameX st H2 H' → Stm H' st b' → RVok K st S os H H' r v → Q v H') b) : rInQ K neg x y H2 Q := by
  obtain ⟨f1, p1, _⟩ := k1
  obtain ⟨f2, p2, _⟩ := k2
  unfold oIn at q
  rw [M.all_bind] at q
  obtain ⟨ds, hs, q⟩ := M.all_ofOption.mp q
  split at q
  · rename_i hc
    simp only [Bool.and_eq_true] at hc
    refine ⟨_, _, ds, p1.toDp hc.1.1.1, p2.toDp hc.1.1.2, ?_, hc.1.2, hc.2, q _ H2 (SameX.refl _) sm (RVok.imm rfl (Rep.of_bool _))⟩
    cases e : r2.d <;> rw [e] at hs <;> simp only [seqOf] at hs <;> cases hs
    · exact .inl rfl
    · exact .inr rfl
  · exact q.elim
theorem o_in (hu : X.A.units + 65 < cLine) : O2 X (compareOp .In) (oIn false) := ⟨_, op_inQ hu, fun R st S os H H2 b x y r1 r2 Q sm sx k1 k2 q => oIn_ok sm k1 k2 q⟩
theorem o_notin (hu : X.A.units + 65 < cLine) : O2 X (compareOp .NotIn) (oIn true) := ⟨_, op_notInQ hu, fun R st S os H H2 b x y r1 r2 Q sm sx k1 k2 q => oIn_ok sm k1 k2 q⟩
end

/-! ### methods of lists and tuples -/
/-- the type that a list or a tuple has -/
def TyQ (K : PySem.W.Frag) (H : Hp) (x : V) (tup : Bool) : Prop := ∃ a xs, x = .ref a ∧ SqK tup K H a xs
section
variable {X : Cx} {o e : Expr} {es : List Expr} {to : TE} {t : TA} {name : Str} {apos cpos : Pos} {id id' : String} {r r' : V → List V → Hp → VK → Prop} {f : Env → M RV} {g : Env → M (List RA)}
def tBQ (K : PySem.W.Frag) (r r' : V → List V → Hp → VK → Prop) (to : TE) (t : TA) : TE := fun σ H Q => to σ H fun x H1 => (TyQ K H1 x false ∧ t σ H1 fun xs H2 => r x xs H2 Q) ∨ (TyQ K H1 x true ∧ t σ H1 fun xs H2 => r' x xs H2 Q)
theorem pe_bq (slot : Slot "list" name id) (hty : typeOf (.builtin id) = pure (.type "method_descriptor")) (slot' : Slot "tuple" name id') (hty' : typeOf (.builtin id') = pure (.type "method_descriptor")) (hm : MtR X id r) (hm' : MtR X id' r') (ho : PE X o to) (ha : PA X (e :: es) t)
    (hbase : attributeBase o name X.env (eval o X.env) = eval o X.env := by rfl)
    (hfew : ((backTo cpos (starEach (e :: es) X.env)).all (fun x => !x.1) && (backToKw cpos (keywordEach [] X.env)).all (fun x => x.1.isSome)
      && decide ((e :: es).length + ([] : List Keyword).length + (if ([] : List Keyword).isEmpty then 0 else 1) < 30)) = true := by rfl)
    (hline : (apos.endLine == cpos.line) = true := by rfl) (hs : starEach (e :: es) X.env = (false, eval e X.env) :: starEach es X.env := by rfl) (hplain : (backTo cpos (starEach es X.env)).any (·.1) = false := by rfl) :
    PE X (.Call (.Attribute o name apos) (e :: es) [] cpos) (tBQ X.K r r' to t) := by
  refine ⟨fun pins s σ H Q I h => ?_⟩
  refine wpAny_Call_method_late hbase hfew hline rfl (thn (ho.run pins s σ H _ I h) fun v s1 ⟨x, H1, I1, r1, q1⟩ => ?_)
  rcases q1 with ⟨⟨a, xs, ex, hq⟩, q1⟩ | ⟨⟨a, xs, ex, hq⟩, q1⟩
  · subst ex
    cases r1
    obtain ⟨its, _, pl, _⟩ := I1.list hq
    refine ⟨"list", id, PySem.F.plainAttrs_list, slot, hty, pl.isList.typeIs, (fun a e => ?_), ?_⟩
    · cases e
      obtain ⟨o, n, e1, e2, e3, e4⟩ := pl
      exact ⟨o, e1, e3⟩
    · have hA := ha.run cpos pins s1 σ H1 _ I1 q1
      rw [hs] at hA ⊢
      refine Calls.callWith_builtin (by show (false || (backTo cpos (starEach es X.env)).any (·.1)) = false; rw [hplain] <;> rfl) (Calls.evalArgs_plain ?_)
      exact thn hA fun us s2 ⟨vs, H2, I2, r2, q2⟩ => hm pins s2 σ H2 (.ref a) vs (.ref a) us Q I2 rfl r2 q2
  · subst ex
    cases r1
    obtain ⟨its, _, pl, _⟩ := I1.tuple (STup.sq hq)
    refine ⟨"tuple", id', PySem.F.plainAttrs_tuple, slot', hty', pl.typeIs, (fun a e => ?_), ?_⟩
    · cases e
      exact STup.bare hq I1
    · have hA := ha.run cpos pins s1 σ H1 _ I1 q1
      rw [hs] at hA ⊢
      refine Calls.callWith_builtin (by show (false || (backTo cpos (starEach es X.env)).any (·.1)) = false; rw [hplain] <;> rfl) (Calls.evalArgs_plain ?_)
      exact thn hA fun us s2 ⟨vs, H2, I2, r2, q2⟩ => hm' pins s2 σ H2 (.ref a) vs (.ref a) us Q I2 rfl r2 q2
def MC (X : Cx) (id : String) (tup : Bool) (op : RV → List RV → M RV) : Prop :=
  ∃ r : V → List V → Hp → VK → Prop, MtR X id r ∧ ∀ (R : Exn → Nat → Prop) (st : StA) (S : Addr → Prop) (os : Nat → List Addr) (H H2 : Hp) (b : Nat) (x : V) (vs : List V) (fps : List (List Addr)) (r0 : RV) (rs : List RV) (Q : VK), Stm H2 st b → SameX st H H2 →
    RVok X.K st S os H H2 r0 x → (∃ xs, r0.d = if tup then .tuple xs else .list xs) → RAok X.K st S os H H2 (rs.map some) vs fps → (op r0 rs).all R (fun r b' => ∀ v H', SameX st H2 H' → Stm H' st b' → RVok X.K st S os H H' r v → Q v H') b → r x vs H2 Q
def vMeth (op : RV → List RV → M RV) (f : Env → M RV) (g : Env → M (List RA)) (env : Env) : M RV := f env >>= fun r0 => M.ofOption (seqOf r0.d) >>= fun _ => g env >>= fun rs => M.ofOption (noStm rs) >>= fun ys => op r0 ys
theorem de_meth {op : RV → List RV → M RV} (slot : Slot "list" name id) (hty : typeOf (.builtin id) = pure (.type "method_descriptor")) (slot' : Slot "tuple" name id') (hty' : typeOf (.builtin id') = pure (.type "method_descriptor")) (hm : MC X id false op) (hm' : MC X id' true op) (ho : DE X o f) (ha : DA X (e :: es) g)
    (hbase : attributeBase o name X.env (eval o X.env) = eval o X.env := by rfl)
    (hfew : ((backTo cpos (starEach (e :: es) X.env)).all (fun x => !x.1) && (backToKw cpos (keywordEach [] X.env)).all (fun x => x.1.isSome)
      && decide ((e :: es).length + ([] : List Keyword).length + (if ([] : List Keyword).isEmpty then 0 else 1) < 30)) = true := by rfl)
    (hline : (apos.endLine == cpos.line) = true := by rfl) (hs : starEach (e :: es) X.env = (false, eval e X.env) :: starEach es X.env := by rfl) (hplain : (backTo cpos (starEach es X.env)).any (·.1) = false := by rfl) :
    DE X (.Call (.Attribute o name apos) (e :: es) [] cpos) (vMeth op f g) := by
  obtain ⟨to, pto, qo⟩ := ho
  obtain ⟨t, ht, qt⟩ := ha
  obtain ⟨r, h1, h2⟩ := hm
  obtain ⟨r', h1', h2'⟩ := hm'
  refine ⟨_, pe_bq slot hty slot' hty' h1 h1' pto ht hbase hfew hline hs hplain, fun G S H env σ os b Q hK E sm h => ?_⟩
  unfold vMeth at h
  rw [M.all_bind] at h
  refine qo G S H env σ os b _ hK E sm (M.all_mono (fun r0 b1 h1 v H1 x1 sm1 ok1 => ?_) _ _ h)
  rw [M.all_bind] at h1
  obtain ⟨xs, ex, h1⟩ := M.all_ofOption.mp h1
  have ok0 := ok1
  obtain ⟨fp, rp, l⟩ := ok1
  rw [M.all_bind] at h1
  have go : ∀ (tup : Bool) (rr : V → List V → Hp → VK → Prop), (∃ xs, r0.d = if tup then .tuple xs else .list xs) →
      (∀ (R : Exn → Nat → Prop) (st : StA) (S : Addr → Prop) (os : Nat → List Addr) (H H2 : Hp) (b : Nat) (x : V) (vs : List V) (fps : List (List Addr)) (r0 : RV) (rs : List RV) (Q : VK), Stm H2 st b → SameX st H H2 →
    RVok X.K st S os H H2 r0 x → (∃ xs, r0.d = if tup then .tuple xs else .list xs) → RAok X.K st S os H H2 (rs.map some) vs fps → (op r0 rs).all R (fun r b' => ∀ v H', SameX st H2 H' → Stm H' st b' → RVok X.K st S os H H' r v → Q v H') b → rr x vs H2 Q) →
      t σ H1 fun ys H2 => rr v ys H2 Q := fun tup rr hd hrr => by
    refine qt G S H1 env σ os b1 _ hK (E.mono sm x1) sm1 (M.all_mono (fun rs b2 h2 vs H2 fps x2 sm2 ok2 => ?_) _ _ h1)
    rw [M.all_bind] at h2
    obtain ⟨ys, hy, hh⟩ := M.all_ofOption.mp h2
    have ey := noStm_eq hy
    subst ey
    exact hrr G.R G.st S os H H2 b2 v vs fps r0 ys Q sm2 (x1.trans x2) (ok0.later sm1 x2) hd (ok2.back sm1 x1) (M.all_mono (fun r b' hr v H' x' sm' ok => hr v H' ((x1.trans x2).trans x') sm' ok) _ _ hh)
  cases e0 : r0.d <;> rw [e0] at ex rp <;> simp only [seqOf] at ex <;> cases ex
  · unfold Rep at rp
    obtain ⟨a, us, f', ev, ha, _⟩ := rp
    exact .inl ⟨⟨a, us, ev, SqL.of ha⟩, go false r ⟨_, e0⟩ h2⟩
  · unfold Rep at rp
    obtain ⟨a, us, ev, ha, _⟩ := rp
    exact .inr ⟨⟨a, us, ev, ha⟩, go true r' ⟨_, e0⟩ h2'⟩

/-! index, count -/
def rCntD (K : PySem.W.Frag) (tup : Bool) : V → List V → Hp → VK → Prop := fun x xs H Q => ∃ (a : Addr) (y : V) (d : PyData) (ds : List PyData), x = V.ref a ∧ xs = [y] ∧ Dp K H (V.ref a) (if tup then .tuple ds else .list ds) ∧ Dp K H y d ∧
  SeqAt.shaped (.list ds) = true ∧ SeqAt.shaped d = true ∧ Q (.int (ds.countP fun z => PyData.eqv z d : Nat)) H
theorem countP_reads {h : Heap} {its : List Value} {ds : List PyData} {d : PyData} (e : its.map (SeqAt.readOf h) = ds) : its.toArray.toList.countP (fun u => PyData.eqv (SeqAt.readOf h u) d) = ds.countP fun z => PyData.eqv z d := by
  rw [← e, List.countP_map]
  rfl
theorem mt_countL (hu : X.A.units + 65 < cLine) : MtR X "list.count" (rCntD X.K false) := by
  intro pins s σ H x xs v us Q I rx rxs h
  obtain ⟨a, y, d, ds, rfl, rfl, hl, hy, sl, sd, q⟩ := h
  cases rx
  cases rxs with
  | cons ry rt =>
    rename_i uy ut
    cases rt
    obtain ⟨bs, r1⟩ := Dp.reads I d y uy hy ry
    have hxs : PyData.canLayAll0 ds = true := SeqAt.canLay_of_shaped sl
    have hroom : X.A.units + 1 + min (PyData.depthAll ds) d.depth < cLine := PyProof.Rows.room_in_shaped sd hu
    cases hl with
    | lst hs ha =>
      obtain ⟨its, rv, ⟨⟨cls, dd, data, sls⟩, n, ho, hc, hdn, hdt⟩, hlen⟩ := I.list hs
      simp only at hc hdt
      subst hc hdt
      obtain ⟨as, h4⟩ := Dp.readsAll I ds _ its ha rv
      have hmap : its.map (SeqAt.readOf s.heap) = ds := SeqAt.readsAll_map ds its as hxs h4
      refine call_meets PySem.F.slot_list_count ⟨_, ho, rfl⟩ PySem.F.entry_list_count (PySem.F.args_list_count_2 _ _)
        (SeqAt.list_countAt a its.toArray n dd sls uy (fun u => PyData.eqv (SeqAt.readOf s.heap u) d)) ⟨ho, SeqAt.items_eqAt (vs := its.toArray) (show ReadsAll s.heap its.toArray.toList ds as from h4) r1 hxs (SeqAt.canLay_of_shaped sd) hroom, ?_⟩
      rw [countP_reads hmap]
      exact ⟨.int _, H, I.tok _, ⟨_, rfl⟩, q⟩
theorem mt_countT (hu : X.A.units + 65 < cLine) : MtR X "tuple.count" (rCntD X.K true) := by
  intro pins s σ H x xs v us Q I rx rxs h
  obtain ⟨a, y, d, ds, rfl, rfl, hl, hy, sl, sd, q⟩ := h
  cases rx
  cases rxs with
  | cons ry rt =>
    rename_i uy ut
    cases rt
    obtain ⟨bs, r1⟩ := Dp.reads I d y uy hy ry
    have hxs : PyData.canLayAll0 ds = true := SeqAt.canLay_of_shaped sl
    have hroom : X.A.units + 1 + min (PyData.depthAll ds) d.depth < cLine := PyProof.Rows.room_in_shaped sd hu
    cases hl with
    | tup hs ha =>
      obtain ⟨its, rv, ⟨⟨cls, dd, data, sls⟩, ho, hc, n, hdt⟩, hlen⟩ := I.tuple hs
      simp only at hc hdt
      subst hc hdt
      obtain ⟨as, h4⟩ := Dp.readsAll I ds _ its ha rv
      have hmap : its.map (SeqAt.readOf s.heap) = ds := SeqAt.readsAll_map ds its as hxs h4
      refine call_meets PySem.F.slot_tuple_count ⟨_, ho, rfl⟩ PySem.F.entry_tuple_count (PySem.F.args_tuple_count_2 _ _)
        (SeqAt.tuple_countAt a its.toArray n dd sls uy (fun u => PyData.eqv (SeqAt.readOf s.heap u) d)) ⟨ho, SeqAt.items_eqAt (vs := its.toArray) (show ReadsAll s.heap its.toArray.toList ds as from h4) r1 hxs (SeqAt.canLay_of_shaped sd) hroom, ?_⟩
      rw [countP_reads hmap]
      exact ⟨.int _, H, I.tok _, ⟨_, rfl⟩, q⟩
def rIdxT (K : PySem.W.Frag) : V → List V → Hp → VK → Prop := fun x xs H Q => ∃ (a : Addr) (y : V) (d : PyData) (ds : List PyData) (j : Nat) (z : PyData), x = V.ref a ∧ xs = [y] ∧ Dp K H (V.ref a) (.tuple ds) ∧ Dp K H y d ∧
  SeqAt.shaped (.list ds) = true ∧ SeqAt.shaped d = true ∧ ds[j]? = some z ∧ PyData.eqv z d = true ∧ (∀ (m : Nat) (z' : PyData), m < j → ds[m]? = some z' → PyData.eqv z' d = false) ∧ Q (.int (j : Nat)) H
theorem mt_indexT (hu : X.A.units + 65 < cLine) : MtR X "tuple.index" (rIdxT X.K) := by
  intro pins s σ H x xs v us Q I rx rxs h
  obtain ⟨a, y, d, ds, j, z, rfl, rfl, hl, hy, sl, sd, hz, hzj, hno, q⟩ := h
  cases rx
  cases rxs with
  | cons ry rt =>
    rename_i uy ut
    cases rt
    obtain ⟨bs, r1⟩ := Dp.reads I d y uy hy ry
    have hxs : PyData.canLayAll0 ds = true := SeqAt.canLay_of_shaped sl
    have hroom : X.A.units + 1 + min (PyData.depthAll ds) d.depth < cLine := PyProof.Rows.room_in_shaped sd hu
    cases hl with
    | tup hs ha =>
      obtain ⟨its, rv, ⟨⟨cls, dd, data, sls⟩, ho, hc, n, hdt⟩, hlen⟩ := I.tuple hs
      simp only at hc hdt
      subst hc hdt
      obtain ⟨as, h4⟩ := Dp.readsAll I ds _ its ha rv
      have hn : its.length = ds.length := SeqAt.ReadsAll.length ds its as h4
      have hmap : its.map (SeqAt.readOf s.heap) = ds := SeqAt.readsAll_map ds its as hxs h4
      obtain ⟨hjd, _⟩ := List.getElem?_eq_some_iff.mp hz
      have hj : j < its.toArray.size := by simp; omega
      have at_ : ∀ (m : Nat) (hm : m < its.toArray.size) (z' : PyData), ds[m]? = some z' → SeqAt.readOf s.heap its.toArray[m] = z' := by
        intro m hm z' hz'
        have hml : m < its.length := by simpa using hm
        rw [← hmap, List.getElem?_map, List.getElem?_eq_getElem hml] at hz'
        have e1 : SeqAt.readOf s.heap its[m] = z' := Option.some.inj (show some (SeqAt.readOf s.heap its[m]) = some z' from hz')
        simpa using e1
      refine call_meets PySem.F.slot_tuple_index ⟨_, ho, rfl⟩ PySem.F.entry_tuple_index (PySem.F.args_tuple_index_2 _ _)
        (TI.tuple_indexAt a its.toArray n dd sls uy (fun u => PyData.eqv (SeqAt.readOf s.heap u) d) j hj ?_ ?_) ⟨ho, SeqAt.items_eqAt (vs := its.toArray) (show ReadsAll s.heap its.toArray.toList ds as from h4) r1 hxs (SeqAt.canLay_of_shaped sd) hroom, ?_⟩
      · show PyData.eqv (SeqAt.readOf s.heap its.toArray[j]) d = true
        rw [at_ j hj z hz]
        exact hzj
      · intro m hm hmj
        have hmd : m < ds.length := by have : m < its.length := by simpa using hm
                                       omega
        have hz' : ds[m]? = some ds[m] := List.getElem?_eq_getElem hmd
        show PyData.eqv (SeqAt.readOf s.heap its.toArray[m]) d = false
        rw [at_ m hm _ hz']
        exact hno m _ hmj hz'
      · exact ⟨.int (j : Nat), H, I.tok _, ⟨_, rfl⟩, q⟩
def mCount (r0 : RV) (rs : List RV) : M RV := match rs with
  | [r] => M.ofOption (seqOf r0.d) >>= fun ds => if noDict r0.d && noDict r.d && SeqAt.shaped (.list ds) && SeqAt.shaped r.d then flat (.int (ds.countP fun z => PyData.eqv z r.d : Nat)) else .stuck
  | _ => .stuck
def mIndex (r0 : RV) (rs : List RV) : M RV := match rs with
  | [r] => M.ofOption (seqOf r0.d) >>= fun ds => if noDict r0.d && noDict r.d && SeqAt.shaped (.list ds) && SeqAt.shaped r.d then M.ofOption (ds.findIdx? fun z => PyData.eqv z r.d) >>= fun j => flat (.int (j : Nat)) else .stuck
  | _ => .stuck
theorem mc_count (hu : X.A.units + 65 < cLine) : ∀ tup, MC X (if tup then "tuple.count" else "list.count") tup mCount := by
  intro tup
  refine ⟨rCntD X.K tup, ?_, fun R st S os H H2 b x vs fps r0 rs Q sm sx k0 hd ra q => ?_⟩
  · cases tup
    · exact mt_countL hu
    · exact mt_countT hu
  · unfold mCount at q
    split at q
    case h_2 => exact q.elim
    rename_i r
    rw [M.all_bind] at q
    obtain ⟨ds, hds, q⟩ := M.all_ofOption.mp q
    split at q
    case isFalse => exact q.elim
    rename_i hc
    simp only [Bool.and_eq_true] at hc
    obtain ⟨v, fp, ev, r1, l1⟩ := RAok.one (r := r) ra
    obtain ⟨f0, p0, l0⟩ := k0
    obtain ⟨xs, hx⟩ := hd
    have p0' := p0.toDp hc.1.1.1
    have exs : xs = ds := by
      rw [hx] at hds
      cases tup <;> simpa [seqOf] using hds
    subst exs
    rw [hx] at p0 p0'
    have ex : ∃ a, x = .ref a := by
      cases tup
      · simp only [Bool.false_eq_true, if_false] at p0
        unfold Rep at p0; obtain ⟨a, _, _, e, _⟩ := p0; exact ⟨a, e⟩
      · simp only [if_true] at p0
        unfold Rep at p0; obtain ⟨a, _, e, _⟩ := p0; exact ⟨a, e⟩
    obtain ⟨a, ex⟩ := ex
    subst ex
    exact ⟨a, v, r.d, xs, rfl, ev, p0', r1.toDp hc.1.1.2, hc.1.2, hc.2, q _ H2 (SameX.refl _) sm (RVok.imm rfl (Rep.of_int _))⟩
theorem mc_index (hu : X.A.units + 65 < cLine) : ∀ tup, MC X (if tup then "tuple.index" else "list.index") tup mIndex := by
  intro tup
  refine ⟨fun x xs H Q => if tup then rIdxT X.K x xs H Q else rIndexD X.K x xs H Q, ?_, fun R st S os H H2 b x vs fps r0 rs Q sm sx k0 hd ra q => ?_⟩
  · cases tup
    · exact mt_indexD hu
    · exact mt_indexT hu
  · unfold mIndex at q
    split at q
    case h_2 => exact q.elim
    rename_i r
    rw [M.all_bind] at q
    obtain ⟨ds, hds, q⟩ := M.all_ofOption.mp q
    split at q
    case isFalse => exact q.elim
    rename_i hc
    simp only [Bool.and_eq_true] at hc
    rw [M.all_bind] at q
    obtain ⟨j, hj, qj⟩ := M.all_ofOption.mp q
    obtain ⟨h1, h2, h3⟩ := List.findIdx?_eq_some_iff_getElem.mp hj
    obtain ⟨v, fp, ev, r1, l1⟩ := RAok.one (r := r) ra
    obtain ⟨f0, p0, l0⟩ := k0
    obtain ⟨xs, hx⟩ := hd
    have p0' := p0.toDp hc.1.1.1
    have exs : xs = ds := by
      rw [hx] at hds
      cases tup <;> simpa [seqOf] using hds
    subst exs
    rw [hx] at p0 p0'
    have no : ∀ (m : Nat) (z' : PyData), m < j → xs[m]? = some z' → PyData.eqv z' r.d = false := fun m z' hm e => by
      obtain ⟨hl, e⟩ := List.getElem?_eq_some_iff.mp e
      have := h3 m hm
      rw [e] at this
      simpa using this
    have qq := qj _ H2 (SameX.refl _) sm (RVok.imm rfl (Rep.of_int _))
    cases tup
    · simp only [Bool.false_eq_true, if_false] at p0 p0' ⊢
      unfold Rep at p0; obtain ⟨a, _, _, e, _⟩ := p0
      subst e
      exact ⟨a, v, r.d, xs, j, xs[j], rfl, ev, p0', r1.toDp hc.1.1.2, hc.1.2, hc.2, by simp, h2, no, qq⟩
    · simp only [if_true] at p0 p0' ⊢
      unfold Rep at p0; obtain ⟨a, _, e, _⟩ := p0
      subst e
      exact ⟨a, v, r.d, xs, j, xs[j], rfl, ev, p0', r1.toDp hc.1.1.2, hc.1.2, hc.2, by simp, h2, no, qq⟩
theorem de_count (hu : X.A.units + 65 < cLine) (ho : DE X o f) (ha : DA X (e :: es) g) (hbase : attributeBase o "count" X.env (eval o X.env) = eval o X.env := by rfl)
    (hfew : ((backTo cpos (starEach (e :: es) X.env)).all (fun x => !x.1) && (backToKw cpos (keywordEach [] X.env)).all (fun x => x.1.isSome)
      && decide ((e :: es).length + ([] : List Keyword).length + (if ([] : List Keyword).isEmpty then 0 else 1) < 30)) = true := by rfl)
    (hline : (apos.endLine == cpos.line) = true := by rfl) (hs : starEach (e :: es) X.env = (false, eval e X.env) :: starEach es X.env := by rfl) (hplain : (backTo cpos (starEach es X.env)).any (·.1) = false := by rfl) :
    DE X (.Call (.Attribute o "count" apos) (e :: es) [] cpos) (vMeth mCount f g) := de_meth PySem.F.slot_list_count PySem.F.type_list_count PySem.F.slot_tuple_count PySem.F.type_tuple_count (mc_count hu false) (mc_count hu true) ho ha hbase hfew hline hs hplain
theorem de_index (hu : X.A.units + 65 < cLine) (ho : DE X o f) (ha : DA X (e :: es) g) (hbase : attributeBase o "index" X.env (eval o X.env) = eval o X.env := by rfl)
    (hfew : ((backTo cpos (starEach (e :: es) X.env)).all (fun x => !x.1) && (backToKw cpos (keywordEach [] X.env)).all (fun x => x.1.isSome)
      && decide ((e :: es).length + ([] : List Keyword).length + (if ([] : List Keyword).isEmpty then 0 else 1) < 30)) = true := by rfl)
    (hline : (apos.endLine == cpos.line) = true := by rfl) (hs : starEach (e :: es) X.env = (false, eval e X.env) :: starEach es X.env := by rfl) (hplain : (backTo cpos (starEach es X.env)).any (·.1) = false := by rfl) :
    DE X (.Call (.Attribute o "index" apos) (e :: es) [] cpos) (vMeth mIndex f g) := de_meth PySem.F.slot_list_index PySem.F.type_list_index PySem.F.slot_tuple_index PySem.F.type_tuple_index (mc_index hu false) (mc_index hu true) ho ha hbase hfew hline hs hplain
end
end Vm

set_option Elab.async false
set_option linter.all false
set_option maxRecDepth 100000
namespace Vm
variable [TabsC]
variable {R : Exn → Nat → Prop}
open PySem L2
open PySem.Sem (wp)

/-! ### {1: 0, ..}[e] of ints -/
/-- a display of ints -/
inductive CDisp (X : Cx) (pos : Pos) : List (Option Expr) → List Expr → List (Int × Int) → Prop
  | nil : CDisp X pos [] [] []
  | cons {ks : List (Option Expr)} {vs : List Expr} {l : List (Int × Int)} {a b : Int} {j j' p p'} : CDisp X pos ks vs l → CDisp X pos (some (.Constant (.int a) j p) :: ks) (.Constant (.int b) j' p' :: vs) ((a, b) :: l)
def cd (p : Int × Int) : Key × V := (.inl p.1, .int p.2)
theorem cdisp_pps {X : Cx} {pos : Pos} {ks : List (Option Expr)} {vs : List Expr} {l : List (Int × Int)} (h : CDisp X pos ks vs l) : ∃ trs, PPs X pos ks vs trs ∧ ∀ σ H Q, Q (l.map fun p => (V.int p.1, V.int p.2)) H → tPairs trs σ H Q := by
  induction h with
  | nil => exact ⟨_, pps_nil, fun σ H Q q => q⟩
  | cons h ih =>
    obtain ⟨trs, h1, h2⟩ := ih
    exact ⟨_, pps_cons pe_int pe_int h1, fun σ H Q q => h2 σ H _ q⟩
theorem merge_nodup : ∀ {l : List (Int × Int)} {acc : List (Int × Int)}, ((acc ++ l).map (·.1)).Nodup → mergeK (acc.map cd) (l.map cd) = (acc ++ l).map cd
  | [], acc, _ => by simp [mergeK]
  | p :: l, acc, h => by
    have e : mergeK (acc.map cd) ((p :: l).map cd) = mergeK (putK (acc.map cd) (cd p).1 (cd p).2) (l.map cd) := rfl
    have hn : (((acc.map cd).any fun kv => decide (kv.1 = (cd p).1)) = true) = False := by
      apply eq_false
      rw [List.any_eq_true]
      rintro ⟨q, hq, e2⟩
      obtain ⟨r, hr, rfl⟩ := List.mem_map.mp hq
      have e3 : r.1 = p.1 := by
        have := of_decide_eq_true e2
        unfold cd at this
        exact Sum.inl.inj this
      rw [List.map_append, List.map_cons] at h
      exact (List.nodup_append.mp h).2.2 r.1 (List.mem_map_of_mem hr) p.1 List.mem_cons_self e3
    have e1 : putK (acc.map cd) (cd p).1 (cd p).2 = (acc ++ [p]).map cd := by
      unfold putK
      rw [if_neg (by rw [hn]; exact id)]
      simp
    rw [e, e1]
    rw [merge_nodup (by rw [List.append_assoc]; exact h), List.append_assoc]
    rfl
theorem valV_cd : ∀ {l : List (Int × Int)} {k : Int}, valV (l.map cd) (.inl k : Key) = (l.lookup k).map V.int
  | [], k => rfl
  | (a, b) :: l, k => by
    rw [List.map_cons]
    by_cases h : a = k
    · subst h
      have q : valV (cd (a, b) :: l.map cd) (.inl a : Key) = some (V.int b) := valV_pos (p := cd (a, b)) (k := (.inl a : Key)) rfl
      rw [q]; simp
    · rw [valV_neg (p := cd (a, b)) (fun e => h (Sum.inl.inj e)), valV_cd]
      have h' : ¬ k = a := fun e => h e.symm
      simp [List.lookup, h']
      have : (k == a) = false := by simpa using h'
      rw [this]
def vCD (l : List (Int × Int)) (f : Env → M RV) (env : Env) : M RV := f env >>= fun r => match r.d with
  | .int k => M.ofOption (l.lookup k) >>= fun v => flat (.int v)
  | _ => .stuck
theorem de_cd {X : Cx} {ks : List (Option Expr)} {vs : List Expr} {l : List (Int × Int)} {i : Expr} {pos dpos : Pos} {f : Env → M RV} (hu : X.A.units + 1 < cLine) (hd : CDisp X dpos ks vs l) (hi : DE X i f) (hn : (l.map (·.1)).Nodup) (hs : NoSl i := by intro _ _; rfl)
    (hall : ks.all (·.isSome) = true := by rfl) (hl : ks.length = vs.length := by rfl) (h0 : ks ≠ [] := by simp) (h15 : ks.length ≤ 15 := by decide) (hl15 : l.length ≤ 15 := by decide) : DE X (.Subscript (.Dict ks vs dpos) i pos) (vCD l f) := by
  obtain ⟨t, ht, qt⟩ := hi
  obtain ⟨trs, h1, h2⟩ := cdisp_pps hd
  refine ⟨_, pe_dget hu (pe_disp h1 hall hl h0 h15) ht hs, fun G S H env σ os b Q hK E sm h => ?_⟩
  intro p hp
  refine h2 _ _ _ ?_
  have em : mergeK [] (l.map cd) = l.map cd := by
    have := merge_nodup (l := l) (acc := []) (by simpa using hn)
    simpa using this
  refine ⟨upd_same, l.map cd, by rw [List.map_map]; rfl, by rw [List.length_map]; exact hl15, ?_⟩
  rw [em, upd_upd]
  unfold vCD at h
  rw [M.all_bind] at h
  have x0 : SameX G.st H (upd H p (.dK (l.map cd))) := SameX.new hp
  have sm0 : Stm (upd H p (.dK (l.map cd))) G.st b := sm.new hp
  obtain ⟨z1, e1⟩ := sm.at1
  obtain ⟨z2, e2⟩ := sm.at2
  obtain ⟨n1, n2⟩ := sm.off hp
  refine qt G S _ env σ os b _ hK (E.mono sm x0) sm0 (M.all_mono (fun r b1 h1 v H1 x1 sm1 ok1 => ?_) _ _ h)
  obtain ⟨fp, r1, l1⟩ := ok1
  split at h1
  · rename_i k ek
    rw [ek] at r1
    have ev := r1.int_inv
    subst ev
    rw [M.all_bind] at h1
    obtain ⟨w, hw, h1⟩ := M.all_ofOption.mp h1
    have eD : H1 p = some (.dK (l.map cd)) := x1 p _ n1 n2 upd_same
    have g := DGet.k (k := Sum.inl k) eD
    rw [valV_cd, hw] at g
    exact ⟨p, .int w, rfl, g, h1 _ H1 (x0.trans x1) sm1 (RVok.imm rfl (Rep.of_int _))⟩
  · exact h1.elim

/-! ### f(k=e, ..) -/
structure DK (X : Cx) (kws : List Keyword) (f : Env → M (List RA)) : Prop where
  run : ∃ t, PK X kws t ∧ ∀ (G : Gx) (S : Addr → Prop) (H : Hp) (env : Env) (σ : St) (os : Nat → List Addr) (b : Nat) (Q : List V → Hp → Prop), GOk G X → ER G S H env σ os → Stm H G.st b →
    (f env).all G.R (fun rs b' => ∀ vs H' fps, SameX G.st H H' → Stm H' G.st b' → RAok X.K G.st S os H H' rs vs fps → Q vs H') b → t σ H Q
section
variable {X : Cx} {e : Expr} {kws : List Keyword} {f : Env → M RV} {g : Env → M (List RA)} {nm : Option Str} {kpos : Pos}
theorem dk_nil : DK X [] aNil := ⟨_, pk_nil, fun G S H env σ os b Q hK E sm h => h [] H [] (SameX.refl H) sm ⟨rfl, rfl⟩⟩
theorem dk_cons (ha : DE X e f) (hr : DK X kws g) : DK X (⟨nm, e, kpos⟩ :: kws) (aCons f g) := by
  obtain ⟨t, ht, qt⟩ := ha
  obtain ⟨u, hu, qu⟩ := hr
  refine ⟨_, pk_cons ht hu, fun G S H env σ os b Q hK E sm h => ?_⟩
  unfold aCons at h
  rw [M.all_bind] at h
  refine qt G S H env σ os b _ hK E sm (M.all_mono (fun r b1 h1 v H1 x1 sm1 ok1 => ?_) _ _ h)
  rw [M.all_bind] at h1
  refine qu G S H1 env σ os b1 _ hK (E.mono sm x1) sm1 (M.all_mono (fun rs b2 h2 vs H2 fps x2 sm2 ok2 => ?_) _ _ h1)
  obtain ⟨fp, r1, l1⟩ := ok1
  exact h2 (v :: vs) H2 (fp :: fps) (x1.trans x2) sm2 ⟨v, vs, fp, fps, rfl, rfl, r1.sameX sm1 x2, l1, ok2.back sm1 x1, Sep.of E (hK.K ▸ r1) l1 (hK.K ▸ ok2)⟩
end
/-- the keywords come in the parameters' order, or turned round -/
def kwIn (rev : Bool) {α : Type} (l : List α) : List α := if rev then l.reverse else l
def kG (rev : Bool) {α : Type} (us ws : List α) : List α := match us with
  | [] => kwIn rev ws
  | _ => []
structure FnK (X : Cx) (k : Nat) (x : Str) (ks : List Str) (rev : Bool) (F : Fn) : Prop where
  ex : ∃ f fd ps, X.mg x = some (.ref f) ∧ PySem.W.keepIn X.K (.ref f) = true ∧ FnOk X.prog X.w X.K X.mg X.base (L2.CX X.prog X.w) k f fd ps (spOf X.K ks.length F) ∧ KBinds X.K fd ps ks (kG rev) (kG rev)
theorem vals_kwIn {rev : Bool} {vs : List V} {us : List Value} (h : Vals vs us) : Vals (kwIn rev vs) (kwIn rev us) := by
  have rv : ∀ {vs : List V} {us : List Value}, Vals vs us → Vals vs.reverse us.reverse := by
    intro vs us h
    induction h with
    | nil => exact .nil
    | cons r t ih =>
      rw [List.reverse_cons, List.reverse_cons]
      exact ih.append (.cons r .nil)
  unfold kwIn
  cases rev
  · exact h
  · exact rv h
theorem KB.of {K : PySem.W.Frag} {x qual : Str} {st : Stmt} {f : Addr} {fd : FuncData} {ps ks : List Str} {rev : Bool} (F : Fun K x qual st f fd) (h0 : ps ≠ [])
    (h : ∀ (kV doc pm : Value) (an : Option Addr) (cdv ct : Value) (ws : List Value), ws.length = ps.length → bindArgs (PySem.W.fnOf x qual (defArgs st) (defBody st) (defScope st) .none kV doc pm an cdv ct) ⟨[], ks.zip ws⟩ = pure (ps.zip (kwIn rev ws))) :
    KBinds K fd ps ks (kG rev) (kG rev) := by
  obtain ⟨oc, od, kV, doc, pm, an, cdv, ct, osl, rfl, lk, hcd⟩ := F.ex
  refine ⟨fun s us ws _ hl => ?_, fun {vs us zs ws} r rz => ?_⟩
  · cases us with
    | nil =>
      have hw : ws.length = ps.length := by
        have : (kwIn rev ws).length = ws.length := by unfold kwIn; cases rev <;> simp
        rw [← this]; exact hl
      exact .of_eq (h kV doc pm an cdv ct ws hw)
    | cons u us =>
      cases ps with
      | nil => exact absurd rfl h0
      | cons p ps => cases hl
  · cases r with
    | nil => exact vals_kwIn rz
    | cons => exact .nil
def vCallK (n : Nat) (rev : Bool) (F : Fn) (g : Env → M (List RA)) (env : Env) : M RV := g env >>= fun rs => if rs.length = n then F ((kwIn rev rs).map (Option.map RV.d)) >>= fun r => .ret (mkRV r.1 r.2 (if r.2 = .own then [] else alsA rs)) else .stuck
/-- a call that gives keywords alone -/
theorem run_fnk0 {X : Cx} {k : Nat} {f : Addr} {fd : FuncData} {ps ks : List Str} {sp : Sp} {rev : Bool} {pins : List (Addr × Obj)} {σ : St} {H : Hp} {s : Shared} {Q : VK} {ws : List Value} {zs : List V} (F : FnOk X.prog X.w X.K X.mg X.base (L2.CX X.prog X.w) k f fd ps sp) (hr : Room k X.A)
    (hb : KBinds X.K fd ps ks (kG rev) (kG rev)) (I : Inv X pins σ H s) (rz : Vals zs ws) (h : sp (kwIn rev zs) H Q (EX X)) : wpAny (model X.prog X.w) X.A (call (.ref f) [] (ks.zip ws)) (EP X pins σ Q) X.xe s :=
  run_fnk F hr hb (pass_max X) I .nil rz h
theorem ArgsOk.rev {K : PySem.W.Frag} {st : StA} {H : Hp} : ∀ {ds : List (Option PyData)} {vs : List V} {fps : List (List Addr)}, ArgsOk K st H ds vs fps → ∀ {ds2 : List (Option PyData)} {vs2 : List V} {fps2 : List (List Addr)}, ArgsOk K st H ds2 vs2 fps2 →
    ArgsOk K st H (ds.reverse ++ ds2) (vs.reverse ++ vs2) (fps.reverse ++ fps2)
  | [], _, _, h, _, _, _, h2 => by rw [h.1, h.2]; exact h2
  | none :: ds, _, _, h, _, _, _, h2 => by
    obtain ⟨vr, fr, e1, e2, h⟩ := h
    subst e1 e2
    simp only [List.reverse_cons, List.append_assoc, List.singleton_append]
    exact h.rev (ds2 := none :: _) ⟨_, _, rfl, rfl, h2⟩
  | some d :: ds, _, _, h, _, _, _, h2 => by
    obtain ⟨v, vr, fp, fr, e1, e2, r, h⟩ := h
    subst e1 e2
    simp only [List.reverse_cons, List.append_assoc, List.singleton_append]
    exact h.rev (ds2 := some d :: _) ⟨_, _, _, _, rfl, rfl, r, h2⟩
theorem ArgsOk.kwIn {K : PySem.W.Frag} {st : StA} {H : Hp} {rev : Bool} {ds : List (Option PyData)} {vs : List V} {fps : List (List Addr)} (h : ArgsOk K st H ds vs fps) : ArgsOk K st H (Vm.kwIn rev ds) (Vm.kwIn rev vs) (Vm.kwIn rev fps) := by
  unfold Vm.kwIn
  cases rev
  · exact h
  · have := h.rev (ds2 := []) (vs2 := []) (fps2 := []) ⟨rfl, rfl⟩
    simpa using this
theorem kwIn_map {rev : Bool} {α β : Type} {f : α → β} {l : List α} : (kwIn rev l).map f = kwIn rev (l.map f) := by
  unfold kwIn; cases rev <;> simp
theorem mem_kwIn {rev : Bool} {l : List (List Addr)} {c : Addr} : c ∈ (kwIn rev l).flatten ↔ c ∈ l.flatten := by
  unfold kwIn; cases rev
  · exact Iff.rfl
  · simp
section
variable {X : Cx} {k : Nat} {F : Fn} {x : Str} {p pos : Pos} {kws : List Keyword} {ks : List Str} {rev : Bool} {g : Env → M (List RA)}
theorem pe_callK0 {f : Addr} {fd : FuncData} {ps : List Str} {sp : Sp} {tk : TA} (T : FnOk X.prog X.w X.K X.mg X.base (L2.CX X.prog X.w) k f fd ps sp) (hr : Room k X.A) (hg : Gl X x) (hm : X.mg x = some (.ref f)) (hk : PySem.W.keepIn X.K (.ref f) = true)
    (hb : KBinds X.K fd ps ks (kG rev) (kG rev)) (hkw : PK X kws tk) (hall : (backToKw pos (keywordEach kws X.env)).all (·.1.isSome) = true := by rfl) (hks : (backToKw pos (keywordEach kws X.env)).filterMap (·.1) = ks := by rfl)
    (hdb : (x == ("__debug__" : Str)) = false := by decide) (hpl : ((backTo pos (starEach [] X.env)).any (·.1) || (backToKw pos (keywordEach kws X.env)).any (·.1.isNone)) = false := by rfl) :
    PE X (.Call (.Name x p) [] kws pos) (fun σ H Q => tk σ H fun zs H2 => sp (kwIn rev zs) H2 Q (EX X)) := by
  refine ⟨fun pins s σ H Q I h => ?_⟩
  refine wpAny_Call_Name_kw (ld_glob I hg hm ?_ hdb)
  refine PySem.W.callWith_KW0 (h₀ := X.base) I.ok.mod.kin hk hall ?_ hpl
  refine thn (hkw.run pos pins s σ H _ I h) fun ws s2 ⟨zs, H2, I2, rz, q2⟩ => ⟨I2.kIn, ?_⟩
  rw [hks]
  exact run_fnk0 T hr hb I2 rz q2
theorem de_callK (T : FnK X k x ks rev F) (hr : Room k X.A) (hg : Gl X x) (ha : DK X kws g) (hall : (backToKw pos (keywordEach kws X.env)).all (·.1.isSome) = true := by rfl) (hks : (backToKw pos (keywordEach kws X.env)).filterMap (·.1) = ks := by rfl)
    (hdb : (x == ("__debug__" : Str)) = false := by decide) (hpl : ((backTo pos (starEach [] X.env)).any (·.1) || (backToKw pos (keywordEach kws X.env)).any (·.1.isNone)) = false := by rfl) :
    DE X (.Call (.Name x p) [] kws pos) (vCallK ks.length rev F g) := by
  obtain ⟨f, fd, ps, hm, hk, ok, hb⟩ := T
  obtain ⟨t, ht, qt⟩ := ha
  refine ⟨_, pe_callK0 ok hr hg hm hk hb ht hall hks hdb hpl, fun G S H env σ os b Q hK E sm h => ?_⟩
  unfold vCallK at h
  rw [M.all_bind] at h
  refine qt G S H env σ os b _ hK E sm (M.all_mono (fun rs b1 h1 vs H1 fps x1 sm1 ok1 => ?_) _ _ h)
  by_cases hl : rs.length = ks.length
  case neg => rw [if_neg hl] at h1; exact h1.elim
  rw [if_pos hl, M.all_bind] at h1
  have hlen : (kwIn rev vs).length = ks.length := by
    have : (kwIn rev vs).length = vs.length := by unfold kwIn; cases rev <;> simp
    rw [this, (RAok.length ok1).2]; exact hl
  rw [kwIn_map] at h1
  refine ⟨hlen, G.st, b1, _, _, ok1.args.kwIn, sm1, M.all_both (fun xn b2 r cls d H' x' sm' ex => call_raise hK E sm x1 sm1 ok1 r cls d H' x' sm' (ex.imp fun c hc => hc.imp mem_kwIn.mp id)) (fun r b2 h2 v H2 x2 sm2 ro => ?_) _ _ h1⟩
  have ro' : RetOk X.K G.st H1 H2 fps.flatten r.1 r.2 v := by
    obtain ⟨fp, rp, q⟩ := ro
    refine ⟨fp, rp, ?_⟩
    cases hl : r.2 with
    | shr => rw [hl] at q; exact fun c hc => (q c hc).imp mem_kwIn.mp id
    | top => rw [hl] at q; obtain ⟨a, f, e1, e2, e3, q⟩ := q; exact ⟨a, f, e1, e2, e3, fun c hc => (q c hc).imp mem_kwIn.mp id⟩
    | own => rw [hl] at q; exact q
  exact h2 v H2 (x1.trans x2) sm2 (ro'.rv sm1 x1 ok1)
end
end Vm

set_option Elab.async false
set_option linter.all false
set_option maxRecDepth 100000
namespace Vm
variable [TabsC]
variable {R : Exn → Nat → Prop}
open PySem L2

/-! ### shorter words for the printed terms -/
section
variable {X : Cx} {e e1 e2 e3 : Expr} {es : List Expr} {f g : Env → M RV} {ga : Env → M (List RA)} {pos : Pos}
theorem nm (i : Nat) {x : Str} {pos : Pos} (hN : X.N[i]? = some x := by rfl) (hv : Vis X.env.scope x := by first | exact Or.inl rfl | exact Or.inr (Or.inl rfl) | exact Or.inr (Or.inr rfl)) (hd : (x == ("__debug__" : Str)) = false := by decide)
    (hcd : (x == ("__classdict__" : Str)) = false := by decide) : DE X (.Name x pos) (eName i) := de_name hN hv hd hcd
theorem stA (i : Nat) {x : Str} {pos : Pos} (hr : DA X es ga) (hN : X.N[i]? = some x := by rfl) (hv : Vis X.env.scope x := by first | exact Or.inl rfl | exact Or.inr (Or.inl rfl) | exact Or.inr (Or.inr rfl)) (hd : (x == ("__debug__" : Str)) = false := by decide) (hcd : (x == ("__classdict__" : Str)) = false := by decide)
    (hs : starEach (.Name x pos :: es) X.env = (false, eval (.Name x pos) X.env) :: starEach es X.env := by rfl) : DA X (.Name x pos :: es) (aStm i ga) := da_stm hN hv hr hd hcd hs
def eInt (i : Int) (_ : Env) : M RV := flat (.int i)
def eBool (i : Bool) (_ : Env) : M RV := flat (.bool i)
def eNon (_ : Env) : M RV := flat .none
def eStr (i : Str) (_ : Env) : M RV := flat (.str i)
theorem nInt {i j pos} : DE X (.Constant (.int i) j pos) (eInt i) := de_int
theorem nBool {i j pos} : DE X (.Constant (.bool i) j pos) (eBool i) := de_bl
theorem nNon {j pos} : DE X (.Constant .none j pos) eNon := de_non
theorem nStr {i j pos} : DE X (.Constant (.str i) j pos) (eStr i) := de_str
/-! -e -/
def vNeg (f : Env → M RV) (env : Env) : M RV := f env >>= fun r => match r.d with
  | .int i => flat (.int (-i))
  | _ => .stuck
theorem de_neg (h : DE X e f) : DE X (.UnaryOp .USub e pos) (vNeg f) := by
  obtain ⟨t, ht, qt⟩ := h
  refine ⟨_, pe_un un_neg ht, fun G S H env σ os b Q hK E sm h => ?_⟩
  unfold vNeg at h
  rw [M.all_bind] at h
  refine qt G S H env σ os b _ hK E sm (M.all_mono (fun r b1 h1 v H1 x1 sm1 ok1 => ?_) _ _ h)
  obtain ⟨fp, r1, _⟩ := ok1
  split at h1
  · rename_i i e1
    rw [e1] at r1
    exact ⟨i, r1.int_inv, h1 _ H1 x1 sm1 (RVok.imm rfl (Rep.of_int _))⟩
  · exact h1.elim
/-! + and * of ints and of lists -/
def oAdd (r1 r2 : RV) : M RV := orElse (oAddI r1 r2) (oCat r1 r2)
theorem o_add : O2 X (binaryOp .Add) oAdd := o_addI.or o_cat
def oMul (r1 r2 : RV) : M RV := orElse (oMulI r1 r2) (oRep r1 r2)
theorem o_mul : O2 X (binaryOp .Mult) oMul := o_mulI.or o_rep
/-! built-ins -/
theorem cB {x : Str} {p : Pos} {id : String} {op : List RV → M RV} (hc : OC X (.builtin id) op) (hm : X.mg x = none) (ha : DA X (e :: es) ga) (hg : Gl X x := by rfl) (hv : bootBuiltins x = some (.builtin id) := by rfl) (hn : x ≠ "__name__" := by decide) (hdb : (x == ("__debug__" : Str)) = false := by decide)
    (he : starEach (e :: es) X.env = (false, eval e X.env) :: starEach es X.env := by rfl) (hpl : (backTo pos (starEach es X.env)).any (·.1) = false := by rfl) : DE X (.Call (.Name x p) (e :: es) [] pos) (vB op ga) := de_callB hc hg hm hv ha hn hdb he hpl
theorem cT {x : Str} {p : Pos} {id : String} {op : List RV → M RV} (hc : OC X (.type id) op) (hm : X.mg x = none) (ha : DA X (e :: es) ga) (hg : Gl X x := by rfl) (hv : bootBuiltins x = some (.type id) := by rfl) (hn : x ≠ "__name__" := by decide) (hdb : (x == ("__debug__" : Str)) = false := by decide)
    (he : starEach (e :: es) X.env = (false, eval e X.env) :: starEach es X.env := by rfl) (hpl : (backTo pos (starEach es X.env)).any (·.1) = false := by rfl) : DE X (.Call (.Name x p) (e :: es) [] pos) (vB op ga) := de_callTy hc hg hm hv ha hn hdb he hpl
/-! isinstance -/
def pIs (T : String) (n : String) : Bool := n == T || (T == "int" && n == "bool")
def IsiOk (K : PySem.W.Frag) : Prop := ∀ d : PyData, (∀ T ∈ ["list", "tuple", "dict", "int", "bool", "str"], PySem.W.kitOne K (.type (tyN d)) (.type T) = some (pIs T (tyN d)))
theorem isiOk {K : PySem.W.Frag} : IsiOk K := fun d T hT => by
  simp only [List.mem_cons, List.mem_nil_iff, or_false] at hT
  rcases hT with rfl | rfl | rfl | rfl | rfl | rfl <;> cases d <;> rfl

theorem isi1 {T : Str} {n : String} {p1 p2 : Pos} (hi : n ∈ ["list", "tuple", "dict", "int", "bool", "str"]) (hm : X.mg "isinstance" = none) (hm2 : X.mg T = none) (he : DE X e f) (hg : Gl X "isinstance" := by rfl) (hg2 : Gl X T := by rfl) (hv2 : bootBuiltins T = some (.type n) := by rfl)
    (hst : starEach [e, .Name T p2] X.env = (false, eval e X.env) :: starEach [.Name T p2] X.env := by rfl) (hn : T ≠ "__name__" := by decide) (hdb : (T == ("__debug__" : Str)) = false := by decide) :
    DE X (.Call (.Name "isinstance" p1) [e, .Name T p2] [] pos) (vIsi (pIs n) f) := de_isi (x := "") ⟨fun d => isiOk d n hi⟩ hg hm hg2 hm2 hv2 he hst hn hdb
theorem kitAny2 {K : PySem.W.Frag} {n n' : String} (hi : n ∈ ["list", "tuple", "dict", "int", "bool", "str"]) (hi' : n' ∈ ["list", "tuple", "dict", "int", "bool", "str"]) (d : PyData) :
    PySem.W.kitAny K (.type (tyN d)) [.type n, .type n'] = some (pIs n (tyN d) || pIs n' (tyN d)) := by
  unfold PySem.W.kitAny
  rw [isiOk d n hi]
  cases pIs n (tyN d)
  · simp only [Bool.false_or]
    unfold PySem.W.kitAny
    rw [isiOk d n' hi']
    cases pIs n' (tyN d) <;> rfl
  · rfl
theorem kitAny3 {K : PySem.W.Frag} {n n' n2 : String} (hi : n ∈ ["list", "tuple", "dict", "int", "bool", "str"]) (hi' : n' ∈ ["list", "tuple", "dict", "int", "bool", "str"]) (hi2 : n2 ∈ ["list", "tuple", "dict", "int", "bool", "str"]) (d : PyData) :
    PySem.W.kitAny K (.type (tyN d)) [.type n, .type n', .type n2] = some (pIs n (tyN d) || (pIs n' (tyN d) || pIs n2 (tyN d))) := by
  unfold PySem.W.kitAny
  rw [isiOk d n hi]
  cases pIs n (tyN d)
  · simp only [Bool.false_or]
    exact kitAny2 hi' hi2 d
  · rfl
theorem isi2 {T T' : Str} {n n' : String} {p1 p2 p3 p4 : Pos} {kk : Nat} (hi : n ∈ ["list", "tuple", "dict", "int", "bool", "str"]) (hi' : n' ∈ ["list", "tuple", "dict", "int", "bool", "str"]) (hm : X.mg "isinstance" = none) (hm2 : X.mg T = none) (hm3 : X.mg T' = none) (he : DE X e f)
    (hg : Gl X "isinstance" := by rfl) (hg2 : Gl X T := by rfl) (hv2 : bootBuiltins T = some (.type n) := by rfl) (hg3 : Gl X T' := by rfl) (hv3 : bootBuiltins T' = some (.type n') := by rfl)
    (hst : starEach [e, .Tuple [.Name T p2, .Name T' p3] kk p4] X.env = (false, eval e X.env) :: starEach [.Tuple [.Name T p2, .Name T' p3] kk p4] X.env := by rfl)
    (hn : T ≠ "__name__" := by decide) (hdb : (T == ("__debug__" : Str)) = false := by decide) (hn' : T' ≠ "__name__" := by decide) (hdb' : (T' == ("__debug__" : Str)) = false := by decide) :
    DE X (.Call (.Name "isinstance" p1) [e, .Tuple [.Name T p2, .Name T' p3] kk p4] [] pos) (vIsi (fun t => pIs n t || pIs n' t) f) := de_isi2 (x := "") (kitAny2 hi hi') hg hm hg2 hm2 hv2 hg3 hm3 hv3 he hst hn hdb hn' hdb'
theorem isi3 {T T' T2 : Str} {n n' n2 : String} {p1 p2 p3 p4 p5 : Pos} {kk : Nat} (hi : n ∈ ["list", "tuple", "dict", "int", "bool", "str"]) (hi' : n' ∈ ["list", "tuple", "dict", "int", "bool", "str"]) (hi2 : n2 ∈ ["list", "tuple", "dict", "int", "bool", "str"]) (hm : X.mg "isinstance" = none) (hm2 : X.mg T = none) (hm3 : X.mg T' = none) (hm4 : X.mg T2 = none) (he : DE X e f)
    (hg : Gl X "isinstance" := by rfl) (hg2 : Gl X T := by rfl) (hv2 : bootBuiltins T = some (.type n) := by rfl) (hg3 : Gl X T' := by rfl) (hv3 : bootBuiltins T' = some (.type n') := by rfl) (hg4 : Gl X T2 := by rfl) (hv4 : bootBuiltins T2 = some (.type n2) := by rfl)
    (hst : starEach [e, .Tuple [.Name T p2, .Name T' p3, .Name T2 p5] kk p4] X.env = (false, eval e X.env) :: starEach [.Tuple [.Name T p2, .Name T' p3, .Name T2 p5] kk p4] X.env := by rfl)
    (hn : T ≠ "__name__" := by decide) (hdb : (T == ("__debug__" : Str)) = false := by decide) (hn' : T' ≠ "__name__" := by decide) (hdb' : (T' == ("__debug__" : Str)) = false := by decide) (hn2 : T2 ≠ "__name__" := by decide) (hdb2 : (T2 == ("__debug__" : Str)) = false := by decide) :
    DE X (.Call (.Name "isinstance" p1) [e, .Tuple [.Name T p2, .Name T' p3, .Name T2 p5] kk p4] [] pos) (vIsi (fun t => pIs n t || (pIs n' t || pIs n2 t)) f) := by
  obtain ⟨t, ht, qt⟩ := he
  refine ⟨_, pe_callB call_isiT hg hm (by decide +kernel) (pa_cons ht (pa_cons (pe_tup (pa_cons (pe_bltn (v := .ty n) hg2 hm2 hv2 rfl hn hdb) (pa_cons (pe_bltn (v := .ty n') hg3 hm3 hv3 rfl hn' hdb') (pa_cons (pe_bltn (v := .ty n2) hg4 hm4 hv4 rfl hn2 hdb2) pa_nil)))) pa_nil) hst) (by decide) (by decide) hst, fun G S H env σ os b Q hK E sm h => ?_⟩
  unfold vIsi at h
  rw [M.all_bind] at h
  refine qt G S H env σ os b _ hK E sm (M.all_mono (fun r b1 h1 v H1 x1 sm1 ok1 => ?_) _ _ h)
  obtain ⟨fp, r1, _⟩ := ok1
  refine ⟨by show 3 ≤ sizeLine; decide, fun tp htp => ?_⟩
  have xx := SameX.new (st := G.st) (o := HO.tup [V.ty n, V.ty n', V.ty n2]) htp
  exact ⟨v, tp, [.ty n, .ty n', .ty n2], .type (tyN r.d), [.type n, .type n', .type n2], _, rfl, upd_same, .cons (.ty n) (.cons (.ty n') (.cons (.ty n2) .nil)), (r1.sameX sm1 xx).tyX, kitAny3 hi hi' hi2 r.d, h1 _ _ (x1.trans xx) (sm1.new htp) (RVok.imm rfl (Rep.of_bool _))⟩
end

/-! ### defs -/
/-- a def of the text, as the top has made it -/
structure DefT (K : PySem.W.Frag) (mg : Str → Option Value) (x : Str) (st : Stmt) : Prop where
  ex : ∃ f fd, mg x = some (.ref f) ∧ Fun K x x st f fd
/-- it does what F says, at the level k -/
structure FnT0 (P : Program) (w : World) (K : PySem.W.Frag) (mg : Str → Option Value) (base : Heap) (k : Nat) (x : Str) (st : Stmt) (ps : List Str) (F : Fn) : Prop where
  ex : ∃ f fd, mg x = some (.ref f) ∧ Fun K x x st f fd ∧ FnOk P w K mg base (L2.CX P w) k f fd ps (spOf K ps.length F)
/-- how it binds: every parameter by its place -/
def BindT (x : Str) (st : Stmt) (ps : List Str) : Prop := ∀ (kV doc pm : Value) (an : Option Addr) (cdv ct : Value) (us : List Value), us.length = ps.length → bindArgs (PySem.W.fnOf x x (defArgs st) (defBody st) (defScope st) .none kV doc pm an cdv ct) ⟨us, []⟩ = pure (ps.zip us)
/-- by its name -/
def BindK (x : Str) (st : Stmt) (ps ks : List Str) (rev : Bool) : Prop := ∀ (kV doc pm : Value) (an : Option Addr) (cdv ct : Value) (ws : List Value), ws.length = ps.length → bindArgs (PySem.W.fnOf x x (defArgs st) (defBody st) (defScope st) .none kV doc pm an cdv ct) ⟨[], ks.zip ws⟩ = pure (ps.zip (kwIn rev ws))
def stuckF : Fn := fun _ => .stuck
section
variable {P : Program} {w : World} {K : PySem.W.Frag} {mg : Str → Option Value} {base : Heap} {x : Str} {st : Stmt} {ps N ks : List Str} {F : Fn} {X : Cx}
theorem FnT0.t {k n : Nat} (T : FnT0 X.prog X.w X.K X.mg X.base k x st ps F) (b : BindT x st ps) (hn : ps.length = n := by rfl) : FnT X k x n F := by
  obtain ⟨f, fd, hm, hF, ok⟩ := T
  subst hn
  exact ⟨f, fd, ps, hm, hF.kp, ok, hF.binds b⟩
theorem FnT0.k {k : Nat} {rev : Bool} (T : FnT0 X.prog X.w X.K X.mg X.base k x st ps F) (b : BindK x st ps ks rev) (h0 : ps ≠ [] := by decide) (hn : ks.length = ps.length := by rfl) : FnK X k x ks rev F := by
  obtain ⟨f, fd, hm, hF, ok⟩ := T
  rw [← hn] at ok
  exact ⟨f, fd, ps, hm, hF.kp, ok, KB.of hF h0 b⟩
theorem FnT0.mono {j k : Nat} (T : FnT0 P w K mg base j x st ps F) (h : j ≤ k) : FnT0 P w K mg base k x st ps F := by
  obtain ⟨f, fd, hm, hF, ok⟩ := T
  exact ⟨f, fd, hm, hF, ok.mono h⟩
/-- one that is never called -/
theorem FnT0.zero (D : DefT K mg x st) (k : Nat) (ps : List Str) : FnT0 P w K mg base k x st ps stuckF := by
  obtain ⟨f, fd, hm, hF⟩ := D
  refine ⟨f, fd, hm, hF, ⟨fun vs H Q E h => ?_, fun A outer s H args us vs Q E hr he hb hv h => ?_⟩⟩
  · obtain ⟨_, _, _, _, _, _, _, h⟩ := h; exact h.elim
  · obtain ⟨_, _, _, _, _, _, _, h⟩ := h; exact h.elim
theorem FnT0.of (D : DefT K mg x st) (S : FnScope N ps (defScope st)) (hps : ps.length ≤ N.length) {k : Nat} {body : Env → M (Fl × Env)}
    (hb : ∀ (f : Addr) (cdv : Value) (A : Around) (outer : List PySem.Env) (s : Shared) (H : Hp) (E : XK), Room k (A.deeper (PyProof.Rows.envOfC x (defScope st) s.heap.objs.size f cdv)) →
      DSs (cxOf (L2.CX P w) P w K mg base N x (defScope st) f cdv A outer s H E) (defBody st) body) : FnT0 P w K mg base (k + 1) x st ps (fnOf N.length body) := by
  obtain ⟨f, fd, hm, F⟩ := D
  exact ⟨f, fd, hm, F, fn_ok F S hps (hb f)⟩
end
theorem room1 {A : Around} {k : Nat} (hr : Room k A) : A.units + 1 < cLine := by have := hr.un; omega
theorem room64 {A : Around} {k : Nat} (hr : Room k A) : A.units + 64 < cLine := by have := hr.un; omega
theorem room65 {A : Around} {k : Nat} (hr : Room k A) : A.units + 65 < cLine := by have := hr.un; omega
end Vm

set_option Elab.async false
set_option linter.all false
set_option maxRecDepth 100000
namespace Vm
variable [TabsC]
variable {R : Exn → Nat → Prop}
open PySem L2
/-! ### list(range(..)), tuple(range(..)) -/
theorem reps_rng {K : PySem.W.Frag} {st : StA} {H : Hp} (a : Int) : ∀ n : Nat, Reps K st H (rng a n) ((List.range n).map fun i => V.int (a + (i : Nat))) [] := by
  have h : ∀ l : List Nat, Reps K st H (l.map fun (i : Nat) => PyData.int (a + (i : Int))) (l.map fun i => V.int (a + (i : Nat))) [] := by
    intro l
    induction l with
    | nil => unfold Reps; exact ⟨rfl, rfl⟩
    | cons i l ih => rw [List.map_cons, List.map_cons]; unfold Reps; exact ⟨_, _, [], [], rfl, Rep.of_int _, ih, rfl⟩
  exact fun n => h _
theorem imms_rng (a : Int) (n : Nat) : imms (rng a n) = true := imms_iff.mpr fun x hx => by
  obtain ⟨i, _, rfl⟩ := List.mem_map.mp hx
  rfl
def okRg (a b : Int) : Bool := sm62 a && decide (a ≤ 16777216) && sm62 b && decide (b ≤ 16777216) && decide ((b - a).toNat ≤ 16777216)
theorem okRg_ok {a b : Int} (h : okRg a b = true) : RgOk a b := by
  unfold okRg at h
  simp only [Bool.and_eq_true, decide_eq_true_eq] at h
  have h1 := sm62_ok h.1.1.1.1
  have h2 := sm62_ok h.1.1.2
  exact ⟨h1.1, by omega, h2.1, by omega, by have := h.2; omega⟩
def lRg (a b : Int) : M RV := if okRg a b then .ret ⟨.list (rng a (b - a).toNat), .own, []⟩ else .stuck
def tRg (a b : Int) : M RV := if okRg a b then .ret ⟨.tuple (rng a (b - a).toNat), .own, []⟩ else .stuck
def vRg1 (k : Int → Int → M RV) (f : Env → M RV) (env : Env) : M RV := f env >>= fun r => match r.d with
  | .int n => k 0 n
  | _ => .stuck
def vRg2 (k : Int → Int → M RV) (f g : Env → M RV) (env : Env) : M RV := f env >>= fun r => g env >>= fun r' => match r.d, r'.d with
  | .int i, .int n => k i n
  | _, _ => .stuck
section
variable {X : Cx} {e e1 e2 : Expr} {f g : Env → M RV} {pos p p2 pos2 : Pos} {te : St → Hp → (Int → Int → Hp → Prop) → Prop}
def tTupRgF (te : St → Hp → (Int → Int → Hp → Prop) → Prop) : TE := fun σ H Q => te σ H fun a b H1 => RgOk a b ∧ NewT H1 (rgV a b) Q
theorem pe_tupRgF (hc : X.calm = true) (hg : Gl X "tuple") (hm : X.mg "tuple" = none) (he : PRg X e te) (na : starEach [e] X.env = (false, eval e X.env) :: starEach [] X.env := by rfl) : PE X (.Call (.Name "tuple" p) [e] [] pos) (tTupRgF te) := by
  refine ⟨fun pins s σ H Q I h => ?_⟩
  refine PyProof.Rows.Call_ (ld_blt I hg hm PyProof.Rows.boot_tuple (PyProof.Rows.callWith_type1 (PyProof.Rows.args_cons (thn (he pins s σ H _ I h) fun x s1 ⟨r, a, b, t, u, v, H1, ex, hr, I1, ok, q⟩ => PyProof.Rows.args_nil ?_) na) na))
  subst ex
  obtain ⟨b1, b2, b3, b4, b5⟩ := ok
  refine call_tuple_range (n := (b - a).toNat) (I1.ok.hd hc) hr (small_one b1 b2 b3 b4) (PyProof.Rows.rangeSize_nat a b) b5 fun h' tk acc hk hi => ?_
  have I2 : Inv X pins σ H1 { s1 with heap := h', toks := tk } := I1.kept hk
  have := laidT (xs := rgV a b) (us := acc.toList) I2 (vals_rg hi) (by rw [rgV_length, sizeLine_eq]; omega) q
  rw [Array.toArray_toList] at this
  exact this
theorem lRg_ok {G : Gx} {S : Addr → Prop} {os : Nat → List Addr} {H H1 : Hp} {a b : Int} {b1 : Nat} {Q : VK} (sm1 : Stm H1 G.st b1) (x1 : SameX G.st H H1) (h : (lRg a b).all G.R (Post X.K G.st S os H Q) b1) : RgOk a b ∧ ∀ q, H1 q = none → Q (.ref q) (upd H1 q (.lst (rgV a b))) := by
  unfold lRg at h
  split at h
  · rename_i ho
    refine ⟨okRg_ok ho, fun q hq => ?_⟩
    exact h _ _ (x1.trans (SameX.new hq)) (sm1.new hq) ⟨[q], Rep.newL sm1 hq (reps_rng a _), by simp, fun c hc => .inl (by rw [show c = q by simpa using hc]; exact fresh_back sm1 x1 hq)⟩
  · exact h.elim
theorem tRg_ok {G : Gx} {S : Addr → Prop} {os : Nat → List Addr} {H H1 : Hp} {a b : Int} {b1 : Nat} {Q : VK} (sm1 : Stm H1 G.st b1) (x1 : SameX G.st H H1) (h : (tRg a b).all G.R (Post X.K G.st S os H Q) b1) : RgOk a b ∧ NewT H1 (rgV a b) Q := by
  unfold tRg at h
  split at h
  · rename_i ho
    refine ⟨okRg_ok ho, fun q o hq hd => ?_⟩
    exact h _ _ (x1.trans (SameX.new hq)) (sm1.new hq) ⟨[], Rep.newT sm1 hq hd (reps_rng a _), List.nodup_nil, fun c hc => by cases hc⟩
  · exact h.elim
theorem prg1_go {k : Int → Int → M RV} {T : Int → Int → Hp → Prop} {te : TE} (qt : ∀ (G : Gx) (S : Addr → Prop) (H : Hp) (env : Env) (σ : St) (os : Nat → List Addr) (b : Nat) (Q : VK), GOk G X → ER G S H env σ os → Stm H G.st b → (f env).all G.R (Post X.K G.st S os H Q) b → te σ H Q)
    {G : Gx} {S : Addr → Prop} {H : Hp} {env : Env} {σ : St} {os : Nat → List Addr} {b : Nat} {Q : VK} (hT : ∀ a b H1 b1, Stm H1 G.st b1 → SameX G.st H H1 → (k a b).all G.R (Post X.K G.st S os H Q) b1 → T a b H1) (hK : GOk G X) (E : ER G S H env σ os) (sm : Stm H G.st b)
    (h : (vRg1 k f env).all G.R (Post X.K G.st S os H Q) b) : tRg1 te σ H T := by
  unfold vRg1 at h
  rw [M.all_bind] at h
  refine qt G S H env σ os b _ hK E sm (M.all_mono (fun r b1 h1 v H1 x1 sm1 ok1 => ?_) _ _ h)
  obtain ⟨fp, r1, _⟩ := ok1
  split at h1
  · rename_i n en
    rw [en] at r1
    exact ⟨n, r1.int_inv, hT _ _ H1 b1 sm1 x1 h1⟩
  · exact h1.elim
theorem prg2_go {k : Int → Int → M RV} {T : Int → Int → Hp → Prop} {te te' : TE} (qt : ∀ (G : Gx) (S : Addr → Prop) (H : Hp) (env : Env) (σ : St) (os : Nat → List Addr) (b : Nat) (Q : VK), GOk G X → ER G S H env σ os → Stm H G.st b → (f env).all G.R (Post X.K G.st S os H Q) b → te σ H Q)
    (qt' : ∀ (G : Gx) (S : Addr → Prop) (H : Hp) (env : Env) (σ : St) (os : Nat → List Addr) (b : Nat) (Q : VK), GOk G X → ER G S H env σ os → Stm H G.st b → (g env).all G.R (Post X.K G.st S os H Q) b → te' σ H Q)
    {G : Gx} {S : Addr → Prop} {H : Hp} {env : Env} {σ : St} {os : Nat → List Addr} {b : Nat} {Q : VK} (hT : ∀ a b H1 b1, Stm H1 G.st b1 → SameX G.st H H1 → (k a b).all G.R (Post X.K G.st S os H Q) b1 → T a b H1) (hK : GOk G X) (E : ER G S H env σ os) (sm : Stm H G.st b)
    (h : (vRg2 k f g env).all G.R (Post X.K G.st S os H Q) b) : tRg2 te te' σ H T := by
  unfold vRg2 at h
  rw [M.all_bind] at h
  refine qt G S H env σ os b _ hK E sm (M.all_mono (fun r b1 h1 v H1 x1 sm1 ok1 => ?_) _ _ h)
  obtain ⟨fp, r1, _⟩ := ok1
  rw [M.all_bind] at h1
  refine qt' G S H1 env σ os b1 _ hK (E.mono sm x1) sm1 (M.all_mono (fun r' b2 h2 v' H2 x2 sm2 ok2 => ?_) _ _ h1)
  obtain ⟨fp', r2, _⟩ := ok2
  split at h2
  · rename_i i n ei en
    rw [ei] at r1
    rw [en] at r2
    exact ⟨i, n, r1.int_inv, r2.int_inv, hT _ _ H2 b2 sm2 (x1.trans x2) h2⟩
  · exact h2.elim
theorem de_lrg1 (hm : X.mg "list" = none) (hm2 : X.mg "range" = none) (he : DE X e f) (hg : Gl X "list" := by rfl) (hg2 : Gl X "range" := by rfl) (hc : X.calm = true := by rfl)
    (na : starEach [e] X.env = (false, eval e X.env) :: starEach [] X.env := by rfl) (na2 : starEach [.Call (.Name "range" p2) [e] [] pos2] X.env = (false, eval (.Call (.Name "range" p2) [e] [] pos2) X.env) :: starEach [] X.env := by rfl) :
    DE X (.Call (.Name "list" p) [.Call (.Name "range" p2) [e] [] pos2] [] pos) (vRg1 lRg f) := by
  obtain ⟨t, ht, qt⟩ := he
  exact ⟨_, pe_listRg hc hg hm (prg_1 hg2 hm2 ht na) na2, fun G S H env σ os b Q hK E sm h => prg1_go qt (fun a b H1 b1 s1 x1 h => lRg_ok s1 x1 h) hK E sm h⟩
theorem de_lrg2 (hm : X.mg "list" = none) (hm2 : X.mg "range" = none) (he : DE X e1 f) (he2 : DE X e2 g) (hg : Gl X "list" := by rfl) (hg2 : Gl X "range" := by rfl) (hc : X.calm = true := by rfl)
    (na : starEach [e1, e2] X.env = (false, eval e1 X.env) :: starEach [e2] X.env := by rfl) (nb : starEach [e2] X.env = (false, eval e2 X.env) :: starEach [] X.env := by rfl) (hp : (backTo pos2 (starEach [e2] X.env)).any (·.1) = false := by rfl)
    (na2 : starEach [.Call (.Name "range" p2) [e1, e2] [] pos2] X.env = (false, eval (.Call (.Name "range" p2) [e1, e2] [] pos2) X.env) :: starEach [] X.env := by rfl) :
    DE X (.Call (.Name "list" p) [.Call (.Name "range" p2) [e1, e2] [] pos2] [] pos) (vRg2 lRg f g) := by
  obtain ⟨t, ht, qt⟩ := he
  obtain ⟨t', ht', qt'⟩ := he2
  exact ⟨_, pe_listRg hc hg hm (prg_2 hg2 hm2 ht ht' na nb hp) na2, fun G S H env σ os b Q hK E sm h => prg2_go qt qt' (fun a b H1 b1 s1 x1 h => lRg_ok s1 x1 h) hK E sm h⟩
theorem de_trg1 (hm : X.mg "tuple" = none) (hm2 : X.mg "range" = none) (he : DE X e f) (hg : Gl X "tuple" := by rfl) (hg2 : Gl X "range" := by rfl) (hc : X.calm = true := by rfl)
    (na : starEach [e] X.env = (false, eval e X.env) :: starEach [] X.env := by rfl) (na2 : starEach [.Call (.Name "range" p2) [e] [] pos2] X.env = (false, eval (.Call (.Name "range" p2) [e] [] pos2) X.env) :: starEach [] X.env := by rfl) :
    DE X (.Call (.Name "tuple" p) [.Call (.Name "range" p2) [e] [] pos2] [] pos) (vRg1 tRg f) := by
  obtain ⟨t, ht, qt⟩ := he
  exact ⟨_, pe_tupRgF hc hg hm (prg_1 hg2 hm2 ht na) na2, fun G S H env σ os b Q hK E sm h => prg1_go qt (fun a b H1 b1 s1 x1 h => tRg_ok s1 x1 h) hK E sm h⟩
end
end Vm

set_option Elab.async false
set_option linter.all false
set_option maxRecDepth 100000
namespace Vm
variable [TabsC]
variable {R : Exn → Nat → Prop}
open PySem L2

/-! ### what _law_spoilt does to data -/
mutual
def spoil : PyData → PyData
  | .list xs => .list (spoils xs ++ [.str (Str.ofString "late")])
  | .tuple xs => .tuple (spoils xs)
  | d => d
def spoils : List PyData → List PyData
  | [] => []
  | x :: xs => spoil x :: spoils xs
end
mutual
/-- no dict; every list has room for one more -/
def roomy : PyData → Bool
  | .list xs => decide (xs.length < sizeLine) && roomys xs
  | .tuple xs => roomys xs
  | .dict _ => false
  | _ => true
def roomys : List PyData → Bool
  | [] => true
  | x :: xs => roomy x && roomys xs
end
theorem spoils_append : ∀ (xs ys : List PyData), spoils (xs ++ ys) = spoils xs ++ spoils ys
  | [], ys => by rw [List.nil_append, spoils, List.nil_append]
  | x :: xs, ys => by rw [List.cons_append, spoils, spoils, spoils_append xs ys, List.cons_append]
theorem spoils_length : ∀ xs : List PyData, (spoils xs).length = xs.length
  | [] => rfl
  | x :: xs => by rw [spoils, List.length_cons, List.length_cons, spoils_length xs]
/-- what may change is a list or a dict -/
def Mu (H : Hp) (c : Addr) : Prop := (∃ us, H c = some (.lst us)) ∨ (∃ kvs, H c = some (.dK kvs)) ∨ ∃ kvs, H c = some (.dT kvs)
mutual
theorem Rep.mu {K : PySem.W.Frag} {st : StA} {H : Hp} : ∀ {d : PyData} {v : V} {fp : List Addr}, Rep K st H d v fp → ∀ c ∈ fp, Mu H c
  | .none, _, _, r, c, hc => by unfold Rep at r; rw [r.2] at hc; cases hc
  | .bool _, _, _, r, c, hc => by unfold Rep at r; rw [r.2] at hc; cases hc
  | .int _, _, _, r, c, hc => by unfold Rep at r; rw [r.2] at hc; cases hc
  | .str _, _, _, r, c, hc => by unfold Rep at r; rw [r.2] at hc; cases hc
  | .tuple ds, _, _, r, c, hc => by
    unfold Rep at r
    obtain ⟨a, vs, e, ha, q⟩ := r
    exact Reps.mu q c hc
  | .list ds, _, _, r, c, hc => by
    unfold Rep at r
    obtain ⟨a, vs, f, e, ha, _, _, q, ef⟩ := r
    rw [ef] at hc
    rcases List.mem_cons.mp hc with rfl | hc
    · exact .inl ⟨_, ha⟩
    · exact Reps.mu q c hc
  | .dict kvs, _, _, r, c, hc => by
    unfold Rep at r
    obtain ⟨a, ks, vs, f, e, ha, _, _, q, ef⟩ := r
    rw [ef] at hc
    rcases List.mem_cons.mp hc with rfl | hc
    · rcases ha with ⟨k, z, _⟩ | ⟨k, z, _⟩
      · exact .inr (.inl ⟨_, z⟩)
      · exact .inr (.inr ⟨_, z⟩)
    · exact RepKs.mu q c hc
theorem Reps.mu {K : PySem.W.Frag} {st : StA} {H : Hp} : ∀ {ds : List PyData} {vs : List V} {fp : List Addr}, Reps K st H ds vs fp → ∀ c ∈ fp, Mu H c
  | [], _, _, r, c, hc => by unfold Reps at r; rw [r.2] at hc; cases hc
  | d :: ds, _, _, r, c, hc => by
    unfold Reps at r
    obtain ⟨v, vr, f1, f2, e, h1, h2, ef⟩ := r
    rw [ef] at hc
    exact (List.mem_append.mp hc).elim (h1.mu c) (h2.mu c)
theorem RepKs.mu {K : PySem.W.Frag} {st : StA} {H : Hp} : ∀ {kvs : List (PyData × PyData)} {ks : List PyData} {vs : List V} {fp : List Addr}, RepKs K st H kvs ks vs fp → ∀ c ∈ fp, Mu H c
  | [], _, _, _, r, c, hc => by unfold RepKs at r; rw [r.2.2] at hc; cases hc
  | (k, d) :: kvs, _, _, _, r, c, hc => by
    unfold RepKs at r
    obtain ⟨kr, v, vr, f1, f2, e, e', h1, h2, ef⟩ := r
    rw [ef] at hc
    exact (List.mem_append.mp hc).elim (h1.mu c) (h2.mu c)
end
/-- all but the places fp stays -/
def But (fp : List Addr) (H H' : Hp) : Prop := ∀ a o, a ∉ fp → H a = some o → H' a = some o
theorem But.kp {fp : List Addr} {H H' : Hp} (mu : ∀ c ∈ fp, Mu H c) (b : But fp H H') : KpD (fun a => a ∉ fp) H H' := by
  refine ⟨fun a o d e => b a o d e, fun a xs e => b a _ (fun z => ?_) e, fun a o u e => b a _ (fun z => ?_) e⟩
  · rcases mu a z with ⟨us, y⟩ | ⟨us, y⟩ | ⟨us, y⟩ <;> (rw [y] at e; cases e)
  · rcases mu a z with ⟨us, y⟩ | ⟨us, y⟩ | ⟨us, y⟩ <;> (rw [y] at e; cases e)
theorem But.refl (fp : List Addr) (H : Hp) : But fp H H := fun _ _ _ e => e
theorem But.trans {f1 f2 fp : List Addr} {H H1 H2 : Hp} (x : But f1 H H1) (y : But f2 H1 H2) (h1 : ∀ c ∈ f1, c ∈ fp) (h2 : ∀ c ∈ f2, c ∈ fp) : But fp H H2 := fun a o n e => y a o (fun z => n (h2 a z)) (x a o (fun z => n (h1 a z)) e)
def LATE : PyData := .str (Str.ofString "late")
/-- the promise of _law_spoilt -/
def spSp (K : PySem.W.Frag) (n : Nat) : Sp := fun vs H Q _ => ∃ (v : V) (d : PyData) (fp : List Addr) (st : StA) (b : Nat), vs = [v] ∧ d.depth < n ∧ roomy d = true ∧ Rep K st H d v fp ∧ fp.Nodup ∧ Stm H st b ∧
  ∀ H', But fp H H' → Stm H' st b → Rep K st H' (spoil d) v fp → Q .non H'
/-- isinstance(x, (list, tuple)) -/
theorem isiT_read {K : PySem.W.Frag} {st : StA} {σ : St} {H : Hp} {d : PyData} {v : V} {fp : List Addr} {b : Nat} {Q : Bool → Hp → Prop} {i : Nat} (h0 : σ[i]? = some (some v)) (r : Rep K st H d v fp) (sm : Stm H st b)
    (h : ∀ H1, Grow H H1 → Q (pIs "list" (tyN d) || pIs "tuple" (tyN d)) H1) :
    (fun σ H Q => (tCB (rIsiT K) (tCons (tVar i) (tCons (tTup (tCons (tC (.ty "list")) (tCons (tC (.ty "tuple")) tNil))) tNil))) σ H fun x H' => ∃ k, TruV K x H' k ∧ Q k H') σ H Q := by
  refine ⟨v, h0, by show 2 ≤ sizeLine; decide, fun tp htp => ?_⟩
  have xx := SameX.new (st := st) (o := HO.tup [V.ty "list", V.ty "tuple"]) htp
  exact ⟨v, tp, [.ty "list", .ty "tuple"], .type (tyN d), [.type "list", .type "tuple"], _, rfl, upd_same, .cons (.ty "list") (.cons (.ty "tuple") .nil), (r.sameX sm xx).tyX, kitAny2 (by decide) (by decide) d, _, rfl, h _ (Grow.upd htp)⟩
theorem isiL_read {K : PySem.W.Frag} {st : StA} {σ : St} {H : Hp} {d : PyData} {v : V} {fp : List Addr} {Q : Bool → Hp → Prop} {i : Nat} (h0 : σ[i]? = some (some v)) (r : Rep K st H d v fp)
    (h : Q (pIs "list" (tyN d)) H) :
    (fun σ H Q => (tCB (rIsi K) (tCons (tVar i) (tCons (tC (.ty "list")) tNil))) σ H fun x H' => ∃ k, TruV K x H' k ∧ Q k H') σ H Q :=
  ⟨v, h0, v, .ty "list", .type (tyN d), .type "list", _, rfl, .ty "list", r.tyX, isiOk d "list" (by decide), _, rfl, h⟩
/-- a list grows by a text -/
theorem Rep.late {K : PySem.W.Frag} {st : StA} {H : Hp} {xs : List PyData} {a : Addr} {vs : List V} {f : List Addr} (n1 : a ≠ st.1) (n2 : Off st a) (na : a ∉ f) (mu : ∃ us, H a = some (.lst us)) (r : Reps K st H xs vs f) :
    Rep K st (upd H a (.lst (vs ++ [.str (Str.ofString "late")]))) (.list (xs ++ [LATE])) (.ref a) (a :: f) := by
  unfold Rep
  have kk : KpD (fun c => c ≠ a) H (upd H a (.lst (vs ++ [.str (Str.ofString "late")]))) := kp_upd (.inr (.inl mu))
  refine ⟨a, _, f, rfl, upd_same, n1, n2, ?_, rfl⟩
  have := Reps.append (r.kp kk fun c hc e => na (e ▸ hc)) (Reps.single (d := LATE) (v := .str (Str.ofString "late")) (fp := []) (Rep.of_str _))
  rw [List.append_nil] at this
  exact this
theorem Reps.cons_inv {K : PySem.W.Frag} {st : StA} {H : Hp} {d : PyData} {ds : List PyData} {vs : List V} {fp : List Addr} (r : Reps K st H (d :: ds) vs fp) : ∃ v vr f1 f2, vs = v :: vr ∧ Rep K st H d v f1 ∧ Reps K st H ds vr f2 ∧ fp = f1 ++ f2 := by
  unfold Reps at r; exact r
theorem depth_mem : ∀ {xs : List PyData} {d : PyData}, d ∈ xs → d.depth ≤ PyData.depthAll xs
  | x :: xs, d, h => by
    rcases List.mem_cons.mp h with rfl | h
    · simp only [PyData.depthAll]; omega
    · have := depth_mem h
      simp only [PyData.depthAll]; omega
theorem roomys_mem : ∀ {xs : List PyData} {d : PyData}, roomys xs = true → d ∈ xs → roomy d = true
  | x :: xs, d, h, hd => by
    unfold roomys at h
    rw [Bool.and_eq_true] at h
    rcases List.mem_cons.mp hd with rfl | hd
    · exact h.1
    · exact roomys_mem h.2 hd
/-- the loop over a list or a tuple, each part spoilt -/
theorem spoil_loop {K : PySem.W.Frag} {st : StA} {n b : Nat} {ds : List PyData} {vs : List V} {fp : List Addr} {a : Addr} {k : Bool} {J : It} {D : Ends} {H : Hp} {x : Option V}
    (go : ∀ H2 i, SqK k K H2 a vs → i < vs.length → J.go i H2) (stop : ∀ H2, SqK k K H2 a vs → J.stop vs.length H2) (yl : ∀ H2 i y H3, SqK k K H2 a vs → J.yld i H2 y H3 → H3 = H2 ∧ vs[i]? = some y)
    (hq : ∀ H2, But fp H H2 → SqK k K H2 a vs) (r : Reps K st H ds vs fp) (nd : fp.Nodup) (sm : Stm H st b) (hd : ∀ d ∈ ds, d.depth < n ∧ roomy d = true)
    (fin : ∀ H' x', But fp H H' → Stm H' st b → Reps K st H' (spoils ds) vs fp → D.nx [some (.ref a), x'] H') :
    ∃ W : Nat → Nat → St → Hp → Prop, (∃ m, W 0 m [some (.ref a), x] H) ∧ ∀ i m σ H, W i m σ H →
      (J.stop i H ∧ D.nx σ H) ∨ (J.go i H ∧ ∃ N : St → Hp → Prop, (∀ σ' H', N σ' H' → ∃ m', m' < m ∧ W (i + 1) m' σ' H') ∧ ∀ y H', J.yld i H y H' →
        gName 1 y σ H' fun σ2 H2 => (tDrop (tCall (spSp K n) [] E0 (tCons (tVar 1) tNil))) { D with nx := N, ct := N, bk := D.nx } σ2 H2) := by
  have hl := r.length
  let Pv : Nat → St → Hp → Prop := fun i σ2 H2 => ∃ (x2 : Option V) (f1 f2 : List Addr), σ2 = [some (.ref a), x2] ∧ But fp H H2 ∧ Stm H2 st b ∧ Reps K st H2 (spoils (ds.take i)) (vs.take i) f1 ∧ Reps K st H2 (ds.drop i) (vs.drop i) f2 ∧ fp = f1 ++ f2
  refine ⟨fun i m σ2 H2 => m = vs.length - i ∧ i ≤ vs.length ∧ Pv i σ2 H2, ⟨vs.length, by simp, Nat.zero_le _, x, [], fp, rfl, But.refl _ _, sm, by simp [spoils, Reps], by simpa using r, rfl⟩, ?_⟩
  rintro i m σ2 H2 ⟨rfl, hi, x2, f1, f2, rfl, bu, sm2, r1, r2, ef⟩
  by_cases hlt : i < vs.length
  case neg =>
    have ei : i = vs.length := by omega
    subst ei
    refine .inl ⟨stop H2 (hq H2 bu), ?_⟩
    rw [show ds.take vs.length = ds by rw [hl, List.take_length], List.take_length] at r1
    rw [show ds.drop vs.length = [] by rw [hl, List.drop_length]] at r2
    have e2 : f2 = [] := by unfold Reps at r2; exact r2.2
    subst e2
    rw [List.append_nil] at ef
    subst ef
    exact fin H2 x2 bu sm2 r1
  refine .inr ⟨go H2 i (hq H2 bu) hlt, Pv (i + 1), fun σ' H' p' => ⟨vs.length - (i + 1), by omega, rfl, hlt, p'⟩, fun y H3 hy => ?_⟩
  obtain ⟨e3, ey⟩ := yl H2 i y H3 (hq H2 bu) hy
  subst e3
  have hid : i < ds.length := by omega
  have ed : ds.drop i = ds[i] :: ds.drop (i + 1) := List.drop_eq_getElem_cons hid
  have ev : vs.drop i = vs[i] :: vs.drop (i + 1) := List.drop_eq_getElem_cons hlt
  rw [ed] at r2
  obtain ⟨v, vr, g1, g2, e4, q1, q2, eg⟩ := r2.cons_inv
  rw [ev] at e4
  have e5 : vs[i] = v := (List.cons.inj e4).1
  have e6 : vs.drop (i + 1) = vr := (List.cons.inj e4).2
  subst e6
  have ey2 : y = v := by
    rw [List.getElem?_eq_getElem hlt] at ey
    rw [← Option.some.inj ey, e5]
  subst ey2
  subst eg
  have hmem : ds[i] ∈ ds := List.getElem_mem hid
  have nd' : (f1 ++ (g1 ++ g2)).Nodup := ef ▸ nd
  obtain ⟨n1, n2, n3⟩ := List.nodup_append.mp nd'
  obtain ⟨n4, n5, n6⟩ := List.nodup_append.mp n2
  refine ⟨y, rfl, y, ds[i], g1, st, b, rfl, (hd _ hmem).1, (hd _ hmem).2, q1, n4, sm2, fun H4 bu4 sm4 q4 => ?_⟩
  have kk := But.kp q1.mu bu4
  refine ⟨some y, f1 ++ g1, g2, rfl, bu.trans bu4 (fun c hc => hc) (fun c hc => by rw [ef]; exact List.mem_append_right _ (List.mem_append_left _ hc)), sm4, ?_, ?_, ?_⟩
  · have et : ds.take (i + 1) = ds.take i ++ [ds[i]] := by rw [List.take_add_one, List.getElem?_eq_getElem hid]; rfl
    have evt : vs.take (i + 1) = vs.take i ++ [y] := by rw [List.take_add_one, List.getElem?_eq_getElem hlt, e5]; rfl
    rw [et, evt, spoils_append]
    refine Reps.append (r1.kp kk fun c hc hc' => n3 c hc c (List.mem_append_left _ hc') rfl) ?_
    rw [spoils, spoils]
    exact Reps.single q4
  · exact q2.kp kk fun c hc hc' => n6 c hc' c hc rfl
  · rw [ef, List.append_assoc]
end Vm

set_option Elab.async false
set_option linter.all false
set_option maxRecDepth 100000
set_option maxHeartbeats 1000000
namespace Vm
variable [TabsC]
variable {R : Exn → Nat → Prop}
open PySem L2 LamX

/-! ### lambdas -/
/-- the table of the frame's code object is one of the known ones -/
structure TabAt (X : Cx) (c P : Addr) : Prop where
  tb : TabB X.base X.mg c P
  code : X.env.code = .ref c
  mem : (P, X.env.qual ++ "<lambda>") ∈ TabsC.T
  one : ∀ p ∈ TabsC.T, p.1 = P → p.2 = X.env.qual ++ "<lambda>"
/-- a table with one record more -/
theorem table_more {H : Hp} {P c' : Addr} {q : Str} {ps : Array Value} {pos : Pos} {r : Addr × Str} (hP : H P = some (.tbl ps)) (nC : H c' = none) (ht : TriplesOk ps.toList) (ha : TabS H P q) (hr : TabS H r.1 r.2) (hone : r.1 = P → r.2 = q) :
    TabS (upd (upd H P (.tbl (ps ++ #[rawInt pos.line, rawInt pos.col, .ref c']))) c' (CodeO c' q)) r.1 r.2 := by
  have old : ∀ c0 q0, H c0 = some (CodeO c0 q0) → upd (upd H P (.tbl (ps ++ #[rawInt pos.line, rawInt pos.col, .ref c']))) c' (CodeO c' q) c0 = some (CodeO c0 q0) := fun c0 q0 e => by
    rw [upd_ne (ne_of_none e nC), upd_ne (fun z => by rw [z, hP] at e; exact codeO_ne ps (Option.some.inj e).symm)]
    exact e
  by_cases hb : r.1 = P
  · rw [hone hb, hb]
    obtain ⟨ps0, a1, a2, a3⟩ := ha
    have e0 : ps0 = ps := by rw [a1] at hP; injection (Option.some.inj hP)
    subst e0
    refine ⟨_, (upd_ne (ne_of_none hP nC)).trans upd_same, ?_, fun p' cv hcv => ?_⟩
    · rw [show (ps0 ++ #[rawInt pos.line, rawInt pos.col, Value.ref c']).toList = ps0.toList ++ [rawInt pos.line, rawInt pos.col, .ref c'] by simp]
      exact PySem.TriplesOk_snoc _ _ _ _ ht
    · rw [show (ps0 ++ #[rawInt pos.line, rawInt pos.col, Value.ref c']).toList = ps0.toList ++ [rawInt pos.line, rawInt pos.col, .ref c'] by simp] at hcv
      rcases among_app _ ht hcv with z | z
      · obtain ⟨c0, k1, k2⟩ := a3 p' cv z
        exact ⟨c0, k1, old _ _ k2⟩
      · exact ⟨c', z, upd_same⟩
  · obtain ⟨ps0, a1, a2, a3⟩ := hr
    refine ⟨ps0, (upd_ne (ne_of_none a1 nC)).trans ((upd_ne hb).trans a1), a2, fun p' cv hcv => ?_⟩
    obtain ⟨c0, k1, k2⟩ := a3 p' cv hcv
    exact ⟨c0, k1, old _ _ k2⟩
section
variable {X : Cx} {pins : List (Addr × Obj)} {σ : L2.St} {H : Hp} {s : Shared}
theorem lam_born {c P : Addr} {st : StA} {b : Nat} {params : Arguments} {body : Expr} {scope : Scope} {pos : Pos} {E : Value → Shared → Prop} {Q : Value → Shared → Prop} (I : Inv X pins σ H s) (sm : Stm H st b) (TA : TabAt X c P)
    (hdef : defaultsOf params X.env = ([], [])) (hfree : ∀ y ∈ scope.names, y.2 = .free → ∃ c, X.env.cells.lookup y.1 = some c)
    (h : ∀ (f c' : Addr) (pm ctv : Value) (H1 : Hp) (s' : Shared), Inv X pins σ H1 s' → SameX st H H1 → Stm H1 st b →
      s'.heap.get? f = some (PySem.W.kla_obj "<lambda>" (X.env.qual ++ "<lambda>") params body scope (cloFrom X.env.cells scope.names []) pm c' ctv) → H1 f = none → f ∉ frs X.stack → H1 c' = some (CodeO c' (X.env.qual ++ "<lambda>")) → Q (.ref f) s') :
    wpAny (model X.prog X.w) X.A (eval (.Lambda params body scope pos) X.env) Q E s := by
  have ta := sm.tabs _ TA.mem
  have ta0 := ta
  obtain ⟨ps, hP, ht, hcs⟩ := ta
  refine PySem.W.kla_eval hdef ?_
  have young : ∀ f, s.heap.objs.size ≤ f → f ∉ frs X.stack := fun f hf z => by
    rcases List.mem_cons.mp (I.stkSub _ z) with e | e
    · have h1 := I.lt
      rw [← e] at h1
      exact absurd (Nat.lt_of_lt_of_le h1 hf) (Nat.lt_irrefl _)
    · exact I.nofs hf e
  have hB := TA.tb.bm.keeps I.bk
  have hO : s.heap.get? P = some { cls := .none, data := .fields ps } := I.hok P _ hP
  cases hc : codeAmong pos ps.toList with
  | some cv =>
    obtain ⟨c', e, hco⟩ := hcs pos cv hc
    subst e
    refine PySem.W.kla_makeFunctionHit (mg := X.mg) (c := c) (P := P) (ps := ps) (closure_ok hfree) I.ok.glob (I.mod.glob.keeps I.bk) TA.code (TA.tb.code.keeps I.bk) hO ht hc hB fun ctv h' tk hx hsz => ?_
    exact h h'.objs.size c' _ ctv H _ (I.kept fun b o e => Heap.get?_push_of_some _ (hx b o e)) (SameX.refl H) sm (Heap.get?_push_size _ rfl) (I.hok.fresh hsz) (young _ hsz) hco
  | none =>
    refine PySem.W.kla_makeFunction (mg := X.mg) (c := c) (P := P) (ps := ps) (closure_ok hfree) I.ok.glob (I.mod.glob.keeps I.bk) TA.code (TA.tb.code.keeps I.bk) hO ht hc TA.tb.gP hB fun c' ctv h' tk hx hge hlt hrec htb => ?_
    obtain ⟨c2, oc, vs, t, e2, hoc, hd, hv⟩ := hrec
    cases e2
    have nC : H c' = none := I.hok.fresh hge
    have hsz : s.heap.objs.size ≤ h'.objs.size := Nat.le_trans hge (Nat.le_of_lt hlt)
    have I1 := inv_table (t' := tk) (more := #[rawInt pos.line, rawInt pos.col, .ref c']) (h' := h'.push (PySem.W.kla_obj "<lambda>" (X.env.qual ++ "<lambda>") params body scope (cloFrom X.env.cells scope.names []) ((X.mg "__name__").getD .none) c' ctv)) I hP
      (fun b o hb e => Heap.get?_push_of_some _ (hx b o hb e)) (Heap.get?_push_of_some _ htb) hge ⟨oc, vs, t, Heap.get?_push_of_some _ hoc, hd, hv⟩
    have nPc : P ≠ c' := ne_of_none hP nC
    refine h h'.objs.size c' _ ctv _ _ I1 (fun a o n1 n2 e => ?_) ?_ (Heap.get?_push_size _ rfl) ?_ (young _ hsz) upd_same
    · rw [upd_ne (ne_of_none e nC), upd_ne (n2.2 _ TA.mem)]
      exact e
    · obtain ⟨cells, big, cc, mix, k1, k2, k3, k4, k5, k6, k7, k8, k9⟩ := sm
      have lstN : ∀ a xs, H a = some (.lst xs) → upd (upd H P (.tbl (ps ++ #[rawInt pos.line, rawInt pos.col, .ref c']))) c' (CodeO c' (X.env.qual ++ "<lambda>")) a = some (.lst xs) := fun a xs e => by
        rw [upd_ne (ne_of_none e nC), upd_ne (fun z => by rw [z, hP] at e; cases e)]
        exact e
      refine ⟨cells, big, cc, mix, lstN _ _ k1, lstN _ _ k2, k3, k4, k5, k6, k7, k8, fun p hp => table_more hP nC ht ta0 (k9 p hp) (TA.one p hp)⟩
    · rw [upd_ne (Nat.ne_of_gt hlt), upd_ne (Nat.ne_of_gt (Nat.lt_of_lt_of_le (Heap.lt_size hO) hsz))]
      exact I.hok.fresh hsz
end
/-- _law_twice(due, lambda: .., lambda: ..) -/
def vTw (f1 f2 : Env → M RV) (Fc Fs : Fn) (env : Env) (r : RV) : M RV :=
  (f1 env).calm >>= fun r1 => (Fc [some r.d]).calm >>= fun c => (Fs [some r1.d, some r.d]).calm >>= fun z => match z.1 with
    | .bool false => flat (.bool false)
    | .bool true => if decide (r1.lv = .own) && r1.al.isEmpty && decide (c.2 = .own) && roomy r1.d && roomy c.1 && decide (r1.d.depth < 12) && decide (c.1.depth < 12) then
        (f2 env).calm >>= fun r2 => (f1 env).calm >>= fun r3 => (Fs [some (.list [spoil r1.d, r2.d, r3.d]), some (.list [spoil c.1, r.d, r.d])]).calm >>= fun y => (match y.1 with
          | .bool k => flat (.bool k)
          | _ => .stuck)
      else .stuck
    | _ => .stuck
def vTwice (fdue f1 f2 : Env → M RV) (Fc Fs : Fn) (env : Env) : M RV := fdue env >>= vTw f1 f2 Fc Fs env
end Vm

set_option Elab.async false
set_option linter.all false
set_option maxRecDepth 100000
set_option maxHeartbeats 1000000
namespace Vm
variable [TabsC]
variable {R : Exn → Nat → Prop}
open PySem L2 ItX

/-! ### pairs = zip(a, b); .. in pairs -/
section
variable {X : Cx} {pins : List (Addr × Obj)} {σ : L2.St} {H H' : Hp} {s : Shared} {h' : Heap}
/-- several new objects are tracked -/
theorem laidAll {t' : Nat} (I : Inv X pins σ H s) (k : ∀ b o, s.heap.get? b = some o → h'.get? b = some o) (old : ∀ b, b < s.heap.objs.size → H' b = H b) (new : ∀ b u, s.heap.objs.size ≤ b → H' b = some u → ObjOk X.prog X.w H' h' b u) : Inv X pins σ H' { s with heap := h', toks := t' } := by
  have up : ∀ b u, H b = some u → H' b = some u := fun b u e => by
    by_cases hb : b < s.heap.objs.size
    · rw [old b hb]; exact e
    · rw [I.hok.fresh (Nat.not_lt.mp hb)] at e; cases e
  refine I.step (g' := s.gens) (d' := s.drawn) (ch := []) (fun b hb => absurd hb (by simp)) (fun b o _ _ _ e _ => k b o e) (fun b o _ _ _ e _ => ⟨o.slots, k b o e⟩) (fun b o _ e n => by rw [old b (Heap.lt_size e)]; exact n) (fun b o _ e => ⟨o, k b o e⟩)
    (fun b xs e => up b _ e) (fun b o u e => up b _ e) (fun b ps e => ⟨#[], by rw [up b _ e]; simp⟩) (fun m hm => ?_) (fun b u e => ?_) I.bare
  · obtain ⟨o, es, ep, ho, r⟩ := hm
    exact ⟨o, es, ep, k _ o ho, r⟩
  · by_cases hb : b < s.heap.objs.size
    · rw [old b hb] at e
      exact (I.hok b u e).stay (fun c v _ q => k c v q) (fun c q => up c _ q) fun c xs q => up c _ q
    · exact new b u (Nat.not_lt.mp hb) e
end
/-- a zip of the sequences at a and b stands at z, not begun; n: what stood ahead of the def -/
structure ZAt (K : PySem.W.Frag) (H : Hp) (n : Nat) (k1 k2 : Bool) (a b z TI TO i1 i2 : Addr) : Prop where
  Hz : H z = some (.ext fun h => IsZip h z TI TO .none)
  Hti : H TI = some (.ext fun h => IsTupOf2 h TI (.ref i1) (.ref i2))
  Hto : H TO = some (.ext fun h => IsTupOf2 h TO .none .none)
  H1 : H i1 = some (.ext fun h => h.get? i1 = some (itObj k1 a))
  H2 : H i2 = some (.ext fun h => h.get? i2 = some (itObj k2 b))
  sep : ZipSep2 z TI TO i1 i2 [i1, a] [i2, b]
  yz : n ≤ z
  yti : n ≤ TI
  yto : n ≤ TO
  y1 : n ≤ i1
  y2 : n ≤ i2
theorem extO {P : Program} {w : World} {H : Hp} {h : Heap} {a : Addr} {o : Obj} (e : h.get? a = some o) : ObjOk P w H h a (.ext fun h => h.get? a = some o) := ⟨e, ⟨o, e⟩, fun h1 h2 e1 k => k _ e1⟩
def upd5 (H : Hp) (k1 k2 : Bool) (a b : Addr) (N : Nat) : Hp :=
  upd (upd (upd (upd (upd H N (.ext fun h => h.get? N = some (itObj k1 a))) (N + 1) (.ext fun h => h.get? (N + 1 : Nat) = some (itObj k2 b))) (N + 2) (.ext fun h => IsTupOf2 h (N + 2 : Nat) (.ref N) (.ref (N + 1 : Nat)))) (N + 3) (.ext fun h => IsTupOf2 h (N + 3 : Nat) .none .none)) (N + 4) (.ext fun h => IsZip h (N + 4 : Nat) (N + 2 : Nat) (N + 3 : Nat) .none)
theorem addr_ne {N i j : Nat} (h : i ≠ j) : ((N + i : Nat) : Addr) ≠ (N + j : Nat) := fun e => h (by have e' : N + i = N + j := e; omega)
theorem upd5_old {H : Hp} {k1 k2 : Bool} {a b : Addr} {N : Nat} {c : Addr} (h : c < N) : upd5 H k1 k2 a b N c = H c := by
  have h' : ∀ i, c ≠ (N + i : Nat) := fun i e => by have h : c < N := h; rw [e] at h; exact absurd h (by show ¬ (N + i : Nat) < N; omega)
  unfold upd5
  rw [upd_ne (h' 4), upd_ne (h' 3), upd_ne (h' 2), upd_ne (h' 1)]
  exact upd_ne (h' 0)
theorem upd5_at {H : Hp} {k1 k2 : Bool} {a b : Addr} {N : Nat} : upd5 H k1 k2 a b N N = some (.ext fun h => h.get? N = some (itObj k1 a)) ∧ upd5 H k1 k2 a b N (N + 1 : Nat) = some (.ext fun h => h.get? (N + 1 : Nat) = some (itObj k2 b)) ∧ upd5 H k1 k2 a b N (N + 2 : Nat) = some (.ext fun h => IsTupOf2 h (N + 2 : Nat) (.ref N) (.ref (N + 1 : Nat))) ∧
    upd5 H k1 k2 a b N (N + 3 : Nat) = some (.ext fun h => IsTupOf2 h (N + 3 : Nat) .none .none) ∧ upd5 H k1 k2 a b N (N + 4 : Nat) = some (.ext fun h => IsZip h (N + 4 : Nat) (N + 2 : Nat) (N + 3 : Nat) .none) := by
  refine ⟨?_, ?_, ?_, ?_, ?_⟩ <;> unfold upd5
  · have g : ∀ i, i ≠ 0 → (N : Addr) ≠ (N + i : Nat) := fun i hi e => hi (by have e' : N = N + i := e; omega)
    rw [upd_ne (g 4 (by decide)), upd_ne (g 3 (by decide)), upd_ne (g 2 (by decide)), upd_ne (g 1 (by decide)), upd_same]
  · rw [upd_ne (addr_ne (by decide)), upd_ne (addr_ne (by decide)), upd_ne (addr_ne (by decide)), upd_same]
  · rw [upd_ne (addr_ne (by decide)), upd_ne (addr_ne (by decide)), upd_same]
  · rw [upd_ne (addr_ne (by decide)), upd_same]
  · rw [upd_same]
theorem upd5_new {H : Hp} {k1 k2 : Bool} {a b : Addr} {N : Nat} {c : Addr} {u : HO} (hN : ∀ c, N ≤ c → H c = none) (hc : N ≤ c) (e : upd5 H k1 k2 a b N c = some u) : c = N ∨ c = (N + 1 : Nat) ∨ c = (N + 2 : Nat) ∨ c = (N + 3 : Nat) ∨ c = (N + 4 : Nat) := by
  by_cases h4 : c = (N + 4 : Nat)
  · exact .inr (.inr (.inr (.inr h4)))
  by_cases h3 : c = (N + 3 : Nat)
  · exact .inr (.inr (.inr (.inl h3)))
  by_cases h2 : c = (N + 2 : Nat)
  · exact .inr (.inr (.inl h2))
  by_cases h1 : c = (N + 1 : Nat)
  · exact .inr (.inl h1)
  by_cases h0 : c = N
  · exact .inl h0
  unfold upd5 at e
  rw [upd_ne h4, upd_ne h3, upd_ne h2, upd_ne h1, upd_ne h0, hN c hc] at e
  cases e
def tZipV (K : PySem.W.Frag) (n : Nat) (ta : TA) : TE := fun σ H Q => ta σ H fun vs H1 => ∃ k1 k2 a b xs ys, vs = [.ref a, .ref b] ∧ SqK k1 K H1 a xs ∧ SqK k2 K H1 b ys ∧
  ∀ z TI TO i1 i2 H2, Grow H1 H2 → ZAt K H2 n k1 k2 a b z TI TO i1 i2 → (∀ c ∈ [z, TI, TO, i1, i2], H1 c = none) → Q (.ref z) H2
section
variable {X : Cx} {e e2 : Expr} {ta : TA} {p pos : Pos}
theorem pe_zipV (hg : Gl X "zip") (hm : X.mg "zip" = none) (ha : PA X [e, e2] ta)
    (hs : starEach [e, e2] X.env = (false, eval e X.env) :: starEach [e2] X.env := by rfl) (hpl : (backTo pos (starEach [e2] X.env)).any (·.1) = false := by rfl) :
    PE X (.Call (.Name "zip" p) [e, e2] [] pos) (tZipV X.K X.s_0.heap.objs.size ta) := by
  refine ⟨fun pins s σ H Q I h => ?_⟩
  refine PyProof.Rows.Call_ (ld_blt I hg hm PyProof.Rows.boot_zip (PyProof.Rows.callWith_type1 (thn (ha.run pos pins s σ H _ I h) fun us s1 ⟨vs, H1, I1, r1, q1⟩ => ?_) hs hpl))
  obtain ⟨k1, k2, a, b, xs, ys, ex, hqx, hqy, q⟩ := q1
  subst ex
  cases r1 with
  | cons r rr =>
    cases rr with
    | cons r' rr =>
      cases rr
      cases r
      cases r'
      obtain ⟨its, rv, p1, _, o1, ho1⟩ := hqx.items I1
      obtain ⟨its2, rv2, p2, _, o2, ho2⟩ := hqy.items I1
      refine zip_begins2 (begins_k k1 a its.toArray) (begins_k k2 b its2.toArray) p1 p2 fun h' hz hTI hTO h1 h2 hsz hk => ?_
      obtain ⟨a0, a1, a2, a3, a4⟩ := upd5_at (H := H1) (k1 := k1) (k2 := k2) (a := a) (b := b) (N := s1.heap.objs.size)
      have hN : ∀ c, s1.heap.objs.size ≤ c → H1 c = none := fun c hc => I1.hok.fresh hc
      have I2 : Inv X pins σ (upd5 H1 k1 k2 a b s1.heap.objs.size) { s1 with heap := h' } := by
        refine laidAll (t' := s1.toks) I1 hk (fun c hc => upd5_old hc) fun c u hc e => ?_
        rcases upd5_new hN hc e with z | z | z | z | z <;> subst z
        · rw [a0] at e; cases e; exact extO h1
        · rw [a1] at e; cases e; exact extO h2
        · rw [a2] at e; cases e; exact extO hTI
        · rw [a3] at e; cases e; exact extO hTO
        · rw [a4] at e; cases e; exact extO hz
      have le : ∀ i, X.s_0.heap.objs.size ≤ (s1.heap.objs.size + i : Nat) := fun i => Nat.le_trans I1.sz (Nat.le_add_right _ _)
      refine ⟨.ref (s1.heap.objs.size + 4 : Nat), _, I2, rfl, q (s1.heap.objs.size + 4 : Nat) (s1.heap.objs.size + 2 : Nat) (s1.heap.objs.size + 3 : Nat) s1.heap.objs.size (s1.heap.objs.size + 1 : Nat) _ ⟨fun c u e => ?_, fun c ps e => ?_⟩ ⟨a4, a2, a3, a0, a1,
        zip_sep2 (fp1 := [a]) (fp2 := [b]) (fun c hc => by rw [List.mem_singleton.mp hc]; exact Heap.lt_size ho1) (fun c hc => by rw [List.mem_singleton.mp hc]; exact Heap.lt_size ho2), le 4, le 2, le 3, le 0, le 1⟩ fun c hc => ?_⟩
      · rw [upd5_old (I1.hok c u e).lt]; exact e
      · by_cases hc : c < s1.heap.objs.size
        · rw [upd5_old hc] at e; exact e
        · rcases upd5_new hN (Nat.not_lt.mp hc) e with z | z | z | z | z <;> subst z
          · rw [a0] at e; cases e
          · rw [a1] at e; cases e
          · rw [a2] at e; cases e
          · rw [a3] at e; cases e
          · rw [a4] at e; cases e
      · have hl : s1.heap.objs.size ≤ c := by
          have e' : c = (s1.heap.objs.size + 4 : Nat) ∨ c = (s1.heap.objs.size + 2 : Nat) ∨ c = (s1.heap.objs.size + 3 : Nat) ∨ c = s1.heap.objs.size ∨ c = (s1.heap.objs.size + 1 : Nat) := by simpa using hc
          rcases e' with z | z | z | z | z <;> rw [z]
          · exact Nat.le_add_right _ _
          · exact Nat.le_add_right _ _
          · exact Nat.le_add_right _ _
          · exact Nat.le_refl _
          · exact Nat.le_add_right _ _
        exact hN c hl
end
/-- the five forgotten -/
def drop5 (H : Hp) (z TI TO i1 i2 : Addr) : Hp := dropH (dropH (dropH (dropH (dropH H z) TI) TO) i1) i2
theorem drop5_ne {H : Hp} {z TI TO i1 i2 c : Addr} (h1 : c ≠ z) (h2 : c ≠ TI) (h3 : c ≠ TO) (h4 : c ≠ i1) (h5 : c ≠ i2) : drop5 H z TI TO i1 i2 c = H c := by
  unfold drop5
  rw [dropH_ne h5, dropH_ne h4, dropH_ne h3, dropH_ne h2, dropH_ne h1]
def iPairs (K : PySem.W.Frag) (n k : Nat) : TI := fun σ H R => ∃ k1 k2 a b z TI TO i1 i2, σ[k]? = some (some (.ref z)) ∧ ZAt K H n k1 k2 a b z TI TO i1 i2 ∧ R (Itz2 K k1 k2 a b) (drop5 H z TI TO i1 i2)
theorem fpOk_drop {X : Cx} {pins : List (Addr × Obj)} {H : Hp} {b c : Addr} (h : FpOk X pins H b) : FpOk X pins (dropH H c) b := by
  refine ⟨?_, h.2⟩
  by_cases e : b = c
  · rw [e]; exact dropH_same
  · rw [dropH_ne e]; exact h.1
section
variable {X : Cx} {k : Nat} {x : Str} {p tpos : Pos} {elts : List Expr} {kk : Nat}
theorem pi_pairs (hN : X.N[k]? = some x) (hv : Vis X.env.scope x) (hd : (x == ("__debug__" : Str)) = false := by decide) (hcd : (x == ("__classdict__" : Str)) = false := by decide) : PI X (.Tuple elts kk tpos) (.Name x p) (iPairs X.K X.s_0.heap.objs.size k) := by
  refine ⟨fun pins s σ H R I h => ?_⟩
  obtain ⟨k1, k2, a, b, z, TI, TO, i1, i2, hs, Z, q⟩ := h
  refine thn ((pe_var (pos := p) (i := k) hN hv hd hcd).run pins s σ H (fun v H1 => v = .ref z ∧ H1 = H) I ⟨.ref z, hs, rfl, rfl⟩) fun u s1 ⟨v, H1, I1, r1, ev, eH⟩ => ?_
  subst ev
  rw [eH] at I1
  cases r1
  have oz : IsZip s1.heap z TI TO .none := (I1.hok z _ Z.Hz).1
  have oti : IsTupOf2 s1.heap TI (.ref i1) (.ref i2) := (I1.hok TI _ Z.Hti).1
  have oto : IsTupOf2 s1.heap TO .none .none := (I1.hok TO _ Z.Hto).1
  have o1 : s1.heap.get? i1 = some (itObj k1 a) := (I1.hok i1 _ Z.H1).1
  have o2 : s1.heap.get? i2 = some (itObj k2 b) := (I1.hok i2 _ Z.H2).1
  have n1 : i2 ≠ i1 := fun e => Z.sep.sep2_1 (by rw [e]; simp)
  have nz1 : TI ≠ z := Z.sep.TIz
  have nz2 : TO ≠ z := Z.sep.TOz
  have nt : TO ≠ TI := Ne.symm Z.sep.TITO
  have n1z : i1 ≠ z := Ne.symm Z.sep.zi1
  have n2z : i2 ≠ z := Ne.symm Z.sep.zi2
  have n1t : i1 ≠ TI := Ne.symm Z.sep.TIi1
  have n2t : i2 ≠ TI := Ne.symm Z.sep.TIi2
  have n1o : i1 ≠ TO := Ne.symm Z.sep.Ti1
  have n2o : i2 ≠ TO := Ne.symm Z.sep.Ti2
  have e2 : dropH H z TI = some (.ext fun h => IsTupOf2 h TI (.ref i1) (.ref i2)) := by rw [dropH_ne nz1]; exact Z.Hti
  have e3 : dropH (dropH H z) TI TO = some (.ext fun h => IsTupOf2 h TO .none .none) := by rw [dropH_ne nt, dropH_ne nz2]; exact Z.Hto
  have e4 : dropH (dropH (dropH H z) TI) TO i1 = some (.ext fun h => h.get? i1 = some (itObj k1 a)) := by rw [dropH_ne n1o, dropH_ne n1t, dropH_ne n1z]; exact Z.H1
  have e5 : dropH (dropH (dropH (dropH H z) TI) TO) i1 i2 = some (.ext fun h => h.get? i2 = some (itObj k2 b)) := by rw [dropH_ne n1, dropH_ne n2o, dropH_ne n2t, dropH_ne n2z]; exact Z.H2
  have J1 := inv_drop I1 Z.Hz
  have J2 := inv_drop J1 e2
  have J3 := inv_drop J2 e3
  have J4 := inv_drop J3 e4
  have J5 := inv_drop J4 e5
  refine wpAny_pyIter_zip oz ?_
  refine ⟨z, [z, TI, TO, i1, i2], _, _, drop5 H z TI TO i1 i2, rfl, J5, turn_z2 Z.sep, ⟨oz, oti, ⟨_, _, oto⟩, itAt_new o1, itAt_new o2⟩, fun c hc => ?_, q⟩
  have e' : c = z ∨ c = TI ∨ c = TO ∨ c = i1 ∨ c = i2 := by simpa using hc
  rcases e' with e | e | e | e | e <;> rw [e]
  · exact fpOk_drop (fpOk_drop (fpOk_drop (fpOk_drop (inv_fp I1 Z.Hz Z.yz))))
  · exact fpOk_drop (fpOk_drop (fpOk_drop (inv_fp J1 e2 Z.yti)))
  · exact fpOk_drop (fpOk_drop (inv_fp J2 e3 Z.yto))
  · exact fpOk_drop (inv_fp J3 e4 Z.y1)
  · exact inv_fp J4 e5 Z.y2
end
end Vm

set_option Elab.async false
set_option linter.all false
set_option maxRecDepth 100000
set_option maxHeartbeats 1000000
namespace Vm
variable [TabsC]
variable {R : Exn → Nat → Prop}
open PySem L2 ItX

/-! ### pairs = zip(a, b); xs.append(len([.. for .. in pairs if ..])) -/
def sPairs (j x : Nat) (ga : Env → M (List RA)) (vs : List Nat) (tg : Lv → PyData → Env → Option Env) (cond : Env → M Bool) (elt : Env → M RV) (env : Env) : M (Fl × Env) := ga env >>= fun rs => match rs with
  | [some r, some r'] => M.ofOption (seqOf r.d) >>= fun xs => M.ofOption (seqOf r'.d) >>= fun ys =>
    if decide (j ∉ r.al ++ r'.al) && isLst (sl env x) && decide (x ≠ j) && decide (j < env.length) then vComp (fun _ => .ret (List.zipWith pair2 xs ys, r.al ++ r'.al)) vs tg cond elt (kill env [j]) >>= fun q => (match q.d with
      | .list ds => M.ofOption (mutApp x ⟨.int ds.length, .own, []⟩ (kill env [j])) >>= fun env' => .ret (.nx, env')
      | _ => .stuck) else .stuck
  | _ => .stuck
theorem zat_off {K : PySem.W.Frag} {H : Hp} {n : Nat} {k1 k2 : Bool} {a b z TI TO i1 i2 : Addr} {xs : List V} (Z : ZAt K H n k1 k2 a b z TI TO i1 i2) : ∀ c, (∃ us, H c = some (.lst us)) ∨ (∃ o us, H c = some (.frz o us)) → c ≠ z ∧ c ≠ TI ∧ c ≠ TO ∧ c ≠ i1 ∧ c ≠ i2 := by
  intro c hc
  have no : ∀ φ, H c = some (.ext φ) → False := fun φ e => by rcases hc with ⟨us, y⟩ | ⟨o, us, y⟩ <;> (rw [y] at e; cases e)
  exact ⟨fun e => no _ (e ▸ Z.Hz), fun e => no _ (e ▸ Z.Hti), fun e => no _ (e ▸ Z.Hto), fun e => no _ (e ▸ Z.H1), fun e => no _ (e ▸ Z.H2)⟩
section
variable {X : Cx} {e1 e2 elt tgt : Expr} {ifs : List Expr} {rest : List Stmt} {nj nx : Str} {j x : Nat} {ga : Env → M (List RA)} {fc : Env → M Bool} {fe : Env → M RV} {ftg : Lv → PyData → Env → Option Env} {ws : List Nat} {own : List (Str × Nat)} {g : Env → M (Fl × Env)} {scope : Scope} {elts : List Expr} {kk : Nat}
  {p1 p2 p3 p4 p5 p6 p7 p8 p9 p10 p11 p12 tpos : Pos}
theorem dss_pairs (hc : X.calm = true) (hN : X.N.Nodup) (hj : X.N[j]? = some nj) (hlj : X.env.scope.names.lookup nj = some .local) (hx : X.N[x]? = some nx) (hlx : X.env.scope.names.lookup nx = some .local)
    (hmz : X.mg "zip" = none) (hml : X.mg "len" = none) (ha : DA X [e1, e2] ga) (ok : BlkOk X.N X.env.scope scope own) (hws : ∀ w ∈ ws, w ∈ own.map (·.2))
    (hg : ∀ (s : Shared) (H : Hp) (C : Addr) (cl : List (Str × Addr)) (fp : List Addr), DG (X.blk s H scope (compEnvC scope cl C X.env) fp) (.Tuple elts kk tpos) ws ftg)
    (ht : ∀ (s : Shared) (H : Hp) (C : Addr) (cl : List (Str × Addr)) (fp : List Addr), DTs (X.blk s H scope (compEnvC scope cl C X.env) fp) ifs fc)
    (he : ∀ (s : Shared) (H : Hp) (C : Addr) (cl : List (Str × Addr)) (fp : List Addr), DE (X.blk s H scope (compEnvC scope cl C X.env) fp) elt fe) (hr : DSs X rest g)
    (hgz : Gl X "zip" := by rfl) (hgl : Gl X "len" := by rfl) (hdj : (nj == ("__debug__" : Str)) = false := by decide) (hcdj : (nj == ("__classdict__" : Str)) = false := by decide) (hdx : (nx == ("__debug__" : Str)) = false := by decide) (hcdx : (nx == ("__classdict__" : Str)) = false := by decide)
    (hs1 : starEach [e1, e2] X.env = (false, eval e1 X.env) :: starEach [e2] X.env := by rfl) (hpl : (backTo p3 (starEach [e2] X.env)).any (·.1) = false := by rfl)
    (hsw : swapsWith (.Call (.Name "zip" p2) [e1, e2] [] p3) (some (.Name nj p1)) p4.line X.env = pure false := by rfl)
    (hbase : attributeBase (.Name nx p5) "append" X.env (eval (.Name nx p5) X.env) = eval (.Name nx p5) X.env := by rfl)
    (hline : (p6.endLine == p11.line) = true := by rfl)
    (hsw2 : swapsWith (.Call (.Attribute (.Name nx p5) "append" p6) [.Call (.Name "len" p7) [.ListComp elt [⟨.Tuple elts kk tpos, .Name nj p8, ifs, 0⟩] scope p9] [] p10] [] p11) none p12.line X.env = pure false := by rfl)
    (hfi : ∀ y, foldedSetIterable (.Name nj p8) X.env y = pure y := by intro _; rfl) :
    DSs X (.Assign [.Name nj p1] (.Call (.Name "zip" p2) [e1, e2] [] p3) p4 :: .Expr (.Call (.Attribute (.Name nx p5) "append" p6) [.Call (.Name "len" p7) [.ListComp elt [⟨.Tuple elts kk tpos, .Name nj p8, ifs, 0⟩] scope p9] [] p10] [] p11) p12 :: rest)
      (sCons (sPairs j x ga (own.map (·.2)) ftg fc fe) g) := by
  obtain ⟨ta, pta, qta⟩ := ha
  obtain ⟨u, hu, qu⟩ := hr
  refine ⟨_, pss_cons (ps_set hN hj (.inl hlj) (pe_zipV hgz hmz pta hs1 hpl) hsw (.inr hlj)) (pss_cons (ps_expr (pe_bm PySem.F.plainAttrs_list PySem.F.slot_list_append PySem.F.type_list_append mt_append (pe_var hx (.inl hlx) hdx hcdx) (pa_cons (pe_callB call_len hgl hml (by rfl) (pa_cons
    (pe_lc (g := gOf X.K ws ftg) (tt := ttOf X.K fc) (te := tOf X.K fe) hc hN (pi_pairs hj (.inl hlj) hdj hcdj) ok (fun s H C cl fp => (hg s H C cl fp).pg) (fun s H C cl fp => (ht s H C cl fp).run) (fun s H C cl fp => (he s H C cl fp).pe) hfi) pa_nil) (by decide) (by decide)) pa_nil) hbase (by rfl) hline (by rfl) (by rfl)) hsw2) hu), fun G S H env σ os b D hK E sm h => ?_⟩
  unfold sCons sPairs at h
  rw [M.all_bind, M.all_bind] at h
  refine qta G S H env σ os b _ hK E sm (M.all_mono (fun rs b1 h1 ws1 H1 fps x1 sm1 ok1 => ?_) _ _ h)
  split at h1
  case h_2 => exact h1.elim
  rename_i r r'
  rw [M.all_bind] at h1
  obtain ⟨xs, ex, h1⟩ := M.all_ofOption.mp h1
  rw [M.all_bind] at h1
  obtain ⟨ys, ey, h1⟩ := M.all_ofOption.mp h1
  split at h1
  case isFalse => exact h1.elim
  rename_i hcond
  simp only [Bool.and_eq_true, decide_eq_true_eq] at hcond
  obtain ⟨⟨⟨hjal, hlst⟩, hxj⟩, hjl0⟩ := hcond
  obtain ⟨v, v', fp, fp', ev, r1, z1, r2, z2⟩ := RAok.two (r := r) (r' := r') ok1
  obtain ⟨k1, a, us, f, ea, qa, qr, qs, qk⟩ := r1.seq ex
  obtain ⟨k2, a', us', f', eb, qa', qr', qs', qk'⟩ := r2.seq ey
  subst ea eb
  refine ⟨k1, k2, a, a', us, us', ev, qa, qa', fun z TI TO i1 i2 H2 gr Z fresh => ?_⟩
  -- the heap without the zip
  have big : ∀ c o, H1 c = some o → drop5 H2 z TI TO i1 i2 c = some o := fun c o e => by
    have hn : ∀ w, w ∈ [z, TI, TO, i1, i2] → c ≠ w := fun w hw e' => by rw [e', fresh w hw] at e; cases e
    rw [drop5_ne (hn _ (by simp)) (hn _ (by simp)) (hn _ (by simp)) (hn _ (by simp)) (hn _ (by simp))]
    exact gr c o e
  have gr0 : Grow H1 (drop5 H2 z TI TO i1 i2) := by
    refine ⟨big, fun c ps e => gr.t c ps ?_⟩
    have le : ∀ {Hh : Hp} {w c : Addr} {o : HO}, dropH Hh w c = some o → Hh c = some o := fun {Hh w c o} e => by
      by_cases q : c = w
      · rw [q, dropH_same] at e; cases e
      · rw [dropH_ne q] at e; exact e
    exact le (le (le (le (le e))))
  generalize hH : drop5 H2 z TI TO i1 i2 = H2' at big gr0
  have x12 : SameX G.st H1 H2' := fun c o _ _ e => gr0 c o e
  have sm2 : Stm H2' G.st b1 := sm1.ext gr0
  have E1 : ER G S H1 env σ os := E.mono sm x1
  have E2 : ER G S H2' (kill env [j]) (σ.set j (some (.ref z))) (fun i => if i ∈ [j] then [] else os i) := (E1.mono sm1 x12).drop [j] (by simp) fun i hi => by
    rw [val_set, if_neg (fun e => hi (by simp [e]))]
  have hjl : j < σ.length := by rw [← E.len]; exact hjl0
  have hset : (σ.set j (some (.ref z)))[j]? = some (some (.ref z)) := List.getElem?_set_self hjl
  -- the list that grows
  have esx : sl (kill env [j]) x = sl env x := by rw [sl_kill, if_neg (by simpa using hxj)]
  cases es : sl env x with
  | none => rw [es] at hlst; cases hlst
  | some s0 =>
  rw [es] at hlst
  cases s0 with
  | stm => cases hlst
  | dat d0 lv0 =>
  cases d0 with
  | list ds0 =>
    have hx2 := E2.at_ x
    rw [esx, es] at hx2
    obtain ⟨uf, fx, euf, rx, _⟩ := hx2
    unfold Rep at rx
    obtain ⟨la, lus, lf, elf, lha, _⟩ := rx
    subst elf
    have lha2 : H2 la = some (.lst lus) := by
      have : drop5 H2 z TI TO i1 i2 la = some (.lst lus) := by rw [hH]; exact lha
      have le : ∀ {Hh : Hp} {w c : Addr} {o : HO}, dropH Hh w c = some o → Hh c = some o := fun {Hh w c o} e => by
        by_cases q : c = w
        · rw [q, dropH_same] at e; cases e
        · rw [dropH_ne q] at e; exact e
      exact le (le (le (le (le this))))
    rw [M.all_bind] at h1
    unfold vComp at h1
    rw [M.all_bind] at h1
    have h1' := (show (if (List.zipWith pair2 xs ys).length ≤ sizeLine then (compLoop ftg fc fe (kill (frz (kill env [j]) (r.al ++ r'.al)) (own.map (·.2))) (List.zipWith pair2 xs ys)).calm >>= fun rs => .ret (compRV rs (r.al ++ r'.al)) else .stuck : M RV).all G.R _ b1 from h1)
    refine ⟨_, val_some euf, .inl ⟨rfl, lus, SqL.of lha2⟩, k1, k2, a, a', z, TI, TO, i1, i2, hset, Z, ?_⟩
    rw [hH]
    have kk : KpD (fun c => c ∈ fp ++ fp') H1 H2' := KpD.of_all gr0.k
    have q2 : ∀ Dep H', KpD Dep H2' H' → (∀ c ∈ fp, Dep c) → SqK k1 X.K H' a us := fun Dep H' k hd => qk Dep H' ((KpD.of_all (Dep := Dep) gr0.k).trans k) hd
    have q2' : ∀ Dep H', KpD Dep H2' H' → (∀ c ∈ fp', Dep c) → SqK k2 X.K H' a' us' := fun Dep H' k hd => qk' Dep H' ((KpD.of_all (Dep := Dep) gr0.k).trans k) hd
    have okI := itz2_ok (st := G.st) (xs := xs) (ys := ys) (f := f) (g := f') q2 q2' (qr.sameX sm1 x12) (qr'.sameX sm1 x12) qs qs' fun _ _ _ _ => trivial
    have E0 : ER G S H (kill env [j]) (σ.set j (some (.ref z))) (fun i => if i ∈ [j] then [] else os i) := E.drop [j] (by simp) fun i hi => by
      rw [val_set, if_neg (fun e => hi (by simp [e]))]
    have mov : ∀ al c, (∀ i ∈ al, i ∈ r.al ++ r'.al) → okc S os H al c → okc S (fun i => if i ∈ [j] then [] else os i) H (r.al ++ r'.al) c := fun al c hal w => by
      rcases w with w | w | ⟨i, hi, w⟩
      · exact .inl w
      · exact .inr (.inl w)
      · refine .inr (.inr ⟨i, hal i hi, ?_⟩)
        have : i ∉ [j] := fun e => hjal (by have e' : i = j := by simpa using e
                                            rw [← e']; exact hal i hi)
        simp only [this, if_false]
        exact w
    change tLc (fun _ _ R => R (Itz2 X.K k1 k2 a a') H2') (gOf X.K ws ftg) (ttOf X.K fc) (tOf X.K fe) (own.map (·.2)) (σ.set j (some (.ref z))) H (fun x H1 => ∃ (y : V) (n : Nat), [x] = [y] ∧ LenV X.K y H1 n ∧ rAppend (V.ref la) [V.int n] H1 fun _ H3 => u D (σ.set j (some (.ref z))) H3)
    refine comp_core (p := (List.zipWith pair2 xs ys, r.al ++ r'.al)) hws hK.K E0 sm (Dep := fun c => c ∈ fp ++ fp') (M.all_mono (fun q b3 h3 w H3 x3 sm3 ok3 => ?_) _ _ h1') (x1.trans x12) sm2 okI fun c hc => ?_
    · split at h3
      · rename_i ds eds
        rw [M.all_bind] at h3
        obtain ⟨env', hm, h3⟩ := M.all_ofOption.mp h3
        obtain ⟨fq, rq, _⟩ := ok3
        rw [eds] at rq
        unfold Rep at rq
        obtain ⟨la', lvs, lf', ew, hlw, _, _, qw, _⟩ := rq
        subst ew
        refine ⟨.ref la', lvs.length, rfl, .inl ⟨lvs, SqL.of hlw, rfl⟩, ?_⟩
        rw [qw.length]
        obtain ⟨l, lxs, e1, hl1, hz, S', os', hs', hk', E', n1, n2⟩ := app_go (v := .int ds.length) E0 sm x3 (RVok.imm rfl (Rep.of_int _)) hm
        rw [euf] at e1
        refine ⟨l, lxs, _, Option.some.inj e1, rfl, hl1, hz, ?_⟩
        exact qu G S' _ env' _ os' b3 D hK E' (sm3.updL (.inr (.inl ⟨_, hl1⟩)) n1 n2) (M.all_mono (fun p b2 h2 => h2.later hs' hk') _ _ h3)
      · exact h3.elim
    · rcases List.mem_append.mp hc with hc | hc
      · exact ⟨mov r.al c (fun i hi => List.mem_append_left _ hi) (z1.shr c hc), ((r1.sameX sm1 x12).trk c hc)⟩
      · exact ⟨mov r'.al c (fun i hi => List.mem_append_right _ hi) (z2.shr c hc), ((r2.sameX sm1 x12).trk c hc)⟩
  | _ => cases hlst
end
end Vm

set_option Elab.async false
set_option linter.all false
set_option maxRecDepth 100000
namespace Vm
variable [TabsC]
variable {R : Exn → Nat → Prop}
open PySem L2

/-! ### law: its stream, its promise -/
/-- _law_stream makes a stream of the script -/
def spStream (K : PySem.W.Frag) : Sp := fun vs H Q _ => ∃ (a : Addr) (ns : List Int), vs = [.ref a] ∧ SqL K H a (ns.map V.int) ∧ ns.length ≤ 63 ∧ LamX.Tabs TabsC.T H ∧
  ∀ (st : StA) (H' : Hp), (∀ b o, H b = some o → H' b = some o) → Stm H' st Big → Q (.ref st.1) H'
/-- law's promise -/
def spLaw (K : PySem.W.Frag) : Sp := fun vs H Q _ => ∃ (a : Addr) (ns : List Int), vs = [.ref a] ∧ SqL K H a (ns.map V.int) ∧ ns.length ≤ 63 ∧ LamX.Tabs TabsC.T H ∧ ∀ H', Q (.bl true) H'
theorem stream_read {K : PySem.W.Frag} {σ : St} {H : Hp} {Q : VK} {a : Addr} {ns : List Int} (h0 : σ[0]? = some (some (.ref a))) (hS : SqL K H a (ns.map V.int)) (hl : ns.length ≤ 63) (hT : LamX.Tabs TabsC.T H)
    (h : ∀ (st : StA) (H' : Hp), (∀ b o, H b = some o → H' b = some o) → Stm H' st Big → Q (.ref st.1) H') :
    tLst (tCons (tCB (fun xs H Q => ∃ p ys, xs = [.ref p] ∧ (SqL K H p ys ∨ SqT K H p ys) ∧ ∀ l, H l = none → Q (.ref l) (upd H l (.lst ys))) (tCons (tVar 0) tNil)) (tCons (tC (.int 0)) (tCons (tC (.int 0)) (tCons (tC (.int 17)) tNil)))) σ H Q := by
  refine ⟨_, h0, a, _, rfl, .inl hS, fun l hl' => ⟨by show 4 ≤ sizeLine; decide, fun p hp => ?_⟩⟩
  have npl : p ≠ l := fun e => by rw [e, upd_same] at hp; cases hp
  have hp0 : H p = none := by rw [upd_ne npl] at hp; exact hp
  have g1 : ∀ b o, H b = some o → upd H l (.lst (ns.map V.int)) b = some o := upd_ext hl'
  have g2 : ∀ b o, H b = some o → upd (upd H l (.lst (ns.map V.int))) p (.lst [.ref l, .int 0, .int 0, .int 17]) b = some o := fun b o e => upd_ext hp b o (g1 b o e)
  exact h ⟨p, l⟩ _ g2 ⟨ns, 0, 0, 17, upd_same, by rw [upd_ne (Ne.symm npl)]; exact upd_same, npl, by decide, by decide, by omega, by decide, by decide, hT.ext g2⟩
/-- the frame behind stream = _law_stream(script): script is not looked at any more -/
def envL (m : Nat) : Env := none :: some .stm :: List.replicate (m - 2) none
theorem ER.law {K : PySem.W.Frag} {st : StA} {H : Hp} {a : Addr} {m : Nat} (hm : 2 ≤ m) : ER ⟨K, st, H, fun _ => False, M.R0⟩ (fun _ => False) H (envL m) ((some (.ref a) :: none :: List.replicate (m - 2) none).set 1 (some (.ref st.1))) (fun _ => []) where
  len := by simp [envL]
  at_ := fun i => by
    match i with
    | 0 => exact rfl
    | 1 => exact ⟨rfl, rfl⟩
    | i + 2 =>
      have e : sl (envL m) (i + 2) = none := by
        unfold sl envL
        simp only [List.getElem?_cons_succ, List.getElem?_replicate]
        split <;> rfl
      rw [e]
      exact rfl
  dj := fun i j c _ hc => by cases hc
  ns := fun i c hc => by cases hc
  fr := fun i c hc => by cases hc
  sub := fun c hc => hc.elim
  trk := fun c hc => hc.elim
  same := SameX.refl _
/-- the law is kept: whatever is drawn, it gives True -/
def LawOk (m : Nat) (body : Env → M (Fl × Env)) : Prop := (body (envL m)).all M.R0 (fun p _ => ∃ lv, p.1 = .ret (.bool true) lv) Big
theorem law_end {X : Cx} {rest : List Stmt} {body : Env → M (Fl × Env)} (hb : DSs X rest body) {m : Nat} (hm : 2 ≤ m) (ok : LawOk m body) : ∃ t, PSs X rest t ∧ ∀ (st : StA) (H' : Hp) (a : Addr) (Q : VK), Stm H' st Big → (∀ H'', Q (.bl true) H'') →
    t { nx := fun _ H' => Q .non H', rt := Q } ((some (.ref a) :: none :: List.replicate (m - 2) none).set 1 (some (.ref st.1))) H' := by
  obtain ⟨t, ht, qt⟩ := hb
  refine ⟨t, ht, fun st H' a Q sm hQ => ?_⟩
  refine qt ⟨X.K, st, H', fun _ => False, M.R0⟩ _ H' (envL m) _ _ Big _ (GC.ok ⟨rfl, rfl⟩) (ER.law hm) sm (M.all_mono (fun p b h => ?_) _ _ ok)
  obtain ⟨lv, e⟩ := h
  obtain ⟨fl, env⟩ := p
  simp only at e
  subst e
  intro v H'' _ _ rg
  obtain ⟨fp, r, _⟩ := rg
  rw [r.bool_inv]
  exact hQ H''
theorem frs_tail {e : PySem.Env} {l : List PySem.Env} {b : Addr} (h : b ∈ frs l) : b ∈ frs (e :: l) := by
  obtain ⟨x, hx, e⟩ := List.mem_filterMap.mp h
  exact List.mem_filterMap.mpr ⟨x, List.mem_cons_of_mem _ hx, e⟩
/-- a def that lets nothing out -/
theorem okCX {P : Program} {w : World} {K : PySem.W.Frag} {mg : Str → Option Value} {base : Heap} {k : Nat} {f : Addr} {fd : FuncData} {ps : List Str} {sp : Sp} (F : FnOk P w K mg base CX0 k f fd ps sp) : FnOk P w K mg base (L2.CX P w) k f fd ps sp :=
  ⟨F.len, fun A outer s H args us vs Q E hr he hb hv hs => codeAny_mono (F.run A outer s H args us vs Q E hr he hb hv hs) fun r s' h => by
    cases r with
    | error e => exact h.elim
    | ok fl => cases fl <;> exact h⟩
end Vm

set_option Elab.async false
set_option linter.all false
set_option maxRecDepth 100000
namespace Vm
variable [TabsC]
open PySem L2

/-! ### raise -/
/-- X() -/
theorem pmk_own0 {X : Cx} {C : Addr} {bmB : List Value} {B newId initId : String} {x : Str} {p pos : Pos} (F : ExcBaseFacts B newId initId bmB) (q : PySem.W.excIn X.K C bmB newId = true) (gC : X.mg x = some (.ref C)) (kC : PySem.W.keepIn X.K (.ref C) = true) (r : Raises X (.ref C)) (hg : Gl X x)
    (hdb : (x == ("__debug__" : Str)) = false := by decide) : PMk X (.Call (.Name x p) [] [] pos) (fun _ H Q => Q (.ref C) none H) := by
  intro pins s σ H Q I h
  refine wpAny_Call_Name_kw (ld_glob I hg gC ?_ hdb)
  refine PySem.W.callWith_K0 I.kIn kC ?_
  show wpAny _ _ (call (.ref C) []) _ _ _
  obtain ⟨bm, N, nm, qn, bs, hdct, sn, sub, ab, col, dd, k0, k1, k2, k3, k5, mN, hC, hN, hni, T⟩ := exc_obj I.kIn q
  refine wpAny_call_exc_subT F T hC hN hni (fun h' e hm => ?_) (by show 0 ≤ sizeLine; rw [sizeLine_eq]; omega)
  exact mk_of I hm r h (I.hok.gone hm.new)
/-- a class of exceptions without an __init__ of its own -/
structure Exc0 (K : PySem.W.Frag) (mg : Str → Option Value) (x : Str) : Prop where
  ex : ∃ C, mg x = some (.ref C) ∧ PySem.W.nsIn K mainGlobals x = some (some (.ref C)) ∧ PySem.W.excIn K C [.type "ValueError", .type "Exception", .type "BaseException", .type "object"] "ValueError.__new__" = true ∧ PySem.W.keepIn K (.ref C) = true ∧
    PySem.W.subIn K (.ref C) (.type "BaseException") = some true ∧ PySem.W.typeIn K (.ref C) = some (.type "type")
def sRaise (x : Str) (fs : List Str) (g : Env → M (List RA)) (env : Env) : M (Fl × Env) := g env >>= fun rs => M.ofOption (noStm rs) >>= fun ys => if ys.length = fs.length then .raise ⟨x, fs.zip (dsOf ys)⟩ else .stuck
theorem ds_raise0 {X : Cx} {x : Str} {p pos pos' : Pos} (T : Exc0 X.K X.mg x) (hc : X.calm = true) (hg : Gl X x) (hdb : (x == ("__debug__" : Str)) = false := by decide) : DS X (.Raise (some (.Call (.Name x p) [] [] pos)) none pos') (sRaise x [] aNil) := by
  obtain ⟨C, gC, ns, q, kC, h1, h2⟩ := T
  refine ⟨_, ps_raise hc (takes_max X) (pmk_own0 F.excBase_ValueError q gC kC (raises_own h1 h2) hg hdb), fun G S H env σ os b D hK E sm h => ?_⟩
  have h' : G.R ⟨x, []⟩ b := h
  obtain ⟨W, tk, hw⟩ := hK.ex
  refine ⟨W, tk, hw _ b _ _ σ H h' E.same sm ⟨?_, .inl ⟨rfl, rfl⟩⟩⟩
  rw [hK.K]; exact ns
/-- the __init__ of one field -/
def spInit1 (K : PySem.W.Frag) (C : Addr) (f : Str) : Sp := fun vs H Q _ => ∃ (a : Addr) (y : V), vs = [.ref a, y] ∧ H a = some (exo a C none) ∧ ∀ dx, H dx = none → dx ≠ a → Q .non (upd (upd H dx (exd dx [(f, y)])) a (exo a C (some dx)))
structure Exc1 (P : Program) (w : World) (K : PySem.W.Frag) (mg : Str → Option Value) (base : Heap) (x f : Str) : Prop where
  ex : ∃ (C fI : Addr) (fd : FuncData) (ps : List Str), mg x = some (.ref C) ∧ PySem.W.nsIn K mainGlobals x = some (some (.ref C)) ∧ OexC K C ∧ PySem.W.findIn K (.ref C) "__init__" = some (some (.ref fI)) ∧ PySem.W.typeIn K (.ref fI) = some (.type "function") ∧
    FnOk P w K mg base CX0 1 fI fd ps (spInit1 K C f) ∧ Binds K fd ps []
theorem okc.fn {G : Gx} {S : Addr → Prop} {H : Hp} {env : Env} {σ : St} {os : Nat → List Addr} {b : Nat} {al : List Nat} (E : ER G S H env σ os) (sm : Stm H G.st b) {c : Addr} (h : okc S os H al c) : G.S0 c ∨ G.H0 c = none := by
  rcases h with z | z | ⟨i, _, z⟩
  · exact .inr (fresh_back sm E.same z)
  · exact E.sub c z
  · exact .inr (E.fr i c z)
theorem ds_raise1 {X : Cx} {x f : Str} {e : Expr} {g : Env → M (List RA)} {p pos pos' : Pos} (T : Exc1 X.prog X.w X.K X.mg X.base x f) (hc : X.calm = true) (hg : Gl X x) (hr : Room 2 X.A) (ha : DA X [e] g) (hdb : (x == ("__debug__" : Str)) = false := by decide)
    (he : starEach [e] X.env = [(false, eval e X.env)] := by rfl) (hpl : (backTo pos (starEach [] X.env)).any (·.1) = false := by rfl) : DS X (.Raise (some (.Call (.Name x p) [e] [] pos)) none pos') (sRaise x [f] g) := by
  obtain ⟨C, fI, fd, ps, gC, ns, O, iC, tI, F1, hb⟩ := T
  obtain ⟨t, ht, qt⟩ := ha
  refine ⟨_, ps_raise hc (takes_max X) (pmk_oex (CX := CX0) O iC tI F1 hr hb .nil pass0 hg gC ht hdb he hpl), fun G S H env σ os b D hK E sm h => ?_⟩
  unfold sRaise at h
  rw [M.all_bind] at h
  refine qt G S H env σ os b _ hK E sm (M.all_mono (fun rs b1 h1 vs H1 fps x1 sm1 ok1 => ?_) _ _ h)
  rw [M.all_bind] at h1
  obtain ⟨ys, hy, h1⟩ := M.all_ofOption.mp h1
  by_cases hl : ys.length = [f].length
  case neg => rw [if_neg hl] at h1; exact h1.elim
  rw [if_pos hl] at h1
  match ys, hl with
  | [r], _ =>
  have ers : rs = [some r] := by
    match rs, hy with
    | [some r'], hy =>
      simp [noStm] at hy
      rw [hy]
    | none :: _, hy => simp [noStm] at hy
    | [], hy => simp [noStm] at hy
    | some _ :: none :: _, hy => simp [noStm] at hy
    | some _ :: some _ :: _, hy => simp [noStm] at hy
  subst ers
  obtain ⟨v, vr, fp, fr, e1, e2, r1, l1, ok2, _⟩ := ok1
  obtain ⟨e3, e4⟩ := ok2
  subst e1 e2 e3 e4
  have h1 : G.R ⟨x, [(f, r.d)]⟩ b1 := h1
  obtain ⟨W, tk, hw⟩ := hK.ex
  refine ⟨by show 1 ≤ 1000; decide, fun a na => ⟨a, v, rfl, upd_same, fun dx ndx hne => ⟨rfl, dx, [(f, v)], upd_same, ?_, ?_, W, tk, ?_⟩⟩⟩
  · rw [upd_ne hne, upd_same]
  · rwa [upd_ne hne] at ndx
  have ndx1 : H1 dx = none := by rwa [upd_ne hne] at ndx
  generalize hH : upd (del (upd (upd (upd H1 a (exo a C none)) dx (exd dx [(f, v)])) a (exo a C (some dx))) a) dx (.xd [(f, v)]) = H'
  have at_ : ∀ c, c ≠ a → c ≠ dx → H' c = H1 c := fun c n1 n2 => by
    rw [← hH, upd_ne n2, del_ne n1, upd_ne n1, upd_ne n2, upd_ne n1]
  have keep : ∀ c o, H1 c = some o → H' c = some o := fun c o e => by
    rw [at_ c (fun z => by rw [z, na] at e; cases e) fun z => by rw [z, ndx1] at e; cases e]; exact e
  have gr : Grow H1 H' := ⟨keep, fun c qs e => by
    by_cases q2 : c = dx
    · rw [q2, ← hH, upd_same] at e
      cases e
    · by_cases q1 : c = a
      · rw [q1, ← hH, upd_ne (Ne.symm hne), del_same] at e
        cases e
      · rw [at_ c q1 q2] at e; exact e⟩
  have sx : SameX G.st H1 H' := fun c o _ _ e => keep c o e
  refine hw _ b1 _ _ σ H' h1 ((E.same.trans x1).trans sx) (sm1.ext gr) ⟨by rw [hK.K]; exact ns, .inr ⟨dx, [(f, v)], rfl, by rw [← hH, upd_same], fun f' dt q => ?_⟩⟩
  have ef : f' = f ∧ r.d = dt := by
    by_cases z : f' = f
    · subst z
      simp [List.lookup] at q
      exact ⟨rfl, q⟩
    · have : (f' == f) = false := by simpa using z
      simp [List.lookup, this] at q
  obtain ⟨rfl, rfl⟩ := ef
  refine ⟨v, fp, by simp [List.lookup], ?_, fun c hc => ?_⟩
  · rw [hK.K]; exact r1.sameX sm1 sx
  · exact okc.fn E sm (l1.shr c hc)
end Vm

set_option Elab.async false
set_option linter.all false
set_option maxRecDepth 100000
namespace Vm
variable [TabsC]
open PySem L2 PyProof.Rows

/-! ### several clauses, each with a name -/
def wManyA (K : PySem.W.Frag) (i : Nat) (Wout : WX) (D : Ends) : List (Value × Bool × (Addr → Value → Option Addr → TS)) → WX
  | [] => Wout
  | q :: r => fun cls d σ H => ∃ b, PySem.W.exmOne K cls q.1 = some b ∧
      (b = true → ∀ a, H a = none → if q.2.1 then q.2.2 a cls d ⟨fun σ' H' => D.nx (σ'.set i none) H', D.rt, fun σ' H' => D.bk (σ'.set i none) H', fun σ' H' => D.ct (σ'.set i none) H'⟩ (σ.set i (some (.ref a))) H else q.2.2 a cls d D σ H) ∧ (b = false → wManyA K i Wout D r cls d σ H)
inductive HdsA (X : Cx) (n : Str) : List ExceptHandler → List (Value × Bool × (Addr → Value → Option Addr → TS)) → Prop
  | nil : HdsA X n [] []
  | cons {x : Str} {c : Value} {ts : Addr → Value → Option Addr → TS} {b₀ : Stmt} {su : List Stmt} {np pos' : Pos} {hds : List ExceptHandler} {l : List (Value × Bool × (Addr → Value → Option Addr → TS))} (hc : Names X x c)
      (hsu : ∀ (a : Addr) (oe : Obj) (cls : Value) (d : Option Addr) (pn : List (Addr × Obj)), Zc cls d oe → (∃ vs, oe.data = .fields vs) → PSs (X.suite a ((a, oe) :: pn)) (b₀ :: su) (ts a cls d)) (r : HdsA X n hds l) :
      HdsA X n (.ExceptHandler (some (.Name x np)) (some n) (b₀ :: su) pos' :: hds) ((c, true, ts) :: l)
  | bare {x : Str} {c : Value} {ts : Addr → Value → Option Addr → TS} {b₀ : Stmt} {su : List Stmt} {np pos' : Pos} {hds : List ExceptHandler} {l : List (Value × Bool × (Addr → Value → Option Addr → TS))} (hc : Names X x c)
      (hsu : ∀ (a : Addr) (oe : Obj) (cls : Value) (d : Option Addr) (pn : List (Addr × Obj)), Zc cls d oe → (∃ vs, oe.data = .fields vs) → PSs (X.suite a ((a, oe) :: pn)) (b₀ :: su) (ts a cls d)) (r : HdsA X n hds l) :
      HdsA X n (.ExceptHandler (some (.Name x np)) none (b₀ :: su) pos' :: hds) ((c, false, ts) :: l)
section
variable {X : Cx} {n : Str} {i : Nat} {body : List Stmt} {h₀ : ExceptHandler} {hds : List ExceptHandler} {l : List (Value × Bool × (Addr → Value → Option Addr → TS))} {pos : Pos} {tb : WX → TS} {Wout : WX}
theorem ps_try_manyA (hs : X.stack = X.env :: X.outer) (hf : X.env.frame = some X.env.locals) (hN : X.N.Nodup) (hi : X.N[i]? = some n) (hln : X.env.kindOf n = some .local) (tk : Takes X Wout)
    (hb : ∀ (W : WX) (pn : List (Addr × Obj)) (xe : Value → Shared → Prop), Takes (X.tr pn xe) W → PassesOwn (model X.prog X.w) X.A X.env xe → PSs (X.tr pn xe) body (tb W)) (hh : HdsA X n (h₀ :: hds) l) :
    PS X (.Try body (h₀ :: hds) [] [] pos) (fun D σ H => tb (wManyA X.K i Wout D l) D σ H) := by
  refine ⟨fun pins s σ H D I h => ?_⟩
  have ok := I.ok; have hfr : X.A.frames = some (X.env :: X.outer) := by rw [ok.frames, hs]
  have hloc : Loc X.env.scope n := .inl hln
  refine wpAny_Try_except (wpAny_mono ((hb (wManyA X.K i Wout D l) (X.pn ++ pins) (fun e s₁ => wpAny (model X.prog X.w) X.A (noteFrame e X.env) (fun _ s₂ => wpAny (model X.prog X.w) X.A (setFlight e none) (fun _ s₃ => wpAny (model X.prog X.w) X.A (handleBy e X.env (h₀ :: hds)) (SP X pins D) X.xe s₃) X.xe s₂) X.xe s₁) (fun u s' xx => ?_) PassesOwn.looking).run [] s σ H D (I.toTry _) h) (fun f s1 hsp => ?_) (fun e s1 he => he))
  · obtain ⟨a, B, sI, pins', σ', H', cls, d, rfl, J', nb, up, sky, na, os, ag, w⟩ := xx
    have J : Inv X pins σ' H' sI := J'.ofTry ok; have sky' : Sky B (X.env :: X.outer) a (Zc cls d) X.env.locals s'.heap := by rw [← hs]; exact sky
    refine (show wpAny (model X.prog X.w) X.A (noteFrame (.ref a) X.env) _ _ _ from Sky.land Zc.steady hfr hf sky' fun h3 fl3 up3 => ?_)
    have J3 : Inv X pins σ' H' { s' with heap := h3 } := J.landed nb fl3.1 (up.trans up3) os ag
    obtain ⟨oe3, vs3, he3, hz3, hd3⟩ := fl3.there
    have nfr : a ∉ frs (X.env :: X.outer) := fun hm => by obtain ⟨_, o', e', hnf⟩ := fl3.2.2.1.mem hm; rw [he3] at e'; cases e'; exact hnf _ hd3
    have nL : a ≠ X.env.locals := fun z => nfr (List.mem_filterMap.mpr ⟨X.env, List.mem_cons_self, by rw [hf, z]⟩)
    have nF : a ∉ X.fs := fun hm => by obtain ⟨e, he, q⟩ := List.mem_filterMap.mp hm; exact nfr (List.mem_filterMap.mpr ⟨e, List.mem_cons_of_mem _ he, q⟩)
    have S3 := J3.suite he3 hd3 na nL nF
    have go : ∀ {hds' : List ExceptHandler} {l' : List (Value × Bool × (Addr → Value → Option Addr → TS))}, HdsA X n hds' l' → wManyA X.K i Wout D l' cls d σ' H' → wpAny (model X.prog X.w) X.A (handleBy (.ref a) X.env hds') (SP X pins D) X.xe { s' with heap := h3 } := by
      intro hds' l' hk
      induction hk with
      | nil =>
        refine fun w => wpAny_handleBy_nil ?_
        obtain ⟨k1, k2, k3, oe, vs, T, oT, ts', he, hz, hd, h1, hr⟩ := id fl3
        unfold PySem.passOn
        refine wpAny_bind (wpAny_field he hd h1 ?_)
        rw [if_neg (show ¬ ((Value.ref T == Value.none) = true) from by simp)]
        have fin : wpAny (model X.prog X.w) X.A (setFlight (.ref a) X.env.frame) (fun _ s4 => wpAny (model X.prog X.w) X.A (throw (.ref a) : Sem Flow) (SP X pins D) X.xe s4) X.xe { s' with heap := h3 } := by
          rw [hf]
          exact HandSPX.setFlight_upZ fl3 fun h4 hh4 up4 => wpAny_throw (tk _ _ ⟨a, B, sI, pins, σ', H', cls, d, rfl, J, nb, (up.trans up3).trans up4, .inr (.inr (by rw [hs]; exact hh4)), na, os, ag, w⟩)
        first | exact wpAny_bind (wpAny_pure (wpAny_bind fin)) | exact wpAny_bind fin
      | @cons x c ts b₀ su np pos' hds2 l2 hc hsu r ih =>
        rintro ⟨b, hb1, hyes, hno⟩
        refine wpAny_handleBy_cons (codeAny_handlers_test ?_) (by intro q; cases q)
        have LT : PySem.W.Looks (model X.prog X.w) h3 (typeOf (.ref a)) cls := fun A Q E s k q => wpAny_typeOf_ref (k _ _ he3) (by rw [hz3.1]; exact q)
        have LM := PySem.W.exm_one (M := model X.prog X.w) J3.kIn LT hb1
        have test : ∀ {Q : Value → Shared → Prop} {E : Value → Shared → Prop}, Q c { s' with heap := h3 } → wpAny (model X.prog X.w) (X.A.mark (some (.ref a))) (eval (.Name x np) X.env) Q E { s' with heap := h3 } := fun {Q E} q => by
          obtain ⟨hg, hdbg, hm | ⟨hm, hv, hnn⟩⟩ := hc
          · exact ld_glob (X := X.suite a ((a, oe3) :: (X.pn ++ pins))) S3 hg hm q hdbg
          · exact ld_blt (X := X.suite a ((a, oe3) :: (X.pn ++ pins))) S3 hg hm hv q hnn hdbg
        refine test (LM.here ?_)
        cases b with
        | false => exact (show wpAny _ X.A (handleBy (.ref a) X.env hds2) _ _ _ from ih (hno rfl))
        | true =>
          refine codeAny_handlers_suite_as (HandSPX.lands_againZ fl3 fun h4 fl4 up4 => ?_)
          have J4 : Inv X pins σ' H' { s' with heap := h4 } := J.landed nb fl4.1 ((up.trans up3).trans up4) os ag
          obtain ⟨oe4, vs4, he4, hz4, hd4⟩ := fl4.there
          refine store_ok (X := X.suite a ((a, oe4) :: (X.pn ++ pins))) (v := .ref a) (J4.suite he4 hd4 na nL nF) hN hi hloc rfl (fun s5 S5 => ?_) (.inr hln)
          refine wpAny_mono ((hsu a oe4 cls d (X.pn ++ pins) hz4 ⟨_, hd4⟩).run [] s5 _ H' _ S5 (hyes rfl a na)) (fun f s6 hsp => ?_) (fun _ _ z => False.elim z)
          have end_ : ∀ {σ6 : L2.St} {H6 : Hp} {Q : Shared → Prop}, Inv (X.suite a ((a, oe4) :: (X.pn ++ pins))) [] σ6 H6 s6 → (∀ s7, Inv X pins (σ6.set i none) H6 s7 → Q s7) → wpAny (model X.prog X.w) X.A (do bindName X.env n .none; unbindBehindTheSuite X.env n pos') (fun _ s7 => Q s7) X.xe s6 :=
            fun {σ6 H6 Q} S6 hq => gone_ok (S6.unsuite ok) hN hi hln hq
          cases f with
          | ret u => obtain ⟨v6, σ6, H6, S6, r6, q6⟩ := hsp; exact end_ S6 fun s7 J7 => ⟨_, _, _, J7, r6, q6⟩
          | next => obtain ⟨σ6, H6, S6, q6⟩ := hsp; exact end_ S6 fun s7 J7 => ⟨_, _, J7, q6⟩
          | brk => obtain ⟨σ6, H6, S6, q6⟩ := hsp; exact end_ S6 fun s7 J7 => ⟨_, _, J7, q6⟩
          | cont => obtain ⟨σ6, H6, S6, q6⟩ := hsp; exact end_ S6 fun s7 J7 => ⟨_, _, J7, q6⟩
      | @bare x c ts b₀ su np pos' hds2 l2 hc hsu r ih =>
        rintro ⟨b, hb1, hyes, hno⟩
        refine wpAny_handleBy_cons (codeAny_handlers_test ?_) (by intro q; cases q)
        have LT : PySem.W.Looks (model X.prog X.w) h3 (typeOf (.ref a)) cls := fun A Q E s k q => wpAny_typeOf_ref (k _ _ he3) (by rw [hz3.1]; exact q)
        have LM := PySem.W.exm_one (M := model X.prog X.w) J3.kIn LT hb1
        have test : ∀ {Q : Value → Shared → Prop} {E : Value → Shared → Prop}, Q c { s' with heap := h3 } → wpAny (model X.prog X.w) (X.A.mark (some (.ref a))) (eval (.Name x np) X.env) Q E { s' with heap := h3 } := fun {Q E} q => by
          obtain ⟨hg, hdbg, hm | ⟨hm, hv, hnn⟩⟩ := hc
          · exact ld_glob (X := X.suite a ((a, oe3) :: (X.pn ++ pins))) S3 hg hm q hdbg
          · exact ld_blt (X := X.suite a ((a, oe3) :: (X.pn ++ pins))) S3 hg hm hv q hnn hdbg
        refine test (LM.here ?_)
        cases b with
        | false => exact (show wpAny _ X.A (handleBy (.ref a) X.env hds2) _ _ _ from ih (hno rfl))
        | true =>
          refine codeAny_handlers_suite ?_
          refine HandSPX.lands_againZ fl3 fun h4 fl4 up4 => ?_
          have J4 : Inv X pins σ' H' { s' with heap := h4 } := J.landed nb fl4.1 ((up.trans up3).trans up4) os ag
          obtain ⟨oe4, vs4, he4, hz4, hd4⟩ := fl4.there
          have S4 := J4.suite he4 hd4 na nL nF
          refine wpAny_mono ((hsu a oe4 cls d (X.pn ++ pins) hz4 ⟨_, hd4⟩).run [] _ _ H' _ S4 (hyes rfl a na)) (fun f s6 hsp => ?_) (fun _ _ z => False.elim z)
          cases f with
          | next =>
            obtain ⟨σ6, H6, S6, q6⟩ := hsp
            exact ⟨_, _, S6.unsuite ok, q6⟩
          | brk =>
            obtain ⟨σ6, H6, S6, q6⟩ := hsp
            exact ⟨_, _, S6.unsuite ok, q6⟩
          | cont =>
            obtain ⟨σ6, H6, S6, q6⟩ := hsp
            exact ⟨_, _, S6.unsuite ok, q6⟩
          | ret u =>
            obtain ⟨v6, σ6, H6, S6, r6, q6⟩ := hsp
            exact ⟨_, _, _, S6.unsuite ok, r6, q6⟩
    exact go hh w
  · cases f with
    | ret u => obtain ⟨v, σ', H', J', r, q⟩ := hsp; exact ⟨v, σ', H', J'.ofTry ok, r, q⟩
    | next => obtain ⟨σ', H', J', q⟩ := hsp; exact wpAny_execs_nil ⟨σ', H', J'.ofTry ok, q⟩
    | brk => obtain ⟨σ', H', J', q⟩ := hsp; exact ⟨σ', H', J'.ofTry ok, q⟩
    | cont => obtain ⟨σ', H', J', q⟩ := hsp; exact ⟨σ', H', J'.ofTry ok, q⟩
end
end Vm

set_option Elab.async false
set_option linter.all false
set_option maxRecDepth 100000
set_option maxHeartbeats 1000000
namespace Vm
variable [TabsC]
open PySem L2 LamX

namespace M
variable {α : Type}
/-- what is raised is looked at -/
def catch_ : M α → (Exn → M α) → M α
  | .ret a, _ => .ret a
  | .stuck, _ => .stuck
  | .raise x, h => h x
  | .draw n k, h => .draw n fun z => (k z).catch_ h
theorem all_catch {R : Exn → Nat → Prop} {P : α → Nat → Prop} {h : Exn → M α} : ∀ (m : M α) (b : Nat), (m.catch_ h).all R P b → m.all (fun x b' => (h x).all R P b') P b
  | .ret a, b, q => q
  | .stuck, b, q => q
  | .raise x, b, q => q
  | .draw n k, b, q => ⟨q.1, q.2.1, fun z hz => all_catch (k z) (b - 1) (q.2.2 z hz)⟩
end M

/-! ### what a lambda sees: captured slots, to be read only -/
def capG (caps : List Nat) : Nat → Env → Env
  | _, [] => []
  | n, s :: e => (if n ∈ caps then frz1 s else none) :: capG caps (n + 1) e
def capE (caps : List Nat) (env : Env) : Env := capG caps 0 env
theorem capG_length (caps : List Nat) : ∀ (env : Env) (n : Nat), (capG caps n env).length = env.length
  | [], _ => rfl
  | s :: e, n => by simp [capG, capG_length caps e (n + 1)]
theorem sl_capG (caps : List Nat) : ∀ (env : Env) (n i : Nat), sl (capG caps n env) i = if n + i ∈ caps then frz1 (sl env i) else none
  | [], n, i => by simp [capG, sl, frz1]
  | s :: e, n, 0 => by simp [capG, sl]
  | s :: e, n, i + 1 => by
    have h := sl_capG caps e (n + 1) i
    have e1 : n + 1 + i = n + (i + 1) := by omega
    rw [e1] at h
    have a : sl (capG caps n (s :: e)) (i + 1) = sl (capG caps (n + 1) e) i := by simp [capG, sl]
    have b : sl (s :: e) (i + 1) = sl e i := by simp [sl]
    rw [a, b, h]
theorem sl_capE (caps : List Nat) (env : Env) (i : Nat) : sl (capE caps env) i = if i ∈ caps then frz1 (sl env i) else none := by
  unfold capE; rw [sl_capG]; simp
def capS (S : Addr → Prop) (os : Nat → List Addr) (caps : List Nat) (c : Addr) : Prop := S c ∨ ∃ i ∈ caps, c ∈ os i
theorem ER.cap {G : Gx} {S : Addr → Prop} {H : Hp} {env : Env} {σ : St} {os : Nat → List Addr} (E : ER G S H env σ os) (caps : List Nat) (R' : Exn → Nat → Prop) :
    ER ⟨G.K, G.st, H, capS S os caps, R'⟩ (capS S os caps) H (capE caps env) σ (fun _ => []) where
  len := by rw [← E.len]; exact capG_length caps env 0
  at_ := fun i => by
    rw [sl_capE]
    by_cases hi : i ∈ caps
    case neg => rw [if_neg hi]; exact rfl
    rw [if_pos hi]
    have h := E.at_ i
    match e : sl env i, h with
    | none, h => exact rfl
    | some .stm, h => exact ⟨h.1, rfl⟩
    | some (.dat d lv), h =>
      obtain ⟨u, fp, e1, r, hs⟩ := SlOk.fp_sub h
      exact ⟨u, fp, e1, r, rfl, fun c hc => (hs c hc).elim (fun z => .inr ⟨i, hi, z⟩) .inl⟩
  dj := fun i j c _ hc => by cases hc
  ns := fun i c hc => by cases hc
  fr := fun i c hc => by cases hc
  sub := fun c hc => .inl hc
  trk := fun c hc => by
    rcases hc with z | ⟨i, _, z⟩
    · exact E.trk c z
    · exact E.own_trk z
  same := SameX.refl _

/-! ### try: return ('told', ask()) except .. -/
def met (caps : List Nat) : List (Str × Str × Option Str) → Exn → M RV
  | [], _ => .stuck
  | (c, w, none) :: r, x => if x.cls = c then .ret (mkRV (.tuple [.str w, .none]) .shr caps) else met caps r x
  | (c, w, some f) :: r, x => if x.cls = c then M.ofOption (x.fs.lookup f) >>= fun d => .ret (mkRV (.tuple [.str w, d]) .shr caps) else met caps r x
def told : Str := "told"
def vMet (caps : List Nat) (hs : List (Str × Str × Option Str)) (f : Env → M RV) (env : Env) : M RV :=
  ((f (capE caps env)) >>= fun r => .ret (mkRV (.tuple [.str told, r.d]) .shr caps)).catch_ (met caps hs)
/-- a class of exceptions, as a clause names it -/
structure HdN (K : PySem.W.Frag) (mg : Str → Option Value) (sc : Scope) (x : Str) (f : Option Str) : Prop where
  gl : sc.names.lookup x = some .globalImplicit
  db : (x == ("__debug__" : Str)) = false
  ex : ∃ C, mg x = some (.ref C) ∧ PySem.W.nsIn K mainGlobals x = some (some (.ref C)) ∧ ∀ y, f = some y → XfC K C ∧ PySem.W.findIn K (.ref C) y = some none
inductive MetHs (K : PySem.W.Frag) (mg : Str → Option Value) (sc : Scope) : List ExceptHandler → List (Str × Str × Option Str) → Prop
  | nil : MetHs K mg sc [] []
  | non {x w : Str} {j j' : Nat} {np q1 q2 q3 q4 q5 : Pos} {kk : Nat} {hds : List ExceptHandler} {hs : List (Str × Str × Option Str)} (h : HdN K mg sc x none) (r : MetHs K mg sc hds hs) :
      MetHs K mg sc (.ExceptHandler (some (.Name x np)) (some "e") [.Return (some (.Tuple [.Constant (.str w) j q1, .Constant .none j' q2] kk q3)) q4] q5 :: hds) ((x, w, none) :: hs)
  | bare {x w : Str} {j j' : Nat} {np q1 q2 q3 q4 q5 : Pos} {kk : Nat} {hds : List ExceptHandler} {hs : List (Str × Str × Option Str)} (h : HdN K mg sc x none) (r : MetHs K mg sc hds hs) :
      MetHs K mg sc (.ExceptHandler (some (.Name x np)) none [.Return (some (.Tuple [.Constant (.str w) j q1, .Constant .none j' q2] kk q3)) q4] q5 :: hds) ((x, w, none) :: hs)
  | fld {x w f : Str} {j : Nat} {np q1 q2 q3 q4 q5 q6 : Pos} {kk : Nat} {hds : List ExceptHandler} {hs : List (Str × Str × Option Str)} (h : HdN K mg sc x (some f)) (r : MetHs K mg sc hds hs)
      (hb : ∀ env, attributeBase (.Name "e" q6) f env (eval (.Name "e" q6) env) = eval (.Name "e" q6) env := by intro _; rfl) :
      MetHs K mg sc (.ExceptHandler (some (.Name x np)) (some "e") [.Return (some (.Tuple [.Constant (.str w) j q1, .Attribute (.Name "e" q6) f q2] kk q3)) q4] q5 :: hds) ((x, w, some f) :: hs)
/-- a raised exception of the clause's class -/
theorem cls_of {K : PySem.W.Frag} {st : StA} {ok : Addr → Prop} {x : Exn} {cls : Value} {d : Option Addr} {H : Hp} {C : Addr} (h : ExnC K st ok x cls d H) (n : PySem.W.nsIn K mainGlobals x.cls = some (some (.ref C))) : cls = .ref C := by
  have := h.1
  rw [n] at this
  exact (Option.some.inj (Option.some.inj this)).symm
/-- how the clauses' classes hang together -/
def Exms (K : PySem.W.Frag) (hs : List (Str × Str × Option Str)) : Prop := ∀ x ∈ hs.map (·.1), ∃ C : Addr, PySem.W.nsIn K mainGlobals x = some (some (.ref C)) ∧ ∀ y ∈ hs.map (·.1), ∀ C' : Addr, PySem.W.nsIn K mainGlobals y = some (some (.ref C')) → PySem.W.exmOne K (.ref C) (.ref C') = some (decide (x = y))
theorem met_mem {caps : List Nat} {x : Exn} {R : Exn → Nat → Prop} {P : RV → Nat → Prop} {b : Nat} : ∀ {hs : List (Str × Str × Option Str)}, (met caps hs x).all R P b → x.cls ∈ hs.map (·.1)
  | [], h => h.elim
  | (c, w, none) :: r, h => by
    unfold met at h
    split at h
    · rename_i e; rw [e]; exact List.mem_cons_self
    · exact List.mem_cons_of_mem _ (met_mem h)
  | (c, w, some f) :: r, h => by
    unfold met at h
    split at h
    · rename_i e; rw [e]; exact List.mem_cons_self
    · exact List.mem_cons_of_mem _ (met_mem h)
section
variable {Z : Cx}
theorem met_hds (hN : Z.N[1]? = some ("e" : Str)) (hv : Vis Z.env.scope "e") : ∀ {hds : List ExceptHandler} {hs : List (Str × Str × Option Str)}, MetHs Z.K Z.mg Z.env.scope hds hs → ∃ l, HdsA Z "e" hds l ∧
    ∀ (hs0 : List (Str × Str × Option Str)), (∀ z ∈ hs, z ∈ hs0) → Exms Z.K hs0 → ∀ (st : StA) (ok : Addr → Prop) (caps : List Nat) (x : Exn) (cls : Value) (d : Option Addr) (σ : L2.St) (H : Hp) (b : Nat) (R : Exn → Nat → Prop) (P : RV → Nat → Prop) (Wout : WX) (D : Ends),
      ExnC Z.K st ok x cls d H → Stm H st b → σ.length = 2 → x.cls ∈ hs0.map (·.1) → (met caps hs x).all R P b →
      (∀ dt b' v H' fp, P (mkRV dt .shr caps) b' → SameX st H H' → Stm H' st b' → Rep Z.K st H' dt v fp → (∀ c ∈ fp, ok c) → D.rt v H') → wManyA Z.K 1 Wout D l cls d σ H := by
  intro hds hs h
  induction h with
  | nil => exact ⟨[], .nil, fun hs0 _ _ st ok caps x cls d σ H b R P Wout D _ _ _ _ h => h.elim⟩
  | @non x w j j' np q1 q2 q3 q4 q5 kk hds hs hd r ih =>
    obtain ⟨l, hl, ih⟩ := ih
    obtain ⟨gl, db, C, hm, ns, _⟩ := hd
    refine ⟨_, .cons (c := .ref C) ⟨gl, db, .inl hm⟩ (fun a oe cls d pn _ _ => pss_one (ps_ret (pe_tupF (pa_cons pe_str (pa_cons pe_non pa_nil))))) hl, fun hs0 sub ex st ok caps xn cls d σ H b R P Wout D xc sm hσ mem h q => ?_⟩
    obtain ⟨C0, ns0, rel⟩ := ex _ mem
    have ec := cls_of xc ns0
    subst ec
    refine ⟨_, rel x (List.mem_map_of_mem (sub _ List.mem_cons_self)) C ns, fun hb a na => ?_, fun hb => ?_⟩
    · have e := of_decide_eq_true hb
      unfold met at h
      rw [if_pos e] at h
      refine ⟨by show 2 ≤ sizeLine; decide, fun p o hp ho => ?_⟩
      exact q _ _ _ _ [] h (SameX.new hp) (sm.new hp) (Rep.newT sm hp ho (Reps.append (Reps.single (Rep.of_str w)) (Reps.single Rep.of_none))) fun c hc => by cases hc
    · have e := of_decide_eq_false hb
      unfold met at h
      rw [if_neg e] at h
      exact ih hs0 (fun z hz => sub z (List.mem_cons_of_mem _ hz)) ex st ok caps xn _ d σ H b R P Wout D xc sm hσ mem h q
  | @bare x w j j' np q1 q2 q3 q4 q5 kk hds hs hd r ih =>
    obtain ⟨l, hl, ih⟩ := ih
    obtain ⟨gl, db, C, hm, ns, _⟩ := hd
    refine ⟨_, .bare (c := .ref C) ⟨gl, db, .inl hm⟩ (fun a oe cls d pn _ _ => pss_one (ps_ret (pe_tupF (pa_cons pe_str (pa_cons pe_non pa_nil))))) hl, fun hs0 sub ex st ok caps xn cls d σ H b R P Wout D xc sm hσ mem h q => ?_⟩
    obtain ⟨C0, ns0, rel⟩ := ex _ mem
    have ec := cls_of xc ns0
    subst ec
    refine ⟨_, rel x (List.mem_map_of_mem (sub _ List.mem_cons_self)) C ns, fun hb a na => ?_, fun hb => ?_⟩
    · have e := of_decide_eq_true hb
      unfold met at h
      rw [if_pos e] at h
      refine ⟨by show 2 ≤ sizeLine; decide, fun p o hp ho => ?_⟩
      exact q _ _ _ _ [] h (SameX.new hp) (sm.new hp) (Rep.newT sm hp ho (Reps.append (Reps.single (Rep.of_str w)) (Reps.single Rep.of_none))) fun c hc => by cases hc
    · have e := of_decide_eq_false hb
      unfold met at h
      rw [if_neg e] at h
      exact ih hs0 (fun z hz => sub z (List.mem_cons_of_mem _ hz)) ex st ok caps xn _ d σ H b R P Wout D xc sm hσ mem h q
  | @fld x w f j np q1 q2 q3 q4 q5 q6 kk hds hs hd r hb ih =>
    obtain ⟨l, hl, ih⟩ := ih
    obtain ⟨gl, db, C, hm, ns, hf⟩ := hd
    obtain ⟨T, hno⟩ := hf f rfl
    refine ⟨_, .cons (c := .ref C) ⟨gl, db, .inl hm⟩ (fun a oe cls d pn hz hof => pss_one (ps_ret (pe_tupF (pa_cons pe_str (pa_cons (pe_xf T hno hz hof (pe_var (X := Z.suite a ((a, oe) :: pn)) (i := 1) hN hv (by decide) (by decide)) (hb _)) pa_nil))))) hl, fun hs0 sub ex st ok caps xn cls d σ H b R P Wout D xc sm hσ mem h q => ?_⟩
    obtain ⟨C0, ns0, rel⟩ := ex _ mem
    have ec := cls_of xc ns0
    subst ec
    refine ⟨_, rel x (List.mem_map_of_mem (sub _ List.mem_cons_self)) C ns, fun hb a na => ?_, fun hb => ?_⟩
    · have e := of_decide_eq_true hb
      unfold met at h
      rw [if_pos e, M.all_bind] at h
      obtain ⟨dt, hdt, h⟩ := M.all_ofOption.mp h
      obtain ⟨_, xd⟩ := xc
      rcases xd with ⟨z, _⟩ | ⟨dx, fs, ed, hdx, hfs⟩
      · rw [z] at hdt; cases hdt
      obtain ⟨v, fp, lk, rp, okp⟩ := hfs f dt hdt
      have eC : C0 = C := by
        rw [e, ns] at ns0
        exact (Value.ref.inj (Option.some.inj (Option.some.inj ns0))).symm
      refine ⟨.ref a, by simp [hσ], rfl, by rw [eC], dx, fs, v, ed, hdx, lk, by show 2 ≤ sizeLine; decide, fun p o hp ho => ?_⟩
      exact q _ _ _ _ ([] ++ fp) h (SameX.new hp) (sm.new hp) (Rep.newT sm hp ho (Reps.append (Reps.single (Rep.of_str w)) (Reps.single rp))) fun c hc => okp c (by simpa using hc)
    · have e := of_decide_eq_false hb
      unfold met at h
      rw [if_neg e] at h
      exact ih hs0 (fun z hz => sub z (List.mem_cons_of_mem _ hz)) ex st ok caps xn _ d σ H b R P Wout D xc sm hσ mem h q
end
end Vm

set_option Elab.async false
set_option linter.all false
set_option maxRecDepth 100000
set_option maxHeartbeats 1000000
namespace Vm
variable [TabsC]
open PySem L2 LamX
/-- what an expression gives, what it lets out -/
def tOfE (K : PySem.W.Frag) (E : XK) (f : Env → M RV) : TE := fun σ H Q => ∃ (G : Gx) (S : Addr → Prop) (env : Env) (os : Nat → List Addr) (b : Nat), G.K = K ∧
  (∀ x b cls d H', G.R x b → SameX G.st G.H0 H' → Stm H' G.st b → ExnOk G x cls d H' → E cls d H') ∧ ER G S H env σ os ∧ Stm H G.st b ∧ (f env).all G.R (Post K G.st S os H Q) b
theorem DE.lam {X : Cx} {A : Around} {outer : List PySem.Env} {s : Shared} {H : Hp} {E : XK} {scope : Scope} {f c' : Addr} {e : Expr} {fm : Env → M RV} (h : DE (lamCx X A outer s H E scope f c') e fm) : PE (lamCx X A outer s H E scope f c') e (tOfE X.K E fm) := by
  obtain ⟨t, ht, qt⟩ := h
  exact ⟨fun pins s σ H Q I ⟨G, S, env, os, b, hK, hE, er, sm, q⟩ => ht.run pins s σ H Q I (qt G S H env σ os b Q ⟨hK, fun cls d _ H' => E cls d H', takes_of rfl rfl rfl rfl, fun x b cls d σ H' r x' sm' ex => hE x b cls d H' r x' sm' ex⟩ er sm q)⟩
/-- the frame's slots are all there -/
theorem takes_len {X : Cx} {W : WX} (t : Takes X W) : Takes X (fun cls d σ H => σ.length = X.N.length → W cls d σ H) := fun u s' ⟨a, B, sI, pins, σ, H, cls, d, e, I, nb, up, sky, na, os, ag, w⟩ =>
  t u s' ⟨a, B, sI, pins, σ, H, cls, d, e, I, nb, up, sky, na, os, ag, w I.len⟩
theorem passF {X : Cx} : Passes (L2.CX X.prog X.w) X (fun _ _ _ => False) := passes_call (takes_none X) fun _ _ _ _ h => h
theorem de_met {X : Cx} {k : Nat} {c P : Addr} {caps : List Nat} {fm : Vm.Env → M RV} {body : Expr} {a1 : Arguments} {scope : Scope} {p pos lp q1 q2 q3 q4 q5 q6 : Pos} {st : Stmt} {j kk : Nat} {h₀ : ExceptHandler} {hds : List ExceptHandler} {hs : List (Str × Str × Option Str)}
    (Dt : DefT X.K X.mg "_law_met" st) (Sc : FnScope ["ask", "e"] ["ask"] (defScope st)) (bt : BindT "_law_met" st ["ask"])
    (hbody : defBody st = [.Try [.Return (some (.Tuple [.Constant (.str told) j q1, .Call (.Name "ask" q2) [] [] q3] kk q4)) q5] (h₀ :: hds) [] [] q6]) (hh : MetHs X.K X.mg (defScope st) (h₀ :: hds) hs) (hx : Exms X.K hs)
    (hva : (defScope st).names.lookup ("ask" : Str) = some .local) (hve : (defScope st).names.lookup ("e" : Str) = some .local) (hr : Room (k + 2) X.A) (TA : TabAt X c P)
    (B : ∀ (A : Around) (outer : List PySem.Env) (s : Shared) (H : Hp) (E : XK) (f c' : Addr), Room k (A.deeper (lamEnv X scope s.heap.objs.size f c')) → DE (lamCx X A outer s H E scope f c') body fm)
    (L : LamS X.env.scope scope) (hd : defaultsOf a1 X.env = ([], [])) (hb : ∀ (q : Str) (cl : List (Str × Addr)) (pm cv ctv : Value), bindArgs (PySem.W.kla_fn "<lambda>" q a1 body scope cl pm cv ctv) ⟨[], []⟩ = pure [])
    (hgl : Gl X "_law_met" := by rfl) (he : starEach [.Lambda a1 body scope lp] X.env = [(false, eval (.Lambda a1 body scope lp) X.env)] := by rfl) :
    DE X (.Call (.Name "_law_met" p) [.Lambda a1 body scope lp] [] pos) (vMet caps hs fm) := by
  refine ⟨fun σ H Q => ∃ (G : Gx) (S : Addr → Prop) (env : Vm.Env) (os : Nat → List Addr) (b : Nat), GOk G X ∧ ER G S H env σ os ∧ Stm H G.st b ∧ (vMet caps hs fm env).all G.R (Post X.K G.st S os H Q) b, ⟨fun pins s σ H Q I h => ?_⟩, fun G S H env σ os b Q hK E sm h => ⟨G, S, env, os, b, hK, E, sm, h⟩⟩
  obtain ⟨G, S, env, os, b, hK, E, sm, h⟩ := h
  obtain ⟨g, gd, hmg, Ft⟩ := Dt.ex
  have Ftk := Ft.kp
  have Ftb := Ft.binds bt
  obtain ⟨oc, od, kV, doc, pm, an, cdv, ct, osl, rfl, lk, hcd⟩ := Ft.ex
  refine wpAny_Call_Name_kw (ld_glob I hgl hmg ?_ (by decide))
  refine PySem.W.callWith_K (h₀ := X.base) I.ok.mod.kin Ftk ?_ he (by rfl)
  rw [he]
  show wpAny _ _ (spliced ((false, eval (.Lambda a1 body scope lp) X.env) :: backTo pos (starEach [] X.env))) _ _ s
  refine Calls.spliced_cons (lam_born I sm TA hd (L.has I.ok) fun fa ca pma ctva H1 s1 I1 x1 sm1 hfa hna hfra hca => ?_)
  refine Calls.spliced_nil ⟨I1.kIn, ?_⟩
  have rc : codeAny (model X.prog X.w) X.A (.call (.ref g) ⟨[.ref fa], []⟩) (CR CX0 X.stack X.prog X.w H1 s1 Q E0) s1 := by
    refine run_ofS (CX := CX0) (E := E0) (N := ["ask", "e"]) (ps := ["ask"]) (us := [.ref fa]) (vs := [.ref fa]) lk hcd Sc (k := k + 1) hr I1.env0 (Ftb s1 [.ref fa] I1.kIn rfl) (.cons rfl .nil) rfl fun hr' => ?_
    rw [hbody]
    obtain ⟨l, hl, ql⟩ := met_hds (Z := (cxOf CX0 X.prog X.w X.K X.mg X.base ["ask", "e"] "_law_met" (defScope st) g cdv X.A X.stack s1 H1 E0).nox) rfl (.inl hve) hh
    refine ⟨_, (pss_one (ps_try_manyA (X := (cxOf CX0 X.prog X.w X.K X.mg X.base ["ask", "e"] "_law_met" (defScope st) g cdv X.A X.stack s1 H1 E0).nox) (n := "e") (i := 1)
      (tb := fun W D σZ HZ => ∃ Ech : XK, (∀ cls d σ' H', Ech cls d H' → σ'.length = 2 → W cls d σ' H') ∧ σZ[0]? = some (some (.ref fa)) ∧ HZ ca = some (CodeO ca (X.env.qual ++ "<lambda>")) ∧
        tOfE X.K Ech fm σ HZ fun v H2 => 2 ≤ sizeLine ∧ NewT H2 [.str told, v] fun v H3 => D.rt v H3)
      rfl rfl Sc.nd rfl hve L2.takes0 (fun W pn xe tk _ => ?_) hl)).nox, ?_⟩
    · refine ⟨fun pinsZ s' σZ H' D IZ h' => ?_⟩
      obtain ⟨Ech, hW, h1, h2, h3⟩ := h'
      have hp := fun p1 p2 => pe_act (CXg := CX0) (Eg := E0) (pn := pn) (xe := xe) (W := fun cls d σ H => σ.length = 2 → W cls d σ H) (E := Ech) (i := 0) (k := k) (p1 := p1) (p2 := p2) (a := ("ask" : Str)) (Ng := ["ask", "e"]) I1 L hfa hna hfra (hb _ _ _ _ _) (takes_len tk) (fun cls d σ' H' q hl => hW cls d σ' H' q hl) hr' (fun A outer s H hr2 => (B A outer s H Ech fa ca hr2).lam) rfl (.inl hva)
      have hq := pss_one (ps_ret (pos := q5) (pe_tupF (k := kk) (pos := q4) (pa_cons (pe_str (j := j) (pos := q1) (x := told)) (pa_cons (hp q2 q3) pa_nil))))
      exact hq.run pinsZ s' σZ H' D IZ ⟨h1, h2, h3⟩
    · have h := M.all_catch _ _ h
      rw [M.all_bind] at h
      refine ⟨fun cls d H' => ∃ x b', (met caps hs x).all G.R (Post X.K G.st S os H Q) b' ∧ SameX G.st H1 H' ∧ Stm H' G.st b' ∧ ExnC X.K G.st (fun c => capS S os caps c ∨ H1 c = none) x cls d H', fun cls d σ' H' hx' hlen => ?_, rfl, hca, ?_⟩
      · obtain ⟨x, b', hm, x', sm', xc⟩ := hx'
        refine ql hs (fun z hz => hz) hx G.st _ caps x cls d σ' H' b' G.R _ _ _ xc sm' hlen (met_mem hm) hm fun dt b2 v H'' fp hp x2 sm2 rp ok => ?_
        refine hp v H'' ((x1.trans x').trans x2) sm2 (RVok.mk rp fun _ c hc => ?_)
        rcases ok c hc with (z | z) | z
        · exact .inr (.inl z)
        · exact .inr (.inr z)
        · exact .inl (fresh_back sm1 x1 z)
      · refine ⟨⟨X.K, G.st, H1, capS S os caps, fun x b' => (met caps hs x).all G.R (Post X.K G.st S os H Q) b'⟩, capS S os caps, capE caps env, fun _ => [], b, rfl, fun x b' cls d H' r x' sm' ex => ⟨x, b', r, x', sm', ex⟩, ?_, sm1, ?_⟩
        · have E1 := (E.mono sm x1).cap caps (fun x b' => (met caps hs x).all G.R (Post X.K G.st S os H Q) b')
          rw [hK.K] at E1
          exact E1
        · refine M.all_mono (fun r b1 hr1 v H2 x2 sm2 ok2 => ?_) _ _ h
          obtain ⟨fp, rp, l2⟩ := ok2
          refine ⟨by show 2 ≤ sizeLine; decide, fun pz o hp ho => ?_⟩
          have hr1 : Post X.K G.st S os H Q (mkRV (.tuple [.str told, r.d]) .shr caps) b1 := hr1
          refine hr1 _ _ ((x1.trans x2).trans (SameX.new hp)) (sm2.new hp) (RVok.mk (Rep.newT sm2 hp ho (Reps.append (Reps.single (Rep.of_str told)) (Reps.single rp))) fun _ c hc => ?_)
          rcases l2.shr c (by simpa using hc) with z | z | ⟨i, _, z⟩
          · exact .inl (fresh_back sm1 x1 z)
          · exact z.elim (fun z => .inr (.inl z)) fun z => .inr (.inr z)
          · cases z
  refine wpAny_call (codeAny_mono rc fun r s2 hq => ?_)
  cases r with
  | error e => exact (show False from hq).elim
  | ok fl =>
    cases fl with
    | ret u => exact I1.after hq
    | next => exact False.elim hq
    | brk => exact False.elim hq
    | cont => exact False.elim hq
end Vm

set_option Elab.async false
set_option linter.all false
set_option maxRecDepth 100000
set_option maxHeartbeats 1000000
namespace Vm
variable [TabsC]
open PySem L2

/-! ### xs[::-1] -/
theorem Reps.reverse {K : PySem.W.Frag} {st : StA} {H : Hp} : ∀ {ds : List PyData} {vs : List V} {fp : List Addr}, Reps K st H ds vs fp → ∃ f, Reps K st H ds.reverse vs.reverse f ∧ ∀ c ∈ f, c ∈ fp
  | [], _, _, r => by
    unfold Reps at r
    obtain ⟨rfl, rfl⟩ := r
    exact ⟨[], by unfold Reps; exact ⟨rfl, rfl⟩, fun c hc => hc⟩
  | d :: ds, _, _, r => by
    unfold Reps at r
    obtain ⟨v, vr, f1, f2, rfl, h1, h2, rfl⟩ := r
    obtain ⟨f, q, hf⟩ := h2.reverse
    refine ⟨f ++ f1, ?_, fun c hc => ?_⟩
    · rw [List.reverse_cons, List.reverse_cons]
      exact q.append (Reps.single h1)
    · rcases List.mem_append.mp hc with z | z
      · exact List.mem_append_right _ (hf c z)
      · exact List.mem_append_left _ z
def vRev (f : Env → M RV) (env : Env) : M RV := f env >>= fun r => match r.d with
  | .list xs => .ret (mkL xs.reverse r.al)
  | _ => .stuck
section
variable {X : Cx} {e : Expr} {f : Env → M RV} {pos p1 p2 p3 : Pos} {k : Nat}
theorem de_rev (he : DE X e f) : DE X (.Subscript e (.Slice none none (some (.UnaryOp .USub (.Constant (.int 1) k p1) p2)) p3) pos) (vRev f) := by
  obtain ⟨t, ht, qt⟩ := he
  refine ⟨_, pe_revL ht, fun G S H env σ os b Q hK E sm h => ?_⟩
  unfold vRev at h
  rw [M.all_bind] at h
  refine qt G S H env σ os b _ hK E sm (M.all_mono (fun r b1 h1 v H1 x1 sm1 ok1 => ?_) _ _ h)
  obtain ⟨fp, r1, l1⟩ := ok1
  have w1 := l1.shr
  split at h1
  · rename_i xs ed
    rw [ed] at r1
    unfold Rep at r1
    obtain ⟨a, vs, f', ev, ha, n1, n2, rs, ef⟩ := r1
    obtain ⟨fr, rr, hr⟩ := rs.reverse
    refine ⟨a, vs, ev, SqL.of ha, ?_⟩
    exact new_list sm1 x1 rr (fun c hc => w1 c (by rw [ef]; exact List.mem_cons_of_mem _ (hr c hc))) fun v H' x' sm' ok => h1 v H' (x1.trans x') sm' ok
  · exact h1.elim

/-! ### {} -/
def vDNew (_ : Env) : M RV := .ret ⟨.dict [], .own, []⟩
theorem Rep.dnew {K : PySem.W.Frag} {st : StA} {H : Hp} {p : Addr} {b : Nat} (sm : Stm H st b) (hp : H p = none) : Rep K st (upd H p (.dK [])) (.dict []) (.ref p) [p] := by
  unfold Rep
  obtain ⟨n1, n2⟩ := sm.off hp
  exact ⟨p, [], [], [], rfl, .inl ⟨[], upd_same, rfl, rfl⟩, n1, n2, by unfold RepKs; exact ⟨rfl, rfl, rfl⟩, rfl⟩
theorem de_dnew : DE X (.Dict [] [] pos) vDNew := by
  refine ⟨_, pe_dnewK, fun G S H env σ os b Q hK E sm h => fun p hp => ?_⟩
  exact h _ _ (SameX.new hp) (sm.new hp) ⟨[p], Rep.dnew sm hp, by simp, fun c hc => .inl (by rw [show c = p by simpa using hc]; exact hp)⟩

/-! ### dict([.. for key in x]) of an empty dict -/
def vCopyD (i : Nat) (env : Env) : M RV := match sl env i with
  | some (.dat (.dict []) _) => .ret ⟨.dict [], .own, []⟩
  | _ => .stuck
theorem de_copyD {i : Nat} {x : Str} {tg : Str} {j : Nat} {elt : Expr} {scope : Scope} {own : List (Str × Nat)} {p4 p5 : Pos} (hm : X.mg "dict" = none) (hN : X.N.Nodup) (hi : X.N[i]? = some x) (hv : Vis X.env.scope x) (ok : BlkOk X.N X.env.scope scope own)
    (hg : ∀ (s : Shared) (H : Hp) (C : Addr) (cl : List (Str × Addr)) (fp : List Addr), DG (X.blk s H scope (compEnvC scope cl C X.env) fp) (.Name tg p4) [j] (tgName j))
    (hc : X.calm = true := by rfl) (hgl : Gl X "dict" := by rfl) (hd : (x == ("__debug__" : Str)) = false := by decide) (hcd : (x == ("__classdict__" : Str)) = false := by decide)
    (he : starEach [.ListComp elt [⟨.Name tg p4, .Name x p5, [], 0⟩] scope p3] X.env = (false, eval (.ListComp elt [⟨.Name tg p4, .Name x p5, [], 0⟩] scope p3) X.env) :: starEach [] X.env := by rfl) (hpl : (backTo pos (starEach [] X.env)).any (·.1) = false := by rfl) (hs : ∀ y, foldedSetIterable (.Name x p5) X.env y = pure y := by intro _; rfl) :
    DE X (.Call (.Name "dict" p1) [.ListComp elt [⟨.Name tg p4, .Name x p5, [], 0⟩] scope p3] [] pos) (vCopyD i) := by
  refine ⟨_, pe_lock (pe_callTy (call_dictP hc) hgl hm (by rfl) (pa_cons (pe_lc (g := gOf X.K [j] (tgName j)) (tt := ttOf X.K cYes) (te := fun _ _ _ => False) hc hN (pi_keys (pe_var hi hv hd hcd)) ok (fun s H C cl fp => (hg s H C cl fp).pg) (fun s H C cl fp => (dts_nil (X := X.blk s H scope (compEnvC scope cl C X.env) fp)).run) (fun s H C cl fp => ⟨fun pins s σ H Q I h => h.elim⟩) hs) pa_nil he) (by decide) (by decide) he hpl), fun G S H env σ os b Q hK E sm h => ?_⟩
  unfold vCopyD at h
  split at h
  case h_2 => exact h.elim
  rename_i lv esl
  have hx := E.at_ i
  rw [esl] at hx
  obtain ⟨u, fp, eu, ru, _⟩ := hx
  unfold Rep at ru
  obtain ⟨a, ks, vs, f, ev, hD, n1, n2, rk, ef⟩ := ru
  subst ev
  unfold RepKs at rk
  obtain ⟨ek, evs, _⟩ := rk
  have hval := val_some eu
  have fin : ∀ (u : HO) (H1 : Hp) (D p : Addr), H a = some u → (∀ ps, u ≠ .tbl ps) → H D = none → D ≠ a → H1 = upd (upd (upd (upd H a u) D (.lst [])) p (.dK [])) a u → H p = none → p ≠ a → p ≠ D → Q (.ref p) H1 := fun u H1 D p ha hu hD nDa e hp npa npD => by
    have e0 : ∀ b o, H b = some o → H1 b = some o := fun b o hb => by
      rw [e]
      by_cases hba : b = a
      · subst hba; rw [upd_same]; rw [ha] at hb; exact hb
      · rw [upd_ne hba, upd_ne (ne_of_none hb hp), upd_ne (ne_of_none hb hD), upd_ne hba]; exact hb
    have ep : H1 p = some (.dK []) := by rw [e, upd_ne npa, upd_same]
    have gr : Grow H H1 := ⟨e0, fun b ps hb => by
      rw [e] at hb
      by_cases hba : b = a
      · subst hba; rw [upd_same] at hb; exact absurd (Option.some.inj hb) (hu ps)
      · rw [upd_ne hba] at hb
        by_cases hbp : b = p
        · subst hbp; rw [upd_same] at hb; cases hb
        · rw [upd_ne hbp] at hb
          by_cases hbD : b = D
          · subst hbD; rw [upd_same] at hb; cases hb
          · rw [upd_ne hbD, upd_ne hba] at hb; exact hb⟩
    obtain ⟨m1, m2⟩ := sm.off hp
    exact h _ _ (fun b o _ _ hb => e0 b o hb) (sm.ext gr) ⟨[p], by unfold Rep; exact ⟨p, [], [], [], rfl, .inl ⟨[], ep, rfl, rfl⟩, m1, m2, by unfold RepKs; exact ⟨rfl, rfl, rfl⟩, rfl⟩, by simp, fun c hc => .inl (by rw [show c = p by simpa using hc]; exact hp)⟩
  rcases hD with ⟨kvs, ha, e1, e2⟩ | ⟨kvs, ha, e1, e2⟩
  · have ekv : kvs = [] := by rw [ek] at e1; exact List.map_eq_nil_iff.mp e1.symm
    subst ekv
    refine ⟨a, _, ha, trivial, fun od => ?_⟩
    refine ⟨.ref a, hval, a, od, rfl, .inl ⟨[], upd_same, fun D hD => ?_⟩⟩
    have nDa : D ≠ a := fun z => by rw [z, upd_same] at hD; cases hD
    have hD0 : H D = none := by rwa [upd_ne nDa] at hD
    refine ⟨fun i m H' => i = 0 ∧ H' = upd (upd H a (.frz od (.dK []))) D (.lst []), ⟨0, rfl, rfl⟩, fun i m H' ⟨hi0, eH⟩ => .inl ?_⟩
    subst hi0 eH
    refine ⟨⟨by rw [upd_ne (Ne.symm nDa), upd_same], Nat.le_refl _⟩, D, [], [], rfl, SqL.of upd_same, .nil, fun p hp => ?_⟩
    have npD : p ≠ D := fun z => by rw [z, upd_same] at hp; cases hp
    have npa : p ≠ a := fun z => by rw [z, upd_ne (Ne.symm nDa), upd_same] at hp; cases hp
    have hp0 : H p = none := by rwa [upd_ne npD, upd_ne npa] at hp
    refine ⟨by rw [upd_ne (Ne.symm npa), upd_ne (Ne.symm nDa), upd_same], ?_⟩
    refine fin (.dK []) _ D p ha (by intro _ z; cases z) hD0 nDa ?_ hp0 npa npD
    funext b
    by_cases hb : b = a
    · subst hb; rw [upd_same, upd_same]
    · rw [upd_ne hb, upd_ne hb]
      by_cases hb2 : b = p
      · subst hb2; rw [upd_same, upd_same]; rfl
      · rw [upd_ne hb2, upd_ne hb2]
        by_cases hb3 : b = D
        · subst hb3; rw [upd_same, upd_same]
        · rw [upd_ne hb3, upd_ne hb3, upd_ne hb, upd_ne hb]
  · have ekv : kvs = [] := by rw [ek] at e1; exact List.map_eq_nil_iff.mp e1.symm
    subst ekv
    refine ⟨a, _, ha, trivial, fun od => ?_⟩
    refine ⟨.ref a, hval, a, od, rfl, .inr ⟨[], upd_same, fun D hD => ?_⟩⟩
    have nDa : D ≠ a := fun z => by rw [z, upd_same] at hD; cases hD
    have hD0 : H D = none := by rwa [upd_ne nDa] at hD
    refine ⟨fun i m H' => i = 0 ∧ H' = upd (upd H a (.frz od (.dT []))) D (.lst []), ⟨0, rfl, rfl⟩, fun i m H' ⟨hi0, eH⟩ => .inl ?_⟩
    subst hi0 eH
    refine ⟨⟨by rw [upd_ne (Ne.symm nDa), upd_same], Nat.le_refl _⟩, D, [], [], rfl, SqL.of upd_same, .nil, fun p hp => ?_⟩
    have npD : p ≠ D := fun z => by rw [z, upd_same] at hp; cases hp
    have npa : p ≠ a := fun z => by rw [z, upd_ne (Ne.symm nDa), upd_same] at hp; cases hp
    have hp0 : H p = none := by rwa [upd_ne npD, upd_ne npa] at hp
    refine ⟨by rw [upd_ne (Ne.symm npa), upd_ne (Ne.symm nDa), upd_same], ?_⟩
    refine fin (.dT []) _ D p ha (by intro _ z; cases z) hD0 nDa ?_ hp0 npa npD
    funext b
    by_cases hb : b = a
    · subst hb; rw [upd_same, upd_same]
    · rw [upd_ne hb, upd_ne hb]
      by_cases hb2 : b = p
      · subst hb2; rw [upd_same, upd_same]; rfl
      · rw [upd_ne hb2, upd_ne hb2]
        by_cases hb3 : b = D
        · subst hb3; rw [upd_same, upd_same]
        · rw [upd_ne hb3, upd_ne hb3, upd_ne hb, upd_ne hb]
end
end Vm

set_option Elab.async false
set_option linter.all false
set_option maxRecDepth 100000
set_option maxHeartbeats 1000000
namespace Vm
variable [TabsC]
open PySem L2

/-- what a slot owns is changed within itself -/
theorem ER.reown {G : Gx} {S : Addr → Prop} {H H' : Hp} {env : Env} {σ : St} {os : Nat → List Addr} (E : ER G S H env σ os) {x : Nat} {d d' : PyData} {u : V} {fp fp' : List Addr} (e : sl env x = some (.dat d .own)) (eu : val σ x = some u) (r : Rep G.K G.st H d u fp) (eo : os x = fp)
    (bu : But fp H H') (r' : Rep G.K G.st H' d' u fp') (nd : fp'.Nodup) (sub : ∀ c ∈ fp', c ∈ fp) : (∃ os', ER G S H' (env.set x (some (.dat d' .own))) σ os') ∧ KpD S H H' := by
  have kk := But.kp r.mu bu
  have nS : ∀ c ∈ fp, ¬ S c := fun c hc => E.ns x c (by rw [eo]; exact hc)
  have nO : ∀ j, j ≠ x → ∀ c ∈ fp, c ∉ os j := fun j hj c hc h => E.dj j x c hj h (by rw [eo]; exact hc)
  have n0 : ∀ c ∈ fp, G.H0 c = none := fun c hc => E.fr x c (by rw [eo]; exact hc)
  refine ⟨⟨fun j => if j = x then fp' else os j, ?_⟩, kk.weak fun c hc z => nS c z hc⟩
  refine ⟨by simp [E.len], fun j => ?_, fun i j c hij hi hj => ?_, fun i c hi hs => ?_, fun i c hi => ?_, E.sub, fun c hc => ?_, fun c o h1 h2 hc => ?_⟩
  · rw [sl_set]
    by_cases h : x = j
    · subst h
      simp only [if_true, sl_lt e]
      exact ⟨u, fp', eu, r', rfl, nd⟩
    · have h' : ¬ j = x := fun z => h z.symm
      simp only [h, h', if_false]
      exact (E.at_ j).kp kk fun c hc z => by
        rcases hc with hc | hc
        · exact nO j h' c z hc
        · exact nS c z hc
  · by_cases h1 : i = x
    · by_cases h2 : j = x
      · exact hij (h1.trans h2.symm)
      · rw [if_pos h1] at hi
        rw [if_neg h2] at hj
        exact nO j h2 c (sub c hi) hj
    · by_cases h2 : j = x
      · rw [if_neg h1] at hi
        rw [if_pos h2] at hj
        exact nO i h1 c (sub c hj) hi
      · rw [if_neg h1] at hi
        rw [if_neg h2] at hj
        exact E.dj i j c hij hi hj
  · by_cases h1 : i = x
    · rw [if_pos h1] at hi; exact nS c (sub c hi) hs
    · rw [if_neg h1] at hi; exact E.ns i c hi hs
  · by_cases h1 : i = x
    · rw [if_pos h1] at hi; exact n0 c (sub c hi)
    · rw [if_neg h1] at hi; exact E.fr i c hi
  · obtain ⟨⟨o, ho⟩, h⟩ := E.trk c hc
    exact ⟨⟨o, bu c o (fun z => nS c z hc) ho⟩, h⟩
  · exact bu c o (fun z => by rw [n0 c z] at hc; cases hc) (E.same c o h1 h2 hc)

/-! ### _law_spoilt(x) -/
def sSpoil (i : Nat) (env : Env) : M (Fl × Env) := match sl env i with
  | some (.dat d .own) => if decide (d.depth < 12) && roomy d then .ret (.nx, env.set i (some (.dat (spoil d) .own))) else .stuck
  | _ => .stuck
theorem ds_spoil {X : Cx} {i : Nat} {x : Str} {k : Nat} {st : Stmt} {pos p1 p2 spos : Pos} (Tp : ∃ g gd, X.mg "_law_spoilt" = some (.ref g) ∧ Fun X.K "_law_spoilt" "_law_spoilt" st g gd ∧ FnOk X.prog X.w X.K X.mg X.base CX0 k g gd ["thing"] (spSp X.K 12)) (bt : BindT "_law_spoilt" st ["thing"]) (hr : Room k X.A)
    (hN : X.N[i]? = some x) (hv : Vis X.env.scope x) (hgl : Gl X "_law_spoilt" := by rfl) (hd : (x == ("__debug__" : Str)) = false := by decide) (hcd : (x == ("__classdict__" : Str)) = false := by decide)
    (he : starEach [.Name x p2] X.env = (false, eval (.Name x p2) X.env) :: starEach [] X.env := by rfl) (hpl : (backTo pos (starEach [] X.env)).any (·.1) = false := by rfl)
    (hs : swapsWith (.Call (.Name "_law_spoilt" p1) [.Name x p2] [] pos) none spos.line X.env = pure false := by rfl) :
    DS X (.Expr (.Call (.Name "_law_spoilt" p1) [.Name x p2] [] pos) spos) (sSpoil i) := by
  obtain ⟨g, gd, hm, F, ok⟩ := Tp
  refine ⟨_, ps_expr (pe_call (CX := CX0) ok hr hgl hm F.kp (F.binds bt) .nil pass0 (pa_cons (pe_var hN hv hd hcd) pa_nil he) (by decide) he hpl) hs, fun G S H env σ os b D hK E sm h => ?_⟩
  unfold sSpoil at h
  split at h
  case h_2 => exact h.elim
  rename_i d e
  split at h
  case isFalse => exact h.elim
  rename_i hc
  simp only [Bool.and_eq_true, decide_eq_true_eq] at hc
  have hx := E.at_ i
  rw [e] at hx
  obtain ⟨u, fp, eu, r, eo, nd⟩ := hx
  refine ⟨u, val_some eu, u, d, fp, G.st, b, rfl, hc.1, hc.2, hK.K ▸ r, nd, sm, fun H' bu sm' r' => ?_⟩
  have r' : Rep G.K G.st H' (spoil d) u fp := by rw [hK.K]; exact r'
  obtain ⟨⟨os', E'⟩, k⟩ := E.reown e eu r eo bu r' nd fun c hc => hc
  exact h σ H' S os' (fun _ z => z) k E' sm'

/-! ### x[i] = e, x[i][j] = e -/
theorem Reps.set {K : PySem.W.Frag} {st : StA} {H : Hp} {d' : PyData} {v' : V} {fp' : List Addr} (r' : Rep K st H d' v' fp') : ∀ {ds : List PyData} {vs : List V} {fp : List Addr} (j : Nat), Reps K st H ds vs fp → ∃ f, Reps K st H (ds.set j d') (vs.set j v') f ∧ (∀ c ∈ f, c ∈ fp ∨ c ∈ fp') ∧ (fp.Nodup → fp'.Nodup → (∀ c ∈ fp', c ∉ fp) → f.Nodup)
  | [], _, _, j, r => by
    unfold Reps at r
    obtain ⟨rfl, rfl⟩ := r
    exact ⟨[], by unfold Reps; exact ⟨rfl, rfl⟩, fun c hc => .inl hc, fun _ _ _ => List.nodup_nil⟩
  | d :: ds, _, _, 0, r => by
    unfold Reps at r
    obtain ⟨v, vr, f1, f2, rfl, h1, h2, rfl⟩ := r
    refine ⟨fp' ++ f2, ?_, fun c hc => (List.mem_append.mp hc).elim .inr fun z => .inl (List.mem_append_right _ z), fun n1 n2 hd => List.nodup_append.mpr ⟨n2, (List.nodup_append.mp n1).2.1, fun c hc c' hc' e => hd c hc (List.mem_append_right _ (e ▸ hc'))⟩⟩
    show Reps K st H (d' :: ds) (v' :: vr) _
    unfold Reps
    exact ⟨v', vr, fp', f2, rfl, r', h2, rfl⟩
  | d :: ds, _, _, j + 1, r => by
    unfold Reps at r
    obtain ⟨v, vr, f1, f2, rfl, h1, h2, rfl⟩ := r
    obtain ⟨f, q, hf, hn⟩ := Reps.set r' j h2
    refine ⟨f1 ++ f, ?_, fun c hc => ?_, fun n1 n2 hd => ?_⟩
    · show Reps K st H (d :: ds.set j d') (v :: vr.set j v') _
      unfold Reps
      exact ⟨v, _, f1, f, rfl, h1, q, rfl⟩
    · rcases List.mem_append.mp hc with z | z
      · exact .inl (List.mem_append_left _ z)
      · exact (hf c z).imp (List.mem_append_right _) id
    · obtain ⟨m1, m2, m3⟩ := List.nodup_append.mp n1
      refine List.nodup_append.mpr ⟨m1, hn m2 n2 fun c hc z => hd c hc (List.mem_append_right _ z), fun c hc c' hc' e => ?_⟩
      subst e
      rcases hf c hc' with z | z
      · exact m3 c hc c z rfl
      · exact hd c z (List.mem_append_left _ hc)
/-- the place that an index tells -/
def mutSet (x : Nat) (k : Int) (d : PyData) (env : Env) : Option Env := match sl env x with
  | some (.dat (.list ds) .own) => if imm d = true then (ixN ds.length k).map fun j => env.set x (some (.dat (.list (ds.set j d)) .own)) else none
  | _ => none
def sSetIx (x : Nat) (fi fe : Env → M RV) (env : Env) : M (Fl × Env) := fe env >>= fun r => if isLst (sl env x) then fi env >>= fun ri => (match ri.d with
  | .int k => M.ofOption (mutSet x k r.d env) >>= fun env' => .ret (.nx, env')
  | _ => .stuck) else .stuck
theorem set_own {G : Gx} {S : Addr → Prop} {H : Hp} {env env' : Env} {σ : St} {os : Nat → List Addr} {x : Nat} {k : Int} {d : PyData} {v : V} {fp0 : List Addr} (E : ER G S H env σ os) (r0 : Rep G.K G.st H d v fp0) (h : mutSet x k d env = some env') :
    ∃ a vs j, val σ x = some (.ref a) ∧ H a = some (.lst vs) ∧ ixN vs.length k = some j ∧ (∃ os', ER G S (upd H a (.lst (vs.set j v))) env' σ os') ∧ KpD S H (upd H a (.lst (vs.set j v))) ∧ a ≠ G.st.1 ∧ Off G.st a := by
  unfold mutSet at h
  split at h
  case h_2 => cases h
  rename_i ds e
  split at h
  case isFalse => cases h
  rename_i hi
  rw [r0.fp_imm hi] at r0
  cases ej : ixN ds.length k with
  | none => rw [ej] at h; cases h
  | some j =>
  rw [ej] at h
  have h := Option.some.inj h
  subst h
  have hx := E.at_ x
  rw [e] at hx
  obtain ⟨u, fp, eu, r, eo, nd⟩ := hx
  have rr := r
  unfold Rep at r
  obtain ⟨a, vs, f, ev, ha, n1, n2, rs, ef⟩ := r
  subst ev ef
  obtain ⟨na, nf⟩ := List.nodup_cons.mp nd
  obtain ⟨f', rs', hf', hn'⟩ := Reps.set r0 j rs
  have nf' := hn' nf List.nodup_nil (fun c hc => by cases hc)
  have sub : ∀ c ∈ f', c ∈ f := fun c hc => (hf' c hc).elim id fun z => by cases z
  have bu : But (a :: f) H (upd H a (.lst (vs.set j v))) := fun c o hc ho => by rw [upd_ne (fun z => hc (by rw [z]; exact List.mem_cons_self))]; exact ho
  have kk : KpD (fun c => c ≠ a) H (upd H a (.lst (vs.set j v))) := kp_upd (.inr (.inl ⟨_, ha⟩))
  have r2 : Rep G.K G.st (upd H a (.lst (vs.set j v))) (.list (ds.set j d)) (.ref a) (a :: f') := by
    unfold Rep
    exact ⟨a, _, f', rfl, upd_same, n1, n2, rs'.kp kk fun c hc z => na (z ▸ sub c hc), rfl⟩
  obtain ⟨q1, q2⟩ := E.reown e eu rr eo bu r2 (List.nodup_cons.mpr ⟨fun z => na (sub a z), nf'⟩) fun c hc => (List.mem_cons.mp hc).elim (fun z => by rw [z]; exact List.mem_cons_self) fun z => List.mem_cons_of_mem _ (sub c z)
  exact ⟨a, vs, j, eu, ha, by rw [rs.length]; exact ej, q1, q2, n1, n2⟩
section
variable {X : Cx} {i e : Expr} {fi fj fe : Env → M RV} {pos p1 p2 : Pos} {x : Nat} {nm : Str}
theorem ds_setix (hN : X.N[x]? = some nm) (hv : Vis X.env.scope nm) (he : DE X e fe) (hi : DE X i fi) (hd : (nm == ("__debug__" : Str)) = false := by decide) (hcd : (nm == ("__classdict__" : Str)) = false := by decide)
    (hs : swapsWithSole [.Subscript (.Name nm p1) i p2] e pos.line X.env = pure false := by rfl) (hw : swappedStores [.Subscript (.Name nm p1) i p2] e X.env = pure none := by rfl)
    (h1 : (assignEach [.Subscript (.Name nm p1) i p2] X.env).map (·.2) = [assign (.Subscript (.Name nm p1) i p2) X.env] := by rfl)
    (ha : ∀ v, assign (.Subscript (.Name nm p1) i p2) X.env v = (do
      let ov ← holding [v] (eval (.Name nm p1) X.env)
      let iv ← holding [v, ov] (eval i X.env)
      standAt p2
      holding [v, ov, iv] (setItem ov iv v)
      release [v, ov, iv] []) := by intro _; rfl) : DS X (.Assign [.Subscript (.Name nm p1) i p2] e pos) (sSetIx x fi fe) := by
  obtain ⟨t, ht, qt⟩ := he
  obtain ⟨ti, hti, qti⟩ := hi
  refine ⟨_, ps_asg ht (pg_sub (pe_var hN hv hd hcd) hti set_list ha) hs hw h1, fun G S H env σ os b D hK E sm h => ?_⟩
  unfold sSetIx at h
  rw [M.all_bind] at h
  refine qt G S H env σ os b _ hK E sm (M.all_mono (fun r b1 h1 v H1 x1 sm1 ok1 => ?_) _ _ h)
  by_cases hl : isLst (sl env x) = true
  case neg => rw [if_neg hl] at h1; exact h1.elim
  rw [if_pos hl] at h1
  obtain ⟨fp, rp, _⟩ := ok1
  have E1 := E.mono sm x1
  have hval : ∃ u, val σ x = some u := by
    have hx := E.at_ x
    cases es : sl env x with
    | none => rw [es] at hl; cases hl
    | some s0 =>
      rw [es] at hx hl
      cases s0 with
      | stm => cases hl
      | dat d0 l0 => obtain ⟨u, _, eu, _⟩ := hx; exact ⟨u, eu⟩
  obtain ⟨u, eu⟩ := hval
  refine ⟨u, val_some eu, ?_⟩
  rw [M.all_bind] at h1
  refine qti G S H1 env σ os b1 _ hK E1 sm1 (M.all_mono (fun ri b2 h2 w H2 x2 sm2 ok2 => ?_) _ _ h1)
  obtain ⟨fq, rq, _⟩ := ok2
  split at h2
  case h_2 => exact h2.elim
  rename_i k ek
  rw [ek] at rq
  rw [M.all_bind] at h2
  obtain ⟨env', hm, h2⟩ := M.all_ofOption.mp h2
  have E2 := E1.mono sm1 x2
  have rp2 : Rep G.K G.st H2 r.d v fp := by rw [hK.K]; exact rp.sameX sm1 x2
  obtain ⟨a, vs, j, ea, ha, hj, ⟨os', E'⟩, kp, n1, n2⟩ := set_own E2 rp2 hm
  rw [eu] at ea
  refine ⟨a, vs, k, j, Option.some.inj ea, rq.int_inv, ha, hj, ?_⟩
  exact h2 σ _ S os' (fun _ z => z) (((x1.trans x2).kpS E sm).trans kp) E' (sm2.updL (.inr (.inl ⟨_, ha⟩)) n1 n2)
end
end Vm

set_option Elab.async false
set_option linter.all false
set_option maxRecDepth 100000
set_option maxHeartbeats 1000000
namespace Vm
variable [TabsC]
open PySem L2

/-! ### x[i][j] = e -/
theorem Reps.at_upd {K : PySem.W.Frag} {st : StA} {H : Hp} {es : List PyData} {d : PyData} {v : V} (r0 : Rep K st H d v []) (j : Nat) : ∀ {ds : List PyData} {vs : List V} {fp : List Addr} (i : Nat), Reps K st H ds vs fp → fp.Nodup → ds[i]? = some (.list es) →
    ∃ p us, vs[i]? = some (.ref p) ∧ H p = some (.lst us) ∧ p ∈ fp ∧ us.length = es.length ∧ p ≠ st.1 ∧ Off st p ∧ ∃ f', Reps K st (upd H p (.lst (us.set j v))) (ds.set i (.list (es.set j d))) vs f' ∧ f'.Nodup ∧ ∀ c ∈ f', c ∈ fp
  | [], _, _, i, r, nd, e => by simp at e
  | d0 :: ds, _, _, 0, r, nd, e => by
    unfold Reps at r
    obtain ⟨v0, vr, f1, f2, rfl, h1, h2, rfl⟩ := r
    simp at e
    subst e
    unfold Rep at h1
    obtain ⟨p, us, f, rfl, hp, n1, n2, rs, rfl⟩ := h1
    obtain ⟨m1, m2, m3⟩ := List.nodup_append.mp nd
    obtain ⟨np, nf⟩ := List.nodup_cons.mp m1
    obtain ⟨f', rs', hf', hn'⟩ := Reps.set r0 j rs
    have sub : ∀ c ∈ f', c ∈ f := fun c hc => (hf' c hc).elim id fun z => by cases z
    have nf' := hn' nf List.nodup_nil (fun c hc => by cases hc)
    have kk : KpD (fun c => c ≠ p) H (upd H p (.lst (us.set j v))) := kp_upd (.inr (.inl ⟨_, hp⟩))
    refine ⟨p, us, rfl, hp, by simp, rs.length, n1, n2, (p :: f') ++ f2, ?_, ?_, fun c hc => ?_⟩
    · show Reps K st _ (.list (es.set j d) :: ds) (.ref p :: vr) _
      unfold Reps
      refine ⟨.ref p, vr, p :: f', f2, rfl, ?_, h2.kp kk fun c hc z => m3 p List.mem_cons_self c hc z.symm, rfl⟩
      unfold Rep
      exact ⟨p, _, f', rfl, upd_same, n1, n2, rs'.kp kk fun c hc z => np (z ▸ sub c hc), rfl⟩
    · refine List.nodup_append.mpr ⟨List.nodup_cons.mpr ⟨fun z => np (sub p z), nf'⟩, m2, fun c hc c' hc' e => ?_⟩
      refine m3 c ?_ c' hc' e
      exact (List.mem_cons.mp hc).elim (fun z => by rw [z]; exact List.mem_cons_self) fun z => List.mem_cons_of_mem _ (sub c z)
    · rcases List.mem_append.mp hc with z | z
      · exact List.mem_append_left _ ((List.mem_cons.mp z).elim (fun z => by rw [z]; exact List.mem_cons_self) fun z => List.mem_cons_of_mem _ (sub c z))
      · exact List.mem_append_right _ z
  | d0 :: ds, _, _, i + 1, r, nd, e => by
    unfold Reps at r
    obtain ⟨v0, vr, f1, f2, rfl, h1, h2, rfl⟩ := r
    obtain ⟨m1, m2, m3⟩ := List.nodup_append.mp nd
    obtain ⟨p, us, e1, hp, hm, hl, n1, n2, f', rs', nf', sub⟩ := Reps.at_upd r0 j i h2 m2 (by simpa using e)
    have kk : KpD (fun c => c ≠ p) H (upd H p (.lst (us.set j v))) := kp_upd (.inr (.inl ⟨_, hp⟩))
    refine ⟨p, us, by simpa using e1, hp, List.mem_append_right _ hm, hl, n1, n2, f1 ++ f', ?_, ?_, fun c hc => ?_⟩
    · show Reps K st _ (d0 :: ds.set i (.list (es.set j d))) (v0 :: vr) _
      unfold Reps
      exact ⟨v0, vr, f1, f', rfl, h1.kp kk fun c hc z => m3 c hc p hm z, rs', rfl⟩
    · exact List.nodup_append.mpr ⟨m1, nf', fun c hc c' hc' e => m3 c hc c' (sub c' hc') e⟩
    · exact (List.mem_append.mp hc).elim (fun z => List.mem_append_left _ z) fun z => List.mem_append_right _ (sub c z)
def rowAt (k : Int) : Option Sl → Option (Nat × List PyData × List PyData)
  | some (.dat (.list ds) .own) => (ixN ds.length k).bind fun i => match ds[i]? with
    | some (.list es) => some (i, ds, es)
    | _ => none
  | _ => none
def sSetIx2 (x : Nat) (fi fj fe : Env → M RV) (env : Env) : M (Fl × Env) := fe env >>= fun r => if isLst (sl env x) then fi env >>= fun ri => (match ri.d with
  | .int k1 => M.ofOption (rowAt k1 (sl env x)) >>= fun q => fj env >>= fun rj => (match rj.d with
    | .int k2 => M.ofOption (ixN q.2.2.length k2) >>= fun j => if imm r.d then .ret (.nx, env.set x (some (.dat (.list (q.2.1.set q.1 (.list (q.2.2.set j r.d)))) .own))) else .stuck
    | _ => .stuck)
  | _ => .stuck) else .stuck
section
variable {X : Cx} {i j e : Expr} {fi fj fe : Env → M RV} {pos p1 p2 p3 : Pos} {x : Nat} {nm : Str}
theorem ds_setix2 (hN : X.N[x]? = some nm) (hv : Vis X.env.scope nm) (he : DE X e fe) (hi : DE X i fi) (hj : DE X j fj) (hd : (nm == ("__debug__" : Str)) = false := by decide) (hcd : (nm == ("__classdict__" : Str)) = false := by decide)
    (hsl : NoSl i := by intro _ _; rfl)
    (hs : swapsWithSole [.Subscript (.Subscript (.Name nm p1) i p3) j p2] e pos.line X.env = pure false := by rfl) (hw : swappedStores [.Subscript (.Subscript (.Name nm p1) i p3) j p2] e X.env = pure none := by rfl)
    (h1 : (assignEach [.Subscript (.Subscript (.Name nm p1) i p3) j p2] X.env).map (·.2) = [assign (.Subscript (.Subscript (.Name nm p1) i p3) j p2) X.env] := by rfl)
    (ha : ∀ v, assign (.Subscript (.Subscript (.Name nm p1) i p3) j p2) X.env v = (do
      let ov ← holding [v] (eval (.Subscript (.Name nm p1) i p3) X.env)
      let iv ← holding [v, ov] (eval j X.env)
      standAt p2
      holding [v, ov, iv] (setItem ov iv v)
      release [v, ov, iv] []) := by intro _; rfl) : DS X (.Assign [.Subscript (.Subscript (.Name nm p1) i p3) j p2] e pos) (sSetIx2 x fi fj fe) := by
  obtain ⟨t, ht, qt⟩ := he
  obtain ⟨ti, hti, qti⟩ := hi
  obtain ⟨tj, htj, qtj⟩ := hj
  refine ⟨_, ps_asg ht (pg_sub (pe_ix ix_list (pe_var hN hv hd hcd) hti hsl) htj set_list ha) hs hw h1, fun G S H env σ os b D hK E sm h => ?_⟩
  unfold sSetIx2 at h
  rw [M.all_bind] at h
  refine qt G S H env σ os b _ hK E sm (M.all_mono (fun r b1 h1 v H1 x1 sm1 ok1 => ?_) _ _ h)
  by_cases hl : isLst (sl env x) = true
  case neg => rw [if_neg hl] at h1; exact h1.elim
  rw [if_pos hl] at h1
  obtain ⟨fp, rp, _⟩ := ok1
  have E1 := E.mono sm x1
  have hval : ∃ u, val σ x = some u := by
    have hx := E.at_ x
    cases es : sl env x with
    | none => rw [es] at hl; cases hl
    | some s0 =>
      rw [es] at hx hl
      cases s0 with
      | stm => cases hl
      | dat d0 l0 => obtain ⟨u, _, eu, _⟩ := hx; exact ⟨u, eu⟩
  obtain ⟨u, eu⟩ := hval
  refine ⟨u, val_some eu, ?_⟩
  rw [M.all_bind] at h1
  refine qti G S H1 env σ os b1 _ hK E1 sm1 (M.all_mono (fun ri b2 h2 w H2 x2 sm2 ok2 => ?_) _ _ h1)
  obtain ⟨fq, rq, _⟩ := ok2
  split at h2
  case h_2 => exact h2.elim
  rename_i k ek
  rw [ek] at rq
  rw [M.all_bind] at h2
  obtain ⟨q, hq, h2⟩ := M.all_ofOption.mp h2
  have E2 := E1.mono sm1 x2
  cases es : sl env x with
  | none => rw [es] at hl; cases hl
  | some s0 =>
  rw [es] at hq
  unfold rowAt at hq
  split at hq
  case h_2 => cases hq
  rename_i ds eds
  cases ei : ixN ds.length k with
  | none => rw [ei] at hq; cases hq
  | some ii =>
  rw [ei] at hq
  change (match ds[ii]? with
    | some (.list es) => some (ii, ds, es)
    | _ => none) = some q at hq
  split at hq
  case h_2 => cases hq
  rename_i es' ees
  have hq := Option.some.inj hq
  subst hq
  have esl : sl env x = some (.dat (.list ds) .own) := es.trans eds
  have hx := E2.at_ x
  rw [esl] at hx
  obtain ⟨u', fu, eu', ru, eo, nd⟩ := hx
  have ru0 := ru
  unfold Rep at ru
  obtain ⟨a, vs, f, eua, hla, n1, n2, rs, ef⟩ := ru
  subst eua ef
  rw [eu] at eu'
  have eua := Option.some.inj eu'
  obtain ⟨na, nf⟩ := List.nodup_cons.mp nd
  obtain ⟨p0, us0, ev0, hp0, _, _, _, _, _⟩ := Reps.at_upd (K := G.K) (st := G.st) (d := .none) (v := .non) Rep.of_none 0 ii rs nf ees
  refine ⟨a, vs, k, .ref p0, eua, rq.int_inv, SqL.of hla, by unfold atI; rw [rs.length, ei]; exact ev0, ?_⟩
  rw [M.all_bind] at h2
  refine qtj G S H2 env σ os b2 _ hK E2 sm2 (M.all_mono (fun rj b3 h3 w3 H3 x3 sm3 ok3 => ?_) _ _ h2)
  obtain ⟨fj', rj', _⟩ := ok3
  split at h3
  case h_2 => exact h3.elim
  rename_i k2 ek2
  rw [ek2] at rj'
  rw [M.all_bind] at h3
  obtain ⟨j', hj', h3⟩ := M.all_ofOption.mp h3
  by_cases him : imm r.d = true
  case neg => rw [if_neg him] at h3; exact h3.elim
  rw [if_pos him] at h3
  have E3 := E2.mono sm2 x3
  have rp3 : Rep G.K G.st H3 r.d v fp := by rw [hK.K]; exact ((rp.sameX sm1 x2).sameX sm2 x3)
  rw [rp3.fp_imm him] at rp3
  have ru3 := ru0.sameX sm2 x3
  have rs3 := rs.sameX sm2 x3
  obtain ⟨p, us, ev, hp, hm, hlen, m1, m2, f', rs', nf', sub⟩ := Reps.at_upd rp3 j' ii rs3 nf ees
  have epp : p = p0 := by
    rw [ev] at ev0
    injection ev0 with z
    injection z
  subst epp
  refine ⟨p, us, k2, j', rfl, rj'.int_inv, hp, by rw [hlen]; exact hj', ?_⟩
  have hla3 : H3 a = some (.lst vs) := x3 a _ n1 n2 hla
  have npa : a ≠ p := fun z => na (z ▸ hm)
  have bu : But (a :: f) H3 (upd H3 p (.lst (us.set j' v))) := fun c o hc ho => by rw [upd_ne (fun z => hc (by rw [z]; exact List.mem_cons_of_mem _ hm))]; exact ho
  have r2 : Rep G.K G.st (upd H3 p (.lst (us.set j' v))) (.list (ds.set ii (.list (es'.set j' r.d)))) (.ref a) (a :: f') := by
    unfold Rep
    exact ⟨a, vs, f', rfl, by rw [upd_ne npa]; exact hla3, n1, n2, rs', rfl⟩
  obtain ⟨⟨os', E'⟩, kp⟩ := E3.reown esl (by rw [eu, eua]) ru3 eo bu r2 (List.nodup_cons.mpr ⟨fun z => na (sub a z), nf'⟩) fun c hc => (List.mem_cons.mp hc).elim (fun z => by rw [z]; exact List.mem_cons_self) fun z => List.mem_cons_of_mem _ (sub c z)
  exact h3 σ _ S os' (fun _ z => z) ((((x1.trans x2).trans x3).kpS E sm).trans kp) E' (sm3.updL (.inr (.inl ⟨_, hp⟩)) m1 m2)
end

/-! ### x.append(y.pop(e)) -/
def mutPop (y : Nat) (k : Int) (env : Env) : Option (RV × Env) := match sl env y with
  | some (.dat (.list ds) lv) => if lv = .shr ∨ sm62 k = false then none else (ixN ds.length k).bind fun j => (ds[j]?).map fun d => (mkRV d .shr [], env.set y (some (.dat (.list (ds.eraseIdx j)) (if lv = .own ∧ imms ds = true then .own else .top))))
  | _ => none
theorem Reps.erase {K : PySem.W.Frag} {st : StA} {H : Hp} : ∀ {ds : List PyData} {vs : List V} {fp : List Addr} (j : Nat), Reps K st H ds vs fp → ∃ f, Reps K st H (ds.eraseIdx j) (vs.eraseIdx j) f ∧ ∀ c ∈ f, c ∈ fp
  | [], _, _, j, r => by
    unfold Reps at r
    obtain ⟨rfl, rfl⟩ := r
    exact ⟨[], by simp [Reps], fun c hc => hc⟩
  | d :: ds, _, _, 0, r => by
    unfold Reps at r
    obtain ⟨v, vr, f1, f2, rfl, h1, h2, rfl⟩ := r
    exact ⟨f2, by simpa using h2, fun c hc => List.mem_append_right _ hc⟩
  | d :: ds, _, _, j + 1, r => by
    unfold Reps at r
    obtain ⟨v, vr, f1, f2, rfl, h1, h2, rfl⟩ := r
    obtain ⟨f, q, hf⟩ := Reps.erase j h2
    refine ⟨f1 ++ f, ?_, fun c hc => (List.mem_append.mp hc).elim (fun z => List.mem_append_left _ z) fun z => List.mem_append_right _ (hf c z)⟩
    show Reps K st H (d :: ds.eraseIdx j) (v :: vr.eraseIdx j) _
    unfold Reps
    exact ⟨v, _, f1, f, rfl, h1, q, rfl⟩
theorem pop_go {G : Gx} {S : Addr → Prop} {H : Hp} {env env' : Env} {σ : St} {os : Nat → List Addr} {y : Nat} {k : Int} {r : RV} {b : Nat} (E : ER G S H env σ os) (sm : Stm H G.st b) (h : mutPop y k env = some (r, env')) :
    ∃ a vs j v, val σ y = some (.ref a) ∧ H a = some (.lst vs) ∧ ixN vs.length k = some j ∧ vs[j]? = some v ∧ sm62 k = true ∧ a ≠ G.st.1 ∧ Off G.st a ∧ ∃ S' os', (∀ c, S c → S' c) ∧ KpD S H (upd H a (.lst (vs.eraseIdx j))) ∧ ER G S' (upd H a (.lst (vs.eraseIdx j))) env' σ os' ∧
      RVok G.K G.st S' os' (upd H a (.lst (vs.eraseIdx j))) (upd H a (.lst (vs.eraseIdx j))) r v := by
  unfold mutPop at h
  split at h
  case h_2 => cases h
  rename_i ds lv e
  by_cases hc : lv = .shr ∨ sm62 k = false
  · rw [if_pos hc] at h; cases h
  rw [if_neg hc] at h
  have hl : lv ≠ .shr := fun z => hc (.inl z)
  have hk : sm62 k = true := by
    cases z : sm62 k with
    | true => rfl
    | false => exact absurd (.inr z) hc
  cases ej : ixN ds.length k with
  | none => rw [ej] at h; cases h
  | some j =>
  rw [ej] at h
  change (ds[j]?).map _ = _ at h
  cases ed : ds[j]? with
  | none => rw [ed] at h; cases h
  | some d =>
  rw [ed] at h
  have h := Option.some.inj h
  injection h with e1 e2
  subst e1 e2
  by_cases ho : lv = .own ∧ imms ds = true
  · rw [if_pos ho]
    obtain ⟨ho, hi⟩ := ho
    subst ho
    have hx := E.at_ y
    rw [e] at hx
    obtain ⟨u, fp, eu, r, eo, nd⟩ := hx
    unfold Rep at r
    obtain ⟨a, vs, f, rfl, ha, n1, n2, rs, ef⟩ := r
    have ef0 := rs.fp_imm hi
    subst ef0
    obtain ⟨f', rs', hf'⟩ := Reps.erase j rs
    obtain ⟨v, fv, ev, rv, hfv⟩ := rs.get ed
    have efv : fv = [] := List.eq_nil_iff_forall_not_mem.mpr fun c hc => by cases hfv c hc
    subst efv
    have ef' : f' = [] := List.eq_nil_iff_forall_not_mem.mpr fun c hc => by cases hf' c hc
    subst ef'
    obtain ⟨⟨os', E'⟩, aox, n12, aS, kk⟩ := E.mutL (ds' := ds.eraseIdx j) (lv' := .own) (vs' := vs.eraseIdx j) (f' := []) e hl eu ha rs' (by simp) (.inr ⟨rfl, List.nodup_nil, fun c hc => by cases hc⟩)
    have him : imm d = true := imms_iff.mp hi d (List.mem_of_getElem? ed)
    refine ⟨a, vs, j, v, eu, ha, by rw [rs.length]; exact ej, ev, hk, n1, n2, S, os', fun _ z => z, kk.weak fun c hc z => aS (z ▸ hc), E', RVok.mk (rv.kp kk fun c hc => by cases hc) fun z => by rw [him] at z; cases z⟩
  · rw [if_neg ho]
    obtain ⟨a, vs, f, S2, os2, eu, ha, rs, E2, hs2, hf2, ox, oj, naf⟩ := E.demote e hl
    have esl2 : sl (env.set y (some (.dat (.list ds) .top))) y = some (.dat (.list ds) .top) := by rw [sl_set, if_pos rfl, if_pos (sl_lt e)]
    obtain ⟨f', rs', hf'⟩ := Reps.erase j rs
    obtain ⟨v, fv, ev, rv, hfv⟩ := rs.get ed
    have aS2 : ¬ S2 a := E2.ns y a (by rw [ox]; exact List.mem_cons_self)
    obtain ⟨⟨os3, E3⟩, aox, n12, aS, kk⟩ := E2.mutL (ds' := ds.eraseIdx j) (lv' := .top) (vs' := vs.eraseIdx j) (f' := f') esl2 (by intro z; cases z) eu ha rs' (fun z => naf (hf' a z)) (.inl ⟨rfl, fun c hc => hf2 c (hf' c hc)⟩)
    rw [List.set_set] at E3
    refine ⟨a, vs, j, v, eu, ha, by rw [rs.length]; exact ej, ev, hk, n12.1, n12.2, S2, os3, hs2, kk.weak fun c hc z => aS (z ▸ hs2 c hc), E3, RVok.mk (rv.kp kk fun c hc z => naf (z ▸ hfv c hc)) fun _ c hc => .inr (.inl (hf2 c (hfv c hc)))⟩
def sAppPop (x y : Nat) (f : Env → M RV) (env : Env) : M (Fl × Env) := if isLst (sl env x) && isLst (sl env y) && decide (x ≠ y) then f env >>= fun r => (match r.d with
  | .int k => M.ofOption (mutPop y k env) >>= fun q => M.ofOption (mutApp x q.1 q.2) >>= fun env' => .ret (.nx, env')
  | _ => .stuck) else .stuck
section
variable {X : Cx} {fe : Env → M RV} {e : Expr} {x y : Nat} {nm ny : Str} {p1 p2 p3 p4 p5 pos spos : Pos}
theorem isLst_val {G : Gx} {S : Addr → Prop} {H : Hp} {env : Env} {σ : St} {os : Nat → List Addr} (E : ER G S H env σ os) {x : Nat} (h : isLst (sl env x) = true) : ∃ a vs, val σ x = some (.ref a) ∧ H a = some (.lst vs) := by
  have hx := E.at_ x
  cases es : sl env x with
  | none => rw [es] at h; cases h
  | some s0 =>
    rw [es] at hx h
    cases s0 with
    | stm => cases h
    | dat d0 l0 =>
      cases d0 with
      | list ds =>
        obtain ⟨u, _, eu, r, _⟩ := hx
        unfold Rep at r
        obtain ⟨a, vs, _, rfl, ha, _⟩ := r
        exact ⟨a, vs, eu, ha⟩
      | _ => cases h
theorem ds_apppop (hN : X.N[x]? = some nm) (hv : Vis X.env.scope nm) (hN2 : X.N[y]? = some ny) (hv2 : Vis X.env.scope ny) (he : DE X e fe) (hd : (nm == ("__debug__" : Str)) = false := by decide) (hcd : (nm == ("__classdict__" : Str)) = false := by decide) (hd2 : (ny == ("__debug__" : Str)) = false := by decide) (hcd2 : (ny == ("__classdict__" : Str)) = false := by decide)
    (hbase2 : attributeBase (.Name ny p3) "pop" X.env (eval (.Name ny p3) X.env) = eval (.Name ny p3) X.env := by rfl)
    (hfew2 : ((backTo p5 (starEach (e :: []) X.env)).all (fun x => !x.1) && (backToKw p5 (keywordEach [] X.env)).all (fun x => x.1.isSome)
      && decide ((e :: ([] : List Expr)).length + ([] : List Keyword).length + (if ([] : List Keyword).isEmpty then 0 else 1) < 30)) = true := by rfl)
    (hline2 : (p4.endLine == p5.line) = true := by rfl) (hst2 : starEach (e :: []) X.env = (false, eval e X.env) :: starEach [] X.env := by rfl) (hplain2 : (backTo p5 (starEach [] X.env)).any (·.1) = false := by rfl)
    (hbase : attributeBase (.Name nm p1) "append" X.env (eval (.Name nm p1) X.env) = eval (.Name nm p1) X.env := by rfl)
    (hfew : ((backTo pos (starEach (.Call (.Attribute (.Name ny p3) "pop" p4) [e] [] p5 :: []) X.env)).all (fun x => !x.1) && (backToKw pos (keywordEach [] X.env)).all (fun x => x.1.isSome)
      && decide ((Expr.Call (.Attribute (.Name ny p3) "pop" p4) [e] [] p5 :: ([] : List Expr)).length + ([] : List Keyword).length + (if ([] : List Keyword).isEmpty then 0 else 1) < 30)) = true := by rfl)
    (hline : (p2.endLine == pos.line) = true := by rfl) (hst : starEach (.Call (.Attribute (.Name ny p3) "pop" p4) [e] [] p5 :: []) X.env = (false, eval (.Call (.Attribute (.Name ny p3) "pop" p4) [e] [] p5) X.env) :: starEach [] X.env := by rfl) (hplain : (backTo pos (starEach [] X.env)).any (·.1) = false := by rfl)
    (hs : swapsWith (.Call (.Attribute (.Name nm p1) "append" p2) [.Call (.Attribute (.Name ny p3) "pop" p4) [e] [] p5] [] pos) none spos.line X.env = pure false := by rfl) :
    DS X (.Expr (.Call (.Attribute (.Name nm p1) "append" p2) [.Call (.Attribute (.Name ny p3) "pop" p4) [e] [] p5] [] pos) spos) (sAppPop x y fe) := by
  obtain ⟨t, ht, qt⟩ := he
  refine ⟨_, ps_expr (pe_bm PySem.F.plainAttrs_list PySem.F.slot_list_append PySem.F.type_list_append mt_append (pe_var hN hv hd hcd) (pa_cons (pe_bm PySem.F.plainAttrs_list PySem.F.slot_list_pop PySem.F.type_list_pop mt_popAt (pe_var hN2 hv2 hd2 hcd2) (pa_cons ht pa_nil hst2) hbase2 hfew2 hline2 hst2 hplain2) pa_nil hst) hbase hfew hline hst hplain) hs, fun G S H env σ os b D hK E sm h => ?_⟩
  unfold sAppPop at h
  split at h
  case isFalse => exact h.elim
  rename_i hc
  simp only [Bool.and_eq_true, decide_eq_true_eq] at hc
  obtain ⟨⟨hx, hy⟩, hxy⟩ := hc
  obtain ⟨a, vs, ea, ha⟩ := isLst_val E hx
  obtain ⟨c, us, ec, hcl⟩ := isLst_val E hy
  refine ⟨.ref a, val_some ea, .inl ⟨rfl, vs, SqL.of ha⟩, .ref c, val_some ec, .inl ⟨rfl, us, SqL.of hcl⟩, ?_⟩
  rw [M.all_bind] at h
  refine qt G S H env σ os b _ hK E sm (M.all_mono (fun r b1 h1 v H1 x1 sm1 ok1 => ?_) _ _ h)
  obtain ⟨fp, rp, _⟩ := ok1
  split at h1
  case h_2 => exact h1.elim
  rename_i k ek
  rw [ek] at rp
  rw [M.all_bind] at h1
  obtain ⟨q, hq, h1⟩ := M.all_ofOption.mp h1
  rw [M.all_bind] at h1
  obtain ⟨env', hm, h1⟩ := M.all_ofOption.mp h1
  have E1 := E.mono sm x1
  obtain ⟨c', us', j, w, ec', hc', hj, hw, hs62, n1, n2, S', os', hsub, hkp, E2, okw⟩ := pop_go (r := q.1) (env' := q.2) E1 sm1 hq
  rw [ec] at ec'
  have ecc : c = c' := by injection ec' with z; injection z
  subst ecc
  have sm2 : Stm (upd H1 c (.lst (us'.eraseIdx j))) G.st b1 := sm1.updL (.inr (.inl ⟨_, hc'⟩)) n1 n2
  obtain ⟨hj1, hj2, hj3, hj4⟩ := ixN_seq hj
  refine ⟨c, us', k, j, w, rfl, by rw [rp.int_inv], hc', by have := (sm62_ok hs62).1; omega, by have := (sm62_ok hs62).2; omega, hj1, hw, ?_⟩
  obtain ⟨a', vs', e1, ha', hz, S'', os'', hs2, hk2, E3, m1, m2⟩ := app_go E2 sm2 (SameX.refl _) okw hm
  rw [ea] at e1
  refine ⟨a', vs', w, Option.some.inj e1, rfl, ha', hz, ?_⟩
  exact h1 σ _ S'' os'' (fun z hz => hs2 z (hsub z hz)) (((x1.kpS E sm).trans hkp).trans (hk2.weak hsub)) E3 (sm2.updL (.inr (.inl ⟨_, ha'⟩)) m1 m2)
end
end Vm

set_option Elab.async false
set_option linter.all false
set_option maxRecDepth 100000
set_option maxHeartbeats 400000
namespace D94
open PySem L2 Vm
variable [TabsC]
def top (i : Nat) : Stmt := PySem.Challenge.pw_switchrests_k94_whole_deciding_heeds.main.body.getD i (.Pass ⟨0, 0, 0, 0⟩)
abbrev s__law_stream : Stmt := top 32
abbrev s__law_same : Stmt := top 36
abbrev s__law_draw : Stmt := top 33
abbrev s__law_mixed : Stmt := top 35
abbrev s__law_states : Stmt := top 42
abbrev s__law_row : Stmt := top 48
abbrev s_is_one : Stmt := top 21
abbrev s_heeds_of : Stmt := top 19
abbrev s_states_of : Stmt := top 9
abbrev s_at_value : Stmt := top 20
abbrev s_deciding_by : Stmt := top 22
abbrev s_peeled : Stmt := top 25
abbrev s_is_list : Stmt := top 1
abbrev s_is_row : Stmt := top 5
abbrev s_is_whole : Stmt := top 2
abbrev s_is_number : Stmt := top 3
abbrev s_is_below : Stmt := top 4
abbrev s_kept_values : Stmt := top 10
abbrev s_kept_row : Stmt := top 17
abbrev s_need_row : Stmt := top 18
abbrev s_nested_or_stuck : Stmt := top 26
abbrev s__law_copied : Stmt := top 38
abbrev s__law_spoilt : Stmt := top 37
abbrev s_deciding : Stmt := top 23
abbrev s_layer_of : Stmt := top 29
abbrev s_layers : Stmt := top 30
abbrev s__law_loose : Stmt := top 39
abbrev s__law_at : Stmt := top 44
abbrev s__law_deciding : Stmt := top 45
abbrev s__law_peel : Stmt := top 46
abbrev s__law_twice : Stmt := top 40
abbrev s__law_is_number : Stmt := top 41
abbrev s__law_is_peeling : Stmt := top 47
abbrev s__law_pick : Stmt := top 34
abbrev s__law_bent : Stmt := top 49
abbrev s_lessened : Stmt := top 24
abbrev s__law_met : Stmt := top 43
abbrev s_is_step : Stmt := top 27
abbrev s_is_peeling : Stmt := top 28
abbrev s_law : Stmt := top 50
def metHds : List ExceptHandler := match defBody s__law_met with
  | [.Try _ hs _ _ _] => hs
  | _ => []
def mets : List (Str × Str × Option Str) := [("NotNested", "not nested", none)]
structure Tx (K : PySem.W.Frag) (mg : Str → Option Value) : Prop where
  d__law_stream : DefT K mg "_law_stream" s__law_stream
  d__law_same : DefT K mg "_law_same" s__law_same
  d__law_draw : DefT K mg "_law_draw" s__law_draw
  d__law_mixed : DefT K mg "_law_mixed" s__law_mixed
  d__law_states : DefT K mg "_law_states" s__law_states
  d__law_row : DefT K mg "_law_row" s__law_row
  d_is_one : DefT K mg "is_one" s_is_one
  d_heeds_of : DefT K mg "heeds_of" s_heeds_of
  d_states_of : DefT K mg "states_of" s_states_of
  d_at_value : DefT K mg "at_value" s_at_value
  d_deciding_by : DefT K mg "deciding_by" s_deciding_by
  d_peeled : DefT K mg "peeled" s_peeled
  d_is_list : DefT K mg "is_list" s_is_list
  d_is_row : DefT K mg "is_row" s_is_row
  d_is_whole : DefT K mg "is_whole" s_is_whole
  d_is_number : DefT K mg "is_number" s_is_number
  d_is_below : DefT K mg "is_below" s_is_below
  d_kept_values : DefT K mg "kept_values" s_kept_values
  d_kept_row : DefT K mg "kept_row" s_kept_row
  d_need_row : DefT K mg "need_row" s_need_row
  d_nested_or_stuck : DefT K mg "nested_or_stuck" s_nested_or_stuck
  d__law_copied : DefT K mg "_law_copied" s__law_copied
  d__law_spoilt : DefT K mg "_law_spoilt" s__law_spoilt
  d_deciding : DefT K mg "deciding" s_deciding
  d_layer_of : DefT K mg "layer_of" s_layer_of
  d_layers : DefT K mg "layers" s_layers
  d__law_loose : DefT K mg "_law_loose" s__law_loose
  d__law_at : DefT K mg "_law_at" s__law_at
  d__law_deciding : DefT K mg "_law_deciding" s__law_deciding
  d__law_peel : DefT K mg "_law_peel" s__law_peel
  d__law_twice : DefT K mg "_law_twice" s__law_twice
  d__law_is_number : DefT K mg "_law_is_number" s__law_is_number
  d__law_is_peeling : DefT K mg "_law_is_peeling" s__law_is_peeling
  d__law_pick : DefT K mg "_law_pick" s__law_pick
  d__law_bent : DefT K mg "_law_bent" s__law_bent
  d_lessened : DefT K mg "lessened" s_lessened
  d__law_met : DefT K mg "_law_met" s__law_met
  d_is_step : DefT K mg "is_step" s_is_step
  d_is_peeling : DefT K mg "is_peeling" s_is_peeling
  n_abs : mg "abs" = none
  n_all : mg "all" = none
  n_bool : mg "bool" = none
  n_dict : mg "dict" = none
  n_enumerate : mg "enumerate" = none
  n_int : mg "int" = none
  n_isinstance : mg "isinstance" = none
  n_len : mg "len" = none
  n_list : mg "list" = none
  n_range : mg "range" = none
  n_str : mg "str" = none
  n_tuple : mg "tuple" = none
  n_zip : mg "zip" = none
  e_NotNested : Exc0 K mg "NotNested"
  x_NotNested : ∃ C, mg "NotNested" = some (.ref C) ∧ PySem.W.nsIn K mainGlobals "NotNested" = some (some (.ref C)) ∧ ∀ y, (none : Option Str) = some y → XfC K C ∧ PySem.W.findIn K (.ref C) y = some none
  exms : Exms K mets
theorem sc__law_stream : FnScope ["script"] ["script"] (defScope s__law_stream) := ⟨rfl, rfl, rfl, by decide +kernel, rfl, by decide +kernel, by decide +kernel⟩
theorem bt__law_stream : BindT "_law_stream" s__law_stream ["script"] := fun _ _ _ _ _ _ us hl => match us, hl with | [_], _ => rfl

/-! ### _law_draw -/
def F__law_draw : Fn := fun ds => match ds with
  | [none, some (.int n)] => if decide (0 < n) && decide (n < 1073741824) then .draw n.toNat fun z => .ret (.int (z : Nat), .own) else .stuck
  | _ => .stuck
theorem sc__law_draw : FnScope ["stream", "many", "cell", "digit", "mixed"] ["stream", "many"] (defScope s__law_draw) := ⟨rfl, rfl, rfl, by decide +kernel, rfl, by decide +kernel, by decide +kernel⟩
theorem dpInts {K : PySem.W.Frag} {H : Hp} : ∀ ns : List Int, DpAll K H (ns.map V.int) (ns.map PyData.int)
  | [] => .nil
  | n :: ns => .cons (.int n) (dpInts ns)
theorem eqv_nil : ∀ ns : List Int, PyData.eqv (.list (ns.map PyData.int)) (.list []) = ns.isEmpty
  | [] => rfl
  | _ :: _ => rfl
theorem shaped_nil : SeqAt.shaped (.list []) = true := by decide +kernel
theorem tabs_kp {T : List (Addr × Str)} {H H' : Hp} {a c : Addr} {xs ys : List V} (h1 : H a = some (.lst xs)) (h2 : H c = some (.lst ys)) (t : LamX.Tabs T H) (k : ∀ b o, b ≠ a → b ≠ c → H b = some o → H' b = some o) : LamX.Tabs T H' := by
  have ne : ∀ b o, H b = some o → (∀ xs, o ≠ .lst xs) → H' b = some o := fun b o e n => k b o (fun z => by rw [z, h1] at e; exact n _ (Option.some.inj e).symm) (fun z => by rw [z, h2] at e; exact n _ (Option.some.inj e).symm) e
  intro p hp
  obtain ⟨ps, q1, q2, q3⟩ := t p hp
  refine ⟨ps, ne _ _ q1 (by intro _ z; cases z), q2, fun pos cv hc => ?_⟩
  obtain ⟨c, z1, z2⟩ := q3 pos cv hc
  exact ⟨c, z1, ne _ _ z2 (by intro _ z; cases z)⟩
theorem cond_ok {K : PySem.W.Frag} [TabsC] {st : StA} {σ : St} {H H' : Hp} {cells : List Int} {big c mix : Int} {Q : Bool → Hp → Prop} (h0 : σ[0]? = some (some (.ref st.1))) (g1 : H' st.1 = some (.lst [.ref st.2, .int big, .int c, .int mix])) (g2 : H' st.2 = some (.lst (cells.map V.int)))
    (g6 : ∀ a o, a ≠ st.1 → a ≠ st.2 → H a = some o → H' a = some o)
    (h : ∀ H1, H1 st.1 = some (.lst [.ref st.2, .int big, .int c, .int mix]) → H1 st.2 = some (.lst (cells.map V.int)) → (∀ a o, a ≠ st.1 → a ≠ st.2 → H a = some o → H1 a = some o) → (∀ a ps, H1 a = some (.tbl ps) → H' a = some (.tbl ps)) → Q (decide (big = 0) && !cells.isEmpty) H1) :
    tAnd (tTest (tOp rEq (tOp (rIxL K) (tVar 0) (tC (V.int 1))) (tC (V.int 0)))) (tTest (tOp (rNeD K) (tOp (rIxL K) (tVar 0) (tC (V.int 0))) (tLst tNil))) σ H' Q := by
  refine ⟨_, h0, st.1, _, 1, .int big, rfl, rfl, SqL.of g1, rfl, rfl, _, rfl, ?_⟩
  rw [dec_int]
  by_cases hb0 : big = 0
  · subst hb0
    refine iteT ?_
    refine ⟨_, h0, st.1, _, 0, .ref st.2, rfl, rfl, SqL.of g1, rfl, by decide, fun p hp => ?_⟩
    have np1 : p ≠ st.1 := fun e => by rw [e, g1] at hp; cases hp
    have np2 : p ≠ st.2 := fun e => by rw [e, g2] at hp; cases hp
    have g1' : upd H' p (.lst []) st.1 = some (.lst [.ref st.2, .int 0, .int c, .int mix]) := by rw [upd_ne (Ne.symm np1)]; exact g1
    have g2' : upd H' p (.lst []) st.2 = some (.lst (cells.map V.int)) := by rw [upd_ne (Ne.symm np2)]; exact g2
    have g6' : ∀ a o, a ≠ st.1 → a ≠ st.2 → H a = some o → upd H' p (.lst []) a = some o := fun a o h1 h2 e => by
      have e2 := g6 a o h1 h2 e
      rw [upd_ne (fun z => by rw [z, hp] at e2; cases e2)]; exact e2
    refine ⟨_, _, .lst (SqL.of g2') (dpInts cells), .lst (SqL.of upd_same) .nil, PySem.W.shaped_ints cells, shaped_nil, _, rfl, ?_⟩
    rw [eqv_nil]
    exact h _ g1' g2' g6' (Grow.upd hp).t
  · have e : (big == 0) = false := by simpa using hb0
    rw [e]
    refine iteF ?_
    have := h H' g1 g2 g6 (fun _ _ e => e)
    rw [show decide (big = 0) = false by simpa using hb0] at this
    exact this
theorem cond_mono {K : PySem.W.Frag} {σ : St} {H : Hp} {Q Q' : Bool → Hp → Prop} (hQ : ∀ b H1, Q b H1 → Q' b H1) :
    tAnd (tTest (tOp rEq (tOp (rIxL K) (tVar 0) (tC (V.int 1))) (tC (V.int 0)))) (tTest (tOp (rNeD K) (tOp (rIxL K) (tVar 0) (tC (V.int 0))) (tLst tNil))) σ H Q →
    tAnd (tTest (tOp rEq (tOp (rIxL K) (tVar 0) (tC (V.int 1))) (tC (V.int 0)))) (tTest (tOp (rNeD K) (tOp (rIxL K) (tVar 0) (tC (V.int 0))) (tLst tNil))) σ H Q' := by
  rintro ⟨v, e, p, xs, i, w, e1, e2, hq, he, hs, k, ek, h⟩
  refine ⟨v, e, p, xs, i, w, e1, e2, hq, he, hs, k, ek, ?_⟩
  cases k with
  | true =>
    rw [if_pos rfl] at h ⊢
    obtain ⟨v, e, p, xs, i, w, e1, e2, hq, he, hl, h⟩ := h
    refine ⟨v, e, p, xs, i, w, e1, e2, hq, he, hl, fun q hp => ?_⟩
    obtain ⟨d1, d2, a1, a2, a3, a4, k, ek, h⟩ := h q hp
    exact ⟨d1, d2, a1, a2, a3, a4, k, ek, hQ _ _ h⟩
  | false =>
    rw [if_neg Bool.false_ne_true] at h ⊢
    exact hQ _ _ h
theorem bt__law_draw : BindT "_law_draw" s__law_draw ["stream", "many"] := fun _ _ _ _ _ _ us hl => match us, hl with | [_, _], _ => rfl

theorem sc__law_spoilt : FnScope ["thing", "part"] ["thing"] (defScope s__law_spoilt) := ⟨rfl, rfl, rfl, by decide +kernel, rfl, by decide +kernel, by decide +kernel⟩
theorem bt__law_spoilt : BindT "_law_spoilt" s__law_spoilt ["thing"] := fun _ _ _ _ _ _ us hl => match us, hl with | [_], _ => rfl

theorem sc__law_twice : FnScope ["due", "first", "other", "found", "spoilt"] ["due", "first", "other"] (defScope s__law_twice) := ⟨rfl, rfl, rfl, by decide +kernel, rfl, by decide +kernel, by decide +kernel⟩
theorem bt__law_twice : BindT "_law_twice" s__law_twice ["due", "first", "other"] := fun _ _ _ _ _ _ us hl => match us, hl with | [_, _, _], _ => rfl

theorem sc__law_met : FnScope ["ask", "e"] ["ask"] (defScope s__law_met) := ⟨rfl, rfl, rfl, by decide +kernel, rfl, by decide +kernel, by decide +kernel⟩
theorem bt__law_met : BindT "_law_met" s__law_met ["ask"] := fun _ _ _ _ _ _ us hl => match us, hl with | [_], _ => rfl

theorem bk_deciding_false : BindK "deciding" s_deciding ["row"] ["row"] false := fun _ _ _ _ _ _ ws hl => match ws, hl with | [_], _ => rfl
theorem bk_is_peeling_true : BindK "is_peeling" s_is_peeling ["row", "thing"] ["thing", "row"] true := fun _ _ _ _ _ _ ws hl => match ws, hl with | [_, _], _ => rfl
theorem bk_layers_false : BindK "layers" s_layers ["row"] ["row"] false := fun _ _ _ _ _ _ ws hl => match ws, hl with | [_], _ => rfl
theorem bk_lessened_true : BindK "lessened" s_lessened ["row", "heed", "value"] ["value", "heed", "row"] true := fun _ _ _ _ _ _ ws hl => match ws, hl with | [_, _, _], _ => rfl
theorem bk_nested_or_stuck_false : BindK "nested_or_stuck" s_nested_or_stuck ["row"] ["row"] false := fun _ _ _ _ _ _ ws hl => match ws, hl with | [_], _ => rfl
section
variable {P : Program} {w : World} {K : PySem.W.Frag} {mg : Str → Option Value} {base : Heap}
theorem stream_fn {f : Addr} {fd : FuncData} (Fu : Fun K "_law_stream" "_law_stream" s__law_stream f fd) (ml : mg "list" = none) : FnOk P w K mg base CX0 1 f fd ["script"] (spStream K) := by
  refine Fu.ok sc__law_stream (fun vs H Q E h => by obtain ⟨_, _, e, _⟩ := h; rw [e]; rfl) (fun cdv A outer s H vs Q E hr h => ?_)
  obtain ⟨a, ns, rfl, hS, hl, hT, q⟩ := h
  exact ⟨_, pss_one (ps_ret (pe_lst (pa_cons (pe_callTy call_list_of (by rfl) ml rfl (pa_cons (pv 0) pa_nil)) (pa_cons pe_int (pa_cons pe_int (pa_cons pe_int pa_nil)))))), stream_read rfl hS hl hT q⟩
theorem ok__law_stream (T : Tx K mg) (k : Nat) (hk : 1 ≤ k) : ∃ g gd, mg "_law_stream" = some (.ref g) ∧ Fun K "_law_stream" "_law_stream" s__law_stream g gd ∧ FnOk P w K mg base CX0 k g gd ["script"] (spStream K) := by
  obtain ⟨f, fd, hm, F⟩ := T.d__law_stream
  exact ⟨f, fd, hm, F, (stream_fn F T.n_list).mono hk⟩

theorem sc__law_same : FnScope ["found", "due", "mine", "theirs"] ["found", "due"] (defScope s__law_same) := ⟨rfl, rfl, rfl, by decide +kernel, rfl, by decide +kernel, by decide +kernel⟩
theorem bt__law_same : BindT "_law_same" s__law_same ["found", "due"] := fun _ _ _ _ _ _ us hl => match us, hl with | [_, _], _ => rfl
def m__law_same (self : Fn) : Vm.Env → M (Fl × Vm.Env) := (sCons (sIf (tru (vIsi (fun t => pIs "list" t || pIs "tuple" t) (eName 1))) (sCons (sIf (tOrM (asB (ev2 (oEq true) (vIsi (pIs "list") (eName 0)) (vIsi (pIs "list") (eName 1)))) (asB (ev2 (oEq true) (vIsi (pIs "tuple") (eName 0)) (vIsi (pIs "tuple") (eName 1))))) (sCons (sRet (eBool false))
  sNil) sNil)
  (sCons (sRet (vAnd (ev2 (oEq false) (vB bLen (aCons (eName 0) aNil)) (vB bLen (aCons (eName 1) aNil))) (vB bAll (aCons (vComp (itZip2 (aCons (eName 0) (aCons (eName 1) aNil))) [2, 3] (tgTup 2 (tgCons (tgName 2) (tgCons (tgName 3) tgNil))) cYes (vCall 2 self (aCons (eName 2) (aCons (eName 3) aNil)))) aNil))))
  sNil)) sNil)
  (sCons (sIf (tru (vIsi (pIs "dict") (eName 1))) sNever sNil)
  (sCons (sIf (tOrM (tru (vIsi (pIs "bool") (eName 1))) (tru (vIsi (pIs "bool") (eName 0)))) (sCons (sRet (vAnd (vIsi (pIs "bool") (eName 1)) (vAnd (vIsi (pIs "bool") (eName 0)) (ev2 (oEq false) (eName 0) (eName 1)))))
  sNil) sNil)
  (sCons (sIf (tOrM (asB (ev2 (oIsN false) (eName 1) eNon)) (asB (ev2 (oIsN false) (eName 0) eNon))) (sCons (sRet (vAnd (ev2 (oIsN false) (eName 1) eNon) (ev2 (oIsN false) (eName 0) eNon)))
  sNil) sNil)
  (sCons (sIf (tOrM (asB (ev2 (oEq true) (vIsi (pIs "int") (eName 1)) (vIsi (pIs "int") (eName 0)))) (asB (ev2 (oEq true) (vIsi (pIs "str") (eName 1)) (vIsi (pIs "str") (eName 0))))) (sCons (sRet (eBool false))
  sNil) sNil)
  (sCons (sRet (vAnd (vNot (vIsi (fun t => pIs "list" t || (pIs "tuple" t || pIs "dict" t)) (eName 0))) (ev2 (oEq false) (eName 0) (eName 1))))
  sNil))))))
def F__law_same : Nat → Fn
  | 0 => stuckF
  | n + 1 => fnOf 4 (m__law_same (F__law_same n))
theorem ok__law_same (T : Tx K mg) : ∀ n : Nat, FnT0 P w K mg base (0 + n) "_law_same" s__law_same ["found", "due"] (F__law_same n)
  | 0 => FnT0.zero T.d__law_same _ _
  | n + 1 => by
    have ih := ok__law_same T n
    exact FnT0.of (k := 0 + n) T.d__law_same sc__law_same (by decide) fun f cdv A outer s H E hr => by
      have h1 := room1 hr; have h64 := room64 hr; have h65 := room65 hr
      exact (dss_cons (ds_if (dt_truth (isi2 (by decide) (by decide) T.n_isinstance T.n_list T.n_tuple (nm 1))) (dss_cons (ds_if (DW.dt (dw_or (dt_cmp (o_ne h64) (isi1 (by decide) T.n_isinstance T.n_list (nm 0)) (isi1 (by decide) T.n_isinstance T.n_list (nm 1))) (dw_or1 (dt_cmp (o_ne h64) (isi1 (by decide) T.n_isinstance T.n_tuple (nm 0)) (isi1 (by decide) T.n_isinstance T.n_tuple (nm 1)))))) (dss_cons (ds_ret nBool)
  dss_nil) dss_nil)
  (dss_cons (ds_ret (de_and (de_cmp (o_eq h64) (cB oc_len T.n_len (da_cons (nm 0) da_nil)) (cB oc_len T.n_len (da_cons (nm 1) da_nil))) (de_and1 (cB oc_all T.n_all (da_cons (de_comp (own := [("mine", 2), ("theirs", 3)]) rfl sc__law_same.nd (di_zip2 (by rfl) T.n_zip (da_cons (nm 0) (da_cons (nm 1) da_nil))) (blkOk_by (by kernel_rfl)) (by decide) (fun _ _ _ _ _ => (dg_tup rfl (dgs_cons (dg_name sc__law_same.nd (i := 2) rfl (.inl rfl)) (dgs_cons (dg_name sc__law_same.nd (i := 3) rfl (.inl rfl)) dgs_nil)))) (fun _ _ _ _ _ => dts_nil) (fun _ _ _ _ _ => (de_call (FnT0.t ih bt__law_same) hr (by rfl) (da_cons (nm 2) (da_cons (nm 3) da_nil))))) da_nil)))))
  dss_nil)) dss_nil)
  (dss_cons (ds_if (dt_truth (isi1 (by decide) T.n_isinstance T.n_dict (nm 1))) dss_never dss_nil)
  (dss_cons (ds_if (DW.dt (dw_or (dt_truth (isi1 (by decide) T.n_isinstance T.n_bool (nm 1))) (dw_or1 (dt_truth (isi1 (by decide) T.n_isinstance T.n_bool (nm 0)))))) (dss_cons (ds_ret (de_and (isi1 (by decide) T.n_isinstance T.n_bool (nm 1)) (de_and (isi1 (by decide) T.n_isinstance T.n_bool (nm 0)) (de_and1 (de_cmp (o_eq h64) (nm 0) (nm 1))))))
  dss_nil) dss_nil)
  (dss_cons (ds_if (DW.dt (dw_or (dt_cmp o_is (nm 1) nNon) (dw_or1 (dt_cmp o_is (nm 0) nNon)))) (dss_cons (ds_ret (de_and (de_cmp o_is (nm 1) nNon) (de_and1 (de_cmp o_is (nm 0) nNon))))
  dss_nil) dss_nil)
  (dss_cons (ds_if (DW.dt (dw_or (dt_cmp (o_ne h64) (isi1 (by decide) T.n_isinstance T.n_int (nm 1)) (isi1 (by decide) T.n_isinstance T.n_int (nm 0))) (dw_or1 (dt_cmp (o_ne h64) (isi1 (by decide) T.n_isinstance T.n_str (nm 1)) (isi1 (by decide) T.n_isinstance T.n_str (nm 0)))))) (dss_cons (ds_ret nBool)
  dss_nil) dss_nil)
  (dss_cons (ds_ret (de_and (de_not (isi3 (by decide) (by decide) (by decide) T.n_isinstance T.n_list T.n_tuple T.n_dict (nm 0))) (de_and1 (de_cmp (o_eq h64) (nm 0) (nm 1)))))
  dss_nil))))))
theorem draw_fn {f : Addr} {fd : FuncData} {k : Nat} (Fu : Fun K "_law_draw" "_law_draw" s__law_draw f fd) (mi : mg "int" = none) (ma : mg "abs" = none) : FnOk P w K mg base CX0 (k + 1) f fd ["stream", "many"] (spOf K 2 F__law_draw) := by
  refine Fu.ok sc__law_draw (fun vs H Q E h => h.1) (fun cdv A outer s H vs Q E hr h => ?_)
  obtain ⟨hl, st, b, ds, fps, ha, sm, h⟩ := h
  have hu := hu_of hr
  have hu64 : (cxOf CX0 P w K mg base ["stream", "many", "cell", "digit", "mixed"] "_law_draw" (defScope s__law_draw) f cdv A outer s H E).nox.A.units + 64 < cLine := hr.units
  unfold F__law_draw at h
  split at h
  case h_2 => exact h.elim
  rename_i n
  split at h
  case isFalse => exact h.elim
  rename_i hn
  simp only [Bool.and_eq_true, decide_eq_true_eq] at hn
  obtain ⟨hn0, hn1⟩ := hn
  obtain ⟨_, hb, h⟩ := h
  obtain ⟨vr, fr, e1, e2, ha⟩ := ha
  obtain ⟨v, vr', fp, fr', e1', e2', rv, ha⟩ := ha
  rw [rv.int_inv] at e1'
  subst e1 e1'
  obtain ⟨z1, z2⟩ := ha
  subst z1
  obtain ⟨cells, big, c, mix, hs1, hs2, hne, hbig, hc, hcb, hm0, hm1, htb⟩ := sm
  have hcb' : c + 1 ≤ 1099511627776 := by
    have : (Big : Int) = 1099511627776 := by decide
    have hb' : (1 : Int) ≤ (b : Int) := by exact_mod_cast hb
    omega
  have done : ∀ (cells : List Int) (big mix : Int) (H' : Hp) (z : Int), H' st.1 = some (.lst [.ref st.2, .int big, .int (c + 1), .int mix]) → H' st.2 = some (.lst (cells.map V.int)) → 0 ≤ big → 0 ≤ mix → mix < 2147483647 →
      (∀ a o, a ≠ st.1 → a ≠ st.2 → H a = some o → H' a = some o) → (∀ a ps, H' a = some (.tbl ps) → H a = some (.tbl ps)) → 0 ≤ z → z < n → Q (.int z) H' := fun cells big mix H' z q1 q2 q3 q4 q5 q6 q9 q7 q8 => by
    have hz := h z.toNat (by omega)
    have ez : ((z.toNat : Nat) : Int) = z := Int.toNat_of_nonneg q7
    have hz := (show _ from hz : (M.ret (PyData.int ((z.toNat : Nat) : Int), Lv.own)).all _ _ (b - 1))
    rw [ez] at hz
    have hb1 : ((b - 1 : Nat) : Int) = (b : Int) - 1 := by omega
    exact hz (.int z) H' (fun a o h1 h2 e => q6 a o h1 h2.1 e) ⟨cells, big, c + 1, mix, q1, q2, hne, q3, by omega, by rw [hb1]; omega, q4, q5, tabs_kp hs1 hs2 htb q6⟩ ⟨[], Rep.of_int _, List.nodup_nil, fun c hc => by cases hc⟩
  refine ⟨_, pss_cons (ps_asg (pe_op op_add (pe_ix ix_list (pv 0) pe_int (by intro _ _; rfl)) pe_int) (pg_sub (pv 0) pe_int set_list))
    (pss_cons (ps_while PassesOwn.never (PW.pt (pw_and (pt_cmpR op_eq (pe_ix ix_list (pv 0) pe_int (by intro _ _; rfl)) pe_int rfl) (pw_and1 (pt_cmpR (op_neD hu64) (pe_ix ix_list (pv 0) pe_int (by intro _ _; rfl)) (pe_lst pa_nil) rfl))))
      (pss_cons (ps_set (i := 2) sc__law_draw.nd rfl (.inl rfl) (pe_callB call_abs (by rfl) ma rfl (pa_cons (pe_bm PySem.F.plainAttrs_list PySem.F.slot_list_pop PySem.F.type_list_pop mt_popAt (pe_ix ix_list (pv 0) pe_int (by intro _ _; rfl)) (pa_cons pe_int pa_nil)) pa_nil)))
      (pss_cons (ps_asg (pe_op op_modN (pe_callTy call_int1 (by rfl) mi rfl (pa_cons (pe_op op_add (pe_op op_add (pe_op op_mul (pe_ix ix_list (pv 0) pe_int (by intro _ _; rfl)) pe_int) (pv 2)) pe_int) pa_nil)) pe_int) (pg_sub (pv 0) pe_int set_list))
      (pss_one (ps_asg (pe_ifExp (pt_cmpR op_ge (pv 2) (pe_op op_pow pe_int pe_int) rfl) (pv 2) pe_int) (pg_sub (pv 0) pe_int set_list))))))
    (pss_cons (ps_if (pt_cmpR op_gt (pe_ix ix_list (pv 0) pe_int (by intro _ _; rfl)) pe_int rfl)
      (pss_cons (ps_set (i := 3) sc__law_draw.nd rfl (.inl rfl) (pe_op op_modN (pe_callTy call_int1 (by rfl) mi rfl (pa_cons (pe_ix ix_list (pv 0) pe_int (by intro _ _; rfl)) pa_nil)) (pv 1)))
      (pss_cons (ps_asg (pe_op op_fdivN (pe_ix ix_list (pv 0) pe_int (by intro _ _; rfl)) (pv 1)) (pg_sub (pv 0) pe_int set_list))
      (pss_one (ps_ret (pv 3))))) pss_nil)
    (pss_cons (ps_set (i := 4) sc__law_draw.nd rfl (.inl rfl) (pe_op op_modN (pe_callTy call_int1 (by rfl) mi rfl (pa_cons (pe_op op_pow (pe_op op_add (pe_op op_add (pe_ix ix_list (pv 0) pe_int (by intro _ _; rfl)) (pe_op op_mul pe_int (pe_ix ix_list (pv 0) pe_int (by intro _ _; rfl)))) pe_int) pe_int) pa_nil)) pe_int))
    (pss_one (ps_ret (pe_op op_modN (pe_op op_modN (pe_callTy call_int1 (by rfl) mi rfl (pa_cons (pe_op op_pow (pe_op op_add (pe_op op_add (pe_op op_mul (pv 4) pe_int) (pe_op op_mul pe_int (pe_ix ix_list (pv 0) pe_int (by intro _ _; rfl)))) pe_int) pe_int) pa_nil)) pe_int) (pv 1))))))), ?_⟩
  -- stream[2] = stream[2] + 1
  have tblL : ∀ {H0 : Hp} {D : Addr} {xs : List V}, ∀ a ps, upd H0 D (.lst xs) a = some (.tbl ps) → H0 a = some (.tbl ps) := fun {H0 D xs} a ps e => by
    by_cases ha : a = D
    · subst ha; rw [upd_same] at e; cases e
    · rw [upd_ne ha] at e; exact e
  have q1 : ∀ {o : HO}, SqL K H st.1 [.ref st.2, .int big, .int c, .int mix] := SqL.of hs1
  refine ⟨_, rfl, st.1, _, 2, .int c, rfl, rfl, SqL.of hs1, rfl, c, 1, rfl, rfl, _, rfl, st.1, _, 2, 2, rfl, rfl, hs1, rfl, ?_⟩
  -- the loop
  refine while_by (fun σ H' => ∃ (x2 : Option V) (cells : List Int) (big mix : Int), σ = [some (.ref st.1), some (.int n), x2, none, none] ∧ H' st.1 = some (.lst [.ref st.2, .int big, .int (c + 1), .int mix]) ∧ H' st.2 = some (.lst (cells.map V.int)) ∧ 0 ≤ big ∧ 0 ≤ mix ∧ mix < 2147483647 ∧ (∀ a o, a ≠ st.1 → a ≠ st.2 → H a = some o → H' a = some o) ∧ ∀ a ps, H' a = some (.tbl ps) → H a = some (.tbl ps))
    (fun σ H' => match H' st.2 with | some (.lst xs) => xs.length | _ => 0) ⟨none, cells, big, mix, rfl, upd_same, ?_, hbig, hm0, hm1, fun a o h1 h2 e => ?_, tblL⟩ ?_ ?_
  · rw [upd_ne (Ne.symm hne)]; exact hs2
  · rw [upd_ne h1]; exact e
  · rintro σ H' ⟨x2, cells, big, mix, rfl, g1, g2, g3, g4, g5, g6, g7⟩
    refine cond_ok (st := st) rfl g1 g2 g6 fun H1 k1 k2 k6 k7 => ?_
    cases hcond : (decide (big = 0) && !cells.isEmpty) with
    | true =>
      refine iteT ?_
      simp only [Bool.and_eq_true, decide_eq_true_eq, Bool.not_eq_true'] at hcond
      obtain ⟨hb0, hce⟩ := hcond
      subst hb0
      cases cells with
      | nil => cases hce
      | cons z cells =>
      -- cell = abs(stream[0].pop(0))
      refine ⟨_, rfl, st.1, _, 0, .ref st.2, rfl, rfl, SqL.of k1, rfl, .inl ⟨rfl, _, SqL.of k2⟩, st.2, _, 0, 0, .int z, rfl, rfl, k2, by decide, by decide, (by simp [seqIndex?]), rfl, z, rfl, ?_⟩
      have ka1 : upd H1 st.2 (.lst ((List.map V.int (z :: cells)).eraseIdx 0)) st.1 = some (.lst [.ref st.2, .int 0, .int (c + 1), .int mix]) := by rw [upd_ne hne]; exact k1
      have ka2 : upd H1 st.2 (.lst ((List.map V.int (z :: cells)).eraseIdx 0)) st.2 = some (.lst (cells.map V.int)) := upd_same
      have ka6 : ∀ a o, a ≠ st.1 → a ≠ st.2 → H a = some o → upd H1 st.2 (.lst ((List.map V.int (z :: cells)).eraseIdx 0)) a = some o := fun a o h1 h2 e => by rw [upd_ne h2]; exact k6 a o h1 h2 e
      dsimp only
      have ka7 : ∀ a ps, upd H1 st.2 (.lst ((List.map V.int (z :: cells)).eraseIdx 0)) a = some (.tbl ps) → H a = some (.tbl ps) := fun a ps e => g7 a ps (k7 a ps (tblL a ps e))
      generalize upd H1 st.2 (.lst ((List.map V.int (z :: cells)).eraseIdx 0)) = Ha at ka1 ka2 ka6 ka7 ⊢
      have hz : 0 ≤ (if z < 0 then -z else z) := by split <;> omega
      generalize (if z < 0 then -z else z) = cell at hz ⊢
      -- stream[3] = ..
      refine ⟨_, rfl, st.1, _, 3, .int mix, rfl, rfl, SqL.of ka1, rfl, mix, 8191, rfl, rfl, .inl ⟨by omega, by omega⟩, _, rfl, _, cell, rfl, rfl, _, 3, rfl, rfl, .inl ⟨_, rfl, _, 2147483647, rfl, rfl, (show (2147483647 : Int) ≠ 0 by decide), _, rfl, st.1, _, 3, 3, rfl, rfl, ka1, rfl, ?_⟩⟩
      have m0 : 0 ≤ (mix * 8191 + cell + 3).fmod 2147483647 := Int.fmod_nonneg_of_pos _ (by decide)
      have m1 : (mix * 8191 + cell + 3).fmod 2147483647 < 2147483647 := Int.fmod_lt_of_pos _ (by decide)
      have kb1 : upd Ha st.1 (.lst [.ref st.2, .int 0, .int (c + 1), .int ((mix * 8191 + cell + 3).fmod 2147483647)]) st.1 = some (.lst [.ref st.2, .int 0, .int (c + 1), .int ((mix * 8191 + cell + 3).fmod 2147483647)]) := upd_same
      have kb2 : upd Ha st.1 (.lst [.ref st.2, .int 0, .int (c + 1), .int ((mix * 8191 + cell + 3).fmod 2147483647)]) st.2 = some (.lst (cells.map V.int)) := by rw [upd_ne (Ne.symm hne)]; exact ka2
      have kb6 : ∀ a o, a ≠ st.1 → a ≠ st.2 → H a = some o → upd Ha st.1 (.lst [.ref st.2, .int 0, .int (c + 1), .int ((mix * 8191 + cell + 3).fmod 2147483647)]) a = some o := fun a o h1 h2 e => by rw [upd_ne h1]; exact ka6 a o h1 h2 e
      -- stream[1] = ..
      have fin : ∀ big : Int, 0 ≤ big → ∃ (x2 : Option V) (cells' : List Int) (big' mix'' : Int), ([some (V.ref st.1), some (V.int n), some (V.int cell), none, none] : St) = [some (.ref st.1), some (.int n), x2, none, none] ∧ upd (upd Ha st.1 (.lst [.ref st.2, .int 0, .int (c + 1), .int ((mix * 8191 + cell + 3).fmod 2147483647)])) st.1 (.lst [.ref st.2, .int big, .int (c + 1), .int ((mix * 8191 + cell + 3).fmod 2147483647)]) st.1 = some (.lst [.ref st.2, .int big', .int (c + 1), .int mix'']) ∧
          upd (upd Ha st.1 (.lst [.ref st.2, .int 0, .int (c + 1), .int ((mix * 8191 + cell + 3).fmod 2147483647)])) st.1 (.lst [.ref st.2, .int big, .int (c + 1), .int ((mix * 8191 + cell + 3).fmod 2147483647)]) st.2 = some (.lst (cells'.map V.int)) ∧ 0 ≤ big' ∧ 0 ≤ mix'' ∧ mix'' < 2147483647 ∧ (∀ a o, a ≠ st.1 → a ≠ st.2 → H a = some o → upd (upd Ha st.1 (.lst [.ref st.2, .int 0, .int (c + 1), .int ((mix * 8191 + cell + 3).fmod 2147483647)])) st.1 (.lst [.ref st.2, .int big, .int (c + 1), .int ((mix * 8191 + cell + 3).fmod 2147483647)]) a = some o) ∧ ∀ a ps, upd (upd Ha st.1 (.lst [.ref st.2, .int 0, .int (c + 1), .int ((mix * 8191 + cell + 3).fmod 2147483647)])) st.1 (.lst [.ref st.2, .int big, .int (c + 1), .int ((mix * 8191 + cell + 3).fmod 2147483647)]) a = some (.tbl ps) → H a = some (.tbl ps) := fun big hb =>
        ⟨_, cells, big, ((mix * 8191 + cell + 3).fmod 2147483647), rfl, upd_same, by rw [upd_ne (Ne.symm hne)]; exact kb2, hb, m0, m1, fun a o h1 h2 e => by rw [upd_ne h1]; exact kb6 a o h1 h2 e, fun a ps e => ka7 a ps (tblL a ps (tblL a ps e))⟩
      have less : ∀ big : Int, (match upd (upd Ha st.1 (.lst [.ref st.2, .int 0, .int (c + 1), .int ((mix * 8191 + cell + 3).fmod 2147483647)])) st.1 (.lst [.ref st.2, .int big, .int (c + 1), .int ((mix * 8191 + cell + 3).fmod 2147483647)]) st.2 with | some (.lst xs) => xs.length | _ => 0) < (match H' st.2 with | some (.lst xs) => xs.length | _ => 0) := fun big => by
        rw [upd_ne (Ne.symm hne), kb2, g2]; simp
      refine ⟨_, rfl, 10, 18, rfl, rfl, ⟨by decide, by decide, by decide⟩, _, _, rfl, rfl, _, rfl, ?_⟩
      cases hcl : decide ((10 : Int) ^ (Int.toNat 18) ≤ cell) with
      | true =>
        refine iteT ⟨_, rfl, _, rfl, st.1, _, 1, 1, rfl, rfl, kb1, rfl, ?_⟩
        exact ⟨fin cell hz, less cell⟩
      | false =>
        refine iteF ⟨_, rfl, st.1, _, 1, 1, rfl, rfl, kb1, rfl, ?_⟩
        exact ⟨fin 0 (Int.le_refl _), less 0⟩
    | false =>
      refine iteF ?_
      refine ⟨_, rfl, st.1, _, 1, .int big, rfl, rfl, SqL.of k1, rfl, _, _, rfl, rfl, _, rfl, ?_⟩
      by_cases hb0 : 0 < big
      · rw [show decide (0 < big) = true by simpa using hb0]
        refine iteT ?_
        refine ⟨_, rfl, st.1, _, 1, .int big, rfl, rfl, SqL.of k1, rfl, .inl ⟨_, rfl, _, rfl, _, n, rfl, rfl, by omega, ?_⟩⟩
        refine ⟨_, rfl, st.1, _, 1, .int big, rfl, rfl, SqL.of k1, rfl, _, rfl, big, n, rfl, rfl, ⟨by omega, by omega⟩, _, rfl, st.1, _, 1, 1, rfl, rfl, k1, rfl, ?_⟩
        refine ⟨_, rfl, ?_⟩
        refine done cells (big.fdiv n) mix _ _ upd_same (by rw [upd_ne (Ne.symm hne)]; exact k2) (Int.fdiv_nonneg (by omega) (by omega)) g4 g5 (fun a o h1 h2 e => by rw [upd_ne h1]; exact k6 a o h1 h2 e) (fun a ps e => g7 a ps (k7 a ps (tblL a ps e))) (Int.fmod_nonneg_of_pos _ hn0) (Int.fmod_lt_of_pos _ hn0)
      · rw [show decide (0 < big) = false by simpa using hb0]
        refine iteF ?_
        have l1 : (0 : Int) ≤ mix + 7919 * (c + 1) + 104729 := by omega
        have l2 : mix + 7919 * (c + 1) + 104729 < 18446744073709551616 := by omega
        refine ⟨_, rfl, st.1, _, 3, .int mix, rfl, rfl, SqL.of k1, rfl, _, rfl, st.1, _, 2, .int (c + 1), rfl, rfl, SqL.of k1, rfl, 7919, c + 1, rfl, rfl, .inl ⟨by decide, by decide⟩, mix, _, rfl, rfl, _, 104729, rfl, rfl, _, 5, rfl, rfl, ⟨by decide, by decide, by omega⟩, .inl ⟨_, rfl, _, 2147483629, rfl, rfl, (show (2147483629 : Int) ≠ 0 by decide), ?_⟩⟩
        have m0 : 0 ≤ ((mix + 7919 * (c + 1) + 104729) ^ (Int.toNat 5)).fmod 2147483629 := Int.fmod_nonneg_of_pos _ (by decide)
        have m1 : ((mix + 7919 * (c + 1) + 104729) ^ (Int.toNat 5)).fmod 2147483629 < 2147483629 := Int.fmod_lt_of_pos _ (by decide)
        dsimp only
        generalize ((mix + 7919 * (c + 1) + 104729) ^ (Int.toNat 5)).fmod 2147483629 = mixed at m0 m1 ⊢
        refine ⟨_, rfl, mixed, 48271, rfl, rfl, .inr ⟨by decide, by decide⟩, _, rfl, st.1, _, 2, .int (c + 1), rfl, rfl, SqL.of k1, rfl, 30011, c + 1, rfl, rfl, .inl ⟨by decide, by decide⟩, mixed * 48271, _, rfl, rfl, _, 29, rfl, rfl, _, 3, rfl, rfl, ⟨by decide, by decide, by omega⟩, .inl ⟨_, rfl, _, 1000000007, rfl, rfl, (show (1000000007 : Int) ≠ 0 by decide), _, rfl, _, n, rfl, rfl, (show n ≠ 0 by omega), ?_⟩⟩
        exact done cells big mix H1 _ k1 k2 g3 g4 g5 k6 (fun a ps e => g7 a ps (k7 a ps e)) (Int.fmod_nonneg_of_pos _ hn0) (Int.fmod_lt_of_pos _ hn0)
  · exact fun σ H1 Q1 Q2 hQ h => cond_mono hQ h
theorem ok__law_draw (T : Tx K mg) : FnT0 P w K mg base 1 "_law_draw" s__law_draw ["stream", "many"] F__law_draw := by
  obtain ⟨f, fd, hm, F⟩ := T.d__law_draw
  exact ⟨f, fd, hm, F, okCX (draw_fn (k := 0) F T.n_int T.n_abs)⟩

theorem sc__law_mixed : FnScope ["stream", "things", "k", "left", "found"] ["stream", "things"] (defScope s__law_mixed) := ⟨rfl, rfl, rfl, by decide +kernel, rfl, by decide +kernel, by decide +kernel⟩
theorem bt__law_mixed : BindT "_law_mixed" s__law_mixed ["stream", "things"] := fun _ _ _ _ _ _ us hl => match us, hl with | [_, _], _ => rfl
def m__law_mixed : Vm.Env → M (Fl × Vm.Env) := (sCons (sPar [3, 4] [(vB bList (aCons (eName 1) aNil)), (vLst aNil)])
  (sCons (sFor (iRange1 (aCons (vB bLen (aCons (eName 3) aNil)) aNil)) (tgName 2) (sCons (sAppPop 4 3 (vCall 2 F__law_draw (aStm 0 (aCons (vB bLen (aCons (eName 3) aNil)) aNil))))
  sNil))
  (sCons (sRet (eName 4))
  sNil)))
def F__law_mixed : Fn := fnOf 5 m__law_mixed
theorem ok__law_mixed (T : Tx K mg) : FnT0 P w K mg base 2 "_law_mixed" s__law_mixed ["stream", "things"] F__law_mixed :=
  FnT0.of (k := 1) T.d__law_mixed sc__law_mixed (by decide) fun f cdv A outer s H E hr => by
    have h1 := room1 hr; have h64 := room64 hr; have h65 := room65 hr
    exact (dss_cons (ds_par rfl sc__law_mixed.nd (i := 3) (j := 4) rfl rfl (by decide) rfl rfl (.cons (cT oc_list T.n_list (da_cons (nm 1) da_nil)) (.cons (de_lst da_nil) .nil)) (by rfl))
  (dss_cons (ds_for (passes_of rfl) rfl (di_range1 (by rfl) T.n_range (da_cons (cB oc_len T.n_len (da_cons (nm 3) da_nil)) da_nil)) (dg_name sc__law_mixed.nd (i := 2) rfl (.inl rfl)) (dss_cons (ds_apppop (x := 4) (y := 3) rfl (.inl rfl) rfl (.inl rfl) (de_call (FnT0.t (ok__law_draw T) bt__law_draw) (hr.mono (by decide)) (by rfl) (stA 0 (da_cons (cB oc_len T.n_len (da_cons (nm 3) da_nil)) da_nil))))
  dss_nil))
  (dss_cons (ds_ret (nm 4))
  dss_nil)))
theorem sc__law_states : FnScope ["many", "found", "k", "longer", "state"] ["many"] (defScope s__law_states) := ⟨rfl, rfl, rfl, by decide +kernel, rfl, by decide +kernel, by decide +kernel⟩
theorem bt__law_states : BindT "_law_states" s__law_states ["many"] := fun _ _ _ _ _ _ us hl => match us, hl with | [_], _ => rfl
def m__law_states : Vm.Env → M (Fl × Vm.Env) := (sCons (sAsg (tgName 1) (vLst (aCons (vLst aNil) aNil)))
  (sCons (sFor (iRange1 (aCons (eName 0) aNil)) (tgName 2) (sCons (sAsg (tgName 3) (vLst aNil))
  (sCons (sFor (iSeq (eName 1)) (tgName 4) (sCons (sExt 3 (vLst (aCons (ev2 oAdd (eName 4) (vLst (aCons (eInt 0) aNil))) (aCons (ev2 oAdd (eName 4) (vLst (aCons (eInt 1) aNil))) aNil))))
  sNil))
  (sCons (sAsg (tgName 1) (eName 3))
  sNil))))
  (sCons (sRet (eName 1))
  sNil)))
def F__law_states : Fn := fnOf 5 m__law_states
theorem ok__law_states (T : Tx K mg) : FnT0 P w K mg base 1 "_law_states" s__law_states ["many"] F__law_states :=
  FnT0.of (k := 0) T.d__law_states sc__law_states (by decide) fun f cdv A outer s H E hr => by
    have h1 := room1 hr; have h64 := room64 hr; have h65 := room65 hr
    exact (dss_cons (ds_set sc__law_states.nd (i := 1) rfl (.inl rfl) (de_lst (da_cons (de_lst da_nil) da_nil)))
  (dss_cons (ds_for (passes_of rfl) rfl (di_range1 (by rfl) T.n_range (da_cons (nm 0) da_nil)) (dg_name sc__law_states.nd (i := 2) rfl (.inl rfl)) (dss_cons (ds_set sc__law_states.nd (i := 3) rfl (.inl rfl) (de_lst da_nil))
  (dss_cons (ds_for (passes_of rfl) rfl (di_seq (nm 1)) (dg_name sc__law_states.nd (i := 4) rfl (.inl rfl)) (dss_cons (ds_extend (x := 3) rfl (.inl rfl) (de_lst (da_cons (de_bin o_add (nm 4) (de_lst (da_cons nInt da_nil))) (da_cons (de_bin o_add (nm 4) (de_lst (da_cons nInt da_nil))) da_nil))))
  dss_nil))
  (dss_cons (ds_set sc__law_states.nd (i := 1) rfl (.inl rfl) (nm 3))
  dss_nil))))
  (dss_cons (ds_ret (nm 1))
  dss_nil)))
theorem sc__law_row : FnScope ["stream", "many", "order", "steps", "state", "states", "way", "last", "found", "told", "place", "heed", "held", "value"] ["stream", "many"] (defScope s__law_row) := ⟨rfl, rfl, rfl, by decide +kernel, rfl, by decide +kernel, by decide +kernel⟩
theorem bt__law_row : BindT "_law_row" s__law_row ["stream", "many"] := fun _ _ _ _ _ _ us hl => match us, hl with | [_, _], _ => rfl
def m__law_row : Vm.Env → M (Fl × Vm.Env) := (sCons (sPar [5, 6] [(vCall 1 F__law_states (aCons (eName 1) aNil)), (vCall 2 F__law_draw (aStm 0 (aCons (eInt 4) aNil)))])
  (sCons (sIf (asB (ev2 (oEq false) (eName 6) (eInt 0))) (sCons (sRet (vComp (iSeq (eName 5)) [4] (tgName 4) cYes (vCall 2 F__law_draw (aStm 0 (aCons (eInt 2) aNil)))))
  sNil) sNil)
  (sCons (sAsg (tgName 2) (vCall 2 F__law_mixed (aStm 0 (aCons (vRg1 lRg (eName 1)) aNil))))
  (sCons (sAsg (tgName 2) (vIf (asB (ev2 (oEq false) (eName 6) (eInt 1))) (evSl (eName 2) pNo (pSome (vCall 2 F__law_draw (aStm 0 (aCons (ev2 oAdd (eName 1) (eInt 1)) aNil))))) (eName 2)))
  (sCons (sAsg (tgName 3) (vComp (iSeq (eName 2)) [11] (tgName 11) cYes (vTup (aCons (eName 11) (aCons (vCall 2 F__law_draw (aStm 0 (aCons (eInt 2) aNil))) (aCons (vCall 2 F__law_draw (aStm 0 (aCons (eInt 2) aNil))) aNil))))))
  (sCons (sPar [7, 8] [(vCall 2 F__law_draw (aStm 0 (aCons (eInt 2) aNil))), (vLst aNil)])
  (sCons (sFor (iSeq (eName 5)) (tgName 4) (sCons (sAsg (tgName 9) (vComp (iSeq (eName 3)) [11, 12, 13] (tgTup 3 (tgCons (tgName 11) (tgCons (tgName 12) (tgCons (tgName 13) tgNil)))) (asB (ev2 (oEq false) (ev2 oIx (eName 4) (eName 11)) (eName 12))) (eName 13)))
  (sCons (sApp 8 (vIf (asB (ev2 (oEq true) (eName 9) (vLst aNil))) (ev2 oIx (eName 9) (eInt 0)) (eName 7)))
  sNil)))
  (sCons (sIf (asB (ev2 (oEq false) (eName 6) (eInt 2))) (sCons (sAsg (tgName 10) (vCall 2 F__law_draw (aStm 0 (aCons (vB bLen (aCons (eName 8) aNil)) aNil))))
  (sCons (sSetIx 8 (eName 10) (ev2 oSubI (eInt 1) (ev2 oIx (eName 8) (eName 10))))
  sNil)) sNil)
  (sCons (sRet (eName 8))
  sNil)))))))))
def F__law_row : Fn := fnOf 14 m__law_row
theorem ok__law_row (T : Tx K mg) : FnT0 P w K mg base 3 "_law_row" s__law_row ["stream", "many"] F__law_row :=
  FnT0.of (k := 2) T.d__law_row sc__law_row (by decide) fun f cdv A outer s H E hr => by
    have h1 := room1 hr; have h64 := room64 hr; have h65 := room65 hr
    exact (dss_cons (ds_par rfl sc__law_row.nd (i := 5) (j := 6) rfl rfl (by decide) rfl rfl (.cons (de_call (FnT0.t (ok__law_states T) bt__law_states) (hr.mono (by decide)) (by rfl) (da_cons (nm 1) da_nil)) (.cons (de_call (FnT0.t (ok__law_draw T) bt__law_draw) (hr.mono (by decide)) (by rfl) (stA 0 (da_cons nInt da_nil))) .nil)) (by rfl))
  (dss_cons (ds_if (dt_cmp (o_eq h64) (nm 6) nInt) (dss_cons (ds_ret (de_comp (own := [("state", 4)]) rfl sc__law_row.nd (di_seq (nm 5)) (blkOk_by (by kernel_rfl)) (by decide) (fun _ _ _ _ _ => (dg_name sc__law_row.nd (i := 4) rfl (.inl rfl))) (fun _ _ _ _ _ => dts_nil) (fun _ _ _ _ _ => (de_call (FnT0.t (ok__law_draw T) bt__law_draw) (hr.mono (by decide)) (by rfl) (stA 0 (da_cons nInt da_nil))))))
  dss_nil) dss_nil)
  (dss_cons (ds_set sc__law_row.nd (i := 2) rfl (.inl rfl) (de_call (FnT0.t (ok__law_mixed T) bt__law_mixed) (hr.mono (by decide)) (by rfl) (stA 0 (da_cons (de_lrg1 T.n_list T.n_range (nm 1)) da_nil))))
  (dss_cons (ds_set sc__law_row.nd (i := 2) rfl (.inl rfl) (de_if (dt_cmp (o_eq h64) (nm 6) nInt) (de_sl (nm 2) dp_no (dp_some (de_call (FnT0.t (ok__law_draw T) bt__law_draw) (hr.mono (by decide)) (by rfl) (stA 0 (da_cons (de_bin o_add (nm 1) nInt) da_nil))))) (nm 2)))
  (dss_cons (ds_setLc (own := [("heed", 11)]) rfl sc__law_row.nd (i := 3) rfl rfl rfl (di_seq (nm 2)) (blkOk_by (by kernel_rfl)) (by decide) (fun _ _ _ _ _ => (dg_name sc__law_row.nd (i := 11) rfl (.inl rfl))) (fun _ _ _ _ _ => dts_nil) (fun _ _ _ _ _ => (de_tup (da_cons (nm 11) (da_cons (de_call (FnT0.t (ok__law_draw T) bt__law_draw) (hr.mono (by decide)) (by rfl) (stA 0 (da_cons nInt da_nil))) (da_cons (de_call (FnT0.t (ok__law_draw T) bt__law_draw) (hr.mono (by decide)) (by rfl) (stA 0 (da_cons nInt da_nil))) da_nil))))))
  (dss_cons (ds_par rfl sc__law_row.nd (i := 7) (j := 8) rfl rfl (by decide) rfl rfl (.cons (de_call (FnT0.t (ok__law_draw T) bt__law_draw) (hr.mono (by decide)) (by rfl) (stA 0 (da_cons nInt da_nil))) (.cons (de_lst da_nil) .nil)) (by rfl))
  (dss_cons (ds_for (passes_of rfl) rfl (di_seq (nm 5)) (dg_name sc__law_row.nd (i := 4) rfl (.inr rfl)) (dss_cons (ds_setLc (own := [("heed", 11), ("held", 12), ("value", 13)]) rfl sc__law_row.nd (i := 9) rfl rfl rfl (di_seq (nm 3)) (blkOk_by (by kernel_rfl)) (by decide) (fun _ _ _ _ _ => (dg_tup rfl (dgs_cons (dg_name sc__law_row.nd (i := 11) rfl (.inl rfl)) (dgs_cons (dg_name sc__law_row.nd (i := 12) rfl (.inl rfl)) (dgs_cons (dg_name sc__law_row.nd (i := 13) rfl (.inl rfl)) dgs_nil))))) (fun _ _ _ _ _ => (dts_one (dt_cmp (o_eq h64) (de_ix (nm 4) (nm 11) (by intro _ _; rfl)) (nm 12)))) (fun _ _ _ _ _ => (nm 13)))
  (dss_cons (ds_append (x := 8) rfl (.inl rfl) (de_if (dt_cmp (o_ne h64) (nm 9) (de_lst da_nil)) (de_ix (nm 9) nInt (by intro _ _; rfl)) (nm 7)))
  dss_nil)))
  (dss_cons (ds_if (dt_cmp (o_eq h64) (nm 6) nInt) (dss_cons (ds_set sc__law_row.nd (i := 10) rfl (.inl rfl) (de_call (FnT0.t (ok__law_draw T) bt__law_draw) (hr.mono (by decide)) (by rfl) (stA 0 (da_cons (cB oc_len T.n_len (da_cons (nm 8) da_nil)) da_nil))))
  (dss_cons (ds_setix (x := 8) rfl (.inl rfl) (de_bin o_subI nInt (de_ix (nm 8) (nm 10) (by intro _ _; rfl))) (nm 10))
  dss_nil)) dss_nil)
  (dss_cons (ds_ret (nm 8))
  dss_nil)))))))))
theorem sc_is_one : FnScope ["row"] ["row"] (defScope s_is_one) := ⟨rfl, rfl, rfl, by decide +kernel, rfl, by decide +kernel, by decide +kernel⟩
theorem bt_is_one : BindT "is_one" s_is_one ["row"] := fun _ _ _ _ _ _ us hl => match us, hl with | [_], _ => rfl
def m_is_one : Vm.Env → M (Fl × Vm.Env) := (sCons (sRet (ev2 (oEq false) (vMeth mCount (eName 0) (aCons (ev2 oIx (eName 0) (eInt 0)) aNil)) (vB bLen (aCons (eName 0) aNil))))
  sNil)
def F_is_one : Fn := fnOf 1 m_is_one
theorem ok_is_one (T : Tx K mg) : FnT0 P w K mg base 1 "is_one" s_is_one ["row"] F_is_one :=
  FnT0.of (k := 0) T.d_is_one sc_is_one (by decide) fun f cdv A outer s H E hr => by
    have h1 := room1 hr; have h64 := room64 hr; have h65 := room65 hr
    exact (dss_cons (ds_ret (de_cmp (o_eq h64) (de_count h65 (nm 0) (da_cons (de_ix (nm 0) nInt (by intro _ _; rfl)) da_nil)) (cB oc_len T.n_len (da_cons (nm 0) da_nil))))
  dss_nil)
theorem sc_heeds_of : FnScope ["row"] ["row"] (defScope s_heeds_of) := ⟨rfl, rfl, rfl, by decide +kernel, rfl, by decide +kernel, by decide +kernel⟩
theorem bt_heeds_of : BindT "heeds_of" s_heeds_of ["row"] := fun _ _ _ _ _ _ us hl => match us, hl with | [_], _ => rfl
def m_heeds_of : Vm.Env → M (Fl × Vm.Env) := (sCons (sRet (vCD [(1, 0), (2, 1), (4, 2), (8, 3), (16, 4), (32, 5)] (vB bLen (aCons (eName 0) aNil))))
  sNil)
def F_heeds_of : Fn := fnOf 1 m_heeds_of
theorem ok_heeds_of (T : Tx K mg) : FnT0 P w K mg base 1 "heeds_of" s_heeds_of ["row"] F_heeds_of :=
  FnT0.of (k := 0) T.d_heeds_of sc_heeds_of (by decide) fun f cdv A outer s H E hr => by
    have h1 := room1 hr; have h64 := room64 hr; have h65 := room65 hr
    exact (dss_cons (ds_ret (de_cd h1 (.cons (.cons (.cons (.cons (.cons (.cons CDisp.nil)))))) (cB oc_len T.n_len (da_cons (nm 0) da_nil)) (by decide)))
  dss_nil)
theorem sc_states_of : FnScope ["many", "found", "_", "state", "value"] ["many"] (defScope s_states_of) := ⟨rfl, rfl, rfl, by decide +kernel, rfl, by decide +kernel, by decide +kernel⟩
theorem bt_states_of : BindT "states_of" s_states_of ["many"] := fun _ _ _ _ _ _ us hl => match us, hl with | [_], _ => rfl
def m_states_of : Vm.Env → M (Fl × Vm.Env) := (sCons (sAsg (tgName 1) (vLst (aCons (vTup aNil) aNil)))
  (sCons (sFor (iRange1 (aCons (eName 0) aNil)) (tgName 2) (sCons (sAsg (tgName 1) (vComp2 (iSeq (eName 1)) [3, 4] (tgName 3) cYes (iSeq (vTup (aCons (eInt 0) (aCons (eInt 1) aNil)))) [4] (tgName 4) cYes (vTup (aStar (eName 3) (aCons (eName 4) aNil)))))
  sNil))
  (sCons (sRet (eName 1))
  sNil)))
def F_states_of : Fn := fnOf 5 m_states_of
theorem ok_states_of (T : Tx K mg) : FnT0 P w K mg base 1 "states_of" s_states_of ["many"] F_states_of :=
  FnT0.of (k := 0) T.d_states_of sc_states_of (by decide) fun f cdv A outer s H E hr => by
    have h1 := room1 hr; have h64 := room64 hr; have h65 := room65 hr
    exact (dss_cons (ds_set sc_states_of.nd (i := 1) rfl (.inl rfl) (de_lst (da_cons (de_tup da_nil) da_nil)))
  (dss_cons (ds_for (passes_of rfl) rfl (di_range1 (by rfl) T.n_range (da_cons (nm 0) da_nil)) (dg_name sc_states_of.nd (i := 2) rfl (.inl rfl)) (dss_cons (ds_setLc2 (own := [("state", 3), ("value", 4)]) rfl sc_states_of.nd (i := 1) rfl rfl rfl (di_seq (nm 1)) (blkOk_by (by kernel_rfl)) (by decide) (vs1 := [4]) (by decide) (by decide) (fun _ _ _ _ _ => (dg_name sc_states_of.nd (i := 3) rfl (.inl rfl))) (fun _ _ _ _ _ => dts_nil) (fun _ _ _ _ _ => (di_seq (de_tup (da_cons nInt (da_cons nInt da_nil))))) (fun _ _ _ _ _ => (dg_name sc_states_of.nd (i := 4) rfl (.inl rfl))) (fun _ _ _ _ _ => dts_nil) (fun _ _ _ _ _ => (de_tup (da_star (nm 3) (da_cons (nm 4) da_nil)))))
  dss_nil))
  (dss_cons (ds_ret (nm 1))
  dss_nil)))
theorem sc_at_value : FnScope ["row", "heed", "value", "state", "told"] ["row", "heed", "value"] (defScope s_at_value) := ⟨rfl, rfl, rfl, by decide +kernel, rfl, by decide +kernel, by decide +kernel⟩
theorem bt_at_value : BindT "at_value" s_at_value ["row", "heed", "value"] := fun _ _ _ _ _ _ us hl => match us, hl with | [_, _, _], _ => rfl
def m_at_value : Vm.Env → M (Fl × Vm.Env) := (sCons (sRet (vB bTuple (aCons (vComp (itZip2 (aCons (vCall 1 F_states_of (aCons (vCall 1 F_heeds_of (aCons (eName 0) aNil)) aNil)) (aCons (eName 0) aNil))) [3, 4] (tgTup 2 (tgCons (tgName 3) (tgCons (tgName 4) tgNil))) (asB (ev2 (oEq false) (ev2 oIx (eName 3) (eName 1)) (eName 2))) (eName 4)) aNil)))
  sNil)
def F_at_value : Fn := fnOf 5 m_at_value
theorem ok_at_value (T : Tx K mg) : FnT0 P w K mg base 2 "at_value" s_at_value ["row", "heed", "value"] F_at_value :=
  FnT0.of (k := 1) T.d_at_value sc_at_value (by decide) fun f cdv A outer s H E hr => by
    have h1 := room1 hr; have h64 := room64 hr; have h65 := room65 hr
    exact (dss_cons (ds_ret (cT oc_tuple T.n_tuple (da_cons (de_comp (own := [("state", 3), ("told", 4)]) rfl sc_at_value.nd (di_zip2 (by rfl) T.n_zip (da_cons (de_call (FnT0.t (ok_states_of T) bt_states_of) (hr.mono (by decide)) (by rfl) (da_cons (de_call (FnT0.t (ok_heeds_of T) bt_heeds_of) (hr.mono (by decide)) (by rfl) (da_cons (nm 0) da_nil)) da_nil)) (da_cons (nm 0) da_nil))) (blkOk_by (by kernel_rfl)) (by decide) (fun _ _ _ _ _ => (dg_tup rfl (dgs_cons (dg_name sc_at_value.nd (i := 3) rfl (.inl rfl)) (dgs_cons (dg_name sc_at_value.nd (i := 4) rfl (.inl rfl)) dgs_nil)))) (fun _ _ _ _ _ => (dts_one (dt_cmp (o_eq h64) (de_ix (nm 3) (nm 1) (by intro _ _; rfl)) (nm 2)))) (fun _ _ _ _ _ => (nm 4))) da_nil)))
  dss_nil)
theorem sc_deciding_by : FnScope ["row", "found", "heed", "value", "part"] ["row"] (defScope s_deciding_by) := ⟨rfl, rfl, rfl, by decide +kernel, rfl, by decide +kernel, by decide +kernel⟩
theorem bt_deciding_by : BindT "deciding_by" s_deciding_by ["row"] := fun _ _ _ _ _ _ us hl => match us, hl with | [_], _ => rfl
def m_deciding_by : Vm.Env → M (Fl × Vm.Env) := (sCons (sAsg (tgName 1) (vLst aNil))
  (sCons (sFor (iRange1 (aCons (vCall 1 F_heeds_of (aCons (eName 0) aNil)) aNil)) (tgName 2) (sCons (sFor (iSeq (vTup (aCons (eInt 0) (aCons (eInt 1) aNil)))) (tgName 3) (sCons (sAsg (tgName 4) (vCall 3 F_at_value (aCons (eName 0) (aCons (eName 2) (aCons (eName 3) aNil)))))
  (sCons (sIf (tru (vCall 1 F_is_one (aCons (eName 4) aNil))) (sCons (sApp 1 (vTup (aCons (eName 2) (aCons (eName 3) (aCons (ev2 oIx (eName 4) (eInt 0)) aNil)))))
  sNil) sNil)
  sNil)))
  sNil))
  (sCons (sRet (eName 1))
  sNil)))
def F_deciding_by : Fn := fnOf 5 m_deciding_by
theorem ok_deciding_by (T : Tx K mg) : FnT0 P w K mg base 3 "deciding_by" s_deciding_by ["row"] F_deciding_by :=
  FnT0.of (k := 2) T.d_deciding_by sc_deciding_by (by decide) fun f cdv A outer s H E hr => by
    have h1 := room1 hr; have h64 := room64 hr; have h65 := room65 hr
    exact (dss_cons (ds_set sc_deciding_by.nd (i := 1) rfl (.inl rfl) (de_lst da_nil))
  (dss_cons (ds_for (passes_of rfl) rfl (di_range1 (by rfl) T.n_range (da_cons (de_call (FnT0.t (ok_heeds_of T) bt_heeds_of) (hr.mono (by decide)) (by rfl) (da_cons (nm 0) da_nil)) da_nil)) (dg_name sc_deciding_by.nd (i := 2) rfl (.inl rfl)) (dss_cons (ds_for (passes_of rfl) rfl (di_seq (de_tup (da_cons nInt (da_cons nInt da_nil)))) (dg_name sc_deciding_by.nd (i := 3) rfl (.inl rfl)) (dss_cons (ds_set sc_deciding_by.nd (i := 4) rfl (.inl rfl) (de_call (FnT0.t (ok_at_value T) bt_at_value) (hr.mono (by decide)) (by rfl) (da_cons (nm 0) (da_cons (nm 2) (da_cons (nm 3) da_nil)))))
  (dss_cons (ds_if (dt_truth (de_call (FnT0.t (ok_is_one T) bt_is_one) (hr.mono (by decide)) (by rfl) (da_cons (nm 4) da_nil))) (dss_cons (ds_append (x := 1) rfl (.inl rfl) (de_tup (da_cons (nm 2) (da_cons (nm 3) (da_cons (de_ix (nm 4) nInt (by intro _ _; rfl)) da_nil)))))
  dss_nil) dss_nil)
  dss_nil)))
  dss_nil))
  (dss_cons (ds_ret (nm 1))
  dss_nil)))
theorem sc_peeled : FnScope ["row", "left", "names", "steps", "some", "heed", "value", "told"] ["row"] (defScope s_peeled) := ⟨rfl, rfl, rfl, by decide +kernel, rfl, by decide +kernel, by decide +kernel⟩
theorem bt_peeled : BindT "peeled" s_peeled ["row"] := fun _ _ _ _ _ _ us hl => match us, hl with | [_], _ => rfl
def m_peeled : Vm.Env → M (Fl × Vm.Env) := (sCons (sPar [1, 2, 3] [(eName 0), (vRg1 lRg (vCall 1 F_heeds_of (aCons (eName 0) aNil))), (vLst aNil)])
  (sCons (whileLoop (tNotM (tru (vCall 1 F_is_one (aCons (eName 1) aNil)))) (sCons (sAsg (tgName 4) (vCall 1 F_deciding_by (aCons (eName 1) aNil)))
  (sCons (sIf (tNotM (tru (eName 4))) (sCons (sRet (vTup (aCons (eName 3) (aCons (eName 2) (aCons (eName 1) aNil)))))
  sNil) sNil)
  (sCons (sAsg (tgTup 3 (tgCons (tgName 5) (tgCons (tgName 6) (tgCons (tgName 7) tgNil)))) (ev2 oIx (eName 4) (eInt 0)))
  (sCons (sApp 3 (vTup (aCons (ev2 oIx (eName 2) (eName 5)) (aCons (eName 6) (aCons (eName 7) aNil)))))
  (sCons (sAsg (tgName 1) (vCall 3 F_at_value (aCons (eName 1) (aCons (eName 5) (aCons (ev2 oSubI (eInt 1) (eName 6)) aNil)))))
  (sCons (sAsg (tgName 2) (ev2 oAdd (evSl (eName 2) pNo (pSome (eName 5))) (evSl (eName 2) (pSome (ev2 oAdd (eName 5) (eInt 1))) pNo)))
  sNil)))))) 100)
  (sCons (sRet (vTup (aCons (eName 3) (aCons (eName 2) (aCons (eName 1) aNil)))))
  sNil)))
def F_peeled : Fn := fnOf 8 m_peeled
theorem ok_peeled (T : Tx K mg) : FnT0 P w K mg base 4 "peeled" s_peeled ["row"] F_peeled :=
  FnT0.of (k := 3) T.d_peeled sc_peeled (by decide) fun f cdv A outer s H E hr => by
    have h1 := room1 hr; have h64 := room64 hr; have h65 := room65 hr
    exact (dss_cons (ds_par3 rfl sc_peeled.nd (i := 1) (j := 2) (l := 3) rfl rfl rfl (by decide) (by decide) (by decide) rfl rfl rfl (.cons (nm 0) (.cons (de_lrg1 T.n_list T.n_range (de_call (FnT0.t (ok_heeds_of T) bt_heeds_of) (hr.mono (by decide)) (by rfl) (da_cons (nm 0) da_nil))) (.cons (de_lst da_nil) .nil))) (by rfl))
  (dss_cons (ds_while 100 (passes_of rfl) (dt_not (dt_truth (de_call (FnT0.t (ok_is_one T) bt_is_one) (hr.mono (by decide)) (by rfl) (da_cons (nm 1) da_nil)))) (dss_cons (ds_set sc_peeled.nd (i := 4) rfl (.inl rfl) (de_call (FnT0.t (ok_deciding_by T) bt_deciding_by) (hr.mono (by decide)) (by rfl) (da_cons (nm 1) da_nil)))
  (dss_cons (ds_if (dt_not (dt_truth (nm 4))) (dss_cons (ds_ret (de_tup (da_cons (nm 3) (da_cons (nm 2) (da_cons (nm 1) da_nil)))))
  dss_nil) dss_nil)
  (dss_cons (ds_asg (de_ix (nm 4) nInt (by intro _ _; rfl)) (dg_tup rfl (dgs_cons (dg_name sc_peeled.nd (i := 5) rfl (.inl rfl)) (dgs_cons (dg_name sc_peeled.nd (i := 6) rfl (.inl rfl)) (dgs_cons (dg_name sc_peeled.nd (i := 7) rfl (.inl rfl)) dgs_nil)))))
  (dss_cons (ds_append (x := 3) rfl (.inl rfl) (de_tup (da_cons (de_ix (nm 2) (nm 5) (by intro _ _; rfl)) (da_cons (nm 6) (da_cons (nm 7) da_nil)))))
  (dss_cons (ds_set sc_peeled.nd (i := 1) rfl (.inl rfl) (de_call (FnT0.t (ok_at_value T) bt_at_value) (hr.mono (by decide)) (by rfl) (da_cons (nm 1) (da_cons (nm 5) (da_cons (de_bin o_subI nInt (nm 6)) da_nil)))))
  (dss_cons (ds_set sc_peeled.nd (i := 2) rfl (.inl rfl) (de_bin o_add (de_sl (nm 2) dp_no (dp_some (nm 5))) (de_sl (nm 2) (dp_some (de_bin o_add (nm 5) nInt)) dp_no)))
  dss_nil)))))))
  (dss_cons (ds_ret (de_tup (da_cons (nm 3) (da_cons (nm 2) (da_cons (nm 1) da_nil)))))
  dss_nil)))
theorem sc_is_list : FnScope ["thing"] ["thing"] (defScope s_is_list) := ⟨rfl, rfl, rfl, by decide +kernel, rfl, by decide +kernel, by decide +kernel⟩
theorem bt_is_list : BindT "is_list" s_is_list ["thing"] := fun _ _ _ _ _ _ us hl => match us, hl with | [_], _ => rfl
def m_is_list : Vm.Env → M (Fl × Vm.Env) := (sCons (sRet (vIsi (fun t => pIs "list" t || pIs "tuple" t) (eName 0)))
  sNil)
def F_is_list : Fn := fnOf 1 m_is_list
theorem ok_is_list (T : Tx K mg) : FnT0 P w K mg base 1 "is_list" s_is_list ["thing"] F_is_list :=
  FnT0.of (k := 0) T.d_is_list sc_is_list (by decide) fun f cdv A outer s H E hr => by
    have h1 := room1 hr; have h64 := room64 hr; have h65 := room65 hr
    exact (dss_cons (ds_ret (isi2 (by decide) (by decide) T.n_isinstance T.n_list T.n_tuple (nm 0)))
  dss_nil)
theorem sc_is_row : FnScope ["thing", "many"] ["thing", "many"] (defScope s_is_row) := ⟨rfl, rfl, rfl, by decide +kernel, rfl, by decide +kernel, by decide +kernel⟩
theorem bt_is_row : BindT "is_row" s_is_row ["thing", "many"] := fun _ _ _ _ _ _ us hl => match us, hl with | [_, _], _ => rfl
def m_is_row : Vm.Env → M (Fl × Vm.Env) := (sCons (sRet (vAnd (vCall 1 F_is_list (aCons (eName 0) aNil)) (ev2 (oEq false) (vB bLen (aCons (eName 0) aNil)) (eName 1))))
  sNil)
def F_is_row : Fn := fnOf 2 m_is_row
theorem ok_is_row (T : Tx K mg) : FnT0 P w K mg base 2 "is_row" s_is_row ["thing", "many"] F_is_row :=
  FnT0.of (k := 1) T.d_is_row sc_is_row (by decide) fun f cdv A outer s H E hr => by
    have h1 := room1 hr; have h64 := room64 hr; have h65 := room65 hr
    exact (dss_cons (ds_ret (de_and (de_call (FnT0.t (ok_is_list T) bt_is_list) (hr.mono (by decide)) (by rfl) (da_cons (nm 0) da_nil)) (de_and1 (de_cmp (o_eq h64) (cB oc_len T.n_len (da_cons (nm 0) da_nil)) (nm 1)))))
  dss_nil)
theorem sc_is_whole : FnScope ["thing"] ["thing"] (defScope s_is_whole) := ⟨rfl, rfl, rfl, by decide +kernel, rfl, by decide +kernel, by decide +kernel⟩
theorem bt_is_whole : BindT "is_whole" s_is_whole ["thing"] := fun _ _ _ _ _ _ us hl => match us, hl with | [_], _ => rfl
def m_is_whole : Vm.Env → M (Fl × Vm.Env) := (sCons (sRet (vAnd (vIsi (pIs "int") (eName 0)) (vNot (vIsi (pIs "bool") (eName 0)))))
  sNil)
def F_is_whole : Fn := fnOf 1 m_is_whole
theorem ok_is_whole (T : Tx K mg) : FnT0 P w K mg base 1 "is_whole" s_is_whole ["thing"] F_is_whole :=
  FnT0.of (k := 0) T.d_is_whole sc_is_whole (by decide) fun f cdv A outer s H E hr => by
    have h1 := room1 hr; have h64 := room64 hr; have h65 := room65 hr
    exact (dss_cons (ds_ret (de_and (isi1 (by decide) T.n_isinstance T.n_int (nm 0)) (de_and1 (de_not (isi1 (by decide) T.n_isinstance T.n_bool (nm 0))))))
  dss_nil)
theorem sc_is_number : FnScope ["thing"] ["thing"] (defScope s_is_number) := ⟨rfl, rfl, rfl, by decide +kernel, rfl, by decide +kernel, by decide +kernel⟩
theorem bt_is_number : BindT "is_number" s_is_number ["thing"] := fun _ _ _ _ _ _ us hl => match us, hl with | [_], _ => rfl
def m_is_number : Vm.Env → M (Fl × Vm.Env) := (sCons (sRet (vAnd (vCall 1 F_is_whole (aCons (eName 0) aNil)) (ev2 oGeI (eName 0) (eInt 0))))
  sNil)
def F_is_number : Fn := fnOf 1 m_is_number
theorem ok_is_number (T : Tx K mg) : FnT0 P w K mg base 2 "is_number" s_is_number ["thing"] F_is_number :=
  FnT0.of (k := 1) T.d_is_number sc_is_number (by decide) fun f cdv A outer s H E hr => by
    have h1 := room1 hr; have h64 := room64 hr; have h65 := room65 hr
    exact (dss_cons (ds_ret (de_and (de_call (FnT0.t (ok_is_whole T) bt_is_whole) (hr.mono (by decide)) (by rfl) (da_cons (nm 0) da_nil)) (de_and1 (de_cmp o_geI (nm 0) nInt))))
  dss_nil)
theorem sc_is_below : FnScope ["thing", "most"] ["thing", "most"] (defScope s_is_below) := ⟨rfl, rfl, rfl, by decide +kernel, rfl, by decide +kernel, by decide +kernel⟩
theorem bt_is_below : BindT "is_below" s_is_below ["thing", "most"] := fun _ _ _ _ _ _ us hl => match us, hl with | [_, _], _ => rfl
def m_is_below : Vm.Env → M (Fl × Vm.Env) := (sCons (sRet (vAnd (vCall 1 F_is_number (aCons (eName 0) aNil)) (ev2 oLtI (eName 0) (eName 1))))
  sNil)
def F_is_below : Fn := fnOf 2 m_is_below
theorem ok_is_below (T : Tx K mg) : FnT0 P w K mg base 3 "is_below" s_is_below ["thing", "most"] F_is_below :=
  FnT0.of (k := 2) T.d_is_below sc_is_below (by decide) fun f cdv A outer s H E hr => by
    have h1 := room1 hr; have h64 := room64 hr; have h65 := room65 hr
    exact (dss_cons (ds_ret (de_and (de_call (FnT0.t (ok_is_number T) bt_is_number) (hr.mono (by decide)) (by rfl) (da_cons (nm 0) da_nil)) (de_and1 (de_cmp o_ltI (nm 0) (nm 1)))))
  dss_nil)
theorem sc_kept_values : FnScope ["many", "thing", "one"] ["many", "thing"] (defScope s_kept_values) := ⟨rfl, rfl, rfl, by decide +kernel, rfl, by decide +kernel, by decide +kernel⟩
theorem bt_kept_values : BindT "kept_values" s_kept_values ["many", "thing"] := fun _ _ _ _ _ _ us hl => match us, hl with | [_, _], _ => rfl
def m_kept_values : Vm.Env → M (Fl × Vm.Env) := (sCons (sRet (vIf (tAndM (tru (vCall 2 F_is_row (aCons (eName 1) (aCons (eName 0) aNil)))) (tru (vB bAll (aCons (vComp (iSeq (eName 1)) [2] (tgName 2) cYes (vCall 2 F_is_below (aCons (eName 2) (aCons (eInt 2) aNil)))) aNil)))) (vB bTuple (aCons (eName 1) aNil)) eNon))
  sNil)
def F_kept_values : Fn := fnOf 3 m_kept_values
theorem ok_kept_values (T : Tx K mg) : FnT0 P w K mg base 4 "kept_values" s_kept_values ["many", "thing"] F_kept_values :=
  FnT0.of (k := 3) T.d_kept_values sc_kept_values (by decide) fun f cdv A outer s H E hr => by
    have h1 := room1 hr; have h64 := room64 hr; have h65 := room65 hr
    exact (dss_cons (ds_ret (de_if (DW.dt (dw_and (dt_truth (de_call (FnT0.t (ok_is_row T) bt_is_row) (hr.mono (by decide)) (by rfl) (da_cons (nm 1) (da_cons (nm 0) da_nil)))) (dw_and1 (dt_truth (cB oc_all T.n_all (da_cons (de_comp (own := [("one", 2)]) rfl sc_kept_values.nd (di_seq (nm 1)) (blkOk_by (by kernel_rfl)) (by decide) (fun _ _ _ _ _ => (dg_name sc_kept_values.nd (i := 2) rfl (.inl rfl))) (fun _ _ _ _ _ => dts_nil) (fun _ _ _ _ _ => (de_call (FnT0.t (ok_is_below T) bt_is_below) (hr.mono (by decide)) (by rfl) (da_cons (nm 2) (da_cons nInt da_nil))))) da_nil)))))) (cT oc_tuple T.n_tuple (da_cons (nm 1) da_nil)) nNon))
  dss_nil)
theorem sc_kept_row : FnScope ["thing"] ["thing"] (defScope s_kept_row) := ⟨rfl, rfl, rfl, by decide +kernel, rfl, by decide +kernel, by decide +kernel⟩
theorem bt_kept_row : BindT "kept_row" s_kept_row ["thing"] := fun _ _ _ _ _ _ us hl => match us, hl with | [_], _ => rfl
def m_kept_row : Vm.Env → M (Fl × Vm.Env) := (sCons (sIf (tOrM (tNotM (tru (vCall 1 F_is_list (aCons (eName 0) aNil)))) (asB (ev2 (oIn true) (vB bLen (aCons (eName 0) aNil)) (vTup (aCons (eInt 1) (aCons (eInt 2) (aCons (eInt 4) (aCons (eInt 8) (aCons (eInt 16) (aCons (eInt 32) aNil)))))))))) (sCons (sRet eNon)
  sNil) sNil)
  (sCons (sRet (vCall 2 F_kept_values (aCons (vB bLen (aCons (eName 0) aNil)) (aCons (eName 0) aNil))))
  sNil))
def F_kept_row : Fn := fnOf 1 m_kept_row
theorem ok_kept_row (T : Tx K mg) : FnT0 P w K mg base 5 "kept_row" s_kept_row ["thing"] F_kept_row :=
  FnT0.of (k := 4) T.d_kept_row sc_kept_row (by decide) fun f cdv A outer s H E hr => by
    have h1 := room1 hr; have h64 := room64 hr; have h65 := room65 hr
    exact (dss_cons (ds_if (DW.dt (dw_or (dt_not (dt_truth (de_call (FnT0.t (ok_is_list T) bt_is_list) (hr.mono (by decide)) (by rfl) (da_cons (nm 0) da_nil)))) (dw_or1 (dt_cmp (o_notin h65) (cB oc_len T.n_len (da_cons (nm 0) da_nil)) (de_tup (da_cons nInt (da_cons nInt (da_cons nInt (da_cons nInt (da_cons nInt (da_cons nInt da_nil))))))))))) (dss_cons (ds_ret nNon)
  dss_nil) dss_nil)
  (dss_cons (ds_ret (de_call (FnT0.t (ok_kept_values T) bt_kept_values) (hr.mono (by decide)) (by rfl) (da_cons (cB oc_len T.n_len (da_cons (nm 0) da_nil)) (da_cons (nm 0) da_nil))))
  dss_nil))
theorem sc_need_row : FnScope ["row", "kept"] ["row"] (defScope s_need_row) := ⟨rfl, rfl, rfl, by decide +kernel, rfl, by decide +kernel, by decide +kernel⟩
theorem bt_need_row : BindT "need_row" s_need_row ["row"] := fun _ _ _ _ _ _ us hl => match us, hl with | [_], _ => rfl
def m_need_row : Vm.Env → M (Fl × Vm.Env) := (sCons (sAsg (tgName 1) (vCall 1 F_kept_row (aCons (eName 0) aNil)))
  (sCons (sIf (asB (ev2 (oIsN false) (eName 1) eNon)) sNever sNil)
  (sCons (sRet (eName 1))
  sNil)))
def F_need_row : Fn := fnOf 2 m_need_row
theorem ok_need_row (T : Tx K mg) : FnT0 P w K mg base 6 "need_row" s_need_row ["row"] F_need_row :=
  FnT0.of (k := 5) T.d_need_row sc_need_row (by decide) fun f cdv A outer s H E hr => by
    have h1 := room1 hr; have h64 := room64 hr; have h65 := room65 hr
    exact (dss_cons (ds_set sc_need_row.nd (i := 1) rfl (.inl rfl) (de_call (FnT0.t (ok_kept_row T) bt_kept_row) (hr.mono (by decide)) (by rfl) (da_cons (nm 0) da_nil)))
  (dss_cons (ds_if (dt_cmp o_is (nm 1) nNon) dss_never dss_nil)
  (dss_cons (ds_ret (nm 1))
  dss_nil)))
theorem sc_nested_or_stuck : FnScope ["row", "steps", "names", "left"] ["row"] (defScope s_nested_or_stuck) := ⟨rfl, rfl, rfl, by decide +kernel, rfl, by decide +kernel, by decide +kernel⟩
theorem bt_nested_or_stuck : BindT "nested_or_stuck" s_nested_or_stuck ["row"] := fun _ _ _ _ _ _ us hl => match us, hl with | [_], _ => rfl
def m_nested_or_stuck : Vm.Env → M (Fl × Vm.Env) := (sCons (sAsg (tgTup 3 (tgCons (tgName 1) (tgCons (tgName 2) (tgCons (tgName 3) tgNil)))) (vCall 1 F_peeled (aCons (vCall 1 F_need_row (aCons (eName 0) aNil)) aNil)))
  (sCons (sRet (vIf (tru (vCall 1 F_is_one (aCons (eName 3) aNil))) (vTup (aCons (eStr "nested") (aCons (eName 1) (aCons (ev2 oIx (eName 3) (eInt 0)) aNil)))) (vTup (aCons (eStr "stuck") (aCons (eName 2) aNil)))))
  sNil))
def F_nested_or_stuck : Fn := fnOf 4 m_nested_or_stuck
theorem ok_nested_or_stuck (T : Tx K mg) : FnT0 P w K mg base 7 "nested_or_stuck" s_nested_or_stuck ["row"] F_nested_or_stuck :=
  FnT0.of (k := 6) T.d_nested_or_stuck sc_nested_or_stuck (by decide) fun f cdv A outer s H E hr => by
    have h1 := room1 hr; have h64 := room64 hr; have h65 := room65 hr
    exact (dss_cons (ds_asg (de_call (FnT0.t (ok_peeled T) bt_peeled) (hr.mono (by decide)) (by rfl) (da_cons (de_call (FnT0.t (ok_need_row T) bt_need_row) (hr.mono (by decide)) (by rfl) (da_cons (nm 0) da_nil)) da_nil)) (dg_tup rfl (dgs_cons (dg_name sc_nested_or_stuck.nd (i := 1) rfl (.inl rfl)) (dgs_cons (dg_name sc_nested_or_stuck.nd (i := 2) rfl (.inl rfl)) (dgs_cons (dg_name sc_nested_or_stuck.nd (i := 3) rfl (.inl rfl)) dgs_nil)))))
  (dss_cons (ds_ret (de_if (dt_truth (de_call (FnT0.t (ok_is_one T) bt_is_one) (hr.mono (by decide)) (by rfl) (da_cons (nm 3) da_nil))) (de_tup (da_cons nStr (da_cons (nm 1) (da_cons (de_ix (nm 3) nInt (by intro _ _; rfl)) da_nil)))) (de_tup (da_cons nStr (da_cons (nm 2) da_nil)))))
  dss_nil))
theorem sc__law_copied : FnScope ["thing", "some", "one", "key"] ["thing"] (defScope s__law_copied) := ⟨rfl, rfl, rfl, by decide +kernel, rfl, by decide +kernel, by decide +kernel⟩
theorem bt__law_copied : BindT "_law_copied" s__law_copied ["thing"] := fun _ _ _ _ _ _ us hl => match us, hl with | [_], _ => rfl
def m__law_copied (self : Fn) : Vm.Env → M (Fl × Vm.Env) := (sCons (sIf (tru (vIsi (pIs "dict") (eName 0))) (sCons (sRet (vCopyD 0))
  sNil) sNil)
  (sCons (sAsg (tgName 1) (vIf (tru (vIsi (fun t => pIs "list" t || pIs "tuple" t) (eName 0))) (vComp (iSeq (eName 0)) [2] (tgName 2) cYes (vCall 1 self (aCons (eName 2) aNil))) (eName 0)))
  (sCons (sRet (vIf (tru (vIsi (pIs "tuple") (eName 0))) (vB bTuple (aCons (eName 1) aNil)) (eName 1)))
  sNil)))
def F__law_copied : Nat → Fn
  | 0 => stuckF
  | n + 1 => fnOf 4 (m__law_copied (F__law_copied n))
theorem ok__law_copied (T : Tx K mg) : ∀ n : Nat, FnT0 P w K mg base (0 + n) "_law_copied" s__law_copied ["thing"] (F__law_copied n)
  | 0 => FnT0.zero T.d__law_copied _ _
  | n + 1 => by
    have ih := ok__law_copied T n
    exact FnT0.of (k := 0 + n) T.d__law_copied sc__law_copied (by decide) fun f cdv A outer s H E hr => by
      have h1 := room1 hr; have h64 := room64 hr; have h65 := room65 hr
      exact (dss_cons (ds_if (dt_truth (isi1 (by decide) T.n_isinstance T.n_dict (nm 0))) (dss_cons (ds_ret (de_copyD (own := [("key", 3)]) T.n_dict sc__law_copied.nd (i := 0) rfl (by first | exact Or.inl rfl | exact Or.inr (Or.inl rfl) | exact Or.inr (Or.inr rfl)) (blkOk_by (by kernel_rfl)) (fun _ _ _ _ _ => (dg_name sc__law_copied.nd (i := 3) rfl (.inl rfl)))))
  dss_nil) dss_nil)
  (dss_cons (ds_set sc__law_copied.nd (i := 1) rfl (.inl rfl) (de_if (dt_truth (isi2 (by decide) (by decide) T.n_isinstance T.n_list T.n_tuple (nm 0))) (de_comp (own := [("one", 2)]) rfl sc__law_copied.nd (di_seq (nm 0)) (blkOk_by (by kernel_rfl)) (by decide) (fun _ _ _ _ _ => (dg_name sc__law_copied.nd (i := 2) rfl (.inl rfl))) (fun _ _ _ _ _ => dts_nil) (fun _ _ _ _ _ => (de_call (FnT0.t ih bt__law_copied) hr (by rfl) (da_cons (nm 2) da_nil)))) (nm 0)))
  (dss_cons (ds_ret (de_if (dt_truth (isi1 (by decide) T.n_isinstance T.n_tuple (nm 0))) (cT oc_tuple T.n_tuple (da_cons (nm 1) da_nil)) (nm 1)))
  dss_nil)))
theorem spoilt_fn {f : Addr} {fd : FuncData} (Fu : Fun K "_law_spoilt" "_law_spoilt" s__law_spoilt f fd) (hm : mg "_law_spoilt" = some (.ref f)) (mi : mg "isinstance" = none) (ml : mg "list" = none) (mt : mg "tuple" = none) : ∀ n : Nat, FnOk P w K mg base CX0 n f fd ["thing"] (spSp K n)
  | 0 => ⟨fun vs H Q E h => by obtain ⟨_, _, _, _, _, e, _⟩ := h; rw [e]; rfl, fun A outer s H args us vs Q E hr he hb hv h => by obtain ⟨_, _, _, _, _, _, z, _⟩ := h; exact absurd z (Nat.not_lt_zero _)⟩
  | n + 1 => by
    have ih := spoilt_fn Fu hm mi ml mt n
    refine Fu.ok sc__law_spoilt (fun vs H Q E h => by obtain ⟨_, _, _, _, _, e, _⟩ := h; rw [e]; rfl) (fun cdv A outer s H vs Q E hr h => ?_)
    obtain ⟨v, d, fp, st, b, rfl, hdep, hroomy, r, nd, sm, q⟩ := h
    refine ⟨_, pss_cons (ps_if (pt_truth (pe_callB call_isiT (by rfl) mi (by decide +kernel) (pa_cons (pv 0) (pa_cons (pe_tup (pa_cons (pe_bltn (v := .ty "list") (by rfl) ml (by rfl) rfl) (pa_cons (pe_bltn (v := .ty "tuple") (by rfl) mt (by rfl) rfl) pa_nil))) pa_nil)) (by decide) (by decide)) (by intro _; rfl))
        (pss_one (ps_for PassesOwn.never rfl (pi_seq (pv 0)) (pg_name sc__law_spoilt.nd (i := 1) rfl (.inl rfl)) (pss_one (ps_expr (pe_call ih hr (by rfl) hm Fu.kp (Fu.binds bt__law_spoilt) .nil pass0 (pa_cons (pv 1) pa_nil)))))) pss_nil)
      (pss_one (ps_if (pt_truth (pe_callB call_isi (by rfl) mi (by decide +kernel) (pa_cons (pv 0) (pa_cons (pe_bltn (v := .ty "list") (by rfl) ml (by rfl) rfl) pa_nil)) (by decide) (by decide)) (by intro _; rfl))
        (pss_one (ps_expr (pe_bm PySem.F.plainAttrs_list PySem.F.slot_list_append PySem.F.type_list_append mt_append (pv 0) (pa_cons pe_str pa_nil)))) pss_nil)), ?_⟩
    refine isiT_read (i := 0) rfl r sm fun H1 g1 => ?_
    have r1 : Rep K st H1 d v fp := r.sameX sm (fun a o _ _ e => g1 a o e)
    have sm1 : Stm H1 st b := sm.ext g1
    have b0 : ∀ {fp}, But fp H H1 := fun a o _ e => g1 a o e
    have go0 : ∀ d', d = d' → spoil d' = d' → (pIs "list" (tyN d') || pIs "tuple" (tyN d')) = false → pIs "list" (tyN d') = false → Q .non H1 := fun d' e h2 _ _ => by
      subst e
      exact q H1 b0 sm1 (by rw [h2]; exact r1)
    cases d with
    | none => exact iteF (isiL_read (i := 0) rfl r1 (iteF (go0 _ rfl rfl rfl rfl)))
    | bool x => exact iteF (isiL_read (i := 0) rfl r1 (iteF (go0 _ rfl rfl rfl rfl)))
    | int x => exact iteF (isiL_read (i := 0) rfl r1 (iteF (go0 _ rfl rfl rfl rfl)))
    | str x => exact iteF (isiL_read (i := 0) rfl r1 (iteF (go0 _ rfl rfl rfl rfl)))
    | dict kvs => exact absurd hroomy (by simp [roomy])
    | tuple ds =>
      refine iteT ?_
      unfold Rep at r1
      obtain ⟨a, us, ev, ha, rs⟩ := r1
      subst ev
      have hdd : ∀ d ∈ ds, d.depth < n ∧ roomy d = true := fun d hd => ⟨by
        have := depth_mem hd
        simp only [PyData.depth] at hdep
        omega, roomys_mem (by simpa [roomy] using hroomy) hd⟩
      refine ⟨_, rfl, a, rfl, .inr ⟨us, ha.sq, ?_⟩⟩
      refine spoil_loop (k := true) (J := Itt K a) (fun H2 i hq hi => ⟨us, us[i], STup.sq hq, by simp [hi]⟩) (fun H2 hq => ⟨us, STup.sq hq, Nat.le_refl _⟩) (fun H2 i y H3 hq hy => ⟨hy.1, hy.2 us (STup.sq hq)⟩)
        (fun H2 bu => STup.kp (But.kp rs.mu bu) ha) rs nd sm1 hdd fun H' x' bu sm' r' => ?_
      have rt : Rep K st H' (.tuple (spoils ds)) (.ref a) fp := by
        unfold Rep
        exact ⟨a, us, rfl, STup.kp (But.kp rs.mu bu) ha, r'⟩
      refine isiL_read (i := 0) rfl rt (iteF ?_)
      exact q H' (fun c o hn e => bu c o hn (g1 c o e)) sm' (by rw [spoil]; exact rt)
    | list ds =>
      refine iteT ?_
      unfold Rep at r1
      obtain ⟨a, us, fs, ev, ha, n1, n2, rs, ef⟩ := r1
      subst ev ef
      obtain ⟨na, nd'⟩ := List.nodup_cons.mp nd
      have hro : ds.length < sizeLine ∧ roomys ds = true := by simpa [roomy] using hroomy
      have hdd : ∀ d ∈ ds, d.depth < n ∧ roomy d = true := fun d hd => ⟨by
        have := depth_mem hd
        simp only [PyData.depth] at hdep
        omega, roomys_mem hro.2 hd⟩
      refine ⟨_, rfl, a, rfl, .inl ⟨us, SqL.of ha, ?_⟩⟩
      refine spoil_loop (k := false) (J := Itl K a) (fun H2 i hq hi => ⟨us, us[i], hq, by simp [hi]⟩) (fun H2 hq => ⟨us, hq, Nat.le_refl _⟩) (fun H2 i y H3 hq hy => ⟨hy.1, hy.2 us hq⟩)
        (fun H2 bu => SqL.of (bu a _ na ha)) rs nd' sm1 hdd fun H' x' bu sm' r' => ?_
      have ha' : H' a = some (.lst us) := bu a _ na ha
      have rl : Rep K st H' (.list (spoils ds)) (.ref a) (a :: fs) := by
        unfold Rep
        exact ⟨a, us, fs, rfl, ha', n1, n2, r', rfl⟩
      refine isiL_read (i := 0) rfl rl (iteT ?_)
      refine ⟨_, rfl, .inl ⟨rfl, us, SqL.of ha'⟩, a, us, _, rfl, rfl, ha', by rw [← rs.length] at hro; exact hro.1, ?_⟩
      refine q _ (fun c o hn e => ?_) (sm'.updL (.inr (.inl ⟨_, ha'⟩)) n1 n2) (by rw [spoil]; exact Rep.late n1 n2 na ⟨_, ha'⟩ r')
      have hca : c ≠ a := fun z => hn (by rw [z]; exact List.mem_cons_self)
      rw [upd_ne hca]
      exact bu c o (fun z => hn (List.mem_cons_of_mem _ z)) (g1 c o e)
theorem ok__law_spoilt (T : Tx K mg) (k : Nat) (hk : 12 ≤ k) : ∃ g gd, mg "_law_spoilt" = some (.ref g) ∧ Fun K "_law_spoilt" "_law_spoilt" s__law_spoilt g gd ∧ FnOk P w K mg base CX0 k g gd ["thing"] (spSp K 12) := by
  obtain ⟨f, fd, hm, F⟩ := T.d__law_spoilt
  exact ⟨f, fd, hm, F, (spoilt_fn F hm T.n_isinstance T.n_list T.n_tuple 12).mono hk⟩

theorem sc_deciding : FnScope ["row"] ["row"] (defScope s_deciding) := ⟨rfl, rfl, rfl, by decide +kernel, rfl, by decide +kernel, by decide +kernel⟩
theorem bt_deciding : BindT "deciding" s_deciding ["row"] := fun _ _ _ _ _ _ us hl => match us, hl with | [_], _ => rfl
def m_deciding : Vm.Env → M (Fl × Vm.Env) := (sCons (sRet (vCall 1 F_deciding_by (aCons (vCall 1 F_need_row (aCons (eName 0) aNil)) aNil)))
  sNil)
def F_deciding : Fn := fnOf 1 m_deciding
theorem ok_deciding (T : Tx K mg) : FnT0 P w K mg base 7 "deciding" s_deciding ["row"] F_deciding :=
  FnT0.of (k := 6) T.d_deciding sc_deciding (by decide) fun f cdv A outer s H E hr => by
    have h1 := room1 hr; have h64 := room64 hr; have h65 := room65 hr
    exact (dss_cons (ds_ret (de_call (FnT0.t (ok_deciding_by T) bt_deciding_by) (hr.mono (by decide)) (by rfl) (da_cons (de_call (FnT0.t (ok_need_row T) bt_need_row) (hr.mono (by decide)) (by rfl) (da_cons (nm 0) da_nil)) da_nil)))
  dss_nil)
theorem sc_layer_of : FnScope ["left", "found", "heed", "value", "told"] ["left"] (defScope s_layer_of) := ⟨rfl, rfl, rfl, by decide +kernel, rfl, by decide +kernel, by decide +kernel⟩
theorem bt_layer_of : BindT "layer_of" s_layer_of ["left"] := fun _ _ _ _ _ _ us hl => match us, hl with | [_], _ => rfl
def m_layer_of : Vm.Env → M (Fl × Vm.Env) := (sCons (sAsg (tgName 1) (vLst aNil))
  (sCons (sFor (iSeq (vCall 1 F_deciding_by (aCons (eName 0) aNil))) (tgTup 3 (tgCons (tgName 2) (tgCons (tgName 3) (tgCons (tgName 4) tgNil)))) (sCons (sIf (tOrM (tNotM (tru (eName 1))) (asB (ev2 (oEq true) (ev2 oIx (ev2 oIx (eName 1) (vNeg (eInt 1))) (eInt 0)) (eName 2)))) (sCons (sApp 1 (vTup (aCons (eName 2) (aCons (eName 3) (aCons (eName 4) aNil)))))
  sNil) sNil)
  sNil))
  (sCons (sRet (eName 1))
  sNil)))
def F_layer_of : Fn := fnOf 5 m_layer_of
theorem ok_layer_of (T : Tx K mg) : FnT0 P w K mg base 4 "layer_of" s_layer_of ["left"] F_layer_of :=
  FnT0.of (k := 3) T.d_layer_of sc_layer_of (by decide) fun f cdv A outer s H E hr => by
    have h1 := room1 hr; have h64 := room64 hr; have h65 := room65 hr
    exact (dss_cons (ds_set sc_layer_of.nd (i := 1) rfl (.inl rfl) (de_lst da_nil))
  (dss_cons (ds_for (passes_of rfl) rfl (di_seq (de_call (FnT0.t (ok_deciding_by T) bt_deciding_by) (hr.mono (by decide)) (by rfl) (da_cons (nm 0) da_nil))) (dg_tup rfl (dgs_cons (dg_name sc_layer_of.nd (i := 2) rfl (.inl rfl)) (dgs_cons (dg_name sc_layer_of.nd (i := 3) rfl (.inl rfl)) (dgs_cons (dg_name sc_layer_of.nd (i := 4) rfl (.inl rfl)) dgs_nil)))) (dss_cons (ds_if (DW.dt (dw_or (dt_not (dt_truth (nm 1))) (dw_or1 (dt_cmp (o_ne h64) (de_ix (de_ix (nm 1) (de_neg nInt) (by intro _ _; rfl)) nInt (by intro _ _; rfl)) (nm 2))))) (dss_cons (ds_append (x := 1) rfl (.inl rfl) (de_tup (da_cons (nm 2) (da_cons (nm 3) (da_cons (nm 4) da_nil)))))
  dss_nil) dss_nil)
  dss_nil))
  (dss_cons (ds_ret (nm 1))
  dss_nil)))
theorem sc_layers : FnScope ["row", "left", "names", "found", "layer", "heed", "value", "_", "told"] ["row"] (defScope s_layers) := ⟨rfl, rfl, rfl, by decide +kernel, rfl, by decide +kernel, by decide +kernel⟩
theorem bt_layers : BindT "layers" s_layers ["row"] := fun _ _ _ _ _ _ us hl => match us, hl with | [_], _ => rfl
def m_layers : Vm.Env → M (Fl × Vm.Env) := (sCons (sAsg (tgName 1) (vCall 1 F_need_row (aCons (eName 0) aNil)))
  (sCons (sAsg (tgTup 2 (tgCons (tgName 2) (tgCons (tgName 3) tgNil))) (vTup (aCons (vRg1 lRg (vCall 1 F_heeds_of (aCons (eName 1) aNil))) (aCons (vLst aNil) aNil))))
  (sCons (whileLoop (tNotM (tru (vCall 1 F_is_one (aCons (eName 1) aNil)))) (sCons (sAsg (tgName 4) (vCall 1 F_layer_of (aCons (eName 1) aNil)))
  (sCons (sIf (tNotM (tru (eName 4))) (sCons (sRaise "NotNested" [] aNil)
  sNil) sNil)
  (sCons (sApp 3 (vComp (iSeq (eName 4)) [5, 6, 8] (tgTup 3 (tgCons (tgName 5) (tgCons (tgName 6) (tgCons (tgName 8) tgNil)))) cYes (vTup (aCons (ev2 oIx (eName 2) (eName 5)) (aCons (eName 6) (aCons (eName 8) aNil))))))
  (sCons (sFor (iSeq (vRev (eName 4))) (tgTup 3 (tgCons (tgName 5) (tgCons (tgName 6) (tgCons (tgName 7) tgNil)))) (sCons (sAsg (tgName 1) (vCall 3 F_at_value (aCons (eName 1) (aCons (eName 5) (aCons (ev2 oSubI (eInt 1) (eName 6)) aNil)))))
  (sCons (sAsg (tgName 2) (ev2 oAdd (evSl (eName 2) pNo (pSome (eName 5))) (evSl (eName 2) (pSome (ev2 oAdd (eName 5) (eInt 1))) pNo)))
  sNil)))
  sNil)))) 100)
  (sCons (sRet (eName 3))
  sNil))))
def F_layers : Fn := fnOf 9 m_layers
theorem ok_layers (T : Tx K mg) : FnT0 P w K mg base 7 "layers" s_layers ["row"] F_layers :=
  FnT0.of (k := 6) T.d_layers sc_layers (by decide) fun f cdv A outer s H E hr => by
    have h1 := room1 hr; have h64 := room64 hr; have h65 := room65 hr
    exact (dss_cons (ds_set sc_layers.nd (i := 1) rfl (.inl rfl) (de_call (FnT0.t (ok_need_row T) bt_need_row) (hr.mono (by decide)) (by rfl) (da_cons (nm 0) da_nil)))
  (dss_cons (ds_asg (de_tup (da_cons (de_lrg1 T.n_list T.n_range (de_call (FnT0.t (ok_heeds_of T) bt_heeds_of) (hr.mono (by decide)) (by rfl) (da_cons (nm 1) da_nil))) (da_cons (de_lst da_nil) da_nil))) (dg_tup rfl (dgs_cons (dg_name sc_layers.nd (i := 2) rfl (.inr rfl)) (dgs_cons (dg_name sc_layers.nd (i := 3) rfl (.inl rfl)) dgs_nil))))
  (dss_cons (ds_while 100 (passes_of rfl) (dt_not (dt_truth (de_call (FnT0.t (ok_is_one T) bt_is_one) (hr.mono (by decide)) (by rfl) (da_cons (nm 1) da_nil)))) (dss_cons (ds_set sc_layers.nd (i := 4) rfl (.inl rfl) (de_call (FnT0.t (ok_layer_of T) bt_layer_of) (hr.mono (by decide)) (by rfl) (da_cons (nm 1) da_nil)))
  (dss_cons (ds_if (dt_not (dt_truth (nm 4))) (dss_cons (ds_raise0 T.e_NotNested rfl rfl)
  dss_nil) dss_nil)
  (dss_cons (ds_append (x := 3) rfl (.inl rfl) (de_comp (own := [("heed", 5), ("value", 6), ("told", 8)]) rfl sc_layers.nd (di_seq (nm 4)) (blkOk_by (by kernel_rfl)) (by decide) (fun _ _ _ _ _ => (dg_tup rfl (dgs_cons (dg_name sc_layers.nd (i := 5) rfl (.inl rfl)) (dgs_cons (dg_name sc_layers.nd (i := 6) rfl (.inl rfl)) (dgs_cons (dg_name sc_layers.nd (i := 8) rfl (.inl rfl)) dgs_nil))))) (fun _ _ _ _ _ => dts_nil) (fun _ _ _ _ _ => (de_tup (da_cons (de_ix (nm 2) (nm 5) (by intro _ _; rfl)) (da_cons (nm 6) (da_cons (nm 8) da_nil)))))))
  (dss_cons (ds_for (passes_of rfl) rfl (di_seq (de_rev (nm 4))) (dg_tup rfl (dgs_cons (dg_name sc_layers.nd (i := 5) rfl (.inl rfl)) (dgs_cons (dg_name sc_layers.nd (i := 6) rfl (.inl rfl)) (dgs_cons (dg_name sc_layers.nd (i := 7) rfl (.inl rfl)) dgs_nil)))) (dss_cons (ds_set sc_layers.nd (i := 1) rfl (.inl rfl) (de_call (FnT0.t (ok_at_value T) bt_at_value) (hr.mono (by decide)) (by rfl) (da_cons (nm 1) (da_cons (nm 5) (da_cons (de_bin o_subI nInt (nm 6)) da_nil)))))
  (dss_cons (ds_set sc_layers.nd (i := 2) rfl (.inr rfl) (de_bin o_add (de_sl (nm 2) dp_no (dp_some (nm 5))) (de_sl (nm 2) (dp_some (de_bin o_add (nm 5) nInt)) dp_no)))
  dss_nil)))
  dss_nil)))))
  (dss_cons (ds_ret (nm 3))
  dss_nil))))
theorem sc__law_loose : FnScope ["stream", "thing", "some", "part"] ["stream", "thing"] (defScope s__law_loose) := ⟨rfl, rfl, rfl, by decide +kernel, rfl, by decide +kernel, by decide +kernel⟩
theorem bt__law_loose : BindT "_law_loose" s__law_loose ["stream", "thing"] := fun _ _ _ _ _ _ us hl => match us, hl with | [_, _], _ => rfl
def m__law_loose (self : Fn) : Vm.Env → M (Fl × Vm.Env) := (sCons (sIf (tNotM (tru (vIsi (fun t => pIs "list" t || pIs "tuple" t) (eName 1)))) (sCons (sRet (eName 1))
  sNil) sNil)
  (sCons (sAsg (tgName 2) (vComp (iSeq (eName 1)) [3] (tgName 3) cYes (vCall 2 self (aStm 0 (aCons (eName 3) aNil)))))
  (sCons (sRet (vIf (asB (ev2 (oEq false) (vCall 2 F__law_draw (aStm 0 (aCons (eInt 2) aNil))) (eInt 0))) (vB bTuple (aCons (eName 2) aNil)) (eName 2)))
  sNil)))
def F__law_loose : Nat → Fn
  | 0 => stuckF
  | n + 1 => fnOf 4 (m__law_loose (F__law_loose n))
theorem ok__law_loose (T : Tx K mg) : ∀ n : Nat, FnT0 P w K mg base (1 + n) "_law_loose" s__law_loose ["stream", "thing"] (F__law_loose n)
  | 0 => FnT0.zero T.d__law_loose _ _
  | n + 1 => by
    have ih := ok__law_loose T n
    exact FnT0.of (k := 1 + n) T.d__law_loose sc__law_loose (by decide) fun f cdv A outer s H E hr => by
      have h1 := room1 hr; have h64 := room64 hr; have h65 := room65 hr
      exact (dss_cons (ds_if (dt_not (dt_truth (isi2 (by decide) (by decide) T.n_isinstance T.n_list T.n_tuple (nm 1)))) (dss_cons (ds_ret (nm 1))
  dss_nil) dss_nil)
  (dss_cons (ds_setLc (own := [("part", 3)]) rfl sc__law_loose.nd (i := 2) rfl rfl rfl (di_seq (nm 1)) (blkOk_by (by kernel_rfl)) (by decide) (fun _ _ _ _ _ => (dg_name sc__law_loose.nd (i := 3) rfl (.inl rfl))) (fun _ _ _ _ _ => dts_nil) (fun _ _ _ _ _ => (de_call (FnT0.t ih bt__law_loose) hr (by rfl) (stA 0 (da_cons (nm 3) da_nil)))))
  (dss_cons (ds_ret (de_if (dt_cmp (o_eq h64) (de_call (FnT0.t (ok__law_draw T) bt__law_draw) (hr.mono (by omega)) (by rfl) (stA 0 (da_cons nInt da_nil))) nInt) (cT oc_tuple T.n_tuple (da_cons (nm 2) da_nil)) (nm 2)))
  dss_nil)))
theorem sc__law_at : FnScope ["row", "many", "heed", "value", "state", "told"] ["row", "many", "heed", "value"] (defScope s__law_at) := ⟨rfl, rfl, rfl, by decide +kernel, rfl, by decide +kernel, by decide +kernel⟩
theorem bt__law_at : BindT "_law_at" s__law_at ["row", "many", "heed", "value"] := fun _ _ _ _ _ _ us hl => match us, hl with | [_, _, _, _], _ => rfl
def m__law_at : Vm.Env → M (Fl × Vm.Env) := (sCons (sRet (vComp (itZip2 (aCons (vCall 1 F__law_states (aCons (eName 1) aNil)) (aCons (eName 0) aNil))) [4, 5] (tgTup 2 (tgCons (tgName 4) (tgCons (tgName 5) tgNil))) (asB (ev2 (oEq false) (ev2 oIx (eName 4) (eName 2)) (eName 3))) (eName 5)))
  sNil)
def F__law_at : Fn := fnOf 6 m__law_at
theorem ok__law_at (T : Tx K mg) : FnT0 P w K mg base 2 "_law_at" s__law_at ["row", "many", "heed", "value"] F__law_at :=
  FnT0.of (k := 1) T.d__law_at sc__law_at (by decide) fun f cdv A outer s H E hr => by
    have h1 := room1 hr; have h64 := room64 hr; have h65 := room65 hr
    exact (dss_cons (ds_ret (de_comp (own := [("state", 4), ("told", 5)]) rfl sc__law_at.nd (di_zip2 (by rfl) T.n_zip (da_cons (de_call (FnT0.t (ok__law_states T) bt__law_states) (hr.mono (by decide)) (by rfl) (da_cons (nm 1) da_nil)) (da_cons (nm 0) da_nil))) (blkOk_by (by kernel_rfl)) (by decide) (fun _ _ _ _ _ => (dg_tup rfl (dgs_cons (dg_name sc__law_at.nd (i := 4) rfl (.inl rfl)) (dgs_cons (dg_name sc__law_at.nd (i := 5) rfl (.inl rfl)) dgs_nil)))) (fun _ _ _ _ _ => (dts_one (dt_cmp (o_eq h64) (de_ix (nm 4) (nm 2) (by intro _ _; rfl)) (nm 3)))) (fun _ _ _ _ _ => (nm 5))))
  dss_nil)
theorem sc__law_deciding : FnScope ["row", "many", "found", "heed", "value", "part"] ["row", "many"] (defScope s__law_deciding) := ⟨rfl, rfl, rfl, by decide +kernel, rfl, by decide +kernel, by decide +kernel⟩
theorem bt__law_deciding : BindT "_law_deciding" s__law_deciding ["row", "many"] := fun _ _ _ _ _ _ us hl => match us, hl with | [_, _], _ => rfl
def m__law_deciding : Vm.Env → M (Fl × Vm.Env) := (sCons (sAsg (tgName 2) (vLst aNil))
  (sCons (sFor (iRange1 (aCons (eName 1) aNil)) (tgName 3) (sCons (sFor (iRange1 (aCons (eInt 2) aNil)) (tgName 4) (sCons (sAsg (tgName 5) (vCall 4 F__law_at (aCons (eName 0) (aCons (eName 1) (aCons (eName 3) (aCons (eName 4) aNil))))))
  (sCons (sIf (asB (ev2 (oEq false) (eName 5) (ev2 oMul (vLst (aCons (ev2 oIx (eName 5) (eInt 0)) aNil)) (vB bLen (aCons (eName 5) aNil))))) (sCons (sApp 2 (vTup (aCons (eName 3) (aCons (eName 4) (aCons (ev2 oIx (eName 5) (eInt 0)) aNil)))))
  sNil) sNil)
  sNil)))
  sNil))
  (sCons (sRet (eName 2))
  sNil)))
def F__law_deciding : Fn := fnOf 6 m__law_deciding
theorem ok__law_deciding (T : Tx K mg) : FnT0 P w K mg base 3 "_law_deciding" s__law_deciding ["row", "many"] F__law_deciding :=
  FnT0.of (k := 2) T.d__law_deciding sc__law_deciding (by decide) fun f cdv A outer s H E hr => by
    have h1 := room1 hr; have h64 := room64 hr; have h65 := room65 hr
    exact (dss_cons (ds_set sc__law_deciding.nd (i := 2) rfl (.inl rfl) (de_lst da_nil))
  (dss_cons (ds_for (passes_of rfl) rfl (di_range1 (by rfl) T.n_range (da_cons (nm 1) da_nil)) (dg_name sc__law_deciding.nd (i := 3) rfl (.inl rfl)) (dss_cons (ds_for (passes_of rfl) rfl (di_range1 (by rfl) T.n_range (da_cons nInt da_nil)) (dg_name sc__law_deciding.nd (i := 4) rfl (.inl rfl)) (dss_cons (ds_set sc__law_deciding.nd (i := 5) rfl (.inl rfl) (de_call (FnT0.t (ok__law_at T) bt__law_at) (hr.mono (by decide)) (by rfl) (da_cons (nm 0) (da_cons (nm 1) (da_cons (nm 3) (da_cons (nm 4) da_nil))))))
  (dss_cons (ds_if (dt_cmp (o_eq h64) (nm 5) (de_bin o_mul (de_lst (da_cons (de_ix (nm 5) nInt (by intro _ _; rfl)) da_nil)) (cB oc_len T.n_len (da_cons (nm 5) da_nil)))) (dss_cons (ds_append (x := 2) rfl (.inl rfl) (de_tup (da_cons (nm 3) (da_cons (nm 4) (da_cons (de_ix (nm 5) nInt (by intro _ _; rfl)) da_nil)))))
  dss_nil) dss_nil)
  dss_nil)))
  dss_nil))
  (dss_cons (ds_ret (nm 2))
  dss_nil)))
theorem sc__law_peel : FnScope ["row", "many", "left", "names", "found", "some", "firsts", "heed", "value", "told", "at", "one"] ["row", "many"] (defScope s__law_peel) := ⟨rfl, rfl, rfl, by decide +kernel, rfl, by decide +kernel, by decide +kernel⟩
theorem bt__law_peel : BindT "_law_peel" s__law_peel ["row", "many"] := fun _ _ _ _ _ _ us hl => match us, hl with | [_, _], _ => rfl
def m__law_peel : Vm.Env → M (Fl × Vm.Env) := (sCons (sAsg (tgTup 3 (tgCons (tgName 2) (tgCons (tgName 3) (tgCons (tgName 4) tgNil)))) (vTup (aCons (vB bList (aCons (eName 0) aNil)) (aCons (vRg1 lRg (eName 1)) (aCons (vLst aNil) aNil)))))
  (sCons (whileLoop (asB (ev2 (oEq true) (eName 2) (ev2 oMul (vLst (aCons (ev2 oIx (eName 2) (eInt 0)) aNil)) (vB bLen (aCons (eName 2) aNil))))) (sCons (sAsg (tgName 5) (vCall 2 F__law_deciding (aCons (eName 2) (aCons (vB bLen (aCons (eName 3) aNil)) aNil))))
  (sCons (sAsg (tgName 6) (vComp (itEnum (aCons (eName 5) aNil)) [10, 11] (tgTup 2 (tgCons (tgName 10) (tgCons (tgName 11) tgNil))) (tOrM (asB (ev2 (oEq false) (eName 10) (eInt 0))) (asB (ev2 (oEq true) (ev2 oIx (ev2 oIx (eName 5) (ev2 oSubI (eName 10) (eInt 1))) (eInt 0)) (ev2 oIx (eName 11) (eInt 0))))) (eName 11)))
  (sCons (sIf (asB (ev2 (oEq false) (eName 6) (vLst aNil))) (sCons sBrk
  sNil) sNil)
  (sCons (sApp 4 (vComp (iSeq (eName 6)) [7, 8, 9] (tgTup 3 (tgCons (tgName 7) (tgCons (tgName 8) (tgCons (tgName 9) tgNil)))) cYes (vTup (aCons (ev2 oIx (eName 3) (eName 7)) (aCons (eName 8) (aCons (eName 9) aNil))))))
  (sCons (sFor (iSeq (vRev (eName 6))) (tgTup 3 (tgCons (tgName 7) (tgCons (tgName 8) (tgCons (tgName 9) tgNil)))) (sCons (sAsg (tgName 2) (vCall 4 F__law_at (aCons (eName 2) (aCons (vB bLen (aCons (eName 3) aNil)) (aCons (eName 7) (aCons (ev2 oSubI (eInt 1) (eName 8)) aNil))))))
  (sCons (sAsg (tgName 3) (ev2 oAdd (evSl (eName 3) pNo (pSome (eName 7))) (evSl (eName 3) (pSome (ev2 oAdd (eName 7) (eInt 1))) pNo)))
  sNil)))
  sNil))))) 100)
  (sCons (sRet (vTup (aCons (eName 4) (aCons (eName 3) (aCons (eName 2) aNil)))))
  sNil)))
def F__law_peel : Fn := fnOf 12 m__law_peel
theorem ok__law_peel (T : Tx K mg) : FnT0 P w K mg base 4 "_law_peel" s__law_peel ["row", "many"] F__law_peel :=
  FnT0.of (k := 3) T.d__law_peel sc__law_peel (by decide) fun f cdv A outer s H E hr => by
    have h1 := room1 hr; have h64 := room64 hr; have h65 := room65 hr
    exact (dss_cons (ds_asg (de_tup (da_cons (cT oc_list T.n_list (da_cons (nm 0) da_nil)) (da_cons (de_lrg1 T.n_list T.n_range (nm 1)) (da_cons (de_lst da_nil) da_nil)))) (dg_tup rfl (dgs_cons (dg_name sc__law_peel.nd (i := 2) rfl (.inl rfl)) (dgs_cons (dg_name sc__law_peel.nd (i := 3) rfl (.inr rfl)) (dgs_cons (dg_name sc__law_peel.nd (i := 4) rfl (.inl rfl)) dgs_nil)))))
  (dss_cons (ds_while 100 (passes_of rfl) (dt_cmp (o_ne h64) (nm 2) (de_bin o_mul (de_lst (da_cons (de_ix (nm 2) nInt (by intro _ _; rfl)) da_nil)) (cB oc_len T.n_len (da_cons (nm 2) da_nil)))) (dss_cons (ds_set sc__law_peel.nd (i := 5) rfl (.inr rfl) (de_call (FnT0.t (ok__law_deciding T) bt__law_deciding) (hr.mono (by decide)) (by rfl) (da_cons (nm 2) (da_cons (cB oc_len T.n_len (da_cons (nm 3) da_nil)) da_nil))))
  (dss_cons (ds_setLc (own := [("at", 10), ("one", 11)]) rfl sc__law_peel.nd (i := 6) rfl rfl rfl (di_enum (by rfl) T.n_enumerate (da_cons (nm 5) da_nil)) (blkOk_by (by kernel_rfl)) (by decide) (fun _ _ _ _ _ => (dg_tup rfl (dgs_cons (dg_name sc__law_peel.nd (i := 10) rfl (.inl rfl)) (dgs_cons (dg_name sc__law_peel.nd (i := 11) rfl (.inl rfl)) dgs_nil)))) (fun _ _ _ _ _ => (dts_one (DW.dt (dw_or (dt_cmp (o_eq h64) (nm 10) nInt) (dw_or1 (dt_cmp (o_ne h64) (de_ix (de_ix (nm 5) (de_bin o_subI (nm 10) nInt) (by intro _ _; rfl)) nInt (by intro _ _; rfl)) (de_ix (nm 11) nInt (by intro _ _; rfl)))))))) (fun _ _ _ _ _ => (nm 11)))
  (dss_cons (ds_if (dt_cmp (o_eq h64) (nm 6) (de_lst da_nil)) (dss_cons ds_break
  dss_nil) dss_nil)
  (dss_cons (ds_append (x := 4) rfl (.inl rfl) (de_comp (own := [("heed", 7), ("value", 8), ("told", 9)]) rfl sc__law_peel.nd (di_seq (nm 6)) (blkOk_by (by kernel_rfl)) (by decide) (fun _ _ _ _ _ => (dg_tup rfl (dgs_cons (dg_name sc__law_peel.nd (i := 7) rfl (.inl rfl)) (dgs_cons (dg_name sc__law_peel.nd (i := 8) rfl (.inl rfl)) (dgs_cons (dg_name sc__law_peel.nd (i := 9) rfl (.inl rfl)) dgs_nil))))) (fun _ _ _ _ _ => dts_nil) (fun _ _ _ _ _ => (de_tup (da_cons (de_ix (nm 3) (nm 7) (by intro _ _; rfl)) (da_cons (nm 8) (da_cons (nm 9) da_nil)))))))
  (dss_cons (ds_for (passes_of rfl) rfl (di_seq (de_rev (nm 6))) (dg_tup rfl (dgs_cons (dg_name sc__law_peel.nd (i := 7) rfl (.inl rfl)) (dgs_cons (dg_name sc__law_peel.nd (i := 8) rfl (.inl rfl)) (dgs_cons (dg_name sc__law_peel.nd (i := 9) rfl (.inl rfl)) dgs_nil)))) (dss_cons (ds_set sc__law_peel.nd (i := 2) rfl (.inl rfl) (de_call (FnT0.t (ok__law_at T) bt__law_at) (hr.mono (by decide)) (by rfl) (da_cons (nm 2) (da_cons (cB oc_len T.n_len (da_cons (nm 3) da_nil)) (da_cons (nm 7) (da_cons (de_bin o_subI nInt (nm 8)) da_nil))))))
  (dss_cons (ds_set sc__law_peel.nd (i := 3) rfl (.inr rfl) (de_bin o_add (de_sl (nm 3) dp_no (dp_some (nm 7))) (de_sl (nm 3) (dp_some (de_bin o_add (nm 7) nInt)) dp_no)))
  dss_nil)))
  dss_nil))))))
  (dss_cons (ds_ret (de_tup (da_cons (nm 4) (da_cons (nm 3) (da_cons (nm 2) da_nil)))))
  dss_nil)))
open LamX in
theorem de_twice {X : Cx} {k : Nat} {c P : Addr} {fdue f1 f2 : Vm.Env → M RV} {Fc Fs : Fn} {edue body1 body2 : Expr} {a1 a2 : Arguments} {scope1 scope2 : Scope} {p pos lp1 lp2 : Pos}
    (Dt : DefT X.K X.mg "_law_twice" s__law_twice) (Tc : FnT0 X.prog X.w X.K X.mg X.base k "_law_copied" s__law_copied ["thing"] Fc) (Ts : FnT0 X.prog X.w X.K X.mg X.base k "_law_same" s__law_same ["found", "due"] Fs)
    (Tp : ∃ g gd, X.mg "_law_spoilt" = some (.ref g) ∧ Fun X.K "_law_spoilt" "_law_spoilt" s__law_spoilt g gd ∧ FnOk X.prog X.w X.K X.mg X.base CX0 k g gd ["thing"] (spSp X.K 12)) (hr : Room (k + 2) X.A) (TA : TabAt X c P) (hdue : DE X edue fdue)
    (B1 : ∀ (A : Around) (outer : List PySem.Env) (s : Shared) (H : Hp) (E : XK) (f c' : Addr), Room k (A.deeper (lamEnv X scope1 s.heap.objs.size f c')) → DE (lamCx X A outer s H E scope1 f c') body1 f1)
    (B2 : ∀ (A : Around) (outer : List PySem.Env) (s : Shared) (H : Hp) (E : XK) (f c' : Addr), Room k (A.deeper (lamEnv X scope2 s.heap.objs.size f c')) → DE (lamCx X A outer s H E scope2 f c') body2 f2)
    (L1 : LamS X.env.scope scope1) (L2' : LamS X.env.scope scope2) (hd1 : defaultsOf a1 X.env = ([], [])) (hd2 : defaultsOf a2 X.env = ([], []))
    (hb1 : ∀ (q : Str) (cl : List (Str × Addr)) (pm cv ctv : Value), bindArgs (PySem.W.kla_fn "<lambda>" q a1 body1 scope1 cl pm cv ctv) ⟨[], []⟩ = pure []) (hb2 : ∀ (q : Str) (cl : List (Str × Addr)) (pm cv ctv : Value), bindArgs (PySem.W.kla_fn "<lambda>" q a2 body2 scope2 cl pm cv ctv) ⟨[], []⟩ = pure [])
    (hfs : ∀ b ∈ X.fs, b ∈ frs X.stack) (hgl : Gl X "_law_twice" := by rfl) (he : starEach [edue, .Lambda a1 body1 scope1 lp1, .Lambda a2 body2 scope2 lp2] X.env = (false, eval edue X.env) :: starEach [.Lambda a1 body1 scope1 lp1, .Lambda a2 body2 scope2 lp2] X.env := by rfl) :
    DE X (.Call (.Name "_law_twice" p) [edue, .Lambda a1 body1 scope1 lp1, .Lambda a2 body2 scope2 lp2] [] pos) (vTwice fdue f1 f2 Fc Fs) := by
  refine ⟨fun σ H Q => ∃ (G : Gx) (S : Addr → Prop) (env : Vm.Env) (os : Nat → List Addr) (b : Nat), GOk G X ∧ ER G S H env σ os ∧ Stm H G.st b ∧ (vTwice fdue f1 f2 Fc Fs env).all G.R (Post X.K G.st S os H Q) b, ⟨fun pins s σ H Q I h => ?_⟩, fun G S H env σ os b Q hK E sm h => ⟨G, S, env, os, b, hK, E, sm, h⟩⟩
  obtain ⟨G, S, env, os, b, hK, E, sm, h⟩ := h
  unfold vTwice at h
  rw [M.all_bind] at h
  obtain ⟨td, htd, qd⟩ := hdue
  obtain ⟨g, gd, hmg, Ft⟩ := Dt.ex
  have Ftk := Ft.kp
  have Ftb := Ft.binds bt__law_twice
  obtain ⟨oc, od, kV, doc, pm, an, cdv, ct, osl, rfl, lk, hcd⟩ := Ft.ex
  obtain ⟨fc, fcd, hmc, Fcu, okc⟩ := Tc.ex
  obtain ⟨fs, fsd, hms, Fsu, oks⟩ := Ts.ex
  obtain ⟨fp0, fpd0, hmp, Fpu, okp⟩ := Tp
  refine wpAny_Call_Name_kw (ld_glob I hgl hmg ?_ (by decide))
  refine PySem.W.callWith_K (h₀ := X.base) I.ok.mod.kin Ftk ?_ he (by rfl)
  rw [he]
  show wpAny _ _ (spliced ((false, eval edue X.env) :: backTo pos (starEach [.Lambda a1 body1 scope1 lp1, .Lambda a2 body2 scope2 lp2] X.env))) _ _ s
  refine Calls.spliced_cons (thn (htd.run pins s σ H (fun v H1 => ∃ (r : RV) (b1 : Nat), SameX G.st H H1 ∧ Stm H1 G.st b1 ∧ RVok X.K G.st S os H H1 r v ∧ (vTw f1 f2 Fc Fs env r).all G.R (Post X.K G.st S os H Q) b1) I (qd G S H env σ os b _ hK E sm (M.all_mono (fun r b1 h1 v H1 x1 sm1 ok1 => ⟨r, b1, x1, sm1, ok1, h1⟩) _ _ h))) fun u s1 ⟨v, H1, I1, rv, r, b1, x1, sm1, ok1, h1⟩ => ?_)
  show wpAny _ _ (spliced ((false, eval (.Lambda a1 body1 scope1 lp1) X.env) :: backTo pos (starEach [.Lambda a2 body2 scope2 lp2] X.env))) _ _ s1
  refine Calls.spliced_cons (lam_born I1 sm1 TA hd1 (L1.has I1.ok) fun fa ca pma ctva H2 s2 I2 x2 sm2 hfa hna hfra hca => ?_)
  have I2p : Inv X (pins ++ [(fa, PySem.W.kla_obj "<lambda>" (X.env.qual ++ "<lambda>") a1 body1 scope1 (cloFrom X.env.cells scope1.names []) pma ca ctva)]) σ H2 s2 := I2.pins_of fun q hq => by
    rcases List.mem_append.mp hq with z | z
    · exact I2.pin q (List.mem_append_right _ z)
    · have e : q = (fa, PySem.W.kla_obj "<lambda>" (X.env.qual ++ "<lambda>") a1 body1 scope1 (cloFrom X.env.cells scope1.names []) pma ca ctva) := by simpa using z
      subst e
      refine ⟨hfa, hna, fun e => ?_, fun z => hfra (hfs _ z), fun v z => by cases z⟩
      obtain ⟨m, ⟨o, es, ep, e1, e2, _⟩, _⟩ := I2.loc
      have e : fa = X.env.locals := e
      rw [← e, hfa] at e1
      cases e1
      cases e2
  show wpAny _ _ (spliced ((false, eval (.Lambda a2 body2 scope2 lp2) X.env) :: backTo pos (starEach [] X.env))) _ _ s2
  refine Calls.spliced_cons (lam_born I2p sm2 TA hd2 (L2'.has I2.ok) fun fb cb pmb ctvb H3 s3 I3 x3 sm3 hfb hnb hfrb hcb => ?_)
  obtain ⟨hfa3, hna3, _⟩ := I3.pin (fa, PySem.W.kla_obj "<lambda>" (X.env.qual ++ "<lambda>") a1 body1 scope1 (cloFrom X.env.cells scope1.names []) pma ca ctva) (by simp)
  have hfa3 : s3.heap.get? fa = some (PySem.W.kla_obj "<lambda>" (X.env.qual ++ "<lambda>") a1 body1 scope1 (cloFrom X.env.cells scope1.names []) pma ca ctva) := hfa3
  have hna3 : H3 fa = none := hna3
  have I3' : Inv X pins σ H3 s3 := I3.pins_of fun q hq => I3.pin q (by simp [hq])
  refine Calls.spliced_nil ⟨I3.kIn, ?_⟩
  have rc : codeAny (model X.prog X.w) X.A (.call (.ref g) ⟨[u, .ref fa, .ref fb], []⟩) (CR CX0 X.stack X.prog X.w H3 s3 Q E0) s3 := by
    refine run_ofS (CX := CX0) (E := E0) (N := ["due", "first", "other", "found", "spoilt"]) (ps := ["due", "first", "other"]) (us := [u, .ref fa, .ref fb]) (vs := [v, .ref fa, .ref fb]) lk hcd sc__law_twice (k := k + 1) hr I3'.env0 (Ftb s3 [u, .ref fa, .ref fb] I3.kIn rfl) (.cons rv (.cons rfl (.cons rfl .nil))) rfl fun hr' => ?_
    have actA : ∀ p1 p2, PE (cxOf CX0 X.prog X.w X.K X.mg X.base ["due", "first", "other", "found", "spoilt"] "_law_twice" (defScope s__law_twice) g cdv X.A X.stack s3 H3 E0).nox (.Call (.Name "first" p1) [] [] p2) (fun σZ HZ Q => σZ[1]? = some (some (.ref fa)) ∧ HZ ca = some (CodeO ca (X.env.qual ++ "<lambda>")) ∧ tOf X.K f1 σ HZ Q) := fun p1 p2 =>
      pe_act (CXg := CX0) (Eg := E0) (pn := (cxOf CX0 X.prog X.w X.K X.mg X.base ["due", "first", "other", "found", "spoilt"] "_law_twice" (defScope s__law_twice) g cdv X.A X.stack s3 H3 E0).pn) (xe := fun _ _ => False) (W := fun _ _ _ _ => False) (E := fun _ _ _ => False) (i := 1) (k := k) I3' L1 hfa3 hna3 hfra (hb1 _ _ _ _ _) L2.takes0 (fun _ _ _ _ h => h) hr' (fun A outer s H hr2 => (B1 A outer s H (fun _ _ _ => False) fa ca hr2).pe) rfl (.inl rfl)
    have actB : ∀ p1 p2, PE (cxOf CX0 X.prog X.w X.K X.mg X.base ["due", "first", "other", "found", "spoilt"] "_law_twice" (defScope s__law_twice) g cdv X.A X.stack s3 H3 E0).nox (.Call (.Name "other" p1) [] [] p2) (fun σZ HZ Q => σZ[2]? = some (some (.ref fb)) ∧ HZ cb = some (CodeO cb (X.env.qual ++ "<lambda>")) ∧ tOf X.K f2 σ HZ Q) := fun p1 p2 =>
      pe_act (CXg := CX0) (Eg := E0) (pn := (cxOf CX0 X.prog X.w X.K X.mg X.base ["due", "first", "other", "found", "spoilt"] "_law_twice" (defScope s__law_twice) g cdv X.A X.stack s3 H3 E0).pn) (xe := fun _ _ => False) (W := fun _ _ _ _ => False) (E := fun _ _ _ => False) (i := 2) (k := k) I3' L2' hfb hnb hfrb (hb2 _ _ _ _ _) L2.takes0 (fun _ _ _ _ h => h) hr' (fun A outer s H hr2 => (B2 A outer s H (fun _ _ _ => False) fb cb hr2).pe) rfl (.inl rfl)
    have hrk : Room k _ := hr'.mono (Nat.le_succ k)
    refine ⟨_, (pss_cons (ps_par rfl sc__law_twice.nd (i := 3) (j := 4) rfl rfl (by decide) rfl rfl (pa_cons (actA _ _) (pa_cons (pe_call okc hrk (by rfl) hmc Fcu.kp (Fcu.binds bt__law_copied) .nil passF (pa_cons (pv 0) pa_nil)) pa_nil)) (by rfl))
      (pss_cons (ps_if (pt_not (pt_truth (pe_call oks hrk (by rfl) hms Fsu.kp (Fsu.binds bt__law_same) .nil passF (pa_cons (pv 3) (pa_cons (pv 0) pa_nil))) (by intro _; rfl))) (pss_one (ps_ret pe_bl)) pss_nil)
      (pss_cons (ps_expr (pe_call okp hrk (by rfl) hmp Fpu.kp (Fpu.binds bt__law_spoilt) .nil pass0 (pa_cons (pv 3) pa_nil)))
      (pss_cons (ps_expr (pe_call okp hrk (by rfl) hmp Fpu.kp (Fpu.binds bt__law_spoilt) .nil pass0 (pa_cons (pv 4) pa_nil)))
      (pss_one (ps_ret (pe_call oks hrk (by rfl) hms Fsu.kp (Fsu.binds bt__law_same) .nil passF (pa_cons (pe_lst (pa_cons (pv 3) (pa_cons (actB _ _) (pa_cons (actA _ _) pa_nil)))) (pa_cons (pe_lst (pa_cons (pv 4) (pa_cons (pv 0) (pa_cons (pv 0) pa_nil)))) pa_nil))))))))).nox, ?_⟩
    have x13 : SameX G.st H1 H3 := x2.trans x3
    have x03 : SameX G.st H H3 := x1.trans x13
    obtain ⟨fpd, rpd, ld⟩ := ok1
    have rpd3 : Rep X.K G.st H3 r.d v fpd := rpd.sameX sm1 x13
    have hca3 : H3 ca = some (CodeO ca (X.env.qual ++ "<lambda>")) := by
      obtain ⟨n1, n2⟩ := sm2.ne hca (fun _ z => by unfold CodeO at z; cases z) (fun ps z => codeO_ne ps z)
      exact x3 ca _ n1 n2 hca
    have offA := sm3.ne hca3 (fun _ z => by unfold CodeO at z; cases z) (fun ps z => codeO_ne ps z)
    have offB := sm3.ne hcb (fun _ z => by unfold CodeO at z; cases z) (fun ps z => codeO_ne ps z)
    unfold vTw at h1
    rw [M.all_bind] at h1
    -- found, spoilt = first(), _law_copied(due)
    refine ⟨rfl, hca3, G.calm, S, env, os, b1, GC.of hK.K, (E.mono sm x03).calm, sm3, M.all_calm _ _ (M.all_mono (fun r1 b2 h2 v1 H4 x4 sm4 ok4 => ?_) _ _ h1)⟩
    rw [M.all_bind] at h2
    obtain ⟨fp1, rp1, l1⟩ := ok4
    refine ⟨v, rfl, rfl, G.st, b2, [some r.d], [fpd], ⟨v, [], fpd, [], rfl, rfl, rpd3.sameX sm3 x4, rfl, rfl⟩, sm4, M.all_calm _ _ (M.all_mono (fun cc b3 h3 v2 H5 x5 sm5 ro5 => ?_) _ _ h2)⟩
    refine ⟨v1, v2, rfl, ?_⟩
    obtain ⟨fpc, rpc, lc⟩ := ro5
    rw [M.all_bind] at h3
    -- if not _law_same(found, due)
    refine ⟨v1, rfl, v, rfl, rfl, G.st, b3, [some r1.d, some r.d], [fp1, fpd], ⟨v1, [v], fp1, [fpd], rfl, rfl, rp1.sameX sm4 x5, v, [], fpd, [], rfl, rfl, (rpd3.sameX sm3 x4).sameX sm4 x5, rfl, rfl⟩, sm5, M.all_calm _ _ (M.all_mono (fun z b4 h4 v3 H6 x6 sm6 ro6 => ?_) _ _ h3)⟩
    obtain ⟨fpz, rpz, _⟩ := ro6
    obtain ⟨z1, z2⟩ := z
    have x36 : SameX G.st H3 H6 := (x4.trans x5).trans x6
    split at h4
    · rename_i ez
      simp only at ez rpz
      subst ez
      rw [rpz.bool_inv]
      refine ⟨false, rfl, iteT ?_⟩
      exact h4 _ H6 (x03.trans x36) sm6 (RVok.imm rfl (Rep.of_bool _))
    · rename_i ez
      simp only at ez rpz
      subst ez
      rw [rpz.bool_inv]
      refine ⟨true, rfl, iteF ?_⟩
      split at h4
      case isFalse => exact h4.elim
      rename_i hc
      simp only [Bool.and_eq_true, decide_eq_true_eq] at hc
      obtain ⟨⟨⟨⟨⟨⟨c1, c2⟩, c3⟩, c4⟩, c5⟩, c6⟩, c7⟩ := hc
      have eal : r1.al = [] := List.isEmpty_iff.mp c2
      rw [c1, eal] at l1
      rw [c3] at lc
      have new1 : ∀ c ∈ fp1, H3 c = none := fun c hc => (l1.2 c hc).elim id fun ⟨i, hi, _⟩ => by cases hi
      have rp16 : Rep X.K G.st H6 r1.d v1 fp1 := (rp1.sameX sm4 x5).sameX sm5 x6
      have rpc6 : Rep X.K G.st H6 cc.1 v2 fpc := rpc.sameX sm5 x6
      have dis : ∀ c ∈ fpc, c ∉ fp1 := fun c hc hc' => by
        obtain ⟨⟨o, e⟩, _⟩ := rp1.trk c hc'
        have := lc.2 c hc
        rw [e] at this; cases this
      -- _law_spoilt(found); _law_spoilt(spoilt)
      refine ⟨v1, rfl, v1, r1.d, fp1, G.st, b4, rfl, c6, c4, rp16, l1.1, sm6, fun H7 bu7 sm7 rp7 => ?_⟩
      have rpc7 : Rep X.K G.st H7 cc.1 v2 fpc := rpc6.kp (But.kp rp16.mu bu7) dis
      refine ⟨v2, rfl, v2, cc.1, fpc, G.st, b4, rfl, c7, c5, rpc7, lc.1, sm7, fun H8 bu8 sm8 rp8 => ?_⟩
      have rp18 : Rep X.K G.st H8 (spoil r1.d) v1 fp1 := rp7.kp (But.kp rpc7.mu bu8) fun c hc hc' => dis c hc' hc
      have x38 : SameX G.st H3 H8 := fun a o n1 n2 e => by
        refine bu8 a o (fun hc => ?_) (bu7 a o (fun hc => ?_) (x36 a o n1 n2 e))
        · have := lc.2 a hc
          rw [x4 a o n1 n2 e] at this; cases this
        · have := new1 a hc
          rw [e] at this; cases this
      have rpd8 : Rep X.K G.st H8 r.d v fpd := rpd3.sameX sm3 x38
      rw [M.all_bind] at h4
      refine ⟨v1, rfl, rfl, x38 _ _ offB.1 offB.2 hcb, G.calm, S, env, os, b4, GC.of hK.K, (E.mono sm (x03.trans x38)).calm, sm8, M.all_calm _ _ (M.all_mono (fun r2 b5 h5 w2 H9 x9 sm9 ok9 => ?_) _ _ h4)⟩
      obtain ⟨fp4, rp4, _⟩ := ok9
      rw [M.all_bind] at h5
      refine ⟨rfl, (x38.trans x9) _ _ offA.1 offA.2 hca3, G.calm, S, env, os, b5, GC.of hK.K, (E.mono sm ((x03.trans x38).trans x9)).calm, sm9, M.all_calm _ _ (M.all_mono (fun r3 b6 h6 w3 H10 x10 sm10 ok10 => ?_) _ _ h5)⟩
      obtain ⟨fp5, rp5, _⟩ := ok10
      rw [M.all_bind] at h6
      refine ⟨by show 3 ≤ sizeLine; decide, fun p hp => ?_⟩
      have y1 : SameX G.st H10 (upd H10 p (.lst [v1, w2, w3])) := SameX.new hp
      have s1' : Stm (upd H10 p (.lst [v1, w2, w3])) G.st b6 := sm10.new hp
      have R1 : Rep X.K G.st (upd H10 p (.lst [v1, w2, w3])) (.list [spoil r1.d, r2.d, r3.d]) (.ref p) (p :: (fp1 ++ (fp4 ++ fp5))) :=
        Rep.newL sm10 hp (Reps.append (Reps.single ((rp18.sameX sm8 x9).sameX sm9 x10)) (Reps.append (Reps.single (rp4.sameX sm9 x10)) (Reps.single rp5)))
      refine ⟨v2, rfl, v, rfl, v, rfl, by show 3 ≤ sizeLine; decide, fun p2 hp2 => ?_⟩
      have y2 : SameX G.st (upd H10 p (.lst [v1, w2, w3])) (upd (upd H10 p (.lst [v1, w2, w3])) p2 (.lst [v2, v, v])) := SameX.new hp2
      have up : ∀ {d : PyData} {v : V} {f : List Addr}, Rep X.K G.st H8 d v f → Rep X.K G.st (upd H10 p (.lst [v1, w2, w3])) d v f := fun q => ((q.sameX sm8 x9).sameX sm9 x10).sameX sm10 y1
      have R2 : Rep X.K G.st (upd (upd H10 p (.lst [v1, w2, w3])) p2 (.lst [v2, v, v])) (.list [spoil cc.1, r.d, r.d]) (.ref p2) (p2 :: (fpc ++ (fpd ++ fpd))) :=
        Rep.newL s1' hp2 (Reps.append (Reps.single (up rp8)) (Reps.append (Reps.single (up rpd8)) (Reps.single (up rpd8))))
      refine ⟨rfl, G.st, b6, [some (.list [spoil r1.d, r2.d, r3.d]), some (.list [spoil cc.1, r.d, r.d])], [p :: (fp1 ++ (fp4 ++ fp5)), p2 :: (fpc ++ (fpd ++ fpd))], ⟨.ref p, [.ref p2], _, [p2 :: (fpc ++ (fpd ++ fpd))], rfl, rfl, R1.sameX s1' y2, .ref p2, [], _, [], rfl, rfl, R2, rfl, rfl⟩, s1'.new hp2, M.all_calm _ _ (M.all_mono (fun y b7 h7 w H13 x13' sm13 ro => ?_) _ _ h6)⟩
      obtain ⟨fpy, rpy, _⟩ := ro
      split at h7
      · rename_i kk ey
        rw [ey] at rpy
        rw [rpy.bool_inv]
        exact h7 _ H13 (((((x03.trans x38).trans x9).trans x10).trans (y1.trans y2)).trans x13') sm13 (RVok.imm rfl (Rep.of_bool _))
      · exact h7.elim
    · exact h4.elim
  refine wpAny_call (codeAny_mono rc fun r s2 hq => ?_)
  cases r with
  | error e => exact (show False from hq).elim
  | ok fl =>
    cases fl with
    | ret u => exact I3'.after hq
    | next => exact False.elim hq
    | brk => exact False.elim hq
    | cont => exact False.elim hq

theorem sc__law_is_number : FnScope ["thing", "most"] ["thing", "most"] (defScope s__law_is_number) := ⟨rfl, rfl, rfl, by decide +kernel, rfl, by decide +kernel, by decide +kernel⟩
theorem bt__law_is_number : BindT "_law_is_number" s__law_is_number ["thing", "most"] := fun _ _ _ _ _ _ us hl => match us, hl with | [_, _], _ => rfl
def m__law_is_number : Vm.Env → M (Fl × Vm.Env) := (sCons (sRet (vAnd (vIsi (pIs "int") (eName 0)) (vAnd (vNot (vIsi (pIs "bool") (eName 0))) (vAnd (ev2 oGeI (eName 0) (eInt 0)) (vOr (ev2 (oIsN false) (eName 1) eNon) (ev2 oLtI (eName 0) (eName 1)))))))
  sNil)
def F__law_is_number : Fn := fnOf 2 m__law_is_number
theorem ok__law_is_number (T : Tx K mg) : FnT0 P w K mg base 1 "_law_is_number" s__law_is_number ["thing", "most"] F__law_is_number :=
  FnT0.of (k := 0) T.d__law_is_number sc__law_is_number (by decide) fun f cdv A outer s H E hr => by
    have h1 := room1 hr; have h64 := room64 hr; have h65 := room65 hr
    exact (dss_cons (ds_ret (de_and (isi1 (by decide) T.n_isinstance T.n_int (nm 0)) (de_and (de_not (isi1 (by decide) T.n_isinstance T.n_bool (nm 0))) (de_and (de_cmp o_geI (nm 0) nInt) (de_and1 (de_or (de_cmp o_is (nm 1) nNon) (de_and1 (de_cmp o_ltI (nm 0) (nm 1)))))))))
  dss_nil)
theorem sc__law_is_peeling : FnScope ["row", "many", "thing", "step", "left", "names", "place", "part"] ["row", "many", "thing"] (defScope s__law_is_peeling) := ⟨rfl, rfl, rfl, by decide +kernel, rfl, by decide +kernel, by decide +kernel⟩
theorem bt__law_is_peeling : BindT "_law_is_peeling" s__law_is_peeling ["row", "many", "thing"] := fun _ _ _ _ _ _ us hl => match us, hl with | [_, _, _], _ => rfl
def m__law_is_peeling : Vm.Env → M (Fl × Vm.Env) := (sCons (sIf (tOrM (tNotM (tru (vIsi (fun t => pIs "list" t || pIs "tuple" t) (eName 2)))) (tOrM (asB (ev2 (oEq true) (vB bLen (aCons (eName 2) aNil)) (eInt 2))) (tOrM (tNotM (tru (vIsi (fun t => pIs "list" t || pIs "tuple" t) (ev2 oIx (eName 2) (eInt 0))))) (tNotM (tru (vCall 2 F__law_is_number (aCons (ev2 oIx (eName 2) (eInt 1)) (aCons (eInt 2) aNil)))))))) (sCons (sRet (eBool false))
  sNil) sNil)
  (sCons (sPar [4, 5] [(vB bList (aCons (eName 0) aNil)), (vRg1 lRg (eName 1))])
  (sCons (sFor (iSeq (ev2 oIx (eName 2) (eInt 0))) (tgName 3) (sCons (sIf (tOrM (tNotM (tru (vIsi (fun t => pIs "list" t || pIs "tuple" t) (eName 3)))) (tOrM (asB (ev2 (oEq true) (vB bLen (aCons (eName 3) aNil)) (eInt 3))) (tOrM (tNotM (tru (vCall 2 F__law_is_number (aCons (ev2 oIx (eName 3) (eInt 0)) (aCons (eName 1) aNil))))) (asB (ev2 (oIn true) (ev2 oIx (eName 3) (eInt 0)) (eName 5)))))) (sCons (sRet (eBool false))
  sNil) sNil)
  (sCons (sIf (tOrM (tNotM (tru (vCall 2 F__law_is_number (aCons (ev2 oIx (eName 3) (eInt 1)) (aCons (eInt 2) aNil))))) (tNotM (tru (vCall 2 F__law_is_number (aCons (ev2 oIx (eName 3) (eInt 2)) (aCons (eInt 2) aNil)))))) (sCons (sRet (eBool false))
  sNil) sNil)
  (sCons (sAsg (tgName 6) (vMeth mIndex (eName 5) (aCons (ev2 oIx (eName 3) (eInt 0)) aNil)))
  (sCons (sAsg (tgName 7) (vCall 4 F__law_at (aCons (eName 4) (aCons (vB bLen (aCons (eName 5) aNil)) (aCons (eName 6) (aCons (ev2 oIx (eName 3) (eInt 1)) aNil))))))
  (sCons (sIf (asB (ev2 (oEq true) (eName 7) (ev2 oMul (vLst (aCons (ev2 oIx (eName 3) (eInt 2)) aNil)) (vB bLen (aCons (eName 7) aNil))))) (sCons (sRet (eBool false))
  sNil) sNil)
  (sCons (sPar [4, 5] [(vCall 4 F__law_at (aCons (eName 4) (aCons (vB bLen (aCons (eName 5) aNil)) (aCons (eName 6) (aCons (ev2 oSubI (eInt 1) (ev2 oIx (eName 3) (eInt 1))) aNil))))), (ev2 oAdd (evSl (eName 5) pNo (pSome (eName 6))) (evSl (eName 5) (pSome (ev2 oAdd (eName 6) (eInt 1))) pNo))])
  sNil)))))))
  (sCons (sRet (ev2 (oEq false) (eName 4) (ev2 oMul (vLst (aCons (ev2 oIx (eName 2) (eInt 1)) aNil)) (vB bLen (aCons (eName 4) aNil)))))
  sNil))))
def F__law_is_peeling : Fn := fnOf 8 m__law_is_peeling
theorem ok__law_is_peeling (T : Tx K mg) : FnT0 P w K mg base 3 "_law_is_peeling" s__law_is_peeling ["row", "many", "thing"] F__law_is_peeling :=
  FnT0.of (k := 2) T.d__law_is_peeling sc__law_is_peeling (by decide) fun f cdv A outer s H E hr => by
    have h1 := room1 hr; have h64 := room64 hr; have h65 := room65 hr
    exact (dss_cons (ds_if (DW.dt (dw_or (dt_not (dt_truth (isi2 (by decide) (by decide) T.n_isinstance T.n_list T.n_tuple (nm 2)))) (dw_or (dt_cmp (o_ne h64) (cB oc_len T.n_len (da_cons (nm 2) da_nil)) nInt) (dw_or (dt_not (dt_truth (isi2 (by decide) (by decide) T.n_isinstance T.n_list T.n_tuple (de_ix (nm 2) nInt (by intro _ _; rfl))))) (dw_or1 (dt_not (dt_truth (de_call (FnT0.t (ok__law_is_number T) bt__law_is_number) (hr.mono (by decide)) (by rfl) (da_cons (de_ix (nm 2) nInt (by intro _ _; rfl)) (da_cons nInt da_nil)))))))))) (dss_cons (ds_ret nBool)
  dss_nil) dss_nil)
  (dss_cons (ds_par rfl sc__law_is_peeling.nd (i := 4) (j := 5) rfl rfl (by decide) rfl rfl (.cons (cT oc_list T.n_list (da_cons (nm 0) da_nil)) (.cons (de_lrg1 T.n_list T.n_range (nm 1)) .nil)) (by rfl))
  (dss_cons (ds_for (passes_of rfl) rfl (di_seq (de_ix (nm 2) nInt (by intro _ _; rfl))) (dg_name sc__law_is_peeling.nd (i := 3) rfl (.inl rfl)) (dss_cons (ds_if (DW.dt (dw_or (dt_not (dt_truth (isi2 (by decide) (by decide) T.n_isinstance T.n_list T.n_tuple (nm 3)))) (dw_or (dt_cmp (o_ne h64) (cB oc_len T.n_len (da_cons (nm 3) da_nil)) nInt) (dw_or (dt_not (dt_truth (de_call (FnT0.t (ok__law_is_number T) bt__law_is_number) (hr.mono (by decide)) (by rfl) (da_cons (de_ix (nm 3) nInt (by intro _ _; rfl)) (da_cons (nm 1) da_nil))))) (dw_or1 (dt_cmp (o_notin h65) (de_ix (nm 3) nInt (by intro _ _; rfl)) (nm 5))))))) (dss_cons (ds_ret nBool)
  dss_nil) dss_nil)
  (dss_cons (ds_if (DW.dt (dw_or (dt_not (dt_truth (de_call (FnT0.t (ok__law_is_number T) bt__law_is_number) (hr.mono (by decide)) (by rfl) (da_cons (de_ix (nm 3) nInt (by intro _ _; rfl)) (da_cons nInt da_nil))))) (dw_or1 (dt_not (dt_truth (de_call (FnT0.t (ok__law_is_number T) bt__law_is_number) (hr.mono (by decide)) (by rfl) (da_cons (de_ix (nm 3) nInt (by intro _ _; rfl)) (da_cons nInt da_nil)))))))) (dss_cons (ds_ret nBool)
  dss_nil) dss_nil)
  (dss_cons (ds_set sc__law_is_peeling.nd (i := 6) rfl (.inl rfl) (de_index h65 (nm 5) (da_cons (de_ix (nm 3) nInt (by intro _ _; rfl)) da_nil)))
  (dss_cons (ds_set sc__law_is_peeling.nd (i := 7) rfl (.inl rfl) (de_call (FnT0.t (ok__law_at T) bt__law_at) (hr.mono (by decide)) (by rfl) (da_cons (nm 4) (da_cons (cB oc_len T.n_len (da_cons (nm 5) da_nil)) (da_cons (nm 6) (da_cons (de_ix (nm 3) nInt (by intro _ _; rfl)) da_nil))))))
  (dss_cons (ds_if (dt_cmp (o_ne h64) (nm 7) (de_bin o_mul (de_lst (da_cons (de_ix (nm 3) nInt (by intro _ _; rfl)) da_nil)) (cB oc_len T.n_len (da_cons (nm 7) da_nil)))) (dss_cons (ds_ret nBool)
  dss_nil) dss_nil)
  (dss_cons (ds_par rfl sc__law_is_peeling.nd (i := 4) (j := 5) rfl rfl (by decide) rfl rfl (.cons (de_call (FnT0.t (ok__law_at T) bt__law_at) (hr.mono (by decide)) (by rfl) (da_cons (nm 4) (da_cons (cB oc_len T.n_len (da_cons (nm 5) da_nil)) (da_cons (nm 6) (da_cons (de_bin o_subI nInt (de_ix (nm 3) nInt (by intro _ _; rfl))) da_nil))))) (.cons (de_bin o_add (de_sl (nm 5) dp_no (dp_some (nm 6))) (de_sl (nm 5) (dp_some (de_bin o_add (nm 6) nInt)) dp_no)) .nil)) (by rfl))
  dss_nil)))))))
  (dss_cons (ds_ret (de_cmp (o_eq h64) (nm 4) (de_bin o_mul (de_lst (da_cons (de_ix (nm 2) nInt (by intro _ _; rfl)) da_nil)) (cB oc_len T.n_len (da_cons (nm 4) da_nil)))))
  dss_nil))))
theorem sc__law_pick : FnScope ["stream", "things"] ["stream", "things"] (defScope s__law_pick) := ⟨rfl, rfl, rfl, by decide +kernel, rfl, by decide +kernel, by decide +kernel⟩
theorem bt__law_pick : BindT "_law_pick" s__law_pick ["stream", "things"] := fun _ _ _ _ _ _ us hl => match us, hl with | [_, _], _ => rfl
def m__law_pick : Vm.Env → M (Fl × Vm.Env) := (sCons (sRet (ev2 oIx (eName 1) (vCall 2 F__law_draw (aStm 0 (aCons (vB bLen (aCons (eName 1) aNil)) aNil)))))
  sNil)
def F__law_pick : Fn := fnOf 2 m__law_pick
theorem ok__law_pick (T : Tx K mg) : FnT0 P w K mg base 2 "_law_pick" s__law_pick ["stream", "things"] F__law_pick :=
  FnT0.of (k := 1) T.d__law_pick sc__law_pick (by decide) fun f cdv A outer s H E hr => by
    have h1 := room1 hr; have h64 := room64 hr; have h65 := room65 hr
    exact (dss_cons (ds_ret (de_ix (nm 1) (de_call (FnT0.t (ok__law_draw T) bt__law_draw) (hr.mono (by decide)) (by rfl) (stA 0 (da_cons (cB oc_len T.n_len (da_cons (nm 1) da_nil)) da_nil))) (by intro _ _; rfl)))
  dss_nil)
theorem sc__law_bent : FnScope ["stream", "many", "thing", "way", "place", "steps", "last", "step"] ["stream", "many", "thing"] (defScope s__law_bent) := ⟨rfl, rfl, rfl, by decide +kernel, rfl, by decide +kernel, by decide +kernel⟩
theorem bt__law_bent : BindT "_law_bent" s__law_bent ["stream", "many", "thing"] := fun _ _ _ _ _ _ us hl => match us, hl with | [_, _, _], _ => rfl
def m__law_bent : Vm.Env → M (Fl × Vm.Env) := (sCons (sPar [5, 6] [(vComp (iSeq (ev2 oIx (eName 2) (eInt 0))) [7] (tgName 7) cYes (vB bList (aCons (eName 7) aNil))), (ev2 oIx (eName 2) (eInt 1))])
  (sCons (sAsg (tgName 3) (vCall 2 F__law_draw (aStm 0 (aCons (eInt 5) aNil))))
  (sCons (sIf (tOrM (asB (ev2 (oEq false) (eName 3) (eInt 0))) (asB (ev2 (oEq false) (eName 5) (vLst aNil)))) (sCons (sRet (vCall 2 F__law_pick (aStm 0 (aCons (vLst (aCons eNon (aCons (eInt 5) (aCons vDNew (aCons (vLst aNil) (aCons (vTup (aCons (eName 5) aNil)) (aCons (vTup (aCons (eName 5) (aCons (ev2 oSubI (eInt 1) (eName 6)) aNil))) (aCons (vTup (aCons (evSl (eName 5) (pSome (eInt 1)) pNo) (aCons (eName 6) aNil))) (aCons (vTup (aCons (ev2 oAdd (eName 5) (evSl (eName 5) pNo (pSome (eInt 1)))) (aCons (eName 6) aNil))) (aCons (vTup (aCons (eName 6) (aCons (eName 5) aNil))) (aCons (vTup (aCons (eName 5) (aCons eNon aNil))) (aCons (vLst (aCons (vRev (eName 5)) (aCons (eName 6) aNil))) (aCons (vTup (aCons (eName 5) (aCons (eBool true) aNil))) aNil))))))))))))) aNil))))
  sNil) sNil)
  (sCons (sAsg (tgName 4) (vCall 2 F__law_draw (aStm 0 (aCons (vB bLen (aCons (eName 5) aNil)) aNil))))
  (sCons (sIf (asB (ev2 (oEq false) (eName 3) (eInt 1))) (sCons (sRet (vTup (aCons (ev2 oAdd (evSl (eName 5) pNo (pSome (eName 4))) (evSl (eName 5) (pSome (ev2 oAdd (eName 4) (eInt 1))) pNo)) (aCons (eName 6) aNil))))
  sNil) sNil)
  (sCons (sSetIx2 5 (eName 4) (vCall 2 F__law_draw (aStm 0 (aCons (eInt 3) aNil))) (vCall 2 F__law_pick (aStm 0 (aCons (vLst (aCons eNon (aCons (eBool true) (aCons (eInt 0) (aCons (eInt 1) (aCons (eName 1) (aCons (vNeg (eInt 1)) (aCons (eStr "0") aNil)))))))) aNil))))
  (sCons (sRet (vTup (aCons (eName 5) (aCons (eName 6) aNil))))
  sNil)))))))
def F__law_bent : Fn := fnOf 8 m__law_bent
theorem ok__law_bent (T : Tx K mg) : FnT0 P w K mg base 3 "_law_bent" s__law_bent ["stream", "many", "thing"] F__law_bent :=
  FnT0.of (k := 2) T.d__law_bent sc__law_bent (by decide) fun f cdv A outer s H E hr => by
    have h1 := room1 hr; have h64 := room64 hr; have h65 := room65 hr
    exact (dss_cons (ds_par rfl sc__law_bent.nd (i := 5) (j := 6) rfl rfl (by decide) rfl rfl (.cons (de_comp (own := [("step", 7)]) rfl sc__law_bent.nd (di_seq (de_ix (nm 2) nInt (by intro _ _; rfl))) (blkOk_by (by kernel_rfl)) (by decide) (fun _ _ _ _ _ => (dg_name sc__law_bent.nd (i := 7) rfl (.inl rfl))) (fun _ _ _ _ _ => dts_nil) (fun _ _ _ _ _ => (cT oc_list T.n_list (da_cons (nm 7) da_nil)))) (.cons (de_ix (nm 2) nInt (by intro _ _; rfl)) .nil)) (by rfl))
  (dss_cons (ds_set sc__law_bent.nd (i := 3) rfl (.inl rfl) (de_call (FnT0.t (ok__law_draw T) bt__law_draw) (hr.mono (by decide)) (by rfl) (stA 0 (da_cons nInt da_nil))))
  (dss_cons (ds_if (DW.dt (dw_or (dt_cmp (o_eq h64) (nm 3) nInt) (dw_or1 (dt_cmp (o_eq h64) (nm 5) (de_lst da_nil))))) (dss_cons (ds_ret (de_call (FnT0.t (ok__law_pick T) bt__law_pick) (hr.mono (by decide)) (by rfl) (stA 0 (da_cons (de_lst (da_cons nNon (da_cons nInt (da_cons de_dnew (da_cons (de_lst da_nil) (da_cons (de_tup (da_cons (nm 5) da_nil)) (da_cons (de_tup (da_cons (nm 5) (da_cons (de_bin o_subI nInt (nm 6)) da_nil))) (da_cons (de_tup (da_cons (de_sl (nm 5) (dp_some nInt) dp_no) (da_cons (nm 6) da_nil))) (da_cons (de_tup (da_cons (de_bin o_add (nm 5) (de_sl (nm 5) dp_no (dp_some nInt))) (da_cons (nm 6) da_nil))) (da_cons (de_tup (da_cons (nm 6) (da_cons (nm 5) da_nil))) (da_cons (de_tup (da_cons (nm 5) (da_cons nNon da_nil))) (da_cons (de_lst (da_cons (de_rev (nm 5)) (da_cons (nm 6) da_nil))) (da_cons (de_tup (da_cons (nm 5) (da_cons nBool da_nil))) da_nil))))))))))))) da_nil))))
  dss_nil) dss_nil)
  (dss_cons (ds_set sc__law_bent.nd (i := 4) rfl (.inl rfl) (de_call (FnT0.t (ok__law_draw T) bt__law_draw) (hr.mono (by decide)) (by rfl) (stA 0 (da_cons (cB oc_len T.n_len (da_cons (nm 5) da_nil)) da_nil))))
  (dss_cons (ds_if (dt_cmp (o_eq h64) (nm 3) nInt) (dss_cons (ds_ret (de_tup (da_cons (de_bin o_add (de_sl (nm 5) dp_no (dp_some (nm 4))) (de_sl (nm 5) (dp_some (de_bin o_add (nm 4) nInt)) dp_no)) (da_cons (nm 6) da_nil))))
  dss_nil) dss_nil)
  (dss_cons (ds_setix2 (x := 5) rfl (.inl rfl) (de_call (FnT0.t (ok__law_pick T) bt__law_pick) (hr.mono (by decide)) (by rfl) (stA 0 (da_cons (de_lst (da_cons nNon (da_cons nBool (da_cons nInt (da_cons nInt (da_cons (nm 1) (da_cons (de_neg nInt) (da_cons nStr da_nil)))))))) da_nil))) (nm 4) (de_call (FnT0.t (ok__law_draw T) bt__law_draw) (hr.mono (by decide)) (by rfl) (stA 0 (da_cons nInt da_nil))))
  (dss_cons (ds_ret (de_tup (da_cons (nm 5) (da_cons (nm 6) da_nil))))
  dss_nil)))))))
theorem sc_lessened : FnScope ["row", "heed", "value", "kept"] ["row", "heed", "value"] (defScope s_lessened) := ⟨rfl, rfl, rfl, by decide +kernel, rfl, by decide +kernel, by decide +kernel⟩
theorem bt_lessened : BindT "lessened" s_lessened ["row", "heed", "value"] := fun _ _ _ _ _ _ us hl => match us, hl with | [_, _, _], _ => rfl
def m_lessened : Vm.Env → M (Fl × Vm.Env) := (sCons (sAsg (tgName 3) (vCall 1 F_need_row (aCons (eName 0) aNil)))
  (sCons (sIf (tNotM (tru (vCall 2 F_is_below (aCons (eName 1) (aCons (vCall 1 F_heeds_of (aCons (eName 3) aNil)) aNil))))) sNever sNil)
  (sCons (sIf (tNotM (tru (vCall 2 F_is_below (aCons (eName 2) (aCons (eInt 2) aNil))))) sNever sNil)
  (sCons (sRet (vB bList (aCons (vCall 3 F_at_value (aCons (eName 3) (aCons (eName 1) (aCons (eName 2) aNil)))) aNil)))
  sNil))))
def F_lessened : Fn := fnOf 4 m_lessened
theorem ok_lessened (T : Tx K mg) : FnT0 P w K mg base 7 "lessened" s_lessened ["row", "heed", "value"] F_lessened :=
  FnT0.of (k := 6) T.d_lessened sc_lessened (by decide) fun f cdv A outer s H E hr => by
    have h1 := room1 hr; have h64 := room64 hr; have h65 := room65 hr
    exact (dss_cons (ds_set sc_lessened.nd (i := 3) rfl (.inl rfl) (de_call (FnT0.t (ok_need_row T) bt_need_row) (hr.mono (by decide)) (by rfl) (da_cons (nm 0) da_nil)))
  (dss_cons (ds_if (dt_not (dt_truth (de_call (FnT0.t (ok_is_below T) bt_is_below) (hr.mono (by decide)) (by rfl) (da_cons (nm 1) (da_cons (de_call (FnT0.t (ok_heeds_of T) bt_heeds_of) (hr.mono (by decide)) (by rfl) (da_cons (nm 3) da_nil)) da_nil))))) dss_never dss_nil)
  (dss_cons (ds_if (dt_not (dt_truth (de_call (FnT0.t (ok_is_below T) bt_is_below) (hr.mono (by decide)) (by rfl) (da_cons (nm 2) (da_cons nInt da_nil))))) dss_never dss_nil)
  (dss_cons (ds_ret (cT oc_list T.n_list (da_cons (de_call (FnT0.t (ok_at_value T) bt_at_value) (hr.mono (by decide)) (by rfl) (da_cons (nm 3) (da_cons (nm 1) (da_cons (nm 2) da_nil)))) da_nil)))
  dss_nil))))
theorem hh__law_met (T : Tx K mg) : MetHs K mg (defScope s__law_met) metHds mets := (.non ⟨rfl, by decide, T.x_NotNested⟩ .nil)

theorem sc_is_step : FnScope ["left", "names", "step", "part"] ["left", "names", "step"] (defScope s_is_step) := ⟨rfl, rfl, rfl, by decide +kernel, rfl, by decide +kernel, by decide +kernel⟩
theorem bt_is_step : BindT "is_step" s_is_step ["left", "names", "step"] := fun _ _ _ _ _ _ us hl => match us, hl with | [_, _, _], _ => rfl
def m_is_step : Vm.Env → M (Fl × Vm.Env) := (sCons (sIf (tOrM (tNotM (tru (vCall 2 F_is_row (aCons (eName 2) (aCons (eInt 3) aNil))))) (tOrM (tNotM (tru (vCall 1 F_is_number (aCons (ev2 oIx (eName 2) (eInt 0)) aNil)))) (asB (ev2 (oIn true) (ev2 oIx (eName 2) (eInt 0)) (eName 1))))) (sCons (sRet (eBool false))
  sNil) sNil)
  (sCons (sIf (tOrM (tNotM (tru (vCall 2 F_is_below (aCons (ev2 oIx (eName 2) (eInt 1)) (aCons (eInt 2) aNil))))) (tNotM (tru (vCall 2 F_is_below (aCons (ev2 oIx (eName 2) (eInt 2)) (aCons (eInt 2) aNil)))))) (sCons (sRet (eBool false))
  sNil) sNil)
  (sCons (sAsg (tgName 3) (vCall 3 F_at_value (aCons (eName 0) (aCons (vMeth mIndex (eName 1) (aCons (ev2 oIx (eName 2) (eInt 0)) aNil)) (aCons (ev2 oIx (eName 2) (eInt 1)) aNil)))))
  (sCons (sRet (vAnd (vCall 1 F_is_one (aCons (eName 3) aNil)) (ev2 (oEq false) (ev2 oIx (eName 3) (eInt 0)) (ev2 oIx (eName 2) (eInt 2)))))
  sNil))))
def F_is_step : Fn := fnOf 4 m_is_step
theorem ok_is_step (T : Tx K mg) : FnT0 P w K mg base 4 "is_step" s_is_step ["left", "names", "step"] F_is_step :=
  FnT0.of (k := 3) T.d_is_step sc_is_step (by decide) fun f cdv A outer s H E hr => by
    have h1 := room1 hr; have h64 := room64 hr; have h65 := room65 hr
    exact (dss_cons (ds_if (DW.dt (dw_or (dt_not (dt_truth (de_call (FnT0.t (ok_is_row T) bt_is_row) (hr.mono (by decide)) (by rfl) (da_cons (nm 2) (da_cons nInt da_nil))))) (dw_or (dt_not (dt_truth (de_call (FnT0.t (ok_is_number T) bt_is_number) (hr.mono (by decide)) (by rfl) (da_cons (de_ix (nm 2) nInt (by intro _ _; rfl)) da_nil)))) (dw_or1 (dt_cmp (o_notin h65) (de_ix (nm 2) nInt (by intro _ _; rfl)) (nm 1)))))) (dss_cons (ds_ret nBool)
  dss_nil) dss_nil)
  (dss_cons (ds_if (DW.dt (dw_or (dt_not (dt_truth (de_call (FnT0.t (ok_is_below T) bt_is_below) (hr.mono (by decide)) (by rfl) (da_cons (de_ix (nm 2) nInt (by intro _ _; rfl)) (da_cons nInt da_nil))))) (dw_or1 (dt_not (dt_truth (de_call (FnT0.t (ok_is_below T) bt_is_below) (hr.mono (by decide)) (by rfl) (da_cons (de_ix (nm 2) nInt (by intro _ _; rfl)) (da_cons nInt da_nil)))))))) (dss_cons (ds_ret nBool)
  dss_nil) dss_nil)
  (dss_cons (ds_set sc_is_step.nd (i := 3) rfl (.inl rfl) (de_call (FnT0.t (ok_at_value T) bt_at_value) (hr.mono (by decide)) (by rfl) (da_cons (nm 0) (da_cons (de_index h65 (nm 1) (da_cons (de_ix (nm 2) nInt (by intro _ _; rfl)) da_nil)) (da_cons (de_ix (nm 2) nInt (by intro _ _; rfl)) da_nil)))))
  (dss_cons (ds_ret (de_and (de_call (FnT0.t (ok_is_one T) bt_is_one) (hr.mono (by decide)) (by rfl) (da_cons (nm 3) da_nil)) (de_and1 (de_cmp (o_eq h64) (de_ix (nm 3) nInt (by intro _ _; rfl)) (de_ix (nm 2) nInt (by intro _ _; rfl))))))
  dss_nil))))
theorem sc_is_peeling : FnScope ["row", "thing", "left", "names", "step", "place"] ["row", "thing"] (defScope s_is_peeling) := ⟨rfl, rfl, rfl, by decide +kernel, rfl, by decide +kernel, by decide +kernel⟩
theorem bt_is_peeling : BindT "is_peeling" s_is_peeling ["row", "thing"] := fun _ _ _ _ _ _ us hl => match us, hl with | [_, _], _ => rfl
def m_is_peeling : Vm.Env → M (Fl × Vm.Env) := (sCons (sAsg (tgName 2) (vCall 1 F_need_row (aCons (eName 0) aNil)))
  (sCons (sIf (tOrM (tNotM (tru (vCall 2 F_is_row (aCons (eName 1) (aCons (eInt 2) aNil))))) (tOrM (tNotM (tru (vCall 1 F_is_list (aCons (ev2 oIx (eName 1) (eInt 0)) aNil)))) (tNotM (tru (vCall 2 F_is_below (aCons (ev2 oIx (eName 1) (eInt 1)) (aCons (eInt 2) aNil))))))) (sCons (sRet (eBool false))
  sNil) sNil)
  (sCons (sAsg (tgName 3) (vRg1 lRg (vCall 1 F_heeds_of (aCons (eName 2) aNil))))
  (sCons (sFor (iSeq (ev2 oIx (eName 1) (eInt 0))) (tgName 4) (sCons (sIf (tNotM (tru (vCall 3 F_is_step (aCons (eName 2) (aCons (eName 3) (aCons (eName 4) aNil)))))) (sCons (sRet (eBool false))
  sNil) sNil)
  (sCons (sAsg (tgName 5) (vMeth mIndex (eName 3) (aCons (ev2 oIx (eName 4) (eInt 0)) aNil)))
  (sCons (sAsg (tgName 2) (vCall 3 F_at_value (aCons (eName 2) (aCons (eName 5) (aCons (ev2 oSubI (eInt 1) (ev2 oIx (eName 4) (eInt 1))) aNil)))))
  (sCons (sAsg (tgName 3) (ev2 oAdd (evSl (eName 3) pNo (pSome (eName 5))) (evSl (eName 3) (pSome (ev2 oAdd (eName 5) (eInt 1))) pNo)))
  sNil)))))
  (sCons (sRet (vAnd (vCall 1 F_is_one (aCons (eName 2) aNil)) (ev2 (oEq false) (ev2 oIx (eName 2) (eInt 0)) (ev2 oIx (eName 1) (eInt 1)))))
  sNil)))))
def F_is_peeling : Fn := fnOf 6 m_is_peeling
theorem ok_is_peeling (T : Tx K mg) : FnT0 P w K mg base 7 "is_peeling" s_is_peeling ["row", "thing"] F_is_peeling :=
  FnT0.of (k := 6) T.d_is_peeling sc_is_peeling (by decide) fun f cdv A outer s H E hr => by
    have h1 := room1 hr; have h64 := room64 hr; have h65 := room65 hr
    exact (dss_cons (ds_set sc_is_peeling.nd (i := 2) rfl (.inl rfl) (de_call (FnT0.t (ok_need_row T) bt_need_row) (hr.mono (by decide)) (by rfl) (da_cons (nm 0) da_nil)))
  (dss_cons (ds_if (DW.dt (dw_or (dt_not (dt_truth (de_call (FnT0.t (ok_is_row T) bt_is_row) (hr.mono (by decide)) (by rfl) (da_cons (nm 1) (da_cons nInt da_nil))))) (dw_or (dt_not (dt_truth (de_call (FnT0.t (ok_is_list T) bt_is_list) (hr.mono (by decide)) (by rfl) (da_cons (de_ix (nm 1) nInt (by intro _ _; rfl)) da_nil)))) (dw_or1 (dt_not (dt_truth (de_call (FnT0.t (ok_is_below T) bt_is_below) (hr.mono (by decide)) (by rfl) (da_cons (de_ix (nm 1) nInt (by intro _ _; rfl)) (da_cons nInt da_nil))))))))) (dss_cons (ds_ret nBool)
  dss_nil) dss_nil)
  (dss_cons (ds_set sc_is_peeling.nd (i := 3) rfl (.inl rfl) (de_lrg1 T.n_list T.n_range (de_call (FnT0.t (ok_heeds_of T) bt_heeds_of) (hr.mono (by decide)) (by rfl) (da_cons (nm 2) da_nil))))
  (dss_cons (ds_for (passes_of rfl) rfl (di_seq (de_ix (nm 1) nInt (by intro _ _; rfl))) (dg_name sc_is_peeling.nd (i := 4) rfl (.inl rfl)) (dss_cons (ds_if (dt_not (dt_truth (de_call (FnT0.t (ok_is_step T) bt_is_step) (hr.mono (by decide)) (by rfl) (da_cons (nm 2) (da_cons (nm 3) (da_cons (nm 4) da_nil)))))) (dss_cons (ds_ret nBool)
  dss_nil) dss_nil)
  (dss_cons (ds_set sc_is_peeling.nd (i := 5) rfl (.inl rfl) (de_index h65 (nm 3) (da_cons (de_ix (nm 4) nInt (by intro _ _; rfl)) da_nil)))
  (dss_cons (ds_set sc_is_peeling.nd (i := 2) rfl (.inl rfl) (de_call (FnT0.t (ok_at_value T) bt_at_value) (hr.mono (by decide)) (by rfl) (da_cons (nm 2) (da_cons (nm 5) (da_cons (de_bin o_subI nInt (de_ix (nm 4) nInt (by intro _ _; rfl))) da_nil)))))
  (dss_cons (ds_set sc_is_peeling.nd (i := 3) rfl (.inl rfl) (de_bin o_add (de_sl (nm 3) dp_no (dp_some (nm 5))) (de_sl (nm 3) (dp_some (de_bin o_add (nm 5) nInt)) dp_no)))
  dss_nil)))))
  (dss_cons (ds_ret (de_and (de_call (FnT0.t (ok_is_one T) bt_is_one) (hr.mono (by decide)) (by rfl) (da_cons (nm 2) da_nil)) (de_and1 (de_cmp (o_eq h64) (de_ix (nm 2) nInt (by intro _ _; rfl)) (de_ix (nm 1) nInt (by intro _ _; rfl))))))
  dss_nil)))))

end
end D94

set_option Elab.async false
set_option linter.all false
set_option maxRecDepth 100000
set_option maxHeartbeats 1000000
namespace D94
open PySem L2 Vm
variable [TabsC]
section
variable {P : Program} {w : World} {K : PySem.W.Frag} {mg : Str → Option Value} {base : Heap}
theorem sc_law : FnScope ["script", "stream", "turn", "both", "found", "many", "row", "told", "plain", "thing", "handed", "base", "right", "whole", "names", "left", "heed", "value", "k", "step"] ["script"] (defScope s_law) := ⟨rfl, rfl, rfl, by decide +kernel, rfl, by decide +kernel, by decide +kernel⟩
abbrev NL : List Str := ["script", "stream", "turn", "both", "found", "many", "row", "told", "plain", "thing", "handed", "base", "right", "whole", "names", "left", "heed", "value", "k", "step"]
abbrev XL (P : Program) (w : World) (K : PySem.W.Frag) (mg : Str → Option Value) (base : Heap) (f c : Addr) (A : Around) (outer : List PySem.Env) (s : Shared) (H : Hp) (E : XK) : Cx := (cxOf CX0 P w K mg base NL "law" (defScope s_law) f (.ref c) A outer s H E).nox
def stAt (l : List Stmt) (i : Nat) : Stmt := l.getD i (.Pass ⟨0, 0, 0, 0⟩)
def forBody : Stmt → List Stmt
  | .For _ _ b _ _ => b
  | _ => []
section
variable {f c : Addr} {A : Around} {outer : List PySem.Env} {s : Shared} {H : Hp} {E : XK}
def m_law_0b_0 : Vm.Env → M (Fl × Vm.Env) := (sAsg (tgName 5) (vCall 2 F__law_draw (aStm 1 (aCons (eInt 6) aNil))))
theorem h_law_0b_0 (T : Tx K mg) (hr : Room 14 (XL P w K mg base f c A outer s H E).A) : DS (XL P w K mg base f c A outer s H E) (stAt (forBody (stAt ((defBody s_law).drop 1) 0)) 0) m_law_0b_0 := by
  have h1 := room1 hr; have h64 := room64 hr; have h65 := room65 hr
  exact (ds_set sc_law.nd (i := 5) rfl (.inr rfl) (de_call (FnT0.t (ok__law_draw T) bt__law_draw) (hr.mono (by decide)) (by rfl) (stA 1 (da_cons nInt da_nil))))
def m_law_0b_1 : Vm.Env → M (Fl × Vm.Env) := (sAsg (tgName 6) (vCall 2 F__law_row (aStm 1 (aCons (eName 5) aNil))))
theorem h_law_0b_1 (T : Tx K mg) (hr : Room 14 (XL P w K mg base f c A outer s H E).A) : DS (XL P w K mg base f c A outer s H E) (stAt (forBody (stAt ((defBody s_law).drop 1) 0)) 1) m_law_0b_1 := by
  have h1 := room1 hr; have h64 := room64 hr; have h65 := room65 hr
  exact (ds_set sc_law.nd (i := 6) rfl (.inr rfl) (de_call (FnT0.t (ok__law_row T) bt__law_row) (hr.mono (by decide)) (by rfl) (stA 1 (da_cons (nm 5) da_nil))))
def m_law_0b_2 : Vm.Env → M (Fl × Vm.Env) := (sAsg (tgTup 2 (tgCons (tgName 10) (tgCons (tgTup 3 (tgCons (tgName 13) (tgCons (tgName 14) (tgCons (tgName 15) tgNil)))) tgNil))) (vTup (aCons (vCall 2 (F__law_loose 6) (aStm 1 (aCons (eName 6) aNil))) (aCons (vCall 2 F__law_peel (aCons (eName 6) (aCons (eName 5) aNil))) aNil))))
theorem h_law_0b_2 (T : Tx K mg) (hr : Room 14 (XL P w K mg base f c A outer s H E).A) : DS (XL P w K mg base f c A outer s H E) (stAt (forBody (stAt ((defBody s_law).drop 1) 0)) 2) m_law_0b_2 := by
  have h1 := room1 hr; have h64 := room64 hr; have h65 := room65 hr
  exact (ds_asg (de_tup (da_cons (de_call (FnT0.t (ok__law_loose T 6) bt__law_loose) (hr.mono (by decide)) (by rfl) (stA 1 (da_cons (nm 6) da_nil))) (da_cons (de_call (FnT0.t (ok__law_peel T) bt__law_peel) (hr.mono (by decide)) (by rfl) (da_cons (nm 6) (da_cons (nm 5) da_nil))) da_nil))) (dg_tup rfl (dgs_cons (dg_name sc_law.nd (i := 10) rfl (.inr rfl)) (dgs_cons (dg_tup rfl (dgs_cons (dg_name sc_law.nd (i := 13) rfl (.inl rfl)) (dgs_cons (dg_name sc_law.nd (i := 14) rfl (.inl rfl)) (dgs_cons (dg_name sc_law.nd (i := 15) rfl (.inl rfl)) dgs_nil)))) dgs_nil))))
def m_law_0b_3 : Vm.Env → M (Fl × Vm.Env) := (sIf (tNotM (tru (vTwice (vCall 2 F__law_deciding (aCons (eName 6) (aCons (eName 5) aNil))) (vCall 1 F_deciding (aCons (eName 10) aNil)) (vCallK 1 false F_deciding (aCons (vB bList (aCons (eName 6) aNil)) aNil)) (F__law_copied 12) (F__law_same 12)))) (sCons (sRet (eBool false))
  sNil) sNil)
theorem h_law_0b_3 (T : Tx K mg) (hr : Room 14 (XL P w K mg base f c A outer s H E).A) {Pt : Addr} (TA : TabAt (XL P w K mg base f c A outer s H E) c Pt) : DS (XL P w K mg base f c A outer s H E) (stAt (forBody (stAt ((defBody s_law).drop 1) 0)) 3) m_law_0b_3 := by
  have h1 := room1 hr; have h64 := room64 hr; have h65 := room65 hr
  exact (ds_if (dt_not (dt_truth (de_twice (k := 12) T.d__law_twice ((ok__law_copied T 12).mono (by decide)) ((ok__law_same T 12).mono (by decide)) (ok__law_spoilt T 12 (by decide)) hr TA (de_call (FnT0.t (ok__law_deciding T) bt__law_deciding) (hr.mono (by decide)) (by rfl) (da_cons (nm 6) (da_cons (nm 5) da_nil))) (fun A outer s H E f c' hr => (de_call (FnT0.t (ok_deciding T) bt_deciding) (hr.mono (by decide)) (by rfl) (da_cons (nm 10) da_nil))) (fun A outer s H E f c' hr => (de_callK (FnT0.k (rev := false) (ok_deciding T) bk_deciding_false) (hr.mono (by decide)) (by rfl) (dk_cons (cT oc_list T.n_list (da_cons (nm 6) da_nil)) dk_nil))) (LamX.lamS_by (by kernel_rfl)) (LamX.lamS_by (by kernel_rfl)) rfl rfl (fun _ _ _ _ _ => rfl) (fun _ _ _ _ _ => rfl) (fun b hb => frs_tail hb)))) (dss_cons (ds_ret nBool)
  dss_nil) dss_nil)
def m_law_0b_4 : Vm.Env → M (Fl × Vm.Env) := (sIf (asB (ev2 oGtI (eName 5) (eInt 0))) (sCons (sAsg (tgTup 2 (tgCons (tgName 16) (tgCons (tgName 17) tgNil))) (vTup (aCons (vCall 2 F__law_draw (aStm 1 (aCons (eName 5) aNil))) (aCons (vCall 2 F__law_draw (aStm 1 (aCons (eInt 2) aNil))) aNil))))
  (sCons (sIf (tNotM (tru (vTwice (vCall 4 F__law_at (aCons (eName 6) (aCons (eName 5) (aCons (eName 16) (aCons (eName 17) aNil))))) (vCall 3 F_lessened (aCons (eName 10) (aCons (eName 16) (aCons (eName 17) aNil)))) (vCallK 3 true F_lessened (aCons (eName 17) (aCons (eName 16) (aCons (vB bList (aCons (eName 6) aNil)) aNil)))) (F__law_copied 12) (F__law_same 12)))) (sCons (sRet (eBool false))
  sNil) sNil)
  sNil)) sNil)
theorem h_law_0b_4 (T : Tx K mg) (hr : Room 14 (XL P w K mg base f c A outer s H E).A) {Pt : Addr} (TA : TabAt (XL P w K mg base f c A outer s H E) c Pt) : DS (XL P w K mg base f c A outer s H E) (stAt (forBody (stAt ((defBody s_law).drop 1) 0)) 4) m_law_0b_4 := by
  have h1 := room1 hr; have h64 := room64 hr; have h65 := room65 hr
  exact (ds_if (dt_cmp o_gtI (nm 5) nInt) (dss_cons (ds_asg (de_tup (da_cons (de_call (FnT0.t (ok__law_draw T) bt__law_draw) (hr.mono (by decide)) (by rfl) (stA 1 (da_cons (nm 5) da_nil))) (da_cons (de_call (FnT0.t (ok__law_draw T) bt__law_draw) (hr.mono (by decide)) (by rfl) (stA 1 (da_cons nInt da_nil))) da_nil))) (dg_tup rfl (dgs_cons (dg_name sc_law.nd (i := 16) rfl (.inr rfl)) (dgs_cons (dg_name sc_law.nd (i := 17) rfl (.inr rfl)) dgs_nil))))
  (dss_cons (ds_if (dt_not (dt_truth (de_twice (k := 12) T.d__law_twice ((ok__law_copied T 12).mono (by decide)) ((ok__law_same T 12).mono (by decide)) (ok__law_spoilt T 12 (by decide)) hr TA (de_call (FnT0.t (ok__law_at T) bt__law_at) (hr.mono (by decide)) (by rfl) (da_cons (nm 6) (da_cons (nm 5) (da_cons (nm 16) (da_cons (nm 17) da_nil))))) (fun A outer s H E f c' hr => (de_call (FnT0.t (ok_lessened T) bt_lessened) (hr.mono (by decide)) (by rfl) (da_cons (nm 10) (da_cons (nm 16) (da_cons (nm 17) da_nil))))) (fun A outer s H E f c' hr => (de_callK (FnT0.k (rev := true) (ok_lessened T) bk_lessened_true) (hr.mono (by decide)) (by rfl) (dk_cons (nm 17) (dk_cons (nm 16) (dk_cons (cT oc_list T.n_list (da_cons (nm 6) da_nil)) dk_nil))))) (LamX.lamS_by (by kernel_rfl)) (LamX.lamS_by (by kernel_rfl)) rfl rfl (fun _ _ _ _ _ => rfl) (fun _ _ _ _ _ => rfl) (fun b hb => frs_tail hb)))) (dss_cons (ds_ret nBool)
  dss_nil) dss_nil)
  dss_nil)) dss_nil)
def m_law_0b_5 : Vm.Env → M (Fl × Vm.Env) := (sAsg (tgName 7) (vCall 1 F_nested_or_stuck (aCons (eName 10) aNil)))
theorem h_law_0b_5 (T : Tx K mg) (hr : Room 14 (XL P w K mg base f c A outer s H E).A) : DS (XL P w K mg base f c A outer s H E) (stAt (forBody (stAt ((defBody s_law).drop 1) 0)) 5) m_law_0b_5 := by
  have h1 := room1 hr; have h64 := room64 hr; have h65 := room65 hr
  exact (ds_set sc_law.nd (i := 7) rfl (.inl rfl) (de_call (FnT0.t (ok_nested_or_stuck T) bt_nested_or_stuck) (hr.mono (by decide)) (by rfl) (da_cons (nm 10) da_nil)))
def m_law_0b_6 : Vm.Env → M (Fl × Vm.Env) := (sAsg (tgName 8) (vCall 1 (F__law_copied 12) (aCons (eName 7) aNil)))
theorem h_law_0b_6 (T : Tx K mg) (hr : Room 14 (XL P w K mg base f c A outer s H E).A) : DS (XL P w K mg base f c A outer s H E) (stAt (forBody (stAt ((defBody s_law).drop 1) 0)) 6) m_law_0b_6 := by
  have h1 := room1 hr; have h64 := room64 hr; have h65 := room65 hr
  exact (ds_set sc_law.nd (i := 8) rfl (.inl rfl) (de_call (FnT0.t (ok__law_copied T 12) bt__law_copied) (hr.mono (by decide)) (by rfl) (da_cons (nm 7) da_nil)))
def m_law_0b_7 : Vm.Env → M (Fl × Vm.Env) := (sIf (tOrM (tNotM (tru (vCall 2 (F__law_same 12) (aCons (vCallK 1 false F_nested_or_stuck (aCons (vB bList (aCons (eName 6) aNil)) aNil)) (aCons (eName 8) aNil))))) (tNotM (tru (vIsi (pIs "tuple") (eName 8))))) (sCons (sRet (eBool false))
  sNil) sNil)
theorem h_law_0b_7 (T : Tx K mg) (hr : Room 14 (XL P w K mg base f c A outer s H E).A) : DS (XL P w K mg base f c A outer s H E) (stAt (forBody (stAt ((defBody s_law).drop 1) 0)) 7) m_law_0b_7 := by
  have h1 := room1 hr; have h64 := room64 hr; have h65 := room65 hr
  exact (ds_if (DW.dt (dw_or (dt_not (dt_truth (de_call (FnT0.t (ok__law_same T 12) bt__law_same) (hr.mono (by decide)) (by rfl) (da_cons (de_callK (FnT0.k (rev := false) (ok_nested_or_stuck T) bk_nested_or_stuck_false) (hr.mono (by decide)) (by rfl) (dk_cons (cT oc_list T.n_list (da_cons (nm 6) da_nil)) dk_nil)) (da_cons (nm 8) da_nil))))) (dw_or1 (dt_not (dt_truth (isi1 (by decide) T.n_isinstance T.n_tuple (nm 8))))))) (dss_cons (ds_ret nBool)
  dss_nil) dss_nil)
def m_law_0b_8 : Vm.Env → M (Fl × Vm.Env) := (sIf (asB (ev2 (oEq true) (eName 15) (ev2 oMul (vLst (aCons (ev2 oIx (eName 15) (eInt 0)) aNil)) (vB bLen (aCons (eName 15) aNil))))) (sCons (sIf (tOrM (tNotM (tru (vCall 2 (F__law_same 12) (aCons (eName 8) (aCons (vTup (aCons (eStr "stuck") (aCons (eName 14) aNil))) aNil))))) (tNotM (tru (vCall 2 (F__law_same 12) (aCons (vMet [10] mets (vCall 1 F_layers (aCons (eName 10) aNil))) (aCons (vTup (aCons (eStr "not nested") (aCons eNon aNil))) aNil)))))) (sCons (sRet (eBool false))
  sNil) sNil)
  (sCons (sAsg (tgName 11) (vTup (aCons (vLst (aCons (vTup (aCons (eInt 0) (aCons (eInt 0) (aCons (eInt 0) aNil)))) aNil)) (aCons (eInt 1) aNil))))
  sNil)) (sCons (sIf (tOrM (asB (ev2 (oEq true) (vB bLen (aCons (eName 8) aNil)) (eInt 3))) (tOrM (asB (ev2 (oEq true) (ev2 oIx (eName 8) (eInt 0)) (eStr "nested"))) (tOrM (tNotM (tru (vIsi (pIs "list") (ev2 oIx (eName 8) (eInt 1))))) (tNotM (tru (vB bAll (aCons (vComp (iSeq (ev2 oIx (eName 8) (eInt 1))) [19] (tgName 19) cYes (vIsi (pIs "tuple") (eName 19))) aNil))))))) (sCons (sRet (eBool false))
  sNil) sNil)
  (sCons (sAsg (tgName 11) (vTup (aCons (ev2 oIx (eName 8) (eInt 1)) (aCons (ev2 oIx (eName 8) (eInt 2)) aNil))))
  (sCons (sIf (tOrM (tNotM (tru (vCall 3 F__law_is_peeling (aCons (eName 6) (aCons (eName 5) (aCons (eName 11) aNil)))))) (tNotM (tru (vTwice (eName 13) (vCall 1 F_layers (aCons (eName 10) aNil)) (vCallK 1 false F_layers (aCons (vB bList (aCons (eName 6) aNil)) aNil)) (F__law_copied 12) (F__law_same 12))))) (sCons (sRet (eBool false))
  sNil) sNil)
  sNil))))
theorem h_law_0b_8 (T : Tx K mg) (hr : Room 14 (XL P w K mg base f c A outer s H E).A) {Pt : Addr} (TA : TabAt (XL P w K mg base f c A outer s H E) c Pt) : DS (XL P w K mg base f c A outer s H E) (stAt (forBody (stAt ((defBody s_law).drop 1) 0)) 8) m_law_0b_8 := by
  have h1 := room1 hr; have h64 := room64 hr; have h65 := room65 hr
  exact (ds_if (dt_cmp (o_ne h64) (nm 15) (de_bin o_mul (de_lst (da_cons (de_ix (nm 15) nInt (by intro _ _; rfl)) da_nil)) (cB oc_len T.n_len (da_cons (nm 15) da_nil)))) (dss_cons (ds_if (DW.dt (dw_or (dt_not (dt_truth (de_call (FnT0.t (ok__law_same T 12) bt__law_same) (hr.mono (by decide)) (by rfl) (da_cons (nm 8) (da_cons (de_tup (da_cons nStr (da_cons (nm 14) da_nil))) da_nil))))) (dw_or1 (dt_not (dt_truth (de_call (FnT0.t (ok__law_same T 12) bt__law_same) (hr.mono (by decide)) (by rfl) (da_cons (de_met (caps := [10]) (k := 12) T.d__law_met sc__law_met bt__law_met rfl (hh__law_met T) T.exms rfl rfl (hr.mono (by decide)) TA (fun A outer s H E f c' hr => (de_call (FnT0.t (ok_layers T) bt_layers) (hr.mono (by decide)) (by rfl) (da_cons (nm 10) da_nil))) (LamX.lamS_by (by kernel_rfl)) rfl (fun _ _ _ _ _ => rfl)) (da_cons (de_tup (da_cons nStr (da_cons nNon da_nil))) da_nil)))))))) (dss_cons (ds_ret nBool)
  dss_nil) dss_nil)
  (dss_cons (ds_set sc_law.nd (i := 11) rfl (.inr rfl) (de_tup (da_cons (de_lst (da_cons (de_tup (da_cons nInt (da_cons nInt (da_cons nInt da_nil)))) da_nil)) (da_cons nInt da_nil))))
  dss_nil)) (dss_cons (ds_if (DW.dt (dw_or (dt_cmp (o_ne h64) (cB oc_len T.n_len (da_cons (nm 8) da_nil)) nInt) (dw_or (dt_cmp (o_ne h64) (de_ix (nm 8) nInt (by intro _ _; rfl)) nStr) (dw_or (dt_not (dt_truth (isi1 (by decide) T.n_isinstance T.n_list (de_ix (nm 8) nInt (by intro _ _; rfl))))) (dw_or1 (dt_not (dt_truth (cB oc_all T.n_all (da_cons (de_comp (own := [("step", 19)]) rfl sc_law.nd (di_seq (de_ix (nm 8) nInt (by intro _ _; rfl))) (blkOk_by (by kernel_rfl)) (by decide) (fun _ _ _ _ _ => (dg_name sc_law.nd (i := 19) rfl (.inl rfl))) (fun _ _ _ _ _ => dts_nil) (fun _ _ _ _ _ => (isi1 (by decide) T.n_isinstance T.n_tuple (nm 19)))) da_nil))))))))) (dss_cons (ds_ret nBool)
  dss_nil) dss_nil)
  (dss_cons (ds_set sc_law.nd (i := 11) rfl (.inr rfl) (de_tup (da_cons (de_ix (nm 8) nInt (by intro _ _; rfl)) (da_cons (de_ix (nm 8) nInt (by intro _ _; rfl)) da_nil))))
  (dss_cons (ds_if (DW.dt (dw_or (dt_not (dt_truth (de_call (FnT0.t (ok__law_is_peeling T) bt__law_is_peeling) (hr.mono (by decide)) (by rfl) (da_cons (nm 6) (da_cons (nm 5) (da_cons (nm 11) da_nil)))))) (dw_or1 (dt_not (dt_truth (de_twice (k := 12) T.d__law_twice ((ok__law_copied T 12).mono (by decide)) ((ok__law_same T 12).mono (by decide)) (ok__law_spoilt T 12 (by decide)) hr TA (nm 13) (fun A outer s H E f c' hr => (de_call (FnT0.t (ok_layers T) bt_layers) (hr.mono (by decide)) (by rfl) (da_cons (nm 10) da_nil))) (fun A outer s H E f c' hr => (de_callK (FnT0.k (rev := false) (ok_layers T) bk_layers_false) (hr.mono (by decide)) (by rfl) (dk_cons (cT oc_list T.n_list (da_cons (nm 6) da_nil)) dk_nil))) (LamX.lamS_by (by kernel_rfl)) (LamX.lamS_by (by kernel_rfl)) rfl rfl (fun _ _ _ _ _ => rfl) (fun _ _ _ _ _ => rfl) (fun b hb => frs_tail hb))))))) (dss_cons (ds_ret nBool)
  dss_nil) dss_nil)
  dss_nil))))
def m_law_0b_9 : Vm.Env → M (Fl × Vm.Env) := (sSpoil 7)
theorem h_law_0b_9 (T : Tx K mg) (hr : Room 14 (XL P w K mg base f c A outer s H E).A) : DS (XL P w K mg base f c A outer s H E) (stAt (forBody (stAt ((defBody s_law).drop 1) 0)) 9) m_law_0b_9 := by
  have h1 := room1 hr; have h64 := room64 hr; have h65 := room65 hr
  exact (ds_spoil (ok__law_spoilt T 12 (by decide)) bt__law_spoilt (hr.mono (by decide)) (i := 7) rfl (.inl rfl))
def m_law_0b_10 : Vm.Env → M (Fl × Vm.Env) := (sIf (tNotM (tru (vCall 2 (F__law_same 12) (aCons (vCall 1 F_nested_or_stuck (aCons (vB bList (aCons (eName 6) aNil)) aNil)) (aCons (eName 8) aNil))))) (sCons (sRet (eBool false))
  sNil) sNil)
theorem h_law_0b_10 (T : Tx K mg) (hr : Room 14 (XL P w K mg base f c A outer s H E).A) : DS (XL P w K mg base f c A outer s H E) (stAt (forBody (stAt ((defBody s_law).drop 1) 0)) 10) m_law_0b_10 := by
  have h1 := room1 hr; have h64 := room64 hr; have h65 := room65 hr
  exact (ds_if (dt_not (dt_truth (de_call (FnT0.t (ok__law_same T 12) bt__law_same) (hr.mono (by decide)) (by rfl) (da_cons (de_call (FnT0.t (ok_nested_or_stuck T) bt_nested_or_stuck) (hr.mono (by decide)) (by rfl) (da_cons (cT oc_list T.n_list (da_cons (nm 6) da_nil)) da_nil)) (da_cons (nm 8) da_nil))))) (dss_cons (ds_ret nBool)
  dss_nil) dss_nil)
def m_law_0b_11b_0 : Vm.Env → M (Fl × Vm.Env) := (sAsg (tgName 12) (vCall 3 F__law_is_peeling (aCons (eName 6) (aCons (eName 5) (aCons (eName 9) aNil)))))
theorem h_law_0b_11b_0 (T : Tx K mg) (hr : Room 14 (XL P w K mg base f c A outer s H E).A) : DS (XL P w K mg base f c A outer s H E) (stAt (forBody (stAt (forBody (stAt ((defBody s_law).drop 1) 0)) 11)) 0) m_law_0b_11b_0 := by
  have h1 := room1 hr; have h64 := room64 hr; have h65 := room65 hr
  exact (ds_set sc_law.nd (i := 12) rfl (.inl rfl) (de_call (FnT0.t (ok__law_is_peeling T) bt__law_is_peeling) (hr.mono (by decide)) (by rfl) (da_cons (nm 6) (da_cons (nm 5) (da_cons (nm 9) da_nil)))))
def m_law_0b_11b_1 : Vm.Env → M (Fl × Vm.Env) := (sIf (tNotM (tru (vCall 2 (F__law_same 12) (aCons (vLst (aCons (vCall 2 F_is_peeling (aCons (eName 10) (aCons (vCall 1 (F__law_copied 12) (aCons (eName 9) aNil)) aNil))) (aCons (vCallK 2 true F_is_peeling (aCons (vCall 1 (F__law_copied 12) (aCons (eName 9) aNil)) (aCons (vB bList (aCons (eName 6) aNil)) aNil))) aNil))) (aCons (vLst (aCons (eName 12) (aCons (eName 12) aNil))) aNil))))) (sCons (sRet (eBool false))
  sNil) sNil)
theorem h_law_0b_11b_1 (T : Tx K mg) (hr : Room 14 (XL P w K mg base f c A outer s H E).A) : DS (XL P w K mg base f c A outer s H E) (stAt (forBody (stAt (forBody (stAt ((defBody s_law).drop 1) 0)) 11)) 1) m_law_0b_11b_1 := by
  have h1 := room1 hr; have h64 := room64 hr; have h65 := room65 hr
  exact (ds_if (dt_not (dt_truth (de_call (FnT0.t (ok__law_same T 12) bt__law_same) (hr.mono (by decide)) (by rfl) (da_cons (de_lst (da_cons (de_call (FnT0.t (ok_is_peeling T) bt_is_peeling) (hr.mono (by decide)) (by rfl) (da_cons (nm 10) (da_cons (de_call (FnT0.t (ok__law_copied T 12) bt__law_copied) (hr.mono (by decide)) (by rfl) (da_cons (nm 9) da_nil)) da_nil))) (da_cons (de_callK (FnT0.k (rev := true) (ok_is_peeling T) bk_is_peeling_true) (hr.mono (by decide)) (by rfl) (dk_cons (de_call (FnT0.t (ok__law_copied T 12) bt__law_copied) (hr.mono (by decide)) (by rfl) (da_cons (nm 9) da_nil)) (dk_cons (cT oc_list T.n_list (da_cons (nm 6) da_nil)) dk_nil))) da_nil))) (da_cons (de_lst (da_cons (nm 12) (da_cons (nm 12) da_nil))) da_nil))))) (dss_cons (ds_ret nBool)
  dss_nil) dss_nil)
def m_law_0b_11b : Vm.Env → M (Fl × Vm.Env) := (sCons m_law_0b_11b_0 (sCons m_law_0b_11b_1 sNil))
theorem h_law_0b_11b (T : Tx K mg) (hr : Room 14 (XL P w K mg base f c A outer s H E).A) : DSs (XL P w K mg base f c A outer s H E) (forBody (stAt (forBody (stAt ((defBody s_law).drop 1) 0)) 11)) m_law_0b_11b := (dss_cons (h_law_0b_11b_0 T hr) (dss_cons (h_law_0b_11b_1 T hr) dss_nil))
def m_law_0b_11 : Vm.Env → M (Fl × Vm.Env) := (sFor (iSeq (vCall 2 F__law_mixed (aStm 1 (aCons (ev2 oAdd (vLst (aCons (eName 11) (aCons (vCall 2 (F__law_loose 6) (aStm 1 (aCons (eName 11) aNil))) aNil))) (vComp (iRange1 (aCons (eInt 5) aNil)) [18] (tgName 18) cYes (vCall 3 F__law_bent (aStm 1 (aCons (eName 5) (aCons (eName 11) aNil)))))) aNil)))) (tgName 9) m_law_0b_11b)
theorem h_law_0b_11 (T : Tx K mg) (hr : Room 14 (XL P w K mg base f c A outer s H E).A) : DS (XL P w K mg base f c A outer s H E) (stAt (forBody (stAt ((defBody s_law).drop 1) 0)) 11) m_law_0b_11 := by
  have h1 := room1 hr; have h64 := room64 hr; have h65 := room65 hr
  exact (ds_for PassesOwn.never rfl (di_seq (de_call (FnT0.t (ok__law_mixed T) bt__law_mixed) (hr.mono (by decide)) (by rfl) (stA 1 (da_cons (de_bin o_add (de_lst (da_cons (nm 11) (da_cons (de_call (FnT0.t (ok__law_loose T 6) bt__law_loose) (hr.mono (by decide)) (by rfl) (stA 1 (da_cons (nm 11) da_nil))) da_nil))) (de_comp (own := [("k", 18)]) rfl sc_law.nd (di_range1 (by rfl) T.n_range (da_cons nInt da_nil)) (blkOk_by (by kernel_rfl)) (by decide) (fun _ _ _ _ _ => (dg_name sc_law.nd (i := 18) rfl (.inl rfl))) (fun _ _ _ _ _ => dts_nil) (fun _ _ _ _ _ => (de_call (FnT0.t (ok__law_bent T) bt__law_bent) (hr.mono (by decide)) (by rfl) (stA 1 (da_cons (nm 5) (da_cons (nm 11) da_nil))))))) da_nil)))) (dg_name sc_law.nd (i := 9) rfl (.inl rfl)) (h_law_0b_11b T hr))
def m_law_0b_12 : Vm.Env → M (Fl × Vm.Env) := (sIf (tNotM (tru (vCall 2 (F__law_same 12) (aCons (vB bList (aCons (eName 10) aNil)) (aCons (eName 6) aNil))))) (sCons (sRet (eBool false))
  sNil) sNil)
theorem h_law_0b_12 (T : Tx K mg) (hr : Room 14 (XL P w K mg base f c A outer s H E).A) : DS (XL P w K mg base f c A outer s H E) (stAt (forBody (stAt ((defBody s_law).drop 1) 0)) 12) m_law_0b_12 := by
  have h1 := room1 hr; have h64 := room64 hr; have h65 := room65 hr
  exact (ds_if (dt_not (dt_truth (de_call (FnT0.t (ok__law_same T 12) bt__law_same) (hr.mono (by decide)) (by rfl) (da_cons (cT oc_list T.n_list (da_cons (nm 10) da_nil)) (da_cons (nm 6) da_nil))))) (dss_cons (ds_ret nBool)
  dss_nil) dss_nil)
def m_law_0b : Vm.Env → M (Fl × Vm.Env) := (sCons m_law_0b_0 (sCons m_law_0b_1 (sCons m_law_0b_2 (sCons m_law_0b_3 (sCons m_law_0b_4 (sCons m_law_0b_5 (sCons m_law_0b_6 (sCons m_law_0b_7 (sCons m_law_0b_8 (sCons m_law_0b_9 (sCons m_law_0b_10 (sCons m_law_0b_11 (sCons m_law_0b_12 sNil)))))))))))))
theorem h_law_0b (T : Tx K mg) (hr : Room 14 (XL P w K mg base f c A outer s H E).A) {Pt : Addr} (TA : TabAt (XL P w K mg base f c A outer s H E) c Pt) : DSs (XL P w K mg base f c A outer s H E) (forBody (stAt ((defBody s_law).drop 1) 0)) m_law_0b := (dss_cons (h_law_0b_0 T hr) (dss_cons (h_law_0b_1 T hr) (dss_cons (h_law_0b_2 T hr) (dss_cons (h_law_0b_3 T hr TA) (dss_cons (h_law_0b_4 T hr TA) (dss_cons (h_law_0b_5 T hr) (dss_cons (h_law_0b_6 T hr) (dss_cons (h_law_0b_7 T hr) (dss_cons (h_law_0b_8 T hr TA) (dss_cons (h_law_0b_9 T hr) (dss_cons (h_law_0b_10 T hr) (dss_cons (h_law_0b_11 T hr) (dss_cons (h_law_0b_12 T hr) dss_nil)))))))))))))
def m_law_0 : Vm.Env → M (Fl × Vm.Env) := (sFor (iRange1 (aCons (eInt 6) aNil)) (tgName 2) m_law_0b)
theorem h_law_0 (T : Tx K mg) (hr : Room 14 (XL P w K mg base f c A outer s H E).A) {Pt : Addr} (TA : TabAt (XL P w K mg base f c A outer s H E) c Pt) : DS (XL P w K mg base f c A outer s H E) (stAt ((defBody s_law).drop 1) 0) m_law_0 := by
  have h1 := room1 hr; have h64 := room64 hr; have h65 := room65 hr
  exact (ds_for PassesOwn.never rfl (di_range1 (by rfl) T.n_range (da_cons nInt da_nil)) (dg_name sc_law.nd (i := 2) rfl (.inl rfl)) (h_law_0b T hr TA))
def m_law_1 : Vm.Env → M (Fl × Vm.Env) := (sAsg (tgName 3) (vLst (aCons (eInt 0) (aCons (eInt 0) (aCons (eInt 0) (aCons (eInt 1) aNil))))))
theorem h_law_1 (T : Tx K mg) (hr : Room 14 (XL P w K mg base f c A outer s H E).A) : DS (XL P w K mg base f c A outer s H E) (stAt ((defBody s_law).drop 1) 1) m_law_1 := by
  have h1 := room1 hr; have h64 := room64 hr; have h65 := room65 hr
  exact (ds_set sc_law.nd (i := 3) rfl (.inl rfl) (de_lst (da_cons nInt (da_cons nInt (da_cons nInt (da_cons nInt da_nil))))))
def m_law_2 : Vm.Env → M (Fl × Vm.Env) := (sAsg (tgName 4) (vLst (aCons (vCall 1 F_deciding (aCons (eName 3) aNil)) (aCons (vCall 1 F_layers (aCons (eName 3) aNil)) (aCons (vCall 1 F_nested_or_stuck (aCons (vLst (aCons (eInt 0) (aCons (eInt 1) (aCons (eInt 1) (aCons (eInt 0) aNil))))) aNil)) (aCons (vCall 1 F_nested_or_stuck (aCons (vLst (aCons (eInt 1) aNil)) aNil)) (aCons (vCall 1 F_layers (aCons (vLst (aCons (eInt 0) (aCons (eInt 1) aNil))) aNil)) aNil)))))))
theorem h_law_2 (T : Tx K mg) (hr : Room 14 (XL P w K mg base f c A outer s H E).A) : DS (XL P w K mg base f c A outer s H E) (stAt ((defBody s_law).drop 1) 2) m_law_2 := by
  have h1 := room1 hr; have h64 := room64 hr; have h65 := room65 hr
  exact (ds_set sc_law.nd (i := 4) rfl (.inl rfl) (de_lst (da_cons (de_call (FnT0.t (ok_deciding T) bt_deciding) (hr.mono (by decide)) (by rfl) (da_cons (nm 3) da_nil)) (da_cons (de_call (FnT0.t (ok_layers T) bt_layers) (hr.mono (by decide)) (by rfl) (da_cons (nm 3) da_nil)) (da_cons (de_call (FnT0.t (ok_nested_or_stuck T) bt_nested_or_stuck) (hr.mono (by decide)) (by rfl) (da_cons (de_lst (da_cons nInt (da_cons nInt (da_cons nInt (da_cons nInt da_nil))))) da_nil)) (da_cons (de_call (FnT0.t (ok_nested_or_stuck T) bt_nested_or_stuck) (hr.mono (by decide)) (by rfl) (da_cons (de_lst (da_cons nInt da_nil)) da_nil)) (da_cons (de_call (FnT0.t (ok_layers T) bt_layers) (hr.mono (by decide)) (by rfl) (da_cons (de_lst (da_cons nInt (da_cons nInt da_nil))) da_nil)) da_nil)))))))
def m_law_3 : Vm.Env → M (Fl × Vm.Env) := (sRet (vCall 2 (F__law_same 12) (aCons (eName 4) (aCons (vLst (aCons (vLst (aCons (vTup (aCons (eInt 0) (aCons (eInt 0) (aCons (eInt 0) aNil)))) (aCons (vTup (aCons (eInt 1) (aCons (eInt 0) (aCons (eInt 0) aNil)))) aNil))) (aCons (vLst (aCons (vLst (aCons (vTup (aCons (eInt 0) (aCons (eInt 0) (aCons (eInt 0) aNil)))) (aCons (vTup (aCons (eInt 1) (aCons (eInt 0) (aCons (eInt 0) aNil)))) aNil))) aNil)) (aCons (vTup (aCons (eStr "stuck") (aCons (vLst (aCons (eInt 0) (aCons (eInt 1) aNil))) aNil))) (aCons (vTup (aCons (eStr "nested") (aCons (vLst aNil) (aCons (eInt 1) aNil)))) (aCons (vLst (aCons (vLst (aCons (vTup (aCons (eInt 0) (aCons (eInt 0) (aCons (eInt 0) aNil)))) aNil)) aNil)) aNil)))))) aNil))))
theorem h_law_3 (T : Tx K mg) (hr : Room 14 (XL P w K mg base f c A outer s H E).A) : DS (XL P w K mg base f c A outer s H E) (stAt ((defBody s_law).drop 1) 3) m_law_3 := by
  have h1 := room1 hr; have h64 := room64 hr; have h65 := room65 hr
  exact (ds_ret (de_call (FnT0.t (ok__law_same T 12) bt__law_same) (hr.mono (by decide)) (by rfl) (da_cons (nm 4) (da_cons (de_lst (da_cons (de_lst (da_cons (de_tup (da_cons nInt (da_cons nInt (da_cons nInt da_nil)))) (da_cons (de_tup (da_cons nInt (da_cons nInt (da_cons nInt da_nil)))) da_nil))) (da_cons (de_lst (da_cons (de_lst (da_cons (de_tup (da_cons nInt (da_cons nInt (da_cons nInt da_nil)))) (da_cons (de_tup (da_cons nInt (da_cons nInt (da_cons nInt da_nil)))) da_nil))) da_nil)) (da_cons (de_tup (da_cons nStr (da_cons (de_lst (da_cons nInt (da_cons nInt da_nil))) da_nil))) (da_cons (de_tup (da_cons nStr (da_cons (de_lst da_nil) (da_cons nInt da_nil)))) (da_cons (de_lst (da_cons (de_lst (da_cons (de_tup (da_cons nInt (da_cons nInt (da_cons nInt da_nil)))) da_nil)) da_nil)) da_nil)))))) da_nil))))
def m_law : Vm.Env → M (Fl × Vm.Env) := (sCons m_law_0 (sCons m_law_1 (sCons m_law_2 (sCons m_law_3 sNil))))
theorem h_law (T : Tx K mg) (hr : Room 14 (XL P w K mg base f c A outer s H E).A) {Pt : Addr} (TA : TabAt (XL P w K mg base f c A outer s H E) c Pt) : DSs (XL P w K mg base f c A outer s H E) ((defBody s_law).drop 1) m_law := (dss_cons (h_law_0 T hr TA) (dss_cons (h_law_1 T hr) (dss_cons (h_law_2 T hr) (dss_cons (h_law_3 T hr) dss_nil))))
end
theorem ok_law (T : Tx K mg) {f c Pt : Addr} {oc kV doc pm ct : Value} {od an : Option Addr} {osl : Array (Option Value)} (lk : K.lookup f = some ⟨oc, od, .func (PySem.W.fnOf "law" "law" (defArgs s_law) (defBody s_law) (defScope s_law) .none kV doc pm an (.ref c) ct), osl⟩) (hcd : PySem.W.codeIn K (.ref c) "law" = true)
    (TB : LamX.TabB base mg c Pt) (hmem : (Pt, ("law" : Str) ++ ".<locals>." ++ "<lambda>") ∈ TabsC.T) (hone : ∀ p ∈ TabsC.T, p.1 = Pt → p.2 = ("law" : Str) ++ ".<locals>." ++ "<lambda>") (good : LawOk 20 m_law) :
    FnOk P w K mg base CX0 15 f (PySem.W.fnOf "law" "law" (defArgs s_law) (defBody s_law) (defScope s_law) .none kV doc pm an (.ref c) ct) ["script"] (spLaw K) := by
  refine fn_of lk hcd sc_law (fun vs H Q E h => by obtain ⟨_, _, e, _⟩ := h; rw [e]; rfl) fun A outer s H vs Q E hr h => ?_
  obtain ⟨a, ns, rfl, hS, hl, hT, q⟩ := h
  have h1 := room1 hr; have h64 := room64 hr; have h65 := room65 hr
  have TA : TabAt (XL P w K mg base f c A outer s H E) c Pt := ⟨TB, rfl, hmem, hone⟩
  obtain ⟨g, gd, hmg, Fg, okg⟩ := ok__law_stream (P := P) (w := w) (base := base) T 14 (by decide)
  have hb : DSs (XL P w K mg base f c A outer s H E) ((defBody s_law).drop 1) m_law := h_law T hr TA
  obtain ⟨t, ht, qt⟩ := law_end hb (m := 20) (by decide) good
  refine ⟨_, (pss_cons (ps_set (i := 1) sc_law.nd rfl (.inr rfl) (pe_call okg hr (by rfl) hmg Fg.kp (Fg.binds bt__law_stream) .nil pass0 (pa_cons (pv 0) pa_nil))) ht).nox, ?_⟩
  exact ⟨_, rfl, a, ns, rfl, hS, hl, hT, fun st H' _ sm => qt st H' a Q sm q⟩
end
end D94

set_option Elab.async false
set_option linter.all false
namespace M95
/-- all states of n switches, ascending -/
def sts : Nat → List (List Int)
  | 0 => [[]]
  | n + 1 => (sts n).flatMap fun s => [s ++ [0], s ++ [1]]
/-- one value turned over -/
def ov (h : Nat) (s : List Int) : List Int := s.set h (1 - s.getD h 0)
def num (s : List Int) : Int := s.foldl (fun a v => 2 * a + v) 0
def at_ (h : Nat) (s : List Int) : Int := s.getD h 0
theorem sts_ov : ∀ n : Fin 6, ∀ h : Fin n.1, (((sts n.1).filter fun s => at_ h s == 0).map (ov h)) = (sts n.1).filter fun s => at_ h s == 1 := by decide +kernel
theorem sts_ovov : ∀ n : Fin 6, ∀ h : Fin n.1, ((sts n.1).all fun s => ov h (ov h s) == s) = true := by decide +kernel
theorem sts_01 : ∀ n : Fin 6, ∀ h : Fin n.1, ((sts n.1).all fun s => at_ h s == 0 || at_ h s == 1) = true := by decide +kernel
theorem sts_num : ∀ n : Fin 6, (sts n.1).map num = (List.range (2 ^ n.1)).map fun i : Nat => (i : Int) := by decide +kernel
theorem sts_idx : ∀ n : Fin 6, ((sts n.1).all fun s => (sts n.1).findIdx? (fun t => t == s) == some (num s).toNat) = true := by decide +kernel
theorem sts_idx_ov : ∀ n : Fin 6, ∀ h : Fin n.1, ((sts n.1).all fun s => (sts n.1).contains (ov h s)) = true := by decide +kernel
theorem sts_len : ∀ n : Fin 6, ((sts n.1).all fun s => s.length == n.1) = true := by decide +kernel
section
variable (R : List Int → Int)
def sens (h : Nat) (s : List Int) : Bool := R (ov h s) != R s
/-- how many heeds turn the value at s -/
def tl (n : Nat) (s : List Int) : Nat := ((List.range n).filter fun h => sens R h s).length
def cnt (n h : Nat) : Nat := (sts n).countP fun s => sens R h s && at_ h s == 0
/-- the greatest of them -/
def mostL (n : Nat) (l : List (List Int)) : Nat := l.foldl (fun m s => max m (tl R n s)) 0
theorem fold_max_ge {α : Type} (f : α → Nat) : ∀ (l : List α) (m : Nat), m ≤ l.foldl (fun m s => max m (f s)) m ∧ ∀ s ∈ l, f s ≤ l.foldl (fun m s => max m (f s)) m
  | [], m => ⟨Nat.le_refl _, fun s hs => by cases hs⟩
  | a :: l, m => by
    obtain ⟨h1, h2⟩ := fold_max_ge f l (max m (f a))
    refine ⟨Nat.le_trans (Nat.le_max_left _ _) h1, fun s hs => ?_⟩
    rcases List.mem_cons.mp hs with rfl | hs
    · exact Nat.le_trans (Nat.le_max_right _ _) h1
    · exact h2 s hs
theorem countP_map_eq {α β : Type} (f : α → β) (p : β → Bool) (l : List α) : (l.map f).countP p = l.countP (fun a => p (f a)) := by
  rw [List.countP_map]; rfl
theorem countP_filter' {α : Type} (p q : α → Bool) (l : List α) : (l.filter q).countP p = l.countP (fun a => p a && q a) := by
  rw [List.countP_filter]
theorem countP_split {α : Type} (p q q' : α → Bool) : ∀ l : List α, (∀ a ∈ l, q a = !q' a) → l.countP p = l.countP (fun a => p a && q a) + l.countP (fun a => p a && q' a)
  | [], _ => rfl
  | a :: l, h => by
    have := countP_split p q q' l fun b hb => h b (List.mem_cons_of_mem _ hb)
    have ha := h a List.mem_cons_self
    simp only [List.countP_cons, this, ha]
    cases p a <;> cases q' a <;> simp <;> omega
theorem sum_swap {α β : Type} (p : α → β → Bool) : ∀ (xs : List α) (ys : List β), (xs.map fun x => ys.countP (p x)).sum = (ys.map fun y => xs.countP fun x => p x y).sum
  | [], ys => by induction ys with
    | nil => rfl
    | cons y ys ih => simpa using ih
  | x :: xs, ys => by
    rw [List.map_cons, List.sum_cons, sum_swap p xs ys]
    induction ys with
    | nil => rfl
    | cons y ys ih =>
      simp only [List.countP_cons, List.map_cons, List.sum_cons] at ih ⊢
      omega
theorem sum_le {α : Type} (f : α → Nat) (m : Nat) : ∀ l : List α, (∀ a ∈ l, f a ≤ m) → (l.map f).sum ≤ m * l.length
  | [], _ => by simp
  | a :: l, h => by
    have := sum_le f m l fun b hb => h b (List.mem_cons_of_mem _ hb)
    have ha := h a List.mem_cons_self
    simp only [List.map_cons, List.sum_cons, List.length_cons, Nat.mul_succ]
    omega
theorem sum_double {α : Type} (f g : α → Nat) : ∀ l : List α, (∀ a ∈ l, g a = 2 * f a) → (l.map g).sum = 2 * (l.map f).sum
  | [], _ => rfl
  | a :: l, h => by
    have := sum_double f g l fun b hb => h b (List.mem_cons_of_mem _ hb)
    have ha := h a List.mem_cons_self
    simp only [List.map_cons, List.sum_cons]
    omega
theorem twice_cnt {n : Nat} (hn : n < 6) {h : Nat} (hh : h < n) : (sts n).countP (sens R h) = 2 * cnt R n h := by
  have e1 := sts_ov ⟨n, hn⟩ ⟨h, hh⟩
  have e2 := sts_ovov ⟨n, hn⟩ ⟨h, hh⟩
  have e3 := sts_01 ⟨n, hn⟩ ⟨h, hh⟩
  simp only [List.all_eq_true, beq_iff_eq, Bool.or_eq_true] at e1 e2 e3
  rw [countP_split (sens R h) (fun s => at_ h s == 0) (fun s => at_ h s == 1) (sts n) (fun s hs => by rcases e3 s hs with z | z <;> rw [z] <;> rfl)]
  have e4 : (sts n).countP (fun s => sens R h s && at_ h s == 1) = cnt R n h := by
    rw [← countP_filter', ← e1, countP_map_eq, countP_filter']
    refine List.countP_congr fun s hs => ?_
    have e5 : sens R h (ov h s) = sens R h s := by
      unfold sens
      rw [e2 s hs]
      rw [bne_comm]
    rw [e5]
  rw [e4]
  unfold cnt
  omega
theorem bound {n : Nat} (hn : n < 6) : 2 * ((List.range n).map (cnt R n)).sum ≤ mostL R n (sts n) * (sts n).length := by
  rw [← sum_double (cnt R n) (fun h => (sts n).countP (sens R h)) (List.range n) (fun h hh => twice_cnt R hn (List.mem_range.mp hh))]
  rw [sum_swap]
  refine sum_le (fun s => (List.range n).countP fun x => sens R x s) _ (sts n) fun s hs => ?_
  have := (fold_max_ge (tl R n) (sts n) 0).2 s hs
  simpa [tl, mostL, List.countP_eq_length_filter] using this
/-- what doings counts -/
theorem doing {n : Nat} (hn : n < 6) {h : Nat} (hh : h < n) :
    ((List.zip (((sts n).filter fun s => at_ h s == 0).map R) (((sts n).filter fun s => at_ h s == 1).map R)).filter fun p => p.1 != p.2).length = cnt R n h := by
  have e1 := sts_ov ⟨n, hn⟩ ⟨h, hh⟩
  simp only at e1
  rw [← e1, List.map_map]
  unfold cnt
  rw [← countP_filter', ← List.countP_eq_length_filter]
  generalize (sts n).filter (fun s => at_ h s == 0) = F
  induction F with
  | nil => rfl
  | cons s F ih =>
    simp only [List.map_cons, List.zip_cons_cons, List.countP_cons, Function.comp, ih]
    unfold sens
    rw [bne_comm]
end
end M95

set_option Elab.async false
set_option linter.all false
set_option maxRecDepth 100000
namespace Vm
open PySem L2
/-! ### how mirrors reckon -/
abbrev DI_ (l : List Int) : PyData := .list (l.map .int)
abbrev DT_ (l : List Int) : PyData := .tuple (l.map .int)
@[simp] theorem imms_map {α : Type} {f : α → PyData} : ∀ {l : List α}, (∀ x ∈ l, imm (f x) = true) → imms (l.map f) = true
  | [], _ => rfl
  | x :: l, h => by
    simp only [List.map_cons, imms, Bool.and_eq_true]
    exact ⟨h x List.mem_cons_self, imms_map fun y hy => h y (List.mem_cons_of_mem _ hy)⟩
@[simp] theorem imms_int (l : List Int) : imms (l.map .int) = true := imms_map fun _ _ => rfl
@[simp] theorem imm_DT (l : List Int) : imm (.tuple (l.map .int)) = true := by show imms _ = true; simp
@[simp] theorem imms_DT {α : Type} (g : α → List Int) (l : List α) : imms (l.map fun x => .tuple ((g x).map .int)) = true := imms_map fun _ _ => imm_DT _
theorem mkRV_imm {d : PyData} {lv : Lv} {al : List Nat} (h : imm d = true) : mkRV d lv al = ⟨d, .own, []⟩ := by unfold mkRV; rw [if_pos h]
@[simp] theorem mkRV_int (i : Int) (lv : Lv) (al : List Nat) : mkRV (.int i) lv al = ⟨.int i, .own, []⟩ := rfl
@[simp] theorem mkRV_bool (i : Bool) (lv : Lv) (al : List Nat) : mkRV (.bool i) lv al = ⟨.bool i, .own, []⟩ := rfl
@[simp] theorem mkRV_none (lv : Lv) (al : List Nat) : mkRV .none lv al = ⟨.none, .own, []⟩ := rfl
@[simp] theorem mkRV_str (i : Str) (lv : Lv) (al : List Nat) : mkRV (.str i) lv al = ⟨.str i, .own, []⟩ := rfl
@[simp] theorem mkRV_DT (l : List Int) (lv : Lv) (al : List Nat) : mkRV (.tuple (l.map .int)) lv al = ⟨.tuple (l.map .int), .own, []⟩ := mkRV_imm (imm_DT l)
@[simp] theorem mkRV_list (xs : List PyData) (lv : Lv) (al : List Nat) : mkRV (.list xs) lv al = ⟨.list xs, lv, al⟩ := rfl
@[simp] theorem ofOption_some {α : Type} (a : α) : M.ofOption (some a) = M.ret a := rfl
@[simp] theorem ofOption_none {α : Type} : (M.ofOption none : M α) = M.stuck := rfl
@[simp] theorem pure_eq {α : Type} (a : α) : (pure a : M α) = M.ret a := rfl
@[simp] theorem orElse_stuck (n : M RV) : orElse .stuck n = n := rfl
@[simp] theorem orElse_ret (a : RV) (n : M RV) : orElse (.ret a) n = .ret a := rfl
@[simp] theorem sl_nil (i : Nat) : sl [] i = none := by simp [sl]
@[simp] theorem sl_zero (x : Option Sl) (env : Env) : sl (x :: env) 0 = x := by simp [sl]
@[simp] theorem sl_succ (x : Option Sl) (env : Env) (i : Nat) : sl (x :: env) (i + 1) = sl env i := by simp [sl]
theorem mkL_own {ds : List PyData} {al : List Nat} (h : imms ds = true) : mkL ds al = ⟨.list ds, .own, []⟩ := by unfold mkL; rw [if_pos h]
@[simp] theorem mkRV_tup {ds : List PyData} (h : imms ds = true) (lv : Lv) (al : List Nat) : mkRV (.tuple ds) lv al = ⟨.tuple ds, .own, []⟩ := mkRV_imm (d := .tuple ds) h
@[simp] theorem mkT_own {ds : List PyData} {al : List Nat} (h : imms ds = true) : mkT ds al = ⟨.tuple ds, .own, []⟩ := mkRV_imm (d := .tuple ds) h
/-! comprehensions -/
theorem compLoop_map {α : Type} {tg : Lv → PyData → Env → Option Env} {cond : Env → M Bool} {elt : Env → M RV} {e0 : Env} (f : α → PyData) (c : α → Bool) (g : α → RV) :
    ∀ (xs : List α), (∀ x ∈ xs, ∃ e, tg .shr (f x) e0 = some e ∧ cond e = .ret (c x) ∧ (c x = true → elt e = .ret (g x))) → compLoop tg cond elt e0 (xs.map f) = .ret ((xs.filter c).map g)
  | [], _ => rfl
  | x :: xs, h => by
    obtain ⟨e, h1, h2, h3⟩ := h x List.mem_cons_self
    have ih := compLoop_map f c g xs fun y hy => h y (List.mem_cons_of_mem _ hy)
    simp only [List.map_cons, compLoop, h1, ofOption_some, M.bind_ret, h2]
    cases hc : c x with
    | false => simp [hc, ih]
    | true => simp [hc, ih, h3 hc]
theorem dsOf_map {α : Type} (g : α → RV) (xs : List α) : dsOf (xs.map g) = xs.map fun x => (g x).d := by simp [dsOf]
theorem compRV_own {rs : List RV} {al : List Nat} (h : ∀ r ∈ rs, r.lv = .own ∧ r.al = []) : compRV rs al = ⟨.list (dsOf rs), .own, []⟩ := by
  unfold compRV
  have : news rs = true := by
    unfold news
    rw [List.all_eq_true]
    intro r hr
    obtain ⟨h1, h2⟩ := h r hr
    simp [h1, h2]
  rw [this]
  split <;> rfl
theorem vComp_own {α : Type} {it : Env → M (List PyData × List Nat)} {vs : List Nat} {tg : Lv → PyData → Env → Option Env} {cond : Env → M Bool} {elt : Env → M RV} {env : Env} {al : List Nat} (xs : List α) (f : α → PyData) (c : α → Bool) (h : α → PyData)
    (hi : it env = .ret (xs.map f, al)) (hz : xs.length ≤ sizeLine) (he : ∀ x ∈ xs, ∃ e, tg .shr (f x) (kill (frz env al) vs) = some e ∧ cond e = .ret (c x) ∧ (c x = true → elt e = .ret ⟨h x, .own, []⟩)) :
    vComp it vs tg cond elt env = .ret ⟨.list ((xs.filter c).map h), .own, []⟩ := by
  unfold vComp
  rw [hi, M.bind_ret]
  simp only [List.length_map, if_pos hz]
  rw [compLoop_map f c (fun x => ⟨h x, .own, []⟩) xs he, M.calm_ret, M.bind_ret, compRV_own (fun r hr => by obtain ⟨x, _, e⟩ := List.mem_map.mp hr; rw [← e]; exact ⟨rfl, rfl⟩), dsOf_map]
theorem vComp_yes {α : Type} {it : Env → M (List PyData × List Nat)} {vs : List Nat} {tg : Lv → PyData → Env → Option Env} {elt : Env → M RV} {env : Env} (al : List Nat) (xs : List α) (f : α → PyData) (h : α → PyData)
    (hi : it env = .ret (xs.map f, al)) (hz : xs.length ≤ sizeLine) (he : ∀ x ∈ xs, ∃ e, tg .shr (f x) (kill (frz env al) vs) = some e ∧ elt e = .ret ⟨h x, .own, []⟩) :
    vComp it vs tg cYes elt env = .ret ⟨.list (xs.map h), .own, []⟩ := by
  have e := vComp_own (cond := cYes) xs f (fun _ => true) h hi hz fun x hx => by
    obtain ⟨e, h1, h2⟩ := he x hx
    exact ⟨e, h1, rfl, fun _ => h2⟩
  have e2 : xs.filter (fun _ => true) = xs := List.filter_eq_self.mpr fun _ _ => rfl
  rw [e, e2]
theorem compLoop2_map {α β : Type} {tg tg1 : Lv → PyData → Env → Option Env} {cond cond1 : Env → M Bool} {it1 : Env → M (List PyData × List Nat)} {vs1 : List Nat} {elt : Env → M RV} {e0 : Env}
    (f : α → PyData) (c : α → Bool) (ys : α → List β) (f1 : α → β → PyData) (c1 : α → β → Bool) (h : α → β → PyData) :
    ∀ (xs : List α), (∀ x ∈ xs, ∃ e, tg .shr (f x) e0 = some e ∧ cond e = .ret (c x) ∧ (c x = true → ∃ al1, it1 e = .ret ((ys x).map (f1 x), al1) ∧
        ∀ y ∈ ys x, ∃ e1, tg1 .shr (f1 x y) (kill (frz e al1) vs1) = some e1 ∧ cond1 e1 = .ret (c1 x y) ∧ (c1 x y = true → elt e1 = .ret ⟨h x y, .own, []⟩))) →
      ∃ al, compLoop2 tg cond it1 vs1 tg1 cond1 elt e0 (xs.map f) = .ret (((xs.filter c).flatMap fun x => ((ys x).filter (c1 x)).map (h x)).map (fun d => (⟨d, .own, []⟩ : RV)), al)
  | [], _ => ⟨[], rfl⟩
  | x :: xs, H => by
    obtain ⟨e, h1, h2, h3⟩ := H x List.mem_cons_self
    obtain ⟨al, ih⟩ := compLoop2_map f c ys f1 c1 h xs fun y hy => H y (List.mem_cons_of_mem _ hy)
    simp only [List.map_cons, compLoop2, h1, ofOption_some, M.bind_ret, h2]
    cases hc : c x with
    | false => exact ⟨al, by simp [hc, ih]⟩
    | true =>
      obtain ⟨al1, h4, h5⟩ := h3 hc
      refine ⟨al1 ++ al, ?_⟩
      rw [if_pos rfl, h4, M.bind_ret]
      simp only []
      rw [compLoop_map (f1 x) (c1 x) (fun y => ⟨h x y, .own, []⟩) (ys x) h5, M.bind_ret, ih, M.bind_ret]
      simp [hc, List.flatMap_cons]
theorem vComp2_own {α β : Type} {it : Env → M (List PyData × List Nat)} {vs : List Nat} {tg tg1 : Lv → PyData → Env → Option Env} {cond cond1 : Env → M Bool} {it1 : Env → M (List PyData × List Nat)} {vs1 : List Nat} {elt : Env → M RV} {env : Env} {al : List Nat}
    (xs : List α) (f : α → PyData) (c : α → Bool) (ys : α → List β) (f1 : α → β → PyData) (c1 : α → β → Bool) (h : α → β → PyData)
    (hi : it env = .ret (xs.map f, al)) (hz : ((xs.filter c).flatMap fun x => ((ys x).filter (c1 x)).map (h x)).length ≤ sizeLine)
    (H : ∀ x ∈ xs, ∃ e, tg .shr (f x) (kill (frz env al) vs) = some e ∧ cond e = .ret (c x) ∧ (c x = true → ∃ al1, it1 e = .ret ((ys x).map (f1 x), al1) ∧
        ∀ y ∈ ys x, ∃ e1, tg1 .shr (f1 x y) (kill (frz e al1) vs1) = some e1 ∧ cond1 e1 = .ret (c1 x y) ∧ (c1 x y = true → elt e1 = .ret ⟨h x y, .own, []⟩))) :
    vComp2 it vs tg cond it1 vs1 tg1 cond1 elt env = .ret ⟨.list ((xs.filter c).flatMap fun x => ((ys x).filter (c1 x)).map (h x)), .own, []⟩ := by
  unfold vComp2
  rw [hi, M.bind_ret]
  simp only []
  obtain ⟨al', e⟩ := compLoop2_map f c ys f1 c1 h xs H
  rw [e, M.calm_ret, M.bind_ret]
  simp only [List.length_map, if_pos hz]
  rw [compRV_own (fun r hr => by obtain ⟨x, _, e⟩ := List.mem_map.mp hr; rw [← e]; exact ⟨rfl, rfl⟩), dsOf_map]
  simp
/-! loops -/
theorem forLoop_fold {α σ Ω : Type} {tg : Lv → PyData → Env → Option Env} {body : Env → M (Fl × Env)} (f : α → PyData) (enc : Ω → σ → Env) (step : σ → α → σ) (P : σ → Prop) :
    ∀ (xs : List α) (s : σ) (o : Ω), P s → (∀ s o x, P s → x ∈ xs → P (step s x) ∧ ∃ e o', tg .shr (f x) (enc o s) = some e ∧ body e = .ret (.nx, enc o' (step s x))) →
      ∃ o', forLoop tg body (xs.map f) (enc o s) = .ret (.nx, enc o' (xs.foldl step s)) ∧ P (xs.foldl step s)
  | [], s, o, p, _ => ⟨o, rfl, p⟩
  | x :: xs, s, o, p, h => by
    obtain ⟨p1, e, o1, h1, h2⟩ := h s o x p List.mem_cons_self
    obtain ⟨o2, h3, p2⟩ := forLoop_fold f enc step P xs (step s x) o1 p1 fun s o y q hy => h s o y q (List.mem_cons_of_mem _ hy)
    refine ⟨o2, ?_, p2⟩
    simp only [List.map_cons, forLoop, h1, ofOption_some, M.bind_ret, h2, List.foldl_cons]
    exact h3
theorem forLoop_idx {α Ω : Type} {tg : Lv → PyData → Env → Option Env} {body : Env → M (Fl × Env)} (f : α → PyData) :
    ∀ (xs : List α) (E : Nat → Ω → Env) (o : Ω), (∀ i o x, xs[i]? = some x → ∃ e o', tg .shr (f x) (E i o) = some e ∧ body e = .ret (.nx, E (i + 1) o')) →
      ∃ o', forLoop tg body (xs.map f) (E 0 o) = .ret (.nx, E xs.length o')
  | [], E, o, _ => ⟨o, rfl⟩
  | x :: xs, E, o, h => by
    obtain ⟨e, o1, h1, h2⟩ := h 0 o x rfl
    obtain ⟨o2, h3⟩ := forLoop_idx f xs (fun i => E (i + 1)) o1 fun i o y hy => h (i + 1) o y (by simpa using hy)
    refine ⟨o2, ?_⟩
    simp only [List.map_cons, forLoop, h1, ofOption_some, M.bind_ret, h2]
    exact h3
theorem rng0 (n : Nat) : rng 0 n = (List.range n).map fun i : Nat => PyData.int (i : Int) := by simp [rng]
theorem forLoop_rng {Ω : Type} {tg : Lv → PyData → Env → Option Env} {body : Env → M (Fl × Env)} (n : Nat) (E : Nat → Ω → Env) (o : Ω) (h : ∀ i o, i < n → ∃ e o', tg .shr (.int (i : Int)) (E i o) = some e ∧ body e = .ret (.nx, E (i + 1) o')) :
    ∃ o', forLoop tg body (rng 0 n) (E 0 o) = .ret (.nx, E n o') := by
  obtain ⟨o', e⟩ := forLoop_idx (tg := tg) (body := body) (fun i : Nat => .int (i : Int)) (List.range n) E o fun i o x hx => by
    obtain ⟨h1, h2⟩ := List.getElem?_eq_some_iff.mp hx
    simp only [List.length_range] at h1
    simp only [List.getElem_range] at h2
    subst h2
    exact h i o h1
  exact ⟨o', by rw [rng0]; simpa using e⟩
@[simp] theorem sFor_e (it : Env → M (List PyData × List Nat)) (tg : Lv → PyData → Env → Option Env) (body : Env → M (Fl × Env)) (env : Env) : sFor it tg body env = (it env >>= fun p => forLoop tg body p.1 (frz env p.2)) := rfl
theorem forLoop_all {Rx : Exn → Nat → Prop} {Q : Fl × Env → Nat → Prop} {tg : Lv → PyData → Env → Option Env} {body : Env → M (Fl × Env)} :
    ∀ (ds : List PyData) (I : Nat → Env → Nat → Prop) (env : Env) (b : Nat), I 0 env b →
      (∀ i d env b, ds[i]? = some d → I i env b → ∃ e, tg .shr d env = some e ∧ (body e).all Rx (fun p b' => match p.1 with
        | .nx => I (i + 1) p.2 b'
        | .cnt => I (i + 1) p.2 b'
        | .brk => Q (.nx, p.2) b'
        | .ret _ _ => Q p b') b) → (∀ env b, I ds.length env b → Q (.nx, env) b) → (forLoop tg body ds env).all Rx Q b
  | [], I, env, b, h0, _, hq => hq env b h0
  | d :: ds, I, env, b, h0, hs, hq => by
    obtain ⟨e, h1, h2⟩ := hs 0 d env b rfl h0
    simp only [forLoop, h1, ofOption_some, M.bind_ret]
    rw [M.all_bind]
    refine M.all_mono (fun p b' h => ?_) _ _ h2
    obtain ⟨fl, env'⟩ := p
    have re := fun h => forLoop_all ds (fun i => I (i + 1)) env' b' h (fun i d env b hd => hs (i + 1) d env b (by simpa using hd)) (fun env b => hq env b)
    cases fl with
    | nx => exact re h
    | cnt => exact re h
    | brk => exact h
    | ret d lv => exact h
theorem atI_map {α β : Type} {f : α → β} {l : List α} {i : Int} : atI (l.map f) i = (atI l i).map f := by
  unfold atI
  rw [List.length_map]
  cases ixN l.length i <;> simp
@[simp] theorem atI_int {l : List Int} {i : Int} : atI (l.map PyData.int) i = (atI l i).map PyData.int := atI_map
theorem atN {α : Type} {l : List α} {i : Nat} : atI l (i : Int) = l[i]? := by
  unfold atI ixN
  rw [if_pos (Int.natCast_nonneg i)]
  by_cases h : i < l.length
  · rw [if_pos (by omega)]; simp
  · rw [if_neg (by omega)]; simp; omega
/-! equality -/
structure Fit (k : Nat) (d : PyData) : Prop where
  nd : noDict d = true
  cl : d.canLay0 = true
  dp : d.depth ≤ k
theorem Fit.mono {k k' : Nat} {d : PyData} (h : Fit k d) (l : k ≤ k') : Fit k' d := ⟨h.nd, h.cl, Nat.le_trans h.dp l⟩
theorem fit_int (i : Int) (k : Nat) : Fit k (.int i) := ⟨rfl, rfl, Nat.zero_le _⟩
theorem fit_bool (i : Bool) (k : Nat) : Fit k (.bool i) := ⟨rfl, rfl, Nat.zero_le _⟩
theorem fit_none (k : Nat) : Fit k .none := ⟨rfl, rfl, Nat.zero_le _⟩
theorem fit_all {k : Nat} : ∀ {xs : List PyData}, (∀ x ∈ xs, Fit k x) → noDicts xs = true ∧ PyData.canLayAll0 xs = true ∧ PyData.depthAll xs ≤ k
  | [], _ => ⟨rfl, rfl, Nat.zero_le _⟩
  | x :: xs, h => by
    obtain ⟨h1, h2, h3⟩ := fit_all fun y hy => h y (List.mem_cons_of_mem _ hy)
    obtain ⟨a, b, c⟩ := h x List.mem_cons_self
    exact ⟨by simp [noDicts, a, h1], by simp [PyData.canLayAll0, b, h2], Nat.max_le.mpr ⟨c, h3⟩⟩
theorem fit_list {k : Nat} {xs : List PyData} (h : ∀ x ∈ xs, Fit k x) : Fit (k + 1) (.list xs) := let ⟨a, b, c⟩ := fit_all h; ⟨a, b, Nat.succ_le_succ c⟩
theorem fit_tuple {k : Nat} {xs : List PyData} (h : ∀ x ∈ xs, Fit k x) : Fit (k + 1) (.tuple xs) := let ⟨a, b, c⟩ := fit_all h; ⟨a, b, Nat.succ_le_succ c⟩
theorem fit_ints (l : List Int) : ∀ x ∈ l.map PyData.int, Fit 0 x := fun x hx => by obtain ⟨i, _, e⟩ := List.mem_map.mp hx; rw [← e]; exact fit_int i 0
theorem Fit.ok {k : Nat} {d : PyData} (h : Fit k d) (hk : k ≤ 64) : (noDict d && SeqAt.shaped d) = true := by
  unfold SeqAt.shaped
  rw [h.nd, h.cl, decide_eq_true (Nat.le_trans h.dp hk)]; rfl
theorem oEq_of {k k' : Nat} {a b : PyData} (ha : Fit k a) (hb : Fit k' b) (hk : k ≤ 64) (hk' : k' ≤ 64) (neg : Bool) (l l' : Lv) (al al' : List Nat) :
    oEq neg ⟨a, l, al⟩ ⟨b, l', al'⟩ = flat (.bool (if neg then !PyData.eqv a b else PyData.eqv a b)) := by
  have h1 := ha.ok hk
  have h2 := hb.ok hk'
  rw [Bool.and_eq_true] at h1 h2
  unfold oEq
  simp only [h1.1, h1.2, h2.1, h2.2, Bool.and_self, if_true]
theorem oIn_of {k k' : Nat} {a b : PyData} {ds : List PyData} (ha : Fit k a) (hb : Fit k' b) (hs : seqOf b = some ds) (hk : k ≤ 64) (hk' : k' ≤ 64) (neg : Bool) (l l' : Lv) (al al' : List Nat) :
    oIn neg ⟨a, l, al⟩ ⟨b, l', al'⟩ = flat (.bool (if neg then !ds.any (fun z => PyData.eqv z a) else ds.any fun z => PyData.eqv z a)) := by
  have h1 := ha.ok hk
  have h2 := hb.ok hk'
  rw [Bool.and_eq_true] at h1 h2
  unfold oIn
  simp only [hs, ofOption_some, M.bind_ret, h1.1, h1.2, h2.1, h2.2, Bool.and_self, if_true]
@[simp] theorem oEq_int (neg : Bool) (i j : Int) (l l' : Lv) (al al' : List Nat) : oEq neg ⟨.int i, l, al⟩ ⟨.int j, l', al'⟩ = flat (.bool (if neg then !(i == j) else i == j)) := oEq_of (fit_int i 0) (fit_int j 0) (by decide) (by decide) neg l l' al al'
@[simp] theorem oEq_bool (neg : Bool) (i j : Bool) (l l' : Lv) (al al' : List Nat) : oEq neg ⟨.bool i, l, al⟩ ⟨.bool j, l', al'⟩ = flat (.bool (if neg then !(i == j) else i == j)) := oEq_of (fit_bool i 0) (fit_bool j 0) (by decide) (by decide) neg l l' al al'
theorem eqvAll_map {α : Type} [BEq α] {f : α → PyData} (h : ∀ x y, PyData.eqv (f x) (f y) = (x == y)) : ∀ xs ys : List α, PyData.eqvAll (xs.map f) (ys.map f) = (xs == ys)
  | [], [] => rfl
  | [], _ :: _ => rfl
  | _ :: _, [] => rfl
  | x :: xs, y :: ys => by simp only [List.map_cons, PyData.eqvAll, h, eqvAll_map h xs ys]; rfl
@[simp] theorem eqv_int (i j : Int) : PyData.eqv (.int i) (.int j) = (i == j) := rfl
@[simp] theorem eqvAll_int (xs ys : List Int) : PyData.eqvAll (xs.map .int) (ys.map .int) = (xs == ys) := eqvAll_map (fun _ _ => rfl) xs ys
@[simp] theorem eqv_ints (xs ys : List Int) : PyData.eqv (.list (xs.map .int)) (.list (ys.map .int)) = (xs == ys) := eqvAll_int xs ys
@[simp] theorem eqv_intsT (xs ys : List Int) : PyData.eqv (.tuple (xs.map .int)) (.tuple (ys.map .int)) = (xs == ys) := eqvAll_int xs ys
@[simp] theorem oEq_ints (neg : Bool) (i j : List Int) (l l' : Lv) (al al' : List Nat) : oEq neg ⟨.list (i.map .int), l, al⟩ ⟨.list (j.map .int), l', al'⟩ = flat (.bool (if neg then !(i == j) else i == j)) := by
  rw [oEq_of (fit_list (fit_ints i)) (fit_list (fit_ints j)) (by decide) (by decide)]; simp
@[simp] theorem oEq_intsT (neg : Bool) (i j : List Int) (l l' : Lv) (al al' : List Nat) : oEq neg ⟨.tuple (i.map .int), l, al⟩ ⟨.tuple (j.map .int), l', al'⟩ = flat (.bool (if neg then !(i == j) else i == j)) := by
  rw [oEq_of (fit_tuple (fit_ints i)) (fit_tuple (fit_ints j)) (by decide) (by decide)]; simp
theorem noStm_map (rs : List RV) : noStm (rs.map some) = some rs := by
  induction rs with
  | nil => rfl
  | cons r rs ih => simp [noStm, ih]
/-! ### steps -/
section
variable {f g k : Env → M RV} {c d : Env → M Bool} {ga : Env → M (List RA)} {env : Env} {b1 b2 : Env → M (Fl × Env)}
@[simp] theorem eName_e (i : Nat) : eName i env = match sl env i with
  | some (.dat d lv) => .ret (mkRV d (nameLv lv) (hang lv i))
  | _ => .stuck := rfl
@[simp] theorem eInt_e (i : Int) : eInt i env = .ret ⟨.int i, .own, []⟩ := rfl
@[simp] theorem eBool_e (i : Bool) : eBool i env = .ret ⟨.bool i, .own, []⟩ := rfl
@[simp] theorem eNon_e : eNon env = .ret ⟨.none, .own, []⟩ := rfl
@[simp] theorem eStr_e (i : Str) : eStr i env = .ret ⟨.str i, .own, []⟩ := rfl
@[simp] theorem flat_e (d : PyData) : flat d = .ret ⟨d, .own, []⟩ := rfl
@[simp] theorem aNil_e : aNil env = .ret [] := rfl
@[simp] theorem aCons_e : aCons f ga env = (f env >>= fun r => ga env >>= fun rs => .ret (some r :: rs)) := rfl
@[simp] theorem aStm_e (i : Nat) : aStm i ga env = match sl env i with
  | some .stm => ga env >>= fun rs => .ret (none :: rs)
  | _ => .stuck := rfl
@[simp] theorem ev2_e (op : RV → RV → M RV) : ev2 op f g env = (f env >>= fun r1 => g env >>= fun r2 => op r1 r2) := rfl
@[simp] theorem vB_e (op : List RV → M RV) : vB op ga env = (ga env >>= fun rs => M.ofOption (noStm rs) >>= op) := rfl
@[simp] theorem noStm_nil : noStm [] = some [] := rfl
@[simp] theorem noStm_cons (r : RV) (rs : List RA) : noStm (some r :: rs) = (noStm rs).map (r :: ·) := rfl
@[simp] theorem vIsi_e (p : String → Bool) : vIsi p f env = (f env >>= fun r => .ret ⟨.bool (p (tyN r.d)), .own, []⟩) := rfl
@[simp] theorem vAnd_e : vAnd f g env = (f env >>= fun r => M.ofOption (truth r.d) >>= fun k => if k then g env else .ret r) := rfl
@[simp] theorem vOr_e : vOr f g env = (f env >>= fun r => M.ofOption (truth r.d) >>= fun k => if k then .ret r else g env) := rfl
@[simp] theorem vNot_e : vNot f env = (f env >>= fun r => M.ofOption (truth r.d) >>= fun k => .ret ⟨.bool (!k), .own, []⟩) := rfl
@[simp] theorem truth_bool (b : Bool) : truth (.bool b) = some b := rfl
@[simp] theorem truth_int (b : Int) : truth (.int b) = some (b != 0) := rfl
@[simp] theorem truth_none : truth .none = some false := rfl
@[simp] theorem truth_list (xs : List PyData) : truth (.list xs) = some (!xs.isEmpty) := rfl
@[simp] theorem tru_e : tru f env = (f env >>= fun r => M.ofOption (truth r.d)) := rfl
@[simp] theorem asB_e : asB f env = (f env >>= fun r => match r.d with
  | .bool b => .ret b
  | _ => .stuck) := rfl
@[simp] theorem tNotM_e : tNotM c env = (c env >>= fun x => .ret (!x)) := rfl
@[simp] theorem tAndM_e : tAndM c d env = (c env >>= fun x => if x then d env else .ret false) := rfl
@[simp] theorem tOrM_e : tOrM c d env = (c env >>= fun x => if x then .ret true else d env) := rfl
@[simp] theorem cYes_e : cYes env = .ret true := rfl
@[simp] theorem vIf_e : vIf c f g env = (c env >>= fun x => if x then f env else g env) := rfl
@[simp] theorem sNil_e : sNil env = .ret (.nx, env) := rfl
@[simp] theorem sRet_e : sRet f env = (f env >>= fun r => .ret (.ret r.d r.lv, env)) := rfl
@[simp] theorem sRetN_e : sRetN env = .ret (.ret .none .own, env) := rfl
@[simp] theorem sIf_e : sIf c b1 b2 env = (c env >>= fun x => if x then b1 env else b2 env) := rfl
@[simp] theorem sCons_e : sCons b1 b2 env = (b1 env >>= fun p => match p.1 with
  | .nx => b2 p.2
  | _ => .ret p) := rfl
@[simp] theorem sAsg_e (ft : Lv → PyData → Env → Option Env) : sAsg ft f env = (f env >>= fun r => M.ofOption (ft r.lv r.d (prep r env)) >>= fun env' => .ret (.nx, env')) := rfl
@[simp] theorem sDrop_e : sDrop f env = (f env >>= fun _ => .ret (.nx, env)) := rfl
@[simp] theorem vCall_e (n : Nat) (F : Fn) : vCall n F ga env = (ga env >>= fun rs => if rs.length = n then F (rs.map (Option.map RV.d)) >>= fun r => .ret (mkRV r.1 r.2 (if r.2 = .own then [] else alsA rs)) else .stuck) := rfl
@[simp] theorem vCallK_e (n : Nat) (rev : Bool) (F : Fn) : vCallK n rev F ga env = (ga env >>= fun rs => if rs.length = n then F ((kwIn rev rs).map (Option.map RV.d)) >>= fun r => .ret (mkRV r.1 r.2 (if r.2 = .own then [] else alsA rs)) else .stuck) := rfl
@[simp] theorem tgName_e (i : Nat) (lv : Lv) (d : PyData) : tgName i lv d env = if i < env.length then some (env.set i (some (.dat d lv))) else none := rfl
@[simp] theorem tgNil_e (lv : Lv) : tgNil lv [] env = some env := rfl
@[simp] theorem tgCons_e (f : Lv → PyData → Env → Option Env) (g : Lv → List PyData → Env → Option Env) (lv : Lv) (d : PyData) (ds : List PyData) : tgCons f g lv (d :: ds) env = (f lv d env).bind fun env' => g lv ds env' := rfl
@[simp] theorem tgTup_e (n : Nat) (f : Lv → List PyData → Env → Option Env) (lv : Lv) (ds : List PyData) : tgTup n f lv (.tuple ds) env = if ds.length = n ∧ lv ≠ .top then f lv ds env else none := rfl
@[simp] theorem prep_own (d : PyData) (al : List Nat) : prep ⟨d, .own, al⟩ env = kill env al := rfl
@[simp] theorem prep_shr (d : PyData) (al : List Nat) : prep ⟨d, .shr, al⟩ env = frz env al := rfl
@[simp] theorem prep_top (d : PyData) (al : List Nat) : prep ⟨d, .top, al⟩ env = frz env al := rfl
@[simp] theorem kill_nil : kill env [] = env := rfl
@[simp] theorem kill_cons (i : Nat) (l : List Nat) : kill env (i :: l) = (kill env l).set i none := rfl
@[simp] theorem frz_nil : frz env [] = env := rfl
@[simp] theorem frz_cons (i : Nat) (l : List Nat) : frz env (i :: l) = (frz env l).set i (frz1 (sl env i)) := rfl
@[simp] theorem frz1_dat (d : PyData) (lv : Lv) : frz1 (some (.dat d lv)) = some (.dat d .shr) := rfl
@[simp] theorem frz1_stm : frz1 (some .stm) = some .stm := rfl
@[simp] theorem nameLv_own : nameLv .own = .own := rfl
@[simp] theorem nameLv_top : nameLv .top = .shr := rfl
@[simp] theorem nameLv_shr : nameLv .shr = .shr := rfl
@[simp] theorem hang_own (i : Nat) : hang .own i = [i] := rfl
@[simp] theorem hang_top (i : Nat) : hang .top i = [i] := rfl
@[simp] theorem hang_shr (i : Nat) : hang .shr i = [] := rfl
@[simp] theorem iSeq_e : iSeq f env = (f env >>= fun r => match r.d with
  | .list xs => .ret (xs, r.al)
  | .tuple xs => .ret (xs, r.al)
  | _ => .stuck) := rfl
@[simp] theorem itZip2_e : itZip2 ga env = (ga env >>= fun rs => match rs with
  | [some r, some r'] => M.ofOption (seqOf r.d) >>= fun xs => M.ofOption (seqOf r'.d) >>= fun ys => .ret (List.zipWith pair2 xs ys, r.al ++ r'.al)
  | _ => .stuck) := rfl
@[simp] theorem itEnum_e : itEnum ga env = (ga env >>= fun rs => match rs with
  | [some r] => M.ofOption (seqOf r.d) >>= fun xs => .ret (enumL xs, r.al)
  | _ => .stuck) := rfl
@[simp] theorem iRange1_e : iRange1 ga env = (ga env >>= fun rs => match rs with
  | [some r] => (match r.d with
    | .int j => if sm62 j then .ret (rng 0 j.toNat, []) else .stuck
    | _ => .stuck)
  | _ => .stuck) := rfl
theorem sm62_nat {n : Nat} (h : n < 4611686018427387904) : sm62 (n : Int) = true := decide_eq_true h
theorem sm64_nat {n : Nat} (h : n < 18446744073709551616) : sm64 (n : Int) = true := decide_eq_true h
@[simp] theorem seqOf_list (xs : List PyData) : seqOf (.list xs) = some xs := rfl
@[simp] theorem seqOf_tuple (xs : List PyData) : seqOf (.tuple xs) = some xs := rfl
@[simp] theorem c1_e (op : RV → M RV) (r : RV) : c1 op [r] = op r := rfl
@[simp] theorem c2_e (op : RV → RV → M RV) (r r' : RV) : c2 op [r, r'] = op r r' := rfl
@[simp] theorem bLen_list (xs : List PyData) (lv : Lv) (al : List Nat) : bLen [⟨.list xs, lv, al⟩] = .ret ⟨.int xs.length, .own, []⟩ := rfl
@[simp] theorem bLen_tuple (xs : List PyData) (lv : Lv) (al : List Nat) : bLen [⟨.tuple xs, lv, al⟩] = .ret ⟨.int xs.length, .own, []⟩ := rfl
@[simp] theorem bTuple_list (xs : List PyData) (lv : Lv) (al : List Nat) : bTuple [⟨.list xs, lv, al⟩] = .ret (if lv = .own then mkRV (.tuple xs) .own al else mkT xs al) := rfl
@[simp] theorem bTuple_tuple (xs : List PyData) (lv : Lv) (al : List Nat) : bTuple [⟨.tuple xs, lv, al⟩] = .ret (if lv = .own then mkRV (.tuple xs) .own al else mkT xs al) := rfl
@[simp] theorem bList_list (xs : List PyData) (lv : Lv) (al : List Nat) : bList [⟨.list xs, lv, al⟩] = .ret (mkL xs al) := rfl
@[simp] theorem bList_tuple (xs : List PyData) (lv : Lv) (al : List Nat) : bList [⟨.tuple xs, lv, al⟩] = .ret (mkL xs al) := rfl
@[simp] theorem bInt_int (i : Int) (lv : Lv) (al : List Nat) : bInt [⟨.int i, lv, al⟩] = .ret ⟨.int i, .own, []⟩ := rfl
@[simp] theorem bInt_bool (i : Bool) (lv : Lv) (al : List Nat) : bInt [⟨.bool i, lv, al⟩] = .ret ⟨.int (if i = true then 1 else 0), .own, []⟩ := rfl
@[simp] theorem oAdd_int (i j : Int) (l l' : Lv) (al al' : List Nat) : oAdd ⟨.int i, l, al⟩ ⟨.int j, l', al'⟩ = .ret ⟨.int (i + j), .own, []⟩ := rfl
@[simp] theorem oSubI_int (i j : Int) (l l' : Lv) (al al' : List Nat) : oSubI ⟨.int i, l, al⟩ ⟨.int j, l', al'⟩ = .ret ⟨.int (i - j), .own, []⟩ := rfl
@[simp] theorem oLtI_int (i j : Int) (l l' : Lv) (al al' : List Nat) : oLtI ⟨.int i, l, al⟩ ⟨.int j, l', al'⟩ = .ret ⟨.bool (decide (i < j)), .own, []⟩ := rfl
@[simp] theorem oLeI_int (i j : Int) (l l' : Lv) (al al' : List Nat) : oLeI ⟨.int i, l, al⟩ ⟨.int j, l', al'⟩ = .ret ⟨.bool (decide (i ≤ j)), .own, []⟩ := rfl
@[simp] theorem oGtI_int (i j : Int) (l l' : Lv) (al al' : List Nat) : oGtI ⟨.int i, l, al⟩ ⟨.int j, l', al'⟩ = .ret ⟨.bool (decide (j < i)), .own, []⟩ := rfl
@[simp] theorem oGeI_int (i j : Int) (l l' : Lv) (al al' : List Nat) : oGeI ⟨.int i, l, al⟩ ⟨.int j, l', al'⟩ = .ret ⟨.bool (decide (j ≤ i)), .own, []⟩ := rfl
@[simp] theorem oIx_list (xs : List PyData) (i : Int) (l l' : Lv) (al al' : List Nat) : oIx ⟨.list xs, l, al⟩ ⟨.int i, l', al'⟩ = (M.ofOption (atI xs i) >>= fun d => .ret (mkRV d .shr al)) := rfl
@[simp] theorem oIx_tuple (xs : List PyData) (i : Int) (l l' : Lv) (al al' : List Nat) : oIx ⟨.tuple xs, l, al⟩ ⟨.int i, l', al'⟩ = (M.ofOption (atI xs i) >>= fun d => .ret (mkRV d .shr al)) := rfl
@[simp] theorem pNo_e : pNo env = .ret none := rfl
@[simp] theorem pSome_e : pSome f env = (f env >>= fun r => match r.d with
  | .int i => .ret (some i)
  | _ => .stuck) := rfl
@[simp] theorem evSl_e (p q : Env → M (Option Int)) : evSl f p q env = (f env >>= fun r => p env >>= fun lo => q env >>= fun hi => oSl r lo hi) := rfl
@[simp] theorem oSl_list (xs : List PyData) (l : Lv) (al : List Nat) (lo hi : Option Int) : oSl ⟨.list xs, l, al⟩ lo hi = .ret (mkL (cutD xs lo hi) al) := rfl
@[simp] theorem oSl_tuple (xs : List PyData) (l : Lv) (al : List Nat) (lo hi : Option Int) : oSl ⟨.tuple xs, l, al⟩ lo hi = .ret (mkT (cutD xs lo hi) al) := rfl
@[simp] theorem fnOf_e (m : Nat) (body : Env → M (Fl × Env)) (ds : List (Option PyData)) : fnOf m body ds = (body (env0 m ds) >>= fun p => match p.1 with
  | .ret d lv => .ret (d, lv)
  | .nx => .ret (.none, .own)
  | _ => .stuck) := rfl
theorem mkL_int (l : List Int) (al : List Nat) : mkL (l.map .int) al = ⟨.list (l.map .int), .own, []⟩ := mkL_own (imms_int l)
@[simp] theorem mkT_int (l : List Int) (al : List Nat) : mkT (l.map .int) al = ⟨.tuple (l.map .int), .own, []⟩ := mkT_own (imms_int l)
@[simp] theorem env0_e (m : Nat) (ds : List (Option PyData)) : env0 m ds = ds.map (fun o => some (match o with
  | none => Sl.stm
  | some d => Sl.dat d .shr)) ++ List.replicate (m - ds.length) none := rfl
@[simp] theorem vLst_e : vLst ga env = (ga env >>= fun rs => M.ofOption (noStm rs) >>= fun ys => if ys.length ≤ sizeLine then .ret (dispL ys) else .stuck) := rfl
@[simp] theorem vTup_e : vTup ga env = (ga env >>= fun rs => M.ofOption (noStm rs) >>= fun ys => if ys.length ≤ sizeLine then .ret (dispT ys) else .stuck) := rfl
end
@[simp] theorem mkRV_d (d : PyData) (lv : Lv) (al : List Nat) : (mkRV d lv al).d = d := by unfold mkRV; split <;> rfl
@[simp] theorem bLen_mkT (xs : List PyData) (lv : Lv) (al : List Nat) : bLen [mkRV (.tuple xs) lv al] = .ret ⟨.int xs.length, .own, []⟩ := by unfold mkRV; split <;> rfl
@[simp] theorem tyN_none : tyN .none = "NoneType" := rfl
@[simp] theorem tyN_bool (b : Bool) : tyN (.bool b) = "bool" := rfl
@[simp] theorem tyN_int (b : Int) : tyN (.int b) = "int" := rfl
@[simp] theorem tyN_str (b : Str) : tyN (.str b) = "str" := rfl
@[simp] theorem tyN_list (b : List PyData) : tyN (.list b) = "list" := rfl
@[simp] theorem tyN_tuple (b : List PyData) : tyN (.tuple b) = "tuple" := rfl
@[simp] theorem tyN_dict (b : List (PyData × PyData)) : tyN (.dict b) = "dict" := rfl
theorem boolsD_mp {α : Type} (f : α → Bool) : ∀ l : List α, boolsD (l.map fun x => .bool (f x)) = some (l.map f)
  | [] => rfl
  | x :: l => by simp [boolsD, boolsD_mp f l]
theorem intsD_mp {α : Type} (f : α → Int) : ∀ l : List α, intsD (l.map fun x => .int (f x)) = some (l.map f)
  | [] => rfl
  | x :: l => by simp [intsD, intsD_mp f l]
theorem bAll_map {α : Type} (f : α → Bool) (l : List α) (lv : Lv) (al : List Nat) : bAll [⟨.list (l.map fun x => .bool (f x)), lv, al⟩] = .ret ⟨.bool (l.all f), .own, []⟩ := by
  simp only [bAll, bBools, c1_e, boolsD_mp, ofOption_some, M.bind_ret, flat_e, List.all_map]
  rfl
theorem bAny_map {α : Type} (f : α → Bool) (l : List α) (lv : Lv) (al : List Nat) : bAny [⟨.list (l.map fun x => .bool (f x)), lv, al⟩] = .ret ⟨.bool (l.any f), .own, []⟩ := by
  simp only [bAny, bBools, c1_e, boolsD_mp, ofOption_some, M.bind_ret, flat_e, List.any_map]
  rfl
@[simp] theorem dsOf_nil : dsOf [] = [] := rfl
@[simp] theorem dsOf_cons (r : RV) (rs : List RV) : dsOf (r :: rs) = r.d :: dsOf rs := rfl
@[simp] theorem imms_nil : imms [] = true := rfl
@[simp] theorem imms_cons (x : PyData) (xs : List PyData) : imms (x :: xs) = (imm x && imms xs) := rfl
@[simp] theorem imm_tuple (xs : List PyData) : imm (.tuple xs) = imms xs := rfl
@[simp] theorem imm_none : imm .none = true := rfl
@[simp] theorem imm_bool (b : Bool) : imm (.bool b) = true := rfl
@[simp] theorem imm_int (b : Int) : imm (.int b) = true := rfl
@[simp] theorem imm_str (b : Str) : imm (.str b) = true := rfl
@[simp] theorem imm_list (b : List PyData) : imm (.list b) = false := rfl
@[simp] theorem imm_dict (b : List (PyData × PyData)) : imm (.dict b) = false := rfl
@[simp] theorem dispL_e (rs : List RV) : dispL rs = if imms (dsOf rs) then ⟨.list (dsOf rs), .own, []⟩ else if allOwn rs then ⟨.list (dsOf rs), .own, als rs⟩ else ⟨.list (dsOf rs), .top, als rs⟩ := rfl
@[simp] theorem dispT_e (rs : List RV) : dispT rs = if imms (dsOf rs) then ⟨.tuple (dsOf rs), .own, []⟩ else if allOwn rs then ⟨.tuple (dsOf rs), .own, als rs⟩ else ⟨.tuple (dsOf rs), .shr, als rs⟩ := rfl
@[simp] theorem sizeLine_e : sizeLine = 16777216 := rfl
theorem any_beq (i : Int) (js : List Int) : (js.any fun x => x == i) = js.contains i := by
  induction js with
  | nil => rfl
  | cons j js ih => rw [List.any_cons, List.contains_cons, ih, Bool.beq_comm]
theorem oIn_ints (neg : Bool) (i : Int) (js : List Int) (l l' : Lv) (al al' : List Nat) : oIn neg ⟨.int i, l, al⟩ ⟨.tuple (js.map .int), l', al'⟩ = .ret ⟨.bool (if neg then !js.contains i else js.contains i), .own, []⟩ := by
  rw [oIn_of (fit_int i 0) (fit_tuple (fit_ints js)) rfl (by decide) (by decide)]
  simp only [List.any_map, Function.comp_def, eqv_int, any_beq, flat_e]
theorem oIn_intsL (neg : Bool) (i : Int) (js : List Int) (l l' : Lv) (al al' : List Nat) : oIn neg ⟨.int i, l, al⟩ ⟨.list (js.map .int), l', al'⟩ = .ret ⟨.bool (if neg then !js.contains i else js.contains i), .own, []⟩ := by
  rw [oIn_of (fit_int i 0) (fit_list (fit_ints js)) rfl (by decide) (by decide)]
  simp only [List.any_map, Function.comp_def, eqv_int, any_beq, flat_e]
@[simp] theorem filter_yes {α : Type} (l : List α) : l.filter (fun _ => true) = l := List.filter_eq_self.mpr fun _ _ => rfl
@[simp] theorem aStar_e (f : Env → M RV) (ga : Env → M (List RA)) (env : Env) : aStar f ga env = (f env >>= fun r => spread r >>= fun xs => ga env >>= fun rs => .ret (xs ++ rs)) := rfl
def rvI (i : Int) : RV := ⟨.int i, .own, []⟩
@[simp] theorem spread_DT (s : List Int) (lv : Lv) (al : List Nat) : spread ⟨.tuple (s.map .int), lv, al⟩ = .ret ((s.map rvI).map some) := by
  simp [spread, rvI, Function.comp_def]
@[simp] theorem spread_DI (s : List Int) (lv : Lv) (al : List Nat) : spread ⟨.list (s.map .int), lv, al⟩ = .ret ((s.map rvI).map some) := by
  simp [spread, rvI, Function.comp_def]
@[simp] theorem noStm_app (xs : List RV) (ys : List RA) : noStm (xs.map some ++ ys) = (noStm ys).map (xs ++ ·) := by
  induction xs with
  | nil => simp
  | cons x xs ih => simp [ih, Function.comp_def]
@[simp] theorem noStm_app2 {α : Type} (f : α → RV) (xs : List α) (ys : List RA) : noStm (xs.map (some ∘ f) ++ ys) = (noStm ys).map (xs.map f ++ ·) := by
  have := noStm_app (xs.map f) ys
  rwa [List.map_map] at this
@[simp] theorem dsOf_app (xs ys : List RV) : dsOf (xs ++ ys) = dsOf xs ++ dsOf ys := by simp [dsOf]
@[simp] theorem dsOf_rvI (s : List Int) : dsOf (s.map rvI) = s.map .int := by simp [dsOf, rvI, Function.comp_def]
theorem imms_app : ∀ (xs ys : List PyData), imms (xs ++ ys) = (imms xs && imms ys)
  | [], ys => rfl
  | x :: xs, ys => by simp only [List.cons_append, imms_cons, imms_app xs ys, Bool.and_assoc]
@[simp] theorem atI_zero {α : Type} (x : α) (xs : List α) : atI (x :: xs) 0 = some x := by
  unfold atI ixN
  rw [if_pos (by decide), if_pos (by simp only [List.length_cons]; omega)]; rfl
@[simp] theorem atI_one {α : Type} (x y : α) (xs : List α) : atI (x :: y :: xs) 1 = some y := by
  unfold atI ixN
  rw [if_pos (by decide), if_pos (by simp only [List.length_cons]; omega)]; rfl
theorem zipWith_map2 {α β α' β' γ : Type} (f : α' → β' → γ) (g : α → α') (h : β → β') : ∀ (as : List α) (bs : List β), List.zipWith f (as.map g) (bs.map h) = (as.zip bs).map fun p => f (g p.1) (h p.2)
  | [], _ => rfl
  | _ :: _, [] => rfl
  | a :: as, b :: bs => by simp [zipWith_map2 f g h as bs]
@[simp] theorem pair2_e (a b : PyData) : pair2 a b = .tuple [a, b] := rfl
theorem vComp_flt {α : Type} {it : Env → M (List PyData × List Nat)} {vs : List Nat} {tg : Lv → PyData → Env → Option Env} {cond : Env → M Bool} {elt : Env → M RV} {env : Env} (al : List Nat) (xs : List α) (f : α → PyData) (c : α → Bool) (h : α → PyData)
    (hi : it env = .ret (xs.map f, al)) (hz : xs.length ≤ sizeLine) (he : ∀ x ∈ xs, ∃ e, tg .shr (f x) (kill (frz env al) vs) = some e ∧ cond e = .ret (c x) ∧ elt e = .ret ⟨h x, .own, []⟩) :
    vComp it vs tg cond elt env = .ret ⟨.list ((xs.filter c).map h), .own, []⟩ :=
  vComp_own xs f c h hi hz fun x hx => let ⟨e, h1, h2, h3⟩ := he x hx; ⟨e, h1, h2, fun _ => h3⟩
@[simp] theorem vMeth_e (op : RV → List RV → M RV) (f : Env → M RV) (g : Env → M (List RA)) (env : Env) : vMeth op f g env = (f env >>= fun r0 => M.ofOption (seqOf r0.d) >>= fun _ => g env >>= fun rs => M.ofOption (noStm rs) >>= fun ys => op r0 ys) := rfl
theorem fit_DT (xs : List Int) : Fit 1 (.tuple (xs.map .int)) := fit_tuple (fit_ints xs)
theorem fit_DI (xs : List Int) : Fit 1 (.list (xs.map .int)) := fit_list (fit_ints xs)
theorem Fit.bools {k : Nat} {d : PyData} (h : Fit k d) (hk : k ≤ 64) : noDict d = true ∧ SeqAt.shaped d = true := by
  have := h.ok hk
  rwa [Bool.and_eq_true] at this
theorem Fit.toList {k : Nat} {xs : List PyData} (h : Fit k (.tuple xs)) : Fit k (.list xs) := ⟨h.nd, h.cl, h.dp⟩
theorem mCount_T {k k' : Nat} {xs : List PyData} {d : PyData} (h : Fit k (.tuple xs)) (h' : Fit k' d) (hk : k ≤ 64) (hk' : k' ≤ 64) (l l' : Lv) (al al' : List Nat) :
    mCount ⟨.tuple xs, l, al⟩ [⟨d, l', al'⟩] = .ret ⟨.int (xs.countP fun z => PyData.eqv z d : Nat), .own, []⟩ := by
  simp [mCount, (h.bools hk).1, (h.toList.bools hk).2, (h'.bools hk').1, (h'.bools hk').2]
theorem mIndex_L {k k' : Nat} {xs : List PyData} {d : PyData} {j : Nat} (h : Fit k (.list xs)) (h' : Fit k' d) (hk : k ≤ 64) (hk' : k' ≤ 64) (l l' : Lv) (al al' : List Nat) (hj : (xs.findIdx? fun z => PyData.eqv z d) = some j) :
    mIndex ⟨.list xs, l, al⟩ [⟨d, l', al'⟩] = .ret ⟨.int (j : Nat), .own, []⟩ := by
  simp [mIndex, (h.bools hk).1, (h.bools hk).2, (h'.bools hk').1, (h'.bools hk').2, hj]
theorem zipWith_zip {α β γ : Type} (f : α → β → γ) : ∀ (as : List α) (bs : List β), List.zipWith f as bs = (as.zip bs).map fun p => f p.1 p.2
  | [], _ => rfl
  | _ :: _, [] => rfl
  | a :: as, b :: bs => by simp [zipWith_zip f as bs]
theorem countP_all {α : Type} (p : α → Bool) (xs : List α) : (((xs.countP p : Nat) : Int) == ((xs.length : Nat) : Int)) = xs.all p := by
  rw [Bool.eq_iff_iff, beq_iff_eq, Int.natCast_inj, List.countP_eq_length, List.all_eq_true]
theorem countP_all1 {α : Type} (p : α → Bool) (xs : List α) : (((xs.countP p : Nat) : Int) + 1 == ((xs.length : Nat) : Int) + 1) = xs.all p := by
  rw [← countP_all, Bool.eq_iff_iff, beq_iff_eq, beq_iff_eq]
  omega
@[simp] theorem parE_nil (env0 env1 : Env) (done : List RV) : parE env0 [] env1 done = .ret (done, env1) := rfl
@[simp] theorem parE_cons (env0 env1 : Env) (f : Env → M RV) (fs : List (Env → M RV)) (done : List RV) : parE env0 (f :: fs) env1 done = (f env0 >>= fun r => if sepOk done r then parE env0 fs (prep r env1) (done ++ [r]) else .stuck) := rfl
@[simp] theorem sepOk_nil (r : RV) : sepOk [] r = true := rfl
@[simp] theorem sepOk_cons (r r' : RV) (done : List RV) : sepOk (r' :: done) r = (((decide (r'.lv ≠ .own) && decide (r.lv ≠ .own)) || r'.al.all fun i => !r.al.contains i) && sepOk done r) := rfl
@[simp] theorem sPar_e (is : List Nat) (fs : List (Env → M RV)) (env : Env) : sPar is fs env = (parE env fs env [] >>= fun p => M.ofOption (setAll is p.1 p.2) >>= fun env' => .ret (.nx, env')) := rfl
@[simp] theorem setAll_nil (env : Env) : setAll [] [] env = some env := rfl
@[simp] theorem setAll_cons (i : Nat) (is : List Nat) (r : RV) (rs : List RV) (env : Env) : setAll (i :: is) (r :: rs) env = if i < env.length then setAll is rs (env.set i (some (.dat r.d r.lv))) else none := rfl
theorem oMul_l {i j : Int} (h : sm64 i = true) (l l' : Lv) (al al' : List Nat) : oMul ⟨.int i, l, al⟩ ⟨.int j, l', al'⟩ = .ret ⟨.int (i * j), .own, []⟩ := by
  simp [oMul, oMulI, oInt, h]
@[simp] theorem oMul_2 (j : Int) (l l' : Lv) (al al' : List Nat) : oMul ⟨.int 2, l, al⟩ ⟨.int j, l', al'⟩ = .ret ⟨.int (2 * j), .own, []⟩ := oMul_l rfl l l' al al'
theorem cutD_lo (xs : List PyData) (k : Nat) (h : k ≤ xs.length) : cutD xs none (some (k : Int)) = xs.take k := by
  unfold cutD
  rw [HT.sIx_none, HT.sIx_nat, Nat.min_eq_left h]; simp
theorem cutD_hi (xs : List PyData) (k : Nat) (h : k ≤ xs.length) : cutD xs (some (k : Int)) none = xs.drop k := by
  unfold cutD
  rw [HT.sIx_none, HT.sIx_nat, Nat.min_eq_left h, List.take_of_length_le (by simp)]
theorem maxI_map {α : Type} (f : α → Nat) : ∀ (l : List α) (m : Nat) (a : α), maxI ((f a : Int) :: l.map fun s => ((f s : Nat) : Int)) = some ((l.foldl (fun m s => max m (f s)) (f a) : Nat) : Int)
  | [], m, a => rfl
  | b :: l, m, a => by
    have ih := maxI_map f l m b
    simp only [List.map_cons, List.foldl_cons]
    unfold maxI
    rw [ih]
    have : ∀ (l : List α) (x y : Nat), max x (l.foldl (fun m s => max m (f s)) y) = l.foldl (fun m s => max m (f s)) (max x y) := by
      intro l
      induction l with
      | nil => intro x y; rfl
      | cons c l ih => intro x y; simp only [List.foldl_cons]; rw [ih, Nat.max_assoc]
    simp only [Option.map_some]
    rw [← this]
    congr 1
    omega
@[simp] theorem isLst_e (xs : List PyData) (lv : Lv) : isLst (some (.dat (.list xs) lv)) = true := rfl
theorem mutApp_own {x : Nat} {d : PyData} {env : Env} {ds : List PyData} (h : sl env x = some (.dat (.list ds) .own)) (hz : ds.length < sizeLine) : mutApp x ⟨d, .own, []⟩ env = some (env.set x (some (.dat (.list (ds ++ [d])) .own))) := by
  simp [mutApp, h] at hz ⊢
  omega
theorem mutExt_own {x : Nat} {es : List PyData} {env : Env} {ds : List PyData} (h : sl env x = some (.dat (.list ds) .own)) (hz : ds.length + es.length ≤ sizeLine) : mutExt x ⟨.list es, .own, []⟩ env = some (env.set x (some (.dat (.list (ds ++ es)) .own))) := by
  simp [mutExt, h, itemsL] at hz ⊢
  omega
@[simp] theorem sApp_e (x : Nat) (f : Env → M RV) (env : Env) : sApp x f env = if isLst (sl env x) then (f env >>= fun r => M.ofOption (mutApp x r env) >>= fun env' => .ret (.nx, env')) else .stuck := rfl
@[simp] theorem sExt_e (x : Nat) (f : Env → M RV) (env : Env) : sExt x f env = if isLst (sl env x) then (f env >>= fun r => M.ofOption (mutExt x r env) >>= fun env' => .ret (.nx, env')) else .stuck := rfl
@[simp] theorem noStm_somes (xs : List RV) : noStm (xs.map some) = some xs := noStm_map xs
@[simp] theorem mkRV_al (d : PyData) (lv : Lv) : (mkRV d lv []).al = [] := by unfold mkRV; split <;> rfl
@[simp] theorem mkRV_own_nil (d : PyData) : mkRV d .own [] = ⟨d, .own, []⟩ := by unfold mkRV; split <;> rfl
theorem oAdd_ints (xs ys : List Int) (h : xs.length + ys.length ≤ sizeLine) (l l' : Lv) (al al' : List Nat) : oAdd ⟨.list (xs.map .int), l, al⟩ ⟨.list (ys.map .int), l', al'⟩ = .ret ⟨.list ((xs ++ ys).map .int), .own, []⟩ := by
  have e : mkL ((xs ++ ys).map .int) (al ++ al') = ⟨.list ((xs ++ ys).map .int), .own, []⟩ := mkL_int _ _
  rw [List.map_append] at e
  simp [oAdd, oAddI, oInt, oCat] at h ⊢
  rw [if_pos h, e]
@[simp] theorem bMax2_int (i j : Int) (l l' : Lv) (al al' : List Nat) : bMax2 [⟨.int i, l, al⟩, ⟨.int j, l', al'⟩] = .ret ⟨.int (if j > i then j else i), .own, []⟩ := rfl
theorem enumL_map {α : Type} (f : α → PyData) (xs : List α) : enumL (xs.map f) = xs.zipIdx.map fun p => .tuple [.int (p.2 : Nat), f p.1] := by
  unfold enumL
  rw [List.length_map, rng0]
  apply List.ext_getElem?
  intro i
  simp [List.getElem?_zipWith, List.getElem?_zipIdx]
  by_cases h : i < xs.length
  · simp [h]
  · simp [h]
/-- a comprehension whose elements draw -/
theorem compLoop_all {Rx : Exn → Nat → Prop} {α β : Type} {Q : List RV → Nat → Prop} {tg : Lv → PyData → Env → Option Env} {elt : Env → M RV} {e0 : Env} (f : α → PyData) (g : β → RV) (ok : β → Prop) (c : Nat) :
    ∀ (xs : List α) (b : Nat), (∀ x ∈ xs, ∃ e, tg .shr (f x) e0 = some e ∧ ∀ b, c ≤ b → (elt e).all Rx (fun r b' => b ≤ b' + c ∧ ∃ y, ok y ∧ r = g y) b) → c * xs.length ≤ b →
      (∀ (ys : List β) (b' : Nat), ys.length = xs.length → (∀ y ∈ ys, ok y) → b ≤ b' + c * xs.length → Q (ys.map g) b') → (compLoop tg cYes elt e0 (xs.map f)).all Rx Q b
  | [], b, _, _, h => h [] b rfl (by simp) (by simp)
  | x :: xs, b, he, hb, h => by
    obtain ⟨e, h1, h2⟩ := he x List.mem_cons_self
    simp only [List.length_cons, Nat.mul_succ] at hb
    simp only [List.map_cons, compLoop, h1, ofOption_some, M.bind_ret, cYes_e, if_true]
    rw [M.all_bind]
    refine M.all_mono (fun r b1 h3 => ?_) _ _ (h2 b (by omega))
    obtain ⟨h3, y, oy, ry⟩ := h3
    rw [M.all_bind]
    refine compLoop_all f g ok c xs b1 (fun x hx => he x (List.mem_cons_of_mem _ hx)) (by omega) fun ys b' hl ho hb' => ?_
    rw [ry]
    exact h (y :: ys) b' (by simp [hl]) (by
      intro z hz
      rcases List.mem_cons.mp hz with rfl | hz
      · exact oy
      · exact ho z hz) (by simp only [List.length_cons, Nat.mul_succ]; omega)
theorem zip_self {α : Type} : ∀ l : List α, l.zip l = l.map fun a => (a, a)
  | [] => rfl
  | a :: l => by simp [zip_self l]
theorem enumL_range (n : Nat) (f : Nat → PyData) : enumL ((List.range n).map f) = (List.range n).map fun h : Nat => .tuple [.int (h : Int), f h] := by
  unfold enumL
  rw [List.length_map, List.length_range, rng0, zipWith_map2, zip_self, List.map_map]
  rfl
theorem imms_rep0 (n : Nat) (i : Int) : imms (List.replicate n (PyData.int i)) = true := by
  have := imms_int (List.replicate n i)
  rwa [List.map_replicate] at this
theorem forLoop_find {α Ω : Type} {tg : Lv → PyData → Env → Option Env} {body : Env → M (Fl × Env)} (f : α → PyData) (c : α → Bool) (E : Ω → Env) (d : PyData) (lv : Lv) :
    ∀ (xs : List α) (o : Ω), (∀ x ∈ xs, ∀ o, ∃ e, tg .shr (f x) (E o) = some e ∧ ((c x = true ∧ ∃ env', body e = .ret (.ret d lv, env')) ∨ (c x = false ∧ ∃ o', body e = .ret (.nx, E o')))) →
      (xs.any c = true ∧ ∃ env', forLoop tg body (xs.map f) (E o) = .ret (.ret d lv, env')) ∨ (xs.any c = false ∧ ∃ o', forLoop tg body (xs.map f) (E o) = .ret (.nx, E o'))
  | [], o, _ => .inr ⟨rfl, o, rfl⟩
  | x :: xs, o, h => by
    obtain ⟨e, h1, h2⟩ := h x List.mem_cons_self o
    simp only [List.map_cons, forLoop, h1, ofOption_some, M.bind_ret, List.any_cons]
    rcases h2 with ⟨hc, env', h2⟩ | ⟨hc, o', h2⟩
    · exact .inl ⟨by rw [hc]; rfl, env', by rw [h2]; rfl⟩
    · rw [hc, h2, Bool.false_or]
      exact forLoop_find f c E d lv xs o' fun y hy => h y (List.mem_cons_of_mem _ hy)
theorem whileLoop_end {c : Env → M Bool} {body : Env → M (Fl × Env)} {n : Nat} {env : Env} (h : c env = .ret false) : whileLoop c body (n + 1) env = .ret (.nx, env) := by
  unfold whileLoop
  rw [h]; rfl
theorem whileLoop_step {c : Env → M Bool} {body : Env → M (Fl × Env)} {n : Nat} {env env' : Env} (h : c env = .ret true) (hb : body env = .ret (.nx, env')) : whileLoop c body (n + 1) env = whileLoop c body n env' := by
  rw [whileLoop, h]
  simp [hb]
theorem whileLoop_ret {c : Env → M Bool} {body : Env → M (Fl × Env)} {n : Nat} {env env' : Env} {d : PyData} {lv : Lv} (h : c env = .ret true) (hb : body env = .ret (.ret d lv, env')) : whileLoop c body (n + 1) env = .ret (.ret d lv, env') := by
  rw [whileLoop, h]
  simp [hb]
@[simp] theorem calm_bind_ret {α β : Type} (a : α) (f : α → M β) : ((M.ret a).calm >>= f) = f a := rfl
@[simp] theorem catch_ret {α : Type} (a : α) (h : Exn → M α) : (M.ret a).catch_ h = .ret a := rfl
@[simp] theorem catch_raise {α : Type} (x : Exn) (h : Exn → M α) : (M.raise x : M α).catch_ h = h x := rfl
@[simp] theorem vRev_e (f : Env → M RV) (env : Env) : vRev f env = (f env >>= fun r => match r.d with
  | .list xs => .ret (mkL xs.reverse r.al)
  | _ => .stuck) := rfl
@[simp] theorem vDNew_e (env : Env) : vDNew env = .ret ⟨.dict [], .own, []⟩ := rfl
@[simp] theorem vCopyD_e (i : Nat) (env : Env) : vCopyD i env = match sl env i with
  | some (.dat (.dict []) _) => .ret ⟨.dict [], .own, []⟩
  | _ => .stuck := rfl
@[simp] theorem sSetIx_e (x : Nat) (fi fe : Env → M RV) (env : Env) : sSetIx x fi fe env = (fe env >>= fun r => if isLst (sl env x) then fi env >>= fun ri => (match ri.d with
  | .int k => M.ofOption (mutSet x k r.d env) >>= fun env' => .ret (.nx, env')
  | _ => .stuck) else .stuck) := rfl
@[simp] theorem sSetIx2_e (x : Nat) (fi fj fe : Env → M RV) (env : Env) : sSetIx2 x fi fj fe env = (fe env >>= fun r => if isLst (sl env x) then fi env >>= fun ri => (match ri.d with
  | .int k1 => M.ofOption (rowAt k1 (sl env x)) >>= fun q => fj env >>= fun rj => (match rj.d with
    | .int k2 => M.ofOption (ixN q.2.2.length k2) >>= fun j => if imm r.d then .ret (.nx, env.set x (some (.dat (.list (q.2.1.set q.1 (.list (q.2.2.set j r.d)))) .own))) else .stuck
    | _ => .stuck)
  | _ => .stuck) else .stuck) := rfl
@[simp] theorem sAppPop_e (x y : Nat) (f : Env → M RV) (env : Env) : sAppPop x y f env = if isLst (sl env x) && isLst (sl env y) && decide (x ≠ y) then f env >>= fun r => (match r.d with
  | .int k => M.ofOption (mutPop y k env) >>= fun q => M.ofOption (mutApp x q.1 q.2) >>= fun env' => .ret (.nx, env')
  | _ => .stuck) else .stuck := rfl
theorem sSpoil_own {i : Nat} {env : Env} {d : PyData} (h : sl env i = some (.dat d .own)) (hd : d.depth < 12) (hr : roomy d = true) : sSpoil i env = .ret (.nx, env.set i (some (.dat (spoil d) .own))) := by
  unfold sSpoil
  rw [h]
  simp [hd, hr]
@[simp] theorem sRaise_e (x : Str) (fs : List Str) (g : Env → M (List RA)) (env : Env) : sRaise x fs g env = (g env >>= fun rs => M.ofOption (noStm rs) >>= fun ys => if ys.length = fs.length then .raise ⟨x, fs.zip (dsOf ys)⟩ else .stuck) := rfl
@[simp] theorem vMet_e (caps : List Nat) (hs : List (Str × Str × Option Str)) (f : Env → M RV) (env : Env) : vMet caps hs f env = ((f (capE caps env)) >>= fun r => .ret (mkRV (.tuple [.str told, r.d]) .shr caps)).catch_ (met caps hs) := rfl
@[simp] theorem vNeg_e (f : Env → M RV) (env : Env) : vNeg f env = (f env >>= fun r => match r.d with
  | .int i => flat (.int (-i))
  | _ => .stuck) := rfl
end Vm

set_option Elab.async false
set_option linter.all false
set_option maxRecDepth 100000
set_option maxHeartbeats 400000
namespace D94
open PySem L2 Vm M95
@[simp] theorem is_list_l (xs : List PyData) : F_is_list [some (.list xs)] = .ret (.bool true, .own) := by
  simp [F_is_list, m_is_list, List.replicate, tyN, pIs]
@[simp] theorem is_list_t (xs : List PyData) : F_is_list [some (.tuple xs)] = .ret (.bool true, .own) := by
  simp [F_is_list, m_is_list, List.replicate, tyN, pIs]
@[simp] theorem is_whole_int (i : Int) : F_is_whole [some (.int i)] = .ret (.bool true, .own) := by
  simp [F_is_whole, m_is_whole, tyN, pIs]
@[simp] theorem is_number_int (i : Int) : F_is_number [some (.int i)] = .ret (.bool (decide (0 ≤ i)), .own) := by
  simp [F_is_number, m_is_number, tyN, pIs]
@[simp] theorem is_below_int (i j : Int) : F_is_below [some (.int i), some (.int j)] = .ret (.bool (decide (0 ≤ i) && decide (i < j)), .own) := by
  simp [F_is_below, m_is_below, List.replicate]
  by_cases h : 0 ≤ i <;> simp [h]
@[simp] theorem is_row_l (xs : List PyData) (n : Int) : F_is_row [some (.list xs), some (.int n)] = .ret (.bool ((xs.length : Int) == n), .own) := by
  simp [F_is_row, m_is_row, List.replicate]
@[simp] theorem is_row_t (xs : List PyData) (n : Int) : F_is_row [some (.tuple xs), some (.int n)] = .ret (.bool ((xs.length : Int) == n), .own) := by
  simp [F_is_row, m_is_row, List.replicate]


def rt (l : Bool) (xs : List PyData) : PyData := if l then .list xs else .tuple xs
@[simp] theorem kept_v (l : Bool) (xs : List Int) (hz : xs.length ≤ sizeLine) (h : ∀ x ∈ xs, x = 0 ∨ x = 1) : F_kept_values [some (.int xs.length), some (rt l (xs.map .int))] = .ret (.tuple (xs.map .int), .own) := by
  have e : (xs.all fun x => decide (0 ≤ x) && decide (x < 2)) = true := by
    rw [List.all_eq_true]
    intro x hx
    rcases h x hx with z | z <;> subst z <;> rfl
  cases l
  all_goals
    simp [F_kept_values, m_kept_values, List.replicate, rt]
    rw [vComp_yes [] xs PyData.int (fun x => .bool (decide (0 ≤ x) && decide (x < 2))) (by simp) hz (fun x _ => ⟨_, rfl, by simp⟩)]
    simp [bAll_map, e]
@[simp] theorem need_v (l : Bool) (n : Nat) (hn : n < 6) (xs : List Int) (hz : xs.length = 2 ^ n) (h : ∀ x ∈ xs, x = 0 ∨ x = 1) : F_need_row [some (rt l (xs.map .int))] = .ret (.tuple (xs.map .int), .own) := by
  have e : F_kept_row [some (rt l (xs.map .int))] = .ret (.tuple (xs.map .int), .own) := by
    have hs : xs.length ≤ sizeLine := by
      rw [hz]
      exact Nat.le_trans (Nat.pow_le_pow_right (by decide) (Nat.le_of_lt_succ hn)) (by decide)
    have hk := kept_v l xs hs h
    have h6 : (2 ^ n : Int) = 1 ∨ (2 ^ n : Int) = 2 ∨ (2 ^ n : Int) = 4 ∨ (2 ^ n : Int) = 8 ∨ (2 ^ n : Int) = 16 ∨ (2 ^ n : Int) = 32 := by
      match n, hn with
      | 0, _ | 1, _ | 2, _ | 3, _ | 4, _ | 5, _ => decide
    cases l
    all_goals
      simp [rt] at hk
      simp [F_kept_row, m_kept_row, List.replicate, rt, hk]
      rw [hz]
      rcases h6 with z | z | z | z | z | z <;> simp [oIn, SeqAt.shaped, noDict, noDicts, PyData.canLay0, PyData.canLayAll0, PyData.depth, PyData.depthAll, z, hk]
  simp [F_need_row, m_need_row, List.replicate, e, oIsN, isN]

def sts1 (l : List (List Int)) : List (List Int) := l.flatMap fun s => [s ++ [0], s ++ [1]]
theorem sts_length : ∀ n, (sts n).length = 2 ^ n
  | 0 => rfl
  | n + 1 => by
    show (((sts n).flatMap fun s => [s ++ [0], s ++ [1]])).length = _
    simp [List.length_flatMap, sts_length n, Nat.pow_succ, Function.comp_def, List.map_const']
theorem sts_mem : ∀ {n : Nat} {s : List Int}, s ∈ sts n → s.length = n
  | 0, s, h => by
    have : s = [] := by simpa [sts] using h
    subst this; rfl
  | n + 1, s, h => by
    obtain ⟨t, ht, h⟩ := List.mem_flatMap.mp (show s ∈ (sts n).flatMap fun s => [s ++ [0], s ++ [1]] from h)
    have := sts_mem ht
    rcases List.mem_cons.mp h with h | h
    · subst h; simp [this]
    · have h := List.mem_singleton.mp h
      subst h; simp [this]
@[simp] theorem states_of_v (n : Nat) (hn : n ≤ 20) : F_states_of [some (.int n)] = .ret (.list ((sts n).map fun s => .tuple (s.map .int)), .own) := by
  have hs : ∀ (i : Nat) (o : Option Sl), i < n → ∃ e o', tgName 2 .shr (.int (i : Int)) [some (.dat (.int n) .shr), some (.dat (.list ((sts i).map fun s => .tuple (s.map .int))) .own), o, none, none] = some e ∧
      (sCons (sAsg (tgName 1) (vComp2 (iSeq (eName 1)) [3, 4] (tgName 3) cYes (iSeq (vTup (aCons (eInt 0) (aCons (eInt 1) aNil)))) [4] (tgName 4) cYes (vTup (aStar (eName 3) (aCons (eName 4) aNil))))) sNil) e =
        .ret (.nx, [some (.dat (.int n) .shr), some (.dat (.list ((sts (i + 1)).map fun s => .tuple (s.map .int))) .own), o', none, none]) := by
    intro i o hi
    refine ⟨_, some (.dat (.int i) .shr), rfl, ?_⟩
    simp
    rw [vComp2_own (al := [1]) (sts i) (fun s => .tuple (s.map .int)) (fun _ => true) (fun _ => [(0 : Int), 1]) (fun _ => PyData.int) (fun _ _ => true) (fun s v => .tuple ((s ++ [v]).map .int)) (by simp)
      (by simp [List.length_flatMap, sts_length, Function.comp_def, List.map_const']; exact Nat.le_trans (Nat.mul_le_mul_right 2 (Nat.pow_le_pow_right (by decide) (Nat.le_of_lt (Nat.lt_of_lt_of_le hi hn)))) (by decide))
      (fun s hs => ⟨_, rfl, rfl, fun _ => ⟨[], by simp, fun v _ => ⟨_, rfl, rfl, fun _ => by have := sts_mem hs; simp [imms_app]; omega⟩⟩⟩)]
    simp [sts, List.map_flatMap]
  obtain ⟨o', e⟩ := forLoop_rng n (fun i (o : Option Sl) => [some (.dat (.int n) .shr), some (.dat (.list ((sts i).map fun s => .tuple (s.map .int))) .own), o, none, none]) none hs
  simp [F_states_of, m_states_of, List.replicate, imms]
  simp [sm62_nat (n := n) (by omega)]
  simp [sts] at e
  simp [e]
theorem pow6 {n : Nat} (hn : n < 6) {m : Nat} (hz : m = 2 ^ n) : m ≤ sizeLine := by
  subst hz
  exact Nat.le_trans (Nat.pow_le_pow_right (by decide) (Nat.le_of_lt_succ hn)) (by decide)
theorem heeds_of_v (n : Nat) (hn : n < 6) (xs : List Int) (hz : xs.length = 2 ^ n) : F_heeds_of [some (.tuple (xs.map .int))] = .ret (.int n, .own) := by
  have h6 : (n = 0 ∨ n = 1 ∨ n = 2 ∨ n = 3 ∨ n = 4 ∨ n = 5) := by omega
  simp [F_heeds_of, m_heeds_of, vCD, hz]
  rcases h6 with z | z | z | z | z | z <;> subst z <;> simp [List.lookup]
theorem at_get {n h : Nat} (hh : h < n) {s : List Int} (hs : s.length = n) : s[h]? = some (at_ h s) := by
  have : h < s.length := by omega
  simp [at_, this]
theorem at_value_v (n : Nat) (hn : n < 6) (xs : List Int) (hz : xs.length = 2 ^ n) (h : Nat) (hh : h < n) (v : Int) :
    F_at_value [some (.tuple (xs.map .int)), some (.int h), some (.int v)] = .ret (.tuple (((((sts n).zip xs).filter fun p => at_ h p.1 == v).map (·.2)).map .int), .own) := by
  simp [F_at_value, m_at_value]
  rw [vComp_flt [] ((sts n).zip xs) (fun p => pair2 (.tuple (p.1.map .int)) (.int p.2)) (fun p => at_ h p.1 == v) (fun p => .int p.2)
    (by simp [heeds_of_v n hn xs hz, states_of_v n (by omega)]; exact zipWith_zip _ _ _) (by rw [List.length_zip, hz, sts_length]; exact pow6 hn (Nat.min_self _))
    (fun p hp => ⟨_, rfl, by
      have := sts_mem (List.of_mem_zip hp).1
      simp [atN, at_get hh this], by simp⟩)]
  have e : imms (((((sts n).zip xs).filter fun p => at_ h p.1 == v)).map fun p => .int p.2) = true := imms_map fun _ _ => rfl
  simp [mkT_own e, Function.comp_def]
theorem is_one_v (x : Int) (xs : List Int) : F_is_one [some (.tuple ((x :: xs).map .int))] = .ret (.bool (xs.all fun y => y == x), .own) := by
  have e := mCount_T (k := 1) (fit_DT (x :: xs)) (fit_int x 0) (by decide) (by decide) .own .own [] []
  simp [F_is_one, m_is_one] at e ⊢
  simp [e]
  exact countP_all1 _ xs
end D94

set_option Elab.async false
set_option linter.all false
set_option maxRecDepth 100000
set_option maxHeartbeats 400000
namespace D94
open PySem L2 Vm M95
section
variable {R : List Int → Int}
/-- the row's value stands at the state's number -/
theorem row_at {n : Nat} (hn : n < 6) {s : List Int} (hs : s ∈ sts n) : atI ((sts n).map R) (num s) = some (R s) := by
  obtain ⟨i, hi, e⟩ := List.getElem_of_mem hs
  have h1 := sts_num ⟨n, hn⟩
  simp only at h1
  have h2 : num s = (i : Int) := by
    have h3 : ((sts n).map num)[i]? = some (num s) := by simp [hi, e]
    rw [h1] at h3
    have hi2 : i < 2 ^ n := by rw [← sts_length]; exact hi
    simp [hi2] at h3
    exact h3.symm
  rw [h2, atN]
  simp [hi, e]
theorem zip_row {α β : Type} (f : α → β) (l : List α) (c : α → Bool) : ((l.zip (l.map f)).filter fun p => c p.1).map (·.2) = (l.filter c).map f := by
  induction l with
  | nil => rfl
  | cons a l ih =>
    simp only [List.map_cons, List.zip_cons_cons, List.filter_cons]
    cases c a <;> simp [ih]
theorem at_value_r (n : Nat) (hn : n < 6) (h : Nat) (hh : h < n) (v : Int) :
    F_at_value [some (.tuple (((sts n).map R).map .int)), some (.int h), some (.int v)] = .ret (.tuple ((((sts n).filter fun s => at_ h s == v).map R).map .int), .own) := by
  rw [at_value_v n hn ((sts n).map R) (by rw [List.length_map, sts_length]) h hh v, zip_row R (sts n) fun s => at_ h s == v]
end
end D94

set_option Elab.async false
set_option linter.all false
set_option maxRecDepth 100000
set_option maxHeartbeats 400000
namespace Vm
open PySem L2
mutual
/-- two things are one, kinds and all (no dicts) -/
def sameD : PyData → PyData → Bool
  | .list xs, .list ys => sameDs xs ys
  | .tuple xs, .tuple ys => sameDs xs ys
  | .bool a, .bool b => a == b
  | .none, .none => true
  | .int i, .int j => i == j
  | .str x, .str y => x == y
  | _, _ => false
def sameDs : List PyData → List PyData → Bool
  | [], [] => true
  | x :: xs, y :: ys => sameD x y && sameDs xs ys
  | _, _ => false
end
mutual
theorem sameD_refl : ∀ d : PyData, noDict d = true → sameD d d = true
  | .none, _ => rfl
  | .bool b, _ => by simp [sameD]
  | .int b, _ => by simp [sameD]
  | .str b, _ => by simp [sameD]
  | .list xs, h => by simp only [sameD]; exact sameDs_refl xs h
  | .tuple xs, h => by simp only [sameD]; exact sameDs_refl xs h
  | .dict _, h => by cases h
theorem sameDs_refl : ∀ d : List PyData, noDicts d = true → sameDs d d = true
  | [], _ => rfl
  | x :: xs, h => by
    simp only [noDicts, Bool.and_eq_true] at h
    simp only [sameDs, sameD_refl x h.1, sameDs_refl xs h.2, Bool.and_self]
end
theorem sameDs_len : ∀ {xs ys : List PyData}, sameDs xs ys = true → xs.length = ys.length
  | [], [], _ => rfl
  | [], _ :: _, h => by simp [sameDs] at h
  | _ :: _, [], h => by simp [sameDs] at h
  | x :: xs, y :: ys, h => by
    simp only [sameDs, Bool.and_eq_true] at h
    simp [sameDs_len h.2]
theorem sameDs_zip : ∀ (xs ys : List PyData), xs.length = ys.length → sameDs xs ys = (xs.zip ys).all fun p => sameD p.1 p.2
  | [], [], _ => rfl
  | [], _ :: _, h => by simp at h
  | _ :: _, [], h => by simp at h
  | x :: xs, y :: ys, h => by
    simp only [sameDs, List.zip_cons_cons, List.all_cons]
    rw [sameDs_zip xs ys (by simpa using h)]
mutual
/-- no list in it is too long -/
def szd (m : Nat) : PyData → Bool
  | .list xs => decide (xs.length < m) && szds m xs
  | .tuple xs => decide (xs.length < m) && szds m xs
  | _ => true
def szds (m : Nat) : List PyData → Bool
  | [] => true
  | x :: xs => szd m x && szds m xs
end
theorem szds_mem {m : Nat} : ∀ {xs : List PyData}, szds m xs = true → ∀ x ∈ xs, szd m x = true
  | y :: ys, h, x, hx => by
    simp only [szds, Bool.and_eq_true] at h
    rcases List.mem_cons.mp hx with rfl | hx
    · exact h.1
    · exact szds_mem h.2 x hx
theorem szds_of {m : Nat} : ∀ {xs : List PyData}, (∀ x ∈ xs, szd m x = true) → szds m xs = true
  | [], _ => rfl
  | y :: ys, h => by
    simp only [szds, Bool.and_eq_true]
    exact ⟨h y List.mem_cons_self, szds_of fun x hx => h x (List.mem_cons_of_mem _ hx)⟩
theorem szd_list {m : Nat} {xs : List PyData} (h : szd m (.list xs) = true) : xs.length < m ∧ ∀ x ∈ xs, szd m x = true := by
  simp only [szd, Bool.and_eq_true, decide_eq_true_eq] at h
  exact ⟨h.1, szds_mem h.2⟩
theorem szd_tuple {m : Nat} {xs : List PyData} (h : szd m (.tuple xs) = true) : xs.length < m ∧ ∀ x ∈ xs, szd m x = true := szd_list (xs := xs) h
theorem szd_ofL {m : Nat} {xs : List PyData} (h : xs.length < m) (h' : ∀ x ∈ xs, szd m x = true) : szd m (.list xs) = true := by
  simp only [szd, Bool.and_eq_true, decide_eq_true_eq]
  exact ⟨h, szds_of h'⟩
theorem szd_ofT {m : Nat} {xs : List PyData} (h : xs.length < m) (h' : ∀ x ∈ xs, szd m x = true) : szd m (.tuple xs) = true := szd_ofL h h'
mutual
theorem szd_mono {m m' : Nat} (hm : m ≤ m') : ∀ {d : PyData}, szd m d = true → szd m' d = true
  | .list xs, h => by
    simp only [szd, Bool.and_eq_true, decide_eq_true_eq] at h ⊢
    exact ⟨by omega, szds_mono hm h.2⟩
  | .tuple xs, h => by
    simp only [szd, Bool.and_eq_true, decide_eq_true_eq] at h ⊢
    exact ⟨by omega, szds_mono hm h.2⟩
  | .none, _ => rfl
  | .bool _, _ => rfl
  | .int _, _ => rfl
  | .str _, _ => rfl
  | .dict _, _ => rfl
theorem szds_mono {m m' : Nat} (hm : m ≤ m') : ∀ {d : List PyData}, szds m d = true → szds m' d = true
  | [], _ => rfl
  | x :: xs, h => by
    simp only [szds, Bool.and_eq_true] at h ⊢
    exact ⟨szd_mono hm h.1, szds_mono hm h.2⟩
end
theorem spoils_len0 : ∀ xs : List PyData, (spoils xs).length = xs.length
  | [] => rfl
  | x :: xs => by simp [spoils, spoils_len0 xs]
mutual
/-- what spoilt things are like -/
theorem spoil_ok {m : Nat} : ∀ (d : PyData), noDict d = true → d.canLay0 = true → szd m d = true → noDict (spoil d) = true ∧ (spoil d).canLay0 = true ∧ (spoil d).depth = d.depth ∧ szd (m + 1) (spoil d) = true
  | .list xs, h1, h2, h3 => by
    simp only [szd, Bool.and_eq_true, decide_eq_true_eq] at h3
    obtain ⟨a, b, c, e⟩ := spoils_ok (m := m) xs h1 h2 h3.2
    have hs : ∀ ys : List PyData, noDicts ys = true → PyData.canLayAll0 ys = true → szds (m + 1) ys = true →
        noDicts (ys ++ [.str (Str.ofString "late")]) = true ∧ PyData.canLayAll0 (ys ++ [.str (Str.ofString "late")]) = true ∧ PyData.depthAll (ys ++ [.str (Str.ofString "late")]) = PyData.depthAll ys ∧ szds (m + 1) (ys ++ [.str (Str.ofString "late")]) = true := by
      intro ys
      induction ys with
      | nil => exact fun _ _ _ => ⟨rfl, by decide +kernel, rfl, rfl⟩
      | cons y ys ih =>
        intro q1 q2 q3
        simp only [noDicts, PyData.canLayAll0, szds, Bool.and_eq_true] at q1 q2 q3
        obtain ⟨r1, r2, r3, r4⟩ := ih q1.2 q2.2 q3.2
        simp only [List.cons_append, noDicts, PyData.canLayAll0, szds, PyData.depthAll, r1, r2, r3, r4, q1.1, q2.1, q3.1, Bool.and_self, and_self]
    obtain ⟨r1, r2, r3, r4⟩ := hs _ a b e
    refine ⟨r1, r2, ?_, ?_⟩
    · simp only [spoil, PyData.depth, r3, c]
    · simp only [spoil, szd, Bool.and_eq_true, decide_eq_true_eq, List.length_append, spoils_len0, List.length_cons, List.length_nil]
      exact ⟨by omega, r4⟩
  | .tuple xs, h1, h2, h3 => by
    simp only [szd, Bool.and_eq_true, decide_eq_true_eq] at h3
    obtain ⟨a, b, c, e⟩ := spoils_ok (m := m) xs h1 h2 h3.2
    refine ⟨a, b, ?_, ?_⟩
    · simp only [spoil, PyData.depth, c]
    · simp only [spoil, szd, Bool.and_eq_true, decide_eq_true_eq, spoils_len0]
      exact ⟨by omega, e⟩
  | .none, h1, h2, h3 => ⟨h1, h2, rfl, rfl⟩
  | .bool _, h1, h2, h3 => ⟨h1, h2, rfl, rfl⟩
  | .int _, h1, h2, h3 => ⟨h1, h2, rfl, rfl⟩
  | .str _, h1, h2, h3 => ⟨h1, h2, rfl, rfl⟩
  | .dict _, h1, h2, h3 => by cases h1
theorem spoils_ok {m : Nat} : ∀ (xs : List PyData), noDicts xs = true → PyData.canLayAll0 xs = true → szds m xs = true → noDicts (spoils xs) = true ∧ PyData.canLayAll0 (spoils xs) = true ∧ PyData.depthAll (spoils xs) = PyData.depthAll xs ∧ szds (m + 1) (spoils xs) = true
  | [], _, _, _ => ⟨rfl, rfl, rfl, rfl⟩
  | x :: xs, h1, h2, h3 => by
    simp only [noDicts, PyData.canLayAll0, szds, Bool.and_eq_true] at h1 h2 h3
    obtain ⟨a, b, c, e⟩ := spoil_ok (m := m) x h1.1 h2.1 h3.1
    obtain ⟨a', b', c', e'⟩ := spoils_ok (m := m) xs h1.2 h2.2 h3.2
    simp only [spoils, noDicts, PyData.canLayAll0, szds, PyData.depthAll, a, b, c, e, a', b', c', e', Bool.and_self, and_self]
end
mutual
theorem roomy_of : ∀ {d : PyData}, noDict d = true → szd 10000000 d = true → roomy d = true
  | .list xs, h, h' => by
    simp only [szd, Bool.and_eq_true, decide_eq_true_eq] at h'
    simp only [roomy, Bool.and_eq_true, decide_eq_true_eq]
    exact ⟨Nat.lt_of_lt_of_le h'.1 (by decide), roomys_of h h'.2⟩
  | .tuple xs, h, h' => by
    simp only [szd, Bool.and_eq_true, decide_eq_true_eq] at h'
    exact roomys_of h h'.2
  | .none, _, _ => rfl
  | .bool _, _, _ => rfl
  | .int _, _, _ => rfl
  | .str _, _, _ => rfl
  | .dict _, h, _ => by cases h
theorem roomys_of : ∀ {d : List PyData}, noDicts d = true → szds 10000000 d = true → roomys d = true
  | [], _, _ => rfl
  | x :: xs, h, h' => by
    simp only [noDicts, szds, Bool.and_eq_true] at h h'
    simp only [roomys, roomy_of h.1 h'.1, roomys_of h.2 h'.2, Bool.and_self]
end
mutual
/-- lists of lists .. of flat things -/
def cpy : PyData → Bool
  | .list xs => cpys xs
  | .tuple xs => imms xs
  | .dict _ => false
  | _ => true
def cpys : List PyData → Bool
  | [] => true
  | x :: xs => cpy x && cpys xs
end
theorem cpys_mem : ∀ {xs : List PyData}, cpys xs = true → ∀ x ∈ xs, cpy x = true
  | y :: ys, h, x, hx => by
    simp only [cpys, Bool.and_eq_true] at h
    rcases List.mem_cons.mp hx with rfl | hx
    · exact h.1
    · exact cpys_mem h.2 x hx
theorem cpy_imm : ∀ {x : PyData}, imm x = true → cpy x = true
  | .none, _ => rfl
  | .bool _, _ => rfl
  | .int _, _ => rfl
  | .str _, _ => rfl
  | .tuple _, h => h
theorem cpys_imm : ∀ {xs : List PyData}, imms xs = true → cpys xs = true
  | [], _ => rfl
  | x :: xs, h => by
    simp only [imms, Bool.and_eq_true] at h
    simp only [cpys, cpy_imm h.1, cpys_imm h.2, Bool.and_self]
theorem depth_mem0 : ∀ {xs : List PyData} {x : PyData}, x ∈ xs → x.depth ≤ PyData.depthAll xs
  | y :: ys, x, hx => by
    simp only [PyData.depthAll]
    rcases List.mem_cons.mp hx with rfl | hx
    · omega
    · have := depth_mem0 hx; omega
end Vm
namespace D94
open PySem L2 Vm M95
theorem fit_parts {k : Nat} {xs : List PyData} (h : Fit (k + 1) (.list xs) ∨ Fit (k + 1) (.tuple xs)) : ∀ x ∈ xs, Fit k x := by
  have h' : noDicts xs = true ∧ PyData.canLayAll0 xs = true ∧ PyData.depthAll xs ≤ k := by
    rcases h with h | h
    · exact ⟨h.nd, h.cl, Nat.le_of_succ_le_succ h.dp⟩
    · exact ⟨h.nd, h.cl, Nat.le_of_succ_le_succ h.dp⟩
  clear h
  induction xs with
  | nil => intro x hx; cases hx
  | cons y ys ih =>
    obtain ⟨h1, h2, h3⟩ := h'
    simp only [noDicts, PyData.canLayAll0, PyData.depthAll, Bool.and_eq_true] at h1 h2 h3
    intro x hx
    rcases List.mem_cons.mp hx with rfl | hx
    · exact ⟨h1.1, h2.1, by omega⟩
    · exact ih ⟨h1.2, h2.2, by omega⟩ x hx
theorem fit_str {k : Nat} {x : Str} (h : Fit k (.str x)) : Fit 0 (.str x) := ⟨h.nd, h.cl, Nat.zero_le _⟩
theorem seq_same {n : Nat} {xs ys : List PyData} {env : Vm.Env} (h : ∀ x ∈ xs, ∀ y ∈ ys, F__law_same n [some x, some y] = .ret (.bool (sameD x y), .own)) (hz : xs.length < sizeLine)
    (hi : itZip2 (aCons (eName 0) (aCons (eName 1) aNil)) env = .ret (List.zipWith pair2 xs ys, [])) (hv : env.length = 4) (hl : xs.length = ys.length) :
    vComp (itZip2 (aCons (eName 0) (aCons (eName 1) aNil))) [2, 3] (tgTup 2 (tgCons (tgName 2) (tgCons (tgName 3) tgNil))) cYes (vCall 2 (F__law_same n) (aCons (eName 2) (aCons (eName 3) aNil))) env = .ret ⟨.list ((xs.zip ys).map fun p => .bool (sameD p.1 p.2)), .own, []⟩ := by
  match env, hv with
  | [a, b, c, d], _ =>
  refine vComp_yes [] (xs.zip ys) (fun p => pair2 p.1 p.2) (fun p => .bool (sameD p.1 p.2)) (by rw [hi, zipWith_zip]) (by rw [List.length_zip]; omega) fun p hp => ⟨_, rfl, ?_⟩
  have := List.of_mem_zip hp
  simp [h p.1 this.1 p.2 this.2]
theorem same_v : ∀ (n : Nat) (a b : PyData) (k : Nat), k ≤ 60 → Fit k a → Fit k b → b.depth < n → szd sizeLine a = true → F__law_same n [some a, some b] = .ret (.bool (sameD a b), .own)
  | 0, a, b, k, hk, ha, hb, h, _ => by omega
  | n + 1, a, b, k, hk, ha, hb, h, hz => by
    have ih := same_v n
    unfold F__law_same m__law_same
    cases b
    case dict => exact absurd hb.nd (by simp [noDict])
    all_goals cases a
    case none.dict => exact absurd ha.nd (by simp [noDict])
    case bool.dict => exact absurd ha.nd (by simp [noDict])
    case int.dict => exact absurd ha.nd (by simp [noDict])
    case str.dict => exact absurd ha.nd (by simp [noDict])
    case list.dict => exact absurd ha.nd (by simp [noDict])
    case tuple.dict => exact absurd ha.nd (by simp [noDict])
    case list.list ys xs =>
      have e1 := seq_same (fun x hx y hy => by
        cases k with
        | zero => exact absurd ha.dp (by simp [PyData.depth])
        | succ k => exact ih x y k (by omega) (fit_parts (.inl ha) x hx) (fit_parts (.inl hb) y hy) (by have := depth_mem0 hy; simp only [PyData.depth] at h; omega) ((szd_list hz).2 x hx)) (szd_list hz).1
        (xs := xs) (ys := ys) (n := n) (env := [some (.dat (.list xs) .shr), some (.dat (.list ys) .shr), none, none]) (by simp) rfl
      simp [List.replicate, sameD, pIs, Int.natCast_inj]
      by_cases hl : xs.length = ys.length
      · simp [hl, e1 hl, sameDs_zip xs ys hl, bAll_map]
      · simp [hl, Int.natCast_inj]
        cases e : sameDs xs ys with
        | false => exact beq_eq_false_iff_ne.mpr (by omega)
        | true => exact absurd (sameDs_len e) hl
    case tuple.tuple ys xs =>
      have e1 := seq_same (fun x hx y hy => by
        cases k with
        | zero => exact absurd ha.dp (by simp [PyData.depth])
        | succ k => exact ih x y k (by omega) (fit_parts (.inr ha) x hx) (fit_parts (.inr hb) y hy) (by have := depth_mem0 hy; simp only [PyData.depth] at h; omega) ((szd_tuple hz).2 x hx)) (szd_tuple hz).1
        (xs := xs) (ys := ys) (n := n) (env := [some (.dat (.tuple xs) .shr), some (.dat (.tuple ys) .shr), none, none]) (by simp) rfl
      simp [List.replicate, sameD, pIs, Int.natCast_inj]
      by_cases hl : xs.length = ys.length
      · simp [hl, e1 hl, sameDs_zip xs ys hl, bAll_map]
      · simp [hl, Int.natCast_inj]
        cases e : sameDs xs ys with
        | false => exact beq_eq_false_iff_ne.mpr (by omega)
        | true => exact absurd (sameDs_len e) hl
    case str.str => 
      have e1 := oEq_of (fit_str ha) (fit_str hb) (by decide) (by decide) false .own .own [] []
      simp [List.replicate, sameD, pIs, oIsN, isN, e1]
      rfl
    all_goals first
      | rfl
      | (simp [List.replicate, sameD, pIs, oIsN, isN])
end D94

set_option Elab.async false
set_option linter.all false
set_option maxRecDepth 100000
set_option maxHeartbeats 400000
namespace D94
open PySem L2 Vm M95
theorem copied_v : ∀ (n : Nat) (d : PyData), d.depth < n → cpy d = true → szd sizeLine d = true → F__law_copied n [some d] = .ret (d, .own)
  | 0, d, h, _, _ => by omega
  | n + 1, d, h, hc, hz => by
    have ih := copied_v n
    unfold F__law_copied m__law_copied
    cases d
    case dict => cases hc
    case list xs =>
      simp only [cpy] at hc
      have e1 : ∀ x ∈ xs, F__law_copied n [some x] = .ret (x, .own) := fun x hx => ih x (by have := depth_mem0 hx; simp only [PyData.depth] at h; omega) (cpys_mem hc x hx) ((szd_list hz).2 x hx)
      simp [List.replicate, pIs]
      rw [vComp_yes [] xs id id (by simp) (Nat.le_of_lt (szd_list hz).1) (fun x hx => ⟨_, rfl, by simp [e1 x hx]⟩)]
      simp
    case tuple xs =>
      have e1 : ∀ x ∈ xs, F__law_copied n [some x] = .ret (x, .own) := fun x hx => ih x (by have := depth_mem0 hx; simp only [PyData.depth] at h; omega) (cpys_mem (cpys_imm hc) x hx) ((szd_tuple hz).2 x hx)
      have hc' : imms xs = true := hc
      simp [List.replicate, pIs, hc']
      rw [vComp_yes [] xs id id (by simp [hc']) (Nat.le_of_lt (szd_tuple hz).1) (fun x hx => ⟨_, rfl, by simp [e1 x hx]⟩)]
      simp [hc']
    all_goals simp [List.replicate, pIs]
@[simp] theorem draw_v (n : Nat) (h : 0 < n) (h' : n < 1073741824) : F__law_draw [none, some (.int (n : Int))] = .draw n fun z => .ret (.int (z : Nat), .own) := by
  simp [F__law_draw, h, h']
  omega
theorem loose_int (n : Nat) (i : Int) : F__law_loose (n + 1) [none, some (.int i)] = .ret (.int i, .own) := by
  simp [F__law_loose, m__law_loose, List.replicate, pIs]
theorem loose_v (n : Nat) (xs : List Int) (hz : xs.length ≤ sizeLine) : F__law_loose (n + 2) [none, some (.list (xs.map .int))] = .draw 2 fun z => .ret (rt (z != 0) (xs.map .int), .own) := by
  have e1 := loose_int n
  have e2 := draw_v 2 (by decide) (by decide)
  simp at e2
  unfold F__law_loose m__law_loose
  simp [List.replicate, pIs]
  rw [vComp_yes [] xs PyData.int PyData.int (by simp) hz (fun x hx => ⟨_, rfl, by simp [e1]⟩)]
  simp [e2]
  funext z
  cases z with
  | zero => simp [rt]
  | succ z => simp [rt]
theorem twice_v {due : PyData} {fdue f1 f2 : Vm.Env → M RV} {env : Vm.Env} {lv : Lv} {al : List Nat} (h0 : fdue env = .ret ⟨due, lv, al⟩) (h1 : f1 env = .ret ⟨due, .own, []⟩) (h2 : f2 env = .ret ⟨due, .own, []⟩)
    (hf : Fit 8 due) (hc : cpy due = true) (hz : szd 9000000 due = true) : vTwice fdue f1 f2 (F__law_copied 12) (F__law_same 12) env = .ret ⟨.bool true, .own, []⟩ := by
  have hz1 : szd sizeLine due = true := szd_mono (by decide) hz
  have hz2 : szd 10000000 due = true := szd_mono (by decide) hz
  have hd := hf.dp
  have e1 := copied_v 12 due (by omega) hc hz1
  have e2 := same_v 12 due due 8 (by decide) hf hf (by omega) hz1
  rw [sameD_refl due hf.nd] at e2
  obtain ⟨s1, s2, s3, s4⟩ := spoil_ok due hf.nd hf.cl hz
  have hs : Fit 8 (spoil due) := ⟨s1, s2, by omega⟩
  have h3 : ∀ x ∈ [spoil due, due, due], Fit 8 x := by
    intro x hx
    simp at hx
    rcases hx with rfl | rfl <;> assumption
  have hl : Fit 9 (.list [spoil due, due, due]) := fit_list h3
  have hz3 : szd sizeLine (.list [spoil due, due, due]) = true := szd_ofL (by simp) fun x hx => by
    simp at hx
    rcases hx with rfl | rfl
    · exact szd_mono (by decide) s4
    · exact hz1
  have e3 := same_v 12 (.list [spoil due, due, due]) (.list [spoil due, due, due]) 9 (by decide) hl hl (by have := hl.dp; omega) hz3
  rw [sameD_refl _ hl.nd] at e3
  have hr := roomy_of hf.nd hz2
  have hd12 : due.depth < 12 := by omega
  simp [vTwice, vTw, h0, h1, h2, e1, e2, e3, hr, hd12]

abbrev DLI (l : List (List Int)) : PyData := .list (l.map fun s => .list (s.map .int))
theorem law_states_v (n : Nat) (hn : n ≤ 20) : F__law_states [some (.int n)] = .ret (.list ((sts n).map fun s => .list (s.map .int)), .own) := by
  have hs : ∀ (i : Nat) (o : Option Sl × Option Sl × Option Sl), i < n → ∃ (e : Vm.Env) (o' : Option Sl × Option Sl × Option Sl), tgName 2 .shr (.int (i : Int)) [some (.dat (.int n) .shr), some (.dat (DLI (sts i)) .own), o.1, o.2.1, o.2.2] = some e ∧
      (sCons (sAsg (tgName 3) (vLst aNil))
  (sCons (sFor (iSeq (eName 1)) (tgName 4) (sCons (sExt 3 (vLst (aCons (ev2 oAdd (eName 4) (vLst (aCons (eInt 0) aNil))) (aCons (ev2 oAdd (eName 4) (vLst (aCons (eInt 1) aNil))) aNil))))
  sNil))
  (sCons (sAsg (tgName 1) (eName 3))
  sNil))) e = .ret (.nx, [some (.dat (.int n) .shr), some (.dat (DLI (sts (i + 1))) .own), o'.1, o'.2.1, o'.2.2]) := by
    intro i o hi
    have hin : ∀ (j : Nat) (o : Option Sl) (s : List Int), (sts i)[j]? = some s → ∃ e o', tgName 4 .shr (.list (s.map .int)) [some (.dat (.int n) .shr), some (.dat (DLI (sts i)) .shr), some (.dat (.int i) .shr), some (.dat (DLI (((sts i).take j).flatMap fun s => [s ++ [0], s ++ [1]])) .own), o] = some e ∧
        (sCons (sExt 3 (vLst (aCons (ev2 oAdd (eName 4) (vLst (aCons (eInt 0) aNil))) (aCons (ev2 oAdd (eName 4) (vLst (aCons (eInt 1) aNil))) aNil)))) sNil) e =
          .ret (.nx, [some (.dat (.int n) .shr), some (.dat (DLI (sts i)) .shr), some (.dat (.int i) .shr), some (.dat (DLI (((sts i).take (j + 1)).flatMap fun s => [s ++ [0], s ++ [1]])) .own), o']) := by
      intro j o s hj
      refine ⟨_, some (.dat (.list (s.map .int)) .shr), rfl, ?_⟩
      have hlen := sts_mem (List.mem_of_getElem? hj)
      have q0 := oAdd_ints s [0] (by simp; omega) .shr .own [] []
      have q1 := oAdd_ints s [1] (by simp; omega) .shr .own [] []
      simp at q0 q1
      have hj2 : j < (sts i).length := (List.getElem?_eq_some_iff.mp hj).1
      have e3 : (sts i).take (j + 1) = (sts i).take j ++ [s] := by rw [List.take_succ, hj]; rfl
      simp [q0, q1, allOwn, als]
      rw [mutExt_own rfl (by
        have h1 : ((sts i).take j).length ≤ 2 ^ 19 := by rw [List.length_take, sts_length]; exact Nat.le_trans (Nat.min_le_right _ _) (Nat.pow_le_pow_right (by decide) (by omega))
        simp [List.length_flatMap, Function.comp_def, List.map_const'] at h1 ⊢
        omega)]
      simp [e3]
    obtain ⟨o', e⟩ := forLoop_idx (fun s => .list (s.map .int)) (sts i) (fun j (o : Option Sl) => [some (.dat (.int n) .shr), some (.dat (DLI (sts i)) .shr), some (.dat (.int i) .shr), some (.dat (DLI (((sts i).take j).flatMap fun s => [s ++ [0], s ++ [1]])) .own), o]) o.2.2 hin
    simp [DLI] at e
    refine ⟨_, (some (.dat (.int i) .shr), none, o'), rfl, ?_⟩
    simp [e, DLI]
    simp [sts]
  obtain ⟨o', e⟩ := forLoop_rng n (fun i (o : Option Sl × Option Sl × Option Sl) => [some (.dat (.int n) .shr), some (.dat (DLI (sts i)) .own), o.1, o.2.1, o.2.2]) (none, none, none) hs
  simp [sts, DLI] at e
  simp [F__law_states, m__law_states, List.replicate, sm62_nat (n := n) (by omega), allOwn, als]
  simp [e]
end D94

set_option Elab.async false
set_option linter.all false
set_option maxRecDepth 100000
set_option maxHeartbeats 400000
namespace D94
open PySem L2 Vm M95
abbrev SI (i : Int) : Option Sl := some (.dat (.int i) .own)
abbrev SL (l : List Int) : Option Sl := some (.dat (.list (l.map .int)) .own)
/-- the row where one heed has a value -/
def atv (n : Nat) (row : List Int) (h : Nat) (v : Int) : List Int := ((((sts n).zip row).filter fun p => at_ h p.1 == v).map (·.2))
def isOne : List Int → Bool
  | [] => true
  | x :: xs => xs.all fun y => y == x
def decAt (n : Nat) (row : List Int) (h : Nat) (v : Int) : List (Nat × Int × Int) := if isOne (atv n row h v) then [(h, v, (atv n row h v).getD 0 0)] else []
def decBy (n : Nat) (row : List Int) : List (Nat × Int × Int) := (List.range n).flatMap fun h => decAt n row h 0 ++ decAt n row h 1
def peelL : Nat → List Int → List Int
  | 0, row => row
  | n + 1, row => if isOne row then row else match decBy (n + 1) row with
    | [] => row
    | q :: _ => peelL n (atv (n + 1) row q.1 (1 - q.2.1))
theorem sts_at : ∀ n : Fin 6, ∀ h : Fin n.1, ((sts n.1).countP fun s => at_ h s == 0) = 2 ^ (n.1 - 1) ∧ ((sts n.1).countP fun s => at_ h s == 1) = 2 ^ (n.1 - 1) := by decide +kernel
theorem atv_len {n : Nat} (hn : n < 6) {row : List Int} (hz : row.length = 2 ^ n) {h : Nat} (hh : h < n) {v : Int} (hv : v = 0 ∨ v = 1) : (atv n row h v).length = 2 ^ (n - 1) := by
  have h1 := sts_at ⟨n, hn⟩ ⟨h, hh⟩
  simp only at h1
  have h2 : ((sts n).zip row).map (·.1) = sts n := by rw [List.map_fst_zip]; rw [hz, sts_length]; exact Nat.le_refl _
  have h3 : (((sts n).zip row).filter fun p => at_ h p.1 == v).length = (sts n).countP fun s => at_ h s == v := by
    rw [← List.countP_eq_length_filter]
    conv => rhs; rw [← h2]
    rw [List.countP_map]
    rfl
  unfold atv
  rw [List.length_map, h3]
  rcases hv with rfl | rfl
  · exact h1.1
  · exact h1.2
theorem is_one_w {row : List Int} (h : row ≠ []) : F_is_one [some (.tuple (row.map .int))] = .ret (.bool (isOne row), .own) := by
  cases row with
  | nil => exact absurd rfl h
  | cons x xs => exact is_one_v x xs
theorem ne_of_pow {row : List Int} {n : Nat} (hz : row.length = 2 ^ n) : row ≠ [] := by
  intro e
  rw [e] at hz
  have := Nat.two_pow_pos n
  simp at hz
  omega
theorem at_value_w (n : Nat) (hn : n < 6) (xs : List Int) (hz : xs.length = 2 ^ n) (h : Nat) (hh : h < n) (v : Int) :
    F_at_value [some (.tuple (xs.map .int)), some (.int h), some (.int v)] = .ret (.tuple ((atv n xs h v).map .int), .own) := at_value_v n hn xs hz h hh v
def enc3 (q : Nat × Int × Int) : PyData := .tuple [.int q.1, .int q.2.1, .int q.2.2]
theorem decAt_len (n : Nat) (row : List Int) (h : Nat) (v : Int) : (decAt n row h v).length ≤ 1 := by
  unfold decAt; split <;> simp
theorem flat_len {α : Type} (f : Nat → List α) (k : Nat) (hk : ∀ h, (f h).length ≤ k) : ∀ i, ((List.range i).flatMap f).length ≤ k * i
  | 0 => by simp
  | i + 1 => by
    rw [List.range_succ, List.flatMap_append, List.length_append]
    have := flat_len f k hk i
    have := hk i
    simp only [List.flatMap_cons, List.flatMap_nil, List.append_nil, Nat.mul_succ]
    omega
theorem dec_in {n : Nat} (hn : n < 6) {row : List Int} (hz : row.length = 2 ^ n) {h : Nat} (hh : h < n) {v : Int} (hv : v = 0 ∨ v = 1) (fs : List (Nat × Int × Int)) (hf : fs.length < 1000) (o : Option Sl) :
    (sCons (sAsg (tgName 4) (vCall 3 F_at_value (aCons (eName 0) (aCons (eName 2) (aCons (eName 3) aNil)))))
  (sCons (sIf (tru (vCall 1 F_is_one (aCons (eName 4) aNil))) (sCons (sApp 1 (vTup (aCons (eName 2) (aCons (eName 3) (aCons (ev2 oIx (eName 4) (eInt 0)) aNil)))))
  sNil) sNil)
  sNil)) [some (.dat (.tuple (row.map .int)) .shr), some (.dat (.list (fs.map enc3)) .own), some (.dat (.int h) .shr), some (.dat (.int v) .shr), o] =
    .ret (.nx, [some (.dat (.tuple (row.map .int)) .shr), some (.dat (.list ((fs ++ decAt n row h v).map enc3)) .own), some (.dat (.int h) .shr), some (.dat (.int v) .shr), some (.dat (.tuple ((atv n row h v).map .int)) .own)]) := by
  have e1 := at_value_w n hn row hz h hh v
  have hl := atv_len hn hz hh hv
  have hne := ne_of_pow hl
  have e2 := is_one_w hne
  have e3 : atI ((atv n row h v).map PyData.int) 0 = some (.int ((atv n row h v).getD 0 0)) := by
    cases e : atv n row h v with
    | nil => exact absurd e hne
    | cons x xs => simp
  have e4 := fun d => mutApp_own (x := 1) (d := d) (env := [some (.dat (.tuple (row.map .int)) .shr), some (.dat (.list (fs.map enc3)) .own), some (.dat (.int h) .shr), some (.dat (.int v) .shr), some (.dat (.tuple ((atv n row h v).map .int)) .own)]) rfl (by simp; omega)
  simp [e1, e2, -List.map_map]
  unfold decAt
  cases q : isOne (atv n row h v) with
  | false => simp
  | true =>
    rw [if_pos rfl]
    simp only [atI_int] at e3
    simp [e3, e4, enc3]
theorem deciding_v {n : Nat} (hn : n < 6) {row : List Int} (hz : row.length = 2 ^ n) : F_deciding_by [some (.tuple (row.map .int))] = .ret (.list ((decBy n row).map enc3), .own) := by
  have e0 := heeds_of_v n hn row hz
  let D := fun h => decAt n row h 0 ++ decAt n row h 1
  have hD : ∀ h, (D h).length ≤ 2 := fun h => by
    have := decAt_len n row h 0
    have := decAt_len n row h 1
    simp only [D, List.length_append]; omega
  obtain ⟨o, e⟩ := forLoop_rng (tg := tgName 2) (body := (sCons (sFor (iSeq (vTup (aCons (eInt 0) (aCons (eInt 1) aNil)))) (tgName 3) (sCons (sAsg (tgName 4) (vCall 3 F_at_value (aCons (eName 0) (aCons (eName 2) (aCons (eName 3) aNil)))))
  (sCons (sIf (tru (vCall 1 F_is_one (aCons (eName 4) aNil))) (sCons (sApp 1 (vTup (aCons (eName 2) (aCons (eName 3) (aCons (ev2 oIx (eName 4) (eInt 0)) aNil)))))
  sNil) sNil)
  sNil))) sNil)) n (fun i (o : Option Sl × Option Sl × Option Sl) => [some (.dat (.tuple (row.map .int)) .shr), some (.dat (.list (((List.range i).flatMap D).map enc3)) .own), o.1, o.2.1, o.2.2]) (none, none, none) (fun i o hi => by
      have hl := flat_len D 2 hD i
      refine ⟨_, (some (.dat (.int i) .shr), some (.dat (.int 1) .shr), some (.dat (.tuple ((atv n row i 1).map .int)) .own)), rfl, ?_⟩
      have q0 := dec_in hn hz hi (v := 0) (.inl rfl) ((List.range i).flatMap D) (by omega) o.2.2
      have q1 := dec_in hn hz hi (v := 1) (.inr rfl) ((List.range i).flatMap D ++ decAt n row i 0) (by have := decAt_len n row i 0; rw [List.length_append]; omega) (some (.dat (.tuple ((atv n row i 0).map .int)) .own))
      have e3 : (List.range (i + 1)).flatMap D = (List.range i).flatMap D ++ decAt n row i 0 ++ decAt n row i 1 := by
        rw [List.range_succ, List.flatMap_append]
        simp [D]
      rw [e3]
      rw [sCons_e, sFor_e]
      simp only [iSeq_e, vTup_e, aCons_e, aNil_e, eInt_e, M.bind_ret, noStm_cons, noStm_nil, Option.map_some, ofOption_some, List.length_cons, List.length_nil]
      rw [if_pos (by decide)]
      simp only [dispT_e, dsOf_cons, dsOf_nil, imms_cons, imm_int, imms_nil, Bool.and_self, if_true, M.bind_ret, frz_nil, forLoop]
      simp only [tgName_e, List.set, List.length_cons, List.length_nil]
      rw [if_pos (by decide)]
      simp only [ofOption_some, M.bind_ret]
      rw [q0]
      simp only [M.bind_ret, List.set, List.length_cons, List.length_nil]
      rw [if_pos (by decide)]
      simp only [ofOption_some, M.bind_ret]
      rw [q1]
      rfl)
  simp only [List.range_zero, List.flatMap_nil, List.map_nil] at e
  have e62 : sm62 (n : Int) = true := sm62_nat (by omega)
  simp [F_deciding_by, m_deciding_by, List.replicate, e0, e62, -List.map_map]
  rw [e]
  rfl
end D94

set_option Elab.async false
set_option linter.all false
set_option maxRecDepth 100000
set_option maxHeartbeats 400000
namespace D94
open PySem L2 Vm M95
theorem dec_mem {n : Nat} {row : List Int} {q : Nat × Int × Int} (h : q ∈ decBy n row) : q.1 < n ∧ (q.2.1 = 0 ∨ q.2.1 = 1) := by
  obtain ⟨h1, hm, h2⟩ := List.mem_flatMap.mp h
  have hn := List.mem_range.mp hm
  rcases List.mem_append.mp h2 with h2 | h2
  · unfold decAt at h2
    split at h2
    · simp at h2; subst h2; exact ⟨hn, .inl rfl⟩
    · cases h2
  · unfold decAt at h2
    split at h2
    · simp at h2; subst h2; exact ⟨hn, .inr rfl⟩
    · cases h2
def cPeel : Vm.Env → M Bool := tNotM (tru (vCall 1 F_is_one (aCons (eName 1) aNil)))
def bPeel : Vm.Env → M (Fl × Vm.Env) := (sCons (sAsg (tgName 4) (vCall 1 F_deciding_by (aCons (eName 1) aNil)))
  (sCons (sIf (tNotM (tru (eName 4))) (sCons (sRet (vTup (aCons (eName 3) (aCons (eName 2) (aCons (eName 1) aNil)))))
  sNil) sNil)
  (sCons (sAsg (tgTup 3 (tgCons (tgName 5) (tgCons (tgName 6) (tgCons (tgName 7) tgNil)))) (ev2 oIx (eName 4) (eInt 0)))
  (sCons (sApp 3 (vTup (aCons (ev2 oIx (eName 2) (eName 5)) (aCons (eName 6) (aCons (eName 7) aNil)))))
  (sCons (sAsg (tgName 1) (vCall 3 F_at_value (aCons (eName 1) (aCons (eName 5) (aCons (ev2 oSubI (eInt 1) (eName 6)) aNil)))))
  (sCons (sAsg (tgName 2) (ev2 oAdd (evSl (eName 2) pNo (pSome (eName 5))) (evSl (eName 2) (pSome (ev2 oAdd (eName 5) (eInt 1))) pNo)))
  sNil))))))
def encS (q : Int × Int × Int) : PyData := .tuple [.int q.1, .int q.2.1, .int q.2.2]
abbrev envP (o0 : Option Sl) (row : List Int) (names : List Int) (steps : List (Int × Int × Int)) (o4 o5 o6 o7 : Option Sl) : Vm.Env :=
  [o0, some (.dat (.tuple (row.map .int)) .own), SL names, some (.dat (.list (steps.map encS)) .own), o4, o5, o6, o7]
/-- the steps and names of a peeling -/
def peelS : Nat → List Int → List Int → List (Int × Int × Int) × List Int
  | 0, _, names => ([], names)
  | n + 1, row, names => if isOne row then ([], names) else match decBy (n + 1) row with
    | [] => ([], names)
    | q :: _ => let p := peelS n (atv (n + 1) row q.1 (1 - q.2.1)) (names.take q.1 ++ names.drop (q.1 + 1)); ((names.getD q.1 0, q.2.1, q.2.2) :: p.1, p.2)
theorem cPeel_v {n : Nat} {row : List Int} (hz : row.length = 2 ^ n) (names : List Int) (steps : List (Int × Int × Int)) (o0 o4 o5 o6 o7 : Option Sl) : cPeel (envP o0 row names steps o4 o5 o6 o7) = .ret (!isOne row) := by
  have e1 := is_one_w (ne_of_pow hz)
  unfold cPeel
  simp [e1]
theorem bPeel_ret {n : Nat} (hn : n < 6) {row : List Int} (hz : row.length = 2 ^ n) (names : List Int) (steps : List (Int × Int × Int)) (o0 o4 o5 o6 o7 : Option Sl) (hd : decBy n row = []) :
    ∃ env', bPeel (envP o0 row names steps o4 o5 o6 o7) = .ret (.ret (.tuple [.list (steps.map encS), .list (names.map .int), .tuple (row.map .int)]) .own, env') := by
  have e1 := deciding_v hn hz
  rw [hd] at e1
  unfold bPeel
  simp [e1, allOwn, als]
theorem bPeel_nx {n : Nat} (hn : n < 6) {row : List Int} (hz : row.length = 2 ^ n) (names : List Int) (hl : names.length = n) (steps : List (Int × Int × Int)) (hs : steps.length < 100) (o0 o4 o5 o6 o7 : Option Sl) {q : Nat × Int × Int} {r : List (Nat × Int × Int)} (hd : decBy n row = q :: r) :
    ∃ p4 p5 p6 p7, bPeel (envP o0 row names steps o4 o5 o6 o7) = .ret (.nx, envP o0 (atv n row q.1 (1 - q.2.1)) (names.take q.1 ++ names.drop (q.1 + 1)) (steps ++ [(names.getD q.1 0, q.2.1, q.2.2)]) p4 p5 p6 p7) := by
  have e1 := deciding_v hn hz
  have hq := dec_mem (n := n) (row := row) (q := q) (by rw [hd]; exact List.mem_cons_self)
  rw [hd] at e1
  obtain ⟨h, v, t⟩ := q
  simp only at hq ⊢
  have hh : h < names.length := by omega
  have e2 := at_value_w n hn row hz h hq.1 (1 - v)
  have e3 : atI (names.map PyData.int) (h : Int) = some (.int (names.getD h 0)) := by rw [atI_map, atN]; simp [hh]
  have e4 : cutD (names.map .int) none (some (h : Int)) = (names.take h).map .int := by rw [cutD_lo _ _ (by simp; omega), List.map_take]
  have e5 : cutD (names.map .int) (some ((h : Int) + 1)) none = (names.drop (h + 1)).map .int := by
    have := cutD_hi (names.map .int) (h + 1) (by simp; omega)
    rw [← List.map_drop] at this
    exact this
  have e6 := fun l l' al al' => oAdd_ints (names.take h) (names.drop (h + 1)) (by simp; omega) l l' al al'
  refine ⟨some (.dat (.list (decBy n row |>.map enc3)) .own), SI h, SI v, SI t, ?_⟩
  have e7 := fun d => mutApp_own (x := 3) (d := d) (env := [o0, some (.dat (.tuple (row.map .int)) .own), SL names, some (.dat (.list (steps.map encS)) .own), some (.dat (.list (.tuple [.int h, .int v, .int t] :: r.map enc3)) .own), SI h, SI v, SI t]) rfl (by simp; omega)
  have e8 : ∀ lo, mkL ((names.take h).map .int) lo = ⟨.list ((names.take h).map .int), .own, []⟩ := fun lo => mkL_int _ _
  have e9 : ∀ lo, mkL ((names.drop (h + 1)).map .int) lo = ⟨.list ((names.drop (h + 1)).map .int), .own, []⟩ := fun lo => mkL_int _ _
  simp only [List.map_append] at e6
  have e10 : names[h]?.getD 0 = names.getD h 0 := by simp
  rw [hd]
  unfold bPeel
  simp [e1, enc3, -List.map_take, -List.map_drop, e2, e3, e4, e5, e6, e7, e8, e9, encS]
theorem peel_w : ∀ (n : Nat) (hn : n < 6) (f : Nat) (row names : List Int) (steps : List (Int × Int × Int)) (o0 o4 o5 o6 o7 : Option Sl), n < f → row.length = 2 ^ n → names.length = n → steps.length + n < 100 →
    ((∃ env', whileLoop cPeel bPeel f (envP o0 row names steps o4 o5 o6 o7) = .ret (.ret (.tuple [.list ((steps ++ (peelS n row names).1).map encS), .list ((peelS n row names).2.map .int), .tuple ((peelL n row).map .int)]) .own, env')) ∨
      ∃ p4 p5 p6 p7, whileLoop cPeel bPeel f (envP o0 row names steps o4 o5 o6 o7) = .ret (.nx, envP o0 (peelL n row) (peelS n row names).2 (steps ++ (peelS n row names).1) p4 p5 p6 p7))
  | n, hn, 0, row, names, steps, o0, o4, o5, o6, o7, hf, hz, hl, hs => by omega
  | n, hn, f + 1, row, names, steps, o0, o4, o5, o6, o7, hf, hz, hl, hs => by
    have hc := cPeel_v hz names steps o0 o4 o5 o6 o7
    cases h1 : isOne row with
    | true =>
      rw [h1] at hc
      refine .inr ⟨o4, o5, o6, o7, ?_⟩
      rw [whileLoop_end (c := cPeel) (body := bPeel) (n := f) (show cPeel _ = .ret false from hc)]
      cases n <;> simp [peelL, peelS, h1]
    | false =>
      rw [h1] at hc
      cases n with
      | zero =>
        exfalso
        match row, hz with
        | [x], _ => simp [isOne] at h1
      | succ n =>
        cases hd : decBy (n + 1) row with
        | nil =>
          obtain ⟨env', hb⟩ := bPeel_ret hn hz names steps o0 o4 o5 o6 o7 hd
          refine .inl ⟨env', ?_⟩
          rw [whileLoop_ret (c := cPeel) (body := bPeel) (n := f) (show cPeel _ = .ret true from hc) hb]
          simp [peelL, peelS, h1, hd]
        | cons q r =>
          obtain ⟨p4, p5, p6, p7, hb⟩ := bPeel_nx hn hz names hl steps (by omega) o0 o4 o5 o6 o7 hd
          have hq := dec_mem (n := n + 1) (row := row) (q := q) (by rw [hd]; exact List.mem_cons_self)
          have hlen : (names.take q.1 ++ names.drop (q.1 + 1)).length = n := by simp; omega
          have ih := peel_w n (by omega) f (atv (n + 1) row q.1 (1 - q.2.1)) (names.take q.1 ++ names.drop (q.1 + 1)) (steps ++ [(names.getD q.1 0, q.2.1, q.2.2)]) o0 p4 p5 p6 p7 (by omega)
            (atv_len hn hz hq.1 (by rcases hq.2 with z | z <;> rw [z] <;> simp)) hlen (by simp; omega)
          rw [whileLoop_step (c := cPeel) (body := bPeel) (n := f) (show cPeel _ = .ret true from hc) hb]
          have e1 : peelL (n + 1) row = peelL n (atv (n + 1) row q.1 (1 - q.2.1)) := by simp [peelL, h1, hd]
          have e2 : peelS (n + 1) row names = ((names.getD q.1 0, q.2.1, q.2.2) :: (peelS n (atv (n + 1) row q.1 (1 - q.2.1)) (names.take q.1 ++ names.drop (q.1 + 1))).1, (peelS n (atv (n + 1) row q.1 (1 - q.2.1)) (names.take q.1 ++ names.drop (q.1 + 1))).2) := by simp [peelS, h1, hd]
          rw [e1, e2]
          simpa only [List.append_assoc, List.cons_append, List.nil_append] using ih
theorem peeled_v {n : Nat} (hn : n < 6) {row : List Int} (hz : row.length = 2 ^ n) : F_peeled [some (.tuple (row.map .int))] = .ret (.tuple [.list ((peelS n row ((List.range n).map fun i : Nat => (i : Int))).1.map encS), .list ((peelS n row ((List.range n).map fun i : Nat => (i : Int))).2.map .int), .tuple ((peelL n row).map .int)], .own) := by
  have e0 := heeds_of_v n hn row hz
  have e1 : lRg 0 (n : Int) = .ret ⟨.list (((List.range n).map fun i : Nat => (i : Int)).map .int), .own, []⟩ := by
    have h1 : okRg 0 (n : Int) = true := by
      unfold okRg
      rw [show sm62 0 = true from rfl, sm62_nat (by omega)]
      simp; omega
    unfold lRg
    rw [if_pos h1]
    simp [rng0, List.map_map, Function.comp_def]
  have h := peel_w n hn 100 row ((List.range n).map fun i : Nat => (i : Int)) [] (some (.dat (.tuple (row.map .int)) .shr)) none none none none (by omega) hz (by simp) (by simp; omega)
  have e2 : m_peeled [some (.dat (.tuple (row.map .int)) .shr), none, none, none, none, none, none, none] = (whileLoop cPeel bPeel 100 (envP (some (.dat (.tuple (row.map .int)) .shr)) row ((List.range n).map fun i : Nat => (i : Int)) [] none none none none) >>= fun p => match p.1 with
    | .nx => (sCons (sRet (vTup (aCons (eName 3) (aCons (eName 2) (aCons (eName 1) aNil))))) sNil) p.2
    | _ => .ret p) := by
    unfold m_peeled
    rw [sCons_e]
    simp only [sPar_e, parE_cons, parE_nil, eName_e, sl_zero, nameLv_shr, hang_shr, mkRV_DT, M.bind_ret]
    simp [vRg1, e0, e1, als, allOwn, -List.map_map]
    rfl
  unfold F_peeled
  rw [fnOf_e, env0_e]
  simp only [List.map_cons, List.map_nil, List.length_cons, List.length_nil, List.replicate, List.cons_append, List.nil_append]
  rw [e2]
  rcases h with ⟨env', h⟩ | ⟨o4, o5, o6, o7, h⟩
  · rw [h]
    simp
  · rw [h]
    simp [allOwn, als, -List.map_map]
end D94

set_option Elab.async false
set_option linter.all false
set_option maxRecDepth 100000
set_option maxHeartbeats 400000
namespace D94
open PySem L2 Vm M95
/-! ### cubes -/
abbrev Rho := List (Option Int)
def okR : Rho → List Int → Bool
  | [], [] => true
  | none :: r, _ :: s => okR r s
  | some w :: r, x :: s => x == w && okR r s
  | _, _ => false
theorem okR_iff : ∀ {ρ : Rho} {s : List Int}, okR ρ s = true ↔ s.length = ρ.length ∧ ∀ (i : Nat) (w : Int), ρ[i]? = some (some w) → s[i]? = some w
  | [], [] => by simp [okR]
  | [], x :: s => by simp [okR]
  | none :: r, [] => by simp [okR]
  | some w :: r, [] => by simp [okR]
  | none :: r, x :: s => by
    show okR r s = true ↔ _
    rw [okR_iff]
    simp only [List.length_cons, Nat.add_right_cancel_iff]
    refine and_congr Iff.rfl ⟨fun h i w hi => ?_, fun h i w hi => ?_⟩
    · cases i with
      | zero => simp at hi
      | succ i => simpa using h i w (by simpa using hi)
    · simpa using h (i + 1) w (by simpa using hi)
  | some w :: r, x :: s => by
    show (x == w && okR r s) = true ↔ _
    rw [Bool.and_eq_true, okR_iff, beq_iff_eq]
    simp only [List.length_cons, Nat.add_right_cancel_iff]
    constructor
    · rintro ⟨rfl, hl, h⟩
      refine ⟨hl, fun i w hi => ?_⟩
      cases i with
      | zero => simpa using hi
      | succ i => simpa using h i w (by simpa using hi)
    · rintro ⟨hl, h⟩
      refine ⟨?_, hl, fun i w hi => ?_⟩
      · have := h 0 w (by simp)
        simpa using this
      · simpa using h (i + 1) w (by simpa using hi)
def cube (ρ : Rho) : List (List Int) := (sts ρ.length).filter (okR ρ)
def free (ρ : Rho) : List Nat := (List.range ρ.length).filter fun i => ρ[i]? == some none
def tri : Nat → List Rho
  | 0 => [[]]
  | n + 1 => (tri n).flatMap fun r => [none :: r, some 0 :: r, some 1 :: r]
def proj (l : List Nat) (s : List Int) : List Int := l.map fun i => s.getD i 0
def isTri (ρ : Rho) : Prop := ∀ (i : Nat) (w : Int), ρ[i]? = some (some w) → w = 0 ∨ w = 1
theorem tri_mem : ∀ {ρ : Rho}, isTri ρ → ρ ∈ tri ρ.length
  | [], _ => by simp [tri]
  | x :: r, h => by
    have ih := tri_mem (ρ := r) fun i w hi => h (i + 1) w (by simpa using hi)
    simp only [List.length_cons, tri, List.mem_flatMap]
    refine ⟨r, ih, ?_⟩
    cases x with
    | none => simp
    | some w =>
      rcases h 0 w (by simp) with rfl | rfl <;> simp
theorem cube_sts0 : ∀ n : Fin 6, ((tri n.1).all fun ρ => (cube ρ).map (proj (free ρ)) == sts (free ρ).length) = true := by decide +kernel
theorem cube_sts {ρ : Rho} (hn : ρ.length < 6) (ht : isTri ρ) : (cube ρ).map (proj (free ρ)) = sts (free ρ).length := by
  have h := cube_sts0 ⟨ρ.length, hn⟩
  rw [List.all_eq_true] at h
  simpa using h ρ (tri_mem ht)
/-- the row within a cube -/
def rowR (f : List Int → Int) (ρ : Rho) : List Int := (cube ρ).map f
theorem mem_cube {ρ : Rho} {s : List Int} : s ∈ cube ρ ↔ s ∈ sts ρ.length ∧ ∀ (i : Nat) (w : Int), ρ[i]? = some (some w) → s[i]? = some w := by
  unfold cube
  rw [List.mem_filter, okR_iff]
  constructor
  · rintro ⟨h1, h2, h3⟩; exact ⟨h1, h3⟩
  · rintro ⟨h1, h2⟩; exact ⟨h1, sts_mem h1, h2⟩
theorem mem_free {ρ : Rho} {i : Nat} : i ∈ free ρ ↔ ρ[i]? = some none := by
  unfold free
  rw [List.mem_filter, List.mem_range, beq_iff_eq]
  constructor
  · exact fun h => h.2
  · exact fun h => ⟨(List.getElem?_eq_some_iff.mp h).1, h⟩
theorem okR_set {ρ : Rho} {i : Nat} {v : Int} (hi : ρ[i]? = some none) {s : List Int} (hs : s.length = ρ.length) : okR (ρ.set i (some v)) s = (okR ρ s && s.getD i 0 == v) := by
  have hl := (List.getElem?_eq_some_iff.mp hi).1
  have hg : s.getD i 0 = s[i]'(by omega) := by simp [show i < s.length by omega]
  rw [Bool.eq_iff_iff, Bool.and_eq_true, okR_iff, okR_iff, beq_iff_eq, hg]
  simp only [List.length_set]
  constructor
  · rintro ⟨h1, h2⟩
    refine ⟨⟨h1, fun j w hj => h2 j w ?_⟩, ?_⟩
    · rw [List.getElem?_set]
      by_cases e : i = j
      · subst e; rw [hi] at hj; cases hj
      · rw [if_neg e]; exact hj
    · have := h2 i v (by simp [hl])
      obtain ⟨_, e⟩ := List.getElem?_eq_some_iff.mp this
      exact e
  · rintro ⟨⟨h1, h2⟩, h3⟩
    refine ⟨h1, fun j w hj => ?_⟩
    rw [List.getElem?_set] at hj
    by_cases e : i = j
    · subst e
      simp [hl] at hj
      subst hj
      rw [← h3]
      exact List.getElem?_eq_getElem _
    · rw [if_neg e] at hj; exact h2 j w hj
theorem cube_set {ρ : Rho} {i : Nat} {v : Int} (hi : ρ[i]? = some none) : cube (ρ.set i (some v)) = (cube ρ).filter fun s => s.getD i 0 == v := by
  unfold cube
  rw [List.length_set, List.filter_filter]
  refine List.filter_congr fun s hs => ?_
  rw [okR_set hi (sts_mem hs), Bool.and_comm]
theorem free_set {ρ : Rho} {i : Nat} {w : Int} (hi : ρ[i]? = some none) : free (ρ.set i (some w)) = (free ρ).filter fun j => j != i := by
  unfold free
  rw [List.length_set, List.filter_filter]
  refine List.filter_congr fun j hj => ?_
  rw [List.getElem?_set]
  by_cases e : i = j
  · subst e
    rw [if_pos rfl]
    have := (List.getElem?_eq_some_iff.mp hi).1
    simp [this]
  · rw [if_neg e]
    have e' : ¬ j = i := fun z => e z.symm
    simp [e']
theorem filter_ne {l : List Nat} (nd : l.Nodup) : ∀ {h : Nat} {i : Nat}, l[h]? = some i → l.filter (fun j => j != i) = l.take h ++ l.drop (h + 1) := by
  induction l with
  | nil => intro h i e; simp at e
  | cons x l ih =>
    intro h i e
    obtain ⟨n1, n2⟩ := List.nodup_cons.mp nd
    cases h with
    | zero =>
      simp at e
      subst e
      have : l.filter (fun j => j != x) = l := List.filter_eq_self.mpr fun j hj => by
        have : j ≠ x := fun z => n1 (z ▸ hj)
        simpa using this
      simp [this]
    | succ h =>
      have e : l[h]? = some i := by simpa using e
      have hx : x ≠ i := fun z => n1 (by rw [z]; exact List.mem_of_getElem? e)
      have := ih n2 e
      simp [hx, this]
theorem free_nodup (ρ : Rho) : (free ρ).Nodup := List.Nodup.sublist List.filter_sublist List.nodup_range
theorem free_set' {ρ : Rho} {h i : Nat} {w : Int} (hi : (free ρ)[h]? = some i) : free (ρ.set i (some w)) = (free ρ).take h ++ (free ρ).drop (h + 1) := by
  rw [free_set (mem_free.mp (List.mem_of_getElem? hi)), filter_ne (free_nodup ρ) hi]
theorem free_len {ρ : Rho} {h i : Nat} {w : Int} (hi : (free ρ)[h]? = some i) : (free (ρ.set i (some w))).length + 1 = (free ρ).length := by
  have hl := (List.getElem?_eq_some_iff.mp hi).1
  rw [free_set' hi, List.length_append, List.length_take, List.length_drop]
  omega
theorem atv_R {f : List Int → Int} {ρ : Rho} (hn : ρ.length < 6) (ht : isTri ρ) {h i : Nat} (hi : (free ρ)[h]? = some i) (v : Int) : atv (free ρ).length (rowR f ρ) h v = rowR f (ρ.set i (some v)) := by
  unfold atv rowR
  rw [cube_set (mem_free.mp (List.mem_of_getElem? hi)), ← cube_sts hn ht]
  have hh := (List.getElem?_eq_some_iff.mp hi)
  generalize cube ρ = C
  have e : ∀ s : List Int, at_ h (proj (free ρ) s) = s.getD i 0 := fun s => by
    unfold at_ proj
    simp [List.getD, List.getElem?_map, hi]
  induction C with
  | nil => rfl
  | cons s C ih =>
    simp only [List.map_cons, List.zip_cons_cons, List.filter_cons]
    rw [e]
    cases q : s.getD i 0 == v
    · simpa using ih
    · simpa using ih
theorem row_len {f : List Int → Int} {ρ : Rho} (hn : ρ.length < 6) (ht : isTri ρ) : (rowR f ρ).length = 2 ^ (free ρ).length := by
  have h := congrArg List.length (cube_sts hn ht)
  rw [List.length_map, sts_length] at h
  rw [rowR, List.length_map, h]
theorem tri_set {ρ : Rho} (ht : isTri ρ) {i : Nat} {w : Int} (hw : w = 0 ∨ w = 1) : isTri (ρ.set i (some w)) := fun j u hj => by
  rw [List.getElem?_set] at hj
  by_cases e : i = j
  · rw [if_pos e] at hj
    split at hj
    · cases hj; exact hw
    · cases hj
  · rw [if_neg e] at hj; exact ht j u hj
/-- one of them: all alike -/
theorem isOne_iff {l : List Int} : isOne l = true ↔ ∀ x ∈ l, ∀ y ∈ l, x = y := by
  cases l with
  | nil => simp [isOne]
  | cons a l =>
    simp only [isOne, List.all_eq_true, beq_iff_eq]
    constructor
    · intro h x hx y hy
      have g : ∀ x ∈ a :: l, x = a := fun x hx => (List.mem_cons.mp hx).elim id (h x)
      rw [g x hx, g y hy]
    · intro h x hx
      exact h x (List.mem_cons_of_mem _ hx) a List.mem_cons_self
theorem isOne_sub {f : List Int → Int} {ρ ρ' : Rho} (hs : ∀ s ∈ cube ρ', s ∈ cube ρ) (h : isOne (rowR f ρ) = true) : isOne (rowR f ρ') = true := by
  rw [isOne_iff] at h ⊢
  intro x hx y hy
  obtain ⟨s, h1, rfl⟩ := List.mem_map.mp hx
  obtain ⟨t, h2, rfl⟩ := List.mem_map.mp hy
  exact h _ (List.mem_map_of_mem (hs s h1)) _ (List.mem_map_of_mem (hs t h2))
def le (ρ ρ' : Rho) : Prop := ρ.length = ρ'.length ∧ ∀ (i : Nat) (w : Int), ρ[i]? = some (some w) → ρ'[i]? = some (some w)
theorem le.sub {ρ ρ' : Rho} (h : le ρ ρ') : ∀ s ∈ cube ρ', s ∈ cube ρ := fun s hs => by
  rw [mem_cube] at hs ⊢
  rw [h.1]
  exact ⟨hs.1, fun i w hi => hs.2 i w (h.2 i w hi)⟩
/-- a heed is peeled off -/
inductive Reach (f : List Int → Int) (n : Nat) : Rho → Prop
  | nil : Reach f n (List.replicate n none)
  | step {ρ : Rho} {i : Nat} {v : Int} (h : Reach f n ρ) (hi : ρ[i]? = some none) (hv : v = 0 ∨ v = 1) (ho : isOne (rowR f (ρ.set i (some v))) = true) : Reach f n (ρ.set i (some (1 - v)))
theorem Reach.len {f : List Int → Int} {n : Nat} {ρ : Rho} (h : Reach f n ρ) : ρ.length = n := by
  induction h with
  | nil => simp
  | step h hi hv ho ih => rw [List.length_set]; exact ih
theorem Reach.tri {f : List Int → Int} {n : Nat} {ρ : Rho} (h : Reach f n ρ) : isTri ρ := by
  induction h with
  | nil =>
    intro i w hi
    rw [List.getElem?_replicate] at hi
    split at hi <;> cases hi
  | step h hi hv ho ih => exact tri_set ih (by omega)
def Stuck (f : List Int → Int) (ρ : Rho) : Prop := isOne (rowR f ρ) = false ∧ ∀ (i : Nat) (v : Int), ρ[i]? = some none → v = 0 ∨ v = 1 → isOne (rowR f (ρ.set i (some v))) = false
theorem Reach.le_stuck {f : List Int → Int} {n : Nat} {ρ ρ1 : Rho} (h1 : Reach f n ρ1) (st : Stuck f ρ1) (h : Reach f n ρ) : le ρ ρ1 := by
  induction h with
  | nil =>
    refine ⟨by rw [h1.len]; simp, fun i w hi => ?_⟩
    rw [List.getElem?_replicate] at hi
    split at hi <;> cases hi
  | @step ρ i v h hi hv ho ih =>
    have hl := (List.getElem?_eq_some_iff.mp hi).1
    have hl1 : i < ρ1.length := by rw [← ih.1]; exact hl
    refine ⟨by rw [List.length_set]; exact ih.1, fun j w hj => ?_⟩
    rw [List.getElem?_set] at hj
    by_cases e : i = j
    case neg => rw [if_neg e] at hj; exact ih.2 j w hj
    subst e
    simp [hl] at hj
    subst hj
    cases e1 : ρ1[i]? with
    | none => rw [List.getElem?_eq_none_iff] at e1; omega
    | some o =>
    cases o with
    | none =>
      exfalso
      have := st.2 i v e1 hv
      have up : le (ρ.set i (some v)) (ρ1.set i (some v)) := ⟨by simp [ih.1], fun j w hj => by
        rw [List.getElem?_set] at hj ⊢
        by_cases e : i = j
        · subst e
          simp [hl] at hj
          simp [hl1, hj]
        · rw [if_neg e] at hj ⊢; exact ih.2 j w hj⟩
      rw [isOne_sub up.sub ho] at this
      cases this
    | some w =>
      have hw := h1.tri i w e1
      by_cases hwv : w = v
      · exfalso
        subst hwv
        have up : le (ρ.set i (some w)) ρ1 := ⟨by rw [List.length_set]; exact ih.1, fun j u hj => by
          rw [List.getElem?_set] at hj
          by_cases e : i = j
          · subst e
            simp [hl] at hj
            rw [e1, hj]
          · rw [if_neg e] at hj; exact ih.2 j u hj⟩
        have := isOne_sub up.sub ho
        rw [st.1] at this
        cases this
      · have : w = 1 - v := by omega
        rw [this]
/-- all peelings end alike -/
theorem ends {f : List Int → Int} {n : Nat} {ρ ρ1 : Rho} (h : Reach f n ρ) (h1 : Reach f n ρ1) (e : isOne (rowR f ρ) = true ∨ Stuck f ρ) (st : Stuck f ρ1) : ρ = ρ1 := by
  have l1 := Reach.le_stuck (ρ := ρ) (ρ1 := ρ1) h1 st h
  rcases e with e | e
  · have := isOne_sub l1.sub e
    rw [st.1] at this; cases this
  · have l2 := Reach.le_stuck h e h1
    apply List.ext_getElem?
    intro i
    cases e1 : ρ[i]? with
    | none => rw [List.getElem?_eq_none_iff] at e1; rw [eq_comm, List.getElem?_eq_none_iff, ← l1.1]; exact e1
    | some o =>
      cases o with
      | some w => exact (l1.2 i w e1).symm
      | none =>
        cases e2 : ρ1[i]? with
        | none =>
          rw [List.getElem?_eq_none_iff, ← l1.1] at e2
          have := (List.getElem?_eq_some_iff.mp e1).1
          omega
        | some o2 =>
          cases o2 with
          | none => rfl
          | some w =>
            have := l2.2 i w e2
            rw [e1] at this; cases this
end D94

set_option Elab.async false
set_option linter.all false
set_option maxRecDepth 100000
set_option maxHeartbeats 400000
namespace D94
open PySem L2 Vm M95
/-- the names of the free heeds -/
def fr (ρ : Rho) : List Int := (free ρ).map fun i : Nat => (i : Int)
theorem fr_len (ρ : Rho) : (fr ρ).length = (free ρ).length := by simp [fr]
theorem dec_prop {n : Nat} {row : List Int} {q : Nat × Int × Int} (h : q ∈ decBy n row) : q.1 < n ∧ (q.2.1 = 0 ∨ q.2.1 = 1) ∧ isOne (atv n row q.1 q.2.1) = true ∧ q.2.2 = (atv n row q.1 q.2.1).getD 0 0 := by
  obtain ⟨h1, hm, h2⟩ := List.mem_flatMap.mp h
  have hn := List.mem_range.mp hm
  have key : ∀ v : Int, q ∈ decAt n row h1 v → q.1 = h1 ∧ q.2.1 = v ∧ isOne (atv n row h1 v) = true ∧ q.2.2 = (atv n row h1 v).getD 0 0 := fun v hq => by
    unfold decAt at hq
    split at hq
    · rename_i ho
      have := List.mem_singleton.mp hq
      subst this
      exact ⟨rfl, rfl, ho, rfl⟩
    · cases hq
  rcases List.mem_append.mp h2 with h2 | h2
  · obtain ⟨a, b, c, d⟩ := key 0 h2
    rw [a, b]; exact ⟨hn, .inl rfl, c, d⟩
  · obtain ⟨a, b, c, d⟩ := key 1 h2
    rw [a, b]; exact ⟨hn, .inr rfl, c, d⟩
theorem dec_nil {n : Nat} {row : List Int} (h : decBy n row = []) {i : Nat} (hi : i < n) {v : Int} (hv : v = 0 ∨ v = 1) : isOne (atv n row i v) = false := by
  cases e : isOne (atv n row i v) with
  | false => rfl
  | true =>
    exfalso
    have : (i, v, (atv n row i v).getD 0 0) ∈ decBy n row := by
      refine List.mem_flatMap.mpr ⟨i, List.mem_range.mpr hi, ?_⟩
      rcases hv with rfl | rfl
      · exact List.mem_append_left _ (by unfold decAt; rw [if_pos e]; exact List.mem_singleton.mpr rfl)
      · exact List.mem_append_right _ (by unfold decAt; rw [if_pos e]; exact List.mem_singleton.mpr rfl)
    rw [h] at this
    cases this
theorem isOne_short {l : List Int} (h : l.length = 1) : isOne l = true := by
  match l, h with
  | [x], _ => rfl
section
variable {f : List Int → Int} {n : Nat}
/-- nothing decides any more -/
theorem stuck_of {ρ : Rho} (hn : ρ.length < 6) (ht : isTri ρ) (h0 : isOne (rowR f ρ) = false) (h : decBy (free ρ).length (rowR f ρ) = []) : Stuck f ρ := by
  refine ⟨h0, fun i v hi hv => ?_⟩
  obtain ⟨j, hj, e⟩ := List.getElem_of_mem (mem_free.mpr hi)
  have e2 : (free ρ)[j]? = some i := by rw [← e]; simp [hj]
  rw [← atv_R hn ht e2]
  exact dec_nil h hj hv
theorem fr_at {ρ : Rho} {h i : Nat} (e : (free ρ)[h]? = some i) : (fr ρ).getD h 0 = (i : Int) := by
  simp [fr, List.getD, e]
theorem fr_set {ρ : Rho} {h i : Nat} {w : Int} (e : (free ρ)[h]? = some i) : fr (ρ.set i (some w)) = (fr ρ).take h ++ (fr ρ).drop (h + 1) := by
  unfold fr
  rw [free_set' e, List.map_append, List.map_take, List.map_drop]
/-- one step of a peeling, as it is checked -/
def pst (st : List Int × List Int) (d : PyData) : Option (List Int × List Int) := match seqOf d with
  | some [.int i, .int v, .int t] =>
    if 0 ≤ i ∧ i ∈ st.2 ∧ (v = 0 ∨ v = 1) ∧ (t = 0 ∨ t = 1) ∧ isOne (atv st.2.length st.1 (st.2.findIdx (· == i)) v) = true ∧ (atv st.2.length st.1 (st.2.findIdx (· == i)) v).getD 0 0 = t then
      some (atv st.2.length st.1 (st.2.findIdx (· == i)) (1 - v), st.2.take (st.2.findIdx (· == i)) ++ st.2.drop (st.2.findIdx (· == i) + 1))
    else none
  | _ => none
theorem fr_idx {ρ : Rho} {h i : Nat} (e : (free ρ)[h]? = some i) : (fr ρ).findIdx (· == (i : Int)) = h := by
  obtain ⟨hl, e'⟩ := List.getElem?_eq_some_iff.mp e
  rw [List.findIdx_eq (by rw [fr_len]; exact hl)]
  refine ⟨by simp [fr, e'], fun j hj => ?_⟩
  have hjl : j < (free ρ).length := by omega
  have : (free ρ)[j] ≠ (free ρ)[h] := fun z => by
    have := (List.getElem_inj (free_nodup ρ)).mp z
    omega
  simp only [fr, List.getElem_map]
  rw [e'] at this
  simp only [beq_eq_false_iff_ne, ne_eq]
  omega
theorem peel_end (hn : n < 6) (hR : ∀ s, f s = 0 ∨ f s = 1) : ∀ (k : Nat) (ρ : Rho), Reach f n ρ → (free ρ).length = k →
    ∃ ρ', Reach f n ρ' ∧ peelL k (rowR f ρ) = rowR f ρ' ∧ (peelS k (rowR f ρ) (fr ρ)).2 = fr ρ' ∧ (isOne (rowR f ρ') = true ∨ Stuck f ρ') ∧
      ((peelS k (rowR f ρ) (fr ρ)).1.map encS).foldlM pst (rowR f ρ, fr ρ) = some (rowR f ρ', fr ρ')
  | 0, ρ, hr, hk => ⟨ρ, hr, rfl, rfl, .inl (isOne_short (by rw [row_len (by rw [hr.len]; exact hn) hr.tri, hk])), rfl⟩
  | k + 1, ρ, hr, hk => by
    have hl : ρ.length < 6 := by rw [hr.len]; exact hn
    unfold peelL peelS
    by_cases ho : isOne (rowR f ρ) = true
    · simp only [ho, if_true]
      exact ⟨ρ, hr, rfl, rfl, .inl ho, rfl⟩
    · have ho' : isOne (rowR f ρ) = false := by simpa using ho
      rw [if_neg ho, if_neg ho]
      cases hd : decBy (k + 1) (rowR f ρ) with
      | nil => exact ⟨ρ, hr, rfl, rfl, .inr (stuck_of hl hr.tri ho' (by rw [hk]; exact hd)), rfl⟩
      | cons q r =>
        obtain ⟨q1, q2, q3, q4⟩ := dec_prop (n := k + 1) (row := rowR f ρ) (q := q) (by rw [hd]; exact List.mem_cons_self)
        obtain ⟨h, v, t⟩ := q
        simp only at q1 q2 q3 q4 ⊢
        have hh : h < (free ρ).length := by omega
        have e : (free ρ)[h]? = some (free ρ)[h] := List.getElem?_eq_getElem hh
        generalize (free ρ)[h] = i at e
        have hi := mem_free.mp (List.mem_of_getElem? e)
        have a0 := atv_R (f := f) hl hr.tri e v
        have a1 := atv_R (f := f) hl hr.tri e (1 - v)
        rw [hk] at a0 a1
        have hr' : Reach f n (ρ.set i (some (1 - v))) := hr.step hi q2 (by rw [← a0]; exact q3)
        obtain ⟨ρ', r1, r2, r3, r4, r5⟩ := peel_end hn hR k (ρ.set i (some (1 - v))) hr' (by have := free_len (w := 1 - v) e; omega)
        rw [a1, ← fr_set (w := 1 - v) e]
        refine ⟨ρ', r1, r2, r3, r4, ?_⟩
        simp only [List.map_cons, List.foldlM_cons]
        have ht : t = 0 ∨ t = 1 := by
          have hlen : (atv (k + 1) (rowR f ρ) h v).length = 2 ^ k := atv_len (n := k + 1) (by rw [← hk]; have := List.length_filter_le (fun i => ρ[i]? == some none) (List.range ρ.length); simp [free] at *; omega) (by rw [row_len hl hr.tri, hk]) q1 q2
          have hpos := Nat.two_pow_pos k
          have h0 : 0 < (atv (k + 1) (rowR f ρ) h v).length := by omega
          have hm : t ∈ atv (k + 1) (rowR f ρ) h v := by
            rw [q4]
            simp [List.getD, h0]
          rw [a0] at hm
          obtain ⟨s, _, e⟩ := List.mem_map.mp hm
          rw [← e]; exact hR s
        have hidx := fr_idx e
        have hfa := fr_at e
        have hmem : (i : Int) ∈ fr ρ := List.mem_map_of_mem (List.mem_of_getElem? e)
        have ep : pst (rowR f ρ, fr ρ) (encS ((fr ρ).getD h 0, v, t)) = some (rowR f (ρ.set i (some (1 - v))), fr (ρ.set i (some (1 - v)))) := by
          unfold pst encS
          rw [hfa]
          simp only [seqOf_tuple, fr_len, hidx, hk, a0, a1]
          rw [if_pos ⟨Int.natCast_nonneg i, hmem, q2, ht, by rw [← a0]; exact q3, by rw [← a0]; exact q4.symm⟩, ← fr_set e]
        rw [ep]
        exact r5
/-! ### layers -/
/-- each heed once -/
def ddk : Option Nat → List (Nat × Int × Int) → List (Nat × Int × Int)
  | _, [] => []
  | o, q :: r => if o = some q.1 then ddk o r else q :: ddk (some q.1) r
def ap1 (p : List Int × List Int) (q : Nat × Int × Int) : List Int × List Int := (atv p.2.length p.1 q.1 (1 - q.2.1), p.2.take q.1 ++ p.2.drop (q.1 + 1))
def layF : Nat → List Int → List Int → List (List (Int × Int × Int)) × List Int × List Int
  | 0, row, names => ([], names, row)
  | m + 1, row, names => if isOne row then ([], names, row) else match ddk none (decBy names.length row) with
    | [] => ([], names, row)
    | L => let p := L.reverse.foldl ap1 (row, names)
           let q := layF m p.1 p.2
           (L.map (fun q => (names.getD q.1 0, q.2.1, q.2.2)) :: q.1, q.2.1, q.2.2)
theorem ddk_sub : ∀ (l : List (Nat × Int × Int)) (o : Option Nat), ∀ q ∈ ddk o l, q ∈ l
  | [], _, q, h => by cases h
  | a :: l, o, q, h => by
    unfold ddk at h
    split at h
    · exact List.mem_cons_of_mem _ (ddk_sub l o q h)
    · rcases List.mem_cons.mp h with rfl | h
      · exact List.mem_cons_self
      · exact List.mem_cons_of_mem _ (ddk_sub l _ q h)
theorem ddk_nil {l : List (Nat × Int × Int)} (h : ddk none l = []) : l = [] := by
  cases l with
  | nil => rfl
  | cons q l => unfold ddk at h; rw [if_neg (by intro z; cases z)] at h; cases h
theorem ddk_asc : ∀ (l : List (Nat × Int × Int)) (o : Option Nat), l.Pairwise (fun a b => a.1 ≤ b.1) → (∀ x, o = some x → ∀ q ∈ l, x ≤ q.1) → (ddk o l).Pairwise (fun a b => a.1 < b.1) ∧ ∀ x, o = some x → ∀ q ∈ ddk o l, x < q.1
  | [], o, _, _ => ⟨List.Pairwise.nil, fun x _ q h => by cases h⟩
  | a :: l, o, hp, ho => by
    obtain ⟨p1, p2⟩ := List.pairwise_cons.mp hp
    unfold ddk
    by_cases e : o = some a.1
    · rw [if_pos e]
      exact ddk_asc l o p2 fun x hx q hq => ho x hx q (List.mem_cons_of_mem _ hq)
    · rw [if_neg e]
      obtain ⟨i1, i2⟩ := ddk_asc l (some a.1) p2 fun x hx q hq => by cases hx; exact p1 q hq
      refine ⟨List.pairwise_cons.mpr ⟨fun q hq => i2 a.1 rfl q hq, i1⟩, fun x hx q hq => ?_⟩
      have h1 := ho x hx a List.mem_cons_self
      have h2 : x ≠ a.1 := fun z => e (by rw [hx, z])
      rcases List.mem_cons.mp hq with rfl | hq
      · omega
      · have := i2 a.1 rfl q hq; omega
theorem dec_sorted (n : Nat) (row : List Int) : (decBy n row).Pairwise (fun a b => a.1 ≤ b.1) := by
  unfold decBy
  have h1 : ∀ h v q, q ∈ decAt n row h v → q.1 = h := fun h v q hq => by
    unfold decAt at hq
    split at hq
    · rw [List.mem_singleton.mp hq]
    · cases hq
  have h2 : ∀ h q, q ∈ decAt n row h 0 ++ decAt n row h 1 → q.1 = h := fun h q hq => (List.mem_append.mp hq).elim (h1 h 0 q) (h1 h 1 q)
  have h3 : ∀ l : List Nat, l.Pairwise (· < ·) → (l.flatMap fun h => decAt n row h 0 ++ decAt n row h 1).Pairwise (fun a b => a.1 ≤ b.1) := by
    intro l hl
    induction l with
    | nil => exact List.Pairwise.nil
    | cons a l ih =>
      obtain ⟨p1, p2⟩ := List.pairwise_cons.mp hl
      rw [List.flatMap_cons]
      refine List.pairwise_append.mpr ⟨?_, ih p2, fun x hx y hy => ?_⟩
      · have : ∀ l : List (Nat × Int × Int), (∀ q ∈ l, q.1 = a) → l.Pairwise (fun a b => a.1 ≤ b.1) := by
          intro l
          induction l with
          | nil => intro _; exact List.Pairwise.nil
          | cons q l ih => exact fun h => List.pairwise_cons.mpr ⟨fun x hx => by rw [h q List.mem_cons_self, h x (List.mem_cons_of_mem _ hx)]; exact Nat.le_refl _, ih fun x hx => h x (List.mem_cons_of_mem _ hx)⟩
        exact this _ (h2 a)
      · obtain ⟨b, hb, hy⟩ := List.mem_flatMap.mp hy
        rw [h2 a x hx, h2 b y hy]
        exact Nat.le_of_lt (p1 b hb)
  exact h3 _ List.pairwise_lt_range
/-- a layer is peeled off -/
theorem layer_go (hn : n < 6) : ∀ (D : List (Nat × Int × Int)) (ρ : Rho), Reach f n ρ → D.Pairwise (fun a b => b.1 < a.1) →
    (∀ q ∈ D, ∃ i, (free ρ)[q.1]? = some i ∧ (q.2.1 = 0 ∨ q.2.1 = 1) ∧ isOne (rowR f (ρ.set i (some q.2.1))) = true) →
    ∃ ρ', Reach f n ρ' ∧ D.foldl ap1 (rowR f ρ, fr ρ) = (rowR f ρ', fr ρ') ∧ (free ρ').length + D.length = (free ρ).length
  | [], ρ, hr, _, _ => ⟨ρ, hr, rfl, rfl⟩
  | q :: D, ρ, hr, hp, hq => by
    have hl : ρ.length < 6 := by rw [hr.len]; exact hn
    obtain ⟨p1, p2⟩ := List.pairwise_cons.mp hp
    obtain ⟨i, e, hv, ho⟩ := hq q List.mem_cons_self
    have hi := mem_free.mp (List.mem_of_getElem? e)
    have hil := (List.getElem?_eq_some_iff.mp hi).1
    have hr' := hr.step hi hv ho
    have hh := (List.getElem?_eq_some_iff.mp e).1
    obtain ⟨ρ', r1, r2, r3⟩ := layer_go hn D (ρ.set i (some (1 - q.2.1))) hr' p2 fun q' hq' => by
      obtain ⟨i', e', hv', ho'⟩ := hq q' (List.mem_cons_of_mem _ hq')
      have hlt := p1 q' hq'
      have ei : (free (ρ.set i (some (1 - q.2.1))))[q'.1]? = some i' := by
        rw [free_set' e, List.getElem?_append_left (by rw [List.length_take]; omega), List.getElem?_take, if_pos hlt]
        exact e'
      have hne : i ≠ i' := fun z => by
        rw [← z] at e'
        have h1 := (List.getElem?_eq_some_iff.mp e).2
        have h2 := (List.getElem?_eq_some_iff.mp e').2
        have := (List.getElem_inj (free_nodup ρ)).mp (h1.trans h2.symm)
        omega
      refine ⟨i', ei, hv', ?_⟩
      have up : le (ρ.set i' (some q'.2.1)) ((ρ.set i (some (1 - q.2.1))).set i' (some q'.2.1)) := ⟨by simp, fun j w hj => by
        rw [List.getElem?_set] at hj ⊢
        by_cases ej : i' = j
        · subst ej
          simp only [if_true, List.length_set] at hj ⊢
          exact hj
        · rw [if_neg ej] at hj ⊢
          rw [List.getElem?_set]
          by_cases ej2 : i = j
          · subst ej2; rw [hi] at hj; cases hj
          · rw [if_neg ej2]; exact hj⟩
      exact isOne_sub up.sub ho'
    refine ⟨ρ', r1, ?_, by have := free_len (w := 1 - q.2.1) e; simp only [List.length_cons]; omega⟩
    rw [List.foldl_cons]
    have : ap1 (rowR f ρ, fr ρ) q = (rowR f (ρ.set i (some (1 - q.2.1))), fr (ρ.set i (some (1 - q.2.1)))) := by
      unfold ap1
      simp only
      rw [fr_len, atv_R hl hr.tri e, fr_set e]
    rw [this]
    exact r2
theorem lay_end (hn : n < 6) : ∀ (m : Nat) (ρ : Rho), Reach f n ρ → (free ρ).length ≤ m →
    ∃ ρ', Reach f n ρ' ∧ (layF m (rowR f ρ) (fr ρ)).2.2 = rowR f ρ' ∧ (layF m (rowR f ρ) (fr ρ)).2.1 = fr ρ' ∧ (isOne (rowR f ρ') = true ∨ Stuck f ρ')
  | 0, ρ, hr, hk => ⟨ρ, hr, rfl, rfl, .inl (isOne_short (by rw [row_len (by rw [hr.len]; exact hn) hr.tri, Nat.le_zero.mp hk]))⟩
  | m + 1, ρ, hr, hk => by
    have hl : ρ.length < 6 := by rw [hr.len]; exact hn
    unfold layF
    by_cases ho : isOne (rowR f ρ) = true
    · rw [if_pos ho]; exact ⟨ρ, hr, rfl, rfl, .inl ho⟩
    · have ho' : isOne (rowR f ρ) = false := by simpa using ho
      rw [if_neg ho, fr_len]
      cases hd : ddk none (decBy (free ρ).length (rowR f ρ)) with
      | nil => exact ⟨ρ, hr, rfl, rfl, .inr (stuck_of hl hr.tri ho' (ddk_nil hd))⟩
      | cons q L =>
        have asc := (ddk_asc (decBy (free ρ).length (rowR f ρ)) none (dec_sorted _ _) (fun x hx => by cases hx)).1
        obtain ⟨ρ1, r1, r2, r3⟩ := layer_go (f := f) hn (ddk none (decBy (free ρ).length (rowR f ρ))).reverse ρ hr (List.pairwise_reverse.mpr asc) fun q hq => by
          obtain ⟨d1, d2, d3, d4⟩ := dec_prop (ddk_sub _ _ q (List.mem_reverse.mp hq))
          refine ⟨(free ρ)[q.1], List.getElem?_eq_getElem d1, d2, ?_⟩
          rw [← atv_R hl hr.tri (List.getElem?_eq_getElem d1)]
          exact d3
        rw [hd] at r2 r3
        obtain ⟨ρ', s1, s2, s3, s4⟩ := lay_end hn m ρ1 r1 (by simp at r3; omega)
        refine ⟨ρ', s1, ?_, ?_, s4⟩
        · simp only [r2]; exact s2
        · simp only [r2]; exact s3
end
end D94

set_option Elab.async false
set_option linter.all false
set_option maxRecDepth 100000
set_option maxHeartbeats 400000
namespace D94
open PySem L2 Vm M95
def rng' (n : Nat) : List Int := (List.range n).map fun i : Nat => (i : Int)
theorem need_w (l : Bool) {n : Nat} (hn : n < 6) {row : List Int} (hz : row.length = 2 ^ n) (h : ∀ x ∈ row, x = 0 ∨ x = 1) : F_need_row [some (rt l (row.map .int))] = .ret (.tuple (row.map .int), .own) := need_v l n hn row hz h
theorem deciding_w (l : Bool) {n : Nat} (hn : n < 6) {row : List Int} (hz : row.length = 2 ^ n) (h : ∀ x ∈ row, x = 0 ∨ x = 1) : F_deciding [some (rt l (row.map .int))] = .ret (.list ((decBy n row).map enc3), .own) := by
  have e0 := need_w l hn hz h
  have e1 := deciding_v hn hz
  simp [F_deciding, m_deciding, e0, e1]
theorem is_below_w (i j : Nat) (h : i < j) : F_is_below [some (.int i), some (.int j)] = .ret (.bool true, .own) := by
  simp; omega
theorem lessened_w (l : Bool) {n : Nat} (hn : n < 6) {row : List Int} (hz : row.length = 2 ^ n) (h : ∀ x ∈ row, x = 0 ∨ x = 1) {i v : Nat} (hi : i < n) (hv : v < 2) :
    F_lessened [some (rt l (row.map .int)), some (.int i), some (.int v)] = .ret (.list ((atv n row i v).map .int), .own) := by
  have e0 := need_w l hn hz h
  have e1 := heeds_of_v n hn row hz
  have e2 := at_value_w n hn row hz i hi v
  have e3 := is_below_w i n hi
  have e4 := is_below_w v 2 hv
  simp only [is_below_int] at e3 e4
  simp [F_lessened, m_lessened, List.replicate, e0, e1, e2, hi, show (v : Int) < 2 by omega, mkL_int]
theorem nested_w (l : Bool) {n : Nat} (hn : n < 6) {row : List Int} (hz : row.length = 2 ^ n) (h : ∀ x ∈ row, x = 0 ∨ x = 1) (hne : peelL n row ≠ []) :
    F_nested_or_stuck [some (rt l (row.map .int))] = .ret (if isOne (peelL n row) = true then .tuple [.str "nested", .list ((peelS n row (rng' n)).1.map encS), .int ((peelL n row).getD 0 0)] else .tuple [.str "stuck", .list ((peelS n row (rng' n)).2.map .int)], .own) := by
  have e0 := need_w l hn hz h
  have e1 := peeled_v hn hz
  have e2 := is_one_w hne
  have e3 : atI ((peelL n row).map PyData.int) 0 = some (.int ((peelL n row).getD 0 0)) := by
    cases e : peelL n row with
    | nil => exact absurd e hne
    | cons x xs => simp
  simp only [atI_int] at e3
  unfold rng'
  generalize peelL n row = L at e1 e2 e3 ⊢
  generalize peelS n row _ = p at e1 ⊢
  simp [F_nested_or_stuck, m_nested_or_stuck, List.replicate, e0, e1, e2, e3]
  by_cases ho : isOne L = true
  · simp [ho, e3, allOwn, als]
  · simp [ho, allOwn, als]
end D94

set_option Elab.async false
set_option linter.all false
set_option maxRecDepth 100000
set_option maxHeartbeats 400000
namespace D94
open PySem L2 Vm M95
theorem law_at_w {n : Nat} (hn : n < 6) {row : List Int} (hz : row.length = 2 ^ n) {h : Nat} (hh : h < n) (v : Int) :
    F__law_at [some (.list (row.map .int)), some (.int n), some (.int h), some (.int v)] = .ret (.list ((atv n row h v).map .int), .own) := by
  simp [F__law_at, m__law_at]
  rw [vComp_flt [] ((sts n).zip row) (fun p => pair2 (.list (p.1.map .int)) (.int p.2)) (fun p => at_ h p.1 == v) (fun p => .int p.2)
    (by simp [law_states_v n (by omega)]; exact zipWith_zip _ _ _) (by rw [List.length_zip, hz, sts_length]; exact pow6 hn (Nat.min_self _))
    (fun p hp => ⟨_, rfl, by
      have := sts_mem (List.of_mem_zip hp).1
      simp [atN, at_get hh this], by simp⟩)]
  simp [atv, Function.comp_def]
theorem rep_eq (x : Int) (xs : List Int) : ((x :: xs) == List.replicate (x :: xs).length x) = isOne (x :: xs) := by
  have : ∀ ys : List Int, (ys == List.replicate ys.length x) = ys.all fun y => y == x := by
    intro ys
    induction ys with
    | nil => rfl
    | cons y ys ih =>
      simp only [List.length_cons, List.replicate_succ, List.all_cons]
      rw [← ih]
      rfl
  rw [this]
  simp [isOne]
/-- row == [row[0]] * len(row) -/
theorem oRep0 {row : List Int} (hne : row ≠ []) (hs : row.length < 1000) (x : Int) (l l' : Lv) (al al' : List Nat) : oMul ⟨.list [.int x], l, al⟩ ⟨.int row.length, l', al'⟩ = .ret ⟨.list ((List.replicate row.length x).map .int), .own, []⟩ := by
  have h1 : sm62 (row.length : Int) = true := sm62_nat (by omega)
  have h2 : imms (List.replicate row.length (PyData.int x)) = true := by
    have := imms_int (List.replicate row.length x)
    rwa [List.map_replicate] at this
  have h3 : row.length ≤ 16777216 := by omega
  simp [oMul, oMulI, oInt, oRep, h1, mkL, h2, h3]
theorem eqRep {row : List Int} (hne : row ≠ []) (hs : row.length < 1000) (neg : Bool) (l l' : Lv) (al al' : List Nat) :
    oEq neg ⟨.list (row.map .int), l, al⟩ ⟨.list ((List.replicate row.length (row.getD 0 0)).map .int), l', al'⟩ = .ret ⟨.bool (if neg then !isOne row else isOne row), .own, []⟩ := by
  cases row with
  | nil => exact absurd rfl hne
  | cons x xs =>
    have e := rep_eq x xs
    rw [oEq_of (fit_DI _) (fit_DI _) (by decide) (by decide)]
    simp only [eqv_ints, flat_e]
    rw [show (x :: xs).getD 0 0 = x from rfl, e]
theorem at0 {row : List Int} (hne : row ≠ []) : atI (row.map PyData.int) 0 = some (.int (row.getD 0 0)) := by
  cases row with
  | nil => exact absurd rfl hne
  | cons x xs => simp
theorem pow_lt {n : Nat} (hn : n < 6) {m : Nat} (hz : m = 2 ^ n) : m < 1000 := by
  subst hz
  exact Nat.lt_of_le_of_lt (Nat.pow_le_pow_right (by decide) (Nat.le_of_lt_succ hn)) (by decide)
theorem ldec_in {n : Nat} (hn : n < 6) {row : List Int} (hz : row.length = 2 ^ n) {h : Nat} (hh : h < n) {v : Int} (hv : v = 0 ∨ v = 1) (fs : List (Nat × Int × Int)) (hf : fs.length < 1000) (o : Option Sl) {lr : Lv} :
    (sCons (sAsg (tgName 5) (vCall 4 F__law_at (aCons (eName 0) (aCons (eName 1) (aCons (eName 3) (aCons (eName 4) aNil))))))
  (sCons (sIf (asB (ev2 (oEq false) (eName 5) (ev2 oMul (vLst (aCons (ev2 oIx (eName 5) (eInt 0)) aNil)) (vB bLen (aCons (eName 5) aNil))))) (sCons (sApp 2 (vTup (aCons (eName 3) (aCons (eName 4) (aCons (ev2 oIx (eName 5) (eInt 0)) aNil)))))
  sNil) sNil)
  sNil)) [some (.dat (.list (row.map .int)) .shr), some (.dat (.int n) .shr), some (.dat (.list (fs.map enc3)) .own), some (.dat (.int h) lr), some (.dat (.int v) .shr), o] =
    .ret (.nx, [some (.dat (.list (row.map .int)) .shr), some (.dat (.int n) .shr), some (.dat (.list ((fs ++ decAt n row h v).map enc3)) .own), some (.dat (.int h) lr), some (.dat (.int v) .shr), some (.dat (.list ((atv n row h v).map .int)) .own)]) := by
  have e1 := law_at_w hn hz hh v
  have hl := atv_len hn hz hh hv
  have hne := ne_of_pow hl
  have hlt := pow_lt (by omega) hl
  have e3 := at0 hne
  have e5 := fun l l' al al' => oRep0 hne hlt ((atv n row h v).getD 0 0) l l' al al'
  have e6 := fun l l' al al' => eqRep hne hlt false l l' al al'
  have e4 := fun d => mutApp_own (x := 2) (d := d) (env := [some (.dat (.list (row.map .int)) .shr), some (.dat (.int n) .shr), some (.dat (.list (fs.map enc3)) .own), some (.dat (.int h) lr), some (.dat (.int v) .shr), some (.dat (.list ((atv n row h v).map .int)) .own)]) rfl (by simp; omega)
  unfold decAt
  generalize atv n row h v = A at e1 hl hne hlt e3 e4 e5 e6 ⊢
  simp only [atI_int] at e3
  simp only [Bool.false_eq_true, if_false] at e6
  generalize A.getD 0 0 = x0 at e3 e5 e6 ⊢
  have e3' : atI A 0 = some x0 := by cases e : atI A 0 <;> rw [e] at e3 <;> simp at e3; rw [e3]
  simp [e1, e3', e5, e6, -List.map_replicate, -oEq_ints]
  cases q : isOne A with
  | false => simp
  | true => simp [e4, enc3, e3']
end D94

set_option Elab.async false
set_option linter.all false
set_option maxRecDepth 100000
set_option maxHeartbeats 400000
namespace D94
open PySem L2 Vm M95
theorem law_dec_w {n : Nat} (hn : n < 6) {row : List Int} (hz : row.length = 2 ^ n) : F__law_deciding [some (.list (row.map .int)), some (.int n)] = .ret (.list ((decBy n row).map enc3), .own) := by
  let D := fun h => decAt n row h 0 ++ decAt n row h 1
  have hD : ∀ h, (D h).length ≤ 2 := fun h => by
    have := decAt_len n row h 0
    have := decAt_len n row h 1
    simp only [D, List.length_append]; omega
  have r2 : rng 0 2 = [.int 0, .int 1] := rfl
  obtain ⟨o, e⟩ := forLoop_rng (tg := tgName 3) (body := (sCons (sFor (iRange1 (aCons (eInt 2) aNil)) (tgName 4) (sCons (sAsg (tgName 5) (vCall 4 F__law_at (aCons (eName 0) (aCons (eName 1) (aCons (eName 3) (aCons (eName 4) aNil))))))
  (sCons (sIf (asB (ev2 (oEq false) (eName 5) (ev2 oMul (vLst (aCons (ev2 oIx (eName 5) (eInt 0)) aNil)) (vB bLen (aCons (eName 5) aNil))))) (sCons (sApp 2 (vTup (aCons (eName 3) (aCons (eName 4) (aCons (ev2 oIx (eName 5) (eInt 0)) aNil)))))
  sNil) sNil)
  sNil)))
  sNil)) n (fun i (o : Option Sl × Option Sl × Option Sl) => [some (.dat (.list (row.map .int)) .shr), some (.dat (.int n) .shr), some (.dat (.list (((List.range i).flatMap D).map enc3)) .own), o.1, o.2.1, o.2.2]) (none, none, none) (fun i o hi => by
      have hl := flat_len D 2 hD i
      refine ⟨_, (some (.dat (.int i) .shr), some (.dat (.int 1) .shr), some (.dat (.list ((atv n row i 1).map .int)) .own)), rfl, ?_⟩
      have q0 := ldec_in hn hz hi (v := 0) (.inl rfl) ((List.range i).flatMap D) (by omega) o.2.2 (lr := .shr)
      have q1 := ldec_in hn hz hi (v := 1) (.inr rfl) ((List.range i).flatMap D ++ decAt n row i 0) (by have := decAt_len n row i 0; rw [List.length_append]; omega) (some (.dat (.list ((atv n row i 0).map .int)) .own)) (lr := .shr)
      have e3 : (List.range (i + 1)).flatMap D = (List.range i).flatMap D ++ decAt n row i 0 ++ decAt n row i 1 := by
        rw [List.range_succ, List.flatMap_append]
        simp [D]
      rw [e3]
      rw [sCons_e, sFor_e]
      have ei : ∀ env : Vm.Env, iRange1 (aCons (eInt 2) aNil) env = .ret (rng 0 2, []) := fun env => by simp [show sm62 2 = true from rfl]
      rw [ei, r2]
      simp only [M.bind_ret, frz_nil, forLoop]
      simp only [tgName_e, List.set, List.length_cons, List.length_nil]
      rw [if_pos (by decide)]
      simp only [ofOption_some, M.bind_ret]
      rw [q0]
      simp only [M.bind_ret, List.set, List.length_cons, List.length_nil]
      rw [if_pos (by decide)]
      simp only [ofOption_some, M.bind_ret]
      rw [q1]
      rfl)
  simp only [List.range_zero, List.flatMap_nil, List.map_nil] at e
  have e62 : sm62 (n : Int) = true := sm62_nat (by omega)
  unfold F__law_deciding m__law_deciding
  simp [List.replicate, e62, -List.map_map, -sFor_e]
  rw [sFor_e]
  simp [e62]
  rw [e]
  rfl
theorem ddk_len : ∀ (l : List (Nat × Int × Int)) (o : Option Nat), (ddk o l).length ≤ l.length
  | [], _ => Nat.le_refl _
  | q :: l, o => by
    unfold ddk
    split
    · exact Nat.le_succ_of_le (ddk_len l o)
    · simp only [List.length_cons]; exact Nat.succ_le_succ (ddk_len l _)
theorem dec_len (n : Nat) (row : List Int) : (decBy n row).length ≤ 2 * n := by
  unfold decBy
  refine flat_len _ 2 (fun h => ?_) n
  have := decAt_len n row h 0
  have := decAt_len n row h 1
  rw [List.length_append]; omega
def bLay : Vm.Env → M (Fl × Vm.Env) := (sCons (sIf (tOrM (tNotM (tru (eName 1))) (asB (ev2 (oEq true) (ev2 oIx (ev2 oIx (eName 1) (vNeg (eInt 1))) (eInt 0)) (eName 2)))) (sCons (sApp 1 (vTup (aCons (eName 2) (aCons (eName 3) (aCons (eName 4) aNil)))))
  sNil) sNil)
  sNil)
theorem at_last {α : Type} (l : List α) (x : α) : atI (l ++ [x]) (-1) = some x := by
  unfold atI ixN
  rw [if_neg (by decide), if_pos (by simp; omega)]
  have : ((-1 : Int) + ((l ++ [x]).length : Nat)).toNat = l.length := by simp; omega
  show (l ++ [x])[((-1 : Int) + ((l ++ [x]).length : Nat)).toNat]? = _
  rw [this]
  simp
theorem bLay_w {row : List Int} {fs : List (Nat × Int × Int)} (hf : fs.length < 1000) {h : Nat} {v t : Int} : bLay [some (.dat (.tuple (row.map .int)) .shr), some (.dat (.list (fs.map enc3)) .own), some (.dat (.int h) .shr), some (.dat (.int v) .shr), some (.dat (.int t) .shr)] =
    .ret (.nx, [some (.dat (.tuple (row.map .int)) .shr), some (.dat (.list ((if fs.getLast?.map (·.1) = some h then fs else fs ++ [(h, v, t)]).map enc3)) .own), some (.dat (.int h) .shr), some (.dat (.int v) .shr), some (.dat (.int t) .shr)]) := by
  have e4 := fun d => mutApp_own (x := 1) (d := d) (env := [some (.dat (.tuple (row.map .int)) .shr), some (.dat (.list (fs.map enc3)) .own), some (.dat (.int h) .shr), some (.dat (.int v) .shr), some (.dat (.int t) .shr)]) rfl (by simp; omega)
  unfold bLay
  rcases List.eq_nil_or_concat fs with rfl | ⟨fs', p, hc⟩
  · simp [e4, enc3]
    simp at e4
    simp [e4]
  · rw [List.concat_eq_append] at hc
    subst hc
    obtain ⟨ph, pv, pt⟩ := p
    have ea : atI ((fs' ++ [(ph, pv, pt)]).map enc3) (-1) = some (enc3 (ph, pv, pt)) := by
      rw [List.map_append]; exact at_last _ _
    have hne : ((fs' ++ [(ph, pv, pt)]).map enc3).isEmpty = false := by simp
    have hne2 : (fs' ++ [(ph, pv, pt)]).map enc3 ≠ [] := by simp
    by_cases hph : ph = h
    · rw [if_pos (by simp [hph])]
      generalize (fs' ++ [(ph, pv, pt)]).map enc3 = E at ea e4 hne hne2 ⊢
      simp [ea, hne, hne2, enc3, hph]
    · rw [if_neg (by simp [hph]), List.map_append (l₁ := fs' ++ [(ph, pv, pt)])]
      generalize (fs' ++ [(ph, pv, pt)]).map enc3 = E at ea e4 hne hne2 ⊢
      have : ¬ (ph : Int) = h := by omega
      simp [ea, hne, hne2, enc3, this, e4]
theorem ddk_step (fs : List (Nat × Int × Int)) (h : Nat) (v t : Int) (l : List (Nat × Int × Int)) :
    (if fs.getLast?.map (·.1) = some h then fs else fs ++ [(h, v, t)]) ++ ddk ((if fs.getLast?.map (·.1) = some h then fs else fs ++ [(h, v, t)]).getLast?.map (·.1)) l = fs ++ ddk (fs.getLast?.map (·.1)) ((h, v, t) :: l) := by
  by_cases hc : fs.getLast?.map (·.1) = some h
  · rw [if_pos hc]
    conv => rhs; unfold ddk
    rw [if_pos hc]
  · rw [if_neg hc]
    conv => rhs; unfold ddk
    rw [if_neg hc]
    simp
theorem layer_w {n : Nat} (hn : n < 6) {row : List Int} (hz : row.length = 2 ^ n) : F_layer_of [some (.tuple (row.map .int))] = .ret (.list ((ddk none (decBy n row)).map enc3), .own) := by
  have e0 := deciding_v hn hz
  have hlen := dec_len n row
  have key : ∀ (l : List (Nat × Int × Int)) (fs : List (Nat × Int × Int)) (o2 o3 o4 : Option Sl), fs.length + l.length ≤ 100 → ∃ o2' o3' o4', forLoop (tgTup 3 (tgCons (tgName 2) (tgCons (tgName 3) (tgCons (tgName 4) tgNil)))) bLay (l.map enc3) [some (.dat (.tuple (row.map .int)) .shr), some (.dat (.list (fs.map enc3)) .own), o2, o3, o4] =
    .ret (.nx, [some (.dat (.tuple (row.map .int)) .shr), some (.dat (.list ((fs ++ ddk (fs.getLast?.map (·.1)) l).map enc3)) .own), o2', o3', o4']) := by
    intro l
    induction l with
    | nil => intro fs o2 o3 o4 _; exact ⟨o2, o3, o4, by simp [forLoop, ddk]⟩
    | cons q l ih =>
      intro fs o2 o3 o4 hl
      obtain ⟨h, v, t⟩ := q
      simp only [List.length_cons] at hl
      have et : (tgTup 3 (tgCons (tgName 2) (tgCons (tgName 3) (tgCons (tgName 4) tgNil)))) .shr (enc3 (h, v, t)) [some (.dat (.tuple (row.map .int)) .shr), some (.dat (.list (fs.map enc3)) .own), o2, o3, o4] =
        some [some (.dat (.tuple (row.map .int)) .shr), some (.dat (.list (fs.map enc3)) .own), some (.dat (.int h) .shr), some (.dat (.int v) .shr), some (.dat (.int t) .shr)] := by simp [enc3]
      obtain ⟨o2', o3', o4', e5⟩ := ih (if fs.getLast?.map (·.1) = some h then fs else fs ++ [(h, v, t)]) (some (.dat (.int h) .shr)) (some (.dat (.int v) .shr)) (some (.dat (.int t) .shr)) (by split <;> (try simp only [List.length_append, List.length_cons, List.length_nil]) <;> omega)
      rw [ddk_step] at e5
      refine ⟨o2', o3', o4', ?_⟩
      rw [List.map_cons]
      simp only [forLoop]
      rw [et, ofOption_some, M.bind_ret, bLay_w (by omega), M.bind_ret]
      exact e5
  obtain ⟨o2, o3, o4, e⟩ := key (decBy n row) [] none none none (by simp; omega)
  simp only [List.map_nil, List.nil_append, List.getLast?_nil, Option.map_none] at e
  unfold F_layer_of m_layer_of
  unfold bLay at e
  simp [List.replicate, e0, -List.map_map, -sFor_e]
  rw [sFor_e]
  simp [e0, -List.map_map]
  rw [e]
  simp
end D94

set_option Elab.async false
set_option linter.all false
set_option maxRecDepth 100000
set_option maxHeartbeats 400000
namespace D94
open PySem L2 Vm M95
def encL (l : List (Int × Int × Int)) : PyData := .list (l.map encS)
abbrev tg3 (i j k : Nat) : Lv → PyData → Vm.Env → Option Vm.Env := tgTup 3 (tgCons (tgName i) (tgCons (tgName j) (tgCons (tgName k) tgNil)))
abbrev envY (o0 : Option Sl) (row names : List Int) (fs : List (List (Int × Int × Int))) (o4 o5 o6 o7 o8 : Option Sl) : Vm.Env :=
  [o0, some (.dat (.tuple (row.map .int)) .own), SL names, some (.dat (.list (fs.map encL)) .own), o4, o5, o6, o7, o8]
def bIn : Vm.Env → M (Fl × Vm.Env) := (sCons (sAsg (tgName 1) (vCall 3 F_at_value (aCons (eName 1) (aCons (eName 5) (aCons (ev2 oSubI (eInt 1) (eName 6)) aNil)))))
  (sCons (sAsg (tgName 2) (ev2 oAdd (evSl (eName 2) pNo (pSome (eName 5))) (evSl (eName 2) (pSome (ev2 oAdd (eName 5) (eInt 1))) pNo)))
  sNil))
theorem names_cut {names : List Int} (hs : names.length < 100) {h : Nat} (hh : h < names.length) : 
    cutD (names.map .int) none (some (h : Int)) = (names.take h).map .int ∧ cutD (names.map .int) (some ((h : Int) + 1)) none = (names.drop (h + 1)).map .int ∧ atI (names.map PyData.int) (h : Int) = some (.int (names.getD h 0)) ∧
      (∀ l l' al al', oAdd ⟨.list ((names.take h).map .int), l, al⟩ ⟨.list ((names.drop (h + 1)).map .int), l', al'⟩ = .ret ⟨.list ((names.take h ++ names.drop (h + 1)).map .int), .own, []⟩) := by
  refine ⟨by rw [cutD_lo _ _ (by simp; omega), List.map_take], ?_, by rw [atI_map, atN]; simp [hh], fun l l' al al' => oAdd_ints _ _ (by simp; omega) l l' al al'⟩
  have := cutD_hi (names.map .int) (h + 1) (by simp; omega)
  rw [← List.map_drop] at this
  exact this
theorem bIn_w {row names : List Int} (hn : names.length < 6) (hz : row.length = 2 ^ names.length) {h : Nat} (hh : h < names.length) {v t : Int} (fs : List (List (Int × Int × Int))) (o0 o4 o8 : Option Sl) :
    bIn (envY o0 row names fs o4 (some (.dat (.int h) .shr)) (some (.dat (.int v) .shr)) (some (.dat (.int t) .shr)) o8) =
      .ret (.nx, envY o0 (ap1 (row, names) (h, v, t)).1 (ap1 (row, names) (h, v, t)).2 fs o4 (some (.dat (.int h) .shr)) (some (.dat (.int v) .shr)) (some (.dat (.int t) .shr)) o8) := by
  have e2 := at_value_w names.length hn row hz h hh (1 - v)
  obtain ⟨e4, e5, e3, e6⟩ := names_cut (by omega) hh
  have e8 : ∀ lo, mkL ((names.take h).map .int) lo = ⟨.list ((names.take h).map .int), .own, []⟩ := fun lo => mkL_int _ _
  have e9 : ∀ lo, mkL ((names.drop (h + 1)).map .int) lo = ⟨.list ((names.drop (h + 1)).map .int), .own, []⟩ := fun lo => mkL_int _ _
  simp only [List.map_append] at e6
  unfold bIn ap1
  simp [-List.map_take, -List.map_drop, e2, e3, e4, e5, e6, e8, e9]
theorem atv_w {row names : List Int} (hn : names.length < 6) (hz : row.length = 2 ^ names.length) {q : Nat × Int × Int} (hh : q.1 < names.length) (hv : q.2.1 = 0 ∨ q.2.1 = 1) :
    (ap1 (row, names) q).2.length + 1 = names.length ∧ (ap1 (row, names) q).1.length = 2 ^ (ap1 (row, names) q).2.length := by
  have h1 : (ap1 (row, names) q).2.length + 1 = names.length := by
    unfold ap1
    simp only [List.length_append, List.length_take, List.length_drop]
    omega
  refine ⟨h1, ?_⟩
  have := atv_len hn hz hh (v := 1 - q.2.1) (by omega)
  rw [show (ap1 (row, names) q).1 = atv names.length row q.1 (1 - q.2.1) from rfl, this]
  congr 1
  omega
theorem in_go : ∀ (D : List (Nat × Int × Int)) (row names : List Int) (fs : List (List (Int × Int × Int))) (o0 o4 o5 o6 o7 o8 : Option Sl), D.Pairwise (fun a b => b.1 < a.1) → (∀ q ∈ D, q.1 < names.length ∧ (q.2.1 = 0 ∨ q.2.1 = 1)) → names.length < 6 → row.length = 2 ^ names.length →
    (∃ p5 p6 p7, forLoop (tg3 5 6 7) bIn (D.map enc3) (envY o0 row names fs o4 o5 o6 o7 o8) = .ret (.nx, envY o0 (D.foldl ap1 (row, names)).1 (D.foldl ap1 (row, names)).2 fs o4 p5 p6 p7 o8)) ∧
      (D.foldl ap1 (row, names)).2.length + D.length = names.length ∧ (D.foldl ap1 (row, names)).1.length = 2 ^ (D.foldl ap1 (row, names)).2.length
  | [], row, names, fs, o0, o4, o5, o6, o7, o8, _, _, hn, hz => ⟨⟨o5, o6, o7, rfl⟩, rfl, hz⟩
  | q :: D, row, names, fs, o0, o4, o5, o6, o7, o8, hp, hq, hn, hz => by
    obtain ⟨p1, p2⟩ := List.pairwise_cons.mp hp
    obtain ⟨hh, hv⟩ := hq q List.mem_cons_self
    obtain ⟨a1, a2⟩ := atv_w hn hz hh hv
    obtain ⟨h, v, t⟩ := q
    obtain ⟨⟨r5, r6, r7, e⟩, l1, l2⟩ := in_go D (ap1 (row, names) (h, v, t)).1 (ap1 (row, names) (h, v, t)).2 fs o0 o4 (some (.dat (.int h) .shr)) (some (.dat (.int v) .shr)) (some (.dat (.int t) .shr)) o8 p2 (fun q' hq' => by
      have := p1 q' hq'
      exact ⟨by simp only at this ⊢; omega, (hq q' (List.mem_cons_of_mem _ hq')).2⟩) (by omega) a2
    refine ⟨⟨r5, r6, r7, ?_⟩, ?_, ?_⟩
    · have et : (tg3 5 6 7) .shr (enc3 (h, v, t)) (envY o0 row names fs o4 o5 o6 o7 o8) = some (envY o0 row names fs o4 (some (.dat (.int h) .shr)) (some (.dat (.int v) .shr)) (some (.dat (.int t) .shr)) o8) := by simp [enc3]
      rw [List.map_cons]
      simp only [forLoop]
      rw [et, ofOption_some, M.bind_ret, bIn_w hn hz hh, M.bind_ret]
      exact e
    · rw [List.foldl_cons]
      simp only [List.length_cons]
      have : (D.foldl ap1 (ap1 (row, names) (h, v, t))).2.length + D.length = (ap1 (row, names) (h, v, t)).2.length := l1
      omega
    · rw [List.foldl_cons]; exact l2
def cLy : Vm.Env → M Bool := tNotM (tru (vCall 1 F_is_one (aCons (eName 1) aNil)))
def bLy : Vm.Env → M (Fl × Vm.Env) := (sCons (sAsg (tgName 4) (vCall 1 F_layer_of (aCons (eName 1) aNil)))
  (sCons (sIf (tNotM (tru (eName 4))) (sCons (sRaise "NotNested" [] aNil)
  sNil) sNil)
  (sCons (sApp 3 (vComp (iSeq (eName 4)) [5, 6, 8] (tgTup 3 (tgCons (tgName 5) (tgCons (tgName 6) (tgCons (tgName 8) tgNil)))) cYes (vTup (aCons (ev2 oIx (eName 2) (eName 5)) (aCons (eName 6) (aCons (eName 8) aNil))))))
  (sCons (sFor (iSeq (vRev (eName 4))) (tgTup 3 (tgCons (tgName 5) (tgCons (tgName 6) (tgCons (tgName 7) tgNil)))) bIn)
  sNil))))
theorem bLy_raise {row names : List Int} (hn : names.length < 6) (hz : row.length = 2 ^ names.length) (fs : List (List (Int × Int × Int))) (o0 o4 o5 o6 o7 o8 : Option Sl) (hd : ddk none (decBy names.length row) = []) :
    bLy (envY o0 row names fs o4 o5 o6 o7 o8) = .raise ⟨"NotNested", []⟩ := by
  have e1 := layer_w hn hz
  rw [hd] at e1
  unfold bLy
  simp [e1]
theorem imms_enc3 (l : List (Nat × Int × Int)) : imms (l.map enc3) = true := imms_map fun _ _ => rfl
theorem bLy_core {row names : List Int} (hn : names.length < 6) (fs : List (List (Int × Int × Int))) (hf : fs.length < 100) (o0 o4 o5 o6 o7 o8 : Option Sl) (L : List (Nat × Int × Int)) (hne : L ≠ []) (hmem : ∀ q ∈ L, q.1 < names.length ∧ (q.2.1 = 0 ∨ q.2.1 = 1)) (hlen : L.length ≤ 2 * names.length)
    (e1 : F_layer_of [some (.tuple (row.map .int))] = .ret (.list (L.map enc3), .own)) (z : Vm.Env)
    (e : forLoop (tg3 5 6 7) bIn (L.reverse.map enc3) (envY o0 row names (fs ++ [L.map fun q => (names.getD q.1 0, q.2.1, q.2.2)]) (some (.dat (.list (L.map enc3)) .own)) o5 o6 o7 o8) = .ret (.nx, z)) :
    bLy (envY o0 row names fs o4 o5 o6 o7 o8) = .ret (.nx, z) := by
  have ec : vComp (iSeq (eName 4)) [5, 6, 8] (tgTup 3 (tgCons (tgName 5) (tgCons (tgName 6) (tgCons (tgName 8) tgNil)))) cYes (vTup (aCons (ev2 oIx (eName 2) (eName 5)) (aCons (eName 6) (aCons (eName 8) aNil)))) (envY o0 row names fs (some (.dat (.list (L.map enc3)) .own)) o5 o6 o7 o8) =
        .ret ⟨.list (L.map fun q => encS (names.getD q.1 0, q.2.1, q.2.2)), .own, []⟩ := by
    refine vComp_yes [4] L enc3 (fun q => encS (names.getD q.1 0, q.2.1, q.2.2)) (by simp) (by simp; omega) fun q hq => ⟨_, rfl, ?_⟩
    obtain ⟨_, _, e3, _⟩ := names_cut (by omega) (hmem q hq).1
    have e3' : atI names (q.1 : Int) = some (names.getD q.1 0) := by rw [atN]; simp [(hmem q hq).1]
    generalize names.getD q.1 0 = x at e3' ⊢
    simp [e3', encS]
  have e4 := fun d => mutApp_own (x := 3) (d := d) (env := envY o0 row names fs (some (.dat (.list (L.map enc3)) .own)) o5 o6 o7 o8) rfl (by simp; omega)
  have er : mkL (L.map enc3).reverse [4] = ⟨.list (L.reverse.map enc3), .own, []⟩ := by
    rw [← List.map_reverse]; exact mkL_own (imms_enc3 _)
  have hE : (L.map fun q => encS (names.getD q.1 0, q.2.1, q.2.2)) = (L.map fun q => (names.getD q.1 0, q.2.1, q.2.2)).map encS := by rw [List.map_map]; rfl
  unfold bLy
  have s1 : (sAsg (tgName 4) (vCall 1 F_layer_of (aCons (eName 1) aNil))) (envY o0 row names fs o4 o5 o6 o7 o8) = .ret (.nx, envY o0 row names fs (some (.dat (.list (L.map enc3)) .own)) o5 o6 o7 o8) := by simp [e1]
  rw [sCons_e, s1, M.bind_ret]
  simp only []
  have s2 : (sIf (tNotM (tru (eName 4))) (sCons (sRaise "NotNested" [] aNil)
  sNil) sNil) (envY o0 row names fs (some (.dat (.list (L.map enc3)) .own)) o5 o6 o7 o8) = .ret (.nx, envY o0 row names fs (some (.dat (.list (L.map enc3)) .own)) o5 o6 o7 o8) := by
    cases L with
    | nil => exact absurd rfl hne
    | cons q L => simp
  rw [sCons_e, s2, M.bind_ret]
  simp only []
  rw [sCons_e, sApp_e, ec]
  rw [if_pos (by rfl)]
  simp only [M.bind_ret]
  rw [e4, ofOption_some, M.bind_ret, M.bind_ret]
  simp only []
  rw [sCons_e, sFor_e]
  have s3 : iSeq (vRev (eName 4)) (envY o0 row names (fs ++ [L.map fun q => (names.getD q.1 0, q.2.1, q.2.2)]) (some (.dat (.list (L.map enc3)) .own)) o5 o6 o7 o8) = .ret (L.reverse.map enc3, []) := by
    simp [er]
  have s4 : (envY o0 row names fs (some (.dat (.list (L.map enc3)) .own)) o5 o6 o7 o8).set 3 (some (.dat (.list (fs.map encL ++ [.list (L.map fun q => encS (names.getD q.1 0, q.2.1, q.2.2))])) .own)) = envY o0 row names (fs ++ [L.map fun q => (names.getD q.1 0, q.2.1, q.2.2)]) (some (.dat (.list (L.map enc3)) .own)) o5 o6 o7 o8 := by
    rw [hE]
    simp [encL]
  rw [s4, s3, M.bind_ret]
  simp only [frz_nil]
  rw [e]
  rfl
theorem bLy_nx {row names : List Int} (hn : names.length < 6) (hz : row.length = 2 ^ names.length) (fs : List (List (Int × Int × Int))) (hf : fs.length < 100) (o0 o4 o5 o6 o7 o8 : Option Sl) (hd : ddk none (decBy names.length row) ≠ []) :
    (∃ p4 p5 p6 p7 p8, bLy (envY o0 row names fs o4 o5 o6 o7 o8) = .ret (.nx, envY o0 ((ddk none (decBy names.length row)).reverse.foldl ap1 (row, names)).1 ((ddk none (decBy names.length row)).reverse.foldl ap1 (row, names)).2 (fs ++ [(ddk none (decBy names.length row)).map fun q => (names.getD q.1 0, q.2.1, q.2.2)]) p4 p5 p6 p7 p8)) ∧
      ((ddk none (decBy names.length row)).reverse.foldl ap1 (row, names)).2.length < names.length ∧ ((ddk none (decBy names.length row)).reverse.foldl ap1 (row, names)).1.length = 2 ^ ((ddk none (decBy names.length row)).reverse.foldl ap1 (row, names)).2.length := by
  have e1 := layer_w hn hz
  have asc := (ddk_asc (decBy names.length row) none (dec_sorted _ _) (fun x hx => by cases hx)).1
  have hmem : ∀ q ∈ ddk none (decBy names.length row), q.1 < names.length ∧ (q.2.1 = 0 ∨ q.2.1 = 1) := fun q hq => let ⟨a, b, _, _⟩ := dec_prop (ddk_sub _ _ q hq); ⟨a, b⟩
  have hlen : (ddk none (decBy names.length row)).length ≤ 2 * names.length := Nat.le_trans (ddk_len _ _) (dec_len _ _)
  generalize ddk none (decBy names.length row) = L at hd e1 asc hmem hlen ⊢
  obtain ⟨⟨p5, p6, p7, e⟩, l1, l2⟩ := in_go L.reverse row names (fs ++ [L.map fun q => (names.getD q.1 0, q.2.1, q.2.2)]) o0 (some (.dat (.list (L.map enc3)) .own)) o5 o6 o7 o8 (List.pairwise_reverse.mpr asc) (fun q hq => hmem q (List.mem_reverse.mp hq)) hn hz
  refine ⟨⟨_, p5, p6, p7, o8, bLy_core hn fs hf o0 o4 o5 o6 o7 o8 L hd hmem hlen e1 _ e⟩, ?_, l2⟩
  simp only [List.length_reverse] at l1
  have : 0 < L.length := List.length_pos_iff.mpr hd
  omega
theorem whileLoop_raise {c : Vm.Env → M Bool} {body : Vm.Env → M (Fl × Vm.Env)} {n : Nat} {env : Vm.Env} {x : Exn} (h : c env = .ret true) (hb : body env = .raise x) : whileLoop c body (n + 1) env = .raise x := by
  rw [whileLoop, h]
  simp [hb]
theorem cLy_w {row names : List Int} {n : Nat} (hz : row.length = 2 ^ n) (fs : List (List (Int × Int × Int))) (o0 o4 o5 o6 o7 o8 : Option Sl) : cLy (envY o0 row names fs o4 o5 o6 o7 o8) = .ret (!isOne row) := by
  have e1 := is_one_w (ne_of_pow hz)
  unfold cLy
  simp [e1]
theorem lay_go : ∀ (m F : Nat) (row names : List Int) (fs : List (List (Int × Int × Int))) (o0 o4 o5 o6 o7 o8 : Option Sl), m < F → names.length ≤ m → names.length < 6 → fs.length + m < 100 → row.length = 2 ^ names.length →
    (isOne (layF m row names).2.2 = true ∧ ∃ p4 p5 p6 p7 p8, whileLoop cLy bLy F (envY o0 row names fs o4 o5 o6 o7 o8) = .ret (.nx, envY o0 (layF m row names).2.2 (layF m row names).2.1 (fs ++ (layF m row names).1) p4 p5 p6 p7 p8)) ∨
      (isOne (layF m row names).2.2 = false ∧ whileLoop cLy bLy F (envY o0 row names fs o4 o5 o6 o7 o8) = .raise ⟨"NotNested", []⟩)
  | m, 0, row, names, fs, o0, o4, o5, o6, o7, o8, hF, _, _, _, _ => by omega
  | m, F + 1, row, names, fs, o0, o4, o5, o6, o7, o8, hF, hm, hn, hf, hz => by
    have hc := cLy_w hz (names := names) fs o0 o4 o5 o6 o7 o8
    cases m with
    | zero =>
      have h1 : isOne row = true := isOne_short (by rw [hz, Nat.le_zero.mp hm])
      rw [h1] at hc
      exact .inl ⟨h1, o4, o5, o6, o7, o8, by rw [whileLoop_end (c := cLy) (body := bLy) (show cLy _ = .ret false from hc)]; simp [layF]⟩
    | succ m =>
      cases h1 : isOne row with
      | true =>
        rw [h1] at hc
        refine .inl ⟨by simp [layF, h1], o4, o5, o6, o7, o8, ?_⟩
        rw [whileLoop_end (c := cLy) (body := bLy) (show cLy _ = .ret false from hc)]
        simp [layF, h1]
      | false =>
        rw [h1] at hc
        have hc : cLy (envY o0 row names fs o4 o5 o6 o7 o8) = .ret true := hc
        by_cases hd : ddk none (decBy names.length row) = []
        · right
          rw [whileLoop_raise hc (bLy_raise hn hz fs o0 o4 o5 o6 o7 o8 hd)]
          simp [layF, h1, hd]
        · obtain ⟨⟨p4, p5, p6, p7, p8, e⟩, l1, l2⟩ := bLy_nx hn hz fs (by omega) o0 o4 o5 o6 o7 o8 hd
          have ih := lay_go m F _ _ (fs ++ [(ddk none (decBy names.length row)).map fun q => (names.getD q.1 0, q.2.1, q.2.2)]) o0 p4 p5 p6 p7 p8 (by omega) (by omega) (by omega) (by simp; omega) l2
          rw [whileLoop_step hc e]
          have eL : layF (m + 1) row names = (((ddk none (decBy names.length row)).map fun q => (names.getD q.1 0, q.2.1, q.2.2)) :: (layF m ((ddk none (decBy names.length row)).reverse.foldl ap1 (row, names)).1 ((ddk none (decBy names.length row)).reverse.foldl ap1 (row, names)).2).1, (layF m ((ddk none (decBy names.length row)).reverse.foldl ap1 (row, names)).1 ((ddk none (decBy names.length row)).reverse.foldl ap1 (row, names)).2).2) := by
            conv => lhs; unfold layF
            rw [h1]
            simp only [Bool.false_eq_true, if_false]
          rw [eL]
          rw [List.append_assoc] at ih
          exact ih
theorem rng'_len (n : Nat) : (rng' n).length = n := by simp [rng']
theorem lRg0 {n : Nat} (hn : n < 100) : lRg 0 (n : Int) = .ret ⟨.list ((rng' n).map .int), .own, []⟩ := by
  have h1 : okRg 0 (n : Int) = true := by
    unfold okRg
    rw [show sm62 0 = true from rfl, sm62_nat (by omega)]
    simp; omega
  unfold lRg
  rw [if_pos h1]
  simp [rng0, rng', List.map_map, Function.comp_def]
theorem layers_w (l : Bool) {n : Nat} (hn : n < 6) {row : List Int} (hz : row.length = 2 ^ n) (h : ∀ x ∈ row, x = 0 ∨ x = 1) :
    F_layers [some (rt l (row.map .int))] = if isOne (layF 6 row (rng' n)).2.2 = true then .ret (.list ((layF 6 row (rng' n)).1.map encL), .own) else .raise ⟨"NotNested", []⟩ := by
  have e0 := need_w l hn hz h
  have e1 := heeds_of_v n hn row hz
  have hl := rng'_len n
  have er := lRg0 (n := n) (by omega)
  have e2 := lay_go 6 100 row (rng' n) [] (some (.dat (rt l (row.map .int)) .shr)) none none none none none (by decide) (by omega) (by omega) (by decide) (by rw [hl]; exact hz)
  generalize layF 6 row (rng' n) = Z at e2 ⊢
  have e3 : m_layers [some (.dat (rt l (row.map .int)) .shr), none, none, none, none, none, none, none, none] = (whileLoop cLy bLy 100 (envY (some (.dat (rt l (row.map .int)) .shr)) row (rng' n) [] none none none none none) >>= fun p => match p.1 with
    | .nx => (sCons (sRet (eName 3)) sNil) p.2
    | _ => .ret p) := by
    unfold m_layers
    rw [sCons_e]
    have s1 : (sAsg (tgName 1) (vCall 1 F_need_row (aCons (eName 0) aNil))) [some (.dat (rt l (row.map .int)) .shr), none, none, none, none, none, none, none, none] =
      .ret (.nx, [some (.dat (rt l (row.map .int)) .shr), some (.dat (.tuple (row.map .int)) .own), none, none, none, none, none, none, none]) := by
      cases l
      · simp only [rt, Bool.false_eq_true, if_false] at e0 ⊢
        simp [e0]
      · simp only [rt, if_true] at e0 ⊢
        simp [e0]
    rw [s1, M.bind_ret]
    simp only []
    rw [sCons_e]
    simp [vRg1, e1, er, als, allOwn, -List.map_map]
    rfl
  unfold F_layers
  rw [fnOf_e, env0_e]
  simp only [List.map_cons, List.map_nil, List.length_cons, List.length_nil, List.replicate, List.cons_append, List.nil_append]
  rw [e3]
  rcases e2 with ⟨ho, p4, p5, p6, p7, p8, h⟩ | ⟨ho, h⟩
  · rw [h, if_pos ho]
    simp
  · rw [h, if_neg (by rw [ho]; decide)]
    rfl
end D94

set_option Elab.async false
set_option linter.all false
set_option maxRecDepth 100000
set_option maxHeartbeats 400000
namespace D94
open PySem L2 Vm M95
abbrev envW (s0 s1 : Option Sl) (row names : List Int) (fs : List (List (Int × Int × Int))) (o5 o6 o7 o8 o9 o10 o11 : Option Sl) : Vm.Env :=
  [s0, s1, some (.dat (.list (row.map .int)) .own), SL names, some (.dat (.list (fs.map encL)) .own), o5, o6, o7, o8, o9, o10, o11]
def cW : Vm.Env → M Bool := (asB (ev2 (oEq true) (eName 2) (ev2 oMul (vLst (aCons (ev2 oIx (eName 2) (eInt 0)) aNil)) (vB bLen (aCons (eName 2) aNil)))))
def bWi : Vm.Env → M (Fl × Vm.Env) := (sCons (sAsg (tgName 2) (vCall 4 F__law_at (aCons (eName 2) (aCons (vB bLen (aCons (eName 3) aNil)) (aCons (eName 7) (aCons (ev2 oSubI (eInt 1) (eName 8)) aNil))))))
  (sCons (sAsg (tgName 3) (ev2 oAdd (evSl (eName 3) pNo (pSome (eName 7))) (evSl (eName 3) (pSome (ev2 oAdd (eName 7) (eInt 1))) pNo)))
  sNil))
def cpW : Vm.Env → M RV := (vComp (itEnum (aCons (eName 5) aNil)) [10, 11] (tgTup 2 (tgCons (tgName 10) (tgCons (tgName 11) tgNil))) (tOrM (asB (ev2 (oEq false) (eName 10) (eInt 0))) (asB (ev2 (oEq true) (ev2 oIx (ev2 oIx (eName 5) (ev2 oSubI (eName 10) (eInt 1))) (eInt 0)) (ev2 oIx (eName 11) (eInt 0))))) (eName 11))
def bW : Vm.Env → M (Fl × Vm.Env) := (sCons (sAsg (tgName 5) (vCall 2 F__law_deciding (aCons (eName 2) (aCons (vB bLen (aCons (eName 3) aNil)) aNil))))
  (sCons (sAsg (tgName 6) cpW)
  (sCons (sIf (asB (ev2 (oEq false) (eName 6) (vLst aNil))) (sCons sBrk
  sNil) sNil)
  (sCons (sApp 4 (vComp (iSeq (eName 6)) [7, 8, 9] (tgTup 3 (tgCons (tgName 7) (tgCons (tgName 8) (tgCons (tgName 9) tgNil)))) cYes (vTup (aCons (ev2 oIx (eName 3) (eName 7)) (aCons (eName 8) (aCons (eName 9) aNil))))))
  (sCons (sFor (iSeq (vRev (eName 6))) (tgTup 3 (tgCons (tgName 7) (tgCons (tgName 8) (tgCons (tgName 9) tgNil)))) bWi)
  sNil)))))
theorem cW_w {row names : List Int} {n : Nat} (hn : n < 6) (hz : row.length = 2 ^ n) (s0 s1 : Option Sl) (fs : List (List (Int × Int × Int))) (o5 o6 o7 o8 o9 o10 o11 : Option Sl) : cW (envW s0 s1 row names fs o5 o6 o7 o8 o9 o10 o11) = .ret (!isOne row) := by
  have hne := ne_of_pow hz
  have hlt := pow_lt hn hz
  have e3 := at0 hne
  have e5 := fun l l' al al' => oRep0 hne hlt (row.getD 0 0) l l' al al'
  have e6 := fun l l' al al' => eqRep hne hlt true l l' al al'
  generalize row.getD 0 0 = x0 at e3 e5 e6
  have e3' : atI row 0 = some x0 := by cases e : atI row 0 <;> simp [e] at e3; rw [e3]
  unfold cW
  simp only [if_true] at e6
  simp [e3', e5, e6, -List.map_replicate, -oEq_ints]
theorem bWi_w {row names : List Int} (hn : names.length < 6) (hz : row.length = 2 ^ names.length) {h : Nat} (hh : h < names.length) {v t : Int} (fs : List (List (Int × Int × Int))) (s0 s1 o5 o6 o10 o11 : Option Sl) :
    bWi (envW s0 s1 row names fs o5 o6 (some (.dat (.int h) .shr)) (some (.dat (.int v) .shr)) (some (.dat (.int t) .shr)) o10 o11) =
      .ret (.nx, envW s0 s1 (ap1 (row, names) (h, v, t)).1 (ap1 (row, names) (h, v, t)).2 fs o5 o6 (some (.dat (.int h) .shr)) (some (.dat (.int v) .shr)) (some (.dat (.int t) .shr)) o10 o11) := by
  have e2 := law_at_w hn hz hh (1 - v)
  obtain ⟨e4, e5, e3, e6⟩ := names_cut (by omega) hh
  have e8 : ∀ lo, mkL ((names.take h).map .int) lo = ⟨.list ((names.take h).map .int), .own, []⟩ := fun lo => mkL_int _ _
  have e9 : ∀ lo, mkL ((names.drop (h + 1)).map .int) lo = ⟨.list ((names.drop (h + 1)).map .int), .own, []⟩ := fun lo => mkL_int _ _
  simp only [List.map_append] at e6
  unfold bWi ap1
  simp [-List.map_take, -List.map_drop, e2, e3, e4, e5, e6, e8, e9]
theorem inW_go : ∀ (D : List (Nat × Int × Int)) (row names : List Int) (fs : List (List (Int × Int × Int))) (s0 s1 o5 o6 o7 o8 o9 o10 o11 : Option Sl), D.Pairwise (fun a b => b.1 < a.1) → (∀ q ∈ D, q.1 < names.length ∧ (q.2.1 = 0 ∨ q.2.1 = 1)) → names.length < 6 → row.length = 2 ^ names.length →
    (∃ p7 p8 p9, forLoop (tg3 7 8 9) bWi (D.map enc3) (envW s0 s1 row names fs o5 o6 o7 o8 o9 o10 o11) = .ret (.nx, envW s0 s1 (D.foldl ap1 (row, names)).1 (D.foldl ap1 (row, names)).2 fs o5 o6 p7 p8 p9 o10 o11))
  | [], row, names, fs, s0, s1, o5, o6, o7, o8, o9, o10, o11, _, _, hn, hz => ⟨o7, o8, o9, rfl⟩
  | q :: D, row, names, fs, s0, s1, o5, o6, o7, o8, o9, o10, o11, hp, hq, hn, hz => by
    obtain ⟨p1, p2⟩ := List.pairwise_cons.mp hp
    obtain ⟨hh, hv⟩ := hq q List.mem_cons_self
    obtain ⟨a1, a2⟩ := atv_w hn hz hh hv
    obtain ⟨h, v, t⟩ := q
    obtain ⟨r5, r6, r7, e⟩ := inW_go D (ap1 (row, names) (h, v, t)).1 (ap1 (row, names) (h, v, t)).2 fs s0 s1 o5 o6 (some (.dat (.int h) .shr)) (some (.dat (.int v) .shr)) (some (.dat (.int t) .shr)) o10 o11 p2 (fun q' hq' => by
      have := p1 q' hq'
      exact ⟨by simp only at this ⊢; omega, (hq q' (List.mem_cons_of_mem _ hq')).2⟩) (by omega) a2
    refine ⟨r5, r6, r7, ?_⟩
    have et : (tg3 7 8 9) .shr (enc3 (h, v, t)) (envW s0 s1 row names fs o5 o6 o7 o8 o9 o10 o11) = some (envW s0 s1 row names fs o5 o6 (some (.dat (.int h) .shr)) (some (.dat (.int v) .shr)) (some (.dat (.int t) .shr)) o10 o11) := by simp [enc3]
    rw [List.map_cons]
    simp only [forLoop]
    rw [et, ofOption_some, M.bind_ret, bWi_w hn hz hh, M.bind_ret]
    exact e
/-- each heed once, by the places -/
def firstC (B : List (Nat × Int × Int)) (p : (Nat × Int × Int) × Nat) : Bool := p.2 == 0 || (B.getD (p.2 - 1) (0, 0, 0)).1 != p.1.1
theorem ddk_zip (B : List (Nat × Int × Int)) : ∀ (l pre : List (Nat × Int × Int)), B = pre ++ l → ((l.zipIdx pre.length).filter (firstC B)).map (·.1) = ddk (pre.getLast?.map (·.1)) l
  | [], pre, _ => rfl
  | q :: l, pre, hB => by
    have ih := ddk_zip B l (pre ++ [q]) (by rw [hB, List.append_assoc]; rfl)
    rw [List.length_append, List.length_cons, List.length_nil, Nat.zero_add] at ih
    rw [List.zipIdx_cons, List.filter_cons]
    have hc : firstC B (q, pre.length) = !decide (pre.getLast?.map (·.1) = some q.1) := by
      unfold firstC
      rcases List.eq_nil_or_concat pre with hp | ⟨pre', p, hp⟩
      · subst hp; rfl
      · rw [List.concat_eq_append] at hp
        subst hp
        have : B.getD ((pre' ++ [p]).length - 1) (0, 0, 0) = p := by
          rw [hB]
          simp
        rw [this]
        simp [bne]
        by_cases e : p.1 = q.1 <;> simp [e]
    unfold ddk
    by_cases e : pre.getLast?.map (·.1) = some q.1
    · rw [if_pos e, if_neg (by rw [hc]; simp [e])]
      simp only [List.getLast?_append, List.getLast?_singleton, Option.some_or, Option.map_some] at ih
      rw [ih, e]
    · rw [if_neg e, if_pos (by rw [hc]; simp [e]), List.map_cons]
      simp only [List.getLast?_append, List.getLast?_singleton, Option.some_or, Option.map_some] at ih
      rw [ih]
theorem cpW_w {B : List (Nat × Int × Int)} (hB : B.length < 1000) {row names : List Int} {fs : List (List (Int × Int × Int))} (s0 s1 o6 o7 o8 o9 o10 o11 : Option Sl) :
    cpW (envW s0 s1 row names fs (some (.dat (.list (B.map enc3)) .own)) o6 o7 o8 o9 o10 o11) = .ret ⟨.list ((ddk none B).map enc3), .own, []⟩ := by
  have e0 := ddk_zip B B [] rfl
  simp only [List.length_nil, List.getLast?_nil, Option.map_none] at e0
  unfold cpW
  rw [vComp_flt [5] B.zipIdx (fun p => .tuple [.int (p.2 : Nat), enc3 p.1]) (firstC B) (fun p => enc3 p.1) (by simp [enumL_map]) (by simp; omega) (fun p hp => ⟨_, rfl, ?_⟩)]
  · rw [← e0, List.map_map]
    rfl
  · obtain ⟨⟨h, v, t⟩, i⟩ := p
    have hi := List.mem_zipIdx' hp
    obtain ⟨hi, he⟩ := hi
    have hm : imm (enc3 (h, v, t)) = true := rfl
    constructor
    · cases i with
      | zero => simp [firstC, enc3]
      | succ i =>
        have e1 : atI (B.map enc3) (i : Int) = some (enc3 (B.getD i (0, 0, 0))) := by
          rw [atI_map, atN]
          simp [show i < B.length by omega]
        rcases hq : B.getD i (0, 0, 0) with ⟨h', v', t'⟩
        rw [hq] at e1
        have e2 : firstC B ((h, v, t), i + 1) = (h' != h) := by
          unfold firstC
          rw [show i + 1 - 1 = i from rfl, hq]
          simp
        rw [e2]
        have e3 : ((i : Int) + 1 == 0) = false := by simp; omega
        have e4 : ((i : Int) + 1 - 1) = i := by omega
        simp [e1, e3, e4, enc3]
        try simp [bne]
        rw [Bool.eq_iff_iff, beq_iff_eq, beq_iff_eq, Int.natCast_inj]
    · simp [enc3]
theorem bW_brk {row names : List Int} (hn : names.length < 6) (hz : row.length = 2 ^ names.length) (fs : List (List (Int × Int × Int))) (s0 s1 o5 o6 o7 o8 o9 o10 o11 : Option Sl) (hd : ddk none (decBy names.length row) = []) :
    ∃ p5 p6 p7 p8 p9 p10 p11, bW (envW s0 s1 row names fs o5 o6 o7 o8 o9 o10 o11) = .ret (.brk, envW s0 s1 row names fs p5 p6 p7 p8 p9 p10 p11) := by
  have e1 := law_dec_w hn hz
  have hlen := dec_len names.length row
  have e2 := cpW_w (B := decBy names.length row) (by omega) (row := row) (names := names) (fs := fs) s0 s1 o6 o7 o8 o9 o10 o11
  rw [hd] at e2
  refine ⟨some (.dat (.list ((decBy names.length row).map enc3)) .own), some (.dat (.list []) .own), o7, o8, o9, o10, o11, ?_⟩
  unfold bW
  have s1' : (sAsg (tgName 5) (vCall 2 F__law_deciding (aCons (eName 2) (aCons (vB bLen (aCons (eName 3) aNil)) aNil)))) (envW s0 s1 row names fs o5 o6 o7 o8 o9 o10 o11) = .ret (.nx, envW s0 s1 row names fs (some (.dat (.list ((decBy names.length row).map enc3)) .own)) o6 o7 o8 o9 o10 o11) := by simp [e1]
  rw [sCons_e, s1', M.bind_ret]
  simp only []
  rw [sCons_e, sAsg_e, e2]
  have oe : ∀ l l' al al', oEq false ⟨.list [], l, al⟩ ⟨.list [], l', al'⟩ = .ret ⟨.bool true, .own, []⟩ := fun l l' al al' => oEq_ints false [] [] l l' al al'
  simp [oe, sBrk]
theorem bW_core {row names : List Int} (hn : names.length < 6) (fs : List (List (Int × Int × Int))) (hf : fs.length < 100) (s0 s1 o5 o6 o7 o8 o9 o10 o11 : Option Sl) (B L : List (Nat × Int × Int)) (hB : B.length < 1000) (hL : ddk none B = L) (hne : L ≠ []) (hmem : ∀ q ∈ L, q.1 < names.length ∧ (q.2.1 = 0 ∨ q.2.1 = 1)) (hlen : L.length ≤ 2 * names.length)
    (e1 : F__law_deciding [some (.list (row.map .int)), some (.int names.length)] = .ret (.list (B.map enc3), .own)) (z : Vm.Env)
    (e : forLoop (tg3 7 8 9) bWi (L.reverse.map enc3) (envW s0 s1 row names (fs ++ [L.map fun q => (names.getD q.1 0, q.2.1, q.2.2)]) (some (.dat (.list (B.map enc3)) .own)) (some (.dat (.list (L.map enc3)) .own)) o7 o8 o9 o10 o11) = .ret (.nx, z)) :
    bW (envW s0 s1 row names fs o5 o6 o7 o8 o9 o10 o11) = .ret (.nx, z) := by
  have e2 := cpW_w hB (row := row) (names := names) (fs := fs) s0 s1 o6 o7 o8 o9 o10 o11
  rw [hL] at e2
  have ec : vComp (iSeq (eName 6)) [7, 8, 9] (tgTup 3 (tgCons (tgName 7) (tgCons (tgName 8) (tgCons (tgName 9) tgNil)))) cYes (vTup (aCons (ev2 oIx (eName 3) (eName 7)) (aCons (eName 8) (aCons (eName 9) aNil)))) (envW s0 s1 row names fs (some (.dat (.list (B.map enc3)) .own)) (some (.dat (.list (L.map enc3)) .own)) o7 o8 o9 o10 o11) =
        .ret ⟨.list (L.map fun q => encS (names.getD q.1 0, q.2.1, q.2.2)), .own, []⟩ := by
    refine vComp_yes [6] L enc3 (fun q => encS (names.getD q.1 0, q.2.1, q.2.2)) (by simp) (by simp; omega) fun q hq => ⟨_, rfl, ?_⟩
    have e3' : atI names (q.1 : Int) = some (names.getD q.1 0) := by rw [atN]; simp [(hmem q hq).1]
    generalize names.getD q.1 0 = x at e3' ⊢
    simp [e3', encS]
  have e4 := fun d => mutApp_own (x := 4) (d := d) (env := envW s0 s1 row names fs (some (.dat (.list (B.map enc3)) .own)) (some (.dat (.list (L.map enc3)) .own)) o7 o8 o9 o10 o11) rfl (by simp; omega)
  have er : mkL (L.map enc3).reverse [6] = ⟨.list (L.reverse.map enc3), .own, []⟩ := by
    rw [← List.map_reverse]; exact mkL_own (imms_enc3 _)
  have hE : (L.map fun q => encS (names.getD q.1 0, q.2.1, q.2.2)) = (L.map fun q => (names.getD q.1 0, q.2.1, q.2.2)).map encS := by rw [List.map_map]; rfl
  unfold bW
  have s1' : (sAsg (tgName 5) (vCall 2 F__law_deciding (aCons (eName 2) (aCons (vB bLen (aCons (eName 3) aNil)) aNil)))) (envW s0 s1 row names fs o5 o6 o7 o8 o9 o10 o11) = .ret (.nx, envW s0 s1 row names fs (some (.dat (.list (B.map enc3)) .own)) o6 o7 o8 o9 o10 o11) := by simp [e1]
  rw [sCons_e, s1', M.bind_ret]
  simp only []
  have s1b : (sAsg (tgName 6) cpW) (envW s0 s1 row names fs (some (.dat (.list (B.map enc3)) .own)) o6 o7 o8 o9 o10 o11) = .ret (.nx, envW s0 s1 row names fs (some (.dat (.list (B.map enc3)) .own)) (some (.dat (.list (L.map enc3)) .own)) o7 o8 o9 o10 o11) := by
    rw [sAsg_e, e2]
    simp
  rw [sCons_e, s1b, M.bind_ret]
  simp only []
  have oe : ∀ l l' al al', oEq false ⟨.list (L.map enc3), l, al⟩ ⟨.list [], l', al'⟩ = .ret ⟨.bool false, .own, []⟩ := fun l l' al al' => by
    cases L with
    | nil => exact absurd rfl hne
    | cons q L =>
      rw [oEq_of (k := 2) (k' := 1) (fit_list fun x hx => by
        obtain ⟨q, _, rfl⟩ := List.mem_map.mp hx
        exact fit_tuple fun y hy => by
          simp at hy
          rcases hy with rfl | rfl | rfl <;> exact fit_int _ _) (fit_list (k := 0) fun x hx => by cases hx) (by decide) (by decide)]
      rfl
  have s2 : (sIf (asB (ev2 (oEq false) (eName 6) (vLst aNil))) (sCons sBrk
  sNil) sNil) (envW s0 s1 row names fs (some (.dat (.list (B.map enc3)) .own)) (some (.dat (.list (L.map enc3)) .own)) o7 o8 o9 o10 o11) = .ret (.nx, envW s0 s1 row names fs (some (.dat (.list (B.map enc3)) .own)) (some (.dat (.list (L.map enc3)) .own)) o7 o8 o9 o10 o11) := by
    simp [oe]
  rw [sCons_e, s2, M.bind_ret]
  simp only []
  rw [sCons_e, sApp_e, ec]
  rw [if_pos (by rfl)]
  simp only [M.bind_ret]
  rw [e4, ofOption_some, M.bind_ret, M.bind_ret]
  simp only []
  rw [sCons_e, sFor_e]
  have s3 : iSeq (vRev (eName 6)) (envW s0 s1 row names (fs ++ [L.map fun q => (names.getD q.1 0, q.2.1, q.2.2)]) (some (.dat (.list (B.map enc3)) .own)) (some (.dat (.list (L.map enc3)) .own)) o7 o8 o9 o10 o11) = .ret (L.reverse.map enc3, []) := by
    simp [er]
  have s4 : (envW s0 s1 row names fs (some (.dat (.list (B.map enc3)) .own)) (some (.dat (.list (L.map enc3)) .own)) o7 o8 o9 o10 o11).set 4 (some (.dat (.list (fs.map encL ++ [.list (L.map fun q => encS (names.getD q.1 0, q.2.1, q.2.2))])) .own)) = envW s0 s1 row names (fs ++ [L.map fun q => (names.getD q.1 0, q.2.1, q.2.2)]) (some (.dat (.list (B.map enc3)) .own)) (some (.dat (.list (L.map enc3)) .own)) o7 o8 o9 o10 o11 := by
    rw [hE]
    simp [encL]
  rw [s4, s3, M.bind_ret]
  simp only [frz_nil]
  rw [e]
  rfl
theorem whileLoop_brk {c : Vm.Env → M Bool} {body : Vm.Env → M (Fl × Vm.Env)} {n : Nat} {env env' : Vm.Env} (h : c env = .ret true) (hb : body env = .ret (.brk, env')) : whileLoop c body (n + 1) env = .ret (.nx, env') := by
  rw [whileLoop, h]
  simp [hb]
theorem layW_go : ∀ (m F : Nat) (row names : List Int) (fs : List (List (Int × Int × Int))) (s0 s1 o5 o6 o7 o8 o9 o10 o11 : Option Sl), m < F → names.length ≤ m → names.length < 6 → fs.length + m < 100 → row.length = 2 ^ names.length →
    ∃ p5 p6 p7 p8 p9 p10 p11, whileLoop cW bW F (envW s0 s1 row names fs o5 o6 o7 o8 o9 o10 o11) = .ret (.nx, envW s0 s1 (layF m row names).2.2 (layF m row names).2.1 (fs ++ (layF m row names).1) p5 p6 p7 p8 p9 p10 p11)
  | m, 0, row, names, fs, s0, s1, o5, o6, o7, o8, o9, o10, o11, hF, _, _, _, _ => by omega
  | m, F + 1, row, names, fs, s0, s1, o5, o6, o7, o8, o9, o10, o11, hF, hm, hn, hf, hz => by
    have hc := cW_w hn hz (names := names) s0 s1 fs o5 o6 o7 o8 o9 o10 o11
    cases m with
    | zero =>
      have h1 : isOne row = true := isOne_short (by rw [hz, Nat.le_zero.mp hm])
      rw [h1] at hc
      exact ⟨o5, o6, o7, o8, o9, o10, o11, by rw [whileLoop_end (c := cW) (body := bW) (show cW _ = .ret false from hc)]; simp [layF]⟩
    | succ m =>
      cases h1 : isOne row with
      | true =>
        rw [h1] at hc
        refine ⟨o5, o6, o7, o8, o9, o10, o11, ?_⟩
        rw [whileLoop_end (c := cW) (body := bW) (show cW _ = .ret false from hc)]
        simp [layF, h1]
      | false =>
        rw [h1] at hc
        have hc : cW (envW s0 s1 row names fs o5 o6 o7 o8 o9 o10 o11) = .ret true := hc
        by_cases hd : ddk none (decBy names.length row) = []
        · obtain ⟨p5, p6, p7, p8, p9, p10, p11, e⟩ := bW_brk hn hz fs s0 s1 o5 o6 o7 o8 o9 o10 o11 hd
          refine ⟨p5, p6, p7, p8, p9, p10, p11, ?_⟩
          rw [whileLoop_brk hc e]
          simp [layF, h1, hd]
        · have e1 := law_dec_w hn hz
          have asc := (ddk_asc (decBy names.length row) none (dec_sorted _ _) (fun x hx => by cases hx)).1
          have hmem : ∀ q ∈ ddk none (decBy names.length row), q.1 < names.length ∧ (q.2.1 = 0 ∨ q.2.1 = 1) := fun q hq => let ⟨a, b, _, _⟩ := dec_prop (ddk_sub _ _ q hq); ⟨a, b⟩
          have hlen : (ddk none (decBy names.length row)).length ≤ 2 * names.length := Nat.le_trans (ddk_len _ _) (dec_len _ _)
          have hBl := dec_len names.length row
          have eL : layF (m + 1) row names = (((ddk none (decBy names.length row)).map fun q => (names.getD q.1 0, q.2.1, q.2.2)) :: (layF m ((ddk none (decBy names.length row)).reverse.foldl ap1 (row, names)).1 ((ddk none (decBy names.length row)).reverse.foldl ap1 (row, names)).2).1, (layF m ((ddk none (decBy names.length row)).reverse.foldl ap1 (row, names)).1 ((ddk none (decBy names.length row)).reverse.foldl ap1 (row, names)).2).2) := by
            conv => lhs; unfold layF
            rw [h1]
            simp only [Bool.false_eq_true, if_false]
          rw [eL]
          generalize hLL : ddk none (decBy names.length row) = L at hd asc hmem hlen ⊢
          obtain ⟨p7, p8, p9, e⟩ := inW_go L.reverse row names (fs ++ [L.map fun q => (names.getD q.1 0, q.2.1, q.2.2)]) s0 s1 (some (.dat (.list ((decBy names.length row).map enc3)) .own)) (some (.dat (.list (L.map enc3)) .own)) o7 o8 o9 o10 o11 (List.pairwise_reverse.mpr asc) (fun q hq => hmem q (List.mem_reverse.mp hq)) hn hz
          obtain ⟨_, l1, l2⟩ := in_go L.reverse row names fs none none none none none none (List.pairwise_reverse.mpr asc) (fun q hq => hmem q (List.mem_reverse.mp hq)) hn hz
          simp only [List.length_reverse] at l1
          have hpos : 0 < L.length := List.length_pos_iff.mpr hd
          have eb := bW_core hn fs (by omega) s0 s1 o5 o6 o7 o8 o9 o10 o11 (decBy names.length row) L (by omega) hLL hd hmem hlen e1 _ e
          rw [whileLoop_step hc eb]
          have ih := layW_go m F _ _ (fs ++ [L.map fun q => (names.getD q.1 0, q.2.1, q.2.2)]) s0 s1 (some (.dat (.list ((decBy names.length row).map enc3)) .own)) (some (.dat (.list (L.map enc3)) .own)) p7 p8 p9 o10 o11 (by omega) (by omega) (by omega) (by simp; omega) l2
          rw [List.append_assoc] at ih
          exact ih
theorem law_peel_w {n : Nat} (hn : n < 6) {row : List Int} (hz : row.length = 2 ^ n) :
    F__law_peel [some (.list (row.map .int)), some (.int n)] = .ret (.tuple [.list ((layF 6 row (rng' n)).1.map encL), .list ((layF 6 row (rng' n)).2.1.map .int), .list ((layF 6 row (rng' n)).2.2.map .int)], .own) := by
  have hl := rng'_len n
  have er := lRg0 (n := n) (by omega)
  obtain ⟨p5, p6, p7, p8, p9, p10, p11, e2⟩ := layW_go 6 100 row (rng' n) [] (some (.dat (.list (row.map .int)) .shr)) (some (.dat (.int n) .shr)) none none none none none none none (by decide) (by omega) (by omega) (by decide) (by rw [hl]; exact hz)
  generalize layF 6 row (rng' n) = Z at e2 ⊢
  have e3 : m__law_peel [some (.dat (.list (row.map .int)) .shr), some (.dat (.int n) .shr), none, none, none, none, none, none, none, none, none, none] = (whileLoop cW bW 100 (envW (some (.dat (.list (row.map .int)) .shr)) (some (.dat (.int n) .shr)) row (rng' n) [] none none none none none none none) >>= fun p => match p.1 with
    | .nx => (sCons (sRet (vTup (aCons (eName 4) (aCons (eName 3) (aCons (eName 2) aNil))))) sNil) p.2
    | _ => .ret p) := by
    unfold m__law_peel
    rw [sCons_e]
    simp [vRg1, er, als, allOwn, mkL_int, -List.map_map]
    rfl
  unfold F__law_peel
  rw [fnOf_e, env0_e]
  simp only [List.map_cons, List.map_nil, List.length_cons, List.length_nil, List.replicate, List.cons_append, List.nil_append]
  rw [e3, e2]
  obtain ⟨z1, z2, z3⟩ := Z
  have hi : imms (z1.map encL) = true ∨ imms (z1.map encL) = false := by cases imms (z1.map encL) <;> simp
  rcases hi with hi | hi <;> simp [als, allOwn, hi]
end D94

set_option Elab.async false
set_option linter.all false
set_option maxRecDepth 100000
set_option maxHeartbeats 400000
namespace D94
open PySem L2 Vm M95
def isL (d : PyData) : Bool := (seqOf d).isSome
def isNum : PyData → Bool
  | .int i => decide (0 ≤ i)
  | _ => false
def isB (j : Int) : PyData → Bool
  | .int i => decide (0 ≤ i) && decide (i < j)
  | _ => false
theorem is_list_d (d : PyData) : F_is_list [some d] = .ret (.bool (isL d), .own) := by
  cases d <;> simp [F_is_list, m_is_list, isL, seqOf, tyN, pIs]
theorem is_whole_d (d : PyData) : F_is_whole [some d] = .ret (.bool (match d with | .int _ => true | _ => false), .own) := by
  cases d <;> simp [F_is_whole, m_is_whole, tyN, pIs]
theorem is_number_d (d : PyData) : F_is_number [some d] = .ret (.bool (isNum d), .own) := by
  have e := is_whole_d d
  cases d
  case int i => exact is_number_int i
  all_goals simp [F_is_number, m_is_number, e, isNum]
theorem is_below_d (d : PyData) (j : Int) : F_is_below [some d, some (.int j)] = .ret (.bool (isB j d), .own) := by
  have e := is_number_d d
  cases d
  case int i => exact is_below_int i j
  all_goals (simp only [isNum] at e; simp [F_is_below, m_is_below, e, isB])
theorem is_row_d (d : PyData) (n : Int) : F_is_row [some d, some (.int n)] = .ret (.bool (match seqOf d with | some xs => (xs.length : Int) == n | none => false), .own) := by
  have e := is_list_d d
  cases d
  case list xs => exact is_row_l xs n
  case tuple xs => exact is_row_t xs n
  all_goals (simp only [isL, seqOf, Option.isSome_none] at e; simp [F_is_row, m_is_row, e, seqOf])
theorem law_num_d (d : PyData) (j : Int) : F__law_is_number [some d, some (.int j)] = .ret (.bool (isB j d), .own) := by
  cases d
  case int i =>
    simp [F__law_is_number, m__law_is_number, tyN, pIs, isB, oIsN, Vm.isN]
    by_cases h : 0 ≤ i <;> simp [h]
  all_goals simp [F__law_is_number, m__law_is_number, tyN, pIs, isB]
end D94

set_option Elab.async false
set_option linter.all false
set_option maxRecDepth 100000
set_option maxHeartbeats 800000
namespace D94
open PySem L2 Vm M95
@[simp] theorem mkRV_dd (d : PyData) (lv : Lv) (al : List Nat) : (mkRV d lv al).d = d := by unfold mkRV; split <;> rfl
theorem isNum_inv {d : PyData} (h : isNum d = true) : ∃ i : Int, d = .int i ∧ 0 ≤ i := by
  cases d <;> simp [isNum] at h
  exact ⟨_, rfl, h⟩
theorem isB_inv {d : PyData} (h : isB 2 d = true) : d = .int 0 ∨ d = .int 1 := by
  cases d <;> simp [isB] at h
  rename_i i
  have : i = 0 ∨ i = 1 := by omega
  rcases this with rfl | rfl
  · exact .inl rfl
  · exact .inr rfl
theorem idx_names {names : List Int} {i : Int} (hm : i ∈ names) (l l' : Lv) (al al' : List Nat) : mIndex ⟨.list (names.map .int), l, al⟩ [⟨.int i, l', al'⟩] = .ret ⟨.int (names.findIdx (· == i) : Nat), .own, []⟩ := by
  refine mIndex_L (fit_DI names) (fit_int i 0) (by decide) (by decide) l l' al al' ?_
  rw [List.findIdx?_map]
  have : (fun z : PyData => PyData.eqv z (.int i)) ∘ PyData.int = fun x : Int => x == i := by funext x; simp
  rw [this, List.findIdx?_eq_some_of_exists ⟨i, hm, by simp⟩]
theorem idx_lt {names : List Int} {i : Int} (hm : i ∈ names) : names.findIdx (· == i) < names.length := List.findIdx_lt_length_of_exists ⟨i, hm, by simp⟩
/-- is_step on three things -/
theorem is_step3 {row names : List Int} (hn : names.length < 6) (hz : row.length = 2 ^ names.length) (a b c : PyData) (d : PyData) (hd : d = .list [a, b, c] ∨ d = .tuple [a, b, c]) :
    F_is_step [some (.tuple (row.map .int)), some (.list (names.map .int)), some d] = .ret (.bool (pst (row, names) d).isSome, .own) := by
  have e0 := is_row_d d 3
  have e1 := is_number_d a
  have e2 := is_below_d b 2
  have e3 := is_below_d c 2
  have hs : seqOf d = some [a, b, c] := by rcases hd with rfl | rfl <;> rfl
  have n0 : ∀ lv al, mkRV d lv al = ⟨d, (mkRV d lv al).lv, (mkRV d lv al).al⟩ := fun lv al => by unfold mkRV; split <;> rfl
  have x0 : ∀ l l' al al', oIx (mkRV d l al) ⟨.int 0, l', al'⟩ = .ret (mkRV a .shr (mkRV d l al).al) := fun l l' al al' => by rw [n0]; rcases hd with rfl | rfl <;> simp
  have x1 : ∀ l l' al al', oIx (mkRV d l al) ⟨.int 1, l', al'⟩ = .ret (mkRV b .shr (mkRV d l al).al) := fun l l' al al' => by rw [n0]; rcases hd with rfl | rfl <;> simp
  have a2 : atI [a, b, c] 2 = some c := rfl
  have x2 : ∀ l l' al al', oIx (mkRV d l al) ⟨.int 2, l', al'⟩ = .ret (mkRV c .shr (mkRV d l al).al) := fun l l' al al' => by rw [n0]; rcases hd with rfl | rfl <;> simp [a2]
  rw [hs] at e0
  simp only [List.length_cons, List.length_nil] at e0
  clear hd
  unfold F_is_step m_is_step
  by_cases h1 : isNum a = true
  case neg =>
    have h1 : isNum a = false := by simpa using h1
    rw [h1] at e1
    have hp : pst (row, names) d = none := by
      unfold pst
      rw [hs]
      cases a <;> simp [isNum] at h1 <;> try rfl
      cases b <;> try rfl
      cases c <;> try rfl
      simp only
      rw [if_neg (fun h => by omega)]
    rw [hp]
    simp [List.replicate, e0, x0, e1]
  rw [h1] at e1
  obtain ⟨i, rfl, hi0⟩ := isNum_inv h1
  have en : ∀ l l' al al', oIn true ⟨.int i, l, al⟩ ⟨.list (names.map .int), l', al'⟩ = .ret ⟨.bool (!names.contains i), .own, []⟩ := fun l l' al al' => oIn_intsL true i names l l' al al'
  by_cases hm : i ∈ names
  case neg =>
    have hp : pst (row, names) d = none := by
      unfold pst
      rw [hs]
      cases b <;> try rfl
      cases c <;> try rfl
      simp only
      rw [if_neg (fun h => hm h.2.1)]
    rw [hp]
    have hc : names.contains i = false := by simpa using hm
    rw [hc] at en
    simp [List.replicate, e0, x0, e1, en]
  have hc : names.contains i = true := by simpa using hm
  rw [hc] at en
  by_cases h2 : isB 2 b = true ∧ isB 2 c = true
  case neg =>
    have hp : pst (row, names) d = none := by
      unfold pst
      rw [hs]
      cases b <;> try rfl
      cases c <;> try rfl
      rename_i v t
      simp only
      rw [if_neg (fun h => h2 ⟨by rcases h.2.2.1 with rfl | rfl <;> rfl, by rcases h.2.2.2.1 with rfl | rfl <;> rfl⟩)]
    rw [hp]
    cases hb : isB 2 b with
    | false => rw [hb] at e2; simp [List.replicate, e0, x0, e1, en, x1, e2]
    | true =>
      have h3 : isB 2 c = false := by
        cases z : isB 2 c with
        | false => rfl
        | true => exact absurd ⟨hb, z⟩ h2
      rw [hb] at e2
      rw [h3] at e3
      simp [List.replicate, e0, x0, e1, en, x1, x2, e2, e3]
  obtain ⟨h2, h3⟩ := h2
  rw [h2] at e2
  rw [h3] at e3
  have ex : ∃ v t : Int, b = .int v ∧ c = .int t ∧ (v = 0 ∨ v = 1) ∧ (t = 0 ∨ t = 1) := by
    rcases isB_inv h2 with rfl | rfl <;> rcases isB_inv h3 with rfl | rfl
    · exact ⟨0, 0, rfl, rfl, .inl rfl, .inl rfl⟩
    · exact ⟨0, 1, rfl, rfl, .inl rfl, .inr rfl⟩
    · exact ⟨1, 0, rfl, rfl, .inr rfl, .inl rfl⟩
    · exact ⟨1, 1, rfl, rfl, .inr rfl, .inr rfl⟩
  obtain ⟨v, t, rfl, rfl, hv, ht⟩ := ex
  have e4 := at_value_w names.length hn row hz _ (idx_lt hm) v
  have e5 := idx_names hm
  have hl := atv_len hn hz (idx_lt hm) hv
  have hne := ne_of_pow hl
  have e6 := is_one_w hne
  have e7 := at0 hne
  have hp : (pst (row, names) d).isSome = (isOne (atv names.length row (names.findIdx (· == i)) v) && (atv names.length row (names.findIdx (· == i)) v).getD 0 0 == t) := by
    unfold pst
    rw [hs]
    simp only
    split
    · rename_i h
      obtain ⟨_, _, _, _, q1, q2⟩ := h
      rw [q1, q2]
      simp
    · rename_i h
      cases q1 : isOne (atv names.length row (names.findIdx (· == i)) v) with
      | false => rfl
      | true =>
        have : ¬ (atv names.length row (names.findIdx (· == i)) v).getD 0 0 = t := fun z => h ⟨hi0, hm, hv, ht, q1, z⟩
        simp at this
        simp [this]
  rw [hp]
  generalize atv names.length row (names.findIdx (· == i)) v = A at e4 e6 e7 hne ⊢
  generalize names.findIdx (· == i) = j at e4 e5
  generalize A.getD 0 0 = x at e7 ⊢
  have e7' : atI A 0 = some x := by cases e : atI A 0 <;> simp [e] at e7; rw [e7]
  simp [List.replicate, e0, e1, en, x0, x1, x2, e2, e3, e5, e4, e6, e7']
  cases isOne A <;> simp
end D94

set_option Elab.async false
set_option linter.all false
set_option maxRecDepth 100000
set_option maxHeartbeats 800000
namespace D94
open PySem L2 Vm M95
theorem pst_none {st : List Int × List Int} {d : PyData} (h : ∀ a b c, seqOf d ≠ some [a, b, c]) : pst st d = none := by
  unfold pst
  split
  · rename_i i v t e; exact absurd e (h _ _ _)
  · rfl
theorem seq_cases (d : PyData) : (seqOf d = none) ∨ ∃ xs, (d = .list xs ∨ d = .tuple xs) ∧ seqOf d = some xs := by
  cases d
  case list xs => exact .inr ⟨xs, .inl rfl, rfl⟩
  case tuple xs => exact .inr ⟨xs, .inr rfl, rfl⟩
  all_goals exact .inl rfl
theorem is_step_d {row names : List Int} (hn : names.length < 6) (hz : row.length = 2 ^ names.length) (d : PyData) :
    F_is_step [some (.tuple (row.map .int)), some (.list (names.map .int)), some d] = .ret (.bool (pst (row, names) d).isSome, .own) := by
  have e0 := is_row_d d 3
  rcases seq_cases d with hs | ⟨xs, hd, hs⟩
  · rw [pst_none fun a b c => by rw [hs]; simp]
    rw [hs] at e0
    simp [F_is_step, m_is_step, List.replicate, e0]
  · by_cases hl : xs.length = 3
    · match xs, hl with
      | [a, b, c], _ => exact is_step3 hn hz a b c d hd
    · rw [pst_none fun a b c => by rw [hs]; intro z; cases z; exact hl rfl]
      rw [hs] at e0
      have : ((xs.length : Int) == 3) = false := by simp; omega
      simp only [this] at e0
      simp [F_is_step, m_is_step, List.replicate, e0]
/-- the check of a peeling -/
def isPeel (n : Nat) (row : List Int) (d : PyData) : Bool := match seqOf d with
  | some [a, b] => isL a && isB 2 b && (match ((seqOf a).getD []).foldlM pst (row, rng' n) with
    | some p => isOne p.1 && PyData.eqv (.int (p.1.getD 0 0)) b
    | none => false)
  | _ => false
theorem pst_inv {row names : List Int} {d : PyData} {p : List Int × List Int} (h : pst (row, names) d = some p) (hn : names.length < 6) (hz : row.length = 2 ^ names.length) :
    ∃ (i v t : Int), seqOf d = some [.int i, .int v, .int t] ∧ 0 ≤ i ∧ i ∈ names ∧ (v = 0 ∨ v = 1) ∧ (t = 0 ∨ t = 1) ∧ p = (atv names.length row (names.findIdx (· == i)) (1 - v), names.take (names.findIdx (· == i)) ++ names.drop (names.findIdx (· == i) + 1)) ∧
      p.2.length + 1 = names.length ∧ p.1.length = 2 ^ p.2.length := by
  unfold pst at h
  split at h
  · rename_i i v t e
    split at h
    · rename_i hc
      obtain ⟨h1, h2, h3, h4, h5, h6⟩ := hc
      have h := (Option.some.inj h).symm
      have hi := idx_lt h2
      have hw := atv_w hn hz (q := (names.findIdx (· == i), v, t)) hi h3
      refine ⟨i, v, t, e, h1, h2, h3, h4, h, ?_, ?_⟩
      · rw [h]; exact hw.1
      · rw [h]; exact hw.2
    · cases h
  · cases h
def bIp : Vm.Env → M (Fl × Vm.Env) := (sCons (sIf (tNotM (tru (vCall 3 F_is_step (aCons (eName 2) (aCons (eName 3) (aCons (eName 4) aNil)))))) (sCons (sRet (eBool false))
  sNil) sNil)
  (sCons (sAsg (tgName 5) (vMeth mIndex (eName 3) (aCons (ev2 oIx (eName 4) (eInt 0)) aNil)))
  (sCons (sAsg (tgName 2) (vCall 3 F_at_value (aCons (eName 2) (aCons (eName 5) (aCons (ev2 oSubI (eInt 1) (ev2 oIx (eName 4) (eInt 1))) aNil)))))
  (sCons (sAsg (tgName 3) (ev2 oAdd (evSl (eName 3) pNo (pSome (eName 5))) (evSl (eName 3) (pSome (ev2 oAdd (eName 5) (eInt 1))) pNo)))
  sNil))))
abbrev envI (o0 o1 : Option Sl) (row names : List Int) (o4 o5 : Option Sl) : Vm.Env := [o0, o1, some (.dat (.tuple (row.map .int)) .own), SL names, o4, o5]
theorem bIp_w {row names : List Int} (hn : names.length < 6) (hz : row.length = 2 ^ names.length) (d : PyData) (o0 o1 o5 : Option Sl) :
    (pst (row, names) d = none ∧ ∃ env', bIp (envI o0 o1 row names (some (.dat d .shr)) o5) = .ret (.ret (.bool false) .own, env')) ∨
      ∃ p o5', pst (row, names) d = some p ∧ bIp (envI o0 o1 row names (some (.dat d .shr)) o5) = .ret (.nx, envI o0 o1 p.1 p.2 (some (.dat d .shr)) o5') := by
  have e0 := is_step_d hn hz d
  cases hp : pst (row, names) d with
  | none =>
    rw [hp] at e0
    refine .inl ⟨rfl, envI o0 o1 row names (some (.dat d .shr)) o5, ?_⟩
    unfold bIp
    simp [e0]
  | some p =>
    rw [hp] at e0
    obtain ⟨i, v, t, hs, hi0, hm, hv, ht, hpe, _, _⟩ := pst_inv hp hn hz
    refine .inr ⟨p, SI (names.findIdx (· == i) : Nat), rfl, ?_⟩
    have hd : d = .list [.int i, .int v, .int t] ∨ d = .tuple [.int i, .int v, .int t] := by
      rcases seq_cases d with z | ⟨xs, z, w⟩
      · rw [hs] at z; cases z
      · rw [hs] at w
        have := Option.some.inj w
        rw [← this] at z; exact z
    have n0 : ∀ lv al, mkRV d lv al = ⟨d, (mkRV d lv al).lv, (mkRV d lv al).al⟩ := fun lv al => by unfold mkRV; split <;> rfl
    have x0 : ∀ l l' al al', oIx (mkRV d l al) ⟨.int 0, l', al'⟩ = .ret (mkRV (.int i) .shr (mkRV d l al).al) := fun l l' al al' => by rw [n0]; rcases hd with rfl | rfl <;> simp
    have x1 : ∀ l l' al al', oIx (mkRV d l al) ⟨.int 1, l', al'⟩ = .ret (mkRV (.int v) .shr (mkRV d l al).al) := fun l l' al al' => by rw [n0]; rcases hd with rfl | rfl <;> simp
    have e2 := at_value_w names.length hn row hz _ (idx_lt hm) (1 - v)
    have e5 := idx_names hm
    obtain ⟨c4, c5, _, c6⟩ := names_cut (by omega) (idx_lt hm)
    rw [hpe]
    generalize names.findIdx (· == i) = j at e2 e5 c4 c5 c6 ⊢
    have e8 : ∀ lo, mkL ((names.take j).map .int) lo = ⟨.list ((names.take j).map .int), .own, []⟩ := fun lo => mkL_int _ _
    have e9 : ∀ lo, mkL ((names.drop (j + 1)).map .int) lo = ⟨.list ((names.drop (j + 1)).map .int), .own, []⟩ := fun lo => mkL_int _ _
    simp only [List.map_append] at c6
    unfold bIp
    simp [e0, x0, x1, e5, e2, c4, c5, c6, e8, e9, -List.map_take, -List.map_drop]
theorem ip_loop : ∀ (ds : List PyData) (row names : List Int) (o0 o1 o4 o5 : Option Sl), names.length < 6 → row.length = 2 ^ names.length →
    (ds.foldlM pst (row, names) = none ∧ ∃ env', forLoop (tgName 4) bIp ds (envI o0 o1 row names o4 o5) = .ret (.ret (.bool false) .own, env')) ∨
      ∃ p o4' o5' k, ds.foldlM pst (row, names) = some p ∧ p.1.length = 2 ^ k ∧ k < 6 ∧ forLoop (tgName 4) bIp ds (envI o0 o1 row names o4 o5) = .ret (.nx, envI o0 o1 p.1 p.2 o4' o5')
  | [], row, names, o0, o1, o4, o5, hn, hz => .inr ⟨(row, names), o4, o5, _, rfl, hz, hn, rfl⟩
  | d :: ds, row, names, o0, o1, o4, o5, hn, hz => by
    have et : tgName 4 .shr d (envI o0 o1 row names o4 o5) = some (envI o0 o1 row names (some (.dat d .shr)) o5) := rfl
    simp only [forLoop, et, ofOption_some, M.bind_ret, List.foldlM_cons]
    rcases bIp_w hn hz d o0 o1 o5 with ⟨hp, env', e⟩ | ⟨p, o5', hp, e⟩
    · exact .inl ⟨by rw [hp]; rfl, env', by rw [e]; rfl⟩
    · obtain ⟨i, v, t, _, _, _, _, _, hpe, l1, l2⟩ := pst_inv hp hn hz
      rw [hp, e]
      exact ip_loop ds p.1 p.2 o0 o1 (some (.dat d .shr)) o5' (by omega) l2
end D94

set_option Elab.async false
set_option linter.all false
set_option maxRecDepth 100000
set_option maxHeartbeats 800000
namespace D94
open PySem L2 Vm M95
theorem isPeel_none {n : Nat} {row : List Int} {d : PyData} (h : ∀ a b, seqOf d ≠ some [a, b]) : isPeel n row d = false := by
  unfold isPeel
  split
  · rename_i a b e; exact absurd e (h a b)
  · rfl
theorem is_peel_w (l : Bool) {n : Nat} (hn : n < 6) {row : List Int} (hz : row.length = 2 ^ n) (h : ∀ x ∈ row, x = 0 ∨ x = 1) (d : PyData) :
    F_is_peeling [some (rt l (row.map .int)), some d] = .ret (.bool (isPeel n row d), .own) := by
  have e0 := need_w l hn hz h
  have e1 := heeds_of_v n hn row hz
  have er := lRg0 (n := n) (by omega)
  have hl := rng'_len n
  have e2 := is_row_d d 2
  have s1 : (sAsg (tgName 2) (vCall 1 F_need_row (aCons (eName 0) aNil))) [some (.dat (rt l (row.map .int)) .shr), some (.dat d .shr), none, none, none, none] =
      .ret (.nx, [some (.dat (rt l (row.map .int)) .shr), some (.dat d .shr), some (.dat (.tuple (row.map .int)) .own), none, none, none]) := by
    cases l
    · simp only [rt, Bool.false_eq_true, if_false] at e0 ⊢
      simp [e0]
    · simp only [rt, if_true] at e0 ⊢
      simp [e0]
  have go : ∀ r : PyData × Lv, (m_is_peeling [some (.dat (rt l (row.map .int)) .shr), some (.dat d .shr), none, none, none, none] >>= fun p => match p.1 with
      | .ret d lv => .ret (d, lv)
      | .nx => .ret (.none, .own)
      | _ => .stuck) = .ret r → F_is_peeling [some (rt l (row.map .int)), some d] = .ret r := fun r hr => by
    unfold F_is_peeling
    rw [fnOf_e, env0_e]
    simp only [List.map_cons, List.map_nil, List.length_cons, List.length_nil, List.replicate, List.cons_append, List.nil_append]
    exact hr
  apply go
  unfold m_is_peeling
  rw [sCons_e, s1, M.bind_ret]
  simp only []
  by_cases hd : ∃ a b, seqOf d = some [a, b]
  case neg =>
    rw [isPeel_none fun a b z => hd ⟨a, b, z⟩]
    have e2' : F_is_row [some d, some (.int 2)] = .ret (.bool false, .own) := by
      rw [e2]
      rcases seq_cases d with hs | ⟨xs, _, hs⟩
      · rw [hs]
      · rw [hs]
        have : xs.length ≠ 2 := fun z => by
          match xs, z with
          | [a, b], _ => exact hd ⟨a, b, hs⟩
        have : ((xs.length : Int) == 2) = false := by simp; omega
        simp only [this]
    simp [e2']
  obtain ⟨a, b, hs⟩ := hd
  rw [hs] at e2
  have hd : d = .list [a, b] ∨ d = .tuple [a, b] := by
    rcases seq_cases d with z | ⟨xs, z, w⟩
    · rw [hs] at z; cases z
    · rw [hs] at w
      have := Option.some.inj w
      rw [← this] at z; exact z
  have n0 : ∀ lv al, mkRV d lv al = ⟨d, (mkRV d lv al).lv, (mkRV d lv al).al⟩ := fun lv al => by unfold mkRV; split <;> rfl
  have x0 : ∀ l l' al al', oIx (mkRV d l al) ⟨.int 0, l', al'⟩ = .ret (mkRV a .shr (mkRV d l al).al) := fun l l' al al' => by rw [n0]; rcases hd with rfl | rfl <;> simp
  have x1 : ∀ l l' al al', oIx (mkRV d l al) ⟨.int 1, l', al'⟩ = .ret (mkRV b .shr (mkRV d l al).al) := fun l l' al al' => by rw [n0]; rcases hd with rfl | rfl <;> simp
  have e3 := is_list_d a
  have e4 := is_below_d b 2
  simp only [List.length_cons, List.length_nil] at e2
  have hP : isPeel n row d = (isL a && isB 2 b && (match ((seqOf a).getD []).foldlM pst (row, rng' n) with
    | some p => isOne p.1 && PyData.eqv (.int (p.1.getD 0 0)) b
    | none => false)) := by
    unfold isPeel
    rw [hs]
    all_goals rfl
  rw [hP]
  by_cases hab : isL a = true ∧ isB 2 b = true
  case neg =>
    have : (isL a && isB 2 b) = false := by
      cases q1 : isL a <;> cases q2 : isB 2 b <;> simp
      exact hab ⟨q1, q2⟩
    rw [this, Bool.false_and]
    cases q1 : isL a with
    | false => rw [q1] at e3; simp [e2, x0, e3]
    | true =>
      have q2 : isB 2 b = false := by
        cases z : isB 2 b with
        | false => rfl
        | true => exact absurd ⟨q1, z⟩ hab
      rw [q1] at e3
      rw [q2] at e4
      simp [e2, x0, x1, e3, e4]
  obtain ⟨q1, q2⟩ := hab
  rw [q1, q2, Bool.true_and, Bool.true_and]
  rw [q1] at e3
  rw [q2] at e4
  have s2 : (sIf (tOrM (tNotM (tru (vCall 2 F_is_row (aCons (eName 1) (aCons (eInt 2) aNil))))) (tOrM (tNotM (tru (vCall 1 F_is_list (aCons (ev2 oIx (eName 1) (eInt 0)) aNil)))) (tNotM (tru (vCall 2 F_is_below (aCons (ev2 oIx (eName 1) (eInt 1)) (aCons (eInt 2) aNil))))))) (sCons (sRet (eBool false))
  sNil) sNil) [some (.dat (rt l (row.map .int)) .shr), some (.dat d .shr), some (.dat (.tuple (row.map .int)) .own), none, none, none] = .ret (.nx, [some (.dat (rt l (row.map .int)) .shr), some (.dat d .shr), some (.dat (.tuple (row.map .int)) .own), none, none, none]) := by
    simp [e2, x0, x1, e3, e4]
  rw [sCons_e, s2, M.bind_ret]
  simp only []
  have s3 : (sAsg (tgName 3) (vRg1 lRg (vCall 1 F_heeds_of (aCons (eName 2) aNil)))) [some (.dat (rt l (row.map .int)) .shr), some (.dat d .shr), some (.dat (.tuple (row.map .int)) .own), none, none, none] = .ret (.nx, envI (some (.dat (rt l (row.map .int)) .shr)) (some (.dat d .shr)) row (rng' n) none none) := by
    simp [vRg1, e1, er]
  rw [sCons_e, s3, M.bind_ret]
  simp only []
  obtain ⟨xs, hxs⟩ : ∃ xs, seqOf a = some xs := Option.isSome_iff_exists.mp q1
  have ha : a = .list xs ∨ a = .tuple xs := by
    rcases seq_cases a with z | ⟨ys, z, w⟩
    · rw [hxs] at z; cases z
    · rw [hxs] at w
      have := Option.some.inj w
      rw [← this] at z; exact z
  have na : ∀ lv al, mkRV a lv al = ⟨a, (mkRV a lv al).lv, (mkRV a lv al).al⟩ := fun lv al => by unfold mkRV; split <;> rfl
  have s4 : iSeq (ev2 oIx (eName 1) (eInt 0)) (envI (some (.dat (rt l (row.map .int)) .shr)) (some (.dat d .shr)) row (rng' n) none none) = .ret (xs, []) := by
    simp [x0]
    rcases ha with rfl | rfl <;> rfl
  rw [sCons_e, sFor_e, s4, M.bind_ret]
  simp only [frz_nil]
  rw [hxs, Option.getD_some]
  have hb : (sCons (sIf (tNotM (tru (vCall 3 F_is_step (aCons (eName 2) (aCons (eName 3) (aCons (eName 4) aNil)))))) (sCons (sRet (eBool false))
  sNil) sNil)
  (sCons (sAsg (tgName 5) (vMeth mIndex (eName 3) (aCons (ev2 oIx (eName 4) (eInt 0)) aNil)))
  (sCons (sAsg (tgName 2) (vCall 3 F_at_value (aCons (eName 2) (aCons (eName 5) (aCons (ev2 oSubI (eInt 1) (ev2 oIx (eName 4) (eInt 1))) aNil)))))
  (sCons (sAsg (tgName 3) (ev2 oAdd (evSl (eName 3) pNo (pSome (eName 5))) (evSl (eName 3) (pSome (ev2 oAdd (eName 5) (eInt 1))) pNo)))
  sNil)))) = bIp := rfl
  rw [hb]
  rcases ip_loop xs row (rng' n) (some (.dat (rt l (row.map .int)) .shr)) (some (.dat d .shr)) none none (by omega) (by rw [hl]; exact hz) with ⟨hp, env', e⟩ | ⟨p, o4', o5', k, hp, hk, hk6, e⟩
  · rw [e, hp]
    rfl
  · rw [e, hp]
    have hne := ne_of_pow hk
    have e6 := is_one_w hne
    have e7 := at0 hne
    have ebb : b = .int 0 ∨ b = .int 1 := isB_inv q2
    obtain ⟨bi, rfl⟩ : ∃ bi : Int, b = .int bi := by rcases ebb with rfl | rfl <;> exact ⟨_, rfl⟩
    simp only []
    obtain ⟨r', nm'⟩ := p
    simp only at hne e6 e7 ⊢
    generalize r'.getD 0 0 = x at e7 ⊢
    have e7' : atI r' 0 = some x := by cases e : atI r' 0 <;> simp [e] at e7; rw [e7]
    cases ho : isOne r' with
    | false => rw [ho] at e6; simp [e6]
    | true => rw [ho] at e6; simp [e6, e7', x1]
end D94

set_option Elab.async false
set_option linter.all false
set_option maxRecDepth 100000
set_option maxHeartbeats 800000
namespace D94
open PySem L2 Vm M95
theorem rep_one (t : Int) : ∀ {A : List Int}, A ≠ [] → (A == List.replicate A.length t) = (isOne A && A.getD 0 0 == t)
  | [], h => absurd rfl h
  | x :: xs, _ => by
    have hr : ∀ ys : List Int, (ys == List.replicate ys.length t) = ys.all fun y => y == t := by
      intro ys
      induction ys with
      | nil => rfl
      | cons y ys ih =>
        simp only [List.length_cons, List.replicate_succ, List.all_cons]
        rw [← ih]
        rfl
    rw [hr]
    show (x :: xs).all (fun y => y == t) = (xs.all (fun y => y == x) && x == t)
    rw [List.all_cons]
    by_cases e : x = t
    · subst e; simp
    · have : (x == t) = false := by simpa using e
      simp [this]
def bLp : Vm.Env → M (Fl × Vm.Env) := (sCons (sIf (tOrM (tNotM (tru (vIsi (fun t => pIs "list" t || pIs "tuple" t) (eName 3)))) (tOrM (asB (ev2 (oEq true) (vB bLen (aCons (eName 3) aNil)) (eInt 3))) (tOrM (tNotM (tru (vCall 2 F__law_is_number (aCons (ev2 oIx (eName 3) (eInt 0)) (aCons (eName 1) aNil))))) (asB (ev2 (oIn true) (ev2 oIx (eName 3) (eInt 0)) (eName 5)))))) (sCons (sRet (eBool false))
  sNil) sNil)
  (sCons (sIf (tOrM (tNotM (tru (vCall 2 F__law_is_number (aCons (ev2 oIx (eName 3) (eInt 1)) (aCons (eInt 2) aNil))))) (tNotM (tru (vCall 2 F__law_is_number (aCons (ev2 oIx (eName 3) (eInt 2)) (aCons (eInt 2) aNil)))))) (sCons (sRet (eBool false))
  sNil) sNil)
  (sCons (sAsg (tgName 6) (vMeth mIndex (eName 5) (aCons (ev2 oIx (eName 3) (eInt 0)) aNil)))
  (sCons (sAsg (tgName 7) (vCall 4 F__law_at (aCons (eName 4) (aCons (vB bLen (aCons (eName 5) aNil)) (aCons (eName 6) (aCons (ev2 oIx (eName 3) (eInt 1)) aNil))))))
  (sCons (sIf (asB (ev2 (oEq true) (eName 7) (ev2 oMul (vLst (aCons (ev2 oIx (eName 3) (eInt 2)) aNil)) (vB bLen (aCons (eName 7) aNil))))) (sCons (sRet (eBool false))
  sNil) sNil)
  (sCons (sPar [4, 5] [(vCall 4 F__law_at (aCons (eName 4) (aCons (vB bLen (aCons (eName 5) aNil)) (aCons (eName 6) (aCons (ev2 oSubI (eInt 1) (ev2 oIx (eName 3) (eInt 1))) aNil))))), (ev2 oAdd (evSl (eName 5) pNo (pSome (eName 6))) (evSl (eName 5) (pSome (ev2 oAdd (eName 6) (eInt 1))) pNo))])
  sNil))))))
abbrev envQ (o0 : Option Sl) (n : Nat) (o2 o3 : Option Sl) (row names : List Int) (o6 o7 : Option Sl) : Vm.Env := [o0, some (.dat (.int n) .shr), o2, o3, some (.dat (.list (row.map .int)) .own), SL names, o6, o7]
theorem bLp_w {n : Nat} {row names : List Int} (hn : names.length < 6) (hz : row.length = 2 ^ names.length) (hN : ∀ x ∈ names, x < n) (d : PyData) (o0 o2 o6 o7 : Option Sl) :
    (pst (row, names) d = none ∧ ∃ env', bLp (envQ o0 n o2 (some (.dat d .shr)) row names o6 o7) = .ret (.ret (.bool false) .own, env')) ∨
      ∃ p o6' o7', pst (row, names) d = some p ∧ (∀ x ∈ p.2, x < n) ∧ bLp (envQ o0 n o2 (some (.dat d .shr)) row names o6 o7) = .ret (.nx, envQ o0 n o2 (some (.dat d .shr)) p.1 p.2 o6' o7') := by
  rcases seq_cases d with hs | ⟨xs, hd, hs⟩
  · refine .inl ⟨pst_none fun a b c => by rw [hs]; simp, envQ o0 n o2 (some (.dat d .shr)) row names o6 o7, ?_⟩
    have : (pIs "list" (tyN d) || pIs "tuple" (tyN d)) = false := by cases d <;> simp [seqOf] at hs <;> rfl
    unfold bLp
    simp [this]
  have ht : (pIs "list" (tyN d) || pIs "tuple" (tyN d)) = true := by rcases hd with rfl | rfl <;> rfl
  have hlen : ∀ l al, bLen [mkRV d l al] = .ret ⟨.int xs.length, .own, []⟩ := fun l al => by
    have n0 : ∀ lv al, mkRV d lv al = ⟨d, (mkRV d lv al).lv, (mkRV d lv al).al⟩ := fun lv al => by unfold mkRV; split <;> rfl
    rw [n0]; rcases hd with rfl | rfl <;> rfl
  by_cases hl : xs.length = 3
  case neg =>
    refine .inl ⟨pst_none fun a b c => by rw [hs]; intro z; cases z; exact hl rfl, envQ o0 n o2 (some (.dat d .shr)) row names o6 o7, ?_⟩
    have : ((xs.length : Int) == 3) = false := by simp; omega
    unfold bLp
    simp [ht, hlen, this]
  match xs, hl with
  | [a, b, c], _ =>
  have n0 : ∀ lv al, mkRV d lv al = ⟨d, (mkRV d lv al).lv, (mkRV d lv al).al⟩ := fun lv al => by unfold mkRV; split <;> rfl
  have a2 : atI [a, b, c] 2 = some c := rfl
  have x0 : ∀ l l' al al', oIx (mkRV d l al) ⟨.int 0, l', al'⟩ = .ret (mkRV a .shr (mkRV d l al).al) := fun l l' al al' => by rw [n0]; rcases hd with rfl | rfl <;> simp
  have x1 : ∀ l l' al al', oIx (mkRV d l al) ⟨.int 1, l', al'⟩ = .ret (mkRV b .shr (mkRV d l al).al) := fun l l' al al' => by rw [n0]; rcases hd with rfl | rfl <;> simp
  have x2 : ∀ l l' al al', oIx (mkRV d l al) ⟨.int 2, l', al'⟩ = .ret (mkRV c .shr (mkRV d l al).al) := fun l l' al al' => by rw [n0]; rcases hd with rfl | rfl <;> simp [a2]
  have e1 := law_num_d a n
  have e2 := law_num_d b 2
  have e3 := law_num_d c 2
  simp only [List.length_cons, List.length_nil] at hlen
  have l3 : (((0 + 1 + 1 + 1 : Nat) : Int) == 3) = true := rfl
  by_cases h1 : isB n a = true
  case neg =>
    have h1 : isB n a = false := by simpa using h1
    rw [h1] at e1
    have hp : pst (row, names) d = none := by
      unfold pst
      rw [hs]
      cases a <;> try rfl
      cases b <;> try rfl
      cases c <;> try rfl
      simp only
      rw [if_neg (fun h => by
        have := hN _ h.2.1
        simp [isB] at h1
        omega)]
    refine .inl ⟨hp, envQ o0 n o2 (some (.dat d .shr)) row names o6 o7, ?_⟩
    unfold bLp
    simp [ht, hlen, x0, e1]
  rw [h1] at e1
  obtain ⟨i, rfl, hi0⟩ : ∃ i : Int, a = .int i ∧ 0 ≤ i := by
    cases a <;> simp [isB] at h1
    exact ⟨_, rfl, h1.1⟩
  have en : ∀ l l' al al', oIn true ⟨.int i, l, al⟩ ⟨.list (names.map .int), l', al'⟩ = .ret ⟨.bool (!names.contains i), .own, []⟩ := fun l l' al al' => oIn_intsL true i names l l' al al'
  by_cases hm : i ∈ names
  case neg =>
    have hp : pst (row, names) d = none := by
      unfold pst
      rw [hs]
      cases b <;> try rfl
      cases c <;> try rfl
      simp only
      rw [if_neg (fun h => hm h.2.1)]
    have hc : names.contains i = false := by simpa using hm
    rw [hc] at en
    refine .inl ⟨hp, envQ o0 n o2 (some (.dat d .shr)) row names o6 o7, ?_⟩
    unfold bLp
    simp [ht, hlen, x0, e1, en]
  have hc : names.contains i = true := by simpa using hm
  rw [hc] at en
  by_cases h2 : isB 2 b = true ∧ isB 2 c = true
  case neg =>
    have hp : pst (row, names) d = none := by
      unfold pst
      rw [hs]
      cases b <;> try rfl
      cases c <;> try rfl
      rename_i v t
      simp only
      rw [if_neg (fun h => h2 ⟨by rcases h.2.2.1 with rfl | rfl <;> rfl, by rcases h.2.2.2.1 with rfl | rfl <;> rfl⟩)]
    refine .inl ⟨hp, envQ o0 n o2 (some (.dat d .shr)) row names o6 o7, ?_⟩
    unfold bLp
    cases hb : isB 2 b with
    | false => rw [hb] at e2; simp [ht, hlen, x0, e1, en, x1, e2]
    | true =>
      have h3 : isB 2 c = false := by
        cases z : isB 2 c with
        | false => rfl
        | true => exact absurd ⟨hb, z⟩ h2
      rw [hb] at e2
      rw [h3] at e3
      simp [ht, hlen, x0, e1, en, x1, x2, e2, e3]
  obtain ⟨h2, h3⟩ := h2
  rw [h2] at e2
  rw [h3] at e3
  have ex : ∃ v t : Int, b = .int v ∧ c = .int t ∧ (v = 0 ∨ v = 1) ∧ (t = 0 ∨ t = 1) := by
    rcases isB_inv h2 with rfl | rfl <;> rcases isB_inv h3 with rfl | rfl
    · exact ⟨0, 0, rfl, rfl, .inl rfl, .inl rfl⟩
    · exact ⟨0, 1, rfl, rfl, .inl rfl, .inr rfl⟩
    · exact ⟨1, 0, rfl, rfl, .inr rfl, .inl rfl⟩
    · exact ⟨1, 1, rfl, rfl, .inr rfl, .inr rfl⟩
  obtain ⟨v, t, rfl, rfl, hv, htt⟩ := ex
  have e4 := law_at_w hn hz (idx_lt hm) v
  have e4' := law_at_w hn hz (idx_lt hm) (1 - v)
  have e5 := idx_names hm
  have hl4 := atv_len hn hz (idx_lt hm) hv
  have hne := ne_of_pow hl4
  have hlt := pow_lt (by omega) hl4
  have e6 := fun l l' al al' => oRep0 hne hlt t l l' al al'
  have e7 := rep_one t hne
  obtain ⟨c4, c5, _, c6⟩ := names_cut (by omega) (idx_lt hm)
  have hps : pst (row, names) d = if (atv names.length row (names.findIdx (· == i)) v == List.replicate (atv names.length row (names.findIdx (· == i)) v).length t) = true then some (atv names.length row (names.findIdx (· == i)) (1 - v), names.take (names.findIdx (· == i)) ++ names.drop (names.findIdx (· == i) + 1)) else none := by
    unfold pst
    rw [hs, e7]
    simp only
    by_cases q : isOne (atv names.length row (names.findIdx (· == i)) v) = true ∧ (atv names.length row (names.findIdx (· == i)) v).getD 0 0 = t
    · rw [if_pos ⟨hi0, hm, hv, htt, q.1, q.2⟩, if_pos (by rw [q.1, q.2]; simp)]
    · rw [if_neg (fun h => q ⟨h.2.2.2.2.1, h.2.2.2.2.2⟩), if_neg (fun h => q (by
        simp only [Bool.and_eq_true, beq_iff_eq] at h
        exact h))]
  rw [hps]
  have hsub : ∀ x ∈ names.take (names.findIdx (· == i)) ++ names.drop (names.findIdx (· == i) + 1), x < n := fun x hx => by
    rcases List.mem_append.mp hx with z | z
    · exact hN x (List.mem_of_mem_take z)
    · exact hN x (List.mem_of_mem_drop z)
  generalize atv names.length row (names.findIdx (· == i)) (1 - v) = A' at e4' ⊢
  generalize atv names.length row (names.findIdx (· == i)) v = A at e4 e6 e7 hne ⊢
  generalize names.findIdx (· == i) = j at e4 e4' e5 c4 c5 c6 hsub ⊢
  have e8 : ∀ lo, mkL ((names.take j).map .int) lo = ⟨.list ((names.take j).map .int), .own, []⟩ := fun lo => mkL_int _ _
  have e9 : ∀ lo, mkL ((names.drop (j + 1)).map .int) lo = ⟨.list ((names.drop (j + 1)).map .int), .own, []⟩ := fun lo => mkL_int _ _
  simp only [List.map_append] at c6
  have eq6 : ∀ l l' al al', oEq true ⟨.list (A.map .int), l, al⟩ ⟨.list ((List.replicate A.length t).map .int), l', al'⟩ = .ret ⟨.bool (!(A == List.replicate A.length t)), .own, []⟩ := fun l l' al al' => oEq_ints true A (List.replicate A.length t) l l' al al'
  generalize List.replicate A.length t = RR at e6 e7 eq6 ⊢
  cases q : A == RR with
  | false =>
    rw [q] at eq6
    refine .inl ⟨by simp, envQ o0 n o2 (some (.dat d .shr)) row names (SI (j : Nat)) (some (.dat (.list (A.map .int)) .own)), ?_⟩
    unfold bLp
    simp [ht, hlen, x0, e1, en, x1, x2, e2, e3, e5, e4, e6, eq6, -oEq_ints]
  | true =>
    rw [q] at eq6
    refine .inr ⟨_, SI (j : Nat), some (.dat (.list (A.map .int)) .own), if_pos rfl, hsub, ?_⟩
    unfold bLp
    simp [ht, hlen, x0, e1, en, x1, x2, e2, e3, e5, e4, e6, eq6, e4', c4, c5, c6, e8, e9, -oEq_ints, -List.map_take, -List.map_drop]
end D94

set_option Elab.async false
set_option linter.all false
set_option maxRecDepth 100000
set_option maxHeartbeats 800000
namespace D94
open PySem L2 Vm M95
theorem lp_loop {n : Nat} : ∀ (ds : List PyData) (row names : List Int) (o0 o2 o3 o6 o7 : Option Sl), names.length < 6 → row.length = 2 ^ names.length → (∀ x ∈ names, x < n) →
    (ds.foldlM pst (row, names) = none ∧ ∃ env', forLoop (tgName 3) bLp ds (envQ o0 n o2 o3 row names o6 o7) = .ret (.ret (.bool false) .own, env')) ∨
      ∃ p o3' o6' o7' k, ds.foldlM pst (row, names) = some p ∧ p.1.length = 2 ^ k ∧ k < 6 ∧ forLoop (tgName 3) bLp ds (envQ o0 n o2 o3 row names o6 o7) = .ret (.nx, envQ o0 n o2 o3' p.1 p.2 o6' o7')
  | [], row, names, o0, o2, o3, o6, o7, hn, hz, _ => .inr ⟨(row, names), o3, o6, o7, _, rfl, hz, hn, rfl⟩
  | d :: ds, row, names, o0, o2, o3, o6, o7, hn, hz, hN => by
    have et : tgName 3 .shr d (envQ o0 n o2 o3 row names o6 o7) = some (envQ o0 n o2 (some (.dat d .shr)) row names o6 o7) := rfl
    simp only [forLoop, et, ofOption_some, M.bind_ret, List.foldlM_cons]
    rcases bLp_w hn hz hN d o0 o2 o6 o7 with ⟨hp, env', e⟩ | ⟨p, o6', o7', hp, hN', e⟩
    · exact .inl ⟨by rw [hp]; rfl, env', by rw [e]; rfl⟩
    · obtain ⟨i, v, t, _, _, _, _, _, hpe, l1, l2⟩ := pst_inv hp hn hz
      rw [hp, e]
      exact lp_loop ds p.1 p.2 o0 o2 (some (.dat d .shr)) o6' o7' (by omega) l2 hN'
theorem law_peel_d {n : Nat} (hn : n < 6) {row : List Int} (hz : row.length = 2 ^ n) (d : PyData) :
    F__law_is_peeling [some (.list (row.map .int)), some (.int n), some d] = .ret (.bool (isPeel n row d), .own) := by
  have er := lRg0 (n := n) (by omega)
  have hl := rng'_len n
  have go : ∀ r : PyData × Lv, (m__law_is_peeling [some (.dat (.list (row.map .int)) .shr), some (.dat (.int n) .shr), some (.dat d .shr), none, none, none, none, none] >>= fun p => match p.1 with
      | .ret d lv => .ret (d, lv)
      | .nx => .ret (.none, .own)
      | _ => .stuck) = .ret r → F__law_is_peeling [some (.list (row.map .int)), some (.int n), some d] = .ret r := fun r hr => by
    unfold F__law_is_peeling
    rw [fnOf_e, env0_e]
    simp only [List.map_cons, List.map_nil, List.length_cons, List.length_nil, List.replicate, List.cons_append, List.nil_append]
    exact hr
  apply go
  unfold m__law_is_peeling
  rcases seq_cases d with hs | ⟨xs, hd, hs⟩
  · rw [isPeel_none fun a b => by rw [hs]; simp]
    have : (pIs "list" (tyN d) || pIs "tuple" (tyN d)) = false := by cases d <;> simp [seqOf] at hs <;> rfl
    simp [this]
  have ht : (pIs "list" (tyN d) || pIs "tuple" (tyN d)) = true := by rcases hd with rfl | rfl <;> rfl
  have n0 : ∀ lv al, mkRV d lv al = ⟨d, (mkRV d lv al).lv, (mkRV d lv al).al⟩ := fun lv al => by unfold mkRV; split <;> rfl
  have hlen : ∀ l al, bLen [mkRV d l al] = .ret ⟨.int xs.length, .own, []⟩ := fun l al => by
    rw [n0]; rcases hd with rfl | rfl <;> rfl
  by_cases hxl : xs.length = 2
  case neg =>
    rw [isPeel_none fun a b => by rw [hs]; intro z; cases z; exact hxl rfl]
    have : ((xs.length : Int) == 2) = false := by simp; omega
    simp [ht, hlen, this]
  match xs, hxl with
  | [a, b], _ =>
  simp only [List.length_cons, List.length_nil] at hlen
  have x0 : ∀ l l' al al', oIx (mkRV d l al) ⟨.int 0, l', al'⟩ = .ret (mkRV a .shr (mkRV d l al).al) := fun l l' al al' => by rw [n0]; rcases hd with rfl | rfl <;> simp
  have x1 : ∀ l l' al al', oIx (mkRV d l al) ⟨.int 1, l', al'⟩ = .ret (mkRV b .shr (mkRV d l al).al) := fun l l' al al' => by rw [n0]; rcases hd with rfl | rfl <;> simp
  have e4 := law_num_d b 2
  have hP : isPeel n row d = (isL a && isB 2 b && (match ((seqOf a).getD []).foldlM pst (row, rng' n) with
    | some p => isOne p.1 && PyData.eqv (.int (p.1.getD 0 0)) b
    | none => false)) := by
    unfold isPeel
    rw [hs]
    all_goals rfl
  rw [hP]
  have hta : (pIs "list" (tyN a) || pIs "tuple" (tyN a)) = isL a := by cases a <;> rfl
  by_cases hab : isL a = true ∧ isB 2 b = true
  case neg =>
    have : (isL a && isB 2 b) = false := by
      cases q1 : isL a <;> cases q2 : isB 2 b <;> simp
      exact hab ⟨q1, q2⟩
    rw [this, Bool.false_and]
    cases q1 : isL a with
    | false => rw [q1] at hta; simp [ht, hlen, x0, hta]
    | true =>
      have q2 : isB 2 b = false := by
        cases z : isB 2 b with
        | false => rfl
        | true => exact absurd ⟨q1, z⟩ hab
      rw [q1] at hta
      rw [q2] at e4
      simp [ht, hlen, x0, x1, hta, e4]
  obtain ⟨q1, q2⟩ := hab
  rw [q1, q2, Bool.true_and, Bool.true_and]
  rw [q1] at hta
  rw [q2] at e4
  have s2 : (sIf (tOrM (tNotM (tru (vIsi (fun t => pIs "list" t || pIs "tuple" t) (eName 2)))) (tOrM (asB (ev2 (oEq true) (vB bLen (aCons (eName 2) aNil)) (eInt 2))) (tOrM (tNotM (tru (vIsi (fun t => pIs "list" t || pIs "tuple" t) (ev2 oIx (eName 2) (eInt 0))))) (tNotM (tru (vCall 2 F__law_is_number (aCons (ev2 oIx (eName 2) (eInt 1)) (aCons (eInt 2) aNil)))))))) (sCons (sRet (eBool false))
  sNil) sNil) [some (.dat (.list (row.map .int)) .shr), some (.dat (.int n) .shr), some (.dat d .shr), none, none, none, none, none] = .ret (.nx, [some (.dat (.list (row.map .int)) .shr), some (.dat (.int n) .shr), some (.dat d .shr), none, none, none, none, none]) := by
    simp [ht, hlen, x0, x1, hta, e4]
  rw [sCons_e, s2, M.bind_ret]
  simp only []
  have s3 : (sPar [4, 5] [(vB bList (aCons (eName 0) aNil)), (vRg1 lRg (eName 1))]) [some (.dat (.list (row.map .int)) .shr), some (.dat (.int n) .shr), some (.dat d .shr), none, none, none, none, none] = .ret (.nx, envQ (some (.dat (.list (row.map .int)) .shr)) n (some (.dat d .shr)) none row (rng' n) none none) := by
    simp [vRg1, er, mkL_int]
  rw [sCons_e, s3, M.bind_ret]
  simp only []
  obtain ⟨xs, hxs⟩ : ∃ xs, seqOf a = some xs := Option.isSome_iff_exists.mp q1
  have ha : a = .list xs ∨ a = .tuple xs := by
    rcases seq_cases a with z | ⟨ys, z, w⟩
    · rw [hxs] at z; cases z
    · rw [hxs] at w
      have := Option.some.inj w
      rw [← this] at z; exact z
  have s4 : iSeq (ev2 oIx (eName 2) (eInt 0)) (envQ (some (.dat (.list (row.map .int)) .shr)) n (some (.dat d .shr)) none row (rng' n) none none) = .ret (xs, []) := by
    simp [x0]
    rcases ha with rfl | rfl <;> rfl
  rw [sCons_e, sFor_e, s4, M.bind_ret]
  simp only [frz_nil]
  rw [hxs, Option.getD_some]
  have hNr : ∀ x ∈ rng' n, x < n := fun x hx => by
    obtain ⟨i, hi, rfl⟩ := List.mem_map.mp hx
    have := List.mem_range.mp hi
    omega
  have hB := lp_loop (n := n) xs row (rng' n) (some (.dat (.list (row.map .int)) .shr)) (some (.dat d .shr)) none none none (by omega) (by rw [hl]; exact hz) hNr
  unfold bLp at hB
  rcases hB with ⟨hp, env', e⟩ | ⟨p, o3', o6', o7', k, hp, hk, hk6, e⟩
  · rw [e, hp]
    rfl
  · rw [e, hp]
    have hne := ne_of_pow hk
    have hlt := pow_lt hk6 hk
    have ebb : b = .int 0 ∨ b = .int 1 := isB_inv q2
    obtain ⟨bi, rfl⟩ : ∃ bi : Int, b = .int bi := by rcases ebb with rfl | rfl <;> exact ⟨_, rfl⟩
    obtain ⟨r', nm'⟩ := p
    simp only at hne hlt ⊢
    have e6 := fun l l' al al' => oRep0 hne hlt bi l l' al al'
    have e7 := rep_one bi hne
    have eq6 : ∀ l l' al al', oEq false ⟨.list (r'.map .int), l, al⟩ ⟨.list ((List.replicate r'.length bi).map .int), l', al'⟩ = .ret ⟨.bool (r' == List.replicate r'.length bi), .own, []⟩ := fun l l' al al' => oEq_ints false r' (List.replicate r'.length bi) l l' al al'
    rw [e7] at eq6
    generalize List.replicate r'.length bi = RR at e6 eq6
    simp [x1, e6, eq6, -oEq_ints]
end D94

set_option Elab.async false
set_option linter.all false
set_option maxRecDepth 100000
set_option maxHeartbeats 800000
namespace D94
open PySem L2 Vm M95
section
variable {R : List Int → Int} {n : Nat}
theorem num_nat (hn : n < 6) {s : List Int} (hs : s ∈ sts n) : ((num s).toNat : Int) = num s := by
  have h1 := sts_num ⟨n, hn⟩
  simp only at h1
  have h2 : num s ∈ (sts n).map num := List.mem_map_of_mem hs
  rw [h1] at h2
  obtain ⟨i, _, e⟩ := List.mem_map.mp h2
  omega
theorem row_fn (hn : n < 6) {xs : List Int} (hz : xs.length = 2 ^ n) (h : ∀ x ∈ xs, x = 0 ∨ x = 1) : ∃ R : List Int → Int, xs = (sts n).map R ∧ ∀ s, R s = 0 ∨ R s = 1 := by
  refine ⟨fun s => xs.getD (num s).toNat 0, ?_, fun s => ?_⟩
  · apply List.ext_getElem?
    intro i
    rw [List.getElem?_map]
    by_cases hi : i < 2 ^ n
    · have h1 := sts_num ⟨n, hn⟩
      simp only at h1
      have hi2 : i < (sts n).length := by rw [sts_length]; exact hi
      have h2 : num ((sts n)[i]) = (i : Int) := by
        have h3 : ((sts n).map num)[i]? = some (num (sts n)[i]) := by simp [hi2]
        rw [h1] at h3
        simp [hi] at h3
        exact h3.symm
      have hi3 : i < xs.length := by omega
      simp [hi2, hi3, h2]
    · rw [List.getElem?_eq_none (by omega), List.getElem?_eq_none (by rw [sts_length]; omega)]
      rfl
  · show xs.getD _ 0 = 0 ∨ xs.getD _ 0 = 1
    by_cases hi : (num s).toNat < xs.length
    · have : xs.getD (num s).toNat 0 = xs[(num s).toNat] := by simp [hi]
      rw [this]
      exact h _ (List.getElem_mem _)
    · exact .inl (by simp [List.getD, List.getElem?_eq_none (Nat.le_of_not_lt hi)])
end
theorem okR_all : ∀ (s : List Int), okR (List.replicate s.length none) s = true
  | [] => rfl
  | x :: s => okR_all s
theorem cube_all (n : Nat) : cube (List.replicate n none) = sts n := by
  unfold cube
  rw [List.length_replicate]
  refine List.filter_eq_self.mpr fun s hs => ?_
  have := okR_all s
  rwa [sts_mem hs] at this
theorem fr_all (n : Nat) : fr (List.replicate n none) = rng' n := by
  unfold fr free rng'
  rw [List.length_replicate]
  congr 1
  refine List.filter_eq_self.mpr fun i hi => ?_
  have := List.mem_range.mp hi
  simp [this]
/-- how the two peelings of a row end -/
theorem both {n : Nat} (hn : n < 6) {row : List Int} (hz : row.length = 2 ^ n) (h : ∀ x ∈ row, x = 0 ∨ x = 1) :
    (isOne (layF 6 row (rng' n)).2.2 = isOne (peelL n row)) ∧ (isOne (peelL n row) = false → (peelS n row (rng' n)).2 = (layF 6 row (rng' n)).2.1) ∧ peelL n row ≠ [] ∧ (layF 6 row (rng' n)).2.2 ≠ [] ∧ (layF 6 row (rng' n)).2.2.length < 1000 ∧
      (isOne (peelL n row) = true → isPeel n row (.tuple [.list ((peelS n row (rng' n)).1.map encS), .int ((peelL n row).getD 0 0)]) = true) := by
  obtain ⟨f, rfl, hR⟩ := row_fn hn hz h
  have e0 : (sts n).map f = rowR f (List.replicate n none) := by unfold rowR; rw [cube_all]
  have hf : (free (List.replicate n none)).length = n := by
    have := congrArg List.length (fr_all n)
    rw [fr_len, rng'_len] at this; exact this
  obtain ⟨ρ, r1, r2, r3, r4, r5⟩ := peel_end (f := f) hn hR n _ Reach.nil hf
  obtain ⟨σ, s1, s2, s3, s4⟩ := lay_end (f := f) hn 6 _ Reach.nil (by omega)
  rw [← e0] at r2
  rw [fr_all, ← e0] at r3
  rw [fr_all, ← e0] at r5
  rw [fr_all, ← e0] at s2
  rw [fr_all, ← e0] at s3
  have hρ : ρ.length < 6 := by rw [r1.len]; exact hn
  have hσ : σ.length < 6 := by rw [s1.len]; exact hn
  have lρ := row_len (f := f) hρ r1.tri
  have lσ := row_len (f := f) hσ s1.tri
  rw [r2, s2, s3, r3]
  have hfl : (free σ).length ≤ σ.length := by
    have := List.length_filter_le (fun i => σ[i]? == some none) (List.range σ.length)
    simpa [free] using this
  have key : isOne (rowR f ρ) = false → ρ = σ := fun z => by
    have st : Stuck f ρ := r4.resolve_left (by rw [z]; decide)
    exact (ends s1 r1 s4 st).symm
  have key2 : isOne (rowR f σ) = false → ρ = σ := fun z => by
    have st : Stuck f σ := s4.resolve_left (by rw [z]; decide)
    exact ends r1 s1 r4 st
  refine ⟨?_, fun z => by rw [key z], ne_of_pow lρ, ne_of_pow lσ, ?_, fun z => ?_⟩
  · cases q : isOne (rowR f ρ) with
    | false => rw [← key q, q]
    | true =>
      cases q2 : isOne (rowR f σ) with
      | true => rfl
      | false => rw [key2 q2, q2] at q; exact q
  · exact pow_lt (by omega) lσ
  · unfold isPeel
    have hb : isB 2 (.int ((rowR f ρ).getD 0 0)) = true := by
      have hne := ne_of_pow lρ
      cases e : rowR f ρ with
      | nil => exact absurd e hne
      | cons x xs =>
        have hx : x ∈ rowR f ρ := by rw [e]; exact List.mem_cons_self
        obtain ⟨s, _, hs⟩ := List.mem_map.mp hx
        show isB 2 (.int x) = true
        rcases hR s with q | q <;> rw [← hs, q] <;> rfl
    simp only [seqOf, Option.getD_some]
    rw [r5, hb]
    simp [isL, seqOf, z]
end D94

set_option Elab.async false
set_option linter.all false
set_option maxRecDepth 100000
set_option maxHeartbeats 800000
namespace D94
open PySem L2 Vm M95
theorem noDicts_mem : ∀ {xs : List PyData}, noDicts xs = true → ∀ x ∈ xs, noDict x = true
  | [], _, x, hx => by cases hx
  | y :: ys, h, x, hx => by
    simp only [noDicts, Bool.and_eq_true] at h
    rcases List.mem_cons.mp hx with rfl | hx
    · exact h.1
    · exact noDicts_mem h.2 x hx
/-- a copy of a thing: lists and tuples of any kind -/
theorem copied_d : ∀ (n : Nat) (d : PyData), d.depth < n → noDict d = true → szd sizeLine d = true → F__law_copied n [some d] = .ret (d, .own)
  | 0, d, h, _, _ => by omega
  | n + 1, d, h, hc, hz => by
    have ih := copied_d n
    unfold F__law_copied m__law_copied
    cases d
    case dict => cases hc
    case list xs =>
      have hm : ∀ x ∈ xs, noDict x = true := noDicts_mem hc
      have e1 : ∀ x ∈ xs, F__law_copied n [some x] = .ret (x, .own) := fun x hx => ih x (by have := depth_mem0 hx; simp only [PyData.depth] at h; omega) (hm x hx) ((szd_list hz).2 x hx)
      simp [List.replicate, pIs]
      rw [vComp_yes [] xs id id (by simp) (Nat.le_of_lt (szd_list hz).1) (fun x hx => ⟨_, rfl, by simp [e1 x hx]⟩)]
      simp
    case tuple xs =>
      have hm : ∀ x ∈ xs, noDict x = true := noDicts_mem hc
      have e1 : ∀ x ∈ xs, F__law_copied n [some x] = .ret (x, .own) := fun x hx => ih x (by have := depth_mem0 hx; simp only [PyData.depth] at h; omega) (hm x hx) ((szd_tuple hz).2 x hx)
      simp [List.replicate, pIs]
      cases hi : imms xs with
      | true =>
        try simp [hi]
        rw [vComp_yes [] xs id id (by simp [hi]) (Nat.le_of_lt (szd_tuple hz).1) (fun x hx => ⟨_, rfl, by simp [e1 x hx]⟩)]
        simp [hi]
      | false =>
        have hk : mkRV (.tuple xs) .shr [] = ⟨.tuple xs, .shr, []⟩ := by unfold mkRV; rw [if_neg (by show ¬ imms xs = true; rw [hi]; decide)]
        try simp [hk]
        rw [vComp_yes [] xs id id (by simp [hk]) (Nat.le_of_lt (szd_tuple hz).1) (fun x hx => ⟨_, rfl, by simp [e1 x hx]⟩)]
        have hk2 : ∀ al, mkRV (.tuple xs) .own al = ⟨.tuple xs, .own, al⟩ := fun al => by unfold mkRV; rw [if_neg (by show ¬ imms xs = true; rw [hi]; decide)]
        simp [hk2]
    all_goals simp [List.replicate, pIs]
theorem copied_0 (n : Nat) : F__law_copied (n + 1) [some (.dict [])] = .ret (.dict [], .own) := by
  unfold F__law_copied m__law_copied
  simp [List.replicate, pIs]
end D94

set_option Elab.async false
set_option linter.all false
set_option maxRecDepth 100000
set_option maxHeartbeats 800000
namespace D94
open PySem L2 Vm M95
/-! ### all-specs: things that are drawn -/
abbrev envM (xs : List PyData) (o2 : Option Sl) (left found : List PyData) (lL lF : Lv) : Vm.Env := [some .stm, some (.dat (.list xs) .shr), o2, some (.dat (.list left) lL), some (.dat (.list found) lF)]
def bMx : Vm.Env → M (Fl × Vm.Env) := (sCons (sAppPop 4 3 (vCall 2 F__law_draw (aStm 0 (aCons (vB bLen (aCons (eName 3) aNil)) aNil))))
  sNil)
theorem bMx_w {Rx : Exn → Nat → Prop} {Q : Fl × Vm.Env → Nat → Prop} {b : Nat} {xs left found : List PyData} {o2 : Option Sl} {lL lF : Lv} (h1 : lL ≠ .shr) (h2 : lF ≠ .shr) (hl : 0 < left.length) (hz : left.length < 1000) (hf : found.length < 1000) (hb : 0 < b)
    (h : ∀ (z : Nat) (hz : z < left.length) lL' lF', lL' ≠ .shr → lF' ≠ .shr → Q (.nx, envM xs o2 (left.eraseIdx z) (found ++ [left[z]]) lL' lF') (b - 1)) : (bMx (envM xs o2 left found lL lF)).all Rx Q b := by
  have d := draw_v left.length hl (by omega)
  have el : ∀ l al, bLen [mkRV (.list left) l al] = .ret ⟨.int left.length, .own, []⟩ := fun l al => rfl
  unfold bMx
  simp [d]
  refine ⟨hl, hb, fun z hz' => ?_⟩
  have hix : ixN left.length (z : Int) = some z := by
    unfold ixN
    rw [if_pos (Int.natCast_nonneg z), if_pos (by omega)]
    simp
  have hp : mutPop 3 (z : Int) (envM xs o2 left found lL lF) = some (mkRV left[z] .shr [], envM xs o2 (left.eraseIdx z) found (if lL = .own ∧ imms left = true then .own else .top) lF) := by
    unfold mutPop
    simp [h1, sm62_nat (n := z) (by omega), hix, hz']
  have key : ∀ rv : RV, rv.d = left[z] → rv.al = [] → ∃ lF', lF' ≠ .shr ∧ mutApp 4 rv (envM xs o2 (left.eraseIdx z) found (if lL = .own ∧ imms left = true then .own else .top) lF) = some (envM xs o2 (left.eraseIdx z) (found ++ [left[z]]) (if lL = .own ∧ imms left = true then .own else .top) lF') := fun rv hd ha => by
    by_cases ho : lF = .own ∧ rv.lv = .own
    · refine ⟨.own, by decide, ?_⟩
      unfold mutApp
      simp [h2, ha, hd, ho, kill]
      omega
    · refine ⟨.top, by decide, ?_⟩
      unfold mutApp
      simp [h2, ha, hd, ho, frz]
      omega
  obtain ⟨lF', hl', ha⟩ := key (mkRV left[z] .shr []) (by simp) (by simp)
  show M.all Rx Q (M.ofOption (mutPop 3 (z : Int) (envM xs o2 left found lL lF)) >>= fun q => M.ofOption (mutApp 4 q.1 q.2) >>= fun env' => .ret (.nx, env')) (b - 1)
  rw [hp, ofOption_some, M.bind_ret]
  simp only []
  rw [ha, ofOption_some, M.bind_ret]
  exact h z hz' _ _ (by split <;> decide) hl'
theorem erase_perm {l : List PyData} {z : Nat} (h : z < l.length) : ([l[z]] ++ l.eraseIdx z).Perm l := by
  rw [List.eraseIdx_eq_take_drop_succ]
  have e : l.take z ++ l[z] :: l.drop (z + 1) = l := by rw [← List.drop_eq_getElem_cons h, List.take_append_drop]
  exact (show (l[z] :: (l.take z ++ l.drop (z + 1))).Perm (l.take z ++ l[z] :: l.drop (z + 1)) from List.perm_middle.symm).trans (.of_eq e)
theorem ret_mx {Rx : Exn → Nat → Prop} {Q : Fl × Vm.Env → Nat → Prop} {b : Nat} {xs found : List PyData} {o2 : Option Sl} {lL lF : Lv} (h2 : lF ≠ .shr) (h : ∀ lv, Q (.ret (.list found) lv, envM xs o2 [] found lL lF) b) :
    (sCons (sRet (eName 4)) sNil (envM xs o2 [] found lL lF)).all Rx Q b := by
  cases lF with
  | shr => exact absurd rfl h2
  | top => simp; exact h _
  | own => simp; exact h _
/-- what _law_mixed tells: the same things, some order -/
theorem mixed_all {Rx : Exn → Nat → Prop} {Q : PyData × Lv → Nat → Prop} {b : Nat} (xs : List PyData) (hz : xs.length < 1000) (hb : xs.length ≤ b)
    (h : ∀ ys lv b', ys.Perm xs → b ≤ b' + xs.length → Q (.list ys, lv) b') : (F__law_mixed [none, some (.list xs)]).all Rx Q b := by
  have go : (m__law_mixed [some .stm, some (.dat (.list xs) .shr), none, none, none]).all Rx (fun p b' => ∃ ys lv, p.1 = .ret (.list ys) lv ∧ ys.Perm xs ∧ b ≤ b' + xs.length) b := by
    unfold m__law_mixed
    have s1 : ∃ lL, lL ≠ .shr ∧ (sPar [3, 4] [(vB bList (aCons (eName 1) aNil)), (vLst aNil)]) [some .stm, some (.dat (.list xs) .shr), none, none, none] = .ret (.nx, envM xs none xs [] lL .own) := by
      cases hi : imms xs with
      | true => exact ⟨.own, by decide, by simp [mkL, hi, dispL]⟩
      | false => exact ⟨.top, by decide, by simp [mkL, hi, dispL, prep]⟩
    obtain ⟨lL, hL, s1⟩ := s1
    rw [sCons_e, s1, M.bind_ret]
    simp only []
    have s2 : iRange1 (aCons (vB bLen (aCons (eName 3) aNil)) aNil) (envM xs none xs [] lL .own) = .ret (rng 0 xs.length, []) := by
      have el : ∀ l al, bLen [mkRV (.list xs) l al] = .ret ⟨.int xs.length, .own, []⟩ := fun l al => rfl
      simp [sm62_nat (n := xs.length) (by omega)]
    rw [sCons_e, sFor_e, s2, M.bind_ret]
    simp only [frz_nil]
    rw [M.all_bind]
    have hbm : (sCons (sAppPop 4 3 (vCall 2 F__law_draw (aStm 0 (aCons (vB bLen (aCons (eName 3) aNil)) aNil))))
  sNil) = bMx := rfl
    rw [hbm]
    refine forLoop_all (rng 0 xs.length) (fun i env b' => ∃ o2 left found lL lF, env = envM xs o2 left found lL lF ∧ lL ≠ .shr ∧ lF ≠ .shr ∧ found.length = i ∧ left.length + i = xs.length ∧ (found ++ left).Perm xs ∧ b ≤ b' + i) _ _ ⟨none, xs, [], lL, .own, rfl, hL, by decide, rfl, rfl, .refl _, Nat.le_refl _⟩ (fun i d env b' hd hI => ?_) fun env b' hI => ?_
    · obtain ⟨o2, left, found, lL, lF, rfl, h1, h2, h3, h4, h5, h6⟩ := hI
      have hi : i < xs.length := by
        have := (List.getElem?_eq_some_iff.mp hd).1
        simpa [rng] using this
      refine ⟨envM xs (some (.dat d .shr)) left found lL lF, rfl, ?_⟩
      refine bMx_w h1 h2 (by omega) (by omega) (by omega) (by omega) fun z hz' lL' lF' q1 q2 => ?_
      refine ⟨_, left.eraseIdx z, found ++ [left[z]], lL', lF', rfl, q1, q2, by simp [h3], ?_, ?_, by omega⟩
      · rw [List.length_eraseIdx_of_lt hz']; omega
      · refine List.Perm.trans ?_ h5
        rw [List.append_assoc]
        refine List.Perm.append_left found ?_
        exact erase_perm hz'
    · obtain ⟨o2, left, found, lL, lF, rfl, h1, h2, h3, h4, h5, h6⟩ := hI
      have hr : (rng 0 xs.length).length = xs.length := by simp [rng]
      rw [hr] at h3 h4 h6
      have hle : left = [] := List.eq_nil_of_length_eq_zero (by omega)
      subst hle
      rw [List.append_nil] at h5
      exact ret_mx h2 fun lv => ⟨found, lv, rfl, h5, h6⟩
  unfold F__law_mixed
  rw [fnOf_e, env0_e]
  simp only [List.map_cons, List.map_nil, List.length_cons, List.length_nil, List.replicate, List.cons_append, List.nil_append]
  rw [M.all_bind]
  refine M.all_mono (fun p b' hp => ?_) _ _ go
  obtain ⟨ys, lv, e, q2, q3⟩ := hp
  rw [e]
  exact h ys lv b' q2 q3
end D94

set_option Elab.async false
set_option linter.all false
set_option maxRecDepth 100000
set_option maxHeartbeats 800000
namespace D94
open PySem L2 Vm M95
inductive All2 {α β : Type} (P : α → β → Prop) : List α → List β → Prop
  | nil : All2 P [] []
  | cons {a : α} {b : β} {as : List α} {bs : List β} : P a b → All2 P as bs → All2 P (a :: as) (b :: bs)
/-- a comprehension whose elements draw, each at its own cost -/
theorem compLoop_gen {Rx : Exn → Nat → Prop} {tg : Lv → PyData → Vm.Env → Option Vm.Env} {elt : Vm.Env → M RV} {e0 : Vm.Env} (P : PyData → RV → Prop) (cost : PyData → Nat) :
    ∀ (xs : List PyData) (b : Nat) (Q : List RV → Nat → Prop), (∀ x ∈ xs, ∃ e, tg .shr x e0 = some e ∧ ∀ b, cost x ≤ b → (elt e).all Rx (fun r b' => b ≤ b' + cost x ∧ P x r) b) → (xs.map cost).sum ≤ b →
      (∀ (rs : List RV) (b' : Nat), All2 P xs rs → b ≤ b' + (xs.map cost).sum → Q rs b') → (compLoop tg cYes elt e0 xs).all Rx Q b
  | [], b, Q, _, _, h => h [] b .nil (by simp)
  | x :: xs, b, Q, he, hb, h => by
    obtain ⟨e, h1, h2⟩ := he x List.mem_cons_self
    simp only [List.map_cons, List.sum_cons] at hb
    simp only [compLoop, h1, ofOption_some, M.bind_ret, cYes_e, if_true]
    rw [M.all_bind]
    refine M.all_mono (fun r b1 h3 => ?_) _ _ (h2 b (by omega))
    obtain ⟨h3, pr⟩ := h3
    rw [M.all_bind]
    refine compLoop_gen P cost xs b1 _ (fun x hx => he x (List.mem_cons_of_mem _ hx)) (by omega) fun rs b' hf hb' => ?_
    exact h (r :: rs) b' (.cons pr hf) (by simp only [List.map_cons, List.sum_cons]; omega)
end D94

set_option Elab.async false
set_option linter.all false
set_option maxRecDepth 100000
set_option maxHeartbeats 800000
namespace D94
open PySem L2 Vm M95
mutual
/-- how many lists and tuples are in it -/
def nodes : PyData → Nat
  | .list xs => 1 + nodesL xs
  | .tuple xs => 1 + nodesL xs
  | _ => 0
def nodesL : List PyData → Nat
  | [] => 0
  | x :: xs => nodes x + nodesL xs
end
theorem nodesL_sum : ∀ xs : List PyData, nodesL xs = (xs.map nodes).sum
  | [] => rfl
  | x :: xs => by simp [nodesL, nodesL_sum xs]
/-- a thing of the law -/
structure Th (k m : Nat) (d : PyData) : Prop where
  nd : noDict d = true
  sz : szd m d = true
  dp : d.depth ≤ k
theorem All2.length {α β : Type} {P : α → β → Prop} {as : List α} {bs : List β} (h : All2 P as bs) : bs.length = as.length := by
  induction h with
  | nil => rfl
  | cons _ _ ih => simp [ih]
theorem All2.right {α β : Type} {P : α → β → Prop} {Q : β → Prop} {as : List α} {bs : List β} (h : All2 P as bs) (hq : ∀ a ∈ as, ∀ b, P a b → Q b) : ∀ b ∈ bs, Q b := by
  induction h with
  | nil => intro b hb; cases hb
  | cons p _ ih =>
    intro b hb
    rcases List.mem_cons.mp hb with rfl | hb
    · exact hq _ List.mem_cons_self _ p
    · exact ih (fun a ha => hq a (List.mem_cons_of_mem _ ha)) b hb
theorem noDicts_of : ∀ {xs : List PyData}, (∀ x ∈ xs, noDict x = true) → noDicts xs = true
  | [], _ => rfl
  | x :: xs, h => by
    simp only [noDicts, Bool.and_eq_true]
    exact ⟨h x List.mem_cons_self, noDicts_of fun y hy => h y (List.mem_cons_of_mem _ hy)⟩
theorem depthAll_le {k : Nat} : ∀ {xs : List PyData}, (∀ x ∈ xs, x.depth ≤ k) → PyData.depthAll xs ≤ k
  | [], _ => Nat.zero_le _
  | x :: xs, h => by
    simp only [PyData.depthAll]
    have := h x List.mem_cons_self
    have := depthAll_le (k := k) fun y hy => h y (List.mem_cons_of_mem _ hy)
    omega
theorem Th.list {k m : Nat} {xs : List PyData} (hl : xs.length < m) (h : ∀ x ∈ xs, Th k m x) : Th (k + 1) m (.list xs) := ⟨noDicts_of fun x hx => (h x hx).nd, szd_ofL hl fun x hx => (h x hx).sz, Nat.succ_le_succ (depthAll_le fun x hx => (h x hx).dp)⟩
theorem Th.tuple {k m : Nat} {xs : List PyData} (hl : xs.length < m) (h : ∀ x ∈ xs, Th k m x) : Th (k + 1) m (.tuple xs) := ⟨noDicts_of fun x hx => (h x hx).nd, szd_ofT hl fun x hx => (h x hx).sz, Nat.succ_le_succ (depthAll_le fun x hx => (h x hx).dp)⟩
theorem Th.parts {k m : Nat} {d : PyData} {xs : List PyData} (h : Th (k + 1) m d) (hd : d = .list xs ∨ d = .tuple xs) : xs.length < m ∧ ∀ x ∈ xs, Th k m x := by
  rcases hd with rfl | rfl
  · obtain ⟨h1, h2⟩ := szd_list h.sz
    exact ⟨h1, fun x hx => ⟨noDicts_mem h.nd x hx, h2 x hx, Nat.le_trans (depth_mem0 hx) (Nat.le_of_succ_le_succ h.dp)⟩⟩
  · obtain ⟨h1, h2⟩ := szd_tuple h.sz
    exact ⟨h1, fun x hx => ⟨noDicts_mem h.nd x hx, h2 x hx, Nat.le_trans (depth_mem0 hx) (Nat.le_of_succ_le_succ h.dp)⟩⟩
end D94

set_option Elab.async false
set_option linter.all false
set_option maxRecDepth 100000
set_option maxHeartbeats 800000
namespace D94
open PySem L2 Vm M95
theorem calm_all {α : Type} {Rx : Exn → Nat → Prop} {P : α → Nat → Prop} : ∀ (m : M α) (b : Nat), m.all M.R0 P b → m.calm.all Rx P b
  | .ret a, b, q => q
  | .stuck, b, q => q
  | .raise x, b, q => q.elim
  | .draw n k, b, q => ⟨q.1, q.2.1, fun z hz => calm_all (k z) (b - 1) (q.2.2 z hz)⟩
theorem loose_all {Rx : Exn → Nat → Prop} {m : Nat} (hm : m ≤ sizeLine) : ∀ (n k : Nat) (d : PyData) (b : Nat) (Q : PyData × Lv → Nat → Prop), Th k m d → d.depth < n → nodes d ≤ b → (∀ d' lv b', Th k m d' → b ≤ b' + nodes d → Q (d', lv) b') → (F__law_loose n [none, some d]).all Rx Q b
  | 0, k, d, b, Q, _, h, _, _ => by omega
  | n + 1, k, d, b, Q, ht, hd, hb, h => by
    rcases seq_cases d with hs | ⟨xs, hx, hs⟩
    · have : (pIs "list" (tyN d) || pIs "tuple" (tyN d)) = false := by cases d <;> simp [seqOf] at hs <;> rfl
      unfold F__law_loose m__law_loose
      simp [List.replicate, this]
      exact h _ _ _ ht (by omega)
    · cases k with
      | zero => exact absurd ht.dp (by rcases hx with rfl | rfl <;> simp [PyData.depth])
      | succ k =>
      obtain ⟨hl, hp⟩ := ht.parts hx
      have htt : (pIs "list" (tyN d) || pIs "tuple" (tyN d)) = true := by rcases hx with rfl | rfl <;> rfl
      have hn : nodes d = 1 + (xs.map nodes).sum := by rcases hx with rfl | rfl <;> simp [nodes, nodesL_sum]
      have hdx : ∀ x ∈ xs, x.depth < n := fun x hx' => by
        have := depth_mem0 hx'
        rcases hx with rfl | rfl <;> simp only [PyData.depth] at hd <;> omega
      have it : iSeq (eName 1) [some .stm, some (.dat d .shr), none, none] = .ret (xs, []) := by
        rcases hx with rfl | rfl
        · simp
        · cases hi : imms xs <;> simp [mkRV, imm, hi]
      unfold F__law_loose m__law_loose
      have d2 := draw_v 2 (by decide) (by decide)
      simp at d2
      simp [List.replicate, htt]
      unfold vComp
      rw [it]
      simp only [M.bind_ret]
      rw [if_pos (by omega)]
      rw [M.all_bind, M.all_bind]
      refine calm_all _ _ (compLoop_gen (fun x r => Th k m r.d ∧ r.al = []) nodes xs b _ (fun x hx' => ⟨_, rfl, fun b1 hb1 => ?_⟩) (by omega) fun rs b' hf hb' => ?_)
      · simp
        rw [M.all_bind]
        refine loose_all hm n k x b1 _ (hp x hx') (hdx x hx') hb1 fun d' lv b2 ht' hb2 => ?_
        exact ⟨hb2, by simpa using ht', by simp [alsA]⟩
      · have hlen := hf.length
        have hT : ∀ y ∈ dsOf rs, Th k m y := fun y hy => by
          obtain ⟨r, hr, rfl⟩ := List.mem_map.mp hy
          exact hf.right (Q := fun r => Th k m r.d) (fun a _ r q => q.1) r hr
        have hds : (dsOf rs).length < m := by simp [dsOf, hlen]; exact hl
        have hal : als rs = [] := by
          unfold als
          rw [List.flatMap_eq_nil_iff]
          exact fun r hr => hf.right (Q := fun r => r.al = []) (fun a _ r q => q.2) r hr
        have hc : ∃ lv, (lv = .own ∨ lv = .top) ∧ compRV rs [] = ⟨.list (dsOf rs), lv, []⟩ := by
          unfold compRV
          rw [hal]
          split
          · exact ⟨.own, .inl rfl, rfl⟩
          · split
            · exact ⟨.own, .inl rfl, rfl⟩
            · exact ⟨.top, .inr rfl, rfl⟩
        obtain ⟨lv, hlv, hc⟩ := hc
        rw [hc, M.all_ret]
        have hq : ∀ y lv', (y = .list (dsOf rs) ∨ y = .tuple (dsOf rs)) → Q (y, lv') (b' - 1) := fun y lv' hy => h y lv' (b' - 1) (by rcases hy with rfl | rfl; exact Th.list hds hT; exact Th.tuple hds hT) (by omega)
        have hpos : 0 < b' := by omega
        rcases hlv with rfl | rfl
        · simp [prep, kill, d2]
          refine ⟨by decide, hpos, fun z hz => ?_⟩
          by_cases hz0 : z = 0
          · subst hz0
            have hd' : (mkT (dsOf rs) [2]).d = .tuple (dsOf rs) := by simp [mkT]
            simp [hd']
            exact hq _ _ (.inr rfl)
          · simp [hz0]
            exact hq _ _ (.inl rfl)
        · simp [prep, d2]
          refine ⟨by decide, hpos, fun z hz => ?_⟩
          by_cases hz0 : z = 0
          · subst hz0
            have hd' : (mkT (dsOf rs) [2]).d = .tuple (dsOf rs) := by simp [mkT]
            simp [hd']
            exact hq _ _ (.inr rfl)
          · simp [hz0]
            exact hq _ _ (.inl rfl)
end D94

set_option Elab.async false
set_option linter.all false
set_option maxRecDepth 100000
set_option maxHeartbeats 800000
namespace D94
open PySem L2 Vm M95
/-! ### rows that are drawn -/
def IsR (n : Nat) (row : List Int) : Prop := row.length = 2 ^ n ∧ ∀ x ∈ row, x = 0 ∨ x = 1
abbrev envR (l5 : Lv) (n : Nat) (o2 o3 o4 : Option Sl) (z : Int) (o7 o8 o9 o10 o11 o12 o13 : Option Sl) : Vm.Env :=
  [some .stm, some (.dat (.int n) .shr), o2, o3, o4, some (.dat (DLI (sts n)) l5), some (.dat (.int z) .own), o7, o8, o9, o10, o11, o12, o13]
theorem row_s1 {n : Nat} (hn : n < 6) : (sPar [5, 6] [(vCall 1 F__law_states (aCons (eName 1) aNil)), (vCall 2 F__law_draw (aStm 0 (aCons (eInt 4) aNil)))]) (env0 14 [none, some (.int n)]) =
    .draw 4 fun z => .ret (.nx, envR .own n none none none (z : Nat) none none none none none none none) := by
  have d4 := draw_v 4 (by decide) (by decide)
  simp at d4
  have e1 := law_states_v n (by omega)
  simp [e1, d4, List.replicate]
theorem two01 (z : Nat) (hz : z < 2) : (z : Int) = 0 ∨ (z : Int) = 1 := by omega
/-- a comprehension of drawn values -/
theorem draws_all {Rx : Exn → Nat → Prop} {Q : List RV → Nat → Prop} {tg : Lv → PyData → Vm.Env → Option Vm.Env} {elt : Vm.Env → M RV} {e0 : Vm.Env} (xs : List PyData) (b : Nat)
    (he : ∀ x ∈ xs, ∃ e, tg .shr x e0 = some e ∧ elt e = .draw 2 fun z => .ret ⟨.int (z : Nat), .own, []⟩) (hb : xs.length ≤ b)
    (h : ∀ (ys : List Int) (b' : Nat), ys.length = xs.length → (∀ y ∈ ys, y = 0 ∨ y = 1) → b ≤ b' + xs.length → Q (ys.map rvI) b') : (compLoop tg cYes elt e0 xs).all Rx Q b := by
  have e := compLoop_all (Rx := Rx) (Q := Q) (tg := tg) (elt := elt) (e0 := e0) id rvI (fun y : Int => y = 0 ∨ y = 1) 1 xs b (fun x hx => by
    obtain ⟨e, h1, h2⟩ := he x hx
    refine ⟨e, h1, fun b hb => ?_⟩
    rw [h2]
    exact ⟨by decide, by omega, fun z hz => ⟨by omega, (z : Nat), two01 z hz, rfl⟩⟩) (by omega) (fun ys b' h1 h2 h3 => h ys b' h1 h2 (by omega))
  rwa [List.map_id] at e
theorem row_s2 {Rx : Exn → Nat → Prop} {Q : Fl × Vm.Env → Nat → Prop} {b n : Nat} (hn : n < 6) (hb : 40 ≤ b) {o2 o3 o4 o7 o8 o9 o10 o11 o12 o13 : Option Sl}
    (h : ∀ row env b', IsR n row → b ≤ b' + 40 → Q (.ret (.list (row.map .int)) .own, env) b') :
    (sIf (asB (ev2 (oEq false) (eName 6) (eInt 0))) (sCons (sRet (vComp (iSeq (eName 5)) [4] (tgName 4) cYes (vCall 2 F__law_draw (aStm 0 (aCons (eInt 2) aNil)))))
  sNil) sNil (envR .own n o2 o3 o4 0 o7 o8 o9 o10 o11 o12 o13)).all Rx Q b := by
  have d2 := draw_v 2 (by decide) (by decide)
  simp at d2
  have hl := sts_length n
  have hp : 2 ^ n ≤ 32 := Nat.pow_le_pow_right (n := 2) (i := n) (j := 5) (by decide) (by omega)
  simp
  unfold vComp
  simp
  rw [if_pos (by omega), M.all_bind, M.all_bind]
  refine calm_all _ _ ?_
  refine draws_all _ b (fun x hx => ⟨_, rfl, by simp [d2]⟩) (by simp; omega) fun ys b' h1 h2 h3 => ?_
  have : compRV (ys.map rvI) [5] = ⟨.list (ys.map .int), .own, []⟩ := by unfold compRV; simp
  rw [this]
  simp at h1 h3 ⊢
  exact h ys _ b' ⟨by omega, h2⟩ (by omega)
theorem perm_ints {ys : List PyData} {l : List Int} (h : ys.Perm (l.map .int)) : ∃ zs : List Int, ys = zs.map .int ∧ zs.Perm l := by
  let g : PyData → Int := fun d => match d with
    | .int i => i
    | _ => 0
  refine ⟨ys.map g, ?_, ?_⟩
  · rw [List.map_map]
    conv => lhs; rw [← List.map_id ys]
    refine List.map_congr_left fun d hd => ?_
    obtain ⟨i, _, e⟩ := List.mem_map.mp (h.subset hd)
    rw [← e]; rfl
  · have := h.map g
    rw [List.map_map] at this
    have e : (g ∘ PyData.int) = id := rfl
    rwa [e, List.map_id] at this
/-- a list of numbers below n, drawn, and a bit of it -/
theorem row_s3 {Rx : Exn → Nat → Prop} {Q : Fl × Vm.Env → Nat → Prop} {b n : Nat} (hn : n < 6) (hb : 10 ≤ b) {o2 o3 o4 o7 o8 o9 o10 o11 o12 o13 : Option Sl} {z : Int}
    (h : ∀ (ys : List Int) lv b', (∀ y ∈ ys, 0 ≤ y ∧ y < n) → ys.length = n → b ≤ b' + 10 → Q (.nx, envR .own n (some (.dat (.list (ys.map .int)) lv)) o3 o4 z o7 o8 o9 o10 o11 o12 o13) b') :
    (sAsg (tgName 2) (vCall 2 F__law_mixed (aStm 0 (aCons (vRg1 lRg (eName 1)) aNil))) (envR .own n o2 o3 o4 z o7 o8 o9 o10 o11 o12 o13)).all Rx Q b := by
  have er := lRg0 (n := n) (by omega)
  simp [er, vRg1]
  rw [M.all_bind]
  refine mixed_all _ (by simp [rng'_len]; omega) (by simp [rng'_len]; omega) fun ys lv b' hp hb' => ?_
  simp [rng'_len] at hb'
  obtain ⟨zs, rfl, hz⟩ := perm_ints hp
  have hl := hz.length_eq
  rw [rng'_len] at hl
  have hm : ∀ y ∈ zs, 0 ≤ y ∧ y < n := fun y hy => by
    obtain ⟨i, hi, e⟩ := List.mem_map.mp (hz.subset hy)
    have := List.mem_range.mp hi
    omega
  cases lv <;> simp [alsA] <;> exact h zs _ b' hm hl (by omega)
theorem row_s4 {Rx : Exn → Nat → Prop} {Q : Fl × Vm.Env → Nat → Prop} {b n : Nat} (hn : n < 6) (hb : 1 ≤ b) {ys : List Int} {lv : Lv} {o3 o4 o7 o8 o9 o10 o11 o12 o13 : Option Sl} {z : Int} (hl : ys.length = n) (hy : ∀ y ∈ ys, 0 ≤ y ∧ y < n)
    (h : ∀ (ys : List Int) lv b', (∀ y ∈ ys, 0 ≤ y ∧ y < n) → ys.length ≤ n → b ≤ b' + 1 → Q (.nx, envR .own n (some (.dat (.list (ys.map .int)) lv)) o3 o4 z o7 o8 o9 o10 o11 o12 o13) b') :
    (sAsg (tgName 2) (vIf (asB (ev2 (oEq false) (eName 6) (eInt 1))) (evSl (eName 2) pNo (pSome (vCall 2 F__law_draw (aStm 0 (aCons (ev2 oAdd (eName 1) (eInt 1)) aNil))))) (eName 2)) (envR .own n (some (.dat (.list (ys.map .int)) lv)) o3 o4 z o7 o8 o9 o10 o11 o12 o13)).all Rx Q b := by
  by_cases hz : z = 1
  · subst hz
    have d := draw_v (n + 1) (by omega) (by omega)
    simp at d
    simp [d]
    refine ⟨by omega, by omega, fun k hk => ?_⟩
    have e := cutD_lo (ys.map .int) k (by simp; omega)
    rw [← List.map_take] at e
    dsimp only
    rw [e, mkL_int]
    simp only [prep_own, kill_nil, List.length_cons]
    exact h _ _ (b - 1) (fun y hy' => hy y (List.mem_of_mem_take hy')) (by simp; omega) (by omega)
  · cases lv <;> simp [hz] <;> exact h ys _ b hy (by omega) (by omega)
theorem row_s5 {Rx : Exn → Nat → Prop} {Q : Fl × Vm.Env → Nat → Prop} {b n : Nat} (hn : n < 6) (hb : 10 ≤ b) {ys : List Int} {lv : Lv} {o3 o4 o7 o8 o9 o10 o11 o12 o13 : Option Sl} {z : Int} (hl : ys.length ≤ n) (hy : ∀ y ∈ ys, 0 ≤ y ∧ y < n)
    (h : ∀ (ts : List (Int × Int × Int)) o2 b', (∀ t ∈ ts, (0 ≤ t.1 ∧ t.1 < n) ∧ (t.2.2 = 0 ∨ t.2.2 = 1)) → ts.length ≤ n → b ≤ b' + 10 → Q (.nx, envR .own n o2 (some (.dat (.list (ts.map encS)) .own)) o4 z o7 o8 o9 o10 o11 o12 o13) b') :
    (sAsg (tgName 3) (vComp (iSeq (eName 2)) [11] (tgName 11) cYes (vTup (aCons (eName 11) (aCons (vCall 2 F__law_draw (aStm 0 (aCons (eInt 2) aNil))) (aCons (vCall 2 F__law_draw (aStm 0 (aCons (eInt 2) aNil))) aNil))))) (envR .own n (some (.dat (.list (ys.map .int)) lv)) o3 o4 z o7 o8 o9 o10 o11 o12 o13)).all Rx Q b := by
  have d2 := draw_v 2 (by decide) (by decide)
  simp at d2
  have hv : ∃ al, iSeq (eName 2) (envR .own n (some (.dat (.list (ys.map .int)) lv)) o3 o4 z o7 o8 o9 o10 o11 o12 o13) = .ret (ys.map .int, al) ∧ (al = [2] ∨ al = []) := by cases lv <;> simp
  obtain ⟨al, hv, hal⟩ := hv
  rw [sAsg_e]
  unfold vComp
  rw [hv, M.bind_ret, if_pos (by simp; omega), M.all_bind, M.all_bind]
  refine calm_all _ _ ?_
  rcases hal with rfl | rfl
  all_goals
    refine compLoop_all (fun y : Int => .int y) (fun t : Int × Int × Int => ⟨encS t, .own, []⟩) (fun t => (0 ≤ t.1 ∧ t.1 < n) ∧ (t.2.2 = 0 ∨ t.2.2 = 1)) 2 ys b (fun y hm => ⟨_, rfl, fun b hb => ?_⟩) (by omega) fun ts b' h1 h2 h3 => ?_
    · simp [d2]
      exact ⟨by omega, by omega, fun z hz => ⟨by omega, by omega, fun w hw => ⟨by omega, y, z, w, ⟨hy y hm, two01 w hw⟩, rfl⟩⟩⟩
    · have e : ∀ al, compRV (ts.map fun t : Int × Int × Int => ⟨encS t, .own, []⟩) al = ⟨.list (ts.map encS), .own, []⟩ := fun al => by
        unfold compRV
        have : imms (ts.map encS) = true := imms_map fun _ _ => rfl
        simp [dsOf_map, this]
      rw [M.all_ret, e]
      simp
      exact h ts _ b' h2 (by omega) (by omega)
/-- the loop over the states -/
def bRw : Vm.Env → M (Fl × Vm.Env) := (sCons (sAsg (tgName 9) (vComp (iSeq (eName 3)) [11, 12, 13] (tgTup 3 (tgCons (tgName 11) (tgCons (tgName 12) (tgCons (tgName 13) tgNil)))) (asB (ev2 (oEq false) (ev2 oIx (eName 4) (eName 11)) (eName 12))) (eName 13)))
  (sCons (sApp 8 (vIf (asB (ev2 (oEq true) (eName 9) (vLst aNil))) (ev2 oIx (eName 9) (eInt 0)) (eName 7)))
  sNil))
theorem oNe_nil (xs : List Int) (l l' : Lv) (al al' : List Nat) : oEq true ⟨.list (xs.map .int), l, al⟩ ⟨.list [], l', al'⟩ = .ret ⟨.bool (!(xs == [])), .own, []⟩ := oEq_ints true xs [] l l' al al'
theorem row_in {n : Nat} (hn : n < 6) {s : List Int} (hs : s ∈ sts n) {ts : List (Int × Int × Int)} (ht : ∀ t ∈ ts, (0 ≤ t.1 ∧ t.1 < n) ∧ (t.2.2 = 0 ∨ t.2.2 = 1)) (hl : ts.length ≤ n) {w : Int} (hw : w = 0 ∨ w = 1) {fs : List Int} (hf : fs.length < 1000) (o2 o9 o10 o11 o12 o13 : Option Sl) (z : Int) :
    ∃ (x : Int) (p9 : Option Sl), (x = 0 ∨ x = 1) ∧ bRw (envR .shr n o2 (some (.dat (.list (ts.map encS)) .own)) (some (.dat (.list (s.map .int)) .shr)) z (some (.dat (.int w) .own)) (SL fs) o9 o10 o11 o12 o13) =
      .ret (.nx, envR .shr n o2 (some (.dat (.list (ts.map encS)) .own)) (some (.dat (.list (s.map .int)) .shr)) z (some (.dat (.int w) .own)) (SL (fs ++ [x])) p9 o10 o11 o12 o13) := by
  have hsl := sts_mem hs
  have e := vComp_flt (it := iSeq (eName 3)) (vs := [11, 12, 13]) (tg := (tgTup 3 (tgCons (tgName 11) (tgCons (tgName 12) (tgCons (tgName 13) tgNil))))) (cond := (asB (ev2 (oEq false) (ev2 oIx (eName 4) (eName 11)) (eName 12)))) (elt := eName 13)
    (env := envR .shr n o2 (some (.dat (.list (ts.map encS)) .own)) (some (.dat (.list (s.map .int)) .shr)) z (some (.dat (.int w) .own)) (SL fs) o9 o10 o11 o12 o13) [3] ts encS (fun t => at_ t.1.toNat s == t.2.1) (fun t => .int t.2.2) (by simp) (by simp; omega) (fun t h => ⟨_, rfl, by
      obtain ⟨⟨h1, h2⟩, _⟩ := ht t h
      have e1 : atI s t.1 = some (at_ t.1.toNat s) := by
        have := at_get (h := t.1.toNat) (by omega) hsl
        rw [← this, ← atN]
        congr 1; omega
      simp [e1], by simp⟩)
  have hx : ∀ x ∈ (ts.filter fun t => at_ t.1.toNat s == t.2.1).map (·.2.2), x = 0 ∨ x = 1 := fun x hx => by
    obtain ⟨t, h, rfl⟩ := List.mem_map.mp hx
    exact (ht t (List.mem_filter.mp h).1).2
  have em : (ts.filter fun t => at_ t.1.toNat s == t.2.1).map (fun t => PyData.int t.2.2) = ((ts.filter fun t => at_ t.1.toNat s == t.2.1).map (·.2.2)).map .int := by rw [List.map_map]; rfl
  rw [em] at e
  generalize ((ts.filter fun t => at_ t.1.toNat s == t.2.1).map (·.2.2)) = xs at e hx
  cases xs with
  | nil =>
    have o := oNe_nil []
    simp at o
    refine ⟨w, SL [], hw, ?_⟩
    unfold bRw
    rw [sCons_e, sAsg_e, e]
    simp [o, mutApp, show ¬ 16777216 ≤ fs.length by omega]
  | cons x xs =>
    have o := oNe_nil (x :: xs)
    simp at o
    refine ⟨x, SL (x :: xs), hx x (by simp), ?_⟩
    unfold bRw
    rw [sCons_e, sAsg_e, e]
    simp [o, mutApp, show ¬ 16777216 ≤ fs.length by omega]
theorem row_loop {n : Nat} (hn : n < 6) {ts : List (Int × Int × Int)} (ht : ∀ t ∈ ts, (0 ≤ t.1 ∧ t.1 < n) ∧ (t.2.2 = 0 ∨ t.2.2 = 1)) (hl : ts.length ≤ n) {w : Int} (hw : w = 0 ∨ w = 1) (z : Int) (o2 o10 o11 o12 o13 : Option Sl) :
    ∀ (ss : List (List Int)) (fs : List Int) (o4 o9 : Option Sl), (∀ s ∈ ss, s ∈ sts n) → fs.length + ss.length < 1000 → (∀ x ∈ fs, x = 0 ∨ x = 1) →
      ∃ (gs : List Int) (p4 p9 : Option Sl), gs.length = fs.length + ss.length ∧ (∀ x ∈ gs, x = 0 ∨ x = 1) ∧
        forLoop (tgName 4) bRw (ss.map fun s => .list (s.map .int)) (envR .shr n o2 (some (.dat (.list (ts.map encS)) .own)) o4 z (some (.dat (.int w) .own)) (SL fs) o9 o10 o11 o12 o13) =
          .ret (.nx, envR .shr n o2 (some (.dat (.list (ts.map encS)) .own)) p4 z (some (.dat (.int w) .own)) (SL gs) p9 o10 o11 o12 o13)
  | [], fs, o4, o9, _, _, hf => ⟨fs, o4, o9, rfl, hf, rfl⟩
  | s :: ss, fs, o4, o9, hs, hz, hf => by
    obtain ⟨x, q9, hx, e⟩ := row_in hn (hs s List.mem_cons_self) ht hl hw (fs := fs) (by simp only [List.length_cons] at hz; omega) o2 o9 o10 o11 o12 o13 z
    obtain ⟨gs, p4, p9, h1, h2, h3⟩ := row_loop hn ht hl hw z o2 o10 o11 o12 o13 ss (fs ++ [x]) (some (.dat (.list (s.map .int)) .shr)) q9 (fun s h => hs s (List.mem_cons_of_mem _ h)) (by simp only [List.length_cons, List.length_append, List.length_nil] at hz ⊢; omega) (fun y hy => by
      rcases List.mem_append.mp hy with hy | hy
      · exact hf y hy
      · rw [List.mem_singleton.mp hy]; exact hx)
    refine ⟨gs, p4, p9, by simp at h1 ⊢; omega, h2, ?_⟩
    simp only [List.map_cons, forLoop, tgName_e, List.length_cons, List.length_nil, ofOption_some, M.bind_ret, List.set]
    rw [if_pos (by decide), ofOption_some, M.bind_ret, e, M.bind_ret]
    exact h3
theorem row_s8 {Rx : Exn → Nat → Prop} {Q : Fl × Vm.Env → Nat → Prop} {b n : Nat} (hn : n < 6) (hb : 1 ≤ b) {gs : List Int} (hg : gs.length = 2 ^ n) (hx : ∀ x ∈ gs, x = 0 ∨ x = 1) {o2 o3 o4 o7 o9 o10 o11 o12 o13 : Option Sl} {z : Int}
    (h : ∀ (gs : List Int) o10 b', gs.length = 2 ^ n → (∀ x ∈ gs, x = 0 ∨ x = 1) → b ≤ b' + 1 → Q (.nx, envR .shr n o2 o3 o4 z o7 (SL gs) o9 o10 o11 o12 o13) b') :
    (sIf (asB (ev2 (oEq false) (eName 6) (eInt 2))) (sCons (sAsg (tgName 10) (vCall 2 F__law_draw (aStm 0 (aCons (vB bLen (aCons (eName 8) aNil)) aNil))))
  (sCons (sSetIx 8 (eName 10) (ev2 oSubI (eInt 1) (ev2 oIx (eName 8) (eName 10))))
  sNil)) sNil (envR .shr n o2 o3 o4 z o7 (SL gs) o9 o10 o11 o12 o13)).all Rx Q b := by
  have hp : 2 ^ n ≤ 32 := Nat.pow_le_pow_right (n := 2) (i := n) (j := 5) (by decide) (by omega)
  have hp0 : 0 < 2 ^ n := Nat.two_pow_pos n
  by_cases hz : z = 2
  · subst hz
    have d := draw_v gs.length (by omega) (by omega)
    simp [d]
    refine ⟨by omega, by omega, fun k hk => ?_⟩
    have ek : atI gs (k : Int) = some gs[k] := by rw [atN]; simp [hk]
    have ix : ixN gs.length (k : Int) = some k := by
      unfold ixN
      rw [if_pos (Int.natCast_nonneg k), if_pos (by omega)]; simp
    simp [ek, mutSet, ix]
    have e := (List.map_set (f := PyData.int) (l := gs) (i := k) (a := 1 - gs[k])).symm
    rw [e]
    refine h (gs.set k (1 - gs[k])) _ (b - 1) (by simp; omega) (fun x hx' => ?_) (by omega)
    rcases List.mem_or_eq_of_mem_set hx' with h' | h'
    · exact hx x h'
    · rcases hx gs[k] (List.getElem_mem _) with q | q <;> rw [h', q] <;> simp
  · simp [hz]
    exact h gs _ b hg hx (by omega)
theorem row_all {Rx : Exn → Nat → Prop} {Q : PyData × Lv → Nat → Prop} {b n : Nat} (hn : n < 6) (hb : 60 ≤ b) (h : ∀ row b', IsR n row → b ≤ b' + 60 → Q (.list (row.map .int), .own) b') : (F__law_row [none, some (.int n)]).all Rx Q b := by
  have hp : 2 ^ n ≤ 32 := Nat.pow_le_pow_right (n := 2) (i := n) (j := 5) (by decide) (by omega)
  have d2 := draw_v 2 (by decide) (by decide)
  simp at d2
  unfold F__law_row
  rw [fnOf, M.all_bind]
  refine M.all_mono (P := fun p b' => ∃ row, IsR n row ∧ p.1 = .ret (.list (row.map .int)) .own ∧ b ≤ b' + 60) (fun p b' hp => ?_) _ _ ?_
  · obtain ⟨row, h1, h2, h3⟩ := hp
    rw [h2]
    exact h row b' h1 h3
  unfold m__law_row
  rw [sCons_e, row_s1 hn]
  refine ⟨by decide, by omega, fun z hz => ?_⟩
  show M.all _ _ (M.bind (.ret _) _) _
  rw [show ∀ (a : Fl × Vm.Env) (f : Fl × Vm.Env → M (Fl × Vm.Env)), M.bind (.ret a) f = f a from fun _ _ => rfl]
  dsimp only
  rw [sCons_e, M.all_bind]
  by_cases h0 : z = 0
  · subst h0
    exact row_s2 hn (by omega) fun row env b' h1 h2 => ⟨row, h1, rfl, by omega⟩
  have e0 : (sIf (asB (ev2 (oEq false) (eName 6) (eInt 0))) (sCons (sRet (vComp (iSeq (eName 5)) [4] (tgName 4) cYes (vCall 2 F__law_draw (aStm 0 (aCons (eInt 2) aNil))))) sNil) sNil) (envR .own n none none none (z : Nat) none none none none none none none) = .ret (.nx, envR .own n none none none (z : Nat) none none none none none none none) := by
    simp [h0]
  rw [e0, M.all_ret]
  dsimp only
  rw [sCons_e, M.all_bind]
  refine row_s3 hn (by omega) fun ys lv b1 hy hl hb1 => ?_
  dsimp only
  rw [sCons_e, M.all_bind]
  refine row_s4 hn (by omega) hl hy fun ys lv b2 hy hl hb2 => ?_
  dsimp only
  rw [sCons_e, M.all_bind]
  refine row_s5 hn (by omega) hl hy fun ts o2 b3 ht hl hb3 => ?_
  dsimp only
  rw [sCons_e, M.all_bind]
  have e6 : (sPar [7, 8] [(vCall 2 F__law_draw (aStm 0 (aCons (eInt 2) aNil))), (vLst aNil)]) (envR .own n o2 (some (.dat (.list (ts.map encS)) .own)) none (z : Nat) none none none none none none none) = .draw 2 fun w => .ret (.nx, envR .own n o2 (some (.dat (.list (ts.map encS)) .own)) none (z : Nat) (some (.dat (.int (w : Nat)) .own)) (SL []) none none none none none) := by
    simp [d2]
    rfl
  rw [e6]
  refine ⟨by decide, by omega, fun w hw => ?_⟩
  rw [M.all_ret]
  dsimp only
  obtain ⟨gs, p4, p9, h1, h2, h3⟩ := row_loop hn ht hl (two01 w hw) (z : Nat) o2 none none none none (sts n) [] none none (fun _ h => h) (by simp [sts_length]; omega) (by simp)
  have e7 : (sFor (iSeq (eName 5)) (tgName 4) bRw) (envR .own n o2 (some (.dat (.list (ts.map encS)) .own)) none (z : Nat) (some (.dat (.int (w : Nat)) .own)) (SL []) none none none none none) =
     .ret (.nx, envR .shr n o2 (some (.dat (.list (ts.map encS)) .own)) p4 (z : Nat) (some (.dat (.int (w : Nat)) .own)) (SL gs) p9 none none none none) := by
    rw [sFor_e]
    have : iSeq (eName 5) (envR .own n o2 (some (.dat (.list (ts.map encS)) .own)) none (z : Nat) (some (.dat (.int (w : Nat)) .own)) (SL []) none none none none none) = .ret ((sts n).map fun s => .list (s.map .int), [5]) := by simp
    rw [this, M.bind_ret]
    exact h3
  rw [sCons_e]
  show M.all _ _ (sFor (iSeq (eName 5)) (tgName 4) bRw _ >>= _) _
  rw [e7, M.bind_ret]
  dsimp only
  rw [sCons_e, M.all_bind]
  simp only [List.length_nil, Nat.zero_add, sts_length] at h1
  refine row_s8 hn (by omega) h1 h2 fun gs o10 b4 g1 g2 hb4 => ?_
  dsimp only
  simp
  exact ⟨gs, ⟨g1, g2⟩, rfl, by omega⟩
end D94

set_option Elab.async false
set_option linter.all false
set_option maxRecDepth 100000
set_option maxHeartbeats 800000
namespace D94
open PySem L2 Vm M95
/-- M.all that is not unfolded -/
structure AllS {α : Type} (R : Exn → Nat → Prop) (P : α → Nat → Prop) (m : M α) (b : Nat) : Prop where
  h : m.all R P b
theorem allS {α : Type} {R : Exn → Nat → Prop} {P : α → Nat → Prop} {m : M α} {b : Nat} : m.all R P b ↔ AllS R P m b := ⟨AllS.mk, AllS.h⟩
theorem pick_all {Rx : Exn → Nat → Prop} {Q : PyData × Lv → Nat → Prop} {b : Nat} (xs : List PyData) (h0 : 0 < xs.length) (hz : xs.length < 1000) (hb : 0 < b) (h : ∀ x ∈ xs, ∀ lv, Q (x, lv) (b - 1)) :
    (F__law_pick [none, some (.list xs)]).all Rx Q b := by
  have d := draw_v xs.length h0 (by omega)
  unfold F__law_pick m__law_pick
  simp [d]
  refine ⟨h0, hb, fun z hz' => ?_⟩
  have e : atI xs (z : Int) = some xs[z] := by rw [atN]; simp [hz']
  simp [e]
  exact h _ (List.getElem_mem _) _
theorem th_int (k m : Nat) (i : Int) : Th k m (.int i) := ⟨rfl, rfl, Nat.zero_le _⟩
theorem th_non (k m : Nat) : Th k m .none := ⟨rfl, rfl, Nat.zero_le _⟩
theorem th_bool (k m : Nat) (i : Bool) : Th k m (.bool i) := ⟨rfl, rfl, Nat.zero_le _⟩
theorem th_str (k m : Nat) (i : Str) : Th k m (.str i) := ⟨rfl, rfl, Nat.zero_le _⟩
theorem Th.mono {k k' m : Nat} {d : PyData} (h : Th k m d) (hk : k ≤ k') : Th k' m d := ⟨h.nd, h.sz, Nat.le_trans h.dp hk⟩
/-- any thing of the law, none with a dict but {} itself -/
def T3 (d : PyData) : Prop := Th 3 1000 d ∨ d = .dict []
def encLs (q : Int × Int × Int) : PyData := .list [.int q.1, .int q.2.1, .int q.2.2]
abbrev BASE (steps : List (Int × Int × Int)) (last : Int) : PyData := .tuple [.list (steps.map encS), .int last]
theorem th3 {m : Nat} {x y z : PyData} (hm : 3 < m) (h1 : Th 0 m x) (h2 : Th 0 m y) (h3 : Th 0 m z) : Th 1 m (.list [x, y, z]) := Th.list hm fun w hw => by
  simp at hw
  rcases hw with rfl | rfl | rfl <;> assumption
theorem th_ls {m : Nat} (hm : 3 < m) (q : Int × Int × Int) : Th 1 m (encLs q) := th3 hm (th_int _ _ _) (th_int _ _ _) (th_int _ _ _)
theorem th_pair {k m : Nat} {x y : PyData} (hm : 2 < m) (h1 : Th k m x) (h2 : Th k m y) : Th (k + 1) m (.tuple [x, y]) := Th.tuple hm fun w hw => by
  simp at hw
  rcases hw with rfl | rfl <;> assumption
theorem th_pairL {k m : Nat} {x y : PyData} (hm : 2 < m) (h1 : Th k m x) (h2 : Th k m y) : Th (k + 1) m (.list [x, y]) := Th.list hm fun w hw => by
  simp at hw
  rcases hw with rfl | rfl <;> assumption
theorem th_list1 {xs : List PyData} (hz : xs.length < 1000) (h : ∀ x ∈ xs, Th 1 1000 x) : Th 2 1000 (.list xs) := Th.list hz h
abbrev envB (n : Nat) (o2 o3 o4 : Option Sl) (ss : List PyData) (last : Int) (o7 : Option Sl) : Vm.Env :=
  [some .stm, some (.dat (.int n) .shr), o2, o3, o4, some (.dat (.list ss) .own), some (.dat (.int last) .own), o7]
theorem bent_s1 {n : Nat} {steps : List (Int × Int × Int)} {last : Int} (hl : steps.length < 100) : (sPar [5, 6] [(vComp (iSeq (ev2 oIx (eName 2) (eInt 0))) [7] (tgName 7) cYes (vB bList (aCons (eName 7) aNil))), (ev2 oIx (eName 2) (eInt 1))]) (env0 8 [none, some (.int n), some (BASE steps last)]) =
    .ret (.nx, envB n (some (.dat (BASE steps last) .shr)) none none (steps.map encLs) last none) := by
  have e := vComp_yes (it := iSeq (ev2 oIx (eName 2) (eInt 0))) (vs := [7]) (tg := tgName 7) (elt := (vB bList (aCons (eName 7) aNil))) (env := env0 8 [none, some (.int n), some (BASE steps last)]) [] steps encS encLs (by
      have : imm (.list (steps.map encS)) = false := rfl
      simp [mkRV]) (by simp; omega) (fun t h => ⟨_, rfl, by simp [encS, encLs, mkL]⟩)
  rw [sPar_e, parE_cons, e]
  simp
  rfl
theorem bent_s6 {Rx : Exn → Nat → Prop} {Q : Fl × Vm.Env → Nat → Prop} {b n : Nat} (hb : 3 ≤ b) {steps : List (Int × Int × Int)} {last : Int} (hl : steps.length < 100) {k : Nat} (hk : k < steps.length) {o2 o3 o7 : Option Sl}
    (h : ∀ ss b', (∀ x ∈ ss, Th 1 1000 x) → ss.length < 100 → b ≤ b' + 2 → Q (.nx, envB n o2 o3 (some (.dat (.int k) .own)) ss last o7) b') : AllS Rx Q
    (sSetIx2 5 (eName 4) (vCall 2 F__law_draw (aStm 0 (aCons (eInt 3) aNil))) (vCall 2 F__law_pick (aStm 0 (aCons (vLst (aCons eNon (aCons (eBool true) (aCons (eInt 0) (aCons (eInt 1) (aCons (eName 1) (aCons (vNeg (eInt 1)) (aCons (eStr "0") aNil)))))))) aNil)))
      (envB n o2 o3 (some (.dat (.int k) .own)) (steps.map encLs) last o7)) b := by
  rw [← allS]
  have d3 := draw_v 3 (by decide) (by decide)
  simp at d3
  simp
  rw [M.all_bind]
  generalize hxs : [PyData.none, .bool true, .int 0, .int 1, .int n, .int (-1), .str (Str.ofString "0")] = xs
  refine pick_all xs (by rw [← hxs]; simp) (by rw [← hxs]; simp) (by omega) fun x hx lv => ?_
  rw [← hxs] at hx
  clear hxs
  have hi : imm x = true ∧ Th 0 1000 x := by
    simp at hx
    rcases hx with rfl | rfl | rfl | rfl | rfl | rfl | rfl
    · exact ⟨rfl, th_non _ _⟩
    · exact ⟨rfl, th_bool _ _ _⟩
    all_goals first | exact ⟨rfl, th_int _ _ _⟩ | exact ⟨rfl, th_str _ _ _⟩
  have ix : ixN (steps.map encLs).length (k : Int) = some k := by
    unfold ixN
    rw [if_pos (Int.natCast_nonneg k), if_pos (by simp; omega)]; simp
  have er : rowAt (k : Int) (some (.dat (.list (steps.map encLs)) .own)) = some (k, steps.map encLs, [.int steps[k].1, .int steps[k].2.1, .int steps[k].2.2]) := by
    show (ixN (steps.map encLs).length (k : Int)).bind _ = _
    rw [ix]
    simp [hk, encLs]
  simp [d3, er, mkRV_imm hi.1]
  refine ⟨by omega, by omega, fun z hz => ?_⟩
  have iz : ixN 3 (z : Int) = some z := by
    unfold ixN
    rw [if_pos (Int.natCast_nonneg z), if_pos (by omega)]; simp
  simp [iz, hi.1]
  refine h _ _ (fun y hy => ?_) (by simp; omega) (by omega)
  rcases List.mem_or_eq_of_mem_set hy with h' | h'
  · obtain ⟨q, _, rfl⟩ := List.mem_map.mp h'
    exact th_ls (by decide) q
  · rw [h']
    have : z = 0 ∨ z = 1 ∨ z = 2 := by omega
    rcases this with rfl | rfl | rfl
    · exact th3 (by decide) hi.2 (th_int _ _ _) (th_int _ _ _)
    · exact th3 (by decide) (th_int _ _ _) hi.2 (th_int _ _ _)
    · exact th3 (by decide) (th_int _ _ _) (th_int _ _ _) hi.2
end D94

set_option Elab.async false
set_option linter.all false
set_option maxRecDepth 100000
set_option maxHeartbeats 800000
namespace D94
open PySem L2 Vm M95
theorem vLst_any {ga : Vm.Env → M (List RA)} {env : Vm.Env} {rs : List RV} (h : ga env = .ret (rs.map some)) (hz : rs.length ≤ sizeLine) : ∃ lv al, vLst ga env = .ret ⟨.list (dsOf rs), lv, al⟩ := by
  have e : ∃ lv al, dispL rs = ⟨.list (dsOf rs), lv, al⟩ := by
    unfold dispL
    split
    · exact ⟨_, _, rfl⟩
    · split
      · exact ⟨_, _, rfl⟩
      · exact ⟨_, _, rfl⟩
  obtain ⟨lv, al, e⟩ := e
  refine ⟨lv, al, ?_⟩
  rw [vLst_e, h, M.bind_ret, noStm_somes, ofOption_some, M.bind_ret, if_pos hz, e]
def twelve (ss : List PyData) (last : Int) : List PyData := [.none, .int 5, .dict [], .list [], .tuple [.list ss], .tuple [.list ss, .int (1 - last)], .tuple [.list (cutD ss (some 1) none), .int last], .tuple [.list (ss ++ cutD ss none (some 1)), .int last], .tuple [.int last, .list ss], .tuple [.list ss, .none], .list [.list ss.reverse, .int last], .tuple [.list ss, .bool true]]
def gTwelve : Vm.Env → M (List RA) := (aCons eNon (aCons (eInt 5) (aCons vDNew (aCons (vLst aNil) (aCons (vTup (aCons (eName 5) aNil)) (aCons (vTup (aCons (eName 5) (aCons (ev2 oSubI (eInt 1) (eName 6)) aNil))) (aCons (vTup (aCons (evSl (eName 5) (pSome (eInt 1)) pNo) (aCons (eName 6) aNil))) (aCons (vTup (aCons (ev2 oAdd (eName 5) (evSl (eName 5) pNo (pSome (eInt 1)))) (aCons (eName 6) aNil))) (aCons (vTup (aCons (eName 6) (aCons (eName 5) aNil))) (aCons (vTup (aCons (eName 5) (aCons eNon aNil))) (aCons (vLst (aCons (vRev (eName 5)) (aCons (eName 6) aNil))) (aCons (vTup (aCons (eName 5) (aCons (eBool true) aNil))) aNil))))))))))))
@[simp] theorem dispT_d (rs : List RV) : (dispT rs).d = .tuple (dsOf rs) := by
  unfold dispT
  split
  · rfl
  · split <;> rfl
@[simp] theorem dispL_d (rs : List RV) : (dispL rs).d = .list (dsOf rs) := by
  unfold dispL
  split
  · rfl
  · split <;> rfl
theorem dT (ds : List PyData) (rs : List RV) (h : dsOf rs = ds) : (dispT rs).d = .tuple ds := by rw [dispT_d, h]
theorem gTwelve_w {n : Nat} {o2 o3 o4 o7 : Option Sl} {ss : List PyData} {last : Int} (hs : ss.length < 1000) : ∃ rs, gTwelve (envB n o2 o3 o4 ss last o7) = .ret (rs.map some) ∧ dsOf rs = twelve ss last := by
  have hc : (cutD ss none (some 1)).length ≤ ss.length := by unfold cutD; simp; omega
  have hm : ∀ ds al, (mkL ds al).d = .list ds := fun ds al => by unfold mkL; split <;> rfl
  have ha : ∀ xs ys l l' al al', xs.length < 1000 → ys.length < 1001 → ∃ r, oAdd ⟨.list xs, l, al⟩ ⟨.list ys, l', al'⟩ = .ret r ∧ r.d = .list (xs ++ ys) := fun xs ys l l' al al' h1 h2 => by
    refine ⟨mkL (xs ++ ys) (al ++ al'), ?_, hm _ _⟩
    simp [oAdd, oAddI, oInt, oCat, show xs.length + ys.length ≤ 16777216 by omega]
  have hk : ∀ ds al, mkL ds al = ⟨.list ds, (mkL ds al).lv, (mkL ds al).al⟩ := fun ds al => by
    unfold mkL; split <;> rfl
  obtain ⟨r, e1, e2⟩ := ha ss (cutD ss none (some 1)) .own (mkL (cutD ss none (some 1)) [5]).lv [5] (mkL (cutD ss none (some 1)) [5]).al hs (by omega)
  rw [← hk] at e1
  unfold gTwelve
  simp only [aCons_e, eNon_e, eInt_e, vDNew_e, vLst_e, vTup_e, aNil_e, M.bind_ret, eName_e, sl_succ, sl_zero, nameLv_own, hang_own, mkRV_list, mkRV_int, ev2_e, evSl_e, pSome_e, pNo_e, vRev_e, oSubI_int, oSl_list, e1, noStm_nil, noStm_cons, Option.map_some, ofOption_some, eBool_e, List.length_cons, List.length_nil, sizeLine_e, Nat.reduceAdd, Nat.reduceLeDiff, if_true, Nat.zero_le]
  refine ⟨[_, _, _, _, _, _, _, _, _, _, _, _], rfl, ?_⟩
  unfold twelve
  simp only [dsOf_cons, dsOf_nil, dispT_d, dispL_d, hm, e2]
theorem twelve_ok {ss : List PyData} {last : Int} (hs : ss.length < 100) (h : ∀ x ∈ ss, Th 1 1000 x) : ∀ x ∈ twelve ss last, T3 x := by
  have t2 : ∀ ys : List PyData, ys.length < 1000 → (∀ y ∈ ys, y ∈ ss) → Th 2 1000 (.list ys) := fun ys hy hm => Th.list hy fun y h' => h y (hm y h')
  have hc : ∀ lo hi, (cutD ss lo hi).length ≤ ss.length ∧ ∀ y ∈ cutD ss lo hi, y ∈ ss := fun lo hi => by
    unfold cutD
    refine ⟨by simp; omega, fun y hy => List.mem_of_mem_drop (List.mem_of_mem_take hy)⟩
  have p : ∀ x y, Th 2 1000 x → Th 2 1000 y → T3 (.tuple [x, y]) := fun x y h1 h2 => .inl (th_pair (by decide) h1 h2)
  have s2 := t2 ss (by omega) fun _ h => h
  intro x hx
  simp only [twelve, List.mem_cons, List.not_mem_nil, or_false] at hx
  rcases hx with rfl | rfl | rfl | rfl | rfl | rfl | rfl | rfl | rfl | rfl | rfl | rfl
  · exact .inl (th_non _ _)
  · exact .inl (th_int _ _ _)
  · exact .inr rfl
  · exact .inl ((Th.list (k := 0) (by decide) (by simp)).mono (by decide))
  · exact .inl (Th.tuple (by simp) (by simpa using s2))
  · exact p _ _ s2 (th_int _ _ _)
  · exact p _ _ (t2 _ (by have := (hc (some 1) none).1; omega) (hc (some 1) none).2) (th_int _ _ _)
  · refine p _ _ (t2 _ (by have := (hc none (some 1)).1; rw [List.length_append]; omega) fun y hy => ?_) (th_int _ _ _)
    rcases List.mem_append.mp hy with hy | hy
    · exact hy
    · exact (hc none (some 1)).2 y hy
  · exact p _ _ (th_int _ _ _) s2
  · exact p _ _ s2 (th_non _ _)
  · exact .inl (th_pairL (by decide) (t2 _ (by simp; omega) (by simp)) (th_int _ _ _))
  · exact p _ _ s2 (th_bool _ _ _)
def bB0 : Vm.Env → M (Fl × Vm.Env) := (sCons (sRet (vCall 2 F__law_pick (aStm 0 (aCons (vLst gTwelve) aNil)))) sNil)
theorem bent_w0 {Rx : Exn → Nat → Prop} {Q : Fl × Vm.Env → Nat → Prop} {b n : Nat} (hb : 1 ≤ b) {o2 o3 o4 o7 : Option Sl} {ss : List PyData} {last : Int} (hs : ss.length < 100) (hx : ∀ x ∈ ss, Th 1 1000 x)
    (h : ∀ d lv env b', T3 d → b ≤ b' + 1 → Q (.ret d lv, env) b') : AllS Rx Q (bB0 (envB n o2 o3 o4 ss last o7)) b := by
  rw [← allS]
  have hex : ∃ lv al, vLst gTwelve (envB n o2 o3 o4 ss last o7) = .ret ⟨.list (twelve ss last), lv, al⟩ := by
    have g := gTwelve_w (n := n) (o2 := o2) (o3 := o3) (o4 := o4) (o7 := o7) (ss := ss) (last := last) (by omega)
    generalize gTwelve = G at g
    have tl : (twelve ss last).length = 12 := rfl
    generalize twelve ss last = tw at g tl
    obtain ⟨rs, g1, g2⟩ := g
    have hrl : rs.length = 12 := by rw [← tl, ← g2, dsOf, List.length_map]
    have g3 := vLst_any g1 (by rw [hrl]; decide)
    rwa [g2] at g3
  have tw := twelve_ok (last := last) (ss := ss) hs hx
  have tl : (twelve ss last).length = 12 := rfl
  unfold bB0
  generalize vLst gTwelve = G at hex ⊢
  generalize twelve ss last = xs at hex tw tl
  obtain ⟨lv, al, hG⟩ := hex
  simp [hG]
  rw [M.all_bind]
  refine pick_all xs (by omega) (by omega) (by omega) fun x hx lv' => ?_
  simp
  exact h _ _ _ _ (tw x hx) (by omega)
def bT0 : Vm.Env → M Bool := (tOrM (asB (ev2 (oEq false) (eName 3) (eInt 0))) (asB (ev2 (oEq false) (eName 5) (vLst aNil))))
def bB1 : Vm.Env → M (Fl × Vm.Env) := (sCons (sRet (vTup (aCons (ev2 oAdd (evSl (eName 5) pNo (pSome (eName 4))) (evSl (eName 5) (pSome (ev2 oAdd (eName 4) (eInt 1))) pNo)) (aCons (eName 6) aNil)))) sNil)
def bB6 : Vm.Env → M (Fl × Vm.Env) := (sSetIx2 5 (eName 4) (vCall 2 F__law_draw (aStm 0 (aCons (eInt 3) aNil))) (vCall 2 F__law_pick (aStm 0 (aCons (vLst (aCons eNon (aCons (eBool true) (aCons (eInt 0) (aCons (eInt 1) (aCons (eName 1) (aCons (vNeg (eInt 1)) (aCons (eStr "0") aNil)))))))) aNil))))
def bB7 : Vm.Env → M (Fl × Vm.Env) := (sCons (sRet (vTup (aCons (eName 5) (aCons (eName 6) aNil)))) sNil)
def bB4 : Vm.Env → M (Fl × Vm.Env) := (sAsg (tgName 4) (vCall 2 F__law_draw (aStm 0 (aCons (vB bLen (aCons (eName 5) aNil)) aNil))))
def bR5 : Vm.Env → M (Fl × Vm.Env) := (sCons (sIf (asB (ev2 (oEq false) (eName 3) (eInt 1))) bB1 sNil) (sCons bB6 bB7))
def bR2 : Vm.Env → M (Fl × Vm.Env) := (sCons (sIf bT0 bB0 sNil) (sCons bB4 bR5))
def bB2 : Vm.Env → M (Fl × Vm.Env) := (sAsg (tgName 3) (vCall 2 F__law_draw (aStm 0 (aCons (eInt 5) aNil))))
def bP1 : Vm.Env → M (Fl × Vm.Env) := (sPar [5, 6] [(vComp (iSeq (ev2 oIx (eName 2) (eInt 0))) [7] (tgName 7) cYes (vB bList (aCons (eName 7) aNil))), (ev2 oIx (eName 2) (eInt 1))])
theorem bent_eq : m__law_bent = sCons bP1 (sCons bB2 bR2) := rfl
theorem bT0_w {n : Nat} {o2 o4 o7 : Option Sl} {steps : List (Int × Int × Int)} {last : Int} (z : Nat) : bT0 (envB n o2 (some (.dat (.int (z : Nat)) .own)) o4 (steps.map encLs) last o7) = .ret (z == 0 || steps.isEmpty) := by
  have f2 : Fit 2 (.list (steps.map encLs)) := fit_list fun x hx => by
    obtain ⟨q, _, rfl⟩ := List.mem_map.mp hx
    exact fit_list fun y hy => by
      simp at hy
      rcases hy with rfl | rfl | rfl <;> exact fit_int _ _
  have o := fun l al => oEq_of f2 (b := .list []) (fit_list (k := 0) (by simp)) (by decide) (by decide) false l .own al []
  have ee : PyData.eqv (.list (steps.map encLs)) (.list []) = steps.isEmpty := by cases steps <;> rfl
  unfold bT0
  by_cases h0 : z = 0
  · simp [h0]
  · simp [h0, o, ee]
theorem T3_pair {ss : List PyData} {last : Int} (h1 : ss.length < 1000) (h2 : ∀ x ∈ ss, Th 1 1000 x) : T3 (.tuple [.list ss, .int last]) := .inl (th_pair (by decide) (Th.list h1 h2) (th_int _ _ _))
theorem bR5_all {Rx : Exn → Nat → Prop} {Q : Fl × Vm.Env → Nat → Prop} {b n : Nat} (hb : 3 ≤ b) {o2 o7 : Option Sl} {steps : List (Int × Int × Int)} {last : Int} (hl : steps.length < 100) {k z : Nat} (hk : k < steps.length)
    (h : ∀ d lv env b', T3 d → b ≤ b' + 3 → Q (.ret d lv, env) b') : AllS Rx Q (bR5 (envB n o2 (some (.dat (.int (z : Nat)) .own)) (some (.dat (.int (k : Nat)) .own)) (steps.map encLs) last o7)) b := by
  rw [← allS]
  have hLs : ∀ x ∈ steps.map encLs, Th 1 1000 x := fun x hx => by
    obtain ⟨q, _, rfl⟩ := List.mem_map.mp hx
    exact th_ls (by decide) q
  unfold bR5
  rw [sCons_e, sIf_e]
  by_cases hz : z = 1
  · subst hz
    have c1 := cutD_lo (steps.map encLs) k (by simp; omega)
    have c2 := cutD_hi (steps.map encLs) (k + 1) (by simp; omega)
    simp at c1 c2
    have hm : ∀ ds al, mkL ds al = ⟨.list ds, (mkL ds al).lv, (mkL ds al).al⟩ := fun ds al => by
      unfold mkL; split <;> rfl
    have hmd : ∀ ds al, (mkL ds al).d = .list ds := fun ds al => by unfold mkL; split <;> rfl
    have ha : ∀ xs ys l l' al al', xs.length < 1000 → ys.length < 1001 → oAdd ⟨.list xs, l, al⟩ ⟨.list ys, l', al'⟩ = .ret (mkL (xs ++ ys) (al ++ al')) := fun xs ys l l' al al' h1 h2 => by
      simp [oAdd, oAddI, oInt, oCat, show xs.length + ys.length ≤ 16777216 by omega]
    have a1 := ha ((steps.map encLs).take k) ((steps.map encLs).drop (k + 1)) (mkL ((steps.map encLs).take k) [5]).lv (mkL ((steps.map encLs).drop (k + 1)) [5]).lv (mkL ((steps.map encLs).take k) [5]).al (mkL ((steps.map encLs).drop (k + 1)) [5]).al (by simp; omega) (by simp; omega)
    rw [← hm, ← hm] at a1
    have e : ∃ r, bB1 (envB n o2 (some (.dat (.int (1 : Nat)) .own)) (some (.dat (.int (k : Nat)) .own)) (steps.map encLs) last o7) = .ret (.ret (.tuple [.list ((steps.map encLs).take k ++ (steps.map encLs).drop (k + 1)), .int last]) r, envB n o2 (some (.dat (.int (1 : Nat)) .own)) (some (.dat (.int (k : Nat)) .own)) (steps.map encLs) last o7) := by
      refine ⟨(dispT [mkL ((steps.map encLs).take k ++ (steps.map encLs).drop (k + 1)) ((mkL ((steps.map encLs).take k) [5]).al ++ (mkL ((steps.map encLs).drop (k + 1)) [5]).al), ⟨.int last, .own, []⟩]).lv, ?_⟩
      unfold bB1
      simp only [sCons_e, sRet_e, vTup_e, aCons_e, ev2_e, evSl_e, eName_e, sl_succ, sl_zero, nameLv_own, hang_own, mkRV_list, mkRV_int, M.bind_ret, pNo_e, pSome_e, oSl_list, oAdd_int, eInt_e, aNil_e, noStm_cons, noStm_nil, Option.map_some, ofOption_some, c1, c2, a1]
      rw [if_pos (by simp), M.bind_ret, M.bind_ret]
      simp only [dispT_d, dsOf_cons, dsOf_nil, hmd]
    obtain ⟨r, e⟩ := e
    have et : (asB (ev2 (oEq false) (eName 3) (eInt 1))) (envB n o2 (some (.dat (.int (1 : Nat)) .own)) (some (.dat (.int (k : Nat)) .own)) (steps.map encLs) last o7) = .ret true := by simp
    rw [et, M.bind_ret, if_pos rfl, e, M.bind_ret, M.all_ret]
    refine h _ _ _ _ (T3_pair (by simp; omega) fun x hx => ?_) (by omega)
    rcases List.mem_append.mp hx with hx | hx
    · exact hLs x (List.mem_of_mem_take hx)
    · exact hLs x (List.mem_of_mem_drop hx)
  · have et : (asB (ev2 (oEq false) (eName 3) (eInt 1))) (envB n o2 (some (.dat (.int (z : Nat)) .own)) (some (.dat (.int (k : Nat)) .own)) (steps.map encLs) last o7) = .ret false := by
      simp; omega
    rw [et, M.bind_ret, if_neg (by decide), sNil_e, M.bind_ret]
    dsimp only
    rw [sCons_e, M.all_bind, allS]
    unfold bB6
    refine bent_s6 (by omega) hl hk fun ss b' h1 h2 h3 => ?_
    have e7 : ∃ r, bB7 (envB n o2 (some (.dat (.int (z : Nat)) .own)) (some (.dat (.int (k : Nat)) .own)) ss last o7) = .ret (.ret (.tuple [.list ss, .int last]) r, envB n o2 (some (.dat (.int (z : Nat)) .own)) (some (.dat (.int (k : Nat)) .own)) ss last o7) := by
      refine ⟨(dispT [⟨.list ss, .own, [5]⟩, ⟨.int last, .own, []⟩]).lv, ?_⟩
      unfold bB7
      simp only [sCons_e, sRet_e, vTup_e, aCons_e, eName_e, sl_succ, sl_zero, nameLv_own, hang_own, mkRV_list, mkRV_int, M.bind_ret, aNil_e, noStm_cons, noStm_nil, Option.map_some, ofOption_some]
      rw [if_pos (by simp), M.bind_ret, M.bind_ret]
      simp only [dispT_d, dsOf_cons, dsOf_nil]
    obtain ⟨r, e7⟩ := e7
    dsimp only
    rw [e7, M.all_ret]
    exact h _ _ _ _ (T3_pair (by omega) h1) (by omega)
theorem bent_all {Rx : Exn → Nat → Prop} {Q : PyData × Lv → Nat → Prop} {b n : Nat} (hb : 10 ≤ b) {steps : List (Int × Int × Int)} {last : Int} (hl : steps.length < 100) (h : ∀ d lv b', T3 d → b ≤ b' + 10 → Q (d, lv) b') :
    (F__law_bent [none, some (.int n), some (BASE steps last)]).all Rx Q b := by
  have d5 := draw_v 5 (by decide) (by decide)
  simp at d5
  unfold F__law_bent
  rw [fnOf, M.all_bind, bent_eq]
  refine M.all_mono (P := fun p b' => ∃ d lv, T3 d ∧ p.1 = .ret d lv ∧ b ≤ b' + 10) (fun p b' hp => ?_) _ _ ?_
  · obtain ⟨d, lv, h1, h2, h3⟩ := hp
    rw [h2]
    exact h d lv b' h1 h3
  have hLs : ∀ x ∈ steps.map encLs, Th 1 1000 x := fun x hx => by
    obtain ⟨q, _, rfl⟩ := List.mem_map.mp hx
    exact th_ls (by decide) q
  generalize hO : some (Sl.dat (BASE steps last) Lv.shr) = o2
  have s1 : bP1 (env0 8 [none, some (.int n), some (BASE steps last)]) = .ret (.nx, envB n o2 none none (steps.map encLs) last none) := by rw [← hO]; exact bent_s1 hl
  have s2 : bB2 (envB n o2 none none (steps.map encLs) last none) = .draw 5 fun z => .ret (.nx, envB n o2 (some (.dat (.int (z : Nat)) .own)) none (steps.map encLs) last none) := by
    unfold bB2
    simp [d5]
  rw [sCons_e, s1, M.bind_ret]
  dsimp only
  rw [sCons_e, s2, M.all_bind]
  refine ⟨by decide, by omega, fun z hz => ?_⟩
  rw [M.all_ret]
  unfold bR2
  dsimp only
  rw [sCons_e, sIf_e, bT0_w, M.bind_ret]
  cases hc : (z == 0 || steps.isEmpty) with
  | true =>
    rw [if_pos rfl, M.all_bind, allS]
    refine bent_w0 (by omega) (by simp; omega) hLs fun d lv env b' h1 h2 => ?_
    exact ⟨d, lv, h1, rfl, by omega⟩
  | false =>
    simp at hc
    obtain ⟨h0, hne⟩ := hc
    have hpos : 0 < steps.length := by cases steps with | nil => simp at hne | cons => simp
    have dl := draw_v steps.length hpos (by omega)
    have s4 : bB4 (envB n o2 (some (.dat (.int (z : Nat)) .own)) none (steps.map encLs) last none) = .draw steps.length fun k => .ret (.nx, envB n o2 (some (.dat (.int (z : Nat)) .own)) (some (.dat (.int (k : Nat)) .own)) (steps.map encLs) last none) := by
      unfold bB4
      simp [dl]
    rw [if_neg (by decide), sNil_e, M.bind_ret]
    dsimp only
    rw [sCons_e, s4, M.all_bind]
    refine ⟨hpos, by omega, fun k hk => ?_⟩
    rw [M.all_ret]
    dsimp only
    rw [allS]
    refine bR5_all (by omega) hl hk fun d lv env b' h1 h2 => ?_
    exact ⟨d, lv, h1, rfl, by omega⟩
end D94

set_option Elab.async false
set_option linter.all false
set_option maxRecDepth 100000
set_option maxHeartbeats 800000
namespace D94
open PySem L2 Vm M95
/-! ### how large things are -/
theorem peelS_len : ∀ (n : Nat) (row names : List Int), (peelS n row names).1.length ≤ n ∧ (peelS n row names).2.length ≤ names.length
  | 0, row, names => ⟨Nat.le_refl _, Nat.le_refl _⟩
  | n + 1, row, names => by
    unfold peelS
    split
    · exact ⟨Nat.zero_le _, Nat.le_refl _⟩
    · split
      · exact ⟨Nat.zero_le _, Nat.le_refl _⟩
      · rename_i q r hd
        obtain ⟨h1, h2⟩ := peelS_len n (atv (n + 1) row q.1 (1 - q.2.1)) (names.take q.1 ++ names.drop (q.1 + 1))
        refine ⟨by simp only [List.length_cons]; omega, ?_⟩
        simp only [List.length_append, List.length_take, List.length_drop] at h2
        dsimp only
        omega
theorem ap1_len : ∀ (D : List (Nat × Int × Int)) (p : List Int × List Int), (D.foldl ap1 p).2.length ≤ p.2.length
  | [], p => Nat.le_refl _
  | q :: D, p => by
    have h := ap1_len D (ap1 p q)
    have h2 : (ap1 p q).2.length ≤ p.2.length := by unfold ap1; simp only [List.length_append, List.length_take, List.length_drop]; omega
    exact Nat.le_trans h h2
theorem layF_len : ∀ (m : Nat) (row names : List Int), (layF m row names).1.length ≤ m ∧ (layF m row names).2.1.length ≤ names.length ∧ ∀ l ∈ (layF m row names).1, l.length ≤ 2 * names.length
  | 0, row, names => ⟨Nat.le_refl _, Nat.le_refl _, fun l h => by cases h⟩
  | m + 1, row, names => by
    unfold layF
    split
    · exact ⟨Nat.zero_le _, Nat.le_refl _, fun l h => by cases h⟩
    · split
      · exact ⟨Nat.zero_le _, Nat.le_refl _, fun l h => by cases h⟩
      · rename_i L hL
        have hl : (ddk none (decBy names.length row)).length ≤ 2 * names.length := Nat.le_trans (ddk_len _ _) (dec_len _ _)
        generalize hL2 : ddk none (decBy names.length row) = L at hl
        have hp := ap1_len L.reverse (row, names)
        obtain ⟨h1, h2, h3⟩ := layF_len m (L.reverse.foldl ap1 (row, names)).1 (L.reverse.foldl ap1 (row, names)).2
        refine ⟨by simp only [List.length_cons]; omega, by dsimp only at hp ⊢; omega, fun l h => ?_⟩
        rcases List.mem_cons.mp h with rfl | h
        · rw [List.length_map]; exact hl
        · have := h3 l h
          dsimp only at hp
          omega
theorem fit_S (q : Int × Int × Int) : Fit 1 (encS q) := fit_DT [q.1, q.2.1, q.2.2]
theorem fit_Ss (l : List (Int × Int × Int)) : Fit 2 (.list (l.map encS)) := fit_list fun x hx => by
  obtain ⟨q, _, rfl⟩ := List.mem_map.mp hx
  exact fit_S q
theorem fit_3s (l : List (Nat × Int × Int)) : Fit 2 (.list (l.map enc3)) := fit_list fun x hx => by
  obtain ⟨q, _, rfl⟩ := List.mem_map.mp hx
  exact fit_DT [q.1, q.2.1, q.2.2]
theorem fit_Ls (l : List (List (Int × Int × Int))) : Fit 3 (.list (l.map encL)) := fit_list fun x hx => by
  obtain ⟨q, _, rfl⟩ := List.mem_map.mp hx
  exact fit_Ss q
theorem th_S (q : Int × Int × Int) : Th 1 1000 (encS q) := Th.tuple (by simp) fun x hx => by
  simp at hx
  rcases hx with rfl | rfl | rfl <;> exact th_int _ _ _
theorem th_3 (q : Nat × Int × Int) : Th 1 1000 (enc3 q) := Th.tuple (by simp) fun x hx => by
  simp at hx
  rcases hx with rfl | rfl | rfl <;> exact th_int _ _ _
theorem th_Ss {l : List (Int × Int × Int)} (h : l.length < 1000) : Th 2 1000 (.list (l.map encS)) := Th.list (by simpa using h) fun x hx => by
  obtain ⟨q, _, rfl⟩ := List.mem_map.mp hx
  exact th_S q
theorem th_3s {l : List (Nat × Int × Int)} (h : l.length < 1000) : Th 2 1000 (.list (l.map enc3)) := Th.list (by simpa using h) fun x hx => by
  obtain ⟨q, _, rfl⟩ := List.mem_map.mp hx
  exact th_3 q
theorem th_Ls {l : List (List (Int × Int × Int))} (h : l.length < 1000) (h' : ∀ x ∈ l, x.length < 1000) : Th 3 1000 (.list (l.map encL)) := Th.list (by simpa using h) fun x hx => by
  obtain ⟨q, hq, rfl⟩ := List.mem_map.mp hx
  exact th_Ss (h' q hq)
theorem th_I {l : List Int} (h : l.length < 1000) : Th 1 1000 (.list (l.map .int)) := Th.list (by simpa using h) fun x hx => by
  obtain ⟨q, _, rfl⟩ := List.mem_map.mp hx
  exact th_int _ _ _
theorem cpys_map {α : Type} {f : α → PyData} : ∀ {l : List α}, (∀ x ∈ l, cpy (f x) = true) → cpys (l.map f) = true
  | [], _ => rfl
  | x :: l, h => by
    simp only [List.map_cons, cpys, Bool.and_eq_true]
    exact ⟨h x List.mem_cons_self, cpys_map fun y hy => h y (List.mem_cons_of_mem _ hy)⟩
theorem cpy_Ss (l : List (Int × Int × Int)) : cpy (.list (l.map encS)) = true := cpys_map fun q _ => rfl
theorem cpy_3s (l : List (Nat × Int × Int)) : cpy (.list (l.map enc3)) = true := cpys_map fun q _ => rfl
theorem cpy_Ls (l : List (List (Int × Int × Int))) : cpy (.list (l.map encL)) = true := cpys_map fun q _ => cpy_Ss q
theorem cpy_I (l : List Int) : cpy (.list (l.map .int)) = true := cpys_map fun q _ => rfl
theorem Th.sz9 {k : Nat} {d : PyData} (h : Th k 1000 d) : szd 9000000 d = true := szd_mono (by decide) h.sz
/-! ### the law's pieces -/
section
variable {o2 o3 o4 o5 o6 o7 o8 o9 o10 o11 o12 o13 o14 o15 o16 o17 o18 o19 : Option Sl}
theorem p0 : m_law_0b_0 [none, some .stm, o2, o3, o4, o5, o6, o7, o8, o9, o10, o11, o12, o13, o14, o15, o16, o17, o18, o19] = .draw 6 fun n => .ret (.nx, [none, some .stm, o2, o3, o4, SI (n : Nat), o6, o7, o8, o9, o10, o11, o12, o13, o14, o15, o16, o17, o18, o19]) := by
  have d := draw_v 6 (by decide) (by decide)
  simp at d
  unfold m_law_0b_0
  simp [d]
theorem p1 {Rx : Exn → Nat → Prop} {Q : Fl × Vm.Env → Nat → Prop} {b n : Nat} (hn : n < 6) (hb : 60 ≤ b)
    (h : ∀ row b', IsR n row → b ≤ b' + 60 → Q (.nx, [none, some .stm, o2, o3, o4, SI n, SL row, o7, o8, o9, o10, o11, o12, o13, o14, o15, o16, o17, o18, o19]) b') :
    AllS Rx Q (m_law_0b_1 [none, some .stm, o2, o3, o4, SI n, o6, o7, o8, o9, o10, o11, o12, o13, o14, o15, o16, o17, o18, o19]) b := by
  rw [← allS]
  unfold m_law_0b_1
  simp
  rw [M.all_bind]
  refine row_all hn hb fun row b' h1 h2 => ?_
  simp
  exact h row b' h1 h2
/-- what is peeled -/
abbrev WH (n : Nat) (row : List Int) : PyData := .list ((layF 6 row (rng' n)).1.map encL)
abbrev NA (n : Nat) (row : List Int) : List Int := (layF 6 row (rng' n)).2.1
abbrev LE (n : Nat) (row : List Int) : List Int := (layF 6 row (rng' n)).2.2
abbrev HA (l : Bool) (row : List Int) : Option Sl := some (.dat (rt l (row.map .int)) .own)
abbrev EA (n : Nat) (row : List Int) (l : Bool) (o2 o3 o4 o7 o8 o9 o11 o12 o16 o17 o18 o19 : Option Sl) : Vm.Env :=
  [none, some .stm, o2, o3, o4, SI n, SL row, o7, o8, o9, HA l row, o11, o12, some (.dat (WH n row) .own), SL (NA n row), SL (LE n row), o16, o17, o18, o19]
theorem p2 {n : Nat} (hn : n < 6) {row : List Int} (hR : IsR n row) : m_law_0b_2 [none, some .stm, o2, o3, o4, SI n, SL row, o7, o8, o9, o10, o11, o12, o13, o14, o15, o16, o17, o18, o19] =
    .draw 2 fun z => .ret (.nx, EA n row (z != 0) o2 o3 o4 o7 o8 o9 o11 o12 o16 o17 o18 o19) := by
  have hlt := pow_lt hn hR.1
  have e1 := loose_v 4 row (by simp; omega)
  have e2 := law_peel_w hn hR.1
  unfold m_law_0b_2
  simp [e1, e2, -List.map_map, allOwn, als]
theorem p3 {n : Nat} (hn : n < 6) {row : List Int} (hR : IsR n row) {l : Bool} : m_law_0b_3 (EA n row l o2 o3 o4 o7 o8 o9 o11 o12 o16 o17 o18 o19) = .ret (.nx, EA n row l o2 o3 o4 o7 o8 o9 o11 o12 o16 o17 o18 o19) := by
  have e1 := law_dec_w hn hR.1
  have e2 := deciding_w l hn hR.1 hR.2
  have e3 := deciding_w true hn hR.1 hR.2
  simp [rt] at e3
  have hl := dec_len n row
  have t := twice_v (due := .list ((decBy n row).map enc3)) (fdue := vCall 2 F__law_deciding (aCons (eName 6) (aCons (eName 5) aNil))) (f1 := vCall 1 F_deciding (aCons (eName 10) aNil)) (f2 := vCallK 1 false F_deciding (aCons (vB bList (aCons (eName 6) aNil)) aNil))
    (env := EA n row l o2 o3 o4 o7 o8 o9 o11 o12 o16 o17 o18 o19) (lv := .own) (al := []) (by simp [e1, -List.map_map]) (by simp [e2]) (by simp [e3, kwIn, mkL_int]) ((fit_3s _).mono (by decide)) (cpy_3s _) (th_3s (by omega)).sz9
  unfold m_law_0b_3
  simp only [sIf_e, tNotM_e, tru_e, t, M.bind_ret, truth_bool, ofOption_some]
  rfl
end
end D94

set_option Elab.async false
set_option linter.all false
set_option maxRecDepth 100000
set_option maxHeartbeats 800000
namespace D94
open PySem L2 Vm M95
section
variable {o2 o3 o4 o5 o6 o7 o8 o9 o10 o11 o12 o13 o14 o15 o16 o17 o18 o19 : Option Sl}
def b4i : Vm.Env → M (Fl × Vm.Env) := (sAsg (tgTup 2 (tgCons (tgName 16) (tgCons (tgName 17) tgNil))) (vTup (aCons (vCall 2 F__law_draw (aStm 1 (aCons (eName 5) aNil))) (aCons (vCall 2 F__law_draw (aStm 1 (aCons (eInt 2) aNil))) aNil))))
def b4j : Vm.Env → M (Fl × Vm.Env) := (sCons (sIf (tNotM (tru (vTwice (vCall 4 F__law_at (aCons (eName 6) (aCons (eName 5) (aCons (eName 16) (aCons (eName 17) aNil))))) (vCall 3 F_lessened (aCons (eName 10) (aCons (eName 16) (aCons (eName 17) aNil)))) (vCallK 3 true F_lessened (aCons (eName 17) (aCons (eName 16) (aCons (vB bList (aCons (eName 6) aNil)) aNil)))) (F__law_copied 12) (F__law_same 12)))) (sCons (sRet (eBool false))
  sNil) sNil)
  sNil)
theorem m4_eq : m_law_0b_4 = sIf (asB (ev2 oGtI (eName 5) (eInt 0))) (sCons b4i b4j) sNil := rfl
theorem b4j_w {n : Nat} (hn : n < 6) {row : List Int} (hR : IsR n row) {l : Bool} {h v : Nat} (hh : h < n) (hv : v < 2) : b4j (EA n row l o2 o3 o4 o7 o8 o9 o11 o12 (SI h) (SI v) o18 o19) = .ret (.nx, EA n row l o2 o3 o4 o7 o8 o9 o11 o12 (SI h) (SI v) o18 o19) := by
  have e1 := law_at_w hn hR.1 hh v
  have e2 := lessened_w l hn hR.1 hR.2 hh hv
  have e3 := lessened_w true hn hR.1 hR.2 hh hv
  simp [rt] at e3
  have hlt := pow_lt (n := n - 1) (by omega) (atv_len hn hR.1 hh (v := (v : Int)) (by omega))
  have t := twice_v (due := .list ((atv n row h v).map .int)) (fdue := (vCall 4 F__law_at (aCons (eName 6) (aCons (eName 5) (aCons (eName 16) (aCons (eName 17) aNil)))))) (f1 := (vCall 3 F_lessened (aCons (eName 10) (aCons (eName 16) (aCons (eName 17) aNil))))) (f2 := (vCallK 3 true F_lessened (aCons (eName 17) (aCons (eName 16) (aCons (vB bList (aCons (eName 6) aNil)) aNil)))))
    (env := EA n row l o2 o3 o4 o7 o8 o9 o11 o12 (SI h) (SI v) o18 o19) (lv := .own) (al := []) (by simp [e1]) (by simp [e2]) (by simp [e3, kwIn, mkL_int]) ((fit_DI _).mono (by decide)) (cpy_I _) (th_I (by omega)).sz9
  unfold b4j
  simp only [sCons_e, sIf_e, tNotM_e, tru_e, t, M.bind_ret, truth_bool, ofOption_some]
  rfl
theorem p4 {Rx : Exn → Nat → Prop} {Q : Fl × Vm.Env → Nat → Prop} {b n : Nat} (hn : n < 6) (hb : 2 ≤ b) {row : List Int} (hR : IsR n row) {l : Bool}
    (h : ∀ p16 p17 b', b ≤ b' + 2 → Q (.nx, EA n row l o2 o3 o4 o7 o8 o9 o11 o12 p16 p17 o18 o19) b') : AllS Rx Q (m_law_0b_4 (EA n row l o2 o3 o4 o7 o8 o9 o11 o12 o16 o17 o18 o19)) b := by
  rw [← allS, m4_eq, sIf_e]
  have et : (asB (ev2 oGtI (eName 5) (eInt 0))) (EA n row l o2 o3 o4 o7 o8 o9 o11 o12 o16 o17 o18 o19) = .ret (decide (0 < n)) := by simp
  rw [et, M.bind_ret]
  by_cases h0 : 0 < n
  · rw [if_pos (by simpa using h0)]
    have d1 := draw_v n h0 (by omega)
    have d2 := draw_v 2 (by decide) (by decide)
    simp at d2
    have ei : b4i (EA n row l o2 o3 o4 o7 o8 o9 o11 o12 o16 o17 o18 o19) = .draw n fun h => .draw 2 fun v => .ret (.nx, EA n row l o2 o3 o4 o7 o8 o9 o11 o12 (SI (h : Nat)) (SI (v : Nat)) o18 o19) := by
      unfold b4i
      simp [d1, d2]
    rw [sCons_e, ei, M.all_bind]
    refine ⟨h0, by omega, fun i hi => ⟨by decide, by omega, fun v hv => ?_⟩⟩
    rw [M.all_ret]
    dsimp only
    rw [b4j_w hn hR hi hv, M.all_ret]
    exact h _ _ _ (by omega)
  · rw [if_neg (by simpa using h0), sNil_e, M.all_ret]
    exact h _ _ _ (by omega)
/-- what nested_or_stuck tells -/
def TO (n : Nat) (row : List Int) : PyData := if isOne (peelL n row) = true then .tuple [.str "nested", .list ((peelS n row (rng' n)).1.map encS), .int ((peelL n row).getD 0 0)] else .tuple [.str "stuck", .list ((peelS n row (rng' n)).2.map .int)]
theorem TO_th {n : Nat} (hn : n < 6) (row : List Int) : Th 3 1000 (TO n row) := by
  have hl := peelS_len n row (rng' n)
  have hr := rng'_len n
  unfold TO
  split
  · refine Th.tuple (by simp) fun x hx => ?_
    simp at hx
    rcases hx with rfl | rfl | rfl
    · exact th_str _ _ _
    · exact th_Ss (by omega)
    · exact th_int _ _ _
  · refine Th.tuple (by simp) fun x hx => ?_
    simp at hx
    rcases hx with rfl | rfl
    · exact th_str _ _ _
    · exact (th_I (by omega)).mono (by decide)
theorem TO_fit {n : Nat} (row : List Int) : Fit 8 (TO n row) := by
  have f0 : ∀ x : Str, (PyData.str x).canLay0 = true → Fit 2 (.str x) := fun x h => ⟨rfl, h, Nat.zero_le _⟩
  unfold TO
  split
  · exact (fit_tuple (k := 2) fun x hx => by
      simp at hx
      rcases hx with rfl | rfl | rfl
      · exact f0 _ (by decide +kernel)
      · exact fit_Ss _
      · exact fit_int _ _).mono (by decide)
  · exact (fit_tuple (k := 2) fun x hx => by
      simp at hx
      rcases hx with rfl | rfl
      · exact f0 _ (by decide +kernel)
      · exact (fit_DI _).mono (by decide)).mono (by decide)
theorem nested_x (l : Bool) {n : Nat} (hn : n < 6) {row : List Int} (hR : IsR n row) : F_nested_or_stuck [some (rt l (row.map .int))] = .ret (TO n row, .own) := nested_w l hn hR.1 hR.2 (both hn hR.1 hR.2).2.2.1
theorem p5 {n : Nat} (hn : n < 6) {row : List Int} (hR : IsR n row) {l : Bool} : m_law_0b_5 (EA n row l o2 o3 o4 o7 o8 o9 o11 o12 o16 o17 o18 o19) = .ret (.nx, EA n row l o2 o3 o4 (some (.dat (TO n row) .own)) o8 o9 o11 o12 o16 o17 o18 o19) := by
  have e := nested_x l hn hR
  unfold m_law_0b_5
  simp [e]
theorem p6 {n : Nat} (hn : n < 6) {row : List Int} (hR : IsR n row) {l : Bool} : m_law_0b_6 (EA n row l o2 o3 o4 (some (.dat (TO n row) .own)) o8 o9 o11 o12 o16 o17 o18 o19) = .ret (.nx, EA n row l o2 o3 o4 (some (.dat (TO n row) .own)) (some (.dat (TO n row) .own)) o9 o11 o12 o16 o17 o18 o19) := by
  have t := TO_th hn row
  have e := copied_d 12 (TO n row) (by have := t.dp; omega) t.nd (szd_mono (by decide) t.sz)
  unfold m_law_0b_6
  generalize TO n row = T at e ⊢
  simp [e]
theorem same_x {a : PyData} (hf : Fit 8 a) (ht : Th 8 1000 a) : F__law_same 12 [some a, some a] = .ret (.bool true, .own) := by
  rw [same_v 12 a a 8 (by decide) hf hf (by have := ht.dp; omega) (szd_mono (by decide) ht.sz), sameD_refl _ hf.nd]
theorem p7 {n : Nat} (hn : n < 6) {row : List Int} (hR : IsR n row) {l : Bool} : m_law_0b_7 (EA n row l o2 o3 o4 o7 (some (.dat (TO n row) .own)) o9 o11 o12 o16 o17 o18 o19) = .ret (.nx, EA n row l o2 o3 o4 o7 (some (.dat (TO n row) .own)) o9 o11 o12 o16 o17 o18 o19) := by
  have e1 := nested_x true hn hR
  simp only [rt, if_true] at e1
  have e2 := same_x (TO_fit (n := n) row) ((TO_th hn row).mono (by decide))
  have e3 : pIs "tuple" (tyN (TO n row)) = true := by unfold TO; split <;> rfl
  unfold m_law_0b_7
  generalize TO n row = T at e1 e2 e3 ⊢
  simp [e1, e2, e3, kwIn, mkL_int]
end
end D94

set_option Elab.async false
set_option linter.all false
set_option maxRecDepth 100000
set_option maxHeartbeats 800000
namespace D94
open PySem L2 Vm M95
section
variable {o2 o3 o4 o5 o6 o7 o8 o9 o10 o11 o12 o13 o14 o15 o16 o17 o18 o19 : Option Sl}
def c8 : Vm.Env → M Bool := (asB (ev2 (oEq true) (eName 15) (ev2 oMul (vLst (aCons (ev2 oIx (eName 15) (eInt 0)) aNil)) (vB bLen (aCons (eName 15) aNil)))))
def t8a : Vm.Env → M Bool := (tOrM (tNotM (tru (vCall 2 (F__law_same 12) (aCons (eName 8) (aCons (vTup (aCons (eStr "stuck") (aCons (eName 14) aNil))) aNil))))) (tNotM (tru (vCall 2 (F__law_same 12) (aCons (vMet [10] mets (vCall 1 F_layers (aCons (eName 10) aNil))) (aCons (vTup (aCons (eStr "not nested") (aCons eNon aNil))) aNil))))))
def b8a : Vm.Env → M (Fl × Vm.Env) := (sAsg (tgName 11) (vTup (aCons (vLst (aCons (vTup (aCons (eInt 0) (aCons (eInt 0) (aCons (eInt 0) aNil)))) aNil)) (aCons (eInt 1) aNil))))
def t8b : Vm.Env → M Bool := (tOrM (asB (ev2 (oEq true) (vB bLen (aCons (eName 8) aNil)) (eInt 3))) (tOrM (asB (ev2 (oEq true) (ev2 oIx (eName 8) (eInt 0)) (eStr "nested"))) (tOrM (tNotM (tru (vIsi (pIs "list") (ev2 oIx (eName 8) (eInt 1))))) (tNotM (tru (vB bAll (aCons (vComp (iSeq (ev2 oIx (eName 8) (eInt 1))) [19] (tgName 19) cYes (vIsi (pIs "tuple") (eName 19))) aNil)))))))
def b8b : Vm.Env → M (Fl × Vm.Env) := (sAsg (tgName 11) (vTup (aCons (ev2 oIx (eName 8) (eInt 1)) (aCons (ev2 oIx (eName 8) (eInt 2)) aNil))))
def t8c : Vm.Env → M Bool := (tOrM (tNotM (tru (vCall 3 F__law_is_peeling (aCons (eName 6) (aCons (eName 5) (aCons (eName 11) aNil)))))) (tNotM (tru (vTwice (eName 13) (vCall 1 F_layers (aCons (eName 10) aNil)) (vCallK 1 false F_layers (aCons (vB bList (aCons (eName 6) aNil)) aNil)) (F__law_copied 12) (F__law_same 12)))))
def bF : Vm.Env → M (Fl × Vm.Env) := sCons (sRet (eBool false)) sNil
theorem m8_eq : m_law_0b_8 = sIf c8 (sCons (sIf t8a bF sNil) (sCons b8a sNil)) (sCons (sIf t8b bF sNil) (sCons b8b (sCons (sIf t8c bF sNil) sNil))) := rfl
theorem c8_w {env : Vm.Env} {L : List Int} (h15 : sl env 15 = SL L) (h4 : L ≠ []) (h5 : L.length < 1000) : c8 env = .ret (!isOne L) := by
  have e3 := at0 h4
  have e5 := fun l l' al al' => oRep0 h4 h5 (L.getD 0 0) l l' al al'
  have e6 := fun l l' al al' => eqRep h4 h5 true l l' al al'
  unfold c8
  generalize L.getD 0 0 = x0 at e3 e5 e6
  have e3' : atI L 0 = some x0 := by cases e : atI L 0 <;> simp [e] at e3; rw [e3]
  simp only [if_true] at e6
  simp [h15, e3', e5, e6, -List.map_replicate, -oEq_ints]
theorem fit_S8 {x : Str} (h : (PyData.str x).canLay0 = true) (k : Nat) : Fit k (.str x) := ⟨rfl, h, Nat.zero_le _⟩
theorem TO_stuck {n : Nat} (hn : n < 6) {row : List Int} (hR : IsR n row) (h : isOne (LE n row) = false) : TO n row = .tuple [.str "stuck", .list ((NA n row).map .int)] := by
  obtain ⟨h1, h2, _, _, _, _⟩ := both hn hR.1 hR.2
  have h3 : isOne (peelL n row) = false := by rw [← h1]; exact h
  unfold TO
  rw [if_neg (by rw [h3]; decide), h2 h3]
theorem TO_nested {n : Nat} (hn : n < 6) {row : List Int} (hR : IsR n row) (h : isOne (LE n row) = true) : TO n row = .tuple [.str "nested", .list ((peelS n row (rng' n)).1.map encS), .int ((peelL n row).getD 0 0)] := by
  obtain ⟨h1, h2, _, _, _, _⟩ := both hn hR.1 hR.2
  have h3 : isOne (peelL n row) = true := by rw [← h1]; exact h
  unfold TO
  rw [if_pos h3]
theorem t8a_w {n : Nat} (hn : n < 6) {row : List Int} (hR : IsR n row) {l : Bool} (h : isOne (LE n row) = false) : t8a (EA n row l o2 o3 o4 o7 (some (.dat (TO n row) .own)) o9 o11 o12 o16 o17 o18 o19) = .ret false := by
  have e0 := TO_stuck hn hR h
  have t := TO_th hn row
  have e1 := same_x (TO_fit (n := n) row) ((TO_th hn row).mono (by decide))
  have e2 := layers_w l hn hR.1 hR.2
  rw [if_neg (by rw [h]; decide)] at e2
  have f3 : Fit 1 (.tuple [.str "not nested", .none]) := fit_tuple fun x hx => by
    simp at hx
    rcases hx with rfl | rfl
    · exact fit_S8 (by decide +kernel) 0
    · exact fit_none 0
  have e3 := same_x (f3.mono (by decide)) ((Th.tuple (k := 0) (m := 1000) (by simp) fun x hx => by
    simp at hx
    rcases hx with rfl | rfl
    · exact th_str _ _ _
    · exact th_non _ _).mono (by decide))
  rw [e0] at e1
  rw [e0]
  have h8 : sl (EA n row l o2 o3 o4 o7 (some (.dat (.tuple [.str "stuck", .list ((NA n row).map .int)]) .own)) o9 o11 o12 o16 o17 o18 o19) 8 = some (.dat (.tuple [.str "stuck", .list ((NA n row).map .int)]) .own) := rfl
  have h14 : sl (EA n row l o2 o3 o4 o7 (some (.dat (.tuple [.str "stuck", .list ((NA n row).map .int)]) .own)) o9 o11 o12 o16 o17 o18 o19) 14 = SL (NA n row) := rfl
  have hc : sl (capE [10] (EA n row l o2 o3 o4 o7 (some (.dat (.tuple [.str "stuck", .list ((NA n row).map .int)]) .own)) o9 o11 o12 o16 o17 o18 o19)) 10 = some (.dat (rt l (row.map .int)) .shr) := rfl
  generalize (EA n row l o2 o3 o4 o7 (some (.dat (.tuple [.str "stuck", .list ((NA n row).map .int)]) .own)) o9 o11 o12 o16 o17 o18 o19) = env at *
  unfold t8a
  simp [h8, h14, hc, e1, e2, e3, met, mets, allOwn, als]
theorem b8a_w {n : Nat} {row : List Int} {l : Bool} : b8a (EA n row l o2 o3 o4 o7 o8 o9 o11 o12 o16 o17 o18 o19) = .ret (.nx, EA n row l o2 o3 o4 o7 o8 o9 (some (.dat (BASE [(0, 0, 0)] 1) .own)) o12 o16 o17 o18 o19) := by
  unfold b8a
  simp [allOwn, als, encS]
theorem t8b_w {env : Vm.Env} {ss : List (Int × Int × Int)} {x : Int} (hs : ss.length < 1000) (h8 : sl env 8 = some (.dat (.tuple [.str "nested", .list (ss.map encS), .int x]) .own)) (h8k : sl (kill (frz env [8]) [19]) 8 = sl (frz env [8]) 8 ∧ env.length = 20) : t8b env = .ret false := by
  have a0 : atI [PyData.str "nested", .list (ss.map encS), .int x] 0 = some (.str "nested") := rfl
  have a1 : atI [PyData.str "nested", .list (ss.map encS), .int x] 1 = some (.list (ss.map encS)) := rfl
  have o := oEq_of (fit_S8 (x := "nested") (by decide +kernel) 0) (fit_S8 (x := "nested") (by decide +kernel) 0) (by decide) (by decide) true .own .own [] []
  have oo : PyData.eqv (.str "nested") (.str "nested") = true := by decide +kernel
  have hi : imm (.tuple [.str "nested", .list (ss.map encS), .int x]) = false := rfl
  have hl : env.length = 20 := h8k.2
  have e := vComp_yes (it := iSeq (ev2 oIx (eName 8) (eInt 1))) (vs := [19]) (tg := tgName 19) (elt := (vIsi (pIs "tuple") (eName 19))) (env := env) [8] ss encS (fun _ => .bool true) (by simp [h8, mkRV, hi, a1]) (by simp; omega) (fun t h => ⟨(kill (frz env [8]) [19]).set 19 (some (.dat (encS t) .shr)), by simp [hl], by
    have : sl ((kill (frz env [8]) [19]).set 19 (some (.dat (encS t) .shr))) 19 = some (.dat (encS t) .shr) := by unfold sl; simp [hl]
    simp only [vIsi_e, eName_e, this, M.bind_ret, mkRV_d]
    rfl⟩)
  have e2 := bAll_map (fun _ : Int × Int × Int => true) ss .own []
  unfold t8b
  rw [oo] at o
  simp at o
  simp only [tOrM_e, tNotM_e, tru_e, vB_e, aCons_e, e, M.bind_ret, aNil_e, noStm_cons, noStm_nil, Option.map_some, ofOption_some, e2]
  simp [h8, mkRV, hi, a0, a1, o, show pIs "list" "list" = true from rfl, List.all_eq_true.mpr (fun _ _ => rfl : ∀ y ∈ ss, (fun _ : Int × Int × Int => true) y = true)]
theorem b8b_w {n : Nat} {row : List Int} {l : Bool} {ss : List (Int × Int × Int)} {x : Int} : b8b (EA n row l o2 o3 o4 o7 (some (.dat (.tuple [.str "nested", .list (ss.map encS), .int x]) .own)) o9 o11 o12 o16 o17 o18 o19) =
    .ret (.nx, EA n row l o2 o3 o4 o7 (some (.dat (.tuple [.str "nested", .list (ss.map encS), .int x]) .shr)) o9 (some (.dat (BASE ss x) .shr)) o12 o16 o17 o18 o19) := by
  have a1 : atI [PyData.str "nested", .list (ss.map encS), .int x] 1 = some (.list (ss.map encS)) := rfl
  have a2 : atI [PyData.str "nested", .list (ss.map encS), .int x] 2 = some (.int x) := rfl
  have hi : imm (.tuple [.str "nested", .list (ss.map encS), .int x]) = false := rfl
  unfold b8b
  simp [mkRV, hi, a1, a2, allOwn, als]
theorem t8c_w {n : Nat} (hn : n < 6) {row : List Int} (hR : IsR n row) {l : Bool} (h : isOne (LE n row) = true) {lv : Lv} : t8c (EA n row l o2 o3 o4 o7 o8 o9 (some (.dat (BASE (peelS n row (rng' n)).1 ((peelL n row).getD 0 0)) lv)) o12 o16 o17 o18 o19) = .ret false := by
  obtain ⟨h1, _, _, _, _, h6⟩ := both hn hR.1 hR.2
  have h3 : isOne (peelL n row) = true := by rw [← h1]; exact h
  have e0 := h6 h3
  have e1 := law_peel_d hn hR.1 (BASE (peelS n row (rng' n)).1 ((peelL n row).getD 0 0))
  rw [e0] at e1
  have e2 := layers_w l hn hR.1 hR.2
  have e3 := layers_w true hn hR.1 hR.2
  rw [if_pos h] at e2 e3
  simp only [rt, if_true] at e3
  obtain ⟨b1, b2, b3⟩ := layF_len 6 row (rng' n)
  rw [rng'_len] at b3
  have t := twice_v (due := WH n row) (fdue := eName 13) (f1 := (vCall 1 F_layers (aCons (eName 10) aNil))) (f2 := (vCallK 1 false F_layers (aCons (vB bList (aCons (eName 6) aNil)) aNil)))
    (env := EA n row l o2 o3 o4 o7 o8 o9 (some (.dat (BASE (peelS n row (rng' n)).1 ((peelL n row).getD 0 0)) lv)) o12 o16 o17 o18 o19) (lv := .own) (al := [13]) (by simp) (by simp [e2]) (by simp [e3, kwIn, mkL_int]) ((fit_Ls _).mono (by decide)) (cpy_Ls _) (th_Ls (by omega) fun x hx => by have := b3 x hx; omega).sz9
  generalize hE : BASE (peelS n row (rng' n)).1 ((peelL n row).getD 0 0) = B at *
  unfold t8c
  simp only [tOrM_e, tNotM_e, tru_e, t, M.bind_ret, truth_bool, ofOption_some]
  cases lv <;> simp [e1]
theorem p8 {Rx : Exn → Nat → Prop} {Q : Fl × Vm.Env → Nat → Prop} {b n : Nat} (hn : n < 6) {row : List Int} (hR : IsR n row) {l : Bool}
    (h : ∀ l8 l11 steps last, steps.length < 100 → Q (.nx, EA n row l o2 o3 o4 o7 (some (.dat (TO n row) l8)) o9 (some (.dat (BASE steps last) l11)) o12 o16 o17 o18 o19) b) :
    AllS Rx Q (m_law_0b_8 (EA n row l o2 o3 o4 o7 (some (.dat (TO n row) .own)) o9 o11 o12 o16 o17 o18 o19)) b := by
  obtain ⟨_, _, _, h4, h5, _⟩ := both hn hR.1 hR.2
  rw [← allS, m8_eq, sIf_e, c8_w (L := LE n row) rfl h4 h5, M.bind_ret]
  cases hL : isOne (LE n row) with
  | false =>
    have q := fun r => h .own r [(0, 0, 0)] 1 (by simp)
    rw [show (!false) = true from rfl, if_pos rfl, sCons_e, sIf_e, t8a_w hn hR hL, M.bind_ret, if_neg (by decide), sNil_e, M.bind_ret]
    dsimp only
    rw [sCons_e, b8a_w, M.bind_ret]
    dsimp only
    rw [sNil_e, M.all_ret]
    exact q _
  | true =>
    have hl := (peelS_len n row (rng' n)).1
    have q := h .shr .shr (peelS n row (rng' n)).1 ((peelL n row).getD 0 0) (by omega)
    have e0 := TO_nested hn hR hL
    have t0 := t8b_w (env := EA n row l o2 o3 o4 o7 (some (.dat (TO n row) .own)) o9 o11 o12 o16 o17 o18 o19) (ss := (peelS n row (rng' n)).1) (x := (peelL n row).getD 0 0) (by omega) (by rw [e0]; rfl) ⟨rfl, rfl⟩
    have t1 := b8b_w (n := n) (row := row) (l := l) (ss := (peelS n row (rng' n)).1) (x := (peelL n row).getD 0 0) (o2 := o2) (o3 := o3) (o4 := o4) (o7 := o7) (o9 := o9) (o11 := o11) (o12 := o12) (o16 := o16) (o17 := o17) (o18 := o18) (o19 := o19)
    rw [← e0] at t1
    rw [show (!true) = false from rfl, if_neg (by decide), sCons_e, sIf_e, t0, M.bind_ret, if_neg (by decide), sNil_e, M.bind_ret]
    dsimp only
    rw [sCons_e, t1, M.bind_ret]
    dsimp only
    rw [sCons_e, sIf_e, t8c_w hn hR hL, M.bind_ret, if_neg (by decide), sNil_e, M.bind_ret]
    dsimp only
    rw [sNil_e, M.all_ret]
    exact q
theorem p9 {n : Nat} (hn : n < 6) {row : List Int} {l : Bool} : ∃ p7, m_law_0b_9 (EA n row l o2 o3 o4 (some (.dat (TO n row) .own)) o8 o9 o11 o12 o16 o17 o18 o19) = .ret (.nx, EA n row l o2 o3 o4 p7 o8 o9 o11 o12 o16 o17 o18 o19) := by
  have t := TO_th hn row
  refine ⟨some (.dat (spoil (TO n row)) .own), ?_⟩
  unfold m_law_0b_9
  rw [sSpoil_own (d := TO n row) rfl (by have := t.dp; omega) (roomy_of t.nd (szd_mono (by decide) t.sz))]
  rfl
theorem p10 {n : Nat} (hn : n < 6) {row : List Int} (hR : IsR n row) {l : Bool} {l8 : Lv} : m_law_0b_10 (EA n row l o2 o3 o4 o7 (some (.dat (TO n row) l8)) o9 o11 o12 o16 o17 o18 o19) = .ret (.nx, EA n row l o2 o3 o4 o7 (some (.dat (TO n row) l8)) o9 o11 o12 o16 o17 o18 o19) := by
  have e1 := nested_x true hn hR
  simp only [rt, if_true] at e1
  have e2 := same_x (TO_fit (n := n) row) ((TO_th hn row).mono (by decide))
  unfold m_law_0b_10
  generalize TO n row = T at e1 e2 ⊢
  cases l8 <;> simp [e1, e2, mkL_int]
theorem p12 {n : Nat} (hn : n < 6) {row : List Int} (hR : IsR n row) {env : Vm.Env} {l : Bool} {lv lv2 : Lv} (h10 : sl env 10 = some (.dat (rt l (row.map .int)) lv)) (h6 : sl env 6 = some (.dat (.list (row.map .int)) lv2)) : m_law_0b_12 env = .ret (.nx, env) := by
  have hlt := pow_lt hn hR.1
  have e2 := same_x (a := .list (row.map .int)) ((fit_DI _).mono (by decide)) ((th_I (by omega)).mono (by decide))
  unfold m_law_0b_12
  cases l <;> simp [h10, h6, rt, e2, mkL_int]
end
end D94

set_option Elab.async false
set_option linter.all false
set_option maxRecDepth 100000
set_option maxHeartbeats 800000
namespace D94
open PySem L2 Vm M95
section
variable {o2 o3 o4 o5 o6 o7 o8 o9 o10 o11 o12 o13 o14 o15 o16 o17 o18 o19 : Option Sl}
theorem copied_T3 {d : PyData} (h : T3 d) : F__law_copied 12 [some d] = .ret (d, .own) := by
  rcases h with h | rfl
  · exact copied_d 12 d (by have := h.dp; omega) h.nd (szd_mono (by decide) h.sz)
  · exact copied_0 11
theorem b11_w {n : Nat} (hn : n < 6) {row : List Int} (hR : IsR n row) {l : Bool} {d : PyData} (hd : T3 d) : ∃ p12, m_law_0b_11b (EA n row l o2 o3 o4 o7 o8 (some (.dat d .shr)) o11 o12 o16 o17 o18 o19) = .ret (.nx, EA n row l o2 o3 o4 o7 o8 (some (.dat d .shr)) o11 p12 o16 o17 o18 o19) := by
  have e0 := law_peel_d hn hR.1 d
  have e1 := is_peel_w l hn hR.1 hR.2 d
  have e2 := is_peel_w true hn hR.1 hR.2 d
  simp only [rt, if_true] at e2
  have e3 := copied_T3 hd
  have e4 : ∀ k : Bool, F__law_same 12 [some (.list [.bool k, .bool k]), some (.list [.bool k, .bool k])] = .ret (.bool true, .own) := fun k => same_x ((fit_list (k := 0) fun x hx => by
    simp at hx
    rw [hx]; exact fit_bool _ _).mono (by decide)) ((Th.list (k := 0) (by simp) fun x hx => by
    simp at hx
    rw [hx]; exact th_bool _ _ _).mono (by decide))
  refine ⟨some (.dat (.bool (isPeel n row d)) .own), ?_⟩
  generalize isPeel n row d = k at *
  have s0 : m_law_0b_11b_0 (EA n row l o2 o3 o4 o7 o8 (some (.dat d .shr)) o11 o12 o16 o17 o18 o19) = .ret (.nx, EA n row l o2 o3 o4 o7 o8 (some (.dat d .shr)) o11 (some (.dat (.bool k) .own)) o16 o17 o18 o19) := by
    unfold m_law_0b_11b_0
    simp [e0]
  have s1 : m_law_0b_11b_1 (EA n row l o2 o3 o4 o7 o8 (some (.dat d .shr)) o11 (some (.dat (.bool k) .own)) o16 o17 o18 o19) = .ret (.nx, EA n row l o2 o3 o4 o7 o8 (some (.dat d .shr)) o11 (some (.dat (.bool k) .own)) o16 o17 o18 o19) := by
    unfold m_law_0b_11b_1
    simp [e1, e2, e3, e4, kwIn, mkL_int]
  unfold m_law_0b_11b
  rw [sCons_e, s0, M.bind_ret]
  dsimp only
  rw [sCons_e, s1, M.bind_ret]
  rfl
/-- no other place hangs on it -/
def O11 (al : List Nat) : Prop := ∀ i ∈ al, i = 11
theorem O11.app {a b : List Nat} (h : O11 a) (h' : O11 b) : O11 (a ++ b) := fun i hi => by
  rcases List.mem_append.mp hi with q | q
  · exact h i q
  · exact h' i q
theorem O11.nil : O11 [] := fun _ h => by cases h
theorem frz11 {n : Nat} {row : List Int} {l : Bool} {B : PyData} : ∀ (al : List Nat) (l11 : Lv), O11 al → ∃ l', frz (EA n row l o2 o3 o4 o7 o8 o9 (some (.dat B l11)) o12 o16 o17 o18 o19) al = EA n row l o2 o3 o4 o7 o8 o9 (some (.dat B l')) o12 o16 o17 o18 o19
  | [], l11, _ => ⟨l11, rfl⟩
  | i :: al, l11, h => by
    have hi := h i List.mem_cons_self
    subst hi
    obtain ⟨l', e⟩ := frz11 al l11 fun j hj => h j (List.mem_cons_of_mem _ hj)
    exact ⟨.shr, by rw [frz_cons, e]; rfl⟩
theorem mkRV_O11 {d : PyData} {lv : Lv} {al : List Nat} (h : O11 al) : O11 (mkRV d lv al).al := by
  unfold mkRV
  split
  · exact O11.nil
  · exact h
theorem mkL_O11 {d : List PyData} {al : List Nat} (h : O11 al) : O11 (mkL d al).al := by
  unfold mkL
  split
  · exact O11.nil
  · exact h
theorem dispL_O11 {rs : List RV} (h : O11 (als rs)) : O11 (dispL rs).al := by
  unfold dispL
  split
  · exact O11.nil
  · split
    · exact h
    · exact h
theorem compRV_O11 {rs : List RV} {al : List Nat} (h : O11 (als rs)) (h' : O11 al) : O11 (compRV rs al).al ∧ (compRV rs al).d = .list (dsOf rs) := by
  unfold compRV
  split
  · exact ⟨O11.nil, rfl⟩
  · split
    · exact ⟨O11.nil, rfl⟩
    · exact ⟨h'.app h, rfl⟩
theorem eN11 {n : Nat} {row : List Int} {l : Bool} {B : PyData} {l11 : Lv} : ∃ lv al, eName 11 (EA n row l o2 o3 o4 o7 o8 o9 (some (.dat B l11)) o12 o16 o17 o18 o19) = .ret (mkRV B lv al) ∧ O11 al := by
  cases l11
  · exact ⟨_, _, rfl, O11.nil⟩
  · exact ⟨_, _, rfl, fun i h => by simpa [hang] using h⟩
  · exact ⟨_, _, rfl, fun i h => by simpa [hang] using h⟩
def g11a : Vm.Env → M RV := (vLst (aCons (eName 11) (aCons (vCall 2 (F__law_loose 6) (aStm 1 (aCons (eName 11) aNil))) aNil)))
def g11b : Vm.Env → M RV := (vComp (iRange1 (aCons (eInt 5) aNil)) [18] (tgName 18) cYes (vCall 3 F__law_bent (aStm 1 (aCons (eName 5) (aCons (eName 11) aNil)))))
theorem m11_eq : m_law_0b_11 = sFor (iSeq (vCall 2 F__law_mixed (aStm 1 (aCons (ev2 oAdd g11a g11b) aNil)))) (tgName 9) m_law_0b_11b := rfl
theorem base_th {steps : List (Int × Int × Int)} {last : Int} (hl : steps.length < 100) : Th 3 1000 (BASE steps last) ∧ nodes (BASE steps last) ≤ 110 ∧ (BASE steps last).depth < 6 := by
  have t : Th 3 1000 (BASE steps last) := th_pair (by decide) (th_Ss (by omega)) (th_int _ _ _)
  refine ⟨t, ?_, by have := t.dp; omega⟩
  have : ∀ l : List (Int × Int × Int), nodesL (l.map encS) = l.length := fun l => by
    induction l with
    | nil => rfl
    | cons q l ih => simp only [List.map_cons, nodesL, ih, List.length_cons]; simp [encS, nodes, nodesL]; omega
  simp only [nodes, nodesL, this]
  omega
theorem g11a_all {Rx : Exn → Nat → Prop} {Q : RV → Nat → Prop} {b n : Nat} (hb : 110 ≤ b) {row : List Int} {l : Bool} {steps : List (Int × Int × Int)} {last : Int} {l11 : Lv} (hl : steps.length < 100)
    (h : ∀ xs lv al b', xs.length = 2 → (∀ x ∈ xs, T3 x) → O11 al → b ≤ b' + 110 → Q ⟨.list xs, lv, al⟩ b') : AllS Rx Q (g11a (EA n row l o2 o3 o4 o7 o8 o9 (some (.dat (BASE steps last) l11)) o12 o16 o17 o18 o19)) b := by
  obtain ⟨t, hn, hd⟩ := base_th (last := last) hl
  obtain ⟨lv, al, e, ho⟩ := eN11 (n := n) (row := row) (l := l) (B := BASE steps last) (l11 := l11) (o2 := o2) (o3 := o3) (o4 := o4) (o7 := o7) (o8 := o8) (o9 := o9) (o12 := o12) (o16 := o16) (o17 := o17) (o18 := o18) (o19 := o19)
  have h1 : sl (EA n row l o2 o3 o4 o7 o8 o9 (some (.dat (BASE steps last) l11)) o12 o16 o17 o18 o19) 1 = some .stm := rfl
  rw [← allS]
  unfold g11a
  generalize BASE steps last = B at *
  generalize EA n row l o2 o3 o4 o7 o8 o9 (some (.dat B l11)) o12 o16 o17 o18 o19 = env at *
  simp only [vLst_e, aCons_e, e, M.bind_ret, vCall_e, aStm_e, h1, aNil_e, List.length_cons, List.length_nil, if_true, List.map_cons, List.map_nil, Option.map_none, Option.map_some, mkRV_d, M.all_bind]
  refine loose_all (m := 1000) (by decide) 6 3 B b _ t hd (by omega) fun d' lv' b' ht hb' => ?_
  simp only [M.all_ret, noStm_cons, noStm_nil, Option.map_some, ofOption_some, List.length_cons, List.length_nil]
  rw [if_pos (by decide), M.all_ret]
  have ha : O11 (if lv' = .own then [] else alsA [none, some (mkRV B lv al)]) := by
    split
    · exact O11.nil
    · simp [alsA]; exact mkRV_O11 ho
  have hz : O11 (als [mkRV B lv al, mkRV d' lv' (if lv' = .own then [] else alsA [none, some (mkRV B lv al)])]) := by
    simp only [als, List.flatMap_cons, List.flatMap_nil, List.append_nil]
    exact (mkRV_O11 ho).app (mkRV_O11 ha)
  have q := h [B, d'] (dispL [mkRV B lv al, mkRV d' lv' (if lv' = .own then [] else alsA [none, some (mkRV B lv al)])]).lv (dispL [mkRV B lv al, mkRV d' lv' (if lv' = .own then [] else alsA [none, some (mkRV B lv al)])]).al b' rfl (by simp; exact ⟨.inl t, .inl ht⟩) (dispL_O11 hz) (by omega)
  have ed : ∀ rs, dispL rs = ⟨.list (dsOf rs), (dispL rs).lv, (dispL rs).al⟩ := fun rs => by rw [← dispL_d rs]
  rw [ed]
  simpa only [dsOf_cons, dsOf_nil, mkRV_d] using q
theorem g11b_all {Rx : Exn → Nat → Prop} {Q : RV → Nat → Prop} {b n : Nat} (hb : 50 ≤ b) {row : List Int} {l : Bool} {steps : List (Int × Int × Int)} {last : Int} {l11 : Lv} (hl : steps.length < 100)
    (h : ∀ xs lv al b', xs.length = 5 → (∀ x ∈ xs, T3 x) → O11 al → b ≤ b' + 50 → Q ⟨.list xs, lv, al⟩ b') : AllS Rx Q (g11b (EA n row l o2 o3 o4 o7 o8 o9 (some (.dat (BASE steps last) l11)) o12 o16 o17 o18 o19)) b := by
  have ei : iRange1 (aCons (eInt 5) aNil) (EA n row l o2 o3 o4 o7 o8 o9 (some (.dat (BASE steps last) l11)) o12 o16 o17 o18 o19) = .ret (rng 0 5, []) := rfl
  have hr5 : (rng 0 5).length = 5 := rfl
  have hs5 : ((rng 0 5).map fun _ => 10).sum = 50 := rfl
  rw [← allS]
  unfold g11b vComp
  rw [ei, M.bind_ret]
  generalize rng 0 5 = R at *
  simp only [frz_nil, M.all_bind]
  rw [if_pos (by rw [hr5]; decide), M.all_bind]
  refine calm_all _ _ ?_
  refine compLoop_gen (fun _ r => T3 r.d ∧ O11 r.al) (fun _ => 10) R b _ (fun x hx => ⟨_, rfl, fun b1 hb1 => ?_⟩) (by rw [hs5]; omega) fun rs b' hf hb' => ?_
  · obtain ⟨lv, al, e, ho⟩ := eN11 (n := n) (row := row) (l := l) (B := BASE steps last) (l11 := l11) (o2 := o2) (o3 := o3) (o4 := o4) (o7 := o7) (o8 := o8) (o9 := o9) (o12 := o12) (o16 := o16) (o17 := o17) (o18 := some (.dat x .shr)) (o19 := o19)
    have h1 : sl (EA n row l o2 o3 o4 o7 o8 o9 (some (.dat (BASE steps last) l11)) o12 o16 o17 (some (.dat x .shr)) o19) 1 = some .stm := rfl
    have h5 : eName 5 (EA n row l o2 o3 o4 o7 o8 o9 (some (.dat (BASE steps last) l11)) o12 o16 o17 (some (.dat x .shr)) o19) = .ret ⟨.int n, .own, []⟩ := rfl
    rw [show (kill (EA n row l o2 o3 o4 o7 o8 o9 (some (.dat (BASE steps last) l11)) o12 o16 o17 o18 o19) [18]).set 18 (some (.dat x .shr)) = EA n row l o2 o3 o4 o7 o8 o9 (some (.dat (BASE steps last) l11)) o12 o16 o17 (some (.dat x .shr)) o19 from rfl]
    generalize EA n row l o2 o3 o4 o7 o8 o9 (some (.dat (BASE steps last) l11)) o12 o16 o17 (some (.dat x .shr)) o19 = env at *
    simp only [vCall_e, aStm_e, h1, aCons_e, h5, e, M.bind_ret, aNil_e, List.length_cons, List.length_nil, if_true, List.map_cons, List.map_nil, Option.map_none, Option.map_some, mkRV_d, M.all_bind]
    refine bent_all hb1 hl fun d lv' b2 hd hb2 => ?_
    rw [M.all_ret]
    refine ⟨hb2, by rw [mkRV_d]; exact hd, mkRV_O11 ?_⟩
    split
    · exact O11.nil
    · simp [alsA]; exact mkRV_O11 ho
  · rw [M.all_ret]
    have hal : O11 (als rs) := fun i hi => by
      obtain ⟨r, hr, hi⟩ := List.mem_flatMap.mp hi
      exact hf.right (Q := fun r => O11 r.al) (fun _ _ r q => q.2) r hr i hi
    obtain ⟨h1, h2⟩ := compRV_O11 hal O11.nil
    have q := h (dsOf rs) (compRV rs []).lv (compRV rs []).al b' (by rw [dsOf, List.length_map, hf.length, hr5]) (fun x hx => by
      obtain ⟨r, hr, rfl⟩ := List.mem_map.mp hx
      exact hf.right (Q := fun r => T3 r.d) (fun _ _ r q => q.1) r hr) h1 (by rw [hs5] at hb'; omega)
    rw [← h2] at q
    exact q
end
end D94

set_option Elab.async false
set_option linter.all false
set_option maxRecDepth 100000
set_option maxHeartbeats 800000
namespace D94
open PySem L2 Vm M95
section
variable {o2 o3 o4 o5 o6 o7 o8 o9 o10 o11 o12 o13 o14 o15 o16 o17 o18 o19 : Option Sl}
theorem forLoop_things {n : Nat} (hn : n < 6) {row : List Int} (hR : IsR n row) {l : Bool} : ∀ (ds : List PyData) (o9 o12 : Option Sl), (∀ d ∈ ds, T3 d) →
    ∃ p9 p12, forLoop (tgName 9) m_law_0b_11b ds (EA n row l o2 o3 o4 o7 o8 o9 o11 o12 o16 o17 o18 o19) = .ret (.nx, EA n row l o2 o3 o4 o7 o8 p9 o11 p12 o16 o17 o18 o19)
  | [], o9, o12, _ => ⟨o9, o12, rfl⟩
  | d :: ds, o9, o12, h => by
    obtain ⟨q12, e⟩ := b11_w hn hR (l := l) (h d List.mem_cons_self) (o2 := o2) (o3 := o3) (o4 := o4) (o7 := o7) (o8 := o8) (o11 := o11) (o12 := o12) (o16 := o16) (o17 := o17) (o18 := o18) (o19 := o19)
    obtain ⟨p9, p12, e2⟩ := forLoop_things hn hR (l := l) ds (some (.dat d .shr)) q12 fun d hd => h d (List.mem_cons_of_mem _ hd)
    refine ⟨p9, p12, ?_⟩
    have et : tgName 9 .shr d (EA n row l o2 o3 o4 o7 o8 o9 o11 o12 o16 o17 o18 o19) = some (EA n row l o2 o3 o4 o7 o8 (some (.dat d .shr)) o11 o12 o16 o17 o18 o19) := rfl
    simp only [forLoop]
    rw [et, ofOption_some, M.bind_ret, e, M.bind_ret]
    exact e2
theorem p11 {Rx : Exn → Nat → Prop} {Q : Fl × Vm.Env → Nat → Prop} {b n : Nat} (hn : n < 6) (hb : 200 ≤ b) {row : List Int} (hR : IsR n row) {l : Bool} {steps : List (Int × Int × Int)} {last : Int} {l11 : Lv} (hl : steps.length < 100)
    (h : ∀ p9 p11 p12 b', b ≤ b' + 200 → Q (.nx, EA n row l o2 o3 o4 o7 o8 p9 p11 p12 o16 o17 o18 o19) b') : AllS Rx Q (m_law_0b_11 (EA n row l o2 o3 o4 o7 o8 o9 (some (.dat (BASE steps last) l11)) o12 o16 o17 o18 o19)) b := by
  have h1 : sl (EA n row l o2 o3 o4 o7 o8 o9 (some (.dat (BASE steps last) l11)) o12 o16 o17 o18 o19) 1 = some .stm := rfl
  have hloop : ∀ (ys : List PyData), (∀ y ∈ ys, T3 y) → ∀ al : List Nat, O11 al → ∃ p9 p12 p11, forLoop (tgName 9) m_law_0b_11b ys (frz (EA n row l o2 o3 o4 o7 o8 o9 (some (.dat (BASE steps last) l11)) o12 o16 o17 o18 o19) al) = .ret (.nx, EA n row l o2 o3 o4 o7 o8 p9 p11 p12 o16 o17 o18 o19) := fun ys hT al ho => by
    obtain ⟨l', ef⟩ := frz11 (n := n) (row := row) (l := l) (B := BASE steps last) (o2 := o2) (o3 := o3) (o4 := o4) (o7 := o7) (o8 := o8) (o9 := o9) (o12 := o12) (o16 := o16) (o17 := o17) (o18 := o18) (o19 := o19) al l11 ho
    obtain ⟨p9, p12, e⟩ := forLoop_things hn hR (l := l) ys o9 o12 hT (o2 := o2) (o3 := o3) (o4 := o4) (o7 := o7) (o8 := o8) (o11 := some (.dat (BASE steps last) l')) (o16 := o16) (o17 := o17) (o18 := o18) (o19 := o19)
    exact ⟨p9, p12, some (.dat (BASE steps last) l'), by rw [ef]; exact e⟩
  rw [← allS, m11_eq, sFor_e]
  have ga := fun Q h => g11a_all (Rx := Rx) (Q := Q) (b := b) (n := n) (by omega) (row := row) (l := l) (last := last) (l11 := l11) (o2 := o2) (o3 := o3) (o4 := o4) (o7 := o7) (o8 := o8) (o9 := o9) (o12 := o12) (o16 := o16) (o17 := o17) (o18 := o18) (o19 := o19) hl h
  have gb := fun Q b hb h => g11b_all (Rx := Rx) (Q := Q) (b := b) (n := n) hb (row := row) (l := l) (last := last) (l11 := l11) (o2 := o2) (o3 := o3) (o4 := o4) (o7 := o7) (o8 := o8) (o9 := o9) (o12 := o12) (o16 := o16) (o17 := o17) (o18 := o18) (o19 := o19) hl h
  generalize EA n row l o2 o3 o4 o7 o8 o9 (some (.dat (BASE steps last) l11)) o12 o16 o17 o18 o19 = env at *
  generalize m_law_0b_11b = bd at *
  simp only [iSeq_e, vCall_e, aStm_e, h1, aCons_e, ev2_e, aNil_e, M.all_bind]
  rw [allS]
  refine ga _ fun xs lv al b1 hx hT ho hb1 => ?_
  rw [allS]
  refine gb _ b1 (by omega) fun ys lv' al' b2 hy hT' ho' hb2 => ?_
  have ec : oAdd ⟨.list xs, lv, al⟩ ⟨.list ys, lv', al'⟩ = .ret (mkL (xs ++ ys) (al ++ al')) := by
    simp [oAdd, oAddI, oInt, oCat, hx, hy]
  have hmd : (mkL (xs ++ ys) (al ++ al')).d = .list (xs ++ ys) := by unfold mkL; split <;> rfl
  simp only [ec, M.all_ret, M.bind_ret, List.length_cons, List.length_nil, if_true, List.map_cons, List.map_nil, Option.map_none, Option.map_some, hmd, M.all_bind]
  refine mixed_all _ (by rw [List.length_append]; omega) (by rw [List.length_append]; omega) fun zs lv3 b3 hp hb3 => ?_
  rw [List.length_append, hx, hy] at hb3
  simp only [M.all_ret, mkRV_d]
  have hO : O11 (mkRV (.list zs) lv3 (if lv3 = .own then [] else alsA [none, some (mkL (xs ++ ys) (al ++ al'))])).al := by
    refine mkRV_O11 ?_
    split
    · exact O11.nil
    · simp [alsA]; exact mkL_O11 (ho.app ho')
  obtain ⟨p9, p12, p11, e⟩ := hloop zs (fun y hy => by
    rcases List.mem_append.mp (hp.subset hy) with q | q
    · exact hT y q
    · exact hT' y q) _ hO
  rw [e, M.all_ret]
  exact h _ _ _ _ (by omega)
abbrev E0 (o2 o3 o4 o5 o6 o7 o8 o9 o10 o11 o12 o13 o14 o15 o16 o17 o18 o19 : Option Sl) : Vm.Env := [none, some .stm, o2, o3, o4, o5, o6, o7, o8, o9, o10, o11, o12, o13, o14, o15, o16, o17, o18, o19]
theorem turn {Rx : Exn → Nat → Prop} {Q : Fl × Vm.Env → Nat → Prop} {b : Nat} (hb : 300 ≤ b) (h : ∀ b' o2 o3 o4 o5 o6 o7 o8 o9 o10 o11 o12 o13 o14 o15 o16 o17 o18 o19, b ≤ b' + 300 → Q (.nx, E0 o2 o3 o4 o5 o6 o7 o8 o9 o10 o11 o12 o13 o14 o15 o16 o17 o18 o19) b') :
    AllS Rx Q (m_law_0b (E0 o2 o3 o4 o5 o6 o7 o8 o9 o10 o11 o12 o13 o14 o15 o16 o17 o18 o19)) b := by
  rw [← allS]
  unfold m_law_0b
  rw [sCons_e, p0, M.all_bind]
  refine ⟨by decide, by omega, fun n hn => ?_⟩
  rw [M.all_ret]
  dsimp only
  rw [sCons_e, M.all_bind, allS]
  refine p1 hn (by omega) fun row b1 hR hb1 => ?_
  dsimp only
  rw [sCons_e, p2 hn hR, M.all_bind]
  refine ⟨by decide, by omega, fun z hz => ?_⟩
  rw [M.all_ret]
  dsimp only
  rw [sCons_e, p3 hn hR, M.bind_ret]
  dsimp only
  rw [sCons_e, M.all_bind, allS]
  refine p4 hn (by omega) hR fun q16 q17 b2 hb2 => ?_
  dsimp only
  rw [sCons_e, p5 hn hR, M.bind_ret]
  dsimp only
  rw [sCons_e, p6 hn hR, M.bind_ret]
  dsimp only
  rw [sCons_e, p7 hn hR, M.bind_ret]
  dsimp only
  rw [sCons_e, M.all_bind, allS]
  refine p8 hn hR fun l8 l11 steps last hl => ?_
  dsimp only
  obtain ⟨q7, e9⟩ := p9 hn (row := row) (l := z != 0) (o2 := o2) (o3 := o3) (o4 := o4) (o8 := some (.dat (TO n row) l8)) (o9 := o9) (o11 := some (.dat (BASE steps last) l11)) (o12 := o12) (o16 := q16) (o17 := q17) (o18 := o18) (o19 := o19)
  rw [sCons_e, e9, M.bind_ret]
  dsimp only
  rw [sCons_e, p10 hn hR, M.bind_ret]
  dsimp only
  rw [sCons_e, M.all_bind, allS]
  refine p11 hn (by omega) hR hl fun q9 q11 q12 b3 hb3 => ?_
  dsimp only
  rw [sCons_e, p12 hn hR rfl rfl, M.bind_ret]
  dsimp only
  rw [sNil_e, M.all_ret]
  exact h _ _ _ _ _ _ _ _ _ _ _ _ _ _ _ _ _ _ _ (by omega)
def ANDR : List Int := [0, 0, 0, 1]
theorem and_R : IsR 2 ANDR := ⟨rfl, by decide⟩
theorem xor_R : IsR 2 [0, 1, 1, 0] := ⟨rfl, by decide⟩
theorem one_R : IsR 0 [1] := ⟨rfl, by decide⟩
theorem id_R : IsR 1 [0, 1] := ⟨rfl, by decide⟩
theorem facts : decBy 2 ANDR = [(0, 0, 0), (1, 0, 0)] ∧ (layF 6 ANDR (rng' 2)).1 = [[(0, 0, 0), (1, 0, 0)]] ∧ isOne (layF 6 ANDR (rng' 2)).2.2 = true ∧
    isOne (peelL 2 [0, 1, 1, 0]) = false ∧ (peelS 2 [0, 1, 1, 0] (rng' 2)).2 = [0, 1] ∧ isOne (peelL 0 [1]) = true ∧ (peelS 0 [1] (rng' 0)).1 = [] ∧ (peelL 0 [1]).getD 0 0 = 1 ∧
    (layF 6 [0, 1] (rng' 1)).1 = [[(0, 0, 0)]] ∧ isOne (layF 6 [0, 1] (rng' 1)).2.2 = true := by decide +kernel
def FOUND : PyData := .list [.list [.tuple [.int 0, .int 0, .int 0], .tuple [.int 1, .int 0, .int 0]], .list [.list [.tuple [.int 0, .int 0, .int 0], .tuple [.int 1, .int 0, .int 0]]], .tuple [.str "stuck", .list [.int 0, .int 1]], .tuple [.str "nested", .list [], .int 1], .list [.list [.tuple [.int 0, .int 0, .int 0]]]]
theorem law1 : m_law_1 (E0 o2 o3 o4 o5 o6 o7 o8 o9 o10 o11 o12 o13 o14 o15 o16 o17 o18 o19) = .ret (.nx, E0 o2 (SL ANDR) o4 o5 o6 o7 o8 o9 o10 o11 o12 o13 o14 o15 o16 o17 o18 o19) := by
  unfold m_law_1
  simp [ANDR]
theorem law2 : m_law_2 (E0 o2 (SL ANDR) o4 o5 o6 o7 o8 o9 o10 o11 o12 o13 o14 o15 o16 o17 o18 o19) = .ret (.nx, E0 o2 (SL ANDR) (some (.dat FOUND .own)) o5 o6 o7 o8 o9 o10 o11 o12 o13 o14 o15 o16 o17 o18 o19) := by
  obtain ⟨f1, f2, f3, f4, f5, f6, f7, f8, f9, f10⟩ := facts
  have e1 := deciding_w true (by decide) and_R.1 and_R.2
  have e2 := layers_w true (by decide) and_R.1 and_R.2
  have e3 := nested_x true (by decide) xor_R
  have e4 := nested_x true (by decide) one_R
  have e5 := layers_w true (by decide) id_R.1 id_R.2
  rw [f1] at e1
  rw [if_pos f3, f2] at e2
  rw [if_pos f10, f9] at e5
  unfold TO at e3 e4
  rw [if_neg (by rw [f4]; decide), f5] at e3
  rw [if_pos f6, f7, f8] at e4
  simp [rt, ANDR, encL, encS, enc3] at e1 e2 e3 e4 e5
  unfold m_law_2
  simp [e1, e2, e3, e4, e5, ANDR, allOwn, als, FOUND]
theorem found_ok : Fit 8 FOUND ∧ Th 8 1000 FOUND := ⟨⟨by decide +kernel, by decide +kernel, by decide +kernel⟩, ⟨by decide +kernel, by decide +kernel, by decide +kernel⟩⟩
theorem law3 {env : Vm.Env} (h4 : sl env 4 = some (.dat FOUND .own)) : m_law_3 env = .ret (.ret (.bool true) .own, env) := by
  have e := same_x found_ok.1 found_ok.2
  unfold FOUND at h4 e
  unfold m_law_3
  simp [h4, allOwn, als, e]
end
theorem law_all : AllS M.R0 (fun p _ => ∃ lv, p.1 = .ret (.bool true) lv) (m_law (none :: some .stm :: List.replicate 18 none)) Big := by
  rw [← allS]
  unfold m_law
  rw [sCons_e, M.all_bind]
  unfold m_law_0
  have er : iRange1 (aCons (eInt 6) aNil) (none :: some .stm :: List.replicate 18 none) = .ret (rng 0 6, []) := by simp [show sm62 6 = true from rfl]
  rw [sFor_e, er, M.bind_ret]
  simp only [frz_nil]
  refine forLoop_all (rng 0 6) (fun i env b => 3000 ≤ b + 400 * i ∧ ∃ o2 o3 o4 o5 o6 o7 o8 o9 o10 o11 o12 o13 o14 o15 o16 o17 o18 o19 : Option Sl, env = E0 o2 o3 o4 o5 o6 o7 o8 o9 o10 o11 o12 o13 o14 o15 o16 o17 o18 o19) _ _ ⟨by decide, _, _, _, _, _, _, _, _, _, _, _, _, _, _, _, _, _, _, rfl⟩ (fun i d env b hd hI => ?_) fun env b hI => ?_
  · have hi : i < 6 := by
      have := (List.getElem?_eq_some_iff.mp hd).1
      simpa [rng] using this
    obtain ⟨hb, o2, o3, o4, o5, o6, o7, o8, o9, o10, o11, o12, o13, o14, o15, o16, o17, o18, o19, rfl⟩ := hI
    refine ⟨_, rfl, ?_⟩
    simp only [List.set]
    rw [allS]
    exact turn (by omega) fun b' o2 o3 o4 o5 o6 o7 o8 o9 o10 o11 o12 o13 o14 o15 o16 o17 o18 o19 hb' => ⟨by omega, _, _, _, _, _, _, _, _, _, _, _, _, _, _, _, _, _, _, rfl⟩
  · obtain ⟨hb, o2, o3, o4, o5, o6, o7, o8, o9, o10, o11, o12, o13, o14, o15, o16, o17, o18, o19, rfl⟩ := hI
    dsimp only
    rw [sCons_e, law1, M.bind_ret]
    dsimp only
    rw [sCons_e, law2, M.bind_ret]
    dsimp only
    rw [sCons_e, law3 rfl, M.bind_ret, M.all_ret]
    exact ⟨_, rfl⟩
end D94

set_option Elab.async false
set_option linter.all false
set_option maxRecDepth 100000
set_option maxHeartbeats 0
namespace D94
open PySem PySem.Spec PyProof.Rows L2 Vm
abbrev QL : Str := ("law" : Str) ++ ".<locals>." ++ "<lambda>"
def dd__law_stream : He.DefD := ⟨("_law_stream", none), "_law_stream", "_law_stream", defArgs s__law_stream, defBody s__law_stream, defScope s__law_stream, [], []⟩
def dd__law_same : He.DefD := ⟨("_law_same", none), "_law_same", "_law_same", defArgs s__law_same, defBody s__law_same, defScope s__law_same, [], []⟩
def dd__law_draw : He.DefD := ⟨("_law_draw", none), "_law_draw", "_law_draw", defArgs s__law_draw, defBody s__law_draw, defScope s__law_draw, [], []⟩
def dd__law_mixed : He.DefD := ⟨("_law_mixed", none), "_law_mixed", "_law_mixed", defArgs s__law_mixed, defBody s__law_mixed, defScope s__law_mixed, [], []⟩
def dd__law_states : He.DefD := ⟨("_law_states", none), "_law_states", "_law_states", defArgs s__law_states, defBody s__law_states, defScope s__law_states, [], []⟩
def dd__law_row : He.DefD := ⟨("_law_row", none), "_law_row", "_law_row", defArgs s__law_row, defBody s__law_row, defScope s__law_row, [], []⟩
def dd_is_one : He.DefD := ⟨("is_one", none), "is_one", "is_one", defArgs s_is_one, defBody s_is_one, defScope s_is_one, [], []⟩
def dd_heeds_of : He.DefD := ⟨("heeds_of", none), "heeds_of", "heeds_of", defArgs s_heeds_of, defBody s_heeds_of, defScope s_heeds_of, [], []⟩
def dd_states_of : He.DefD := ⟨("states_of", none), "states_of", "states_of", defArgs s_states_of, defBody s_states_of, defScope s_states_of, [], []⟩
def dd_at_value : He.DefD := ⟨("at_value", none), "at_value", "at_value", defArgs s_at_value, defBody s_at_value, defScope s_at_value, [], []⟩
def dd_deciding_by : He.DefD := ⟨("deciding_by", none), "deciding_by", "deciding_by", defArgs s_deciding_by, defBody s_deciding_by, defScope s_deciding_by, [], []⟩
def dd_peeled : He.DefD := ⟨("peeled", none), "peeled", "peeled", defArgs s_peeled, defBody s_peeled, defScope s_peeled, [], []⟩
def dd_is_list : He.DefD := ⟨("is_list", none), "is_list", "is_list", defArgs s_is_list, defBody s_is_list, defScope s_is_list, [], []⟩
def dd_is_row : He.DefD := ⟨("is_row", none), "is_row", "is_row", defArgs s_is_row, defBody s_is_row, defScope s_is_row, [], []⟩
def dd_is_whole : He.DefD := ⟨("is_whole", none), "is_whole", "is_whole", defArgs s_is_whole, defBody s_is_whole, defScope s_is_whole, [], []⟩
def dd_is_number : He.DefD := ⟨("is_number", none), "is_number", "is_number", defArgs s_is_number, defBody s_is_number, defScope s_is_number, [], []⟩
def dd_is_below : He.DefD := ⟨("is_below", none), "is_below", "is_below", defArgs s_is_below, defBody s_is_below, defScope s_is_below, [], []⟩
def dd_kept_values : He.DefD := ⟨("kept_values", none), "kept_values", "kept_values", defArgs s_kept_values, defBody s_kept_values, defScope s_kept_values, [], []⟩
def dd_kept_row : He.DefD := ⟨("kept_row", none), "kept_row", "kept_row", defArgs s_kept_row, defBody s_kept_row, defScope s_kept_row, [], []⟩
def dd_need_row : He.DefD := ⟨("need_row", none), "need_row", "need_row", defArgs s_need_row, defBody s_need_row, defScope s_need_row, [], []⟩
def dd_nested_or_stuck : He.DefD := ⟨("nested_or_stuck", none), "nested_or_stuck", "nested_or_stuck", defArgs s_nested_or_stuck, defBody s_nested_or_stuck, defScope s_nested_or_stuck, [], []⟩
def dd__law_copied : He.DefD := ⟨("_law_copied", none), "_law_copied", "_law_copied", defArgs s__law_copied, defBody s__law_copied, defScope s__law_copied, [], []⟩
def dd__law_spoilt : He.DefD := ⟨("_law_spoilt", none), "_law_spoilt", "_law_spoilt", defArgs s__law_spoilt, defBody s__law_spoilt, defScope s__law_spoilt, [], []⟩
def dd_deciding : He.DefD := ⟨("deciding", none), "deciding", "deciding", defArgs s_deciding, defBody s_deciding, defScope s_deciding, [], []⟩
def dd_layer_of : He.DefD := ⟨("layer_of", none), "layer_of", "layer_of", defArgs s_layer_of, defBody s_layer_of, defScope s_layer_of, [], []⟩
def dd_layers : He.DefD := ⟨("layers", none), "layers", "layers", defArgs s_layers, defBody s_layers, defScope s_layers, [], []⟩
def dd__law_loose : He.DefD := ⟨("_law_loose", none), "_law_loose", "_law_loose", defArgs s__law_loose, defBody s__law_loose, defScope s__law_loose, [], []⟩
def dd__law_at : He.DefD := ⟨("_law_at", none), "_law_at", "_law_at", defArgs s__law_at, defBody s__law_at, defScope s__law_at, [], []⟩
def dd__law_deciding : He.DefD := ⟨("_law_deciding", none), "_law_deciding", "_law_deciding", defArgs s__law_deciding, defBody s__law_deciding, defScope s__law_deciding, [], []⟩
def dd__law_peel : He.DefD := ⟨("_law_peel", none), "_law_peel", "_law_peel", defArgs s__law_peel, defBody s__law_peel, defScope s__law_peel, [], []⟩
def dd__law_twice : He.DefD := ⟨("_law_twice", none), "_law_twice", "_law_twice", defArgs s__law_twice, defBody s__law_twice, defScope s__law_twice, [], []⟩
def dd__law_is_number : He.DefD := ⟨("_law_is_number", none), "_law_is_number", "_law_is_number", defArgs s__law_is_number, defBody s__law_is_number, defScope s__law_is_number, [], []⟩
def dd__law_is_peeling : He.DefD := ⟨("_law_is_peeling", none), "_law_is_peeling", "_law_is_peeling", defArgs s__law_is_peeling, defBody s__law_is_peeling, defScope s__law_is_peeling, [], []⟩
def dd__law_pick : He.DefD := ⟨("_law_pick", none), "_law_pick", "_law_pick", defArgs s__law_pick, defBody s__law_pick, defScope s__law_pick, [], []⟩
def dd__law_bent : He.DefD := ⟨("_law_bent", none), "_law_bent", "_law_bent", defArgs s__law_bent, defBody s__law_bent, defScope s__law_bent, [], []⟩
def dd_lessened : He.DefD := ⟨("lessened", none), "lessened", "lessened", defArgs s_lessened, defBody s_lessened, defScope s_lessened, [], []⟩
def dd__law_met : He.DefD := ⟨("_law_met", none), "_law_met", "_law_met", defArgs s__law_met, defBody s__law_met, defScope s__law_met, [], []⟩
def dd_is_step : He.DefD := ⟨("is_step", none), "is_step", "is_step", defArgs s_is_step, defBody s_is_step, defScope s_is_step, [], []⟩
def dd_is_peeling : He.DefD := ⟨("is_peeling", none), "is_peeling", "is_peeling", defArgs s_is_peeling, defBody s_is_peeling, defScope s_is_peeling, [], []⟩
def dd_law : He.DefD := ⟨("law", none), "law", "law", defArgs s_law, defBody s_law, defScope s_law, [], []⟩
def hfn_0 : List He.DefD := [dd__law_stream, dd__law_same, dd__law_draw, dd__law_mixed, dd__law_states, dd__law_row, dd_is_one, dd_heeds_of, dd_states_of, dd_at_value, dd_deciding_by, dd_peeled, dd_is_list, dd_is_row, dd_is_whole, dd_is_number, dd_is_below, dd_kept_values, dd_kept_row, dd_need_row, dd_nested_or_stuck, dd__law_copied, dd__law_spoilt, dd_deciding, dd_layer_of, dd_layers, dd__law_loose, dd__law_at, dd__law_deciding, dd__law_peel]
def hfn_1 : List He.DefD := [dd__law_twice, dd__law_is_number, dd__law_is_peeling, dd__law_pick, dd__law_bent, dd_lessened, dd__law_met, dd_is_step, dd_is_peeling, dd_law]
def hfn : List He.DefD := hfn_0 ++ hfn_1
def hfa_0 : List He.Fa := [.glo "_law_stream", .glo "_law_same", .glo "_law_draw", .glo "_law_mixed", .glo "_law_states", .glo "_law_row", .glo "is_one", .glo "heeds_of", .glo "states_of", .glo "at_value", .glo "deciding_by", .glo "peeled", .glo "is_list", .glo "is_row", .glo "is_whole", .glo "is_number", .glo "is_below", .glo "kept_values", .glo "kept_row", .glo "need_row", .glo "nested_or_stuck", .glo "_law_copied", .glo "_law_spoilt", .glo "deciding", .glo "layer_of", .glo "layers", .glo "_law_loose", .glo "_law_at", .glo "_law_deciding", .glo "_law_peel"]
def hfa_1 : List He.Fa := [.glo "_law_twice", .glo "_law_is_number", .glo "_law_is_peeling", .glo "_law_pick", .glo "_law_bent", .glo "lessened", .glo "_law_met", .glo "is_step", .glo "is_peeling", .glo "law", .free "abs", .free "all", .free "bool", .free "dict", .free "enumerate", .free "int", .free "isinstance", .free "len", .free "list", .free "range", .free "str", .free "tuple", .free "zip", .glo "NotNested", .exc "NotNested", .exm "NotNested" "NotNested" true]
def hfa : List He.Fa := hfa_0 ++ hfa_1
def hloose_0 : List Str := ["is_list", "is_whole", "is_number", "is_below", "is_row", "SwitchError", "states_of", "kept_values", "BadRow", "BadHeed", "BadValue", "NotNested", "kept_row", "need_row", "heeds_of", "at_value", "is_one", "deciding_by", "deciding", "lessened", "peeled", "nested_or_stuck", "is_step", "is_peeling", "layer_of", "layers", "_law_stream", "_law_draw", "_law_pick", "_law_mixed"]
def hloose_1 : List Str := ["_law_same", "_law_spoilt", "_law_copied", "_law_loose", "_law_twice", "_law_is_number", "_law_states", "_law_met", "_law_at", "_law_deciding", "_law_peel", "_law_is_peeling", "_law_row", "_law_bent"]
def hloose : List Str := hloose_0 ++ hloose_1
def htf : List He.Defn := [("law", none)]
abbrev hR : PySem.W.OpenRow := PySem.W.OpenLaw.row PySem.Challenge.rw_switchrests_k94_whole_deciding_heeds
abbrev hkk : PySem.W.Hook := He.hookX 4 hfa hfn [] htf fun _ => true
def hob (s : PySem.W.SharedT) : He.AlX := He.obsX 4 hfa hfn [] htf (fun _ => true) (HandSHeadRun.getT s)
theorem hob_eq (s : PySem.W.SharedT) : hob s = hkk.obs s.abs := He.obsX_eq (HandSHeadRun.getT_eq s)
theorem hrun (w : World) : HandSHeadRun.RunEq hR (PySem.W.view hR.prog [50]) hkk hob 3000 hloose w := by
  intro os
  kernel_rfl
theorem funD_fun {K : PySem.W.Frag} {x : Str} {st : Stmt} {f : Addr} {fd : FuncData} (F : FunD K x x (defArgs st) (defBody st) (defScope st) [] [] f fd) : Fun K x x st f fd := by
  obtain ⟨oc, od, dV, kV, doc, pm, an, cdv, ct, osl, e, lk, hc, hd, _⟩ := F.ex
  have e2 : dV = .none := by
    rcases hd with ⟨_, h⟩ | ⟨h, _⟩
    · exact h
    · exact absurd rfl h
  subst e2
  exact ⟨⟨oc, od, kV, doc, pm, an, cdv, ct, osl, e, lk, hc⟩, F.kp⟩
section
variable {K : PySem.W.Frag} {h : Heap} {mg : Str → Option Value}
theorem hdef (X : K.In h) (G : h.Ns mainGlobals mg) (c : He.SaysD hfa hfn K) {d : He.DefD} {x : Str} {st : Stmt} (hm : d ∈ hfn) (hg : He.Fa.glo x ∈ hfa) (e : d = ⟨(x, none), x, x, defArgs st, defBody st, defScope st, [], []⟩) : DefT K mg x st := by
  obtain ⟨fd, F⟩ := c.defs hm
  subst e
  exact ⟨_, fd, He.glo_ok X G (c.facts hg), funD_fun F⟩
theorem hfree (X : K.In h) (G : h.Ns mainGlobals mg) (c : He.SaysD hfa hfn K) {x : Str} (hg : He.Fa.free x ∈ hfa) : mg x = none := He.free_ok X G (c.facts hg)
theorem hexc0 (X : K.In h) (G : h.Ns mainGlobals mg) (c : He.SaysD hfa hfn K) {x : Str} (hg : He.Fa.glo x ∈ hfa) (he : He.Fa.exc x ∈ hfa) : Exc0 K mg x := by
  obtain ⟨h1, h2, h3, h4⟩ := He.exc_ok (c.facts he)
  exact ⟨_, He.glo_ok X G (c.facts hg), He.eqO_ok (c.facts hg), h1, h2, h3, h4⟩
theorem htx (X : K.In h) (G : h.Ns mainGlobals mg) (c : He.SaysD hfa hfn K) : Tx K mg where
  d__law_stream := hdef X G c (d := dd__law_stream) (List.mem_of_getElem? (i := 0) rfl) (List.mem_of_getElem? (i := 0) rfl) rfl
  d__law_same := hdef X G c (d := dd__law_same) (List.mem_of_getElem? (i := 1) rfl) (List.mem_of_getElem? (i := 1) rfl) rfl
  d__law_draw := hdef X G c (d := dd__law_draw) (List.mem_of_getElem? (i := 2) rfl) (List.mem_of_getElem? (i := 2) rfl) rfl
  d__law_mixed := hdef X G c (d := dd__law_mixed) (List.mem_of_getElem? (i := 3) rfl) (List.mem_of_getElem? (i := 3) rfl) rfl
  d__law_states := hdef X G c (d := dd__law_states) (List.mem_of_getElem? (i := 4) rfl) (List.mem_of_getElem? (i := 4) rfl) rfl
  d__law_row := hdef X G c (d := dd__law_row) (List.mem_of_getElem? (i := 5) rfl) (List.mem_of_getElem? (i := 5) rfl) rfl
  d_is_one := hdef X G c (d := dd_is_one) (List.mem_of_getElem? (i := 6) rfl) (List.mem_of_getElem? (i := 6) rfl) rfl
  d_heeds_of := hdef X G c (d := dd_heeds_of) (List.mem_of_getElem? (i := 7) rfl) (List.mem_of_getElem? (i := 7) rfl) rfl
  d_states_of := hdef X G c (d := dd_states_of) (List.mem_of_getElem? (i := 8) rfl) (List.mem_of_getElem? (i := 8) rfl) rfl
  d_at_value := hdef X G c (d := dd_at_value) (List.mem_of_getElem? (i := 9) rfl) (List.mem_of_getElem? (i := 9) rfl) rfl
  d_deciding_by := hdef X G c (d := dd_deciding_by) (List.mem_of_getElem? (i := 10) rfl) (List.mem_of_getElem? (i := 10) rfl) rfl
  d_peeled := hdef X G c (d := dd_peeled) (List.mem_of_getElem? (i := 11) rfl) (List.mem_of_getElem? (i := 11) rfl) rfl
  d_is_list := hdef X G c (d := dd_is_list) (List.mem_of_getElem? (i := 12) rfl) (List.mem_of_getElem? (i := 12) rfl) rfl
  d_is_row := hdef X G c (d := dd_is_row) (List.mem_of_getElem? (i := 13) rfl) (List.mem_of_getElem? (i := 13) rfl) rfl
  d_is_whole := hdef X G c (d := dd_is_whole) (List.mem_of_getElem? (i := 14) rfl) (List.mem_of_getElem? (i := 14) rfl) rfl
  d_is_number := hdef X G c (d := dd_is_number) (List.mem_of_getElem? (i := 15) rfl) (List.mem_of_getElem? (i := 15) rfl) rfl
  d_is_below := hdef X G c (d := dd_is_below) (List.mem_of_getElem? (i := 16) rfl) (List.mem_of_getElem? (i := 16) rfl) rfl
  d_kept_values := hdef X G c (d := dd_kept_values) (List.mem_of_getElem? (i := 17) rfl) (List.mem_of_getElem? (i := 17) rfl) rfl
  d_kept_row := hdef X G c (d := dd_kept_row) (List.mem_of_getElem? (i := 18) rfl) (List.mem_of_getElem? (i := 18) rfl) rfl
  d_need_row := hdef X G c (d := dd_need_row) (List.mem_of_getElem? (i := 19) rfl) (List.mem_of_getElem? (i := 19) rfl) rfl
  d_nested_or_stuck := hdef X G c (d := dd_nested_or_stuck) (List.mem_of_getElem? (i := 20) rfl) (List.mem_of_getElem? (i := 20) rfl) rfl
  d__law_copied := hdef X G c (d := dd__law_copied) (List.mem_of_getElem? (i := 21) rfl) (List.mem_of_getElem? (i := 21) rfl) rfl
  d__law_spoilt := hdef X G c (d := dd__law_spoilt) (List.mem_of_getElem? (i := 22) rfl) (List.mem_of_getElem? (i := 22) rfl) rfl
  d_deciding := hdef X G c (d := dd_deciding) (List.mem_of_getElem? (i := 23) rfl) (List.mem_of_getElem? (i := 23) rfl) rfl
  d_layer_of := hdef X G c (d := dd_layer_of) (List.mem_of_getElem? (i := 24) rfl) (List.mem_of_getElem? (i := 24) rfl) rfl
  d_layers := hdef X G c (d := dd_layers) (List.mem_of_getElem? (i := 25) rfl) (List.mem_of_getElem? (i := 25) rfl) rfl
  d__law_loose := hdef X G c (d := dd__law_loose) (List.mem_of_getElem? (i := 26) rfl) (List.mem_of_getElem? (i := 26) rfl) rfl
  d__law_at := hdef X G c (d := dd__law_at) (List.mem_of_getElem? (i := 27) rfl) (List.mem_of_getElem? (i := 27) rfl) rfl
  d__law_deciding := hdef X G c (d := dd__law_deciding) (List.mem_of_getElem? (i := 28) rfl) (List.mem_of_getElem? (i := 28) rfl) rfl
  d__law_peel := hdef X G c (d := dd__law_peel) (List.mem_of_getElem? (i := 29) rfl) (List.mem_of_getElem? (i := 29) rfl) rfl
  d__law_twice := hdef X G c (d := dd__law_twice) (List.mem_of_getElem? (i := 30) rfl) (List.mem_of_getElem? (i := 30) rfl) rfl
  d__law_is_number := hdef X G c (d := dd__law_is_number) (List.mem_of_getElem? (i := 31) rfl) (List.mem_of_getElem? (i := 31) rfl) rfl
  d__law_is_peeling := hdef X G c (d := dd__law_is_peeling) (List.mem_of_getElem? (i := 32) rfl) (List.mem_of_getElem? (i := 32) rfl) rfl
  d__law_pick := hdef X G c (d := dd__law_pick) (List.mem_of_getElem? (i := 33) rfl) (List.mem_of_getElem? (i := 33) rfl) rfl
  d__law_bent := hdef X G c (d := dd__law_bent) (List.mem_of_getElem? (i := 34) rfl) (List.mem_of_getElem? (i := 34) rfl) rfl
  d_lessened := hdef X G c (d := dd_lessened) (List.mem_of_getElem? (i := 35) rfl) (List.mem_of_getElem? (i := 35) rfl) rfl
  d__law_met := hdef X G c (d := dd__law_met) (List.mem_of_getElem? (i := 36) rfl) (List.mem_of_getElem? (i := 36) rfl) rfl
  d_is_step := hdef X G c (d := dd_is_step) (List.mem_of_getElem? (i := 37) rfl) (List.mem_of_getElem? (i := 37) rfl) rfl
  d_is_peeling := hdef X G c (d := dd_is_peeling) (List.mem_of_getElem? (i := 38) rfl) (List.mem_of_getElem? (i := 38) rfl) rfl
  n_abs := hfree X G c (List.mem_of_getElem? (i := 40) rfl)
  n_all := hfree X G c (List.mem_of_getElem? (i := 41) rfl)
  n_bool := hfree X G c (List.mem_of_getElem? (i := 42) rfl)
  n_dict := hfree X G c (List.mem_of_getElem? (i := 43) rfl)
  n_enumerate := hfree X G c (List.mem_of_getElem? (i := 44) rfl)
  n_int := hfree X G c (List.mem_of_getElem? (i := 45) rfl)
  n_isinstance := hfree X G c (List.mem_of_getElem? (i := 46) rfl)
  n_len := hfree X G c (List.mem_of_getElem? (i := 47) rfl)
  n_list := hfree X G c (List.mem_of_getElem? (i := 48) rfl)
  n_range := hfree X G c (List.mem_of_getElem? (i := 49) rfl)
  n_str := hfree X G c (List.mem_of_getElem? (i := 50) rfl)
  n_tuple := hfree X G c (List.mem_of_getElem? (i := 51) rfl)
  n_zip := hfree X G c (List.mem_of_getElem? (i := 52) rfl)
  e_NotNested := hexc0 X G c (List.mem_of_getElem? (i := 53) rfl) (List.mem_of_getElem? (i := 54) rfl)
  x_NotNested := ⟨_, He.glo_ok X G (c.facts (List.mem_of_getElem? (i := 53) rfl)), He.eqO_ok (c.facts (List.mem_of_getElem? (i := 53) rfl)), fun y h => by cases h⟩
  exms := fun x hx => by
    have hx2 : x ∈ [("NotNested" : Str)] := hx
    simp only [List.mem_cons, List.not_mem_nil, or_false] at hx2
    subst hx2
    · refine ⟨_, He.eqO_ok (c.facts (List.mem_of_getElem? (i := 53) rfl)), fun y hy C' hC => ?_⟩
      have hy2 : y ∈ [("NotNested" : Str)] := hy
      simp only [List.mem_cons, List.not_mem_nil, or_false] at hy2
      subst hy2
      · have e := He.eqO_ok (c.facts (f := .glo "NotNested") (List.mem_of_getElem? (i := 53) rfl))
        rw [e] at hC
        cases hC
        exact (He.exm_ok (c.facts (f := .exm "NotNested" "NotNested" true) (List.mem_of_getElem? (i := 55) rfl))).trans (by decide +kernel)
end
theorem hfacts {w : World} {h : Heap} {K : PySem.W.Frag} {mg : Str → Option Value} {fa : Addr} (X : K.In h) (G : h.Ns mainGlobals mg) (hfa' : mg ("law" : Str) = some (.ref fa)) (c : He.SaysX hfa hfn [] htf (fun _ => true) w h K) :
    LamX.LawAtS PySem.Challenge.rw_switchrests_k94_whole_deciding_heeds w K CX0 15 63 "script" mg fa h := by
  have cd := c.t.d
  obtain ⟨fd, F⟩ := cd.defs (d := dd_law) (List.mem_of_getElem? (i := 39) rfl)
  have eg := He.glo_ok X G (cd.facts (f := .glo "law") (List.mem_of_getElem? (i := 39) rfl))
  have e := hfa'.symm.trans eg
  have ef : fa = He.ga K "law" := by injection e with e; injection e
  subst ef
  obtain ⟨oc, od, dV, kV, doc, pm, an, cdv, ct, osl, e1, lk, hc, hd, _⟩ := F.ex
  have e2 : dV = .none := by
    rcases hd with ⟨_, h⟩ | ⟨h, _⟩
    · exact h
    · exact absurd rfl h
  subst e2
  obtain ⟨cc, ecc⟩ := He.codeIn_ref hc
  subst ecc e1
  have e3 : He.codeOf K ("law", none) = cc := He.codeOf_eq lk rfl
  have hp : (("law", none) : He.Defn) ∈ htf := List.mem_singleton.mpr rfl
  have ecT : (He.cT K ("law", none)).1 = cc := e3
  have q1 := c.hd _ hp
  have q2 := c.out _ hp
  have q3 := c.empty _ hp
  generalize hPt : (He.cT K ("law", none)).2 = Pt at q1 q2 q3
  rw [ecT] at q1
  letI : TabsC := ⟨[(Pt, QL)]⟩
  refine ⟨PySem.W.fnOf "law" "law" (defArgs s_law) (defBody s_law) (defScope s_law) .none kV doc pm an (.ref cc) ct, [(cc, Pt)], spLaw K, ?_, ?_, ?_, ?_, ?_, ?_⟩
  · intro p hp
    rw [List.mem_singleton.mp hp]; exact q3
  · intro p hp
    rw [List.mem_singleton.mp hp]; exact q2
  · intro p hp
    rw [List.mem_singleton.mp hp]; exact PySem.W.codeHd_of_K X q1
  · exact fun s u => .of_eq rfl
  · intro H a ns hl _ hT hS
    refine ⟨a, ns, rfl, hS, hl, fun p hp => ?_, fun _ => rfl⟩
    rw [show p = (Pt, QL) from List.mem_singleton.mp hp]
    exact LamX.TabS.nil (hT (cc, Pt) (List.mem_singleton.mpr rfl))
  · intro base KB GB TB
    have T := htx (K := K) KB GB cd
    exact ok_law T lk hc (TB (cc, Pt) (List.mem_singleton.mpr rfl)) (List.mem_singleton.mpr rfl) (fun p hp _ => by rw [show p = (Pt, QL) from List.mem_singleton.mp hp]) law_all.h
end D94
open PySem PySem.W PySem.Calls PyProof.Rows
set_option maxRecDepth 100000 in
set_option maxHeartbeats 0 in
theorem PySem.Challenge.cw_switchrests_k94_whole_deciding_heeds_holds : PySem.Challenge.rw_switchrests_k94_whole_deciding_heeds.Holds := by
  w_on; o_law
  refine HandSHeadRun.head_any (r := OpenLaw.row PySem.Challenge.rw_switchrests_k94_whole_deciding_heeds) (q := view (OpenLaw.row PySem.Challenge.rw_switchrests_k94_whole_deciding_heeds).prog [50]) (H := D94.hkk) (ob := D94.hob) (M := 3000) (loose := D94.hloose) (d := HandSHeadRun.topDef (OpenLaw.row PySem.Challenge.rw_switchrests_k94_whole_deciding_heeds).prog 50) (kwd := []) D94.hob_eq
    (by kernel_rfl) (fun s => by kernel_rfl) D94.hrun (by kernel_rfl) (by kernel_rfl) (by kernel_rfl) (by rfl) (by first | assumption | decide +kernel) (by decide +kernel) ⟨rfl, rfl, rfl, rfl, rfl, by decide +kernel⟩ ?hw ?hc
  case hw => w_witness2
  case hc =>
    refine LamX.walk_ofTsE (l := PySem.Challenge.rw_switchrests_k94_whole_deciding_heeds) (n := 63) (k := 15) (x := "script") (CX := fun _ => L2.CX0) rfl (by decide) (by kernel_rfl) ⟨rfl, by decide, by decide⟩ ?F (fun _ _ _ _ _ z => z)
    intro w mg fa h Y G hmg0
    obtain ⟨K, KX, c⟩ := Y
    have hmg : mg ("law" : PySem.Str) = some (.ref fa) := by
      have e : (HandSHeadRun.topDef (OpenLaw.row PySem.Challenge.rw_switchrests_k94_whole_deciding_heeds).prog 50).name = ("law" : PySem.Str) := by kernel_rfl
      rw [← e]
      exact hmg0
    exact ⟨K, KX, D94.hfacts KX G hmg c⟩
