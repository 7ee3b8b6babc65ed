import PyProof.Rows.All
import Wide.All
import OpenK.AllK
import Wide.FinOn
import HandS.ForMost
import HandS.Exc
import HandS.TryOnly
import HandS.ExcOwn
import HandS.WordsExc
import HandS.Wide
import HandS.IsInst
import HandS.Deep
import HandS.ExcCtx
import HandS.HotCalls
import HandS.ExcIs
import HandS.TupAny
import HandS.TupMul
import HandS.Rev
import HandS.Dict
import HandS.Conv
import HandS.SortInts
import KE.KDictPairs
import HandS.More
import KE.DataMinMax
import HandS.MapObj
import HandS.Ends
import HandS.Text
import HandS.CallSlots
import HandS.SuiteRaise
import PySem.Challenge.RW_wheeltrain_k14_texts
set_option Elab.async false
set_option linter.all false
set_option maxRecDepth 100000
set_option maxHeartbeats 4000000
/-! By-value layer: what a piece of the text makes of plain data, over the hand layer. -/
namespace BV
open PySem PySem.Spec PyProof.Rows L2

abbrev D := PyData
/-- what a slot, or an expression, holds -/
inductive Sl where
  | no
  /-- data that nobody changes any more -/
  | fz (d : D)
  /-- a list handed in from outside -/
  | br (ds : List D)
  /-- a look at a list that a slot owns -/
  | vw (ds : List D)
  /-- a list of this def's own -/
  | ow (ds : List D)
  /-- the script -/
  | scr (ns : List Int)
  /-- a dict of this def's own, by ints; by tuples of ints -/
  | di (kvs : List (Int × D))
  | dt (kvs : List (List Int × D))
  /-- data whose lists are all one's own; a look at such -/
  | og (d : D)
  | vg (d : D)
  /-- an error that was caught -/
  | exo (c : Str)
abbrev Rho := List Sl
inductive Rs (α : Type) where
  | ok (a : α)
  | exc (c : Str)
  | bad
def Rs.bind {α β : Type} (r : Rs α) (k : α → Rs β) : Rs β := match r with
  | .ok a => k a
  | .exc c => .exc c
  | .bad => .bad
@[simp] theorem Rs.bind_ok {α β : Type} (a : α) (k : α → Rs β) : Rs.bind (.ok a) k = k a := rfl
@[simp] theorem Rs.bind_exc {α β : Type} (c : Str) (k : α → Rs β) : Rs.bind (.exc c) k = .exc c := rfl
@[simp] theorem Rs.bind_bad {α β : Type} (k : α → Rs β) : Rs.bind .bad k = .bad := rfl

def Ex (H H' : Hp) : Prop := ∀ a o, H a = some o → H' a = some o
theorem Ex.refl (H : Hp) : Ex H H := fun _ _ h => h
theorem Ex.trans {H H1 H2 : Hp} (a : Ex H H1) (b : Ex H1 H2) : Ex H H2 := fun x o h => b x o (a x o h)
theorem Ex.new {H : Hp} {p : Addr} {o : HO} (h : H p = none) : Ex H (upd H p o) := fun a u e => by
  rw [upd_ne (ne_of_none e h)]
  exact e
theorem Ex.back {H H' : Hp} {p : Addr} (e : Ex H H') (h : H' p = none) : H p = none := by
  cases h1 : H p with
  | none => rfl
  | some o => rw [e p o h1] at h; cases h
theorem Ex.upd {F H : Hp} {p : Addr} {o : HO} (e : Ex F H) : Ex (L2.upd F p o) (L2.upd H p o) := fun a u h => by
  by_cases hp : a = p
  · subst hp; rw [upd_same] at h ⊢; exact h
  · rw [upd_ne hp] at h ⊢; exact e a u h

mutual
inductive Rp (F : Hp) : V → D → Prop
  | non : Rp F .non .none
  | bl (b : Bool) : Rp F (.bl b) (.bool b)
  | int (i : Int) : Rp F (.int i) (.int i)
  | str (x : Str) : Rp F (.str x) (.str x)
  | lst {a : Addr} {xs : List V} {ds : List D} : F a = some (.lst xs) → RpAll F xs ds → Rp F (.ref a) (.list ds)
  | tup {a : Addr} {xs : List V} {ds : List D} : F a = some (.tup xs) → RpAll F xs ds → Rp F (.ref a) (.tuple ds)
  | dict0 {a : Addr} : F a = some (.dK []) → Rp F (.ref a) (.dict [])
inductive RpAll (F : Hp) : List V → List D → Prop
  | nil : RpAll F [] []
  | cons {v : V} {vs : List V} {d : D} {ds : List D} : Rp F v d → RpAll F vs ds → RpAll F (v :: vs) (d :: ds)
end
mutual
theorem Rp.mono {F F' : Hp} (e : Ex F F') : ∀ {d : D} {v : V}, Rp F v d → Rp F' v d
  | .none, _, h => by cases h; exact .non
  | .bool _, _, h => by cases h; exact .bl _
  | .int _, _, h => by cases h; exact .int _
  | .str _, _, h => by cases h; exact .str _
  | .list ds, _, h => by
    cases h with
    | lst h1 h2 => exact .lst (e _ _ h1) (RpAll.mono e h2)
  | .tuple ds, _, h => by
    cases h with
    | tup h1 h2 => exact .tup (e _ _ h1) (RpAll.mono e h2)
  | .dict _, _, h => by
    cases h with
    | dict0 h1 => exact .dict0 (e _ _ h1)
theorem RpAll.mono {F F' : Hp} (e : Ex F F') : ∀ {ds : List D} {vs : List V}, RpAll F vs ds → RpAll F' vs ds
  | [], _, h => by cases h; exact .nil
  | d :: ds, _, h => by
    cases h with
    | cons h1 h2 => exact .cons (Rp.mono e h1) (RpAll.mono e h2)
end
mutual
theorem Rp.dp {K : PySem.W.Frag} {F : Hp} : ∀ {d : D} {v : V}, PyData.canLay0 d = true → Rp F v d → Dp K F v d
  | .none, _, _, h => by cases h; exact .non
  | .bool _, _, _, h => by cases h; exact .bl _
  | .int _, _, _, h => by cases h; exact .int _
  | .str _, _, _, h => by cases h; exact .str _
  | .list ds, _, c, h => by
    unfold PyData.canLay0 at c
    cases h with
    | lst h1 h2 => exact .lst (.inl (.inl h1)) (RpAll.dp c h2)
  | .tuple ds, _, c, h => by
    unfold PyData.canLay0 at c
    cases h with
    | tup h1 h2 => exact .tup (.inl (.inl h1)) (RpAll.dp c h2)
  | .dict _, _, c, h => by
    unfold PyData.canLay0 at c
    cases c
theorem RpAll.dp {K : PySem.W.Frag} {F : Hp} : ∀ {ds : List D} {vs : List V}, PyData.canLayAll0 ds = true → RpAll F vs ds → DpAll K F vs ds
  | [], _, _, h => by cases h; exact .nil
  | d :: ds, _, c, h => by
    unfold PyData.canLayAll0 at c
    rw [Bool.and_eq_true] at c
    cases h with
    | cons h1 h2 => exact .cons (Rp.dp c.1 h1) (RpAll.dp c.2 h2)
end
theorem Rp.dpS {K : PySem.W.Frag} {F : Hp} {d : D} {v : V} (h : Rp F v d) (c : SeqAt.shaped d = true) : Dp K F v d := Rp.dp (SeqAt.canLay_of_shaped c) h
theorem RpAll.dpS {K : PySem.W.Frag} {F : Hp} {ds : List D} {vs : List V} (h : RpAll F vs ds) (c : SeqAt.shaped (.list ds) = true) : DpAll K F vs ds := RpAll.dp (by
  have := SeqAt.canLay_of_shaped c
  unfold PyData.canLay0 at this
  exact this) h
section
variable {F : Hp} {vs ws : List V} {ds es : List D}
theorem RpAll.length : ∀ {vs : List V} {ds : List D}, RpAll F vs ds → vs.length = ds.length
  | _, _, .nil => rfl
  | _, _, .cons _ h => by simp [RpAll.length h]
theorem RpAll.get : ∀ {vs : List V} {ds : List D} {i : Nat} {d : D}, RpAll F vs ds → ds[i]? = some d → ∃ v, vs[i]? = some v ∧ Rp F v d
  | _, _, _, _, .nil, h => by simp at h
  | _, _, 0, _, .cons h _, e => by simp at e; subst e; exact ⟨_, rfl, h⟩
  | _, _, i + 1, _, .cons _ h, e => by
    obtain ⟨v, h1, h2⟩ := RpAll.get (i := i) h (by simpa using e)
    exact ⟨v, by simpa using h1, h2⟩
theorem RpAll.getV : ∀ {vs : List V} {ds : List D} {i : Nat} {v : V}, RpAll F vs ds → vs[i]? = some v → ∃ d, ds[i]? = some d ∧ Rp F v d
  | _, _, _, _, .nil, h => by simp at h
  | _, _, 0, _, .cons h _, e => by simp at e; subst e; exact ⟨_, rfl, h⟩
  | _, _, i + 1, _, .cons _ h, e => by
    obtain ⟨v, h1, h2⟩ := RpAll.getV (i := i) h (by simpa using e)
    exact ⟨v, by simpa using h1, h2⟩
theorem RpAll.append : ∀ {vs ws : List V} {ds es : List D}, RpAll F vs ds → RpAll F ws es → RpAll F (vs ++ ws) (ds ++ es)
  | _, _, _, _, .nil, h => h
  | _, _, _, _, .cons h t, k => .cons h (RpAll.append t k)
theorem RpAll.take : ∀ {vs : List V} {ds : List D} (n : Nat), RpAll F vs ds → RpAll F (vs.take n) (ds.take n)
  | _, _, 0, _ => .nil
  | _, _, _ + 1, .nil => .nil
  | _, _, n + 1, .cons h t => .cons h (RpAll.take n t)
theorem RpAll.drop : ∀ {vs : List V} {ds : List D} (n : Nat), RpAll F vs ds → RpAll F (vs.drop n) (ds.drop n)
  | _, _, 0, h => h
  | _, _, _ + 1, .nil => .nil
  | _, _, n + 1, .cons _ t => RpAll.drop n t
theorem RpAll.set {v : V} {d : D} (r : Rp F v d) : ∀ {vs : List V} {ds : List D} (i : Nat), RpAll F vs ds → RpAll F (vs.set i v) (ds.set i d)
  | _, _, _, .nil => .nil
  | _, _, 0, .cons _ t => .cons r t
  | _, _, i + 1, .cons h t => .cons h (RpAll.set r i t)
theorem RpAll.rev : ∀ {vs : List V} {ds : List D}, RpAll F vs ds → RpAll F vs.reverse ds.reverse
  | _, _, .nil => .nil
  | _, _, .cons h t => by
    rw [List.reverse_cons, List.reverse_cons]
    exact RpAll.append (RpAll.rev t) (.cons h .nil)
theorem RpAll.ints : ∀ (ns : List Int), RpAll F (ns.map V.int) (ns.map PyData.int)
  | [] => .nil
  | n :: ns => .cons (.int n) (RpAll.ints ns)
end

structure Bs where
  F0 : Hp
  H0 : Hp
/-- a tuple of whole numbers: nobody changes it -/
def IT (o : HO) : Prop := ∃ ks : List Int, o = .tup (ks.map V.int)
structure Grow (F H F' H' : Hp) : Prop where
  exF : Ex F F'
  exH : Ex H H'
  sub : Ex F' H'
  news : ∀ a o, F' a = some o → F a = some o ∨ H a = none ∨ (IT o ∧ H a = some o)
theorem Grow.refl {F H : Hp} (h : Ex F H) : Grow F H F H := ⟨Ex.refl F, Ex.refl H, h, fun _ _ e => .inl e⟩
theorem Grow.trans {F H F1 H1 F2 H2 : Hp} (a : Grow F H F1 H1) (b : Grow F1 H1 F2 H2) : Grow F H F2 H2 := ⟨a.exF.trans b.exF, a.exH.trans b.exH, b.sub, fun x o e => by
  rcases b.news x o e with h | h | ⟨h, h2⟩
  · exact a.news x o h
  · exact .inr (.inl (a.exH.back h))
  · cases e2 : H x with
    | none => exact .inr (.inl rfl)
    | some u =>
      have := a.exH x u e2
      rw [h2] at this
      cases this
      exact .inr (.inr ⟨h, rfl⟩)⟩
/-- a new object that is known from then on -/
theorem Grow.laid {F H : Hp} {p : Addr} {o : HO} (s : Ex F H) (h : H p = none) : Grow F H (upd F p o) (upd H p o) := ⟨Ex.new (s.back h), Ex.new h, s.upd, fun a u e => by
  by_cases hp : a = p
  · subst hp; exact .inr (.inl h)
  · rw [upd_ne hp] at e; exact .inl e⟩
/-- a new object that may change -/
theorem Grow.own {F H : Hp} {p : Addr} {o : HO} (s : Ex F H) (h : H p = none) : Grow F H F (upd H p o) := ⟨Ex.refl F, Ex.new h, s.trans (Ex.new h), fun _ _ e => .inl e⟩

abbrev KRp (F : Hp) : List (Key × V) → List (Int × D) → Prop := Paired fun p q => p.1 = Sum.inl q.1 ∧ Rp F p.2 q.2
abbrev TRp (F : Hp) : List (List Key × V) → List (List Int × D) → Prop := Paired fun p q => p.1 = q.1.map Sum.inl ∧ Rp F p.2 q.2
theorem KRp.mono {F F' : Hp} (e : Ex F F') {ks : List (Key × V)} {kvs : List (Int × D)} (h : KRp F ks kvs) : KRp F' ks kvs := Paired.mapP h fun _ _ z => ⟨z.1, z.2.mono e⟩
theorem TRp.mono {F F' : Hp} (e : Ex F F') {ks : List (List Key × V)} {kvs : List (List Int × D)} (h : TRp F ks kvs) : TRp F' ks kvs := Paired.mapP h fun _ _ z => ⟨z.1, z.2.mono e⟩
theorem none_grow {F H F' H' : Hp} {p : Addr} {o : HO} (g1 : ∀ a u, F' a = some u → F a = some u ∨ H a = none ∨ (IT u ∧ H a = some u)) (f : F p = none) (h : H p = some o) (nt : ¬ IT o := by rintro ⟨_, z⟩; cases z) : F' p = none := by
  cases z : F' p with
  | none => rfl
  | some o =>
    rcases g1 p o z with y | y | ⟨y, y2⟩
    · rw [f] at y; cases y
    · rw [h] at y; cases y
    · rw [h] at y2; cases y2; exact absurd y nt

/-! ### data whose lists are all one's own -/
mutual
def lf : D → Bool
  | .list _ => false
  | .dict _ => false
  | .tuple ds => lfAll ds
  | .none => true
  | .bool _ => true
  | .int _ => true
  | .str _ => true
def lfAll : List D → Bool
  | [] => true
  | d :: ds => lf d && lfAll ds
end
mutual
inductive Og (F H : Hp) : V → List Addr → D → Prop
  | leaf {v : V} {d : D} : lf d = true → Rp F v d → Og F H v [] d
  | lst {p : Addr} {xs : List V} {A : List Addr} {ds : List D} : F p = none → H p = some (.lst xs) → p ∉ A → OgAll F H xs A ds → Og F H (.ref p) (p :: A) (.list ds)
  | tup {p : Addr} {xs : List V} {A : List Addr} {ds : List D} : lf (.tuple ds) = false → F p = none → H p = some (.tup xs) → p ∉ A → OgAll F H xs A ds → Og F H (.ref p) (p :: A) (.tuple ds)
inductive OgAll (F H : Hp) : List V → List Addr → List D → Prop
  | nil : OgAll F H [] [] []
  | cons {v : V} {vs : List V} {A A' : List Addr} {d : D} {ds : List D} : Og F H v A d → OgAll F H vs A' ds → (∀ a ∈ A, a ∉ A') → OgAll F H (v :: vs) (A ++ A') (d :: ds)
end
theorem og_intsLf {F H : Hp} : ∀ {ks : List Int} {A : List Addr} {ds : List D}, OgAll F H (ks.map V.int) A ds → lfAll ds = true
  | [], _, _, h => by
    rw [List.map_nil] at h
    cases h
    rfl
  | k :: ks, _, _, h => by
    rw [List.map_cons] at h
    cases h with
    | cons h1 h2 _ =>
      unfold lfAll
      rw [og_intsLf h2]
      cases h1 with
      | leaf l _ => rw [l]; rfl
theorem not_it {F H : Hp} {xs : List V} {A : List Addr} {ds : List D} (l : lf (.tuple ds) = false) (r : OgAll F H xs A ds) : ¬ IT (.tup xs) := by
  rintro ⟨ks, z⟩
  cases z
  have : lfAll ds = false := by unfold lf at l; exact l
  rw [og_intsLf r] at this
  cases this
mutual
theorem Og.known {F H : Hp} : ∀ {v : V} {A : List Addr} {d : D}, Og F H v A d → ∀ a ∈ A, F a = none ∧ ∃ o, H a = some o ∧ ¬ IT o
  | _, _, _, .leaf _ _, a, h => by cases h
  | _, _, _, .lst f h _ r, a, ha => by
    rcases List.mem_cons.mp ha with rfl | ha
    · exact ⟨f, _, h, by rintro ⟨_, z⟩; cases z⟩
    · exact OgAll.known r a ha
  | _, _, _, .tup l f h _ r, a, ha => by
    rcases List.mem_cons.mp ha with rfl | ha
    · exact ⟨f, _, h, not_it l r⟩
    · exact OgAll.known r a ha
theorem OgAll.known {F H : Hp} : ∀ {vs : List V} {A : List Addr} {ds : List D}, OgAll F H vs A ds → ∀ a ∈ A, F a = none ∧ ∃ o, H a = some o ∧ ¬ IT o
  | _, _, _, .nil, a, h => by cases h
  | _, _, _, .cons h t _, a, ha => by
    rcases List.mem_append.mp ha with ha | ha
    · exact Og.known h a ha
    · exact OgAll.known t a ha
end
mutual
/-- .. in another heap that has the same of it -/
theorem Og.move {F H F' H' : Hp} (e : Ex F F') : ∀ {v : V} {A : List Addr} {d : D}, Og F H v A d → (∀ a ∈ A, F' a = none) → (∀ a ∈ A, ∀ o, H a = some o → H' a = some o) → Og F' H' v A d
  | _, _, _, .leaf l r, _, _ => .leaf l (r.mono e)
  | _, _, _, .lst f h n r, f1, h1 => .lst (f1 _ (List.mem_cons_self ..)) (h1 _ (List.mem_cons_self ..) _ h) n (OgAll.move e r (fun a ha => f1 a (List.mem_cons_of_mem _ ha)) fun a ha => h1 a (List.mem_cons_of_mem _ ha))
  | _, _, _, .tup l f h n r, f1, h1 => .tup l (f1 _ (List.mem_cons_self ..)) (h1 _ (List.mem_cons_self ..) _ h) n (OgAll.move e r (fun a ha => f1 a (List.mem_cons_of_mem _ ha)) fun a ha => h1 a (List.mem_cons_of_mem _ ha))
theorem OgAll.move {F H F' H' : Hp} (e : Ex F F') : ∀ {vs : List V} {A : List Addr} {ds : List D}, OgAll F H vs A ds → (∀ a ∈ A, F' a = none) → (∀ a ∈ A, ∀ o, H a = some o → H' a = some o) → OgAll F' H' vs A ds
  | _, _, _, .nil, _, _ => .nil
  | _, _, _, .cons h t n, f1, h1 => .cons (Og.move e h (fun a ha => f1 a (List.mem_append_left _ ha)) fun a ha => h1 a (List.mem_append_left _ ha)) (OgAll.move e t (fun a ha => f1 a (List.mem_append_right _ ha)) fun a ha => h1 a (List.mem_append_right _ ha)) n
end
mutual
/-- nobody's from here on -/
theorem Og.fr {F H F' : Hp} (e : Ex F F') : ∀ {v : V} {A : List Addr} {d : D}, Og F H v A d → (∀ a ∈ A, F' a = H a) → Rp F' v d
  | _, _, _, .leaf l r, _ => r.mono e
  | _, _, _, .lst f h n r, f1 => .lst ((f1 _ (List.mem_cons_self ..)).trans h) (OgAll.fr e r fun a ha => f1 a (List.mem_cons_of_mem _ ha))
  | _, _, _, .tup l f h n r, f1 => .tup ((f1 _ (List.mem_cons_self ..)).trans h) (OgAll.fr e r fun a ha => f1 a (List.mem_cons_of_mem _ ha))
theorem OgAll.fr {F H F' : Hp} (e : Ex F F') : ∀ {vs : List V} {A : List Addr} {ds : List D}, OgAll F H vs A ds → (∀ a ∈ A, F' a = H a) → RpAll F' vs ds
  | _, _, _, .nil, _ => .nil
  | _, _, _, .cons h t n, f1 => .cons (Og.fr e h fun a ha => f1 a (List.mem_append_left _ ha)) (OgAll.fr e t fun a ha => f1 a (List.mem_append_right _ ha))
end
theorem OgAll.length {F H : Hp} : ∀ {vs : List V} {A : List Addr} {ds : List D}, OgAll F H vs A ds → vs.length = ds.length
  | _, _, _, .nil => rfl
  | _, _, _, .cons _ t _ => by simp [OgAll.length t]
theorem OgAll.get {F H : Hp} : ∀ {vs : List V} {A : List Addr} {ds : List D} {i : Nat} {d : D}, OgAll F H vs A ds → ds[i]? = some d → ∃ v A1, vs[i]? = some v ∧ Og F H v A1 d ∧ ∀ a ∈ A1, a ∈ A
  | _, _, _, _, _, .nil, h => by simp at h
  | _, _, _, 0, _, .cons h _ _, e => by simp at e; subst e; exact ⟨_, _, rfl, h, fun a ha => List.mem_append_left _ ha⟩
  | _, _, _, i + 1, _, .cons _ t _, e => by
    obtain ⟨v, A1, h1, h2, h3⟩ := OgAll.get (i := i) t (by simpa using e)
    exact ⟨v, A1, by simpa using h1, h2, fun a ha => List.mem_append_right _ (h3 a ha)⟩
theorem Og.py {F H : Hp} (s : Ex F H) {v : V} {A : List Addr} {d : D} (h : Og F H v A d) : Rp H v d := Og.fr s h fun _ _ => rfl
/-- an error of the class named c -/
def ExOf (K : PySem.W.Frag) (c : Str) (oe : Obj) : Prop := ∃ C : Addr, PySem.W.nsIn K mainGlobals c = some (some (.ref C)) ∧ oe.cls = .ref C ∧ oe.dict = none ∧ ∃ vs, oe.data = .fields vs

def VRep (K : PySem.W.Frag) (B : Bs) (F H : Hp) (v : V) (A : List Addr) : Sl → Prop
  | .no => False
  | .fz d => A = [] ∧ Rp F v d
  | .br ds => A = [] ∧ ∃ p xs, v = .ref p ∧ B.H0 p = some (.lst xs) ∧ RpAll F xs ds
  | .vw ds => A = [] ∧ ∃ p xs, v = .ref p ∧ H p = some (.lst xs) ∧ RpAll F xs ds
  | .ow ds => ∃ p xs, v = .ref p ∧ A = [p] ∧ F p = none ∧ H p = some (.lst xs) ∧ RpAll F xs ds
  | .scr ns => A = [] ∧ ∃ p, v = .ref p ∧ SqL K B.H0 p (ns.map V.int)
  | .di kvs => ∃ p ks, v = .ref p ∧ A = [p] ∧ F p = none ∧ H p = some (.dK ks) ∧ KRp F ks kvs
  | .dt kvs => ∃ p ks, v = .ref p ∧ A = [p] ∧ F p = none ∧ H p = some (.dT ks) ∧ TRp F ks kvs
  | .og d => lf d = false ∧ Og F H v A d
  | .vg d => A = [] ∧ lf d = false ∧ ∃ A', Og F H v A' d
  | .exo c => A = [] ∧ ∃ a oe, v = .ref a ∧ B.H0 a = some (.ext fun h => h.get? a = some oe) ∧ ExOf K c oe
theorem sqL_mono {K : PySem.W.Frag} {H H' : Hp} {a : Addr} {xs : List V} (e : Ex H H') (h : SqL K H a xs) : SqL K H' a xs := Same.seq (fun b o q => e b o q) h
section
variable {K : PySem.W.Frag} {B : Bs} {F H F' H' : Hp} {v : V} {A : List Addr} {sl : Sl}
theorem VRep.grow (g : Grow F H F' H') (r : VRep K B F H v A sl) : VRep K B F' H' v A sl := by
  cases sl with
  | no => exact r
  | fz d => exact ⟨r.1, r.2.mono g.exF⟩
  | br ds => obtain ⟨a, p, xs, e, h, q⟩ := r; exact ⟨a, p, xs, e, h, q.mono g.exF⟩
  | vw ds => obtain ⟨a, p, xs, e, h, q⟩ := r; exact ⟨a, p, xs, e, g.exH _ _ h, q.mono g.exF⟩
  | ow ds =>
    obtain ⟨p, xs, e, a, f, h, q⟩ := r
    exact ⟨p, xs, e, a, none_grow (H' := H') g.news f h, g.exH _ _ h, q.mono g.exF⟩
  | scr ns => exact r
  | di ks =>
    obtain ⟨p, xs, e, a, f, h, q⟩ := r
    exact ⟨p, xs, e, a, none_grow (H' := H') g.news f h, g.exH _ _ h, q.mono g.exF⟩
  | dt ks =>
    obtain ⟨p, xs, e, a, f, h, q⟩ := r
    exact ⟨p, xs, e, a, none_grow (H' := H') g.news f h, g.exH _ _ h, q.mono g.exF⟩
  | og d => exact ⟨r.1, r.2.move g.exF (fun a ha => by
      obtain ⟨f, o, h, nt⟩ := r.2.known a ha
      exact none_grow (H' := H') g.news f h nt) fun a ha o h => g.exH _ _ h⟩
  | vg d =>
    obtain ⟨e, l, A', r⟩ := r
    exact ⟨e, l, A', r.move g.exF (fun a ha => by
      obtain ⟨f, o, h, nt⟩ := r.known a ha
      exact none_grow (H' := H') g.news f h nt) fun a ha o h => g.exH _ _ h⟩
  | exo c => exact r
theorem VRep.known (r : VRep K B F H v A sl) : ∀ a ∈ A, F a = none ∧ ∃ o, H a = some o ∧ ¬ IT o := fun a ha => by
  cases sl with
  | no => exact r.elim
  | fz d => rw [r.1] at ha; cases ha
  | br ds => rw [r.1] at ha; cases ha
  | vw ds => rw [r.1] at ha; cases ha
  | ow ds =>
    obtain ⟨p, xs, e, z, f, h, q⟩ := r
    rw [z] at ha
    cases ha with
    | head => exact ⟨f, _, h, by rintro ⟨_, z⟩; cases z⟩
    | tail _ h => cases h
  | scr ns => rw [r.1] at ha; cases ha
  | di ds =>
    obtain ⟨p, xs, e, z, f, h, q⟩ := r
    rw [z] at ha
    cases ha with
    | head => exact ⟨f, _, h, by rintro ⟨_, z⟩; cases z⟩
    | tail _ h => cases h
  | dt ds =>
    obtain ⟨p, xs, e, z, f, h, q⟩ := r
    rw [z] at ha
    cases ha with
    | head => exact ⟨f, _, h, by rintro ⟨_, z⟩; cases z⟩
    | tail _ h => cases h
  | og d => exact r.2.known a ha
  | vg d => rw [r.1] at ha; cases ha
  | exo d => rw [r.1] at ha; cases ha
end

def Sl.keeps : Sl → Bool
  | .no => false
  | .vw _ => false
  | .vg _ => false
  | _ => true
structure Rep (K : PySem.W.Frag) (B : Bs) (ρ : Rho) (σ : L2.St) (F H : Hp) : Prop where
  fp : ∃ fp : Nat → List Addr, (∀ i sl, ρ[i]? = some sl → sl = .no ∨ (sl.keeps = true ∧ ∃ v, σ[i]? = some (some v) ∧ VRep K B F H v (fp i) sl)) ∧ (∀ i j a, a ∈ fp i → a ∈ fp j → i = j) ∧ (∀ i a, a ∈ fp i → B.H0 a = none ∧ F a = none ∧ ∃ o, H a = some o ∧ ¬ IT o)
  gr : Grow B.F0 B.H0 F H
  len : ρ.length = σ.length
section
variable {K : PySem.W.Frag} {B : Bs} {ρ : Rho} {σ : L2.St} {F H F' H' : Hp} {v : V} {A : List Addr} {sl : Sl}
theorem Rep.grow (r : Rep K B ρ σ F H) (g : Grow F H F' H') : Rep K B ρ σ F' H' := by
  obtain ⟨⟨fp, h1, h2, h3⟩, gr, len⟩ := r
  refine ⟨⟨fp, fun i sl e => ?_, h2, fun i a ha => ?_⟩, gr.trans g, len⟩
  · rcases h1 i sl e with h | ⟨n, v, hv, r⟩
    · exact .inl h
    · exact .inr ⟨n, v, hv, r.grow g⟩
  · obtain ⟨a1, a2, o, a3, nt⟩ := h3 i a ha
    exact ⟨a1, none_grow (H' := H') g.news a2 a3 nt, o, g.exH _ _ a3, nt⟩
/-- a slot is set to a new value -/
theorem Rep.store (r : Rep K B ρ σ F H) (g : Grow F H F' H') (vr : VRep K B F' H' v A sl) (fr : ∀ a ∈ A, H a = none) (kp : sl.keeps = true) (i : Nat) : Rep K B (ρ.set i sl) (σ.set i (some v)) F' H' := by
  obtain ⟨⟨fp, k1, h2, k3⟩, gr0, len⟩ := r
  have h1 : ∀ i sl, ρ[i]? = some sl → sl = .no ∨ (sl.keeps = true ∧ ∃ v, σ[i]? = some (some v) ∧ VRep K B F' H' v (fp i) sl) := fun i sl e => by
    rcases k1 i sl e with h | ⟨n, v, hv, r⟩
    · exact .inl h
    · exact .inr ⟨n, v, hv, r.grow g⟩
  have h3 : ∀ i a, a ∈ fp i → B.H0 a = none ∧ F' a = none ∧ ∃ o, H' a = some o ∧ ¬ IT o := fun i a ha => by
    obtain ⟨a1, a2, o, a3, nt⟩ := k3 i a ha
    exact ⟨a1, none_grow (H' := H') g.news a2 a3 nt, o, g.exH _ _ a3, nt⟩
  have h4 : ∀ i a, a ∈ fp i → H a ≠ none := fun i a ha => by
    obtain ⟨_, _, o, a3, _⟩ := k3 i a ha
    rw [a3]
    exact fun z => nomatch z
  refine ⟨⟨fun k => if k = i then A else fp k, fun k s e => ?_, fun k j a hk hj => ?_, fun k a hk => ?_⟩, gr0.trans g, by simp [len]⟩
  · by_cases hk : k = i
    · subst hk
      have hl : k < ρ.length := by
        have := (List.getElem?_eq_some_iff.mp e).1
        simpa using this
      rw [List.getElem?_set_self hl] at e
      cases e
      refine .inr ⟨kp, v, ?_, ?_⟩
      · rw [List.getElem?_set_self (by omega)]
      · simp only [if_pos]; exact vr
    · rw [List.getElem?_set_ne (Ne.symm hk)] at e
      rcases h1 k s e with h | ⟨n, w, hv, r⟩
      · exact .inl h
      · refine .inr ⟨n, w, ?_, ?_⟩
        · rw [List.getElem?_set_ne (Ne.symm hk)]; exact hv
        · simp only [if_neg hk]; exact r
  · by_cases ek : k = i <;> by_cases ej : j = i
    · rw [ek, ej]
    · simp only [if_pos ek, if_neg ej] at hk hj
      exact absurd (fr a hk) (h4 j a hj)
    · simp only [if_neg ek, if_pos ej] at hk hj
      exact absurd (fr a hj) (h4 k a hk)
    · simp only [if_neg ek, if_neg ej] at hk hj
      exact h2 k j a hk hj
  · by_cases ek : k = i
    · simp only [if_pos ek] at hk
      obtain ⟨a2, a3⟩ := vr.known a hk
      refine ⟨?_, a2, a3⟩
      exact gr0.exH.back (fr a hk)
    · simp only [if_neg ek] at hk
      exact h3 k a hk
end
end BV
namespace BV
open PySem PySem.Spec PyProof.Rows L2

/-! ### what is wanted of an expression's outcome -/
abbrev EV := Rho → Rs Sl
abbrev MG := Str → Option Value
section
variable (K : PySem.W.Frag) (mg : MG) (W : WX) (B : Bs)
def Pst (σ : L2.St) (F H : Hp) (r : Rs Sl) (Q : VK) : Prop := match r with
  | .ok sl => ∀ v F' H' A, Grow F H F' H' → VRep K B F' H' v A sl → (∀ a ∈ A, H a = none) → Q v H'
  | .exc c => ∀ F' H', Grow F H F' H' → ∀ cls, mg c = some cls → W cls none σ H'
  | .bad => False
def PstT (σ : L2.St) (F H : Hp) (r : Rs Bool) (Q : Bool → Hp → Prop) : Prop := match r with
  | .ok b => ∀ F' H', Grow F H F' H' → Q b H'
  | .exc c => ∀ F' H', Grow F H F' H' → ∀ cls, mg c = some cls → W cls none σ H'
  | .bad => False
def ARs (F H : Hp) : List V → List Sl → Prop := Paired fun v sl => VRep K B F H v [] sl
def PstA (σ : L2.St) (F H : Hp) (r : Rs (List Sl)) (Q : List V → Hp → Prop) : Prop := match r with
  | .ok sls => ∀ vs F' H', Grow F H F' H' → ARs K B F' H' vs sls → Q vs H'
  | .exc c => ∀ F' H', Grow F H F' H' → ∀ cls, mg c = some cls → W cls none σ H'
  | .bad => False
end
section
variable {K : PySem.W.Frag} {mg : MG} {W : WX} {B : Bs} {σ : L2.St} {F H F1 H1 : Hp}
theorem Pst.grow {r : Rs Sl} {Q : VK} (g : Grow F H F1 H1) (h : Pst K mg W B σ F H r Q) : Pst K mg W B σ F1 H1 r Q := by
  cases r with
  | ok sl => exact fun v F' H' A g' vr fr => h v F' H' A (g.trans g') vr fun a ha => g.exH.back (fr a ha)
  | exc c => exact fun F' H' g' => h F' H' (g.trans g')
  | bad => exact h
theorem PstT.grow {r : Rs Bool} {Q : Bool → Hp → Prop} (g : Grow F H F1 H1) (h : PstT mg W σ F H r Q) : PstT mg W σ F1 H1 r Q := by
  cases r with
  | ok sl => exact fun F' H' g' => h F' H' (g.trans g')
  | exc c => exact fun F' H' g' => h F' H' (g.trans g')
  | bad => exact h
theorem PstA.grow {r : Rs (List Sl)} {Q : List V → Hp → Prop} (g : Grow F H F1 H1) (h : PstA K mg W B σ F H r Q) : PstA K mg W B σ F1 H1 r Q := by
  cases r with
  | ok sl => exact fun v F' H' g' vr => h v F' H' (g.trans g') vr
  | exc c => exact fun F' H' g' => h F' H' (g.trans g')
  | bad => exact h
/-- a piece of it first; then the rest, at any outcome kind -/
theorem Pst.then {α : Type} {r : Rs Sl} {k : Sl → Rs α} {G : Hp → Hp → Rs α → Prop} {Q : VK} (h : G F H (r.bind k)) (hx : ∀ c F0 H0, G F0 H0 (.exc c) → ∀ F' H', Grow F0 H0 F' H' → ∀ cls, mg c = some cls → W cls none σ H') (hb : ∀ F0 H0, ¬ G F0 H0 .bad)
    (hg : ∀ x F' H', Grow F H F' H' → G F H x → G F' H' x)
    (hQ : ∀ sl v F' H' A, r = .ok sl → Grow F H F' H' → VRep K B F' H' v A sl → (∀ a ∈ A, H a = none) → G F' H' (k sl) → Q v H') : Pst K mg W B σ F H r Q := by
  cases r with
  | ok sl => exact fun v F' H' A g vr fr => hQ sl v F' H' A rfl g vr fr (hg _ _ _ g h)
  | exc c => exact hx c F H h
  | bad => exact (hb F H h).elim
theorem Pst.bind {r : Rs Sl} {k : Sl → Rs Sl} {Q Q' : VK} (h : Pst K mg W B σ F H (r.bind k) Q)
    (hQ : ∀ sl v F' H' A, r = .ok sl → Grow F H F' H' → VRep K B F' H' v A sl → (∀ a ∈ A, H a = none) → Pst K mg W B σ F' H' (k sl) Q → Q' v H') : Pst K mg W B σ F H r Q' :=
  Pst.then (G := fun F H x => Pst K mg W B σ F H x Q) h (fun _ _ _ z => z) (fun _ _ z => z) (fun _ _ _ g z => z.grow g) hQ
theorem Pst.bindT {r : Rs Sl} {k : Sl → Rs Bool} {Q : Bool → Hp → Prop} {Q' : VK} (h : PstT mg W σ F H (r.bind k) Q)
    (hQ : ∀ sl v F' H' A, r = .ok sl → Grow F H F' H' → VRep K B F' H' v A sl → (∀ a ∈ A, H a = none) → PstT mg W σ F' H' (k sl) Q → Q' v H') : Pst K mg W B σ F H r Q' :=
  Pst.then (G := fun F H x => PstT mg W σ F H x Q) h (fun _ _ _ z => z) (fun _ _ z => z) (fun _ _ _ g z => z.grow g) hQ
theorem Pst.bindA {r : Rs Sl} {k : Sl → Rs (List Sl)} {Q : List V → Hp → Prop} {Q' : VK} (h : PstA K mg W B σ F H (r.bind k) Q)
    (hQ : ∀ sl v F' H' A, r = .ok sl → Grow F H F' H' → VRep K B F' H' v A sl → (∀ a ∈ A, H a = none) → PstA K mg W B σ F' H' (k sl) Q → Q' v H') : Pst K mg W B σ F H r Q' :=
  Pst.then (G := fun F H x => PstA K mg W B σ F H x Q) h (fun _ _ _ z => z) (fun _ _ z => z) (fun _ _ _ g z => z.grow g) hQ
theorem PstT.bind {r : Rs Bool} {k : Bool → Rs Sl} {Q : VK} {Q' : Bool → Hp → Prop} (h : Pst K mg W B σ F H (r.bind k) Q) (hQ : ∀ b F' H', r = .ok b → Grow F H F' H' → Pst K mg W B σ F' H' (k b) Q → Q' b H') : PstT mg W σ F H r Q' := by
  cases r with
  | ok b => exact fun F' H' g => hQ b F' H' rfl g (h.grow g)
  | exc c => exact h
  | bad => exact h
theorem PstT.bindT {r : Rs Bool} {k : Bool → Rs Bool} {Q Q' : Bool → Hp → Prop} (h : PstT mg W σ F H (r.bind k) Q) (hQ : ∀ b F' H', r = .ok b → Grow F H F' H' → PstT mg W σ F' H' (k b) Q → Q' b H') : PstT mg W σ F H r Q' := by
  cases r with
  | ok b => exact fun F' H' g => hQ b F' H' rfl g (PstT.grow g h)
  | exc c => exact h
  | bad => exact h
theorem PstA.bind {r : Rs (List Sl)} {k : List Sl → Rs Sl} {Q : VK} {Q' : List V → Hp → Prop} (h : Pst K mg W B σ F H (r.bind k) Q)
    (hQ : ∀ sls vs F' H', r = .ok sls → Grow F H F' H' → ARs K B F' H' vs sls → Pst K mg W B σ F' H' (k sls) Q → Q' vs H') : PstA K mg W B σ F H r Q' := by
  cases r with
  | ok sls => exact fun vs F' H' g ar => hQ sls vs F' H' rfl g ar (h.grow g)
  | exc c => exact h
  | bad => exact h
theorem PstA.bindA {r : Rs (List Sl)} {k : List Sl → Rs (List Sl)} {Q Q' : List V → Hp → Prop} (h : PstA K mg W B σ F H (r.bind k) Q)
    (hQ : ∀ sls vs F' H', r = .ok sls → Grow F H F' H' → ARs K B F' H' vs sls → PstA K mg W B σ F' H' (k sls) Q → Q' vs H') : PstA K mg W B σ F H r Q' := by
  cases r with
  | ok sls => exact fun vs F' H' g ar => hQ sls vs F' H' rfl g ar (PstA.grow g h)
  | exc c => exact h
  | bad => exact h
/-- a value at hand -/
theorem Pst.here {sl : Sl} {Q : VK} {v : V} {A : List Addr} (h : Pst K mg W B σ F H (.ok sl) Q) (s : Ex F H) (vr : VRep K B F H v A sl) (fr : ∀ a ∈ A, H a = none) : Q v H := h v F H A (Grow.refl s) vr fr
end

def tV (K : PySem.W.Frag) (mg : MG) (W : WX) (f : EV) : TE := fun σ H Q => ∃ B ρ F, Rep K B ρ σ F H ∧ Pst K mg W B σ F H (f ρ) Q
def tT (K : PySem.W.Frag) (mg : MG) (W : WX) (f : Rho → Rs Bool) : TT := fun σ H Q => ∃ B ρ F, Rep K B ρ σ F H ∧ PstT mg W σ F H (f ρ) Q
def tA (K : PySem.W.Frag) (mg : MG) (W : WX) (f : Rho → Rs (List Sl)) : TA := fun σ H Q => ∃ B ρ F, Rep K B ρ σ F H ∧ PstA K mg W B σ F H (f ρ) Q
abbrev EE (X : Cx) (W : WX) (e : Expr) (f : EV) : Prop := PE X e (tV X.K X.mg W f)
abbrev ET (X : Cx) (W : WX) (e : Expr) (f : Rho → Rs Bool) : Prop := PT X e (tT X.K X.mg W f)
abbrev EW (X : Cx) (W : WX) (e : Expr) (f : Rho → Rs Bool) : Prop := PW X e (tT X.K X.mg W f)
abbrev EA (X : Cx) (W : WX) (es : List Expr) (f : Rho → Rs (List Sl)) : Prop := PA X es (tA X.K X.mg W f)
section
variable {X : Cx} {W : WX}
theorem pe_weak {e : Expr} {t t' : TE} (h : PE X e t) (hw : ∀ σ H Q, t' σ H Q → t σ H Q) : PE X e t' := ⟨fun pins s σ H Q I k => h.run pins s σ H Q I (hw σ H Q k)⟩
theorem pt_weak {e : Expr} {t t' : TT} (h : PT X e t) (hw : ∀ σ H Q, t' σ H Q → t σ H Q) : PT X e t' := ⟨fun pins s σ H Q I k => h.run pins s σ H Q I (hw σ H Q k)⟩
theorem pw_weak {e : Expr} {t t' : TT} (h : PW X e t) (hw : ∀ σ H Q, t' σ H Q → t σ H Q) : PW X e t' := ⟨fun whole pins s σ H Q I k => h.run whole pins s σ H Q I (hw σ H Q k)⟩
theorem pa_weak {e : List Expr} {t t' : TA} (h : PA X e t) (hw : ∀ σ H Q, t' σ H Q → t σ H Q) : PA X e t' := ⟨fun pos pins s σ H Q I k => h.run pos pins s σ H Q I (hw σ H Q k)⟩

/-! ### names, constants -/
def eV (i : Nat) : EV := fun ρ => match ρ[i]? with
  | some (.ow ds) => .ok (.vw ds)
  | some (.og d) => .ok (.vg d)
  | some (.exo c) => .ok (.exo c)
  | some (.fz d) => .ok (.fz d)
  | some (.br ds) => .ok (.br ds)
  | some (.scr ns) => .ok (.scr ns)
  | _ => .bad
theorem e_v (i : Nat) {x : Str} {pos : Pos} (hN : X.N[i]? = some x := by rfl) (hv : Vis X.env.scope x := by first | exact Or.inl rfl | exact Or.inr (Or.inl rfl) | exact Or.inr (Or.inr rfl)) (hd : (x == ("__debug__" : Str)) = false := by decide)
    (hcd : (x == ("__classdict__" : Str)) = false := by decide) : EE X W (.Name x pos) (eV i) := pe_weak (pe_var hN hv hd hcd) fun σ H Q ⟨B, ρ, F, R, h⟩ => by
  obtain ⟨⟨fp, h1, h2, h3⟩, gr, len⟩ := R
  unfold eV at h
  cases e : ρ[i]? with
  | none => rw [e] at h; exact h.elim
  | some sl =>
    rw [e] at h
    rcases h1 i sl e with z | ⟨_, v, hv, vr⟩
    · subst z; exact h.elim
    · refine ⟨v, hv, ?_⟩
      cases sl with
      | no => exact h.elim
      | vw ds => exact h.elim
      | di ds => exact h.elim
      | dt ds => exact h.elim
      | vg ds => exact h.elim
      | og d => exact h.here gr.sub (A := []) ⟨rfl, vr.1, _, vr.2⟩ (fun _ z => nomatch z)
      | exo d => exact h.here gr.sub (A := []) ⟨rfl, vr.2⟩ (fun _ z => nomatch z)
      | fz d => exact h.here gr.sub (A := []) ⟨rfl, vr.2⟩ (fun _ z => nomatch z)
      | br d => exact h.here gr.sub (A := []) ⟨rfl, vr.2⟩ (fun _ z => nomatch z)
      | scr d => exact h.here gr.sub (A := []) ⟨rfl, vr.2⟩ (fun _ z => nomatch z)
      | ow ds =>
        obtain ⟨p, xs, e, a, f, hh, q⟩ := vr
        exact h.here gr.sub (A := []) ⟨rfl, p, xs, e, hh, q⟩ (fun _ z => nomatch z)
def eC (d : D) : EV := fun _ => .ok (.fz d)
theorem tv_c {K : PySem.W.Frag} {mg : MG} {d : D} {v : V} (hr : ∀ F, Rp F v d) (σ : L2.St) (H : Hp) (Q : VK) (h : tV K mg W (eC d) σ H Q) : tC v σ H Q := by
  obtain ⟨B, ρ, F, R, h⟩ := h
  exact Pst.here (A := []) h R.gr.sub ⟨rfl, hr F⟩ (fun _ z => nomatch z)
theorem e_int {i j pos} : EE X W (.Constant (.int i) j pos) (eC (.int i)) := pe_weak pe_int (tv_c fun _ => .int i)
theorem e_bl {b j pos} : EE X W (.Constant (.bool b) j pos) (eC (.bool b)) := pe_weak pe_bl (tv_c fun _ => .bl b)
theorem e_non {j pos} : EE X W (.Constant .none j pos) (eC .none) := pe_weak pe_non (tv_c fun _ => .non)
theorem e_str {x j pos} : EE X W (.Constant (.str x) j pos) (eC (.str x)) := pe_weak pe_str (tv_c fun _ => .str x)
theorem e_globI {x : Str} {i : Int} {u : Value} {pos : Pos} (hm : X.mg x = some u) (r : RelV (.int i) u) (hg : Gl X x := by rfl) (hd : (x == ("__debug__" : Str)) = false := by decide) : EE X W (.Name x pos) (eC (.int i)) := pe_weak (pe_glob hg hm r hd) (tv_c fun _ => .int i)
theorem e_globS {x : Str} {i : Str} {u : Value} {pos : Pos} (hm : X.mg x = some u) (r : RelV (.str i) u) (hg : Gl X x := by rfl) (hd : (x == ("__debug__" : Str)) = false := by decide) : EE X W (.Name x pos) (eC (.str i)) := pe_weak (pe_glob hg hm r hd) (tv_c fun _ => .str i)

/-! ### operations on two values -/
abbrev Op2 := Sl → Sl → Option Sl
def OpS (K : PySem.W.Frag) (r : R2) (op : Op2) : Prop := ∀ (B : Bs) (F H : Hp) (x y : V) (A A' : List Addr) (sx sy sl : Sl) (Q : VK), Grow B.F0 B.H0 F H → VRep K B F H x A sx → VRep K B F H y A' sy → op sx sy = some sl →
  (∀ v F' H' A, Grow F H F' H' → VRep K B F' H' v A sl → (∀ a ∈ A, H a = none) → Q v H') → r x y H Q
def Rs.of {α : Type} : Option α → Rs α
  | some a => .ok a
  | none => .bad
def eBin (op : Op2) (a b : EV) : EV := fun ρ => (a ρ).bind fun x => (b ρ).bind fun y => Rs.of (op x y)
theorem tv_bin {K : PySem.W.Frag} {mg : MG} {r : R2} {op : Op2} {fa fb : EV} (hs : OpS K r op) (σ : L2.St) (H : Hp) (Q : VK) (h : tV K mg W (eBin op fa fb) σ H Q) : tOp r (tV K mg W fa) (tV K mg W fb) σ H Q := by
  obtain ⟨B, ρ, F, R, h⟩ := h
  refine ⟨B, ρ, F, R, Pst.bind h fun sx v F1 H1 A _ g1 vr1 fr1 h1 => ?_⟩
  refine ⟨B, ρ, F1, R.grow g1, Pst.bind h1 fun sy w F2 H2 A2 _ g2 vr2 fr2 h2 => ?_⟩
  cases e : op sx sy with
  | none => rw [e] at h2; exact h2.elim
  | some sl =>
    rw [e] at h2
    exact hs B F2 H2 v w A A2 sx sy sl Q (R.gr.trans (g1.trans g2)) (vr1.grow g2) vr2 e h2
theorem e_bin {op : Operator} {r : R2} {f : Op2} {a b : Expr} {fa fb : EV} {pos : Pos} (ho : OpR X (binaryOp op) r) (hs : OpS X.K r f) (ha : EE X W a fa) (hb : EE X W b fb) : EE X W (.BinOp a op b pos) (eBin f fa fb) := pe_weak (pe_op ho ha hb) (tv_bin hs)
theorem e_cmp {op : CmpOp} {r : R2} {f : Op2} {a b : Expr} {fa fb : EV} {pos : Pos} (ho : OpR X (compareOp op) r) (hs : OpS X.K r f) (ha : EE X W a fa) (hb : EE X W b fb) (hm : behindInMarks op b = false := by first | exact nobehind _ (by decide) (by decide) | rfl) : EE X W (.Compare a [op] [b] pos) (eBin f fa fb) := pe_weak (pe_cmpR ho ha hb hm) (tv_bin hs)
theorem e_ix {r : R2} {f : Op2} {a b : Expr} {fa fb : EV} {pos : Pos} (ho : IxR X r) (hs : OpS X.K r f) (ha : EE X W a fa) (hb : EE X W b fb) (hp : PlainIx b := by exact fun _ _ => rfl) : EE X W (.Subscript a b pos) (eBin f fa fb) := pe_weak (pe_ix ho ha hb hp) (tv_bin hs)
def b2o (c : Bool) {α : Type} (a : α) : Option α := if c then some a else none
theorem b2o_some {c : Bool} {α : Type} {a b : α} (h : b2o c a = some b) : c = true ∧ a = b := by
  unfold b2o at h
  split at h
  · exact ⟨by assumption, Option.some.inj h⟩
  · cases h
/-- what fits a list: its items -/
def Sl.lst : Sl → Option (List D)
  | .fz (.list ds) => some ds
  | .br ds => some ds
  | .vw ds => some ds
  | .ow ds => some ds
  | _ => none
def Sl.tup : Sl → Option (List D)
  | .fz (.tuple ds) => some ds
  | _ => none
def Sl.data : Sl → Option D
  | .fz d => some d
  | .br ds => some (.list ds)
  | .vw ds => some (.list ds)
  | .ow ds => some (.list ds)
  | .og d => some d
  | .vg d => some d
  | _ => none
section
variable {K : PySem.W.Frag} {B : Bs} {F H : Hp} {v : V} {A : List Addr} {sl : Sl}
theorem VRep.list {ds : List D} (g : Grow B.F0 B.H0 F H) (r : VRep K B F H v A sl) (e : sl.lst = some ds) : ∃ p xs, v = .ref p ∧ H p = some (.lst xs) ∧ RpAll F xs ds := by
  cases sl with
  | no => cases e
  | scr ns => cases e
  | di ns => cases e
  | dt ns => cases e
  | og ns => cases e
  | vg ns => cases e
  | exo ns => cases e
  | fz d =>
    cases d <;> simp [Sl.lst] at e
    subst e
    obtain ⟨_, r⟩ := r
    cases r with
    | lst h1 h2 => exact ⟨_, _, rfl, g.sub _ _ h1, h2⟩
  | br d => cases e; obtain ⟨_, p, xs, e, h, q⟩ := r; exact ⟨p, xs, e, g.exH _ _ h, q⟩
  | vw d => cases e; obtain ⟨_, p, xs, e, h, q⟩ := r; exact ⟨p, xs, e, h, q⟩
  | ow d => cases e; obtain ⟨p, xs, e, _, _, h, q⟩ := r; exact ⟨p, xs, e, h, q⟩
theorem VRep.tuple {ds : List D} (g : Grow B.F0 B.H0 F H) (r : VRep K B F H v A sl) (e : sl.tup = some ds) : ∃ p xs, v = .ref p ∧ F p = some (.tup xs) ∧ H p = some (.tup xs) ∧ RpAll F xs ds := by
  cases sl with
  | fz d =>
    cases d <;> simp [Sl.tup] at e
    subst e
    obtain ⟨_, r⟩ := r
    cases r with
    | tup h1 h2 => exact ⟨_, _, rfl, h1, g.sub _ _ h1, h2⟩
  | no => cases e
  | scr ns => cases e
  | br ns => cases e
  | vw ns => cases e
  | ow ns => cases e
  | di ns => cases e
  | dt ns => cases e
  | og ns => cases e
  | vg ns => cases e
  | exo ns => cases e
theorem VRep.py {d : D} (g : Grow B.F0 B.H0 F H) (r : VRep K B F H v A sl) (e : sl.data = some d) : Rp H v d := by
  cases sl with
  | fz d => cases e; exact r.2.mono g.sub
  | no => cases e
  | scr ns => cases e
  | di ns => cases e
  | dt ns => cases e
  | og d => cases e; exact r.2.py g.sub
  | vg d => cases e; obtain ⟨_, _, _, r⟩ := r; exact r.py g.sub
  | exo ns => cases e
  | br d => cases e; obtain ⟨_, p, xs, e, h, q⟩ := r; subst e; exact .lst (g.exH _ _ h) (q.mono g.sub)
  | vw d => cases e; obtain ⟨_, p, xs, e, h, q⟩ := r; subst e; exact .lst h (q.mono g.sub)
  | ow d => cases e; obtain ⟨p, xs, e, _, _, h, q⟩ := r; subst e; exact .lst h (q.mono g.sub)
theorem fz_int {i : Int} (r : VRep K B F H v A (.fz (.int i))) : v = .int i := by cases r.2; rfl
theorem fz_bl {i : Bool} (r : VRep K B F H v A (.fz (.bool i))) : v = .bl i := by cases r.2; rfl
theorem fz_str {i : Str} (r : VRep K B F H v A (.fz (.str i))) : v = .str i := by cases r.2; rfl
theorem VRep.atom {d : D} {Q : VK} (s : Ex F H) (q : ∀ v F' H' A, Grow F H F' H' → VRep K B F' H' v A (.fz d) → (∀ a ∈ A, H a = none) → Q v H') (r : Rp F v d) : Q v H := q v F H [] (Grow.refl s) ⟨rfl, r⟩ fun _ z => nomatch z
/-- a new list of one's own; a new tuple -/
theorem new_ow {ds : List D} {Q : VK} {xs : List V} (s : Ex F H) (q : ∀ v F' H' A, Grow F H F' H' → VRep K B F' H' v A (.ow ds) → (∀ a ∈ A, H a = none) → Q v H') (r : RpAll F xs ds) (p : Addr) (np : H p = none) : Q (.ref p) (upd H p (.lst xs)) :=
  q (.ref p) F (upd H p (.lst xs)) [p] (Grow.own s np) ⟨p, xs, rfl, rfl, s.back np, upd_same, r⟩ fun a ha => by
    cases ha with
    | head => exact np
    | tail _ h => cases h
theorem new_tup {ds : List D} {Q : VK} {xs : List V} (s : Ex F H) (q : ∀ v F' H' A, Grow F H F' H' → VRep K B F' H' v A (.fz (.tuple ds)) → (∀ a ∈ A, H a = none) → Q v H') (r : RpAll F xs ds) (p : Addr) (np : H p = none) : Q (.ref p) (upd H p (.tup xs)) :=
  q (.ref p) (upd F p (.tup xs)) (upd H p (.tup xs)) [] (Grow.laid s np) ⟨rfl, .tup upd_same (r.mono (Ex.new (s.back np)))⟩ fun _ z => nomatch z
end
end

def intOp (c : Int → Int → Bool) (g : Int → Int → D) : Op2
  | .fz (.int i), .fz (.int j) => b2o (c i j) (.fz (g i j))
  | _, _ => none
theorem ops_int {K : PySem.W.Frag} {C : Int → Int → Prop} {c : Int → Int → Bool} {g : Int → Int → D} {gv : Int → Int → V} (hc : ∀ i j, c i j = true → C i j) (hg : ∀ F i j, Rp F (gv i j) (g i j)) : OpS K (rI C gv) (intOp c g) := by
  intro B F H x y A A' sx sy sl Q gr r1 r2 e q
  unfold intOp at e
  split at e
  · obtain ⟨e1, e2⟩ := b2o_some e
    subst e2
    have v1 := fz_int r1
    have v2 := fz_int r2
    subst v1 v2
    exact ⟨_, _, rfl, rfl, hc _ _ e1, VRep.atom gr.sub q (hg F _ _)⟩
  · cases e
theorem ops_int0 {K : PySem.W.Frag} {g : Int → Int → D} {gv : Int → Int → V} (hg : ∀ F i j, Rp F (gv i j) (g i j)) : OpS K (rI0 gv) (intOp (fun _ _ => true) g) := by
  intro B F H x y A A' sx sy sl Q gr r1 r2 e q
  unfold intOp at e
  split at e
  · obtain ⟨e1, e2⟩ := b2o_some e
    subst e2
    have v1 := fz_int r1
    have v2 := fz_int r2
    subst v1 v2
    exact ⟨_, _, rfl, rfl, VRep.atom gr.sub q (hg F _ _)⟩
  · cases e
theorem OpS.imp {K : PySem.W.Frag} {r r' : R2} {op : Op2} (h : OpS K r op) (k : ∀ x y H Q, r x y H Q → r' x y H Q) : OpS K r' op := fun B F H x y A A' sx sy sl Q g r1 r2 e q => k _ _ _ _ (h B F H x y A A' sx sy sl Q g r1 r2 e q)
/-- one of two ways, by what the operands are -/
def orOp (f g : Op2) : Op2 := fun x y => (f x y).orElse fun _ => g x y
theorem ops_or {K : PySem.W.Frag} {r r' : R2} {f g : Op2} (h : OpS K r f) (h' : OpS K r' g) : OpS K (fun x y H Q => r x y H Q ∨ r' x y H Q) (orOp f g) := by
  intro B F H x y A A' sx sy sl Q gr r1 r2 e q
  unfold orOp at e
  cases e1 : f sx sy with
  | some z =>
    rw [e1] at e
    cases e
    exact .inl (h B F H x y A A' sx sy _ Q gr r1 r2 e1 q)
  | none =>
    rw [e1] at e
    exact .inr (h' B F H x y A A' sx sy _ Q gr r1 r2 e q)
end BV
namespace BV
open PySem PySem.Spec PyProof.Rows L2

/-! ### numbers -/
/-- of fewer than a thousand bits -/
def fits (i : Int) : Bool := decide (i.natAbs < 2 ^ 1000)
def small (i : Int) : Bool := decide (-(2 ^ 64) < i) && decide (i < 2 ^ 64)
def mulOk (i j : Int) : Bool := (small i || small j) || (fits i && fits j)
theorem small_ok {i : Int} (h : small i = true) : -(2 ^ 64) < i ∧ i < 2 ^ 64 := by
  unfold small at h
  rw [Bool.and_eq_true] at h
  exact ⟨of_decide_eq_true h.1, of_decide_eq_true h.2⟩
def rMul : R2 := fun x y H Q => rI CMul (fun i j => .int (i * j)) x y H Q ∨ rI CMulW (fun i j => .int (i * j)) x y H Q
theorem op_mulA {X : Cx} : OpR X (binaryOp .Mult) rMul := op_mul.or op_mulW
def mulOp : Op2 := intOp mulOk fun i j => .int (i * j)
theorem ops_mul {K : PySem.W.Frag} : OpS K rMul mulOp := by
  intro B F H x y A A' sx sy sl Q gr r1 r2 e q
  unfold mulOp intOp at e
  split at e
  · obtain ⟨e1, e2⟩ := b2o_some e
    subst e2
    have v1 := fz_int r1
    have v2 := fz_int r2
    subst v1 v2
    have fin := VRep.atom gr.sub q (Rp.int _)
    unfold mulOk at e1
    rw [Bool.or_eq_true, Bool.or_eq_true, Bool.and_eq_true] at e1
    rcases e1 with (h | h) | ⟨h1, h2⟩
    · exact .inl ⟨_, _, rfl, rfl, .inl (small_ok h), fin⟩
    · exact .inl ⟨_, _, rfl, rfl, .inr (small_ok h), fin⟩
    · exact .inr ⟨_, _, rfl, rfl, wide_mul (of_decide_eq_true h1) (of_decide_eq_true h2) (by decide) (by decide) (by decide), fin⟩
  · cases e
def divOk (_ j : Int) : Bool := decide (0 < j) && fits j
def divOp : Op2 := intOp divOk fun i j => .int (i / j)
theorem ops_div {K : PySem.W.Frag} : OpS K (rI CDivW fun i j => .int (i / j)) divOp := ops_int (fun i j h => by
  unfold divOk at h
  rw [Bool.and_eq_true] at h
  exact wide_div (of_decide_eq_true h.1) (of_decide_eq_true h.2) (by decide) (by decide)) fun _ _ _ => .int _
def modOp : Op2 := intOp (fun _ j => decide (0 < j)) fun i j => .int (i % j)
theorem ops_mod {K : PySem.W.Frag} : OpS K (rI (fun _ j => 0 < j) fun i j => .int (i % j)) modOp := ops_int (fun i j h => of_decide_eq_true h) fun _ _ _ => .int _
def powOp : Op2 := intOp (fun i j => decide (0 ≤ j) && decide (j ≤ 1000) && decide (i.natAbs < 1000)) fun i j => .int (i ^ j.toNat)
theorem ops_pow {K : PySem.W.Frag} : OpS K (rI CPow fun i j => .int (i ^ j.toNat)) powOp := ops_int (fun i j h => by
  rw [Bool.and_eq_true, Bool.and_eq_true] at h
  have h1 := of_decide_eq_true h.1.1
  have h2 := of_decide_eq_true h.1.2
  have h3 := of_decide_eq_true h.2
  exact ⟨h1, by omega, by omega⟩) fun _ _ _ => .int _
def addIOp : Op2 := intOp (fun _ _ => true) fun i j => .int (i + j)
def subOp : Op2 := intOp (fun _ _ => true) fun i j => .int (i - j)
def ltOp : Op2 := intOp (fun _ _ => true) fun i j => .bool (decide (i < j))
def leOp : Op2 := intOp (fun _ _ => true) fun i j => .bool (decide (i ≤ j))
def gtOp : Op2 := intOp (fun _ _ => true) fun i j => .bool (decide (j < i))
def geOp : Op2 := intOp (fun _ _ => true) fun i j => .bool (decide (j ≤ i))
def addSOp : Op2
  | .fz (.str x), .fz (.str y) => b2o (decide (x.length + y.length ≤ 100000)) (.fz (.str (x ++ y)))
  | _, _ => none
def catLOp : Op2 := fun x y => match x.lst, y.lst with
  | some ds, some es => b2o (decide (ds.length + es.length ≤ 100000)) (.ow (ds ++ es))
  | _, _ => none
def catTOp : Op2 := fun x y => match x.tup, y.tup with
  | some ds, some es => b2o (decide (ds.length + es.length ≤ 100000)) (.fz (.tuple (ds ++ es)))
  | _, _ => none
theorem sz_of {n : Nat} (h : n ≤ 100000) : n ≤ sizeLine := Nat.le_trans h (by decide)
theorem sz_lt {n : Nat} (h : n < 100000) : n < sizeLine := Nat.lt_of_lt_of_le h (by decide)
theorem ops_addS {K : PySem.W.Frag} : OpS K (fun x y H Q => ∃ i j, x = .str i ∧ y = .str j ∧ i.length + j.length ≤ sizeLine ∧ Q (.str (i ++ j)) H) addSOp := by
  intro B F H x y A A' sx sy sl Q gr r1 r2 e q
  unfold addSOp at e
  split at e
  · obtain ⟨e1, e2⟩ := b2o_some e
    subst e2
    have v1 := fz_str r1
    have v2 := fz_str r2
    subst v1 v2
    exact ⟨_, _, rfl, rfl, sz_of (of_decide_eq_true e1), VRep.atom gr.sub q (Rp.str _)⟩
  · cases e
theorem ops_catL {K : PySem.W.Frag} : OpS K rCat catLOp := by
  intro B F H x y A A' sx sy sl Q gr r1 r2 e q
  unfold catLOp at e
  split at e
  · rename_i ds es h1 h2
    obtain ⟨e1, e2⟩ := b2o_some e
    subst e2
    obtain ⟨p, xs, rfl, hp, rp⟩ := r1.list gr h1
    obtain ⟨p', ys, rfl, hp', rp'⟩ := r2.list gr h2
    refine ⟨p, p', xs, ys, rfl, rfl, hp, hp', ?_, fun l nl => new_ow gr.sub q (rp.append rp') l nl⟩
    rw [rp.length, rp'.length]
    exact sz_of (of_decide_eq_true e1)
  · cases e
theorem ops_catT {K : PySem.W.Frag} : OpS K (rCatA K) catTOp := by
  intro B F H x y A A' sx sy sl Q gr r1 r2 e q
  unfold catTOp at e
  split at e
  · rename_i ds es h1 h2
    obtain ⟨e1, e2⟩ := b2o_some e
    subst e2
    obtain ⟨p, xs, rfl, fp, hp, rp⟩ := r1.tuple gr h1
    obtain ⟨p', ys, rfl, fp', hp', rp'⟩ := r2.tuple gr h2
    refine ⟨p, p', xs, ys, rfl, rfl, .inl (.inl hp), .inl (.inl hp'), ?_, ?_⟩
    · rw [rp.length, rp'.length]
      exact sz_of (of_decide_eq_true e1)
    · have fin : ∀ ts : List V, RpAll F ts (ds ++ es) → ∀ l, H l = none → Q (.ref l) (upd H l (.tup ts)) := fun ts rt l nl => new_tup gr.sub q rt l nl
      have both := rp.append rp'
      refine ⟨fun e => ?_, fun _ e => ?_, fun _ _ l nl => fin _ both l nl⟩
      · subst e
        exact VRep.atom gr.sub q (.tup fp' both)
      · subst e
        rw [List.append_nil] at both
        exact VRep.atom gr.sub q (.tup fp both)
  · cases e
def addOp : Op2 := orOp addIOp (orOp addSOp (orOp catLOp catTOp))
def rAdd4 (K : PySem.W.Frag) : R2 := fun x y H Q => rI0 (fun i j => .int (i + j)) x y H Q ∨ (fun x y H Q => (fun (x y : V) (H : Hp) (Q : VK) => ∃ i j, x = V.str i ∧ y = V.str j ∧ i.length + j.length ≤ sizeLine ∧ Q (.str (i ++ j)) H) x y H Q ∨ (fun x y H Q => rCat x y H Q ∨ rCatA K x y H Q) x y H Q) x y H Q
theorem op_addA {X : Cx} : OpR X (binaryOp .Add) (rAdd4 X.K) := op_add.or (op_add_str.or (op_cat.or op_catA))
theorem ops_add {K : PySem.W.Frag} : OpS K (rAdd4 K) addOp := ops_or (ops_int0 (g := fun i j => .int (i + j)) (gv := fun i j => .int (i + j)) fun _ _ _ => .int _) (ops_or ops_addS (ops_or ops_catL ops_catT))
theorem ops_sub {K : PySem.W.Frag} : OpS K (rI0 fun i j => .int (i - j)) subOp := ops_int0 fun _ _ _ => .int _
theorem ops_lt {K : PySem.W.Frag} : OpS K (rI0 fun i j => .bl (decide (i < j))) ltOp := ops_int0 fun _ _ _ => .bl _
theorem ops_le {K : PySem.W.Frag} : OpS K (rI0 fun i j => .bl (decide (i ≤ j))) leOp := ops_int0 fun _ _ _ => .bl _
theorem ops_gt {K : PySem.W.Frag} : OpS K (rI0 fun i j => .bl (decide (j < i))) gtOp := ops_int0 fun _ _ _ => .bl _
theorem ops_ge {K : PySem.W.Frag} : OpS K (rI0 fun i j => .bl (decide (j ≤ i))) geOp := ops_int0 fun _ _ _ => .bl _

/-! ### alike, among -/
def eqOp : Op2 := fun x y => match x.data, y.data with
  | some d, some e => b2o (SeqAt.shaped d && SeqAt.shaped e) (.fz (.bool (PyData.eqv d e)))
  | _, _ => none
def neOp : Op2 := fun x y => match x.data, y.data with
  | some d, some e => b2o (SeqAt.shaped d && SeqAt.shaped e) (.fz (.bool (!PyData.eqv d e)))
  | _, _ => none
theorem ops_eq {K : PySem.W.Frag} : OpS K (rEqD K) eqOp := by
  intro B F H x y A A' sx sy sl Q gr r1 r2 e q
  unfold eqOp at e
  split at e
  · rename_i d d' h1 h2
    obtain ⟨e1, e2⟩ := b2o_some e
    subst e2
    rw [Bool.and_eq_true] at e1
    exact ⟨d, d', (r1.py gr h1).dpS e1.1, (r2.py gr h2).dpS e1.2, e1.1, e1.2, VRep.atom gr.sub q (Rp.bl _)⟩
  · cases e
theorem ops_ne {K : PySem.W.Frag} : OpS K (rNeD K) neOp := by
  intro B F H x y A A' sx sy sl Q gr r1 r2 e q
  unfold neOp at e
  split at e
  · rename_i d d' h1 h2
    obtain ⟨e1, e2⟩ := b2o_some e
    subst e2
    rw [Bool.and_eq_true] at e1
    exact ⟨d, d', (r1.py gr h1).dpS e1.1, (r2.py gr h2).dpS e1.2, e1.1, e1.2, VRep.atom gr.sub q (Rp.bl _)⟩
  · cases e
def inLOp : Op2 := fun x y => match x.data, y.lst with
  | some d, some ds => b2o (SeqAt.shaped d && SeqAt.shaped (.list ds)) (.fz (.bool (ds.any fun z => PyData.eqv z d)))
  | _, _ => none
def niLOp : Op2 := fun x y => match x.data, y.lst with
  | some d, some ds => b2o (SeqAt.shaped d && SeqAt.shaped (.list ds)) (.fz (.bool (!ds.any fun z => PyData.eqv z d)))
  | _, _ => none
theorem ops_inL {K : PySem.W.Frag} : OpS K (rInD K) inLOp := by
  intro B F H x y A A' sx sy sl Q gr r1 r2 e q
  unfold inLOp at e
  split at e
  · rename_i d ds h1 h2
    obtain ⟨e1, e2⟩ := b2o_some e
    subst e2
    rw [Bool.and_eq_true] at e1
    obtain ⟨p, xs, rfl, hp, rp⟩ := r2.list gr h2
    exact ⟨d, ds, (r1.py gr h1).dpS e1.1, .lst (.inl (.inl hp)) ((rp.mono gr.sub).dpS e1.2), e1.1, e1.2, VRep.atom gr.sub q (Rp.bl _)⟩
  · cases e
theorem ops_niL {K : PySem.W.Frag} : OpS K (rNotInD K) niLOp := by
  intro B F H x y A A' sx sy sl Q gr r1 r2 e q
  unfold niLOp at e
  split at e
  · rename_i d ds h1 h2
    obtain ⟨e1, e2⟩ := b2o_some e
    subst e2
    rw [Bool.and_eq_true] at e1
    obtain ⟨p, xs, rfl, hp, rp⟩ := r2.list gr h2
    exact ⟨d, ds, (r1.py gr h1).dpS e1.1, .lst (.inl (.inl hp)) ((rp.mono gr.sub).dpS e1.2), e1.1, e1.2, VRep.atom gr.sub q (Rp.bl _)⟩
  · cases e
def dNone : D → Bool
  | .none => true
  | _ => false
/-- is None, is not None -/
def isNOp : Op2 := fun x y => match x, y with
  | .fz d, .fz .none => some (.fz (.bool (dNone d)))
  | .ow _, .fz .none => some (.fz (.bool false))
  | .vw _, .fz .none => some (.fz (.bool false))
  | .br _, .fz .none => some (.fz (.bool false))
  | _, _ => none
def notNOp : Op2 := fun x y => match x, y with
  | .fz d, .fz .none => some (.fz (.bool (!dNone d)))
  | .ow _, .fz .none => some (.fz (.bool true))
  | .vw _, .fz .none => some (.fz (.bool true))
  | .br _, .fz .none => some (.fz (.bool true))
  | _, _ => none
theorem rp_none {F : Hp} {x : V} {d : D} (h : Rp F x d) : decide (x = .non) = dNone d := by
  cases h <;> simp [dNone]
theorem ref_of {K : PySem.W.Frag} {B : Bs} {F H : Hp} {x : V} {A : List Addr} {sx : Sl} (gr : Grow B.F0 B.H0 F H) (r : VRep K B F H x A sx) {ds : List D} (h : sx.lst = some ds) : decide (x = V.non) = false := by
  obtain ⟨p, xs, rfl, _⟩ := r.list gr h
  simp
theorem ops_isN {K : PySem.W.Frag} : OpS K (fun x y H Q => y = .non ∧ Q (.bl (decide (x = .non))) H) isNOp := by
  intro B F H x y A A' sx sy sl Q gr r1 r2 e q
  unfold isNOp at e
  split at e <;> cases e
  · cases r2.2
    refine ⟨rfl, ?_⟩
    rw [rp_none r1.2]
    exact VRep.atom gr.sub q (Rp.bl _)
  all_goals
    cases r2.2
    refine ⟨rfl, ?_⟩
    rw [ref_of gr r1 rfl]
    exact VRep.atom gr.sub q (Rp.bl _)
theorem ops_notN {K : PySem.W.Frag} : OpS K (fun x y H Q => y = .non ∧ Q (.bl (!decide (x = .non))) H) notNOp := by
  intro B F H x y A A' sx sy sl Q gr r1 r2 e q
  unfold notNOp at e
  split at e <;> cases e
  · cases r2.2
    refine ⟨rfl, ?_⟩
    rw [rp_none r1.2]
    exact VRep.atom gr.sub q (Rp.bl _)
  all_goals
    cases r2.2
    refine ⟨rfl, ?_⟩
    rw [ref_of gr r1 rfl]
    exact VRep.atom gr.sub q (Rp.bl _)

/-! ### places -/
theorem at_len {α β : Type} {xs : List α} {ys : List β} (h : xs.length = ys.length) {i : Int} {y : β} (e : atI ys i = some y) : ∃ j : Nat, ys[j]? = some y ∧ ∀ x, xs[j]? = some x → atI xs i = some x := by
  unfold atI at e ⊢
  rw [h]
  cases q : ixN ys.length i with
  | none => rw [q] at e; cases e
  | some j => rw [q] at e; exact ⟨j, e, fun x hx => hx⟩
def ixOp : Op2 := fun x y => match y with
  | .fz (.int i) => match x.lst with
    | some ds => (atI ds i).map Sl.fz
    | none => match x.tup with
      | some ds => (atI ds i).map Sl.fz
      | none => match x with
        | .fz (.str z) => if z.length ≤ 100000 then (atI z.cps.toList i).map fun c => Sl.fz (.str ⟨#[c]⟩) else none
        | .scr ns => (atI ns i).map fun n => Sl.fz (.int n)
        | .vg (.list ds) => (atI ds i).map fun d => if lf d then Sl.fz d else Sl.vg d
        | .vg (.tuple ds) => (atI ds i).map fun d => if lf d then Sl.fz d else Sl.vg d
        | .og (.list ds) => (atI ds i).map fun d => if lf d then Sl.fz d else Sl.vg d
        | .og (.tuple ds) => (atI ds i).map fun d => if lf d then Sl.fz d else Sl.vg d
        | _ => none
  | _ => none
theorem og_lf {F H : Hp} {v : V} {A : List Addr} {d : D} (h : Og F H v A d) (e : lf d = true) : Rp F v d := by
  cases h with
  | leaf _ r => exact r
  | lst _ _ _ _ => cases e
  | tup l _ _ _ _ => rw [l] at e; cases e
theorem og_see {K : PySem.W.Frag} {B : Bs} {F H : Hp} {v : V} {A : List Addr} {d : D} {Q : VK} (s : Ex F H) (h : Og F H v A d) (q : ∀ v F' H' A, Grow F H F' H' → VRep K B F' H' v A (if lf d then Sl.fz d else Sl.vg d) → (∀ a ∈ A, H a = none) → Q v H') : Q v H := by
  cases e : lf d with
  | true =>
    rw [e] at q
    exact q v F H [] (Grow.refl s) ⟨rfl, og_lf h e⟩ fun _ z => nomatch z
  | false =>
    rw [e] at q
    exact q v F H [] (Grow.refl s) ⟨rfl, e, _, h⟩ fun _ z => nomatch z
theorem ops_ix {K : PySem.W.Frag} : OpS K (rIx K) ixOp := by
  intro B F H x y A A' sx sy sl Q gr r1 r2 e q
  unfold ixOp at e
  split at e
  · rename_i i
    have v2 := fz_int r2
    subst v2
    split at e
    · rename_i ds h1
      obtain ⟨d, e1, e2⟩ := Option.map_eq_some_iff.mp e
      subst e2
      obtain ⟨p, xs, rfl, hp, rp⟩ := r1.list gr h1
      obtain ⟨j, e3, e4⟩ := at_len rp.length e1
      obtain ⟨v, e5, rv⟩ := rp.get e3
      exact .inl ⟨p, xs, i, v, rfl, rfl, .inl (.inl hp), e4 v e5, VRep.atom gr.sub q rv⟩
    · split at e
      · rename_i ds h1
        obtain ⟨d, e1, e2⟩ := Option.map_eq_some_iff.mp e
        subst e2
        obtain ⟨p, xs, rfl, _, hp, rp⟩ := r1.tuple gr h1
        obtain ⟨j, e3, e4⟩ := at_len rp.length e1
        obtain ⟨v, e5, rv⟩ := rp.get e3
        exact .inr (.inl ⟨p, xs, i, v, rfl, rfl, .inl (.inl hp), e4 v e5, VRep.atom gr.sub q rv⟩)
      · split at e
        · rename_i z _ _
          split at e
          · rename_i hz
            obtain ⟨c, e1, e2⟩ := Option.map_eq_some_iff.mp e
            subst e2
            have v1 := fz_str r1
            subst v1
            exact .inr (.inr ⟨z, i, c, rfl, rfl, sz_of hz, e1, VRep.atom gr.sub q (Rp.str _)⟩)
          · cases e
        · rename_i ns _ _
          obtain ⟨n, e1, e2⟩ := Option.map_eq_some_iff.mp e
          subst e2
          obtain ⟨_, p, rfl, hp⟩ := r1
          obtain ⟨j, e3, e4⟩ := at_len (xs := ns.map V.int) (by simp) e1
          exact .inl ⟨p, _, i, .int n, rfl, rfl, sqL_mono gr.exH hp, e4 _ (by simp [e3]), VRep.atom gr.sub q (Rp.int _)⟩
        · rename_i ds _ _
          obtain ⟨d, e1, e2⟩ := Option.map_eq_some_iff.mp e
          subst e2
          obtain ⟨_, _, A', r1⟩ := r1
          cases r1 with
          | leaf l r => cases l
          | lst f h n ra =>
            obtain ⟨j, e3, e4⟩ := at_len ra.length e1
            obtain ⟨v, A1, e5, rv, _⟩ := ra.get e3
            exact .inl ⟨_, _, i, v, rfl, rfl, .inl (.inl h), e4 v e5, og_see gr.sub rv q⟩
        · rename_i ds _ _
          obtain ⟨d, e1, e2⟩ := Option.map_eq_some_iff.mp e
          subst e2
          obtain ⟨_, l0, A', r1⟩ := r1
          cases r1 with
          | leaf l r => rw [l0] at l; cases l
          | tup l f h n ra =>
            obtain ⟨j, e3, e4⟩ := at_len ra.length e1
            obtain ⟨v, A1, e5, rv, _⟩ := ra.get e3
            exact .inr (.inl ⟨_, _, i, v, rfl, rfl, .inl (.inl h), e4 v e5, og_see gr.sub rv q⟩)
        · rename_i ds _ _
          obtain ⟨d, e1, e2⟩ := Option.map_eq_some_iff.mp e
          subst e2
          obtain ⟨_, r1⟩ := r1
          cases r1 with
          | leaf l r => cases l
          | lst f h n ra =>
            obtain ⟨j, e3, e4⟩ := at_len ra.length e1
            obtain ⟨v, A1, e5, rv, _⟩ := ra.get e3
            exact .inl ⟨_, _, i, v, rfl, rfl, .inl (.inl h), e4 v e5, og_see gr.sub rv q⟩
        · rename_i ds _ _
          obtain ⟨d, e1, e2⟩ := Option.map_eq_some_iff.mp e
          subst e2
          obtain ⟨l0, r1⟩ := r1
          cases r1 with
          | leaf l r => rw [l0] at l; cases l
          | tup l f h n ra =>
            obtain ⟨j, e3, e4⟩ := at_len ra.length e1
            obtain ⟨v, A1, e5, rv, _⟩ := ra.get e3
            exact .inr (.inl ⟨_, _, i, v, rfl, rfl, .inl (.inl h), e4 v e5, og_see gr.sub rv q⟩)
        · cases e
  · cases e
end BV
namespace BV
open PySem PySem.Spec PyProof.Rows L2
section
variable {X : Cx} {W : WX} {a b c : Expr} {fa fb : EV} {pos : Pos}
theorem e_add (ha : EE X W a fa) (hb : EE X W b fb) : EE X W (.BinOp a .Add b pos) (eBin addOp fa fb) := e_bin op_addA ops_add ha hb
theorem e_sub (ha : EE X W a fa) (hb : EE X W b fb) : EE X W (.BinOp a .Sub b pos) (eBin subOp fa fb) := e_bin op_sub ops_sub ha hb
theorem e_mul (ha : EE X W a fa) (hb : EE X W b fb) : EE X W (.BinOp a .Mult b pos) (eBin mulOp fa fb) := e_bin op_mulA ops_mul ha hb
theorem e_div (ha : EE X W a fa) (hb : EE X W b fb) : EE X W (.BinOp a .FloorDiv b pos) (eBin divOp fa fb) := e_bin op_fdivW ops_div ha hb
theorem e_mod (ha : EE X W a fa) (hb : EE X W b fb) : EE X W (.BinOp a .Mod b pos) (eBin modOp fa fb) := e_bin op_mod ops_mod ha hb
theorem e_pow (ha : EE X W a fa) (hb : EE X W b fb) : EE X W (.BinOp a .Pow b pos) (eBin powOp fa fb) := e_bin op_pow ops_pow ha hb
theorem e_lt (ha : EE X W a fa) (hb : EE X W b fb) : EE X W (.Compare a [.Lt] [b] pos) (eBin ltOp fa fb) := e_cmp op_lt ops_lt ha hb
theorem e_le (ha : EE X W a fa) (hb : EE X W b fb) : EE X W (.Compare a [.LtE] [b] pos) (eBin leOp fa fb) := e_cmp op_le ops_le ha hb
theorem e_gt (ha : EE X W a fa) (hb : EE X W b fb) : EE X W (.Compare a [.Gt] [b] pos) (eBin gtOp fa fb) := e_cmp op_gt ops_gt ha hb
theorem e_ge (ha : EE X W a fa) (hb : EE X W b fb) : EE X W (.Compare a [.GtE] [b] pos) (eBin geOp fa fb) := e_cmp op_ge ops_ge ha hb
theorem e_eq (hu : X.A.units + 65 < cLine) (ha : EE X W a fa) (hb : EE X W b fb) : EE X W (.Compare a [.Eq] [b] pos) (eBin eqOp fa fb) := e_cmp (op_eqD (by omega)) ops_eq ha hb
theorem e_ne (hu : X.A.units + 65 < cLine) (ha : EE X W a fa) (hb : EE X W b fb) : EE X W (.Compare a [.NotEq] [b] pos) (eBin neOp fa fb) := e_cmp (op_neD (by omega)) ops_ne ha hb
theorem e_inL (hu : X.A.units + 65 < cLine) (ha : EE X W a fa) (hb : EE X W b fb) (hm : behindInMarks .In b = false := by rfl) : EE X W (.Compare a [.In] [b] pos) (eBin inLOp fa fb) := e_cmp (op_inD hu) ops_inL ha hb hm
theorem e_niL (hu : X.A.units + 65 < cLine) (ha : EE X W a fa) (hb : EE X W b fb) (hm : behindInMarks .NotIn b = false := by rfl) : EE X W (.Compare a [.NotIn] [b] pos) (eBin niLOp fa fb) := e_cmp (op_notInD hu) ops_niL ha hb hm
theorem e_isN (ha : EE X W a fa) (hb : EE X W b fb) : EE X W (.Compare a [.Is] [b] pos) (eBin isNOp fa fb) := e_cmp op_isN ops_isN ha hb
theorem e_notN (ha : EE X W a fa) (hb : EE X W b fb) : EE X W (.Compare a [.IsNot] [b] pos) (eBin notNOp fa fb) := e_cmp op_notN ops_notN ha hb
theorem e_at (ha : EE X W a fa) (hb : EE X W b fb) (hp : PlainIx b := by exact fun _ _ => rfl) : EE X W (.Subscript a b pos) (eBin ixOp fa fb) := e_ix ix_seq ops_ix ha hb hp

/-! ### one operand -/
def eNeg (f : EV) : EV := fun ρ => (f ρ).bind fun x => match x with
  | .fz (.int i) => .ok (.fz (.int (-i)))
  | _ => .bad
theorem e_neg (ha : EE X W a fa) : EE X W (.UnaryOp .USub a pos) (eNeg fa) := pe_weak (pe_un un_neg ha) fun σ H Q ⟨B, ρ, F, R, h⟩ => by
  refine ⟨B, ρ, F, R, Pst.bind h fun sx v F1 H1 A _ g1 vr1 fr1 h1 => ?_⟩
  split at h1
  · have := fz_int vr1
    subst this
    exact ⟨_, rfl, h1.here (A := []) g1.sub ⟨rfl, .int _⟩ (fun _ z => nomatch z)⟩
  · exact h1.elim

/-! ### tests -/
def asB : Sl → Rs Bool
  | .fz (.bool b) => .ok b
  | _ => .bad
def cB (f : EV) : Rho → Rs Bool := fun ρ => (f ρ).bind asB
theorem t_b (ha : EE X W a fa) (he : ∀ whole, isTrue a X.env whole = (do let v ← whole; standAt a.pos; holding [v] (truthy v)) := by intro _; rfl) : ET X W a (cB fa) := pt_weak (pt_val ha he) fun σ H Q ⟨B, ρ, F, R, h⟩ => by
  refine ⟨B, ρ, F, R, Pst.bindT h fun sx v F1 H1 A _ g1 vr1 fr1 h1 => ?_⟩
  unfold asB at h1
  split at h1
  · have := fz_bl vr1
    subst this
    exact ⟨_, rfl, h1 F1 H1 (Grow.refl g1.sub)⟩
  · exact h1.elim
def cAnd (f g : Rho → Rs Bool) : Rho → Rs Bool := fun ρ => (f ρ).bind fun b => if b then g ρ else .ok false
def cOr (f g : Rho → Rs Bool) : Rho → Rs Bool := fun ρ => (f ρ).bind fun b => if b then .ok true else g ρ
def cNot (f : Rho → Rs Bool) : Rho → Rs Bool := fun ρ => (f ρ).bind fun b => .ok (!b)
variable {ca cb : Rho → Rs Bool} {rest : List Expr}
theorem w_and1 (ha : ET X W a ca) : EW X W (.BoolOp .And [a] pos) ca := pw_and1 ha
theorem w_or1 (ha : ET X W a ca) : EW X W (.BoolOp .Or [a] pos) ca := pw_or1 ha
theorem w_and (ha : ET X W a ca) (hb : EW X W (.BoolOp .And (b :: rest) pos) cb) : EW X W (.BoolOp .And (a :: b :: rest) pos) (cAnd ca cb) := pw_weak (pw_and ha hb) fun σ H Q ⟨B, ρ, F, R, h⟩ => by
  refine ⟨B, ρ, F, R, PstT.bindT h fun k F1 H1 _ g1 h1 => ?_⟩
  cases k with
  | true => exact ⟨B, ρ, F1, R.grow g1, h1⟩
  | false => exact h1 F1 H1 (Grow.refl g1.sub)
theorem w_or (ha : ET X W a ca) (hb : EW X W (.BoolOp .Or (b :: rest) pos) cb) : EW X W (.BoolOp .Or (a :: b :: rest) pos) (cOr ca cb) := pw_weak (pw_or ha hb) fun σ H Q ⟨B, ρ, F, R, h⟩ => by
  refine ⟨B, ρ, F, R, PstT.bindT h fun k F1 H1 _ g1 h1 => ?_⟩
  cases k with
  | true => exact h1 F1 H1 (Grow.refl g1.sub)
  | false => exact ⟨B, ρ, F1, R.grow g1, h1⟩
theorem t_w (h : EW X W a ca) : ET X W a ca := h.pt
theorem t_not (ha : ET X W a ca) : ET X W (.UnaryOp .Not a pos) (cNot ca) := pt_weak (L2.pt_not ha) fun σ H Q ⟨B, ρ, F, R, h⟩ => by
  refine ⟨B, ρ, F, R, PstT.bindT h fun k F1 H1 _ g1 h1 => ?_⟩
  exact h1 F1 H1 (Grow.refl g1.sub)
/-- and, or, not as values -/
def eAnd (f g : EV) : EV := fun ρ => (f ρ).bind fun x => (asB x).bind fun b => if b then g ρ else .ok (.fz (.bool false))
def eOr (f g : EV) : EV := fun ρ => (f ρ).bind fun x => (asB x).bind fun b => if b then .ok (.fz (.bool true)) else g ρ
def eNot (f : EV) : EV := fun ρ => (f ρ).bind fun x => (asB x).bind fun b => .ok (.fz (.bool (!b)))
theorem asB_ok {x : Sl} {b : Bool} (h : asB x = .ok b) : x = .fz (.bool b) := by
  unfold asB at h
  split at h
  · cases h; rfl
  · cases h
theorem asB_exc {x : Sl} {c : Str} (h : asB x = .exc c) : False := by
  unfold asB at h
  split at h <;> cases h
theorem e_one {op} (ha : EE X W a fa) : EE X W (.BoolOp op [a] pos) fa := pe_one ha
theorem e_and (ha : EE X W a fa) (hb : EE X W (.BoolOp .And (b :: rest) pos) fb) : EE X W (.BoolOp .And (a :: b :: rest) pos) (eAnd fa fb) := pe_weak (pe_and ha hb) fun σ H Q ⟨B, ρ, F, R, h⟩ => by
  refine ⟨B, ρ, F, R, Pst.bind h fun sx v F1 H1 A _ g1 vr1 fr1 h1 => ?_⟩
  cases e : asB sx with
  | ok k =>
    have := asB_ok e
    subst this
    have := fz_bl vr1
    subst this
    rw [e] at h1
    refine ⟨k, rfl, ?_⟩
    cases k with
    | true => exact ⟨B, ρ, F1, R.grow g1, h1⟩
    | false => exact h1.here (A := []) g1.sub ⟨rfl, .bl _⟩ (fun _ z => nomatch z)
  | exc c => exact (asB_exc e).elim
  | bad => rw [e] at h1; exact h1.elim
theorem e_or (ha : EE X W a fa) (hb : EE X W (.BoolOp .Or (b :: rest) pos) fb) : EE X W (.BoolOp .Or (a :: b :: rest) pos) (eOr fa fb) := pe_weak (pe_or ha hb) fun σ H Q ⟨B, ρ, F, R, h⟩ => by
  refine ⟨B, ρ, F, R, Pst.bind h fun sx v F1 H1 A _ g1 vr1 fr1 h1 => ?_⟩
  cases e : asB sx with
  | ok k =>
    have := asB_ok e
    subst this
    have := fz_bl vr1
    subst this
    rw [e] at h1
    refine ⟨k, rfl, ?_⟩
    cases k with
    | true => exact h1.here (A := []) g1.sub ⟨rfl, .bl _⟩ (fun _ z => nomatch z)
    | false => exact ⟨B, ρ, F1, R.grow g1, h1⟩
  | exc c => exact (asB_exc e).elim
  | bad => rw [e] at h1; exact h1.elim
theorem e_not (ha : EE X W a fa) : EE X W (.UnaryOp .Not a pos) (eNot fa) := pe_weak (pe_not ha) fun σ H Q ⟨B, ρ, F, R, h⟩ => by
  refine ⟨B, ρ, F, R, Pst.bind h fun sx v F1 H1 A _ g1 vr1 fr1 h1 => ?_⟩
  cases e : asB sx with
  | ok k =>
    have := asB_ok e
    subst this
    have := fz_bl vr1
    subst this
    rw [e] at h1
    exact ⟨k, rfl, h1.here (A := []) g1.sub ⟨rfl, .bl _⟩ (fun _ z => nomatch z)⟩
  | exc c => exact (asB_exc e).elim
  | bad => rw [e] at h1; exact h1.elim
def eIf (c : Rho → Rs Bool) (f g : EV) : EV := fun ρ => (c ρ).bind fun b => if b then f ρ else g ρ
theorem e_if (hc : ET X W c ca) (ha : EE X W a fa) (hb : EE X W b fb) : EE X W (.IfExp c a b pos) (eIf ca fa fb) := pe_weak (pe_ifExp hc ha hb) fun σ H Q ⟨B, ρ, F, R, h⟩ => by
  refine ⟨B, ρ, F, R, PstT.bind h fun k F1 H1 _ g1 h1 => ?_⟩
  cases k with
  | true => exact ⟨B, ρ, F1, R.grow g1, h1⟩
  | false => exact ⟨B, ρ, F1, R.grow g1, h1⟩
/-- a < b < c : two comparisons, the middle once -/
def eChain (f g : Op2) (a b c : EV) : EV := fun ρ => (a ρ).bind fun x => (b ρ).bind fun y => (Rs.of (f x y)).bind fun z => (asB z).bind fun k => if k then (c ρ).bind fun w => Rs.of (g y w) else .ok (.fz (.bool false))
theorem tv_chain {K : PySem.W.Frag} {mg : MG} {r r' : R2} {f g : Op2} {fa fb fc : EV} (hs : OpS K r f) (hs' : OpS K r' g) (σ : L2.St) (H : Hp) (Q : VK) (h : tV K mg W (eChain f g fa fb fc) σ H Q) : tChain r r' (tV K mg W fa) (tV K mg W fb) (tV K mg W fc) σ H Q := by
  obtain ⟨B, ρ, F, R, h⟩ := h
  refine ⟨B, ρ, F, R, Pst.bind h fun sx v F1 H1 A _ g1 vr1 fr1 h1 => ?_⟩
  refine ⟨B, ρ, F1, R.grow g1, Pst.bind h1 fun sy w F2 H2 A2 _ g2 vr2 fr2 h2 => ?_⟩
  cases e : f sx sy with
  | none => rw [e] at h2; exact h2.elim
  | some sz =>
    rw [e] at h2
    refine hs B F2 H2 v w A A2 sx sy sz _ (R.gr.trans (g1.trans g2)) (vr1.grow g2) vr2 e fun u F3 H3 A3 g3 vr3 fr3 => ?_
    have h3 : Pst K mg W B σ F2 H2 ((asB sz).bind fun k => if k then (fc ρ).bind fun w => Rs.of (g sy w) else .ok (.fz (.bool false))) Q := h2
    cases e3 : asB sz with
    | ok k =>
      have := asB_ok e3
      subst this
      have := fz_bl vr3
      subst this
      rw [e3] at h3
      refine ⟨k, rfl, ?_⟩
      cases k with
      | true =>
        rw [if_pos rfl]
        refine ⟨B, ρ, F3, ((R.grow g1).grow g2).grow g3, Pst.bind (Pst.grow g3 h3) fun sw w' F4 H4 A4 _ g4 vr4 fr4 h4 => ?_⟩
        cases e4 : g sy sw with
        | none => rw [e4] at h4; exact h4.elim
        | some sl =>
          rw [e4] at h4
          exact hs' B F4 H4 w w' A2 A4 sy sw sl Q (R.gr.trans (g1.trans (g2.trans (g3.trans g4)))) ((vr2.grow g3).grow g4) vr4 e4 h4
      | false =>
        rw [if_neg Bool.false_ne_true]
        exact (Pst.grow g3 h3).here (A := []) g3.sub ⟨rfl, .bl _⟩ (fun _ z => nomatch z)
    | exc c => exact (asB_exc e3).elim
    | bad => rw [e3] at h3; exact h3.elim
theorem e_chain {op op' : CmpOp} {r r' : R2} {f g : Op2} {fc : EV} (ho : OpR X (compareOp op) r) (ho' : OpR X (compareOp op') r') (hs : OpS X.K r f) (hs' : OpS X.K r' g) (ha : EE X W a fa) (hb : EE X W b fb) (hc : EE X W c fc)
    (hm : lastMarks [op, op'] [b, c] = false) :
    EE X W (.Compare a [op, op'] [b, c] pos) (eChain f g fa fb fc) := pe_weak (pe_chain ho ho' ha hb hc hm) (tv_chain hs hs')
theorem e_leLe {fc : EV} (ha : EE X W a fa) (hb : EE X W b fb) (hc : EE X W c fc) : EE X W (.Compare a [.LtE, .LtE] [b, c] pos) (eChain leOp leOp fa fb fc) := e_chain op_le op_le ops_le ops_le ha hb hc (nomark _)
theorem e_leLt {fc : EV} (ha : EE X W a fa) (hb : EE X W b fb) (hc : EE X W c fc) : EE X W (.Compare a [.LtE, .Lt] [b, c] pos) (eChain leOp ltOp fa fb fc) := e_chain op_le op_lt ops_le ops_lt ha hb hc (nomark _)
theorem e_ltLt {fc : EV} (ha : EE X W a fa) (hb : EE X W b fb) (hc : EE X W c fc) : EE X W (.Compare a [.Lt, .Lt] [b, c] pos) (eChain ltOp ltOp fa fb fc) := e_chain op_lt op_lt ops_lt ops_lt ha hb hc (nomark _)

/-! ### comparisons as tests -/
theorem tv_tt {K : PySem.W.Frag} {mg : MG} {f : EV} (σ : L2.St) (H : Hp) (Q : Bool → Hp → Prop) (h : tT K mg W (cB f) σ H Q) : tV K mg W f σ H fun x H' => ∃ k, x = .bl k ∧ Q k H' := by
  obtain ⟨B, ρ, F, R, h⟩ := h
  refine ⟨B, ρ, F, R, Pst.bindT h fun sx v F1 H1 A _ g1 vr1 fr1 h1 => ?_⟩
  unfold asB at h1
  split at h1
  · have := fz_bl vr1
    subst this
    exact ⟨_, rfl, h1 F1 H1 (Grow.refl g1.sub)⟩
  · exact h1.elim
theorem t_cmp {op : CmpOp} {r : R2} {f : Op2} (ho : OpR X (compareOp op) r) (hs : OpS X.K r f) (ha : EE X W a fa) (hb : EE X W b fb) (hm : behindInMarks op b = false := by first | exact nobehind _ (by decide) (by decide) | rfl) : ET X W (.Compare a [op] [b] pos) (cB (eBin f fa fb)) :=
  pt_weak (pt_cmpR ho ha hb hm) fun σ H Q h => tv_bin hs σ H _ (tv_tt σ H Q h)
theorem t_chain {op op' : CmpOp} {r r' : R2} {f g : Op2} {fc : EV} (ho : OpR X (compareOp op) r) (ho' : OpR X (compareOp op') r') (hs : OpS X.K r f) (hs' : OpS X.K r' g) (ha : EE X W a fa) (hb : EE X W b fb) (hc : EE X W c fc)
    (hm : lastMarks [op, op'] [b, c] = false) : ET X W (.Compare a [op, op'] [b, c] pos) (cB (eChain f g fa fb fc)) := pt_weak (pt_chain ho ho' ha hb hc hm) fun σ H Q h => tv_chain hs hs' σ H _ (tv_tt σ H Q h)
theorem t_lt (ha : EE X W a fa) (hb : EE X W b fb) : ET X W (.Compare a [.Lt] [b] pos) (cB (eBin ltOp fa fb)) := t_cmp op_lt ops_lt ha hb
theorem t_le (ha : EE X W a fa) (hb : EE X W b fb) : ET X W (.Compare a [.LtE] [b] pos) (cB (eBin leOp fa fb)) := t_cmp op_le ops_le ha hb
theorem t_gt (ha : EE X W a fa) (hb : EE X W b fb) : ET X W (.Compare a [.Gt] [b] pos) (cB (eBin gtOp fa fb)) := t_cmp op_gt ops_gt ha hb
theorem t_ge (ha : EE X W a fa) (hb : EE X W b fb) : ET X W (.Compare a [.GtE] [b] pos) (cB (eBin geOp fa fb)) := t_cmp op_ge ops_ge ha hb
theorem t_eq (hu : X.A.units + 65 < cLine) (ha : EE X W a fa) (hb : EE X W b fb) : ET X W (.Compare a [.Eq] [b] pos) (cB (eBin eqOp fa fb)) := t_cmp (op_eqD (by omega)) ops_eq ha hb
theorem t_ne (hu : X.A.units + 65 < cLine) (ha : EE X W a fa) (hb : EE X W b fb) : ET X W (.Compare a [.NotEq] [b] pos) (cB (eBin neOp fa fb)) := t_cmp (op_neD (by omega)) ops_ne ha hb
theorem t_inL (hu : X.A.units + 65 < cLine) (ha : EE X W a fa) (hb : EE X W b fb) (hm : behindInMarks .In b = false := by rfl) : ET X W (.Compare a [.In] [b] pos) (cB (eBin inLOp fa fb)) := t_cmp (op_inD hu) ops_inL ha hb hm
theorem t_niL (hu : X.A.units + 65 < cLine) (ha : EE X W a fa) (hb : EE X W b fb) (hm : behindInMarks .NotIn b = false := by rfl) : ET X W (.Compare a [.NotIn] [b] pos) (cB (eBin niLOp fa fb)) := t_cmp (op_notInD hu) ops_niL ha hb hm
theorem t_isN (ha : EE X W a fa) (hb : EE X W b fb) : ET X W (.Compare a [.Is] [b] pos) (cB (eBin isNOp fa fb)) := t_cmp op_isN ops_isN ha hb
theorem t_notN (ha : EE X W a fa) (hb : EE X W b fb) : ET X W (.Compare a [.IsNot] [b] pos) (cB (eBin notNOp fa fb)) := t_cmp op_notN ops_notN ha hb
theorem t_leLe {fc : EV} (ha : EE X W a fa) (hb : EE X W b fb) (hc : EE X W c fc) : ET X W (.Compare a [.LtE, .LtE] [b, c] pos) (cB (eChain leOp leOp fa fb fc)) := t_chain op_le op_le ops_le ops_le ha hb hc (nomark _)
theorem t_leLt {fc : EV} (ha : EE X W a fa) (hb : EE X W b fb) (hc : EE X W c fc) : ET X W (.Compare a [.LtE, .Lt] [b, c] pos) (cB (eChain leOp ltOp fa fb fc)) := t_chain op_le op_lt ops_le ops_lt ha hb hc (nomark _)
theorem t_ltLt {fc : EV} (ha : EE X W a fa) (hb : EE X W b fb) (hc : EE X W c fc) : ET X W (.Compare a [.Lt, .Lt] [b, c] pos) (cB (eChain ltOp ltOp fa fb fc)) := t_chain op_lt op_lt ops_lt ops_lt ha hb hc (nomark _)

/-! ### arguments, displays -/
def settle : Sl → Sl
  | .ow ds => .fz (.list ds)
  | .og d => .fz d
  | s => s
theorem settle_ok {K : PySem.W.Frag} {B : Bs} {F H F1 H1 : Hp} {v : V} {A : List Addr} {sl : Sl} (g : Grow F H F1 H1) (vr : VRep K B F1 H1 v A sl) (fr : ∀ a ∈ A, H a = none) (kd : ∀ k, sl ≠ .di k) (kt : ∀ k, sl ≠ .dt k) : ∃ F2, Grow F H F2 H1 ∧ VRep K B F2 H1 v [] (settle sl) := by
  cases sl with
  | no => exact vr.elim
  | di k => exact absurd rfl (kd k)
  | dt k => exact absurd rfl (kt k)
  | fz d => exact ⟨F1, g, rfl, vr.2⟩
  | br d => exact ⟨F1, g, rfl, vr.2⟩
  | vw d => exact ⟨F1, g, rfl, vr.2⟩
  | scr d => exact ⟨F1, g, rfl, vr.2⟩
  | vg d => exact ⟨F1, g, rfl, vr.2⟩
  | exo d => exact ⟨F1, g, rfl, vr.2⟩
  | og d =>
    obtain ⟨l, r⟩ := vr
    have e2 : Ex F1 (fun a => if a ∈ A then H1 a else F1 a) := fun a o h => by
      by_cases ha : a ∈ A
      · rw [(r.known a ha).1] at h; cases h
      · simp only [if_neg ha]; exact h
    refine ⟨fun a => if a ∈ A then H1 a else F1 a, ⟨g.exF.trans e2, g.exH, fun a o h => ?_, fun a o h => ?_⟩, rfl, r.fr e2 fun a ha => by simp only [if_pos ha]⟩
    · by_cases ha : a ∈ A
      · simp only [if_pos ha] at h; exact h
      · simp only [if_neg ha] at h; exact g.sub _ _ h
    · by_cases ha : a ∈ A
      · exact .inr (.inl (fr a ha))
      · simp only [if_neg ha] at h; exact g.news a o h
  | ow ds =>
    obtain ⟨p, xs, rfl, rfl, f, h, q⟩ := vr
    have nH : H p = none := fr p (List.mem_cons_self ..)
    have e2 : Ex F1 (upd F1 p (.lst xs)) := Ex.new f
    have s2 : Ex (upd F1 p (.lst xs)) H1 := fun a u e => by
      by_cases hp : a = p
      · subst hp; rw [upd_same] at e; cases e; exact h
      · rw [upd_ne hp] at e; exact g.sub a u e
    refine ⟨upd F1 p (.lst xs), ⟨g.exF.trans e2, g.exH, s2, fun a u e => ?_⟩, rfl, .lst upd_same (q.mono e2)⟩
    by_cases hp : a = p
    · subst hp; exact .inr (.inl nH)
    · rw [upd_ne hp] at e; exact g.news a u e
end
end BV
namespace BV
open PySem PySem.Spec PyProof.Rows L2
/-- a value handed on: a fresh list is nobody's to change -/
def argS : Sl → Rs Sl
  | .no => .bad
  | .di _ => .bad
  | .dt _ => .bad
  | .ow ds => .ok (.fz (.list ds))
  | .og d => .ok (.fz d)
  | s => .ok s
theorem argS_ok {s t : Sl} (h : argS s = .ok t) : t = settle s ∧ (∀ k, s ≠ .di k) ∧ (∀ k, s ≠ .dt k) := by
  cases s <;> simp [argS, settle] at h ⊢ <;> exact h.symm
theorem argS_exc {s : Sl} {c : Str} (h : argS s = .exc c) : False := by cases s <;> simp [argS] at h
def aNil : Rho → Rs (List Sl) := fun _ => .ok []
def aCons (f : EV) (fs : Rho → Rs (List Sl)) : Rho → Rs (List Sl) := fun ρ => (f ρ).bind fun s => (argS s).bind fun t => (fs ρ).bind fun ss => .ok (t :: ss)
section
variable {K : PySem.W.Frag} {mg : MG} {W : WX} {B : Bs} {σ : L2.St} {F H F1 H1 : Hp}
theorem ARs.grow {vs : List V} {ss : List Sl} (g : Grow F H F1 H1) (h : ARs K B F H vs ss) : ARs K B F1 H1 vs ss := Paired.mapP h fun _ _ z => z.grow g
theorem Pst.bindA0 {r : Rs Sl} {k : Sl → Rs (List Sl)} {Q : List V → Hp → Prop} {Q' : VK} (h : PstA K mg W B σ F H (r.bind k) Q)
    (hQ : ∀ sl v F' H' A, r = .ok sl → Grow F H F' H' → VRep K B F' H' v A sl → (∀ a ∈ A, H a = none) → PstA K mg W B σ F H (k sl) Q → Q' v H') : Pst K mg W B σ F H r Q' := by
  cases r with
  | ok sl => exact fun v F' H' A g vr fr => hQ sl v F' H' A rfl g vr fr h
  | exc c => exact h
  | bad => exact h
end
section
variable {X : Cx} {W : WX} {e : Expr} {es : List Expr} {f : EV} {fs : Rho → Rs (List Sl)} {pos : Pos}
theorem a_nil : EA X W [] aNil := pa_weak pa_nil fun σ H Q ⟨B, ρ, F, R, h⟩ => h [] F H (Grow.refl R.gr.sub) .nil
theorem a_cons (ha : EE X W e f) (hr : EA X W es fs) (hs : starEach (e :: es) X.env = (false, eval e X.env) :: starEach es X.env := by rfl) : EA X W (e :: es) (aCons f fs) := pa_weak (pa_cons ha hr hs) fun σ H Q ⟨B, ρ, F, R, h⟩ => by
  refine ⟨B, ρ, F, R, Pst.bindA0 h fun sx v F1 H1 A _ g1 vr1 fr1 h1 => ?_⟩
  cases e1 : argS sx with
  | exc c => exact (argS_exc e1).elim
  | bad => rw [e1] at h1; exact h1.elim
  | ok t =>
    rw [e1] at h1
    obtain ⟨rfl, kd, kt⟩ := argS_ok e1
    obtain ⟨F2, g2, vr2⟩ := settle_ok g1 vr1 fr1 kd kt
    refine ⟨B, ρ, F2, R.grow g2, PstA.bindA (PstA.grow g2 h1) fun ss vs F3 H3 _ g3 ar h3 => ?_⟩
    exact h3 _ F3 H3 (Grow.refl g3.sub) (.cons (vr2.grow g3) ar)
def allFz : List Sl → Option (List D)
  | [] => some []
  | .fz d :: r => (allFz r).map (d :: ·)
  | _ => none
theorem allFz_ok {K : PySem.W.Frag} {B : Bs} {F H : Hp} : ∀ {vs : List V} {ss : List Sl} {ds : List D}, ARs K B F H vs ss → allFz ss = some ds → RpAll F vs ds
  | _, _, _, .nil, h => by cases h; exact .nil
  | _, .fz d :: r, ds, .cons h t, e => by
    obtain ⟨es, e1, e2⟩ := Option.map_eq_some_iff.mp (show (allFz r).map (d :: ·) = some ds from e)
    subst e2
    exact .cons h.2 (allFz_ok t e1)
  | _, .no :: r, ds, _, e => by cases e
  | _, .br _ :: r, ds, _, e => by cases e
  | _, .vw _ :: r, ds, _, e => by cases e
  | _, .ow _ :: r, ds, _, e => by cases e
  | _, .scr _ :: r, ds, _, e => by cases e
  | _, .di _ :: r, ds, _, e => by cases e
  | _, .dt _ :: r, ds, _, e => by cases e
  | _, .og _ :: r, ds, _, e => by cases e
  | _, .vg _ :: r, ds, _, e => by cases e
  | _, .exo _ :: r, ds, _, e => by cases e
def eTup (fs : Rho → Rs (List Sl)) : EV := fun ρ => (fs ρ).bind fun ss => match allFz ss with
  | some ds => if ds.length ≤ 1000 then .ok (.fz (.tuple ds)) else .bad
  | none => .bad
def eLst (fs : Rho → Rs (List Sl)) : EV := fun ρ => (fs ρ).bind fun ss => match allFz ss with
  | some ds => if ds.length ≤ 1000 then .ok (.ow ds) else .bad
  | none => .bad
theorem e_tup {x1} (ha : EA X W es fs) : EE X W (.Tuple es x1 pos) (eTup fs) := pe_weak (pe_tup ha) fun σ H Q ⟨B, ρ, F, R, h⟩ => by
  refine ⟨B, ρ, F, R, PstA.bind h fun ss vs F1 H1 _ g1 ar h1 => ?_⟩
  split at h1
  · rename_i ds e1
    split at h1
    · rename_i hz
      have rp := allFz_ok ar e1
      refine ⟨by rw [rp.length]; exact sz_of (by omega), fun p np => new_tup g1.sub h1 rp p np⟩
    · exact h1.elim
  · exact h1.elim
theorem e_lst (ha : EA X W es fs) : EE X W (.List es pos) (eLst fs) := pe_weak (pe_lst ha) fun σ H Q ⟨B, ρ, F, R, h⟩ => by
  refine ⟨B, ρ, F, R, PstA.bind h fun ss vs F1 H1 _ g1 ar h1 => ?_⟩
  split at h1
  · rename_i ds e1
    split at h1
    · rename_i hz
      have rp := allFz_ok ar e1
      refine ⟨by rw [rp.length]; exact sz_of (by omega), fun p np => new_ow g1.sub h1 rp p np⟩
    · exact h1.elim
  · exact h1.elim

/-! ### built-ins by their names -/
def CalS (K : PySem.W.Frag) (r : List V → Hp → VK → Prop) (f : List Sl → Option Sl) : Prop := ∀ (B : Bs) (F H : Hp) (vs : List V) (ss : List Sl) (sl : Sl) (Q : VK), Grow B.F0 B.H0 F H → ARs K B F H vs ss → f ss = some sl →
  (∀ v F' H' A, Grow F H F' H' → VRep K B F' H' v A sl → (∀ a ∈ A, H a = none) → Q v H') → r vs H Q
def eCB (f : List Sl → Option Sl) (fs : Rho → Rs (List Sl)) : EV := fun ρ => (fs ρ).bind fun ss => Rs.of (f ss)
theorem tv_cb {K : PySem.W.Frag} {mg : MG} {r : List V → Hp → VK → Prop} {g : List Sl → Option Sl} (hs : CalS K r g) (σ : L2.St) (H : Hp) (Q : VK) (h : tV K mg W (eCB g fs) σ H Q) : tCB r (tA K mg W fs) σ H Q := by
  obtain ⟨B, ρ, F, R, h⟩ := h
  refine ⟨B, ρ, F, R, PstA.bind h fun ss vs F1 H1 _ g1 ar h1 => ?_⟩
  cases e : g ss with
  | none => rw [e] at h1; exact h1.elim
  | some sl =>
    rw [e] at h1
    exact hs B F1 H1 vs ss sl Q (R.gr.trans g1) ar e h1
theorem e_callB {id : String} {r : List V → Hp → VK → Prop} {g : List Sl → Option Sl} {x : Str} {p : Pos} (hc : CallR X (.builtin id) r) (hs : CalS X.K r g) (hm : X.mg x = none) (hv : bootBuiltins x = some (.builtin id)) (ha : EA X W (e :: es) fs) (hg : Gl X x := by rfl) (hn : x ≠ "__name__" := by decide) (hdb : (x == ("__debug__" : Str)) = false := by decide)
    (he : starEach (e :: es) X.env = (false, eval e X.env) :: starEach es X.env := by rfl) (hpl : (backTo pos (starEach es X.env)).any (·.1) = false := by rfl) : EE X W (.Call (.Name x p) (e :: es) [] pos) (eCB g fs) := pe_weak (pe_callB hc hg hm hv ha hn hdb he hpl) (tv_cb hs)
theorem e_callTy {T : String} {r : List V → Hp → VK → Prop} {g : List Sl → Option Sl} {x : Str} {p : Pos} (hc : CallR X (.type T) r) (hs : CalS X.K r g) (hm : X.mg x = none) (hv : bootBuiltins x = some (.type T)) (ha : EA X W (e :: es) fs) (hg : Gl X x := by rfl) (hn : x ≠ "__name__" := by decide) (hdb : (x == ("__debug__" : Str)) = false := by decide)
    (he : starEach (e :: es) X.env = (false, eval e X.env) :: starEach es X.env := by rfl) (hpl : (backTo pos (starEach es X.env)).any (·.1) = false := by rfl) : EE X W (.Call (.Name x p) (e :: es) [] pos) (eCB g fs) := pe_weak (pe_callTy hc hg hm hv ha hn hdb he hpl) (tv_cb hs)
theorem callR_or {f : Value} {r r' : List V → Hp → VK → Prop} (h : CallR X f r) (h' : CallR X f r') : CallR X f (fun xs H Q => r xs H Q ∨ r' xs H Q) := fun pins s σ H xs us Q I v q => by
  rcases q with q | q
  · exact h pins s σ H xs us Q I v q
  · exact h' pins s σ H xs us Q I v q
theorem ar1 {K : PySem.W.Frag} {B : Bs} {F H : Hp} {vs : List V} {s : Sl} (h : ARs K B F H vs [s]) : ∃ v, vs = [v] ∧ VRep K B F H v [] s := by
  cases h with
  | cons h t => cases t; exact ⟨_, rfl, h⟩
theorem ar2 {K : PySem.W.Frag} {B : Bs} {F H : Hp} {vs : List V} {s t : Sl} (h : ARs K B F H vs [s, t]) : ∃ v w, vs = [v, w] ∧ VRep K B F H v [] s ∧ VRep K B F H w [] t := by
  cases h with
  | cons h t => cases t with
    | cons h' t => cases t; exact ⟨_, _, rfl, h, h'⟩
/-- len -/
def rLen (K : PySem.W.Frag) : List V → Hp → VK → Prop := fun xs H Q => (fun (xs : List V) (H : Hp) (Q : VK) => ∃ p ys, xs = [.ref p] ∧ (SqL K H p ys ∨ SqT K H p ys) ∧ Q (.int ys.length) H) xs H Q ∨ (fun (xs : List V) (H : Hp) (Q : VK) => ∃ z, xs = [.str z] ∧ z.length ≤ sizeLine ∧ Q (.int z.length) H) xs H Q
theorem call_lenA : CallR X (.builtin "len") (rLen X.K) := callR_or call_len_seq call_len_str
def lenF : List Sl → Option Sl
  | [s] => match s.lst with
    | some ds => some (.fz (.int ds.length))
    | none => match s.tup with
      | some ds => some (.fz (.int ds.length))
      | none => match s with
        | .fz (.str z) => b2o (decide (z.length ≤ 100000)) (.fz (.int z.length))
        | .scr ns => some (.fz (.int ns.length))
        | .vg (.list ds) => some (.fz (.int ds.length))
        | .vg (.tuple ds) => some (.fz (.int ds.length))
        | _ => none
  | _ => none
theorem cal_len {K : PySem.W.Frag} : CalS K (rLen K) lenF := by
  intro B F H vs ss sl Q gr ar e q
  unfold lenF at e
  split at e
  · obtain ⟨v, rfl, r1⟩ := ar1 ar
    split at e
    · rename_i ds h1
      cases e
      obtain ⟨p, xs, rfl, hp, rp⟩ := r1.list gr h1
      exact .inl ⟨p, xs, rfl, .inl (.inl (.inl hp)), by rw [rp.length]; exact VRep.atom gr.sub q (Rp.int _)⟩
    · split at e
      · rename_i ds h1
        cases e
        obtain ⟨p, xs, rfl, _, hp, rp⟩ := r1.tuple gr h1
        exact .inl ⟨p, xs, rfl, .inr (.inl (.inl hp)), by rw [rp.length]; exact VRep.atom gr.sub q (Rp.int _)⟩
      · split at e
        · rename_i z _ _
          obtain ⟨e1, e2⟩ := b2o_some e
          subst e2
          have := fz_str r1
          subst this
          exact .inr ⟨z, rfl, sz_of (of_decide_eq_true e1), VRep.atom gr.sub q (Rp.int _)⟩
        · rename_i ns _ _
          cases e
          obtain ⟨_, p, rfl, hp⟩ := r1
          exact .inl ⟨p, _, rfl, .inl (sqL_mono gr.exH hp), by rw [List.length_map]; exact VRep.atom gr.sub q (Rp.int _)⟩
        · cases e
          obtain ⟨_, _, A', r1⟩ := r1
          cases r1 with
          | leaf l r => cases l
          | lst f h n ra => exact .inl ⟨_, _, rfl, .inl (.inl (.inl h)), by rw [ra.length]; exact VRep.atom gr.sub q (Rp.int _)⟩
        · cases e
          obtain ⟨_, l0, A', r1⟩ := r1
          cases r1 with
          | leaf l r => rw [l0] at l; cases l
          | tup l f h n ra => exact .inl ⟨_, _, rfl, .inr (.inl (.inl h)), by rw [ra.length]; exact VRep.atom gr.sub q (Rp.int _)⟩
        · cases e
  · cases e
theorem e_len {p : Pos} {x : Expr} (hm : X.mg "len" = none) (ha : EA X W [x] fs) (hg : Gl X "len" := by rfl) (he : starEach [x] X.env = (false, eval x X.env) :: starEach [] X.env := by rfl) : EE X W (.Call (.Name "len" p) [x] [] pos) (eCB lenF fs) := e_callB call_lenA cal_len hm PySem.boot_len ha hg (by decide) (by decide) he rfl
def intF1 (g : Int → Int) : List Sl → Option Sl
  | [.fz (.int i)] => some (.fz (.int (g i)))
  | _ => none
def intF2 (g : Int → Int → Int) : List Sl → Option Sl
  | [.fz (.int i), .fz (.int j)] => some (.fz (.int (g i j)))
  | _ => none
theorem cal_abs {K : PySem.W.Frag} : CalS K (fun xs H Q => ∃ i, xs = [.int i] ∧ Q (.int (if i < 0 then -i else i)) H) (intF1 fun i => if i < 0 then -i else i) := by
  intro B F H vs ss sl Q gr ar e q
  unfold intF1 at e
  split at e
  · cases e
    obtain ⟨v, rfl, r1⟩ := ar1 ar
    have := fz_int r1
    subst this
    exact ⟨_, rfl, VRep.atom gr.sub q (Rp.int _)⟩
  · cases e
theorem e_abs {p : Pos} {x : Expr} (hm : X.mg "abs" = none) (ha : EA X W [x] fs) (hg : Gl X "abs" := by rfl) (he : starEach [x] X.env = (false, eval x X.env) :: starEach [] X.env := by rfl) : EE X W (.Call (.Name "abs" p) [x] [] pos) (eCB (intF1 fun i => if i < 0 then -i else i) fs) := e_callB call_abs cal_abs hm (by decide +kernel) ha hg (by decide) (by decide) he rfl
theorem cal_max {K : PySem.W.Frag} : CalS K (fun xs H Q => ∃ i j, xs = [.int i, .int j] ∧ Q (.int (if j > i then j else i)) H) (intF2 fun i j => if j > i then j else i) := by
  intro B F H vs ss sl Q gr ar e q
  unfold intF2 at e
  split at e
  · cases e
    obtain ⟨v, w, rfl, r1, r2⟩ := ar2 ar
    have := fz_int r1
    subst this
    have := fz_int r2
    subst this
    exact ⟨_, _, rfl, VRep.atom gr.sub q (Rp.int _)⟩
  · cases e
theorem cal_min {K : PySem.W.Frag} : CalS K (fun xs H Q => ∃ i j, xs = [.int i, .int j] ∧ Q (.int (if j < i then j else i)) H) (intF2 fun i j => if j < i then j else i) := by
  intro B F H vs ss sl Q gr ar e q
  unfold intF2 at e
  split at e
  · cases e
    obtain ⟨v, w, rfl, r1, r2⟩ := ar2 ar
    have := fz_int r1
    subst this
    have := fz_int r2
    subst this
    exact ⟨_, _, rfl, VRep.atom gr.sub q (Rp.int _)⟩
  · cases e
theorem e_max {p : Pos} {x y : Expr} (hc : X.calm = true) (hm : X.mg "max" = none) (ha : EA X W [x, y] fs) (hg : Gl X "max" := by rfl) (he : starEach [x, y] X.env = (false, eval x X.env) :: starEach [y] X.env := by rfl) (hpl : (backTo pos (starEach [y] X.env)).any (·.1) = false := by rfl) : EE X W (.Call (.Name "max" p) [x, y] [] pos) (eCB (intF2 fun i j => if j > i then j else i) fs) := e_callB (call_max2 hc) cal_max hm (by decide +kernel) ha hg (by decide) (by decide) he hpl
theorem e_min {p : Pos} {x y : Expr} (hc : X.calm = true) (hm : X.mg "min" = none) (ha : EA X W [x, y] fs) (hg : Gl X "min" := by rfl) (he : starEach [x, y] X.env = (false, eval x X.env) :: starEach [y] X.env := by rfl) (hpl : (backTo pos (starEach [y] X.env)).any (·.1) = false := by rfl) : EE X W (.Call (.Name "min" p) [x, y] [] pos) (eCB (intF2 fun i j => if j < i then j else i) fs) := e_callB (call_min2 hc) cal_min hm (by decide +kernel) ha hg (by decide) (by decide) he hpl
/-- int(x) of an int, a bool -/
def intOfF : List Sl → Option Sl
  | [.fz (.int i)] => some (.fz (.int i))
  | [.fz (.bool b)] => some (.fz (.int (if b then 1 else 0)))
  | _ => none
theorem cal_intOf {K : PySem.W.Frag} : CalS K (fun xs H Q => (∃ i, xs = [.int i] ∧ Q (.int i) H) ∨ ∃ k, xs = [.bl k] ∧ Q (.int (if k then 1 else 0)) H) intOfF := by
  intro B F H vs ss sl Q gr ar e q
  unfold intOfF at e
  split at e
  · cases e
    obtain ⟨v, rfl, r1⟩ := ar1 ar
    have := fz_int r1
    subst this
    exact .inl ⟨_, rfl, VRep.atom gr.sub q (Rp.int _)⟩
  · cases e
    obtain ⟨v, rfl, r1⟩ := ar1 ar
    have := fz_bl r1
    subst this
    exact .inr ⟨_, rfl, VRep.atom gr.sub q (Rp.int _)⟩
  · cases e
theorem e_intOf {p : Pos} {x : Expr} (hm : X.mg "int" = none) (ha : EA X W [x] fs) (hg : Gl X "int" := by rfl) (he : starEach [x] X.env = (false, eval x X.env) :: starEach [] X.env := by rfl) : EE X W (.Call (.Name "int" p) [x] [] pos) (eCB intOfF fs) := e_callTy call_int1 cal_intOf hm (by decide +kernel) ha hg (by decide) (by decide) he rfl
/-- list(x), tuple(x) -/
def listF : List Sl → Option Sl
  | [s] => match s.lst with
    | some ds => some (.ow ds)
    | none => match s.tup with
      | some ds => some (.ow ds)
      | none => none
  | _ => none
theorem cal_list {K : PySem.W.Frag} : CalS K (fun xs H Q => ∃ p ys, xs = [.ref p] ∧ (SqL K H p ys ∨ SqT K H p ys) ∧ ∀ l, H l = none → Q (.ref l) (upd H l (.lst ys))) listF := by
  intro B F H vs ss sl Q gr ar e q
  unfold listF at e
  split at e
  · obtain ⟨v, rfl, r1⟩ := ar1 ar
    split at e
    · rename_i ds h1
      cases e
      obtain ⟨p, xs, rfl, hp, rp⟩ := r1.list gr h1
      exact ⟨p, xs, rfl, .inl (.inl (.inl hp)), fun l nl => new_ow gr.sub q rp l nl⟩
    · split at e
      · rename_i ds h1
        cases e
        obtain ⟨p, xs, rfl, _, hp, rp⟩ := r1.tuple gr h1
        exact ⟨p, xs, rfl, .inr (.inl (.inl hp)), fun l nl => new_ow gr.sub q rp l nl⟩
      · cases e
  · cases e
theorem e_list {p : Pos} {x : Expr} (hm : X.mg "list" = none) (ha : EA X W [x] fs) (hg : Gl X "list" := by rfl) (he : starEach [x] X.env = (false, eval x X.env) :: starEach [] X.env := by rfl) : EE X W (.Call (.Name "list" p) [x] [] pos) (eCB listF fs) := e_callTy call_list_of cal_list hm (by decide +kernel) ha hg (by decide) (by decide) he rfl
def tupF : List Sl → Option Sl
  | [s] => match s.lst with
    | some ds => some (.fz (.tuple ds))
    | none => match s.tup with
      | some ds => some (.fz (.tuple ds))
      | none => none
  | _ => none
theorem cal_tup {K : PySem.W.Frag} : CalS K (fun xs H Q => ∃ p ys, xs = [.ref p] ∧ ((SqL K H p ys ∧ ∀ l, H l = none → Q (.ref l) (upd H l (.tup ys))) ∨ (SqT K H p ys ∧ Q (.ref p) H))) tupF := by
  intro B F H vs ss sl Q gr ar e q
  unfold tupF at e
  split at e
  · obtain ⟨v, rfl, r1⟩ := ar1 ar
    split at e
    · rename_i ds h1
      cases e
      obtain ⟨p, xs, rfl, hp, rp⟩ := r1.list gr h1
      exact ⟨p, xs, rfl, .inl ⟨.inl (.inl hp), fun l nl => new_tup gr.sub q rp l nl⟩⟩
    · split at e
      · rename_i ds h1
        cases e
        obtain ⟨p, xs, rfl, fp, hp, rp⟩ := r1.tuple gr h1
        exact ⟨p, xs, rfl, .inr ⟨.inl (.inl hp), VRep.atom gr.sub q (.tup fp rp)⟩⟩
      · cases e
  · cases e
theorem e_tupOf {p : Pos} {x : Expr} (hm : X.mg "tuple" = none) (ha : EA X W [x] fs) (hg : Gl X "tuple" := by rfl) (he : starEach [x] X.env = (false, eval x X.env) :: starEach [] X.env := by rfl) : EE X W (.Call (.Name "tuple" p) [x] [] pos) (eCB tupF fs) := e_callTy call_tuple_of cal_tup hm (by decide +kernel) ha hg (by decide) (by decide) he rfl
/-- all(list of bools) -/
def boolsOf : List D → Option (List Bool)
  | [] => some []
  | .bool b :: r => (boolsOf r).map (b :: ·)
  | _ => none
theorem boolsOf_ok {F : Hp} : ∀ {vs : List V} {ds : List D} {bs : List Bool}, RpAll F vs ds → boolsOf ds = some bs → vs = bs.map V.bl
  | _, _, _, .nil, h => by cases h; rfl
  | _, .bool b :: r, bs, .cons h t, e => by
    obtain ⟨es, e1, e2⟩ := Option.map_eq_some_iff.mp (show (boolsOf r).map (b :: ·) = some bs from e)
    subst e2
    cases h
    rw [boolsOf_ok t e1]
    rfl
  | _, .none :: r, _, _, e => by cases e
  | _, .int _ :: r, _, _, e => by cases e
  | _, .str _ :: r, _, _, e => by cases e
  | _, .list _ :: r, _, _, e => by cases e
  | _, .tuple _ :: r, _, _, e => by cases e
  | _, .dict _ :: r, _, _, e => by cases e
def allF : List Sl → Option Sl
  | [s] => (s.lst.bind boolsOf).map fun bs => .fz (.bool (bs.all id))
  | _ => none
theorem cal_all {K : PySem.W.Frag} : CalS K (rAll K) allF := by
  intro B F H vs ss sl Q gr ar e q
  unfold allF at e
  split at e
  · obtain ⟨v, rfl, r1⟩ := ar1 ar
    obtain ⟨bs, e1, e2⟩ := Option.map_eq_some_iff.mp e
    subst e2
    obtain ⟨ds, e3, e4⟩ := Option.bind_eq_some_iff.mp e1
    obtain ⟨p, xs, rfl, hp, rp⟩ := r1.list gr e3
    have := boolsOf_ok rp e4
    subst this
    exact ⟨p, bs, rfl, .inl (.inl hp), VRep.atom gr.sub q (Rp.bl _)⟩
  · cases e
/-- isinstance(x, T), T a built-in type -/
def tyName : Sl → Option String
  | .fz .none => some "NoneType"
  | .fz (.bool _) => some "bool"
  | .fz (.int _) => some "int"
  | .fz (.str _) => some "str"
  | .fz (.list _) => some "list"
  | .fz (.tuple _) => some "tuple"
  | .fz (.dict _) => some "dict"
  | .br _ => some "list"
  | .vw _ => some "list"
  | .ow _ => some "list"
  | .vg (.list _) => some "list"
  | .vg (.tuple _) => some "tuple"
  | .og (.list _) => some "list"
  | .og (.tuple _) => some "tuple"
  | _ => none
def isTab (a n : String) : Bool := a == n || (a == "bool" && n == "int")
theorem kit_tab : ∀ n ∈ ["int", "bool", "tuple", "list", "str"], ∀ a ∈ ["NoneType", "bool", "int", "str", "list", "tuple", "dict"], kitB a n = some (isTab a n) := by decide +kernel
theorem ty_of {K : PySem.W.Frag} {B : Bs} {F H : Hp} {v : V} {A : List Addr} {s : Sl} {a : String} (gr : Grow B.F0 B.H0 F H) (r : VRep K B F H v A s) (h : tyName s = some a) : a ∈ ["NoneType", "bool", "int", "str", "list", "tuple", "dict"] ∧ TyX K H v (.type a) := by
  have hl : ∀ {ds : List D}, s.lst = some ds → TyX K H v (.type "list") := fun {ds} e => by
    obtain ⟨p, xs, rfl, hp, _⟩ := r.list gr e
    exact .base (.lst hp)
  cases s with
  | no => cases h
  | scr _ => cases h
  | di _ => cases h
  | dt _ => cases h
  | exo _ => cases h
  | og d =>
    obtain ⟨l0, r1⟩ := r
    cases d <;> cases h
    · cases r1 with
      | leaf l r => cases l
      | lst f h n ra => exact ⟨by decide, .base (.lst h)⟩
    · cases r1 with
      | leaf l r => rw [l0] at l; cases l
      | tup l f h n ra => exact ⟨by decide, .base (.tup h)⟩
  | vg d =>
    obtain ⟨_, l0, A', r1⟩ := r
    cases d <;> cases h
    · cases r1 with
      | leaf l r => cases l
      | lst f h n ra => exact ⟨by decide, .base (.lst h)⟩
    · cases r1 with
      | leaf l r => rw [l0] at l; cases l
      | tup l f h n ra => exact ⟨by decide, .base (.tup h)⟩
  | br ds => cases h; exact ⟨by decide, hl rfl⟩
  | vw ds => cases h; exact ⟨by decide, hl rfl⟩
  | ow ds => cases h; exact ⟨by decide, hl rfl⟩
  | fz d =>
    cases d with
    | none => cases h; cases r.2; exact ⟨by decide, .base .non⟩
    | bool b => cases h; cases r.2; exact ⟨by decide, .base (.bl _)⟩
    | int i => cases h; cases r.2; exact ⟨by decide, .base (.int _)⟩
    | str x => cases h; cases r.2; exact ⟨by decide, .base (.str _)⟩
    | list ds => cases h; exact ⟨by decide, hl rfl⟩
    | tuple ds =>
      cases h
      obtain ⟨p, xs, rfl, _, hp, _⟩ := r.tuple gr rfl
      exact ⟨by decide, .base (.tup hp)⟩
    | dict _ =>
      cases h
      obtain ⟨_, r2⟩ := r
      cases r2 with
      | dict0 h1 => exact ⟨by decide, .base (.dK (gr.sub _ _ h1))⟩
def eIs (n : String) (f : EV) : EV := fun ρ => (f ρ).bind fun s => match tyName s with
  | some a => .ok (.fz (.bool (isTab a n)))
  | none => .bad
theorem e_isT {n : String} {x : Expr} {y : Str} {p p2 : Pos} (hmem : n ∈ ["int", "bool", "tuple", "list", "str"]) (hv : bootBuiltins y = some (.type n)) (hm : X.mg "isinstance" = none) (hm2 : X.mg y = none) (ha : EE X W x f) (hg : Gl X "isinstance" := by rfl) (hg2 : Gl X y := by rfl) (hn : y ≠ "__name__" := by decide) (hd : (y == ("__debug__" : Str)) = false := by decide)
    (he : starEach [x, .Name y p2] X.env = (false, eval x X.env) :: starEach [.Name y p2] X.env := by rfl) (he2 : starEach [.Name y p2] X.env = (false, eval (.Name y p2) X.env) :: starEach [] X.env := by rfl) (hpl : (backTo pos (starEach [.Name y p2] X.env)).any (·.1) = false := by rfl) :
    EE X W (.Call (.Name "isinstance" p) [x, .Name y p2] [] pos) (eIs n f) :=
  pe_weak (pe_callB call_isi hg hm (by decide +kernel) (pa_cons ha (pa_cons (pe_bltn (v := .ty n) hg2 hm2 hv rfl hn hd) pa_nil he2) he) (by decide) (by decide) he hpl) fun σ H Q ⟨B, ρ, F, R, h⟩ => by
    refine ⟨B, ρ, F, R, Pst.bind h fun s v F1 H1 A _ g1 vr fr h1 => ?_⟩
    split at h1
    · rename_i a ea
      obtain ⟨ma, ty⟩ := ty_of (R.gr.trans g1) vr ea
      exact ⟨v, .ty n, .type a, .type n, _, rfl, .ty n, ty, kit_ty (kit_tab n hmem a ma), h1.here (A := []) g1.sub ⟨rfl, .bl _⟩ (fun _ z => nomatch z)⟩
    · exact h1.elim
end
end BV
namespace BV
open PySem PySem.Spec PyProof.Rows L2
/-! ### statements -/
inductive Out where
  | nx (ρ : Rho)
  | bk (ρ : Rho)
  | ct (ρ : Rho)
  | rt (sl : Sl)
  | exc (c : Str) (ρ : Rho)
  | bad
abbrev SV := Rho → Out
def Rs.out {α : Type} (r : Rs α) (ρ : Rho) (k : α → Out) : Out := match r with
  | .ok a => k a
  | .exc c => .exc c ρ
  | .bad => .bad
@[simp] theorem Rs.out_ok {α : Type} (a : α) (ρ : Rho) (k : α → Out) : Rs.out (.ok a) ρ k = k a := rfl
@[simp] theorem Rs.out_exc {α : Type} (c : Str) (ρ : Rho) (k : α → Out) : Rs.out (.exc c) ρ k = .exc c ρ := rfl
@[simp] theorem Rs.out_bad {α : Type} (ρ : Rho) (k : α → Out) : Rs.out .bad ρ k = .bad := rfl
/-- what a def may hand back -/
def Sl.res : Sl → Bool
  | .fz _ => true
  | .ow _ => true
  | .og _ => true
  | _ => false
def PstS (K : PySem.W.Frag) (mg : MG) (W : WX) (B : Bs) (D : Ends) (o : Out) : Prop := match o with
  | .nx ρ => ∀ σ F H, Rep K B ρ σ F H → D.nx σ H
  | .bk ρ => ∀ σ F H, Rep K B ρ σ F H → D.bk σ H
  | .ct ρ => ∀ σ F H, Rep K B ρ σ F H → D.ct σ H
  | .rt sl => sl.res = true ∧ ∀ v F H A, Grow B.F0 B.H0 F H → VRep K B F H v A sl → (∀ a ∈ A, B.H0 a = none) → D.rt v H
  | .exc c ρ => ∀ σ F H, Rep K B ρ σ F H → ∀ cls, mg c = some cls → W cls none σ H
  | .bad => False
def tS (K : PySem.W.Frag) (mg : MG) (W : WX) (g : SV) : TS := fun D σ H => ∃ B ρ F, Rep K B ρ σ F H ∧ PstS K mg W B D (g ρ)
abbrev ES (X : Cx) (W : WX) (st : Stmt) (g : SV) : Prop := PS X st (tS X.K X.mg W g)
abbrev ESs (X : Cx) (W : WX) (st : List Stmt) (g : SV) : Prop := PSs X st (tS X.K X.mg W g)
section
variable {K : PySem.W.Frag} {mg : MG} {W : WX} {B : Bs} {D : Ends} {σ : L2.St} {ρ : Rho} {F H F1 H1 : Hp}
theorem PstS.expr {r : Rs Sl} {k : Sl → Out} {Q : VK} (R : Rep K B ρ σ F H) (h : PstS K mg W B D (r.out ρ k))
    (hQ : ∀ sl v F' H' A, r = .ok sl → Grow F H F' H' → VRep K B F' H' v A sl → (∀ a ∈ A, H a = none) → PstS K mg W B D (k sl) → Q v H') : Pst K mg W B σ F H r Q := by
  cases r with
  | ok sl => exact fun v F' H' A g vr fr => hQ sl v F' H' A rfl g vr fr h
  | exc c => exact fun F' H' g cls e => h σ F' H' (R.grow g) cls e
  | bad => exact h
theorem PstS.test {r : Rs Bool} {k : Bool → Out} {Q : Bool → Hp → Prop} (R : Rep K B ρ σ F H) (h : PstS K mg W B D (r.out ρ k))
    (hQ : ∀ b F' H', r = .ok b → Grow F H F' H' → PstS K mg W B D (k b) → Q b H') : PstT mg W σ F H r Q := by
  cases r with
  | ok b => exact fun F' H' g => hQ b F' H' rfl g h
  | exc c => exact fun F' H' g cls e => h σ F' H' (R.grow g) cls e
  | bad => exact h
theorem PstS.args {r : Rs (List Sl)} {k : List Sl → Out} {Q : List V → Hp → Prop} (R : Rep K B ρ σ F H) (h : PstS K mg W B D (r.out ρ k))
    (hQ : ∀ ss vs F' H', r = .ok ss → Grow F H F' H' → ARs K B F' H' vs ss → PstS K mg W B D (k ss) → Q vs H') : PstA K mg W B σ F H r Q := by
  cases r with
  | ok ss => exact fun vs F' H' g ar => hQ ss vs F' H' rfl g ar h
  | exc c => exact fun F' H' g cls e => h σ F' H' (R.grow g) cls e
  | bad => exact h
end
section
variable {X : Cx} {W : WX} {st : Stmt} {rest : List Stmt} {g g' : SV} {e : Expr} {f : EV} {pos : Pos}
theorem ps_weak {st : Stmt} {t t' : TS} (h : PS X st t) (hw : ∀ D σ H, t' D σ H → t D σ H) : PS X st t' := ⟨fun pins s σ H D I k => h.run pins s σ H D I (hw D σ H k)⟩
theorem pss_weak {st : List Stmt} {t t' : TS} (h : PSs X st t) (hw : ∀ D σ H, t' D σ H → t D σ H) : PSs X st t' := ⟨fun pins s σ H D I k => h.run pins s σ H D I (hw D σ H k)⟩
def sSeq (g g' : SV) : SV := fun ρ => match g ρ with
  | .nx ρ' => g' ρ'
  | o => o
def sNx : SV := fun ρ => .nx ρ
theorem b_nil : ESs X W [] sNx := pss_weak pss_nil fun D σ H ⟨B, ρ, F, R, h⟩ => h σ F H R
theorem seq_ok {K : PySem.W.Frag} {mg : MG} {B : Bs} {D : Ends} {ρ : Rho} (h : PstS K mg W B D (sSeq g g' ρ)) : PstS K mg W B { D with nx := tS K mg W g' D } (g ρ) := by
  unfold sSeq at h
  cases e : g ρ with
  | nx ρ' => rw [e] at h; exact fun σ F H R => ⟨B, ρ', F, R, h⟩
  | bk ρ' => rw [e] at h; exact h
  | ct ρ' => rw [e] at h; exact h
  | rt sl => rw [e] at h; exact h
  | exc c ρ' => rw [e] at h; exact h
  | bad => rw [e] at h; exact h
theorem b_cons (h1 : ES X W st g) (h2 : ESs X W rest g') : ESs X W (st :: rest) (sSeq g g') := pss_weak (pss_cons h1 h2) fun D σ H ⟨B, ρ, F, R, h⟩ => ⟨B, ρ, F, R, seq_ok h⟩
theorem b_one (h1 : ES X W st g) : ESs X W [st] g := pss_one h1
theorem s_pass : ES X W (.Pass pos) sNx := ps_weak ps_pass fun D σ H ⟨B, ρ, F, R, h⟩ => h σ F H R
def sBad : SV := fun _ => .bad
/-- a statement that is not come to -/
theorem s_never : ES X W st sBad := ps_weak ps_never fun D σ H ⟨B, ρ, F, R, h⟩ => h
theorem b_never {sts : List Stmt} : ESs X W sts sBad := pss_weak pss_never fun D σ H ⟨B, ρ, F, R, h⟩ => h

/-! ### a name is set -/
def sSet (i : Nat) (f : EV) : SV := fun ρ => (f ρ).out ρ fun sl => if sl.keeps then .nx (ρ.set i sl) else .bad
/-- .. and nobody changes it from then on -/
def sSetF (i : Nat) (f : EV) : SV := fun ρ => (f ρ).out ρ fun sl => (argS sl).out ρ fun t => if t.keeps then .nx (ρ.set i t) else .bad
theorem s_set {i : Nat} {x : Str} {pos' : Pos} (hN : X.N.Nodup) (he : EE X W e f) (hi : X.N[i]? = some x := by rfl) (hx : Loc X.env.scope x := by first | exact .inl rfl | exact .inr rfl) (hs : swapsWith e (some (.Name x pos')) pos.line X.env = pure false := by rfl) (hf : X.fn x = true ∨ X.env.scope.names.lookup x = some .local := by first | exact .inl rfl | exact .inr rfl) :
    ES X W (.Assign [.Name x pos'] e pos) (sSet i f) := ps_weak (ps_set hN hi hx he hs hf) fun D σ H ⟨B, ρ, F, R, h⟩ => by
  refine ⟨B, ρ, F, R, PstS.expr R h fun sl v F1 H1 A _ g1 vr fr h1 => ?_⟩
  split at h1
  · rename_i kp
    exact h1 _ F1 H1 (R.store g1 vr fr kp i)
  · exact h1.elim
theorem set_fz {K : PySem.W.Frag} {mg : MG} {B : Bs} {D : Ends} {σ : L2.St} {ρ : Rho} {F H F1 H1 : Hp} {v : V} {A : List Addr} {sl : Sl} {i : Nat} (R : Rep K B ρ σ F H) (g1 : Grow F H F1 H1) (vr : VRep K B F1 H1 v A sl) (fr : ∀ a ∈ A, H a = none)
    (h1 : PstS K mg W B D ((argS sl).out ρ fun t => if t.keeps then .nx (ρ.set i t) else .bad)) : D.nx (σ.set i (some v)) H1 := by
  cases e1 : argS sl with
  | exc c => exact (argS_exc e1).elim
  | bad => rw [e1] at h1; exact h1.elim
  | ok t =>
    rw [e1] at h1
    obtain ⟨rfl, kd, kt⟩ := argS_ok e1
    obtain ⟨F2, g2, vr2⟩ := settle_ok g1 vr fr kd kt
    rw [Rs.out_ok] at h1
    split at h1
    · rename_i kp
      exact h1 _ F2 H1 (R.store g2 vr2 (fun _ z => nomatch z) kp i)
    · exact h1.elim
theorem s_setF {i : Nat} {x : Str} {pos' : Pos} (hN : X.N.Nodup) (he : EE X W e f) (hi : X.N[i]? = some x := by rfl) (hx : Loc X.env.scope x := by first | exact .inl rfl | exact .inr rfl) (hs : swapsWith e (some (.Name x pos')) pos.line X.env = pure false := by rfl) (hf : X.fn x = true ∨ X.env.scope.names.lookup x = some .local := by first | exact .inl rfl | exact .inr rfl) :
    ES X W (.Assign [.Name x pos'] e pos) (sSetF i f) := ps_weak (ps_set hN hi hx he hs hf) fun D σ H ⟨B, ρ, F, R, h⟩ => by
  refine ⟨B, ρ, F, R, PstS.expr R h fun sl v F1 H1 A _ g1 vr fr h1 => set_fz R g1 vr fr h1⟩
/-- a, b = x, y -/
def sPar (i j : Nat) (fs : Rho → Rs (List Sl)) : SV := fun ρ => (fs ρ).out ρ fun ss => match ss with
  | [.fz d, .fz d'] => .nx ((ρ.set i (.fz d)).set j (.fz d'))
  | _ => .bad
theorem s_par {i j : Nat} {x y : Str} {a b : Expr} {fs : Rho → Rs (List Sl)} {px py pt : Pos} {kt k2 pt2} (hc : X.calm = true) (hN : X.N.Nodup) (ha : EA X W [a, b] fs) (hi : X.N[i]? = some x := by rfl) (hj : X.N[j]? = some y := by rfl) (hij : i ≠ j := by decide)
    (hx : X.env.scope.names.lookup x = some .local := by rfl) (hy : X.env.scope.names.lookup y = some .local := by rfl)
    (hw : swappedStores [.Tuple [.Name x px, .Name y py] kt pt] (.Tuple [a, b] k2 pt2) X.env = pure (some [x, y]) := by rfl)
    (hs : swapsWithSole [.Tuple [.Name x px, .Name y py] kt pt] (.Tuple [a, b] k2 pt2) pos.line X.env = pure false := by rfl) :
    ES X W (.Assign [.Tuple [.Name x px, .Name y py] kt pt] (.Tuple [a, b] k2 pt2) pos) (sPar i j fs) := ps_weak (ps_par hc hN hi hj hij hx hy ha hw hs) fun D σ H ⟨B, ρ, F, R, h⟩ => by
  refine ⟨B, ρ, F, R, PstS.args R h fun ss vs F1 H1 _ g1 ar h1 => ?_⟩
  split at h1
  · obtain ⟨v, w, rfl, r1, r2⟩ := ar2 ar
    refine ⟨v, w, rfl, h1 _ F1 H1 ?_⟩
    exact ((R.store g1 r1 (fun _ z => nomatch z) rfl i).store (Grow.refl g1.sub) r2 (fun _ z => nomatch z) rfl j)
  · exact h1.elim
def sIf (c : Rho → Rs Bool) (g g' : SV) : SV := fun ρ => (c ρ).out ρ fun b => if b then g ρ else g' ρ
theorem s_if {c : Expr} {ca : Rho → Rs Bool} {a b : List Stmt} (hc : ET X W c ca) (ha : ESs X W a g) (hb : ESs X W b g') : ES X W (.If c a b pos) (sIf ca g g') := ps_weak (ps_if hc ha hb) fun D σ H ⟨B, ρ, F, R, h⟩ => by
  refine ⟨B, ρ, F, R, PstS.test R h fun k F1 H1 _ g1 h1 => ?_⟩
  cases k with
  | true => exact ⟨B, ρ, F1, R.grow g1, h1⟩
  | false => exact ⟨B, ρ, F1, R.grow g1, h1⟩
def sRet (f : EV) : SV := fun ρ => (f ρ).out ρ fun sl => .rt sl
theorem s_ret (he : EE X W e f) : ES X W (.Return (some e) pos) (sRet f) := ps_weak (ps_ret he) fun D σ H ⟨B, ρ, F, R, h⟩ => by
  refine ⟨B, ρ, F, R, PstS.expr R h fun sl v F1 H1 A _ g1 vr fr h1 => ?_⟩
  exact h1.2 v F1 H1 A (R.gr.trans g1) vr fun a ha => R.gr.exH.back (fr a ha)
theorem s_retN : ES X W (.Return none pos) (fun _ => .rt (.fz .none)) := ps_weak ps_retN fun D σ H ⟨B, ρ, F, R, h⟩ => h.2 .non F H [] R.gr ⟨rfl, .non⟩ fun _ z => nomatch z
/-- return x, all of it -/
def sRetV (i : Nat) : SV := fun ρ => match ρ[i]? with
  | some sl => if sl.res then .rt sl else .bad
  | none => .bad
theorem s_retV {i : Nat} {x : Str} {p : Pos} (hN : X.N[i]? = some x := by rfl) (hv : Vis X.env.scope x := by first | exact Or.inl rfl | exact Or.inr (Or.inl rfl) | exact Or.inr (Or.inr rfl)) (hd : (x == ("__debug__" : Str)) = false := by decide)
    (hcd : (x == ("__classdict__" : Str)) = false := by decide) : ES X W (.Return (some (.Name x p)) pos) (sRetV i) := ps_weak (ps_ret (pe_var hN hv hd hcd)) fun D σ H ⟨B, ρ, F, R, h⟩ => by
  unfold sRetV at h
  cases e : ρ[i]? with
  | none => rw [e] at h; exact h.elim
  | some sl =>
    rw [e] at h
    obtain ⟨fp, h1, h2, h3⟩ := R.fp
    dsimp only at h
    split at h
    · rename_i hr
      rcases h1 i sl e with z | ⟨_, v, hv, vr⟩
      · subst z; cases hr
      · exact ⟨v, hv, h.2 v F H (fp i) R.gr vr fun a ha => (h3 i a ha).1⟩
    · exact h.elim

/-! ### while -/
def sWhileN (c : Rho → Rs Bool) (body : SV) : Nat → SV
  | 0, _ => .bad
  | n + 1, ρ => (c ρ).out ρ fun b => if b then (match body ρ with
      | .nx ρ' => sWhileN c body n ρ'
      | .ct ρ' => sWhileN c body n ρ'
      | .bk ρ' => .nx ρ'
      | o => o) else .nx ρ
def sWhile (fuel : Rho → Nat) (c : Rho → Rs Bool) (body : SV) : SV := fun ρ => sWhileN c body (fuel ρ) ρ
theorem s_while (fuel : Rho → Nat) {c : Expr} {ca : Rho → Rs Bool} {body : List Stmt} (hp : PassesOwn (model X.prog X.w) X.A X.env X.xe) (hc : ET X W c ca) (hb : ESs X W body g) : ES X W (.While c body [] pos) (sWhile fuel ca g) := ps_weak (ps_while hp hc hb) fun D σ H ⟨B, ρ, F, R, h⟩ => by
  refine ⟨fun m σ H => ∃ ρ F, Rep X.K B ρ σ F H ∧ PstS X.K X.mg W B D (sWhileN ca g m ρ), ⟨fuel ρ, ρ, F, R, h⟩, ?_⟩
  rintro m σ H ⟨ρ, F, R, h⟩
  cases m with
  | zero => exact h.elim
  | succ n =>
    refine ⟨B, ρ, F, R, PstS.test R h fun b F1 H1 _ g1 h1 => ?_⟩
    cases b with
    | false =>
      rw [if_neg Bool.false_ne_true]
      exact h1 σ F1 H1 (R.grow g1)
    | true =>
      rw [if_pos rfl]
      rw [if_pos rfl] at h1
      refine ⟨fun σ' H' => ∃ ρ F, Rep X.K B ρ σ' F H' ∧ PstS X.K X.mg W B D (sWhileN ca g n ρ), fun σ' H' w => ⟨n, Nat.lt_succ_self n, w⟩, B, ρ, F1, R.grow g1, ?_⟩
      cases e : g ρ with
      | nx ρ' => rw [e] at h1; exact fun σ F H R => ⟨ρ', F, R, h1⟩
      | ct ρ' => rw [e] at h1; exact fun σ F H R => ⟨ρ', F, R, h1⟩
      | bk ρ' => rw [e] at h1; exact h1
      | rt sl => rw [e] at h1; exact h1
      | exc c ρ' => rw [e] at h1; exact h1
      | bad => rw [e] at h1; exact h1

/-! ### targets -/
def TgS (K : PySem.W.Frag) (g : TG) (is : List Nat) (t : D → Rho → Option Rho) : Prop := ∀ (B : Bs) (ρ : Rho) (σ : L2.St) (F H : Hp) (v : V) (d : D) (ρ' : Rho), Rep K B ρ σ F H → Rp F v d → t d ρ = some ρ' → ∀ Q : L2.St → Hp → Prop, (∀ σ', Rep K B ρ' σ' F H → (∀ vs, (∀ i ∈ is, i ∈ vs) → wipe σ' vs = wipe σ vs) → Q σ' H) → g v σ H Q
def TgsS (K : PySem.W.Frag) (g : TGs) (is : List Nat) (t : List D → Rho → Option Rho) : Prop := ∀ (B : Bs) (ρ : Rho) (σ : L2.St) (F H : Hp) (vs : List V) (ds : List D) (ρ' : Rho), Rep K B ρ σ F H → RpAll F vs ds → t ds ρ = some ρ' → ∀ Q : L2.St → Hp → Prop, (∀ σ', Rep K B ρ' σ' F H → (∀ vs, (∀ i ∈ is, i ∈ vs) → wipe σ' vs = wipe σ vs) → Q σ' H) → g vs σ H Q
structure EG (X : Cx) (tg : Expr) (g : TG) (is : List Nat) (t : D → Rho → Option Rho) : Prop where
  pg : PG X tg g
  ts : TgS X.K g is t
structure EGs (X : Cx) (tgs : List Expr) (g : TGs) (is : List Nat) (t : List D → Rho → Option Rho) : Prop where
  pg : PGs X tgs g
  ts : TgsS X.K g is t
def gN (i : Nat) : D → Rho → Option Rho := fun d ρ => some (ρ.set i (.fz d))
def gsN : List D → Rho → Option Rho
  | [], ρ => some ρ
  | _, _ => none
def gsC (t : D → Rho → Option Rho) (u : List D → Rho → Option Rho) : List D → Rho → Option Rho
  | d :: ds, ρ => (t d ρ).bind (u ds)
  | _, _ => none
def gT (n : Nat) (u : List D → Rho → Option Rho) : D → Rho → Option Rho
  | .tuple ds, ρ => if ds.length = n then u ds ρ else none
  | _, _ => none
theorem wipe_set0 (σ : L2.St) (i : Nat) (x : Option V) : ∀ vs : List Nat, (wipe (σ.set i x) vs).set i none = (wipe σ vs).set i none
  | [] => by
    show (σ.set i x).set i none = σ.set i none
    rw [List.set_set]
  | v :: vs => by
    show ((wipe (σ.set i x) vs).set v none).set i none = ((wipe σ vs).set v none).set i none
    by_cases h : v = i
    · subst h
      rw [wipe_set0 σ v x vs]
    · rw [List.set_comm _ _ h, wipe_set0 σ i x vs, List.set_comm _ _ (Ne.symm h)]
theorem wipe_set (σ : L2.St) (i : Nat) (x : Option V) : ∀ vs : List Nat, i ∈ vs → wipe (σ.set i x) vs = wipe σ vs
  | v :: vs, h => by
    show (wipe (σ.set i x) vs).set v none = (wipe σ vs).set v none
    by_cases e : v = i
    · subst e
      exact wipe_set0 σ v x vs
    · rw [wipe_set σ i x vs ((List.mem_cons.mp h).resolve_left (fun z => e z.symm))]
theorem wipe_wipe (σ : L2.St) (ws : List Nat) : ∀ vs : List Nat, (∀ i ∈ vs, i ∈ ws) → wipe (wipe σ vs) ws = wipe σ ws
  | [], _ => rfl
  | v :: vs, h => by
    show wipe ((wipe σ vs).set v none) ws = wipe σ ws
    rw [wipe_set _ _ _ ws (h v (List.mem_cons_self ..))]
    exact wipe_wipe σ ws vs fun i hi => h i (List.mem_cons_of_mem _ hi)
end
end BV
namespace BV
open PySem PySem.Spec PyProof.Rows L2
section
variable {K : PySem.W.Frag} {mg : MG} {W : WX} {B : Bs} {DE : Ends} {σ : L2.St} {ρ : Rho} {F H F1 H1 F2 : Hp}
/-! ### another lower bound of what is known -/
theorem VRep.base {F0 F0' H0 : Hp} {v : V} {A : List Addr} {sl : Sl} (r : VRep K ⟨F0, H0⟩ F H v A sl) : VRep K ⟨F0', H0⟩ F H v A sl := by
  cases sl <;> exact r
theorem Rep.base {F0 F0' H0 : Hp} (R : Rep K ⟨F0, H0⟩ ρ σ F H) (g : Grow F0' H0 F H) : Rep K ⟨F0', H0⟩ ρ σ F H := by
  obtain ⟨fp, h1, h2, h3⟩ := R.fp
  refine ⟨⟨fp, fun i sl e => ?_, h2, h3⟩, g, R.len⟩
  rcases h1 i sl e with z | ⟨n, v, hv, vr⟩
  · exact .inl z
  · exact .inr ⟨n, v, hv, vr.base⟩
/-- from what is known at one place on: a stronger base -/
theorem Rep.up (R : Rep K B ρ σ F H) : Rep K ⟨F, B.H0⟩ ρ σ F H := Rep.base (F0 := B.F0) R ⟨Ex.refl F, R.gr.exH, R.gr.sub, fun _ _ e => .inl e⟩
theorem Grow.down {F0 H0 : Hp} (g : Grow F0 H0 F H) (g2 : Grow F H0 F1 H1) : Grow F0 H0 F1 H1 := ⟨g.exF.trans g2.exF, g2.exH, g2.sub, fun a o e => by
  rcases g2.news a o e with z | z | z
  · exact g.news a o z
  · exact .inr (.inl z)
  · exact .inr (.inr z)⟩
theorem PstS.up {o : Out} (g : Grow B.F0 B.H0 F H) (h : PstS K mg W B DE o) : PstS K mg W ⟨F, B.H0⟩ DE o := by
  have dn : ∀ {ρ : Rho} {σ : L2.St} {F1 H1 : Hp}, Rep K ⟨F, B.H0⟩ ρ σ F1 H1 → Rep K B ρ σ F1 H1 := fun R => Rep.base (F0' := B.F0) R (g.down R.gr)
  cases o with
  | nx ρ => exact fun σ F H R => h σ F H (dn R)
  | bk ρ => exact fun σ F H R => h σ F H (dn R)
  | ct ρ => exact fun σ F H R => h σ F H (dn R)
  | rt sl => exact ⟨h.1, fun v F1 H1 A g2 vr fr => h.2 v F1 H1 A (g.down g2) (VRep.base (F0' := B.F0) vr) fr⟩
  | exc c ρ => exact fun σ F H R => h σ F H (dn R)
  | bad => exact h

/-! ### what a walk yields -/
def JOk (B : Bs) (F2 : Hp) (J : It) (ds : List D) : Prop := ∀ (i : Nat) (F H : Hp), Ex F2 F → Grow B.F0 B.H0 F H →
  (∀ d, ds[i]? = some d → J.go i H ∧ ∀ x H', J.yld i H x H' → ∃ F', Grow F H F' H' ∧ Rp F' x d) ∧ (ds.length ≤ i → J.stop i H)
def PstI (K : PySem.W.Frag) (mg : MG) (W : WX) (B : Bs) (σ : L2.St) (F H : Hp) (r : Rs (List D)) (R : It → Hp → Prop) : Prop := match r with
  | .ok ds => ∀ F2 H1 J, Grow F H F2 H1 → JOk B F2 J ds → R J H1
  | .exc c => ∀ F' H', Grow F H F' H' → ∀ cls, mg c = some cls → W cls none σ H'
  | .bad => False
def tI (K : PySem.W.Frag) (mg : MG) (W : WX) (f : Rho → Rs (List D)) : TI := fun σ H R => ∃ B ρ F, Rep K B ρ σ F H ∧ PstI K mg W B σ F H (f ρ) R
abbrev EI (X : Cx) (W : WX) (tg e : Expr) (f : Rho → Rs (List D)) : Prop := PI X tg e (tI X.K X.mg W f)
theorem PstI.grow {r : Rs (List D)} {R : It → Hp → Prop} (g : Grow F H F1 H1) (h : PstI K mg W B σ F H r R) : PstI K mg W B σ F1 H1 r R := by
  cases r with
  | ok sl => exact fun v F' H' g' => h v F' H' (g.trans g')
  | exc c => exact fun F' H' g' => h F' H' (g.trans g')
  | bad => exact h
theorem Pst.bindI {r : Rs Sl} {k : Sl → Rs (List D)} {Q : It → Hp → Prop} {Q' : VK} (h : PstI K mg W B σ F H (r.bind k) Q)
    (hQ : ∀ sl v F' H' A, r = .ok sl → Grow F H F' H' → VRep K B F' H' v A sl → (∀ a ∈ A, H a = none) → PstI K mg W B σ F H (k sl) Q → Q' v H') : Pst K mg W B σ F H r Q' := by
  cases r with
  | ok sl => exact fun v F' H' A g vr fr => hQ sl v F' H' A rfl g vr fr h
  | exc c => exact h
  | bad => exact h
theorem PstA.bindI {r : Rs (List Sl)} {k : List Sl → Rs (List D)} {Q : It → Hp → Prop} {Q' : List V → Hp → Prop} (h : PstI K mg W B σ F H (r.bind k) Q)
    (hQ : ∀ sls vs F' H', r = .ok sls → Grow F H F' H' → ARs K B F' H' vs sls → PstI K mg W B σ F' H' (k sls) Q → Q' vs H') : PstA K mg W B σ F H r Q' := by
  cases r with
  | ok sls => exact fun vs F' H' g ar => hQ sls vs F' H' rfl g ar (PstI.grow g h)
  | exc c => exact h
  | bad => exact h
/-- what may be walked: a list that stays -/
def walkL : Sl → Rs (List D)
  | .fz (.list ds) => .ok ds
  | .br ds => .ok ds
  | .ow ds => .ok ds
  | _ => .bad
def walkT : Sl → Rs (List D)
  | .fz (.tuple ds) => .ok ds
  | _ => .bad
theorem walkL_exc {s : Sl} {c : Str} (h : walkL s = .exc c) : False := by
  unfold walkL at h
  split at h <;> cases h
theorem walkT_exc {s : Sl} {c : Str} (h : walkT s = .exc c) : False := by
  unfold walkT at h
  split at h <;> cases h
/-- a list that stays: its place, known or from outside -/
theorem stay_list {v : V} {A : List Addr} {s : Sl} {ds : List D} (g : Grow F H F1 H1) (gB : Grow B.F0 B.H0 F H) (vr : VRep K B F1 H1 v A s) (fr : ∀ a ∈ A, H a = none) (h : walkL s = .ok ds) :
    ∃ F2 a xs, Grow F H F2 H1 ∧ v = .ref a ∧ RpAll F2 xs ds ∧ ∀ F' H', Ex F2 F' → Grow B.F0 B.H0 F' H' → H' a = some (.lst xs) := by
  unfold walkL at h
  split at h <;> cases h
  · obtain ⟨_, vr⟩ := vr
    cases vr with
    | lst h1 h2 => exact ⟨F1, _, _, g, rfl, h2, fun F' H' e g' => g'.sub _ _ (e _ _ h1)⟩
  · obtain ⟨_, p, xs, e, hp, q⟩ := vr
    exact ⟨F1, p, xs, g, e, q, fun F' H' _ g' => g'.exH _ _ hp⟩
  · obtain ⟨F2, g2, vr2⟩ := settle_ok g vr fr (fun _ z => nomatch z) (fun _ z => nomatch z)
    obtain ⟨_, vr2⟩ := vr2
    cases vr2 with
    | lst h1 h2 => exact ⟨F2, _, _, g2, rfl, h2, fun F' H' e g' => g'.sub _ _ (e _ _ h1)⟩
theorem it_of {α : Type} {l : List α} {n i : Nat} {x : α} (h : l[i]? = some x) (e : l.length = n) : i < n := by
  have := (List.getElem?_eq_some_iff.mp h).1
  omega
def iL (f : EV) : Rho → Rs (List D) := fun ρ => (f ρ).bind walkL
def iT (f : EV) : Rho → Rs (List D) := fun ρ => (f ρ).bind walkT
end
section
variable {X : Cx} {W : WX} {tg e : Expr} {f : EV} {pos : Pos}
theorem pi_weak {t t' : TI} (h : PI X tg e t) (hw : ∀ σ H Q, t' σ H Q → t σ H Q) : PI X tg e t' := ⟨fun pins s σ H R I k => h.run pins s σ H R I (hw σ H R k)⟩
theorem jok_list {B : Bs} {F2 : Hp} {a : Addr} {xs : List V} {ds : List D} (rp : RpAll F2 xs ds) (st : ∀ F' H', Ex F2 F' → Grow B.F0 B.H0 F' H' → H' a = some (.lst xs)) : JOk B F2 (Itl X.K a) ds := by
  intro i F H ex g
  have hq : SqL X.K H a xs := .inl (.inl (st F H ex g))
  refine ⟨fun d hd => ?_, fun hi => ⟨xs, hq, by rw [rp.length]; exact hi⟩⟩
  obtain ⟨v, hv, rv⟩ := rp.get hd
  refine ⟨⟨xs, v, hq, hv⟩, fun x H' y => ?_⟩
  obtain ⟨rfl, y⟩ := y
  have := (y xs hq).symm.trans hv
  cases this
  exact ⟨F, Grow.refl g.sub, rv.mono ex⟩
theorem i_list (he : EE X W e f) : EI X W tg e (iL f) := pi_weak (pi_list he) fun σ H R ⟨B, ρ, F, Rp', h⟩ => by
  refine ⟨B, ρ, F, Rp', Pst.bindI h fun s v F1 H1 A _ g1 vr fr h1 => ?_⟩
  cases e1 : walkL s with
  | exc c => exact (walkL_exc e1).elim
  | bad => rw [e1] at h1; exact h1.elim
  | ok ds =>
    rw [e1] at h1
    obtain ⟨F2, a, xs, g2, rfl, rp, st⟩ := stay_list g1 Rp'.gr vr fr e1
    exact ⟨a, rfl, ⟨xs, .inl (.inl (st F2 H1 (Ex.refl F2) (Rp'.gr.trans g2)))⟩, h1 F2 H1 _ g2 (jok_list rp st)⟩
theorem i_tup (he : EE X W e f) : EI X W tg e (iT f) := pi_weak (pi_tup he) fun σ H R ⟨B, ρ, F, Rp', h⟩ => by
  refine ⟨B, ρ, F, Rp', Pst.bindI h fun s v F1 H1 A _ g1 vr fr h1 => ?_⟩
  cases e1 : walkT s with
  | exc c => exact (walkT_exc e1).elim
  | bad => rw [e1] at h1; exact h1.elim
  | ok ds =>
    rw [e1] at h1
    unfold walkT at e1
    split at e1 <;> cases e1
    obtain ⟨_, vr⟩ := vr
    cases vr with
    | tup hp rp =>
      rename_i a xs
      refine ⟨a, rfl, ⟨xs, .inl (.inl (g1.sub _ _ hp))⟩, h1 F1 H1 _ g1 fun i F' H' ex g => ?_⟩
      have hq : SqT X.K H' a xs := .inl (.inl (g.sub _ _ (ex _ _ hp)))
      refine ⟨fun d hd => ?_, fun hi => ⟨xs, hq, by rw [rp.length]; exact hi⟩⟩
      obtain ⟨v, hv, rv⟩ := rp.get hd
      refine ⟨⟨xs, v, hq, hv⟩, fun x H2 y => ?_⟩
      obtain ⟨rfl, y⟩ := y
      have := (y xs hq).symm.trans hv
      cases this
      exact ⟨F', Grow.refl g.sub, rv.mono ex⟩
def rgD (lo : Int) (n : Nat) : List D := (List.range n).map fun i => .int (lo + (i : Nat))
theorem jok_range {B : Bs} {F2 : Hp} {lo : Int} {n : Nat} : JOk B F2 (Itr lo n) (rgD lo n) := by
  intro i F H ex g
  unfold rgD
  refine ⟨fun d hd => ?_, fun hi => by
    show n ≤ i
    simpa using hi⟩
  have hi : i < n := by
    have := (List.getElem?_eq_some_iff.mp hd).1
    simpa using this
  rw [List.getElem?_map, List.getElem?_range hi] at hd
  cases hd
  exact ⟨hi, fun x H' ⟨e1, e2⟩ => ⟨F, by rw [e1]; exact Grow.refl g.sub, by rw [e2]; exact .int _⟩⟩
def rgOk (i : Int) : Bool := decide (-100000 ≤ i) && decide (i ≤ 100000)
theorem rgOk_ok {i : Int} (h : rgOk i = true) : -(2 ^ 62) ≤ i ∧ i < 2 ^ 62 := by
  unfold rgOk at h
  rw [Bool.and_eq_true] at h
  have h1 := of_decide_eq_true h.1
  have h2 := of_decide_eq_true h.2
  exact ⟨by omega, by omega⟩
def iR1 (fs : Rho → Rs (List Sl)) : Rho → Rs (List D) := fun ρ => (fs ρ).bind fun ss => match ss with
  | [.fz (.int j)] => if rgOk j then .ok (rgD 0 j.toNat) else .bad
  | _ => .bad
def iR2 (fs : Rho → Rs (List Sl)) : Rho → Rs (List D) := fun ρ => (fs ρ).bind fun ss => match ss with
  | [.fz (.int i), .fz (.int j)] => if rgOk i && rgOk j then .ok (rgD i (j - i).toNat) else .bad
  | _ => .bad
variable {a b : Expr} {fs : Rho → Rs (List Sl)}
theorem i_range1 {p : Pos} (hm : X.mg "range" = none) (ha : EA X W [a] fs) (hg : Gl X "range" := by rfl) (hs : starEach [a] X.env = [(false, eval a X.env)] := by rfl) : EI X W tg (.Call (.Name "range" p) [a] [] pos) (iR1 fs) := pi_weak (pi_range1 hg hm ha hs) fun σ H R ⟨B, ρ, F, Rp', h⟩ => by
  refine ⟨B, ρ, F, Rp', PstA.bindI h fun ss vs F1 H1 _ g1 ar h1 => ?_⟩
  split at h1
  · split at h1
    · rename_i hj
      obtain ⟨v, rfl, r1⟩ := ar1 ar
      have := fz_int r1
      subst this
      obtain ⟨q1, q2⟩ := rgOk_ok hj
      exact ⟨_, rfl, q1, q2, h1 F1 H1 _ (Grow.refl g1.sub) jok_range⟩
    · exact h1.elim
  · exact h1.elim
theorem i_range2 {p : Pos} (hm : X.mg "range" = none) (ha : EA X W [a, b] fs) (hg : Gl X "range" := by rfl) (hs : starEach [a, b] X.env = [(false, eval a X.env), (false, eval b X.env)] := by rfl) (hs2 : starEach [b] X.env = [(false, eval b X.env)] := by rfl) : EI X W tg (.Call (.Name "range" p) [a, b] [] pos) (iR2 fs) := pi_weak (pi_range2 hg hm ha hs hs2) fun σ H R ⟨B, ρ, F, Rp', h⟩ => by
  refine ⟨B, ρ, F, Rp', PstA.bindI h fun ss vs F1 H1 _ g1 ar h1 => ?_⟩
  split at h1
  · split at h1
    · rename_i hj
      rw [Bool.and_eq_true] at hj
      obtain ⟨v, w, rfl, r1, r2⟩ := ar2 ar
      have := fz_int r1
      subst this
      have := fz_int r2
      subst this
      obtain ⟨q1, q2⟩ := rgOk_ok hj.1
      obtain ⟨q3, q4⟩ := rgOk_ok hj.2
      exact ⟨_, _, rfl, ⟨q1, q2, q3, q4⟩, h1 F1 H1 _ (Grow.refl g1.sub) jok_range⟩
    · exact h1.elim
  · exact h1.elim
def iRev (f : EV) : Rho → Rs (List D) := fun ρ => (f ρ).bind fun s => (walkL s).bind fun ds => .ok ds.reverse
theorem i_rev {p : Pos} (hm : X.mg "reversed" = none) (he : EE X W e f) (hg : Gl X "reversed" := by rfl) (hs : starEach [e] X.env = (false, eval e X.env) :: starEach [] X.env := by rfl) : EI X W tg (.Call (.Name "reversed" p) [e] [] pos) (iRev f) := pi_weak (RT.pi_revA hg hm he hs) fun σ H R ⟨B, ρ, F, Rp', h⟩ => by
  refine ⟨B, ρ, F, Rp', Pst.bindI h fun s v F1 H1 A _ g1 vr fr h1 => ?_⟩
  cases e1 : walkL s with
  | exc c => exact (walkL_exc e1).elim
  | bad => rw [e1] at h1; exact h1.elim
  | ok ds =>
    rw [e1] at h1
    obtain ⟨F2, a, xs, g2, rfl, rp, st⟩ := stay_list g1 Rp'.gr vr fr e1
    refine ⟨a, xs, rfl, .inl ⟨.inl (.inl (st F2 H1 (Ex.refl F2) (Rp'.gr.trans g2))), h1 F2 H1 _ g2 fun i F' H' ex g => ?_⟩⟩
    have hq : SqL X.K H' a xs := .inl (.inl (st F' H' ex g))
    have hl := rp.length
    refine ⟨fun d hd => ?_, fun hi => by
      rw [List.length_reverse] at hi
      show xs.length ≤ i
      omega⟩
    have hi : i < ds.length := it_of hd (by simp)
    rw [List.getElem?_reverse (by simpa using hi)] at hd
    obtain ⟨v, hv, rv⟩ := rp.get hd
    rw [← hl] at hv
    refine ⟨⟨by omega, xs, v, hq, hv⟩, fun x H2 y => ?_⟩
    obtain ⟨rfl, y⟩ := y
    have := (y xs hq).symm.trans hv
    cases this
    exact ⟨F', Grow.refl g.sub, rv.mono ex⟩
/-- zip of two lists -/
def iZ (f g : EV) : Rho → Rs (List D) := fun ρ => (f ρ).bind fun s => (walkL s).bind fun ds => (argS s).bind fun _ => (g ρ).bind fun t => (walkL t).bind fun es => (argS t).bind fun _ => .ok ((ds.zip es).map fun p => .tuple [p.1, p.2])
end

/-! ### loops -/
def turned (o : Out) (k : Rho → Out) : Out := match o with
  | .nx ρ => k ρ
  | .ct ρ => k ρ
  | .bk ρ => .nx ρ
  | o => o
@[simp] theorem turned_nx (ρ : Rho) (k : Rho → Out) : turned (.nx ρ) k = k ρ := rfl
@[simp] theorem turned_ct (ρ : Rho) (k : Rho → Out) : turned (.ct ρ) k = k ρ := rfl
@[simp] theorem turned_bk (ρ : Rho) (k : Rho → Out) : turned (.bk ρ) k = .nx ρ := rfl
@[simp] theorem turned_rt (sl : Sl) (k : Rho → Out) : turned (.rt sl) k = .rt sl := rfl
@[simp] theorem turned_exc (c : Str) (ρ : Rho) (k : Rho → Out) : turned (.exc c ρ) k = .exc c ρ := rfl
@[simp] theorem turned_bad (k : Rho → Out) : turned .bad k = .bad := rfl
def sForL (t : D → Rho → Option Rho) (body : SV) : List D → SV
  | [], ρ => .nx ρ
  | d :: ds, ρ => match t d ρ with
    | none => .bad
    | some ρ1 => turned (body ρ1) (sForL t body ds)
theorem sForL_nil (t : D → Rho → Option Rho) (body : SV) (ρ : Rho) : sForL t body [] ρ = .nx ρ := rfl
theorem sForL_cons {t : D → Rho → Option Rho} {body : SV} {d : D} {ds : List D} {ρ ρ1 : Rho} (h : t d ρ = some ρ1) : sForL t body (d :: ds) ρ = turned (body ρ1) (sForL t body ds) := by
  unfold sForL
  rw [h]
theorem turn_ok {K : PySem.W.Frag} {mg : MG} {W : WX} {B : Bs} {DE : Ends} {o : Out} {k : Rho → Out} {N : L2.St → Hp → Prop} (h : PstS K mg W B DE (turned o k)) (hN : ∀ ρ σ F H, Rep K B ρ σ F H → PstS K mg W B DE (k ρ) → N σ H) : PstS K mg W B { DE with nx := N, ct := N, bk := DE.nx } o := by
  cases o with
  | nx ρ => exact fun σ F H R => hN ρ σ F H R h
  | ct ρ => exact fun σ F H R => hN ρ σ F H R h
  | bk ρ => exact h
  | rt sl => exact h
  | exc c ρ => exact h
  | bad => exact h
def sFor (t : D → Rho → Option Rho) (src : Rho → Rs (List D)) (body : SV) : SV := fun ρ => (src ρ).out ρ fun ds => sForL t body ds ρ
section
variable {X : Cx} {W : WX} {tg iter : Expr} {t : D → Rho → Option Rho} {src : Rho → Rs (List D)} {body : List Stmt} {g : SV} {pos : Pos}
theorem s_for (hp : PassesOwn (model X.prog X.w) X.A X.env X.xe) (hc : X.calm = true) {gt : TG} {is : List Nat} (hi : EI X W tg iter src) (hg : EG X tg gt is t) (hb : ESs X W body g) (hs : ∀ x, foldedSetIterable iter X.env x = pure x := by intro _; rfl) :
    ES X W (.For tg iter body [] pos) (sFor t src g) := by
  obtain ⟨hg1, hg2⟩ := hg
  refine ps_weak (ps_for hp hc hi hg1 hb hs) fun DE σ H ⟨B, ρ, F, R, h⟩ => ?_
  refine ⟨B, ρ, F, R, ?_⟩
  unfold sFor at h
  cases e : src ρ with
  | bad => rw [e] at h; exact h
  | exc c => rw [e] at h; exact fun F' H' g cls ec => h σ F' H' (R.grow g) cls ec
  | ok ds =>
    rw [e] at h
    intro F2 H1 J g1 jk
    have R2 : Rep X.K ⟨F2, B.H0⟩ ρ σ F2 H1 := (R.grow g1).up
    have gB : Grow B.F0 B.H0 F2 H1 := R.gr.trans g1
    refine ⟨fun i m σ H => m = ds.length - i ∧ i ≤ ds.length ∧ ∃ ρ F, Rep X.K ⟨F2, B.H0⟩ ρ σ F H ∧ PstS X.K X.mg W ⟨F2, B.H0⟩ DE (sForL t g (ds.drop i) ρ), ⟨ds.length, by simp, Nat.zero_le _, ρ, F2, R2, PstS.up gB h⟩, ?_⟩
    rintro i m σ' H' ⟨rfl, hi, ρ', F', R', h'⟩
    have gB' : Grow B.F0 B.H0 F' H' := gB.down R'.gr
    obtain ⟨j1, j2⟩ := jk i F' H' R'.gr.exF gB'
    by_cases hlt : i < ds.length
    · rw [List.drop_eq_getElem_cons hlt] at h'
      obtain ⟨jg, jy⟩ := j1 ds[i] (List.getElem?_eq_getElem hlt)
      cases et : t ds[i] ρ' with
      | none =>
        unfold sForL at h'
        rw [et] at h'
        exact h'.elim
      | some ρ1 =>
        rw [sForL_cons et] at h'
        refine .inr ⟨jg, fun σ H => ∃ ρ F, Rep X.K ⟨F2, B.H0⟩ ρ σ F H ∧ PstS X.K X.mg W ⟨F2, B.H0⟩ DE (sForL t g (ds.drop (i + 1)) ρ), fun σ'' H'' w => ⟨ds.length - (i + 1), by omega, rfl, by omega, w⟩, fun x H2 y => ?_⟩
        obtain ⟨F3, g3, rx⟩ := jy x H2 y
        refine hg2 ⟨F2, B.H0⟩ ρ' σ' F3 H2 x ds[i] ρ1 (R'.grow g3) rx et _ fun σ3 R3 _ => ⟨⟨F2, B.H0⟩, ρ1, F3, R3, ?_⟩
        exact turn_ok h' fun ρ σ F H R h => ⟨ρ, F, R, h⟩
    · have : i = ds.length := by omega
      subst this
      rw [List.drop_length] at h'
      exact .inl ⟨j2 (Nat.le_refl _), h' σ' F' H' R'⟩
theorem g_name {i : Nat} {x : Str} {p : Pos} (hN : X.N.Nodup) (hi : X.N[i]? = some x := by rfl) (hx : Loc X.env.scope x := by first | exact .inl rfl | exact .inr rfl) (hf : X.fn x = true ∨ X.env.scope.names.lookup x = some .local := by first | exact .inl rfl | exact .inr rfl) : EG X (.Name x p) (gName i) [i] (gN i) :=
  ⟨pg_name hN hi hx hf, fun B ρ σ F H v d ρ' R rp e Q q => by
    cases e
    exact q _ (R.store (Grow.refl R.gr.sub) (A := []) (sl := .fz d) ⟨rfl, rp⟩ (fun _ z => nomatch z) rfl i) fun vs h => wipe_set σ i _ vs (h i (List.mem_cons_self ..))⟩
theorem gs_nil : EGs X [] gNil [] gsN := ⟨pgs_nil, fun B ρ σ F H vs ds ρ' R rp e Q q => by
  cases rp with
  | nil => cases e; exact ⟨rfl, q σ R fun _ _ => rfl⟩
  | cons _ _ => cases e⟩
theorem gs_cons {e : Expr} {es : List Expr} {g : TG} {g' : TGs} {is is' : List Nat} {t : D → Rho → Option Rho} {u : List D → Rho → Option Rho} (h1 : EG X e g is t) (h2 : EGs X es g' is' u) (hs : (assignEach (e :: es) X.env).map (·.2) = assign e X.env :: (assignEach es X.env).map (·.2) := by rfl) : EGs X (e :: es) (gCons g g') (is ++ is') (gsC t u) :=
  ⟨pgs_cons h1.pg h2.pg hs, fun B ρ σ F H vs ds ρ' R rp e Q q => by
    cases rp with
    | nil => cases e
    | cons r rs =>
      obtain ⟨ρ1, e1, e2⟩ := Option.bind_eq_some_iff.mp (show (t _ ρ).bind (u _) = some ρ' from e)
      exact ⟨_, _, rfl, h1.ts B ρ σ F H _ _ ρ1 R r e1 _ fun σ' R' w1 => h2.ts B ρ1 σ' F H _ _ ρ' R' rs e2 Q fun σ2 R2 w2 => q σ2 R2 fun vs h => (w2 vs fun i hi => h i (List.mem_append_right _ hi)).trans (w1 vs fun i hi => h i (List.mem_append_left _ hi))⟩⟩
theorem g_tup {es : List Expr} {k n : Nat} {p : Pos} {g : TGs} {is : List Nat} {u : List D → Rho → Option Rho} (hc : X.calm = true) (h : EGs X es g is u) (hn : (assignEach es X.env).length = n := by rfl) (hst : (assignEach es X.env).findIdx? (·.1) = none := by rfl) : EG X (.Tuple es k p) (gTup X.K n g) is (gT n u) :=
  ⟨pg_tup hc h.pg hn hst, fun B ρ σ F H v d ρ' R rp e Q q => by
    cases rp with
    | tup h1 h2 =>
      rename_i a xs ds
      have e : (if ds.length = n then u ds ρ else none) = some ρ' := e
      split at e
      · rename_i hl2
        exact ⟨a, xs, rfl, .inl (.inl (R.gr.sub _ _ h1)), by rw [h2.length]; exact hl2, h.ts B ρ σ F H xs _ ρ' R h2 e Q q⟩
      · cases e
    | non => cases e
    | bl _ => cases e
    | int _ => cases e
    | str _ => cases e
    | dict0 _ => cases e
    | lst _ _ => cases e⟩
/-- a, b = e -/
def sSetT (t : D → Rho → Option Rho) (f : EV) : SV := fun ρ => (f ρ).out ρ fun s => match s with
  | .fz d => match t d ρ with
    | some ρ' => .nx ρ'
    | none => .bad
  | _ => .bad
theorem s_setT {tg e : Expr} {g : TG} {is : List Nat} {f : EV} (he : EE X W e f) (hg : EG X tg g is t) (hs : swapsWithSole [tg] e pos.line X.env = pure false := by rfl) (hw : swappedStores [tg] e X.env = pure none := by rfl)
    (h1 : (assignEach [tg] X.env).map (·.2) = [assign tg X.env] := by rfl) : ES X W (.Assign [tg] e pos) (sSetT t f) := ps_weak (ps_asg he hg.pg hs hw h1) fun DE σ H ⟨B, ρ, F, R, h⟩ => by
  refine ⟨B, ρ, F, R, PstS.expr R h fun s v F1 H1 A _ g1 vr fr h1 => ?_⟩
  split at h1
  · rename_i d _
    split at h1
    · rename_i ρ' et
      exact hg.ts B ρ σ F1 H1 v d ρ' (R.grow g1) vr.2 et _ fun σ' R' _ => h1 σ' F1 H1 R'
    · exact h1.elim
  · exact h1.elim
end
end BV
namespace BV
open PySem PySem.Spec PyProof.Rows L2
/-! ### defs -/
def asArg : Sl → Sl
  | .vw ds => .br ds
  | s => s
def argOk : Sl → Bool
  | .fz _ => true
  | .br _ => true
  | .vw _ => true
  | .scr _ => true
  | .exo _ => true
  | _ => false
def runDef (n : Nat) (g : SV) (ss : List Sl) : Rs Sl := match g (ss ++ List.replicate (n - ss.length) .no) with
  | .rt sl => if sl.res then .ok sl else .bad
  | .nx _ => .ok (.fz .none)
  | .exc c _ => .exc c
  | _ => .bad
def PstD (K : PySem.W.Frag) (mg : MG) (F H : Hp) (r : Rs Sl) (Q : VK) (E : XK) : Prop := match r with
  | .ok sl => ∀ v F' H' A, Grow F H F' H' → VRep K ⟨F, H⟩ F' H' v A sl → (∀ a ∈ A, H a = none) → sl.res = true → Q v H'
  | .exc c => ∀ F' H', Grow F H F' H' → ∀ cls, mg c = some cls → E cls none H'
  | .bad => False
/-- the promise of a def whose plain meaning is g -/
def spV (K : PySem.W.Frag) (mg : MG) (np : Nat) (g : List Sl → Rs Sl) : Sp := fun vs H Q E => ∃ F ss, vs.length = np ∧ Ex F H ∧ ARs K ⟨F, H⟩ F H vs ss ∧ (∀ s ∈ ss, s.keeps = true) ∧ PstD K mg F H (g ss) Q E
structure Df (P : Program) (w : World) (K : PySem.W.Frag) (mg : MG) (base : Heap) (x : Str) (k np : Nat) (g : List Sl → Rs Sl) : Prop where
  ex : ∃ (f : Addr) (fd : FuncData) (ps : List Str), FnOk P w K mg base (L2N.CX P w) k f fd ps (spV K mg np g) ∧ mg x = some (.ref f) ∧ PySem.W.keepIn K (.ref f) = true ∧ Binds K fd ps []
theorem ARs.get {K : PySem.W.Frag} {B : Bs} {F H : Hp} : ∀ {vs : List V} {ss : List Sl} {i : Nat} {s : Sl}, ARs K B F H vs ss → ss[i]? = some s → ∃ v, vs[i]? = some v ∧ VRep K B F H v [] s
  | _, _, _, _, .nil, h => by simp at h
  | _, _, 0, _, .cons h _, e => by simp at e; subst e; exact ⟨_, rfl, h⟩
  | _, _, i + 1, _, .cons _ h, e => by
    obtain ⟨v, h1, h2⟩ := ARs.get (i := i) h (by simpa using e)
    exact ⟨v, by simpa using h1, h2⟩
theorem start_rep {K : PySem.W.Frag} {F H : Hp} {vs : List V} {ss : List Sl} {N : List Str} (s : Ex F H) (ar : ARs K ⟨F, H⟩ F H vs ss) (nv : ∀ s ∈ ss, s.keeps = true) (hl : vs.length ≤ N.length) :
    Rep K ⟨F, H⟩ (ss ++ List.replicate (N.length - ss.length) .no) (L2.start N vs) F H := by
  have el : vs.length = ss.length := Paired.length ar
  refine ⟨⟨fun _ => [], fun i sl e => ?_, (fun i j a h => absurd h (by simp)), (fun i a h => absurd h (by simp))⟩, Grow.refl s, ?_⟩
  · by_cases hi : i < ss.length
    · rw [List.getElem?_append_left hi] at e
      obtain ⟨v, h1, h2⟩ := ar.get e
      refine .inr ⟨nv sl (List.mem_of_getElem? e), v, ?_, h2⟩
      unfold L2.start
      rw [List.getElem?_append_left (by simpa [el] using hi), List.getElem?_map, h1]
      rfl
    · rw [List.getElem?_append_right (by omega), List.getElem?_replicate] at e
      split at e
      · cases e; exact .inl rfl
      · cases e
  · unfold L2.start
    simp
    omega
section
variable {P : Program} {w : World} {K : PySem.W.Frag} {mg : MG} {base : Heap}
theorem okN {x qual : Str} {st : Stmt} {f : Addr} {fd : FuncData} {N ps : List Str} {k : Nat} {sp : Sp} (F : Fun K x qual st f fd) (S : FnScope N ps (defScope st)) (len : ∀ vs H Q E, sp vs H Q E → vs.length = ps.length)
    (body : ∀ (cdv : Value) (A : Around) (outer : List Env) (s : Shared) (H : Hp) (vs : List V) (Q : VK) (E : XK), Room k (A.deeper (envOfC qual (defScope st) s.heap.objs.size f cdv)) → sp vs H Q E →
      ∃ t, PSs (cxOf (L2N.CX P w) P w K mg base N qual (defScope st) f cdv A outer s H E) (defBody st) t ∧ t { nx := fun _ H' => Q .non H', rt := Q } (start N vs) H) : FnOk P w K mg base (L2N.CX P w) (k + 1) f fd ps sp := by
  obtain ⟨_, _, _, _, _, _, cdv, _, _, rfl, look, code⟩ := F.ex
  exact fn_of look code S len (body cdv)
theorem takesN0 {X : Cx} : L2N.Takes X (fun _ _ _ _ => False) := fun _ _ x => by
  obtain ⟨_, _, _, _, _, _, _, _, _, _, _, _, _, _, _, _, z⟩ := x
  exact z.elim
theorem fn_ok {x qual : Str} {st : Stmt} {f : Addr} {fd : FuncData} {N ps : List Str} {k : Nat} {g : SV} (F : Fun K x qual st f fd) (S : FnScope N ps (defScope st))
    (hbody : ∀ (cdv : Value) (A : Around) (outer : List Env) (s : Shared) (H : Hp) (E : XK), Room k (A.deeper (envOfC qual (defScope st) s.heap.objs.size f cdv)) →
      L2N.Takes (cxOf (L2N.CX P w) P w K mg base N qual (defScope st) f cdv A outer s H E) (fun c d _ H => E c d H) →
      PassesOwn (model P w) (A.deeper (envOfC qual (defScope st) s.heap.objs.size f cdv)) (envOfC qual (defScope st) s.heap.objs.size f cdv) (cxOf (L2N.CX P w) P w K mg base N qual (defScope st) f cdv A outer s H E).xe →
      ESs (cxOf (L2N.CX P w) P w K mg base N qual (defScope st) f cdv A outer s H E) (fun c d _ H => E c d H) (defBody st) g) :
    FnOk P w K mg base (L2N.CX P w) (k + 1) f fd ps (spV K mg ps.length (runDef N.length g)) := by
  refine okN F S (fun vs H Q E h => ?_) (fun cdv A outer s H vs Q E hr h => ?_)
  · obtain ⟨_, _, e, _⟩ := h
    exact e
  · obtain ⟨F0, ss, hl, sub, ar, nv, post⟩ := h
    refine ⟨_, hbody cdv A outer s H E hr (L2N.takes_of rfl rfl rfl rfl) (passes_of rfl), ?_⟩
    have hpl : ps.length ≤ N.length := by have := congrArg List.length S.pre; rw [List.length_take] at this; omega
    have R := start_rep (N := N) sub ar nv (by omega)
    refine ⟨⟨F0, H⟩, _, F0, R, ?_⟩
    unfold runDef at post
    cases e : g (ss ++ List.replicate (N.length - ss.length) .no) with
    | nx ρ =>
      rw [e] at post
      exact fun σ F1 H1 R1 => post .non F1 H1 [] R1.gr ⟨rfl, .non⟩ (fun _ z => nomatch z) rfl
    | rt sl =>
      rw [e] at post
      dsimp only at post
      split at post
      · rename_i hr'
        exact ⟨hr', fun v F1 H1 A g1 vr fr => post v F1 H1 A g1 vr fr hr'⟩
      · exact post.elim
    | exc c ρ =>
      rw [e] at post
      exact fun σ F1 H1 R1 cls ec => post F1 H1 R1.gr cls ec
    | bk ρ => rw [e] at post; exact post.elim
    | ct ρ => rw [e] at post; exact post.elim
    | bad => rw [e] at post; exact post.elim
theorem df_mk {x : Str} {k np : Nat} {g : List Sl → Rs Sl} {f : Addr} {fd : FuncData} {ps : List Str} (h : FnOk P w K mg base (L2N.CX P w) k f fd ps (spV K mg np g)) (hm : mg x = some (.ref f)) (hk : PySem.W.keepIn K (.ref f) = true) (hb : Binds K fd ps []) : Df P w K mg base x k np g := ⟨f, fd, ps, h, hm, hk, hb⟩
end
theorem asArg_ok {K : PySem.W.Frag} {B : Bs} {F H : Hp} (g : Grow B.F0 B.H0 F H) : ∀ {vs : List V} {ss : List Sl}, ARs K B F H vs ss → ARs K ⟨F, H⟩ F H vs (ss.map asArg)
  | _, _, .nil => .nil
  | _, s :: r, .cons h t => .cons (by
      cases s with
      | no => exact h
      | fz d => exact h
      | di d => obtain ⟨p, ks, _, z, _⟩ := h; cases z
      | dt d => obtain ⟨p, ks, _, z, _⟩ := h; cases z
      | ow d => obtain ⟨p, ks, _, z, _⟩ := h; cases z
      | br d => obtain ⟨a, p, xs, e, hp, q⟩ := h; exact ⟨rfl, p, xs, e, g.exH _ _ hp, q⟩
      | vw d => obtain ⟨a, p, xs, e, hp, q⟩ := h; exact ⟨rfl, p, xs, e, hp, q⟩
      | scr d => obtain ⟨a, p, e, hp⟩ := h; exact ⟨rfl, p, e, sqL_mono g.exH hp⟩
      | og d => exact h
      | vg d => exact h
      | exo c => obtain ⟨a, p, oe, e, hp, q⟩ := h; exact ⟨rfl, p, oe, e, g.exH _ _ hp, q⟩) (asArg_ok g t)
theorem VRep.res {K : PySem.W.Frag} {B B' : Bs} {F H : Hp} {v : V} {A : List Addr} {sl : Sl} (h : sl.res = true) (r : VRep K B F H v A sl) : VRep K B' F H v A sl := by
  cases sl <;> first | exact r | cases h
def eCall (np : Nat) (g : List Sl → Rs Sl) (fs : Rho → Rs (List Sl)) : EV := fun ρ => (fs ρ).bind fun ss => if ss.length = np ∧ ss.all argOk = true then g (ss.map asArg) else .bad
section
variable {X : Cx} {W : WX} {e : Expr} {es : List Expr} {fs : Rho → Rs (List Sl)} {pos : Pos}
theorem e_call {x : Str} {k np : Nat} {g : List Sl → Rs Sl} {p : Pos} (G : Df X.prog X.w X.K X.mg X.base x k np g) (hr : Room k X.A) (tk : L2N.Takes X W) (ha : EA X W (e :: es) fs) (hg : Gl X x := by rfl) (hdb : (x == ("__debug__" : Str)) = false := by decide)
    (he : starEach (e :: es) X.env = (false, eval e X.env) :: starEach es X.env := by rfl) (hpl : (backTo pos (starEach es X.env)).any (·.1) = false := by rfl) : EE X W (.Call (.Name x p) (e :: es) [] pos) (eCall np g fs) := by
  obtain ⟨f, fd, ps, F, hm, hk, hb⟩ := G.ex
  refine pe_weak (pe_callS F hr hg hm hk hb (fun σ => L2N.passAt tk σ) ha hdb he hpl) fun σ H Q ⟨B, ρ, Fh, R, h⟩ => ?_
  refine ⟨B, ρ, Fh, R, PstA.bind h fun ss vs F1 H1 _ g1 ar h1 => ?_⟩
  split at h1
  · rename_i hc
    have gB := R.gr.trans g1
    refine ⟨F1, ss.map asArg, (Paired.length ar).trans hc.1, g1.sub, asArg_ok gB ar, fun s hs => ?_, ?_⟩
    · obtain ⟨t, ht, rfl⟩ := List.mem_map.mp hs
      have := List.all_eq_true.mp hc.2 t ht
      cases t <;> first | rfl | cases this
    · cases eg : g (ss.map asArg) with
      | ok sl =>
        rw [eg] at h1
        exact fun v F' H' A g2 vr fr hres => h1 v F' H' A g2 (vr.res hres) fr
      | exc c => rw [eg] at h1; exact h1
      | bad => rw [eg] at h1; exact h1
  · exact h1.elim
end

/-! ### what one owns is changed -/
section
variable {K : PySem.W.Frag} {mg : MG} {W : WX} {B : Bs} {σ : L2.St} {ρ : Rho} {F H F1 H1 : Hp}
/-- the object of the slot i, at p, becomes another one -/
theorem Rep.change {i : Nat} {p : Addr} {o : HO} {sl sl' : Sl} (R : Rep K B ρ σ F H) (e : ρ[i]? = some sl) (hA : ∀ A, VRep K B F H (.ref p) A sl → p ∈ A) (hv : σ[i]? = some (some (.ref p))) (kp : sl.keeps = true)
    (new : ∀ H', H' p = some o → F p = none → VRep K B F H' (.ref p) [p] sl') (kp' : sl'.keeps = true) (nt : ¬ IT o := by rintro ⟨_, z⟩; cases z) : Rep K B (ρ.set i sl') σ F (upd H p o) := by
  obtain ⟨⟨fp, h1, h2, h3⟩, gr, len⟩ := R
  rcases h1 i sl e with z | ⟨_, v, hv', vr⟩
  · subst z; cases kp
  · rw [hv] at hv'
    cases hv'
    have hp : p ∈ fp i := hA _ vr
    obtain ⟨n0, nF, u, hu, _⟩ := h3 i p hp
    have ne : ∀ a o', F a = some o' → a ≠ p := fun a o' ea z => by rw [z, nF] at ea; cases ea
    have ne0 : ∀ a o', B.H0 a = some o' → a ≠ p := fun a o' ea z => by rw [z, n0] at ea; cases ea
    refine ⟨⟨fun k => if k = i then [p] else fp k, fun k s ek => ?_, fun k j a hk hj => ?_, fun k a hk => ?_⟩, ⟨gr.exF, fun a o' ea => ?_, fun a o' ea => ?_, gr.news⟩, by simp [len]⟩
    · by_cases hk : k = i
      · subst hk
        have hl : k < ρ.length := (List.getElem?_eq_some_iff.mp e).1
        rw [List.getElem?_set_self hl] at ek
        cases ek
        refine .inr ⟨kp', _, hv, ?_⟩
        simp only [if_pos]
        exact new _ upd_same nF
      · rw [List.getElem?_set_ne (Ne.symm hk)] at ek
        rcases h1 k s ek with h | ⟨n, v, hv, r⟩
        · exact .inl h
        · refine .inr ⟨n, v, hv, ?_⟩
          simp only [if_neg hk]
          have nk : p ∉ fp k := fun z => hk (h2 k i p z hp)
          cases s with
          | no => exact r
          | fz d => exact r
          | br d => exact r
          | scr d => exact r
          | vw d => cases n
          | vg d => cases n
          | exo d => exact r
          | og d => exact ⟨r.1, r.2.move (Ex.refl F) (fun a ha => (r.2.known a ha).1) fun a ha o ho => by
              rw [upd_ne (show a ≠ p from fun z => nk (z ▸ ha))]
              exact ho⟩
          | ow d =>
            obtain ⟨q, xs, e1, e2, e3, e4, e5⟩ := r
            have : q ≠ p := fun z => nk (by rw [e2, ← z]; exact List.mem_cons_self ..)
            exact ⟨q, xs, e1, e2, e3, by rw [upd_ne this]; exact e4, e5⟩
          | di d =>
            obtain ⟨q, xs, e1, e2, e3, e4, e5⟩ := r
            have : q ≠ p := fun z => nk (by rw [e2, ← z]; exact List.mem_cons_self ..)
            exact ⟨q, xs, e1, e2, e3, by rw [upd_ne this]; exact e4, e5⟩
          | dt d =>
            obtain ⟨q, xs, e1, e2, e3, e4, e5⟩ := r
            have : q ≠ p := fun z => nk (by rw [e2, ← z]; exact List.mem_cons_self ..)
            exact ⟨q, xs, e1, e2, e3, by rw [upd_ne this]; exact e4, e5⟩
    · by_cases ek : k = i <;> by_cases ej : j = i
      · rw [ek, ej]
      · simp only [if_pos ek, if_neg ej] at hk hj
        cases hk with
        | head => exact absurd (h2 j i p hj hp) ej
        | tail _ z => cases z
      · simp only [if_neg ek, if_pos ej] at hk hj
        cases hj with
        | head => exact absurd (h2 k i p hk hp) ek
        | tail _ z => cases z
      · simp only [if_neg ek, if_neg ej] at hk hj
        exact h2 k j a hk hj
    · by_cases ek : k = i
      · simp only [if_pos ek] at hk
        cases hk with
        | head => exact ⟨n0, nF, _, upd_same, nt⟩
        | tail _ z => cases z
      · simp only [if_neg ek] at hk
        obtain ⟨a1, a2, u', a3, n3⟩ := h3 k a hk
        have : a ≠ p := fun z => ek (h2 k i p (z ▸ hk) hp)
        exact ⟨a1, a2, u', by rw [upd_ne this]; exact a3, n3⟩
    · rw [upd_ne (ne0 a o' ea)]; exact gr.exH _ _ ea
    · rw [upd_ne (ne a o' ea)]; exact gr.sub _ _ ea
/-- a slot's own list -/
theorem Rep.owns {i : Nat} {ds : List D} (R : Rep K B ρ σ F H) (e : ρ[i]? = some (.ow ds)) : ∃ p xs, σ[i]? = some (some (.ref p)) ∧ F p = none ∧ H p = some (.lst xs) ∧ RpAll F xs ds := by
  obtain ⟨fp, h1, _, _⟩ := R.fp
  rcases h1 i _ e with z | ⟨_, v, hv, p, xs, e1, _, f, h, q⟩
  · cases z
  · subst e1
    exact ⟨p, xs, hv, f, h, q⟩
theorem Rep.setOw {i : Nat} {ds es : List D} {p : Addr} {xs : List V} (R : Rep K B ρ σ F H) (e : ρ[i]? = some (.ow ds)) (hv : σ[i]? = some (some (.ref p))) (r : RpAll F xs es) : Rep K B (ρ.set i (.ow es)) σ F (upd H p (.lst xs)) :=
  R.change e (fun A h => by
    obtain ⟨q, _, e1, e2, _⟩ := h
    cases e1
    rw [e2]
    exact List.mem_cons_self ..) hv rfl (fun H' h f => ⟨p, xs, rfl, rfl, f, h, r⟩) rfl
end
section
variable {X : Cx} {W : WX} {e : Expr} {f : EV} {pos : Pos}
/-- x.append(e) -/
def sApp (i : Nat) (f : EV) : SV := fun ρ => match ρ[i]? with
  | some (.ow ds) => (f ρ).out ρ fun s => (argS s).out ρ fun t => match t with
    | .fz d => if ds.length < 100000 then .nx (ρ.set i (.ow (ds ++ [d]))) else .bad
    | _ => .bad
  | _ => .bad
theorem s_app {i : Nat} {x : Str} {p p1 pos' : Pos} (he : EE X W e f) (hN : X.N[i]? = some x := by rfl) (hv : Vis X.env.scope x := by first | exact Or.inl rfl | exact Or.inr (Or.inl rfl) | exact Or.inr (Or.inr rfl)) (hd : (x == ("__debug__" : Str)) = false := by decide)
    (hcd : (x == ("__classdict__" : Str)) = false := by decide) (hs : swapsWith (.Call (.Attribute (.Name x p) "append" p1) [e] [] pos') none pos.line X.env = pure false := by rfl)
    (h1 : starEach [e] X.env = (false, eval e X.env) :: starEach [] X.env := by rfl) (hbase : attributeBase (.Name x p) "append" X.env (eval (.Name x p) X.env) = eval (.Name x p) X.env := by rfl)
    (hfew : (((backTo pos' (starEach [e] X.env)).all fun x => !x.fst) && (backToKw pos' (keywordEach [] X.env)).all fun x => x.fst.isSome) && decide (([e].length + ([] : List Keyword).length + if ([] : List Keyword).isEmpty = true then 0 else 1) < 30) = true := by rfl) (hline : (p1.endLine == pos'.line) = true := by rfl) :
    ES X W (.Expr (.Call (.Attribute (.Name x p) "append" p1) [e] [] pos') pos) (sApp i f) :=
  ps_weak (ps_expr (pe_bm PySem.F.plainAttrs_list PySem.F.slot_list_append PySem.F.type_list_append mt_append (pe_var hN hv hd hcd) (pa_cons he pa_nil h1) hbase hfew hline h1) hs) fun D σ H ⟨B, ρ, F, R, h⟩ => by
    unfold sApp at h
    split at h
    · rename_i ds hx
      obtain ⟨p, xs, hv, nf, hp, rp⟩ := R.owns hx
      refine ⟨.ref p, hv, .inl ⟨rfl, xs, .inl (.inl hp)⟩, ?_⟩
      refine ⟨B, ρ, F, R, PstS.expr R h fun s v F1 H1 A _ g1 vr fr h1 => ?_⟩
      cases e1 : argS s with
      | exc c => exact (argS_exc e1).elim
      | bad => rw [e1] at h1; exact h1.elim
      | ok t =>
        rw [e1] at h1
        obtain ⟨rfl, kd, kt⟩ := argS_ok e1
        obtain ⟨F2, g2, vr2⟩ := settle_ok g1 vr fr kd kt
        rw [Rs.out_ok] at h1
        split at h1
        · rename_i d e2
          split at h1
          · rename_i hz
            rw [e2] at vr2
            refine ⟨p, xs, v, rfl, rfl, g1.exH _ _ hp, sz_lt (by rw [rp.length]; exact hz), h1 σ F2 _ ((R.grow g2).setOw hx hv ((rp.mono g2.exF).append (.cons vr2.2 .nil)))⟩
          · exact h1.elim
        · exact h1.elim
    · exact h.elim
end
end BV
namespace BV
open PySem PySem.Spec PyProof.Rows L2
/-! ### list comprehensions -/
abbrev W0 : WX := fun _ _ _ _ => False
def wipeR (ρ : Rho) : List Nat → Rho
  | [] => ρ
  | v :: vs => (wipeR ρ vs).set v .no
def lcL (t : D → Rho → Option Rho) (c : Rho → Rs Bool) (f : EV) (ρ : Rho) : List D → Rs (List D)
  | [] => .ok []
  | d :: ds => match t d ρ with
    | none => .bad
    | some ρ1 => (c ρ1).bind fun b => if b then (f ρ1).bind fun s => (argS s).bind fun u => match u with
        | .fz e => (lcL t c f ρ ds).bind fun r => .ok (e :: r)
        | _ => .bad
      else lcL t c f ρ ds
def noExc {α : Type} : Rs α → Rs α
  | .ok a => .ok a
  | _ => .bad
def eLc (vs : List Nat) (src : Rho → Rs (List D)) (t : D → Rho → Option Rho) (c : Rho → Rs Bool) (f : EV) : EV := fun ρ => (src ρ).bind fun ds => if ds.length ≤ 50000 then (noExc (lcL t c f (wipeR ρ vs) ds)).bind fun es => .ok (.ow es) else .bad
section
variable {K : PySem.W.Frag} {mg : MG} {W : WX} {B : Bs} {σ : L2.St} {ρ : Rho} {F H F1 H1 : Hp}
theorem Rep.wipe1 (R : Rep K B ρ σ F H) (i : Nat) : Rep K B (ρ.set i .no) (σ.set i none) F H := by
  obtain ⟨⟨fp, h1, h2, h3⟩, gr, len⟩ := R
  refine ⟨⟨fun k => if k = i then [] else fp k, fun k s e => ?_, fun k j a hk hj => ?_, fun k a hk => ?_⟩, gr, by simp [len]⟩
  · by_cases hk : k = i
    · subst hk
      have hl : k < ρ.length := by
        have := (List.getElem?_eq_some_iff.mp e).1
        simpa using this
      rw [List.getElem?_set_self hl] at e
      cases e
      exact .inl rfl
    · rw [List.getElem?_set_ne (Ne.symm hk)] at e
      rcases h1 k s e with h | ⟨n, w, hv, r⟩
      · exact .inl h
      · refine .inr ⟨n, w, ?_, ?_⟩
        · rw [List.getElem?_set_ne (Ne.symm hk)]; exact hv
        · simp only [if_neg hk]; exact r
  · by_cases ek : k = i
    · simp only [if_pos ek] at hk; cases hk
    · by_cases ej : j = i
      · simp only [if_pos ej] at hj; cases hj
      · simp only [if_neg ek, if_neg ej] at hk hj
        exact h2 k j a hk hj
  · by_cases ek : k = i
    · simp only [if_pos ek] at hk; cases hk
    · simp only [if_neg ek] at hk
      exact h3 k a hk
theorem Rep.wipe (R : Rep K B ρ σ F H) : ∀ vs : List Nat, Rep K B (wipeR ρ vs) (wipe σ vs) F H
  | [] => R
  | v :: vs => (Rep.wipe R vs).wipe1 v
theorem Grow.mutNew {p : Addr} {o : HO} (g : Grow F H F1 H1) (h : H p = none) (f : F1 p = none) : Grow F H F1 (upd H1 p o) := ⟨g.exF, fun a u e => by
  rw [upd_ne (ne_of_none e h)]
  exact g.exH _ _ e, fun a u e => by
  rw [upd_ne (ne_of_none e f)]
  exact g.sub _ _ e, g.news⟩
theorem lcL_len {t : D → Rho → Option Rho} {c : Rho → Rs Bool} {f : EV} : ∀ {ds : List D} {es : List D}, lcL t c f ρ ds = .ok es → es.length ≤ ds.length
  | [], es, h => by cases h; exact Nat.le_refl _
  | d :: ds, es, h => by
    unfold lcL at h
    split at h
    · cases h
    · rename_i ρ1 _
      cases ec : c ρ1 with
      | exc c => rw [ec] at h; cases h
      | bad => rw [ec] at h; cases h
      | ok b =>
        rw [ec] at h
        cases b with
        | false => exact Nat.le_succ_of_le (lcL_len (show lcL t c f ρ ds = .ok es from h))
        | true =>
          rw [Rs.bind_ok, if_pos rfl] at h
          cases ef : f ρ1 with
          | exc c => rw [ef] at h; cases h
          | bad => rw [ef] at h; cases h
          | ok s =>
            rw [ef, Rs.bind_ok] at h
            cases ea : argS s with
            | exc c => rw [ea] at h; cases h
            | bad => rw [ea] at h; cases h
            | ok u =>
              rw [ea, Rs.bind_ok] at h
              split at h
              · rename_i e
                cases el : lcL t c f ρ ds with
                | exc c => rw [el] at h; cases h
                | bad => rw [el] at h; cases h
                | ok r =>
                  rw [el] at h
                  cases h
                  have := lcL_len el
                  simp
                  omega
              · cases h
/-- the reading of a comprehension -/
theorem lc_read {g : TG} {is vs : List Nat} {src : Rho → Rs (List D)} {t : D → Rho → Option Rho} {c : Rho → Rs Bool} {f : EV} (hg : TgS K g is t) (hvs : ∀ i ∈ is, i ∈ vs) {Q : VK}
    (R0 : Rep K B ρ σ F H) (h : Pst K mg W B σ F H (eLc vs src t c f ρ) Q) : tLc (tI K mg W src) g (tT K mg W0 c) (tV K mg W0 f) vs σ H Q := by
  refine ⟨B, ρ, F, R0, ?_⟩
  unfold eLc at h
  cases e : src ρ with
  | bad => rw [e] at h; exact h
  | exc c => rw [e] at h; exact h
  | ok ds =>
    rw [e, Rs.bind_ok] at h
    intro F2 H1 J g1 jk Dl nD
    split at h
    · rename_i hz
      cases el : lcL t c f (wipeR ρ vs) ds with
      | exc c => rw [el] at h; exact h.elim
      | bad => rw [el] at h; exact h.elim
      | ok out =>
        rw [el] at h
        have h : Pst K mg W B σ F H (.ok (.ow out)) Q := h
        have nF2 : F2 Dl = none := g1.sub.back nD
        have gB : Grow B.F0 B.H0 F2 H1 := R0.gr.trans g1
        have Rw : Rep K B (wipeR ρ vs) (wipe σ vs) F2 H1 := (R0.grow g1).wipe vs
        have hol := lcL_len el
        refine ⟨fun i m H' => m = ds.length - i ∧ i ≤ ds.length ∧ ∃ F' xs es rest, Grow F2 H1 F' H' ∧ F' Dl = none ∧ H' Dl = some (.lst xs) ∧ RpAll F' xs es ∧ lcL t c f (wipeR ρ vs) (ds.drop i) = .ok rest ∧ out = es ++ rest, ⟨ds.length, by simp, Nat.zero_le _, F2, [], [], out, Grow.own g1.sub nD, nF2, upd_same, .nil, by simpa using el, rfl⟩, ?_⟩
        rintro i m H' ⟨rfl, hi, F', xs, es, rest, g', nF', hD, rp, er, eo⟩
        obtain ⟨j1, j2⟩ := jk i F' H' g'.exF (gB.trans g')
        by_cases hlt : i < ds.length
        · rw [List.drop_eq_getElem_cons hlt] at er
          obtain ⟨jg, jy⟩ := j1 ds[i] (List.getElem?_eq_getElem hlt)
          refine .inr ⟨jg, fun H'' => ∃ F' xs es rest, Grow F2 H1 F' H'' ∧ F' Dl = none ∧ H'' Dl = some (.lst xs) ∧ RpAll F' xs es ∧ lcL t c f (wipeR ρ vs) (ds.drop (i + 1)) = .ok rest ∧ out = es ++ rest, fun H'' w => ⟨ds.length - (i + 1), by omega, rfl, by omega, w⟩, fun x H2 y => ?_⟩
          obtain ⟨F3, g3, rx⟩ := jy x H2 y
          have g13 := g'.trans g3
          have nF3 : F3 Dl = none := none_grow (H' := H2) g3.news nF' hD
          have hD3 : H2 Dl = some (.lst xs) := g3.exH _ _ hD
          unfold lcL at er
          cases et : t ds[i] (wipeR ρ vs) with
          | none => rw [et] at er; cases er
          | some ρ1 =>
            rw [et] at er
            dsimp only at er
            refine hg B (wipeR ρ vs) (wipe σ vs) F3 H2 x ds[i] ρ1 (Rw.grow g13) rx et _ fun σ2 R2 w2 => ⟨?_, B, ρ1, F3, R2, ?_⟩
            · rw [w2 vs hvs, wipe_wipe σ vs vs fun _ z => z]
            · cases ec : c ρ1 with
              | exc c => rw [ec] at er; cases er
              | bad => rw [ec] at er; cases er
              | ok b =>
                rw [ec, Rs.bind_ok] at er
                intro F4 H4 g4
                have g14 := g13.trans g4
                have nF4 : F4 Dl = none := none_grow (H' := H4) g4.news nF3 hD3
                have hD4 : H4 Dl = some (.lst xs) := g4.exH _ _ hD3
                cases b with
                | false =>
                  rw [if_neg Bool.false_ne_true] at er ⊢
                  exact ⟨F4, xs, es, rest, g14, nF4, hD4, rp.mono (g3.exF.trans g4.exF), er, eo⟩
                | true =>
                  rw [if_pos rfl] at er ⊢
                  refine ⟨B, ρ1, F4, R2.grow g4, ?_⟩
                  cases ef : f ρ1 with
                  | exc c => rw [ef] at er; cases er
                  | bad => rw [ef] at er; cases er
                  | ok s =>
                    rw [ef, Rs.bind_ok] at er
                    intro v F5 H5 A g5 vr fr
                    cases ea : argS s with
                    | exc c => rw [ea] at er; cases er
                    | bad => rw [ea] at er; cases er
                    | ok u =>
                      rw [ea, Rs.bind_ok] at er
                      obtain ⟨rfl, kd, kt⟩ := argS_ok ea
                      obtain ⟨F6, g6, vr6⟩ := settle_ok g5 vr fr kd kt
                      split at er
                      · rename_i e0 e1
                        cases el2 : lcL t c f (wipeR ρ vs) (ds.drop (i + 1)) with
                        | exc c => rw [el2] at er; cases er
                        | bad => rw [el2] at er; cases er
                        | ok r2 =>
                          rw [el2] at er
                          cases er
                          rw [e1] at vr6
                          have nF6 : F6 Dl = none := none_grow (H' := H5) g6.news nF4 hD4
                          have hD6 : H5 Dl = some (.lst xs) := g6.exH _ _ hD4
                          refine ⟨xs, hD6, sz_lt ?_, F6, xs ++ [v], es ++ [e0], r2, (g14.trans g6).mutNew nD nF6, nF6, upd_same, (rp.mono (g3.exF.trans (g4.exF.trans g6.exF))).append (.cons vr6.2 .nil), rfl, by rw [eo, List.append_assoc]; rfl⟩
                          have l1 := rp.length
                          rw [eo, List.length_append] at hol
                          omega
                      · cases er
        · have : i = ds.length := by omega
          subst this
          rw [List.drop_length] at er
          cases er
          rw [List.append_nil] at eo
          subst eo
          refine .inl ⟨j2 (Nat.le_refl _), h (.ref Dl) F' H' [Dl] (g1.trans g') ⟨Dl, xs, rfl, rfl, nF', hD, rp⟩ fun a ha => ?_⟩
          cases ha with
          | head => exact g1.exH.back nD
          | tail _ z => cases z
    · exact h.elim
end
def cYes : Rho → Rs Bool := fun _ => .ok true
section
variable {X : Cx} {W : WX} {pos : Pos} {elt tg iter : Expr} {ifs : List Expr} {scope : Scope} {own : List (Str × Nat)} {g : TG} {is : List Nat} {src : Rho → Rs (List D)} {t : D → Rho → Option Rho} {c : Rho → Rs Bool} {f : EV}
theorem blk_by {N : List Str} {sc scope : Scope} {own : List (Str × Nat)} (h : blkC N sc scope own = true) : blkC N sc scope own = true := h
theorem ts_nil {X : Cx} : PTs X [] (tT X.K X.mg W0 cYes) := ⟨fun pins s σ H Q I ⟨B, ρ, F, R, h⟩ => pts_nil.run pins s σ H Q I (h F H (Grow.refl R.gr.sub))⟩
theorem ts_one {X : Cx} {e : Expr} (h : ET X W0 e c) : PTs X [e] (tT X.K X.mg W0 c) := pts_one h
theorem e_lc (hc : X.calm = true) (hN : X.N.Nodup) (ok : blkC X.N X.env.scope scope own = true) (hi : EI X W tg iter src) (hvs : ∀ i ∈ is, i ∈ own.map (·.2))
    (hg : ∀ (s : Shared) (H : Hp) (C : Addr) (cl : List (Str × Addr)) (fp : List Addr), EG (X.blk s H scope (compEnvC scope cl C X.env) fp) tg g is t) (ht : ∀ (s : Shared) (H : Hp) (C : Addr) (cl : List (Str × Addr)) (fp : List Addr), PTs (X.blk s H scope (compEnvC scope cl C X.env) fp) ifs (tT X.K X.mg W0 c))
    (he : ∀ (s : Shared) (H : Hp) (C : Addr) (cl : List (Str × Addr)) (fp : List Addr), EE (X.blk s H scope (compEnvC scope cl C X.env) fp) W0 elt f) (hs : ∀ x, foldedSetIterable iter X.env x = pure x := by intro _; rfl) :
    EE X W (.ListComp elt [⟨tg, iter, ifs, 0⟩] scope pos) (eLc (own.map (·.2)) src t c f) :=
  pe_weak (pe_lc (te := tV X.K X.mg W0 f) hc hN hi (blkOk_by ok) (fun s H C cl fp => (hg s H C cl fp).pg) ht he hs) fun σ H Q ⟨B, ρ, F, R, h⟩ => lc_read (hg X.s_0 H 0 [] []).ts hvs R h
theorem s_setLc {i : Nat} {y : Str} {py spos : Pos} (hc : X.calm = true) (hN : X.N.Nodup) (ok : blkC X.N X.env.scope scope own = true) (hi : EI X W tg iter src) (hvs : ∀ i ∈ is, i ∈ own.map (·.2))
    (hg : ∀ (s : Shared) (H : Hp) (C : Addr) (cl : List (Str × Addr)) (fp : List Addr), EG (X.blk s H scope (compEnvC scope cl C X.env) fp) tg g is t) (ht : ∀ (s : Shared) (H : Hp) (C : Addr) (cl : List (Str × Addr)) (fp : List Addr), PTs (X.blk s H scope (compEnvC scope cl C X.env) fp) ifs (tT X.K X.mg W0 c))
    (he : ∀ (s : Shared) (H : Hp) (C : Addr) (cl : List (Str × Addr)) (fp : List Addr), EE (X.blk s H scope (compEnvC scope cl C X.env) fp) W0 elt f)
    (hsw : swapsWith (.ListComp elt [⟨tg, iter, ifs, 0⟩] scope pos) (some (.Name y py)) spos.line X.env = pure true) (hy : X.N[i]? = some y := by rfl) (hyl : X.env.scope.names.lookup y = some .local := by rfl) (hs : ∀ x, foldedSetIterable iter X.env x = pure x := by intro _; rfl) :
    ES X W (.Assign [.Name y py] (.ListComp elt [⟨tg, iter, ifs, 0⟩] scope pos) spos) (sSet i (eLc (own.map (·.2)) src t c f)) :=
  ps_weak (ps_setLc (te := tV X.K X.mg W0 f) hc hN hy hyl hsw hi (blkOk_by ok) (fun s H C cl fp => (hg s H C cl fp).pg) ht he hs) fun D σ H ⟨B, ρ, F, R, h⟩ => lc_read (hg X.s_0 H 0 [] []).ts hvs R (PstS.expr R h fun sl v F1 H1 A _ g1 vr fr h1 => by
    split at h1
    · rename_i kp
      exact h1 _ F1 H1 (R.store g1 vr fr kp i)
    · exact h1.elim)
theorem s_setLcF {i : Nat} {y : Str} {py spos : Pos} (hc : X.calm = true) (hN : X.N.Nodup) (ok : blkC X.N X.env.scope scope own = true) (hi : EI X W tg iter src) (hvs : ∀ i ∈ is, i ∈ own.map (·.2))
    (hg : ∀ (s : Shared) (H : Hp) (C : Addr) (cl : List (Str × Addr)) (fp : List Addr), EG (X.blk s H scope (compEnvC scope cl C X.env) fp) tg g is t) (ht : ∀ (s : Shared) (H : Hp) (C : Addr) (cl : List (Str × Addr)) (fp : List Addr), PTs (X.blk s H scope (compEnvC scope cl C X.env) fp) ifs (tT X.K X.mg W0 c))
    (he : ∀ (s : Shared) (H : Hp) (C : Addr) (cl : List (Str × Addr)) (fp : List Addr), EE (X.blk s H scope (compEnvC scope cl C X.env) fp) W0 elt f)
    (hsw : swapsWith (.ListComp elt [⟨tg, iter, ifs, 0⟩] scope pos) (some (.Name y py)) spos.line X.env = pure true) (hy : X.N[i]? = some y := by rfl) (hyl : X.env.scope.names.lookup y = some .local := by rfl) (hs : ∀ x, foldedSetIterable iter X.env x = pure x := by intro _; rfl) :
    ES X W (.Assign [.Name y py] (.ListComp elt [⟨tg, iter, ifs, 0⟩] scope pos) spos) (sSetF i (eLc (own.map (·.2)) src t c f)) :=
  ps_weak (ps_setLc (te := tV X.K X.mg W0 f) hc hN hy hyl hsw hi (blkOk_by ok) (fun s H C cl fp => (hg s H C cl fp).pg) ht he hs) fun D σ H ⟨B, ρ, F, R, h⟩ => lc_read (hg X.s_0 H 0 [] []).ts hvs R (PstS.expr R h fun sl v F1 H1 A _ g1 vr fr h1 => set_fz R g1 vr fr h1)
end
end BV
namespace BV
open PySem PySem.Spec PyProof.Rows L2
def fuelI (i : Nat) : Rho → Nat := fun ρ => match ρ[i]? with
  | some (.fz (.int j)) => j.natAbs + 1
  | _ => 0
theorem hu65 {k : Nat} {A : Around} (r : Room k A) : A.units + 65 < cLine := by have := r.un; omega
section
variable {X : Cx} {W : WX} {e x y : Expr} {es : List Expr} {f g : EV} {fs : Rho → Rs (List Sl)} {pos p : Pos}
theorem e_all (hm : X.mg "all" = none) (ha : EA X W [x] fs) (hc : X.calm = true := by rfl) (hg : Gl X "all" := by rfl) (he : starEach [x] X.env = (false, eval x X.env) :: starEach [] X.env := by rfl) : EE X W (.Call (.Name "all" p) [x] [] pos) (eCB allF fs) := e_callB (cr_all hc) cal_all hm (by decide +kernel) ha hg (by decide) (by decide) he rfl
/-- from here on nobody changes it -/
def sFz (i : Nat) : SV := fun ρ => match ρ[i]? with
  | some (.ow ds) => .nx (ρ.set i (.fz (.list ds)))
  | _ => .bad
theorem b_fz {i : Nat} {sts : List Stmt} {g : SV} (h : ESs X W sts g) : ESs X W sts (sSeq (sFz i) g) := pss_weak h fun DE σ H ⟨B, ρ, F, R, h⟩ => by
  unfold sSeq sFz at h
  cases e : ρ[i]? with
  | none => rw [e] at h; exact h.elim
  | some s =>
    rw [e] at h
    cases s with
    | ow ds =>
      obtain ⟨p, xs, hv, nf, hp, rp⟩ := R.owns e
      obtain ⟨fp, h1, h2, h3⟩ := R.fp
      have pin : p ∈ fp i := by
        rcases h1 i _ e with z | ⟨_, v, hv', q, ys, e1, e2, _⟩
        · cases z
        · rw [hv] at hv'
          cases hv'
          cases e1
          rw [e2]
          exact List.mem_cons_self ..
      have e2 : Ex F (upd F p (.lst xs)) := Ex.new nf
      have s2 : Ex (upd F p (.lst xs)) H := fun a u ea => by
        by_cases hp' : a = p
        · subst hp'; rw [upd_same] at ea; cases ea; exact hp
        · rw [upd_ne hp'] at ea; exact R.gr.sub a u ea
      refine ⟨B, _, upd F p (.lst xs), ⟨⟨fun k => if k = i then [] else fp k, fun k s ek => ?_, fun k j a hk hj => ?_, fun k a hk => ?_⟩, ⟨R.gr.exF.trans e2, R.gr.exH, s2, fun a u ea => ?_⟩, by simp [R.len]⟩, h⟩
      · by_cases hk : k = i
        · subst hk
          have hl : k < ρ.length := (List.getElem?_eq_some_iff.mp e).1
          rw [List.getElem?_set_self hl] at ek
          cases ek
          refine .inr ⟨rfl, .ref p, hv, ?_⟩
          simp only [if_pos]
          exact ⟨rfl, .lst upd_same (rp.mono e2)⟩
        · rw [List.getElem?_set_ne (Ne.symm hk)] at ek
          rcases h1 k s ek with z | ⟨n, v, hv', r⟩
          · exact .inl z
          · refine .inr ⟨n, v, hv', ?_⟩
            simp only [if_neg hk]
            have nk : p ∉ fp k := fun z => hk (h2 k i p z pin)
            cases s with
            | no => exact r
            | fz d => exact ⟨r.1, r.2.mono e2⟩
            | br d => obtain ⟨a, q, ys, b, c, d⟩ := r; exact ⟨a, q, ys, b, c, d.mono e2⟩
            | scr d => exact r
            | vw d => cases n
            | vg d => cases n
            | exo d => exact r
            | og d => exact ⟨r.1, r.2.move e2 (fun a ha => by
                rw [upd_ne (show a ≠ p from fun z => nk (z ▸ ha))]
                exact (r.2.known a ha).1) fun a ha o ho => ho⟩
            | ow d =>
              obtain ⟨q, ys, e1, e3, e4, e5, e6⟩ := r
              have : q ≠ p := fun z => nk (by rw [e3, ← z]; exact List.mem_cons_self ..)
              exact ⟨q, ys, e1, e3, by rw [upd_ne this]; exact e4, e5, e6.mono e2⟩
            | di d =>
              obtain ⟨q, ys, e1, e3, e4, e5, e6⟩ := r
              have : q ≠ p := fun z => nk (by rw [e3, ← z]; exact List.mem_cons_self ..)
              exact ⟨q, ys, e1, e3, by rw [upd_ne this]; exact e4, e5, e6.mono e2⟩
            | dt d =>
              obtain ⟨q, ys, e1, e3, e4, e5, e6⟩ := r
              have : q ≠ p := fun z => nk (by rw [e3, ← z]; exact List.mem_cons_self ..)
              exact ⟨q, ys, e1, e3, by rw [upd_ne this]; exact e4, e5, e6.mono e2⟩
      · by_cases ek : k = i
        · simp only [if_pos ek] at hk; cases hk
        · by_cases ej : j = i
          · simp only [if_pos ej] at hj; cases hj
          · simp only [if_neg ek, if_neg ej] at hk hj
            exact h2 k j a hk hj
      · by_cases ek : k = i
        · simp only [if_pos ek] at hk; cases hk
        · simp only [if_neg ek] at hk
          obtain ⟨a1, a2, a3⟩ := h3 k a hk
          have : a ≠ p := fun z => ek (h2 k i p (z ▸ hk) pin)
          exact ⟨a1, by rw [upd_ne this]; exact a2, a3⟩
      · by_cases hp' : a = p
        · subst hp'; exact .inr (.inl (h3 i a pin).1)
        · rw [upd_ne hp'] at ea; exact R.gr.news a u ea
    | no => exact h.elim
    | fz d => exact h.elim
    | br d => exact h.elim
    | vw d => exact h.elim
    | scr d => exact h.elim
    | di d => exact h.elim
    | dt d => exact h.elim
    | og d => exact h.elim
    | vg d => exact h.elim
    | exo d => exact h.elim
end
end BV
namespace BV
open PySem L2
/-! ### reckoning -/
section
variable {i j : Int} {a b : D} {ds es : List D} {p q : Bool} {x y : Str}
theorem addOp_int : addOp (.fz (.int i)) (.fz (.int j)) = some (.fz (.int (i + j))) := rfl
theorem subOp_int : subOp (.fz (.int i)) (.fz (.int j)) = some (.fz (.int (i - j))) := rfl
theorem ltOp_int : ltOp (.fz (.int i)) (.fz (.int j)) = some (.fz (.bool (decide (i < j)))) := rfl
theorem leOp_int : leOp (.fz (.int i)) (.fz (.int j)) = some (.fz (.bool (decide (i ≤ j)))) := rfl
theorem gtOp_int : gtOp (.fz (.int i)) (.fz (.int j)) = some (.fz (.bool (decide (j < i)))) := rfl
theorem geOp_int : geOp (.fz (.int i)) (.fz (.int j)) = some (.fz (.bool (decide (j ≤ i)))) := rfl
theorem eqOp_int : eqOp (.fz (.int i)) (.fz (.int j)) = some (.fz (.bool (decide (i = j)))) := by
  show some (Sl.fz (PyData.bool (i == j))) = _
  rw [Bool.beq_eq_decide_eq]
theorem neOp_int : neOp (.fz (.int i)) (.fz (.int j)) = some (.fz (.bool (!decide (i = j)))) := by
  show some (Sl.fz (PyData.bool (!(i == j)))) = _
  rw [Bool.beq_eq_decide_eq]
theorem mulOp_int (h : mulOk i j = true) : mulOp (.fz (.int i)) (.fz (.int j)) = some (.fz (.int (i * j))) := by
  show b2o (mulOk i j) _ = _
  rw [h]
  rfl
theorem divOp_int (h : divOk i j = true) : divOp (.fz (.int i)) (.fz (.int j)) = some (.fz (.int (i / j))) := by
  show b2o (divOk i j) _ = _
  rw [h]
  rfl
theorem modOp_int (h : 0 < j) : modOp (.fz (.int i)) (.fz (.int j)) = some (.fz (.int (i % j))) := by
  show b2o (decide (0 < j)) _ = _
  rw [decide_eq_true h]
  rfl
theorem mulOk_r (h : -(2 ^ 64) < j ∧ j < 2 ^ 64) : mulOk i j = true := by
  unfold mulOk small
  simp only [Bool.or_eq_true, Bool.and_eq_true, decide_eq_true_eq]
  exact .inl (.inr h)
theorem mulOk_l (h : -(2 ^ 64) < i ∧ i < 2 ^ 64) : mulOk i j = true := by
  unfold mulOk small
  simp only [Bool.or_eq_true, Bool.and_eq_true, decide_eq_true_eq]
  exact .inl (.inl h)
theorem mulOk_f (h : fits i = true) (h' : fits j = true) : mulOk i j = true := by
  unfold mulOk
  rw [h, h']
  simp
theorem divOk_i (h : 0 < j) (h' : fits j = true) : divOk i j = true := by
  unfold divOk
  rw [h', decide_eq_true h]
  rfl
theorem fits_of {k : Nat} (h : i.natAbs < 2 ^ k) (hk : k ≤ 1000) : fits i = true := decide_eq_true (Nat.lt_of_lt_of_le h (Nat.pow_le_pow_right (by decide) hk))
theorem fits_b (h : -(2 ^ 64) < i ∧ i < 2 ^ 64) : fits i = true := fits_of (k := 64) (by omega) (by decide)
/-- a number of fewer than k bits -/
def Bits (k : Nat) (i : Int) : Prop := i.natAbs < 2 ^ k
theorem Bits.fits {k : Nat} (h : Bits k i) (hk : k ≤ 1000) : fits i = true := fits_of h hk
theorem Bits.mul {k l : Nat} (h : Bits k i) (h' : Bits l j) : Bits (k + l) (i * j) := by
  unfold Bits at *
  rw [Int.natAbs_mul, Nat.pow_add]
  exact Nat.mul_lt_mul'' h h'
theorem Bits.mono {k l : Nat} (h : Bits k i) (hk : k ≤ l) : Bits l i := Nat.lt_of_lt_of_le h (Nat.pow_le_pow_right (by decide) hk)
theorem Bits.le {k : Nat} (h : Bits k j) (hl : i.natAbs ≤ j.natAbs) : Bits k i := Nat.lt_of_le_of_lt hl h
theorem Bits.mulOk {k l : Nat} (h : Bits k i) (h' : Bits l j) (hk : k ≤ 1000) (hl : l ≤ 1000) : mulOk i j = true := mulOk_f (h.fits hk) (h'.fits hl)
theorem divOp_s (h : 0 < j) (h' : j < 18446744073709551616) : divOp (.fz (.int i)) (.fz (.int j)) = some (.fz (.int (i / j))) := divOp_int (divOk_i h (fits_b (by omega)))
theorem mulOp_r (h : -18446744073709551616 < j) (h' : j < 18446744073709551616) : mulOp (.fz (.int i)) (.fz (.int j)) = some (.fz (.int (i * j))) := mulOp_int (mulOk_r (by omega))
theorem mulOp_l (h : -18446744073709551616 < i) (h' : i < 18446744073709551616) : mulOp (.fz (.int i)) (.fz (.int j)) = some (.fz (.int (i * j))) := mulOp_int (mulOk_l (by omega))
theorem ix_tup0 : ixOp (.fz (.tuple (a :: ds))) (.fz (.int 0)) = some (.fz a) := by
  show (atI (a :: ds) 0).map Sl.fz = _
  rw [show atI (a :: ds) 0 = some a from atI_nat (j := 0) rfl]
  rfl
theorem ix_tup1 : ixOp (.fz (.tuple (a :: b :: ds))) (.fz (.int 1)) = some (.fz b) := by
  show (atI (a :: b :: ds) 1).map Sl.fz = _
  rw [show atI (a :: b :: ds) 1 = some b from atI_nat (j := 1) rfl]
  rfl
theorem ix_tup {n : Nat} (h : ds[n]? = some a) : ixOp (.fz (.tuple ds)) (.fz (.int n)) = some (.fz a) := by
  show (atI ds n).map Sl.fz = _
  rw [atI_nat h]
  rfl
theorem ix_lst {n : Nat} (h : ds[n]? = some a) : ixOp (.fz (.list ds)) (.fz (.int n)) = some (.fz a) := by
  show (atI ds n).map Sl.fz = _
  rw [atI_nat h]
  rfl
theorem ix_ow {n : Nat} (h : ds[n]? = some a) : ixOp (.ow ds) (.fz (.int n)) = some (.fz a) := by
  show (atI ds n).map Sl.fz = _
  rw [atI_nat h]
  rfl
theorem ix_vw {n : Nat} (h : ds[n]? = some a) : ixOp (.vw ds) (.fz (.int n)) = some (.fz a) := by
  show (atI ds n).map Sl.fz = _
  rw [atI_nat h]
  rfl
theorem ix_br {n : Nat} (h : ds[n]? = some a) : ixOp (.br ds) (.fz (.int n)) = some (.fz a) := by
  show (atI ds n).map Sl.fz = _
  rw [atI_nat h]
  rfl
theorem ix_scr {ns : List Int} {n : Nat} (h : ns[n]? = some i) : ixOp (.scr ns) (.fz (.int n)) = some (.fz (.int i)) := by
  show (atI ns n).map (fun n => Sl.fz (.int n)) = _
  rw [atI_nat h]
  rfl
theorem len_tup : lenF [.fz (.tuple ds)] = some (.fz (.int ds.length)) := rfl
theorem len_lst : lenF [.fz (.list ds)] = some (.fz (.int ds.length)) := rfl
theorem len_vw : lenF [.vw ds] = some (.fz (.int ds.length)) := rfl
theorem len_br : lenF [.br ds] = some (.fz (.int ds.length)) := rfl
theorem len_scr {ns : List Int} : lenF [.scr ns] = some (.fz (.int ns.length)) := rfl
theorem abs_int : intF1 (fun i => if i < 0 then -i else i) [.fz (.int i)] = some (.fz (.int (i.natAbs : Int))) := by
  show some (Sl.fz (.int (if i < 0 then -i else i))) = _
  congr 3
  split <;> omega
theorem isB (n : String) (h : tyName (.fz (.bool p)) = some "bool") : True := trivial
theorem Rs.of_some {α : Type} (x : α) : Rs.of (some x) = .ok x := rfl
theorem asB_bool : asB (.fz (.bool p)) = .ok p := rfl
theorem argS_fz : argS (.fz a) = .ok (.fz a) := rfl
theorem argS_ow : argS (.ow ds) = .ok (.fz (.list ds)) := rfl
theorem argS_vw : argS (.vw ds) = .ok (.vw ds) := rfl
theorem argS_br : argS (.br ds) = .ok (.br ds) := rfl
theorem argS_scr {ns : List Int} : argS (.scr ns) = .ok (.scr ns) := rfl
theorem keeps_fz : (Sl.fz a).keeps = true := rfl
theorem keeps_ow : (Sl.ow ds).keeps = true := rfl
theorem res_fz : (Sl.fz a).res = true := rfl
theorem res_ow : (Sl.ow ds).res = true := rfl
theorem allFz_nil : allFz [] = some [] := rfl
theorem allFz_cons {ss : List Sl} : allFz (.fz a :: ss) = (allFz ss).map (a :: ·) := rfl
theorem tS_if {α : Type} {x y : α} : (if true = true then x else y) = x := rfl
theorem fS_if {α : Type} {x y : α} : (if false = true then x else y) = y := rfl
/-- a call, its arguments and what the def makes of them known -/
theorem call_ok {np : Nat} {g : List Sl → Rs Sl} {fs : Rho → Rs (List Sl)} {ρ : Rho} {ss : List Sl} {r : Rs Sl} (h : fs ρ = .ok ss) (hl : ss.length = np) (ha : ss.all argOk = true) (hg : g (ss.map asArg) = r) : eCall np g fs ρ = r := by
  unfold eCall
  rw [h, Rs.bind_ok, if_pos ⟨hl, ha⟩, hg]
theorem run_rt {n : Nat} {g : SV} {ss : List Sl} {ρ : Rho} {sl : Sl} (e : ss ++ List.replicate (n - ss.length) Sl.no = ρ) (h : g ρ = .rt sl) (hr : sl.res = true) : runDef n g ss = .ok sl := by
  unfold runDef
  rw [e, h]
  exact if_pos hr
theorem seq_nx {g g' : SV} {ρ ρ' : Rho} {o : Out} (h : g ρ = .nx ρ') (h' : g' ρ' = o) : sSeq g g' ρ = o := by
  unfold sSeq
  rw [h, ← h']
theorem seq_rt {g g' : SV} {ρ : Rho} {sl : Sl} (h : g ρ = .rt sl) : sSeq g g' ρ = .rt sl := by
  unfold sSeq
  rw [h]
theorem seq_exc {g g' : SV} {ρ ρ' : Rho} {c : Str} (h : g ρ = .exc c ρ') : sSeq g g' ρ = .exc c ρ' := by
  unfold sSeq
  rw [h]
theorem set_ok {i : Nat} {f : EV} {ρ : Rho} {sl : Sl} (h : f ρ = .ok sl) (hk : sl.keeps = true) : sSet i f ρ = .nx (ρ.set i sl) := by
  unfold sSet
  rw [h]
  exact if_pos hk
theorem setF_ok {i : Nat} {f : EV} {ρ : Rho} {sl t : Sl} (h : f ρ = .ok sl) (ha : argS sl = .ok t) (hk : t.keeps = true) : sSetF i f ρ = .nx (ρ.set i t) := by
  unfold sSetF
  rw [h, Rs.out_ok, ha]
  exact if_pos hk
theorem if_t {c : Rho → Rs Bool} {g g' : SV} {ρ : Rho} {o : Out} (h : c ρ = .ok true) (h' : g ρ = o) : sIf c g g' ρ = o := by
  unfold sIf
  rw [h, ← h']
  rfl
theorem if_f {c : Rho → Rs Bool} {g g' : SV} {ρ : Rho} {o : Out} (h : c ρ = .ok false) (h' : g' ρ = o) : sIf c g g' ρ = o := by
  unfold sIf
  rw [h, ← h']
  rfl
theorem ret_ok {f : EV} {ρ : Rho} {sl : Sl} (h : f ρ = .ok sl) : sRet f ρ = .rt sl := by
  unfold sRet
  rw [h]
  rfl
theorem bin_ok {op : Op2} {a b : EV} {ρ : Rho} {x y z : Sl} (h : a ρ = .ok x) (h' : b ρ = .ok y) (ho : op x y = some z) : eBin op a b ρ = .ok z := by
  unfold eBin
  rw [h, Rs.bind_ok, h', Rs.bind_ok, ho]
  rfl
theorem for_ok {t : D → Rho → Option Rho} {src : Rho → Rs (List D)} {body : SV} {ρ : Rho} (h : src ρ = .ok ds) : sFor t src body ρ = sForL t body ds ρ := by
  unfold sFor
  rw [h]
  rfl
theorem iT_ok {f : EV} {ρ : Rho} (h : f ρ = .ok (.fz (.tuple ds))) : iT f ρ = .ok ds := by
  unfold iT
  rw [h]
  rfl
theorem iL_ok {f : EV} {ρ : Rho} {s : Sl} (h : f ρ = .ok s) (hs : walkL s = .ok ds) : iL f ρ = .ok ds := by
  unfold iL
  rw [h]
  exact hs
theorem cB_ok {f : EV} {ρ : Rho} {b : Bool} (h : f ρ = .ok (.fz (.bool b))) : cB f ρ = .ok b := by
  unfold cB
  rw [h]
  rfl
theorem nc_0 : ((0 : Nat) : Int) = 0 := rfl
theorem nc_1 : ((1 : Nat) : Int) = 1 := rfl
theorem nc_2 : ((2 : Nat) : Int) = 2 := rfl
theorem nc_3 : ((3 : Nat) : Int) = 3 := rfl
theorem nc_4 : ((4 : Nat) : Int) = 4 := rfl
theorem nc_5 : ((5 : Nat) : Int) = 5 := rfl
theorem nc_6 : ((6 : Nat) : Int) = 6 := rfl
theorem nc_7 : ((7 : Nat) : Int) = 7 := rfl
theorem nc_8 : ((8 : Nat) : Int) = 8 := rfl
theorem nc_9 : ((9 : Nat) : Int) = 9 := rfl
theorem nc_10 : ((10 : Nat) : Int) = 10 := rfl
theorem nc_11 : ((11 : Nat) : Int) = 11 := rfl
theorem nc_12 : ((12 : Nat) : Int) = 12 := rfl
theorem isTab_NoneType_int : isTab "NoneType" "int" = false := by decide +kernel
theorem isTab_NoneType_bool : isTab "NoneType" "bool" = false := by decide +kernel
theorem isTab_NoneType_tuple : isTab "NoneType" "tuple" = false := by decide +kernel
theorem isTab_NoneType_list : isTab "NoneType" "list" = false := by decide +kernel
theorem isTab_NoneType_str : isTab "NoneType" "str" = false := by decide +kernel
theorem isTab_bool_int : isTab "bool" "int" = true := by decide +kernel
theorem isTab_bool_bool : isTab "bool" "bool" = true := by decide +kernel
theorem isTab_bool_tuple : isTab "bool" "tuple" = false := by decide +kernel
theorem isTab_bool_list : isTab "bool" "list" = false := by decide +kernel
theorem isTab_bool_str : isTab "bool" "str" = false := by decide +kernel
theorem isTab_int_int : isTab "int" "int" = true := by decide +kernel
theorem isTab_int_bool : isTab "int" "bool" = false := by decide +kernel
theorem isTab_int_tuple : isTab "int" "tuple" = false := by decide +kernel
theorem isTab_int_list : isTab "int" "list" = false := by decide +kernel
theorem isTab_int_str : isTab "int" "str" = false := by decide +kernel
theorem isTab_str_int : isTab "str" "int" = false := by decide +kernel
theorem isTab_str_bool : isTab "str" "bool" = false := by decide +kernel
theorem isTab_str_tuple : isTab "str" "tuple" = false := by decide +kernel
theorem isTab_str_list : isTab "str" "list" = false := by decide +kernel
theorem isTab_str_str : isTab "str" "str" = true := by decide +kernel
theorem isTab_list_int : isTab "list" "int" = false := by decide +kernel
theorem isTab_list_bool : isTab "list" "bool" = false := by decide +kernel
theorem isTab_list_tuple : isTab "list" "tuple" = false := by decide +kernel
theorem isTab_list_list : isTab "list" "list" = true := by decide +kernel
theorem isTab_list_str : isTab "list" "str" = false := by decide +kernel
theorem isTab_tuple_int : isTab "tuple" "int" = false := by decide +kernel
theorem isTab_tuple_bool : isTab "tuple" "bool" = false := by decide +kernel
theorem isTab_tuple_tuple : isTab "tuple" "tuple" = true := by decide +kernel
theorem isTab_tuple_list : isTab "tuple" "list" = false := by decide +kernel
theorem isTab_tuple_str : isTab "tuple" "str" = false := by decide +kernel
end
end BV
namespace BV
open PySem PySem.Spec PyProof.Rows L2
/-! ### a call whose answer is a plain value may look at what the caller owns -/
def asFz : Sl → Sl
  | .vw ds => .fz (.list ds)
  | .br ds => .fz (.list ds)
  | .vg d => .fz d
  | s => s
def argOkS : Sl → Bool
  | .fz _ => true
  | .br _ => true
  | .vw _ => true
  | .vg _ => true
  | .scr _ => true
  | .exo _ => true
  | _ => false
def scal : Sl → Bool
  | .fz .none => true
  | .fz (.bool _) => true
  | .fz (.int _) => true
  | .fz (.str _) => true
  | _ => false
def eCallS (np : Nat) (g : List Sl → Rs Sl) (fs : Rho → Rs (List Sl)) : EV := fun ρ => (fs ρ).bind fun ss => if ss.length = np ∧ ss.all argOkS = true then (g (ss.map asFz)).bind fun sl => if scal sl then .ok sl else .bad else .bad
theorem asFz_ok {K : PySem.W.Frag} {B : Bs} {F H : Hp} (g : Grow B.F0 B.H0 F H) : ∀ {vs : List V} {ss : List Sl}, ARs K B F H vs ss → ARs K ⟨H, H⟩ H H vs (ss.map asFz)
  | _, _, .nil => .nil
  | _, s :: r, .cons h t => .cons (by
      cases s with
      | no => exact h
      | fz d => exact ⟨rfl, h.2.mono g.sub⟩
      | di d => obtain ⟨p, ks, _, z, _⟩ := h; cases z
      | dt d => obtain ⟨p, ks, _, z, _⟩ := h; cases z
      | ow d => obtain ⟨p, ks, _, z, _⟩ := h; cases z
      | br d => obtain ⟨a, p, xs, e, hp, q⟩ := h; subst e; exact ⟨rfl, .lst (g.exH _ _ hp) (q.mono g.sub)⟩
      | vw d => obtain ⟨a, p, xs, e, hp, q⟩ := h; subst e; exact ⟨rfl, .lst hp (q.mono g.sub)⟩
      | vg d => obtain ⟨_, _, _, r⟩ := h; exact ⟨rfl, r.py g.sub⟩
      | scr d => obtain ⟨a, p, e, hp⟩ := h; exact ⟨rfl, p, e, sqL_mono g.exH hp⟩
      | og d =>
        obtain ⟨l, r⟩ := h
        exfalso
        cases r with
        | leaf l' _ => rw [l] at l'; cases l'
      | exo c => obtain ⟨a, p, oe, e, hp, q⟩ := h; exact ⟨rfl, p, oe, e, g.exH _ _ hp, q⟩) (asFz_ok g t)
theorem scal_rp {K : PySem.W.Frag} {B B' : Bs} {F F' H H' : Hp} {v : V} {A : List Addr} {sl : Sl} (h : scal sl = true) (r : VRep K B F H v A sl) : VRep K B' F' H' v [] sl := by
  cases sl with
  | fz d =>
    obtain ⟨_, r⟩ := r
    cases r <;> first | exact ⟨rfl, .non⟩ | exact ⟨rfl, .bl _⟩ | exact ⟨rfl, .int _⟩ | exact ⟨rfl, .str _⟩ | cases h
  | _ => cases h
section
variable {X : Cx} {W : WX} {e x y : Expr} {es : List Expr} {f g : EV} {fs : Rho → Rs (List Sl)} {pos p : Pos}
theorem e_callS {x : Str} {k np : Nat} {g : List Sl → Rs Sl} {p : Pos} (G : Df X.prog X.w X.K X.mg X.base x k np g) (hr : Room k X.A) (tk : L2N.Takes X W) (ha : EA X W (e :: es) fs) (hg : Gl X x := by rfl) (hdb : (x == ("__debug__" : Str)) = false := by decide)
    (he : starEach (e :: es) X.env = (false, eval e X.env) :: starEach es X.env := by rfl) (hpl : (backTo pos (starEach es X.env)).any (·.1) = false := by rfl) : EE X W (.Call (.Name x p) (e :: es) [] pos) (eCallS np g fs) := by
  obtain ⟨f, fd, ps, F, hm, hk, hb⟩ := G.ex
  refine pe_weak (pe_callS F hr hg hm hk hb (fun σ => L2N.passAt tk σ) ha hdb he hpl) fun σ H Q ⟨B, ρ, Fh, R, h⟩ => ?_
  refine ⟨B, ρ, Fh, R, PstA.bind h fun ss vs F1 H1 _ g1 ar h1 => ?_⟩
  split at h1
  · rename_i hc
    have gB := R.gr.trans g1
    refine ⟨H1, ss.map asFz, (Paired.length ar).trans hc.1, Ex.refl H1, asFz_ok gB ar, fun s hs => ?_, ?_⟩
    · obtain ⟨t, ht, rfl⟩ := List.mem_map.mp hs
      have := List.all_eq_true.mp hc.2 t ht
      cases t <;> first | rfl | cases this
    · have gr : ∀ {F' H'}, Grow H1 H1 F' H' → Grow F1 H1 F1 H' := fun g2 => ⟨Ex.refl F1, g2.exH, g1.sub.trans g2.exH, fun _ _ z => .inl z⟩
      cases eg : g (ss.map asFz) with
      | ok sl =>
        rw [eg, Rs.bind_ok] at h1
        intro v F' H' A g2 vr fr hres
        split at h1
        · rename_i hsc
          exact h1 v F1 H' [] (gr g2) (scal_rp hsc vr) fun _ z => nomatch z
        · exact h1.elim
      | exc c => rw [eg] at h1; exact fun F' H' g2 => h1 F1 H' (gr g2)
      | bad => rw [eg] at h1; exact h1
  · exact h1.elim

/-! ### zip of two lists -/
def iZ2 (f g : EV) : Rho → Rs (List D) := fun ρ => (aCons f (aCons g aNil) ρ).bind fun ss => match ss with
  | [.fz (.list ds), .fz (.list es)] => .ok ((ds.zip es).map fun p => .tuple [p.1, p.2])
  | _ => .bad
theorem i_zip {elts : List Expr} {kk : Nat} {tpos : Pos} (hm : X.mg "zip" = none) (ha : EE X W x f) (hb : EE X W y g) (hg : Gl X "zip" := by rfl) (hs : starEach [x, y] X.env = (false, eval x X.env) :: starEach [y] X.env := by rfl) (hs2 : starEach [y] X.env = (false, eval y X.env) :: starEach [] X.env := by rfl) (hpl : (backTo pos (starEach [y] X.env)).any (·.1) = false := by rfl) :
    EI X W (.Tuple elts kk tpos) (.Call (.Name "zip" p) [x, y] [] pos) (iZ2 f g) := pi_weak (pi_zip hg hm (a_cons ha (a_cons hb a_nil hs2) hs) hs hpl) fun σ H R ⟨B, ρ, F, Rp', h⟩ => by
  refine ⟨B, ρ, F, Rp', PstA.bindI h fun ss vs F1 H1 _ g1 ar h1 => ?_⟩
  split at h1
  · rename_i ds es _
    obtain ⟨v, w, rfl, r1, r2⟩ := ar2 ar
    obtain ⟨_, r1⟩ := r1
    obtain ⟨_, r2⟩ := r2
    cases r1 with
    | lst ha1 ra =>
      cases r2 with
      | lst hb1 rb =>
        rename_i a xs b ys
        refine ⟨a, b, xs, ys, rfl, .inl (.inl (g1.sub _ _ ha1)), .inl (.inl (g1.sub _ _ hb1)), h1 F1 H1 _ (Grow.refl g1.sub) fun i F' H' ex g' => ?_⟩
        have qa : SqL X.K H' a xs := .inl (.inl (g'.sub _ _ (ex _ _ ha1)))
        have qb : SqL X.K H' b ys := .inl (.inl (g'.sub _ _ (ex _ _ hb1)))
        refine ⟨fun d hd => ?_, fun hi => ⟨xs, ys, qa, qb, ?_⟩⟩
        · rw [List.getElem?_map] at hd
          obtain ⟨pr, hz, rfl⟩ := Option.map_eq_some_iff.mp hd
          obtain ⟨hz1, hz2⟩ := List.getElem?_zip_eq_some.mp hz
          obtain ⟨v1, e1, q1⟩ := ra.get hz1
          obtain ⟨v2, e2, q2⟩ := rb.get hz2
          refine ⟨⟨xs, ys, v1, v2, qa, qb, e1, e2⟩, fun z H2 yl => ?_⟩
          obtain ⟨T, z1, z2, rfl, nT, rfl, f1, f2⟩ := yl
          have w1 := (f1 xs qa).symm.trans e1
          have w2 := (f2 ys qb).symm.trans e2
          cases w1
          cases w2
          refine ⟨upd F' T (.tup [v1, v2]), Grow.laid g'.sub nT, .tup upd_same (.cons ((q1.mono ex).mono (Ex.new (g'.sub.back nT))) (.cons ((q2.mono ex).mono (Ex.new (g'.sub.back nT))) .nil))⟩
        · rw [List.length_map, List.length_zip] at hi
          rw [ra.length, rb.length]
          omega
  · exact h1.elim

/-! ### x[i] = e, x.clear() of one's own list -/
def natIx (n : Nat) (i : Int) : Option Nat := if 0 ≤ i ∧ i < n then some i.toNat else none
def sPutL (i : Nat) (k v : EV) : SV := fun ρ => match ρ[i]? with
  | some (.ow ds) => (v ρ).out ρ fun s => (argS s).out ρ fun t => (k ρ).out ρ fun u => match t, u with
    | .fz d, .fz (.int z) => match natIx ds.length z with
      | some j => .nx (ρ.set i (.ow (ds.set j d)))
      | none => .bad
    | _, _ => .bad
  | _ => .bad
def sClear (i : Nat) : SV := fun ρ => match ρ[i]? with
  | some (.ow _) => .nx (ρ.set i (.ow []))
  | _ => .bad
theorem s_clear {i : Nat} {x : Str} {p p1 pos' : Pos} (hN : X.N[i]? = some x := by rfl) (hv : Vis X.env.scope x := by first | exact Or.inl rfl | exact Or.inr (Or.inl rfl) | exact Or.inr (Or.inr rfl)) (hd : (x == ("__debug__" : Str)) = false := by decide)
    (hcd : (x == ("__classdict__" : Str)) = false := by decide) (hs : swapsWith (.Call (.Attribute (.Name x p) "clear" p1) [] [] pos') none pos.line X.env = pure false := by rfl)
    (hbase : attributeBase (.Name x p) "clear" X.env (eval (.Name x p) X.env) = eval (.Name x p) X.env := by rfl) (hline : (p1.endLine == pos'.line) = true := by rfl) :
    ES X W (.Expr (.Call (.Attribute (.Name x p) "clear" p1) [] [] pos') pos) (sClear i) :=
  ps_weak (ps_expr (pe_bm0 PySem.F.plainAttrs_list PySem.F.slot_list_clear PySem.F.type_list_clear mt_clear (pe_var hN hv hd hcd) hbase hline) hs) fun D σ H ⟨B, ρ, F, R, h⟩ => by
    unfold sClear at h
    split at h
    · rename_i ds hx
      obtain ⟨p, xs, hv, nf, hp, rp⟩ := R.owns hx
      exact ⟨.ref p, hv, .inl ⟨rfl, xs, .inl (.inl hp)⟩, p, xs, rfl, rfl, hp, h σ F _ (R.setOw hx hv .nil)⟩
    · exact h.elim
end
end BV
namespace BV
open PySem PySem.Spec PyProof.Rows L2
/-! ### lists of one's own within one's own data -/
/-- the data at a path; the same with the list there emptied; the value there -/
def datAt : D → List Nat → Option D
  | d, [] => some d
  | .list ds, k :: ks => match ds[k]? with
    | some d => datAt d ks
    | none => none
  | .tuple ds, k :: ks => match ds[k]? with
    | some d => datAt d ks
    | none => none
  | _, _ => none
def clrAt : D → List Nat → D
  | _, [] => .list []
  | .list ds, k :: ks => .list (match ds[k]? with
    | some d => ds.set k (clrAt d ks)
    | none => ds)
  | .tuple ds, k :: ks => .tuple (match ds[k]? with
    | some d => ds.set k (clrAt d ks)
    | none => ds)
  | d, _ => d
def valAt (H : Hp) : V → List Nat → Option V
  | v, [] => some v
  | .ref p, k :: ks => match H p with
    | some (.lst xs) => (match xs[k]? with
      | some v => valAt H v ks
      | none => none)
    | some (.tup xs) => (match xs[k]? with
      | some v => valAt H v ks
      | none => none)
    | _ => none
  | _, _ => none
theorem lfAll_get : ∀ {ds : List D} {k : Nat} {d : D}, lfAll ds = true → ds[k]? = some d → lf d = true
  | [], k, d, _, h => by simp at h
  | x :: xs, 0, d, h, e => by
    simp at e
    subst e
    unfold lfAll at h
    rw [Bool.and_eq_true] at h
    exact h.1
  | x :: xs, k + 1, d, h, e => by
    unfold lfAll at h
    rw [Bool.and_eq_true] at h
    exact lfAll_get h.2 (by simpa using e)
theorem lf_datAt : ∀ {path : List Nat} {d : D} {es : List D}, datAt d path = some (.list es) → lf d = false
  | [], d, es, h => by cases h; rfl
  | k :: ks, .list ds, es, h => rfl
  | k :: ks, .tuple ds, es, h => by
    unfold datAt at h
    cases e : ds[k]? with
    | none => rw [e] at h; cases h
    | some d =>
      rw [e] at h
      have h1 := lf_datAt (path := ks) h
      cases e2 : lf (.tuple ds) with
      | false => rfl
      | true =>
        have := lfAll_get (show lfAll ds = true from e2) e
        rw [h1] at this
        cases this
  | k :: ks, .none, es, h => by cases h
  | k :: ks, .bool _, es, h => by cases h
  | k :: ks, .int _, es, h => by cases h
  | k :: ks, .str _, es, h => by cases h
  | k :: ks, .dict _, es, h => by cases h
theorem lf_clrAt : ∀ {path : List Nat} {d : D} {es : List D}, datAt d path = some (.list es) → datAt (clrAt d path) path = some (.list [])
  | [], d, es, h => by unfold clrAt; rfl
  | k :: ks, .list ds, es, h => by
    unfold datAt at h
    cases e : ds[k]? with
    | none => rw [e] at h; cases h
    | some d =>
      rw [e] at h
      unfold clrAt
      rw [e]
      unfold datAt
      dsimp only
      rw [List.getElem?_set_self (List.getElem?_eq_some_iff.mp e).1]
      exact lf_clrAt (path := ks) h
  | k :: ks, .tuple ds, es, h => by
    unfold datAt at h
    cases e : ds[k]? with
    | none => rw [e] at h; cases h
    | some d =>
      rw [e] at h
      unfold clrAt
      rw [e]
      unfold datAt
      dsimp only
      rw [List.getElem?_set_self (List.getElem?_eq_some_iff.mp e).1]
      exact lf_clrAt (path := ks) h
  | k :: ks, .none, es, h => by cases h
  | k :: ks, .bool _, es, h => by cases h
  | k :: ks, .int _, es, h => by cases h
  | k :: ks, .str _, es, h => by cases h
  | k :: ks, .dict _, es, h => by cases h
section
variable {F H : Hp}
/-- the k-th part taken out and another one put in its place -/
theorem OgAll.part : ∀ {vs : List V} {A : List Addr} {ds : List D} {k : Nat} {d : D}, OgAll F H vs A ds → ds[k]? = some d →
    ∃ v A1, vs[k]? = some v ∧ Og F H v A1 d ∧ (∀ a ∈ A1, a ∈ A) ∧ ∀ (q : Addr) (o : HO) (A2 : List Addr) (d' : D), q ∈ A1 → Og F (upd H q o) v A2 d' → (∀ a ∈ A2, a ∈ A1) → ∃ A', OgAll F (upd H q o) vs A' (ds.set k d') ∧ ∀ a ∈ A', a ∈ A
  | _, _, _, _, _, .nil, h => by simp at h
  | _, _, _, 0, _, .cons (A := A) (A' := A') h t n, e => by
    simp at e
    subst e
    refine ⟨_, _, rfl, h, fun a ha => List.mem_append_left _ ha, fun q o A2 d' hq h2 hs => ⟨A2 ++ A', .cons h2 (t.move (Ex.refl F) (fun a ha => (t.known a ha).1) fun a ha u hu => ?_) fun a ha => n a (hs a ha), fun a ha => ?_⟩⟩
    · rw [upd_ne (show a ≠ q from fun z => n q hq (z ▸ ha))]
      exact hu
    · rcases List.mem_append.mp ha with ha | ha
      · exact List.mem_append_left _ (hs a ha)
      · exact List.mem_append_right _ ha
  | _, _, _, k + 1, d, .cons (A := A) (A' := A') h t n, e => by
    obtain ⟨v, A1, h1, h2, h3, h4⟩ := OgAll.part (k := k) (d := d) t (by simpa using e)
    refine ⟨v, A1, by simpa using h1, h2, fun a ha => List.mem_append_right _ (h3 a ha), fun q o A2 d' hq h5 hs => ?_⟩
    obtain ⟨A3, h6, h7⟩ := h4 q o A2 d' hq h5 hs
    refine ⟨A ++ A3, .cons (h.move (Ex.refl F) (fun a ha => (h.known a ha).1) fun a ha u hu => ?_) h6 fun a ha z => n a ha (h7 a z), fun a ha => ?_⟩
    · rw [upd_ne (show a ≠ q from fun z => n a ha (z ▸ h3 q hq))]
      exact hu
    · rcases List.mem_append.mp ha with ha | ha
      · exact List.mem_append_left _ ha
      · exact List.mem_append_right _ (h7 a ha)
theorem path_ne {p q : Addr} {xs : List V} {v1 : V} {k : Nat} {ks : List Nat} (hp : H p = some (.lst xs) ∨ H p = some (.tup xs)) (h1 : xs[k]? = some v1) (hne : p ≠ q) (g : ∀ p1 p2, ks = p1 ++ p2 → p2 ≠ [] → ∀ a, valAt H v1 p1 = some (.ref a) → a ≠ q) :
    ∀ p1 p2, k :: ks = p1 ++ p2 → p2 ≠ [] → ∀ a, valAt H (.ref p) p1 = some (.ref a) → a ≠ q := fun p1 p2 e z a ha => by
  cases p1 with
  | nil => cases ha; exact hne
  | cons k' p1 =>
    cases e
    refine g p1 p2 rfl z a ?_
    unfold valAt at ha
    rcases hp with hp | hp <;> rw [hp] at ha <;> dsimp only at ha <;> rw [h1] at ha <;> exact ha
theorem valAt_upd {q : Addr} {o : HO} : ∀ {pre : List Nat} {v : V}, (∀ p1 p2, pre = p1 ++ p2 → p2 ≠ [] → ∀ a, valAt H v p1 = some (.ref a) → a ≠ q) → valAt (upd H q o) v pre = valAt H v pre
  | [], v, _ => by cases v <;> rfl
  | k :: ks, .ref p, h => by
    have hp : p ≠ q := h [] (k :: ks) rfl (by simp) p rfl
    unfold valAt
    rw [upd_ne hp]
    cases e : H p with
    | none => rfl
    | some u =>
      cases u with
      | lst xs =>
        dsimp only
        cases e1 : xs[k]? with
        | none => rfl
        | some v =>
          refine valAt_upd fun p1 p2 e2 z a ha => h (k :: p1) p2 (by rw [e2]; rfl) z a ?_
          unfold valAt
          rw [e]
          dsimp only
          rw [e1]
          exact ha
      | tup xs =>
        dsimp only
        cases e1 : xs[k]? with
        | none => rfl
        | some v =>
          refine valAt_upd fun p1 p2 e2 z a ha => h (k :: p1) p2 (by rw [e2]; rfl) z a ?_
          unfold valAt
          rw [e]
          dsimp only
          rw [e1]
          exact ha
      | _ => rfl
  | k :: ks, .non, _ => rfl
  | k :: ks, .bl _, _ => rfl
  | k :: ks, .int _, _ => rfl
  | k :: ks, .str _, _ => rfl
  | k :: ks, .byt _, _ => rfl
  | k :: ks, .flt _, _ => rfl
  | k :: ks, .ty _, _ => rfl
theorem valAt_snoc {k : Nat} {a : Addr} {xs : List V} : ∀ {pre : List Nat} {v : V}, valAt H v pre = some (.ref a) → H a = some (.lst xs) → valAt H v (pre ++ [k]) = xs[k]?
  | [], v, h, e => by
    cases h
    show valAt H (.ref a) [k] = _
    unfold valAt
    rw [e]
    dsimp only
    cases xs[k]? <;> simp [valAt]
  | m :: ms, .ref p, h, e => by
    show valAt H (.ref p) (m :: (ms ++ [k])) = _
    unfold valAt at h ⊢
    cases e1 : H p with
    | none => rw [e1] at h; cases h
    | some u =>
      rw [e1] at h
      cases u with
      | lst ys =>
        dsimp only at h ⊢
        cases e2 : ys[m]? with
        | none => rw [e2] at h; cases h
        | some v => rw [e2] at h; exact valAt_snoc h e
      | tup ys =>
        dsimp only at h ⊢
        cases e2 : ys[m]? with
        | none => rw [e2] at h; cases h
        | some v => rw [e2] at h; exact valAt_snoc h e
      | _ => cases h
  | m :: ms, .non, h, _ => by cases h
  | m :: ms, .bl _, h, _ => by cases h
  | m :: ms, .int _, h, _ => by cases h
  | m :: ms, .str _, h, _ => by cases h
  | m :: ms, .byt _, h, _ => by cases h
  | m :: ms, .flt _, h, _ => by cases h
  | m :: ms, .ty _, h, _ => by cases h
/-- a list within is emptied -/
theorem Og.clr : ∀ {path : List Nat} {v : V} {A : List Addr} {d : D} {es : List D}, Og F H v A d → datAt d path = some (.list es) →
    ∃ q ys, valAt H v path = some (.ref q) ∧ q ∈ A ∧ H q = some (.lst ys) ∧ (ys.length = es.length ∧ ∀ p1 p2, path = p1 ++ p2 → p2 ≠ [] → ∀ a, valAt H v p1 = some (.ref a) → a ≠ q) ∧ ∃ A', Og F (upd H q (.lst [])) v A' (clrAt d path) ∧ ∀ a ∈ A', a ∈ A
  | [], v, A, d, es, h, e => by
    cases e
    cases h with
    | leaf l _ => cases l
    | lst f hp n r =>
      rename_i p xs A2
      refine ⟨p, xs, rfl, List.mem_cons_self .., hp, ⟨r.length, fun p1 p2 e z => by
        cases p1 <;> cases p2 <;> first | exact absurd rfl z | cases e⟩, [p], .lst f upd_same (by simp) .nil, fun a ha => ?_⟩
      cases ha with
      | head => exact List.mem_cons_self ..
      | tail _ z => cases z
  | k :: ks, v, A, d, es, h, e => by
    have l0 := lf_datAt e
    cases h with
    | leaf l _ => rw [l0] at l; cases l
    | lst f hp n r =>
      rename_i p xs A2 ds
      unfold datAt at e
      cases e1 : ds[k]? with
      | none => rw [e1] at e; cases e
      | some d1 =>
        rw [e1] at e
        obtain ⟨v1, A1, h1, h2, h3, h4⟩ := r.part e1
        obtain ⟨q, ys, g1, g2, g3, g6, A3, g4, g5⟩ := Og.clr (path := ks) h2 e
        obtain ⟨A4, h5, h6⟩ := h4 q _ A3 _ g2 g4 g5
        have hne : p ≠ q := fun z => n (z ▸ h3 q g2)
        refine ⟨q, ys, ?_, List.mem_cons_of_mem _ (h3 q g2), g3, ⟨g6.1, path_ne (.inl hp) h1 hne g6.2⟩, p :: A4, ?_, fun a ha => ?_⟩
        · unfold valAt
          rw [hp]
          dsimp only
          rw [h1]
          exact g1
        · unfold clrAt
          rw [e1]
          exact .lst f (by rw [upd_ne hne]; exact hp) (fun z => n (h6 p z)) h5
        · rcases List.mem_cons.mp ha with rfl | ha
          · exact List.mem_cons_self ..
          · exact List.mem_cons_of_mem _ (h6 a ha)
    | tup l f hp n r =>
      rename_i p xs A2 ds
      have e0 := e
      unfold datAt at e
      cases e1 : ds[k]? with
      | none => rw [e1] at e; cases e
      | some d1 =>
        rw [e1] at e
        obtain ⟨v1, A1, h1, h2, h3, h4⟩ := r.part e1
        obtain ⟨q, ys, g1, g2, g3, g6, A3, g4, g5⟩ := Og.clr (path := ks) h2 e
        obtain ⟨A4, h5, h6⟩ := h4 q _ A3 _ g2 g4 g5
        have hne : p ≠ q := fun z => n (z ▸ h3 q g2)
        have lc := lf_datAt (lf_clrAt e0)
        refine ⟨q, ys, ?_, List.mem_cons_of_mem _ (h3 q g2), g3, ⟨g6.1, path_ne (.inr hp) h1 hne g6.2⟩, p :: A4, ?_, fun a ha => ?_⟩
        · unfold valAt
          rw [hp]
          dsimp only
          rw [h1]
          exact g1
        · unfold clrAt at lc ⊢
          rw [e1] at lc ⊢
          exact .tup lc f (by rw [upd_ne hne]; exact hp) (fun z => n (h6 p z)) h5
        · rcases List.mem_cons.mp ha with rfl | ha
          · exact List.mem_cons_self ..
          · exact List.mem_cons_of_mem _ (h6 a ha)
theorem og_leaves : ∀ {vs : List V} {ds : List D}, RpAll F vs ds → lfAll ds = true → OgAll F H vs [] ds
  | _, _, .nil, _ => .nil
  | _, _, .cons (d := d) (ds := ds) h t, l => by
    unfold lfAll at l
    rw [Bool.and_eq_true] at l
    exact .cons (A := []) (A' := []) (.leaf l.1 h) (og_leaves t l.2) (fun a ha => by cases ha)
theorem OgAll.snoc : ∀ {vs : List V} {A A1 : List Addr} {ds : List D} {v : V} {d : D}, OgAll F H vs A ds → Og F H v A1 d → (∀ a ∈ A, a ∉ A1) → ∃ A', OgAll F H (vs ++ [v]) A' (ds ++ [d]) ∧ ∀ a, a ∈ A' ↔ a ∈ A ∨ a ∈ A1
  | _, _, A1, _, v, d, .nil, h, _ => ⟨A1 ++ [], .cons h .nil (fun a _ z => by cases z), fun a => by simp⟩
  | _, _, A1, _, v, d, .cons (A := A) (A' := A') h' t n, h, dj => by
    obtain ⟨A3, h1, h2⟩ := OgAll.snoc t h fun a ha => dj a (List.mem_append_right _ ha)
    refine ⟨A ++ A3, .cons h' h1 (fun a ha z => ?_), fun a => ?_⟩
    · rcases (h2 a).mp z with z | z
      · exact n a ha z
      · exact dj a (List.mem_append_left _ ha) z
    · simp only [List.mem_append, h2 a]
      constructor
      · rintro (h | h | h)
        · exact .inl (.inl h)
        · exact .inl (.inr h)
        · exact .inr h
      · rintro ((h | h) | h)
        · exact .inl h
        · exact .inr (.inl h)
        · exact .inr (.inr h)
end
section
variable {K : PySem.W.Frag} {mg : MG} {W : WX} {B : Bs} {σ : L2.St} {ρ : Rho} {F H F1 H1 : Hp}
/-- what a slot owns changes, by new things too -/
theorem Rep.change3 {i : Nat} {m : Addr} {o : HO} {v : V} {sl sl' : Sl} (R : Rep K B ρ σ F H) (g : Grow F H F1 H1) (e : ρ[i]? = some sl) (hv : σ[i]? = some (some v)) (kp : sl.keeps = true)
    (hA : ∀ A, VRep K B F H v A sl → m ∈ A ∧ ∃ A', (∀ a ∈ A', a ∈ A ∨ H a = none) ∧ VRep K B F1 (upd H1 m o) v A' sl') (kp' : sl'.keeps = true) : Rep K B (ρ.set i sl') σ F1 (upd H1 m o) := by
  have R1 := R.grow g
  obtain ⟨⟨fp, h1, h2, h3⟩, gr, len⟩ := R
  rcases h1 i sl e with z | ⟨_, v', hv', vr⟩
  · subst z; cases kp
  · rw [hv] at hv'
    cases hv'
    obtain ⟨hm, A', hs, new⟩ := hA _ vr
    obtain ⟨n0, nF, u, hu, ntm⟩ := h3 i m hm
    have nF1 : F1 m = none := none_grow (H' := H1) g.news nF hu ntm
    have gr1 := R1.gr
    have nh : ∀ k a, a ∈ fp k → H a ≠ none := fun k a ha z => by
      obtain ⟨_, _, o', ho, _⟩ := h3 k a ha
      rw [z] at ho
      cases ho
    refine ⟨⟨fun k => if k = i then A' else fp k, fun k s ek => ?_, fun k j a hk hj => ?_, fun k a hk => ?_⟩, ⟨gr1.exF, fun a o' ea => ?_, fun a o' ea => ?_, gr1.news⟩, by simp [len]⟩
    · by_cases hk : k = i
      · subst hk
        have hl : k < ρ.length := (List.getElem?_eq_some_iff.mp e).1
        rw [List.getElem?_set_self hl] at ek
        cases ek
        refine .inr ⟨kp', _, hv, ?_⟩
        simp only [if_pos]
        exact new
      · rw [List.getElem?_set_ne (Ne.symm hk)] at ek
        rcases h1 k s ek with h | ⟨n, v, hv, r⟩
        · exact .inl h
        · refine .inr ⟨n, v, hv, ?_⟩
          simp only [if_neg hk]
          have nk : m ∉ fp k := fun z => hk (h2 k i m z hm)
          have r1 := r.grow g
          cases s with
          | no => exact r1
          | fz d => exact r1
          | br d => exact r1
          | scr d => exact r1
          | exo d => exact r1
          | vw d => cases n
          | vg d => cases n
          | og d => exact ⟨r1.1, r1.2.move (Ex.refl F1) (fun a ha => (r1.2.known a ha).1) fun a ha o ho => by
              rw [upd_ne (show a ≠ m from fun z => nk (z ▸ ha))]
              exact ho⟩
          | ow d =>
            obtain ⟨q, xs, e1, e2, e3, e4, e5⟩ := r1
            have : q ≠ m := fun z => nk (by rw [e2, ← z]; exact List.mem_cons_self ..)
            exact ⟨q, xs, e1, e2, e3, by rw [upd_ne this]; exact e4, e5⟩
          | di d =>
            obtain ⟨q, xs, e1, e2, e3, e4, e5⟩ := r1
            have : q ≠ m := fun z => nk (by rw [e2, ← z]; exact List.mem_cons_self ..)
            exact ⟨q, xs, e1, e2, e3, by rw [upd_ne this]; exact e4, e5⟩
          | dt d =>
            obtain ⟨q, xs, e1, e2, e3, e4, e5⟩ := r1
            have : q ≠ m := fun z => nk (by rw [e2, ← z]; exact List.mem_cons_self ..)
            exact ⟨q, xs, e1, e2, e3, by rw [upd_ne this]; exact e4, e5⟩
    · have other : ∀ k a, k ≠ i → a ∈ fp k → a ∉ A' := fun k a hk ha z => by
        rcases hs a z with z | z
        · exact hk (h2 k i a ha z)
        · exact nh k a ha z
      by_cases ek : k = i <;> by_cases ej : j = i
      · rw [ek, ej]
      · simp only [if_pos ek, if_neg ej] at hk hj
        exact absurd hk (other j a ej hj)
      · simp only [if_neg ek, if_pos ej] at hk hj
        exact absurd hj (other k a ek hk)
      · simp only [if_neg ek, if_neg ej] at hk hj
        exact h2 k j a hk hj
    · by_cases ek : k = i
      · simp only [if_pos ek] at hk
        obtain ⟨k1, k2⟩ := new.known a hk
        refine ⟨?_, k1, k2⟩
        rcases hs a hk with z | z
        · exact (h3 i a z).1
        · exact gr.exH.back z
      · simp only [if_neg ek] at hk
        obtain ⟨a1, a2, u', a3, n3⟩ := h3 k a hk
        have : a ≠ m := fun z => ek (h2 k i m (z ▸ hk) hm)
        exact ⟨a1, none_grow (H' := H1) g.news a2 a3 n3, u', by rw [upd_ne this]; exact g.exH _ _ a3, n3⟩
    · rw [upd_ne (show a ≠ m from fun z => by rw [z, n0] at ea; cases ea)]
      exact gr1.exH _ _ ea
    · rw [upd_ne (show a ≠ m from fun z => by rw [z, nF1] at ea; cases ea)]
      exact gr1.sub _ _ ea
/-- the value of a slot of which nothing is known -/
theorem Rep.setNo (R : Rep K B ρ σ F H) {j : Nat} (e : ρ[j]? = some .no ∨ ρ[j]? = none) (y : Option V) : Rep K B ρ (σ.set j y) F H := by
  obtain ⟨⟨fp, h1, h2, h3⟩, gr, len⟩ := R
  refine ⟨⟨fp, fun k s ek => ?_, h2, h3⟩, gr, by simp [len]⟩
  by_cases hk : k = j
  · subst hk
    rcases e with e | e <;> rw [e] at ek <;> cases ek
    exact .inl rfl
  · rcases h1 k s ek with h | ⟨n, v, hv, r⟩
    · exact .inl h
    · exact .inr ⟨n, v, by rw [List.getElem?_set_ne (Ne.symm hk)]; exact hv, r⟩
theorem Rep.forget (R : Rep K B ρ σ F H) (j : Nat) : Rep K B (ρ.set j .no) σ F H := by
  obtain ⟨⟨fp, h1, h2, h3⟩, gr, len⟩ := R
  refine ⟨⟨fp, fun k s e => ?_, h2, h3⟩, gr, by simp [len]⟩
  by_cases hk : k = j
  · subst hk
    have hl : k < ρ.length := by
      have := (List.getElem?_eq_some_iff.mp e).1
      simpa using this
    rw [List.getElem?_set_self hl] at e
    cases e
    exact .inl rfl
  · rw [List.getElem?_set_ne (Ne.symm hk)] at e
    exact h1 k s e
theorem Rep.ogs {i : Nat} {d : D} (R : Rep K B ρ σ F H) (e : ρ[i]? = some (.og d)) : ∃ v A, σ[i]? = some (some v) ∧ lf d = false ∧ Og F H v A d := by
  obtain ⟨fp, h1, _, _⟩ := R.fp
  rcases h1 i _ e with z | ⟨_, v, hv, l, r⟩
  · cases z
  · exact ⟨v, _, hv, l, r⟩
/-- the list at a path of a slot's own data is emptied -/
theorem Rep.clr {i : Nat} {d : D} {es : List D} {path : List Nat} (R : Rep K B ρ σ F H) (e : ρ[i]? = some (.og d)) (hd : datAt d path = some (.list es)) :
    ∃ v q ys, σ[i]? = some (some v) ∧ valAt H v path = some (.ref q) ∧ H q = some (.lst ys) ∧ (ys.length = es.length ∧ ∀ p1 p2, path = p1 ++ p2 → p2 ≠ [] → ∀ a, valAt H v p1 = some (.ref a) → a ≠ q) ∧ Rep K B (ρ.set i (.og (clrAt d path))) σ F (upd H q (.lst [])) := by
  obtain ⟨fp, h1, _, _⟩ := R.fp
  rcases h1 i _ e with z | ⟨_, v, hv, l, r⟩
  · cases z
  · obtain ⟨q, ys, g1, g2, g3, g6, A3, g4, g5⟩ := r.clr hd
    refine ⟨v, q, ys, hv, g1, g3, g6, R.change3 (Grow.refl R.gr.sub) e hv rfl (fun A vr => ?_) rfl⟩
    obtain ⟨q', ys', g1', g2', g3', _, A3', g4', g5'⟩ := vr.2.clr hd
    rw [g1] at g1'
    cases g1'
    exact ⟨g2', A3', fun a ha => .inl (g5' a ha), lf_datAt (lf_clrAt hd), g4'⟩
end
section
variable {X : Cx} {W : WX} {e x y : Expr} {es : List Expr} {f g : EV} {fs : Rho → Rs (List Sl)} {pos p : Pos}
/-- x.append(a new list): both one's own -/
def sAppG (i : Nat) (f : EV) : SV := fun ρ => match ρ[i]? with
  | some (.ow []) => (f ρ).out ρ fun s => match s with
    | .ow ds => if lfAll ds = true then .nx (ρ.set i (.og (.list [.list ds]))) else .bad
    | _ => .bad
  | some (.og (.list es)) => (f ρ).out ρ fun s => match s with
    | .ow ds => if lfAll ds = true ∧ es.length < 100000 then .nx (ρ.set i (.og (.list (es ++ [.list ds])))) else .bad
    | _ => .bad
  | _ => .bad
theorem s_appG {i : Nat} {x : Str} {p p1 pos' : Pos} (he : EE X W e f) (hN : X.N[i]? = some x := by rfl) (hv : Vis X.env.scope x := by first | exact Or.inl rfl | exact Or.inr (Or.inl rfl) | exact Or.inr (Or.inr rfl)) (hd : (x == ("__debug__" : Str)) = false := by decide)
    (hcd : (x == ("__classdict__" : Str)) = false := by decide) (hs : swapsWith (.Call (.Attribute (.Name x p) "append" p1) [e] [] pos') none pos.line X.env = pure false := by rfl)
    (h1 : starEach [e] X.env = (false, eval e X.env) :: starEach [] X.env := by rfl) (hbase : attributeBase (.Name x p) "append" X.env (eval (.Name x p) X.env) = eval (.Name x p) X.env := by rfl)
    (hfew : (((backTo pos' (starEach [e] X.env)).all fun x => !x.fst) && (backToKw pos' (keywordEach [] X.env)).all fun x => x.fst.isSome) && decide (([e].length + ([] : List Keyword).length + if ([] : List Keyword).isEmpty = true then 0 else 1) < 30) = true := by rfl) (hline : (p1.endLine == pos'.line) = true := by rfl) :
    ES X W (.Expr (.Call (.Attribute (.Name x p) "append" p1) [e] [] pos') pos) (sAppG i f) :=
  ps_weak (ps_expr (pe_bm PySem.F.plainAttrs_list PySem.F.slot_list_append PySem.F.type_list_append mt_append (pe_var hN hv hd hcd) (pa_cons he pa_nil h1) hbase hfew hline h1) hs) fun D σ H ⟨B, ρ, F, R, h⟩ => by
    unfold sAppG at h
    split at h
    · rename_i hx
      obtain ⟨p, xs, hv, nf, hp, rp⟩ := R.owns hx
      cases rp
      refine ⟨.ref p, hv, .inl ⟨rfl, [], .inl (.inl hp)⟩, ?_⟩
      refine ⟨B, ρ, F, R, PstS.expr R h fun s v F1 H1 A _ g1 vr fr h1 => ?_⟩
      split at h1
      · rename_i ds _
        split at h1
        · rename_i hl
          obtain ⟨q, ys, rfl, rfl, f1, hq, rq⟩ := vr
          have nq : H q = none := fr q (List.mem_cons_self ..)
          have hne : p ≠ q := fun z => by rw [z, nq] at hp; cases hp
          refine ⟨p, [], .ref q, rfl, rfl, g1.exH _ _ hp, by show (0 : Nat) < _; decide, h1 σ F1 _ (R.change3 g1 hx hv rfl (fun A vr => ?_) rfl)⟩
          obtain ⟨p', xs', e1, rfl, _, _, _⟩ := vr
          cases e1
          refine ⟨List.mem_cons_self .., [p, q], fun a ha => ?_, rfl, .lst (none_grow (H' := H1) g1.news nf hp) upd_same ?_ (.cons (A' := []) (.lst f1 (by rw [upd_ne (Ne.symm hne)]; exact hq) (by simp) (og_leaves rq hl)) .nil (fun a _ z => by cases z))⟩
          · cases ha with
            | head => exact .inl (List.mem_cons_self ..)
            | tail _ z => cases z with
              | head => exact .inr nq
              | tail _ z => cases z
          · intro z
            simp at z
            exact hne z
        · exact h1.elim
      · exact h1.elim
    · rename_i es hx
      obtain ⟨v0, A0, hv, l0, r0⟩ := R.ogs hx
      cases r0 with
      | leaf l _ => cases l
      | lst nf hp n ra =>
        rename_i p xs A0
        refine ⟨.ref p, hv, .inl ⟨rfl, xs, .inl (.inl hp)⟩, ?_⟩
        refine ⟨B, ρ, F, R, PstS.expr R h fun s v F1 H1 A _ g1 vr fr h1 => ?_⟩
        split at h1
        · rename_i ds _
          split at h1
          · rename_i hl
            obtain ⟨q, ys, rfl, rfl, f1, hq, rq⟩ := vr
            have nq : H q = none := fr q (List.mem_cons_self ..)
            have hne : p ≠ q := fun z => by rw [z, nq] at hp; cases hp
            refine ⟨p, xs, .ref q, rfl, rfl, g1.exH _ _ hp, sz_lt (by rw [ra.length]; exact hl.2), h1 σ F1 _ (R.change3 g1 hx hv rfl (fun A vr => ?_) rfl)⟩
            obtain ⟨_, r1⟩ := vr
            cases r1 with
            | leaf l _ => cases l
            | lst nf' hp' n' ra' =>
              rename_i xs' A1
              rw [hp] at hp'
              cases hp'
              have nqA : ∀ a ∈ A1, a ∉ [q] := fun a ha z => by
                obtain ⟨_, o, ho, _⟩ := ra'.known a ha
                simp at z
                rw [z, nq] at ho
                cases ho
              have mv : OgAll F1 (upd H1 p (.lst (xs ++ [.ref q]))) xs A1 es := ra'.move g1.exF (fun a ha => by
                obtain ⟨k1, o, k2, k3⟩ := ra'.known a ha
                exact none_grow (H' := H1) g1.news k1 k2 k3) fun a ha o ho => by
                rw [upd_ne (show a ≠ p from fun z => n' (z ▸ ha))]
                exact g1.exH _ _ ho
              obtain ⟨A2, k1, k2⟩ := mv.snoc (v := .ref q) (d := .list ds) (A1 := [q]) (.lst f1 (by rw [upd_ne (Ne.symm hne)]; exact hq) (by simp) (og_leaves rq hl.1)) nqA
              refine ⟨List.mem_cons_self .., p :: A2, fun a ha => ?_, rfl, .lst (none_grow (H' := H1) g1.news nf hp) upd_same (fun z => ?_) k1⟩
              · rcases List.mem_cons.mp ha with rfl | ha
                · exact .inl (List.mem_cons_self ..)
                · rcases (k2 a).mp ha with z | z
                  · exact .inl (List.mem_cons_of_mem _ z)
                  · simp at z
                    subst z
                    exact .inr nq
              · rcases (k2 p).mp z with z | z
                · exact n' z
                · simp at z
                  exact hne z
          · exact h1.elim
        · exact h1.elim
    · exact h.elim
/-- x[k].clear(): a list of one's own in a list, a tuple -/
def sClearAt (i k : Nat) : SV := fun ρ => match ρ[i]? with
  | some (.og d) => match datAt d [k] with
    | some (.list _) => .nx (ρ.set i (.og (clrAt d [k])))
    | _ => .bad
  | _ => .bad
theorem s_clearAt {i k : Nat} {x : Str} {j : Nat} {p p1 p2 p3 pos' : Pos} (hN : X.N[i]? = some x := by rfl) (hv : Vis X.env.scope x := by first | exact Or.inl rfl | exact Or.inr (Or.inl rfl) | exact Or.inr (Or.inr rfl)) (hd : (x == ("__debug__" : Str)) = false := by decide)
    (hcd : (x == ("__classdict__" : Str)) = false := by decide) (hs : swapsWith (.Call (.Attribute (.Subscript (.Name x p) (.Constant (.int (k : Int)) j p2) p3) "clear" p1) [] [] pos') none pos.line X.env = pure false := by rfl)
    (hbase : attributeBase (.Subscript (.Name x p) (.Constant (.int (k : Int)) j p2) p3) "clear" X.env (eval (.Subscript (.Name x p) (.Constant (.int (k : Int)) j p2) p3) X.env) = eval (.Subscript (.Name x p) (.Constant (.int (k : Int)) j p2) p3) X.env := by rfl) (hline : (p1.endLine == pos'.line) = true := by rfl) (hix : PlainIx (.Constant (.int (k : Int)) j p2) := by exact fun _ _ => rfl) :
    ES X W (.Expr (.Call (.Attribute (.Subscript (.Name x p) (.Constant (.int (k : Int)) j p2) p3) "clear" p1) [] [] pos') pos) (sClearAt i k) :=
  ps_weak (ps_expr (pe_bm0 PySem.F.plainAttrs_list PySem.F.slot_list_clear PySem.F.type_list_clear mt_clear (pe_ix ix_seq (pe_var hN hv hd hcd) pe_int hix) hbase hline) hs) fun D σ H ⟨B, ρ, F, R, h⟩ => by
    unfold sClearAt at h
    split at h
    · rename_i d hx
      split at h
      · rename_i es he
        obtain ⟨v, q, ys, hv, hval, hq, _, R2⟩ := R.clr hx he
        refine ⟨v, hv, ?_⟩
        have fin : tyV X.K "list" (.ref q) H ∧ rClear (.ref q) [] H fun _ H1 => D.nx σ H1 := ⟨.inl ⟨rfl, ys, .inl (.inl hq)⟩, q, ys, rfl, rfl, hq, h σ F _ R2⟩
        obtain ⟨v', A, hv', _, r⟩ := R.ogs hx
        rw [hv] at hv'
        cases hv'
        unfold valAt at hval
        cases v with
        | ref a =>
          dsimp only at hval
          split at hval
          · rename_i xs ha
            split at hval
            · rename_i u hu
              cases hval
              exact .inl ⟨a, xs, (k : Int), _, rfl, rfl, .inl (.inl ha), atI_nat hu, fin⟩
            · cases hval
          · rename_i xs ha
            split at hval
            · rename_i u hu
              cases hval
              exact .inr (.inl ⟨a, xs, (k : Int), _, rfl, rfl, .inl (.inl ha), atI_nat hu, fin⟩)
            · cases hval
          · cases hval
        | _ => cases hval
      · exact h.elim
    · exact h.elim
/-- x.clear() of such a list itself -/
def sClearG (i : Nat) : SV := fun ρ => match ρ[i]? with
  | some (.og (.list _)) => .nx (ρ.set i (.og (.list [])))
  | _ => .bad
theorem s_clearG {i : Nat} {x : Str} {p p1 pos' : Pos} (hN : X.N[i]? = some x := by rfl) (hv : Vis X.env.scope x := by first | exact Or.inl rfl | exact Or.inr (Or.inl rfl) | exact Or.inr (Or.inr rfl)) (hd : (x == ("__debug__" : Str)) = false := by decide)
    (hcd : (x == ("__classdict__" : Str)) = false := by decide) (hs : swapsWith (.Call (.Attribute (.Name x p) "clear" p1) [] [] pos') none pos.line X.env = pure false := by rfl)
    (hbase : attributeBase (.Name x p) "clear" X.env (eval (.Name x p) X.env) = eval (.Name x p) X.env := by rfl) (hline : (p1.endLine == pos'.line) = true := by rfl) :
    ES X W (.Expr (.Call (.Attribute (.Name x p) "clear" p1) [] [] pos') pos) (sClearG i) :=
  ps_weak (ps_expr (pe_bm0 PySem.F.plainAttrs_list PySem.F.slot_list_clear PySem.F.type_list_clear mt_clear (pe_var hN hv hd hcd) hbase hline) hs) fun D σ H ⟨B, ρ, F, R, h⟩ => by
    unfold sClearG at h
    split at h
    · rename_i ds hx
      obtain ⟨v, q, ys, hv, hval, hq, _, R2⟩ := R.clr (path := []) hx rfl
      cases hval
      exact ⟨.ref q, hv, .inl ⟨rfl, ys, .inl (.inl hq)⟩, q, ys, rfl, rfl, hq, h σ F _ R2⟩
    · exact h.elim
end
def clrMany (d : D) (pt : List Nat) : Nat → D
  | 0 => d
  | n + 1 => clrAt (clrMany d pt n) (pt ++ [n])
def isLst : D → Bool
  | .list _ => true
  | _ => false
theorem datAt_snoc {k : Nat} {es : List D} : ∀ {pt : List Nat} {d : D}, datAt d pt = some (.list es) → datAt d (pt ++ [k]) = es[k]?
  | [], d, h => by
    cases h
    show datAt (.list es) [k] = _
    unfold datAt
    cases es[k]? <;> simp [datAt]
  | m :: ms, .list ds, h => by
    show datAt (.list ds) (m :: (ms ++ [k])) = _
    unfold datAt at h ⊢
    cases e : ds[m]? with
    | none => rw [e] at h; cases h
    | some d => rw [e] at h; exact datAt_snoc h
  | m :: ms, .tuple ds, h => by
    show datAt (.tuple ds) (m :: (ms ++ [k])) = _
    unfold datAt at h ⊢
    cases e : ds[m]? with
    | none => rw [e] at h; cases h
    | some d => rw [e] at h; exact datAt_snoc h
  | m :: ms, .none, h => by cases h
  | m :: ms, .bool _, h => by cases h
  | m :: ms, .int _, h => by cases h
  | m :: ms, .str _, h => by cases h
  | m :: ms, .dict _, h => by cases h
theorem clrAt_snoc {k : Nat} {es : List D} : ∀ {pt : List Nat} {d : D}, datAt d pt = some (.list es) → k < es.length → datAt (clrAt d (pt ++ [k])) pt = some (.list (es.set k (.list [])))
  | [], d, h, hk => by
    cases h
    show some (clrAt (.list es) [k]) = _
    unfold clrAt
    rw [List.getElem?_eq_getElem hk]
    simp [clrAt]
  | m :: ms, .list ds, h, hk => by
    show datAt (clrAt (.list ds) (m :: (ms ++ [k]))) (m :: ms) = _
    unfold datAt at h
    unfold clrAt
    cases e : ds[m]? with
    | none => rw [e] at h; cases h
    | some d =>
      rw [e] at h
      unfold datAt
      dsimp only
      rw [List.getElem?_set_self (List.getElem?_eq_some_iff.mp e).1]
      exact clrAt_snoc h hk
  | m :: ms, .tuple ds, h, hk => by
    show datAt (clrAt (.tuple ds) (m :: (ms ++ [k]))) (m :: ms) = _
    unfold datAt at h
    unfold clrAt
    cases e : ds[m]? with
    | none => rw [e] at h; cases h
    | some d =>
      rw [e] at h
      unfold datAt
      dsimp only
      rw [List.getElem?_set_self (List.getElem?_eq_some_iff.mp e).1]
      exact clrAt_snoc h hk
  | m :: ms, .none, h, _ => by cases h
  | m :: ms, .bool _, h, _ => by cases h
  | m :: ms, .int _, h, _ => by cases h
  | m :: ms, .str _, h, _ => by cases h
  | m :: ms, .dict _, h, _ => by cases h
theorem clrMany_dat {d : D} {pt : List Nat} {es : List D} (h : datAt d pt = some (.list es)) : ∀ n, n ≤ es.length → ∃ es', datAt (clrMany d pt n) pt = some (.list es') ∧ es'.length = es.length ∧ ∀ k, n ≤ k → es'[k]? = es[k]?
  | 0, _ => ⟨es, h, rfl, fun _ _ => rfl⟩
  | n + 1, hn => by
    obtain ⟨es', h1, h2, h3⟩ := clrMany_dat h n (by omega)
    refine ⟨es'.set n (.list []), clrAt_snoc h1 (by omega), by simp [h2], fun k hk => ?_⟩
    rw [List.getElem?_set_ne (by omega)]
    exact h3 k (by omega)
section
variable {X : Cx} {W : WX}
/-- for x in ..: x.clear(), over one's own lists -/
def sClearAll (i : Nat) (pt : List Nat) (j : Nat) : SV := fun ρ => match ρ[i]? with
  | some (.og d) => match datAt d pt with
    | some (.list es) => if es.all isLst = true ∧ j < ρ.length then .nx ((ρ.set j .no).set i (.og (clrMany d pt es.length))) else .bad
    | _ => .bad
  | _ => .bad
theorem clear_loop {i j : Nat} {pt : List Nat} {D : Ends} {σ : L2.St} {H : Hp} (hij : i ≠ j) (h : tS X.K X.mg W (sClearAll i pt j) D σ H) :
    ∃ v a xs, σ[i]? = some (some v) ∧ valAt H v pt = some (.ref a) ∧ SqL X.K H a xs ∧ (∃ W : Nat → Nat → L2.St → Hp → Prop, (∃ m, W 0 m σ H) ∧ ∀ i m σ H, W i m σ H →
      ((Itl X.K a).stop i H ∧ D.nx σ H) ∨ ((Itl X.K a).go i H ∧ ∃ N : L2.St → Hp → Prop, (∀ σ' H', N σ' H' → ∃ m', m' < m ∧ W (i + 1) m' σ' H') ∧ ∀ x H', (Itl X.K a).yld i H x H' → gName j x σ H' fun σ2 H2 => tDrop (tBM0 X.K "list" rClear (tVar j)) { D with nx := N, ct := N, bk := D.nx } σ2 H2)) := by
  obtain ⟨B, ρ, F, R, h⟩ := h
  unfold sClearAll at h
  split at h
  · rename_i d hx
    split at h
    · rename_i es hd
      split at h
      · rename_i hall
        obtain ⟨v, q, ys, hv, hval, hq, ⟨hys, _⟩, _⟩ := R.clr hx hd
        have hil : i < ρ.length := (List.getElem?_eq_some_iff.mp hx).1
        refine ⟨v, q, ys, hv, hval, .inl (.inl hq), for_list (xs := ys) (fun k σ' H' => k ≤ es.length ∧ ∃ F', Rep X.K B ((ρ.set j .no).set i (.og (clrMany d pt k))) σ' F' H' ∧ σ'[i]? = some (some v) ∧ valAt H' v pt = some (.ref q) ∧ H' q = some (.lst ys)) ⟨Nat.zero_le _, F, ?_, hv, hval, hq⟩ (fun k σ' H' _ ⟨_, _, _, _, _, w⟩ => .inl (.inl w)) (fun k x σ' H' hk w => ?_) fun σ' H' w => ?_⟩
        · have e0 : (ρ.set j .no).set i (.og (clrMany d pt 0)) = ρ.set j .no := by
            have hg : (ρ.set j .no)[i]? = some (.og d) := by rw [List.getElem?_set_ne (Ne.symm hij)]; exact hx
            apply List.ext_getElem?
            intro m
            by_cases hm : m = i
            · subst hm
              rw [List.getElem?_set_self (by simpa using hil), hg]
              rfl
            · rw [List.getElem?_set_ne (Ne.symm hm)]
          rw [e0]
          exact R.forget j
        · obtain ⟨hle, F', R', hv', hval', hq'⟩ := w
          have hlt : k < es.length := by
            have := (List.getElem?_eq_some_iff.mp hk).1
            omega
          obtain ⟨es', e1, e2, e3⟩ := clrMany_dat hd k hle
          obtain ⟨fs, efs⟩ : ∃ fs, es[k]? = some (.list fs) := by
            rw [List.getElem?_eq_getElem hlt]
            have := List.all_eq_true.mp hall.1 es[k] (List.getElem_mem hlt)
            cases hz : es[k] <;> rw [hz] at this <;> first | exact ⟨_, rfl⟩ | cases this
          have hd' : datAt (clrMany d pt k) (pt ++ [k]) = some (.list fs) := by
            rw [datAt_snoc e1, e3 k (Nat.le_refl _), efs]
          have hxi : ((ρ.set j .no).set i (.og (clrMany d pt k)))[i]? = some (.og (clrMany d pt k)) := by
            rw [List.getElem?_set_self (by simpa using hil)]
          obtain ⟨v2, q2, zs, hv2, hval2, hq2, ⟨_, hpre⟩, R2⟩ := R'.clr hxi hd'
          rw [hv'] at hv2
          cases hv2
          have hx2 : x = .ref q2 := by
            rw [valAt_snoc hval' hq', hk] at hval2
            exact Option.some.inj hval2
          subst hx2
          have hne : q ≠ q2 := hpre pt [k] rfl (by simp) q hval'
          have hjl : j < σ'.length := by
            have := R'.len
            simp at this
            omega
          refine ⟨.ref q2, by rw [List.getElem?_set_self hjl], .inl ⟨rfl, zs, .inl (.inl hq2)⟩, q2, zs, rfl, rfl, hq2, hlt, F', ?_, ?_, ?_, ?_⟩
          · rw [List.set_set] at R2
            refine R2.setNo ?_ _
            left
            rw [List.getElem?_set_ne hij, List.getElem?_set_self hall.2]
          · rw [List.getElem?_set_ne (Ne.symm hij)]
            exact hv'
          · rw [valAt_upd fun p1 p2 e z a ha => hpre p1 (p2 ++ [k]) (by rw [e, List.append_assoc]) (by simp) a ha]
            exact hval'
          · rw [upd_ne hne]
            exact hq'
        · obtain ⟨_, F', R', _, _, _⟩ := w
          rw [hys] at R'
          exact h σ' F' H' R'
      · exact h.elim
    · exact h.elim
  · exact h.elim
theorem s_clearAll {i j : Nat} {x y : Str} {p p0 p1 p2 pos pos2 pos' : Pos} (hp : PassesOwn (model X.prog X.w) X.A X.env X.xe) (hc : X.calm = true) (hnd : X.N.Nodup) (hij : i ≠ j := by decide) (hN : X.N[i]? = some x := by rfl) (hv : Vis X.env.scope x := by first | exact Or.inl rfl | exact Or.inr (Or.inl rfl) | exact Or.inr (Or.inr rfl)) (hd : (x == ("__debug__" : Str)) = false := by decide) (hcd : (x == ("__classdict__" : Str)) = false := by decide)
    (hNy : X.N[j]? = some y := by rfl) (hvy : Vis X.env.scope y := by first | exact Or.inl rfl | exact Or.inr (Or.inl rfl) | exact Or.inr (Or.inr rfl)) (hdy : (y == ("__debug__" : Str)) = false := by decide) (hcdy : (y == ("__classdict__" : Str)) = false := by decide)
    (hly : Loc X.env.scope y := by first | exact .inl rfl | exact .inr rfl) (hfy : X.fn y = true ∨ X.env.scope.names.lookup y = some .local := by first | exact .inl rfl | exact .inr rfl)
    (hs : swapsWith (.Call (.Attribute (.Name y p0) "clear" p1) [] [] pos') none pos2.line X.env = pure false := by rfl)
    (hbase : attributeBase (.Name y p0) "clear" X.env (eval (.Name y p0) X.env) = eval (.Name y p0) X.env := by rfl) (hline : (p1.endLine == pos'.line) = true := by rfl)
    (hfo : ∀ z, foldedSetIterable (.Name x p) X.env z = pure z := by intro _; rfl) :
    ES X W (.For (.Name y p2) (.Name x p) [.Expr (.Call (.Attribute (.Name y p0) "clear" p1) [] [] pos') pos2] [] pos) (sClearAll i [] j) :=
  ps_weak (ps_for hp hc (pi_list (pe_var hN hv hd hcd)) (pg_name hnd hNy hly hfy) (pss_one (ps_expr (pe_bm0 PySem.F.plainAttrs_list PySem.F.slot_list_clear PySem.F.type_list_clear mt_clear (pe_var hNy hvy hdy hcdy) hbase hline) hs)) hfo) fun D σ H h => by
    obtain ⟨v, a, xs, h1, h2, h3, h4⟩ := clear_loop hij h
    cases h2
    exact ⟨_, h1, a, rfl, ⟨xs, h3⟩, h4⟩
theorem s_clearAllAt {i j k : Nat} {jj : Nat} {x y : Str} {p p0 p1 p2 p3 p4 pos pos2 pos' : Pos} (hp : PassesOwn (model X.prog X.w) X.A X.env X.xe) (hc : X.calm = true) (hnd : X.N.Nodup) (hij : i ≠ j := by decide) (hN : X.N[i]? = some x := by rfl) (hv : Vis X.env.scope x := by first | exact Or.inl rfl | exact Or.inr (Or.inl rfl) | exact Or.inr (Or.inr rfl)) (hd : (x == ("__debug__" : Str)) = false := by decide) (hcd : (x == ("__classdict__" : Str)) = false := by decide)
    (hNy : X.N[j]? = some y := by rfl) (hvy : Vis X.env.scope y := by first | exact Or.inl rfl | exact Or.inr (Or.inl rfl) | exact Or.inr (Or.inr rfl)) (hdy : (y == ("__debug__" : Str)) = false := by decide) (hcdy : (y == ("__classdict__" : Str)) = false := by decide)
    (hly : Loc X.env.scope y := by first | exact .inl rfl | exact .inr rfl) (hfy : X.fn y = true ∨ X.env.scope.names.lookup y = some .local := by first | exact .inl rfl | exact .inr rfl)
    (hs : swapsWith (.Call (.Attribute (.Name y p0) "clear" p1) [] [] pos') none pos2.line X.env = pure false := by rfl)
    (hbase : attributeBase (.Name y p0) "clear" X.env (eval (.Name y p0) X.env) = eval (.Name y p0) X.env := by rfl) (hline : (p1.endLine == pos'.line) = true := by rfl)
    (hfo : ∀ z, foldedSetIterable (.Subscript (.Name x p) (.Constant (.int (k : Int)) jj p3) p4) X.env z = pure z := by intro _; rfl) (hix : PlainIx (.Constant (.int (k : Int)) jj p3) := by exact fun _ _ => rfl) :
    ES X W (.For (.Name y p2) (.Subscript (.Name x p) (.Constant (.int (k : Int)) jj p3) p4) [.Expr (.Call (.Attribute (.Name y p0) "clear" p1) [] [] pos') pos2] [] pos) (sClearAll i [k] j) :=
  ps_weak (ps_for hp hc (pi_list (pe_ix ix_seq (pe_var hN hv hd hcd) pe_int hix)) (pg_name hnd hNy hly hfy) (pss_one (ps_expr (pe_bm0 PySem.F.plainAttrs_list PySem.F.slot_list_clear PySem.F.type_list_clear mt_clear (pe_var hNy hvy hdy hcdy) hbase hline) hs)) hfo) fun D σ H h => by
    obtain ⟨v, a, xs, h1, h2, h3, h4⟩ := clear_loop hij h
    refine ⟨v, h1, ?_⟩
    unfold valAt at h2
    cases v with
    | ref b =>
      dsimp only at h2
      split at h2
      · rename_i ys hb
        split at h2
        · rename_i u hu
          cases h2
          exact .inl ⟨b, ys, (k : Int), _, rfl, rfl, .inl (.inl hb), atI_nat hu, a, rfl, ⟨xs, h3⟩, h4⟩
        · cases h2
      · rename_i ys hb
        split at h2
        · rename_i u hu
          cases h2
          exact .inr (.inl ⟨b, ys, (k : Int), _, rfl, rfl, .inl (.inl hb), atI_nat hu, a, rfl, ⟨xs, h3⟩, h4⟩)
        · cases h2
      · cases h2
    | _ => cases h2
end
end BV
namespace BV
open PySem L2
section
variable {d e : D} {ds es : List D} {ρ : Rho} {s t : Sl} {f g : EV}
theorem argS_vg : argS (.vg d) = .ok (.vg d) := rfl
theorem argS_og : argS (.og d) = .ok (.fz d) := rfl
theorem keeps_og : (Sl.og d).keeps = true := rfl
theorem keeps_br : (Sl.br ds).keeps = true := rfl
theorem res_og : (Sl.og d).res = true := rfl
/-! ### calls -/
theorem a1_ok (h : f ρ = .ok s) (ha : argS s = .ok t) : aCons f aNil ρ = .ok [t] := by
  unfold aCons aNil
  rw [h, Rs.bind_ok, ha]
  rfl
theorem a2_ok {s' t' : Sl} (h : f ρ = .ok s) (ha : argS s = .ok t) (h' : g ρ = .ok s') (ha' : argS s' = .ok t') : aCons f (aCons g aNil) ρ = .ok [t, t'] := by
  unfold aCons aNil
  rw [h, Rs.bind_ok, ha, Rs.bind_ok, h', Rs.bind_ok, ha']
  rfl
theorem call1 {G : List Sl → Rs Sl} {r : Rs Sl} (h : f ρ = .ok s) (ha : argS s = .ok t) (hk : argOk t = true) (hg : G [asArg t] = r) : eCall 1 G (aCons f aNil) ρ = r :=
  call_ok (a1_ok h ha) rfl (by rw [List.all_cons, hk]; rfl) hg
theorem call2 {G : List Sl → Rs Sl} {r : Rs Sl} {s' t' : Sl} (h : f ρ = .ok s) (ha : argS s = .ok t) (h' : g ρ = .ok s') (ha' : argS s' = .ok t') (hk : argOk t = true) (hk' : argOk t' = true) (hg : G [asArg t, asArg t'] = r) : eCall 2 G (aCons f (aCons g aNil)) ρ = r :=
  call_ok (a2_ok h ha h' ha') rfl (by rw [List.all_cons, hk, List.all_cons, hk']; rfl) hg
theorem callS_ok {np : Nat} {G : List Sl → Rs Sl} {fs : Rho → Rs (List Sl)} {ss : List Sl} {sl : Sl} (h : fs ρ = .ok ss) (hl : ss.length = np) (ha : ss.all argOkS = true) (hg : G (ss.map asFz) = .ok sl) (hs : scal sl = true) : eCallS np G fs ρ = .ok sl := by
  unfold eCallS
  rw [h, Rs.bind_ok, if_pos ⟨hl, ha⟩, hg, Rs.bind_ok, if_pos hs]
theorem eCB_ok {F : List Sl → Option Sl} {fs : Rho → Rs (List Sl)} {ss : List Sl} (h : fs ρ = .ok ss) (hf : F ss = some s) : eCB F fs ρ = .ok s := by
  unfold eCB
  rw [h, Rs.bind_ok, hf]
  rfl
theorem app_ok {i : Nat} (e : ρ[i]? = some (.ow ds)) (h : f ρ = .ok s) (ha : argS s = .ok (.fz d)) (hl : ds.length < 100000) : sApp i f ρ = .nx (ρ.set i (.ow (ds ++ [d]))) := by
  unfold sApp
  rw [e]
  dsimp only
  rw [h, Rs.out_ok, ha, Rs.out_ok]
  exact if_pos hl
/-! ### loops -/
theorem for_rel {tg : D → Rho → Option Rho} {body : SV} (I : Nat → Rho → Prop) : ∀ (ds : List D) (k : Nat) (ρ : Rho),
    (∀ i d ρ, ds[i]? = some d → I (k + i) ρ → ∃ ρ1, tg d ρ = some ρ1 ∧ ∃ ρ', (body ρ1 = .nx ρ' ∨ body ρ1 = .ct ρ') ∧ I (k + i + 1) ρ') → I k ρ →
    ∃ ρ', sForL tg body ds ρ = .nx ρ' ∧ I (k + ds.length) ρ'
  | [], k, ρ, _, h => ⟨ρ, rfl, h⟩
  | d :: ds, k, ρ, hs, h => by
    obtain ⟨ρ1, e1, ρ', e2, h'⟩ := hs 0 d ρ rfl h
    obtain ⟨ρ2, e3, h2⟩ := for_rel I ds (k + 1) ρ' (fun i d ρ hi hI => by
      have := hs (i + 1) d ρ (by simpa using hi) (by rw [show k + (i + 1) = k + 1 + i by omega]; exact hI)
      rw [show k + (i + 1) + 1 = k + 1 + i + 1 by omega] at this
      exact this) h'
    refine ⟨ρ2, ?_, by rw [List.length_cons, show k + (ds.length + 1) = k + 1 + ds.length by omega]; exact h2⟩
    rw [sForL_cons e1]
    rcases e2 with e2 | e2 <;> rw [e2]
    · exact e3
    · exact e3
/-- a walk over typed things, by what is so before the i-th one -/
theorem for_relM {α : Type} {k : α → D} {tg : D → Rho → Option Rho} {body : SV} (xs : List α) (I : Nat → Rho → Prop) (ρ : Rho) (h0 : I 0 ρ)
    (hs : ∀ i x ρ, xs[i]? = some x → I i ρ → ∃ ρ1, tg (k x) ρ = some ρ1 ∧ ∃ ρ', (body ρ1 = .nx ρ' ∨ body ρ1 = .ct ρ') ∧ I (i + 1) ρ') :
    ∃ ρ', sForL tg body (xs.map k) ρ = .nx ρ' ∧ I xs.length ρ' := by
  obtain ⟨ρ', h, h'⟩ := for_rel (tg := tg) (body := body) I (xs.map k) 0 ρ (fun i d ρ hi hI => by
    rw [List.getElem?_map] at hi
    obtain ⟨x, hx, rfl⟩ := Option.map_eq_some_iff.mp hi
    rw [Nat.zero_add] at hI ⊢
    exact hs i x ρ hx hI) h0
  exact ⟨ρ', h, by simpa using h'⟩
/-- .. as a fold -/
theorem for_fold {α β : Type} {k : α → D} {tg : D → Rho → Option Rho} {body : SV} (R : β → Rho → Prop) (step : β → α → β) : ∀ (xs : List α) (b : β) (ρ : Rho), R b ρ →
    (∀ b ρ x, x ∈ xs → R b ρ → ∃ ρ1, tg (k x) ρ = some ρ1 ∧ ∃ ρ', (body ρ1 = .nx ρ' ∨ body ρ1 = .ct ρ') ∧ R (step b x) ρ') →
    ∃ ρ', sForL tg body (xs.map k) ρ = .nx ρ' ∧ R (xs.foldl step b) ρ'
  | [], b, ρ, h, _ => ⟨ρ, rfl, h⟩
  | x :: xs, b, ρ, h, hs => by
    obtain ⟨ρ1, e1, ρ', e2, h'⟩ := hs b ρ x (List.mem_cons_self ..) h
    obtain ⟨ρ2, e3, h2⟩ := for_fold (k := k) (tg := tg) (body := body) R step xs (step b x) ρ' h' fun b ρ y hy => hs b ρ y (List.mem_cons_of_mem _ hy)
    refine ⟨ρ2, ?_, h2⟩
    rw [List.map_cons, sForL_cons e1]
    rcases e2 with e2 | e2 <;> rw [e2] <;> exact e3
/-- a walk that hands back at the first thing of a kind, else goes through -/
theorem for_find {α : Type} {k : α → D} {tg : D → Rho → Option Rho} {body : SV} {p : α → Bool} {r : α → Sl} (I : Rho → Prop) : ∀ (xs : List α) (ρ : Rho), I ρ →
    (∀ ρ x, x ∈ xs → I ρ → ∃ ρ1, tg (k x) ρ = some ρ1 ∧ (p x = true → body ρ1 = .rt (r x)) ∧ (p x = false → ∃ ρ', (body ρ1 = .nx ρ' ∨ body ρ1 = .ct ρ') ∧ I ρ')) →
    match xs.find? p with
    | some x => sForL tg body (xs.map k) ρ = .rt (r x)
    | none => ∃ ρ', sForL tg body (xs.map k) ρ = .nx ρ' ∧ I ρ'
  | [], ρ, h, _ => ⟨ρ, rfl, h⟩
  | x :: xs, ρ, h, hs => by
    obtain ⟨ρ1, e1, h1, h2⟩ := hs ρ x (List.mem_cons_self ..) h
    rw [List.map_cons, sForL_cons e1]
    cases hp : p x with
    | true =>
      rw [List.find?_cons_of_pos hp]
      dsimp only
      rw [h1 hp]
      rfl
    | false =>
      rw [List.find?_cons_of_neg (by rw [hp]; decide)]
      obtain ⟨ρ', e2, h'⟩ := h2 hp
      have := for_find (k := k) (tg := tg) (body := body) (p := p) (r := r) I xs ρ' h' fun ρ y hy => hs ρ y (List.mem_cons_of_mem _ hy)
      rcases e2 with e2 | e2 <;> rw [e2] <;> exact this
/-! ### comprehensions -/
theorem lc_map {α : Type} {k h : α → D} {tg : D → Rho → Option Rho} : ∀ (xs : List α), (∀ x, x ∈ xs → ∃ ρ1 s, tg (k x) ρ = some ρ1 ∧ f ρ1 = .ok s ∧ argS s = .ok (.fz (h x))) → lcL tg cYes f ρ (xs.map k) = .ok (xs.map h)
  | [], _ => rfl
  | x :: xs, hs => by
    obtain ⟨ρ1, s, e1, e2, e3⟩ := hs x (List.mem_cons_self ..)
    have := lc_map (k := k) (h := h) (tg := tg) xs fun y hy => hs y (List.mem_cons_of_mem _ hy)
    rw [List.map_cons, List.map_cons]
    unfold lcL
    rw [e1]
    dsimp only
    unfold cYes
    rw [Rs.bind_ok, if_pos rfl, e2, Rs.bind_ok, e3, Rs.bind_ok]
    dsimp only
    unfold cYes at this
    rw [this]
    rfl
theorem lc_filt {α : Type} {k h : α → D} {p : α → Bool} {c : Rho → Rs Bool} {tg : D → Rho → Option Rho} : ∀ (xs : List α), (∀ x, x ∈ xs → ∃ ρ1, tg (k x) ρ = some ρ1 ∧ c ρ1 = .ok (p x) ∧ (p x = true → ∃ s, f ρ1 = .ok s ∧ argS s = .ok (.fz (h x)))) → lcL tg c f ρ (xs.map k) = .ok ((xs.filter p).map h)
  | [], _ => rfl
  | x :: xs, hs => by
    obtain ⟨ρ1, e1, e2, e3⟩ := hs x (List.mem_cons_self ..)
    have := lc_filt (k := k) (h := h) (p := p) (c := c) (tg := tg) xs fun y hy => hs y (List.mem_cons_of_mem _ hy)
    rw [List.map_cons]
    unfold lcL
    rw [e1]
    dsimp only
    rw [e2, Rs.bind_ok]
    cases hp : p x with
    | true =>
      obtain ⟨s, e4, e5⟩ := e3 hp
      rw [if_pos rfl, e4, Rs.bind_ok, e5, Rs.bind_ok]
      dsimp only
      rw [this, List.filter_cons_of_pos hp]
      rfl
    | false =>
      rw [if_neg (by decide), this, List.filter_cons_of_neg (by rw [hp]; decide)]
theorem eLc_ok {vs : List Nat} {src : Rho → Rs (List D)} {tg : D → Rho → Option Rho} {c : Rho → Rs Bool} (hs : src ρ = .ok ds) (hl : ds.length ≤ 50000) (h : lcL tg c f (wipeR ρ vs) ds = .ok es) : eLc vs src tg c f ρ = .ok (.ow es) := by
  unfold eLc
  rw [hs, Rs.bind_ok, if_pos hl, h]
  rfl
/-! ### what is alike -/
def Sh (n : Nat) (d : D) : Prop := d.canLay0 = true ∧ d.depth ≤ n
theorem Sh.mono {m n : Nat} (h : Sh m d) (k : m ≤ n) : Sh n d := ⟨h.1, Nat.le_trans h.2 k⟩
theorem Sh.int {n : Nat} {i : Int} : Sh n (.int i) := ⟨rfl, Nat.zero_le _⟩
theorem Sh.bl {n : Nat} {b : Bool} : Sh n (.bool b) := ⟨rfl, Nat.zero_le _⟩
theorem Sh.non {n : Nat} : Sh n .none := ⟨rfl, Nat.zero_le _⟩
theorem sh_all {n : Nat} : ∀ {ds : List D}, (∀ d ∈ ds, Sh n d) → PyData.canLayAll0 ds = true ∧ PyData.depthAll ds ≤ n
  | [], _ => ⟨rfl, Nat.zero_le _⟩
  | d :: ds, h => by
    obtain ⟨h1, h2⟩ := sh_all fun x hx => h x (List.mem_cons_of_mem _ hx)
    obtain ⟨h3, h4⟩ := h d (List.mem_cons_self ..)
    unfold PyData.canLayAll0 PyData.depthAll
    exact ⟨by rw [h3, h1]; rfl, Nat.max_le.mpr ⟨h4, h2⟩⟩
theorem Sh.lst {n : Nat} (h : ∀ d ∈ ds, Sh n d) : Sh (n + 1) (.list ds) := by
  obtain ⟨h1, h2⟩ := sh_all h
  exact ⟨by unfold PyData.canLay0; exact h1, by unfold PyData.depth; omega⟩
theorem Sh.tup {n : Nat} (h : ∀ d ∈ ds, Sh n d) : Sh (n + 1) (.tuple ds) := by
  obtain ⟨h1, h2⟩ := sh_all h
  exact ⟨by unfold PyData.canLay0; exact h1, by unfold PyData.depth; omega⟩
theorem Sh.t2 {n : Nat} (h : Sh n d) (h' : Sh n e) : Sh (n + 1) (.tuple [d, e]) := Sh.tup fun x hx => by
  cases hx with
  | head => exact h
  | tail _ hx => cases hx with
    | head => exact h'
    | tail _ hx => cases hx
theorem Sh.ints {n : Nat} {xs : List Int} {k : Int → D} (hk : ∀ i, Sh n (k i)) : ∀ d ∈ xs.map k, Sh n d := fun d hd => by
  obtain ⟨i, _, rfl⟩ := List.mem_map.mp hd
  exact hk i
theorem Sh.maps {α : Type} {n : Nat} {xs : List α} {k : α → D} (hk : ∀ i, i ∈ xs → Sh n (k i)) : ∀ d ∈ xs.map k, Sh n d := fun d hd => by
  obtain ⟨i, hi, rfl⟩ := List.mem_map.mp hd
  exact hk i hi
theorem Sh.shaped {n : Nat} (h : Sh n d) (hn : n ≤ 64) : SeqAt.shaped d = true := by
  unfold SeqAt.shaped
  rw [h.1, decide_eq_true (Nat.le_trans h.2 hn)]
  rfl
mutual
theorem eqv_same : ∀ {d : D}, d.canLay0 = true → PyData.eqv d d = true
  | .none, _ => rfl
  | .bool b, _ => by cases b <;> rfl
  | .int i, _ => by unfold PyData.eqv; exact beq_self_eq_true i
  | .str x, _ => by unfold PyData.eqv; exact beq_self_eq_true x
  | .list ds, h => by unfold PyData.eqv; exact eqvAll_same (by unfold PyData.canLay0 at h; exact h)
  | .tuple ds, h => by unfold PyData.eqv; exact eqvAll_same (by unfold PyData.canLay0 at h; exact h)
  | .dict _, h => by cases h
theorem eqvAll_same : ∀ {ds : List D}, PyData.canLayAll0 ds = true → PyData.eqvAll ds ds = true
  | [], _ => rfl
  | d :: ds, h => by
    unfold PyData.canLayAll0 at h
    rw [Bool.and_eq_true] at h
    unfold PyData.eqvAll
    rw [eqv_same h.1, eqvAll_same h.2]
    rfl
end
theorem eq_of {a b : Sl} (ha : a.data = some d) (hb : b.data = some e) (h : Sh 64 d) (h' : Sh 64 e) : eqOp a b = some (.fz (.bool (PyData.eqv d e))) := by
  unfold eqOp
  rw [ha, hb]
  dsimp only
  rw [h.shaped (by decide), h'.shaped (by decide)]
  rfl
theorem ne_of {a b : Sl} (ha : a.data = some d) (hb : b.data = some e) (h : Sh 64 d) (h' : Sh 64 e) : neOp a b = some (.fz (.bool (!PyData.eqv d e))) := by
  unfold neOp
  rw [ha, hb]
  dsimp only
  rw [h.shaped (by decide), h'.shaped (by decide)]
  rfl
theorem eq_same {a b : Sl} (h : Sh 64 d) (ha : a.data = some d) (hb : b.data = some d) : eqOp a b = some (.fz (.bool true)) := by
  rw [eq_of ha hb h h, eqv_same h.1]
theorem ne_same {a b : Sl} (h : Sh 64 d) (ha : a.data = some d) (hb : b.data = some d) : neOp a b = some (.fz (.bool false)) := by
  rw [ne_of ha hb h h, eqv_same h.1]
  rfl
/-! data of ints, tuples and lists: alike is the same -/
mutual
def nb : D → Bool
  | .int _ => true
  | .str _ => true
  | .list ds => nbAll ds
  | .tuple ds => nbAll ds
  | _ => false
def nbAll : List D → Bool
  | [] => true
  | d :: ds => nb d && nbAll ds
end
mutual
theorem eqv_nb : ∀ {d e : D}, nb d = true → nb e = true → PyData.eqv d e = true → d = e
  | .int i, .int j, _, _, h => by unfold PyData.eqv at h; rw [eq_of_beq h]
  | .str i, .str j, _, _, h => by unfold PyData.eqv at h; rw [eq_of_beq h]
  | .list ds, .list es, h1, h2, h => by unfold PyData.eqv at h; rw [eqvAll_nb (by unfold nb at h1; exact h1) (by unfold nb at h2; exact h2) h]
  | .tuple ds, .tuple es, h1, h2, h => by unfold PyData.eqv at h; rw [eqvAll_nb (by unfold nb at h1; exact h1) (by unfold nb at h2; exact h2) h]
  | .int _, .str _, _, _, h => by cases h
  | .int _, .list _, _, _, h => by cases h
  | .int _, .tuple _, _, _, h => by cases h
  | .str _, .int _, _, _, h => by cases h
  | .str _, .list _, _, _, h => by cases h
  | .str _, .tuple _, _, _, h => by cases h
  | .list _, .int _, _, _, h => by cases h
  | .list _, .str _, _, _, h => by cases h
  | .list _, .tuple _, _, _, h => by cases h
  | .tuple _, .int _, _, _, h => by cases h
  | .tuple _, .str _, _, _, h => by cases h
  | .tuple _, .list _, _, _, h => by cases h
  | .none, _, h, _, _ => by cases h
  | .bool _, _, h, _, _ => by cases h
  | .dict _, _, h, _, _ => by cases h
  | _, .none, _, h, _ => by cases h
  | _, .bool _, _, h, _ => by cases h
  | _, .dict _, _, h, _ => by cases h
theorem eqvAll_nb : ∀ {ds es : List D}, nbAll ds = true → nbAll es = true → PyData.eqvAll ds es = true → ds = es
  | [], [], _, _, _ => rfl
  | d :: ds, e :: es, h1, h2, h => by
    unfold nbAll at h1 h2
    rw [Bool.and_eq_true] at h1 h2
    unfold PyData.eqvAll at h
    rw [Bool.and_eq_true] at h
    rw [eqv_nb h1.1 h2.1 h.1, eqvAll_nb h1.2 h2.2 h.2]
  | [], _ :: _, _, _, h => by cases h
  | _ :: _, [], _, _, h => by cases h
end
/-! ### places -/
theorem ixT_of {n : Nat} {z : Int} {a : D} (h : ds[n]? = some a) (hz : z = (n : Int)) : ixOp (.fz (.tuple ds)) (.fz (.int z)) = some (.fz a) := by subst hz; exact ix_tup h
theorem ixL_of {n : Nat} {z : Int} {a : D} (h : ds[n]? = some a) (hz : z = (n : Int)) : ixOp (.fz (.list ds)) (.fz (.int z)) = some (.fz a) := by subst hz; exact ix_lst h
theorem ixV_of {n : Nat} {z : Int} {a : D} (h : ds[n]? = some a) (hz : z = (n : Int)) : ixOp (.vw ds) (.fz (.int z)) = some (.fz a) := by subst hz; exact ix_vw h
theorem ixB_of {n : Nat} {z : Int} {a : D} (h : ds[n]? = some a) (hz : z = (n : Int)) : ixOp (.br ds) (.fz (.int z)) = some (.fz a) := by subst hz; exact ix_br h
theorem atI_last {α : Type} {xs : List α} {x : α} : atI (xs ++ [x]) (-1) = some x := by
  unfold atI ixN
  rw [if_neg (by decide), if_pos (by simp; omega), Option.bind_some, show (-1 + ((xs ++ [x]).length : Int)).toNat = xs.length by simp; omega]
  simp
theorem atI_lastD {α : Type} {xs : List α} {x : α} (h : xs.getLast? = some x) : atI xs (-1) = some x := by
  obtain ⟨ys, rfl⟩ := List.getLast?_eq_some_iff.mp h
  exact atI_last
theorem ixV_last (h : ds.getLast? = some d) : ixOp (.vw ds) (.fz (.int (-1))) = some (.fz d) := by
  show (atI ds (-1)).map Sl.fz = _
  rw [atI_lastD h]
  rfl
theorem ixO_last (h : ds.getLast? = some d) : ixOp (.ow ds) (.fz (.int (-1))) = some (.fz d) := by
  show (atI ds (-1)).map Sl.fz = _
  rw [atI_lastD h]
  rfl
theorem ixL_last (h : ds.getLast? = some d) : ixOp (.fz (.list ds)) (.fz (.int (-1))) = some (.fz d) := by
  show (atI ds (-1)).map Sl.fz = _
  rw [atI_lastD h]
  rfl
theorem ixT_last (h : ds.getLast? = some d) : ixOp (.fz (.tuple ds)) (.fz (.int (-1))) = some (.fz d) := by
  show (atI ds (-1)).map Sl.fz = _
  rw [atI_lastD h]
  rfl
theorem ixG_last (h : ds.getLast? = some d) (l : lf d = false) : ixOp (.vg (.list ds)) (.fz (.int (-1))) = some (.vg d) := by
  show (atI ds (-1)).map (fun d => if lf d then Sl.fz d else Sl.vg d) = _
  rw [atI_lastD h]
  show some (if lf d then Sl.fz d else Sl.vg d) = _
  rw [l]
  rfl
theorem ixG_lastF (h : ds.getLast? = some d) (l : lf d = true) : ixOp (.vg (.list ds)) (.fz (.int (-1))) = some (.fz d) := by
  show (atI ds (-1)).map (fun d => if lf d then Sl.fz d else Sl.vg d) = _
  rw [atI_lastD h]
  show some (if lf d then Sl.fz d else Sl.vg d) = _
  rw [l]
  rfl
theorem ixOG_last (h : ds.getLast? = some d) (l : lf d = false) : ixOp (.og (.list ds)) (.fz (.int (-1))) = some (.vg d) := by
  show (atI ds (-1)).map (fun d => if lf d then Sl.fz d else Sl.vg d) = _
  rw [atI_lastD h]
  show some (if lf d then Sl.fz d else Sl.vg d) = _
  rw [l]
  rfl
theorem zip_maps {α β : Type} (k : α → D) (h : β → D) : ∀ (xs : List α) (ys : List β), ((xs.map k).zip (ys.map h)).map (fun p => PyData.tuple [p.1, p.2]) = (xs.zip ys).map fun p => PyData.tuple [k p.1, h p.2]
  | [], _ => rfl
  | _ :: _, [] => rfl
  | x :: xs, y :: ys => by
    rw [List.map_cons, List.map_cons, List.zip_cons_cons, List.zip_cons_cons, List.map_cons, List.map_cons, zip_maps k h xs ys]
theorem boolsOf_map (bs : List Bool) : boolsOf (bs.map PyData.bool) = some bs := by
  induction bs with
  | nil => rfl
  | cons b bs ih =>
    show (boolsOf (bs.map PyData.bool)).map (b :: ·) = _
    rw [ih]
    rfl
theorem boolsOf_mapP {α : Type} (p : α → Bool) (xs : List α) : boolsOf (xs.map fun x => PyData.bool (p x)) = some (xs.map p) := by
  have := boolsOf_map (xs.map p)
  rw [List.map_map] at this
  exact this
theorem all_fz {bs : List Bool} (h : boolsOf ds = some bs) : allF [.fz (.list ds)] = some (.fz (.bool (bs.all id))) := by
  show (boolsOf ds).map _ = _
  rw [h]
  rfl
end
theorem rgD_map (lo : Int) (n : Nat) : rgD lo n = ((List.range n).map fun i => (lo + (i : Nat) : Int)).map PyData.int := by
  unfold rgD
  rw [List.map_map]
  rfl
theorem iR1_ok {fs : Rho → Rs (List Sl)} {ρ : Rho} {j : Int} (h : fs ρ = .ok [.fz (.int j)]) (hj : rgOk j = true) : iR1 fs ρ = .ok ((List.range j.toNat).map fun i => PyData.int (i : Nat)) := by
  unfold iR1
  rw [h, Rs.bind_ok]
  dsimp only
  rw [if_pos hj]
  unfold rgD
  simp
theorem iR2_ok {fs : Rho → Rs (List Sl)} {ρ : Rho} {i j : Int} (h : fs ρ = .ok [.fz (.int i), .fz (.int j)]) (hi : rgOk i = true) (hj : rgOk j = true) : iR2 fs ρ = .ok ((List.range (j - i).toNat).map fun n => PyData.int (i + (n : Nat))) := by
  unfold iR2
  rw [h, Rs.bind_ok]
  dsimp only
  rw [if_pos (by rw [hi, hj]; rfl)]
  rfl
theorem rgOk_of {i : Int} (h : -100000 ≤ i) (h' : i ≤ 100000) : rgOk i = true := by
  unfold rgOk
  rw [decide_eq_true h, decide_eq_true h']
  rfl
end BV
namespace BV
open PySem PySem.Spec PyProof.Rows L2
/-! ### lists of one's own, made within one another -/
def lcGL (t : D → Rho → Option Rho) (c : Rho → Rs Bool) (f : EV) (ρ : Rho) : List D → Rs (List D)
  | [] => .ok []
  | d :: ds => match t d ρ with
    | none => .bad
    | some ρ1 => (c ρ1).bind fun b => if b then (f ρ1).bind fun s => match s with
        | .ow e => if lfAll e = true then (lcGL t c f ρ ds).bind fun r => .ok (.list e :: r) else .bad
        | _ => .bad
      else lcGL t c f ρ ds
def eLcG (vs : List Nat) (src : Rho → Rs (List D)) (t : D → Rho → Option Rho) (c : Rho → Rs Bool) (f : EV) : EV := fun ρ => (src ρ).bind fun ds => if ds.length ≤ 50000 then (noExc (lcGL t c f (wipeR ρ vs) ds)).bind fun es => .ok (.og (.list es)) else .bad
section
variable {K : PySem.W.Frag} {mg : MG} {W : WX} {B : Bs} {σ : L2.St} {ρ : Rho} {F H F1 H1 : Hp}
theorem OgAll.grow {xs : List V} {A : List Addr} {ds : List D} (g : Grow F H F1 H1) (h : OgAll F H xs A ds) : OgAll F1 H1 xs A ds := h.move g.exF (fun a ha => by
  obtain ⟨k1, o, k2, k3⟩ := h.known a ha
  exact none_grow (H' := H1) g.news k1 k2 k3) fun a ha o ho => g.exH _ _ ho
theorem lcGL_len {t : D → Rho → Option Rho} {c : Rho → Rs Bool} {f : EV} : ∀ {ds : List D} {es : List D}, lcGL t c f ρ ds = .ok es → es.length ≤ ds.length
  | [], es, h => by cases h; exact Nat.le_refl _
  | d :: ds, es, h => by
    unfold lcGL at h
    split at h
    · cases h
    · rename_i ρ1 _
      cases ec : c ρ1 with
      | exc c => rw [ec] at h; cases h
      | bad => rw [ec] at h; cases h
      | ok b =>
        rw [ec] at h
        cases b with
        | false => exact Nat.le_succ_of_le (lcGL_len (show lcGL t c f ρ ds = .ok es from h))
        | true =>
          rw [Rs.bind_ok, if_pos rfl] at h
          cases ef : f ρ1 with
          | exc c => rw [ef] at h; cases h
          | bad => rw [ef] at h; cases h
          | ok s =>
            rw [ef, Rs.bind_ok] at h
            split at h
            · rename_i e
              split at h
              · cases el : lcGL t c f ρ ds with
                | exc c => rw [el] at h; cases h
                | bad => rw [el] at h; cases h
                | ok r =>
                  rw [el] at h
                  cases h
                  have := lcGL_len el
                  simp
                  omega
              · cases h
            · cases h
theorem lcG_read {g : TG} {is vs : List Nat} {src : Rho → Rs (List D)} {t : D → Rho → Option Rho} {c : Rho → Rs Bool} {f : EV} (hg : TgS K g is t) (hvs : ∀ i ∈ is, i ∈ vs) {Q : VK}
    (R0 : Rep K B ρ σ F H) (h : Pst K mg W B σ F H (eLcG vs src t c f ρ) Q) : tLc (tI K mg W src) g (tT K mg W0 c) (tV K mg W0 f) vs σ H Q := by
  refine ⟨B, ρ, F, R0, ?_⟩
  unfold eLcG at h
  cases e : src ρ with
  | bad => rw [e] at h; exact h
  | exc c => rw [e] at h; exact h
  | ok ds =>
    rw [e, Rs.bind_ok] at h
    intro F2 H1 J g1 jk Dl nD
    split at h
    · rename_i hz
      cases el : lcGL t c f (wipeR ρ vs) ds with
      | exc c => rw [el] at h; exact h.elim
      | bad => rw [el] at h; exact h.elim
      | ok out =>
        rw [el] at h
        have h : Pst K mg W B σ F H (.ok (.og (.list out))) Q := h
        have nF2 : F2 Dl = none := g1.sub.back nD
        have gB : Grow B.F0 B.H0 F2 H1 := R0.gr.trans g1
        have Rw : Rep K B (wipeR ρ vs) (wipe σ vs) F2 H1 := (R0.grow g1).wipe vs
        have hol := lcGL_len el
        refine ⟨fun i m H' => m = ds.length - i ∧ i ≤ ds.length ∧ ∃ F' xs A es rest, Grow F2 H1 F' H' ∧ F' Dl = none ∧ H' Dl = some (.lst xs) ∧ OgAll F' H' xs A es ∧ (Dl ∉ A ∧ ∀ a ∈ A, H1 a = none) ∧ lcGL t c f (wipeR ρ vs) (ds.drop i) = .ok rest ∧ out = es ++ rest, ⟨ds.length, by simp, Nat.zero_le _, F2, [], [], [], out, Grow.own g1.sub nD, nF2, upd_same, .nil, ⟨by simp, fun a ha => by cases ha⟩, by simpa using el, rfl⟩, ?_⟩
        rintro i m H' ⟨rfl, hi, F', xs, A, es, rest, g', nF', hD, rp, ⟨nA, newA⟩, er, eo⟩
        obtain ⟨j1, j2⟩ := jk i F' H' g'.exF (gB.trans g')
        by_cases hlt : i < ds.length
        · rw [List.drop_eq_getElem_cons hlt] at er
          obtain ⟨jg, jy⟩ := j1 ds[i] (List.getElem?_eq_getElem hlt)
          refine .inr ⟨jg, fun H'' => ∃ F' xs A es rest, Grow F2 H1 F' H'' ∧ F' Dl = none ∧ H'' Dl = some (.lst xs) ∧ OgAll F' H'' xs A es ∧ (Dl ∉ A ∧ ∀ a ∈ A, H1 a = none) ∧ lcGL t c f (wipeR ρ vs) (ds.drop (i + 1)) = .ok rest ∧ out = es ++ rest, fun H'' w => ⟨ds.length - (i + 1), by omega, rfl, by omega, w⟩, fun x H2 y => ?_⟩
          obtain ⟨F3, g3, rx⟩ := jy x H2 y
          have g13 := g'.trans g3
          have nF3 : F3 Dl = none := none_grow (H' := H2) g3.news nF' hD
          have hD3 : H2 Dl = some (.lst xs) := g3.exH _ _ hD
          unfold lcGL at er
          cases et : t ds[i] (wipeR ρ vs) with
          | none => rw [et] at er; cases er
          | some ρ1 =>
            rw [et] at er
            dsimp only at er
            refine hg B (wipeR ρ vs) (wipe σ vs) F3 H2 x ds[i] ρ1 (Rw.grow g13) rx et _ fun σ2 R2 w2 => ⟨?_, B, ρ1, F3, R2, ?_⟩
            · rw [w2 vs hvs, wipe_wipe σ vs vs fun _ z => z]
            · cases ec : c ρ1 with
              | exc c => rw [ec] at er; cases er
              | bad => rw [ec] at er; cases er
              | ok b =>
                rw [ec, Rs.bind_ok] at er
                intro F4 H4 g4
                have g14 := g13.trans g4
                have nF4 : F4 Dl = none := none_grow (H' := H4) g4.news nF3 hD3
                have hD4 : H4 Dl = some (.lst xs) := g4.exH _ _ hD3
                have rp4 := (rp.grow g3).grow g4
                cases b with
                | false =>
                  rw [if_neg Bool.false_ne_true] at er ⊢
                  exact ⟨F4, xs, A, es, rest, g14, nF4, hD4, rp4, ⟨nA, newA⟩, er, eo⟩
                | true =>
                  rw [if_pos rfl] at er ⊢
                  refine ⟨B, ρ1, F4, R2.grow g4, ?_⟩
                  cases ef : f ρ1 with
                  | exc c => rw [ef] at er; cases er
                  | bad => rw [ef] at er; cases er
                  | ok s =>
                    rw [ef, Rs.bind_ok] at er
                    intro v F5 H5 Av g5 vr fr
                    split at er
                    · rename_i e0
                      split at er
                      · rename_i hlf
                        cases el2 : lcGL t c f (wipeR ρ vs) (ds.drop (i + 1)) with
                        | exc c => rw [el2] at er; cases er
                        | bad => rw [el2] at er; cases er
                        | ok r2 =>
                          rw [el2] at er
                          cases er
                          obtain ⟨q, ys, rfl, rfl, f5, hq, rq⟩ := vr
                          have nq : H4 q = none := fr q (List.mem_cons_self ..)
                          have hne : Dl ≠ q := fun z => by rw [← z, hD4] at nq; cases nq
                          have nF5 : F5 Dl = none := none_grow (H' := H5) g5.news nF4 hD4
                          have hD5 : H5 Dl = some (.lst xs) := g5.exH _ _ hD4
                          have rp5 := rp4.grow g5
                          have mv : OgAll F5 (upd H5 Dl (.lst (xs ++ [.ref q]))) xs A es := rp5.move (Ex.refl F5) (fun a ha => (rp5.known a ha).1) fun a ha o ho => by
                            rw [upd_ne (show a ≠ Dl from fun z => nA (z ▸ ha))]
                            exact ho
                          obtain ⟨A2, k1, k2⟩ := mv.snoc (v := .ref q) (d := .list e0) (A1 := [q]) (.lst f5 (by rw [upd_ne (Ne.symm hne)]; exact hq) (by simp) (og_leaves rq hlf)) (fun a ha z => by
                            obtain ⟨_, o, ho, _⟩ := rp4.known a ha
                            simp at z
                            rw [z, nq] at ho
                            cases ho)
                          refine ⟨xs, hD5, sz_lt ?_, F5, xs ++ [.ref q], A2, es ++ [.list e0], r2, (g14.trans g5).mutNew nD nF5, nF5, upd_same, k1, ⟨fun z => ?_, fun a ha => ?_⟩, rfl, by rw [eo, List.append_assoc]; rfl⟩
                          · have l1 := rp.length
                            rw [eo, List.length_append] at hol
                            omega
                          · rcases (k2 Dl).mp z with z | z
                            · exact nA z
                            · simp at z
                              exact hne z
                          · rcases (k2 a).mp ha with z | z
                            · exact newA a z
                            · simp at z
                              subst z
                              cases hh : H1 a with
                              | none => rfl
                              | some o =>
                                have := g14.exH a o hh
                                rw [nq] at this
                                cases this
                      · cases er
                    · cases er
        · have : i = ds.length := by omega
          subst this
          rw [List.drop_length] at er
          cases er
          rw [List.append_nil] at eo
          subst eo
          refine .inl ⟨j2 (Nat.le_refl _), h (.ref Dl) F' H' (Dl :: A) (g1.trans g') ⟨rfl, .lst nF' hD nA rp⟩ fun a ha => ?_⟩
          rcases List.mem_cons.mp ha with rfl | ha
          · exact g1.exH.back nD
          · exact g1.exH.back (newA a ha)
    · exact h.elim
end
section
variable {X : Cx} {W : WX} {pos : Pos} {elt tg iter : Expr} {ifs : List Expr} {scope : Scope} {own : List (Str × Nat)} {g : TG} {is : List Nat} {src : Rho → Rs (List D)} {t : D → Rho → Option Rho} {c : Rho → Rs Bool} {f : EV}
theorem e_lcG (hc : X.calm = true) (hN : X.N.Nodup) (ok : blkC X.N X.env.scope scope own = true) (hi : EI X W tg iter src) (hvs : ∀ i ∈ is, i ∈ own.map (·.2))
    (hg : ∀ (s : Shared) (H : Hp) (C : Addr) (cl : List (Str × Addr)) (fp : List Addr), EG (X.blk s H scope (compEnvC scope cl C X.env) fp) tg g is t) (ht : ∀ (s : Shared) (H : Hp) (C : Addr) (cl : List (Str × Addr)) (fp : List Addr), PTs (X.blk s H scope (compEnvC scope cl C X.env) fp) ifs (tT X.K X.mg W0 c))
    (he : ∀ (s : Shared) (H : Hp) (C : Addr) (cl : List (Str × Addr)) (fp : List Addr), EE (X.blk s H scope (compEnvC scope cl C X.env) fp) W0 elt f) (hs : ∀ x, foldedSetIterable iter X.env x = pure x := by intro _; rfl) :
    EE X W (.ListComp elt [⟨tg, iter, ifs, 0⟩] scope pos) (eLcG (own.map (·.2)) src t c f) :=
  pe_weak (pe_lc (te := tV X.K X.mg W0 f) hc hN hi (blkOk_by ok) (fun s H C cl fp => (hg s H C cl fp).pg) ht he hs) fun σ H Q ⟨B, ρ, F, R, h⟩ => lcG_read (hg X.s_0 H 0 [] []).ts hvs R h
end
section
variable {X : Cx} {W : WX} {e x y : Expr} {es : List Expr} {f g : EV} {fs : Rho → Rs (List Sl)} {pos p : Pos}
/-- (plain value, own lists): a tuple that owns them -/
def eTupG (f g : EV) : EV := fun ρ => (f ρ).bind fun s => match s with
  | .fz d => if lf d = true then (g ρ).bind fun t => match t with
    | .og d' => .ok (.og (.tuple [d, d']))
    | _ => .bad
    else .bad
  | _ => .bad
theorem Pst.bind0 {K : PySem.W.Frag} {mg : MG} {W : WX} {B : Bs} {σ : L2.St} {F H : Hp} {r : Rs Sl} {k : Sl → Rs Sl} {Q Q' : VK} (h : Pst K mg W B σ F H (r.bind k) Q)
    (hQ : ∀ sl v F' H' A, r = .ok sl → Grow F H F' H' → VRep K B F' H' v A sl → (∀ a ∈ A, H a = none) → Pst K mg W B σ F H (k sl) Q → Q' v H') : Pst K mg W B σ F H r Q' := by
  cases r with
  | ok sl => exact fun v F' H' A g vr fr => hQ sl v F' H' A rfl g vr fr h
  | exc c => exact h
  | bad => exact h
theorem lf_not {d d' : D} (h : lf d' = false) : lf (.tuple [d, d']) = false := by
  show (lf d && (lf d' && true)) = false
  rw [h]
  simp
theorem e_tupG {x1} (ha : EE X W x f) (hb : EE X W y g) (hs : starEach [x, y] X.env = (false, eval x X.env) :: starEach [y] X.env := by rfl) (hs2 : starEach [y] X.env = (false, eval y X.env) :: starEach [] X.env := by rfl) : EE X W (.Tuple [x, y] x1 pos) (eTupG f g) :=
  pe_weak (pe_tup (pa_cons ha (pa_cons hb pa_nil hs2) hs)) fun σ H Q ⟨B, ρ, F, R, h⟩ => by
    refine ⟨B, ρ, F, R, Pst.bind h fun s v F1 H1 A _ g1 vr fr h1 => ?_⟩
    split at h1
    · rename_i d _
      split at h1
      · rename_i hl
        refine ⟨B, ρ, F1, R.grow g1, Pst.bind0 h1 fun s2 v2 F2 H2 A2 _ g2 vr2 fr2 h2 => ?_⟩
        split at h2
        · rename_i d' _
          refine ⟨by show 2 ≤ sizeLine; exact sz_of (by decide), fun p np => ?_⟩
          obtain ⟨l', r'⟩ := vr2
          have nF : F2 p = none := g2.sub.back np
          have npA : p ∉ A2 := fun z => by
            obtain ⟨_, o, ho, _⟩ := r'.known p z
            rw [np] at ho
            cases ho
          have mv : Og F2 (upd H2 p (.tup [v, v2])) v2 A2 d' := r'.move (Ex.refl F2) (fun a ha => (r'.known a ha).1) fun a ha o ho => by
            rw [upd_ne (show a ≠ p from fun z => npA (z ▸ ha))]
            exact ho
          have all := OgAll.cons (A := []) (A' := A2 ++ []) (Og.leaf (H := upd H2 p (.tup [v, v2])) hl (vr.2.mono g2.exF)) (OgAll.cons mv .nil fun a _ z => by cases z) (fun a ha => by cases ha)
          refine h2 (.ref p) F2 (upd H2 p (.tup [v, v2])) (p :: ([] ++ (A2 ++ []))) (g2.trans (Grow.own g2.sub np)) ⟨lf_not l', .tup (lf_not l') nF upd_same (by simpa using npA) all⟩ fun a ha => ?_
          rcases List.mem_cons.mp ha with rfl | ha
          · exact g2.exH.back np
          · simp at ha
            exact fr2 a ha
        · exact h2.elim
      · exact h1.elim
    · exact h1.elim
end
section
variable {X : Cx} {W : WX} {st : Stmt} {rest : List Stmt} {g g' : SV}
theorem b_consFz {i : Nat} (h : ES X W st g) (h' : ESs X W rest g') : ESs X W (st :: rest) (sSeq (sFz i) (sSeq g g')) := b_fz (b_cons h h')
theorem b_oneFz {i : Nat} (h : ES X W st g) : ESs X W [st] (sSeq (sFz i) g) := b_fz (b_one h)
end
end BV
namespace BV
open PySem PySem.Spec PyProof.Rows L2
/-! ### dicts of one's own -/
section
variable {κ μ : Type} [DecidableEq κ] [DecidableEq μ]
def dGet (kvs : List (κ × D)) (k : κ) : Option D := (kvs.find? fun kv => decide (kv.1 = k)).map (·.2)
def dPut (kvs : List (κ × D)) (k : κ) (d : D) : List (κ × D) := if (kvs.any fun kv => decide (kv.1 = k)) = true then kvs.map (fun kv => if kv.1 = k then (kv.1, d) else kv) else kvs ++ [(k, d)]
variable {F : Hp} {g : κ → μ}
theorem dr_get (inj : ∀ a b, g a = g b → a = b) (k : κ) : ∀ {ks : List (μ × V)} {kvs : List (κ × D)}, Paired (fun p q => p.1 = g q.1 ∧ Rp F p.2 q.2) ks kvs →
    (dGet kvs k = none ∧ valV ks (g k) = none) ∨ ∃ d v, dGet kvs k = some d ∧ valV ks (g k) = some v ∧ Rp F v d
  | _, _, .nil => .inl ⟨rfl, rfl⟩
  | _, _, .cons (a := p) (b := q) h t => by
    unfold dGet
    by_cases e : q.1 = k
    · refine .inr ⟨q.2, p.2, ?_, valV_pos (by rw [h.1, e]), h.2⟩
      rw [List.find?_cons_of_pos (by exact decide_eq_true e)]
      rfl
    · rw [List.find?_cons_of_neg (by rw [decide_eq_false e]; decide), valV_neg (fun z => e (inj _ _ (h.1.symm.trans z)))]
      exact dr_get inj k t
theorem dr_any (inj : ∀ a b, g a = g b → a = b) (k : κ) : ∀ {ks : List (μ × V)} {kvs : List (κ × D)}, Paired (fun p q => p.1 = g q.1 ∧ Rp F p.2 q.2) ks kvs → (ks.any fun kv => decide (kv.1 = g k)) = kvs.any fun kv => decide (kv.1 = k)
  | _, _, .nil => rfl
  | _, _, .cons (a := p) (b := q) h t => by
    rw [List.any_cons, List.any_cons, dr_any inj k t]
    congr 1
    exact decide_eq_decide.mpr ⟨fun z => inj _ _ (h.1.symm.trans z), fun z => by rw [h.1, z]⟩
theorem dr_repl (inj : ∀ a b, g a = g b → a = b) (k : κ) {v : V} {d : D} (r : Rp F v d) : ∀ {ks : List (μ × V)} {kvs : List (κ × D)}, Paired (fun p q => p.1 = g q.1 ∧ Rp F p.2 q.2) ks kvs →
    Paired (fun p q => p.1 = g q.1 ∧ Rp F p.2 q.2) (ks.map fun kv => if kv.1 = g k then (kv.1, v) else kv) (kvs.map fun kv => if kv.1 = k then (kv.1, d) else kv)
  | _, _, .nil => .nil
  | _, _, .cons (a := p) (b := q) h t => by
    rw [List.map_cons, List.map_cons]
    refine .cons ?_ (dr_repl inj k r t)
    by_cases e : q.1 = k
    · rw [if_pos e, if_pos (by rw [h.1, e])]
      exact ⟨h.1, r⟩
    · rw [if_neg e, if_neg fun z => e (inj _ _ (h.1.symm.trans z))]
      exact h
theorem dr_snoc {k : κ} {v : V} {d : D} (r : Rp F v d) : ∀ {ks : List (μ × V)} {kvs : List (κ × D)}, Paired (fun p q => p.1 = g q.1 ∧ Rp F p.2 q.2) ks kvs →
    Paired (fun p q => p.1 = g q.1 ∧ Rp F p.2 q.2) (ks ++ [(g k, v)]) (kvs ++ [(k, d)])
  | _, _, .nil => .cons ⟨rfl, r⟩ .nil
  | _, _, .cons h t => .cons h (dr_snoc r t)
theorem dr_put (inj : ∀ a b, g a = g b → a = b) (k : κ) {v : V} {d : D} (r : Rp F v d) {ks : List (μ × V)} {kvs : List (κ × D)} (h : Paired (fun p q => p.1 = g q.1 ∧ Rp F p.2 q.2) ks kvs) :
    Paired (fun p q => p.1 = g q.1 ∧ Rp F p.2 q.2) (putK ks (g k) v) (dPut kvs k d) := by
  unfold putK dPut
  rw [dr_any inj k h]
  split
  · exact dr_repl inj k r h
  · exact dr_snoc r h
theorem dr_len {ks : List (μ × V)} {kvs : List (κ × D)} (h : Paired (fun p q => p.1 = g q.1 ∧ Rp F p.2 q.2) ks kvs) : ks.length = kvs.length := Paired.length h
end
theorem inl_inj (a b : Int) (h : (Sum.inl a : Key) = Sum.inl b) : a = b := Sum.inl.inj h
theorem inls_inj : ∀ (a b : List Int), a.map (Sum.inl : Int → Key) = b.map Sum.inl → a = b
  | [], [], _ => rfl
  | [], _ :: _, h => by cases h
  | _ :: _, [], h => by cases h
  | x :: a, y :: b, h => by
    rw [List.map_cons, List.map_cons] at h
    obtain ⟨h1, h2⟩ := List.cons.inj h
    rw [Sum.inl.inj h1, inls_inj a b h2]
/-- a tuple of ints, as a key -/
def intsOf : List D → Option (List Int)
  | [] => some []
  | .int i :: r => (intsOf r).map (i :: ·)
  | _ => none
theorem intsOf_ok {F : Hp} : ∀ {vs : List V} {ds : List D} {ns : List Int}, RpAll F vs ds → intsOf ds = some ns → vs = ns.map V.int ∧ ds = ns.map PyData.int
  | _, _, _, .nil, h => by cases h; exact ⟨rfl, rfl⟩
  | _, .int b :: r, ns, .cons h t, e => by
    obtain ⟨es, e1, e2⟩ := Option.map_eq_some_iff.mp (show (intsOf r).map (b :: ·) = some ns from e)
    subst e2
    cases h
    obtain ⟨q1, q2⟩ := intsOf_ok t e1
    rw [q1, q2]
    exact ⟨rfl, rfl⟩
  | _, .none :: r, _, _, e => by cases e
  | _, .bool _ :: r, _, _, e => by cases e
  | _, .str _ :: r, _, _, e => by cases e
  | _, .list _ :: r, _, _, e => by cases e
  | _, .tuple _ :: r, _, _, e => by cases e
  | _, .dict _ :: r, _, _, e => by cases e
theorem kv_ints : ∀ ns : List Int, (ns.map (Sum.inl : Int → Key)).map kV = ns.map V.int
  | [] => rfl
  | n :: ns => by
    rw [List.map_cons, List.map_cons, List.map_cons, kv_ints ns]
    rfl
/-- the key that a value is -/
def keyI : Sl → Option Int
  | .fz (.int i) => some i
  | _ => none
def keyT : Sl → Option (List Int)
  | .fz (.tuple ds) => intsOf ds
  | _ => none
section
variable {K : PySem.W.Frag} {B : Bs} {F H : Hp} {v : V} {A : List Addr} {sl : Sl}
theorem keyI_ok {i : Int} (r : VRep K B F H v A sl) (e : keyI sl = some i) : v = .int i := by
  unfold keyI at e
  split at e <;> cases e
  exact fz_int r
theorem keyT_ok {ns : List Int} (s : Ex F H) (r : VRep K B F H v A sl) (e : keyT sl = some ns) : ∃ b, v = .ref b ∧ H b = some (.tup ((ns.map (Sum.inl : Int → Key)).map kV)) := by
  unfold keyT at e
  split at e
  · obtain ⟨_, r⟩ := r
    cases r with
    | tup h1 h2 =>
      obtain ⟨q1, _⟩ := intsOf_ok h2 e
      refine ⟨_, rfl, ?_⟩
      rw [kv_ints, ← q1]
      exact s _ _ h1
  · cases e
end
section
variable {K : PySem.W.Frag} {B : Bs} {F H : Hp} {ρ : Rho} {σ : L2.St}
theorem Rep.hasDi {i : Nat} {kvs : List (Int × D)} (R : Rep K B ρ σ F H) (e : ρ[i]? = some (.di kvs)) : ∃ p ks, σ[i]? = some (some (.ref p)) ∧ H p = some (.dK ks) ∧ KRp F ks kvs := by
  obtain ⟨fp, h1, _, _⟩ := R.fp
  rcases h1 i _ e with z | ⟨_, v, hv, p, ks, e1, _, f, h, q⟩
  · cases z
  · subst e1
    exact ⟨p, ks, hv, h, q⟩
theorem Rep.hasDt {i : Nat} {kvs : List (List Int × D)} (R : Rep K B ρ σ F H) (e : ρ[i]? = some (.dt kvs)) : ∃ p ks, σ[i]? = some (some (.ref p)) ∧ H p = some (.dT ks) ∧ TRp F ks kvs := by
  obtain ⟨fp, h1, _, _⟩ := R.fp
  rcases h1 i _ e with z | ⟨_, v, hv, p, ks, e1, _, f, h, q⟩
  · cases z
  · subst e1
    exact ⟨p, ks, hv, h, q⟩
end
section
variable {X : Cx} {W : WX} {e : Expr} {f g : EV} {pos : Pos}
def eDictI : EV := fun _ => .ok (.di [])
def eDictT : EV := fun _ => .ok (.dt [])
theorem one_new {H : Hp} {p : Addr} (np : H p = none) : ∀ a ∈ [p], H a = none := fun a ha => by
  simp at ha
  rw [ha]
  exact np
theorem e_dictI : EE X W (.Dict [] [] pos) eDictI := pe_weak pe_dnewK fun σ H Q ⟨B, ρ, F, R, h⟩ p np => h (.ref p) F (upd H p (.dK [])) [p] (Grow.own R.gr.sub np) ⟨p, [], rfl, rfl, R.gr.sub.back np, upd_same, .nil⟩ (one_new np)
theorem e_dictT : EE X W (.Dict [] [] pos) eDictT := pe_weak pe_dnewT fun σ H Q ⟨B, ρ, F, R, h⟩ p np => h (.ref p) F (upd H p (.dT [])) [p] (Grow.own R.gr.sub np) ⟨p, [], rfl, rfl, R.gr.sub.back np, upd_same, .nil⟩ (one_new np)
/-! d[k], k in d -/
def eGetI (i : Nat) (f : EV) : EV := fun ρ => match ρ[i]? with
  | some (.di kvs) => (f ρ).bind fun s => Rs.of ((keyI s).bind fun k => (dGet kvs k).map Sl.fz)
  | _ => .bad
def eGetT (i : Nat) (f : EV) : EV := fun ρ => match ρ[i]? with
  | some (.dt kvs) => (f ρ).bind fun s => Rs.of ((keyT s).bind fun k => (dGet kvs k).map Sl.fz)
  | _ => .bad
theorem of_some {K : PySem.W.Frag} {mg : MG} {W : WX} {B : Bs} {σ : L2.St} {F H : Hp} {o : Option Sl} {Q : VK} (h : Pst K mg W B σ F H (Rs.of o) Q) : ∃ s, o = some s ∧ Pst K mg W B σ F H (.ok s) Q := by
  cases o with
  | none => exact h.elim
  | some s => exact ⟨s, rfl, h⟩
theorem hu1 {k : Nat} {A : Around} (r : Room k A) : A.units + 1 < cLine := by have := r.un; omega
theorem e_getDI (i : Nat) {k : Nat} {x : Str} {y : Expr} {p2 : Pos} (hr : Room k X.A) (he : EE X W y f) (hN : X.N[i]? = some x := by rfl) (hv : Vis X.env.scope x := by first | exact Or.inl rfl | exact Or.inr (Or.inl rfl) | exact Or.inr (Or.inr rfl)) (hd : (x == ("__debug__" : Str)) = false := by decide)
    (hcd : (x == ("__classdict__" : Str)) = false := by decide) (hs : NoSl y := by exact fun _ _ => rfl) : EE X W (.Subscript (.Name x p2) y pos) (eGetI i f) := pe_weak (pe_dget (hu1 hr) (pe_var hN hv hd hcd) he hs) fun σ H Q ⟨B, ρ, F, R, h⟩ => by
  unfold eGetI at h
  split at h
  · rename_i kvs hx
    obtain ⟨p, ks, hv, hp, kr⟩ := R.hasDi hx
    refine ⟨.ref p, hv, B, ρ, F, R, Pst.bind h fun s v F1 H1 A _ g1 vr fr h1 => ?_⟩
    obtain ⟨s2, es, h1⟩ := of_some h1
    obtain ⟨z, ez, e2⟩ := Option.bind_eq_some_iff.mp es
    obtain ⟨d, ed, rfl⟩ := Option.map_eq_some_iff.mp e2
    cases keyI_ok vr ez
    rcases dr_get inl_inj z (kr.mono g1.exF) with ⟨z1, _⟩ | ⟨d', v', q1, q2, q3⟩
    · rw [z1] at ed; cases ed
    · rw [ed] at q1
      cases q1
      have dg := DGet.k (k := Sum.inl z) (g1.exH _ _ hp)
      rw [q2] at dg
      exact ⟨p, v', rfl, dg, h1.here (A := []) g1.sub ⟨rfl, q3⟩ (fun _ z => nomatch z)⟩
  · exact h.elim
theorem e_getDT (i : Nat) {k : Nat} {x : Str} {y : Expr} {p2 : Pos} (hr : Room k X.A) (he : EE X W y f) (hN : X.N[i]? = some x := by rfl) (hv : Vis X.env.scope x := by first | exact Or.inl rfl | exact Or.inr (Or.inl rfl) | exact Or.inr (Or.inr rfl)) (hd : (x == ("__debug__" : Str)) = false := by decide)
    (hcd : (x == ("__classdict__" : Str)) = false := by decide) (hs : NoSl y := by exact fun _ _ => rfl) : EE X W (.Subscript (.Name x p2) y pos) (eGetT i f) := pe_weak (pe_dget (hu1 hr) (pe_var hN hv hd hcd) he hs) fun σ H Q ⟨B, ρ, F, R, h⟩ => by
  unfold eGetT at h
  split at h
  · rename_i kvs hx
    obtain ⟨p, ks, hv, hp, kr⟩ := R.hasDt hx
    refine ⟨.ref p, hv, B, ρ, F, R, Pst.bind h fun s v F1 H1 A _ g1 vr fr h1 => ?_⟩
    obtain ⟨s2, es, h1⟩ := of_some h1
    obtain ⟨z, ez, e2⟩ := Option.bind_eq_some_iff.mp es
    obtain ⟨d, ed, rfl⟩ := Option.map_eq_some_iff.mp e2
    obtain ⟨b, rfl, hb⟩ := keyT_ok g1.sub vr ez
    rcases dr_get inls_inj z (kr.mono g1.exF) with ⟨z1, _⟩ | ⟨d', v', q1, q2, q3⟩
    · rw [z1] at ed; cases ed
    · rw [ed] at q1
      cases q1
      have dg := DGet.t (g1.exH _ _ hp) hb
      rw [q2] at dg
      exact ⟨p, v', rfl, dg, h1.here (A := []) g1.sub ⟨rfl, q3⟩ (fun _ z => nomatch z)⟩
  · exact h.elim
def eInI (neg : Bool) (i : Nat) (f : EV) : EV := fun ρ => (f ρ).bind fun s => match ρ[i]? with
  | some (.di kvs) => Rs.of ((keyI s).map fun k => .fz (.bool (neg ^^ (dGet kvs k).isSome)))
  | _ => .bad
def eInT (neg : Bool) (i : Nat) (f : EV) : EV := fun ρ => (f ρ).bind fun s => match ρ[i]? with
  | some (.dt kvs) => Rs.of ((keyT s).map fun k => .fz (.bool (neg ^^ (dGet kvs k).isSome)))
  | _ => .bad
/-- what the dict in the slot says of the key -/
theorem ask_I {K : PySem.W.Frag} {mg : MG} {B : Bs} {ρ : Rho} {σ : L2.St} {F H : Hp} {i : Nat} {neg : Bool} {s : Sl} {v : V} {A : List Addr} {Q : VK} (R : Rep K B ρ σ F H) (vr : VRep K B F H v A s)
    (h : Pst K mg W B σ F H (match ρ[i]? with
      | some (.di kvs) => Rs.of ((keyI s).map fun k => .fz (.bool (neg ^^ (dGet kvs k).isSome)))
      | _ => .bad) Q) : ∃ p o, σ[i]? = some (some (.ref p)) ∧ DGet H p v o ∧ Q (.bl (neg ^^ o.isSome)) H := by
  split at h
  · rename_i kvs hx
    obtain ⟨p, ks, hv, hp, kr⟩ := R.hasDi hx
    obtain ⟨s2, es, h1⟩ := of_some h
    obtain ⟨z, ez, rfl⟩ := Option.map_eq_some_iff.mp es
    cases keyI_ok vr ez
    refine ⟨p, _, hv, DGet.k (k := Sum.inl z) hp, ?_⟩
    rcases dr_get inl_inj z kr with ⟨q1, q2⟩ | ⟨d', v', q1, q2, q3⟩
    · rw [q1] at h1; rw [q2]; exact h1.here (A := []) R.gr.sub ⟨rfl, .bl _⟩ (fun _ z => nomatch z)
    · rw [q1] at h1; rw [q2]; exact h1.here (A := []) R.gr.sub ⟨rfl, .bl _⟩ (fun _ z => nomatch z)
  · exact h.elim
theorem ask_T {K : PySem.W.Frag} {mg : MG} {B : Bs} {ρ : Rho} {σ : L2.St} {F H : Hp} {i : Nat} {neg : Bool} {s : Sl} {v : V} {A : List Addr} {Q : VK} (R : Rep K B ρ σ F H) (vr : VRep K B F H v A s)
    (h : Pst K mg W B σ F H (match ρ[i]? with
      | some (.dt kvs) => Rs.of ((keyT s).map fun k => .fz (.bool (neg ^^ (dGet kvs k).isSome)))
      | _ => .bad) Q) : ∃ p o, σ[i]? = some (some (.ref p)) ∧ DGet H p v o ∧ Q (.bl (neg ^^ o.isSome)) H := by
  split at h
  · rename_i kvs hx
    obtain ⟨p, ks, hv, hp, kr⟩ := R.hasDt hx
    obtain ⟨s2, es, h1⟩ := of_some h
    obtain ⟨z, ez, rfl⟩ := Option.map_eq_some_iff.mp es
    obtain ⟨b, rfl, hb⟩ := keyT_ok R.gr.sub vr ez
    refine ⟨p, _, hv, DGet.t hp hb, ?_⟩
    rcases dr_get inls_inj z kr with ⟨q1, q2⟩ | ⟨d', v', q1, q2, q3⟩
    · rw [q1] at h1; rw [q2]; exact h1.here (A := []) R.gr.sub ⟨rfl, .bl _⟩ (fun _ z => nomatch z)
    · rw [q1] at h1; rw [q2]; exact h1.here (A := []) R.gr.sub ⟨rfl, .bl _⟩ (fun _ z => nomatch z)
  · exact h.elim
section
variable {i k : Nat} {x : Str} {y : Expr} {p2 : Pos}
theorem e_inDI (hr : Room k X.A) (he : EE X W y f) (hN : X.N[i]? = some x := by rfl) (hv : Vis X.env.scope x := by first | exact Or.inl rfl | exact Or.inr (Or.inl rfl) | exact Or.inr (Or.inr rfl)) (hd : (x == ("__debug__" : Str)) = false := by decide)
    (hcd : (x == ("__classdict__" : Str)) = false := by decide) : EE X W (.Compare y [.In] [.Name x p2] pos) (eInI false i f) := pe_weak (pe_cmp (pc_din (hu1 hr) he (pe_var hN hv hd hcd)) rfl) fun σ H Q ⟨B, ρ, F, R, h⟩ => by
  refine ⟨B, ρ, F, R, Pst.bind h fun s v F1 H1 A _ g1 vr fr h1 => ?_⟩
  obtain ⟨p, o, hv, dg, q⟩ := ask_I (R.grow g1) vr h1
  exact ⟨.ref p, hv, p, o, rfl, dg, by rw [Bool.false_xor] at q; exact q⟩
theorem e_niDI (hr : Room k X.A) (he : EE X W y f) (hN : X.N[i]? = some x := by rfl) (hv : Vis X.env.scope x := by first | exact Or.inl rfl | exact Or.inr (Or.inl rfl) | exact Or.inr (Or.inr rfl)) (hd : (x == ("__debug__" : Str)) = false := by decide)
    (hcd : (x == ("__classdict__" : Str)) = false := by decide) : EE X W (.Compare y [.NotIn] [.Name x p2] pos) (eInI true i f) := pe_weak (pe_cmp (pc_dnotin (hu1 hr) he (pe_var hN hv hd hcd)) rfl) fun σ H Q ⟨B, ρ, F, R, h⟩ => by
  refine ⟨B, ρ, F, R, Pst.bind h fun s v F1 H1 A _ g1 vr fr h1 => ?_⟩
  obtain ⟨p, o, hv, dg, q⟩ := ask_I (R.grow g1) vr h1
  exact ⟨.ref p, hv, p, o, rfl, dg, by rw [Bool.true_xor] at q; exact q⟩
theorem e_inDT (hr : Room k X.A) (he : EE X W y f) (hN : X.N[i]? = some x := by rfl) (hv : Vis X.env.scope x := by first | exact Or.inl rfl | exact Or.inr (Or.inl rfl) | exact Or.inr (Or.inr rfl)) (hd : (x == ("__debug__" : Str)) = false := by decide)
    (hcd : (x == ("__classdict__" : Str)) = false := by decide) : EE X W (.Compare y [.In] [.Name x p2] pos) (eInT false i f) := pe_weak (pe_cmp (pc_din (hu1 hr) he (pe_var hN hv hd hcd)) rfl) fun σ H Q ⟨B, ρ, F, R, h⟩ => by
  refine ⟨B, ρ, F, R, Pst.bind h fun s v F1 H1 A _ g1 vr fr h1 => ?_⟩
  obtain ⟨p, o, hv, dg, q⟩ := ask_T (R.grow g1) vr h1
  exact ⟨.ref p, hv, p, o, rfl, dg, by rw [Bool.false_xor] at q; exact q⟩
theorem e_niDT (hr : Room k X.A) (he : EE X W y f) (hN : X.N[i]? = some x := by rfl) (hv : Vis X.env.scope x := by first | exact Or.inl rfl | exact Or.inr (Or.inl rfl) | exact Or.inr (Or.inr rfl)) (hd : (x == ("__debug__" : Str)) = false := by decide)
    (hcd : (x == ("__classdict__" : Str)) = false := by decide) : EE X W (.Compare y [.NotIn] [.Name x p2] pos) (eInT true i f) := pe_weak (pe_cmp (pc_dnotin (hu1 hr) he (pe_var hN hv hd hcd)) rfl) fun σ H Q ⟨B, ρ, F, R, h⟩ => by
  refine ⟨B, ρ, F, R, Pst.bind h fun s v F1 H1 A _ g1 vr fr h1 => ?_⟩
  obtain ⟨p, o, hv, dg, q⟩ := ask_T (R.grow g1) vr h1
  exact ⟨.ref p, hv, p, o, rfl, dg, by rw [Bool.true_xor] at q; exact q⟩
end
end
/-! ### d[k] = v -/
def sPutI (i : Nat) (k v : EV) : SV := fun ρ => match ρ[i]? with
  | some (.di kvs) => (v ρ).out ρ fun s => (argS s).out ρ fun t => (k ρ).out ρ fun u => match t, keyI u with
    | .fz d, some z => if kvs.length < 100000 then .nx (ρ.set i (.di (dPut kvs z d))) else .bad
    | _, _ => .bad
  | _ => .bad
def sPutT (i : Nat) (k v : EV) : SV := fun ρ => match ρ[i]? with
  | some (.dt kvs) => (v ρ).out ρ fun s => (argS s).out ρ fun t => (k ρ).out ρ fun u => match t, keyT u with
    | .fz d, some z => if kvs.length < 100000 then .nx (ρ.set i (.dt (dPut kvs z d))) else .bad
    | _, _ => .bad
  | _ => .bad
section
variable {X : Cx} {W : WX} {e : Expr} {f g : EV} {pos : Pos} {i k : Nat} {x : Str} {y : Expr} {p2 p3 : Pos}
theorem s_putI (hr : Room k X.A) (hk : EE X W y f) (he : EE X W e g) (hN : X.N[i]? = some x := by rfl) (hv : Vis X.env.scope x := by first | exact Or.inl rfl | exact Or.inr (Or.inl rfl) | exact Or.inr (Or.inr rfl)) (hd : (x == ("__debug__" : Str)) = false := by decide)
    (hcd : (x == ("__classdict__" : Str)) = false := by decide) (hs : swapsWith e (some (.Subscript (.Name x p2) y p3)) pos.line X.env = pure false := by rfl) :
    ES X W (.Assign [.Subscript (.Name x p2) y p3] e pos) (sPutI i f g) := ps_weak (ps_dput (hu1 hr) (pe_var hN hv hd hcd) hk he hs) fun D σ H ⟨B, ρ, F, R, h⟩ => by
  unfold sPutI at h
  split at h
  · rename_i kvs hx
    refine ⟨B, ρ, F, R, PstS.expr R h fun s v F1 H1 A _ g1 vr fr h1 => ?_⟩
    cases e1 : argS s with
    | exc c => exact (argS_exc e1).elim
    | bad => rw [e1] at h1; exact h1.elim
    | ok t =>
      rw [e1] at h1
      obtain ⟨rfl, kd, kt⟩ := argS_ok e1
      obtain ⟨F2, g2, vr2⟩ := settle_ok g1 vr fr kd kt
      have R2 := R.grow g2
      obtain ⟨p, ks, hv2, hp, kr⟩ := R2.hasDi hx
      rw [Rs.out_ok] at h1
      refine ⟨.ref p, hv2, B, ρ, F2, R2, PstS.expr R2 h1 fun s3 v3 F3 H3 A3 _ g3 vr3 fr3 h3 => ?_⟩
      split at h3
      · rename_i d z ed ez
        split at h3
        · rename_i hz
          rw [ed] at vr2
          cases keyI_ok vr3 ez
          have R3 := R2.grow g3
          have hp3 := g3.exH _ _ hp
          have kr3 := kr.mono g3.exF
          have nr := dr_put inl_inj z (vr2.2.mono g3.exF) kr3
          refine ⟨p, _, rfl, DPut.k (k := Sum.inl z) hp3 (by rw [dr_len kr3]; exact sz_lt hz), h3 σ F3 _ (R3.change hx (fun A h => ?_) hv2 rfl (fun H' h f => ⟨p, _, rfl, rfl, f, h, nr⟩) rfl)⟩
          obtain ⟨q, _, e1, e2, _⟩ := h
          cases e1
          rw [e2]
          exact List.mem_cons_self ..
        · exact h3.elim
      · exact h3.elim
  · exact h.elim
theorem s_putT (hr : Room k X.A) (hk : EE X W y f) (he : EE X W e g) (hN : X.N[i]? = some x := by rfl) (hv : Vis X.env.scope x := by first | exact Or.inl rfl | exact Or.inr (Or.inl rfl) | exact Or.inr (Or.inr rfl)) (hd : (x == ("__debug__" : Str)) = false := by decide)
    (hcd : (x == ("__classdict__" : Str)) = false := by decide) (hs : swapsWith e (some (.Subscript (.Name x p2) y p3)) pos.line X.env = pure false := by rfl) :
    ES X W (.Assign [.Subscript (.Name x p2) y p3] e pos) (sPutT i f g) := ps_weak (ps_dput (hu1 hr) (pe_var hN hv hd hcd) hk he hs) fun D σ H ⟨B, ρ, F, R, h⟩ => by
  unfold sPutT at h
  split at h
  · rename_i kvs hx
    refine ⟨B, ρ, F, R, PstS.expr R h fun s v F1 H1 A _ g1 vr fr h1 => ?_⟩
    cases e1 : argS s with
    | exc c => exact (argS_exc e1).elim
    | bad => rw [e1] at h1; exact h1.elim
    | ok t =>
      rw [e1] at h1
      obtain ⟨rfl, kd, kt⟩ := argS_ok e1
      obtain ⟨F2, g2, vr2⟩ := settle_ok g1 vr fr kd kt
      have R2 := R.grow g2
      obtain ⟨p, ks, hv2, hp, kr⟩ := R2.hasDt hx
      rw [Rs.out_ok] at h1
      refine ⟨.ref p, hv2, B, ρ, F2, R2, PstS.expr R2 h1 fun s3 v3 F3 H3 A3 _ g3 vr3 fr3 h3 => ?_⟩
      split at h3
      · rename_i d z ed ez
        split at h3
        · rename_i hz
          rw [ed] at vr2
          obtain ⟨b, rfl, hb⟩ := keyT_ok g3.sub vr3 ez
          have R3 := R2.grow g3
          have hp3 := g3.exH _ _ hp
          have kr3 := kr.mono g3.exF
          have nr := dr_put inls_inj z (vr2.2.mono g3.exF) kr3
          refine ⟨p, _, rfl, DPut.t hp3 hb (by rw [dr_len kr3]; exact sz_lt hz), h3 σ F3 _ (R3.change hx (fun A h => ?_) hv2 rfl (fun H' h f => ⟨p, _, rfl, rfl, f, h, nr⟩) rfl)⟩
          obtain ⟨q, _, e1, e2, _⟩ := h
          cases e1
          rw [e2]
          exact List.mem_cons_self ..
        · exact h3.elim
      · exact h3.elim
  · exact h.elim
end
/-! ### list(d) -/
/-- ints' tuples that the heap has become known -/
theorem learn {F H : Hp} {kvs : List (List Key × V)} {ns : List (List Int)} {bs : List Addr} (s : Ex F H) (hk : kvs.map (·.1) = ns.map (List.map Sum.inl)) (h : IsKeys H kvs bs) :
    ∃ F', Grow F H F' H ∧ RpAll F' (bs.map V.ref) (ns.map fun k => PyData.tuple (k.map PyData.int)) := by
  induction h generalizing ns F with
  | nil =>
    cases ns with
    | nil => exact ⟨F, Grow.refl s, .nil⟩
    | cons _ _ => cases hk
  | @cons p b kvs bs hb t ih =>
    cases ns with
    | nil => cases hk
    | cons n ns =>
      rw [List.map_cons, List.map_cons] at hk
      obtain ⟨h1, h2⟩ := List.cons.inj hk
      have eb : H b = some (.tup (n.map V.int)) := by rw [hb, h1, kv_ints]
      have e1 : Ex F (fun a => if a = b then some (.tup (n.map V.int)) else F a) := fun a o ea => by
        by_cases ab : a = b
        · subst ab
          have := s a o ea
          rw [eb] at this
          simp only [if_pos]
          exact this
        · simp only [if_neg ab]
          exact ea
      have g1 : Grow F H (fun a => if a = b then some (.tup (n.map V.int)) else F a) H := ⟨e1, Ex.refl H, fun a o ea => by
        by_cases ab : a = b
        · subst ab
          simp only [if_pos] at ea
          rw [eb]
          exact ea
        · simp only [if_neg ab] at ea
          exact s a o ea, fun a o ea => by
        by_cases ab : a = b
        · subst ab
          simp only [if_pos] at ea
          cases ea
          exact .inr (.inr ⟨⟨n, rfl⟩, eb⟩)
        · simp only [if_neg ab] at ea
          exact .inl ea⟩
      obtain ⟨F', g2, r⟩ := ih g1.sub h2
      refine ⟨F', g1.trans g2, ?_⟩
      rw [List.map_cons, List.map_cons]
      exact .cons (.tup (g2.exF b _ (by simp only [if_pos])) (RpAll.ints n)) r
def eListT (i : Nat) : EV := fun ρ => match ρ[i]? with
  | some (.dt kvs) => .ok (.ow (kvs.map fun kv => .tuple (kv.1.map PyData.int)))
  | _ => .bad
theorem tr_keys {F : Hp} : ∀ {ks : List (List Key × V)} {kvs : List (List Int × D)}, TRp F ks kvs → ks.map (·.1) = (kvs.map (·.1)).map (List.map Sum.inl)
  | _, _, .nil => rfl
  | _, _, .cons h t => by
    rw [List.map_cons, List.map_cons, List.map_cons, tr_keys t, h.1]
theorem kr_keys {F : Hp} : ∀ {ks : List (Key × V)} {kvs : List (Int × D)}, KRp F ks kvs → ks.map (·.1) = (kvs.map (·.1)).map Sum.inl
  | _, _, .nil => rfl
  | _, _, .cons h t => by
    rw [List.map_cons, List.map_cons, List.map_cons, kr_keys t, h.1]
section
variable {X : Cx} {W : WX} {pos p2 : Pos} {i k : Nat} {x : Str} {p : Pos}
theorem e_listT (hr : Room k X.A) (hm : X.mg "list" = none) (hc : X.calm = true := by rfl) (hN : X.N[i]? = some x := by rfl) (hv : Vis X.env.scope x := by first | exact Or.inl rfl | exact Or.inr (Or.inl rfl) | exact Or.inr (Or.inr rfl)) (hd : (x == ("__debug__" : Str)) = false := by decide)
    (hcd : (x == ("__classdict__" : Str)) = false := by decide) (hg : Gl X "list" := by rfl) (he : starEach [.Name x p2] X.env = (false, eval (.Name x p2) X.env) :: starEach [] X.env := by rfl) :
    EE X W (.Call (.Name "list" p) [.Name x p2] [] pos) (eListT i) :=
  pe_weak (pe_callTy (call_list_dT hc) hg hm (by decide +kernel) (pa_cons (pe_var hN hv hd hcd) pa_nil he) (by decide) (by decide) he rfl) fun σ H Q ⟨B, ρ, F, R, h⟩ => by
    unfold eListT at h
    split at h
    · rename_i kvs hx
      obtain ⟨q, ks, hv2, hp, kr⟩ := R.hasDt hx
      refine ⟨.ref q, hv2, q, ks, rfl, .inl hp, fun l bs nl hb => ?_⟩
      obtain ⟨F', g', r⟩ := learn R.gr.sub (tr_keys kr) hb
      rw [List.map_map] at r
      exact h (.ref l) F' (upd H l (.lst (bs.map V.ref))) [l] (g'.trans (Grow.own g'.sub nl)) ⟨l, _, rfl, rfl, g'.sub.back nl, upd_same, r⟩ (one_new nl)
    · exact h.elim
end
end BV
namespace BV
open PySem PySem.Spec PyProof.Rows L2
/-! ### sorted(d), d a dict by ints, of any size -/
def insI (x : Int) : List Int → List Int
  | [] => [x]
  | y :: ys => if x ≤ y then x :: y :: ys else y :: insI x ys
def sortI : List Int → List Int
  | [] => []
  | x :: xs => insI x (sortI xs)
theorem insI_perm (x : Int) : ∀ ys : List Int, (insI x ys).Perm (x :: ys)
  | [] => .refl _
  | y :: ys => by
    unfold insI
    split
    · exact .refl _
    · exact (List.Perm.cons y (insI_perm x ys)).trans (List.Perm.swap x y ys)
theorem sortI_perm : ∀ xs : List Int, (sortI xs).Perm xs
  | [] => .refl _
  | x :: xs => (insI_perm x (sortI xs)).trans (List.Perm.cons x (sortI_perm xs))
theorem insI_le (x : Int) : ∀ ys : List Int, ys.Pairwise (· ≤ ·) → (insI x ys).Pairwise (· ≤ ·)
  | [], _ => List.pairwise_singleton _ _
  | y :: ys, h => by
    unfold insI
    rw [List.pairwise_cons] at h
    split
    · rename_i hxy
      refine List.pairwise_cons.mpr ⟨fun z hz => ?_, List.pairwise_cons.mpr h⟩
      rcases List.mem_cons.mp hz with rfl | hz
      · exact hxy
      · exact Int.le_trans hxy (h.1 z hz)
    · rename_i hxy
      refine List.pairwise_cons.mpr ⟨fun z hz => ?_, insI_le x ys h.2⟩
      rcases List.mem_cons.mp ((insI_perm x ys).mem_iff.mp hz) with rfl | hz
      · omega
      · exact h.1 z hz
theorem sortI_le : ∀ xs : List Int, (sortI xs).Pairwise (· ≤ ·)
  | [] => .nil
  | x :: xs => insI_le x _ (sortI_le xs)
theorem sorted_one : ∀ {a b : List Int}, a.Perm b → a.Pairwise (· ≤ ·) → b.Pairwise (· ≤ ·) → a = b
  | [], b, h, _, _ => (List.Perm.nil_eq h)
  | x :: a, [], h, _, _ => by
    have := h.length_eq
    simp at this
  | x :: a, y :: b, h, ha, hb => by
    rw [List.pairwise_cons] at ha hb
    have e : x = y := by
      have hx := h.mem_iff.mp (List.mem_cons_self (a := x) (l := a))
      have hy := h.mem_iff.mpr (List.mem_cons_self (a := y) (l := b))
      rcases List.mem_cons.mp hx with e | hx
      · exact e
      · rcases List.mem_cons.mp hy with e | hy
        · exact e.symm
        · exact Int.le_antisymm (ha.1 y hy) (hb.1 x hx)
    subst e
    rw [sorted_one (List.Perm.cons_inv h) ha.2 hb.2]
section
variable {X : Cx}
theorem calls_sortDI (calm : X.calm = true) : CallR X (.builtin "sorted") (fun vs H Q => ∃ (d : Addr) (kvs : List (Key × V)) (ks : List Int), vs = [.ref d] ∧ Rd H d (.dK kvs) ∧ kvs.map (·.1) = ks.map Sum.inl ∧ ∀ p : Addr, H p = none → Q (.ref p) (upd H p (.lst ((sortI ks).map V.int)))) := by
  intro pins s σ H vs us Q I rel0 ⟨d, kvs, ks, ev, rd, keys, fin⟩
  cases ev
  obtain ⟨u, rfl, ru⟩ := vals1 rel0
  cases ru
  obtain ⟨size, low, ws, rel, dict⟩ := dk_rd I.hok rd
  obtain ⟨epoch, at0⟩ := dict.dictAt
  have keysW : ws.map (·.1) = ks.map Sum.inl := rel.keys.symm.trans keys
  have lenW : ws.length = ks.length := by have := congrArg List.length keysW; simpa using this
  have lenS : ws.length ≤ sizeLine := by rw [← rel.length]; exact size
  refine Calls.call_function_entry PyProof.Rows.kind_sorted PyProof.Rows.plain_sorted PyProof.Rows.entry_sorted (PyProof.Rows.args_sorted1 _) (?_ : wpAny _ _ (Builtin.«sorted» _) _ _ _)
  unfold Builtin.«sorted»
  refine wpAny_bind (m := checkCount "sorted" 1 1 _) (wpAny_pure (wpAny_bind (PySem.W.kdu_collect (A := X.A.in1) (PySem.W.kdl_dict (knd := mixKind X.prog X.w) (kvs := ws) (ep := epoch) low) (I.ok.hd calm) at0 lenS fun h1 tk acc keep items => ?_)))
  have lenA : acc.toList.length = ks.length := by rw [Array.length_toList, items.1, lenW]
  have intsA : IntsAre acc.toList ks := ints_each lenA fun j v ej => by
    obtain ⟨key, y, q1, q2⟩ := items.2 j v (by rw [← Array.getElem?_toList]; exact ej)
    have q3 : (ks.map (Sum.inl : Int → Key))[j]? = some key := by rw [← keysW, List.getElem?_map, q1]; rfl
    rw [List.getElem?_map] at q3
    obtain ⟨n, q4, q5⟩ := Option.map_eq_some_iff.mp q3
    subst q5
    rcases keyIs_shape (show keyIs (Sum.inl n) v = true from q2) with ⟨i, t, ek, evv⟩ | ⟨z, t, ek, _⟩
    · cases ek; exact ⟨n, t, q4, evv⟩
    · cases ek
  have I1 : Inv X pins σ H { s with heap := h1, toks := tk } := I.kept keep
  have lenZ : acc.toList.length ≤ sizeLine := by rw [lenA, ← lenW]; exact lenS
  refine wpAny_bind (wpAny_newList (?_ : wpAny _ _ _ _ _ { s with heap := h1.push (seqObj "list" acc.toList.toArray 0), toks := tk }) lenZ)
  have obj : (h1.push (seqObj "list" acc.toList.toArray 0)).get? h1.objs.size = some (seqObj "list" acc.toList.toArray 0) := Heap.get?_push_size _ rfl
  refine wpAny_bind (wpAny_holding (wpAny_call_entry PyProof.Rows.slot_list_sort ⟨_, obj, rfl⟩ PyProof.Rows.entry_list_sort (SrtO.list_sort_ord (s := { s with heap := h1.push (seqObj "list" acc.toList.toArray 0), toks := tk }) SrtO.swo_int obj lenZ (fun two => SrtO.ints_sortable intsA two) fun out o1 o2 => ⟨_, rfl, ?_⟩) (PyProof.Rows.args_list_sort _)))
  obtain ⟨k1, k2, k3⟩ := SrtO.ints_out intsA o1 o2
  have es : out.map SrtO.iv = sortI ks := sorted_one (k2.trans (sortI_perm ks).symm) k3 (sortI_le ks)
  obtain ⟨e', he'⟩ := PyProof.Rows.sortedHeap_at (vs := acc.toList) (out := out.toArray) obj
  have lenO : ((sortI ks).map V.int).length ≤ sizeLine := by rw [List.length_map, (sortI_perm ks).length_eq, ← lenW]; exact lenS
  refine wpAny_pure ⟨_, rfl, .ref h1.objs.size, upd H h1.objs.size (.lst ((sortI ks).map V.int)), I1.laid (t' := tk) (fun b u eb => ?_) (Nat.le_refl _) (show ObjOk X.prog X.w _ _ _ (.lst ((sortI ks).map V.int)) from ⟨lenO, out, e', vals_of_ints (by rw [← es]; exact k1), he'⟩), rfl, fin _ (I1.hok.fresh (Nat.le_refl _))⟩
  have below : b < h1.objs.size := Heap.lt_size eb
  exact (PyProof.Rows.sortedHeap_old (Nat.ne_of_lt below) (by rw [size_push']; exact Nat.lt_succ_of_lt below)).trans (Heap.get?_push_of_some _ eb)
end
def eSortI (i : Nat) : EV := fun ρ => match ρ[i]? with
  | some (.di kvs) => .ok (.ow ((sortI (kvs.map (·.1))).map PyData.int))
  | _ => .bad
section
variable {X : Cx} {W : WX} {pos p2 : Pos} {i k : Nat} {x : Str} {p : Pos}
theorem e_sortI (hr : Room k X.A) (hm : X.mg "sorted" = none) (hc : X.calm = true := by rfl) (hN : X.N[i]? = some x := by rfl) (hv : Vis X.env.scope x := by first | exact Or.inl rfl | exact Or.inr (Or.inl rfl) | exact Or.inr (Or.inr rfl)) (hd : (x == ("__debug__" : Str)) = false := by decide)
    (hcd : (x == ("__classdict__" : Str)) = false := by decide) (hg : Gl X "sorted" := by rfl) (he : starEach [.Name x p2] X.env = (false, eval (.Name x p2) X.env) :: starEach [] X.env := by rfl) :
    EE X W (.Call (.Name "sorted" p) [.Name x p2] [] pos) (eSortI i) :=
  pe_weak (pe_callB (calls_sortDI hc) hg hm (by decide +kernel) (pa_cons (pe_var hN hv hd hcd) pa_nil he) (by decide) (by decide) he rfl) fun σ H Q ⟨B, ρ, F, R, h⟩ => by
    unfold eSortI at h
    split at h
    · rename_i kvs hx
      obtain ⟨q, ks, hv2, hp, kr⟩ := R.hasDi hx
      refine ⟨.ref q, hv2, q, ks, kvs.map (·.1), rfl, .inl hp, kr_keys kr, fun l nl => ?_⟩
      exact new_ow R.gr.sub h (RpAll.ints _) l nl
    · exact h.elim
end
/-! ### slices -/
def cutD (ds : List D) (lo hi : Option Int) : List D := (ds.drop (HT.sIx ds.length 0 lo)).take (HT.sIx ds.length ds.length hi - HT.sIx ds.length 0 lo)
theorem RpAll.cut {F : Hp} {xs : List V} {ds : List D} (r : RpAll F xs ds) (lo hi : Option Int) : RpAll F (cutV xs lo hi) (cutD ds lo hi) := by
  unfold cutV cutD
  rw [r.length]
  exact (r.drop _).take _
abbrev OV := Rho → Rs (Option Int)
def oNo : OV := fun _ => .ok none
def oSome (f : EV) : OV := fun ρ => (f ρ).bind fun s => match s with
  | .fz (.int i) => .ok (some i)
  | _ => .bad
def PstO (K : PySem.W.Frag) (mg : MG) (W : WX) (σ : L2.St) (F H : Hp) (r : Rs (Option Int)) (Q : Option Int → Hp → Prop) : Prop := match r with
  | .ok b => ∀ F' H', Grow F H F' H' → Q b H'
  | .exc c => ∀ F' H', Grow F H F' H' → ∀ cls, mg c = some cls → W cls none σ H'
  | .bad => False
def tO (K : PySem.W.Frag) (mg : MG) (W : WX) (f : OV) : TO := fun σ H Q => ∃ B ρ F, Rep K B ρ σ F H ∧ PstO K mg W σ F H (f ρ) Q
abbrev EO (X : Cx) (W : WX) (e : Option Expr) (f : OV) : Prop := PO X e (tO X.K X.mg W f)
abbrev Op3 := Sl → Option Int → Option Int → Option Sl
def eSl (op : Op3) (f : EV) (l u : OV) : EV := fun ρ => (f ρ).bind fun s => (l ρ).bind fun lo => (u ρ).bind fun hi => Rs.of (op s lo hi)
def slLOp : Op3 := fun s lo hi => s.lst.map fun ds => .ow (cutD ds lo hi)
def slTOp : Op3 := fun s lo hi => s.tup.map fun ds => .fz (.tuple (cutD ds lo hi))
def SlS (K : PySem.W.Frag) (r : V → Option Int → Option Int → Hp → VK → Prop) (op : Op3) : Prop := ∀ (B : Bs) (F H : Hp) (x : V) (A : List Addr) (sx sl : Sl) (lo hi : Option Int) (Q : VK), Grow B.F0 B.H0 F H → VRep K B F H x A sx → op sx lo hi = some sl →
  (∀ v F' H' A, Grow F H F' H' → VRep K B F' H' v A sl → (∀ a ∈ A, H a = none) → Q v H') → r x lo hi H Q
theorem sls_L {K : PySem.W.Frag} : SlS K (rSlL K) slLOp := by
  intro B F H x A sx sl lo hi Q gr r e q
  obtain ⟨ds, e1, rfl⟩ := Option.map_eq_some_iff.mp e
  obtain ⟨p, xs, rfl, hp, rp⟩ := r.list gr e1
  exact ⟨p, xs, rfl, .inl (.inl hp), fun l nl => new_ow gr.sub q (rp.cut lo hi) l nl⟩
theorem sls_T {K : PySem.W.Frag} : SlS K (rSlA K) slTOp := by
  intro B F H x A sx sl lo hi Q gr r e q
  obtain ⟨ds, e1, rfl⟩ := Option.map_eq_some_iff.mp e
  obtain ⟨p, xs, rfl, fp, hp, rp⟩ := r.tuple gr e1
  have rc := rp.cut lo hi
  refine ⟨p, xs, rfl, .inl (.inl hp), fun hw => ?_, fun _ l nl => new_tup gr.sub q rc l nl⟩
  have : cutV xs lo hi = xs := by
    unfold cutV
    rw [hw.1, hw.2, List.drop_zero, Nat.sub_zero, List.take_length]
  rw [this] at rc
  exact VRep.atom gr.sub q (.tup fp rc)
section
variable {X : Cx} {W : WX} {e : Expr} {f : EV} {pos p2 : Pos} {lo hi : Option Expr} {l u : OV}
theorem o_no : EO X W none oNo := ⟨fun pins s σ H Q I ⟨B, ρ, F, R, h⟩ => po_none.run pins s σ H Q I (h F H (Grow.refl R.gr.sub))⟩
theorem Pst.bindO {K : PySem.W.Frag} {mg : MG} {B : Bs} {σ : L2.St} {F H : Hp} {r : Rs Sl} {k : Sl → Rs (Option Int)} {Q : Option Int → Hp → Prop} {Q' : VK} (h : PstO K mg W σ F H (r.bind k) Q)
    (hQ : ∀ sl v F' H' A, r = .ok sl → Grow F H F' H' → VRep K B F' H' v A sl → (∀ a ∈ A, H a = none) → PstO K mg W σ F H (k sl) Q → Q' v H') : Pst K mg W B σ F H r Q' := by
  cases r with
  | ok sl => exact fun v F' H' A g vr fr => hQ sl v F' H' A rfl g vr fr h
  | exc c => exact h
  | bad => exact h
theorem PstO.bind {K : PySem.W.Frag} {mg : MG} {B : Bs} {σ : L2.St} {F H : Hp} {r : Rs (Option Int)} {k : Option Int → Rs Sl} {Q : VK} {Q' : Option Int → Hp → Prop} (h : Pst K mg W B σ F H (r.bind k) Q)
    (hQ : ∀ o F' H', r = .ok o → Grow F H F' H' → Pst K mg W B σ F' H' (k o) Q → Q' o H') : PstO K mg W σ F H r Q' := by
  cases r with
  | ok b => exact fun F' H' g => hQ b F' H' rfl g (h.grow g)
  | exc c => exact h
  | bad => exact h
theorem o_some (he : EE X W e f) : EO X W (some e) (oSome f) := ⟨fun pins s σ H Q I ⟨B, ρ, F, R, h⟩ => (po_some he).run pins s σ H Q I ⟨B, ρ, F, R, Pst.bindO h fun s v F1 H1 A _ g1 vr fr h1 => by
  split at h1
  · cases fz_int vr
    exact ⟨_, rfl, h1 F1 H1 g1⟩
  · exact h1.elim⟩⟩
theorem e_slice {r : V → Option Int → Option Int → Hp → VK → Prop} {op : Op3} (hr : SlR X r) (hs : SlS X.K r op) (he : EE X W e f) (hl : EO X W lo l) (hu : EO X W hi u) : EE X W (.Subscript e (.Slice lo hi none p2) pos) (eSl op f l u) :=
  pe_weak (pe_slice hr he hl hu) fun σ H Q ⟨B, ρ, F, R, h⟩ => by
    refine ⟨B, ρ, F, R, Pst.bind h fun s v F1 H1 A _ g1 vr fr h1 => ?_⟩
    refine ⟨B, ρ, F1, R.grow g1, PstO.bind h1 fun o F2 H2 _ g2 h2 => ?_⟩
    refine ⟨B, ρ, F2, (R.grow g1).grow g2, PstO.bind h2 fun o2 F3 H3 _ g3 h3 => ?_⟩
    cases e1 : op s o o2 with
    | none => rw [e1] at h3; exact h3.elim
    | some sl =>
      rw [e1] at h3
      exact hs B F3 H3 v A s sl o o2 Q (R.gr.trans (g1.trans (g2.trans g3))) ((vr.grow g2).grow g3) e1 h3
theorem e_slL (he : EE X W e f) (hl : EO X W lo l) (hu : EO X W hi u) : EE X W (.Subscript e (.Slice lo hi none p2) pos) (eSl slLOp f l u) := e_slice sl_list sls_L he hl hu
theorem e_slT (he : EE X W e f) (hl : EO X W lo l) (hu : EO X W hi u) : EE X W (.Subscript e (.Slice lo hi none p2) pos) (eSl slTOp f l u) := e_slice sl_tupA sls_T he hl hu
/-! ### an int in a tuple of ints; an expression that is not reached -/
def inTOp : Op2 := fun x y => match x, y with
  | .fz (.int i), .fz (.tuple ds) => (intsOf ds).map fun ns => .fz (.bool (ns.any fun n => decide (n = i)))
  | _, _ => none
theorem any_ints (i : Int) : ∀ ns : List Int, inV (.int i) (ns.map V.int) = ns.any fun n => decide (n = i)
  | [] => rfl
  | n :: ns => by
    have := any_ints i ns
    unfold inV at this ⊢
    rw [List.map_cons, List.any_cons, List.any_cons, this]
    rfl
theorem flat_ints : ∀ ns : List Int, (ns.map V.int).all flatV = true
  | [] => rfl
  | n :: ns => by
    rw [List.map_cons, List.all_cons, flat_ints ns]
    rfl
theorem ops_inT {K : PySem.W.Frag} : OpS K (rIn K false) inTOp := by
  intro B F H x y A A' sx sy sl Q gr r1 r2 e q
  unfold inTOp at e
  split at e
  · rename_i i ds
    obtain ⟨ns, e1, rfl⟩ := Option.map_eq_some_iff.mp e
    cases fz_int r1
    obtain ⟨p, xs, rfl, fp, hp, rp⟩ := r2.tuple gr rfl
    obtain ⟨q1, q2⟩ := intsOf_ok rp e1
    subst q1
    refine ⟨p, _, rfl, .inr (.inl (.inl hp)), rfl, flat_ints ns, ?_⟩
    rw [if_neg (by decide), any_ints]
    exact VRep.atom gr.sub q (Rp.bl _)
  · cases e
theorem e_inT {a b : Expr} {fa fb : EV} (ha : EE X W a fa) (hb : EE X W b fb) (hm : behindInMarks .In b = false := by rfl) : EE X W (.Compare a [.In] [b] pos) (eBin inTOp fa fb) := e_cmp op_in_seq ops_inT ha hb hm
theorem e_never : EE X W e (fun _ => .bad) := ⟨fun pins s σ H Q I ⟨B, ρ, F, R, h⟩ => h.elim⟩
/-- min, max of a tuple of two ints -/
def minTF : List Sl → Option Sl
  | [.fz (.tuple [.int i, .int j])] => some (.fz (.int (if j < i then j else i)))
  | _ => none
def maxTF : List Sl → Option Sl
  | [.fz (.tuple [.int i, .int j])] => some (.fz (.int (if j > i then j else i)))
  | _ => none
end
end BV
namespace BV
open PySem PySem.Spec PyProof.Rows L2
/-! ### dict(list of pairs), the keys tuples of ints -/
def mergeT (kvs more : List (List Key × V)) : List (List Key × V) := more.foldl (fun acc kv => putK acc kv.1 kv.2) kvs
/-- the pair at p: a known tuple as key, a value -/
def PairK (H : Hp) (p : Addr) (kv : List Key × V) : Prop := ∃ b, H p = some (.tup [.ref b, kv.2]) ∧ H b = some (.tup (kv.1.map kV))
theorem putK_len (kvs : List (List Key × V)) (k : List Key) (v : V) : (putK kvs k v).length ≤ kvs.length + 1 := by
  unfold putK
  split
  · rw [List.length_map]; exact Nat.le_succ _
  · rw [List.length_append]; exact Nat.le_refl _
theorem mergeT_len : ∀ (more kvs : List (List Key × V)), (mergeT kvs more).length ≤ kvs.length + more.length
  | [], kvs => Nat.le_refl _
  | m :: more, kvs => by
    have h1 := mergeT_len more (putK kvs m.1 m.2)
    have h2 := putK_len kvs m.1 m.2
    show (mergeT (putK kvs m.1 m.2) more).length ≤ _
    rw [List.length_cons]
    omega
section
variable {X : Cx} {pins : List (Addr × Obj)} {σ : L2.St} {H : Hp} {s : Shared}
/-- what stands there of the pairs -/
structure Stood (P : Program) (w : World) (H : Hp) (h : Heap) (ps : List Addr) (kvs : List (List Key × V)) (xs : List (List Key × Addr × Value)) : Prop where
  len : xs.length = ps.length
  at_ : ∀ (j : Nat) (x : List Key × Addr × Value), xs[j]? = some x → ∃ p, ps[j]? = some p ∧ IsTup h p #[.ref x.2.1, x.2.2] ∧ H x.2.1 = some (.tup (x.1.map kV))
  rel : KT H kvs xs
theorem stood_of (I : L2.Inv X pins σ H s) : ∀ {ps : List Addr} {kvs : List (List Key × V)}, Paired (PairK H) ps kvs → ∃ xs, Stood X.prog X.w H s.heap ps kvs xs
  | _, _, .nil => ⟨[], rfl, fun j x e => by simp at e, .nil⟩
  | _, _, .cons (a := p) (b := kv) h t => by
    obtain ⟨xs, hl, ha, hr⟩ := stood_of I t
    obtain ⟨b, h1, h2⟩ := h
    obtain ⟨its, rv, tup, _⟩ := I.tuple (.inl (.inl h1) : SqT X.K H p _)
    obtain ⟨u, y, rfl, ru, ry⟩ := vals2 rv
    cases ru
    refine ⟨(kv.1, b, y) :: xs, by rw [List.length_cons, List.length_cons, hl], fun j x e => ?_, .cons ⟨rfl, h2, ry⟩ hr⟩
    cases j with
    | zero => cases (Option.some.inj e); exact ⟨p, rfl, tup, h2⟩
    | succ j =>
      obtain ⟨q, q1, q2⟩ := ha j x (by simpa using e)
      exact ⟨q, by simpa using q1, q2⟩
theorem kt_merge {H : Hp} : ∀ {more : List (List Key × V)} {ys : List (List Key × Addr × Value)} {kvs : List (List Key × V)} {xs : List (List Key × Addr × Value)}, KT H more ys → KT H kvs xs → KT H (mergeT kvs more) (storedAllH xs ys)
  | _, _, _, _, .nil, h => h
  | _, _, _, _, .cons (a := p) (b := q) h t, r => by
    obtain ⟨h1, h2, h3⟩ := h
    have := r.put p.1 h2 h3
    rw [show storedH _ p.1 q.2.1 q.2.2 = storedH _ q.1 q.2.1 q.2.2 by rw [h1]] at this
    have done := kt_merge t this
    exact done
theorem calls_dictTP (calm : X.calm = true) (hu : X.A.units + 2 < cLine) : CallR X (.type "dict") (fun vs H Q => ∃ (a : Addr) (ps : List Addr) (kvs : List (List Key × V)), vs = [.ref a] ∧ SqL X.K H a (ps.map V.ref) ∧ Paired (PairK H) ps kvs ∧ ∀ p : Addr, H p = none → Q (.ref p) (upd H p (.dT (mergeT [] kvs)))) := by
  intro pins s σ H vs us Q I rel0 ⟨a, ps, kvs, ev, seq, prs, fin⟩
  cases ev
  obtain ⟨u, rfl, ru⟩ := vals1 rel0
  cases ru
  obtain ⟨its, rv, plain, size⟩ := I.list seq
  obtain rfl := refs_at rv
  rw [List.length_map] at size
  obtain ⟨xs, hl, ha, hr⟩ := stood_of I prs
  obtain ⟨o, n, o1, o2, o3, o4⟩ := plain
  have P := PySem.PairArg.list (prog := X.prog) (w := X.w) a (ps.map Value.ref).toArray (fun j => ps.getD j 0) (xs.map fun x => (Value.ref x.2.1, x.2.2))
  rw [List.length_map] at P
  have isK : ∀ x ∈ xs, ∃ j, xs[j]? = some x := fun x hx => List.mem_iff_getElem?.mp hx
  refine PySem.call_dict_pairsH (knd := tupleKind (mixKind X.prog X.w)) (ps := xs) P (I.ok.hd calm) (tupleKind_room_in1 (A := X.A.in1) (by show X.A.units + 1 + 1 < _; omega)) ⟨⟨o, n, o1, o2, o3, o4⟩, by simp [hl], fun j k v e => ?_⟩ ⟨rfl, fun i key v e => ?_⟩ (fun h' keep x hx => ?_) (by rw [hl]; exact size) fun h' tk dict keep => ?_
  · rw [List.getElem?_map] at e
    obtain ⟨x, q1, q2⟩ := Option.map_eq_some_iff.mp e
    cases q2
    obtain ⟨p, p1, p2, _⟩ := ha j x q1
    have e5 : ps.getD j 0 = p := by rw [List.getD_eq_getElem?_getD, p1]; rfl
    dsimp only
    rw [e5]
    exact ⟨by simp [p1], .inl p2⟩
  · obtain ⟨x, q1, q2⟩ := Option.map_eq_some_iff.mp (show (xs[i]?).map (fun x => (Value.ref x.2.1, x.2.2)) = some (key, v) by rw [← List.getElem?_map]; exact e)
    cases q2
    exact ⟨x.1, x.2.1, q1, rfl⟩
  · obtain ⟨j, hj⟩ := isK x hx
    obtain ⟨_, _, _, key⟩ := ha j x hj
    obtain ⟨ok, items, m, k1, k2, k3, k4⟩ := key_of (w := X.w) (P := X.prog) I.hok key
    exact ⟨ok, items, m, keep _ _ (Nat.ne_of_lt (Heap.lt_size k1)) (by simp) k1, k2, k3, k4⟩
  · obtain ⟨od, es, ep, d1, d2, d3, d4, _, d6⟩ := dict
    have lenM : (mergeT [] kvs).length ≤ sizeLine := by
      have := mergeT_len kvs []
      have lk : kvs.length = ps.length := (Paired.length hr).trans hl
      simp at this
      omega
    refine ⟨.ref s.heap.objs.size, upd H s.heap.objs.size (.dT (mergeT [] kvs)), I.laid (t' := tk) (fun b u eb => keep b u (by simp) eb) (Nat.le_refl _) (show ObjOk X.prog X.w _ _ _ (.dT (mergeT [] kvs)) from ⟨lenM, beq_eq_false_iff_ne.mpr (Nat.ne_of_gt I.big), storedAllH [] xs, (kt_merge hr .nil).keeps fun b ys eb => ?_, od, es, ep, d1, d2, d3, d4, d6⟩), rfl, fin _ (I.hok.fresh (Nat.le_refl _))⟩
    rw [upd_ne (show b ≠ s.heap.objs.size from fun z => by rw [z, I.hok.fresh (Nat.le_refl _)] at eb; cases eb)]
    exact eb
end
/-- the pairs of a list -/
def pairsOf : List D → Option (List (List Int × D))
  | [] => some []
  | .tuple [.tuple ds, d] :: r => (intsOf ds).bind fun k => (pairsOf r).map ((k, d) :: ·)
  | _ => none
def dFold (kvs : List (List Int × D)) : List (List Int × D) → List (List Int × D)
  | [] => kvs
  | kv :: more => dFold (dPut kvs kv.1 kv.2) more
theorem pairsOf_ok {F H : Hp} (s : Ex F H) : ∀ {ds : List D} {vs : List V} {kvs : List (List Int × D)}, RpAll F vs ds → pairsOf ds = some kvs → ∃ (ps : List Addr) (ks : List (List Key × V)), vs = ps.map V.ref ∧ Paired (PairK H) ps ks ∧ TRp F ks kvs
  | [], _, _, .nil, h => by cases h; exact ⟨[], [], rfl, .nil, .nil⟩
  | d :: ds, _, kvs, .cons h t, e => by
    unfold pairsOf at e
    split at e
    · rename_i e0; cases e0
    · rename_i ks0 d0 r0 e0
      obtain ⟨e1, e2⟩ := List.cons.inj e0
      subst e1 e2
      obtain ⟨k, k1, k2⟩ := Option.bind_eq_some_iff.mp e
      obtain ⟨rest, k3, k4⟩ := Option.map_eq_some_iff.mp k2
      subst k4
      obtain ⟨ps, ks, p1, p2, p3⟩ := pairsOf_ok s t k3
      subst p1
      cases h with
      | tup h1 h2 =>
        rename_i p xs
        cases h2 with
        | cons r1 r2 =>
          cases r2 with
          | cons r2 r3 =>
            cases r3
            cases r1 with
            | tup b1 b2 =>
              rename_i v2 b ys
              obtain ⟨q1, q2⟩ := intsOf_ok b2 k1
              exact ⟨p :: ps, (k.map Sum.inl, v2) :: ks, rfl, .cons ⟨b, s _ _ h1, by rw [kv_ints, ← q1]; exact s _ _ b1⟩ p2, .cons ⟨rfl, r2⟩ p3⟩
    · cases e
theorem dr_fold {F : Hp} : ∀ {more : List (List Key × V)} {ms : List (List Int × D)} {ks : List (List Key × V)} {kvs : List (List Int × D)}, TRp F more ms → TRp F ks kvs → TRp F (mergeT ks more) (dFold kvs ms)
  | _, _, _, _, .nil, h => h
  | _, _, _, _, .cons (a := p) (b := q) h t, r => by
    have := dr_put inls_inj q.1 h.2 r
    rw [← h.1] at this
    have done := dr_fold t this
    exact done
def eDictP (f : EV) : EV := fun ρ => (f ρ).bind fun s => Rs.of ((s.lst.bind pairsOf).map fun ms => .dt (dFold [] ms))
section
variable {X : Cx} {W : WX} {pos p : Pos} {e : Expr} {f : EV} {k : Nat}
theorem e_dictP (hr : Room k X.A) (hm : X.mg "dict" = none) (he : EE X W e f) (hc : X.calm = true := by rfl) (hg : Gl X "dict" := by rfl) (hs : starEach [e] X.env = (false, eval e X.env) :: starEach [] X.env := by rfl) :
    EE X W (.Call (.Name "dict" p) [e] [] pos) (eDictP f) :=
  pe_weak (pe_callTy (calls_dictTP hc (by have := hr.un; omega)) hg hm (by decide +kernel) (pa_cons he pa_nil hs) (by decide) (by decide) hs rfl) fun σ H Q ⟨B, ρ, F, R, h⟩ => by
    refine ⟨B, ρ, F, R, Pst.bind h fun s v F1 H1 A _ g1 vr fr h1 => ?_⟩
    obtain ⟨s2, es, h1⟩ := of_some h1
    obtain ⟨ms, e1, rfl⟩ := Option.map_eq_some_iff.mp es
    obtain ⟨ds, e2, e3⟩ := Option.bind_eq_some_iff.mp e1
    obtain ⟨a, xs, rfl, ha, rp⟩ := vr.list (R.gr.trans g1) e2
    obtain ⟨ps, ks, q1, q2, q3⟩ := pairsOf_ok g1.sub rp e3
    subst q1
    refine ⟨a, ps, ks, rfl, .inl (.inl ha), q2, fun l nl => ?_⟩
    exact h1 (.ref l) F1 (upd H1 l (.dT (mergeT [] ks))) [l] (Grow.own g1.sub nl) ⟨l, _, rfl, rfl, g1.sub.back nl, upd_same, dr_fold q3 .nil⟩ (one_new nl)
end
end BV
namespace BV
open PySem PySem.Spec PyProof.Rows L2
/-! ### a key asked for in a test; list(range(a, b)) -/
section
variable {X : Cx} {W : WX} {a b e x y : Expr} {f g fa fb : EV} {pos p p2 : Pos} {op : CmpOp} {t : TE}
theorem t_ask (h : PC X op a b t) (hw : ∀ σ H Q, tV X.K X.mg W f σ H Q → t σ H Q) (h1 : behindInMarks op b = false) : ET X W (.Compare a [op] [b] pos) (cB f) := pt_weak (pt_cmp h h1) fun σ H Q ⟨B, ρ, F, R, q⟩ => by
  refine hw σ H _ ⟨B, ρ, F, R, ?_⟩
  unfold cB at q
  cases e1 : f ρ with
  | exc c => rw [e1] at q; exact q
  | bad => rw [e1] at q; exact q
  | ok s =>
    rw [e1, Rs.bind_ok] at q
    intro v F' H' A g1 vr fr
    unfold asB at q
    split at q
    · cases fz_bl vr
      exact ⟨_, rfl, q F' H' g1⟩
    · exact q.elim
section
variable {i k : Nat} {n : Str}
theorem t_inDI (hr : Room k X.A) (he : EE X W y f) (hN : X.N[i]? = some n := by rfl) (hv : Vis X.env.scope n := by first | exact Or.inl rfl | exact Or.inr (Or.inl rfl) | exact Or.inr (Or.inr rfl)) (hd : (n == ("__debug__" : Str)) = false := by decide)
    (hcd : (n == ("__classdict__" : Str)) = false := by decide) : ET X W (.Compare y [.In] [.Name n p2] pos) (cB (eInI false i f)) := t_ask (pc_din (hu1 hr) he (pe_var hN hv hd hcd)) (fun σ H Q ⟨B, ρ, F, R, h⟩ => by
  refine ⟨B, ρ, F, R, Pst.bind h fun s v F1 H1 A _ g1 vr fr h1 => ?_⟩
  obtain ⟨p, o, hv, dg, q⟩ := ask_I (R.grow g1) vr h1
  exact ⟨.ref p, hv, p, o, rfl, dg, by rw [Bool.false_xor] at q; exact q⟩) rfl
theorem t_niDI (hr : Room k X.A) (he : EE X W y f) (hN : X.N[i]? = some n := by rfl) (hv : Vis X.env.scope n := by first | exact Or.inl rfl | exact Or.inr (Or.inl rfl) | exact Or.inr (Or.inr rfl)) (hd : (n == ("__debug__" : Str)) = false := by decide)
    (hcd : (n == ("__classdict__" : Str)) = false := by decide) : ET X W (.Compare y [.NotIn] [.Name n p2] pos) (cB (eInI true i f)) := t_ask (pc_dnotin (hu1 hr) he (pe_var hN hv hd hcd)) (fun σ H Q ⟨B, ρ, F, R, h⟩ => by
  refine ⟨B, ρ, F, R, Pst.bind h fun s v F1 H1 A _ g1 vr fr h1 => ?_⟩
  obtain ⟨p, o, hv, dg, q⟩ := ask_I (R.grow g1) vr h1
  exact ⟨.ref p, hv, p, o, rfl, dg, by rw [Bool.true_xor] at q; exact q⟩) rfl
theorem t_inDT (hr : Room k X.A) (he : EE X W y f) (hN : X.N[i]? = some n := by rfl) (hv : Vis X.env.scope n := by first | exact Or.inl rfl | exact Or.inr (Or.inl rfl) | exact Or.inr (Or.inr rfl)) (hd : (n == ("__debug__" : Str)) = false := by decide)
    (hcd : (n == ("__classdict__" : Str)) = false := by decide) : ET X W (.Compare y [.In] [.Name n p2] pos) (cB (eInT false i f)) := t_ask (pc_din (hu1 hr) he (pe_var hN hv hd hcd)) (fun σ H Q ⟨B, ρ, F, R, h⟩ => by
  refine ⟨B, ρ, F, R, Pst.bind h fun s v F1 H1 A _ g1 vr fr h1 => ?_⟩
  obtain ⟨p, o, hv, dg, q⟩ := ask_T (R.grow g1) vr h1
  exact ⟨.ref p, hv, p, o, rfl, dg, by rw [Bool.false_xor] at q; exact q⟩) rfl
theorem t_niDT (hr : Room k X.A) (he : EE X W y f) (hN : X.N[i]? = some n := by rfl) (hv : Vis X.env.scope n := by first | exact Or.inl rfl | exact Or.inr (Or.inl rfl) | exact Or.inr (Or.inr rfl)) (hd : (n == ("__debug__" : Str)) = false := by decide)
    (hcd : (n == ("__classdict__" : Str)) = false := by decide) : ET X W (.Compare y [.NotIn] [.Name n p2] pos) (cB (eInT true i f)) := t_ask (pc_dnotin (hu1 hr) he (pe_var hN hv hd hcd)) (fun σ H Q ⟨B, ρ, F, R, h⟩ => by
  refine ⟨B, ρ, F, R, Pst.bind h fun s v F1 H1 A _ g1 vr fr h1 => ?_⟩
  obtain ⟨p, o, hv, dg, q⟩ := ask_T (R.grow g1) vr h1
  exact ⟨.ref p, hv, p, o, rfl, dg, by rw [Bool.true_xor] at q; exact q⟩) rfl
end
theorem t_inT (ha : EE X W a fa) (hb : EE X W b fb) (hm : behindInMarks .In b = false := by rfl) : ET X W (.Compare a [.In] [b] pos) (cB (eBin inTOp fa fb)) := t_cmp op_in_seq ops_inT ha hb hm
def eListR (f g : EV) : EV := fun ρ => (f ρ).bind fun s => (g ρ).bind fun t => match s, t with
  | .fz (.int i), .fz (.int j) => if rgOk i && rgOk j then .ok (.ow (rgD i (j - i).toNat)) else .bad
  | _, _ => .bad
theorem rp_range {F : Hp} (i : Int) : ∀ l : List Nat, RpAll F (l.map fun k => V.int (i + (k : Nat))) (l.map fun k => PyData.int (i + (k : Nat)))
  | [] => .nil
  | k :: l => .cons (.int _) (rp_range i l)
theorem e_listR {p3 : Pos} (hm : X.mg "list" = none) (hm2 : X.mg "range" = none) (ha : EE X W a fa) (hb : EE X W b fb) (hc : X.calm = true := by rfl) (hg : Gl X "list" := by rfl) (hg2 : Gl X "range" := by rfl)
    (na : starEach [a, b] X.env = (false, eval a X.env) :: starEach [b] X.env := by rfl) (nb : starEach [b] X.env = (false, eval b X.env) :: starEach [] X.env := by rfl) (hp : (backTo p3 (starEach [b] X.env)).any (·.1) = false := by rfl)
    (nc : starEach [.Call (.Name "range" p2) [a, b] [] p3] X.env = (false, eval (.Call (.Name "range" p2) [a, b] [] p3) X.env) :: starEach [] X.env := by rfl) :
    EE X W (.Call (.Name "list" p) [.Call (.Name "range" p2) [a, b] [] p3] [] pos) (eListR fa fb) := pe_weak (pe_listRg hc hg hm (prg_2 hg2 hm2 ha hb na nb hp) nc) fun σ H Q ⟨B, ρ, F, R, h⟩ => by
  refine ⟨B, ρ, F, R, Pst.bind h fun s v F1 H1 A _ g1 vr fr h1 => ?_⟩
  refine ⟨B, ρ, F1, R.grow g1, Pst.bind h1 fun s2 v2 F2 H2 A2 _ g2 vr2 fr2 h2 => ?_⟩
  split at h2
  · rename_i i j _ _
    split at h2
    · rename_i hj
      rw [Bool.and_eq_true] at hj
      cases fz_int vr
      cases fz_int vr2
      obtain ⟨q1, q2⟩ := rgOk_ok hj.1
      obtain ⟨q3, q4⟩ := rgOk_ok hj.2
      have b1 : -100000 ≤ i ∧ i ≤ 100000 := by have := hj.1; unfold rgOk at this; rw [Bool.and_eq_true] at this; exact ⟨of_decide_eq_true this.1, of_decide_eq_true this.2⟩
      have b2 : -100000 ≤ j ∧ j ≤ 100000 := by have := hj.2; unfold rgOk at this; rw [Bool.and_eq_true] at this; exact ⟨of_decide_eq_true this.1, of_decide_eq_true this.2⟩
      exact ⟨i, j, rfl, rfl, ⟨q1, q2, q3, q4, by omega⟩, fun q nq => new_ow g2.sub h2 (rp_range i _) q nq⟩
    · exact h2.elim
  · exact h2.elim
end
/-! ### an expression by itself -/
def sDrop (f : EV) : SV := fun ρ => (f ρ).out ρ fun _ => .nx ρ
section
variable {X : Cx} {W : WX} {e : Expr} {f : EV} {pos : Pos}
theorem s_drop (he : EE X W e f) (hs : swapsWith e none pos.line X.env = pure false := by rfl) : ES X W (.Expr e pos) (sDrop f) := ps_weak (ps_expr he hs) fun D σ H ⟨B, ρ, F, R, h⟩ =>
  ⟨B, ρ, F, R, PstS.expr R h fun s v F1 H1 A _ g1 vr fr h1 => h1 σ F1 H1 (R.grow g1)⟩
end
end BV
namespace BV
open PySem PySem.Spec PyProof.Rows L2
/-! ### min, max of a tuple of two ints -/
section
variable {X : Cx}
theorem alike_ints (i j : Int) : PySem.W.AlikeAll [PyData.int i, PyData.int j] := by
  constructor
  · intro x hx y hy
    simp at hx hy
    rcases hx with rfl | rfl <;> rcases hy with rfl | rfl <;> rfl
  · intro x hx
    simp at hx
    rcases hx with rfl | rfl <;> exact fun z => nomatch z
theorem calls_minT (calm : X.calm = true) (hu : X.A.units + 5 < cLine) : CallR X (.builtin "min") (fun vs H Q => ∃ (a : Addr) (i j : Int), vs = [.ref a] ∧ SqT X.K H a [.int i, .int j] ∧ Q (.int (if j < i then j else i)) H) := by
  intro pins s σ H vs us Q I rel0 ⟨a, i, j, ev, seq, fin⟩
  cases ev
  obtain ⟨u, rfl, ru⟩ := vals1 rel0
  cases ru
  obtain ⟨its, rv, tup, _⟩ := I.tuple seq
  obtain ⟨u1, u2, rfl, r1, r2⟩ := vals2 rv
  obtain ⟨t1, rfl⟩ := r1
  obtain ⟨t2, rfl⟩ := r2
  refine PySem.W.min_tuple_data (x := .int i) (xs := [.int j]) (I.ok.hd calm) tup (.cons (.int i t1) (.cons (.int j t2) .nil)) (alike_ints i j) (by show X.A.units + 1 + max 0 (max 0 0) < _; simp; omega) fun k v h' tk bs _ rd keep => ?_
  have em := PySem.W.minD_ints i [j]
  rw [show [PyData.int j] = [j].map PyData.int from rfl, em] at rd
  cases rd with
  | int n t =>
    refine ⟨.int (if j < i then j else i), H, I.kept keep, ⟨t, ?_⟩, fin⟩
    congr 1
    show min i j = _
    split <;> omega
theorem calls_maxT (calm : X.calm = true) (hu : X.A.units + 5 < cLine) : CallR X (.builtin "max") (fun vs H Q => ∃ (a : Addr) (i j : Int), vs = [.ref a] ∧ SqT X.K H a [.int i, .int j] ∧ Q (.int (if j > i then j else i)) H) := by
  intro pins s σ H vs us Q I rel0 ⟨a, i, j, ev, seq, fin⟩
  cases ev
  obtain ⟨u, rfl, ru⟩ := vals1 rel0
  cases ru
  obtain ⟨its, rv, tup, _⟩ := I.tuple seq
  obtain ⟨u1, u2, rfl, r1, r2⟩ := vals2 rv
  obtain ⟨t1, rfl⟩ := r1
  obtain ⟨t2, rfl⟩ := r2
  refine PySem.W.max_tuple_data (x := .int i) (xs := [.int j]) (I.ok.hd calm) tup (.cons (.int i t1) (.cons (.int j t2) .nil)) (alike_ints i j) (by show X.A.units + 1 + max 0 (max 0 0) < _; simp; omega) fun k v h' tk bs _ rd keep => ?_
  have em := PySem.W.maxD_ints i [j]
  rw [show [PyData.int j] = [j].map PyData.int from rfl, em] at rd
  cases rd with
  | int n t =>
    refine ⟨.int (if j > i then j else i), H, I.kept keep, ⟨t, ?_⟩, fin⟩
    congr 1
    show max i j = _
    split <;> omega
end
section
variable {X : Cx} {W : WX} {x : Expr} {fs : Rho → Rs (List Sl)} {pos p : Pos} {k : Nat}
theorem e_minT (hr : Room k X.A) (hm : X.mg "min" = none) (ha : EA X W [x] fs) (hc : X.calm = true := by rfl) (hg : Gl X "min" := by rfl) (he : starEach [x] X.env = (false, eval x X.env) :: starEach [] X.env := by rfl) : EE X W (.Call (.Name "min" p) [x] [] pos) (eCB minTF fs) :=
  e_callB (calls_minT hc (by have := hr.un; omega)) (by
    intro B F H vs ss sl Q gr ar e q
    unfold minTF at e
    split at e
    · cases e
      obtain ⟨v, rfl, r1⟩ := ar1 ar
      obtain ⟨a, xs, rfl, _, ha, rp⟩ := r1.tuple gr rfl
      cases rp with
      | cons h1 t => cases t with
        | cons h2 t =>
          cases t
          cases h1
          cases h2
          exact ⟨a, _, _, rfl, .inl (.inl ha), VRep.atom gr.sub q (Rp.int _)⟩
    · cases e) hm (by decide +kernel) ha hg (by decide) (by decide) he rfl
theorem e_maxT (hr : Room k X.A) (hm : X.mg "max" = none) (ha : EA X W [x] fs) (hc : X.calm = true := by rfl) (hg : Gl X "max" := by rfl) (he : starEach [x] X.env = (false, eval x X.env) :: starEach [] X.env := by rfl) : EE X W (.Call (.Name "max" p) [x] [] pos) (eCB maxTF fs) :=
  e_callB (calls_maxT hc (by have := hr.un; omega)) (by
    intro B F H vs ss sl Q gr ar e q
    unfold maxTF at e
    split at e
    · cases e
      obtain ⟨v, rfl, r1⟩ := ar1 ar
      obtain ⟨a, xs, rfl, _, ha, rp⟩ := r1.tuple gr rfl
      cases rp with
      | cons h1 t => cases t with
        | cons h2 t =>
          cases t
          cases h1
          cases h2
          exact ⟨a, _, _, rfl, .inl (.inl ha), VRep.atom gr.sub q (Rp.int _)⟩
    · cases e) hm (by decide +kernel) ha hg (by decide) (by decide) he rfl
end
/-! ### a def that calls itself: nothing is promised at the last level -/
def mNone : List Sl → Rs Sl := fun _ => .bad
theorem df_none {P : Program} {w : World} {K : PySem.W.Frag} {mg : MG} {base : Heap} {f : Addr} {fd : FuncData} {ps : List Str} {x : Str} {np : Nat} (hl : ps.length = np) (hm : mg x = some (.ref f)) (hk : PySem.W.keepIn K (.ref f) = true) (hb : Binds K fd ps []) : Df P w K mg base x 0 np mNone :=
  ⟨f, fd, ps, ⟨fun vs H Q E ⟨F, ss, h, _⟩ => h.trans hl.symm, fun A outer s H args us vs Q E hr e0 hbd hv ⟨F, ss, h1, h2, h3, h4, h5⟩ => h5.elim⟩, hm, hk, hb⟩
end BV
namespace BV
open PySem PySem.Spec PyProof.Rows L2
/-! ### l.index(x) -/
def indexOf (ds : List D) (d : D) : Option Sl := if (SeqAt.shaped d && SeqAt.shaped (.list ds)) = true then (ds.findIdx? fun z => PyData.eqv z d).map fun j => Sl.fz (.int (j : Nat)) else none
def eIdx (f g : EV) : EV := fun ρ => (f ρ).bind fun x => match x.lst with
  | some ds => (g ρ).bind fun y => match y.data with
    | some d => Rs.of (indexOf ds d)
    | none => .bad
  | none => .bad
section
variable {X : Cx} {W : WX} {o e : Expr} {f g : EV} {p1 pos : Pos}
theorem e_index (hu : X.A.units + 65 < cLine) (hl : EE X W o f) (he : EE X W e g)
    (h1 : starEach [e] X.env = (false, eval e X.env) :: starEach [] X.env := by rfl) (hbase : attributeBase o "index" X.env (eval o X.env) = eval o X.env := by rfl)
    (hfew : ((((backTo pos (starEach [e] X.env)).all fun x => !x.fst) && (backToKw pos (keywordEach [] X.env)).all fun x => x.fst.isSome) && decide (([e].length + ([] : List Keyword).length + if ([] : List Keyword).isEmpty = true then 0 else 1) < 30)) = true := by rfl) (hline : (p1.endLine == pos.line) = true := by rfl) :
    EE X W (.Call (.Attribute o "index" p1) [e] [] pos) (eIdx f g) :=
  pe_weak (pe_bm PySem.F.plainAttrs_list PySem.F.slot_list_index PySem.F.type_list_index (mt_indexD hu) hl (pa_cons he pa_nil h1) hbase hfew hline h1) fun σ H Q ⟨B, ρ, F, R, h⟩ => by
    refine ⟨B, ρ, F, R, Pst.bind h fun sx v F1 H1 A _ g1 vr1 fr1 h1 => ?_⟩
    cases e1 : sx.lst with
    | none => rw [e1] at h1; exact h1.elim
    | some ds =>
      rw [e1] at h1
      obtain ⟨p, xs, rfl, hp, rp⟩ := vr1.list (R.gr.trans g1) e1
      refine ⟨.inl ⟨rfl, xs, .inl (.inl hp)⟩, ?_⟩
      refine ⟨B, ρ, F1, R.grow g1, Pst.bind h1 fun sy w F2 H2 A2 _ g2 vr2 fr2 h2 => ?_⟩
      cases e2 : sy.data with
      | none => rw [e2] at h2; exact h2.elim
      | some d =>
        rw [e2] at h2
        dsimp only at h2
        unfold indexOf at h2
        by_cases sh : (SeqAt.shaped d && SeqAt.shaped (.list ds)) = true
        · rw [if_pos sh] at h2
          rw [Bool.and_eq_true] at sh
          cases e3 : ds.findIdx? fun z => PyData.eqv z d with
          | none => rw [e3] at h2; exact h2.elim
          | some j =>
            rw [e3] at h2
            obtain ⟨hj, k1, k2⟩ := List.findIdx?_eq_some_iff_getElem.mp e3
            refine ⟨p, w, d, ds, j, ds[j], rfl, rfl, .lst (.inl (.inl (g2.exH _ _ hp))) ((rp.mono (g2.exF.trans g2.sub)).dpS sh.2), (vr2.py (R.gr.trans (g1.trans g2)) e2).dpS sh.1, sh.2, sh.1, List.getElem?_eq_getElem hj, k1, fun m z hm hz => ?_, h2.here (A := []) g2.sub ⟨rfl, .int _⟩ (fun _ z => nomatch z)⟩
            obtain ⟨hm', rfl⟩ := List.getElem?_eq_some_iff.mp hz
            exact Bool.not_eq_true _ ▸ k2 m hm
        · rw [if_neg sh] at h2
          exact h2.elim
end
section
variable {X : Cx} {W : WX} {a b c : Expr} {pos : Pos} {ca cb cc : Rho → Rs Bool}
def tIfT (t ta tb : TT) : TT := fun σ H Q => t σ H fun k H1 => if k = true then ta σ H1 Q else tb σ H1 Q
theorem pt_ifExp {tc ta tb : TT} (hc : PT X c tc) (ha : PT X a ta) (hb : PT X b tb) : PT X (.IfExp c a b pos) (tIfT tc ta tb) := by
  refine ⟨fun pins s σ H Q I h => ?_⟩
  refine isTrue_IfExp (thn (hc.run pins s σ H _ I h) fun d s1 ⟨H1, I1, q1⟩ => ?_)
  cases d with
  | true => exact ha.run pins s1 σ H1 Q I1 q1
  | false => exact hb.run pins s1 σ H1 Q I1 q1
def cIf (f g k : Rho → Rs Bool) : Rho → Rs Bool := fun ρ => (f ρ).bind fun x => if x then g ρ else k ρ
theorem t_ifE (hc : ET X W c ca) (ha : ET X W a cb) (hb : ET X W b cc) : ET X W (.IfExp c a b pos) (cIf ca cb cc) := pt_weak (pt_ifExp hc ha hb) fun σ H Q ⟨B, ρ, F, R, h⟩ => by
  refine ⟨B, ρ, F, R, PstT.bindT h fun k F1 H1 _ g1 h1 => ?_⟩
  cases k with
  | true => exact ⟨B, ρ, F1, R.grow g1, h1⟩
  | false => exact ⟨B, ρ, F1, R.grow g1, h1⟩
end
section
variable {X : Cx}
theorem g_tupB {K : PySem.W.Frag} {es : List Expr} {k n : Nat} {p : Pos} {g : TGs} {is : List Nat} {u : List D → Rho → Option Rho} (hK : X.K = K) (hc : X.calm = true) (h : EGs X es g is u) (hn : (assignEach es X.env).length = n := by rfl) (hst : (assignEach es X.env).findIdx? (·.1) = none := by rfl) : EG X (.Tuple es k p) (gTup K n g) is (gT n u) := by
  subst hK
  exact g_tup hc h hn hst
end
end BV
namespace BV
open PySem PySem.Spec PyProof.Rows L2
/-! ### walks over a list that one owns: nothing changes it meanwhile -/
section
variable {K : PySem.W.Frag} {mg : MG} {W : WX} {B : Bs} {DE : Ends} {σ : L2.St} {ρ : Rho} {F H F1 H1 F2 : Hp}
def PstJ (K : PySem.W.Frag) (mg : MG) (W : WX) (B : Bs) (σ : L2.St) (F H : Hp) (r : Rs (List D)) (R : It → Hp → Prop) : Prop := match r with
  | .ok ds => ∀ F2 H1 J, Grow F H F2 H1 → JOk ⟨F2, H1⟩ F2 J ds → R J H1
  | .exc c => ∀ F' H', Grow F H F' H' → ∀ cls, mg c = some cls → W cls none σ H'
  | .bad => False
def tJ (K : PySem.W.Frag) (mg : MG) (W : WX) (f : Rho → Rs (List D)) : TI := fun σ H R => ∃ B ρ F, Rep K B ρ σ F H ∧ PstJ K mg W B σ F H (f ρ) R
abbrev EJ (X : Cx) (W : WX) (tg e : Expr) (f : Rho → Rs (List D)) : Prop := PI X tg e (tJ X.K X.mg W f)
theorem PstJ.grow {r : Rs (List D)} {R : It → Hp → Prop} (g : Grow F H F1 H1) (h : PstJ K mg W B σ F H r R) : PstJ K mg W B σ F1 H1 r R := by
  cases r with
  | ok sl => exact fun v F' H' g' => h v F' H' (g.trans g')
  | exc c => exact fun F' H' g' => h F' H' (g.trans g')
  | bad => exact h
theorem Pst.bindJ {r : Rs Sl} {k : Sl → Rs (List D)} {Q : It → Hp → Prop} {Q' : VK} (h : PstJ K mg W B σ F H (r.bind k) Q)
    (hQ : ∀ sl v F' H' A, r = .ok sl → Grow F H F' H' → VRep K B F' H' v A sl → PstJ K mg W B σ F' H' (k sl) Q → Q' v H') : Pst K mg W B σ F H r Q' := by
  cases r with
  | ok sl => exact fun v F' H' A g vr fr => hQ sl v F' H' A rfl g vr (PstJ.grow g h)
  | exc c => exact h
  | bad => exact h
theorem PstA.bindJ {r : Rs (List Sl)} {k : List Sl → Rs (List D)} {Q : It → Hp → Prop} {Q' : List V → Hp → Prop} (h : PstJ K mg W B σ F H (r.bind k) Q)
    (hQ : ∀ sls vs F' H', r = .ok sls → Grow F H F' H' → ARs K B F' H' vs sls → PstJ K mg W B σ F' H' (k sls) Q → Q' vs H') : PstA K mg W B σ F H r Q' := by
  cases r with
  | ok sls => exact fun vs F' H' g ar => hQ sls vs F' H' rfl g ar (PstJ.grow g h)
  | exc c => exact h
  | bad => exact h
def Rs.opt {α : Type} : Option α → Rs α
  | some a => .ok a
  | none => .bad
def iLV (f : EV) : Rho → Rs (List D) := fun ρ => (f ρ).bind fun s => Rs.opt s.lst
def zipV : List Sl → Rs (List D)
  | [s, t] => match s.lst, t.lst with
    | some ds, some es => .ok ((ds.zip es).map fun p => .tuple [p.1, p.2])
    | _, _ => .bad
  | _ => .bad
def iZ2V (f g : EV) : Rho → Rs (List D) := fun ρ => (aCons f (aCons g aNil) ρ).bind zipV
end
section
variable {X : Cx} {W : WX} {tg e x y : Expr} {f g : EV} {pos p : Pos}
theorem j_list (he : EE X W e f) : EJ X W tg e (iLV f) := pi_weak (pi_list he) fun σ H R ⟨B, ρ, F, Rp', h⟩ => by
  refine ⟨B, ρ, F, Rp', Pst.bindJ h fun s v F1 H1 A _ g1 vr h1 => ?_⟩
  cases e1 : s.lst with
  | none => rw [e1] at h1; exact h1.elim
  | some ds =>
    rw [e1] at h1
    obtain ⟨a, xs, rfl, hp, rp⟩ := vr.list (Rp'.gr.trans g1) e1
    exact ⟨a, rfl, ⟨xs, .inl (.inl hp)⟩, h1 F1 H1 _ (Grow.refl g1.sub) (jok_list rp fun F' H' _ g' => g'.exH _ _ hp)⟩
theorem j_zip {elts : List Expr} {kk : Nat} {tpos : Pos} (hm : X.mg "zip" = none) (ha : EE X W x f) (hb : EE X W y g) (hg : Gl X "zip" := by rfl) (hs : starEach [x, y] X.env = (false, eval x X.env) :: starEach [y] X.env := by rfl) (hs2 : starEach [y] X.env = (false, eval y X.env) :: starEach [] X.env := by rfl) (hpl : (backTo pos (starEach [y] X.env)).any (·.1) = false := by rfl) :
    EJ X W (.Tuple elts kk tpos) (.Call (.Name "zip" p) [x, y] [] pos) (iZ2V f g) := pi_weak (pi_zip hg hm (a_cons ha (a_cons hb a_nil hs2) hs) hs hpl) fun σ H R ⟨B, ρ, F, Rp', h⟩ => by
  refine ⟨B, ρ, F, Rp', PstA.bindJ h fun ss vs F1 H1 _ g1 ar h1 => ?_⟩
  unfold zipV at h1
  split at h1
  · rename_i s t
    obtain ⟨v, w, rfl, r1, r2⟩ := ar2 ar
    split at h1
    · rename_i ds es e1 e2
      obtain ⟨a, xs, rfl, ha1, ra⟩ := r1.list (Rp'.gr.trans g1) e1
      obtain ⟨b, ys, rfl, hb1, rb⟩ := r2.list (Rp'.gr.trans g1) e2
      refine ⟨a, b, xs, ys, rfl, .inl (.inl ha1), .inl (.inl hb1), h1 F1 H1 _ (Grow.refl g1.sub) fun i F' H' ex g' => ?_⟩
      have qa : SqL X.K H' a xs := .inl (.inl (g'.exH _ _ ha1))
      have qb : SqL X.K H' b ys := .inl (.inl (g'.exH _ _ hb1))
      refine ⟨fun d hd => ?_, fun hi => ⟨xs, ys, qa, qb, ?_⟩⟩
      · rw [List.getElem?_map] at hd
        obtain ⟨pr, hz, rfl⟩ := Option.map_eq_some_iff.mp hd
        obtain ⟨hz1, hz2⟩ := List.getElem?_zip_eq_some.mp hz
        obtain ⟨v1, e1, q1⟩ := ra.get hz1
        obtain ⟨v2, e2, q2⟩ := rb.get hz2
        refine ⟨⟨xs, ys, v1, v2, qa, qb, e1, e2⟩, fun z H2 yl => ?_⟩
        obtain ⟨T, z1, z2, rfl, nT, rfl, f1, f2⟩ := yl
        have w1 := (f1 xs qa).symm.trans e1
        have w2 := (f2 ys qb).symm.trans e2
        cases w1
        cases w2
        exact ⟨upd F' T (.tup [v1, v2]), Grow.laid g'.sub nT, .tup upd_same (.cons ((q1.mono ex).mono (Ex.new (g'.sub.back nT))) (.cons ((q2.mono ex).mono (Ex.new (g'.sub.back nT))) .nil))⟩
      · rw [List.length_map, List.length_zip] at hi
        rw [ra.length, rb.length]
        omega
    · exact h1.elim
  · exact h1.elim
end
section
variable {K : PySem.W.Frag} {mg : MG} {W : WX} {B : Bs} {σ : L2.St} {ρ : Rho} {F H F1 H1 : Hp}
/-- the reading of a comprehension over a list that stays meanwhile -/
theorem lcV_read {g : TG} {is vs : List Nat} {src : Rho → Rs (List D)} {t : D → Rho → Option Rho} {c : Rho → Rs Bool} {f : EV} (hg : TgS K g is t) (hvs : ∀ i ∈ is, i ∈ vs) {Q : VK}
    (R0 : Rep K B ρ σ F H) (h : Pst K mg W B σ F H (eLc vs src t c f ρ) Q) : tLc (tJ K mg W src) g (tT K mg W0 c) (tV K mg W0 f) vs σ H Q := by
  refine ⟨B, ρ, F, R0, ?_⟩
  unfold eLc at h
  cases e : src ρ with
  | bad => rw [e] at h; exact h
  | exc c => rw [e] at h; exact h
  | ok ds =>
    rw [e, Rs.bind_ok] at h
    intro F2 H1 J g1 jk Dl nD
    split at h
    · rename_i hz
      cases el : lcL t c f (wipeR ρ vs) ds with
      | exc c => rw [el] at h; exact h.elim
      | bad => rw [el] at h; exact h.elim
      | ok out =>
        rw [el] at h
        have h : Pst K mg W B σ F H (.ok (.ow out)) Q := h
        have nF2 : F2 Dl = none := g1.sub.back nD
        have gB : Grow B.F0 B.H0 F2 H1 := R0.gr.trans g1
        have Rw : Rep K B (wipeR ρ vs) (wipe σ vs) F2 H1 := (R0.grow g1).wipe vs
        have hol := lcL_len el
        refine ⟨fun i m H' => m = ds.length - i ∧ i ≤ ds.length ∧ ∃ F' xs es rest, Grow F2 H1 F' H' ∧ F' Dl = none ∧ H' Dl = some (.lst xs) ∧ RpAll F' xs es ∧ lcL t c f (wipeR ρ vs) (ds.drop i) = .ok rest ∧ out = es ++ rest, ⟨ds.length, by simp, Nat.zero_le _, F2, [], [], out, Grow.own g1.sub nD, nF2, upd_same, .nil, by simpa using el, rfl⟩, ?_⟩
        rintro i m H' ⟨rfl, hi, F', xs, es, rest, g', nF', hD, rp, er, eo⟩
        obtain ⟨j1, j2⟩ := jk i F' H' g'.exF g'
        by_cases hlt : i < ds.length
        · rw [List.drop_eq_getElem_cons hlt] at er
          obtain ⟨jg, jy⟩ := j1 ds[i] (List.getElem?_eq_getElem hlt)
          refine .inr ⟨jg, fun H'' => ∃ F' xs es rest, Grow F2 H1 F' H'' ∧ F' Dl = none ∧ H'' Dl = some (.lst xs) ∧ RpAll F' xs es ∧ lcL t c f (wipeR ρ vs) (ds.drop (i + 1)) = .ok rest ∧ out = es ++ rest, fun H'' w => ⟨ds.length - (i + 1), by omega, rfl, by omega, w⟩, fun x H2 y => ?_⟩
          obtain ⟨F3, g3, rx⟩ := jy x H2 y
          have g13 := g'.trans g3
          have nF3 : F3 Dl = none := none_grow (H' := H2) g3.news nF' hD
          have hD3 : H2 Dl = some (.lst xs) := g3.exH _ _ hD
          unfold lcL at er
          cases et : t ds[i] (wipeR ρ vs) with
          | none => rw [et] at er; cases er
          | some ρ1 =>
            rw [et] at er
            dsimp only at er
            refine hg B (wipeR ρ vs) (wipe σ vs) F3 H2 x ds[i] ρ1 (Rw.grow g13) rx et _ fun σ2 R2 w2 => ⟨?_, B, ρ1, F3, R2, ?_⟩
            · rw [w2 vs hvs, wipe_wipe σ vs vs fun _ z => z]
            · cases ec : c ρ1 with
              | exc c => rw [ec] at er; cases er
              | bad => rw [ec] at er; cases er
              | ok b =>
                rw [ec, Rs.bind_ok] at er
                intro F4 H4 g4
                have g14 := g13.trans g4
                have nF4 : F4 Dl = none := none_grow (H' := H4) g4.news nF3 hD3
                have hD4 : H4 Dl = some (.lst xs) := g4.exH _ _ hD3
                cases b with
                | false =>
                  rw [if_neg Bool.false_ne_true] at er ⊢
                  exact ⟨F4, xs, es, rest, g14, nF4, hD4, rp.mono (g3.exF.trans g4.exF), er, eo⟩
                | true =>
                  rw [if_pos rfl] at er ⊢
                  refine ⟨B, ρ1, F4, R2.grow g4, ?_⟩
                  cases ef : f ρ1 with
                  | exc c => rw [ef] at er; cases er
                  | bad => rw [ef] at er; cases er
                  | ok s =>
                    rw [ef, Rs.bind_ok] at er
                    intro v F5 H5 A g5 vr fr
                    cases ea : argS s with
                    | exc c => rw [ea] at er; cases er
                    | bad => rw [ea] at er; cases er
                    | ok u =>
                      rw [ea, Rs.bind_ok] at er
                      obtain ⟨rfl, kd, kt⟩ := argS_ok ea
                      obtain ⟨F6, g6, vr6⟩ := settle_ok g5 vr fr kd kt
                      split at er
                      · rename_i e0 e1
                        cases el2 : lcL t c f (wipeR ρ vs) (ds.drop (i + 1)) with
                        | exc c => rw [el2] at er; cases er
                        | bad => rw [el2] at er; cases er
                        | ok r2 =>
                          rw [el2] at er
                          cases er
                          rw [e1] at vr6
                          have nF6 : F6 Dl = none := none_grow (H' := H5) g6.news nF4 hD4
                          have hD6 : H5 Dl = some (.lst xs) := g6.exH _ _ hD4
                          refine ⟨xs, hD6, sz_lt ?_, F6, xs ++ [v], es ++ [e0], r2, (g14.trans g6).mutNew nD nF6, nF6, upd_same, (rp.mono (g3.exF.trans (g4.exF.trans g6.exF))).append (.cons vr6.2 .nil), rfl, by rw [eo, List.append_assoc]; rfl⟩
                          have l1 := rp.length
                          rw [eo, List.length_append] at hol
                          omega
                      · cases er
        · have : i = ds.length := by omega
          subst this
          rw [List.drop_length] at er
          cases er
          rw [List.append_nil] at eo
          subst eo
          refine .inl ⟨j2 (Nat.le_refl _), h (.ref Dl) F' H' [Dl] (g1.trans g') ⟨Dl, xs, rfl, rfl, nF', hD, rp⟩ fun a ha => ?_⟩
          cases ha with
          | head => exact g1.exH.back nD
          | tail _ z => cases z
    · exact h.elim

end
section
variable {X : Cx} {W : WX} {pos : Pos} {elt tg iter : Expr} {ifs : List Expr} {scope : Scope} {own : List (Str × Nat)} {g : TG} {is : List Nat} {src : Rho → Rs (List D)} {t : D → Rho → Option Rho} {c : Rho → Rs Bool} {f : EV}
theorem e_lcV (hc : X.calm = true) (hN : X.N.Nodup) (ok : blkC X.N X.env.scope scope own = true) (hi : EJ X W tg iter src) (hvs : ∀ i ∈ is, i ∈ own.map (·.2))
    (hg : ∀ (s : Shared) (H : Hp) (C : Addr) (cl : List (Str × Addr)) (fp : List Addr), EG (X.blk s H scope (compEnvC scope cl C X.env) fp) tg g is t) (ht : ∀ (s : Shared) (H : Hp) (C : Addr) (cl : List (Str × Addr)) (fp : List Addr), PTs (X.blk s H scope (compEnvC scope cl C X.env) fp) ifs (tT X.K X.mg W0 c))
    (he : ∀ (s : Shared) (H : Hp) (C : Addr) (cl : List (Str × Addr)) (fp : List Addr), EE (X.blk s H scope (compEnvC scope cl C X.env) fp) W0 elt f) (hs : ∀ x, foldedSetIterable iter X.env x = pure x := by intro _; rfl) :
    EE X W (.ListComp elt [⟨tg, iter, ifs, 0⟩] scope pos) (eLc (own.map (·.2)) src t c f) :=
  pe_weak (pe_lc (te := tV X.K X.mg W0 f) hc hN hi (blkOk_by ok) (fun s H C cl fp => (hg s H C cl fp).pg) ht he hs) fun σ H Q ⟨B, ρ, F, R, h⟩ => lcV_read (hg X.s_0 H 0 [] []).ts hvs R h
theorem s_setLcV {i : Nat} {y : Str} {py spos : Pos} (hc : X.calm = true) (hN : X.N.Nodup) (ok : blkC X.N X.env.scope scope own = true) (hi : EJ X W tg iter src) (hvs : ∀ i ∈ is, i ∈ own.map (·.2))
    (hg : ∀ (s : Shared) (H : Hp) (C : Addr) (cl : List (Str × Addr)) (fp : List Addr), EG (X.blk s H scope (compEnvC scope cl C X.env) fp) tg g is t) (ht : ∀ (s : Shared) (H : Hp) (C : Addr) (cl : List (Str × Addr)) (fp : List Addr), PTs (X.blk s H scope (compEnvC scope cl C X.env) fp) ifs (tT X.K X.mg W0 c))
    (he : ∀ (s : Shared) (H : Hp) (C : Addr) (cl : List (Str × Addr)) (fp : List Addr), EE (X.blk s H scope (compEnvC scope cl C X.env) fp) W0 elt f)
    (hsw : swapsWith (.ListComp elt [⟨tg, iter, ifs, 0⟩] scope pos) (some (.Name y py)) spos.line X.env = pure true) (hy : X.N[i]? = some y := by rfl) (hyl : X.env.scope.names.lookup y = some .local := by rfl) (hs : ∀ x, foldedSetIterable iter X.env x = pure x := by intro _; rfl) :
    ES X W (.Assign [.Name y py] (.ListComp elt [⟨tg, iter, ifs, 0⟩] scope pos) spos) (sSet i (eLc (own.map (·.2)) src t c f)) :=
  ps_weak (ps_setLc (te := tV X.K X.mg W0 f) hc hN hy hyl hsw hi (blkOk_by ok) (fun s H C cl fp => (hg s H C cl fp).pg) ht he hs) fun D σ H ⟨B, ρ, F, R, h⟩ => lcV_read (hg X.s_0 H 0 [] []).ts hvs R (PstS.expr R h fun sl v F1 H1 A _ g1 vr fr h1 => by
    split at h1
    · rename_i kp
      exact h1 _ F1 H1 (R.store g1 vr fr kp i)
    · exact h1.elim)
theorem s_setLcVF {i : Nat} {y : Str} {py spos : Pos} (hc : X.calm = true) (hN : X.N.Nodup) (ok : blkC X.N X.env.scope scope own = true) (hi : EJ X W tg iter src) (hvs : ∀ i ∈ is, i ∈ own.map (·.2))
    (hg : ∀ (s : Shared) (H : Hp) (C : Addr) (cl : List (Str × Addr)) (fp : List Addr), EG (X.blk s H scope (compEnvC scope cl C X.env) fp) tg g is t) (ht : ∀ (s : Shared) (H : Hp) (C : Addr) (cl : List (Str × Addr)) (fp : List Addr), PTs (X.blk s H scope (compEnvC scope cl C X.env) fp) ifs (tT X.K X.mg W0 c))
    (he : ∀ (s : Shared) (H : Hp) (C : Addr) (cl : List (Str × Addr)) (fp : List Addr), EE (X.blk s H scope (compEnvC scope cl C X.env) fp) W0 elt f)
    (hsw : swapsWith (.ListComp elt [⟨tg, iter, ifs, 0⟩] scope pos) (some (.Name y py)) spos.line X.env = pure true) (hy : X.N[i]? = some y := by rfl) (hyl : X.env.scope.names.lookup y = some .local := by rfl) (hs : ∀ x, foldedSetIterable iter X.env x = pure x := by intro _; rfl) :
    ES X W (.Assign [.Name y py] (.ListComp elt [⟨tg, iter, ifs, 0⟩] scope pos) spos) (sSetF i (eLc (own.map (·.2)) src t c f)) :=
  ps_weak (ps_setLc (te := tV X.K X.mg W0 f) hc hN hy hyl hsw hi (blkOk_by ok) (fun s H C cl fp => (hg s H C cl fp).pg) ht he hs) fun D σ H ⟨B, ρ, F, R, h⟩ => lcV_read (hg X.s_0 H 0 [] []).ts hvs R (PstS.expr R h fun sl v F1 H1 A _ g1 vr fr h1 => set_fz R g1 vr fr h1)
end


/-! ### for x in xs: if c: return e -/
def forTL (t : D → Rho → Option Rho) (c : Rho → Rs Bool) (f : EV) : List D → SV
  | [], ρ => .nx ρ
  | d :: ds, ρ => match t d ρ with
    | none => .bad
    | some ρ1 => (c ρ1).out ρ1 fun b => if b then (f ρ1).out ρ1 fun sl => .rt sl else forTL t c f ds ρ1
theorem forTL_cons {t : D → Rho → Option Rho} {c : Rho → Rs Bool} {f : EV} {d : D} {ds : List D} {ρ ρ1 : Rho} (h : t d ρ = some ρ1) : forTL t c f (d :: ds) ρ = (c ρ1).out ρ1 fun b => if b then (f ρ1).out ρ1 fun sl => .rt sl else forTL t c f ds ρ1 := by
  show (match t d ρ with
    | none => Out.bad
    | some ρ1 => (c ρ1).out ρ1 fun b => if b then (f ρ1).out ρ1 fun sl => .rt sl else forTL t c f ds ρ1) = _
  rw [h]
def sForT (t : D → Rho → Option Rho) (src : Rho → Rs (List D)) (c : Rho → Rs Bool) (f : EV) : SV := fun ρ => (src ρ).out ρ fun ds => forTL t c f ds ρ
section
variable {X : Cx} {W : WX} {tg iter cnd e : Expr} {t : D → Rho → Option Rho} {src : Rho → Rs (List D)} {c : Rho → Rs Bool} {f : EV} {pos p1 p2 : Pos}
theorem s_forT (hp : PassesOwn (model X.prog X.w) X.A X.env X.xe) (hc : X.calm = true) {gt : TG} {is : List Nat} (hi : EJ X W tg iter src) (hg : EG X tg gt is t) (hcn : ET X W cnd c) (he : EE X W e f) (hs : ∀ x, foldedSetIterable iter X.env x = pure x := by intro _; rfl) :
    ES X W (.For tg iter [.If cnd [.Return (some e) p1] [] p2] [] pos) (sForT t src c f) := by
  obtain ⟨hg1, hg2⟩ := hg
  refine ps_weak (ps_for hp hc hi hg1 (pss_one (ps_if hcn (pss_one (ps_ret he)) pss_nil)) hs) fun DE σ H ⟨B, ρ, F, R, h⟩ => ?_
  refine ⟨B, ρ, F, R, ?_⟩
  unfold sForT at h
  cases e : src ρ with
  | bad => rw [e] at h; exact h
  | exc c => rw [e] at h; exact fun F' H' g cls ec => h σ F' H' (R.grow g) cls ec
  | ok ds =>
    rw [e] at h
    intro F2 H1 J g1 jk
    refine ⟨fun i m σ H => m = ds.length - i ∧ i ≤ ds.length ∧ ∃ ρ F, Rep X.K B ρ σ F H ∧ Grow F2 H1 F H ∧ PstS X.K X.mg W B DE (forTL t c f (ds.drop i) ρ), ⟨ds.length, by simp, Nat.zero_le _, ρ, F2, R.grow g1, Grow.refl g1.sub, h⟩, ?_⟩
    rintro i m σ' H' ⟨rfl, hi, ρ', F', R', g', h'⟩
    obtain ⟨j1, j2⟩ := jk i F' H' g'.exF g'
    by_cases hlt : i < ds.length
    · rw [List.drop_eq_getElem_cons hlt] at h'
      obtain ⟨jg, jy⟩ := j1 ds[i] (List.getElem?_eq_getElem hlt)
      cases et : t ds[i] ρ' with
      | none =>
        unfold forTL at h'
        rw [et] at h'
        exact h'.elim
      | some ρ1 =>
        rw [forTL_cons et] at h'
        refine .inr ⟨jg, fun σ H => ∃ ρ F, Rep X.K B ρ σ F H ∧ Grow F2 H1 F H ∧ PstS X.K X.mg W B DE (forTL t c f (ds.drop (i + 1)) ρ), fun σ'' H'' w => ⟨ds.length - (i + 1), by omega, rfl, by omega, w⟩, fun x H2 y => ?_⟩
        obtain ⟨F3, g3, rx⟩ := jy x H2 y
        refine hg2 B ρ' σ' F3 H2 x ds[i] ρ1 (R'.grow g3) rx et _ fun σ3 R3 _ => ⟨B, ρ1, F3, R3, PstS.test R3 h' fun b F4 H4 _ g4 h4 => ?_⟩
        cases b with
        | true =>
          rw [if_pos rfl] at h4 ⊢
          refine ⟨B, ρ1, F4, R3.grow g4, PstS.expr (R3.grow g4) h4 fun sl v F5 H5 A _ g5 vr fr h5 => ?_⟩
          exact h5.2 v F5 H5 A ((R3.grow g4).gr.trans g5) vr fun a ha => (R3.grow g4).gr.exH.back (fr a ha)
        | false =>
          rw [if_neg Bool.false_ne_true] at h4 ⊢
          exact ⟨ρ1, F4, R3.grow g4, g'.trans (g3.trans g4), h4⟩
    · have : i = ds.length := by omega
      subst this
      rw [List.drop_length] at h'
      exact .inl ⟨j2 (Nat.le_refl _), h' σ' F' H' R'⟩
end
/-! in plain Lean -/
theorem iLV_ok {f : EV} {ρ : Rho} {s : Sl} {ds : List D} (h : f ρ = .ok s) (hs : s.lst = some ds) : iLV f ρ = .ok ds := by
  unfold iLV
  rw [h, Rs.bind_ok, hs]
  rfl
theorem forT_ok {t : D → Rho → Option Rho} {src : Rho → Rs (List D)} {c : Rho → Rs Bool} {f : EV} {ds : List D} {ρ : Rho} (h : src ρ = .ok ds) : sForT t src c f ρ = forTL t c f ds ρ := by
  unfold sForT
  rw [h]
  rfl
theorem forT_all {α : Type} {k : α → D} {t : D → Rho → Option Rho} {c : Rho → Rs Bool} {f : EV} (I : Rho → Prop) : ∀ (xs : List α) (ρ : Rho), I ρ →
    (∀ ρ x, x ∈ xs → I ρ → ∃ ρ1, t (k x) ρ = some ρ1 ∧ c ρ1 = .ok false ∧ I ρ1) → ∃ ρ', forTL t c f (xs.map k) ρ = .nx ρ' ∧ I ρ'
  | [], ρ, h, _ => ⟨ρ, rfl, h⟩
  | x :: xs, ρ, h, hs => by
    obtain ⟨ρ1, e1, e2, h1⟩ := hs ρ x (List.mem_cons_self ..) h
    obtain ⟨ρ', e, h'⟩ := forT_all (k := k) (t := t) (c := c) (f := f) I xs ρ1 h1 fun ρ y hy => hs ρ y (List.mem_cons_of_mem _ hy)
    refine ⟨ρ', ?_, h'⟩
    rw [List.map_cons, forTL_cons e1, e2]
    exact e
end BV
namespace BV
open PySem PySem.Spec PyProof.Rows L2
/-! ### a pair of lists of one's own -/
section
variable {K : PySem.W.Frag} {mg : MG} {W : WX} {B : Bs} {σ : L2.St} {ρ : Rho} {F H F1 H1 : Hp}
theorem appOg {i : Nat} {p : Addr} {xs : List V} {es : List D} {d : D} {v : V} {A1 : List Addr} {sl : Sl} (R : Rep K B ρ σ F H) (g1 : Grow F H F1 H1) (hx : ρ[i]? = some sl) (kp : sl.keeps = true) (hv : σ[i]? = some (some (.ref p)))
    (own : ∀ A, VRep K B F H (.ref p) A sl → ∃ A0, A = p :: A0 ∧ F p = none ∧ H p = some (.lst xs) ∧ p ∉ A0 ∧ OgAll F H xs A0 es) (new : Og F1 H1 v A1 d) (fr : ∀ a ∈ A1, H a = none) :
    Rep K B (ρ.set i (.og (.list (es ++ [d])))) σ F1 (upd H1 p (.lst (xs ++ [v]))) := by
  refine R.change3 g1 hx hv kp (fun A vr => ?_) rfl
  obtain ⟨A0, rfl, nf, hp, n, ra⟩ := own A vr
  have np : ∀ a ∈ A1, a ≠ p := fun a ha z => by
    rw [← z, fr a ha] at hp
    cases hp
  have dj : ∀ a ∈ A0, a ∉ A1 := fun a ha z => by
    obtain ⟨_, o, ho, _⟩ := ra.known a ha
    rw [fr a z] at ho
    cases ho
  have mv : OgAll F1 (upd H1 p (.lst (xs ++ [v]))) xs A0 es := ra.move g1.exF (fun a ha => by
    obtain ⟨k1, o, k2, k3⟩ := ra.known a ha
    exact none_grow (H' := H1) g1.news k1 k2 k3) fun a ha o ho => by
    rw [upd_ne (show a ≠ p from fun z => n (z ▸ ha))]
    exact g1.exH _ _ ho
  have mw : Og F1 (upd H1 p (.lst (xs ++ [v]))) v A1 d := new.move (Ex.refl F1) (fun a ha => (new.known a ha).1) fun a ha o ho => by
    rw [upd_ne (np a ha)]
    exact ho
  obtain ⟨A2, k1, k2⟩ := mv.snoc mw dj
  refine ⟨List.mem_cons_self .., p :: A2, fun a ha => ?_, rfl, .lst (none_grow (H' := H1) g1.news nf hp) upd_same (fun z => ?_) k1⟩
  · rcases List.mem_cons.mp ha with rfl | ha
    · exact .inl (List.mem_cons_self ..)
    · rcases (k2 a).mp ha with z | z
      · exact .inl (List.mem_cons_of_mem _ z)
      · exact .inr (fr a z)
  · rcases (k2 p).mp z with z | z
    · exact n z
    · exact np p z rfl
theorem own_ow {p : Addr} {xs : List V} {es : List D} (hp : H p = some (.lst xs)) (l : lfAll es = true) : ∀ A, VRep K B F H (.ref p) A (.ow es) → ∃ A0, A = p :: A0 ∧ F p = none ∧ H p = some (.lst xs) ∧ p ∉ A0 ∧ OgAll F H xs A0 es := fun A vr => by
  obtain ⟨q, ys, e, rfl, f, h, r⟩ := vr
  cases e
  rw [hp] at h
  cases h
  exact ⟨[], rfl, f, hp, by simp, og_leaves r l⟩
theorem own_og {p : Addr} {xs : List V} {es : List D} (hp : H p = some (.lst xs)) : ∀ A, VRep K B F H (.ref p) A (.og (.list es)) → ∃ A0, A = p :: A0 ∧ F p = none ∧ H p = some (.lst xs) ∧ p ∉ A0 ∧ OgAll F H xs A0 es := fun A vr => by
  obtain ⟨_, r⟩ := vr
  cases r with
  | leaf l _ => cases l
  | lst f h n ra =>
    rw [hp] at h
    cases h
    exact ⟨_, rfl, f, hp, n, ra⟩
end
def sAppM (i : Nat) (f : EV) : SV := fun ρ => match ρ[i]? with
  | some (.ow es) => (f ρ).out ρ fun s => match s with
    | .fz d => if es.length < 100000 then .nx (ρ.set i (.ow (es ++ [d]))) else .bad
    | .ow ds => if (lfAll es = true ∧ lfAll ds = true) ∧ es.length < 100000 then .nx (ρ.set i (.og (.list (es ++ [.list ds])))) else .bad
    | _ => .bad
  | some (.og (.list es)) => (f ρ).out ρ fun s => match s with
    | .fz d => if lf d = true ∧ es.length < 100000 then .nx (ρ.set i (.og (.list (es ++ [d])))) else .bad
    | .ow ds => if lfAll ds = true ∧ es.length < 100000 then .nx (ρ.set i (.og (.list (es ++ [.list ds])))) else .bad
    | _ => .bad
  | _ => .bad
def sRetMv (i : Nat) : SV := fun ρ => match ρ[i]? with
  | some (.ow [a, b]) => .rt (.fz (.tuple [a, b]))
  | some (.og (.list [a, b])) => if lf (.tuple [a, b]) = false then .rt (.og (.tuple [a, b])) else .bad
  | _ => .bad
section
variable {X : Cx} {W : WX} {e : Expr} {f : EV} {pos : Pos}
theorem s_appM {i : Nat} {x : Str} {p p1 pos' : Pos} (he : EE X W e f) (hN : X.N[i]? = some x := by rfl) (hv : Vis X.env.scope x := by first | exact Or.inl rfl | exact Or.inr (Or.inl rfl) | exact Or.inr (Or.inr rfl)) (hd : (x == ("__debug__" : Str)) = false := by decide)
    (hcd : (x == ("__classdict__" : Str)) = false := by decide) (hs : swapsWith (.Call (.Attribute (.Name x p) "append" p1) [e] [] pos') none pos.line X.env = pure false := by rfl)
    (h1 : starEach [e] X.env = (false, eval e X.env) :: starEach [] X.env := by rfl) (hbase : attributeBase (.Name x p) "append" X.env (eval (.Name x p) X.env) = eval (.Name x p) X.env := by rfl)
    (hfew : ((((backTo pos' (starEach [e] X.env)).all fun x => !x.fst) && (backToKw pos' (keywordEach [] X.env)).all fun x => x.fst.isSome) && decide (([e].length + ([] : List Keyword).length + if ([] : List Keyword).isEmpty = true then 0 else 1) < 30)) = true := by rfl) (hline : (p1.endLine == pos'.line) = true := by rfl) :
    ES X W (.Expr (.Call (.Attribute (.Name x p) "append" p1) [e] [] pos') pos) (sAppM i f) :=
  ps_weak (ps_expr (pe_bm PySem.F.plainAttrs_list PySem.F.slot_list_append PySem.F.type_list_append mt_append (pe_var hN hv hd hcd) (pa_cons he pa_nil h1) hbase hfew hline h1) hs) fun D σ H ⟨B, ρ, F, R, h⟩ => by
    unfold sAppM at h
    split at h
    · rename_i es hx
      obtain ⟨p, xs, hv, nf, hp, rp⟩ := R.owns hx
      refine ⟨.ref p, hv, .inl ⟨rfl, xs, .inl (.inl hp)⟩, ?_⟩
      refine ⟨B, ρ, F, R, PstS.expr R h fun s v F1 H1 A _ g1 vr fr h1 => ?_⟩
      split at h1
      · rename_i d
        split at h1
        · rename_i hz
          exact ⟨p, xs, v, rfl, rfl, g1.exH _ _ hp, sz_lt (by rw [rp.length]; exact hz), h1 σ F1 _ ((R.grow g1).setOw hx hv ((rp.mono g1.exF).append (.cons vr.2 .nil)))⟩
        · exact h1.elim
      · rename_i ds
        split at h1
        · rename_i hl
          obtain ⟨q, ys, rfl, rfl, f1, hq, rq⟩ := vr
          exact ⟨p, xs, .ref q, rfl, rfl, g1.exH _ _ hp, sz_lt (by rw [rp.length]; exact hl.2), h1 σ F1 _ (appOg R g1 hx rfl hv (own_ow hp hl.1.1) (.lst f1 hq (by simp) (og_leaves rq hl.1.2)) fr)⟩
        · exact h1.elim
      · exact h1.elim
    · rename_i es hx
      obtain ⟨v0, A0, hv, l0, r0⟩ := R.ogs hx
      cases r0 with
      | leaf l _ => cases l
      | lst nf hp n ra =>
        rename_i p xs A0
        refine ⟨.ref p, hv, .inl ⟨rfl, xs, .inl (.inl hp)⟩, ?_⟩
        refine ⟨B, ρ, F, R, PstS.expr R h fun s v F1 H1 A _ g1 vr fr h1 => ?_⟩
        split at h1
        · rename_i d
          split at h1
          · rename_i hl
            exact ⟨p, xs, v, rfl, rfl, g1.exH _ _ hp, sz_lt (by rw [ra.length]; exact hl.2), h1 σ F1 _ (appOg R g1 hx rfl hv (own_og hp) (.leaf hl.1 vr.2) (fun _ z => nomatch z))⟩
          · exact h1.elim
        · rename_i ds
          split at h1
          · rename_i hl
            obtain ⟨q, ys, rfl, rfl, f1, hq, rq⟩ := vr
            exact ⟨p, xs, .ref q, rfl, rfl, g1.exH _ _ hp, sz_lt (by rw [ra.length]; exact hl.2), h1 σ F1 _ (appOg R g1 hx rfl hv (own_og hp) (.lst f1 hq (by simp) (og_leaves rq hl.1)) fr)⟩
          · exact h1.elim
        · exact h1.elim
    · exact h.elim
/-- return (x[0], x[1]): what x owns goes with it -/
theorem s_retMv {i : Nat} {x : Str} {j j' k : Nat} {p p1 p2 p' p1' p2' p3 : Pos} (hN : X.N[i]? = some x := by rfl) (hv : Vis X.env.scope x := by first | exact Or.inl rfl | exact Or.inr (Or.inl rfl) | exact Or.inr (Or.inr rfl)) (hd : (x == ("__debug__" : Str)) = false := by decide)
    (hcd : (x == ("__classdict__" : Str)) = false := by decide)
    (hs : starEach [.Subscript (.Name x p) (.Constant (.int 0) j p1) p2, .Subscript (.Name x p') (.Constant (.int 1) j' p1') p2'] X.env = (false, eval (.Subscript (.Name x p) (.Constant (.int 0) j p1) p2) X.env) :: starEach [.Subscript (.Name x p') (.Constant (.int 1) j' p1') p2'] X.env := by rfl)
    (hs2 : starEach [.Subscript (.Name x p') (.Constant (.int 1) j' p1') p2'] X.env = (false, eval (.Subscript (.Name x p') (.Constant (.int 1) j' p1') p2') X.env) :: starEach [] X.env := by rfl)
    (hix : PlainIx (.Constant (.int 0) j p1) := by exact fun _ _ => rfl) (hix' : PlainIx (.Constant (.int 1) j' p1') := by exact fun _ _ => rfl) :
    ES X W (.Return (some (.Tuple [.Subscript (.Name x p) (.Constant (.int 0) j p1) p2, .Subscript (.Name x p') (.Constant (.int 1) j' p1') p2'] k p3)) pos) (sRetMv i) :=
  ps_weak (ps_ret (pe_tup (pa_cons (pe_ix ix_seq (pe_var hN hv hd hcd) pe_int hix) (pa_cons (pe_ix ix_seq (pe_var hN hv hd hcd) pe_int hix') pa_nil hs2) hs))) fun D σ H ⟨B, ρ, F, R, h⟩ => by
    unfold sRetMv at h
    split at h
    · rename_i a b hx
      obtain ⟨q, xs, hv, nf, hq, rp⟩ := R.owns hx
      cases rp with
      | cons r1 rt =>
        cases rt with
        | cons r2 rn =>
          cases rn
          rename_i v w
          refine ⟨.ref q, hv, .inl ⟨q, [v, w], 0, v, rfl, rfl, .inl (.inl hq), rfl, ?_⟩⟩
          refine ⟨.ref q, hv, .inl ⟨q, [v, w], 1, w, rfl, rfl, .inl (.inl hq), rfl, ?_⟩⟩
          refine ⟨by show 2 ≤ sizeLine; exact sz_of (by decide), fun T nT => ?_⟩
          have s := R.gr.sub
          exact h.2 (.ref T) (upd F T (.tup [v, w])) (upd H T (.tup [v, w])) [] (R.gr.trans (Grow.laid s nT)) ⟨rfl, .tup upd_same (.cons (r1.mono (Ex.new (s.back nT))) (.cons (r2.mono (Ex.new (s.back nT))) .nil))⟩ fun _ z => nomatch z
    · rename_i a b hx
      split at h
      · rename_i hl
        obtain ⟨fp, h1, _, h3⟩ := R.fp
        rcases h1 i _ hx with z | ⟨_, v0, hv, _, r⟩
        · cases z
        · have fr := h3 i
          generalize fp i = A at r fr
          cases r with
          | leaf l _ => cases l
          | lst nf hq n ra =>
            rename_i q xs A0
            have ra0 := ra
            have hlen := ra.length
            match xs, hlen with
            | [v, w], _ =>
              refine ⟨.ref q, hv, .inl ⟨q, [v, w], 0, v, rfl, rfl, .inl (.inl hq), rfl, ?_⟩⟩
              refine ⟨.ref q, hv, .inl ⟨q, [v, w], 1, w, rfl, rfl, .inl (.inl hq), rfl, ?_⟩⟩
              refine ⟨by show 2 ≤ sizeLine; exact sz_of (by decide), fun T nT => ?_⟩
              have s := R.gr.sub
              have nTA : T ∉ A0 := fun z => by
                obtain ⟨_, o, ho, _⟩ := ra.known T z
                rw [nT] at ho
                cases ho
              have mv : OgAll F (upd H T (.tup [v, w])) [v, w] A0 [a, b] := ra.move (Ex.refl F) (fun c hc => (ra.known c hc).1) fun c hc o ho => by
                rw [upd_ne (show c ≠ T from fun z => nTA (z ▸ hc))]
                exact ho
              refine h.2 (.ref T) F (upd H T (.tup [v, w])) (T :: A0) (R.gr.trans (Grow.own s nT)) ⟨hl, .tup hl (s.back nT) upd_same nTA mv⟩ fun c hc => ?_
              rcases List.mem_cons.mp hc with rfl | hc
              · exact R.gr.exH.back nT
              · exact (fr c (List.mem_cons_of_mem _ hc)).1
      · exact h.elim
    · exact h.elim
end
/-! x is not None, for a look at data of one's own -/
def notNOpG : Op2 := fun x y => match x, y with
  | .fz d, .fz .none => some (.fz (.bool (!dNone d)))
  | .vg _, .fz .none => some (.fz (.bool true))
  | _, _ => none
theorem ops_notNG {K : PySem.W.Frag} : OpS K (fun x y H Q => y = .non ∧ Q (.bl (!decide (x = .non))) H) notNOpG := by
  intro B F H x y A A' sx sy sl Q gr r1 r2 e q
  unfold notNOpG at e
  split at e <;> cases e
  · cases r2.2
    refine ⟨rfl, ?_⟩
    rw [rp_none r1.2]
    exact VRep.atom gr.sub q (Rp.bl _)
  · cases r2.2
    refine ⟨rfl, ?_⟩
    obtain ⟨_, l, A1, r⟩ := r1
    have : decide (x = V.non) = false := by
      cases r with
      | leaf l' _ => rw [l] at l'; cases l'
      | lst _ _ _ _ => simp
      | tup _ _ _ _ _ => simp
    rw [this]
    exact VRep.atom gr.sub q (Rp.bl _)
section
variable {X : Cx} {W : WX} {a b : Expr} {fa fb : EV} {pos : Pos}
theorem e_notNG (ha : EE X W a fa) (hb : EE X W b fb) : EE X W (.Compare a [.IsNot] [b] pos) (eBin notNOpG fa fb) := e_cmp op_notN ops_notNG ha hb
theorem t_notNG (ha : EE X W a fa) (hb : EE X W b fb) : ET X W (.Compare a [.IsNot] [b] pos) (cB (eBin notNOpG fa fb)) := t_cmp op_notN ops_notNG ha hb
end
end BV
namespace BV
open PySem PySem.Spec PyProof.Rows L2
/-! ### own errors -/
structure XCls (K : PySem.W.Frag) (mg : MG) (c : Str) : Prop where
  ex : ∃ D : Addr, mg c = some (.ref D) ∧ PySem.W.excIn K D [.type "ValueError", .type "Exception", .type "BaseException", .type "object"] "ValueError.__new__" = true ∧ PySem.W.keepIn K (.ref D) = true ∧ PySem.W.subIn K (.ref D) (.type "BaseException") = some true ∧ PySem.W.typeIn K (.ref D) = some (.type "type")
def sRaise (c : Str) : SV := fun ρ => .exc c ρ
section
variable {X : Cx} {W : WX}
theorem s_raise {c m : Str} {j : Nat} {p p2 pos pos2 : Pos} (R : XCls X.K X.mg c) (tk : L2N.Takes X W) (hc : X.calm = true := by rfl) (hg : Gl X c := by rfl) (hdb : (c == ("__debug__" : Str)) = false := by decide) :
    ES X W (.Raise (some (.Call (.Name c p) [.Constant (.str m) j p2] [] pos)) none pos2) (sRaise c) := by
  obtain ⟨D, g, x, k, b, t⟩ := R.ex
  exact ps_weak (L2N.ps_raise hc tk (L2N.pmk_own PySem.F.excBase_ValueError x g k (raises_own b t) hg hdb)) fun DE σ H ⟨B, ρ, F, R, h⟩ => h σ F H R _ g
end
/-! ### the kinds of a caught error -/
def knds : List Str := ["BadRatio", "BadTrain", "BadShop", "BadPairs", "BadPlace", "BadWheel", "TooLong", "NoText"]
def kindsB (c : Str) : List Bool := knds.map (fun n => n == c) ++ [true]
structure KC (K : PySem.W.Frag) (mg : MG) (c : Str) (D : Addr) : Prop where
  g : mg c = some (.ref D)
  ex : ExcC K D
  is : ∀ n ∈ knds, ∃ Dn : Addr, mg n = some (.ref Dn) ∧ PySem.W.kitOne K (.ref D) (.ref Dn) = some (n == c)
  ve : PySem.W.kitOne K (.ref D) (.type "ValueError") = some true
  vn : mg "ValueError" = none
  isi : mg "isinstance" = none
  tr : ∃ T : Value, mg "TrainError" = some T ∧ PySem.W.exmOne K (.ref D) T = some true
/-- an object that is kept by: an error of the class at D -/
def ErrO (D : Addr) (oe : Obj) : Prop := oe.cls = .ref D ∧ oe.dict = none ∧ ∃ vs, oe.data = .fields vs
theorem call_isP {X : Cx} {a D : Addr} {oe : Obj} (C : ExcC X.K D) (mem : (a, oe) ∈ X.pn) (hz : ErrO D oe) : CallR X (.builtin "isinstance") (rIsE X.K D a) := fun pins s σ H xs us Q I rv ⟨c, cv, b, exs, only, kit, post⟩ => by
  subst exs
  cases rv with
  | cons r1 rest =>
    cases rest with
    | cons r2 rest2 =>
      cases rest2
      cases r1
      cases only _ r2
      obtain ⟨there, _⟩ := I.pin (a, oe) (List.mem_append_left _ mem)
      obtain ⟨z1, z2, vs, z3⟩ := hz
      have inst : PySem.W.InstAt s.heap a oe D none := by
        cases oe
        cases z1
        cases z2
        cases z3
        exact ⟨there, rfl, rfl, trivial⟩
      exact PySem.W.kia_one (PySem.W.handS_kitx_exc C.hg C.hk C.hs C.hd C.ha C.hn C.ht C.hm) I.kIn inst kit (fun z => nomatch z) fun tk => ⟨.bl b, H, I.kept (t' := tk) fun _ _ z => z, rfl, post⟩
def tIs (a : Addr) (b : Bool) : TE := fun σ H Q => σ[0]? = some (some (.ref a)) ∧ Q (.bl b) H
section
variable {X : Cx} {a D : Addr} {oe : Obj} {x n : Str} {p p1 p2 pos : Pos}
theorem pe_isN (C : ExcC X.K D) (mem : (a, oe) ∈ X.pn) (hz : ErrO D oe) (hm : X.mg "isinstance" = none) {b : Bool} (hn : ∃ Dn : Addr, X.mg n = some (.ref Dn) ∧ PySem.W.kitOne X.K (.ref D) (.ref Dn) = some b) (hx : X.N[0]? = some x := by rfl) (hv : Vis X.env.scope x := by exact Or.inl rfl)
    (hd : (x == ("__debug__" : Str)) = false := by decide) (hcd : (x == ("__classdict__" : Str)) = false := by decide) (hd2 : (n == ("__debug__" : Str)) = false := by decide) (hg : Gl X "isinstance" := by rfl) (hg2 : Gl X n := by rfl)
    (he : starEach [.Name x p1, .Name n p2] X.env = (false, eval (.Name x p1) X.env) :: starEach [.Name n p2] X.env := by rfl) (he2 : starEach [.Name n p2] X.env = (false, eval (.Name n p2) X.env) :: starEach [] X.env := by rfl) (hpl : (backTo pos (starEach [.Name n p2] X.env)).any (·.1) = false := by rfl) :
    PE X (.Call (.Name "isinstance" p) [.Name x p1, .Name n p2] [] pos) (tIs a b) := by
  obtain ⟨Dn, g, k⟩ := hn
  exact pe_weak (pe_callB (call_isP C mem hz) hg hm (by decide +kernel) (pa_cons (pe_var hx hv hd hcd) (pa_cons (pe_glob (v := .ref Dn) hg2 g rfl hd2) pa_nil he2) he) (by decide) (by decide) he hpl) fun σ H Q h => ⟨.ref a, h.1, .ref Dn, .ref Dn, b, rfl, fun u z => z, k, h.2⟩
theorem pe_isV (C : ExcC X.K D) (mem : (a, oe) ∈ X.pn) (hz : ErrO D oe) (hm : X.mg "isinstance" = none) (hm2 : X.mg "ValueError" = none) (k : PySem.W.kitOne X.K (.ref D) (.type "ValueError") = some true) (hx : X.N[0]? = some x := by rfl) (hv : Vis X.env.scope x := by exact Or.inl rfl)
    (hd : (x == ("__debug__" : Str)) = false := by decide) (hcd : (x == ("__classdict__" : Str)) = false := by decide) (hg : Gl X "isinstance" := by rfl) (hg2 : Gl X "ValueError" := by rfl)
    (he : starEach [.Name x p1, .Name "ValueError" p2] X.env = (false, eval (.Name x p1) X.env) :: starEach [.Name "ValueError" p2] X.env := by rfl) (he2 : starEach [.Name "ValueError" p2] X.env = (false, eval (.Name "ValueError" p2) X.env) :: starEach [] X.env := by rfl) (hpl : (backTo pos (starEach [.Name "ValueError" p2] X.env)).any (·.1) = false := by rfl) :
    PE X (.Call (.Name "isinstance" p) [.Name x p1, .Name "ValueError" p2] [] pos) (tIs a true) :=
  pe_weak (pe_callB (call_isP C mem hz) hg hm (by decide +kernel) (pa_cons (pe_var hx hv hd hcd) (pa_cons (pe_bltn (v := .ty "ValueError") hg2 hm2 (by decide +kernel) rfl (by decide) (by decide)) pa_nil he2) he) (by decide) (by decide) he hpl) fun σ H Q h => ⟨.ref a, h.1, .ty "ValueError", .type "ValueError", true, rfl, fun u z => z, k, h.2⟩
end
/-! ### defs that an except suite calls with the error -/
structure FnE (P : Program) (w : World) (K : PySem.W.Frag) (mg : MG) (base : Heap) (CX : CXT) (k : Nat) (f : Addr) (fd : FuncData) (ps : List Str) (sp : Addr × Obj → Sp) : Prop where
  len : ∀ p vs H Q E, sp p vs H Q E → vs.length = ps.length
  run : ∀ (p : Addr × Obj) (A : Around) (outer : List Env) (s : Shared) (H : Hp) (args : Args) (us : List Value) (vs : List V) (Q : VK) (E : XK), L2H.RoomH k A → L2H.PinOk outer H s p → Env0 P w K mg base A outer s H →
    BindsTo s fd args (ps.zip us) → Vals vs us → sp p vs H Q E → codeAny (model P w) A (.call (.ref f) args) (CR CX outer P w H s Q E) s
section
variable {P : Program} {w : World} {K : PySem.W.Frag} {mg : MG} {base : Heap}
theorem fn_ofE {CX : CXT} {x qual : Str} {st : Stmt} {f : Addr} {fd : FuncData} {N ps : List Str} {k : Nat} {sp : Addr × Obj → Sp} (F : Fun K x qual st f fd) (S : FnScope N ps (defScope st)) (len : ∀ p vs H Q E, sp p vs H Q E → vs.length = ps.length)
    (body : ∀ (cdv : Value) (p : Addr × Obj) (A : Around) (outer : List Env) (s : Shared) (H : Hp) (vs : List V) (Q : VK) (E : XK), L2H.RoomH k (A.deeper (envOfC qual (defScope st) s.heap.objs.size f cdv)) → sp p vs H Q E →
      ∃ t, PSs (L2H.cxH CX P w K mg base N qual (defScope st) f cdv A outer s H E p) (defBody st) t ∧ t { nx := fun _ H' => Q .non H', rt := Q } (start N vs) H) : FnE P w K mg base CX (k + 1) f fd ps sp := by
  obtain ⟨_, _, _, _, _, _, cdv, _, _, rfl, look, code⟩ := F.ex
  refine ⟨len, fun p A outer s H args us vs Q E room pin env bind vals pre => ?_⟩
  have size := len p _ _ _ _ pre
  have kin : K.In s.heap := env.mod.kin.keeps fun b o z => (env.bs b o z).1
  have free : s.heap.NoLimit := env.mod.nolimit.keeps fun b o z => (env.bs b o z).1
  have kinds : ∀ y ∈ ps.zip us, (defScope st).names.lookup y.1 = some .local ∨ ((defScope st).names.lookup y.1 = some .cell ∧ ((cellsFrom (s.heap.objs.size + 1) (defScope st).names []).lookup y.1).isSome = true) := fun ⟨n, v⟩ mem =>
    (S.par n (List.of_mem_zip mem).1).imp (fun z => z) fun z => ⟨z, PySem.W.cellsFrom_some _ _ _ (.inl z)⟩
  refine codeAny_call_function room.depth (kin _ _ look) rfl S.co S.gen rfl (PySem.W.codeRec_of kin code) (bind _ _ _ _ ?_)
  refine wpAny_newFunctionEnv_cells S.kind kinds fun env' same s1 call => ?_
  cases same
  refine ⟨free.keeps call.toInCall.keep, codeAny_func ?_⟩
  obtain ⟨t, derived, wish⟩ := body cdv p A outer s H vs Q E (room.deeper _) pre
  have inv : Inv (L2H.cxH CX P w K mg base N qual (defScope st) f cdv A outer s H E p) [] (start N vs) H s1 := L2H.inv_startH S pin env size vals call
  refine wpAny_mono (derived.run [] s1 (start N vs) H _ inv wish) (fun flow s' done => ?_) fun _ _ z => z
  have out : ∀ {σ' : L2.St} {H' : Hp} {v : V} {u : Value}, Inv (L2H.cxH CX P w K mg base N qual (defScope st) f cdv A outer s H E p) [] σ' H' s' → RelV v u → Q v H' → CE outer P w H s Q u s' :=
    fun J r q => ⟨_, _, J.os, J.bare, J.base, J.hok, r, q⟩
  cases flow with
  | ret u =>
    obtain ⟨v, σ', H', J, r, q⟩ := done
    exact out J r q
  | next =>
    obtain ⟨σ', H', J, q⟩ := done
    exact out (v := .non) (u := .none) J rfl q
  | brk =>
    obtain ⟨_, _, _, z⟩ := done
    exact z.elim
  | cont =>
    obtain ⟨_, _, _, z⟩ := done
    exact z.elim
end
/-- f(e), where the context bears the error p -/
theorem pe_callE {X : Cx} {CX : CXT} {k : Nat} {f : Addr} {fd : FuncData} {sp : Addr × Obj → Sp} {x y n : Str} {i : Nat} {q q1 pos : Pos} {p : Addr × Obj} (F : FnE X.prog X.w X.K X.mg X.base CX k f fd [y] sp) (room : L2H.RoomH k X.A) (mem : p ∈ X.pn) (hm : X.mg x = some (.ref f)) (hk : PySem.W.keepIn X.K (.ref f) = true) (hb : Binds X.K fd [y] [])
    (pass : ∀ σ, PassesAt CX X σ (fun _ _ _ => False)) (hN : X.N[i]? = some n) (hv : Vis X.env.scope n) (hg : Gl X x := by rfl) (hd : (n == ("__debug__" : Str)) = false := by decide) (hcd : (n == ("__classdict__" : Str)) = false := by decide) (hdb : (x == ("__debug__" : Str)) = false := by decide)
    (he : starEach [.Name n q1] X.env = (false, eval (.Name n q1) X.env) :: starEach [] X.env := by rfl) (hpl : (backTo pos (starEach [] X.env)).any (·.1) = false := by rfl) :
    PE X (.Call (.Name x q) [.Name n q1] [] pos) (fun σ H Q => ∃ v, σ[i]? = some (some v) ∧ sp p [v] H Q (fun _ _ _ => False)) := by
  refine ⟨fun pins s σ H Q I h => ?_⟩
  have args : PA X [.Name n q1] (tCons (tVar i) tNil) := pa_cons (pe_var hN hv hd hcd) pa_nil he
  obtain ⟨v, hσ, hsp⟩ := h
  refine wpAny_Call_Name_kw (ld_glob I hg hm ?_ hdb)
  refine PySem.W.callWith_K (h₀ := X.base) I.ok.mod.kin hk (thn (args.run pos pins s σ H (fun vs H1 => sp p vs H1 Q (fun _ _ _ => False)) I ⟨v, hσ, hsp⟩) fun us s1 ⟨vs, H1, I1, rv, post⟩ => ⟨I1.kIn, ?_⟩) he hpl
  have size : us.length = 1 := by rw [← rv.length]; exact F.len _ _ _ _ _ post
  have bound := hb s1 us I1.kIn (by rw [List.append_nil]; exact size)
  rw [List.append_nil] at bound
  have there := I1.pin p (List.mem_append_left _ mem)
  have pin : L2H.PinOk X.stack H1 s1 p := ⟨there.1, there.2.1, fun z => (List.mem_cons.mp (I1.stkSub p.1 z)).elim there.2.2.1 there.2.2.2.1, there.2.2.2.2⟩
  refine wpAny_call (codeAny_mono (F.run p X.A X.stack s1 H1 ⟨us, []⟩ us vs Q _ room pin I1.env0 bound rv post) fun r s' done => ?_)
  cases r with
  | error u => exact pass σ pins H1 s1 u s' I1 done
  | ok flow =>
    cases flow with
    | ret u => exact I1.after done
    | next => exact done.elim
    | brk => exact done.elim
    | cont => exact done.elim
end BV
namespace BV
open PySem PySem.Spec PyProof.Rows L2
/-! ### the kinds of a caught error, told in a list -/
def spK (K : PySem.W.Frag) (mg : MG) (p : Addr × Obj) : Sp := fun vs H Q _ => vs = [.ref p.1] ∧ ∃ (c : Str) (D : Addr), KC K mg c D ∧ ErrO D p.2 ∧ ∀ q H', Ex H H' → H q = none → H' q = some (.lst ((kindsB c).map V.bl)) → Q (.ref q) H'
def t_kinds (a : Addr) (c : Str) : TS :=
  tSeq (tAsg (tLst (tCons (tIs a ("BadRatio" == c)) (tCons (tIs a ("BadTrain" == c)) (tCons (tIs a ("BadShop" == c)) (tCons (tIs a ("BadPairs" == c)) tNil))))) (gName 1))
    (tSeq (tAsg (tOp rCat (tVar 1) (tLst (tCons (tIs a ("BadPlace" == c)) (tCons (tIs a ("BadWheel" == c)) (tCons (tIs a ("TooLong" == c)) (tCons (tIs a ("NoText" == c)) tNil)))))) (gName 1))
      (tRet (tOp rCat (tVar 1) (tLst (tCons (tIs a true) tNil)))))
theorem kinds_read {H : Hp} {Q : VK} {c : Str} {a : Addr} (post : ∀ q H', Ex H H' → H q = none → H' q = some (.lst ((kindsB c).map V.bl)) → Q (.ref q) H') :
    t_kinds a c { nx := fun _ H' => Q .non H', rt := Q } [some (.ref a), none] H := by
  have sz4 : ∀ {xs : List V}, xs.length ≤ 20 → xs.length ≤ sizeLine := fun h => Nat.le_trans h (sz_of (by decide))
  have ne : ∀ {x y : Addr} {h : Hp} {o : HO}, h x = some o → h y = none → x ≠ y := fun h1 h2 z => by
    rw [z, h2] at h1
    cases h1
  refine ⟨rfl, rfl, rfl, rfl, sz4 (by show 4 ≤ 20; decide), fun q1 n1 => ?_⟩
  have g1 : Ex H (upd H q1 (.lst [.bl ("BadRatio" == c), .bl ("BadTrain" == c), .bl ("BadShop" == c), .bl ("BadPairs" == c)])) := Ex.new n1
  generalize hH1 : upd H q1 (.lst [.bl ("BadRatio" == c), .bl ("BadTrain" == c), .bl ("BadShop" == c), .bl ("BadPairs" == c)]) = H1 at g1
  have a1 : H1 q1 = some (.lst [.bl ("BadRatio" == c), .bl ("BadTrain" == c), .bl ("BadShop" == c), .bl ("BadPairs" == c)]) := by rw [← hH1]; exact upd_same
  refine ⟨.ref q1, rfl, rfl, rfl, rfl, rfl, sz4 (by show 4 ≤ 20; decide), fun q2 n2 => ?_⟩
  refine ⟨q1, q2, _, _, rfl, rfl, (upd_ne (ne a1 n2)).trans a1, upd_same, sz4 (xs := List.replicate 8 V.non) (by decide), fun q3 n3 => ?_⟩
  have g2 : Ex H1 (upd H1 q2 (.lst [.bl ("BadPlace" == c), .bl ("BadWheel" == c), .bl ("TooLong" == c), .bl ("NoText" == c)])) := Ex.new n2
  generalize upd H1 q2 (.lst [.bl ("BadPlace" == c), .bl ("BadWheel" == c), .bl ("TooLong" == c), .bl ("NoText" == c)]) = H2 at *
  have g3 := Ex.new (o := .lst [.bl ("BadRatio" == c), .bl ("BadTrain" == c), .bl ("BadShop" == c), .bl ("BadPairs" == c), .bl ("BadPlace" == c), .bl ("BadWheel" == c), .bl ("TooLong" == c), .bl ("NoText" == c)]) n3
  show tRet (tOp rCat (tVar 1) (tLst (tCons (tIs a true) tNil))) _ _ (upd H2 q3 (.lst [.bl ("BadRatio" == c), .bl ("BadTrain" == c), .bl ("BadShop" == c), .bl ("BadPairs" == c), .bl ("BadPlace" == c), .bl ("BadWheel" == c), .bl ("TooLong" == c), .bl ("NoText" == c)]))
  have a3 : upd H2 q3 (.lst [.bl ("BadRatio" == c), .bl ("BadTrain" == c), .bl ("BadShop" == c), .bl ("BadPairs" == c), .bl ("BadPlace" == c), .bl ("BadWheel" == c), .bl ("TooLong" == c), .bl ("NoText" == c)]) q3 = some (.lst [.bl ("BadRatio" == c), .bl ("BadTrain" == c), .bl ("BadShop" == c), .bl ("BadPairs" == c), .bl ("BadPlace" == c), .bl ("BadWheel" == c), .bl ("TooLong" == c), .bl ("NoText" == c)]) := upd_same
  generalize upd H2 q3 (.lst [.bl ("BadRatio" == c), .bl ("BadTrain" == c), .bl ("BadShop" == c), .bl ("BadPairs" == c), .bl ("BadPlace" == c), .bl ("BadWheel" == c), .bl ("TooLong" == c), .bl ("NoText" == c)]) = H3 at *
  refine ⟨.ref q3, rfl, rfl, sz4 (by show 1 ≤ 20; decide), fun q4 n4 => ?_⟩
  refine ⟨q3, q4, _, _, rfl, rfl, (upd_ne (ne a3 n4)).trans a3, upd_same, sz4 (xs := List.replicate 9 V.non) (by decide), fun q5 n5 => ?_⟩
  have g4 : Ex H3 (upd H3 q4 (.lst [.bl true])) := Ex.new n4
  have all := ((g1.trans g2).trans g3).trans g4
  exact post q5 _ (all.trans (Ex.new n5)) (all.back n5) upd_same
structure DfE (P : Program) (w : World) (K : PySem.W.Frag) (mg : MG) (base : Heap) (x : Str) (k : Nat) : Prop where
  ex : ∃ (f : Addr) (fd : FuncData) (y : Str), FnE P w K mg base (L2N.CX P w) k f fd [y] (spK K mg) ∧ mg x = some (.ref f) ∧ PySem.W.keepIn K (.ref f) = true ∧ Binds K fd [y] []
/-- what a suite's call of it asks -/
def tKE (K : PySem.W.Frag) (mg : MG) (i : Nat) (a : Addr) (cls : Value) (d : Option Addr) : TE := fun σ H Q => σ[i]? = some (some (.ref a)) ∧ d = none ∧ ∃ (c : Str) (D : Addr), cls = .ref D ∧ KC K mg c D ∧ ∀ q H', Ex H H' → H q = none → H' q = some (.lst ((kindsB c).map V.bl)) → Q (.ref q) H'
theorem pe_kinds {X : Cx} {k : Nat} {x n : Str} {i : Nat} {q q1 pos : Pos} {a : Addr} {oe : Obj} {cls : Value} {d : Option Addr} {pn : List (Addr × Obj)} (G : DfE X.prog X.w X.K X.mg X.base x k) (room : Room k X.A) (zn : L2N.Zn cls d oe) (fs : ∃ vs, oe.data = .fields vs) (hN : X.N[i]? = some n) (hv : Vis X.env.scope n) (hg : Gl X x)
    (hd : (n == ("__debug__" : Str)) = false := by decide) (hcd : (n == ("__classdict__" : Str)) = false := by decide) (hdb : (x == ("__debug__" : Str)) = false := by decide)
    (he : starEach [.Name n q1] X.env = (false, eval (.Name n q1) X.env) :: starEach [] X.env := by rfl) (hpl : (backTo pos (starEach [] X.env)).any (·.1) = false := by rfl) :
    PE (X.suite a ((a, oe) :: pn)) (.Call (.Name x q) [.Name n q1] [] pos) (tKE X.K X.mg i a cls d) := by
  obtain ⟨f, fd, y, F, hm, hk, hb⟩ := G.ex
  refine pe_weak (pe_callE (X := X.suite a ((a, oe) :: pn)) (p := (a, oe)) F ⟨room.dp, room.un⟩ (List.mem_cons_self ..) hm hk hb (fun σ pins H s e s' _ z => ?_) hN hv hg hd hcd hdb he hpl) fun σ H Q ⟨h1, h2, c, D, h3, h4, h5⟩ => ⟨.ref a, h1, rfl, c, D, h4, ⟨zn.1.trans h3, zn.2.1.trans h2, fs⟩, h5⟩
  obtain ⟨_, _, _, _, _, _, _, _, _, _, _, _, z⟩ := z
  exact z.elim
def sTry (i : Nat) (L : List Str) (out : Str → Sl) (g : SV) : SV := fun ρ => match g ρ with
  | .exc c ρ' => if c ∈ L ∧ i < ρ'.length then .rt (out c) else .bad
  | o => o
section
variable {X : Cx} {W : WX} {x n : Str} {i : Nat} {body suite : List Stmt} {b0 : Stmt} {np pos pos' : Pos} {g : SV} {L : List Str} {out : Str → Sl}
theorem s_tryCore (tsu : Addr → Value → Option Addr → TE) (hL : ∃ c, c ∈ L) (KL : ∀ c ∈ L, ∃ D, KC X.K X.mg c D) (hN : X.N.Nodup) (hi : X.N[i]? = some n)
    (hb : ∀ (W : WX) (pn : List (Addr × Obj)) (xe : Value → Shared → Prop), L2N.Takes (X.tr pn xe) W → PassesOwn (model X.prog X.w) X.A X.env xe → ESs (X.tr pn xe) W body g)
    (hsu : ∀ (a : Addr) (oe : Obj) (cls : Value) (d : Option Addr) (pn : List (Addr × Obj)), L2N.Zn cls d oe → (∃ vs, oe.data = .fields vs) → PSs (X.suite a ((a, oe) :: pn)) (b0 :: suite) (tRet (tsu a cls d)))
    (sem : ∀ c D, c ∈ L → KC X.K X.mg c D → ∀ (B : Bs) (F : Hp) (a : Addr) (σ : L2.St) (H : Hp) (Q : VK), Grow B.F0 B.H0 F H → σ[i]? = some (some (.ref a)) → (∀ v F' H' A, Grow F H F' H' → VRep X.K B F' H' v A (out c) → (∀ x ∈ A, H x = none) → Q v H') → tsu a (.ref D) none σ H Q)
    (hs : X.stack = X.env :: X.outer := by rfl) (hf : X.env.frame = some X.env.locals := by rfl) (hln : X.env.kindOf n = some .local := by rfl) (hg : Gl X "TrainError" := by rfl) :
    ES X W (.Try body [.ExceptHandler (some (.Name "TrainError" np)) (some n) (b0 :: suite) pos'] [] [] pos) (sTry i L out g) := by
  obtain ⟨c0, hc0⟩ := hL
  obtain ⟨D0, kc0⟩ := KL c0 hc0
  obtain ⟨T, hT, _⟩ := kc0.tr
  refine ps_weak (L2N.ps_try_as (c := T) (tb := fun W => tS X.K X.mg W g) (ts := fun a cls d => tRet (tsu a cls d)) (Wout := fun _ _ _ _ => False) hs hf hN hi hln ⟨hg, by decide, .inl hT⟩ takesN0 hb hsu) fun DE σ H ⟨B, ρ, F, R, h⟩ => ⟨B, ρ, F, R, ?_⟩
  unfold sTry at h
  cases e : g ρ with
  | exc c ρ' =>
    rw [e] at h
    dsimp only at h
    split at h
    · rename_i hc
      obtain ⟨D, kc⟩ := KL c hc.1
      obtain ⟨T', hT', ex⟩ := kc.tr
      rw [hT] at hT'
      cases hT'
      intro σ1 F1 H1 R1 cls hcls
      rw [kc.g] at hcls
      cases hcls
      refine ⟨true, ex, fun _ a _ => ?_, fun z => Bool.noConfusion z⟩
      refine sem c D hc.1 kc B F1 a _ H1 DE.rt R1.gr (List.getElem?_set_self (by rw [← R1.len]; exact hc.2)) fun v F2 H2 A g2 vr fr => ?_
      exact h.2 v F2 H2 A (R1.gr.trans g2) vr fun x hx => R1.gr.exH.back (fr x hx)
    · exact h.elim
  | nx ρ' => rw [e] at h; exact h
  | bk ρ' => rw [e] at h; exact h
  | ct ρ' => rw [e] at h; exact h
  | rt sl => rw [e] at h; exact h
  | bad => rw [e] at h; exact h
end
theorem bools_rp {F : Hp} : ∀ bs : List Bool, RpAll F (bs.map V.bl) (bs.map PyData.bool)
  | [] => .nil
  | b :: bs => .cons (.bl b) (bools_rp bs)
section
variable {X : Cx} {W : WX} {x n : Str} {i k : Nat} {body : List Stmt} {np pos pos' q q1 p1 p2 p3 p4 : Pos} {g : SV} {L : List Str}
def outA (c : Str) : Sl := .ow ((kindsB c).map PyData.bool)
def outB (c : Str) : Sl := .fz (.tuple ((kindsB c).map PyData.bool))
/-- try: .. except TrainError as e: return kinds(e) -/
theorem s_tryA (G : DfE X.prog X.w X.K X.mg X.base x k) (room : Room k X.A) (hL : ∃ c, c ∈ L) (KL : ∀ c ∈ L, ∃ D, KC X.K X.mg c D) (hN : X.N.Nodup)
    (hb : ∀ (W : WX) (pn : List (Addr × Obj)) (xe : Value → Shared → Prop), L2N.Takes (X.tr pn xe) W → PassesOwn (model X.prog X.w) X.A X.env xe → ESs (X.tr pn xe) W body g)
    (hi : X.N[i]? = some n := by rfl) (hv : Vis X.env.scope n := by exact Or.inl rfl) (hg : Gl X x := by rfl) (hd : (n == ("__debug__" : Str)) = false := by decide) (hcd : (n == ("__classdict__" : Str)) = false := by decide) (hdb : (x == ("__debug__" : Str)) = false := by decide)
    (he : starEach [.Name n q1] X.env = (false, eval (.Name n q1) X.env) :: starEach [] X.env := by rfl) (hpl : (backTo p1 (starEach [] X.env)).any (·.1) = false := by rfl)
    (hs : X.stack = X.env :: X.outer := by rfl) (hf : X.env.frame = some X.env.locals := by rfl) (hln : X.env.kindOf n = some .local := by rfl) (hgT : Gl X "TrainError" := by rfl) :
    ES X W (.Try body [.ExceptHandler (some (.Name "TrainError" np)) (some n) [.Return (some (.Call (.Name x q) [.Name n q1] [] p1)) p2] pos'] [] [] pos) (sTry i L outA g) :=
  s_tryCore (tKE X.K X.mg i) hL KL hN hi hb (fun a oe cls d pn zn fs => pss_one (ps_ret (pe_kinds G room zn fs hi hv hg hd hcd hdb he hpl))) (fun c D _ kc B F a σ H Q gr hσ post =>
    ⟨hσ, rfl, c, D, rfl, kc, fun r H' ex nr hr => post (.ref r) F H' [r] ⟨Ex.refl F, ex, gr.sub.trans ex, fun _ _ z => .inl z⟩ ⟨r, _, rfl, rfl, gr.sub.back nr, hr, bools_rp _⟩ fun y hy => by
      cases hy with
      | head => exact nr
      | tail _ z => cases z⟩) hs hf hln hgT
/-- .. return tuple(kinds(e)) -/
theorem s_tryB (G : DfE X.prog X.w X.K X.mg X.base x k) (room : Room k X.A) (hL : ∃ c, c ∈ L) (KL : ∀ c ∈ L, ∃ D, KC X.K X.mg c D) (hm : X.mg "tuple" = none) (hN : X.N.Nodup)
    (hb : ∀ (W : WX) (pn : List (Addr × Obj)) (xe : Value → Shared → Prop), L2N.Takes (X.tr pn xe) W → PassesOwn (model X.prog X.w) X.A X.env xe → ESs (X.tr pn xe) W body g)
    (hi : X.N[i]? = some n := by rfl) (hv : Vis X.env.scope n := by exact Or.inl rfl) (hg : Gl X x := by rfl) (hgt : Gl X "tuple" := by rfl) (hd : (n == ("__debug__" : Str)) = false := by decide) (hcd : (n == ("__classdict__" : Str)) = false := by decide) (hdb : (x == ("__debug__" : Str)) = false := by decide)
    (he : starEach [.Name n q1] X.env = (false, eval (.Name n q1) X.env) :: starEach [] X.env := by rfl) (hpl : (backTo p1 (starEach [] X.env)).any (·.1) = false := by rfl)
    (he2 : starEach [.Call (.Name x q) [.Name n q1] [] p1] X.env = (false, eval (.Call (.Name x q) [.Name n q1] [] p1) X.env) :: starEach [] X.env := by rfl)
    (hpl2 : (backTo p4 (starEach [] X.env)).any (·.1) = false := by rfl)
    (hs : X.stack = X.env :: X.outer := by rfl) (hf : X.env.frame = some X.env.locals := by rfl) (hln : X.env.kindOf n = some .local := by rfl) (hgT : Gl X "TrainError" := by rfl) :
    ES X W (.Try body [.ExceptHandler (some (.Name "TrainError" np)) (some n) [.Return (some (.Call (.Name "tuple" p3) [.Call (.Name x q) [.Name n q1] [] p1] [] p4)) p2] pos'] [] [] pos) (sTry i L outB g) :=
  s_tryCore (fun a cls d => tCB (fun xs H Q => ∃ p ys, xs = [.ref p] ∧ ((SqL X.K H p ys ∧ ∀ l, H l = none → Q (.ref l) (upd H l (.tup ys))) ∨ (SqT X.K H p ys ∧ Q (.ref p) H))) (tCons (tKE X.K X.mg i a cls d) tNil)) hL KL hN hi hb
    (fun a oe cls d pn zn fs => pss_one (ps_ret (pe_callTy call_tuple_of hgt hm (by decide +kernel) (pa_cons (pe_kinds G room zn fs hi hv hg hd hcd hdb he hpl) pa_nil he2) (by decide) (by decide) he2 hpl2))) (fun c D _ kc B F a σ H Q gr hσ post =>
    ⟨hσ, rfl, c, D, rfl, kc, fun r H' ex nr hr => ⟨r, _, rfl, .inl ⟨.inl (.inl hr), fun l nl => by
      have g1 : Grow F H F H' := ⟨Ex.refl F, ex, gr.sub.trans ex, fun _ _ z => .inl z⟩
      exact post (.ref l) _ _ [] (g1.trans (Grow.laid g1.sub nl)) ⟨rfl, .tup upd_same (bools_rp _)⟩ fun _ z => nomatch z⟩⟩⟩) hs hf hln hgT
end
end BV
namespace BV
open PySem PySem.Spec PyProof.Rows L2
/-! ### x[k] = e -/
section
variable {X : Cx} {W : WX} {e y : Expr} {f g : EV} {x : Str} {i : Nat} {p2 p3 pos : Pos}
theorem s_putL {n : Nat} (room : Room n X.A) (hk : EE X W y f) (he : EE X W e g) (hN : X.N[i]? = some x := by rfl) (hv : Vis X.env.scope x := by first | exact Or.inl rfl | exact Or.inr (Or.inl rfl) | exact Or.inr (Or.inr rfl)) (hd : (x == ("__debug__" : Str)) = false := by decide)
    (hcd : (x == ("__classdict__" : Str)) = false := by decide)
    (ha : ∀ v, assign (.Subscript (.Name x p2) y p3) X.env v = (do
      let o ← holding [v] (eval (.Name x p2) X.env)
      let k ← holding [v, o] (eval y X.env)
      standAt p3
      holding [v, o, k] (setItem o k v)
      release [v, o, k] []) := by intro _; rfl) (h1 : swapsWithSole [.Subscript (.Name x p2) y p3] e pos.line X.env = pure false := by rfl) (h2 : swappedStores [.Subscript (.Name x p2) y p3] e X.env = pure none := by rfl)
    (h3 : (assignEach [.Subscript (.Name x p2) y p3] X.env).map (·.2) = [assign (.Subscript (.Name x p2) y p3) X.env] := by rfl) :
    ES X W (.Assign [.Subscript (.Name x p2) y p3] e pos) (sPutL i f g) := ps_weak (ps_asg he (pg_sub (pe_var hN hv hd hcd) hk set_list ha) h1 h2 h3) fun D σ H ⟨B, ρ, F, R, h⟩ => by
  unfold sPutL at h
  split at h
  · rename_i ds hx
    refine ⟨B, ρ, F, R, PstS.expr R h fun s v F1 H1 A _ g1 vr fr h1 => ?_⟩
    cases e1 : argS s with
    | exc c => exact (argS_exc e1).elim
    | bad => rw [e1] at h1; exact h1.elim
    | ok t =>
      rw [e1] at h1
      obtain ⟨rfl, kd, kt⟩ := argS_ok e1
      obtain ⟨F2, g2, vr2⟩ := settle_ok g1 vr fr kd kt
      have R2 := R.grow g2
      obtain ⟨p, xs, hv2, nf, hp, rp⟩ := R2.owns hx
      rw [Rs.out_ok] at h1
      refine ⟨.ref p, hv2, B, ρ, F2, R2, PstS.expr R2 h1 fun s3 v3 F3 H3 A3 _ g3 vr3 fr3 h3 => ?_⟩
      split at h3
      · rename_i d z ed ez
        split at h3
        · rename_i j hj
          rw [ed] at vr2
          have := fz_int vr3
          subst this
          have hp3 := g3.exH _ _ hp
          have rp3 := rp.mono g3.exF
          have hix : ixN xs.length z = some j := by
            unfold natIx at hj
            split at hj
            · rename_i hz
              cases hj
              unfold ixN
              rw [rp3.length, if_pos hz.1, if_pos hz.2]
            · cases hj
          exact ⟨p, xs, z, j, rfl, rfl, hp3, hix, h3 σ F3 _ ((R2.grow g3).setOw hx hv2 (rp3.set (vr2.2.mono g3.exF) j))⟩
        · exact h3.elim
      · exact h3.elim
  · exact h.elim
end
end BV
namespace BV
open PySem PySem.Spec PyProof.Rows L2
/-! ### a comprehension over range within an except suite -/
/-- a block's context that bears the handled error -/
abbrev hotB (X : Cx) (s : Shared) (H : Hp) (scope : Scope) (ce : Env) (fp : List Addr) (p : Addr × Obj) : Cx := { X.blk s H scope ce fp with pn := [p] }
theorem pn_in {X : Cx} {pins : List (Addr × Obj)} {σ : L2.St} {H : Hp} {s : Shared} {pn : List (Addr × Obj)} (J : Inv X pins σ H s)
    (h : ∀ q ∈ pn ++ pins, s.heap.get? q.1 = some q.2 ∧ H q.1 = none ∧ q.1 ≠ X.env.locals ∧ q.1 ∉ X.fs ∧ ∀ v, q.2.data ≠ .cell v) : Inv { X with pn := pn } pins σ H s := by
  obtain ⟨⟨o1, o2, o3, o4, o5, o6, o7, o8, o9, o10, o11, o12, o13, o14, o15, o16, o17, o18⟩, j1, j2, j3, j4, j5, j6, j7, _, j9, j10⟩ := J
  exact ⟨⟨o1, o2, o3, o4, o5, o6, o7, o8, o9, o10, o11, o12, o13, o14, o15, o16, o17, o18⟩, j1, j2, j3, j4, j5, j6, j7, h, j9, j10⟩
section
variable {X : Cx} {elt tg iter : Expr} {scope : Scope} {own : List (Str × Nat)} {pos : Pos} {wi : TI} {g : TG} {tt : TT} {te : TE}
theorem pe_lcHot (hot : L2H.HotC X) (nd : X.N.Nodup) (hi : L2H.PIH X tg iter wi) (bk : BlkOk X.N X.env.scope scope own)
    (hg : ∀ (s : Shared) (H : Hp) (C : Addr) (cl : List (Str × Addr)) (fp : List Addr) (p : Addr × Obj), PG (hotB X s H scope (compEnvC scope cl C X.env) fp p) tg g)
    (ht : ∀ (s : Shared) (H : Hp) (C : Addr) (cl : List (Str × Addr)) (fp : List Addr) (p : Addr × Obj), PTs (hotB X s H scope (compEnvC scope cl C X.env) fp p) [] tt)
    (he : ∀ (s : Shared) (H : Hp) (C : Addr) (cl : List (Str × Addr)) (fp : List Addr) (p : Addr × Obj), PE (hotB X s H scope (compEnvC scope cl C X.env) fp p) elt te) (hs : ∀ x, foldedSetIterable iter X.env x = pure x := by intro _; rfl) :
    PE X (.ListComp elt [⟨tg, iter, [], 0⟩] scope pos) (tLc wi g tt te (own.map (·.2))) := by
  obtain ⟨p, hot1, pmem⟩ := hot
  refine ⟨fun pins s0 σ H0 Q I0 pre => ?_⟩
  rw [eval_ListComp]
  have frees : ∀ y ∈ scope.names, y.2 = .free → ∃ c, X.env.cells.lookup y.1 = some c := fun y hy e => (bk.free y hy e).elim (fun z => I0.ok.has _ (.inl z)) fun z => I0.ok.has _ (.inr z)
  refine wpAny_comprehension_free (use := none) rfl hs (closure_ok frees) bk.kind (fun y hy e => by rw [bk.uniq y hy, e])
    (thn (hi.run pins s0 σ H0 _ I0 pre) fun _ _ got => thn got fun itv sA gotI => ?_)
  obtain ⟨it, fp, tn, J, HA, rfl, IA, T, tA, fA, wish⟩ := gotI
  refine wpAny_newObj_type (newEnv_comp ?_) (by show 0 ≤ sizeLine; decide)
  generalize eL : sA.heap.objs.size = L
  obtain ⟨W, ⟨m0, w0⟩, turn⟩ := wish L (IA.hok.fresh (Nat.le_of_eq eL))
  generalize eB : ({ sA with heap := sA.heap.push { cls := .type "list", data := .seq ([] : List Value).toArray } } : Shared) = sB
  have hB : sB.heap = sA.heap.push { cls := .type "list", data := .seq ([] : List Value).toArray } := by rw [← eB]
  have IB : Inv X pins σ (upd HA L (.lst [])) sB := by
    rw [← eB]
    refine IA.laid (t' := sA.toks) (fun b o e => Heap.get?_push_of_some _ e) (Nat.le_of_eq eL) ⟨Nat.zero_le _, [], 0, .nil, ?_⟩
    rw [← eL]
    exact Heap.get?_push_size _ rfl
  have fB : ∀ b ∈ fp, FpOk X pins (upd HA L (.lst [])) b ∧ b < sB.heap.objs.size := fun b hb => by
    have lt : b < sA.heap.objs.size := by
      obtain ⟨o, e, _⟩ := T.obj _ _ tA b hb
      exact Heap.lt_size e
    refine ⟨⟨(upd_ne (by rw [← eL]; exact Nat.ne_of_lt lt)).trans (fA b hb).1, (fA b hb).2⟩, by rw [hB, Heap.size_push]; exact Nat.lt_succ_of_lt lt⟩
  have tB : tn 0 sB.heap := T.keep _ _ _ tA fun b _ o e => by rw [hB]; exact Heap.get?_push_of_some _ e
  have pB := IB.pin p (List.mem_append_left _ pmem)
  generalize eH : upd HA L (.lst []) = HB at IB fB w0 pB
  have IC0 := block_start IB bk nd fB
  have kp : ∀ b o, sB.heap.get? b = some o → (pushCells (sB.heap.push { cls := .type "dict", data := .dict #[] }) scope.names).get? b = some o := fun b o e => pushCells_keeps _ _ _ _ (Heap.get?_push_of_some _ e)
  have pg := hg sB HB sB.heap.objs.size (cellsFrom (sB.heap.objs.size + 1) scope.names (cloFrom X.env.cells scope.names [])) fp p
  have pt := ht sB HB sB.heap.objs.size (cellsFrom (sB.heap.objs.size + 1) scope.names (cloFrom X.env.cells scope.names [])) fp p
  have pe := he sB HB sB.heap.objs.size (cellsFrom (sB.heap.objs.size + 1) scope.names (cloFrom X.env.cells scope.names [])) fp p
  show codeAny _ _ (.compStart (.ListComp elt [⟨tg, iter, [], 0⟩] scope pos) 0 (.ref it) (.ref L) (compEnvC scope (cellsFrom (sB.heap.objs.size + 1) scope.names (cloFrom X.env.cells scope.names [])) sB.heap.objs.size X.env)) (compPost (model X.prog X.w) X.A X.xe none (EP X pins σ Q) (.ref L) sB.heap.objs.size) { sB with heap := pushCells (sB.heap.push { cls := .type "dict", data := .dict #[] }) scope.names }
  have cL : (compEnvC scope (cellsFrom (sB.heap.objs.size + 1) scope.names (cloFrom X.env.cells scope.names [])) sB.heap.objs.size X.env).locals = sB.heap.objs.size := rfl
  generalize compEnvC scope (cellsFrom (sB.heap.objs.size + 1) scope.names (cloFrom X.env.cells scope.names [])) sB.heap.objs.size X.env = ce at IC0 pg pt pe cL ⊢
  have IC : Inv (hotB X sB HB scope ce fp p) [] (wipe σ (own.map (·.2))) HB { sB with heap := pushCells (sB.heap.push { cls := .type "dict", data := .dict #[] }) scope.names } := pn_in IC0 fun q hq => by
    cases List.mem_singleton.mp (show q ∈ [p] from by simpa using hq)
    exact ⟨kp _ _ pB.1, pB.2.1, by rw [cL]; exact Nat.ne_of_lt (Heap.lt_size pB.1), fun z => (List.mem_cons.mp (IB.stkSub p.1 z)).elim pB.2.2.1 pB.2.2.2.1, pB.2.2.2.2⟩
  generalize eC : ({ sB with heap := pushCells (sB.heap.push { cls := .type "dict", data := .dict #[] }) scope.names } : Shared) = sC at IC ⊢
  have tC : tn 0 sC.heap := T.keep _ _ _ tB fun b _ o e => by rw [← eC]; exact kp _ _ e
  have hotX : L2H.HotC (hotB X sB HB scope ce fp p) := ⟨p, hot1, List.mem_singleton.mpr rfl⟩
  have stay : ∀ {σ' : L2.St} {H' : Hp} {s' : Shared}, Inv (hotB X sB HB scope ce fp p) [] σ' H' s' → (∀ b ∈ fp, H' b = none) → ∀ b ∈ fp, FpOk (hotB X sB HB scope ce fp p) [] H' b := fun I' no b hb =>
    ⟨no b hb, (I'.ok.exf b hb).1, I'.ok.exfs b hb, .inl hb, fun x c e => (I'.ok.exf b hb).2 x c e, fun q hq => by
      cases List.mem_singleton.mp (show q ∈ [p] from by simpa using hq)
      exact (fB b hb).1.2.2.2.2.2 p (List.mem_append_left _ pmem)⟩
  have loop : codeAny (model X.prog X.w) X.A (.compLoop (.ListComp elt [⟨tg, iter, [], 0⟩] scope pos) 0 (.ref it) (.ref L) ce) (compPost (model X.prog X.w) X.A X.xe none (EP X pins σ Q) (.ref L) sB.heap.objs.size) sC := by
    refine compLoop_any (fun n s' => ∃ i H', Inv (hotB X sB HB scope ce fp p) [] (wipe σ (own.map (·.2))) H' s' ∧ tn i s'.heap ∧ (∀ b ∈ fp, H' b = none) ∧ W i n H') ?_ m0 ⟨0, HB, IC, tC, fun b hb => (fB b hb).1.1, w0⟩
    rintro n sD ⟨i, HD, ID, tD, nD, wD⟩
    rcases turn i n HD wD with ⟨stop, fine⟩ | ⟨go, Nx, less, step⟩
    · refine thnF (T.done (hotB X sB HB scope ce fp p) rfl rfl rfl hotX i [] sD _ HD (fun _ _ => False) ID (stay ID nD) tD stop) fun r sE ⟨hr, IE⟩ => ?_
      subst hr
      have IF : Inv X pins σ HD sE := IB.call' (ch := fp) IE.os IE.base IE.hok IE.bare fun b hb => ⟨(fB b hb).1.2.2.2.1, (fB b hb).1.2.1, (fB b hb).1.2.2.2.2.1, (fB b hb).1.2.2.2.2.2⟩
      have nC : HD sB.heap.objs.size = none := cL ▸ (show HD ce.locals = none from IE.free)
      obtain ⟨m, hn, _⟩ := IE.loc
      have hn : sE.heap.Ns sB.heap.objs.size m := cL ▸ (show sE.heap.Ns ce.locals m from hn)
      obtain ⟨f0, f1, f2, f3, f4, f5⟩ := IB.fpOk (Nat.le_refl _) nC
      exact ⟨m, hn, fun h' sb => ⟨.ref L, HD, IF.turned (t' := sE.toks) (fun b o hb e => (sb.2 b hb).trans e) f0 f1 f3 f4 f5, rfl, fine⟩⟩
    · refine thnF (T.item (hotB X sB HB scope ce fp p) rfl rfl rfl hotX i [] sD _ HD (fun _ _ => False) ID (stay ID nD) tD go) fun r sE ⟨u, hr, rest⟩ => ?_
      subst hr
      refine thnF rest fun _ sF ⟨x, HF, IF, rx, yx, tF, nF⟩ => ?_
      refine thnF (pg.run _ sF _ HF x u _ (IF.pinned (stay IF nF) (T.obj _ _ tF)) rx (step x HF yx)) fun _ sG ⟨σG, HG, IG, sameG, qG⟩ => ?_
      refine thnF (pt.run _ sG σG HG _ IG qG) fun b sK ⟨HK, IK, qK⟩ => ?_
      have close : ∀ {s' : Shared} {H' : Hp}, Inv (hotB X sB HB scope ce fp p) ([] ++ pinsAt fp sF.heap) σG H' s' → Nx H' → ∃ m, m < n ∧ ∃ i H', Inv (hotB X sB HB scope ce fp p) [] (wipe σ (own.map (·.2))) H' s' ∧ tn i s'.heap ∧ (∀ b ∈ fp, H' b = none) ∧ W i m H' := fun {s' H'} I' nx => by
        obtain ⟨m', lt, w'⟩ := less H' nx
        have there : ∀ b ∈ fp, ∀ o, sF.heap.get? b = some o → s'.heap.get? b = some o ∧ H' b = none := fun b hb o e =>
          ⟨(I'.pin (b, o) (List.mem_append_right _ (List.mem_append_right _ (mem_pinsAt hb e)))).1, (I'.pin (b, o) (List.mem_append_right _ (List.mem_append_right _ (mem_pinsAt hb e)))).2.1⟩
        refine ⟨m', lt, i + 1, H', (I'.unpinned (pins := [])).weak (by rw [← sameG, wipe_length]) (fun j v e => ?_), T.keep _ _ _ tF fun b hb o e => (there b hb o e).1, fun b hb => ?_, w'⟩
        · rw [← sameG] at e
          exact (wipe_some e).1
        · obtain ⟨o, e, _⟩ := T.obj _ _ tF b hb
          exact (there b hb o e).2
      cases b with
      | false =>
        simp only [Bool.false_eq_true, if_false] at qK ⊢
        exact close IK qK
      | true =>
        simp only [if_true] at qK ⊢
        refine thnF (pe.run _ sK σG HK _ IK qK) fun z sM ⟨yv, HM, IM, rM, acc, dM, zM, nx⟩ => ?_
        exact L2.app_ok (X := hotB X sB HB scope ce fp p) IM dM zM rM fun sN IN => close IN nx
  exact codeAny_compStart_list loop (T.self X.A 0 _ _ _ tC loop)
end
theorem pih_weak {X : Cx} {tg iter : Expr} {wi wi' : TI} (h : L2H.PIH X tg iter wi) (le : ∀ σ H R, wi' σ H R → wi σ H R) : L2H.PIH X tg iter wi' := ⟨fun pins s σ H R I z => h.run pins s σ H R I (le σ H R z)⟩
section
variable {X : Cx} {W : WX} {tg a : Expr} {fs : Rho → Rs (List Sl)} {pos : Pos}
theorem ih_range1 {p : Pos} (hm : X.mg "range" = none) (ha : EA X W [a] fs) (hg : Gl X "range" := by rfl) (hs : starEach [a] X.env = [(false, eval a X.env)] := by rfl) : L2H.PIH X tg (.Call (.Name "range" p) [a] [] pos) (tI X.K X.mg W (iR1 fs)) := pih_weak (L2H.pi_range1H hg hm ha hs) fun σ H R ⟨B, ρ, F, Rp', h⟩ => by
  refine ⟨B, ρ, F, Rp', PstA.bindI h fun ss vs F1 H1 _ g1 ar h1 => ?_⟩
  split at h1
  · split at h1
    · rename_i hj
      obtain ⟨v, rfl, r1⟩ := ar1 ar
      cases fz_int r1
      exact ⟨_, rfl, (rgOk_ok hj).1, (rgOk_ok hj).2, h1 F1 H1 _ (Grow.refl g1.sub) jok_range⟩
    · exact h1.elim
  · exact h1.elim
end
section
variable {X : Cx} {W : WX} {elt tg iter : Expr} {scope : Scope} {own : List (Str × Nat)} {pos : Pos} {g : TG} {is : List Nat} {src : Rho → Rs (List D)} {t : D → Rho → Option Rho} {f : EV}
theorem e_lcHot (hot : L2H.HotC X) (nd : X.N.Nodup) (ok : blkC X.N X.env.scope scope own = true) (hi : L2H.PIH X tg iter (tI X.K X.mg W src)) (hvs : ∀ i ∈ is, i ∈ own.map (·.2))
    (hg : ∀ (s : Shared) (H : Hp) (C : Addr) (cl : List (Str × Addr)) (fp : List Addr) (p : Addr × Obj), EG (hotB X s H scope (compEnvC scope cl C X.env) fp p) tg g is t)
    (he : ∀ (s : Shared) (H : Hp) (C : Addr) (cl : List (Str × Addr)) (fp : List Addr) (p : Addr × Obj), EE (hotB X s H scope (compEnvC scope cl C X.env) fp p) W0 elt f) (hs : ∀ x, foldedSetIterable iter X.env x = pure x := by intro _; rfl):
    EE X W (.ListComp elt [⟨tg, iter, [], 0⟩] scope pos) (eLc (own.map (·.2)) src t cYes f) :=
  pe_weak (pe_lcHot (tt := tT X.K X.mg W0 cYes) (te := tV X.K X.mg W0 f) hot nd hi (blkOk_by ok) (fun s H C cl fp p => (hg s H C cl fp p).pg) (fun _ _ _ _ _ _ => ts_nil) he hs) fun σ H Q ⟨B, ρ, F, R, h⟩ => lc_read (hg X.s_0 H 0 [] [] ((0 : Addr), default)).ts hvs R h
end
/-! ### try: .. except TrainError as e: return kinds(e) == [..] -/
def outC (k : Str) (c : Str) : Sl := .fz (.bool (c == k))
theorem rep_no {K : PySem.W.Frag} {F H : Hp} (s : Ex F H) : ∀ (σ : L2.St), Rep K ⟨F, H⟩ (List.replicate σ.length .no) σ F H := fun σ =>
  ⟨⟨fun _ => [], fun i sl e => .inl (by
    rw [List.getElem?_replicate] at e
    split at e
    · cases e; rfl
    · cases e), fun _ _ _ h _ => (nomatch h), fun _ _ h => (nomatch h)⟩, Grow.refl s, List.length_replicate⟩
theorem pe_len {X : Cx} {e : Expr} {t : TE} (h : PE X e t) : PE X e (fun σ H Q => σ.length = X.N.length → t σ H Q) := ⟨fun pins s σ H Q I z => h.run pins s σ H Q I (z I.len)⟩
section
variable {X : Cx} {W Wr : WX} {x n : Str} {i k n0 : Nat} {body : List Stmt} {np pos pos' q q1 p1 p2 p3 : Pos} {g : SV} {L : List Str} {eR : Expr} {fR : EV} {dsR : List D} {kk : Str}
theorem s_tryC (G : DfE X.prog X.w X.K X.mg X.base x k) (room : Room k X.A) (hL : ∃ c, c ∈ L) (KL : ∀ c ∈ L, ∃ D, KC X.K X.mg c D) (hN : X.N.Nodup)
    (hR : ∀ (a : Addr) (oe : Obj) (pn : List (Addr × Obj)), L2H.HotC (X.suite a ((a, oe) :: pn)) → EE (X.suite a ((a, oe) :: pn)) Wr eR fR)
    (hb : ∀ (W : WX) (pn : List (Addr × Obj)) (xe : Value → Shared → Prop), L2N.Takes (X.tr pn xe) W → PassesOwn (model X.prog X.w) X.A X.env xe → ESs (X.tr pn xe) W body g)
    (hn0 : X.N.length = n0) (hv0 : fR (List.replicate n0 .no) = .ok (.ow dsR)) (hE : ∀ c ∈ L, eqOp (.ow ((kindsB c).map PyData.bool)) (.ow dsR) = some (outC kk c))
    (hi : X.N[i]? = some n := by rfl) (hv : Vis X.env.scope n := by exact Or.inl rfl) (hg : Gl X x := by rfl) (hd : (n == ("__debug__" : Str)) = false := by decide) (hcd : (n == ("__classdict__" : Str)) = false := by decide) (hdb : (x == ("__debug__" : Str)) = false := by decide)
    (he : starEach [.Name n q1] X.env = (false, eval (.Name n q1) X.env) :: starEach [] X.env := by rfl) (hpl : (backTo p1 (starEach [] X.env)).any (·.1) = false := by rfl)
    (hs : X.stack = X.env :: X.outer := by rfl) (hf : X.env.frame = some X.env.locals := by rfl) (hln : X.env.kindOf n = some .local := by rfl) (hgT : Gl X "TrainError" := by rfl) :
    ES X W (.Try body [.ExceptHandler (some (.Name "TrainError" np)) (some n) [.Return (some (.Compare (.Call (.Name x q) [.Name n q1] [] p1) [.Eq] [eR] p3)) p2] pos'] [] [] pos) (sTry i L (outC kk) g) :=
  s_tryCore (fun a cls d => fun σ H Q => σ.length = X.N.length → tOp (rEqD X.K) (tKE X.K X.mg i a cls d) (tV X.K X.mg Wr fR) σ H Q) hL KL hN hi hb
    (fun a oe cls d pn zn fs => pss_one (ps_ret (pe_len (X := X.suite a ((a, oe) :: pn)) (pe_cmpR (op_eqD (by have := room.un; show X.A.units + _ < _; omega)) (pe_kinds G room zn fs hi hv hg hd hcd hdb he hpl)
      (hR a oe pn ⟨(a, oe), ⟨rfl, fs.choose, fs.choose_spec, zn.2.2 _ fs.choose_spec⟩, List.mem_cons_self ..⟩) (nobehind _ (by decide) (by decide))))))
    (fun c D hc kc B F a σ H Q gr hσ post len => ⟨hσ, rfl, c, D, rfl, kc, fun r H' ex nr hr => by
      have s' : Ex F H' := gr.sub.trans ex
      refine ⟨⟨F, H'⟩, List.replicate σ.length .no, F, rep_no s' σ, ?_⟩
      rw [len, hn0, hv0]
      intro v F2 H2 A g2 vr2 fr2
      have vr1 : VRep X.K ⟨F, H'⟩ F H' (.ref r) [r] (.ow ((kindsB c).map PyData.bool)) := ⟨r, _, rfl, rfl, gr.sub.back nr, hr, bools_rp _⟩
      refine ops_eq ⟨F, H'⟩ F2 H2 (.ref r) v [r] A _ _ _ Q g2 (vr1.grow g2) vr2 (hE c hc) fun u F3 H3 A3 g3 vr3 fr3 => ?_
      have g0 : Grow F H F H' := ⟨Ex.refl F, ex, s', fun _ _ z => .inl z⟩
      exact post u F3 H3 A3 (g0.trans (g2.trans g3)) vr3 fun y hy => by rw [vr3.1] at hy; cases hy⟩) hs hf hln hgT
end
/-! ### [own list, own list]; a look at a list in such -/
section
variable {X : Cx} {W : WX} {x y : Expr} {f g : EV} {pos : Pos}
def eLstG (f g : EV) : EV := fun ρ => (f ρ).bind fun s => match s with
  | .ow ds => if lfAll ds = true then (g ρ).bind fun t => match t with
    | .ow es => if lfAll es = true then .ok (.og (.list [.list ds, .list es])) else .bad
    | _ => .bad
    else .bad
  | _ => .bad
theorem e_lstG (ha : EE X W x f) (hb : EE X W y g) (hs : starEach [x, y] X.env = (false, eval x X.env) :: starEach [y] X.env := by rfl) (hs2 : starEach [y] X.env = (false, eval y X.env) :: starEach [] X.env := by rfl) : EE X W (.List [x, y] pos) (eLstG f g) :=
  pe_weak (pe_lst (pa_cons ha (pa_cons hb pa_nil hs2) hs)) fun σ H Q ⟨B, ρ, F, R, h⟩ => by
    refine ⟨B, ρ, F, R, Pst.bind0 h fun s v F1 H1 A _ g1 vr fr h1 => ?_⟩
    split at h1
    · rename_i ds _
      split at h1
      · rename_i hl
        obtain ⟨a1, xs, rfl, rfl, n1, t1, r1⟩ := vr
        refine ⟨B, ρ, F1, R.grow g1, ?_⟩
        cases eg : g ρ with
        | bad => rw [eg] at h1; exact h1.elim
        | exc c => rw [eg] at h1; exact fun F' H' g' => h1 F' H' (g1.trans g')
        | ok s2 =>
          rw [eg, Rs.bind_ok] at h1
          intro v2 F2 H2 A2 g2 vr2 fr2
          split at h1
          · rename_i es
            split at h1
            · rename_i hl2
              obtain ⟨a2, ys, rfl, rfl, n2, t2, r2⟩ := vr2
              refine ⟨by show 2 ≤ sizeLine; exact sz_of (by decide), fun p np => ?_⟩
              have m1 : F2 a1 = none := none_grow (H' := H2) g2.news n1 t1
              have u1 := g2.exH _ _ t1
              have d12 : a1 ≠ a2 := fun z => by
                have := fr2 a2 (List.mem_cons_self ..)
                rw [← z, t1] at this
                cases this
              have d1 : a1 ≠ p := fun z => by rw [z, np] at u1; cases u1
              have d2 : a2 ≠ p := fun z => by rw [z, np] at t2; cases t2
              have o1 : Og F2 (upd H2 p (.lst [.ref a1, .ref a2])) (.ref a1) [a1] (.list ds) := .lst m1 (by rw [upd_ne d1]; exact u1) (fun z => by cases z) (og_leaves (r1.mono g2.exF) hl)
              have o2 : Og F2 (upd H2 p (.lst [.ref a1, .ref a2])) (.ref a2) [a2] (.list es) := .lst n2 (by rw [upd_ne d2]; exact t2) (fun z => by cases z) (og_leaves r2 hl2)
              have all := OgAll.cons o1 (OgAll.cons o2 .nil fun a _ z => by cases z) fun a ha z => by
                cases List.mem_singleton.mp ha
                exact d12 (List.mem_singleton.mp (by simpa using z))
              refine h1 (.ref p) F2 _ (p :: ([a1] ++ ([a2] ++ []))) (g1.trans (g2.trans (Grow.own g2.sub np))) ⟨rfl, .lst (g2.sub.back np) upd_same (by simp; exact ⟨fun z => d1 z.symm, fun z => d2 z.symm⟩) all⟩ fun a ha => ?_
              simp only [List.mem_cons, List.mem_append, List.not_mem_nil, or_false] at ha
              rcases ha with rfl | rfl | rfl
              · exact (g1.trans g2).exH.back np
              · exact fr _ (List.mem_cons_self ..)
              · exact g1.exH.back (fr2 _ (List.mem_cons_self ..))
            · exact h1.elim
          · exact h1.elim
      · exact h1.elim
    · exact h1.elim
theorem og_rp {F H : Hp} : ∀ {vs : List V} {A : List Addr} {ds : List D}, OgAll F H vs A ds → lfAll ds = true → RpAll F vs ds
  | _, _, _, .nil, _ => .nil
  | _, _, _, .cons (d := d) (ds := ds) h t _, l => by
    unfold lfAll at l
    rw [Bool.and_eq_true] at l
    exact .cons (og_lf h l.1) (og_rp t l.2)
def lookAt : D → Option Sl
  | .list es => if lfAll es = true then some (.vw es) else none
  | _ => none
def ixVOp : Op2 := fun x y => match x, y with
  | .vg (.list ds), .fz (.int i) => (atI ds i).bind lookAt
  | .og (.list ds), .fz (.int i) => (atI ds i).bind lookAt
  | _, _ => none
theorem look_ok {K : PySem.W.Frag} {B : Bs} {F H : Hp} {v : V} {A : List Addr} {d : D} {sl : Sl} (r : Og F H v A d) (e : lookAt d = some sl) : VRep K B F H v [] sl := by
  unfold lookAt at e
  split at e
  · rename_i es
    split at e
    · rename_i l
      cases e
      cases r with
      | leaf l' _ => cases l'
      | lst f h n ra => exact ⟨rfl, _, _, rfl, h, og_rp ra l⟩
    · cases e
  · cases e
theorem ops_ixV {K : PySem.W.Frag} : OpS K (rIx K) ixVOp := by
  intro B F H x y A A' sx sy sl Q gr r1 r2 e q
  unfold ixVOp at e
  have fin : ∀ {ds : List D} {i : Int} {A1 : List Addr}, Og F H x A1 (.list ds) → y = .int i → (atI ds i).bind lookAt = some sl → rIx K x y H Q := fun {ds i A1} r v2 e => by
    subst v2
    obtain ⟨d, e1, e2⟩ := Option.bind_eq_some_iff.mp e
    cases r with
    | leaf l r => cases l
    | lst f h n ra =>
      obtain ⟨j, e3, e4⟩ := at_len ra.length e1
      obtain ⟨v, A1, e5, rv, _⟩ := ra.get e3
      exact .inl ⟨_, _, i, v, rfl, rfl, .inl (.inl h), e4 v e5, q v F H [] (Grow.refl gr.sub) (look_ok rv e2) fun _ z => nomatch z⟩
  split at e
  · exact fin r1.2.2.choose_spec (fz_int r2) e
  · exact fin r1.2 (fz_int r2) e
  · cases e
theorem e_atV {a b : Expr} {fa fb : EV} (ha : EE X W a fa) (hb : EE X W b fb) (hp : PlainIx b := by exact fun _ _ => rfl) : EE X W (.Subscript a b pos) (eBin ixVOp fa fb) := e_ix ix_seq ops_ixV ha hb hp
end
end BV
namespace BV
open PySem PySem.Spec PyProof.Rows L2 RT
/-! ### tuple(reversed(a tuple)) -/
theorem rt_nolen : typeLookup (.type "reversed") "__len__" = pure none := by rw [typeLookup_type, builtinLookup_eq_fast]; kernel_rfl
theorem rt_hint : Slot "reversed" "__length_hint__" "reversed.__length_hint__" := Slot.of (owner := "reversed") (n := "__length_hint__") (by rw [typeLookup_type, builtinLookup_eq_fast]; kernel_rfl) (by decide +kernel) (by decide +kernel) (by decide +kernel)
  (by first | exact .inl (by decide +kernel) | exact .inr (by decide +kernel)) (by rw [isSubtype_type]; kernel_rfl)
theorem rt_hintE : entryFor table "reversed.__length_hint__" = some Builtin.«reversed.__length_hint__» := entryFor_of_tree (by kernel_rfl)
theorem rt_hintA (a : Value) : argsOk "reversed.__length_hint__" ⟨[a], []⟩ := by
  unfold argsOk
  rw [signature?_of (id := "reversed.__length_hint__") (n := "__length_hint__".toList.reverse) (o := "reversed".toList.reverse) (by kernel_rfl) owner_rt]
  kernel_rfl
section
variable {prog : Program} {w : World} {A : Around} {E : Value → Shared → Prop} {s : Shared}
theorem tup_keep {h h' : Heap} {t : Addr} {its : Array Value} (x : IsTup h t its) (e : ∀ o, h.get? t = some o → h'.get? t = some o) : IsTup h' t its := by
  obtain ⟨o, ho, r⟩ := x
  exact ⟨o, e _ ho, r⟩
theorem rt_walks (calm : A.handled = none) {it t : Addr} {its : Array Value} (ne : t ≠ it) (fit : its.size ≤ sizeLine) :
    Walks prog w A it [it, t] [it] its.size (fun i v => its[its.size - 1 - i]? = some v) (fun i h => i ≤ its.size ∧ IsRt h it t ((its.size : Int) - 1 - (i : Int)) ∧ IsTup h t its) where
  sub := fun b hb => by
    cases List.mem_singleton.mp hb
    exact List.mem_cons_self ..
  frame := fun _ _ _ st same => ⟨st.1, st.2.1.at fun o e => same it (List.mem_cons_self ..) o e, tup_keep st.2.2 fun o e => same t (List.mem_cons_of_mem _ (List.mem_cons_self ..)) o e⟩
  item := fun i s Q E lt st post => by
    obtain ⟨_, here, tup⟩ := st
    rw [show (its.size : Int) - 1 - (i : Int) = ((its.size - 1 - i : Nat) : Int) by omega] at here
    have got : its[its.size - 1 - i]? = some (its[its.size - 1 - i]'(by omega)) := Array.getElem?_eq_getElem (by omega)
    refine next_rt_item here tup got fit fun h' there same => ?_
    rw [show ((its.size - 1 - i : Nat) : Int) - 1 = (its.size : Int) - 1 - ((i + 1 : Nat) : Int) by omega] at there
    exact post _ h' _ got ⟨lt, there, tup_keep tup fun o e => (same.2 t ne).trans e⟩ fun b o hb e => (same.2 b fun z => hb (by rw [z]; exact List.mem_cons_self ..)).trans e
  done := fun s Q E st post => by
    obtain ⟨_, here, tup⟩ := st
    rw [show (its.size : Int) - 1 - (its.size : Int) = -1 by omega] at here
    exact next_rt_end calm here fun h' same => post h' s.toks fun b o hb e => same b o (fun z => hb (by rw [z]; exact List.mem_cons_self ..)) e
  self := fun _ _ _ _ st post => iter_rt st.2.1 post
/-- the hint of its length -/
theorem rt_told {it t : Addr} {its : Array Value} {Q : Value → Shared → Prop} (here : IsRt s.heap it t ((its.size : Int) - 1)) (tup : IsTup s.heap t its) (fit : (its.size : Int) < 2 ^ 63)
    (post : ∀ u tk, Q (.int its.size u) { s with toks := tk }) : wpAny (model prog w) A (call (.builtin "reversed.__length_hint__") [.ref it]) Q E s := by
  obtain ⟨o, ho, hc, hd⟩ := id here
  refine wpAny_call_entry rt_hint here.typeIs rt_hintE ?_ (rt_hintA _)
  unfold Builtin.«reversed.__length_hint__»
  refine wpAny_bind (wpAny_of_eq (a := Value.ref it) rfl ?_)
  refine wpAny_bind (wpAny_field ho hd (x := .ref t) rfl ?_)
  rw [if_neg (by simp)]
  refine wpAny_bind (len_tuple tup fit ?_)
  refine wpAny_bind (wpAny_of_eq (a := some ((its.size : Nat) : Int)) rfl ?_)
  refine wpAny_bind (wpAny_field (s := { s with toks := _ }) ho hd (x := rawInt ((its.size : Int) - 1)) rfl ?_)
  show wpAny _ _ (if ((its.size : Nat) : Int) < (its.size : Int) - 1 + 1 then _ else _) _ _ _
  rw [if_neg (by omega)]
  rw [show (its.size : Int) - 1 + 1 = (its.size : Int) by omega]
  unfold retInt
  refine wpAny_bind (wpAny_mkInt ?_)
  exact wpAny_pure ⟨_, rfl, post _ _⟩
theorem rt_collect {it t : Addr} {its : Array Value} {Q : List Value → Shared → Prop} (calm : A.handled = none) (here : IsRt s.heap it t ((its.size : Int) - 1)) (tup : IsTup s.heap t its) (ne : t ≠ it) (fit : its.size ≤ sizeLine)
    (post : ∀ (h' : Heap) (tk : Nat) (acc : Array Value), (∀ b o, b ≠ it → s.heap.get? b = some o → h'.get? b = some o) → ItemsOf (fun i v => its[its.size - 1 - i]? = some v) acc its.size → Q acc.toList { s with heap := h', toks := tk }) :
    wpAny (model prog w) A (collect (.ref it)) Q E s := by
  have W := (rt_walks (prog := prog) (w := w) (A := A.in1) calm ne fit).toS
  obtain ⟨oi, ei, _⟩ := id here
  obtain ⟨ot, et, _⟩ := id tup
  have ni : s.heap.objs.size ≠ it := Nat.ne_of_gt (Heap.lt_size ei)
  have nt : s.heap.objs.size ≠ t := Nat.ne_of_gt (Heap.lt_size et)
  have nf : s.heap.objs.size ∉ [it, t] := fun z => (List.mem_cons.mp z).elim ni fun z => nt (List.mem_singleton.mp z)
  have f63 : (its.size : Int) < 2 ^ 63 := by
    have := line63
    omega
  unfold collect
  refine wpAny_bind (wpAny_runValue (codeAny_builtin F.entry_proto_collect ?_))
  rw [Around.under_plainId F.plain_proto_collect _]
  refine wpAny_bind (m := newList []) (wpAny_newObj_type ?_)
  refine wpAny_pure ⟨plainId_quiet F.plain_list_iadd _, codeAny_builtin F.entry_list_iadd ?_⟩
  rw [Around.under_plainId F.plain_list_iadd _]
  have kp : ∀ b o, s.heap.get? b = some o → (s.heap.push { cls := .type "list", data := .seq ([] : List Value).toArray }).get? b = some o := fun b o e => Heap.get?_push_of_some _ e
  have new : (s.heap.push { cls := .type "list", data := .seq ([] : List Value).toArray }).get? s.heap.objs.size = some { cls := .type "list", data := .seq ([] : List Value).toArray } := Heap.get?_push_size _ rfl
  generalize s.heap.push { cls := .type "list", data := .seq ([] : List Value).toArray } = h1 at kp new ⊢
  have here1 : IsRt h1 it t ((its.size : Int) - 1) := here.at fun o e => kp it o e
  have tup1 : IsTup h1 t its := tup_keep tup fun o e => kp t o e
  have ty : ∀ tk : Nat, ({ s with heap := h1, toks := tk } : Shared).TypeIs (.ref it) "reversed" := fun tk => IsRt.typeIs (s := { s with heap := h1, toks := tk }) here1
  generalize eL : s.heap.objs.size = L at ni nt nf new ⊢
  have ns : Builtin.List.listSameRef (.ref L) (.ref it) = false := by simp [Builtin.List.listSameRef, ni]
  show wpAny _ A.in1 (Builtin.List.listExtendWith (.ref L) (.ref it) (.ref L)) _ _ _
  unfold Builtin.List.listExtendWith
  refine wpAny_bind (wpAny_typeOf (ty _) ?_)
  rw [if_neg (by rw [ns]; decide)]
  refine wpAny_bind (iter_rt (s := { s with heap := h1 }) here1 ?_)
  refine wpAny_bind (wpAny_holding ?_)
  unfold Builtin.List.listLengthHint
  refine wpAny_bind (wpAny_specialOf (ty _) rt_nolen ?_)
  show wpAny _ A.in1 (specialOf (Value.ref it) (Str.ofString "__length_hint__") >>= _) _ _ _
  refine wpAny_bind (wpAny_specialOf (ty _) rt_hint.lookup ?_)
  (generalize hid : ("reversed.__length_hint__" : String) = id0; (fail_if_success (clear hid id0)); wp_delta; rw [show splitId id0 = some ("reversed", "__length_hint__") from by subst hid; decide +kernel]; subst hid)
  refine wpAny_bind (wpAny_isInstance (b := true) (ty _) (by rw [isSubtype_type]; kernel_rfl) ?_)
  refine wpAny_bind (wpAny_rule ?_)
  refine wpAny_bind (wpAny_of_eq (rt_hint.bind _) ?_)
  dsimp only
  refine wpAny_bind (wpAny_attempt (rt_told (s := { s with heap := h1 }) here1 tup1 f63 fun u tk => ?_))
  dsimp only
  have key : asInt? (Value.int (its.size : Int) u) = pure (some (its.size : Int)) := rfl
  rw [key]
  refine wpAny_bind ?_
  refine wpAny_pure ?_
  dsimp only
  have t1 : Builtin.List.listFitsIndex (its.size : Int) = true := by
    unfold Builtin.List.listFitsIndex
    rw [Bool.and_eq_true]
    exact ⟨decide_eq_true (by omega), decide_eq_true f63⟩
  have t2 : Builtin.List.listTooLong (its.size : Int).toNat = false := decide_eq_false (by rw [Int.toNat_natCast]; omega)
  rw [if_neg (by rw [t1]; decide), if_neg (by omega), if_neg (by rw [t2]; decide)]
  refine wpAny_pure ?_
  -- the room, the loop
  have loop : ∀ (h2 : Heap) (c : Nat), (∀ b o, b ≠ L → h1.get? b = some o → h2.get? b = some o) → h2.get? L = some { cls := .type "list", data := .seq #[] c } → ∀ R : Result → Shared → Prop,
      (∀ (h' : Heap) (tk' : Nat) (acc : Array Value) (c' : Nat), (∀ b o, b ≠ it → s.heap.get? b = some o → h'.get? b = some o) → h'.get? L = some { cls := .type "list", data := .seq acc c' } → ItemsOf (fun i v => its[its.size - 1 - i]? = some v) acc its.size → R (.ok (.ret (.ref L))) { s with heap := h', toks := tk' }) →
      codeAny (model prog w) A (.builtin "list.extend.loop" ⟨[.ref L, .ref it, .ref L], []⟩) R { s with heap := h2, toks := tk } := fun h2 c k2 new2 R hR => by
    refine codeAny_extend_loopS W fit L nf (.ref L) its.size 0 _ #[] c rfl (Nat.zero_le _) ⟨Nat.zero_le _, ?_, tup_keep tup1 fun o e => k2 t o (Ne.symm nt) e⟩ new2 (ItemsOf.nil _) fun s' acc' c' mv there items => ?_
    · rw [show (its.size : Int) - 1 - ((0 : Nat) : Int) = (its.size : Int) - 1 by omega]
      exact here1.at fun o e => k2 it o (Ne.symm ni) e
    · rw [Moved.eq_with mv]
      refine hR s'.heap s'.toks acc' c' (fun b o hb e => mv.heap b o (fun z => ?_) (k2 b o (fun z => ?_) (kp b o e))) there items
      · rcases List.mem_cons.mp z with z | z
        · exact absurd (Heap.lt_size e) (by rw [eL, z]; exact Nat.lt_irrefl _)
        · exact hb (List.mem_singleton.mp z)
      · exact absurd (Heap.lt_size e) (by rw [eL, z]; exact Nat.lt_irrefl _)
  by_cases hz : its.size = 0
  · rw [if_neg (by rw [hz]; decide)]
    refine wpAny_pure ⟨plainId_quiet F.plain_extend_loop _, loop h1 0 (fun _ _ _ e => e) new _ fun h' tk' acc c' k' there items => ?_⟩
    exact wpAny_bind (wpAny_load there (wpAny_pure (post h' tk' acc k' items)))
  · have nz : ((its.size : Int) != 0) = true := by simp only [bne_iff_ne, ne_eq]; omega
    rw [nz, if_pos (by rw [Bool.true_or])]
    refine wpAny_bind (wpAny_rule ?_)
    refine wpAny_bind ?_
    show wpAny _ A.in1 (updateSeq L (·.push .none) >>= fun _ => updateSeq L (·.pop)) _ _ _
    refine wpAny_bind (wpAny_updateSeq (s := { s with heap := h1, toks := tk }) new rfl ?_ (Nat.zero_le _) (by show 1 ≤ sizeLine + 1; exact Nat.succ_le_succ (Nat.zero_le _)))
    have new2 := Heap.get?_update_self (Obj.mapSeq (·.push Value.none)) new rfl
    refine wpAny_updateSeq new2 rfl ?_ (by show 1 ≤ sizeLine; rw [sizeLine_eq]; decide) (Nat.zero_le _)
    have new3 := Heap.get?_update_self (Obj.mapSeq (·.pop)) new2 rfl
    refine wpAny_pure ⟨plainId_quiet F.plain_extend_loop _, loop _ _ (fun b o hb e => (Heap.get?_update_other _ _ (Ne.symm hb)).trans ((Heap.get?_update_other _ _ (Ne.symm hb)).trans e)) new3 _ fun h' tk' acc c' k' there items => ?_⟩
    exact wpAny_bind (wpAny_load there (wpAny_pure (post h' tk' acc k' items)))
theorem rt_codes {it t : Addr} {its : Array Value} {Q : Value → Shared → Prop} (calm : A.handled = none) (here : IsRt s.heap it t ((its.size : Int) - 1)) (tup : IsTup s.heap t its) (ne : t ≠ it) (fit : its.size ≤ sizeLine)
    (post : ∀ (h' : Heap) (tk : Nat) (acc : Array Value), (∀ b o, b ≠ it → s.heap.get? b = some o → h'.get? b = some o) → ItemsOf (fun i v => its[its.size - 1 - i]? = some v) acc its.size → Q (.ref h'.objs.size) { s with heap := h'.push { cls := .type "tuple", data := .seq acc }, toks := tk }) :
    codeAny (model prog w) A (.call (.builtin "tuple.__new__") ⟨[.type "tuple", .ref it], []⟩) (wants Q E) s := by
  refine codeAny_of_tree ?_
  refine wpAny_bind (m := checkBuiltinCall "tuple.__new__" ⟨[.type "tuple", .ref it], []⟩) (wpAny_of_eq (F.newCall_tuple_1 _) (wpAny_pure ⟨plainId_quiet F.plain_tuple_new _, codeAny_builtin F.entry_tuple_new ?_⟩))
  rw [Around.under_plainId F.plain_tuple_new _]
  have f1 := sub_tuple_self
  have f2 := init_tuple_lookup
  have f3 := madeHere_tuple
  have ty : s.TypeIs (.ref it) "reversed" := here.typeIs
  have calm1 : A.in1.handled = none := calm
  wp_walk using wpAny_typeOf ty, rt_collect (A := A.in1) calm1 here tup ne fit
  intro h' tk acc same items
  show wpAny _ _ (Builtin.Tuple.tupleExact acc.toList.toArray >>= fun v => ret v) _ _ _
  unfold Builtin.Tuple.tupleExact
  rw [show acc.toList.toArray = acc by simp]
  exact wpAny_bind (wpAny_newObj_type (wpAny_pure (post h' tk acc same items)) (by show acc.size ≤ sizeLine; rw [items.1]; exact fit))
theorem rt_tuple {it t : Addr} {its : Array Value} {Q : Value → Shared → Prop} (calm : A.handled = none) (here : IsRt s.heap it t ((its.size : Int) - 1)) (tup : IsTup s.heap t its) (ne : t ≠ it) (fit : its.size ≤ sizeLine)
    (post : ∀ (h' : Heap) (tk : Nat) (acc : Array Value), (∀ b o, b ≠ it → s.heap.get? b = some o → h'.get? b = some o) → ItemsOf (fun i v => its[its.size - 1 - i]? = some v) acc its.size → Q (.ref h'.objs.size) { s with heap := h'.push { cls := .type "tuple", data := .seq acc }, toks := tk }) :
    wpAny (model prog w) A (call (.type "tuple") [.ref it]) Q E s :=
  callType_codes (Q₁ := fun obj s₁ => s₁.TypeIs obj "tuple" ∧ Q obj s₁) F.called_tuple (F.typeCall_tuple_1 _) F.entry_object_init
    (rt_codes (A := A.in1) calm here tup ne fit fun h' tk acc same items => ⟨⟨_, Heap.get?_push_size _ rfl, rfl⟩, post h' tk acc same items⟩) fun obj s₁ h₁ =>
    ⟨h₁.1, F.args_object_init_2 obj _, object_init_meets F.called_tuple.init.lookup F.called_tuple.made (by decide) prog w A.in1 _ s₁ ⟨h₁.1, rfl, h₁.2⟩⟩
end
/-- tuple(reversed(e)), e a tuple: a new one -/
def tTupRevT (K : PySem.W.Frag) (te : TE) : TE := fun σ H Q => te σ H fun v H1 => ∃ (a : Addr) (xs : List V), v = .ref a ∧ SqT K H1 a xs ∧ ∀ q, H1 q = none → Q (.ref q) (upd H1 q (.tup xs.reverse))
theorem pe_tupRevT {X : Cx} {e : Expr} {te : TE} {p p2 pos pos2 : Pos} (hc : X.calm = true) (hg : Gl X "tuple") (hm : X.mg "tuple" = none) (hg2 : Gl X "reversed") (hm2 : X.mg "reversed" = none) (he : PE X e te)
    (hs : starEach [e] X.env = (false, eval e X.env) :: starEach [] X.env := by rfl)
    (hs2 : starEach [.Call (.Name "reversed" p2) [e] [] pos2] X.env = (false, eval (.Call (.Name "reversed" p2) [e] [] pos2) X.env) :: starEach [] X.env := by rfl) :
    PE X (.Call (.Name "tuple" p) [.Call (.Name "reversed" p2) [e] [] pos2] [] pos) (tTupRevT X.K te) := by
  refine ⟨fun pins s σ H Q I pre => ?_⟩
  refine Call_ (ld_blt I hg hm boot_tuple (PyProof.Rows.callWith_type1 (args_cons (Call_ (ld_blt I hg2 hm2 PyProof.Rows.boot_reversed (PyProof.Rows.callWith_type1 (args_cons (thn (he.run pins s σ H _ I pre) fun u s1 ⟨v, H1, I1, rv, got⟩ => args_nil ?_) hs) hs rfl))) hs2) hs2 rfl))
  obtain ⟨a, xs, rfl, hq, q⟩ := got
  obtain rfl : u = Value.ref a := rv
  obtain ⟨its, rs, tup, fit⟩ := I1.tuple hq
  have l63 := line63
  have len := rs.length
  refine call_reversed_tup tup (fun A E Q k => len_tuple tup (by simp only [List.size_toArray]; omega) k) (args_nil ?_)
  have kp : ∀ b o, s1.heap.get? b = some o → (s1.heap.push (rtObj a ((its.toArray.size : Int) - 1))).get? b = some o := fun b o e => Heap.get?_push_of_some _ e
  have I2 : Inv X pins σ H1 { s1 with heap := s1.heap.push (rtObj a ((its.toArray.size : Int) - 1)), toks := s1.toks + 1 + 1 } := I1.kept (t' := s1.toks + 1 + 1) kp
  obtain ⟨f0, f1, f2, f3, f4, f5⟩ := I1.fpOk (H' := H1) (b := s1.heap.objs.size) (Nat.le_refl _) (I1.hok.fresh (Nat.le_refl _))
  obtain ⟨ot, et, _⟩ := id tup
  refine rt_tuple (s := { s1 with heap := s1.heap.push (rtObj a ((its.toArray.size : Int) - 1)), toks := s1.toks + 1 + 1 }) (I1.ok.hd hc) ⟨_, Heap.get?_push_size _ rfl, rfl, rfl⟩ (tup_keep tup fun o e => kp a o e) (Nat.ne_of_lt (Heap.lt_size et)) (by rw [List.size_toArray, ← len]; exact fit) fun h' tk acc same items => ?_
  have I3 : Inv X pins σ H1 { s1 with heap := h', toks := tk } := I2.turned (t' := tk) (fun b o hb e => same b o hb e) f0 f1 f3 f4 f5
  refine ⟨.ref h'.objs.size, upd H1 h'.objs.size (.tup xs.reverse), I3.laid (t' := tk) (fun c o e => Heap.get?_push_of_some _ e) (Nat.le_refl _) (show ObjOk X.prog X.w _ _ _ (.tup xs.reverse) from ⟨by rw [List.length_reverse]; exact fit, acc.toList, vals_rev rs items, ?_⟩), rfl, q _ (I3.hok.fresh (Nat.le_refl _))⟩
  rw [Array.toArray_toList]
  exact IsTup.new _ _
section
variable {X : Cx} {W : WX} {e : Expr} {f : EV} {p p2 pos pos2 : Pos}
def eTupRev (f : EV) : EV := fun ρ => (f ρ).bind fun s => match s.tup with
  | some ds => .ok (.fz (.tuple ds.reverse))
  | none => .bad
theorem e_tupRev (hc : X.calm = true) (hm : X.mg "tuple" = none) (hm2 : X.mg "reversed" = none) (he : EE X W e f) (hg : Gl X "tuple" := by rfl) (hg2 : Gl X "reversed" := by rfl) (hs : starEach [e] X.env = (false, eval e X.env) :: starEach [] X.env := by rfl)
    (hs2 : starEach [.Call (.Name "reversed" p2) [e] [] pos2] X.env = (false, eval (.Call (.Name "reversed" p2) [e] [] pos2) X.env) :: starEach [] X.env := by rfl) :
    EE X W (.Call (.Name "tuple" p) [.Call (.Name "reversed" p2) [e] [] pos2] [] pos) (eTupRev f) := pe_weak (pe_tupRevT hc hg hm hg2 hm2 he hs hs2) fun σ H Q ⟨B, ρ, F, R, h⟩ => by
  refine ⟨B, ρ, F, R, Pst.bind h fun s v F1 H1 A _ g1 vr fr h1 => ?_⟩
  split at h1
  · rename_i ds hd
    obtain ⟨q, xs, rfl, _, hp, rp⟩ := vr.tuple (R.gr.trans g1) hd
    refine ⟨q, xs, rfl, .inl (.inl hp), fun l nl => ?_⟩
    exact h1 (.ref l) _ _ [] (Grow.laid g1.sub nl) ⟨rfl, .tup upd_same (rp.rev.mono (Ex.new (g1.sub.back nl)))⟩ fun _ z => nomatch z
  · exact h1.elim
end
end BV
namespace BV
open PySem PySem.Spec PyProof.Rows L2
/-! ### {} as data -/
section
variable {X : Cx} {W : WX} {pos : Pos}
def eDict0 : EV := fun _ => .ok (.fz (.dict []))
theorem e_dict0 : EE X W (.Dict [] [] pos) eDict0 := pe_weak pe_dnewK fun σ H Q ⟨B, ρ, F, R, h⟩ p np => h (.ref p) (upd F p (.dK [])) _ [] (Grow.laid R.gr.sub np) ⟨rfl, .dict0 upd_same⟩ fun _ z => nomatch z
end
/-! ### str of data -/
mutual
/-- a bound of a text's length -/
def bnd : D → Nat
  | .none => 4
  | .bool _ => 5
  | .int i => (Str.ofString (toString i)).length
  | .str x => (reprText x).length
  | .list ds => bndAll ds + 2
  | .tuple ds => bndAll ds + 3
  | .dict _ => 2
def bndAll : List D → Nat
  | [] => 0
  | d :: ds => bnd d + 2 + bndAll ds
end
def strD : D → Option Str
  | .dict [] => some "{}"
  | .dict _ => none
  | .list ds => if SeqAt.shaped (.list ds) && PyData.showable (.list ds) && decide (bnd (.list ds) ≤ 100000) then some (PyData.shown (.list ds)) else none
  | .tuple ds => if SeqAt.shaped (.tuple ds) && PyData.showable (.tuple ds) && decide (bnd (.tuple ds) ≤ 100000) then some (PyData.shown (.tuple ds)) else none
  | .str x => some x
  | .int i => if i.natAbs.log2 < 1920 then some (Str.ofString (toString i)) else none
  | .bool b => some (if b then "True" else "False")
  | .none => some "None"
theorem text_le : ∀ (ts : List Str) (k : Nat) (acc : Str), (textFrom k acc ts).length ≤ acc.length + piled ts
  | [], k, acc => by
    unfold textFrom
    exact Nat.le_add_right ..
  | t :: ts, k, acc => by
    have ih := text_le ts (k + 1) (acc ++ (if k > 0 then ", " else "" : String) ++ t)
    have e : (acc ++ (if k > 0 then ", " else "" : String) ++ t).length ≤ acc.length + 2 + t.length := by
      rw [strLen_append, strLen_append]
      split
      · exact Nat.le_refl _
      · show acc.length + 0 + t.length ≤ _
        omega
    rw [piled_cons]
    show (textFrom (k + 1) (acc ++ (if k > 0 then ", " else "" : String) ++ t) ts).length ≤ _
    omega
mutual
theorem shown_le : ∀ d : D, PyData.canLay0 d = true → (PyData.shown d).length ≤ bnd d
  | .none, _ => by unfold PyData.shown bnd; decide
  | .bool b, _ => by unfold PyData.shown bnd; cases b <;> decide
  | .int i, _ => by unfold PyData.shown bnd; exact Nat.le_refl _
  | .str x, _ => by unfold PyData.shown bnd; exact Nat.le_refl _
  | .list ds, c => by
    unfold PyData.canLay0 at c
    have h := shownAll_le ds c
    have t := text_le (PyData.shownAll ds) 0 "["
    unfold PyData.shown bnd listText
    rw [strLen_append]
    have e1 : (("[" : String) : Str).length = 1 := rfl
    have e2 : (("]" : String) : Str).length = 1 := rfl
    omega
  | .tuple ds, c => by
    unfold PyData.canLay0 at c
    have h := shownAll_le ds c
    unfold PyData.shown bnd tupleText
    rw [strLen_append, strLen_append]
    have e1 : (("(" : String) : Str).length = 1 := rfl
    have e2 : ((if (PyData.shownAll ds).length == 1 then ",)" else ")" : String) : Str).length ≤ 2 := by split <;> decide
    have e3 : (Str.join ", " (PyData.shownAll ds)).length ≤ piled (PyData.shownAll ds) := by
      by_cases hn : PyData.shownAll ds = []
      · rw [hn]; decide
      · have := join_length_add (PyData.shownAll ds) hn
        omega
    omega
  | .dict _, c => by
    unfold PyData.canLay0 at c
    cases c
theorem shownAll_le : ∀ ds : List D, PyData.canLayAll0 ds = true → piled (PyData.shownAll ds) ≤ bndAll ds
  | [], _ => by unfold PyData.shownAll bndAll; decide
  | d :: ds, c => by
    unfold PyData.canLayAll0 at c
    rw [Bool.and_eq_true] at c
    have h1 := shown_le d c.1
    have h2 := shownAll_le ds c.2
    unfold PyData.shownAll bndAll
    rw [piled_cons]
    omega
end
theorem call_strD {X : Cx} (hg : X.A.guards = some []) (hu : X.A.units + 80 < cLine) : CallR X (.type "str") (fun xs H Q => ∃ v d t F, xs = [v] ∧ Ex F H ∧ Rp F v d ∧ strD d = some t ∧ Q (.str t) H) := by
  intro pins s σ H xs us Q I rs h
  obtain ⟨v, d, t, F, rfl, sub, rp, e, q⟩ := h
  obtain ⟨u, rfl, rv⟩ := vals1 rs
  have big : ∀ {d : D} {a : Addr}, SeqAt.shaped d = true → PyData.showable d = true → bnd d ≤ 100000 → Rp F (.ref a) d → RelV (.ref a) u → Q (.str (PyData.shown d)) H → wpAny (model X.prog X.w) X.A (call (.type "str") [u]) (EP X pins σ Q) X.xe s := fun {d a} sh so bd rp rv q => by
    cases rv
    obtain ⟨as, r⟩ := Dp.reads I d (.ref a) (.ref a) ((rp.mono sub).dpS sh) rfl
    have dep := SeqAt.depth_of_shaped sh
    refine str_of_reads r so (PyData.noDict_hsm (PyData.hasDict_of_canLay d (SeqAt.canLay_of_shaped sh))) hg (by omega) (fun _ _ e => e) (fun h' w tk kp => ⟨.str _, H, I.kept (t' := tk) kp, ⟨w, rfl⟩, q⟩) ?_
    exact Nat.le_trans (Nat.le_trans (shown_le d (SeqAt.canLay_of_shaped sh)) bd) (sz_of (Nat.le_refl _))
  cases d with
  | none =>
    cases e; cases rp; cases rv
    exact P.str_of_none ⟨.str _, H, I.kept (t' := _) fun _ _ z => z, ⟨_, rfl⟩, q⟩
  | bool b =>
    cases e; cases rp; cases rv
    exact P.str_of_bool ⟨.str _, H, I.kept (t' := _) fun _ _ z => z, ⟨_, rfl⟩, q⟩
  | int i =>
    have e : (if i.natAbs.log2 < 1920 then some (Str.ofString (toString i)) else none) = some t := e
    split at e
    · rename_i hi
      cases e; cases rp
      obtain ⟨tk, rfl⟩ := rv
      exact P.str_of_int hi ⟨.str _, H, I.kept (t' := _) fun _ _ z => z, ⟨_, rfl⟩, q⟩
    · cases e
  | str x =>
    cases e; cases rp
    obtain ⟨tk, rfl⟩ := rv
    exact P.str_of_str ⟨.str _, H, I, ⟨_, rfl⟩, q⟩
  | list ds =>
    have e : (if SeqAt.shaped (.list ds) && PyData.showable (.list ds) && decide (bnd (.list ds) ≤ 100000) then some (PyData.shown (.list ds)) else none) = some t := e
    split at e
    · rename_i c
      rw [Bool.and_eq_true, Bool.and_eq_true] at c
      cases e
      obtain ⟨a, rfl⟩ : ∃ a, v = .ref a := by cases rp; exact ⟨_, rfl⟩
      exact big c.1.1 c.1.2 (of_decide_eq_true c.2) rp rv q
    · cases e
  | tuple ds =>
    have e : (if SeqAt.shaped (.tuple ds) && PyData.showable (.tuple ds) && decide (bnd (.tuple ds) ≤ 100000) then some (PyData.shown (.tuple ds)) else none) = some t := e
    split at e
    · rename_i c
      rw [Bool.and_eq_true, Bool.and_eq_true] at c
      cases e
      obtain ⟨a, rfl⟩ : ∃ a, v = .ref a := by cases rp; exact ⟨_, rfl⟩
      exact big c.1.1 c.1.2 (of_decide_eq_true c.2) rp rv q
    · cases e
  | dict kvs =>
    cases rp with
    | dict0 h0 =>
      cases e
      cases rv
      rename_i a
      obtain ⟨_, ns, vs, kv, o, es, ep, eo, ⟨oc, _⟩, od, _, pr, _⟩ := I.hok _ _ (sub _ _ h0)
      cases kv
      have nil : es.toList = [] := List.eq_nil_of_length_eq_zero pr.length
      have r := Reads.dict (kvs := []) eo oc od (as := []) (bs := []) (by rw [nil]; exact .nil) (by rw [nil]; exact .nil)
      have sh : PyData.shown (.dict []) = ("{}" : Str) := by decide +kernel
      refine str_of_reads r rfl (fun _ z => ?_) hg (by show X.A.units + (1 + 3) < cLine; omega) (fun _ _ e => e) (fun h' w tk kp => ⟨.str _, H, I.kept (t' := tk) kp, ⟨w, rfl⟩, sh ▸ q⟩) (by rw [sh]; exact sz_of (by decide))
      rw [List.append_nil] at z
      rw [← List.mem_singleton.mp z] at ns
      exact absurd ns (by decide)
def eStrD (f : EV) : EV := fun ρ => (f ρ).bind fun s => match s.data with
  | some d => Rs.of ((strD d).map fun t => Sl.fz (.str t))
  | none => .bad
section
variable {X : Cx} {W : WX} {x : Expr} {f : EV} {pos p : Pos}
theorem e_strD (hgd : X.A.guards = some []) (hu : X.A.units + 80 < cLine) (hm : X.mg "str" = none) (he : EE X W x f) (hg : Gl X "str" := by rfl) (hs : starEach [x] X.env = (false, eval x X.env) :: starEach [] X.env := by rfl) :
    EE X W (.Call (.Name "str" p) [x] [] pos) (eStrD f) := pe_weak (pe_callTy (call_strD hgd hu) hg hm (by decide +kernel) (pa_cons he pa_nil hs) (by decide) (by decide) hs) fun σ H Q ⟨B, ρ, F, R, h⟩ => by
  refine ⟨B, ρ, F, R, Pst.bind h fun s v F1 H1 A _ g1 vr fr h1 => ?_⟩
  cases e : s.data with
  | none => rw [e] at h1; exact h1.elim
  | some d =>
    rw [e] at h1
    dsimp only at h1
    cases e2 : strD d with
    | none => rw [e2] at h1; exact h1.elim
    | some t =>
      rw [e2] at h1
      refine ⟨v, d, t, H1, rfl, Ex.refl H1, vr.py (R.gr.trans g1) e, e2, h1.here (A := []) g1.sub ⟨rfl, .str _⟩ (fun _ z => nomatch z)⟩
end
end BV
namespace BV
open PySem PySem.Spec PyProof.Rows L2
/-! ### the law's own def, where no guard stands around it -/
structure FnG (P : Program) (w : World) (K : PySem.W.Frag) (mg : MG) (base : Heap) (CX : CXT) (k : Nat) (f : Addr) (fd : FuncData) (ps : List Str) (sp : Sp) : Prop where
  run : ∀ (A : Around) (outer : List Env) (s : Shared) (H : Hp) (args : Args) (us : List Value) (vs : List V) (Q : VK) (E : XK), A.guards = some [] → Room k A → Env0 P w K mg base A outer s H → BindsTo s fd args (ps.zip us) → Vals vs us → sp vs H Q E →
    codeAny (model P w) A (.call (.ref f) args) (CR CX outer P w H s Q E) s
section
variable {P : Program} {w : World} {K : PySem.W.Frag} {mg : MG} {base : Heap}
theorem FnG.imp {CX : CXT} {k : Nat} {f : Addr} {fd : FuncData} {ps : List Str} {sp sp' : Sp} (F : FnG P w K mg base CX k f fd ps sp) (h : ∀ vs H Q E, sp' vs H Q E → sp vs H Q E) : FnG P w K mg base CX k f fd ps sp' :=
  ⟨fun A outer s H args us vs Q E gd room env bind vals pre => F.run A outer s H args us vs Q E gd room env bind vals (h vs H Q E pre)⟩
theorem fn_okG {x qual : Str} {st : Stmt} {f : Addr} {fd : FuncData} {N ps : List Str} {k : Nat} {g : SV} (F : Fun K x qual st f fd) (S : FnScope N ps (defScope st))
    (hbody : ∀ (cdv : Value) (A : Around) (outer : List Env) (s : Shared) (H : Hp) (E : XK), A.guards = some [] → Room k (A.deeper (envOfC qual (defScope st) s.heap.objs.size f cdv)) →
      L2N.Takes (cxOf (L2N.CX P w) P w K mg base N qual (defScope st) f cdv A outer s H E) (fun c d _ H => E c d H) →
      PassesOwn (model P w) (A.deeper (envOfC qual (defScope st) s.heap.objs.size f cdv)) (envOfC qual (defScope st) s.heap.objs.size f cdv) (cxOf (L2N.CX P w) P w K mg base N qual (defScope st) f cdv A outer s H E).xe →
      ESs (cxOf (L2N.CX P w) P w K mg base N qual (defScope st) f cdv A outer s H E) (fun c d _ H => E c d H) (defBody st) g) :
    FnG P w K mg base (L2N.CX P w) (k + 1) f fd ps (spV K mg ps.length (runDef N.length g)) := by
  obtain ⟨_, _, _, _, _, _, cdv, _, _, rfl, look, code⟩ := F.ex
  refine ⟨fun A outer s H args us vs Q E gd room env bind vals pre => ?_⟩
  obtain ⟨F0, ss, size, sub, ar, nv, post⟩ := pre
  have kin : K.In s.heap := env.mod.kin.keeps fun b o z => (env.bs b o z).1
  have free : s.heap.NoLimit := env.mod.nolimit.keeps fun b o z => (env.bs b o z).1
  have kinds : ∀ y ∈ ps.zip us, (defScope st).names.lookup y.1 = some .local ∨ ((defScope st).names.lookup y.1 = some .cell ∧ ((cellsFrom (s.heap.objs.size + 1) (defScope st).names []).lookup y.1).isSome = true) := fun ⟨n, v⟩ mem =>
    (S.par n (List.of_mem_zip mem).1).imp (fun z => z) fun z => ⟨z, PySem.W.cellsFrom_some _ _ _ (.inl z)⟩
  refine codeAny_call_function room.depth (kin _ _ look) rfl S.co S.gen rfl (PySem.W.codeRec_of kin code) (bind _ _ _ _ ?_)
  refine wpAny_newFunctionEnv_cells S.kind kinds fun env' same s1 call => ?_
  cases same
  refine ⟨free.keeps call.toInCall.keep, codeAny_func ?_⟩
  have derived := hbody cdv A outer s H E gd (room.deeper _) (L2N.takes_of rfl rfl rfl rfl) (passes_of rfl)
  have inv : Inv (cxOf (L2N.CX P w) P w K mg base N qual (defScope st) f cdv A outer s H E) [] (start N vs) H s1 := inv_start S room.hd env size vals call
  have wish : tS K mg (fun c d _ H => E c d H) g { nx := fun _ H' => Q .non H', rt := Q } (start N vs) H := by
    have hpl : ps.length ≤ N.length := by have := congrArg List.length S.pre; rw [List.length_take] at this; omega
    refine ⟨⟨F0, H⟩, _, F0, start_rep (N := N) sub ar nv (by omega), ?_⟩
    unfold runDef at post
    cases e : g (ss ++ List.replicate (N.length - ss.length) .no) with
    | nx ρ =>
      rw [e] at post
      exact fun σ F1 H1 R1 => post .non F1 H1 [] R1.gr ⟨rfl, .non⟩ (fun _ z => nomatch z) rfl
    | rt sl =>
      rw [e] at post
      dsimp only at post
      split at post
      · rename_i hr'
        exact ⟨hr', fun v F1 H1 A g1 vr fr => post v F1 H1 A g1 vr fr hr'⟩
      · exact post.elim
    | exc c ρ =>
      rw [e] at post
      exact fun σ F1 H1 R1 cls ec => post F1 H1 R1.gr cls ec
    | bk ρ => rw [e] at post; exact post.elim
    | ct ρ => rw [e] at post; exact post.elim
    | bad => rw [e] at post; exact post.elim
  refine wpAny_mono (derived.run [] s1 (start N vs) H _ inv wish) (fun flow s' done => ?_) fun _ _ z => z
  have out : ∀ {σ' : L2.St} {H' : Hp} {v : V} {u : Value}, Inv (cxOf (L2N.CX P w) P w K mg base N qual (defScope st) f cdv A outer s H E) [] σ' H' s' → RelV v u → Q v H' → CE outer P w H s Q u s' :=
    fun J r q => ⟨_, _, J.os, J.bare, J.base, J.hok, r, q⟩
  cases flow with
  | ret u =>
    obtain ⟨v, σ', H', J, r, q⟩ := done
    exact out J r q
  | next =>
    obtain ⟨σ', H', J, q⟩ := done
    exact out (v := .non) (u := .none) J rfl q
  | brk =>
    obtain ⟨_, _, _, z⟩ := done
    exact z.elim
  | cont =>
    obtain ⟨_, _, _, z⟩ := done
    exact z.elim
/-- the law called behind the top -/
theorem law_callG {mb : MG} {CX : CXT} {k : Nat} {fa a : Addr} {fd : FuncData} {x : Str} {sp : Sp} {s1 : Shared} {us : List Value} {ns : List Int} (KX : K.In s1.heap) (G : s1.heap.Ns mainGlobals mg) (Gb : s1.heap.Ns builtinsNs mb) (bt : ∀ x : Str, x ≠ "__name__" → mb x = bootBuiltins x) (free : s1.heap.NoLimit) (noGens : s1.gens = #[])
    (at_a : s1.heap.get? a = some { cls := .type "list", data := .seq us.toArray }) (intsA : IntsAre us ns) (fits : ns.length ≤ sizeLine) (room : Room k callerA)
    (F : ∀ base : Heap, K.In base → base.Ns mainGlobals mg → FnG P w K mg base CX k fa fd [x] sp) (bind : ∀ (s : Shared) (u : Value), BindsTo s fd ⟨[u], []⟩ [(x, u)])
    (pre : ∀ H : Hp, Only H → SqL K H a (ns.map V.int) → sp [.ref a] H (fun v _ => v = .bl true) fun _ _ _ => False) (noExc : ∀ H e s', CX [] H s1 (fun _ _ _ => False) e s' → False) :
    codeAny (model P w) callerA (.call (.ref fa) ⟨[.ref a], []⟩) (fun r s' => r = .ok (.ret (.bool true)) ∧ OldK s1.heap s'.heap ∧ s'.os = s1.os ∧ AllBare s'.gens) s1 := by
  have vals := vals_ints intsA
  have size := intsA.length
  have go : ∀ H : Hp, (∀ b, b ≠ a → H b = none) → (H a = none ∨ (K.lookup a = none ∧ H a = some (.frz { cls := .type "list", data := .seq us.toArray } (.lst (ns.map V.int))))) → SqL K H a (ns.map V.int) →
      codeAny (model P w) callerA (.call (.ref fa) ⟨[.ref a], []⟩) (fun r s' => r = .ok (.ret (.bool true)) ∧ OldK s1.heap s'.heap ∧ s'.os = s1.os ∧ AllBare s'.gens) s1 := fun H off on seq => by
    have only : Only H := fun b => by
      by_cases e : b = a
      · rw [e]
        exact on.imp (fun z => z) fun z => ⟨_, _, z.2⟩
      · exact .inl (off b e)
    have ok : HOk P w H s1.heap := fun b u z => by
      by_cases e : b = a
      · rw [e] at z ⊢
        rcases on with n | ⟨_, n⟩
        · rw [n] at z; cases z
        · rw [n] at z
          cases z
          exact ⟨at_a, by rw [List.length_map]; exact fits, us, _, vals, at_a⟩
      · rw [off b e] at z; cases z
    have dictFree : ∀ {b : Addr} {o : Obj} {es : Array DictEntry} {ep : Nat}, s1.heap.get? b = some o → o.data = .dict es ep → H b = none := fun {b o es ep} z d => off b fun e => by
      rw [e, at_a] at z
      cases z
      cases (show Data.seq us.toArray _ = Data.dict es ep from d)
    have keepNs : ∀ {b : Addr} {m : MG}, s1.heap.Ns b m → (hidT s1.heap H).Ns b m := fun ⟨o, es, ep, z, d, r⟩ => ⟨o, es, ep, hidT_get z (dictFree z d), d, r⟩
    have KB : K.In (hidT s1.heap H) := fun b o z => hidT_get (KX b o z) (by
      by_cases e : b = a
      · rw [e] at z ⊢
        rcases on with n | ⟨n, _⟩
        · exact n
        · rw [n] at z; cases z
      · exact off b e)
    have md : Mod K mg (hidT s1.heap H) := ⟨KB, keepNs G, ⟨mb, keepNs Gb, bt⟩, let ⟨mc, l1, l2⟩ := free; ⟨mc, keepNs l1, l2⟩⟩
    have env : Env0 P w K mg (hidT s1.heap H) callerA [] s1 H := ⟨rfl, md, fun b o z => of_hidT z, Nat.le_of_eq (hidT_size _ _), trivial, fun b z => absurd (show b ∈ ([] : List Addr) from z) (by simp), ok, .of_eq noGens⟩
    refine codeAny_mono ((F _ KB (keepNs G)).run callerA [] s1 H ⟨[.ref a], []⟩ [.ref a] [.ref a] _ _ rfl room env (bind s1 (.ref a)) (.cons rfl .nil) (pre H only seq)) fun r s' done => ?_
    cases r with
    | error e => exact (noExc H e s' done).elim
    | ok fl =>
      cases fl with
      | next => exact done.elim
      | brk => exact done.elim
      | cont => exact done.elim
      | ret u =>
        obtain ⟨v, H', os, bare, un, ok', rv, q⟩ := done
        cases (show v = .bl true from q)
        cases (show u = Value.bool true from rv)
        refine ⟨rfl, OldK.of_keep fun b o z => ?_, os, bare⟩
        cases hb : H b with
        | none => exact un.keep b o z hb (by intro y; exact absurd (show b ∈ ([] : List Addr) from y) (by simp)) (by simp)
        | some u =>
          rcases only b with y | ⟨ob, xs, y⟩
          · rw [hb] at y; cases y
          · obtain ⟨e1, _⟩ := ok b _ y
            obtain ⟨e2, _⟩ := ok' b _ (un.frzs b ob _ y)
            rw [z] at e1
            cases e1
            exact e2
  cases look : K.lookup a with
  | some o =>
    have z := KX a o look
    rw [at_a] at z
    cases z
    exact go (fun _ => none) (fun _ _ => rfl) (.inl rfl) (.inr ⟨_, us.toArray, _, look, rfl, rfl, rfl, by rw [List.size_toArray, size]; exact fits, by simpa using vals⟩)
  | none => exact go (fun b => if b = a then some (.frz { cls := .type "list", data := .seq us.toArray } (.lst (ns.map V.int))) else none) (fun b n => if_neg n) (.inr ⟨look, if_pos rfl⟩) (.inl (.inr ⟨{ cls := .type "list", data := .seq us.toArray }, if_pos rfl⟩))
end
theorem walk_ofG {l : PySem.W.OpenLaw} {n k : Nat} {q : Program} {loose : List Str} {XP : MG → Heap → Prop} {YP : World → Heap → Prop} {d : DefRec} {K : Params → PySem.W.Frag} {CX : World → CXT} {sp : World → Sp} {x : Str}
    (most : l.most = some n) (fits : n ≤ sizeLine) (noDef : d.params.defaults = []) (room : Room k callerA) (hY : ∀ (w : World) (h : Heap), YP w h → (K w.params).In h)
    (F : ∀ (w : World) (mg : MG) (fa : Addr) (h : Heap), (K w.params).In h → h.Ns mainGlobals mg → mg d.name = some (.ref fa) →
      ∃ fd : FuncData, (∀ (s : Shared) (u : Value), BindsTo s fd ⟨[u], []⟩ [(x, u)]) ∧ ∀ base : Heap, (K w.params).In base → base.Ns mainGlobals mg → FnG l.prog w (K w.params) mg base (CX w) k fa fd [x] (sp w))
    (pre : ∀ (w : World) (H : Hp) (a : Addr) (ns : List Int), ns.length ≤ n → Only H → SqL (K w.params) H a (ns.map V.int) → sp w [.ref a] H (fun v _ => v = .bl true) fun _ _ _ => False)
    (noExc : ∀ (w : World) (H : Hp) (s : Shared) (e : Value) (s' : Shared), CX w [] H s (fun _ _ _ => False) e s' → False) : PySem.W.WalkO q loose XP YP l.row.toRowW d [] (fun f vs => PySem.call f vs) :=
  Att.attach_call most noDef fun w s0 s1 mg mb fa o pm cd doc a vs ns Gr Y look data code here at_a intsA size noGens => by
    obtain ⟨fd, bind, FF⟩ := F w mg fa _ (hY w _ Y) Gr.T.g here
    exact law_callG (hY w _ Y) Gr.T.g Gr.T.b Gr.T.builtins Gr.T.nolimit noGens at_a intsA (Nat.le_trans size fits) room FF bind (fun H only seq => pre w H a ns size only seq) fun H e s' => noExc w H s1 e s'
end BV
namespace BV
open PySem PySem.Spec PyProof.Rows L2
theorem hu80 {k : Nat} {A : Around} (r : Room k A) : A.units + 80 < cLine := by have := r.un; omega
/-! ### a tuple, a list so many times -/
def mulTOp : Op2 := fun x y => match x.tup, y with
  | some ds, .fz (.int k) => if ds ≠ [] ∧ ds.length ≤ 1000 ∧ 2 ≤ k ∧ k ≤ 10 then some (.fz (.tuple (List.replicate k.toNat ds).flatten)) else none
  | _, _ => none
def mulLOp : Op2 := fun x y => match x.lst, y with
  | some ds, .fz (.int k) => if ds.length ≤ 1000 ∧ 0 ≤ k ∧ k ≤ 10 then some (.ow (List.replicate k.toNat ds).flatten) else none
  | _, _ => none
theorem RpAll.rep {F : Hp} {vs : List V} {ds : List D} (h : RpAll F vs ds) : ∀ n : Nat, RpAll F (List.replicate n vs).flatten (List.replicate n ds).flatten
  | 0 => .nil
  | n + 1 => by
    rw [List.replicate_succ, List.replicate_succ, List.flatten_cons, List.flatten_cons]
    exact h.append (RpAll.rep h n)
theorem ops_mulT {K : PySem.W.Frag} : OpS K (rRepT K) mulTOp := by
  intro B F H x y A A' sx sy sl Q gr r1 r2 e q
  unfold mulTOp at e
  split at e
  · rename_i ds k h1
    split at e
    · rename_i c
      cases e
      cases fz_int r2
      obtain ⟨p, xs, rfl, fp, hp, rp⟩ := r1.tuple gr h1
      refine ⟨p, k, xs, rfl, rfl, .inl (.inl hp), fun z => ?_, c.2.2.1, by omega, by rw [rp.length]; exact c.2.1, fun l nl => ?_⟩
      · subst z
        cases rp
        exact c.1 rfl
      · exact q (.ref l) _ _ [] (Grow.laid gr.sub nl) ⟨rfl, .tup upd_same ((rp.rep k.toNat).mono (Ex.new (gr.sub.back nl)))⟩ fun _ z => nomatch z
    · cases e
  · cases e
theorem ops_mulL {K : PySem.W.Frag} : OpS K rRep mulLOp := by
  intro B F H x y A A' sx sy sl Q gr r1 r2 e q
  unfold mulLOp at e
  split at e
  · rename_i ds k h1
    split at e
    · rename_i c
      cases e
      cases fz_int r2
      obtain ⟨p, xs, rfl, hp, rp⟩ := r1.list gr h1
      refine ⟨p, k, xs, rfl, rfl, hp, by omega, by omega, ?_, fun l nl => new_ow gr.sub q (rp.rep k.toNat) l nl⟩
      rw [rp.length]
      refine Nat.le_trans (Nat.mul_le_mul c.1 (show k.toNat ≤ 10 by omega)) ?_
      exact sz_of (by decide)
    · cases e
  · cases e
section
variable {X : Cx} {W : WX} {a b : Expr} {fa fb : EV} {pos : Pos}
theorem e_mulT (ha : EE X W a fa) (hb : EE X W b fb) : EE X W (.BinOp a .Mult b pos) (eBin mulTOp fa fb) := e_bin op_repT ops_mulT ha hb
theorem e_mulL (ha : EE X W a fa) (hb : EE X W b fb) : EE X W (.BinOp a .Mult b pos) (eBin mulLOp fa fb) := e_bin op_rep ops_mulL ha hb
end
/-! ### text == text -/
def eqSOp : Op2 := fun x y => match x, y with
  | .fz (.str a), .fz (.str b) => some (.fz (.bool (decide (a = b))))
  | _, _ => none
theorem ops_eqS {K : PySem.W.Frag} : OpS K rEq eqSOp := by
  intro B F H x y A A' sx sy sl Q gr r1 r2 e q
  unfold eqSOp at e
  split at e
  · rename_i a b
    cases e
    cases fz_str r1
    cases fz_str r2
    refine ⟨rfl, ?_⟩
    rw [show decide (V.str a = V.str b) = decide (a = b) from decide_eq_decide.mpr ⟨fun z => V.str.inj z, fun z => by rw [z]⟩]
    exact VRep.atom gr.sub q (Rp.bl _)
  · cases e
theorem e_eqS {X : Cx} {W : WX} {a b : Expr} {fa fb : EV} {pos : Pos} (ha : EE X W a fa) (hb : EE X W b fb) : EE X W (.Compare a [.Eq] [b] pos) (eBin eqSOp fa fb) := e_cmp op_eq ops_eqS ha hb
/-! ### str(n) -/
def strIF : List Sl → Option Sl
  | [.fz (.int i)] => if i.natAbs.log2 < 1920 then some (.fz (.str (Str.ofString (toString i)))) else none
  | _ => none
theorem cal_strI {K : PySem.W.Frag} : CalS K (fun xs H Q => ∃ i : Int, xs = [.int i] ∧ i.natAbs.log2 < 1920 ∧ Q (.str (toString i)) H) strIF := by
  intro B F H vs ss sl Q gr ar e q
  unfold strIF at e
  split at e
  · split at e
    · rename_i hi
      cases e
      obtain ⟨v, rfl, r1⟩ := ar1 ar
      cases fz_int r1
      exact ⟨_, rfl, hi, VRep.atom gr.sub q (Rp.str _)⟩
    · cases e
  · cases e
section
variable {X : Cx} {W : WX} {x : Expr} {fs : Rho → Rs (List Sl)} {pos p : Pos}
theorem e_strI (hm : X.mg "str" = none) (ha : EA X W [x] fs) (hg : Gl X "str" := by rfl) (he : starEach [x] X.env = (false, eval x X.env) :: starEach [] X.env := by rfl) : EE X W (.Call (.Name "str" p) [x] [] pos) (eCB strIF fs) := e_callTy call_str_int cal_strI hm (by decide +kernel) ha hg (by decide) (by decide) he rfl
end
/-! ### sep.join(a list of texts) -/
def strsOf : List D → Option (List Str)
  | [] => some []
  | .str b :: r => (strsOf r).map (b :: ·)
  | _ => none
theorem strsOf_ok {F : Hp} : ∀ {vs : List V} {ds : List D} {bs : List Str}, RpAll F vs ds → strsOf ds = some bs → vs = bs.map V.str
  | _, _, _, .nil, h => by cases h; rfl
  | _, .str b :: r, bs, .cons h t, e => by
    obtain ⟨es, e1, e2⟩ := Option.map_eq_some_iff.mp (show (strsOf r).map (b :: ·) = some bs from e)
    subst e2
    cases h
    rw [strsOf_ok t e1]
    rfl
  | _, .none :: r, _, _, e => by cases e
  | _, .int _ :: r, _, _, e => by cases e
  | _, .bool _ :: r, _, _, e => by cases e
  | _, .list _ :: r, _, _, e => by cases e
  | _, .tuple _ :: r, _, _, e => by cases e
  | _, .dict _ :: r, _, _, e => by cases e
def joinOp : Op2 := fun x y => match x, y.lst.bind strsOf with
  | .fz (.str a), some ys => if (ys.map (·.length)).sum + ys.length * a.length ≤ 100000 then some (.fz (.str (Txt.join a ys))) else none
  | _, _ => none
section
variable {X : Cx} {W : WX} {o e : Expr} {fo fe : EV} {pos apos : Pos}
def eJoin (fo fe : EV) : EV := fun ρ => (fo ρ).bind fun x => match x with
  | .fz (.str a) => (fe ρ).bind fun y => Rs.of (joinOp (.fz (.str a)) y)
  | _ => .bad
theorem e_join (ho : EE X W o fo) (he : EE X W e fe) (hs : starEach [e] X.env = [(false, eval e X.env)] := by rfl) (hbase : attributeBase o "join" X.env (eval o X.env) = eval o X.env := by rfl) (hline : (apos.endLine == pos.line) = true := by rfl) :
    EE X W (.Call (.Attribute o "join" apos) [e] [] pos) (eJoin fo fe) := pe_weak (pe_join ho he hs hbase hline) fun σ H Q ⟨B, ρ, F, R, h⟩ => by
  refine ⟨B, ρ, F, R, Pst.bind h fun sx v F1 H1 A _ g1 vr1 fr1 h1 => ?_⟩
  split at h1
  · rename_i a _
    cases fz_str vr1
    refine ⟨⟨a, rfl⟩, B, ρ, F1, R.grow g1, Pst.bind h1 fun sy w F2 H2 A2 _ g2 vr2 fr2 h2 => ?_⟩
    cases e : joinOp (.fz (.str a)) sy with
    | none => rw [e] at h2; exact h2.elim
    | some sl =>
      rw [e] at h2
      unfold joinOp at e
      split at e
      · rename_i b ys hb hy
        cases hb
        split at e
        · rename_i c
          cases e
          obtain ⟨ds, e1, e2⟩ := Option.bind_eq_some_iff.mp hy
          obtain ⟨p, xs, rfl, hp, rp⟩ := vr2.list (R.gr.trans (g1.trans g2)) e1
          cases strsOf_ok rp e2
          exact ⟨a, p, ys, rfl, rfl, .inl (.inl (.inl hp)), by omega, h2.here (A := []) g2.sub ⟨rfl, .str _⟩ (fun _ z => nomatch z)⟩
        · cases e
      · cases e
  · exact h1.elim
end
/-! ### [f, g, ..][k](e) -/
/-- names of defs, and what each makes of its argument -/
inductive Fs (X : Cx) : List Expr → List (List Sl → Rs Sl) → Prop
  | nil : Fs X [] []
  | cons {x : Str} {p : Pos} {es : List Expr} {m : List Sl → Rs Sl} {ms : List (List Sl → Rs Sl)} {k : Nat} (G : Df X.prog X.w X.K X.mg X.base x k 1 m) (room : Room k X.A) (hg : Gl X x) (hd : (x == ("__debug__" : Str)) = false)
      (hs : starEach (.Name x p :: es) X.env = (false, eval (.Name x p) X.env) :: starEach es X.env) (t : Fs X es ms) : Fs X (.Name x p :: es) (m :: ms)
/-- what one of the addresses promises -/
def OneF (X : Cx) (f : Addr) (m : List Sl → Rs Sl) : Prop := PySem.W.keepIn X.K (.ref f) = true ∧ ∃ (k : Nat) (fd : FuncData) (ps : List Str), FnOk X.prog X.w X.K X.mg X.base (L2N.CX X.prog X.w) k f fd ps (spV X.K X.mg 1 m) ∧ Binds X.K fd ps [] ∧ Room k X.A
theorem Fs.pa {X : Cx} {es : List Expr} {ms : List (List Sl → Rs Sl)} (h : Fs X es ms) : ∃ L : List Addr, L.length = es.length ∧ Paired (fun f m => OneF X f m) L ms ∧ PA X es (fun _ H Q => Q (L.map V.ref) H) := by
  induction h with
  | nil => exact ⟨[], rfl, .nil, pa_weak pa_nil fun _ _ _ z => z⟩
  | cons G room hg hd hs t ih =>
    obtain ⟨L, len, pr, pa⟩ := ih
    obtain ⟨f, fd, ps, F, hm, hk, hb⟩ := G.ex
    exact ⟨f :: L, by rw [List.length_cons, List.length_cons, len], .cons ⟨hk, _, fd, ps, F, hb, room⟩ pr, pa_weak (pa_cons (pe_glob (v := .ref f) hg hm rfl hd) pa hs) fun _ _ _ z => z⟩
theorem Paired.getL {α β : Type} {R : α → β → Prop} : ∀ {xs : List α} {ys : List β} {i : Nat} {y : β}, Paired R xs ys → ys[i]? = some y → ∃ x, xs[i]? = some x ∧ R x y
  | _, _, _, _, .nil, h => by simp at h
  | _, _, 0, _, .cons h _, e => by simp at e; subst e; exact ⟨_, rfl, h⟩
  | _, _, i + 1, _, .cons _ t, e => by
    obtain ⟨x, h1, h2⟩ := Paired.getL (i := i) t (by simpa using e)
    exact ⟨x, by simpa using h1, h2⟩
def eCallIx (ms : List (List Sl → Rs Sl)) (fi fa : EV) : EV := fun ρ => (fi ρ).bind fun s => match s with
  | .fz (.int i) => match atI ms i with
    | some m => eCall 1 m (aCons fa aNil) ρ
    | none => .bad
  | _ => .bad
section
variable {X : Cx} {W : WX} {es : List Expr} {ix a : Expr} {fi fa : EV} {pos p1 p2 : Pos} {ms : List (List Sl → Rs Sl)}
theorem e_callIx (h : Fs X es ms) (tk : L2N.Takes X W) (hi : EE X W ix fi) (ha : EE X W a fa) (short : es.length ≤ 1000) (hp : PlainIx ix := by exact fun _ _ => rfl) (hs : starEach [a] X.env = (false, eval a X.env) :: starEach [] X.env := by rfl)
    (hpl : (backTo pos (starEach [] X.env)).any (·.1) = false := by rfl)
    (he : eval (.Call (.Subscript (.List es p1) ix p2) [a] [] pos) X.env = (do callWith pos (← eval (.Subscript (.List es p1) ix p2) X.env) [] (backTo pos (starEach [a] X.env)) (backToKw pos (keywordEach [] X.env))) := by rfl) :
    EE X W (.Call (.Subscript (.List es p1) ix p2) [a] [] pos) (eCallIx ms fi fa) := by
  obtain ⟨L, len, pr, pa⟩ := h.pa
  have pl := pe_lst (X := X) (pos := p1) pa
  refine ⟨fun pins s σ H Q I ⟨B, ρ, F, R, z⟩ => ?_⟩
  refine Call_ (thn ((pe_ix (pos := p2) ix_seq pl hi hp).run pins s σ H (fun v H1 => ∃ (f : Addr) (m : List Sl → Rs Sl) (F1 : Hp), v = .ref f ∧ OneF X f m ∧ Grow F H F1 H1 ∧ Pst X.K X.mg W B σ F H (eCall 1 m (aCons fa aNil) ρ) Q) I ?_) fun u s1 ⟨v, H1, I1, rv, f, m, F1, ev, one, g1, post⟩ => ?_) he
  · refine ⟨by rw [List.length_map, len]; exact sz_of (by omega), fun q nq => ?_⟩
    have g0 : Grow F H F (upd H q (.lst (L.map V.ref))) := Grow.own R.gr.sub nq
    refine ⟨B, ρ, F, R.grow g0, ?_⟩
    unfold eCallIx at z
    cases e : fi ρ with
    | bad => rw [e] at z; exact z.elim
    | exc c => rw [e] at z; exact fun F' H' g' => z F' H' (g0.trans g')
    | ok sl =>
      rw [e, Rs.bind_ok] at z
      intro v F1 H1 A g1 vr fr
      split at z
      · rename_i i
        cases fz_int vr
        split at z
        · rename_i m hm
          obtain ⟨j, e3, e4⟩ := at_len (Paired.length pr) hm
          obtain ⟨f, e5, one⟩ := Paired.getL pr e3
          refine .inl ⟨q, L.map V.ref, i, .ref f, rfl, rfl, .inl (.inl (g1.exH _ _ upd_same)), ?_, f, m, F1, rfl, one, g0.trans g1, z⟩
          obtain ⟨j', ej, el⟩ := Option.bind_eq_some_iff.mp (show (ixN L.length i).bind (fun j => L[j]?) = some f from e4 f e5)
          show (ixN (L.map V.ref).length i).bind (fun j => (L.map V.ref)[j]?) = some (V.ref f)
          rw [List.length_map, ej]
          show (L.map V.ref)[j']? = some (V.ref f)
          rw [List.getElem?_map, el]
          rfl
        · exact z.elim
      · exact z.elim
  · subst ev
    cases rv
    obtain ⟨hk, k, fd, ps, FO, hb, room⟩ := one
    have pg : Pst X.K X.mg W B σ F1 H1 (eCall 1 m (aCons fa aNil) ρ) Q := Pst.grow g1 post
    have args : EA X W [a] (aCons fa aNil) := a_cons ha a_nil hs
    refine PySem.W.callWith_K (h₀ := X.base) I1.ok.mod.kin hk (thn (args.run pos pins s1 σ H1 (fun vs H2 => spV X.K X.mg 1 m vs H2 Q (fun c d H => W c d σ H)) I1 ⟨B, ρ, F1, R.grow g1, PstA.bind pg fun ss vs F2 H2 _ g2 ar h2 => ?_⟩) fun us s2 ⟨vs, H2, I2, r, q2⟩ =>
      ⟨I2.kIn, L2.run_fnSD (E := fun σ c d H => W c d σ H) FO room hb .nil (L2N.passAt tk σ) I2 r (by rw [List.append_nil]; exact q2)⟩) hs hpl
    split at h2
    · rename_i hc
      refine ⟨F2, ss.map asArg, (Paired.length ar).trans hc.1, g2.sub, asArg_ok (R.gr.trans (g1.trans g2)) ar, fun t ht => ?_, ?_⟩
      · obtain ⟨t', ht', rfl⟩ := List.mem_map.mp ht
        have := List.all_eq_true.mp hc.2 t' ht'
        cases t' <;> first | rfl | cases this
      · cases eg : m (ss.map asArg) with
        | ok sl =>
          rw [eg] at h2
          exact fun v F' H' A g3 vr fr hres => h2 v F' H' A g3 (vr.res hres) fr
        | exc c => rw [eg] at h2; exact h2
        | bad => rw [eg] at h2; exact h2
    · exact h2.elim
end
end BV
namespace BV
open PySem PySem.Spec PyProof.Rows L2
/-! ### an error that leaves a comprehension -/
/-- an error in the air of a context whose frame is at L -/
def XEL (X : Cx) (L : Addr) (W : WX) (u : Value) (s' : Shared) : Prop :=
  ∃ (a : Addr) (B : Heap) (sI : Shared) (pins : List (Addr × Obj)) (σ : L2.St) (H : Hp) (cls : Value) (d : Option Addr), u = .ref a ∧ Inv X pins σ H sI ∧ (∀ b o, sI.heap.get? b = some o → b ∉ frs X.stack → B.get? b = some o) ∧ sI.heap.UpToSlots s'.heap ∧
    Sky B X.stack a (L2N.Zn cls d) L s'.heap ∧ H a = none ∧ s'.os = sI.os ∧ AllBare s'.gens ∧ W cls d σ H
/-- .. noted -/
def XEH (X : Cx) (L : Addr) (W : WX) (u : Value) (s' : Shared) : Prop :=
  ∃ (a : Addr) (B : Heap) (sI : Shared) (pins : List (Addr × Obj)) (σ : L2.St) (H : Hp) (cls : Value) (d : Option Addr), u = .ref a ∧ Inv X pins σ H sI ∧ (∀ b o, sI.heap.get? b = some o → b ∉ frs X.stack → B.get? b = some o) ∧ sI.heap.UpToSlots s'.heap ∧
    HandSPX.HeldZ B X.stack a (L2N.Zn cls d) L s'.heap ∧ H a = none ∧ s'.os = sI.os ∧ AllBare s'.gens ∧ W cls d σ H
def TakesL (X : Cx) (L : Addr) (W : WX) : Prop := ∀ u s', XEL X L W u s' → X.xe u s'
structure FrameAt (X : Cx) (L : Addr) : Prop where
  ex : ∃ (fenv : Env) (rest : List Env), X.stack = fenv :: rest ∧ fenv.frame = some L
  own : X.env.frame = some L
theorem takesL {X : Cx} {W : WX} (tk : L2N.Takes X W) : TakesL X X.env.locals W := tk
section
variable {X : Cx} {L : Addr} {W : WX} {pins : List (Addr × Obj)} {σ : L2.St} {H : Hp} {s s' : Shared} {u : Value}
theorem XEL.of_call {E : XK} (I : Inv X pins σ H s) (hW : ∀ cls d H', E cls d H' → W cls d σ H') (c : L2N.CX X.prog X.w X.stack H s E u s') : XEL X L W u s' := by
  obtain ⟨a, B, H', cls, d, rfl, fly, ok, ub, na, os, ag, e⟩ := c
  obtain ⟨G, inG, outG⟩ := restrict s'.heap fun b => (B.get? b).isSome || decide (b ∈ frs X.stack)
  have ofB : ∀ b o, B.get? b = some o → G.get? b = some o := fun b o z => by
    rw [inG b (by simp [z])]
    exact fly.1 b o z
  have ofF : ∀ b, b ∈ frs X.stack → G.get? b = s'.heap.get? b := fun b z => inG b (by simp [z])
  have toS : ∀ b o, G.get? b = some o → s'.heap.get? b = some o ∧ ((B.get? b).isSome = true ∨ b ∈ frs X.stack) := fun b o z => by
    cases q : ((B.get? b).isSome || decide (b ∈ frs X.stack)) with
    | false => rw [outG b q] at z; cases z
    | true =>
      rw [inG b q] at z
      exact ⟨z, by simpa [Bool.or_eq_true] using q⟩
  refine ⟨a, B, { s with heap := G, gens := s'.gens, drawn := s'.drawn, toks := s'.toks }, pins, σ, H', cls, d, rfl, ?_, fun b o z nf => ?_, Heap.UpToSlots.of_keeps fun b o z => (toS b o z).1, .inr (.inl fly), na, os, ag, hW _ _ _ e⟩
  · refine I.call (ch := []) ⟨fun b o z n nf _ => ofB b o (ub.keep b o z n nf), fun b o z n nf _ => ?_, fun b o z n _ => ub.free b o z n, fun b o z _ => ?_, ub.tups, ub.frzs, ub.tbls⟩ (ok.kept ofB) ag (fun _ z => nomatch z)
    · obtain ⟨sl, q⟩ := ub.slot b o z nf
      exact ⟨sl, by rw [ofF b nf]; exact q⟩
    · by_cases nf : b ∈ frs X.stack
      · obtain ⟨sl, q⟩ := ub.slot b o z nf
        exact ⟨_, by rw [ofF b nf]; exact q⟩
      · obtain ⟨o', q⟩ := ub.there b o z nf
        exact ⟨o', ofB b o' q⟩
  · obtain ⟨there, side⟩ := toS b o z
    rcases side with side | side
    · obtain ⟨o', q⟩ := Option.isSome_iff_exists.mp side
      have := fly.1 b o' q
      rw [there] at this
      cases this
      exact q
    · exact absurd side nf
theorem passL (tk : TakesL X L W) (σ : L2.St) : PassesAt (L2N.CX X.prog X.w) X σ (fun c d H => W c d σ H) := fun _ _ _ e s' I c => tk e s' (XEL.of_call I (fun _ _ _ z => z) c)
theorem note_same {env env' : Env} (h : env.frame = env'.frame) (u : Value) : noteFrame u env = noteFrame u env' := by
  unfold noteFrame PySem.frameOf
  rw [h]
theorem XEL.note {env' : Env} {Q : Unit → Shared → Prop} {E : Value → Shared → Prop} (fr : FrameAt X L) (hf : env'.frame = some L) (x : XEL X L W u s') (hQ : ∀ s'', XEH X L W u s'' → Q () s'') : wpAny (model X.prog X.w) X.A (noteFrame u env') Q E s' := by
  obtain ⟨a, B, sI, pins, σ, H, cls, d, rfl, I, nb, up, sky, na, os, ag, w⟩ := x
  obtain ⟨fenv, rest, st, ff⟩ := fr.ex
  have frames : X.A.frames = some (fenv :: rest) := by rw [I.ok.frames, st]
  rw [note_same (hf.trans ff.symm)]
  have fin : ∀ h', HandSPX.HeldZ B X.stack a (L2N.Zn cls d) L h' → s'.heap.UpToSlots h' → Q () { s' with heap := h' } := fun h' held up' => hQ _ ⟨a, B, sI, pins, σ, H, cls, d, rfl, I, nb, up.trans up', held, na, os, ag, w⟩
  rw [st] at sky fin
  rcases sky with ⟨hB, hn, hl, oe, vs, he, hz, hd, h1⟩ | fly | held
  · exact PXN.look_newZ L2N.Zn.steady frames hl ff he hB hn hd h1 hz fin
  · exact PXN.looks_onZ L2N.Zn.steady frames ff fly fin
  · exact HandSPX.againZ ff held.2.2.2 (fin s'.heap held (Heap.UpToSlots.refl _))
/-- the frame's own dict let go, the flight set: it goes on in the context around -/
theorem XEH.out {Y : Cx} {C fp0 : Addr} {fps : List Addr} {m : Str → Option Value} {h' : Heap} {cenv : Env} (x : ∃ (a : Addr) (B : Heap) (sI : Shared) (pinsY : List (Addr × Obj)) (σY : L2.St) (H : Hp) (cls : Value) (d : Option Addr), u = .ref a ∧ Inv X pins σ H sI ∧
      (∀ b o, sI.heap.get? b = some o → b ∉ frs X.stack → B.get? b = some o) ∧ sI.heap.UpToSlots s'.heap ∧ HandSPX.HeldZ B X.stack a (L2N.Zn cls d) L s'.heap ∧ H a = none ∧ s'.os = sI.os ∧ AllBare s'.gens ∧ W cls d σ H ∧ FpOk X pins H C)
    (tk : TakesL X L W) (isNs : s'.heap.Ns C m) (same : Heap.SameBut C s'.heap h') (hf : cenv.frame = some L) (nC : C ∉ frs X.stack) :
    wpAny (model X.prog X.w) X.A (passOn "comprehension.variables-let-go" u cenv : Sem Value) (fun _ _ => False) X.xe { s' with heap := h' } := by
  obtain ⟨a, B, sI, _, _, H, cls, d, rfl, I, nb, up, ⟨st, an, ff, tr⟩, na, os, ag, w, fpC⟩ := x
  obtain ⟨f0, f1, f2, f3, f4, f5⟩ := fpC
  obtain ⟨oC, es, ep, eC, dC, _⟩ := isNs
  have notC : ∀ {b : Addr} {o : Obj} {vs : Array Value}, s'.heap.get? b = some o → o.data = .fields vs → b ≠ C := fun {b o vs} z q e => by
    rw [e, eC] at z
    cases z
    rw [dC] at q
    cases q
  have kp : ∀ b o, b ≠ C → s'.heap.get? b = some o → h'.get? b = some o := fun b o n z => (same.2 b n).trans z
  have hid : ∀ {h : Heap} {b : Addr} {o : Obj}, (PySem.W.hideAll h [C]).get? b = some o → b ≠ C ∧ h.get? b = some o := fun {h b o} z => ⟨(fun e => by
    rw [e, PySem.W.hideAll_none _ (List.mem_singleton.mpr rfl)] at z
    cases z), PySem.W.of_hideAll _ z⟩
  have st' : (PySem.W.hideAll B [C]).StaysIn h' := fun b o z => kp b o (hid z).1 (st b o (hid z).2)
  have an' : (PySem.W.hideAll B [C]).get? a = none := by
    cases z : (PySem.W.hideAll B [C]).get? a with
    | none => rfl
    | some o =>
      have := (hid z).2
      rw [an] at this
      cases this
  have ff' : ∀ l : List Env, C ∉ frs l → s'.heap.FunFrames B l → h'.FunFrames (PySem.W.hideAll B [C]) l := fun l => by
    induction l with
    | nil => exact fun _ _ => trivial
    | cons env rest ih =>
      intro nf hl
      obtain ⟨hk, ⟨M, o, hM, hn, ho, hd⟩, hr⟩ := hl
      have nM : M ≠ C := fun z => nf (List.mem_filterMap.mpr ⟨env, List.mem_cons_self .., by rw [hM, z]⟩)
      refine ⟨hk, ⟨M, o, hM, ?_, kp M o nM ho, hd⟩, ih (fun z => nf ?_) hr⟩
      · cases z : (PySem.W.hideAll B [C]).get? M with
        | none => rfl
        | some o' =>
          have := (hid z).2
          rw [hn] at this
          cases this
      · obtain ⟨e, he, q⟩ := List.mem_filterMap.mp z
        exact List.mem_filterMap.mpr ⟨e, List.mem_cons_of_mem _ he, q⟩
  obtain ⟨oe, vs, T, oT, ts, he, hz, hd, h1, hnT, hTe, hT, hdT, h3⟩ := tr
  have tr' : HandSPX.TracedZ h' (PySem.W.hideAll B [C]) a (L2N.Zn cls d) (rawInt L) := ⟨oe, vs, T, oT, ts, kp _ _ (notC he hd) he, hz, hd, h1, (by
    cases z : (PySem.W.hideAll B [C]).get? T with
    | none => rfl
    | some o' =>
      have := (hid z).2
      rw [hnT] at this
      cases this), hTe, kp _ _ (notC hT hdT) hT, hdT, h3⟩
  unfold PySem.passOn
  refine wpAny_bind (wpAny_field (s := { s' with heap := h' }) (kp _ _ (notC he hd) he) hd h1 ?_)
  rw [if_neg (show ¬ ((Value.ref T == Value.none) = true) from by simp)]
  have fin : wpAny (model X.prog X.w) X.A (setFlight (.ref a) cenv.frame) (fun _ s4 => wpAny (model X.prog X.w) X.A (throw (.ref a) : Sem Value) (fun _ _ => False) X.xe s4) X.xe { s' with heap := h' } := by
    rw [hf]
    refine HandSPX.setFlight_anyZ (s := { s' with heap := h' }) st' (ff' _ nC ff) tr' fun h4 k1 k2 k3 k4 => wpAny_throw (tk _ _ ?_)
    refine ⟨a, PySem.W.hideAll B [C], { sI with heap := PySem.W.hideAll sI.heap [C] }, pins, σ, H, cls, d, rfl, ?_, fun b o z nf => ?_, fun b o z q => ?_, .inr (.inr ⟨k1, an', k2, k3⟩), na, os, ag, w⟩
    · exact I.turned (t' := sI.toks) (fun b o n z => PySem.W.hideAll_get _ z (fun y => n (List.mem_singleton.mp y))) f0 f1 f3 f4 f5
    · exact PySem.W.hideAll_get _ (nb b o (hid z).2 nf) fun y => (hid z).1 (List.mem_singleton.mp y)
    · obtain ⟨sl, e⟩ := up b o (hid z).2 q
      obtain ⟨sl2, e2⟩ := k4 b _ (kp b _ (hid z).1 e) q
      exact ⟨sl2, e2⟩
  first
    | exact wpAny_bind (wpAny_pure (wpAny_bind fin))
    | exact wpAny_bind fin
end
/-- a comprehension's end; an error's frame is the frame around -/
def endC (M : Model) (A : Around) (E : Value → Shared → Prop) (use : Option (Value → Sem Unit)) (Q : Value → Shared → Prop) (acc : Value) (C : Addr) (fl : Option Addr) (r : Result) (s' : Shared) : Prop :=
  match r, use with
  | .ok f, u => compPost M A E u Q acc C (.ok f) s'
  | .error x, _ => ∃ m, s'.heap.Ns C m ∧ ∀ h', Heap.SameBut C s'.heap h' → ∀ cenv : Env, cenv.frame = fl → wpAny M A (passOn "comprehension.variables-let-go" x cenv : Sem Value) (fun _ _ => False) E { s' with heap := h' }
theorem compE {M : Model} {A : Around} {E : Value → Shared → Prop} {s : Shared} {env : Env} {e : Expr} {scope : Scope} {pos : Pos} {newAcc first : Sem Value} {g : Comprehension} {gs : List Comprehension} {cl : List (Str × Addr)} {use : Option (Value → Sem Unit)} {Q : Value → Shared → Prop}
    (clauses : clausesOf e = g :: gs) (plain : ∀ x, foldedSetIterable g.iter env x = pure x) (closed : closureFor scope env = pure cl) (kind : scope.kind = .function) (names : ∀ x ∈ scope.names, x.2 = .local → scope.names.lookup x.1 = some .local)
    (h : wpAny M A first (fun x s1 => wpAny M A (pyIter x) (fun it s2 => wpAny M A newAcc (fun acc s3 => wpAny M A (newFunctionEnv scope env.globals cl [] env.qual none .none (some env)) (fun cenv s4 =>
      codeAny M A (.compStart e 0 it acc { cenv with scope := relabel scope env }) (endC M A E use Q acc cenv.locals cenv.frame) s4) E s3) E s2) E s1) E s) : wpAny M A (comprehension e scope env pos newAcc false first use) Q E s := by
  unfold comprehension
  rw [closed, clauses]
  have keep : ∀ {s' : Shared} {e : Value}, E e s' → E e s' := fun z => z
  refine wpAny_bind (wpAny_mono h (fun x s1 a1 => wpAny_bind (wpAny_standAt (wpAny_bind (wpAny_of_eq (plain x) (wpAny_bind (wpAny_holding (wpAny_mono a1 (fun it s2 a2 =>
    wpAny_standIf (wpAny_bind (wpAny_mono a2 (fun acc s3 a3 => wpAny_bind (wpAny_pure (wpAny_bind (wpAny_mono a3 (fun cenv s4 a4 => ?_) fun _ _ => keep)))) fun _ _ => keep))) fun _ _ => keep))))))) fun _ _ => keep)
  dsimp only
  generalize hvars : scope.names.filter (fun x => (x.2 == .local || x.2 == .cell) && x.1 != (".0" : Str)) = vars
  have own : ∀ x ∈ vars, x.2 = .local → Env.kindOf { cenv with scope := relabel scope env } x.1 = some .local := fun x hx hl => lookup_relabel_local (names x (List.mem_filter.mp (hvars ▸ hx)).1 hl)
  have own1 : ∀ x ∈ vars.reverse, x.2 = .local → Env.kindOf { cenv with scope := relabel scope env } x.1 = some .local := fun x hx => own x (List.mem_reverse.mp hx)
  have own2 : ∀ x ∈ vars.reverse.drop 1 ++ vars.reverse.take 1, x.2 = .local → Env.kindOf { cenv with scope := relabel scope env } x.1 = some .local := fun x hx =>
    (List.mem_append.mp hx).elim (fun z => own1 x (List.mem_of_mem_drop z)) fun z => own1 x (List.mem_of_mem_take z)
  refine wpAny_holding (wpAny_bind (wpAny_attempt (wpAny_holding (wpAny_run (codeAny_mono a4 fun r s' hr => ?_)))))
  cases r with
  | ok f =>
    cases use with
    | none =>
      obtain ⟨m, hn, hr⟩ := hr
      exact wpAny_bind (wpAny_holding (wpAny_comp_letGo (cenv := { cenv with scope := relabel scope env }) kind _ s' m own1 hn fun h' m' _ same => wpAny_pure (hr h' same)))
    | some u =>
      refine wpAny_bind (wpAny_rule (wpAny_bind (wpAny_holding (wpAny_mono hr (fun _ s'' hr' => ?_) fun _ _ => keep))))
      obtain ⟨m, hn, hr'⟩ := hr'
      exact wpAny_bind (wpAny_comp_letGo (cenv := { cenv with scope := relabel scope env }) kind _ s'' m own2 hn fun h' m' _ same => wpAny_pure (hr' h' same))
  | error x =>
    have hr' : ∃ m, s'.heap.Ns cenv.locals m ∧ ∀ h', Heap.SameBut cenv.locals s'.heap h' → ∀ cenv' : Env, cenv'.frame = cenv.frame → wpAny M A (passOn "comprehension.variables-let-go" x cenv' : Sem Value) (fun _ _ => False) E { s' with heap := h' } := by cases use <;> exact hr
    obtain ⟨m, hn, hr'⟩ := hr'
    exact wpAny_bind (wpAny_holding (wpAny_comp_letGo (cenv := { cenv with scope := relabel scope env }) kind _ s' m own1 hn fun h' m' _ same => wpAny_mono (hr' h' same _ rfl) (fun _ _ z => z.elim) fun _ _ => keep))
/-! ### the block that may raise -/
abbrev blkE (X : Cx) (s : Shared) (H : Hp) (scope : Scope) (ce : Env) (fp : List Addr) (L : Addr) (Wb : WX) : Cx := { X.blk s H scope ce fp with xe := XEL (X.blk s H scope ce fp) L Wb }
section
variable {X : Cx} {L : Addr} {W : WX} {elt tg iter : Expr} {scope : Scope} {own : List (Str × Nat)} {pos pos' : Pos} {wi : TI} {g : TG} {tt : TT} {te : TE}
theorem lcE_core {pins : List (Addr × Obj)} {σ : L2.St} {s0 : Shared} {H0 : Hp} {Q : VK} {use : Option (Value → Sem Unit)} {Qf : Value → Shared → Prop} (fr : FrameAt X L) (tk : TakesL X L W) (hc : X.calm = true) (nd : X.N.Nodup) (I0 : Inv X pins σ H0 s0) (hi : PI X tg iter wi) (bk : BlkOk X.N X.env.scope scope own)
    (hg : ∀ (s : Shared) (H : Hp) (C : Addr) (cl : List (Str × Addr)) (fp : List Addr), PG (blkE X s H scope (compEnvC scope cl C X.env) fp L (fun cls d _ H' => W cls d σ H')) tg g)
    (ht : ∀ (s : Shared) (H : Hp) (C : Addr) (cl : List (Str × Addr)) (fp : List Addr), PTs (blkE X s H scope (compEnvC scope cl C X.env) fp L (fun cls d _ H' => W cls d σ H')) [] tt)
    (he : ∀ (s : Shared) (H : Hp) (C : Addr) (cl : List (Str × Addr)) (fp : List Addr), PE (blkE X s H scope (compEnvC scope cl C X.env) fp L (fun cls d _ H' => W cls d σ H')) elt te) (hs : ∀ x, foldedSetIterable iter X.env x = pure x)
    (pre : tLc wi g tt te (own.map (·.2)) σ H0 Q)
    (fin : ∀ L C s' m H', Inv X pins σ H' s' → Q (.ref L) H' → s'.heap.Ns C m → FpOk X pins H' C → compPost (model X.prog X.w) X.A X.xe use Qf (.ref L) C (.ok .next) s') :
    wpAny (model X.prog X.w) X.A (comprehension (.ListComp elt [⟨tg, iter, [], 0⟩] scope pos) scope X.env pos' (newList []) false (eval iter X.env) use) Qf X.xe s0 := by
  have frees : ∀ y ∈ scope.names, y.2 = .free → ∃ c, X.env.cells.lookup y.1 = some c := fun y hy e => (bk.free y hy e).elim (fun z => I0.ok.has _ (.inl z)) fun z => I0.ok.has _ (.inr z)
  refine compE (use := use) rfl hs (closure_ok frees) bk.kind (fun y hy e => by rw [bk.uniq y hy, e]) (thn (hi.run pins s0 σ H0 _ I0 pre) fun _ _ got => thn got fun itv sA gotI => ?_)
  obtain ⟨it, fp, tn, J, HA, rfl, IA, T, tA, fA, wish⟩ := gotI
  refine wpAny_newObj_type (newEnv_comp ?_) (by show 0 ≤ sizeLine; decide)
  generalize eD : sA.heap.objs.size = D
  obtain ⟨Wn, ⟨m0, w0⟩, turn⟩ := wish D (IA.hok.fresh (Nat.le_of_eq eD))
  generalize eB : ({ sA with heap := sA.heap.push { cls := .type "list", data := .seq ([] : List Value).toArray } } : Shared) = sB
  have hB : sB.heap = sA.heap.push { cls := .type "list", data := .seq ([] : List Value).toArray } := by rw [← eB]
  have IB : Inv X pins σ (upd HA D (.lst [])) sB := by
    rw [← eB]
    refine IA.laid (t' := sA.toks) (fun b o e => Heap.get?_push_of_some _ e) (Nat.le_of_eq eD) ⟨Nat.zero_le _, [], 0, .nil, ?_⟩
    rw [← eD]
    exact Heap.get?_push_size _ rfl
  have fB : ∀ b ∈ fp, FpOk X pins (upd HA D (.lst [])) b ∧ b < sB.heap.objs.size := fun b hb => by
    have lt : b < sA.heap.objs.size := by
      obtain ⟨o, e, _⟩ := T.obj _ _ tA b hb
      exact Heap.lt_size e
    refine ⟨⟨(upd_ne (by rw [← eD]; exact Nat.ne_of_lt lt)).trans (fA b hb).1, (fA b hb).2⟩, by rw [hB, Heap.size_push]; exact Nat.lt_succ_of_lt lt⟩
  have tB : tn 0 sB.heap := T.keep _ _ _ tA fun b _ o e => by rw [hB]; exact Heap.get?_push_of_some _ e
  generalize eH : upd HA D (.lst []) = HB at IB fB w0
  have IC0 := block_start IB bk nd fB
  have kp : ∀ b o, sB.heap.get? b = some o → (pushCells (sB.heap.push { cls := .type "dict", data := .dict #[] }) scope.names).get? b = some o := fun b o e => pushCells_keeps _ _ _ _ (Heap.get?_push_of_some _ e)
  have pg := hg sB HB sB.heap.objs.size (cellsFrom (sB.heap.objs.size + 1) scope.names (cloFrom X.env.cells scope.names [])) fp
  have pt := ht sB HB sB.heap.objs.size (cellsFrom (sB.heap.objs.size + 1) scope.names (cloFrom X.env.cells scope.names [])) fp
  have pe := he sB HB sB.heap.objs.size (cellsFrom (sB.heap.objs.size + 1) scope.names (cloFrom X.env.cells scope.names [])) fp
  show codeAny _ _ (.compStart (.ListComp elt [⟨tg, iter, [], 0⟩] scope pos) 0 (.ref it) (.ref D) (compEnvC scope (cellsFrom (sB.heap.objs.size + 1) scope.names (cloFrom X.env.cells scope.names [])) sB.heap.objs.size X.env)) (endC (model X.prog X.w) X.A X.xe use Qf (.ref D) sB.heap.objs.size X.env.frame) { sB with heap := pushCells (sB.heap.push { cls := .type "dict", data := .dict #[] }) scope.names }
  have cL : (compEnvC scope (cellsFrom (sB.heap.objs.size + 1) scope.names (cloFrom X.env.cells scope.names [])) sB.heap.objs.size X.env).locals = sB.heap.objs.size := rfl
  have cF : (compEnvC scope (cellsFrom (sB.heap.objs.size + 1) scope.names (cloFrom X.env.cells scope.names [])) sB.heap.objs.size X.env).frame = X.env.frame := rfl
  generalize compEnvC scope (cellsFrom (sB.heap.objs.size + 1) scope.names (cloFrom X.env.cells scope.names [])) sB.heap.objs.size X.env = ce at IC0 pg pt pe cL cF ⊢
  generalize eW : (fun cls d (_ : L2.St) H' => W cls d σ H' : WX) = Wb at pg pt pe
  have IC : Inv (blkE X sB HB scope ce fp L Wb) [] (wipe σ (own.map (·.2))) HB { sB with heap := pushCells (sB.heap.push { cls := .type "dict", data := .dict #[] }) scope.names } := IC0.wish _
  generalize eC : ({ sB with heap := pushCells (sB.heap.push { cls := .type "dict", data := .dict #[] }) scope.names } : Shared) = sC at IC ⊢
  have tC : tn 0 sC.heap := T.keep _ _ _ tB fun b _ o e => by rw [← eC]; exact kp _ _ e
  have stay : ∀ {σ' : L2.St} {H' : Hp} {s' : Shared}, Inv (blkE X sB HB scope ce fp L Wb) [] σ' H' s' → (∀ b ∈ fp, H' b = none) → ∀ b ∈ fp, FpOk (blkE X sB HB scope ce fp L Wb) [] H' b := fun I' no b hb =>
    ⟨no b hb, (I'.ok.exf b hb).1, I'.ok.exfs b hb, .inl hb, fun x c e => (I'.ok.exf b hb).2 x c e, fun q hq => absurd (show q ∈ ([] : List (Addr × Obj)) ++ [] from hq) (by simp)⟩
  have back : ∀ {σ' : L2.St} {H' : Hp} {s' : Shared} {pn : List (Addr × Obj)}, Inv (blkE X sB HB scope ce fp L Wb) pn σ' H' s' → Inv X pins σ H' s' ∧ FpOk X pins H' sB.heap.objs.size := fun {σ' H' s' pn} I' => by
    refine ⟨IB.call' (ch := fp) I'.os I'.base I'.hok I'.bare fun b hb => ⟨(fB b hb).1.2.2.2.1, (fB b hb).1.2.1, (fB b hb).1.2.2.2.2.1, (fB b hb).1.2.2.2.2.2⟩, IB.fpOk (Nat.le_refl _) ?_⟩
    exact cL ▸ (show H' ce.locals = none from I'.free)
  have nC : sB.heap.objs.size ∉ frs X.stack := fun z => by
    have f := IB.fpOk (H' := HB) (b := sB.heap.objs.size) (Nat.le_refl _) (IB.hok.fresh (Nat.le_refl _))
    exact (List.mem_cons.mp (IB.stkSub _ z)).elim f.2.1 f.2.2.1
  -- an error of the block
  have frB : FrameAt (blkE X sB HB scope ce fp L Wb) L := ⟨fr.ex, cF.trans fr.own⟩
  have errs : ∀ (u : Value) (s' : Shared), (blkE X sB HB scope ce fp L Wb).xe u s' → notedBy (model X.prog X.w) X.A ce (fun e s' => endC (model X.prog X.w) X.A X.xe use Qf (.ref D) sB.heap.objs.size X.env.frame (.error e) s') u s' := fun u s' x => by
    have x' : XEL (blkE X sB HB scope ce fp L Wb) L Wb u s' := by
      obtain ⟨a, B, sI, pn, σ', H', cls, d, r1, I', r⟩ := x
      exact ⟨a, B, sI, pn, σ', H', cls, d, r1, I'.wish _, r⟩
    refine XEL.note (X := blkE X sB HB scope ce fp L Wb) frB (cF.trans fr.own) x' fun s'' y => ?_
    obtain ⟨a, B, sI, pn, σ', H', cls, d, r1, I', nb, up, held, na, os, ag, w⟩ := y
    obtain ⟨m, hn, _⟩ := I'.loc
    have hn : sI.heap.Ns sB.heap.objs.size m := cL ▸ (show sI.heap.Ns ce.locals m from hn)
    obtain ⟨J', fpC⟩ := back I'
    have hn' := up.ns hn
    have go : ∃ m, s''.heap.Ns sB.heap.objs.size m ∧ ∀ h', Heap.SameBut sB.heap.objs.size s''.heap h' → ∀ cenv : Env, cenv.frame = X.env.frame → wpAny (model X.prog X.w) X.A (passOn "comprehension.variables-let-go" u cenv : Sem Value) (fun _ _ => False) X.xe { s'' with heap := h' } :=
      ⟨m, hn', fun h' same cenv hf => XEH.out (Y := X) (fp0 := 0) (fps := []) ⟨a, B, sI, [], [], H', cls, d, r1, J', nb, up, held, na, os, ag, by rw [← eW] at w; exact w, fpC⟩ tk hn' same (hf.trans fr.own) nC⟩
    cases use <;> exact go
  have loop : codeAny (model X.prog X.w) X.A (.compLoop (.ListComp elt [⟨tg, iter, [], 0⟩] scope pos) 0 (.ref it) (.ref D) ce) (endC (model X.prog X.w) X.A X.xe use Qf (.ref D) sB.heap.objs.size X.env.frame) sC := by
    refine compLoop_any (fun n s' => ∃ i H', Inv (blkE X sB HB scope ce fp L Wb) [] (wipe σ (own.map (·.2))) H' s' ∧ tn i s'.heap ∧ (∀ b ∈ fp, H' b = none) ∧ Wn i n H') ?_ m0 ⟨0, HB, IC, tC, fun b hb => (fB b hb).1.1, w0⟩
    rintro n sD ⟨i, HD, ID, tD, nD, wD⟩
    rcases turn i n HD wD with ⟨stop, fine⟩ | ⟨go, Nx, less, step⟩
    · refine thnF (T.done (blkE X sB HB scope ce fp L Wb) rfl rfl rfl hc i [] sD _ HD (fun _ _ => False) ID (stay ID nD) tD stop) fun r sE ⟨hr, IE⟩ => ?_
      subst hr
      obtain ⟨m, hn, _⟩ := IE.loc
      have hn : sE.heap.Ns sB.heap.objs.size m := cL ▸ (show sE.heap.Ns ce.locals m from hn)
      obtain ⟨IF, fpC⟩ := back IE
      exact fin D sB.heap.objs.size sE m HD IF fine hn fpC
    · refine thnF (T.item (blkE X sB HB scope ce fp L Wb) rfl rfl rfl hc i [] sD _ HD (fun _ _ => False) ID (stay ID nD) tD go) fun r sE ⟨u, hr, rest⟩ => ?_
      subst hr
      refine thnF rest fun _ sF ⟨x, HF, IF, rx, yx, tF, nF⟩ => ?_
      refine wpAny_mono (pg.run _ sF _ HF x u _ (IF.pinned (stay IF nF) (T.obj _ _ tF)) rx (step x HF yx)) (fun _ sG ⟨σG, HG, IG, sameG, qG⟩ => ?_) errs
      refine wpAny_mono (pt.run _ sG σG HG _ IG qG) (fun b sK ⟨HK, IK, qK⟩ => ?_) errs
      have close : ∀ {s' : Shared} {H' : Hp}, Inv (blkE X sB HB scope ce fp L Wb) ([] ++ pinsAt fp sF.heap) σG H' s' → Nx H' → ∃ m, m < n ∧ ∃ i H', Inv (blkE X sB HB scope ce fp L Wb) [] (wipe σ (own.map (·.2))) H' s' ∧ tn i s'.heap ∧ (∀ b ∈ fp, H' b = none) ∧ Wn i m H' := fun {s' H'} I' nx => by
        obtain ⟨m', lt, w'⟩ := less H' nx
        have there : ∀ b ∈ fp, ∀ o, sF.heap.get? b = some o → s'.heap.get? b = some o ∧ H' b = none := fun b hb o e =>
          ⟨(I'.pin (b, o) (List.mem_append_right _ (List.mem_append_right _ (mem_pinsAt hb e)))).1, (I'.pin (b, o) (List.mem_append_right _ (List.mem_append_right _ (mem_pinsAt hb e)))).2.1⟩
        refine ⟨m', lt, i + 1, H', (I'.unpinned (pins := [])).weak (by rw [← sameG, wipe_length]) (fun j v e => ?_), T.keep _ _ _ tF fun b hb o e => (there b hb o e).1, fun b hb => ?_, w'⟩
        · rw [← sameG] at e
          exact (wipe_some e).1
        · obtain ⟨o, e, _⟩ := T.obj _ _ tF b hb
          exact (there b hb o e).2
      cases b with
      | false =>
        simp only [Bool.false_eq_true, if_false] at qK ⊢
        exact close IK qK
      | true =>
        simp only [if_true] at qK ⊢
        refine wpAny_mono (pe.run _ sK σG HK _ IK qK) (fun z sM ⟨yv, HM, IM, rM, acc, dM, zM, nx⟩ => ?_) errs
        exact L2.app_ok (X := blkE X sB HB scope ce fp L Wb) IM dM zM rM fun sN IN => close IN nx
  exact codeAny_compStart_list loop (T.self X.A 0 _ _ _ tC loop)
end
end BV
namespace BV
open PySem PySem.Spec PyProof.Rows L2
/-! ### a comprehension whose element may raise, by value -/
def eLcE (vs : List Nat) (src : Rho → Rs (List D)) (t : D → Rho → Option Rho) (f : EV) : EV := fun ρ => (src ρ).bind fun ds => if ds.length ≤ 50000 then (lcL t cYes f (wipeR ρ vs) ds).bind fun es => .ok (.ow es) else .bad
section
variable {K : PySem.W.Frag} {mg : MG} {W : WX} {B : Bs} {σ : L2.St} {ρ : Rho} {F H F1 H1 : Hp}
theorem comb_step {r : Rs (List D)} {es : List D} {e : D} : ((r.bind fun x => .ok (e :: x)).bind fun x => .ok (es ++ x) : Rs (List D)) = r.bind fun x => .ok (es ++ [e] ++ x) := by
  cases r <;> simp
theorem lcE_read {g : TG} {is vs : List Nat} {src : Rho → Rs (List D)} {t : D → Rho → Option Rho} {f : EV} (hg : TgS K g is t) (hvs : ∀ i ∈ is, i ∈ vs) {Q : VK}
    (R0 : Rep K B ρ σ F H) (h : Pst K mg W B σ F H (eLcE vs src t f ρ) Q) : tLc (tI K mg W src) g (tT K mg W0 cYes) (tV K mg (fun cls d _ H' => W cls d σ H') f) vs σ H Q := by
  refine ⟨B, ρ, F, R0, ?_⟩
  unfold eLcE at h
  cases e : src ρ with
  | bad => rw [e] at h; exact h
  | exc c => rw [e] at h; exact h
  | ok ds =>
    rw [e, Rs.bind_ok] at h
    intro F2 H1 J g1 jk Dl nD
    split at h
    · rename_i hz
      generalize er0 : lcL t cYes f (wipeR ρ vs) ds = r0 at h
      have nF2 : F2 Dl = none := g1.sub.back nD
      have gB : Grow B.F0 B.H0 F2 H1 := R0.gr.trans g1
      have Rw : Rep K B (wipeR ρ vs) (wipe σ vs) F2 H1 := (R0.grow g1).wipe vs
      have hbad : r0 = .bad → False := fun z => by rw [z] at h; exact h
      refine ⟨fun i m H' => m = ds.length - i ∧ i ≤ ds.length ∧ ∃ F' xs es, Grow F2 H1 F' H' ∧ F' Dl = none ∧ H' Dl = some (.lst xs) ∧ RpAll F' xs es ∧ es.length = i ∧ r0 = (lcL t cYes f (wipeR ρ vs) (ds.drop i)).bind fun rest => .ok (es ++ rest), ⟨ds.length, by simp, Nat.zero_le _, F2, [], [], Grow.own g1.sub nD, nF2, upd_same, .nil, rfl, by
        rw [List.drop_zero, er0]
        cases r0 <;> rfl⟩, ?_⟩
      rintro i m H' ⟨rfl, hi, F', xs, es, g', nF', hD, rp, hel, er⟩
      obtain ⟨j1, j2⟩ := jk i F' H' g'.exF (gB.trans g')
      by_cases hlt : i < ds.length
      · rw [List.drop_eq_getElem_cons hlt] at er
        obtain ⟨jg, jy⟩ := j1 ds[i] (List.getElem?_eq_getElem hlt)
        refine .inr ⟨jg, fun H'' => ∃ F' xs es, Grow F2 H1 F' H'' ∧ F' Dl = none ∧ H'' Dl = some (.lst xs) ∧ RpAll F' xs es ∧ es.length = i + 1 ∧ r0 = (lcL t cYes f (wipeR ρ vs) (ds.drop (i + 1))).bind fun rest => .ok (es ++ rest), fun H'' w => ⟨ds.length - (i + 1), by omega, rfl, by omega, w⟩, fun x H2 y => ?_⟩
        obtain ⟨F3, g3, rx⟩ := jy x H2 y
        have g13 := g'.trans g3
        have nF3 : F3 Dl = none := none_grow (H' := H2) g3.news nF' hD
        have hD3 : H2 Dl = some (.lst xs) := g3.exH _ _ hD
        unfold lcL at er
        cases et : t ds[i] (wipeR ρ vs) with
        | none => rw [et] at er; exact (hbad er).elim
        | some ρ1 =>
          rw [et] at er
          dsimp only at er
          have eY : cYes ρ1 = .ok true := rfl
          rw [eY, Rs.bind_ok, if_pos rfl] at er
          refine hg B (wipeR ρ vs) (wipe σ vs) F3 H2 x ds[i] ρ1 (Rw.grow g13) rx et _ fun σ2 R2 w2 => ⟨?_, B, ρ1, F3, R2, ?_⟩
          · rw [w2 vs hvs, wipe_wipe σ vs vs fun _ z => z]
          · intro F4 H4 g4
            have g14 := g13.trans g4
            have nF4 : F4 Dl = none := none_grow (H' := H4) g4.news nF3 hD3
            have hD4 : H4 Dl = some (.lst xs) := g4.exH _ _ hD3
            rw [if_pos rfl]
            refine ⟨B, ρ1, F4, R2.grow g4, ?_⟩
            cases ef : f ρ1 with
            | exc c =>
              rw [ef] at er
              subst er
              exact fun F5 H5 g5 cls hcls => h F5 H5 (g1.trans (g14.trans g5)) cls hcls
            | bad => rw [ef] at er; exact (hbad er).elim
            | ok s =>
              rw [ef, Rs.bind_ok] at er
              intro v F5 H5 A g5 vr fr
              cases ea : argS s with
              | exc c => exact (argS_exc ea).elim
              | bad => rw [ea] at er; exact (hbad er).elim
              | ok u =>
                rw [ea, Rs.bind_ok] at er
                obtain ⟨rfl, kd, kt⟩ := argS_ok ea
                obtain ⟨F6, g6, vr6⟩ := settle_ok g5 vr fr kd kt
                split at er
                · rename_i e0 e1
                  rw [e1] at vr6
                  have nF6 : F6 Dl = none := none_grow (H' := H5) g6.news nF4 hD4
                  have hD6 : H5 Dl = some (.lst xs) := g6.exH _ _ hD4
                  refine ⟨xs, hD6, sz_lt ?_, F6, xs ++ [v], es ++ [e0], (g14.trans g6).mutNew nD nF6, nF6, upd_same, (rp.mono (g3.exF.trans (g4.exF.trans g6.exF))).append (.cons vr6.2 .nil), by simp [hel], er.trans comb_step⟩
                  have l1 := rp.length
                  omega
                · exact (hbad er).elim
      · have : i = ds.length := by omega
        subst this
        rw [List.drop_length] at er
        have : r0 = .ok es := by rw [er]; simp [lcL]
        subst this
        refine .inl ⟨j2 (Nat.le_refl _), h (.ref Dl) F' H' [Dl] (g1.trans g') ⟨Dl, xs, rfl, rfl, nF', hD, rp⟩ fun a ha => ?_⟩
        cases ha with
        | head => exact g1.exH.back nD
        | tail _ z => cases z
    · exact h.elim
end
section
variable {X : Cx} {L : Addr} {W Wb : WX} {s : Shared} {H : Hp} {scope : Scope} {ce : Env} {fp : List Addr}
theorem takes_blkE : TakesL (blkE X s H scope ce fp L Wb) L Wb := fun u s' x => by
  obtain ⟨a, B, sI, pn, σ', H', cls, d, r1, I', r⟩ := x
  exact ⟨a, B, sI, pn, σ', H', cls, d, r1, I'.wish _, r⟩
theorem frame_blkE (fr : FrameAt X L) (hf : ce.frame = X.env.frame := by rfl) : FrameAt (blkE X s H scope ce fp L Wb) L := ⟨fr.ex, hf.trans fr.own⟩
end
section
variable {X : Cx} {L : Addr} {W : WX} {elt tg iter : Expr} {scope : Scope} {own : List (Str × Nat)} {pos : Pos} {g : TG} {is : List Nat} {src : Rho → Rs (List D)} {t : D → Rho → Option Rho} {f : EV}
theorem e_lcE (fr : FrameAt X L) (tk : TakesL X L W) (hc : X.calm = true) (hN : X.N.Nodup) (ok : blkC X.N X.env.scope scope own = true) (hi : EI X W tg iter src) (hvs : ∀ i ∈ is, i ∈ own.map (·.2))
    (hg : ∀ (Wb : WX) (s : Shared) (H : Hp) (C : Addr) (cl : List (Str × Addr)) (fp : List Addr), EG (blkE X s H scope (compEnvC scope cl C X.env) fp L Wb) tg g is t)
    (he : ∀ (Wb : WX) (s : Shared) (H : Hp) (C : Addr) (cl : List (Str × Addr)) (fp : List Addr), EE (blkE X s H scope (compEnvC scope cl C X.env) fp L Wb) Wb elt f) (hs : ∀ x, foldedSetIterable iter X.env x = pure x := by intro _; rfl) :
    EE X W (.ListComp elt [⟨tg, iter, [], 0⟩] scope pos) (eLcE (own.map (·.2)) src t f) := by
  refine ⟨fun pins s σ H Q I ⟨B, ρ, F, R, h⟩ => ?_⟩
  rw [eval_ListComp]
  refine lcE_core (use := none) (Qf := EP X pins σ Q) fr tk hc hN I hi (blkOk_by ok) (fun s H C cl fp => (hg _ s H C cl fp).pg) (fun _ _ _ _ _ => ts_nil) (fun s H C cl fp => he _ s H C cl fp) hs (lcE_read (hg W X.s_0 H 0 [] []).ts hvs R h) fun L' C s' m H' I' q hn f => ?_
  obtain ⟨f0, f1, f2, f3, f4, f5⟩ := f
  exact ⟨m, hn, fun h' sb => ⟨.ref L', H', I'.turned (t' := s'.toks) (fun b o hb e => (sb.2 b hb).trans e) f0 f1 f3 f4 f5, rfl, q⟩⟩
theorem s_setLcEF {i : Nat} {y : Str} {py spos : Pos} (fr : FrameAt X L) (tk : TakesL X L W) (hc : X.calm = true) (hN : X.N.Nodup) (ok : blkC X.N X.env.scope scope own = true) (hi : EI X W tg iter src) (hvs : ∀ i ∈ is, i ∈ own.map (·.2))
    (hg : ∀ (Wb : WX) (s : Shared) (H : Hp) (C : Addr) (cl : List (Str × Addr)) (fp : List Addr), EG (blkE X s H scope (compEnvC scope cl C X.env) fp L Wb) tg g is t)
    (he : ∀ (Wb : WX) (s : Shared) (H : Hp) (C : Addr) (cl : List (Str × Addr)) (fp : List Addr), EE (blkE X s H scope (compEnvC scope cl C X.env) fp L Wb) Wb elt f)
    (hsw : swapsWith (.ListComp elt [⟨tg, iter, [], 0⟩] scope pos) (some (.Name y py)) spos.line X.env = pure true) (hy : X.N[i]? = some y := by rfl) (hyl : X.env.scope.names.lookup y = some .local := by rfl) (hs : ∀ x, foldedSetIterable iter X.env x = pure x := by intro _; rfl) :
    ES X W (.Assign [.Name y py] (.ListComp elt [⟨tg, iter, [], 0⟩] scope pos) spos) (sSetF i (eLcE (own.map (·.2)) src t f)) := by
  refine ⟨fun pins s σ H D I ⟨B, ρ, F, R, h⟩ => ?_⟩
  have h : Pst X.K X.mg W B σ F H (eLcE (own.map (·.2)) src t f ρ) (fun x H1 => gName i x σ H1 D.nx) := PstS.expr R h fun sl v F1 H1 A _ g1 vr fr h1 => set_fz R g1 vr fr h1
  rw [exec_Assign_Name_used _ _ _ _ hsw]
  refine wpAny_bind (wpAny_standAt (wpAny_bind ?_))
  show wpAny _ X.A (do let _ ← comprehension (.ListComp elt [⟨tg, iter, [], 0⟩] scope pos) scope X.env (firstIterPos [⟨tg, iter, [], 0⟩] pos) (newList []) false (eval iter X.env) (some (assign (.Name y py) X.env))) _ _ s
  refine wpAny_bind (thn (lcE_core (Qf := fun _ s' => SP X pins D .next s') fr tk hc hN I hi (blkOk_by ok) (fun s H C cl fp => (hg _ s H C cl fp).pg) (fun _ _ _ _ _ => ts_nil) (fun s H C cl fp => he _ s H C cl fp) hs (lcE_read (hg W X.s_0 H 0 [] []).ts hvs R h) fun L C s' m H' I' q hn f => ?_) fun _ s' hq => wpAny_pure (wpAny_pure hq))
  show wpAny _ _ (assign (.Name y py) X.env (.ref L)) _ _ _
  refine wpAny_assign_Name (store_ok2 (v := V.ref L) I' hN hy (.inl hyl) rfl (fun s2 I2 ⟨a, sb, ha⟩ => ?_) (.inr hyl))
  obtain ⟨f0, f1, f2, f3, f4, f5⟩ := f
  have haC : C ≠ a := by
    rcases ha with z | z
    · rw [z]; exact f1
    · exact fun e => f4 y a z e.symm
  refine ⟨m, hn.sameBut sb haC, fun h3 sb3 => ?_⟩
  exact ⟨_, H', I2.turned (t' := s2.toks) (fun b o hb e => (sb3.2 b hb).trans e) f0 f1 f3 f4 f5, q⟩
end
end BV
namespace BV
open PySem PySem.Spec PyProof.Rows L2
/-! ### errors of whatever context -/
theorem takesN {X : Cx} {W : WX} (tk : L2.Takes X W) : L2N.Takes X W := fun u s' x => by
  obtain ⟨a, B, sI, pins, σ, H, cls, d, e, I, nb, up, sky, na, os, ag, w⟩ := x
  refine tk u s' ⟨a, B, sI, pins, σ, H, cls, d, e, I, nb, up, ?_, na, os, ag, w⟩
  rcases sky with ⟨h1, h2, h3, oe, vs, h4, h5, h6, h7⟩ | fly | ⟨h1, h2, h3, h4⟩
  · exact .inl ⟨h1, h2, h3, oe, vs, h4, h5.zc, h6, h7⟩
  · exact .inr (.inl (L2H.flyingZ_imp (fun o z => z.zc) fly))
  · exact .inr (.inr ⟨h1, h2, h3, L2H.tracedZ_imp (fun o z => z.zc) h4⟩)
section
variable {P : Program} {w : World} {K : PySem.W.Frag} {mg : MG} {base : Heap}
structure DfC (P : Program) (w : World) (K : PySem.W.Frag) (mg : MG) (base : Heap) (x : Str) (k np : Nat) (g : List Sl → Rs Sl) : Prop where
  ex : ∃ (f : Addr) (fd : FuncData) (ps : List Str), FnOk P w K mg base (L2.CX P w) k f fd ps (spV K mg np g) ∧ mg x = some (.ref f) ∧ PySem.W.keepIn K (.ref f) = true ∧ Binds K fd ps []
theorem df_mkC {x : Str} {k np : Nat} {g : List Sl → Rs Sl} {f : Addr} {fd : FuncData} {ps : List Str} (h : FnOk P w K mg base (L2.CX P w) k f fd ps (spV K mg np g)) (hm : mg x = some (.ref f)) (hk : PySem.W.keepIn K (.ref f) = true) (hb : Binds K fd ps []) : DfC P w K mg base x k np g := ⟨f, fd, ps, h, hm, hk, hb⟩
theorem fn_okC {x qual : Str} {st : Stmt} {f : Addr} {fd : FuncData} {N ps : List Str} {k : Nat} {g : SV} (F : Fun K x qual st f fd) (S : FnScope N ps (defScope st))
    (hbody : ∀ (cdv : Value) (A : Around) (outer : List Env) (s : Shared) (H : Hp) (E : XK), Room k (A.deeper (envOfC qual (defScope st) s.heap.objs.size f cdv)) →
      L2.Takes (cxOf (L2.CX P w) P w K mg base N qual (defScope st) f cdv A outer s H E) (fun c d _ H => E c d H) →
      PassesOwn (model P w) (A.deeper (envOfC qual (defScope st) s.heap.objs.size f cdv)) (envOfC qual (defScope st) s.heap.objs.size f cdv) (cxOf (L2.CX P w) P w K mg base N qual (defScope st) f cdv A outer s H E).xe →
      (∀ hd : Option Value, PassesOwnAt (model P w) ((A.deeper (envOfC qual (defScope st) s.heap.objs.size f cdv)).mark hd) (A.deeper (envOfC qual (defScope st) s.heap.objs.size f cdv)) (envOfC qual (defScope st) s.heap.objs.size f cdv) (cxOf (L2.CX P w) P w K mg base N qual (defScope st) f cdv A outer s H E).xe) →
      ESs (cxOf (L2.CX P w) P w K mg base N qual (defScope st) f cdv A outer s H E) (fun c d _ H => E c d H) (defBody st) g) :
    FnOk P w K mg base (L2.CX P w) (k + 1) f fd ps (spV K mg ps.length (runDef N.length g)) := by
  refine Fun.okX F S (fun vs H Q E h => ?_) (fun cdv A outer s H vs Q E hr h => ?_)
  · obtain ⟨_, _, e, _⟩ := h
    exact e
  · obtain ⟨F0, ss, hl, sub, ar, nv, post⟩ := h
    refine ⟨_, hbody cdv A outer s H E hr (L2.takes_of rfl rfl rfl rfl) (passes_of rfl) (fun hd => L2H.passesAt_of (X := cxOf (L2.CX P w) P w K mg base N qual (defScope st) f cdv A outer s H E) rfl hd), ?_⟩
    have hpl : ps.length ≤ N.length := by have := congrArg List.length S.pre; rw [List.length_take] at this; omega
    have R := start_rep (N := N) sub ar nv (by omega)
    refine ⟨⟨F0, H⟩, _, F0, R, ?_⟩
    unfold runDef at post
    cases e : g (ss ++ List.replicate (N.length - ss.length) .no) with
    | nx ρ =>
      rw [e] at post
      exact fun σ F1 H1 R1 => post .non F1 H1 [] R1.gr ⟨rfl, .non⟩ (fun _ z => nomatch z) rfl
    | rt sl =>
      rw [e] at post
      dsimp only at post
      split at post
      · rename_i hr'
        exact ⟨hr', fun v F1 H1 A g1 vr fr => post v F1 H1 A g1 vr fr hr'⟩
      · exact post.elim
    | exc c ρ =>
      rw [e] at post
      exact fun σ F1 H1 R1 cls ec => post F1 H1 R1.gr cls ec
    | bk ρ => rw [e] at post; exact post.elim
    | ct ρ => rw [e] at post; exact post.elim
    | bad => rw [e] at post; exact post.elim
end
/-- a call that may let out no error -/
def eCallV (np : Nat) (g : List Sl → Rs Sl) (fs : Rho → Rs (List Sl)) : EV := fun ρ => (fs ρ).bind fun ss => if ss.length = np ∧ ss.all argOk = true then noExc (g (ss.map asArg)) else .bad
section
variable {X : Cx} {W : WX} {e : Expr} {es : List Expr} {fs : Rho → Rs (List Sl)} {pos : Pos}
theorem call_arg {np : Nat} {B : Bs} {ρ : Rho} {σ : L2.St} {F0 H0 F1 H1 : Hp} {ss : List Sl} {vs : List V} (R : Rep X.K B ρ σ F0 H0) (g1 : Grow F0 H0 F1 H1) (ar : ARs X.K B F1 H1 vs ss) (hc : ss.length = np ∧ ss.all argOk = true) :
    vs.length = np ∧ Ex F1 H1 ∧ ARs X.K ⟨F1, H1⟩ F1 H1 vs (ss.map asArg) ∧ ∀ s ∈ ss.map asArg, s.keeps = true :=
  ⟨(Paired.length ar).trans hc.1, g1.sub, asArg_ok (R.gr.trans g1) ar, fun s hs => by
    obtain ⟨t, ht, rfl⟩ := List.mem_map.mp hs
    have := List.all_eq_true.mp hc.2 t ht
    cases t <;> first | rfl | cases this⟩
theorem e_callL {x : Str} {k np : Nat} {g : List Sl → Rs Sl} {p : Pos} {L : Addr} (G : Df X.prog X.w X.K X.mg X.base x k np g) (hr : Room k X.A) (tk : TakesL X L W) (ha : EA X W (e :: es) fs) (hg : Gl X x := by rfl) (hdb : (x == ("__debug__" : Str)) = false := by decide)
    (he : starEach (e :: es) X.env = (false, eval e X.env) :: starEach es X.env := by rfl) (hpl : (backTo pos (starEach es X.env)).any (·.1) = false := by rfl) : EE X W (.Call (.Name x p) (e :: es) [] pos) (eCall np g fs) := by
  obtain ⟨f, fd, ps, F, hm, hk, hb⟩ := G.ex
  refine pe_weak (pe_callS F hr hg hm hk hb (fun σ => passL tk σ) ha hdb he hpl) fun σ H Q ⟨B, ρ, Fh, R, h⟩ => ?_
  refine ⟨B, ρ, Fh, R, PstA.bind h fun ss vs F1 H1 _ g1 ar h1 => ?_⟩
  split at h1
  · rename_i hc
    obtain ⟨c1, c2, c3, c4⟩ := call_arg R g1 ar hc
    refine ⟨F1, ss.map asArg, c1, c2, c3, c4, ?_⟩
    cases eg : g (ss.map asArg) with
    | ok sl =>
      rw [eg] at h1
      exact fun v F' H' A g2 vr fr hres => h1 v F' H' A g2 (vr.res hres) fr
    | exc c => rw [eg] at h1; exact h1
    | bad => rw [eg] at h1; exact h1
  · exact h1.elim
theorem e_callC {x : Str} {k np : Nat} {g : List Sl → Rs Sl} {p : Pos} (G : DfC X.prog X.w X.K X.mg X.base x k np g) (hr : Room k X.A) (tk : L2.Takes X W) (ha : EA X W (e :: es) fs) (hg : Gl X x := by rfl) (hdb : (x == ("__debug__" : Str)) = false := by decide)
    (he : starEach (e :: es) X.env = (false, eval e X.env) :: starEach es X.env := by rfl) (hpl : (backTo pos (starEach es X.env)).any (·.1) = false := by rfl) : EE X W (.Call (.Name x p) (e :: es) [] pos) (eCall np g fs) := by
  obtain ⟨f, fd, ps, F, hm, hk, hb⟩ := G.ex
  refine pe_weak (pe_callS F hr hg hm hk hb (fun σ => L2.passAt tk σ) ha hdb he hpl) fun σ H Q ⟨B, ρ, Fh, R, h⟩ => ?_
  refine ⟨B, ρ, Fh, R, PstA.bind h fun ss vs F1 H1 _ g1 ar h1 => ?_⟩
  split at h1
  · rename_i hc
    obtain ⟨c1, c2, c3, c4⟩ := call_arg R g1 ar hc
    refine ⟨F1, ss.map asArg, c1, c2, c3, c4, ?_⟩
    cases eg : g (ss.map asArg) with
    | ok sl =>
      rw [eg] at h1
      exact fun v F' H' A g2 vr fr hres => h1 v F' H' A g2 (vr.res hres) fr
    | exc c => rw [eg] at h1; exact h1
    | bad => rw [eg] at h1; exact h1
  · exact h1.elim
theorem e_callV {x : Str} {k np : Nat} {g : List Sl → Rs Sl} {p : Pos} (G : DfC X.prog X.w X.K X.mg X.base x k np g) (hr : Room k X.A) (ha : EA X W (e :: es) fs) (hg : Gl X x := by rfl) (hdb : (x == ("__debug__" : Str)) = false := by decide)
    (he : starEach (e :: es) X.env = (false, eval e X.env) :: starEach es X.env := by rfl) (hpl : (backTo pos (starEach es X.env)).any (·.1) = false := by rfl) : EE X W (.Call (.Name x p) (e :: es) [] pos) (eCallV np g fs) := by
  obtain ⟨f, fd, ps, F, hm, hk, hb⟩ := G.ex
  refine pe_weak (pe_callS (E := fun _ _ _ _ => False) F hr hg hm hk hb (fun σ pins H s e s' _ z => by
    obtain ⟨_, _, _, _, _, _, _, _, _, _, _, _, z⟩ := z
    exact z.elim) ha hdb he hpl) fun σ H Q ⟨B, ρ, Fh, R, h⟩ => ?_
  refine ⟨B, ρ, Fh, R, PstA.bind h fun ss vs F1 H1 _ g1 ar h1 => ?_⟩
  split at h1
  · rename_i hc
    obtain ⟨c1, c2, c3, c4⟩ := call_arg R g1 ar hc
    refine ⟨F1, ss.map asArg, c1, c2, c3, c4, ?_⟩
    cases eg : g (ss.map asArg) with
    | ok sl =>
      rw [eg] at h1
      exact fun v F' H' A g2 vr fr hres => h1 v F' H' A g2 (vr.res hres) fr
    | exc c => rw [eg] at h1; exact h1.elim
    | bad => rw [eg] at h1; exact h1.elim
  · exact h1.elim
end
/-! ### try: .. except c: raise c' -/
def sTryR (c c' : Str) (g : SV) : SV := fun ρ => match g ρ with
  | .exc x ρ' => if x = c then .exc c' ρ' else .bad
  | o => o
section
variable {X : Cx} {W : WX} {body : List Stmt} {np pos pos' p p2 pos1 pos2 : Pos} {g : SV} {c c' m : Str} {j : Nat}
theorem s_tryR (hB : ∃ D, X.mg c = some (.ref D) ∧ PySem.W.exmOne X.K (.ref D) (.ref D) = some true) (RX : XCls X.K X.mg c') (tk : L2.Takes X W) (hpa : ∀ hd : Option Value, PassesOwnAt (model X.prog X.w) (X.A.mark hd) X.A X.env X.xe)
    (hb : ∀ (W : WX) (pn : List (Addr × Obj)) (xe : Value → Shared → Prop), L2N.Takes (X.tr pn xe) W → PassesOwn (model X.prog X.w) X.A X.env xe → ESs (X.tr pn xe) W body g)
    (hs : X.stack = X.env :: X.outer := by rfl) (hf : X.env.frame = some X.env.locals := by rfl) (hg : Gl X c := by rfl) (hg' : Gl X c' := by rfl) (hd : (c == ("__debug__" : Str)) = false := by decide) (hd' : (c' == ("__debug__" : Str)) = false := by decide) :
    ES X W (.Try body [.ExceptHandler (some (.Name c np)) none [.Raise (some (.Call (.Name c' p) [.Constant (.str m) j p2] [] pos1)) none pos2] pos'] [] [] pos) (sTryR c c' g) := by
  obtain ⟨D, gD, ex⟩ := hB
  obtain ⟨D', g', x', k', b', t'⟩ := RX.ex
  refine ps_weak (L2H.ps_try_onlyX (c := .ref D) (tb := fun W => tS X.K X.mg W g) (ts := fun a cls d => fun DE σ H => W (.ref D') none σ H) (Wout := W) hs hf ⟨hg, hd, .inl gD⟩ hpa tk (fun W pn xe tkN _ own => hb W pn xe tkN own) fun a oe cls d pn zn fs tkS hot => pss_one (L2H.ps_raiseH hot tkS (L2N.pmk_own (X := L2H.suiteX X a ((a, oe) :: pn)) PySem.F.excBase_ValueError x' g' k' (raises_own (X := L2H.suiteX X a ((a, oe) :: pn)) b' t') hg' hd'))) fun DE σ H ⟨B, ρ, F, R, h⟩ => ⟨B, ρ, F, R, ?_⟩
  unfold sTryR at h
  cases e : g ρ with
  | exc x ρ' =>
    rw [e] at h
    dsimp only at h
    split at h
    · rename_i hx
      subst hx
      intro σ1 F1 H1 R1 cls hcls
      rw [gD] at hcls
      cases hcls
      exact ⟨true, ex, fun _ a _ => h σ1 F1 H1 R1 _ g', fun z => Bool.noConfusion z⟩
    · exact h.elim
  | nx ρ' => rw [e] at h; exact h
  | bk ρ' => rw [e] at h; exact h
  | ct ρ' => rw [e] at h; exact h
  | rt sl => rw [e] at h; exact h
  | bad => rw [e] at h; exact h
end
/-! ### try: .. except TrainError as e: return tuple(kinds(e)), whatever the error's context -/
theorem pe_kindsC {X : Cx} {k : Nat} {x n : Str} {i : Nat} {q q1 pos : Pos} {a : Addr} {oe : Obj} {cls : Value} {d : Option Addr} {pn : List (Addr × Obj)} (G : DfE X.prog X.w X.K X.mg X.base x k) (room : Room k X.A) (zn : Zc cls d oe) (fs : ∃ vs, oe.data = .fields vs) (hN : X.N[i]? = some n) (hv : Vis X.env.scope n) (hg : Gl X x)
    (hd : (n == ("__debug__" : Str)) = false := by decide) (hcd : (n == ("__classdict__" : Str)) = false := by decide) (hdb : (x == ("__debug__" : Str)) = false := by decide)
    (he : starEach [.Name n q1] X.env = (false, eval (.Name n q1) X.env) :: starEach [] X.env := by rfl) (hpl : (backTo pos (starEach [] X.env)).any (·.1) = false := by rfl) :
    PE (X.suite a ((a, oe) :: pn)) (.Call (.Name x q) [.Name n q1] [] pos) (tKE X.K X.mg i a cls d) := by
  obtain ⟨f, fd, y, F, hm, hk, hb⟩ := G.ex
  refine pe_weak (pe_callE (X := X.suite a ((a, oe) :: pn)) (p := (a, oe)) F ⟨room.dp, room.un⟩ (List.mem_cons_self ..) hm hk hb (fun σ pins H s e s' _ z => ?_) hN hv hg hd hcd hdb he hpl) fun σ H Q ⟨h1, h2, c, D, h3, h4, h5⟩ => ⟨.ref a, h1, rfl, c, D, h4, ⟨zn.1.trans h3, zn.2.trans h2, fs⟩, h5⟩
  obtain ⟨_, _, _, _, _, _, _, _, _, _, _, _, z⟩ := z
  exact z.elim
section
variable {X : Cx} {W : WX} {x n : Str} {i k : Nat} {body : List Stmt} {np pos pos' q q1 p1 p2 p3 p4 : Pos} {g : SV} {L : List Str}
theorem s_tryBC (G : DfE X.prog X.w X.K X.mg X.base x k) (room : Room k X.A) (hL : ∃ c, c ∈ L) (KL : ∀ c ∈ L, ∃ D, KC X.K X.mg c D) (hm : X.mg "tuple" = none) (hN : X.N.Nodup)
    (hb : ∀ (W : WX) (pn : List (Addr × Obj)) (xe : Value → Shared → Prop), L2.Takes (X.tr pn xe) W → PassesOwn (model X.prog X.w) X.A X.env xe → ESs (X.tr pn xe) W body g)
    (hi : X.N[i]? = some n := by rfl) (hv : Vis X.env.scope n := by exact Or.inl rfl) (hg : Gl X x := by rfl) (hgt : Gl X "tuple" := by rfl) (hd : (n == ("__debug__" : Str)) = false := by decide) (hcd : (n == ("__classdict__" : Str)) = false := by decide) (hdb : (x == ("__debug__" : Str)) = false := by decide)
    (he : starEach [.Name n q1] X.env = (false, eval (.Name n q1) X.env) :: starEach [] X.env := by rfl) (hpl : (backTo p1 (starEach [] X.env)).any (·.1) = false := by rfl)
    (he2 : starEach [.Call (.Name x q) [.Name n q1] [] p1] X.env = (false, eval (.Call (.Name x q) [.Name n q1] [] p1) X.env) :: starEach [] X.env := by rfl)
    (hpl2 : (backTo p4 (starEach [] X.env)).any (·.1) = false := by rfl)
    (hs : X.stack = X.env :: X.outer := by rfl) (hf : X.env.frame = some X.env.locals := by rfl) (hln : X.env.kindOf n = some .local := by rfl) (hgT : Gl X "TrainError" := by rfl) :
    ES X W (.Try body [.ExceptHandler (some (.Name "TrainError" np)) (some n) [.Return (some (.Call (.Name "tuple" p3) [.Call (.Name x q) [.Name n q1] [] p1] [] p4)) p2] pos'] [] [] pos) (sTry i L outB g) := by
  obtain ⟨c0, hc0⟩ := hL
  obtain ⟨D0, kc0⟩ := KL c0 hc0
  obtain ⟨T, hT, _⟩ := kc0.tr
  refine ps_weak (L2.ps_try_as (c := T) (tb := fun W => tS X.K X.mg W g) (ts := fun a cls d => tRet (tCB (fun xs H Q => ∃ p ys, xs = [.ref p] ∧ ((SqL X.K H p ys ∧ ∀ l, H l = none → Q (.ref l) (upd H l (.tup ys))) ∨ (SqT X.K H p ys ∧ Q (.ref p) H))) (tCons (tKE X.K X.mg i a cls d) tNil))) (Wout := fun _ _ _ _ => False) hs hf hN hi hln ⟨hgT, by decide, .inl hT⟩ L2.takes0 hb
    (fun a oe cls d pn zn fs => pss_one (ps_ret (pe_callTy call_tuple_of hgt hm (by decide +kernel) (pa_cons (pe_kindsC G room zn fs hi hv hg hd hcd hdb he hpl) pa_nil he2) (by decide) (by decide) he2 hpl2)))) fun DE σ H ⟨B, ρ, F, R, h⟩ => ⟨B, ρ, F, R, ?_⟩
  unfold sTry at h
  cases e : g ρ with
  | exc c ρ' =>
    rw [e] at h
    dsimp only at h
    split at h
    · rename_i hc
      obtain ⟨D, kc⟩ := KL c hc.1
      obtain ⟨T', hT', ex⟩ := kc.tr
      rw [hT] at hT'
      cases hT'
      intro σ1 F1 H1 R1 cls hcls
      rw [kc.g] at hcls
      cases hcls
      refine ⟨true, ex, fun _ a _ => ?_, fun z => Bool.noConfusion z⟩
      refine ⟨List.getElem?_set_self (by rw [← R1.len]; exact hc.2), rfl, c, D, rfl, kc, fun r H' ex nr hr => ⟨r, _, rfl, .inl ⟨.inl (.inl hr), fun l nl => ?_⟩⟩⟩
      have g1 : Grow F1 H1 F1 H' := ⟨Ex.refl F1, ex, R1.gr.sub.trans ex, fun _ _ z => .inl z⟩
      exact h.2 (.ref l) _ _ [] (R1.gr.trans (g1.trans (Grow.laid g1.sub nl))) ⟨rfl, .tup upd_same (bools_rp _)⟩ fun _ z => nomatch z
    · exact h.elim
  | nx ρ' => rw [e] at h; exact h
  | bk ρ' => rw [e] at h; exact h
  | ct ρ' => rw [e] at h; exact h
  | rt sl => rw [e] at h; exact h
  | bad => rw [e] at h; exact h
end
end BV
namespace BV
open PySem PySem.Spec PyProof.Rows L2
/-! ### texts -/
def neSOp : Op2 := fun x y => match x, y with
  | .fz (.str a), .fz (.str b) => some (.fz (.bool (!decide (a = b))))
  | _, _ => none
theorem ops_neS {K : PySem.W.Frag} : OpS K rNe neSOp := by
  intro B F H x y A A' sx sy sl Q gr r1 r2 e q
  unfold neSOp at e
  split at e
  · rename_i a b
    cases e
    cases fz_str r1
    cases fz_str r2
    refine ⟨rfl, ?_⟩
    rw [show decide (V.str a = V.str b) = decide (a = b) from decide_eq_decide.mpr ⟨fun z => V.str.inj z, fun z => by rw [z]⟩]
    exact VRep.atom gr.sub q (Rp.bl _)
  · cases e
theorem e_neS {X : Cx} {W : WX} {a b : Expr} {fa fb : EV} {pos : Pos} (ha : EE X W a fa) (hb : EE X W b fb) : EE X W (.Compare a [.NotEq] [b] pos) (eBin neSOp fa fb) := e_cmp op_ne ops_neS ha hb
theorem t_neS {X : Cx} {W : WX} {a b : Expr} {fa fb : EV} {pos : Pos} (ha : EE X W a fa) (hb : EE X W b fb) : ET X W (.Compare a [.NotEq] [b] pos) (cB (eBin neSOp fa fb)) := t_cmp op_ne ops_neS ha hb
theorem t_eqS {X : Cx} {W : WX} {a b : Expr} {fa fb : EV} {pos : Pos} (ha : EE X W a fa) (hb : EE X W b fb) : ET X W (.Compare a [.Eq] [b] pos) (cB (eBin eqSOp fa fb)) := t_cmp op_eq ops_eqS ha hb
theorem frame_def {X : Cx} (hs : X.stack = X.env :: X.outer := by rfl) (hf : X.env.frame = some X.env.locals := by rfl) : FrameAt X X.env.locals := ⟨⟨X.env, X.outer, hs, hf⟩, hf⟩
/-- a sign that is in no text -/
def niSOp : Op2 := fun x y => match x, y with
  | .fz (.str a), .fz (.str b) => match a.cps.toList with
    | [c] => some (.fz (.bool (!decide (c ∈ b.cps.toList))))
    | _ => none
  | _, _ => none
theorem ops_niS {K : PySem.W.Frag} : OpS K (fun x y H Q => ∃ (c : Nat) (z : Str), x = .str ⟨#[c]⟩ ∧ y = .str z ∧ Q (.bl (!decide (c ∈ z.cps.toList))) H) niSOp := by
  intro B F H x y A A' sx sy sl Q gr r1 r2 e q
  unfold niSOp at e
  split at e
  · rename_i a b
    split at e
    · rename_i c hc
      cases e
      cases fz_str r1
      cases fz_str r2
      have : a = ⟨#[c]⟩ := by
        obtain ⟨⟨l⟩⟩ := a
        simp only at hc
        rw [hc]
      exact ⟨c, b, by rw [this], rfl, VRep.atom gr.sub q (Rp.bl _)⟩
    · cases e
  · cases e
theorem e_niS {X : Cx} {W : WX} {a b : Expr} {fa fb : EV} {pos : Pos} (ha : EE X W a fa) (hb : EE X W b fb) (hm : behindInMarks .NotIn b = false := by rfl) : EE X W (.Compare a [.NotIn] [b] pos) (eBin niSOp fa fb) := e_cmp op_notIn_sign ops_niS ha hb hm
theorem t_niS {X : Cx} {W : WX} {a b : Expr} {fa fb : EV} {pos : Pos} (ha : EE X W a fa) (hb : EE X W b fb) (hm : behindInMarks .NotIn b = false := by rfl) : ET X W (.Compare a [.NotIn] [b] pos) (cB (eBin niSOp fa fb)) := t_cmp op_notIn_sign ops_niS ha hb hm
def slSOp : Op3 := fun s lo hi => match s with
  | .fz (.str z) => if z.length ≤ 100000 then some (.fz (.str (cutS z lo hi))) else none
  | _ => none
theorem sls_S {K : PySem.W.Frag} : SlS K rSlS slSOp := by
  intro B F H x A sx sl lo hi Q gr r e q
  unfold slSOp at e
  split at e
  · rename_i z
    split at e
    · rename_i c
      cases e
      cases fz_str r
      exact ⟨z, rfl, sz_of c, VRep.atom gr.sub q (Rp.str _)⟩
    · cases e
  · cases e
def intSF : List Sl → Option Sl
  | [.fz (.str a)] => if a.length ≤ 640 then (PySem.intText? a).map fun n => .fz (.int n) else none
  | _ => none
theorem cal_intS {K : PySem.W.Frag} : CalS K (fun xs H Q => ∃ a n, xs = [.str a] ∧ PySem.intText? a = some n ∧ a.length ≤ 640 ∧ Q (.int n) H) intSF := by
  intro B F H vs ss sl Q gr ar e q
  unfold intSF at e
  split at e
  · split at e
    · rename_i hi
      obtain ⟨n, e1, rfl⟩ := Option.map_eq_some_iff.mp e
      obtain ⟨v, rfl, r1⟩ := ar1 ar
      cases fz_str r1
      exact ⟨_, n, rfl, e1, hi, VRep.atom gr.sub q (Rp.int _)⟩
    · cases e
  · cases e
section
variable {X : Cx} {W : WX} {x e : Expr} {f : EV} {fs : Rho → Rs (List Sl)} {pos p p2 : Pos} {lo hi : Option Expr} {l u : OV}
theorem e_slS (he : EE X W e f) (hl : EO X W lo l) (hu : EO X W hi u) : EE X W (.Subscript e (.Slice lo hi none p2) pos) (eSl slSOp f l u) := e_slice sl_str sls_S he hl hu
theorem e_intS (hm : X.mg "int" = none) (ha : EA X W [x] fs) (hg : Gl X "int" := by rfl) (he : starEach [x] X.env = (false, eval x X.env) :: starEach [] X.env := by rfl) : EE X W (.Call (.Name "int" p) [x] [] pos) (eCB intSF fs) := e_callTy call_int_str cal_intS hm (by decide +kernel) ha hg (by decide) (by decide) he rfl
end
/-! ### text.split(sep) -/
def splitOp : Op2 := fun x y => match x, y with
  | .fz (.str a), .fz (.str b) => if (b.length == 0) = false ∧ a.length ≤ 90000 then some (.ow ((Txt.split a b).map PyData.str)) else none
  | _, _ => none
theorem splitOp_ok {a : Str} {y sl : Sl} (h : splitOp (.fz (.str a)) y = some sl) : ∃ b : Str, y = .fz (.str b) ∧ ((b.length == 0) = false ∧ a.length ≤ 90000) ∧ sl = .ow ((Txt.split a b).map PyData.str) := by
  unfold splitOp at h
  split at h
  · rename_i a' b ha
    split at h
    · rename_i c
      cases h
      cases ha
      exact ⟨b, rfl, c, rfl⟩
    · cases h
  · cases h
theorem strs_rp {F : Hp} : ∀ ys : List Str, RpAll F (ys.map V.str) (ys.map PyData.str)
  | [] => .nil
  | y :: ys => .cons (.str y) (strs_rp ys)
section
variable {X : Cx} {W : WX} {o e : Expr} {fo fe : EV} {pos apos : Pos}
def eSplit (fo fe : EV) : EV := fun ρ => (fo ρ).bind fun x => match x with
  | .fz (.str a) => (fe ρ).bind fun y => Rs.of (splitOp (.fz (.str a)) y)
  | _ => .bad
theorem e_split (ho : EE X W o fo) (he : EE X W e fe) (hs : starEach [e] X.env = [(false, eval e X.env)] := by rfl) (hbase : attributeBase o "split" X.env (eval o X.env) = eval o X.env := by rfl) (hline : (apos.endLine == pos.line) = true := by rfl) :
    EE X W (.Call (.Attribute o "split" apos) [e] [] pos) (eSplit fo fe) := pe_weak (pe_split ho he hs hbase hline) fun σ H Q ⟨B, ρ, F, R, h⟩ => by
  refine ⟨B, ρ, F, R, Pst.bind h fun sx v F1 H1 A _ g1 vr1 fr1 h1 => ?_⟩
  split at h1
  · rename_i a _
    cases fz_str vr1
    refine ⟨⟨a, rfl⟩, B, ρ, F1, R.grow g1, Pst.bind h1 fun sy w F2 H2 A2 _ g2 vr2 fr2 h2 => ?_⟩
    cases e : splitOp (.fz (.str a)) sy with
    | none => rw [e] at h2; exact h2.elim
    | some sl =>
      rw [e] at h2
      obtain ⟨b, rfl, c, rfl⟩ := splitOp_ok e
      cases fz_str vr2
      exact ⟨a, b, rfl, rfl, c.1, Nat.le_trans (Nat.add_le_add_right c.2 2) (sz_of (by decide)), fun q nq => new_ow g2.sub (fun v F' H' A g vr fr => h2 v F' H' A g vr fr) (strs_rp _) q nq⟩
  · exact h1.elim
end
/-! ### a walk over a text's signs -/
def signsD (x : Str) : List D := x.cps.toList.map fun c => PyData.str ⟨#[c]⟩
def iS (f : EV) : Rho → Rs (List D) := fun ρ => (f ρ).bind fun s => match s with
  | .fz (.str x) => .ok (signsD x)
  | _ => .bad
theorem jok_str {B : Bs} {F2 : Hp} {x : Str} : JOk B F2 (Its x) (signsD x) := by
  intro i F H ex g
  have hl : (signsD x).length = x.cps.size := by unfold signsD; rw [List.length_map, Array.length_toList]
  refine ⟨fun d hd => ?_, fun hi => ?_⟩
  · unfold signsD at hd
    rw [List.getElem?_map] at hd
    obtain ⟨c, hc, rfl⟩ := Option.map_eq_some_iff.mp hd
    rw [Array.getElem?_toList] at hc
    refine ⟨(Array.getElem?_eq_some_iff.mp hc).1, fun v H' y => ?_⟩
    obtain ⟨rfl, c', hc', rfl⟩ := y
    rw [hc] at hc'
    cases hc'
    exact ⟨F, Grow.refl g.sub, .str _⟩
  · show x.cps.size ≤ i
    rw [← hl]
    exact hi
section
variable {X : Cx} {W : WX} {tg e : Expr} {f : EV}
theorem i_str (he : EE X W e f) : EI X W tg e (iS f) := pi_weak (pi_str he) fun σ H R ⟨B, ρ, F, Rp', h⟩ => by
  refine ⟨B, ρ, F, Rp', Pst.bindI h fun s v F1 H1 A _ g1 vr fr h1 => ?_⟩
  split at h1
  · rename_i x _
    cases fz_str vr
    exact ⟨x, rfl, h1 F1 H1 _ g1 jok_str⟩
  · exact h1.elim
end
end BV
namespace Lw
open PySem L2 BV
def g_is_whole : SV := (sRet (eAnd (eIs "int" (eV 0)) (eNot (eIs "bool" (eV 0)))))
def m_is_whole : List Sl → Rs Sl := runDef 1 g_is_whole

def g_is_wheel : SV := (sRet (eAnd (eCall 1 m_is_whole (aCons (eV 0) aNil)) (eChain leOp leOp (eC (.int 2)) (eV 0) (eC (.int 60)))))
def m_is_wheel : List Sl → Rs Sl := runDef 1 g_is_wheel

def g_is_stage : SV := (sSeq (sIf (cOr (cNot (cB (eIs "tuple" (eV 0)))) (cNot (cB (eChain leOp leOp (eC (.int 2)) (eCB lenF (aCons (eV 0) aNil)) (eC (.int 5)))))) (sRet (eC (.bool false))) sNx) (sRet (eCB allF (aCons (eLc [1] (iT (eV 0)) (gN 1) cYes (eCall 1 m_is_wheel (aCons (eV 1) aNil))) aNil))))
def m_is_stage : List Sl → Rs Sl := runDef 2 g_is_stage

def g_need_train_b0 : SV := (sIf (cNot (cB (eCall 1 m_is_stage (aCons (eV 1) aNil)))) (sRaise "BadTrain") sNx)
def g_need_train : SV := (sSeq (sIf (cOr (cNot (cB (eIs "list" (eV 0)))) (cNot (cB (eChain leOp leOp (eC (.int 1)) (eCB lenF (aCons (eV 0) aNil)) (eC (.int 3)))))) (sRaise "BadTrain") sNx) (sSeq (sFor (gN 1) (iL (eV 0)) g_need_train_b0) (sRet (eCB listF (aCons (eV 0) aNil)))))
def m_need_train : List Sl → Rs Sl := runDef 2 g_need_train

def g_written : SV := (sRet (eJoin (eC (.str " ")) (eLc [2] (iL (eCall 1 m_need_train (aCons (eV 0) aNil))) (gN 2) cYes (eJoin (eC (.str ":")) (eLc [1] (iT (eV 2)) (gN 1) cYes (eCB strIF (aCons (eV 1) aNil)))))))
def m_written : List Sl → Rs Sl := runDef 3 g_written

def g_wheel_of_b0 : SV := (sIf (cB (eBin niSOp (eV 1) (eC (.str "0123456789")))) (sRaise "NoText") sNx)
def g_wheel_of : SV := (sSeq (sIf (cOr (cNot (cB (eChain leOp leOp (eC (.int 1)) (eCB lenF (aCons (eV 0) aNil)) (eC (.int 2))))) (cB (eBin eqSOp (eBin ixOp (eV 0) (eC (.int 0))) (eC (.str "0"))))) (sRaise "NoText") sNx) (sSeq (sFor (gN 1) (iS (eV 0)) g_wheel_of_b0) (sRet (eCB intSF (aCons (eV 0) aNil)))))
def m_wheel_of : List Sl → Rs Sl := runDef 2 g_wheel_of

def g_read_y0 : SV := (sRet (eCall 1 m_need_train (aCons (eV 1) aNil)))
def g_read : SV := (sSeq (sIf (cNot (cB (eIs "str" (eV 0)))) (sRaise "NoText") sNx) (sSeq (sSetF 1 (eLcE [3] (iL (eSplit (eV 0) (eC (.str " ")))) (gN 3) (eCB tupF (aCons (eLcE [2] (iL (eSplit (eV 3) (eC (.str ":")))) (gN 2) (eCall 1 m_wheel_of (aCons (eV 2) aNil))) aNil)))) (sTryR "BadTrain" "NoText" g_read_y0)))
def m_read : List Sl → Rs Sl := runDef 4 g_read

def g__law_at : SV := (sSeq (sIf (cB (eBin ltOp (eV 1) (eCB lenF (aCons (eV 0) aNil)))) (sRet (eBin ixOp (eV 0) (eV 1))) sNx) (sRet (eC (.int 0))))
def m__law_at : List Sl → Rs Sl := runDef 2 g__law_at

def g__law_mixed : SV := (sRet (eBin modOp (eBin mulOp (eBin addOp (eBin mulOp (eBin addOp (eV 0) (eC (.int 1))) (eC (.int 48271))) (eBin mulOp (eC (.int 7919)) (eV 1))) (eC (.int 48271))) (eC (.int 2147483647))))
def m__law_mixed : List Sl → Rs Sl := runDef 2 g__law_mixed

def g__law_train_b0 : SV := (sSeq (sSetF 4 (eC (.int 2))) (sSeq (sIf (cB (eBin gtOp (eBin modOp (eBin divOp (eV 0) (eC (.int 3))) (eC (.int 3))) (eC (.int 0)))) (sSetF 4 (eBin addOp (eC (.int 2)) (eBin modOp (eCall 2 m__law_mixed (aCons (eV 1) (aCons (eBin addOp (eC (.int 97)) (eV 3)) aNil))) (eC (.int 4))))) sNx) (sSeq (sSetF 5 (eBin mulOp (eBin modOp (eBin divOp (eV 0) (eC (.int 9))) (eC (.int 2))) (eC (.int 50)))) (sApp 2 (eCB tupF (aCons (eLc [6] (iR1 (aCons (eV 4) aNil)) (gN 6) cYes (eBin addOp (eC (.int 2)) (eBin modOp (eBin divOp (eCall 2 m__law_mixed (aCons (eV 1) (aCons (eBin addOp (eBin mulOp (eC (.int 11)) (eV 3)) (eV 6)) aNil))) (eC (.int 7))) (eBin subOp (eC (.int 59)) (eV 5))))) aNil))))))
def g__law_train : SV := (sSeq (sSet 2 (eLst aNil)) (sSeq (sFor (gN 3) (iR1 (aCons (eBin addOp (eC (.int 1)) (eBin modOp (eV 0) (eC (.int 3)))) aNil)) g__law_train_b0) (sRetV 2)))
def m__law_train : List Sl → Rs Sl := runDef 7 g__law_train


def g__law_changed : SV := (sSeq (sSetF 2 (eC (.str " !\"#$&'()*+,-./0123456789:;<=>?@ABCDEFGHIJKLMNOPQRSTUVWXYZ[\\]^_`abcdefghijklmnopqrstuvwxyz{|}~\n\t"))) (sSeq (sSetF 3 (eBin modOp (eBin divOp (eV 1) (eC (.int 4))) (eBin addOp (eCB lenF (aCons (eV 0) aNil)) (eC (.int 1))))) (sSeq (sSetF 4 (eBin ixOp (eV 2) (eBin modOp (eBin divOp (eV 1) (eC (.int 400))) (eCB lenF (aCons (eV 2) aNil))))) (sSeq (sIf (cB (eBin eqOp (eBin modOp (eBin divOp (eV 1) (eC (.int 4))) (eC (.int 3))) (eC (.int 1)))) (sSetF 4 (eBin ixOp (eC (.str "0 :123456789")) (eBin modOp (eBin divOp (eV 1) (eC (.int 400))) (eC (.int 12))))) sNx) (sSeq (sIf (cB (eBin eqOp (eBin modOp (eV 1) (eC (.int 4))) (eC (.int 0)))) (sRet (eBin addOp (eSl slSOp (eV 0) oNo (oSome (eV 3))) (eSl slSOp (eV 0) (oSome (eBin addOp (eV 3) (eC (.int 1)))) oNo))) sNx) (sSeq (sIf (cB (eBin eqOp (eBin modOp (eV 1) (eC (.int 4))) (eC (.int 1)))) (sRet (eBin addOp (eBin addOp (eSl slSOp (eV 0) oNo (oSome (eV 3))) (eV 4)) (eSl slSOp (eV 0) (oSome (eV 3)) oNo))) sNx) (sSeq (sIf (cB (eBin eqOp (eBin modOp (eV 1) (eC (.int 4))) (eC (.int 2)))) (sRet (eBin addOp (eBin addOp (eSl slSOp (eV 0) oNo (oSome (eV 3))) (eV 4)) (eSl slSOp (eV 0) (oSome (eBin addOp (eV 3) (eC (.int 1)))) oNo))) sNx) (sRet (eBin ixOp (eLst (aCons (eBin addOp (eC (.str "0")) (eV 0)) (aCons (eBin addOp (eC (.str " ")) (eV 0)) (aCons (eBin addOp (eV 0) (eC (.str " "))) (aCons (eBin addOp (eC (.str ":")) (eV 0)) (aCons (eBin addOp (eV 0) (eC (.str ":"))) (aCons (eBin addOp (eV 0) (eC (.str " 0"))) aNil))))))) (eBin modOp (eBin divOp (eV 1) (eC (.int 4))) (eC (.int 6))))))))))))
def m__law_changed : List Sl → Rs Sl := runDef 5 g__law_changed

def g__law_wheel_b0 : SV := (sIf (cB (eBin eqSOp (eV 0) (eCB strIF (aCons (eV 1) aNil)))) (sRetV 1) sNx)
def g__law_wheel : SV := (sSeq (sFor (gN 1) (iR2 (aCons (eC (.int 2)) (aCons (eC (.int 61)) aNil))) g__law_wheel_b0) (sRet (eC (.int 0))))
def m__law_wheel : List Sl → Rs Sl := runDef 2 g__law_wheel

def g__law_due_b0 : SV := (sSeq (sSetF 4 (eCB tupF (aCons (eLc [5] (iL (eSplit (eV 3) (eC (.str ":")))) (gN 5) cYes (eCall 1 m__law_wheel (aCons (eV 5) aNil))) aNil))) (sSeq (sIf (cOr (cB (eBin inTOp (eC (.int 0)) (eV 4))) (cNot (cB (eChain leOp leOp (eC (.int 2)) (eCB lenF (aCons (eV 4) aNil)) (eC (.int 5)))))) (sRet (eC .none)) sNx) (sApp 2 (eV 4))))
def g__law_due : SV := (sSeq (sSetF 1 (eSplit (eV 0) (eC (.str " ")))) (sSeq (sIf (cB (eBin gtOp (eCB lenF (aCons (eV 1) aNil)) (eC (.int 3)))) (sRet (eC .none)) sNx) (sSeq (sSet 2 (eLst aNil)) (sSeq (sFor (gN 3) (iL (eV 1)) g__law_due_b0) (sRetV 2)))))
def m__law_due : List Sl → Rs Sl := runDef 6 g__law_due

def g__law_told_y0 : SV := (sRet (eCall 1 m_read (aCons (eV 0) aNil)))
def g__law_told : SV := (sTry 1 ["NoText"] outB g__law_told_y0)
def m__law_told : List Sl → Rs Sl := runDef 2 g__law_told

def g_law_b0 : SV := (sSetF 2 (eCall 2 m__law_changed (aCons (eV 2) (aCons (eCall 2 m__law_mixed (aCons (eCall 2 m__law_at (aCons (eV 0) (aCons (eBin addOp (eC (.int 3)) (eV 6)) aNil))) (aCons (eV 6) aNil))) aNil))))
def g_law_s0 : SV := (sSetF 1 (eCall 2 m__law_train (aCons (eCall 2 m__law_at (aCons (eV 0) (aCons (eC (.int 0)) aNil))) (aCons (eCall 2 m__law_at (aCons (eV 0) (aCons (eC (.int 1)) aNil))) aNil))))
def g_law_s1 : SV := (sSetF 2 (eCall 1 m_written (aCons (eCB listF (aCons (eV 1) aNil)) aNil)))
def g_law_s2 : SV := (sSetF 3 (eJoin (eC (.str " ")) (eLc [5] (iL (eV 1)) (gN 5) cYes (eJoin (eC (.str ":")) (eLc [4] (iT (eV 5)) (gN 4) cYes (eCB strIF (aCons (eV 4) aNil)))))))
def g_law_s3 : SV := (sIf (cOr (cNot (cB (eIs "str" (eV 2)))) (cB (eBin neSOp (eV 2) (eV 3)))) (sRet (eC (.bool false))) sNx)
def g_law_s4 : SV := (sFor (gN 6) (iR1 (aCons (eBin subOp (eBin modOp (eCall 2 m__law_at (aCons (eV 0) (aCons (eC (.int 2)) aNil))) (eC (.int 4))) (eC (.int 1))) aNil)) g_law_b0)
def g_law_s5 : SV := (sSetF 7 (eCB tupF (aCons (eLc [6] (iR1 (aCons (eC (.int 9)) aNil)) (gN 6) cYes (eBin inTOp (eV 6) (eTup (aCons (eC (.int 7)) (aCons (eC (.int 8)) aNil))))) aNil)))
def g_law_s6 : SV := (sSetF 8 (eLst (aCons (eC .none) (aCons (eC (.int 5)) (aCons (eV 1) (aCons (eC (.bool true)) (aCons eDict0 (aCons (eTup (aCons (eV 2) aNil)) (aCons (eLst (aCons (eC (.str "2:3")) aNil)) aNil)))))))))
def g_law_s7 : SV := (sIf (cB (eBin neOp (eCall 1 m__law_told (aCons (eBin ixOp (eV 8) (eBin modOp (eCall 2 m__law_at (aCons (eV 0) (aCons (eC (.int 5)) aNil))) (eC (.int 7)))) aNil)) (eV 7))) (sRet (eC (.bool false))) sNx)
def g_law_s8 : SV := (sSetF 9 (eCall 1 m__law_told (aCons (eV 2) aNil)))
def g_law_s9 : SV := (sSetF 3 (eCall 1 m__law_due (aCons (eV 2) aNil)))
def g_law_s10 : SV := (sIf (cB (eBin isNOp (eV 3) (eC .none))) (sRet (eBin eqOp (eV 9) (eV 7))) sNx)
def g_law_s11 : SV := (sIf (cOr (cNot (cB (eIs "list" (eV 9)))) (cOr (cB (eBin neOp (eV 9) (eV 3))) (cNot (cB (eCB allF (aCons (eLc [5] (iL (eV 9)) (gN 5) cYes (eIs "tuple" (eV 5))) aNil)))))) (sRet (eC (.bool false))) sNx)
def g_law_s12 : SV := (sSetF 10 (eCB listF (aCons (eV 9) aNil)))
def g_law_s13 : SV := (sSet 11 (eCallV 1 m_read (aCons (eV 2) aNil)))
def g_law_s14 : SV := (sClear 11)
def g_law_s15 : SV := (sRet (eAnd (eBin eqOp (eV 9) (eV 10)) (eBin eqOp (eCallV 1 m_read (aCons (eV 2) aNil)) (eV 3))))
def g_law_t14 : SV := (sSeq g_law_s14 g_law_s15)
def g_law_t13 : SV := (sSeq g_law_s13 g_law_t14)
def g_law_t12 : SV := (sSeq g_law_s12 g_law_t13)
def g_law_t11 : SV := (sSeq g_law_s11 g_law_t12)
def g_law_t10 : SV := (sSeq g_law_s10 g_law_t11)
def g_law_t9 : SV := (sSeq g_law_s9 g_law_t10)
def g_law_t8 : SV := (sSeq g_law_s8 g_law_t9)
def g_law_t7 : SV := (sSeq g_law_s7 g_law_t8)
def g_law_t6 : SV := (sSeq g_law_s6 g_law_t7)
def g_law_t5 : SV := (sSeq g_law_s5 g_law_t6)
def g_law_t4 : SV := (sSeq g_law_s4 g_law_t5)
def g_law_t3 : SV := (sSeq g_law_s3 g_law_t4)
def g_law_t2 : SV := (sSeq g_law_s2 g_law_t3)
def g_law_t1 : SV := (sSeq g_law_s1 g_law_t2)
def g_law_t0 : SV := (sSeq g_law_s0 g_law_t1)
def g_law : SV := g_law_t0
def m_law : List Sl → Rs Sl := runDef 12 g_law

end Lw
namespace Lw
open PySem PySem.Spec PyProof.Rows L2 BV
def topS (i : Nat) : Stmt := PySem.Challenge.pw_wheeltrain_k14_texts.main.body.getD i (.Pass ⟨0, 0, 0, 0⟩)
structure Bi (K : PySem.W.Frag) (mg : MG) : Prop where
  b_all : mg "all" = none
  b_bool : mg "bool" = none
  b_int : mg "int" = none
  b_isinstance : mg "isinstance" = none
  b_len : mg "len" = none
  b_list : mg "list" = none
  b_range : mg "range" = none
  b_str : mg "str" = none
  b_tuple : mg "tuple" = none
  c_FIGURES : ∃ t, mg "FIGURES" = some (.str "0123456789" t)
  c_LEAST : ∃ t, mg "LEAST" = some (.int 2 t)
  c_MOST : ∃ t, mg "MOST" = some (.int 60 t)
  c_MOST_FIGURES : ∃ t, mg "MOST_FIGURES" = some (.int 2 t)
  c_MOST_STAGES : ∃ t, mg "MOST_STAGES" = some (.int 3 t)
  c_MOST_WHEELS : ∃ t, mg "MOST_WHEELS" = some (.int 5 t)
  x_BadTrain : XCls K mg "BadTrain"
  x_NoText : XCls K mg "NoText"
  y_BadTrain : ∃ D, mg "BadTrain" = some (.ref D) ∧ PySem.W.exmOne K (.ref D) (.ref D) = some true
  kc : ∀ c ∈ (["NoText"] : List Str), ∃ D, KC K mg c D
section
variable {P : Program} {w : World} {K : PySem.W.Frag} {mg : MG} {base : Heap}
abbrev N_is_whole : List Str := ["thing"]
abbrev st_is_whole : Stmt := topS 11
theorem sc_is_whole : FnScope N_is_whole ["thing"] (defScope st_is_whole) := ⟨rfl, rfl, rfl, by decide +kernel, rfl, by decide +kernel, by decide +kernel⟩
theorem ok_is_whole {f : Addr} {fd : FuncData} (F : Fun K "is_whole" "is_whole" st_is_whole f fd) (Z : Bi K mg) : FnOk P w K mg base (L2N.CX P w) 1 f fd ["thing"] (spV K mg 1 m_is_whole) := fn_ok F sc_is_whole fun cdv A outer s H E hr tk pw =>
  (b_one (s_ret (e_and (e_isT (n := "int") (by decide) (by decide +kernel) Z.b_isinstance Z.b_int (e_v 0)) (e_one (e_not (e_isT (n := "bool") (by decide) (by decide +kernel) Z.b_isinstance Z.b_bool (e_v 0)))))))

abbrev N_is_wheel : List Str := ["thing"]
abbrev st_is_wheel : Stmt := topS 17
theorem sc_is_wheel : FnScope N_is_wheel ["thing"] (defScope st_is_wheel) := ⟨rfl, rfl, rfl, by decide +kernel, rfl, by decide +kernel, by decide +kernel⟩
theorem ok_is_wheel {f : Addr} {fd : FuncData} (F : Fun K "is_wheel" "is_wheel" st_is_wheel f fd) (Z : Bi K mg) (D_is_whole : Df P w K mg base "is_whole" 1 1 m_is_whole) : FnOk P w K mg base (L2N.CX P w) 2 f fd ["thing"] (spV K mg 1 m_is_wheel) := fn_ok F sc_is_wheel fun cdv A outer s H E hr tk pw =>
  (b_one (s_ret (e_and (e_call D_is_whole (hr.mono (by decide)) tk (a_cons (e_v 0) a_nil)) (e_one (e_leLe (e_globI Z.c_LEAST.choose_spec ⟨_, rfl⟩) (e_v 0) (e_globI Z.c_MOST.choose_spec ⟨_, rfl⟩))))))

abbrev N_is_stage : List Str := ["thing", "wheel"]
abbrev st_is_stage : Stmt := topS 18
theorem sc_is_stage : FnScope N_is_stage ["thing"] (defScope st_is_stage) := ⟨rfl, rfl, rfl, by decide +kernel, rfl, by decide +kernel, by decide +kernel⟩
theorem ok_is_stage {f : Addr} {fd : FuncData} (F : Fun K "is_stage" "is_stage" st_is_stage f fd) (Z : Bi K mg) (D_is_wheel : Df P w K mg base "is_wheel" 2 1 m_is_wheel) : FnOk P w K mg base (L2N.CX P w) 3 f fd ["thing"] (spV K mg 1 m_is_stage) := fn_ok F sc_is_stage fun cdv A outer s H E hr tk pw =>
  (b_cons (s_if (t_w (w_or (t_not (t_b (e_isT (n := "tuple") (by decide) (by decide +kernel) Z.b_isinstance Z.b_tuple (e_v 0)))) (w_or1 (t_not (t_leLe e_int (e_len Z.b_len (a_cons (e_v 0) a_nil)) (e_globI Z.c_MOST_WHEELS.choose_spec ⟨_, rfl⟩)))))) (b_one (s_ret e_bl)) b_nil) (b_one (s_ret (e_all Z.b_all (a_cons (e_lc (own := [("wheel", 1)]) rfl sc_is_stage.nd (blk_by (N := N_is_stage) (sc := (defScope st_is_stage)) (by decide +kernel)) (i_tup (e_v 0)) (by decide) (fun _ _ _ _ _ => (g_name (i := 1) sc_is_stage.nd)) (fun _ _ _ _ _ => ts_nil) (fun _ _ _ _ _ => (e_call D_is_wheel (hr.mono (by decide)) takesN0 (a_cons (e_v 1) a_nil)))) a_nil)))))

abbrev N_need_train : List Str := ["thing", "stage"]
abbrev st_need_train : Stmt := topS 19
theorem sc_need_train : FnScope N_need_train ["thing"] (defScope st_need_train) := ⟨rfl, rfl, rfl, by decide +kernel, rfl, by decide +kernel, by decide +kernel⟩
theorem ok_need_train {f : Addr} {fd : FuncData} (F : Fun K "need_train" "need_train" st_need_train f fd) (Z : Bi K mg) (D_is_stage : Df P w K mg base "is_stage" 3 1 m_is_stage) : FnOk P w K mg base (L2N.CX P w) 4 f fd ["thing"] (spV K mg 1 m_need_train) := fn_ok F sc_need_train fun cdv A outer s H E hr tk pw =>
  (b_cons (s_if (t_w (w_or (t_not (t_b (e_isT (n := "list") (by decide) (by decide +kernel) Z.b_isinstance Z.b_list (e_v 0)))) (w_or1 (t_not (t_leLe e_int (e_len Z.b_len (a_cons (e_v 0) a_nil)) (e_globI Z.c_MOST_STAGES.choose_spec ⟨_, rfl⟩)))))) (b_one (s_raise Z.x_BadTrain tk)) b_nil) (b_cons (s_for pw rfl (i_list (e_v 0)) (g_name (i := 1) sc_need_train.nd) (b_one (s_if (t_not (t_b (e_call D_is_stage (hr.mono (by decide)) tk (a_cons (e_v 1) a_nil)))) (b_one (s_raise Z.x_BadTrain tk)) b_nil))) (b_one (s_ret (e_list Z.b_list (a_cons (e_v 0) a_nil))))))

abbrev N_written : List Str := ["train", "wheel", "stage"]
abbrev st_written : Stmt := topS 23
theorem sc_written : FnScope N_written ["train"] (defScope st_written) := ⟨rfl, rfl, rfl, by decide +kernel, rfl, by decide +kernel, by decide +kernel⟩
theorem ok_written {f : Addr} {fd : FuncData} (F : Fun K "written" "written" st_written f fd) (Z : Bi K mg) (D_need_train : Df P w K mg base "need_train" 4 1 m_need_train) : FnOk P w K mg base (L2N.CX P w) 5 f fd ["train"] (spV K mg 1 m_written) := fn_ok F sc_written fun cdv A outer s H E hr tk pw =>
  (b_one (s_ret (e_join e_str (e_lc (own := [("stage", 2)]) rfl sc_written.nd (blk_by (N := N_written) (sc := (defScope st_written)) (by decide +kernel)) (i_list (e_call D_need_train (hr.mono (by decide)) tk (a_cons (e_v 0) a_nil))) (by decide) (fun _ _ _ _ _ => (g_name (i := 2) sc_written.nd)) (fun _ _ _ _ _ => ts_nil) (fun _ _ _ _ _ => (e_join e_str (e_lc (own := [("wheel", 1)]) rfl sc_written.nd (blk_by (N := N_written) (sc := (relS _ (defScope st_written))) (by decide +kernel)) (i_tup (e_v 2)) (by decide) (fun _ _ _ _ _ => (g_name (i := 1) sc_written.nd)) (fun _ _ _ _ _ => ts_nil) (fun _ _ _ _ _ => (e_strI Z.b_str (a_cons (e_v 1) a_nil))))))))))

abbrev N_wheel_of : List Str := ["word", "sign"]
abbrev st_wheel_of : Stmt := topS 24
theorem sc_wheel_of : FnScope N_wheel_of ["word"] (defScope st_wheel_of) := ⟨rfl, rfl, rfl, by decide +kernel, rfl, by decide +kernel, by decide +kernel⟩
theorem ok_wheel_of {f : Addr} {fd : FuncData} (F : Fun K "wheel_of" "wheel_of" st_wheel_of f fd) (Z : Bi K mg) : FnOk P w K mg base (L2N.CX P w) 1 f fd ["word"] (spV K mg 1 m_wheel_of) := fn_ok F sc_wheel_of fun cdv A outer s H E hr tk pw =>
  (b_cons (s_if (t_w (w_or (t_not (t_leLe e_int (e_len Z.b_len (a_cons (e_v 0) a_nil)) (e_globI Z.c_MOST_FIGURES.choose_spec ⟨_, rfl⟩))) (w_or1 (t_eqS (e_at (e_v 0) e_int) e_str)))) (b_one (s_raise Z.x_NoText tk)) b_nil) (b_cons (s_for pw rfl (i_str (e_v 0)) (g_name (i := 1) sc_wheel_of.nd) (b_one (s_if (t_niS (e_v 1) (e_globS Z.c_FIGURES.choose_spec ⟨_, rfl⟩)) (b_one (s_raise Z.x_NoText tk)) b_nil))) (b_one (s_ret (e_intS Z.b_int (a_cons (e_v 0) a_nil))))))

abbrev N_read : List Str := ["text", "train", "word", "part"]
abbrev st_read : Stmt := topS 25
theorem sc_read : FnScope N_read ["text"] (defScope st_read) := ⟨rfl, rfl, rfl, by decide +kernel, rfl, by decide +kernel, by decide +kernel⟩
theorem ok_read {f : Addr} {fd : FuncData} (F : Fun K "read" "read" st_read f fd) (Z : Bi K mg) (D_need_train : Df P w K mg base "need_train" 4 1 m_need_train) (D_wheel_of : Df P w K mg base "wheel_of" 1 1 m_wheel_of) : FnOk P w K mg base (L2.CX P w) 5 f fd ["text"] (spV K mg 1 m_read) := fn_okC F sc_read fun cdv A outer s H E hr tkc pw pa =>
  (b_cons (s_if (t_not (t_b (e_isT (n := "str") (by decide) (by decide +kernel) Z.b_isinstance Z.b_str (e_v 0)))) (b_one (s_raise Z.x_NoText (takesN tkc))) b_nil) (b_cons (s_setLcEF (i := 1) (own := [("part", 3)]) frame_def (takesL (takesN tkc)) rfl sc_read.nd (blk_by (N := N_read) (sc := (defScope st_read)) (by decide +kernel)) (i_list (e_split (e_v 0) e_str)) (by decide) (fun _ _ _ _ _ _ => (g_name (i := 3) sc_read.nd)) (fun _ _ _ _ _ _ => (e_tupOf Z.b_tuple (a_cons (e_lcE (own := [("word", 2)]) (frame_blkE frame_def) takes_blkE rfl sc_read.nd (blk_by (N := N_read) (sc := (relS _ (defScope st_read))) (by decide +kernel)) (i_list (e_split (e_v 3) e_str)) (by decide) (fun _ _ _ _ _ _ => (g_name (i := 2) sc_read.nd)) (fun _ _ _ _ _ _ => (e_callL D_wheel_of (hr.mono (by decide)) takes_blkE (a_cons (e_v 2) a_nil)))) a_nil))) (sw_true rfl rfl rfl (by decide +kernel))) (b_one (s_tryR Z.y_BadTrain Z.x_NoText tkc pa (fun W' pn xe tk pw => (b_one (s_ret (e_call D_need_train (hr.mono (by decide)) tk (a_cons (e_v 1) a_nil)))))))))

abbrev N__law_at : List Str := ["_law_script", "_law_k"]
abbrev st__law_at : Stmt := topS 27
theorem sc__law_at : FnScope N__law_at ["_law_script", "_law_k"] (defScope st__law_at) := ⟨rfl, rfl, rfl, by decide +kernel, rfl, by decide +kernel, by decide +kernel⟩
theorem ok__law_at {f : Addr} {fd : FuncData} (F : Fun K "_law_at" "_law_at" st__law_at f fd) (Z : Bi K mg) : FnOk P w K mg base (L2N.CX P w) 1 f fd ["_law_script", "_law_k"] (spV K mg 2 m__law_at) := fn_ok F sc__law_at fun cdv A outer s H E hr tk pw =>
  (b_cons (s_if (t_lt (e_v 1) (e_len Z.b_len (a_cons (e_v 0) a_nil))) (b_one (s_ret (e_at (e_v 0) (e_v 1)))) b_nil) (b_one (s_ret e_int)))

abbrev N__law_mixed : List Str := ["_law_cell", "_law_k"]
abbrev st__law_mixed : Stmt := topS 29
theorem sc__law_mixed : FnScope N__law_mixed ["_law_cell", "_law_k"] (defScope st__law_mixed) := ⟨rfl, rfl, rfl, by decide +kernel, rfl, by decide +kernel, by decide +kernel⟩
theorem ok__law_mixed {f : Addr} {fd : FuncData} (F : Fun K "_law_mixed" "_law_mixed" st__law_mixed f fd) (Z : Bi K mg) : FnOk P w K mg base (L2N.CX P w) 1 f fd ["_law_cell", "_law_k"] (spV K mg 2 m__law_mixed) := fn_ok F sc__law_mixed fun cdv A outer s H E hr tk pw =>
  (b_one (s_ret (e_mod (e_mul (e_add (e_mul (e_add (e_v 0) e_int) e_int) (e_mul e_int (e_v 1))) e_int) e_int)))

abbrev N__law_train : List Str := ["_law_cell", "_law_more", "_law_train_here", "_law_stage", "_law_size", "_law_few", "_law_k"]
abbrev st__law_train : Stmt := topS 30
theorem sc__law_train : FnScope N__law_train ["_law_cell", "_law_more"] (defScope st__law_train) := ⟨rfl, rfl, rfl, by decide +kernel, rfl, by decide +kernel, by decide +kernel⟩
theorem ok__law_train {f : Addr} {fd : FuncData} (F : Fun K "_law_train" "_law_train" st__law_train f fd) (Z : Bi K mg) (D__law_mixed : Df P w K mg base "_law_mixed" 1 2 m__law_mixed) : FnOk P w K mg base (L2N.CX P w) 2 f fd ["_law_cell", "_law_more"] (spV K mg 2 m__law_train) := fn_ok F sc__law_train fun cdv A outer s H E hr tk pw =>
  (b_cons (s_set (i := 2) sc__law_train.nd (e_lst a_nil)) (b_cons (s_for pw rfl (i_range1 Z.b_range (a_cons (e_add e_int (e_mod (e_v 0) e_int)) a_nil)) (g_name (i := 3) sc__law_train.nd) (b_cons (s_setF (i := 4) sc__law_train.nd e_int) (b_cons (s_if (t_gt (e_mod (e_div (e_v 0) e_int) e_int) e_int) (b_one (s_setF (i := 4) sc__law_train.nd (e_add e_int (e_mod (e_call D__law_mixed (hr.mono (by decide)) tk (a_cons (e_v 1) (a_cons (e_add e_int (e_v 3)) a_nil))) e_int)))) b_nil) (b_cons (s_setF (i := 5) sc__law_train.nd (e_mul (e_mod (e_div (e_v 0) e_int) e_int) e_int)) (b_one (s_app (i := 2) (e_tupOf Z.b_tuple (a_cons (e_lc (own := [("_law_k", 6)]) rfl sc__law_train.nd (blk_by (N := N__law_train) (sc := (defScope st__law_train)) (by decide +kernel)) (i_range1 Z.b_range (a_cons (e_v 4) a_nil)) (by decide) (fun _ _ _ _ _ => (g_name (i := 6) sc__law_train.nd)) (fun _ _ _ _ _ => ts_nil) (fun _ _ _ _ _ => (e_add e_int (e_mod (e_div (e_call D__law_mixed (hr.mono (by decide)) takesN0 (a_cons (e_v 1) (a_cons (e_add (e_mul e_int (e_v 3)) (e_v 6)) a_nil))) e_int) (e_sub e_int (e_v 5)))))) a_nil)))))))) (b_one (s_retV (i := 2)))))

abbrev N__law_kinds : List Str := ["_law_e", "_law_some"]
abbrev st__law_kinds : Stmt := topS 31
theorem sc__law_kinds : FnScope N__law_kinds ["_law_e"] (defScope st__law_kinds) := ⟨rfl, rfl, rfl, by decide +kernel, rfl, by decide +kernel, by decide +kernel⟩
theorem ok__law_kinds {f : Addr} {fd : FuncData} (F : Fun K "_law_kinds" "_law_kinds" st__law_kinds f fd) : FnE P w K mg base (L2N.CX P w) 1 f fd ["_law_e"] (spK K mg) := fn_ofE F sc__law_kinds (fun p vs H Q E h => by rw [h.1]; rfl) fun cdv p A outer s H vs Q E hr ⟨hv, c, D, kc, hz, post⟩ => ⟨t_kinds p.1 c,
  (pss_cons (ps_set (i := 1) sc__law_kinds.nd rfl (Or.inl rfl) (pe_lst (pa_cons (pe_isN kc.ex (List.mem_singleton.mpr rfl) hz kc.isi (kc.is "BadRatio" (by decide))) (pa_cons (pe_isN kc.ex (List.mem_singleton.mpr rfl) hz kc.isi (kc.is "BadTrain" (by decide))) (pa_cons (pe_isN kc.ex (List.mem_singleton.mpr rfl) hz kc.isi (kc.is "BadShop" (by decide))) (pa_cons (pe_isN kc.ex (List.mem_singleton.mpr rfl) hz kc.isi (kc.is "BadPairs" (by decide))) pa_nil)))))) (pss_cons (ps_set (i := 1) sc__law_kinds.nd rfl (Or.inl rfl) (pe_op op_cat (pe_var (i := 1) rfl (Or.inl rfl)) (pe_lst (pa_cons (pe_isN kc.ex (List.mem_singleton.mpr rfl) hz kc.isi (kc.is "BadPlace" (by decide))) (pa_cons (pe_isN kc.ex (List.mem_singleton.mpr rfl) hz kc.isi (kc.is "BadWheel" (by decide))) (pa_cons (pe_isN kc.ex (List.mem_singleton.mpr rfl) hz kc.isi (kc.is "TooLong" (by decide))) (pa_cons (pe_isN kc.ex (List.mem_singleton.mpr rfl) hz kc.isi (kc.is "NoText" (by decide))) pa_nil))))))) (pss_one (ps_ret (pe_op op_cat (pe_var (i := 1) rfl (Or.inl rfl)) (pe_lst (pa_cons (pe_isV kc.ex (List.mem_singleton.mpr rfl) hz kc.isi kc.vn kc.ve) pa_nil))))))),
  by subst hv; exact kinds_read post⟩

abbrev N__law_changed : List Str := ["_law_text", "_law_cell", "_law_signs", "_law_at_here", "_law_sign"]
abbrev st__law_changed : Stmt := topS 32
theorem sc__law_changed : FnScope N__law_changed ["_law_text", "_law_cell"] (defScope st__law_changed) := ⟨rfl, rfl, rfl, by decide +kernel, rfl, by decide +kernel, by decide +kernel⟩
theorem ok__law_changed {f : Addr} {fd : FuncData} (F : Fun K "_law_changed" "_law_changed" st__law_changed f fd) (Z : Bi K mg) : FnOk P w K mg base (L2N.CX P w) 1 f fd ["_law_text", "_law_cell"] (spV K mg 2 m__law_changed) := fn_ok F sc__law_changed fun cdv A outer s H E hr tk pw =>
  (b_cons (s_setF (i := 2) sc__law_changed.nd e_str) (b_cons (s_setF (i := 3) sc__law_changed.nd (e_mod (e_div (e_v 1) e_int) (e_add (e_len Z.b_len (a_cons (e_v 0) a_nil)) e_int))) (b_cons (s_setF (i := 4) sc__law_changed.nd (e_at (e_v 2) (e_mod (e_div (e_v 1) e_int) (e_len Z.b_len (a_cons (e_v 2) a_nil))))) (b_cons (s_if (t_eq (hu65 hr) (e_mod (e_div (e_v 1) e_int) e_int) e_int) (b_one (s_setF (i := 4) sc__law_changed.nd (e_at e_str (e_mod (e_div (e_v 1) e_int) e_int)))) b_nil) (b_cons (s_if (t_eq (hu65 hr) (e_mod (e_v 1) e_int) e_int) (b_one (s_ret (e_add (e_slS (e_v 0) o_no (o_some (e_v 3))) (e_slS (e_v 0) (o_some (e_add (e_v 3) e_int)) o_no)))) b_nil) (b_cons (s_if (t_eq (hu65 hr) (e_mod (e_v 1) e_int) e_int) (b_one (s_ret (e_add (e_add (e_slS (e_v 0) o_no (o_some (e_v 3))) (e_v 4)) (e_slS (e_v 0) (o_some (e_v 3)) o_no)))) b_nil) (b_cons (s_if (t_eq (hu65 hr) (e_mod (e_v 1) e_int) e_int) (b_one (s_ret (e_add (e_add (e_slS (e_v 0) o_no (o_some (e_v 3))) (e_v 4)) (e_slS (e_v 0) (o_some (e_add (e_v 3) e_int)) o_no)))) b_nil) (b_one (s_ret (e_at (e_lst (a_cons (e_add e_str (e_v 0)) (a_cons (e_add e_str (e_v 0)) (a_cons (e_add (e_v 0) e_str) (a_cons (e_add e_str (e_v 0)) (a_cons (e_add (e_v 0) e_str) (a_cons (e_add (e_v 0) e_str) a_nil))))))) (e_mod (e_div (e_v 1) e_int) e_int)))))))))))

abbrev N__law_wheel : List Str := ["_law_word", "_law_teeth"]
abbrev st__law_wheel : Stmt := topS 33
theorem sc__law_wheel : FnScope N__law_wheel ["_law_word"] (defScope st__law_wheel) := ⟨rfl, rfl, rfl, by decide +kernel, rfl, by decide +kernel, by decide +kernel⟩
theorem ok__law_wheel {f : Addr} {fd : FuncData} (F : Fun K "_law_wheel" "_law_wheel" st__law_wheel f fd) (Z : Bi K mg) : FnOk P w K mg base (L2N.CX P w) 1 f fd ["_law_word"] (spV K mg 1 m__law_wheel) := fn_ok F sc__law_wheel fun cdv A outer s H E hr tk pw =>
  (b_cons (s_for pw rfl (i_range2 Z.b_range (a_cons e_int (a_cons e_int a_nil))) (g_name (i := 1) sc__law_wheel.nd) (b_one (s_if (t_eqS (e_v 0) (e_strI Z.b_str (a_cons (e_v 1) a_nil))) (b_one (s_retV (i := 1))) b_nil))) (b_one (s_ret e_int)))

abbrev N__law_due : List Str := ["_law_text", "_law_stages", "_law_train_here", "_law_part", "_law_stage", "_law_word"]
abbrev st__law_due : Stmt := topS 34
theorem sc__law_due : FnScope N__law_due ["_law_text"] (defScope st__law_due) := ⟨rfl, rfl, rfl, by decide +kernel, rfl, by decide +kernel, by decide +kernel⟩
theorem ok__law_due {f : Addr} {fd : FuncData} (F : Fun K "_law_due" "_law_due" st__law_due f fd) (Z : Bi K mg) (D__law_wheel : Df P w K mg base "_law_wheel" 1 1 m__law_wheel) : FnOk P w K mg base (L2N.CX P w) 2 f fd ["_law_text"] (spV K mg 1 m__law_due) := fn_ok F sc__law_due fun cdv A outer s H E hr tk pw =>
  (b_cons (s_setF (i := 1) sc__law_due.nd (e_split (e_v 0) e_str)) (b_cons (s_if (t_gt (e_len Z.b_len (a_cons (e_v 1) a_nil)) e_int) (b_one (s_ret e_non)) b_nil) (b_cons (s_set (i := 2) sc__law_due.nd (e_lst a_nil)) (b_cons (s_for pw rfl (i_list (e_v 1)) (g_name (i := 3) sc__law_due.nd) (b_cons (s_setF (i := 4) sc__law_due.nd (e_tupOf Z.b_tuple (a_cons (e_lc (own := [("_law_word", 5)]) rfl sc__law_due.nd (blk_by (N := N__law_due) (sc := (defScope st__law_due)) (by decide +kernel)) (i_list (e_split (e_v 3) e_str)) (by decide) (fun _ _ _ _ _ => (g_name (i := 5) sc__law_due.nd)) (fun _ _ _ _ _ => ts_nil) (fun _ _ _ _ _ => (e_call D__law_wheel (hr.mono (by decide)) takesN0 (a_cons (e_v 5) a_nil)))) a_nil))) (b_cons (s_if (t_w (w_or (t_inT e_int (e_v 4)) (w_or1 (t_not (t_leLe e_int (e_len Z.b_len (a_cons (e_v 4) a_nil)) e_int))))) (b_one (s_ret e_non)) b_nil) (b_one (s_app (i := 2) (e_v 4)))))) (b_one (s_retV (i := 2)))))))

abbrev N__law_told : List Str := ["_law_thing", "_law_e"]
abbrev st__law_told : Stmt := topS 35
theorem sc__law_told : FnScope N__law_told ["_law_thing"] (defScope st__law_told) := ⟨rfl, rfl, rfl, by decide +kernel, rfl, by decide +kernel, by decide +kernel⟩
theorem ok__law_told {f : Addr} {fd : FuncData} (F : Fun K "_law_told" "_law_told" st__law_told f fd) (Z : Bi K mg) (D__law_kinds : DfE P w K mg base "_law_kinds" 1) (D_read : DfC P w K mg base "read" 5 1 m_read) : FnOk P w K mg base (L2N.CX P w) 6 f fd ["_law_thing"] (spV K mg 1 m__law_told) := fn_ok F sc__law_told fun cdv A outer s H E hr tk pw =>
  (b_one (s_tryBC (i := 1) (L := ["NoText"]) D__law_kinds (hr.mono (by decide)) ⟨_, List.mem_cons_self ..⟩ Z.kc Z.b_tuple sc__law_told.nd (fun W' pn xe tkc pw => (b_one (s_ret (e_callC D_read (hr.mono (by decide)) tkc (a_cons (e_v 0) a_nil)))))))

abbrev N_law : List Str := ["_law_script", "_law_train_here", "_law_text", "_law_due_here", "_law_wheel_here", "_law_stage", "_law_k", "_law_refused", "_law_odd", "_law_found", "_law_kept", "_law_again"]
abbrev st_law : Stmt := topS 36
theorem sc_law : FnScope N_law ["_law_script"] (defScope st_law) := ⟨rfl, rfl, rfl, by decide +kernel, rfl, by decide +kernel, by decide +kernel⟩
theorem ok_law {f : Addr} {fd : FuncData} (F : Fun K "law" "law" st_law f fd) (Z : Bi K mg) (D__law_at : Df P w K mg base "_law_at" 1 2 m__law_at) (D__law_changed : Df P w K mg base "_law_changed" 1 2 m__law_changed) (D__law_due : Df P w K mg base "_law_due" 2 1 m__law_due) (D__law_mixed : Df P w K mg base "_law_mixed" 1 2 m__law_mixed) (D__law_told : Df P w K mg base "_law_told" 6 1 m__law_told) (D__law_train : Df P w K mg base "_law_train" 2 2 m__law_train) (D_read : DfC P w K mg base "read" 5 1 m_read) (D_written : Df P w K mg base "written" 5 1 m_written) : FnOk P w K mg base (L2N.CX P w) 7 f fd ["_law_script"] (spV K mg 1 m_law) := fn_ok F sc_law fun cdv A outer s H E hr tk pw =>
  (b_cons (s_setF (i := 1) sc_law.nd (e_call D__law_train (hr.mono (by decide)) tk (a_cons (e_call D__law_at (hr.mono (by decide)) tk (a_cons (e_v 0) (a_cons e_int a_nil))) (a_cons (e_call D__law_at (hr.mono (by decide)) tk (a_cons (e_v 0) (a_cons e_int a_nil))) a_nil)))) (b_cons (s_setF (i := 2) sc_law.nd (e_call D_written (hr.mono (by decide)) tk (a_cons (e_list Z.b_list (a_cons (e_v 1) a_nil)) a_nil))) (b_cons (s_setF (i := 3) sc_law.nd (e_join e_str (e_lc (own := [("_law_stage", 5)]) rfl sc_law.nd (blk_by (N := N_law) (sc := (defScope st_law)) (by decide +kernel)) (i_list (e_v 1)) (by decide) (fun _ _ _ _ _ => (g_name (i := 5) sc_law.nd)) (fun _ _ _ _ _ => ts_nil) (fun _ _ _ _ _ => (e_join e_str (e_lc (own := [("_law_wheel_here", 4)]) rfl sc_law.nd (blk_by (N := N_law) (sc := (relS _ (defScope st_law))) (by decide +kernel)) (i_tup (e_v 5)) (by decide) (fun _ _ _ _ _ => (g_name (i := 4) sc_law.nd)) (fun _ _ _ _ _ => ts_nil) (fun _ _ _ _ _ => (e_strI Z.b_str (a_cons (e_v 4) a_nil))))))))) (b_cons (s_if (t_w (w_or (t_not (t_b (e_isT (n := "str") (by decide) (by decide +kernel) Z.b_isinstance Z.b_str (e_v 2)))) (w_or1 (t_neS (e_v 2) (e_v 3))))) (b_one (s_ret e_bl)) b_nil) (b_cons (s_for pw rfl (i_range1 Z.b_range (a_cons (e_sub (e_mod (e_call D__law_at (hr.mono (by decide)) tk (a_cons (e_v 0) (a_cons e_int a_nil))) e_int) e_int) a_nil)) (g_name (i := 6) sc_law.nd) (b_one (s_setF (i := 2) sc_law.nd (e_call D__law_changed (hr.mono (by decide)) tk (a_cons (e_v 2) (a_cons (e_call D__law_mixed (hr.mono (by decide)) tk (a_cons (e_call D__law_at (hr.mono (by decide)) tk (a_cons (e_v 0) (a_cons (e_add e_int (e_v 6)) a_nil))) (a_cons (e_v 6) a_nil))) a_nil)))))) (b_cons (s_setF (i := 7) sc_law.nd (e_tupOf Z.b_tuple (a_cons (e_lc (own := [("_law_k", 6)]) rfl sc_law.nd (blk_by (N := N_law) (sc := (defScope st_law)) (by decide +kernel)) (i_range1 Z.b_range (a_cons e_int a_nil)) (by decide) (fun _ _ _ _ _ => (g_name (i := 6) sc_law.nd)) (fun _ _ _ _ _ => ts_nil) (fun _ _ _ _ _ => (e_inT (e_v 6) (e_tup (a_cons e_int (a_cons e_int a_nil)))))) a_nil))) (b_cons (s_setF (i := 8) sc_law.nd (e_lst (a_cons e_non (a_cons e_int (a_cons (e_v 1) (a_cons e_bl (a_cons e_dict0 (a_cons (e_tup (a_cons (e_v 2) a_nil)) (a_cons (e_lst (a_cons e_str a_nil)) a_nil))))))))) (b_cons (s_if (t_ne (hu65 hr) (e_call D__law_told (hr.mono (by decide)) tk (a_cons (e_at (e_v 8) (e_mod (e_call D__law_at (hr.mono (by decide)) tk (a_cons (e_v 0) (a_cons e_int a_nil))) e_int)) a_nil)) (e_v 7)) (b_one (s_ret e_bl)) b_nil) (b_cons (s_setF (i := 9) sc_law.nd (e_call D__law_told (hr.mono (by decide)) tk (a_cons (e_v 2) a_nil))) (b_cons (s_setF (i := 3) sc_law.nd (e_call D__law_due (hr.mono (by decide)) tk (a_cons (e_v 2) a_nil))) (b_cons (s_if (t_isN (e_v 3) e_non) (b_one (s_ret (e_eq (hu65 hr) (e_v 9) (e_v 7)))) b_nil) (b_cons (s_if (t_w (w_or (t_not (t_b (e_isT (n := "list") (by decide) (by decide +kernel) Z.b_isinstance Z.b_list (e_v 9)))) (w_or (t_ne (hu65 hr) (e_v 9) (e_v 3)) (w_or1 (t_not (t_b (e_all Z.b_all (a_cons (e_lc (own := [("_law_stage", 5)]) rfl sc_law.nd (blk_by (N := N_law) (sc := (defScope st_law)) (by decide +kernel)) (i_list (e_v 9)) (by decide) (fun _ _ _ _ _ => (g_name (i := 5) sc_law.nd)) (fun _ _ _ _ _ => ts_nil) (fun _ _ _ _ _ => (e_isT (n := "tuple") (by decide) (by decide +kernel) Z.b_isinstance Z.b_tuple (e_v 5)))) a_nil)))))))) (b_one (s_ret e_bl)) b_nil) (b_cons (s_setF (i := 10) sc_law.nd (e_list Z.b_list (a_cons (e_v 9) a_nil))) (b_cons (s_set (i := 11) sc_law.nd (e_callV D_read (hr.mono (by decide)) (a_cons (e_v 2) a_nil))) (b_cons (s_clear (i := 11)) (b_one (s_ret (e_and (e_eq (hu65 hr) (e_v 9) (e_v 10)) (e_one (e_eq (hu65 hr) (e_callV D_read (hr.mono (by decide)) (a_cons (e_v 2) a_nil)) (e_v 3)))))))))))))))))))))
end
end Lw
namespace Lw
open PySem L2 BV
local macro_rules | `(tactic| walk_at "ev") => `(tactic| simp only [wipeR, sSeq, sSet, sSetF, sIf, sRet, sRetV, sNx, sBad, cB, cAnd, cOr, cNot, eBin, eV, eC, eTup, eLst, aCons, aNil, eCall, eCallS, argOkS, asFz, BV.scal, argS_vg, argS_og, keeps_og, keeps_br, res_og, eCB, eAnd, eOr, eNot, eIf, eChain, eNeg, eIs, tyName, isTab_NoneType_int, isTab_NoneType_bool, isTab_NoneType_tuple, isTab_NoneType_list, isTab_NoneType_str, isTab_bool_int, isTab_bool_bool, isTab_bool_tuple, isTab_bool_list, isTab_bool_str, isTab_int_int, isTab_int_bool, isTab_int_tuple, isTab_int_list, isTab_int_str, isTab_str_int, isTab_str_bool, isTab_str_tuple, isTab_str_list, isTab_str_str, isTab_list_int, isTab_list_bool, isTab_list_tuple, isTab_list_list, isTab_list_str, isTab_tuple_int, isTab_tuple_bool, isTab_tuple_tuple, isTab_tuple_list, isTab_tuple_str,
  Rs.bind_ok, Rs.out_ok, Rs.of_some, asB_bool, argS_fz, argS_ow, argS_vw, argS_br, argS_scr, keeps_fz, keeps_ow, res_fz, res_ow, allFz_nil, allFz_cons, Option.map_some, tS_if, fS_if, if_true, if_false,
  addOp_int, subOp_int, divOp_s, modOp_int, mulOp_r, mulOp_l, ltOp_int, leOp_int, gtOp_int, geOp_int, eqOp_int, neOp_int, ix_tup0, ix_tup1, len_tup, len_lst, len_vw, len_br, len_scr, abs_int, sPar, asArg, argOk,
  List.getElem?_cons_succ, List.getElem?_cons_zero, List.set_cons_succ, List.set_cons_zero, List.length_cons, List.length_nil, List.cons_append, List.nil_append, List.all_cons, List.all_nil, List.map_cons, List.map_nil,
  Bool.and_true, Bool.true_and, Bool.and_false, Bool.false_and, Bool.or_false, Bool.or_true, Bool.not_true, Bool.not_false, and_self, Nat.reduceAdd, Nat.reduceLeDiff, decide_true, decide_false, Nat.reduceSub, List.replicate_succ, List.replicate_zero, nc_0, nc_1, nc_2, nc_3, nc_4, nc_5, nc_6, nc_7, nc_8, nc_9, nc_10, nc_11, nc_12, eq_self, Int.reduceEq, Int.reduceLT, Int.reduceLE, Int.reduceNeg, Int.reduceAdd, Int.reduceSub, List.append_nil])
theorem a_ok {f : EV} {fs : Rho → Rs (List Sl)} {ρ : Rho} {s t : Sl} {ts : List Sl} (h : f ρ = .ok s) (ha : argS s = .ok t) (h' : fs ρ = .ok ts) : aCons f fs ρ = .ok (t :: ts) := by
  unfold aCons
  rw [h, Rs.bind_ok, ha, Rs.bind_ok, h']
  rfl
theorem call3 {ρ : Rho} {G : List Sl → Rs Sl} {f g k : EV} {r : Rs Sl} {s t s' t' u u' : Sl} (h : f ρ = .ok s) (ha : argS s = .ok t) (h' : g ρ = .ok s') (ha' : argS s' = .ok t') (h2 : k ρ = .ok u) (ha2 : argS u = .ok u') (hk : argOk t = true) (hk' : argOk t' = true) (hk2 : argOk u' = true) (hg : G [asArg t, asArg t', asArg u'] = r) : eCall 3 G (aCons f (aCons g (aCons k aNil))) ρ = r :=
  call_ok (a_ok h ha (a_ok h' ha' (a_ok h2 ha2 rfl))) rfl (by rw [List.all_cons, hk, List.all_cons, hk', List.all_cons, hk2]; rfl) hg
theorem call4 {ρ : Rho} {G : List Sl → Rs Sl} {f g k l : EV} {r : Rs Sl} {s t s' t' u u' v v' : Sl} (h : f ρ = .ok s) (ha : argS s = .ok t) (h' : g ρ = .ok s') (ha' : argS s' = .ok t') (h2 : k ρ = .ok u) (ha2 : argS u = .ok u') (h3 : l ρ = .ok v) (ha3 : argS v = .ok v') (hk : argOk t = true) (hk' : argOk t' = true) (hk2 : argOk u' = true) (hk3 : argOk v' = true) (hg : G [asArg t, asArg t', asArg u', asArg v'] = r) : eCall 4 G (aCons f (aCons g (aCons k (aCons l aNil)))) ρ = r :=
  call_ok (a_ok h ha (a_ok h' ha' (a_ok h2 ha2 (a_ok h3 ha3 rfl)))) rfl (by rw [List.all_cons, hk, List.all_cons, hk', List.all_cons, hk2, List.all_cons, hk3]; rfl) hg
theorem cNot_ok {c : Rho → Rs Bool} {ρ : Rho} {b : Bool} (h : c ρ = .ok b) : cNot c ρ = .ok (!b) := by
  unfold cNot
  rw [h]
  rfl
theorem and_ok {f g : EV} {ρ : Rho} {r : Rs Sl} (h : f ρ = .ok (.fz (.bool true))) (h' : g ρ = r) : eAnd f g ρ = r := by
  unfold eAnd
  rw [h, Rs.bind_ok, asB_bool, Rs.bind_ok, if_pos rfl, h']
theorem cNot_t {c : Rho → Rs Bool} {ρ : Rho} (h : c ρ = .ok true) : cNot c ρ = .ok false := cNot_ok h
theorem cNot_f {c : Rho → Rs Bool} {ρ : Rho} (h : c ρ = .ok false) : cNot c ρ = .ok true := cNot_ok h
theorem call5 {ρ : Rho} {G : List Sl → Rs Sl} {f g k l n : EV} {r : Rs Sl} {s t s' t' u u' v v' w w' : Sl} (h : f ρ = .ok s) (ha : argS s = .ok t) (h' : g ρ = .ok s') (ha' : argS s' = .ok t') (h2 : k ρ = .ok u) (ha2 : argS u = .ok u') (h3 : l ρ = .ok v) (ha3 : argS v = .ok v') (h4 : n ρ = .ok w) (ha4 : argS w = .ok w') (hk : argOk t = true) (hk' : argOk t' = true) (hk2 : argOk u' = true) (hk3 : argOk v' = true) (hk4 : argOk w' = true) (hg : G [asArg t, asArg t', asArg u', asArg v', asArg w'] = r) : eCall 5 G (aCons f (aCons g (aCons k (aCons l (aCons n aNil))))) ρ = r :=
  call_ok (a_ok h ha (a_ok h' ha' (a_ok h2 ha2 (a_ok h3 ha3 (a_ok h4 ha4 rfl))))) rfl (by rw [List.all_cons, hk, List.all_cons, hk', List.all_cons, hk2, List.all_cons, hk3, List.all_cons, hk4]; rfl) hg
theorem cOr_t {c d : Rho → Rs Bool} {ρ : Rho} (h : c ρ = .ok true) : cOr c d ρ = .ok true := by
  unfold cOr
  rw [h]
  rfl
theorem cOr_f {c d : Rho → Rs Bool} {ρ : Rho} {r : Rs Bool} (h : c ρ = .ok false) (h' : d ρ = r) : cOr c d ρ = r := by
  unfold cOr
  rw [h]
  exact h'
theorem cAnd_t {c d : Rho → Rs Bool} {ρ : Rho} {r : Rs Bool} (h : c ρ = .ok true) (h' : d ρ = r) : cAnd c d ρ = r := by
  unfold cAnd
  rw [h]
  exact h'
theorem cAnd_f {c d : Rho → Rs Bool} {ρ : Rho} (h : c ρ = .ok false) : cAnd c d ρ = .ok false := by
  unfold cAnd
  rw [h]
  rfl
theorem cIf_t {c d e : Rho → Rs Bool} {ρ : Rho} {r : Rs Bool} (h : c ρ = .ok true) (h' : d ρ = r) : cIf c d e ρ = r := by
  unfold cIf
  rw [h]
  exact h'
theorem cIf_f {c d e : Rho → Rs Bool} {ρ : Rho} {r : Rs Bool} (h : c ρ = .ok false) (h' : e ρ = r) : cIf c d e ρ = r := by
  unfold cIf
  rw [h]
  exact h'
theorem eIf_t {c : Rho → Rs Bool} {f g : EV} {ρ : Rho} {r : Rs Sl} (h : c ρ = .ok true) (h' : f ρ = r) : eIf c f g ρ = r := by
  unfold eIf
  rw [h]
  exact h'
theorem eIf_f {c : Rho → Rs Bool} {f g : EV} {ρ : Rho} {r : Rs Sl} (h : c ρ = .ok false) (h' : g ρ = r) : eIf c f g ρ = r := by
  unfold eIf
  rw [h]
  exact h'
/-! ### a cell of the script -/
theorem at_lit (ns : List Int) (k : Nat) (z : Int) (h : z = (k : Int)) : m__law_at [.scr ns, .fz (.int z)] = .ok (.fz (.int (ns.getD k 0))) := by
  subst h
  refine run_rt rfl ?_ rfl
  unfold g__law_at
  walk_at "ev"
  by_cases hk : (k : Int) < (ns.length : Int)
  · have hk' : k < ns.length := by omega
    rw [decide_eq_true hk, ix_scr (List.getElem?_eq_getElem hk')]
    walk_at "ev"
    rw [List.getD_eq_getElem?_getD, List.getElem?_eq_getElem hk']
    rfl
  · have hk' : ns.length ≤ k := by omega
    rw [decide_eq_false hk]
    walk_at "ev"
    rw [List.getD_eq_getElem?_getD, List.getElem?_eq_none hk']
    rfl
theorem at_0 (ns : List Int) : m__law_at [.scr ns, .fz (.int 0)] = .ok (.fz (.int (ns.getD 0 0))) := at_lit ns 0 0 rfl
theorem at_1 (ns : List Int) : m__law_at [.scr ns, .fz (.int 1)] = .ok (.fz (.int (ns.getD 1 0))) := at_lit ns 1 1 rfl
theorem at_2 (ns : List Int) : m__law_at [.scr ns, .fz (.int 2)] = .ok (.fz (.int (ns.getD 2 0))) := at_lit ns 2 2 rfl
theorem at_3 (ns : List Int) : m__law_at [.scr ns, .fz (.int 3)] = .ok (.fz (.int (ns.getD 3 0))) := at_lit ns 3 3 rfl
theorem at_4 (ns : List Int) : m__law_at [.scr ns, .fz (.int 4)] = .ok (.fz (.int (ns.getD 4 0))) := at_lit ns 4 4 rfl
theorem at_5 (ns : List Int) : m__law_at [.scr ns, .fz (.int 5)] = .ok (.fz (.int (ns.getD 5 0))) := at_lit ns 5 5 rfl
/-! ### trains -/
abbrev Tr := List (List Int)
abbrev stD (s : List Int) : D := .tuple (s.map PyData.int)
abbrev trD (t : Tr) : List D := t.map stD
structure GoodSt (s : List Int) : Prop where
  lo : 2 ≤ s.length
  hi : s.length ≤ 5
  all : ∀ x ∈ s, 2 ≤ x ∧ x ≤ 60
structure GoodTr (t : Tr) : Prop where
  lo : 1 ≤ t.length
  hi : t.length ≤ 3
  all : ∀ s ∈ t, GoodSt s
theorem is_wheel_ok {x : Int} (h : 2 ≤ x ∧ x ≤ 60) : m_is_wheel [.fz (.int x)] = .ok (.fz (.bool true)) := by
  refine run_rt rfl ?_ rfl
  have e : m_is_whole [.fz (.int x)] = .ok (.fz (.bool true)) := rfl
  unfold g_is_wheel
  walk_at "ev"
  rw [e]
  walk_at "ev"
  rw [decide_eq_true h.1, decide_eq_true h.2]
  walk_at "ev"
theorem all_map_true {α : Type} (xs : List α) (h : D → D) : True := trivial
theorem is_stage_ok {s : List Int} (h : GoodSt s) : m_is_stage [.fz (stD s)] = .ok (.fz (.bool true)) := by
  refine run_rt rfl ?_ rfl
  have h1 := h.lo
  have h2 := h.hi
  unfold g_is_stage
  walk_at "ev"
  rw [List.length_map, decide_eq_true (show (2 : Int) ≤ (s.length : Int) by omega)]
  walk_at "ev"
  rw [decide_eq_true (show (s.length : Int) ≤ 5 by omega)]
  walk_at "ev"
  have e : eLc [1] (iT (eV 0)) (gN 1) cYes (eCall 1 m_is_wheel (aCons (eV 1) aNil)) [.fz (stD s), .no] = .ok (.ow (s.map fun _ => PyData.bool true)) := by
    refine eLc_ok (ds := s.map PyData.int) (iT_ok rfl) (by rw [List.length_map]; omega) (lc_map s fun x hx => ⟨_, _, rfl, call1 rfl rfl rfl (is_wheel_ok (h.all x hx)), rfl⟩)
  rw [e]
  walk_at "ev"
  rw [all_fz (boolsOf_mapP (fun _ => true) s)]
  walk_at "ev"
  rw [show (s.map fun _ => true).all id = true from List.all_eq_true.mpr fun b hb => by
    obtain ⟨_, _, rfl⟩ := List.mem_map.mp hb
    rfl]
/-- as an argument: known data, or a list from outside -/
inductive IsL : Sl → List D → Prop
  | fz (ds : List D) : IsL (.fz (.list ds)) ds
  | br (ds : List D) : IsL (.br ds) ds
theorem need_train_ok {t : Tr} {a : Sl} (ha : IsL a (trD t)) (h : GoodTr t) : m_need_train [a] = .ok (.ow (trD t)) := by
  have h1 := h.lo
  have h2 := h.hi
  have body : ∀ {a : Sl} {s : List Int}, GoodSt s → g_need_train_b0 [a, .fz (stD s)] = .nx [a, .fz (stD s)] := fun {a s} hs => by
    unfold g_need_train_b0
    walk_at "ev"
    rw [is_stage_ok hs]
    walk_at "ev"
  have go : ∀ {a : Sl} {x : Sl}, ∃ x', sForL (gN 1) g_need_train_b0 (trD t) [a, x] = .nx [a, x'] := fun {a x} => by
    obtain ⟨ρ', e, x', rfl⟩ := for_fold (k := stD) (tg := gN 1) (body := g_need_train_b0) (fun (_ : Unit) ρ => ∃ x, ρ = [a, x]) (fun _ _ => ()) t () [a, x] ⟨x, rfl⟩ fun _ ρ s hs ⟨x, e⟩ => by
      subst e
      exact ⟨_, rfl, _, .inl (body (h.all s hs)), _, rfl⟩
    exact ⟨x', e⟩
  refine run_rt rfl ?_ rfl
  unfold g_need_train
  cases ha with
  | fz =>
    refine seq_nx (if_f ?_ rfl) ?_
    · walk_at "ev"
      rw [List.length_map, decide_eq_true (show (1 : Int) ≤ (t.length : Int) by omega)]
      walk_at "ev"
      rw [decide_eq_true (show (t.length : Int) ≤ 3 by omega)]
      walk_at "ev"
    · obtain ⟨x', e⟩ := go (a := .fz (.list (trD t))) (x := .no)
      refine seq_nx ((for_ok (iL_ok rfl rfl)).trans e) rfl
  | br =>
    refine seq_nx (if_f ?_ rfl) ?_
    · walk_at "ev"
      rw [List.length_map, decide_eq_true (show (1 : Int) ≤ (t.length : Int) by omega)]
      walk_at "ev"
      rw [decide_eq_true (show (t.length : Int) ≤ 3 by omega)]
      walk_at "ev"
    · obtain ⟨x', e⟩ := go (a := .br (trD t)) (x := .no)
      refine seq_nx ((for_ok (iL_ok rfl rfl)).trans e) rfl
theorem take_snoc {α : Type} {xs : List α} {i : Nat} {x : α} (h : xs[i]? = some x) : xs.take (i + 1) = xs.take i ++ [x] := by
  rw [List.take_add_one, h]
  rfl
def mix (c k : Int) : Int := ((c + 1) * 48271 + 7919 * k) * 48271 % 2147483647
theorem mixed_eq (c k : Int) : m__law_mixed [.fz (.int c), .fz (.int k)] = .ok (.fz (.int (mix c k))) := by
  refine run_rt rfl ?_ rfl
  unfold g__law_mixed mix
  walk_at "ev"
theorem mix_nn (c k : Int) : 0 ≤ mix c k := Int.emod_nonneg _ (by decide)
/-! ### the law's train -/
def lsize (c m : Int) (i : Nat) : Int := if c / 3 % 3 > 0 then 2 + mix m (97 + (i : Int)) % 4 else 2
def lstage (c m : Int) (i : Nat) : List Int := (List.range (lsize c m i).toNat).map fun (k : Nat) => 2 + mix m (11 * (i : Int) + (k : Int)) / 7 % (59 - c / 9 % 2 * 50)
def ltr (c m : Int) : Tr := (List.range (1 + c % 3).toNat).map (lstage c m)
theorem lsize_b (c m : Int) (i : Nat) : 2 ≤ lsize c m i ∧ lsize c m i ≤ 5 := by
  unfold lsize
  split <;> omega
theorem ltr_good (c m : Int) : GoodTr (ltr c m) := by
  refine ⟨?_, ?_, fun s hs => ?_⟩
  · unfold ltr
    rw [List.length_map, List.length_range]
    omega
  · unfold ltr
    rw [List.length_map, List.length_range]
    omega
  · obtain ⟨i, _, rfl⟩ := List.mem_map.mp hs
    obtain ⟨h1, h2⟩ := lsize_b c m i
    unfold lstage
    refine ⟨?_, ?_, fun x hx => ?_⟩
    · rw [List.length_map, List.length_range]
      omega
    · rw [List.length_map, List.length_range]
      omega
    · obtain ⟨k, _, rfl⟩ := List.mem_map.mp hx
      generalize mix m (11 * (i : Int) + (k : Int)) / 7 = z
      have hz : c / 9 % 2 = 0 ∨ c / 9 % 2 = 1 := by omega
      rcases hz with hz | hz <;> rw [hz]
      · omega
      · omega
theorem law_train_ok (c m : Int) : m__law_train [.fz (.int c), .fz (.int m)] = .ok (.ow (trD (ltr c m))) := by
  refine run_rt rfl ?_ rfl
  unfold g__law_train
  refine seq_nx (set_ok (sl := .ow []) rfl rfl) ?_
  have hc : 0 ≤ c % 3 ∧ c % 3 < 3 := by omega
  obtain ⟨ρ', e, hI⟩ := for_relM (k := fun (n : Nat) => PyData.int (n : Nat)) (tg := gN 3) (body := g__law_train_b0) (List.range (1 + c % 3).toNat) (fun i ρ => ∃ x y z w, ρ = [.fz (.int c), .fz (.int m), .ow (((List.range i).map (lstage c m)).map stD), x, y, z, w])
    [.fz (.int c), .fz (.int m), .ow [], .no, .no, .no, .no] ⟨_, _, _, _, rfl⟩ fun i n ρ hi hI => by
    obtain ⟨x, y, z, w, rfl⟩ := hI
    have hi' := (List.getElem?_eq_some_iff.mp hi).1
    rw [List.length_range] at hi'
    rw [List.getElem?_range hi'] at hi
    cases hi
    refine ⟨_, rfl, _, .inl ?_, .fz (.int (i : Int)), .fz (.int (lsize c m i)), .fz (.int (c / 9 % 2 * 50)), w, rfl⟩
    unfold g__law_train_b0
    refine seq_nx (setF_ok (sl := .fz (.int 2)) rfl rfl rfl) ?_
    refine seq_nx (ρ' := [.fz (.int c), .fz (.int m), .ow (((List.range i).map (lstage c m)).map stD), .fz (.int i), .fz (.int (lsize c m i)), z, w]) ?_ ?_
    · unfold lsize
      by_cases h : c / 3 % 3 > 0
      · rw [if_pos h]
        refine if_t ?_ (setF_ok (sl := .fz (.int (2 + mix m (97 + (i : Int)) % 4))) ?_ rfl rfl)
        · walk_at "ev"
          rw [decide_eq_true h]
        · walk_at "ev"
          rw [mixed_eq]
          walk_at "ev"
      · rw [if_neg h]
        refine if_f ?_ rfl
        walk_at "ev"
        rw [decide_eq_false h]
    · refine seq_nx (setF_ok (sl := .fz (.int (c / 9 % 2 * 50))) ?_ rfl rfl) ?_
      · walk_at "ev"
      · obtain ⟨s1, s2⟩ := lsize_b c m i
        refine (app_ok (ds := ((List.range i).map (lstage c m)).map stD) (s := .fz (stD (lstage c m i))) (d := stD (lstage c m i)) rfl ?_ rfl ?_).trans ?_
        · refine eCB_ok (a1_ok (s := .ow ((lstage c m i).map PyData.int)) ?_ rfl) rfl
          refine eLc_ok (ds := (List.range (lsize c m i).toNat).map fun n => PyData.int (n : Nat)) (iR1_ok (j := lsize c m i) rfl (rgOk_of (by omega) (by omega))) (by rw [List.length_map, List.length_range]; omega) ((lc_map (h := fun (k : Nat) => PyData.int (2 + mix m (11 * (i : Int) + (k : Int)) / 7 % (59 - c / 9 % 2 * 50))) (List.range (lsize c m i).toNat) fun k hk => ⟨_, .fz (.int (2 + mix m (11 * (i : Int) + (k : Int)) / 7 % (59 - c / 9 % 2 * 50))), rfl, ?_, rfl⟩).trans ?_)
          · walk_at "ev"
            rw [mixed_eq]
            walk_at "ev"
            rw [modOp_int (by omega)]
            walk_at "ev"
          · unfold lstage
            rw [List.map_map]
            rfl
        · rw [List.length_map, List.length_map, List.length_range]
          omega
        · rw [List.range_succ, List.map_append, List.map_append]
          rfl
  refine seq_nx ((for_ok ?_).trans e) ?_
  · refine iR1_ok (j := 1 + c % 3) (a1_ok (s := .fz (.int (1 + c % 3))) ?_ rfl) (rgOk_of (by omega) (by omega))
    walk_at "ev"
  · obtain ⟨x, y, z, w, rfl⟩ := hI
    rw [List.length_range]
    rfl
theorem Sh.st {n : Nat} (s : List Int) : Sh (n + 1) (stD s) := Sh.tup (Sh.ints fun _ => Sh.int)
theorem Sh.tr {n : Nat} (t : Tr) : Sh (n + 2) (.list (trD t)) := Sh.lst (Sh.maps fun s _ => Sh.st s)
/-! ### things that may be numbers -/
inductive Kd : D → Prop
  | int (i : Int) : Kd (.int i)
  | bool (b : Bool) : Kd (.bool b)
  | none : Kd .none
  | str (x : Str) : Kd (.str x)
  | list (ds : List D) : Kd (.list ds)
def wh : D → Option Int
  | .int i => some i
  | _ => Option.none
theorem is_whole_d {d : D} (h : Kd d) : m_is_whole [.fz d] = .ok (.fz (.bool (wh d).isSome)) := by
  cases h with
  | bool b => cases b <;> rfl
  | _ => rfl
theorem run_exc {n : Nat} {g : SV} {ss : List Sl} {ρ ρ' : Rho} {c : Str} (e : ss ++ List.replicate (n - ss.length) Sl.no = ρ) (h : g ρ = .exc c ρ') : runDef n g ss = .exc c := by
  unfold runDef
  rw [e, h]
theorem chain_int {f g : Op2} {a b c : EV} {ρ : Rho} {i j k : Int} {p q : Bool} (h1 : a ρ = .ok (.fz (.int i))) (h2 : b ρ = .ok (.fz (.int j))) (h3 : c ρ = .ok (.fz (.int k))) (e1 : f (.fz (.int i)) (.fz (.int j)) = some (.fz (.bool p))) (e2 : g (.fz (.int j)) (.fz (.int k)) = some (.fz (.bool q))) : eChain f g a b c ρ = .ok (.fz (.bool (p && q))) := by
  unfold eChain
  rw [h1, Rs.bind_ok, h2, Rs.bind_ok, e1]
  cases p with
  | false => rfl
  | true =>
    show (c ρ).bind (fun w => Rs.of (g (.fz (.int j)) w)) = _
    rw [h3, Rs.bind_ok, e2]
    rfl
def rng (p q : Int → Bool) (d : D) : Bool := match wh d with
  | Option.none => false
  | some i => p i && q i
/-- not a whole number, or not within bounds -/
theorem tst_ok {Wf : List Sl → Rs Sl} (hW : ∀ {d : D}, Kd d → Wf [.fz d] = .ok (.fz (.bool (wh d).isSome))) {x l u : EV} {f g : Op2} {ρ : Rho} {d : D} {lo hi : Int} {p q : Int → Bool} (kd : Kd d) (hx : x ρ = .ok (.fz d)) (hl : l ρ = .ok (.fz (.int lo))) (hu : (∃ i, d = .int i) → u ρ = .ok (.fz (.int hi)))
    (e1 : ∀ i, f (.fz (.int lo)) (.fz (.int i)) = some (.fz (.bool (p i)))) (e2 : ∀ i, g (.fz (.int i)) (.fz (.int hi)) = some (.fz (.bool (q i)))) :
    cOr (cNot (cB (eCall 1 Wf (aCons x aNil)))) (cNot (cB (eChain f g l x u))) ρ = .ok (!rng p q d) := by
  have w := call1 (G := Wf) hx rfl rfl (hW kd)
  cases kd with
  | int i => exact cOr_f (cNot_t (cB_ok w)) (cNot_ok (cB_ok (chain_int hl hx (hu ⟨i, rfl⟩) (e1 i) (e2 i))))
  | _ => exact cOr_t (cNot_f (cB_ok w))
theorem and_f {f g : EV} {ρ : Rho} (h : f ρ = .ok (.fz (.bool false))) : eAnd f g ρ = .ok (.fz (.bool false)) := by
  unfold eAnd
  rw [h]
  rfl
theorem is_wheel_d {d : D} (kd : Kd d) : m_is_wheel [.fz d] = .ok (.fz (.bool (rng (fun i => decide (2 ≤ i)) (fun i => decide (i ≤ 60)) d))) := by
  refine run_rt rfl (ret_ok ?_) rfl
  have w : eCall 1 m_is_whole (aCons (eV 0) aNil) [.fz d] = .ok (.fz (.bool (wh d).isSome)) := call1 rfl rfl (by cases kd <;> rfl) (is_whole_d kd)
  cases kd with
  | int i => exact and_ok w (chain_int rfl rfl rfl leOp_int leOp_int)
  | _ => exact and_f w
theorem lst_ok {fs : Rho → Rs (List Sl)} {ρ : Rho} {ss : List Sl} {ds : List D} (h : fs ρ = .ok ss) (e : allFz ss = some ds) (l : ds.length ≤ 1000) : eLst fs ρ = .ok (.ow ds) := by
  unfold eLst
  rw [h, Rs.bind_ok, e]
  exact if_pos l
theorem tup1 {f : EV} {ρ : Rho} {d : D} (h : f ρ = .ok (.fz d)) : eTup (aCons f aNil) ρ = .ok (.fz (.tuple [d])) := by
  unfold eTup
  rw [a1_ok h rfl]
  rfl
theorem tup2 {f g : EV} {ρ : Rho} {d e : D} (h : f ρ = .ok (.fz d)) (h' : g ρ = .ok (.fz e)) : eTup (aCons f (aCons g aNil)) ρ = .ok (.fz (.tuple [d, e])) := by
  unfold eTup
  rw [a2_ok h rfl h' rfl]
  rfl
theorem add_tt {ds es : List D} (h : ds.length + es.length ≤ 100000) : addOp (.fz (.tuple ds)) (.fz (.tuple es)) = some (.fz (.tuple (ds ++ es))) := by
  show orOp addIOp (orOp addSOp (orOp catLOp catTOp)) _ _ = _
  show b2o (decide (ds.length + es.length ≤ 100000)) _ = _
  rw [decide_eq_true h]
  rfl
theorem add_ll {x y : Sl} {ds es : List D} (hx : x.lst = some ds) (hy : y.lst = some es) (h : ds.length + es.length ≤ 100000) : addOp x y = some (.ow (ds ++ es)) := by
  have c : catLOp x y = some (.ow (ds ++ es)) := by
    unfold catLOp
    rw [hx, hy]
    show b2o (decide (ds.length + es.length ≤ 100000)) _ = _
    rw [decide_eq_true h]
    rfl
  show orOp addIOp (orOp addSOp (orOp catLOp catTOp)) x y = _
  have i : addIOp x y = none := by
    cases x with
    | fz d => cases d <;> first | rfl | cases hx
    | _ => rfl
  have s : addSOp x y = none := by
    cases x with
    | fz d => cases d <;> first | rfl | cases hx
    | _ => rfl
  unfold orOp
  rw [i, s, c]
  rfl
theorem cut_to {ds : List D} {j : Nat} (h : j ≤ ds.length) : cutD ds none (some (j : Int)) = ds.take j := by
  unfold cutD
  rw [HT.sIx_none, HT.sIx_nat, List.drop_zero, Nat.sub_zero, Nat.min_eq_left h]
theorem cut_from {ds : List D} {j : Nat} (h : j ≤ ds.length) : cutD ds (some (j : Int)) none = ds.drop j := by
  unfold cutD
  rw [HT.sIx_nat, HT.sIx_none, Nat.min_eq_left h, List.take_of_length_le (by rw [List.length_drop]; omega)]
/-! ### what raises -/
theorem drop_exc {f : EV} {ρ : Rho} {c : Str} (h : f ρ = .exc c) : sDrop f ρ = .exc c ρ := by
  unfold sDrop
  rw [h]
  rfl
theorem setF_exc {i : Nat} {f : EV} {ρ : Rho} {c : Str} (h : f ρ = .exc c) : sSetF i f ρ = .exc c ρ := by
  unfold sSetF
  rw [h]
  rfl
theorem ret_exc {f : EV} {ρ : Rho} {c : Str} (h : f ρ = .exc c) : sRet f ρ = .exc c ρ := by
  unfold sRet
  rw [h]
  rfl
theorem a_exc {f : EV} {fs : Rho → Rs (List Sl)} {ρ : Rho} {s t : Sl} {c : Str} (h : f ρ = .ok s) (ha : argS s = .ok t) (h' : fs ρ = .exc c) : aCons f fs ρ = .exc c := by
  unfold aCons
  rw [h, Rs.bind_ok, ha, Rs.bind_ok, h']
  rfl
theorem a_exc0 {f : EV} {fs : Rho → Rs (List Sl)} {ρ : Rho} {c : Str} (h : f ρ = .exc c) : aCons f fs ρ = .exc c := by
  unfold aCons
  rw [h]
  rfl
theorem call_exc {np : Nat} {G : List Sl → Rs Sl} {fs : Rho → Rs (List Sl)} {ρ : Rho} {c : Str} (h : fs ρ = .exc c) : eCall np G fs ρ = .exc c := by
  unfold eCall
  rw [h]
  rfl
abbrev bW : D → Bool := rng (fun i => decide (2 ≤ i)) (fun i => decide (i ≤ 60))
/-! ### what raises, further -/
theorem set_exc {i : Nat} {f : EV} {ρ : Rho} {c : Str} (h : f ρ = .exc c) : sSet i f ρ = .exc c ρ := by
  unfold sSet
  rw [h]
  rfl
theorem bin_exc1 {op : Op2} {a b : EV} {ρ : Rho} {c : Str} (h : a ρ = .exc c) : eBin op a b ρ = .exc c := by
  unfold eBin
  rw [h]
  rfl
theorem bin_exc2 {op : Op2} {a b : EV} {ρ : Rho} {x : Sl} {c : Str} (h : a ρ = .ok x) (h' : b ρ = .exc c) : eBin op a b ρ = .exc c := by
  unfold eBin
  rw [h, Rs.bind_ok, h']
  rfl
theorem for_exc {t : D → Rho → Option Rho} {src : Rho → Rs (List D)} {body : SV} {ρ : Rho} {c : Str} (h : src ρ = .exc c) : sFor t src body ρ = .exc c ρ := by
  unfold sFor
  rw [h]
  rfl
theorem iL_exc {f : EV} {ρ : Rho} {c : Str} (h : f ρ = .exc c) : iL f ρ = .exc c := by
  unfold iL
  rw [h]
  rfl
theorem iRev_exc {f : EV} {ρ : Rho} {c : Str} (h : f ρ = .exc c) : BV.iRev f ρ = .exc c := by
  unfold BV.iRev
  rw [h]
  rfl
theorem lc_exc {vs : List Nat} {src : Rho → Rs (List D)} {tg : D → Rho → Option Rho} {c : Rho → Rs Bool} {f : EV} {ρ : Rho} {x : Str} (h : src ρ = .exc x) : eLc vs src tg c f ρ = .exc x := by
  unfold eLc
  rw [h]
  rfl
theorem join_exc {a : Str} {fo fe : EV} {ρ : Rho} {c : Str} (h : fo ρ = .ok (.fz (.str a))) (h' : fe ρ = .exc c) : eJoin fo fe ρ = .exc c := by
  unfold eJoin
  rw [h, Rs.bind_ok]
  dsimp only
  rw [h']
  rfl
abbrev Bad (d : D) : Prop := m_need_train [.fz d] = .exc "BadTrain"
/-! ### what is none -/
theorem none_bad {d : D} (h : tyName (.fz d) ≠ some "list") (h2 : (tyName (.fz d)).isSome = true) : Bad d := by
  refine run_exc rfl (seq_exc (if_t (cOr_t (cNot_f (cB_ok ?_))) rfl))
  show (match tyName (.fz d) with | some a => Rs.ok (Sl.fz (.bool (isTab a "list"))) | none => .bad) = _
  obtain ⟨a, ha⟩ := Option.isSome_iff_exists.mp h2
  rw [ha]
  have : isTab a "list" = false := by
    unfold isTab
    rw [ha] at h
    have n1 : a ≠ "list" := fun z => h (by rw [z])
    rw [Bool.or_eq_false_iff]
    exact ⟨by simpa using n1, by simp⟩
  dsimp only
  rw [this]
abbrev BadSt (x : D) : Prop := m_is_stage [.fz x] = .ok (.fz (.bool false))
theorem st_none {x : D} (h : tyName (.fz x) ≠ some "tuple") (h2 : (tyName (.fz x)).isSome = true) : BadSt x := by
  refine run_rt rfl (seq_rt (if_t (cOr_t (cNot_f (cB_ok ?_))) rfl)) rfl
  show (match tyName (.fz x) with | some a => Rs.ok (Sl.fz (.bool (isTab a "tuple"))) | none => .bad) = _
  obtain ⟨a, ha⟩ := Option.isSome_iff_exists.mp h2
  rw [ha]
  have : isTab a "tuple" = false := by
    unfold isTab
    rw [ha] at h
    have n1 : a ≠ "tuple" := fun z => h (by rw [z])
    rw [Bool.or_eq_false_iff]
    exact ⟨by simpa using n1, by simp⟩
  dsimp only
  rw [this]
theorem st_len {ds : List D} (h : ds.length < 2 ∨ 5 < ds.length) : BadSt (.tuple ds) := by
  have len : eCB lenF (aCons (eV 0) aNil) [.fz (.tuple ds), .no] = .ok (.fz (.int (ds.length : Nat))) := eCB_ok (a1_ok rfl rfl) rfl
  have ch : eChain leOp leOp (eC (.int 2)) (eCB lenF (aCons (eV 0) aNil)) (eC (.int 5)) [.fz (.tuple ds), .no] = .ok (.fz (.bool false)) := (chain_int rfl len rfl leOp_int leOp_int).trans (by
    rcases h with h | h
    · rw [decide_eq_false (show ¬ (2 : Int) ≤ (ds.length : Nat) by omega)]; rfl
    · rw [decide_eq_false (show ¬ ((ds.length : Nat) : Int) ≤ 5 by omega), Bool.and_false])
  exact run_rt rfl (seq_rt (if_t (cOr_f (cNot_t (cB_ok rfl)) (cNot_f (cB_ok ch))) rfl)) rfl
theorem st_odd {ds : List D} (h2 : 2 ≤ ds.length) (h5 : ds.length ≤ 5) (kd : ∀ d ∈ ds, Kd d) {o : D} (ho : o ∈ ds) (no : bW o = false) : BadSt (.tuple ds) := by
  have len : eCB lenF (aCons (eV 0) aNil) [.fz (.tuple ds), .no] = .ok (.fz (.int (ds.length : Nat))) := eCB_ok (a1_ok rfl rfl) rfl
  have ch : eChain leOp leOp (eC (.int 2)) (eCB lenF (aCons (eV 0) aNil)) (eC (.int 5)) [.fz (.tuple ds), .no] = .ok (.fz (.bool true)) := (chain_int rfl len rfl leOp_int leOp_int).trans (by
    rw [decide_eq_true (show (2 : Int) ≤ (ds.length : Nat) by omega), decide_eq_true (show ((ds.length : Nat) : Int) ≤ 5 by omega)]; rfl)
  have lc : eLc [1] (iT (eV 0)) (gN 1) cYes (eCall 1 m_is_wheel (aCons (eV 1) aNil)) [.fz (.tuple ds), .no] = .ok (.ow (ds.map fun d => PyData.bool (bW d))) := by
    have := lc_map (k := fun d : D => d) (h := fun d => PyData.bool (bW d)) (tg := gN 1) (f := eCall 1 m_is_wheel (aCons (eV 1) aNil)) (ρ := [.fz (.tuple ds), .no]) ds fun d hd => ⟨[.fz (.tuple ds), .fz d], .fz (.bool (bW d)), rfl, call1 (s := .fz d) (t := .fz d) rfl rfl rfl (is_wheel_d (kd d hd)), rfl⟩
    rw [List.map_id'] at this
    exact eLc_ok (ds := ds) (iT_ok rfl) (by omega) this
  refine run_rt rfl (seq_nx (if_f (cOr_f (cNot_t (cB_ok rfl)) (cNot_t (cB_ok ch))) rfl) (ret_ok ((eCB_ok (a1_ok lc rfl) (all_fz (boolsOf_mapP bW ds))).trans ?_))) rfl
  rw [show (ds.map bW).all id = false from List.all_eq_false.mpr ⟨false, List.mem_map.mpr ⟨o, ho, no⟩, by decide⟩]
theorem train_bad {pre : Tr} {x : D} {post : List D} (hp : ∀ s ∈ pre, GoodSt s) (hx : BadSt x) (l : (trD pre ++ x :: post).length ≤ 3) : Bad (.list (trD pre ++ x :: post)) := by
  have len : eCB lenF (aCons (eV 0) aNil) [.fz (.list (trD pre ++ x :: post)), .no] = .ok (.fz (.int ((trD pre ++ x :: post).length : Nat))) := eCB_ok (a1_ok rfl rfl) rfl
  have l1 : 1 ≤ (trD pre ++ x :: post).length := by rw [List.length_append, List.length_cons]; omega
  have ch : eChain leOp leOp (eC (.int 1)) (eCB lenF (aCons (eV 0) aNil)) (eC (.int 3)) [.fz (.list (trD pre ++ x :: post)), .no] = .ok (.fz (.bool true)) := (chain_int rfl len rfl leOp_int leOp_int).trans (by
    rw [decide_eq_true (show (1 : Int) ≤ ((trD pre ++ x :: post).length : Nat) by omega), decide_eq_true (show (((trD pre ++ x :: post).length : Nat) : Int) ≤ 3 by omega)]; rfl)
  have loop : ∀ (pre : Tr), (∀ s ∈ pre, GoodSt s) → ∀ a y : Sl, ∃ ρ', sForL (gN 1) g_need_train_b0 (trD pre ++ x :: post) [a, y] = .exc "BadTrain" ρ' := fun pre => by
    induction pre with
    | nil =>
      intro _ a y
      show ∃ ρ', sForL (gN 1) g_need_train_b0 (x :: post) [a, y] = _
      rw [sForL_cons (ρ1 := [a, .fz x]) rfl]
      have : g_need_train_b0 [a, .fz x] = .exc "BadTrain" [a, .fz x] := if_t (cNot_f (cB_ok (call1 (s := .fz x) (t := .fz x) rfl rfl rfl hx))) rfl
      rw [this]
      exact ⟨_, rfl⟩
    | cons s pre ih =>
      intro hp a y
      show ∃ ρ', sForL (gN 1) g_need_train_b0 (stD s :: (trD pre ++ x :: post)) [a, y] = _
      rw [sForL_cons (ρ1 := [a, .fz (stD s)]) rfl]
      have : g_need_train_b0 [a, .fz (stD s)] = .nx [a, .fz (stD s)] := if_f (cNot_t (cB_ok (call1 (s := .fz (stD s)) (t := .fz (stD s)) rfl rfl rfl (is_stage_ok (hp s (List.mem_cons_self ..)))))) rfl
      rw [this, turned_nx]
      exact ih (fun s hs => hp s (List.mem_cons_of_mem _ hs)) a _
  obtain ⟨ρ', e⟩ := loop pre hp (.fz (.list (trD pre ++ x :: post))) .no
  exact run_exc rfl (seq_nx (if_f (cOr_f (cNot_t (cB_ok rfl)) (cNot_t (cB_ok ch))) rfl) (seq_exc ((for_ok (iL_ok rfl rfl)).trans e)))
theorem list_len_bad {ds : List D} (h : ds.length < 1 ∨ 3 < ds.length) : Bad (.list ds) := by
  have len : eCB lenF (aCons (eV 0) aNil) [.fz (.list ds), .no] = .ok (.fz (.int (ds.length : Nat))) := eCB_ok (a1_ok rfl rfl) rfl
  have ch : eChain leOp leOp (eC (.int 1)) (eCB lenF (aCons (eV 0) aNil)) (eC (.int 3)) [.fz (.list ds), .no] = .ok (.fz (.bool false)) := (chain_int rfl len rfl leOp_int leOp_int).trans (by
    rcases h with h | h
    · rw [decide_eq_false (show ¬ (1 : Int) ≤ (ds.length : Nat) by omega)]; rfl
    · rw [decide_eq_false (show ¬ ((ds.length : Nat) : Int) ≤ 3 by omega), Bool.and_false])
  exact run_exc rfl (seq_exc (if_t (cOr_f (cNot_t (cB_ok rfl)) (cNot_f (cB_ok ch))) rfl))
/-! ### words of figures -/
def wv (w : Str) : Option Int := match w.cps.toList with
  | [a] => if 49 ≤ a ∧ a ≤ 57 then some ((a : Int) - 48) else none
  | [a, b] => if (49 ≤ a ∧ a ≤ 57) ∧ 48 ≤ b ∧ b ≤ 57 then some (10 * ((a : Int) - 48) + ((b : Int) - 48)) else none
  | _ => none
theorem figs : ("0123456789" : Str).cps.toList = [48, 49, 50, 51, 52, 53, 54, 55, 56, 57] := by decide +kernel
theorem mem_figs (c : Nat) : c ∈ ("0123456789" : Str).cps.toList ↔ 48 ≤ c ∧ c ≤ 57 := by
  rw [figs]
  simp only [List.mem_cons, List.not_mem_nil, or_false]
  omega
theorem int1 : ∀ a ∈ List.range' 49 9, intText? ⟨#[a]⟩ = some ((a : Int) - 48) := by decide +kernel
theorem int2 : ∀ a ∈ List.range' 49 9, ∀ b ∈ List.range' 48 10, intText? ⟨#[a, b]⟩ = some (10 * ((a : Int) - 48) + ((b : Int) - 48)) := by decide +kernel
theorem str1 : ∀ a ∈ List.range' 49 9, Str.ofString (toString ((a : Int) - 48)) = ⟨#[a]⟩ := by decide +kernel
theorem str2 : ∀ a ∈ List.range' 49 9, ∀ b ∈ List.range' 48 10, Str.ofString (toString (10 * ((a : Int) - 48) + ((b : Int) - 48))) = ⟨#[a, b]⟩ := by decide +kernel
theorem len_str {w : Str} {s : Sl} (h : w.length ≤ 100000) : eCB lenF (aCons (eV 0) aNil) [.fz (.str w), s] = .ok (.fz (.int (w.length : Nat))) := eCB_ok (a1_ok rfl rfl) (by
  show b2o (decide (w.length ≤ 100000)) _ = _
  rw [decide_eq_true h]
  rfl)
theorem ix_str {w : Str} (h : w.length ≤ 100000) {n : Nat} {c : Nat} (e : w.cps.toList[n]? = some c) {z : Int} (hz : z = (n : Int)) : ixOp (.fz (.str w)) (.fz (.int z)) = some (.fz (.str ⟨#[c]⟩)) := by
  subst hz
  have hl := (List.getElem?_eq_some_iff.mp e).1
  show (if w.length ≤ 100000 then (atI w.cps.toList (n : Int)).map (fun c => Sl.fz (.str ⟨#[c]⟩)) else none) = _
  rw [if_pos h]
  have : atI w.cps.toList (n : Int) = some c := by
    unfold atI ixN
    rw [if_pos (by omega), if_pos (by omega)]
    show w.cps.toList[(n : Int).toNat]? = some c
    rw [show (n : Int).toNat = n from rfl]
    exact e
  rw [this]
  rfl
theorem sign_eq (a b : Nat) : decide ((⟨#[a]⟩ : Str) = ⟨#[b]⟩) = decide (a = b) := decide_eq_decide.mpr ⟨fun z => by
  injection z with z
  have := congrArg Array.toList z
  simpa using this, fun z => by rw [z]⟩
theorem fig_in {s0 : Sl} {c : Nat} (h : 48 ≤ c ∧ c ≤ 57) : g_wheel_of_b0 [s0, .fz (.str ⟨#[c]⟩)] = .nx [s0, .fz (.str ⟨#[c]⟩)] := if_f (cB_ok (bin_ok rfl rfl (z := .fz (.bool false)) (by
  show some (Sl.fz (.bool (!decide (c ∈ ("0123456789" : Str).cps.toList)))) = _
  rw [decide_eq_true ((mem_figs c).mpr h)]
  rfl))) rfl
theorem fig_out {s0 : Sl} {c : Nat} (h : ¬ (48 ≤ c ∧ c ≤ 57)) : g_wheel_of_b0 [s0, .fz (.str ⟨#[c]⟩)] = .exc "NoText" [s0, .fz (.str ⟨#[c]⟩)] := if_t (cB_ok (bin_ok rfl rfl (z := .fz (.bool true)) (by
  show some (Sl.fz (.bool (!decide (c ∈ ("0123456789" : Str).cps.toList)))) = _
  rw [decide_eq_false (fun z => h ((mem_figs c).mp z))]
  rfl))) rfl
theorem wheel_len {w : Str} (h : w.length ≤ 100000) (n : ¬ (1 ≤ w.length ∧ w.length ≤ 2)) : m_wheel_of [.fz (.str w)] = .exc "NoText" := run_exc rfl (seq_exc (if_t (cOr_t (cNot_f (cB_ok ((chain_int rfl (len_str h) rfl leOp_int leOp_int).trans (by
  by_cases h1 : 1 ≤ w.length
  · rw [decide_eq_true (show (1 : Int) ≤ (w.length : Nat) by omega), decide_eq_false (show ¬ ((w.length : Nat) : Int) ≤ 2 by omega)]; rfl
  · rw [decide_eq_false (show ¬ (1 : Int) ≤ (w.length : Nat) by omega)]; rfl))))) rfl))
theorem wheel_ch {w : Str} (h : w.length ≤ 100000) (n : 1 ≤ w.length ∧ w.length ≤ 2) : cNot (cB (eChain leOp leOp (eC (.int 1)) (eCB lenF (aCons (eV 0) aNil)) (eC (.int 2)))) [.fz (.str w), .no] = .ok false := cNot_t (cB_ok ((chain_int rfl (len_str h) rfl leOp_int leOp_int).trans (by
  rw [decide_eq_true (show (1 : Int) ≤ (w.length : Nat) by omega), decide_eq_true (show ((w.length : Nat) : Int) ≤ 2 by omega)]; rfl)))
theorem wheel_first {w : Str} (h : w.length ≤ 100000) {a : Nat} {r : List Nat} (e : w.cps.toList = a :: r) : cB (eBin eqSOp (eBin ixOp (eV 0) (eC (.int 0))) (eC (.str "0"))) [.fz (.str w), .no] = .ok (decide (a = 48)) := cB_ok (bin_ok (bin_ok rfl rfl (ix_str h (n := 0) (c := a) (by rw [e]; rfl) rfl)) rfl (by
  show some (Sl.fz (.bool (decide ((⟨#[a]⟩ : Str) = ("0" : Str))))) = _
  rw [show ("0" : Str) = ⟨#[48]⟩ from by decide +kernel, sign_eq]))
theorem wheel_go {w : Str} (h : w.length ≤ 100000) (n : 1 ≤ w.length ∧ w.length ≤ 2) {a : Nat} {r : List Nat} (e : w.cps.toList = a :: r) (h48 : a ≠ 48) {o : Out} (hf : sSeq (sFor (gN 1) (iS (eV 0)) g_wheel_of_b0) (sRet (eCB intSF (aCons (eV 0) aNil))) [.fz (.str w), .no] = o) : g_wheel_of [.fz (.str w), .no] = o :=
  seq_nx (if_f (cOr_f (wheel_ch h n) ((wheel_first h e).trans (by rw [decide_eq_false h48]))) rfl) hf
theorem wheel_for {w : Str} : sFor (gN 1) (iS (eV 0)) g_wheel_of_b0 [.fz (.str w), .no] = sForL (gN 1) g_wheel_of_b0 (signsD w) [.fz (.str w), .no] := for_ok rfl
theorem wheel_of_eq {w : Str} (h : w.length ≤ 100000) : m_wheel_of [.fz (.str w)] = match wv w with | some n => .ok (.fz (.int n)) | none => .exc "NoText" := by
  obtain ⟨⟨l⟩⟩ := w
  have el : (⟨⟨l⟩⟩ : Str).length = l.length := rfl
  match l, h, el with
  | [], h, el => exact wheel_len h (by rw [el]; simp)
  | a :: b :: c :: r, h, el => exact wheel_len h (by rw [el]; simp)
  | [a], h, el =>
    by_cases h48 : a = 48
    · have : wv ⟨⟨[a]⟩⟩ = none := by
        show (if 49 ≤ a ∧ a ≤ 57 then _ else none) = _
        rw [if_neg (by omega)]
      rw [this]
      exact run_exc rfl (seq_exc (if_t (cOr_f (wheel_ch h (by rw [el]; simp)) ((wheel_first h rfl).trans (by rw [decide_eq_true h48]))) rfl))
    · by_cases ha : 48 ≤ a ∧ a ≤ 57
      · have w1 : wv ⟨⟨[a]⟩⟩ = some ((a : Int) - 48) := by
          show (if 49 ≤ a ∧ a ≤ 57 then _ else none) = _
          rw [if_pos (by omega)]
        rw [w1]
        refine run_rt rfl (wheel_go h (by rw [el]; simp) rfl h48 (seq_nx (ρ' := [.fz (.str ⟨⟨[a]⟩⟩), .fz (.str ⟨#[a]⟩)]) (wheel_for.trans ?_) (ret_ok (eCB_ok (a1_ok rfl rfl) ?_)))) rfl
        · show sForL (gN 1) g_wheel_of_b0 [.str ⟨#[a]⟩] _ = _
          rw [sForL_cons (ρ1 := [.fz (.str ⟨⟨[a]⟩⟩), .fz (.str ⟨#[a]⟩)]) rfl, fig_in ha]
          rfl
        · show (if (⟨⟨[a]⟩⟩ : Str).length ≤ 640 then (intText? ⟨#[a]⟩).map _ else none) = _
          rw [if_pos (by rw [el]; simp), int1 a (by simp [List.mem_range'_1]; omega)]
          rfl
      · have w1 : wv ⟨⟨[a]⟩⟩ = none := by
          show (if 49 ≤ a ∧ a ≤ 57 then _ else none) = _
          rw [if_neg (by omega)]
        rw [w1]
        refine run_exc rfl (wheel_go (o := .exc "NoText" [.fz (.str ⟨⟨[a]⟩⟩), .fz (.str ⟨#[a]⟩)]) h (by rw [el]; simp) rfl h48 (seq_exc (wheel_for.trans ?_)))
        show sForL (gN 1) g_wheel_of_b0 [.str ⟨#[a]⟩] _ = _
        rw [sForL_cons (ρ1 := [.fz (.str ⟨⟨[a]⟩⟩), .fz (.str ⟨#[a]⟩)]) rfl, fig_out ha]
        rfl
  | [a, b], h, el =>
    have wn : ¬ ((49 ≤ a ∧ a ≤ 57) ∧ 48 ≤ b ∧ b ≤ 57) → wv ⟨⟨[a, b]⟩⟩ = none := fun z => by
      show (if (49 ≤ a ∧ a ≤ 57) ∧ 48 ≤ b ∧ b ≤ 57 then _ else none) = _
      rw [if_neg z]
    by_cases h48 : a = 48
    · rw [wn (by omega)]
      exact run_exc rfl (seq_exc (if_t (cOr_f (wheel_ch h (by rw [el]; simp)) ((wheel_first h rfl).trans (by rw [decide_eq_true h48]))) rfl))
    · by_cases ha : 48 ≤ a ∧ a ≤ 57
      · by_cases hb : 48 ≤ b ∧ b ≤ 57
        · have w1 : wv ⟨⟨[a, b]⟩⟩ = some (10 * ((a : Int) - 48) + ((b : Int) - 48)) := by
            show (if (49 ≤ a ∧ a ≤ 57) ∧ 48 ≤ b ∧ b ≤ 57 then _ else none) = _
            rw [if_pos (by omega)]
          rw [w1]
          refine run_rt rfl (wheel_go h (by rw [el]; simp) rfl h48 (seq_nx (ρ' := [.fz (.str ⟨⟨[a, b]⟩⟩), .fz (.str ⟨#[b]⟩)]) (wheel_for.trans ?_) (ret_ok (eCB_ok (a1_ok rfl rfl) ?_)))) rfl
          · show sForL (gN 1) g_wheel_of_b0 [.str ⟨#[a]⟩, .str ⟨#[b]⟩] _ = _
            rw [sForL_cons (ρ1 := [.fz (.str ⟨⟨[a, b]⟩⟩), .fz (.str ⟨#[a]⟩)]) rfl, fig_in ha, turned_nx, sForL_cons (ρ1 := [.fz (.str ⟨⟨[a, b]⟩⟩), .fz (.str ⟨#[b]⟩)]) rfl, fig_in hb]
            rfl
          · show (if (⟨⟨[a, b]⟩⟩ : Str).length ≤ 640 then (intText? ⟨#[a, b]⟩).map _ else none) = _
            rw [if_pos (by rw [el]; simp), int2 a (by simp [List.mem_range'_1]; omega) b (by simp [List.mem_range'_1]; omega)]
            rfl
        · rw [wn (by omega)]
          refine run_exc rfl (wheel_go (o := .exc "NoText" [.fz (.str ⟨⟨[a, b]⟩⟩), .fz (.str ⟨#[b]⟩)]) h (by rw [el]; simp) rfl h48 (seq_exc (wheel_for.trans ?_)))
          show sForL (gN 1) g_wheel_of_b0 [.str ⟨#[a]⟩, .str ⟨#[b]⟩] _ = _
          rw [sForL_cons (ρ1 := [.fz (.str ⟨⟨[a, b]⟩⟩), .fz (.str ⟨#[a]⟩)]) rfl, fig_in ha, turned_nx, sForL_cons (ρ1 := [.fz (.str ⟨⟨[a, b]⟩⟩), .fz (.str ⟨#[b]⟩)]) rfl, fig_out hb]
          rfl
      · rw [wn (by omega)]
        refine run_exc rfl (wheel_go (o := .exc "NoText" [.fz (.str ⟨⟨[a, b]⟩⟩), .fz (.str ⟨#[a]⟩)]) h (by rw [el]; simp) rfl h48 (seq_exc (wheel_for.trans ?_)))
        show sForL (gN 1) g_wheel_of_b0 [.str ⟨#[a]⟩, .str ⟨#[b]⟩] _ = _
        rw [sForL_cons (ρ1 := [.fz (.str ⟨⟨[a, b]⟩⟩), .fz (.str ⟨#[a]⟩)]) rfl, fig_out ha]
        rfl
/-- the law's own look at a word -/
def lw (w : Str) : Int := match wv w with
  | some n => if 2 ≤ n ∧ n ≤ 60 then n else 0
  | none => 0
theorem wv_str {w : Str} {n : Int} (h : wv w = some n) : Str.ofString (toString n) = w := by
  obtain ⟨⟨l⟩⟩ := w
  match l, h with
  | [], h => cases h
  | a :: b :: c :: r, h => cases h
  | [a], h =>
    have h : (if 49 ≤ a ∧ a ≤ 57 then some ((a : Int) - 48) else none) = some n := h
    split at h
    · rename_i c
      cases h
      exact str1 a (by simp [List.mem_range'_1]; omega)
    · cases h
  | [a, b], h =>
    have h : (if (49 ≤ a ∧ a ≤ 57) ∧ 48 ≤ b ∧ b ≤ 57 then some (10 * ((a : Int) - 48) + ((b : Int) - 48)) else none) = some n := h
    split at h
    · rename_i c
      cases h
      exact str2 a (by simp [List.mem_range'_1]; omega) b (by simp [List.mem_range'_1]; omega)
    · cases h
theorem wv_of {n : Int} (h : 2 ≤ n ∧ n ≤ 60) : wv (Str.ofString (toString n)) = some n := by
  by_cases h9 : n ≤ 9
  · obtain ⟨a, rfl, ha⟩ : ∃ a : Nat, n = (a : Int) - 48 ∧ 49 ≤ a ∧ a ≤ 57 := ⟨(n + 48).toNat, by omega, by omega, by omega⟩
    rw [str1 a (by simp [List.mem_range'_1]; omega)]
    show (if 49 ≤ a ∧ a ≤ 57 then _ else none) = _
    rw [if_pos ha]
  · obtain ⟨a, b, rfl, ha, hb⟩ : ∃ a b : Nat, n = 10 * ((a : Int) - 48) + ((b : Int) - 48) ∧ (49 ≤ a ∧ a ≤ 57) ∧ 48 ≤ b ∧ b ≤ 57 := ⟨(n / 10 + 48).toNat, (n % 10 + 48).toNat, by omega, by omega, by omega⟩
    rw [str2 a (by simp [List.mem_range'_1]; omega) b (by simp [List.mem_range'_1]; omega)]
    show (if (49 ≤ a ∧ a ≤ 57) ∧ 48 ≤ b ∧ b ≤ 57 then _ else none) = _
    rw [if_pos ⟨ha, hb⟩]
theorem law_wheel_eq (w : Str) : m__law_wheel [.fz (.str w)] = .ok (.fz (.int (lw w))) := by
  have src : iR2 (aCons (eC (.int 2)) (aCons (eC (.int 61)) aNil)) [.fz (.str w), .no] = .ok ((List.range 59).map fun n => PyData.int (2 + (n : Nat))) := iR2_ok (i := 2) (j := 61) (a2_ok rfl rfl rfl rfl) rfl rfl
  have F := for_find (k := fun (n : Nat) => PyData.int (2 + (n : Nat))) (tg := gN 1) (body := g__law_wheel_b0) (p := fun n => decide (w = Str.ofString (toString (2 + (n : Nat) : Int)))) (r := fun n => .fz (.int (2 + (n : Nat)))) (fun ρ => ∃ s, ρ = [.fz (.str w), s]) (List.range 59) [.fz (.str w), .no] ⟨_, rfl⟩ fun ρ n hn hI => by
    obtain ⟨s, rfl⟩ := hI
    have hn' : n < 59 := by simpa using hn
    have lg : (2 + (n : Int)).natAbs.log2 < 1920 := by
      have : (2 + (n : Int)).natAbs.log2 < 70 := (Nat.log2_lt (by omega)).mpr (by omega)
      omega
    have t : cB (eBin eqSOp (eV 0) (eCB strIF (aCons (eV 1) aNil))) [.fz (.str w), .fz (.int (2 + (n : Nat)))] = .ok (decide (w = Str.ofString (toString (2 + (n : Nat) : Int)))) := cB_ok (bin_ok rfl (eCB_ok (s := .fz (.str (Str.ofString (toString (2 + (n : Nat) : Int))))) (a1_ok rfl rfl) (if_pos lg)) rfl)
    refine ⟨[.fz (.str w), .fz (.int (2 + (n : Nat)))], rfl, fun hp => if_t (t.trans (by rw [hp])) rfl, fun hp => ⟨_, .inl (if_f (t.trans (by rw [hp])) rfl), _, rfl⟩⟩
  cases e : (List.range 59).find? (fun n => decide (w = Str.ofString (toString (2 + (n : Nat) : Int)))) with
  | some n =>
    rw [e] at F
    have hn : n < 59 := by simpa using List.mem_of_find?_eq_some e
    have hp0 := List.find?_some e
    have hp : w = Str.ofString (toString (2 + (n : Nat) : Int)) := of_decide_eq_true hp0
    have : lw w = 2 + (n : Nat) := by
      unfold lw
      rw [hp, wv_of (by omega)]
      exact if_pos (by omega)
    rw [this]
    exact run_rt rfl (seq_rt ((for_ok src).trans F)) rfl
  | none =>
    rw [e] at F
    obtain ⟨ρ', F, s, rfl⟩ := F
    have : lw w = 0 := by
      unfold lw
      cases ew : wv w with
      | none => rfl
      | some m =>
        refine if_neg fun c => ?_
        have := List.find?_eq_none.mp e (m - 2).toNat (by simp; omega)
        refine this (decide_eq_true ?_)
        rw [show (2 + ((m - 2).toNat : Nat) : Int) = m by omega]
        exact (wv_str ew).symm
    rw [this]
    exact run_rt rfl (seq_nx ((for_ok src).trans F) rfl) rfl
/-! ### all of a list -/
def allV {α β : Type} (v : α → Option β) : List α → Option (List β)
  | [] => some []
  | a :: l => match v a with
    | none => none
    | some b => match allV v l with
      | none => none
      | some bs => some (b :: bs)
theorem allV_len {α β : Type} {v : α → Option β} : ∀ {xs : List α} {bs : List β}, allV v xs = some bs → bs.length = xs.length
  | [], _, h => by cases h; rfl
  | a :: l, bs, h => by
    unfold allV at h
    cases ea : v a with
    | none => rw [ea] at h; cases h
    | some b =>
      rw [ea] at h
      cases el : allV v l with
      | none => rw [el] at h; cases h
      | some r =>
        rw [el] at h
        cases h
        rw [List.length_cons, List.length_cons, allV_len el]
theorem lcE_all {α β : Type} {k : α → D} {h : β → D} {v : α → Option β} {f : EV} {tg : D → Rho → Option Rho} {ρ : Rho} {c : Str} : ∀ xs : List α,
    (∀ x, x ∈ xs → ∃ ρ1, tg (k x) ρ = some ρ1 ∧ (∀ b, v x = some b → ∃ s, f ρ1 = .ok s ∧ argS s = .ok (.fz (h b))) ∧ (v x = none → f ρ1 = .exc c)) →
    lcL tg cYes f ρ (xs.map k) = match allV v xs with
      | some bs => .ok (bs.map h)
      | none => .exc c
  | [], _ => rfl
  | x :: xs, H => by
    obtain ⟨ρ1, e1, h1, h2⟩ := H x (List.mem_cons_self ..)
    have ih := lcE_all (k := k) (h := h) (v := v) (f := f) (tg := tg) (ρ := ρ) (c := c) xs fun y hy => H y (List.mem_cons_of_mem _ hy)
    rw [List.map_cons]
    unfold lcL allV
    rw [e1]
    dsimp only
    show (f ρ1).bind _ = _
    cases ev : v x with
    | none => rw [h2 ev]; rfl
    | some b =>
      obtain ⟨s, e2, e3⟩ := h1 b ev
      rw [e2, Rs.bind_ok, e3, Rs.bind_ok]
      dsimp only
      rw [ih]
      cases allV v xs with
      | none => rfl
      | some bs => rfl
theorem eLcE_eq {vs : List Nat} {src : Rho → Rs (List D)} {tg : D → Rho → Option Rho} {f : EV} {ρ : Rho} {ds : List D} {r : Rs (List D)} (hs : src ρ = .ok ds) (hl : ds.length ≤ 50000) (h : lcL tg cYes f (wipeR ρ vs) ds = r) : eLcE vs src tg f ρ = r.bind fun es => .ok (.ow es) := by
  unfold eLcE
  rw [hs, Rs.bind_ok, if_pos hl, h]
theorem split_ok {fo fe : EV} {ρ : Rho} {a b : Str} (h : fo ρ = .ok (.fz (.str a))) (h' : fe ρ = .ok (.fz (.str b))) (hb : (b.length == 0) = false) (ha : a.length ≤ 90000) : eSplit fo fe ρ = .ok (.ow ((Txt.split a b).map PyData.str)) := by
  unfold eSplit
  rw [h, Rs.bind_ok]
  dsimp only
  rw [h', Rs.bind_ok]
  show Rs.of (if (b.length == 0) = false ∧ a.length ≤ 90000 then _ else none) = _
  rw [if_pos ⟨hb, ha⟩]
  rfl
/-! ### read -/
def partV (p : Str) : Option (List Int) := allV wv (Txt.split p ":")
theorem tupF_exc {F : List Sl → Option Sl} {f : EV} {ρ : Rho} {c : Str} (h : f ρ = .exc c) : eCB F (aCons f aNil) ρ = .exc c := by
  unfold eCB
  rw [a_exc0 h]
  rfl
theorem read_part {p : Str} (h : p.length ≤ 1000) {s0 s1 s2 : Sl} : eCB tupF (aCons (eLcE [2] (iL (eSplit (eV 3) (eC (.str ":")))) (gN 2) (eCall 1 m_wheel_of (aCons (eV 2) aNil))) aNil) [s0, s1, s2, .fz (.str p)] = match partV p with
    | some ns => .ok (.fz (stD ns))
    | none => .exc "NoText" := by
  have sp := PyProof.Rows.split_le p (":" : Str)
  have lc := lcE_all (k := PyData.str) (h := PyData.int) (v := wv) (f := eCall 1 m_wheel_of (aCons (eV 2) aNil)) (tg := gN 2) (ρ := [s0, s1, .no, .fz (.str p)]) (c := "NoText") (Txt.split p ":") fun w hw => by
    have hl := PyProof.Rows.part_short hw
    have e := wheel_of_eq (w := w) (by omega)
    refine ⟨[s0, s1, .fz (.str w), .fz (.str p)], rfl, fun n hn => ⟨.fz (.int n), call1 (s := .fz (.str w)) (t := .fz (.str w)) rfl rfl rfl (e.trans (by rw [hn])), rfl⟩, fun hn => call1 (s := .fz (.str w)) (t := .fz (.str w)) rfl rfl rfl (e.trans (by rw [hn]))⟩
  have E := eLcE_eq (vs := [2]) (src := iL (eSplit (eV 3) (eC (.str ":")))) (ρ := [s0, s1, s2, .fz (.str p)]) (iL_ok (split_ok (a := p) (b := ":") rfl rfl (by decide +kernel) (by omega)) rfl) (by rw [List.length_map]; omega) lc
  unfold partV
  cases ea : allV wv (Txt.split p ":") with
  | none =>
    rw [ea] at E
    exact tupF_exc E
  | some ns =>
    rw [ea] at E
    exact eCB_ok (a1_ok (s := .ow (ns.map PyData.int)) E rfl) rfl
theorem read_train {x : Str} (h : x.length ≤ 1000) : sSetF 1 (eLcE [3] (iL (eSplit (eV 0) (eC (.str " ")))) (gN 3) (eCB tupF (aCons (eLcE [2] (iL (eSplit (eV 3) (eC (.str ":")))) (gN 2) (eCall 1 m_wheel_of (aCons (eV 2) aNil))) aNil))) [.fz (.str x), .no, .no, .no] = match allV partV (Txt.split x " ") with
    | some t => .nx [.fz (.str x), .fz (.list (trD t)), .no, .no]
    | none => .exc "NoText" [.fz (.str x), .no, .no, .no] := by
  have sp := PyProof.Rows.split_le x (" " : Str)
  have lc := lcE_all (k := PyData.str) (h := stD) (v := partV) (f := eCB tupF (aCons (eLcE [2] (iL (eSplit (eV 3) (eC (.str ":")))) (gN 2) (eCall 1 m_wheel_of (aCons (eV 2) aNil))) aNil)) (tg := gN 3) (ρ := [.fz (.str x), .no, .no, .no]) (c := "NoText") (Txt.split x " ") fun p hp => by
    have hl := PyProof.Rows.part_short hp
    have e := read_part (p := p) (s0 := .fz (.str x)) (s1 := .no) (s2 := .no) (by omega)
    exact ⟨[.fz (.str x), .no, .no, .fz (.str p)], rfl, fun n hn => ⟨.fz (stD n), e.trans (by rw [hn]), rfl⟩, fun hn => e.trans (by rw [hn])⟩
  have E := eLcE_eq (vs := [3]) (src := iL (eSplit (eV 0) (eC (.str " ")))) (ρ := [.fz (.str x), .no, .no, .no]) (iL_ok (split_ok (a := x) (b := " ") rfl rfl (by decide +kernel) (by omega)) rfl) (by rw [List.length_map]; omega) lc
  cases ea : allV partV (Txt.split x " ") with
  | none =>
    rw [ea] at E
    exact setF_exc E
  | some ns =>
    rw [ea] at E
    exact setF_ok (sl := .ow (trD ns)) E rfl rfl
/-! ### which trains are good -/
def okW (x : Int) : Bool := decide (2 ≤ x) && decide (x ≤ 60)
def goodB (s : List Int) : Bool := decide (2 ≤ s.length) && decide (s.length ≤ 5) && s.all okW
theorem okW_iff {x : Int} : okW x = true ↔ 2 ≤ x ∧ x ≤ 60 := by
  unfold okW
  rw [Bool.and_eq_true, decide_eq_true_iff, decide_eq_true_iff]
theorem goodB_iff {s : List Int} : goodB s = true ↔ GoodSt s := by
  unfold goodB
  rw [Bool.and_eq_true, Bool.and_eq_true, decide_eq_true_iff, decide_eq_true_iff, List.all_eq_true]
  exact ⟨fun h => ⟨h.1.1, h.1.2, fun x hx => okW_iff.mp (h.2 x hx)⟩, fun h => ⟨⟨h.lo, h.hi⟩, fun x hx => okW_iff.mpr (h.all x hx)⟩⟩
theorem bad_stage {s : List Int} (h : goodB s = false) : BadSt (stD s) := by
  by_cases hl : s.length < 2 ∨ 5 < s.length
  · exact st_len (by rw [List.length_map]; exact hl)
  · have : s.all okW = false := by
      unfold goodB at h
      rw [decide_eq_true (show 2 ≤ s.length by omega), decide_eq_true (show s.length ≤ 5 by omega)] at h
      exact h
    obtain ⟨x, hx, hn⟩ := List.all_eq_false.mp this
    refine st_odd (o := .int x) (by rw [List.length_map]; omega) (by rw [List.length_map]; omega) (fun d hd => ?_) (List.mem_map.mpr ⟨x, hx, rfl⟩) ?_
    · obtain ⟨y, _, rfl⟩ := List.mem_map.mp hd
      exact .int y
    · have : okW x = false := by simpa using hn
      exact this
theorem first_bad : ∀ {t : Tr}, t.all goodB = false → ∃ pre s post, t = pre ++ s :: post ∧ (∀ x ∈ pre, GoodSt x) ∧ goodB s = false
  | [], h => by cases h
  | s :: t, h => by
    rw [List.all_cons] at h
    cases hs : goodB s with
    | false => exact ⟨[], s, t, rfl, (fun x hx => nomatch hx), hs⟩
    | true =>
      rw [hs, Bool.true_and] at h
      obtain ⟨pre, u, post, rfl, h1, h2⟩ := first_bad h
      refine ⟨s :: pre, u, post, rfl, fun x hx => ?_, h2⟩
      rcases List.mem_cons.mp hx with rfl | hx
      · exact goodB_iff.mp hs
      · exact h1 x hx
theorem need_bad {t : Tr} (h : ¬ ((1 ≤ t.length ∧ t.length ≤ 3) ∧ t.all goodB = true)) : Bad (.list (trD t)) := by
  by_cases hl : t.length < 1 ∨ 3 < t.length
  · exact list_len_bad (by rw [List.length_map]; exact hl)
  · have : t.all goodB = false := by
      cases e : t.all goodB with
      | false => rfl
      | true => exact (h ⟨by omega, e⟩).elim
    obtain ⟨pre, s, post, rfl, h1, h2⟩ := first_bad this
    have e : trD (pre ++ s :: post) = trD pre ++ stD s :: trD post := by
      show List.map stD (pre ++ s :: post) = List.map stD pre ++ stD s :: List.map stD post
      rw [List.map_append, List.map_cons]
    rw [e]
    refine train_bad h1 (bad_stage h2) ?_
    rw [← e, List.length_map]
    omega
def partG (p : Str) : Option (List Int) := match partV p with
  | some s => if goodB s then some s else none
  | none => none
def due (x : Str) : Option Tr := if (Txt.split x " ").length ≤ 3 then allV partG (Txt.split x " ") else none
theorem allV_G : ∀ ps : List Str, allV partG ps = match allV partV ps with
    | some t => if t.all goodB then some t else none
    | none => none
  | [] => rfl
  | p :: ps => by
    have ih := allV_G ps
    unfold allV
    rw [ih]
    unfold partG
    cases ep : partV p with
    | none => rfl
    | some s =>
      cases el : allV partV ps with
      | none =>
        dsimp only
        cases goodB s <;> rfl
      | some t =>
        dsimp only
        rw [List.all_cons]
        cases goodB s with
        | false => rfl
        | true =>
          cases t.all goodB <;> rfl
theorem due_good {x : Str} {t : Tr} (h : due x = some t) : GoodTr t := by
  unfold due at h
  split at h
  · rename_i l
    have l1 := PyProof.Rows.split_pos x (" " : Str)
    have len := allV_len h
    rw [allV_G] at h
    cases e : allV partV (Txt.split x " ") with
    | none => rw [e] at h; cases h
    | some u =>
      rw [e] at h
      dsimp only at h
      split at h
      · rename_i g
        cases h
        exact ⟨by omega, by omega, fun s hs => goodB_iff.mp (List.all_eq_true.mp g s hs)⟩
      · cases h
  · cases h
theorem read_eq {x : Str} (h : x.length ≤ 1000) : m_read [.fz (.str x)] = match due x with
    | some t => .ok (.ow (trD t))
    | none => .exc "NoText" := by
  have s0 : sIf (cNot (cB (eIs "str" (eV 0)))) (sRaise "NoText") sNx [.fz (.str x), .no, .no, .no] = .nx [.fz (.str x), .no, .no, .no] := if_f (cNot_t (cB_ok rfl)) rfl
  have T := read_train h
  have l1 := PyProof.Rows.split_pos x (" " : Str)
  have G := allV_G (Txt.split x " ")
  unfold due
  cases e : allV partV (Txt.split x " ") with
  | none =>
    rw [e] at T G
    rw [G]
    have : (if (Txt.split x " ").length ≤ 3 then (none : Option Tr) else none) = none := by split <;> rfl
    dsimp only at T ⊢
    rw [this]
    exact run_exc rfl (seq_nx s0 (seq_exc T))
  | some t =>
    rw [e] at T G
    have lt := allV_len e
    dsimp only at T G
    have call : ∀ {r : Rs Sl}, m_need_train [.fz (.list (trD t))] = r → eCall 1 m_need_train (aCons (eV 1) aNil) [.fz (.str x), .fz (.list (trD t)), .no, .no] = r := fun hr => call1 (s := .fz (.list (trD t))) (t := .fz (.list (trD t))) rfl rfl rfl hr
    by_cases c : (1 ≤ t.length ∧ t.length ≤ 3) ∧ t.all goodB = true
    · rw [if_pos (by omega), G, if_pos c.2]
      refine run_rt rfl (seq_nx s0 (seq_nx T ?_)) rfl
      have y : g_read_y0 [.fz (.str x), .fz (.list (trD t)), .no, .no] = .rt (.ow (trD t)) := ret_ok (call (need_train_ok (.fz _) ⟨c.1.1, c.1.2, fun s hs => goodB_iff.mp (List.all_eq_true.mp c.2 s hs)⟩))
      unfold sTryR
      rw [y]
    · have : (if (Txt.split x " ").length ≤ 3 then allV partG (Txt.split x " ") else none) = none := by
        split
        · rw [G]
          refine if_neg fun g => c ⟨by omega, g⟩
        · rfl
      rw [this]
      refine run_exc (ρ' := [.fz (.str x), .fz (.list (trD t)), .no, .no]) rfl (seq_nx s0 (seq_nx T ?_))
      have y : g_read_y0 [.fz (.str x), .fz (.list (trD t)), .no, .no] = .exc "BadTrain" [.fz (.str x), .fz (.list (trD t)), .no, .no] := ret_exc (call (need_bad c))
      unfold sTryR
      rw [y]
      rfl
/-! ### the law's own look -/
theorem lw_ne {w : Str} (h : lw w ≠ 0) : wv w = some (lw w) ∧ okW (lw w) = true := by
  unfold lw at h ⊢
  cases e : wv w with
  | none => rw [e] at h; exact (h rfl).elim
  | some n =>
    rw [e] at h
    dsimp only at h ⊢
    split at h
    · rename_i c
      rw [if_pos c]
      exact ⟨rfl, okW_iff.mpr c⟩
    · exact (h rfl).elim
theorem lw_of {w : Str} {n : Int} (h : wv w = some n) (c : okW n = true) : lw w = n := by
  unfold lw
  rw [h]
  exact if_pos (okW_iff.mp c)
theorem lws_ne : ∀ {ws : List Str}, (∀ n ∈ ws.map lw, n ≠ 0) → allV wv ws = some (ws.map lw) ∧ (ws.map lw).all okW = true
  | [], _ => ⟨rfl, rfl⟩
  | w :: ws, h => by
    obtain ⟨h1, h2⟩ := lws_ne (ws := ws) fun n hn => h n (by rw [List.map_cons]; exact List.mem_cons_of_mem _ hn)
    obtain ⟨h3, h4⟩ := lw_ne (h (lw w) (by rw [List.map_cons]; exact List.mem_cons_self ..))
    unfold allV
    rw [h3, List.map_cons, List.all_cons, h4, h2]
    dsimp only
    rw [h1]
    exact ⟨rfl, rfl⟩
theorem lws_of : ∀ {ws : List Str} {s : List Int}, allV wv ws = some s → s.all okW = true → ws.map lw = s
  | [], s, h, _ => by cases h; rfl
  | w :: ws, s, h, g => by
    unfold allV at h
    cases e : wv w with
    | none => rw [e] at h; cases h
    | some n =>
      rw [e] at h
      dsimp only at h
      cases el : allV wv ws with
      | none => rw [el] at h; cases h
      | some r =>
        rw [el] at h
        cases h
        rw [List.all_cons, Bool.and_eq_true] at g
        rw [List.map_cons, lw_of e g.1, lws_of el g.2]
/-- what stops the law's look -/
def stopB (L : List Int) : Bool := L.any (fun n => decide (n = 0)) || !(decide (2 ≤ L.length) && decide (L.length ≤ 5))
theorem partG_eq (p : Str) : partG p = if stopB ((Txt.split p ":").map lw) then none else some ((Txt.split p ":").map lw) := by
  unfold partG partV
  cases hs : stopB ((Txt.split p ":").map lw) with
  | false =>
    rw [if_neg (by decide)]
    unfold stopB at hs
    rw [Bool.or_eq_false_iff] at hs
    have nz : ∀ n ∈ (Txt.split p ":").map lw, n ≠ 0 := fun n hn z => by
      have := List.any_eq_false.mp hs.1 n hn
      exact this (decide_eq_true z)
    obtain ⟨h1, h2⟩ := lws_ne nz
    rw [h1]
    dsimp only
    refine if_pos ?_
    unfold goodB
    rw [h2, Bool.and_true]
    simpa using hs.2
  | true =>
    rw [if_pos rfl]
    cases e : allV wv (Txt.split p ":") with
    | none => rfl
    | some s =>
      dsimp only
      refine if_neg fun g => ?_
      have g' := g
      unfold goodB at g'
      rw [Bool.and_eq_true] at g'
      have el := lws_of e g'.2
      rw [el] at hs
      unfold stopB at hs
      have nz : s.any (fun n => decide (n = 0)) = false := List.any_eq_false.mpr fun n hn z => by
        have z := of_decide_eq_true z
        have := (goodB_iff.mp g).all n hn
        omega
      rw [nz, g'.1] at hs
      cases hs
theorem intsOf_map : ∀ L : List Int, intsOf (L.map PyData.int) = some L
  | [] => rfl
  | n :: L => by
    show (intsOf (L.map PyData.int)).map (n :: ·) = _
    rw [intsOf_map L]
    rfl
theorem stop_ok {ρ : Rho} {L : List Int} (e : eV 4 ρ = .ok (.fz (stD L))) : cOr (cB (eBin inTOp (eC (.int 0)) (eV 4))) (cNot (cB (eChain leOp leOp (eC (.int 2)) (eCB lenF (aCons (eV 4) aNil)) (eC (.int 5))))) ρ = .ok (stopB L) := by
  have e1 : cB (eBin inTOp (eC (.int 0)) (eV 4)) ρ = .ok (L.any fun n => decide (n = 0)) := cB_ok (bin_ok rfl e (by
    show (intsOf (L.map PyData.int)).map _ = _
    rw [intsOf_map]
    rfl))
  have len : eCB lenF (aCons (eV 4) aNil) ρ = .ok (.fz (.int (L.length : Nat))) := eCB_ok (a1_ok e rfl) (by
    show some (Sl.fz (.int ((L.map PyData.int).length : Nat))) = _
    rw [List.length_map])
  have e2 : cNot (cB (eChain leOp leOp (eC (.int 2)) (eCB lenF (aCons (eV 4) aNil)) (eC (.int 5)))) ρ = .ok (!(decide (2 ≤ L.length) && decide (L.length ≤ 5))) := cNot_ok (cB_ok ((chain_int rfl len rfl leOp_int leOp_int).trans (by
    rw [show decide ((2 : Int) ≤ (L.length : Nat)) = decide (2 ≤ L.length) from decide_eq_decide.mpr (by omega), show decide (((L.length : Nat) : Int) ≤ 5) = decide (L.length ≤ 5) from decide_eq_decide.mpr (by omega)])))
  unfold stopB
  cases a : L.any fun n => decide (n = 0) with
  | true => exact cOr_t (e1.trans (by rw [a]))
  | false => exact cOr_f (e1.trans (by rw [a])) e2
theorem due_part {p : Str} (h : p.length ≤ 1000) {s0 s1 s2 s4 s5 : Sl} : eCB tupF (aCons (eLc [5] (iL (eSplit (eV 3) (eC (.str ":")))) (gN 5) cYes (eCall 1 m__law_wheel (aCons (eV 5) aNil))) aNil) [s0, s1, s2, .fz (.str p), s4, s5] = .ok (.fz (stD ((Txt.split p ":").map lw))) := by
  have sp := PyProof.Rows.split_le p (":" : Str)
  refine eCB_ok (a1_ok (s := .ow (((Txt.split p ":").map lw).map PyData.int)) ?_ rfl) rfl
  rw [List.map_map]
  exact eLc_ok (iL_ok (split_ok (a := p) (b := ":") rfl rfl (by decide +kernel) (by omega)) rfl) (by rw [List.length_map]; omega) (lc_map (k := PyData.str) (h := PyData.int ∘ lw) (Txt.split p ":") fun w hw => ⟨_, .fz (.int (lw w)), rfl, call1 (s := .fz (.str w)) (t := .fz (.str w)) rfl rfl rfl (law_wheel_eq w), rfl⟩)
theorem due_step {p : Str} (h : p.length ≤ 1000) {s0 s1 s4 s5 : Sl} {acc : Tr} (l : acc.length ≤ 1000) : g__law_due_b0 [s0, s1, .ow (trD acc), .fz (.str p), s4, s5] = match partG p with
    | some s => .nx [s0, s1, .ow (trD (acc ++ [s])), .fz (.str p), .fz (stD s), s5]
    | none => .rt (.fz .none) := by
  rw [partG_eq]
  have S := stop_ok (ρ := [s0, s1, .ow (trD acc), .fz (.str p), .fz (stD ((Txt.split p ":").map lw)), s5]) (L := (Txt.split p ":").map lw) rfl
  have A := setF_ok (i := 4) (due_part h (s0 := s0) (s1 := s1) (s2 := .ow (trD acc)) (s4 := s4) (s5 := s5)) rfl rfl
  unfold g__law_due_b0
  cases hs : stopB ((Txt.split p ":").map lw) with
  | true =>
    rw [if_pos rfl]
    exact seq_nx A (seq_rt (if_t (S.trans (by rw [hs])) rfl))
  | false =>
    rw [if_neg (by decide)]
    refine seq_nx A (seq_nx (if_f (S.trans (by rw [hs])) rfl) ((app_ok (ds := trD acc) (s := .fz (stD ((Txt.split p ":").map lw))) (d := stD ((Txt.split p ":").map lw)) rfl rfl rfl (by rw [List.length_map]; omega)).trans ?_))
    have e : trD (acc ++ [(Txt.split p ":").map lw]) = trD acc ++ [stD ((Txt.split p ":").map lw)] := by
      show List.map stD (acc ++ [(Txt.split p ":").map lw]) = _
      rw [List.map_append]
      rfl
    dsimp only
    rw [e]
    rfl
theorem due_loop : ∀ (ps : List Str) (acc : Tr) (s0 s1 s3 s4 s5 : Sl), (∀ p ∈ ps, p.length ≤ 1000) → acc.length + ps.length ≤ 1000 → match allV partG ps with
    | some t => ∃ a b c, sForL (gN 3) g__law_due_b0 (ps.map PyData.str) [s0, s1, .ow (trD acc), s3, s4, s5] = .nx [s0, s1, .ow (trD (acc ++ t)), a, b, c]
    | none => sForL (gN 3) g__law_due_b0 (ps.map PyData.str) [s0, s1, .ow (trD acc), s3, s4, s5] = .rt (.fz .none)
  | [], acc, s0, s1, s3, s4, s5, _, _ => ⟨s3, s4, s5, by rw [List.append_nil]; rfl⟩
  | p :: ps, acc, s0, s1, s3, s4, s5, h, l => by
    rw [List.length_cons] at l
    have st := due_step (p := p) (s0 := s0) (s1 := s1) (s4 := s4) (s5 := s5) (acc := acc) (h p (List.mem_cons_self ..)) (by omega)
    rw [List.map_cons, sForL_cons (ρ1 := [s0, s1, .ow (trD acc), .fz (.str p), s4, s5]) rfl, st]
    unfold allV
    cases e : partG p with
    | none => rfl
    | some s =>
      dsimp only
      rw [turned_nx]
      have ih := due_loop ps (acc ++ [s]) s0 s1 (.fz (.str p)) (.fz (stD s)) s5 (fun q hq => h q (List.mem_cons_of_mem _ hq)) (by rw [List.length_append, List.length_singleton]; omega)
      cases er : allV partG ps with
      | none => rw [er] at ih; exact ih
      | some t =>
        rw [er] at ih
        dsimp only at ih ⊢
        obtain ⟨a, b, c, ih⟩ := ih
        rw [List.append_assoc] at ih
        exact ⟨a, b, c, ih⟩
theorem law_due_eq {x : Str} (h : x.length ≤ 900) : m__law_due [.fz (.str x)] = .ok (match due x with
    | some t => .ow (trD t)
    | none => .fz .none) := by
  have sp := PyProof.Rows.split_le x (" " : Str)
  have s0 : sSetF 1 (eSplit (eV 0) (eC (.str " "))) [.fz (.str x), .no, .no, .no, .no, .no] = .nx [.fz (.str x), .fz (.list ((Txt.split x " ").map PyData.str)), .no, .no, .no, .no] := setF_ok (split_ok (a := x) (b := " ") rfl rfl (by decide +kernel) (by omega)) rfl rfl
  have len : cB (eBin gtOp (eCB lenF (aCons (eV 1) aNil)) (eC (.int 3))) [.fz (.str x), .fz (.list ((Txt.split x " ").map PyData.str)), .no, .no, .no, .no] = .ok (decide (3 < (Txt.split x " ").length)) := cB_ok (bin_ok (eCB_ok (a1_ok rfl rfl) rfl) rfl (gtOp_int.trans (by
    rw [List.length_map, show decide ((3 : Int) < ((Txt.split x " ").length : Nat)) = decide (3 < (Txt.split x " ").length) from decide_eq_decide.mpr (by omega)])))
  unfold due
  by_cases c : (Txt.split x " ").length ≤ 3
  · rw [if_pos c]
    have L := due_loop (Txt.split x " ") [] (.fz (.str x)) (.fz (.list ((Txt.split x " ").map PyData.str))) .no .no .no (fun p hp => by have := PyProof.Rows.part_short hp; omega) (by show 0 + _ ≤ _; omega)
    have pre : ∀ {o : Out}, sSeq (sFor (gN 3) (iL (eV 1)) g__law_due_b0) (sRetV 2) [.fz (.str x), .fz (.list ((Txt.split x " ").map PyData.str)), .ow [], .no, .no, .no] = o → g__law_due [.fz (.str x), .no, .no, .no, .no, .no] = o := fun {o} ho => seq_nx s0 (seq_nx (if_f (len.trans (by rw [decide_eq_false (by omega)])) rfl) (seq_nx (set_ok (sl := .ow []) rfl rfl) ho))
    cases e : allV partG (Txt.split x " ") with
    | none =>
      rw [e] at L
      exact run_rt rfl (pre (seq_rt ((for_ok (iL_ok rfl rfl)).trans L))) rfl
    | some t =>
      rw [e] at L
      obtain ⟨a, b, d, L⟩ := L
      exact run_rt rfl (pre (seq_nx ((for_ok (iL_ok rfl rfl)).trans L) rfl)) rfl
  · rw [if_neg c]
    exact run_rt rfl (seq_nx s0 (seq_rt (if_t (len.trans (by rw [decide_eq_true (by omega)])) rfl))) rfl
/-! ### told -/
abbrev refD : D := .tuple ((kindsB "NoText").map PyData.bool)
theorem told_exc {d : D} (h : m_read [.fz d] = .exc "NoText") : m__law_told [.fz d] = .ok (.fz refD) := by
  have y : g__law_told_y0 [.fz d, .no] = .exc "NoText" [.fz d, .no] := ret_exc (call1 (s := .fz d) (t := .fz d) rfl rfl rfl h)
  refine run_rt (ρ := [.fz d, .no]) rfl ?_ rfl
  show sTry 1 _ outB g__law_told_y0 _ = _
  unfold sTry
  rw [y]
  exact if_pos ⟨by decide, by show 1 < 2; decide⟩
theorem told_ok {d : D} {ds : List D} (h : m_read [.fz d] = .ok (.ow ds)) : m__law_told [.fz d] = .ok (.ow ds) := by
  have y : g__law_told_y0 [.fz d, .no] = .rt (.ow ds) := ret_ok (call1 (s := .fz d) (t := .fz d) rfl rfl rfl h)
  refine run_rt (ρ := [.fz d, .no]) rfl ?_ rfl
  show sTry 1 _ outB g__law_told_y0 _ = _
  unfold sTry
  rw [y]
theorem read_odd {d : D} {a : String} (h : tyName (.fz d) = some a) (n : isTab a "str" = false) : m_read [.fz d] = .exc "NoText" := by
  refine run_exc rfl (seq_exc (if_t (cNot_f (cB_ok ?_)) rfl))
  show (match tyName (.fz d) with | some a => Rs.ok (Sl.fz (.bool (isTab a "str"))) | none => .bad) = _
  rw [h]
  dsimp only
  rw [n]
/-! ### changed texts -/
theorem app_len (x y : Str) : (x ++ y).length = x.length + y.length := Array.size_append
theorem add_ss {x y : Str} (h : x.length + y.length ≤ 100000) : addOp (.fz (.str x)) (.fz (.str y)) = some (.fz (.str (x ++ y))) := by
  show orOp addIOp (orOp addSOp (orOp catLOp catTOp)) _ _ = _
  have : addSOp (.fz (.str x)) (.fz (.str y)) = some (.fz (.str (x ++ y))) := by
    show b2o (decide (x.length + y.length ≤ 100000)) _ = _
    rw [decide_eq_true h]
    rfl
  have i : addIOp (.fz (.str x)) (.fz (.str y)) = none := rfl
  unfold orOp
  rw [i, this]
  rfl
theorem slS_ok {f : EV} {lo hi : OV} {ρ : Rho} {z : Str} {l u : Option Int} (hx : f ρ = .ok (.fz (.str z))) (hz : z.length ≤ 100000) (hl : lo ρ = .ok l) (hu : hi ρ = .ok u) : eSl slSOp f lo hi ρ = .ok (.fz (.str (cutS z l u))) := by
  unfold eSl
  rw [hx, Rs.bind_ok, hl, Rs.bind_ok, hu, Rs.bind_ok]
  show Rs.of (if z.length ≤ 100000 then _ else none) = _
  rw [if_pos hz]
  rfl
theorem some_ok {f : EV} {ρ : Rho} {i : Int} (h : f ρ = .ok (.fz (.int i))) : oSome f ρ = .ok (some i) := by
  unfold oSome
  rw [h]
  rfl
theorem ix_any {w : Str} (h : w.length ≤ 100000) {z : Int} (z0 : 0 ≤ z) (z1 : z < (w.length : Nat)) : ∃ ch, ixOp (.fz (.str w)) (.fz (.int z)) = some (.fz (.str ⟨#[ch]⟩)) := by
  have hl : z.toNat < w.cps.toList.length := by
    show z.toNat < w.cps.size
    have : w.cps.size = w.length := rfl
    omega
  exact ⟨_, ix_str h (List.getElem?_eq_getElem hl) (by omega)⟩
theorem one_len (ch : Nat) : (⟨#[ch]⟩ : Str).length = 1 := rfl
abbrev sgns : Str := " !\"#$&'()*+,-./0123456789:;<=>?@ABCDEFGHIJKLMNOPQRSTUVWXYZ[\\]^_`abcdefghijklmnopqrstuvwxyz{|}~\n\t"
theorem sgns_len : sgns.length = 96 := by decide +kernel
theorem few_len : ("0 :123456789" : Str).length = 12 := by decide +kernel
theorem len_at {ρ : Rho} {i : Nat} {w : Str} (e : eV i ρ = .ok (.fz (.str w))) (h : w.length ≤ 100000) : eCB lenF (aCons (eV i) aNil) ρ = .ok (.fz (.int (w.length : Nat))) := eCB_ok (a1_ok e rfl) (by
  show b2o (decide (w.length ≤ 100000)) _ = _
  rw [decide_eq_true h]
  rfl)
theorem changed_ok {x : Str} (h : x.length ≤ 1000) (c : Int) : ∃ y : Str, m__law_changed [.fz (.str x), .fz (.int c)] = .ok (.fz (.str y)) ∧ y.length ≤ 2 * x.length + 2 := by
  have fin : ∀ {sl : Sl} {y : Str}, sl = .fz (.str y) → g__law_changed [.fz (.str x), .fz (.int c), .no, .no, .no] = .rt sl → m__law_changed [.fz (.str x), .fz (.int c)] = .ok (.fz (.str y)) := fun {sl y} e h => by
    subst e
    exact run_rt rfl h rfl
  obtain ⟨k, hk, k0⟩ : ∃ k, c / 4 % ((x.length : Nat) + 1) = k ∧ 0 ≤ k := ⟨_, rfl, Int.emod_nonneg _ (by omega)⟩
  have e3 : sSetF 3 (eBin modOp (eBin divOp (eV 1) (eC (.int 4))) (eBin addOp (eCB lenF (aCons (eV 0) aNil)) (eC (.int 1)))) [.fz (.str x), .fz (.int c), .fz (.str sgns), .no, .no] = .nx [.fz (.str x), .fz (.int c), .fz (.str sgns), .fz (.int k), .no] := setF_ok (sl := .fz (.int k)) (by
    rw [← hk]
    exact bin_ok (bin_ok rfl rfl (divOp_s (by decide) (by decide))) (bin_ok (len_at rfl (by omega)) rfl addOp_int) (modOp_int (by omega))) rfl rfl
  obtain ⟨ch, hch⟩ := ix_any (w := sgns) (by rw [sgns_len]; decide) (z := c / 400 % 96) (Int.emod_nonneg _ (by decide)) (by rw [sgns_len]; have := Int.emod_lt_of_pos (c / 400) (show (0 : Int) < 96 by decide); omega)
  have e4 : sSetF 4 (eBin ixOp (eV 2) (eBin modOp (eBin divOp (eV 1) (eC (.int 400))) (eCB lenF (aCons (eV 2) aNil)))) [.fz (.str x), .fz (.int c), .fz (.str sgns), .fz (.int k), .no] = .nx [.fz (.str x), .fz (.int c), .fz (.str sgns), .fz (.int k), .fz (.str ⟨#[ch]⟩)] := setF_ok (sl := .fz (.str ⟨#[ch]⟩)) (bin_ok rfl (bin_ok (bin_ok rfl rfl (divOp_s (by decide) (by decide))) ((len_at (w := sgns) rfl (by rw [sgns_len]; decide)).trans (by rw [sgns_len]; rfl)) (modOp_int (by decide))) hch) rfl rfl
  obtain ⟨ch2, hch2⟩ := ix_any (w := "0 :123456789") (by rw [few_len]; decide) (z := c / 400 % 12) (Int.emod_nonneg _ (by decide)) (by rw [few_len]; have := Int.emod_lt_of_pos (c / 400) (show (0 : Int) < 12 by decide); omega)
  have e5 : ∃ d : Nat, sIf (cB (eBin eqOp (eBin modOp (eBin divOp (eV 1) (eC (.int 4))) (eC (.int 3))) (eC (.int 1)))) (sSetF 4 (eBin ixOp (eC (.str "0 :123456789")) (eBin modOp (eBin divOp (eV 1) (eC (.int 400))) (eC (.int 12))))) sNx [.fz (.str x), .fz (.int c), .fz (.str sgns), .fz (.int k), .fz (.str ⟨#[ch]⟩)] = .nx [.fz (.str x), .fz (.int c), .fz (.str sgns), .fz (.int k), .fz (.str ⟨#[d]⟩)] := by
    have t : cB (eBin eqOp (eBin modOp (eBin divOp (eV 1) (eC (.int 4))) (eC (.int 3))) (eC (.int 1))) [.fz (.str x), .fz (.int c), .fz (.str sgns), .fz (.int k), .fz (.str ⟨#[ch]⟩)] = .ok (decide (c / 4 % 3 = 1)) := cB_ok (bin_ok (bin_ok (bin_ok rfl rfl (divOp_s (by decide) (by decide))) rfl (modOp_int (by decide))) rfl eqOp_int)
    by_cases q : c / 4 % 3 = 1
    · exact ⟨ch2, if_t (t.trans (by rw [decide_eq_true q])) (setF_ok (sl := .fz (.str ⟨#[ch2]⟩)) (bin_ok rfl (bin_ok (bin_ok rfl rfl (divOp_s (by decide) (by decide))) rfl (modOp_int (by decide))) hch2) rfl rfl)⟩
    · exact ⟨ch, if_f (t.trans (by rw [decide_eq_false q])) rfl⟩
  obtain ⟨d, e5⟩ := e5
  have go : ∀ {g : SV} {o : Out}, g [.fz (.str x), .fz (.int c), .fz (.str sgns), .fz (.int k), .fz (.str ⟨#[d]⟩)] = o → sSeq (sSetF 2 (eC (.str " !\"#$&'()*+,-./0123456789:;<=>?@ABCDEFGHIJKLMNOPQRSTUVWXYZ[\\]^_`abcdefghijklmnopqrstuvwxyz{|}~\n\t"))) (sSeq (sSetF 3 (eBin modOp (eBin divOp (eV 1) (eC (.int 4))) (eBin addOp (eCB lenF (aCons (eV 0) aNil)) (eC (.int 1))))) (sSeq (sSetF 4 (eBin ixOp (eV 2) (eBin modOp (eBin divOp (eV 1) (eC (.int 400))) (eCB lenF (aCons (eV 2) aNil))))) (sSeq (sIf (cB (eBin eqOp (eBin modOp (eBin divOp (eV 1) (eC (.int 4))) (eC (.int 3))) (eC (.int 1)))) (sSetF 4 (eBin ixOp (eC (.str "0 :123456789")) (eBin modOp (eBin divOp (eV 1) (eC (.int 400))) (eC (.int 12))))) sNx) g))) [.fz (.str x), .fz (.int c), .no, .no, .no] = o := fun ho => seq_nx (setF_ok (sl := .fz (.str sgns)) rfl rfl rfl) (seq_nx e3 (seq_nx e4 (seq_nx e5 ho)))
  have t : ∀ z : Int, cB (eBin eqOp (eBin modOp (eV 1) (eC (.int 4))) (eC (.int z))) [.fz (.str x), .fz (.int c), .fz (.str sgns), .fz (.int k), .fz (.str ⟨#[d]⟩)] = .ok (decide (c % 4 = z)) := fun z => cB_ok (bin_ok (bin_ok rfl rfl (modOp_int (by decide))) rfl eqOp_int)
  have v3 : eV 3 [.fz (.str x), .fz (.int c), .fz (.str sgns), .fz (.int k), .fz (.str ⟨#[d]⟩)] = .ok (.fz (.int k)) := rfl
  have v4 : eV 4 [.fz (.str x), .fz (.int c), .fz (.str sgns), .fz (.int k), .fz (.str ⟨#[d]⟩)] = .ok (.fz (.str ⟨#[d]⟩)) := rfl
  have head : eSl slSOp (eV 0) oNo (oSome (eV 3)) [.fz (.str x), .fz (.int c), .fz (.str sgns), .fz (.int k), .fz (.str ⟨#[d]⟩)] = .ok (.fz (.str (cutS x none (some k)))) := slS_ok rfl (by omega) rfl (some_ok v3)
  have tail : eSl slSOp (eV 0) (oSome (eV 3)) oNo [.fz (.str x), .fz (.int c), .fz (.str sgns), .fz (.int k), .fz (.str ⟨#[d]⟩)] = .ok (.fz (.str (cutS x (some k) none))) := slS_ok rfl (by omega) (some_ok v3) rfl
  have tail1 : eSl slSOp (eV 0) (oSome (eBin addOp (eV 3) (eC (.int 1)))) oNo [.fz (.str x), .fz (.int c), .fz (.str sgns), .fz (.int k), .fz (.str ⟨#[d]⟩)] = .ok (.fz (.str (cutS x (some (k + 1)) none))) := slS_ok rfl (by omega) (some_ok (bin_ok v3 rfl addOp_int)) rfl
  have l1 := cutS_length x none (some k)
  have l2 := cutS_length x (some k) none
  have l3 := cutS_length x (some (k + 1)) none
  have od := one_len d
  have ap : ∀ a b : Str, (a ++ b).length = a.length + b.length := app_len
  have mid : eBin addOp (eSl slSOp (eV 0) oNo (oSome (eV 3))) (eV 4) [.fz (.str x), .fz (.int c), .fz (.str sgns), .fz (.int k), .fz (.str ⟨#[d]⟩)] = .ok (.fz (.str (cutS x none (some k) ++ ⟨#[d]⟩))) := bin_ok head v4 (add_ss (by omega))
  have lm := ap (cutS x none (some k)) ⟨#[d]⟩
  rcases (show c % 4 = 0 ∨ c % 4 = 1 ∨ c % 4 = 2 ∨ c % 4 = 3 by omega) with q | q | q | q
  · exact ⟨_, fin rfl (go (seq_rt (if_t ((t 0).trans (by rw [q]; rfl)) (ret_ok (bin_ok head tail1 (add_ss (by omega))))))), by rw [ap]; omega⟩
  · exact ⟨_, fin rfl (go (seq_nx (if_f ((t 0).trans (by rw [q]; rfl)) rfl) (seq_rt (if_t ((t 1).trans (by rw [q]; rfl)) (ret_ok (bin_ok mid tail (add_ss (by omega)))))))), by rw [ap]; omega⟩
  · exact ⟨_, fin rfl (go (seq_nx (if_f ((t 0).trans (by rw [q]; rfl)) rfl) (seq_nx (if_f ((t 1).trans (by rw [q]; rfl)) rfl) (seq_rt (if_t ((t 2).trans (by rw [q]; rfl)) (ret_ok (bin_ok mid tail1 (add_ss (by omega))))))))), by rw [ap]; omega⟩
  · have n0 : ("0" : Str).length = 1 := by decide +kernel
    have nb : (" " : Str).length = 1 := by decide +kernel
    have nc : (":" : Str).length = 1 := by decide +kernel
    have n2 : (" 0" : Str).length = 2 := by decide +kernel
    have v0 : eV 0 [.fz (.str x), .fz (.int c), .fz (.str sgns), .fz (.int k), .fz (.str ⟨#[d]⟩)] = .ok (.fz (.str x)) := rfl
    have ls : eLst (aCons (eBin addOp (eC (.str "0")) (eV 0)) (aCons (eBin addOp (eC (.str " ")) (eV 0)) (aCons (eBin addOp (eV 0) (eC (.str " "))) (aCons (eBin addOp (eC (.str ":")) (eV 0)) (aCons (eBin addOp (eV 0) (eC (.str ":"))) (aCons (eBin addOp (eV 0) (eC (.str " 0"))) aNil)))))) [.fz (.str x), .fz (.int c), .fz (.str sgns), .fz (.int k), .fz (.str ⟨#[d]⟩)] = .ok (.ow [.str ("0" ++ x), .str (" " ++ x), .str (x ++ " "), .str (":" ++ x), .str (x ++ ":"), .str (x ++ " 0")]) :=
      lst_ok (ss := [.fz (.str ("0" ++ x)), .fz (.str (" " ++ x)), .fz (.str (x ++ " ")), .fz (.str (":" ++ x)), .fz (.str (x ++ ":")), .fz (.str (x ++ " 0"))]) (a_ok (bin_ok rfl v0 (add_ss (by omega))) rfl (a_ok (bin_ok rfl v0 (add_ss (by omega))) rfl (a_ok (bin_ok v0 rfl (add_ss (by omega))) rfl (a_ok (bin_ok rfl v0 (add_ss (by omega))) rfl (a_ok (bin_ok v0 rfl (add_ss (by omega))) rfl (a_ok (bin_ok v0 rfl (add_ss (by omega))) rfl rfl)))))) rfl (by show 6 ≤ 1000; decide)
    have pick : ∀ {y : Str}, ixOp (.ow [.str ("0" ++ x), .str (" " ++ x), .str (x ++ " "), .str (":" ++ x), .str (x ++ ":"), .str (x ++ " 0")]) (.fz (.int (c / 4 % 6))) = some (.fz (.str y)) → y.length ≤ 2 * x.length + 2 → ∃ y : Str, m__law_changed [.fz (.str x), .fz (.int c)] = .ok (.fz (.str y)) ∧ y.length ≤ 2 * x.length + 2 := fun {y} hy l =>
      ⟨y, fin rfl (go (seq_nx (if_f ((t 0).trans (by rw [q]; rfl)) rfl) (seq_nx (if_f ((t 1).trans (by rw [q]; rfl)) rfl) (seq_nx (if_f ((t 2).trans (by rw [q]; rfl)) rfl) (ret_ok (bin_ok ls (bin_ok (bin_ok rfl rfl (divOp_s (by decide) (by decide))) rfl (modOp_int (by decide))) hy)))))), l⟩
    have b1 := ap "0" x
    have b2 := ap " " x
    have b3 := ap x " "
    have b4 := ap ":" x
    have b5 := ap x ":"
    have b6 := ap x " 0"
    rcases (show c / 4 % 6 = 0 ∨ c / 4 % 6 = 1 ∨ c / 4 % 6 = 2 ∨ c / 4 % 6 = 3 ∨ c / 4 % 6 = 4 ∨ c / 4 % 6 = 5 by omega) with w | w | w | w | w | w
    · exact pick (y := "0" ++ x) (by rw [w]; rfl) (by omega)
    · exact pick (y := " " ++ x) (by rw [w]; rfl) (by omega)
    · exact pick (y := x ++ " ") (by rw [w]; rfl) (by omega)
    · exact pick (y := ":" ++ x) (by rw [w]; rfl) (by omega)
    · exact pick (y := x ++ ":") (by rw [w]; rfl) (by omega)
    · exact pick (y := x ++ " 0") (by rw [w]; rfl) (by omega)
/-! ### the written text -/
def wtx (n : Int) : Str := Str.ofString (toString n)
def stx (s : List Int) : Str := Txt.join ":" (s.map wtx)
def ttx (t : Tr) : Str := Txt.join " " (t.map stx)
theorem wtx_len {n : Int} (h : 2 ≤ n ∧ n ≤ 60) : (wtx n).length ≤ 2 := by
  have e := wv_of h
  unfold wtx
  generalize Str.ofString (toString n) = w at e
  obtain ⟨⟨l⟩⟩ := w
  match l, e with
  | [], e => cases e
  | a :: b :: c :: r, e => cases e
  | [a], e => exact (by decide : 1 ≤ 2)
  | [a, b], e => exact (by decide : 2 ≤ 2)
theorem sum_le {α : Type} {f : α → Nat} {k : Nat} : ∀ {xs : List α}, (∀ x ∈ xs, f x ≤ k) → (xs.map f).sum ≤ xs.length * k
  | [], _ => by simp
  | x :: xs, h => by
    have := sum_le (xs := xs) fun y hy => h y (List.mem_cons_of_mem _ hy)
    have hx := h x (List.mem_cons_self ..)
    rw [List.map_cons, List.sum_cons, List.length_cons, Nat.succ_mul]
    omega
theorem join_sum {a : Str} {ys : List Str} {k n : Nat} (ha : a.length = 1) (h : ∀ y ∈ ys, y.length ≤ k) (hn : ys.length ≤ n) : (ys.map (·.length)).sum + ys.length * a.length ≤ n * (k + 1) ∧ (Txt.join a ys).length ≤ n * (k + 1) := by
  have s := sum_le (f := fun y : Str => y.length) h
  have m := Nat.mul_le_mul_right (k + 1) hn
  rw [Nat.mul_succ ys.length k] at m
  have e : (Txt.join a ys).length = (ys.map (·.length)).sum + (ys.length - 1) * a.length := PySem.size_glued a ys
  rw [e, ha, Nat.mul_one, Nat.mul_one]
  constructor <;> omega
theorem strsOf_map {α : Type} (f : α → Str) : ∀ xs : List α, strsOf (xs.map fun x => PyData.str (f x)) = some (xs.map f)
  | [] => rfl
  | x :: xs => by
    show (strsOf (xs.map fun x => PyData.str (f x))).map (f x :: ·) = _
    rw [strsOf_map f xs]
    rfl
theorem join_ok {a : Str} {fo fe : EV} {ρ : Rho} {α : Type} {f : α → Str} {xs : List α} (h : fo ρ = .ok (.fz (.str a))) (h' : fe ρ = .ok (.ow (xs.map fun x => PyData.str (f x)))) (hl : ((xs.map f).map (·.length)).sum + (xs.map f).length * a.length ≤ 100000) : eJoin fo fe ρ = .ok (.fz (.str (Txt.join a (xs.map f)))) := by
  unfold eJoin
  rw [h, Rs.bind_ok]
  dsimp only
  rw [h', Rs.bind_ok]
  unfold joinOp
  rw [show (Sl.ow (xs.map fun x => PyData.str (f x))).lst.bind strsOf = some (xs.map f) from strsOf_map f xs]
  dsimp only
  rw [if_pos hl]
  rfl
theorem col_len : (":" : Str).length = 1 := by decide +kernel
theorem bl_len : (" " : Str).length = 1 := by decide +kernel
theorem stx_facts {s : List Int} (h : GoodSt s) : ((s.map wtx).map (·.length)).sum + (s.map wtx).length * (":" : Str).length ≤ 15 ∧ (stx s).length ≤ 15 := join_sum (n := 5) (k := 2) col_len (fun y hy => by
  obtain ⟨n, hn, rfl⟩ := List.mem_map.mp hy
  exact wtx_len (h.all n hn)) (by rw [List.length_map]; exact h.hi)
theorem ttx_facts {t : Tr} (h : GoodTr t) : ((t.map stx).map (·.length)).sum + (t.map stx).length * (" " : Str).length ≤ 48 ∧ (ttx t).length ≤ 48 := join_sum (n := 3) (k := 15) bl_len (fun y hy => by
  obtain ⟨n, hn, rfl⟩ := List.mem_map.mp hy
  exact (stx_facts (h.all n hn)).2) (by rw [List.length_map]; exact h.hi)
theorem stx_ok {s : List Int} (h : GoodSt s) {i j : Nat} {ρ : Rho} (e : ∀ n ∈ s, ∃ ρ1, gN j (.int n) (wipeR ρ [j]) = some ρ1 ∧ eV j ρ1 = .ok (.fz (.int n))) (ei : eV i ρ = .ok (.fz (stD s))) : eJoin (eC (.str ":")) (eLc [j] (iT (eV i)) (gN j) cYes (eCB strIF (aCons (eV j) aNil))) ρ = .ok (.fz (.str (stx s))) := by
  have h5 := h.hi
  refine join_ok (f := wtx) (xs := s) rfl (eLc_ok (iT_ok ei) (by rw [List.length_map]; omega) (lc_map (k := PyData.int) (h := fun n => PyData.str (wtx n)) s fun n hn => ?_)) (Nat.le_trans (stx_facts h).1 (by decide))
  obtain ⟨ρ1, e1, e2⟩ := e n hn
  have lg : n.natAbs.log2 < 1920 := by
    have hb := h.all n hn
    have : n.natAbs.log2 < 70 := (Nat.log2_lt (by omega)).mpr (by omega)
    omega
  exact ⟨ρ1, .fz (.str (wtx n)), e1, eCB_ok (a1_ok e2 rfl) (if_pos lg), rfl⟩
theorem written_ok {t : Tr} (h : GoodTr t) : m_written [.fz (.list (trD t))] = .ok (.fz (.str (ttx t))) := by
  have h3 := h.hi
  refine run_rt rfl (ret_ok (join_ok (f := stx) (xs := t) rfl (eLc_ok (iL_ok (call1 (s := .fz (.list (trD t))) (t := .fz (.list (trD t))) rfl rfl rfl (need_train_ok (.fz _) h)) rfl) (by rw [List.length_map]; omega) (lc_map (k := stD) (h := fun s => PyData.str (stx s)) t fun s hs => ⟨[.fz (.list (trD t)), .no, .fz (stD s)], .fz (.str (stx s)), rfl, stx_ok (h.all s hs) (fun n _ => ⟨_, rfl, rfl⟩) rfl, rfl⟩)) (Nat.le_trans (ttx_facts h).1 (by decide)))) rfl
theorem callV1 {ρ : Rho} {G : List Sl → Rs Sl} {f : EV} {s t sl : Sl} (h : f ρ = .ok s) (ha : argS s = .ok t) (hk : argOk t = true) (hg : G [asArg t] = .ok sl) : eCallV 1 G (aCons f aNil) ρ = .ok sl := by
  unfold eCallV
  rw [a1_ok h ha, Rs.bind_ok, if_pos ⟨rfl, by rw [List.all_cons, hk]; rfl⟩]
  show noExc (G [asArg t]) = _
  rw [hg]
  rfl
theorem odd_ok {y : Str} {t : Tr} {z : Int} : ∃ d, ixOp (.fz (.list [.none, .int 5, .list (trD t), .bool true, .dict [], .tuple [.str y], .list [.str "2:3"]])) (.fz (.int (z % 7))) = some (.fz d) ∧ m_read [.fz d] = .exc "NoText" := by
  rcases (show z % 7 = 0 ∨ z % 7 = 1 ∨ z % 7 = 2 ∨ z % 7 = 3 ∨ z % 7 = 4 ∨ z % 7 = 5 ∨ z % 7 = 6 by omega) with w | w | w | w | w | w | w
  · exact ⟨.none, by rw [w]; rfl, read_odd rfl (by decide +kernel)⟩
  · exact ⟨.int 5, by rw [w]; rfl, read_odd rfl (by decide +kernel)⟩
  · exact ⟨.list (trD t), by rw [w]; rfl, read_odd rfl (by decide +kernel)⟩
  · exact ⟨.bool true, by rw [w]; rfl, read_odd rfl (by decide +kernel)⟩
  · exact ⟨.dict [], by rw [w]; rfl, read_odd rfl (by decide +kernel)⟩
  · exact ⟨.tuple [.str y], by rw [w]; rfl, read_odd rfl (by decide +kernel)⟩
  · exact ⟨.list [.str "2:3"], by rw [w]; rfl, read_odd rfl (by decide +kernel)⟩
theorem sh_ref : Sh 64 refD := Sh.mono (Sh.tup (n := 0) fun d hd => by
  obtain ⟨b, _, rfl⟩ := List.mem_map.mp hd
  exact Sh.bl) (by decide)
theorem ref_ok {ρ : Rho} (e : ∀ n : Nat, ∃ ρ1, gN 6 (.int n) (wipeR ρ [6]) = some ρ1 ∧ eV 6 ρ1 = .ok (.fz (.int n))) : eCB tupF (aCons (eLc [6] (iR1 (aCons (eC (.int 9)) aNil)) (gN 6) cYes (eBin inTOp (eV 6) (eTup (aCons (eC (.int 7)) (aCons (eC (.int 8)) aNil))))) aNil) ρ = .ok (.fz refD) := by
  refine eCB_ok (a1_ok (s := .ow ((kindsB "NoText").map PyData.bool)) ?_ rfl) rfl
  have eb : (kindsB "NoText").map PyData.bool = (List.range 9).map fun n => PyData.bool ([(7 : Int), 8].any fun m => decide (m = ((n : Nat) : Int))) := by
    have : kindsB "NoText" = (List.range 9).map fun n => [(7 : Int), 8].any fun m => decide (m = ((n : Nat) : Int)) := by decide +kernel
    rw [this, List.map_map]
    rfl
  rw [eb]
  refine eLc_ok (iR1_ok (j := 9) rfl rfl) (by rw [List.length_map, List.length_range]; decide) (lc_map (k := fun (n : Nat) => PyData.int (n : Nat)) (h := fun (n : Nat) => PyData.bool ([(7 : Int), 8].any fun m => decide (m = ((n : Nat) : Int)))) (List.range 9) fun n hn => ?_)
  obtain ⟨ρ1, e1, e2⟩ := e n
  exact ⟨ρ1, .fz (.bool ([(7 : Int), 8].any fun m => decide (m = ((n : Nat) : Int)))), e1, bin_ok e2 (tup2 rfl rfl) rfl, rfl⟩
theorem law_true (ns : List Int) (hl : ns.length ≤ 63) : m_law [.scr ns] = .ok (.fz (.bool true)) := by
  have G := ltr_good (ns.getD 0 0) (ns.getD 1 0)
  have tr := law_train_ok (ns.getD 0 0) (ns.getD 1 0)
  generalize ltr (ns.getD 0 0) (ns.getD 1 0) = t at G tr
  have h3 := G.hi
  have st : ∀ u : Tr, Sh 64 (.list (trD u)) := fun u => (Sh.tr (n := 0) u).mono (by decide)
  refine run_rt (ρ := [.scr ns, .no, .no, .no, .no, .no, .no, .no, .no, .no, .no, .no]) rfl ?_ rfl
  unfold g_law g_law_t0 g_law_s0
  refine seq_nx (setF_ok (sl := .ow (trD t)) (call2 (call2 rfl rfl rfl rfl rfl rfl (at_0 ns)) rfl (call2 rfl rfl rfl rfl rfl rfl (at_1 ns)) rfl rfl rfl tr) rfl rfl) ?_
  unfold g_law_t1 g_law_s1
  refine seq_nx (setF_ok (sl := .fz (.str (ttx t))) (call1 (s := .ow (trD t)) (t := .fz (.list (trD t))) (eCB_ok (a1_ok rfl rfl) rfl) rfl rfl (written_ok G)) rfl rfl) ?_
  unfold g_law_t2 g_law_s2
  refine seq_nx (setF_ok (sl := .fz (.str (ttx t))) (join_ok (f := stx) (xs := t) rfl (eLc_ok (iL_ok rfl rfl) (by rw [List.length_map]; omega) (lc_map (k := stD) (h := fun s => PyData.str (stx s)) t fun s hs => ⟨_, .fz (.str (stx s)), rfl, stx_ok (G.all s hs) (fun n _ => ⟨_, rfl, rfl⟩) rfl, rfl⟩)) (Nat.le_trans (ttx_facts G).1 (by decide))) rfl rfl) ?_
  unfold g_law_t3 g_law_s3
  refine seq_nx (if_f (cOr_f (cNot_t (cB_ok rfl)) (cB_ok (bin_ok rfl rfl (z := .fz (.bool false)) (by
    show some (Sl.fz (.bool (!decide (ttx t = ttx t)))) = _
    rw [decide_eq_true rfl]
    rfl)))) rfl) ?_
  unfold g_law_t4 g_law_s4
  obtain ⟨j, hj, j0, j1⟩ : ∃ j, ns.getD 2 0 % 4 - 1 = j ∧ -1 ≤ j ∧ j ≤ 2 := ⟨_, rfl, by omega, by omega⟩
  obtain ⟨ρ', e, y, s6, rfl, hy⟩ := for_relM (k := fun (n : Nat) => PyData.int (n : Nat)) (tg := gN 6) (body := g_law_b0) (List.range j.toNat) (fun i ρ => ∃ (y : Str) (s : Sl), ρ = [.scr ns, .fz (.list (trD t)), .fz (.str y), .fz (.str (ttx t)), .no, .no, s, .no, .no, .no, .no, .no] ∧ y.length + 2 ≤ 202 * 2 ^ i)
    [.scr ns, .fz (.list (trD t)), .fz (.str (ttx t)), .fz (.str (ttx t)), .no, .no, .no, .no, .no, .no, .no, .no] ⟨_, _, rfl, by have := (ttx_facts G).2; omega⟩ fun i n ρ hi hI => by
    obtain ⟨y, s, rfl, hy⟩ := hI
    have hi' := (List.getElem?_eq_some_iff.mp hi).1
    rw [List.length_range] at hi'
    rw [List.getElem?_range hi'] at hi
    cases hi
    have hp : 2 ^ i ≤ 2 := by
      rcases (show i = 0 ∨ i = 1 by omega) with rfl | rfl <;> decide
    obtain ⟨y', e1, l1⟩ := changed_ok (x := y) (by omega) (mix (ns.getD (3 + i) 0) i)
    refine ⟨_, rfl, _, .inl (setF_ok (sl := .fz (.str y')) ?_ rfl rfl), y', .fz (.int (i : Nat)), rfl, by rw [Nat.pow_succ]; omega⟩
    refine call2 (s := .fz (.str y)) (t := .fz (.str y)) (s' := .fz (.int (mix (ns.getD (3 + i) 0) i))) (t' := .fz (.int (mix (ns.getD (3 + i) 0) i))) rfl rfl ?_ rfl rfl rfl e1
    exact call2 (s := .fz (.int (ns.getD (3 + i) 0))) (t := .fz (.int (ns.getD (3 + i) 0))) (s' := .fz (.int (i : Nat))) (t' := .fz (.int (i : Nat))) (call2 (s := .scr ns) (t := .scr ns) (s' := .fz (.int (3 + (i : Nat)))) (t' := .fz (.int (3 + (i : Nat)))) rfl rfl (bin_ok rfl rfl addOp_int) rfl rfl rfl (at_lit ns (3 + i) _ (by omega))) rfl rfl rfl rfl rfl (mixed_eq _ _)
  rw [List.length_range] at hy
  have hy : y.length ≤ 900 := by
    have : 2 ^ j.toNat ≤ 4 := by
      rcases (show j.toNat = 0 ∨ j.toNat = 1 ∨ j.toNat = 2 by omega) with z | z | z <;> rw [z] <;> decide
    omega
  refine seq_nx ((for_ok (iR1_ok (j := j) (a1_ok (s := .fz (.int j)) ?_ rfl) (rgOk_of (by omega) (by omega)))).trans e) ?_
  · rw [← hj]
    exact bin_ok (bin_ok (call2 rfl rfl rfl rfl rfl rfl (at_2 ns)) rfl (modOp_int (by decide))) rfl subOp_int
  unfold g_law_t5 g_law_s5
  refine seq_nx (setF_ok (ref_ok fun n => ⟨_, rfl, rfl⟩) rfl rfl) ?_
  unfold g_law_t6 g_law_s6
  refine seq_nx (setF_ok (sl := .ow [.none, .int 5, .list (trD t), .bool true, .dict [], .tuple [.str y], .list [.str "2:3"]]) (lst_ok (ss := [.fz .none, .fz (.int 5), .fz (.list (trD t)), .fz (.bool true), .fz (.dict []), .fz (.tuple [.str y]), .fz (.list [.str "2:3"])]) (a_ok rfl rfl (a_ok rfl rfl (a_ok rfl rfl (a_ok rfl rfl (a_ok (s := .fz (.dict [])) rfl rfl (a_ok (tup1 rfl) rfl (a_ok (s := .ow [.str "2:3"]) rfl rfl rfl))))))) rfl (by show 7 ≤ 1000; decide)) rfl rfl) ?_
  unfold g_law_t7 g_law_s7
  obtain ⟨d, ed, rd⟩ := odd_ok (y := y) (t := t) (z := ns.getD 5 0)
  refine seq_nx (if_f (cB_ok (bin_ok (call1 (s := .fz d) (t := .fz d) (bin_ok rfl (bin_ok (call2 rfl rfl rfl rfl rfl rfl (at_5 ns)) rfl (modOp_int (by decide))) ed) rfl rfl (told_exc rd)) rfl (ne_same sh_ref rfl rfl))) rfl) ?_
  unfold g_law_t8 g_law_s8 g_law_t9 g_law_s9 g_law_t10 g_law_s10
  have R := read_eq (x := y) (by omega)
  have L := law_due_eq (x := y) hy
  cases ey : due y with
  | none =>
    rw [ey] at R L
    refine seq_nx (setF_ok (sl := .fz refD) (call1 (s := .fz (.str y)) (t := .fz (.str y)) rfl rfl rfl (told_exc R)) rfl rfl) ?_
    refine seq_nx (setF_ok (sl := .fz .none) (call1 (s := .fz (.str y)) (t := .fz (.str y)) rfl rfl rfl L) rfl rfl) ?_
    exact seq_rt (if_t (cB_ok (bin_ok rfl rfl rfl)) (ret_ok (bin_ok rfl rfl (eq_same sh_ref rfl rfl))))
  | some u =>
    rw [ey] at R L
    have GU := due_good ey
    have u3 := GU.hi
    refine seq_nx (setF_ok (sl := .ow (trD u)) (call1 (s := .fz (.str y)) (t := .fz (.str y)) rfl rfl rfl (told_ok R)) rfl rfl) ?_
    refine seq_nx (setF_ok (sl := .ow (trD u)) (call1 (s := .fz (.str y)) (t := .fz (.str y)) rfl rfl rfl L) rfl rfl) ?_
    refine seq_nx (if_f (cB_ok (bin_ok rfl rfl rfl)) rfl) ?_
    unfold g_law_t11 g_law_s11
    refine seq_nx (if_f (cOr_f (cNot_t (cB_ok rfl)) (cOr_f (cB_ok (bin_ok rfl rfl (ne_same (st u) rfl rfl))) (cNot_t (cB_ok (eCB_ok (a1_ok (eLc_ok (iL_ok rfl rfl) (by rw [List.length_map]; omega) (lc_map (k := stD) (h := fun _ => PyData.bool true) u fun s hs => ⟨_, .fz (.bool true), rfl, rfl, rfl⟩)) rfl) ((all_fz (boolsOf_mapP (fun _ => true) u)).trans ?_)))))) rfl) ?_
    · rw [show (u.map fun _ => true).all id = true from List.all_eq_true.mpr fun b hb => by
        obtain ⟨_, _, rfl⟩ := List.mem_map.mp hb
        rfl]
    unfold g_law_t12 g_law_s12
    refine seq_nx (setF_ok (sl := .ow (trD u)) (eCB_ok (a1_ok rfl rfl) rfl) rfl rfl) ?_
    have call : ∀ {ρ : Rho}, eV 2 ρ = .ok (.fz (.str y)) → eCallV 1 m_read (aCons (eV 2) aNil) ρ = .ok (.ow (trD u)) := fun e => callV1 e rfl rfl R
    unfold g_law_t13 g_law_s13
    refine seq_nx (set_ok (sl := .ow (trD u)) (call rfl) rfl) ?_
    unfold g_law_t14 g_law_s14
    refine seq_nx (ρ' := [.scr ns, .fz (.list (trD t)), .fz (.str y), .fz (.list (trD u)), .no, .no, s6, .fz refD, .fz (.list [.none, .int 5, .list (trD t), .bool true, .dict [], .tuple [.str y], .list [.str "2:3"]]), .fz (.list (trD u)), .fz (.list (trD u)), .ow []]) rfl ?_
    unfold g_law_s15
    exact ret_ok (and_ok (bin_ok rfl rfl (eq_same (st u) rfl rfl)) (bin_ok (call rfl) rfl (eq_same (st u) rfl rfl)))
end Lw
namespace Lw
open PySem PySem.Spec PyProof.Rows L2 BV
def spLaw (K : PySem.W.Frag) : Sp := fun vs H Q _ => ∃ (a : Addr) (ns : List Int), vs = [.ref a] ∧ SqL K H a (ns.map V.int) ∧ ns.length ≤ 63 ∧ ∀ H', Q (.bl true) H'
theorem all_mk {l : PySem.W.OpenLaw} {w : World} {K : PySem.W.Frag} {h : Heap} {mg : MG} {fa f0 f1 f2 f3 f4 f5 f6 f7 f8 f9 f10 f11 f12 f13 f14 f15 : Addr} (X : K.In h) (G : h.Ns mainGlobals mg) (hfa : mg "law" = some (.ref fa))
    {od0 an0 : Option Addr} {sl0 : Array (Option Value)} {oc0 kV0 dc0 pm0 cd0 ct0 : Value}
    (a0 : PySem.W.nsIn K mainGlobals "is_whole" = some (some (.ref f0))) (l0 : K.lookup f0 = some ⟨oc0, od0, .func (PySem.W.fnOf "is_whole" "is_whole" (defArgs st_is_whole) (defBody st_is_whole) (defScope st_is_whole) .none kV0 dc0 pm0 an0 cd0 ct0), sl0⟩) (c0 : PySem.W.codeIn K cd0 "is_whole" = true) (k0 : PySem.W.keepIn K (.ref f0) = true)
    {od1 an1 : Option Addr} {sl1 : Array (Option Value)} {oc1 kV1 dc1 pm1 cd1 ct1 : Value}
    (a1 : PySem.W.nsIn K mainGlobals "is_wheel" = some (some (.ref f1))) (l1 : K.lookup f1 = some ⟨oc1, od1, .func (PySem.W.fnOf "is_wheel" "is_wheel" (defArgs st_is_wheel) (defBody st_is_wheel) (defScope st_is_wheel) .none kV1 dc1 pm1 an1 cd1 ct1), sl1⟩) (c1 : PySem.W.codeIn K cd1 "is_wheel" = true) (k1 : PySem.W.keepIn K (.ref f1) = true)
    {od2 an2 : Option Addr} {sl2 : Array (Option Value)} {oc2 kV2 dc2 pm2 cd2 ct2 : Value}
    (a2 : PySem.W.nsIn K mainGlobals "is_stage" = some (some (.ref f2))) (l2 : K.lookup f2 = some ⟨oc2, od2, .func (PySem.W.fnOf "is_stage" "is_stage" (defArgs st_is_stage) (defBody st_is_stage) (defScope st_is_stage) .none kV2 dc2 pm2 an2 cd2 ct2), sl2⟩) (c2 : PySem.W.codeIn K cd2 "is_stage" = true) (k2 : PySem.W.keepIn K (.ref f2) = true)
    {od3 an3 : Option Addr} {sl3 : Array (Option Value)} {oc3 kV3 dc3 pm3 cd3 ct3 : Value}
    (a3 : PySem.W.nsIn K mainGlobals "need_train" = some (some (.ref f3))) (l3 : K.lookup f3 = some ⟨oc3, od3, .func (PySem.W.fnOf "need_train" "need_train" (defArgs st_need_train) (defBody st_need_train) (defScope st_need_train) .none kV3 dc3 pm3 an3 cd3 ct3), sl3⟩) (c3 : PySem.W.codeIn K cd3 "need_train" = true) (k3 : PySem.W.keepIn K (.ref f3) = true)
    {od4 an4 : Option Addr} {sl4 : Array (Option Value)} {oc4 kV4 dc4 pm4 cd4 ct4 : Value}
    (a4 : PySem.W.nsIn K mainGlobals "written" = some (some (.ref f4))) (l4 : K.lookup f4 = some ⟨oc4, od4, .func (PySem.W.fnOf "written" "written" (defArgs st_written) (defBody st_written) (defScope st_written) .none kV4 dc4 pm4 an4 cd4 ct4), sl4⟩) (c4 : PySem.W.codeIn K cd4 "written" = true) (k4 : PySem.W.keepIn K (.ref f4) = true)
    {od5 an5 : Option Addr} {sl5 : Array (Option Value)} {oc5 kV5 dc5 pm5 cd5 ct5 : Value}
    (a5 : PySem.W.nsIn K mainGlobals "wheel_of" = some (some (.ref f5))) (l5 : K.lookup f5 = some ⟨oc5, od5, .func (PySem.W.fnOf "wheel_of" "wheel_of" (defArgs st_wheel_of) (defBody st_wheel_of) (defScope st_wheel_of) .none kV5 dc5 pm5 an5 cd5 ct5), sl5⟩) (c5 : PySem.W.codeIn K cd5 "wheel_of" = true) (k5 : PySem.W.keepIn K (.ref f5) = true)
    {od6 an6 : Option Addr} {sl6 : Array (Option Value)} {oc6 kV6 dc6 pm6 cd6 ct6 : Value}
    (a6 : PySem.W.nsIn K mainGlobals "read" = some (some (.ref f6))) (l6 : K.lookup f6 = some ⟨oc6, od6, .func (PySem.W.fnOf "read" "read" (defArgs st_read) (defBody st_read) (defScope st_read) .none kV6 dc6 pm6 an6 cd6 ct6), sl6⟩) (c6 : PySem.W.codeIn K cd6 "read" = true) (k6 : PySem.W.keepIn K (.ref f6) = true)
    {od7 an7 : Option Addr} {sl7 : Array (Option Value)} {oc7 kV7 dc7 pm7 cd7 ct7 : Value}
    (a7 : PySem.W.nsIn K mainGlobals "_law_at" = some (some (.ref f7))) (l7 : K.lookup f7 = some ⟨oc7, od7, .func (PySem.W.fnOf "_law_at" "_law_at" (defArgs st__law_at) (defBody st__law_at) (defScope st__law_at) .none kV7 dc7 pm7 an7 cd7 ct7), sl7⟩) (c7 : PySem.W.codeIn K cd7 "_law_at" = true) (k7 : PySem.W.keepIn K (.ref f7) = true)
    {od8 an8 : Option Addr} {sl8 : Array (Option Value)} {oc8 kV8 dc8 pm8 cd8 ct8 : Value}
    (a8 : PySem.W.nsIn K mainGlobals "_law_mixed" = some (some (.ref f8))) (l8 : K.lookup f8 = some ⟨oc8, od8, .func (PySem.W.fnOf "_law_mixed" "_law_mixed" (defArgs st__law_mixed) (defBody st__law_mixed) (defScope st__law_mixed) .none kV8 dc8 pm8 an8 cd8 ct8), sl8⟩) (c8 : PySem.W.codeIn K cd8 "_law_mixed" = true) (k8 : PySem.W.keepIn K (.ref f8) = true)
    {od9 an9 : Option Addr} {sl9 : Array (Option Value)} {oc9 kV9 dc9 pm9 cd9 ct9 : Value}
    (a9 : PySem.W.nsIn K mainGlobals "_law_train" = some (some (.ref f9))) (l9 : K.lookup f9 = some ⟨oc9, od9, .func (PySem.W.fnOf "_law_train" "_law_train" (defArgs st__law_train) (defBody st__law_train) (defScope st__law_train) .none kV9 dc9 pm9 an9 cd9 ct9), sl9⟩) (c9 : PySem.W.codeIn K cd9 "_law_train" = true) (k9 : PySem.W.keepIn K (.ref f9) = true)
    {od10 an10 : Option Addr} {sl10 : Array (Option Value)} {oc10 kV10 dc10 pm10 cd10 ct10 : Value}
    (a10 : PySem.W.nsIn K mainGlobals "_law_kinds" = some (some (.ref f10))) (l10 : K.lookup f10 = some ⟨oc10, od10, .func (PySem.W.fnOf "_law_kinds" "_law_kinds" (defArgs st__law_kinds) (defBody st__law_kinds) (defScope st__law_kinds) .none kV10 dc10 pm10 an10 cd10 ct10), sl10⟩) (c10 : PySem.W.codeIn K cd10 "_law_kinds" = true) (k10 : PySem.W.keepIn K (.ref f10) = true)
    {od11 an11 : Option Addr} {sl11 : Array (Option Value)} {oc11 kV11 dc11 pm11 cd11 ct11 : Value}
    (a11 : PySem.W.nsIn K mainGlobals "_law_changed" = some (some (.ref f11))) (l11 : K.lookup f11 = some ⟨oc11, od11, .func (PySem.W.fnOf "_law_changed" "_law_changed" (defArgs st__law_changed) (defBody st__law_changed) (defScope st__law_changed) .none kV11 dc11 pm11 an11 cd11 ct11), sl11⟩) (c11 : PySem.W.codeIn K cd11 "_law_changed" = true) (k11 : PySem.W.keepIn K (.ref f11) = true)
    {od12 an12 : Option Addr} {sl12 : Array (Option Value)} {oc12 kV12 dc12 pm12 cd12 ct12 : Value}
    (a12 : PySem.W.nsIn K mainGlobals "_law_wheel" = some (some (.ref f12))) (l12 : K.lookup f12 = some ⟨oc12, od12, .func (PySem.W.fnOf "_law_wheel" "_law_wheel" (defArgs st__law_wheel) (defBody st__law_wheel) (defScope st__law_wheel) .none kV12 dc12 pm12 an12 cd12 ct12), sl12⟩) (c12 : PySem.W.codeIn K cd12 "_law_wheel" = true) (k12 : PySem.W.keepIn K (.ref f12) = true)
    {od13 an13 : Option Addr} {sl13 : Array (Option Value)} {oc13 kV13 dc13 pm13 cd13 ct13 : Value}
    (a13 : PySem.W.nsIn K mainGlobals "_law_due" = some (some (.ref f13))) (l13 : K.lookup f13 = some ⟨oc13, od13, .func (PySem.W.fnOf "_law_due" "_law_due" (defArgs st__law_due) (defBody st__law_due) (defScope st__law_due) .none kV13 dc13 pm13 an13 cd13 ct13), sl13⟩) (c13 : PySem.W.codeIn K cd13 "_law_due" = true) (k13 : PySem.W.keepIn K (.ref f13) = true)
    {od14 an14 : Option Addr} {sl14 : Array (Option Value)} {oc14 kV14 dc14 pm14 cd14 ct14 : Value}
    (a14 : PySem.W.nsIn K mainGlobals "_law_told" = some (some (.ref f14))) (l14 : K.lookup f14 = some ⟨oc14, od14, .func (PySem.W.fnOf "_law_told" "_law_told" (defArgs st__law_told) (defBody st__law_told) (defScope st__law_told) .none kV14 dc14 pm14 an14 cd14 ct14), sl14⟩) (c14 : PySem.W.codeIn K cd14 "_law_told" = true) (k14 : PySem.W.keepIn K (.ref f14) = true)
    {od15 an15 : Option Addr} {sl15 : Array (Option Value)} {oc15 kV15 dc15 pm15 cd15 ct15 : Value}
    (a15 : PySem.W.nsIn K mainGlobals "law" = some (some (.ref f15))) (l15 : K.lookup f15 = some ⟨oc15, od15, .func (PySem.W.fnOf "law" "law" (defArgs st_law) (defBody st_law) (defScope st_law) .none kV15 dc15 pm15 an15 cd15 ct15), sl15⟩) (c15 : PySem.W.codeIn K cd15 "law" = true) (k15 : PySem.W.keepIn K (.ref f15) = true)
    (z_all : PySem.W.nsIn K mainGlobals "all" = some none)
    (z_bool : PySem.W.nsIn K mainGlobals "bool" = some none)
    (z_int : PySem.W.nsIn K mainGlobals "int" = some none)
    (z_isinstance : PySem.W.nsIn K mainGlobals "isinstance" = some none)
    (z_len : PySem.W.nsIn K mainGlobals "len" = some none)
    (z_list : PySem.W.nsIn K mainGlobals "list" = some none)
    (z_range : PySem.W.nsIn K mainGlobals "range" = some none)
    (z_str : PySem.W.nsIn K mainGlobals "str" = some none)
    (z_tuple : PySem.W.nsIn K mainGlobals "tuple" = some none)
    {t_FIGURES : Tok} (q_FIGURES : PySem.W.nsIn K mainGlobals "FIGURES" = some (some (.str "0123456789" t_FIGURES)))
    {t_LEAST : Tok} (q_LEAST : PySem.W.nsIn K mainGlobals "LEAST" = some (some (.int 2 t_LEAST)))
    {t_MOST : Tok} (q_MOST : PySem.W.nsIn K mainGlobals "MOST" = some (some (.int 60 t_MOST)))
    {t_MOST_FIGURES : Tok} (q_MOST_FIGURES : PySem.W.nsIn K mainGlobals "MOST_FIGURES" = some (some (.int 2 t_MOST_FIGURES)))
    {t_MOST_STAGES : Tok} (q_MOST_STAGES : PySem.W.nsIn K mainGlobals "MOST_STAGES" = some (some (.int 3 t_MOST_STAGES)))
    {t_MOST_WHEELS : Tok} (q_MOST_WHEELS : PySem.W.nsIn K mainGlobals "MOST_WHEELS" = some (some (.int 5 t_MOST_WHEELS)))
    {C_BadRatio C_BadTrain C_BadShop C_BadPairs C_BadPlace C_BadWheel C_TooLong C_NoText C_T : Addr}
    (e_BadRatio : PySem.W.nsIn K mainGlobals "BadRatio" = some (some (.ref C_BadRatio)))
    (e_BadTrain : PySem.W.nsIn K mainGlobals "BadTrain" = some (some (.ref C_BadTrain)))
    (e_BadShop : PySem.W.nsIn K mainGlobals "BadShop" = some (some (.ref C_BadShop)))
    (e_BadPairs : PySem.W.nsIn K mainGlobals "BadPairs" = some (some (.ref C_BadPairs)))
    (e_BadPlace : PySem.W.nsIn K mainGlobals "BadPlace" = some (some (.ref C_BadPlace)))
    (e_BadWheel : PySem.W.nsIn K mainGlobals "BadWheel" = some (some (.ref C_BadWheel)))
    (e_TooLong : PySem.W.nsIn K mainGlobals "TooLong" = some (some (.ref C_TooLong)))
    (e_NoText : PySem.W.nsIn K mainGlobals "NoText" = some (some (.ref C_NoText)))
    (x_BadTrain : PySem.W.excIn K C_BadTrain [.type "ValueError", .type "Exception", .type "BaseException", .type "object"] "ValueError.__new__" = true) (k_BadTrain : PySem.W.keepIn K (.ref C_BadTrain) = true) (b_BadTrain : PySem.W.subIn K (.ref C_BadTrain) (.type "BaseException") = some true) (t_BadTrain : PySem.W.typeIn K (.ref C_BadTrain) = some (.type "type"))
    (x_NoText : PySem.W.excIn K C_NoText [.type "ValueError", .type "Exception", .type "BaseException", .type "object"] "ValueError.__new__" = true) (k_NoText : PySem.W.keepIn K (.ref C_NoText) = true) (b_NoText : PySem.W.subIn K (.ref C_NoText) (.type "BaseException") = some true) (t_NoText : PySem.W.typeIn K (.ref C_NoText) = some (.type "type"))
    (d_BadTrain : PySem.W.hasDictIn K C_BadTrain = true)    (sy_BadTrain : PySem.W.subIn K (.ref C_BadTrain) (.ref C_BadTrain) = some true)
    (e_T : PySem.W.nsIn K mainGlobals "TrainError" = some (some (.ref C_T))) (b_T : PySem.W.subIn K (.ref C_T) (.type "BaseException") = some true) (d_T : PySem.W.hasDictIn K C_T = true) (t_T : PySem.W.typeIn K (.ref C_T) = some (.type "type")) (z_ValueError : PySem.W.nsIn K mainGlobals "ValueError" = some none)
    (sp_ : PySem.W.specialIn K (.builtin "object.__class__") "__get__" = some (some (.builtin "getset_descriptor.__get__"))) (tk_ : PySem.W.takesIn K (.builtin "object.__class__") = some true)
    (p_NoText : PySem.W.findIn K (.ref C_NoText) "__getattribute__" = some (some (.builtin "BaseException.__getattribute__"))) (q_NoText : PySem.W.findIn K (.ref C_NoText) "__getattr__" = some none) (d_NoText : PySem.W.hasDictIn K C_NoText = true) (a_NoText : PySem.W.findIn K (.ref C_NoText) "__class__" = some (some (.builtin "object.__class__"))) (m_NoText : PySem.W.mroIn K C_NoText (.type "object") = some true) (s_NoText : PySem.W.subIn K (.ref C_NoText) (.ref C_T) = some true) (v_NoText : PySem.W.kitOne K (.ref C_NoText) (.type "ValueError") = some true)
    (i_NoText_BadRatio : PySem.W.kitOne K (.ref C_NoText) (.ref C_BadRatio) = some false)
    (i_NoText_BadTrain : PySem.W.kitOne K (.ref C_NoText) (.ref C_BadTrain) = some false)
    (i_NoText_BadShop : PySem.W.kitOne K (.ref C_NoText) (.ref C_BadShop) = some false)
    (i_NoText_BadPairs : PySem.W.kitOne K (.ref C_NoText) (.ref C_BadPairs) = some false)
    (i_NoText_BadPlace : PySem.W.kitOne K (.ref C_NoText) (.ref C_BadPlace) = some false)
    (i_NoText_BadWheel : PySem.W.kitOne K (.ref C_NoText) (.ref C_BadWheel) = some false)
    (i_NoText_TooLong : PySem.W.kitOne K (.ref C_NoText) (.ref C_TooLong) = some false)
    (i_NoText_NoText : PySem.W.kitOne K (.ref C_NoText) (.ref C_NoText) = some true)
    : ∃ fd : FuncData, (∀ (s : Shared) (v : Value), BindsTo s fd ⟨[v], []⟩ [("_law_script", v)]) ∧ ∀ base : Heap, K.In base → base.Ns mainGlobals mg → FnOk l.prog w K mg base (L2N.CX l.prog w) 7 fa fd ["_law_script"] (spLaw K) := by
  have e := hfa.symm.trans (PySem.W.mg_of X G a15)
  cases e
  have kc_NoText : KC K mg "NoText" C_NoText := ⟨PySem.W.mg_of X G e_NoText, ⟨p_NoText, q_NoText, b_NoText, d_NoText, a_NoText, sp_, tk_, m_NoText⟩, fun n hn => (by
    unfold knds at hn
    rcases List.mem_cons.mp hn with rfl | hn
    · exact ⟨_, PySem.W.mg_of X G e_BadRatio, i_NoText_BadRatio.trans (by decide)⟩
    rcases List.mem_cons.mp hn with rfl | hn
    · exact ⟨_, PySem.W.mg_of X G e_BadTrain, i_NoText_BadTrain.trans (by decide)⟩
    rcases List.mem_cons.mp hn with rfl | hn
    · exact ⟨_, PySem.W.mg_of X G e_BadShop, i_NoText_BadShop.trans (by decide)⟩
    rcases List.mem_cons.mp hn with rfl | hn
    · exact ⟨_, PySem.W.mg_of X G e_BadPairs, i_NoText_BadPairs.trans (by decide)⟩
    rcases List.mem_cons.mp hn with rfl | hn
    · exact ⟨_, PySem.W.mg_of X G e_BadPlace, i_NoText_BadPlace.trans (by decide)⟩
    rcases List.mem_cons.mp hn with rfl | hn
    · exact ⟨_, PySem.W.mg_of X G e_BadWheel, i_NoText_BadWheel.trans (by decide)⟩
    rcases List.mem_cons.mp hn with rfl | hn
    · exact ⟨_, PySem.W.mg_of X G e_TooLong, i_NoText_TooLong.trans (by decide)⟩
    rcases List.mem_cons.mp hn with rfl | hn
    · exact ⟨_, PySem.W.mg_of X G e_NoText, i_NoText_NoText.trans (by decide)⟩
    cases hn), v_NoText, PySem.W.mg_none_of X G z_ValueError, PySem.W.mg_none_of X G z_isinstance, ⟨_, PySem.W.mg_of X G e_T, PySem.W.exm_ref b_T d_T t_T s_NoText⟩⟩
  have kcs : ∀ c ∈ (["NoText"] : List Str), ∃ D, KC K mg c D := fun c hc => by
    rcases List.mem_cons.mp hc with rfl | hc
    · exact ⟨_, kc_NoText⟩
    cases hc
  have Z : Bi K mg := ⟨PySem.W.mg_none_of X G z_all, PySem.W.mg_none_of X G z_bool, PySem.W.mg_none_of X G z_int, PySem.W.mg_none_of X G z_isinstance, PySem.W.mg_none_of X G z_len, PySem.W.mg_none_of X G z_list, PySem.W.mg_none_of X G z_range, PySem.W.mg_none_of X G z_str, PySem.W.mg_none_of X G z_tuple, ⟨_, PySem.W.mg_of X G q_FIGURES⟩, ⟨_, PySem.W.mg_of X G q_LEAST⟩, ⟨_, PySem.W.mg_of X G q_MOST⟩, ⟨_, PySem.W.mg_of X G q_MOST_FIGURES⟩, ⟨_, PySem.W.mg_of X G q_MOST_STAGES⟩, ⟨_, PySem.W.mg_of X G q_MOST_WHEELS⟩, ⟨_, PySem.W.mg_of X G e_BadTrain, x_BadTrain, k_BadTrain, b_BadTrain, t_BadTrain⟩, ⟨_, PySem.W.mg_of X G e_NoText, x_NoText, k_NoText, b_NoText, t_NoText⟩, ⟨_, PySem.W.mg_of X G e_BadTrain, PySem.W.exm_ref b_BadTrain d_BadTrain t_BadTrain sy_BadTrain⟩, kcs⟩
  have F0 := fun_mk (st := st_is_whole) l0 c0 k0
  have F1 := fun_mk (st := st_is_wheel) l1 c1 k1
  have F2 := fun_mk (st := st_is_stage) l2 c2 k2
  have F3 := fun_mk (st := st_need_train) l3 c3 k3
  have F4 := fun_mk (st := st_written) l4 c4 k4
  have F5 := fun_mk (st := st_wheel_of) l5 c5 k5
  have F6 := fun_mk (st := st_read) l6 c6 k6
  have F7 := fun_mk (st := st__law_at) l7 c7 k7
  have F8 := fun_mk (st := st__law_mixed) l8 c8 k8
  have F9 := fun_mk (st := st__law_train) l9 c9 k9
  have F10 := fun_mk (st := st__law_kinds) l10 c10 k10
  have F11 := fun_mk (st := st__law_changed) l11 c11 k11
  have F12 := fun_mk (st := st__law_wheel) l12 c12 k12
  have F13 := fun_mk (st := st__law_due) l13 c13 k13
  have F14 := fun_mk (st := st__law_told) l14 c14 k14
  have F15 := fun_mk (st := st_law) l15 c15 k15
  have b0 := F0.binds (ps := ["thing"]) fun _ _ _ _ _ _ us hl => match us, hl with | [_], _ => rfl
  have b1 := F1.binds (ps := ["thing"]) fun _ _ _ _ _ _ us hl => match us, hl with | [_], _ => rfl
  have b2 := F2.binds (ps := ["thing"]) fun _ _ _ _ _ _ us hl => match us, hl with | [_], _ => rfl
  have b3 := F3.binds (ps := ["thing"]) fun _ _ _ _ _ _ us hl => match us, hl with | [_], _ => rfl
  have b4 := F4.binds (ps := ["train"]) fun _ _ _ _ _ _ us hl => match us, hl with | [_], _ => rfl
  have b5 := F5.binds (ps := ["word"]) fun _ _ _ _ _ _ us hl => match us, hl with | [_], _ => rfl
  have b6 := F6.binds (ps := ["text"]) fun _ _ _ _ _ _ us hl => match us, hl with | [_], _ => rfl
  have b7 := F7.binds (ps := ["_law_script", "_law_k"]) fun _ _ _ _ _ _ us hl => match us, hl with | [_, _], _ => rfl
  have b8 := F8.binds (ps := ["_law_cell", "_law_k"]) fun _ _ _ _ _ _ us hl => match us, hl with | [_, _], _ => rfl
  have b9 := F9.binds (ps := ["_law_cell", "_law_more"]) fun _ _ _ _ _ _ us hl => match us, hl with | [_, _], _ => rfl
  have b10 := F10.binds (ps := ["_law_e"]) fun _ _ _ _ _ _ us hl => match us, hl with | [_], _ => rfl
  have b11 := F11.binds (ps := ["_law_text", "_law_cell"]) fun _ _ _ _ _ _ us hl => match us, hl with | [_, _], _ => rfl
  have b12 := F12.binds (ps := ["_law_word"]) fun _ _ _ _ _ _ us hl => match us, hl with | [_], _ => rfl
  have b13 := F13.binds (ps := ["_law_text"]) fun _ _ _ _ _ _ us hl => match us, hl with | [_], _ => rfl
  have b14 := F14.binds (ps := ["_law_thing"]) fun _ _ _ _ _ _ us hl => match us, hl with | [_], _ => rfl
  refine ⟨PySem.W.fnOf "law" "law" (defArgs st_law) (defBody st_law) (defScope st_law) .none kV15 dc15 pm15 an15 cd15 ct15, fun s v => .of_eq rfl, fun base _ _ => ?_⟩
  have D_is_whole : Df l.prog w K mg base "is_whole" 1 1 m_is_whole := df_mk (ok_is_whole F0 Z) (PySem.W.mg_of X G a0) F0.kp b0
  have D_is_wheel : Df l.prog w K mg base "is_wheel" 2 1 m_is_wheel := df_mk (ok_is_wheel F1 Z D_is_whole) (PySem.W.mg_of X G a1) F1.kp b1
  have D_is_stage : Df l.prog w K mg base "is_stage" 3 1 m_is_stage := df_mk (ok_is_stage F2 Z D_is_wheel) (PySem.W.mg_of X G a2) F2.kp b2
  have D_need_train : Df l.prog w K mg base "need_train" 4 1 m_need_train := df_mk (ok_need_train F3 Z D_is_stage) (PySem.W.mg_of X G a3) F3.kp b3
  have D_written : Df l.prog w K mg base "written" 5 1 m_written := df_mk (ok_written F4 Z D_need_train) (PySem.W.mg_of X G a4) F4.kp b4
  have D_wheel_of : Df l.prog w K mg base "wheel_of" 1 1 m_wheel_of := df_mk (ok_wheel_of F5 Z) (PySem.W.mg_of X G a5) F5.kp b5
  have D_read : DfC l.prog w K mg base "read" 5 1 m_read := df_mkC (ok_read F6 Z D_need_train D_wheel_of) (PySem.W.mg_of X G a6) F6.kp b6
  have D__law_at : Df l.prog w K mg base "_law_at" 1 2 m__law_at := df_mk (ok__law_at F7 Z) (PySem.W.mg_of X G a7) F7.kp b7
  have D__law_mixed : Df l.prog w K mg base "_law_mixed" 1 2 m__law_mixed := df_mk (ok__law_mixed F8 Z) (PySem.W.mg_of X G a8) F8.kp b8
  have D__law_train : Df l.prog w K mg base "_law_train" 2 2 m__law_train := df_mk (ok__law_train F9 Z D__law_mixed) (PySem.W.mg_of X G a9) F9.kp b9
  have D__law_kinds : DfE l.prog w K mg base "_law_kinds" 1 := ⟨_, _, "_law_e", ok__law_kinds F10, PySem.W.mg_of X G a10, F10.kp, b10⟩
  have D__law_changed : Df l.prog w K mg base "_law_changed" 1 2 m__law_changed := df_mk (ok__law_changed F11 Z) (PySem.W.mg_of X G a11) F11.kp b11
  have D__law_wheel : Df l.prog w K mg base "_law_wheel" 1 1 m__law_wheel := df_mk (ok__law_wheel F12 Z) (PySem.W.mg_of X G a12) F12.kp b12
  have D__law_due : Df l.prog w K mg base "_law_due" 2 1 m__law_due := df_mk (ok__law_due F13 Z D__law_wheel) (PySem.W.mg_of X G a13) F13.kp b13
  have D__law_told : Df l.prog w K mg base "_law_told" 6 1 m__law_told := df_mk (ok__law_told F14 Z D__law_kinds D_read) (PySem.W.mg_of X G a14) F14.kp b14
  refine (ok_law F15 Z D__law_at D__law_changed D__law_due D__law_mixed D__law_told D__law_train D_read D_written).imp fun vs H Q E ⟨a, ns, e1, hS, hl, q⟩ => ?_
  subst e1
  refine ⟨fun _ => none, [.scr ns], rfl, (fun _ _ z => nomatch z), .cons ⟨rfl, a, rfl, hS⟩ .nil, (fun s hs => ?_), ?_⟩
  · cases hs with
    | head => rfl
    | tail _ z => cases z
  · rw [law_true ns hl]
    intro v F' H' A g1 vr fr hr
    rw [fz_bl vr]
    exact q H'
end Lw
open PySem PySem.W PyProof.Rows
set_option maxRecDepth 100000 in
set_option maxHeartbeats 0 in
theorem PySem.Challenge.cw_wheeltrain_k14_texts_holds : PySem.Challenge.rw_wheeltrain_k14_texts.Holds := by
  w_on; o_law; k_head; (case hw => w_witness2)
  k_fill
  refine L2.walk_of (l := PySem.Challenge.rw_wheeltrain_k14_texts) (n := 63) (k := 7) (x := "_law_script") (CX := fun w => L2N.CX PySem.Challenge.rw_wheeltrain_k14_texts.prog w) (sp := fun w => Lw.spLaw _) rfl (by decide) rfl ⟨rfl, by decide, by decide⟩ (fun w h Y => PySem.W.kIn_of Y) ?F (fun _ _ a ns hl _ hS => ⟨a, ns, rfl, hS, hl, fun _ => rfl⟩) (fun _ _ _ _ _ h => by
    obtain ⟨_, _, _, _, _, _, _, _, _, _, _, _, z⟩ := h
    exact z.elim)
  case F =>
    intro w mg fa h KX G hmg
    refine' Lw.all_mk KX G hmg ?a0 ?l0 ?c0 ?k0 ?a1 ?l1 ?c1 ?k1 ?a2 ?l2 ?c2 ?k2 ?a3 ?l3 ?c3 ?k3 ?a4 ?l4 ?c4 ?k4 ?a5 ?l5 ?c5 ?k5 ?a6 ?l6 ?c6 ?k6 ?a7 ?l7 ?c7 ?k7 ?a8 ?l8 ?c8 ?k8 ?a9 ?l9 ?c9 ?k9 ?a10 ?l10 ?c10 ?k10 ?a11 ?l11 ?c11 ?k11 ?a12 ?l12 ?c12 ?k12 ?a13 ?l13 ?c13 ?k13 ?a14 ?l14 ?c14 ?k14 ?a15 ?l15 ?c15 ?k15 ?z_all ?z_bool ?z_int ?z_isinstance ?z_len ?z_list ?z_range ?z_str ?z_tuple ?q_FIGURES ?q_LEAST ?q_MOST ?q_MOST_FIGURES ?q_MOST_STAGES ?q_MOST_WHEELS ?e_BadRatio ?e_BadTrain ?e_BadShop ?e_BadPairs ?e_BadPlace ?e_BadWheel ?e_TooLong ?e_NoText ?x_BadTrain ?k_BadTrain ?b_BadTrain ?t_BadTrain ?x_NoText ?k_NoText ?b_NoText ?t_NoText ?d_BadTrain ?sy_BadTrain ?e_T ?b_T ?d_T ?t_T ?z_ValueError ?sp_ ?tk_ ?p_NoText ?q_NoText ?d_NoText ?a_NoText ?m_NoText ?s_NoText ?v_NoText ?i_NoText_BadRatio ?i_NoText_BadTrain ?i_NoText_BadShop ?i_NoText_BadPairs ?i_NoText_BadPlace ?i_NoText_BadWheel ?i_NoText_TooLong ?i_NoText_NoText
    (case a0 => k_is)
    (case l0 => k_is)
    (case c0 => k_is)
    (case k0 => k_is)
    (case a1 => k_is)
    (case l1 => k_is)
    (case c1 => k_is)
    (case k1 => k_is)
    (case a2 => k_is)
    (case l2 => k_is)
    (case c2 => k_is)
    (case k2 => k_is)
    (case a3 => k_is)
    (case l3 => k_is)
    (case c3 => k_is)
    (case k3 => k_is)
    (case a4 => k_is)
    (case l4 => k_is)
    (case c4 => k_is)
    (case k4 => k_is)
    (case a5 => k_is)
    (case l5 => k_is)
    (case c5 => k_is)
    (case k5 => k_is)
    (case a6 => k_is)
    (case l6 => k_is)
    (case c6 => k_is)
    (case k6 => k_is)
    (case a7 => k_is)
    (case l7 => k_is)
    (case c7 => k_is)
    (case k7 => k_is)
    (case a8 => k_is)
    (case l8 => k_is)
    (case c8 => k_is)
    (case k8 => k_is)
    (case a9 => k_is)
    (case l9 => k_is)
    (case c9 => k_is)
    (case k9 => k_is)
    (case a10 => k_is)
    (case l10 => k_is)
    (case c10 => k_is)
    (case k10 => k_is)
    (case a11 => k_is)
    (case l11 => k_is)
    (case c11 => k_is)
    (case k11 => k_is)
    (case a12 => k_is)
    (case l12 => k_is)
    (case c12 => k_is)
    (case k12 => k_is)
    (case a13 => k_is)
    (case l13 => k_is)
    (case c13 => k_is)
    (case k13 => k_is)
    (case a14 => k_is)
    (case l14 => k_is)
    (case c14 => k_is)
    (case k14 => k_is)
    (case a15 => k_is)
    (case l15 => k_is)
    (case c15 => k_is)
    (case k15 => k_is)
    (case z_all => k_is)
    (case z_bool => k_is)
    (case z_int => k_is)
    (case z_isinstance => k_is)
    (case z_len => k_is)
    (case z_list => k_is)
    (case z_range => k_is)
    (case z_str => k_is)
    (case z_tuple => k_is)
    (case q_FIGURES => k_is)
    (case q_LEAST => k_is)
    (case q_MOST => k_is)
    (case q_MOST_FIGURES => k_is)
    (case q_MOST_STAGES => k_is)
    (case q_MOST_WHEELS => k_is)
    (case e_BadRatio => k_is)
    (case e_BadTrain => k_is)
    (case e_BadShop => k_is)
    (case e_BadPairs => k_is)
    (case e_BadPlace => k_is)
    (case e_BadWheel => k_is)
    (case e_TooLong => k_is)
    (case e_NoText => k_is)
    (case x_BadTrain => k_exc)
    (case k_BadTrain => k_is)
    (case b_BadTrain => k_is)
    (case t_BadTrain => k_is)
    (case x_NoText => k_exc)
    (case k_NoText => k_is)
    (case b_NoText => k_is)
    (case t_NoText => k_is)
    (case d_BadTrain => k_is)
    (case sy_BadTrain => k_is)
    (case e_T => k_is)
    (case b_T => k_is)
    (case d_T => k_is)
    (case t_T => k_is)
    (case z_ValueError => k_is)
    (case sp_ => k_is)
    (case tk_ => k_is)
    (case p_NoText => k_is)
    (case q_NoText => k_is)
    (case d_NoText => k_is)
    (case a_NoText => k_is)
    (case m_NoText => k_is)
    (case s_NoText => k_is)
    (case v_NoText => first | rfl | k_is)
    (case i_NoText_BadRatio => first | rfl | k_is)
    (case i_NoText_BadTrain => first | rfl | k_is)
    (case i_NoText_BadShop => first | rfl | k_is)
    (case i_NoText_BadPairs => first | rfl | k_is)
    (case i_NoText_BadPlace => first | rfl | k_is)
    (case i_NoText_BadWheel => first | rfl | k_is)
    (case i_NoText_TooLong => first | rfl | k_is)
    (case i_NoText_NoText => first | rfl | k_is)
#print axioms PySem.Challenge.cw_wheeltrain_k14_texts_holds
