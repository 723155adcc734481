import PyProof.Rows.All
import Wide.All
import OpenK.AllK
import Wide.FinOn
import HandS.ForMost
import HandS.ForExc
import HandS.Evl
import HandS.IsInst
import HandS.Deep
import HandS.Style
import HandS.Wide
import HandS.EndBits
import HandS.Walk
import HandS.Text
import PySem.Challenge.RW_hatguess_k03_whole_passing
set_option Elab.async false
set_option linter.all false
set_option maxRecDepth 100000
set_option maxHeartbeats 4000000
namespace Hg
open PySem PySem.Spec PyProof.Rows L2 Evl

/-! ### data in a heap -/
mutual
inductive Da (H : Hp) : V → PyData → Prop
  | non : Da H .non .none
  | bl (b : Bool) : Da H (.bl b) (.bool b)
  | int (i : Int) : Da H (.int i) (.int i)
  | str (x : Str) : Da H (.str x) (.str x)
  | lst {a : Addr} {xs : List V} {ds : List PyData} : Rd H a (.lst xs) → DaAll H xs ds → Da H (.ref a) (.list ds)
  | tup {a : Addr} {xs : List V} {ds : List PyData} : Rd H a (.tup xs) → DaAll H xs ds → Da H (.ref a) (.tuple ds)
  | dic {a : Addr} : H a = some (.dK []) → Da H (.ref a) (.dict [])
inductive DaAll (H : Hp) : List V → List PyData → Prop
  | nil : DaAll H [] []
  | cons {v : V} {vs : List V} {d : PyData} {ds : List PyData} : Da H v d → DaAll H vs ds → DaAll H (v :: vs) (d :: ds)
end
mutual
theorem Da.mono {H H' : Hp} (e : Ex H H') : ∀ (d : PyData) (v : V), Da H v d → Da H' v d
  | .none, _, h => by cases h; exact .non
  | .bool b, _, h => by cases h; exact .bl b
  | .int i, _, h => by cases h; exact .int i
  | .str x, _, h => by cases h; exact .str x
  | .list ds, _, h => by
    cases h with
    | lst hs ha => exact .lst (ex_rd e hs) (DaAll.mono e ds _ ha)
  | .tuple ds, _, h => by
    cases h with
    | tup hs ha => exact .tup (ex_rd e hs) (DaAll.mono e ds _ ha)
  | .dict _, _, h => by
    cases h with
    | dic hs => exact .dic (e _ _ hs)
theorem DaAll.mono {H H' : Hp} (e : Ex H H') : ∀ (ds : List PyData) (vs : List V), DaAll H vs ds → DaAll H' vs ds
  | [], _, h => by cases h; exact .nil
  | d :: ds, _, h => by
    cases h with
    | cons a b => exact .cons (Da.mono e d _ a) (DaAll.mono e ds _ b)
end
theorem Da.up {H H' : Hp} {v : V} {d : PyData} (h : Da H v d) (e : Ex H H') : Da H' v d := Da.mono e d v h
theorem DaAll.up {H H' : Hp} {vs : List V} {ds : List PyData} (h : DaAll H vs ds) (e : Ex H H') : DaAll H' vs ds := DaAll.mono e ds vs h

/-! no dict within -/
mutual
def noDict : PyData → Bool
  | .list ds => noDictAll ds
  | .tuple ds => noDictAll ds
  | .dict _ => false
  | _ => true
def noDictAll : List PyData → Bool
  | [] => true
  | d :: ds => noDict d && noDictAll ds
end
mutual
theorem Da.dp {K : PySem.W.Frag} {H : Hp} : ∀ (d : PyData) (v : V), noDict d = true → Da H v d → Dp K H v d
  | .none, _, _, h => by cases h; exact .non
  | .bool b, _, _, h => by cases h; exact .bl b
  | .int i, _, _, h => by cases h; exact .int i
  | .str x, _, _, h => by cases h; exact .str x
  | .list ds, _, n, h => by
    cases h with
    | lst hs ha => exact .lst (.inl hs) (DaAll.dp ds _ (by unfold noDict at n; exact n) ha)
  | .tuple ds, _, n, h => by
    cases h with
    | tup hs ha => exact .tup (.inl hs) (DaAll.dp ds _ (by unfold noDict at n; exact n) ha)
  | .dict _, _, n, _ => by unfold noDict at n; cases n
theorem DaAll.dp {K : PySem.W.Frag} {H : Hp} : ∀ (ds : List PyData) (vs : List V), noDictAll ds = true → DaAll H vs ds → DpAll K H vs ds
  | [], _, _, h => by cases h; exact .nil
  | d :: ds, _, n, h => by
    cases h with
    | cons a b =>
      unfold noDictAll at n
      rw [Bool.and_eq_true] at n
      exact .cons (Da.dp d _ n.1 a) (DaAll.dp ds _ n.2 b)
end
theorem DaAll.len {H : Hp} : ∀ {vs : List V} {ds : List PyData}, DaAll H vs ds → vs.length = ds.length
  | _, _, .nil => rfl
  | _, _, .cons _ t => by rw [List.length_cons, List.length_cons, DaAll.len t]
theorem DaAll.get {H : Hp} : ∀ {vs : List V} {ds : List PyData} {i : Nat} {d : PyData}, DaAll H vs ds → ds[i]? = some d → ∃ v, vs[i]? = some v ∧ Da H v d
  | _, _, _, _, .nil, e => by simp at e
  | _, _, 0, _, .cons a _, e => by simp at e; subst e; exact ⟨_, rfl, a⟩
  | _, _, i + 1, d, .cons _ t, e => by
    obtain ⟨v, h1, h2⟩ := DaAll.get (i := i) (d := d) t (by simpa using e)
    exact ⟨v, by simpa using h1, h2⟩
theorem DaAll.at {H : Hp} : ∀ {vs : List V} {ds : List PyData} {i : Nat} {v : V}, DaAll H vs ds → vs[i]? = some v → ∃ d, ds[i]? = some d ∧ Da H v d
  | _, _, _, _, .nil, e => by simp at e
  | _, _, 0, _, .cons a _, e => by simp at e; subst e; exact ⟨_, rfl, a⟩
  | _, _, i + 1, d, .cons _ t, e => by
    obtain ⟨v, h1, h2⟩ := DaAll.at (i := i) (v := d) t (by simpa using e)
    exact ⟨v, by simpa using h1, h2⟩
theorem DaAll.append {H : Hp} : ∀ {vs ws : List V} {ds es : List PyData}, DaAll H vs ds → DaAll H ws es → DaAll H (vs ++ ws) (ds ++ es)
  | _, _, _, _, .nil, s => s
  | _, _, _, _, .cons r t, s => .cons r (DaAll.append t s)
theorem DaAll.take {H : Hp} : ∀ {vs : List V} {ds : List PyData} (n : Nat), DaAll H vs ds → DaAll H (vs.take n) (ds.take n)
  | _, _, 0, _ => .nil
  | _, _, _ + 1, .nil => .nil
  | _, _, n + 1, .cons r t => .cons r (DaAll.take n t)
theorem DaAll.drop {H : Hp} : ∀ {vs : List V} {ds : List PyData} (n : Nat), DaAll H vs ds → DaAll H (vs.drop n) (ds.drop n)
  | _, _, 0, r => r
  | _, _, _ + 1, .nil => .nil
  | _, _, n + 1, .cons _ t => DaAll.drop n t
theorem DaAll.reverse {H : Hp} : ∀ {vs : List V} {ds : List PyData}, DaAll H vs ds → DaAll H vs.reverse ds.reverse
  | _, _, .nil => .nil
  | _, _, .cons r t => by
    rw [List.reverse_cons, List.reverse_cons]
    exact DaAll.append (DaAll.reverse t) (.cons r .nil)
theorem DaAll.set {H : Hp} {v : V} {d : PyData} (r : Da H v d) : ∀ {vs : List V} {ds : List PyData} (i : Nat), DaAll H vs ds → DaAll H (vs.set i v) (ds.set i d)
  | _, _, _, .nil => .nil
  | _, _, 0, .cons _ t => .cons r t
  | _, _, i + 1, .cons q t => .cons q (DaAll.set r i t)
theorem DaAll.rep {H : Hp} {vs : List V} {ds : List PyData} (h : DaAll H vs ds) : ∀ k : Nat, DaAll H (List.replicate k vs).flatten (List.replicate k ds).flatten
  | 0 => .nil
  | k + 1 => by
    rw [List.replicate_succ, List.replicate_succ, List.flatten_cons, List.flatten_cons]
    exact DaAll.append h (DaAll.rep h k)
theorem DaAll.ints {H : Hp} : ∀ ns : List Int, DaAll H (ns.map V.int) (ns.map PyData.int)
  | [] => .nil
  | n :: ns => .cons (.int n) (DaAll.ints ns)
theorem DaAll.toInts {H : Hp} : ∀ {vs : List V} {ns : List Int}, DaAll H vs (ns.map PyData.int) → vs = ns.map V.int
  | _, [], h => by cases h; rfl
  | _, n :: ns, h => by
    cases h with
    | cons a b => cases a; rw [DaAll.toInts b] <;> rfl
theorem DaAll.bools {H : Hp} : ∀ bs : List Bool, DaAll H (bs.map V.bl) (bs.map PyData.bool)
  | [] => .nil
  | n :: ns => .cons (.bl n) (DaAll.bools ns)
theorem DaAll.toBools {H : Hp} : ∀ {vs : List V} {bs : List Bool}, DaAll H vs (bs.map PyData.bool) → vs = bs.map V.bl
  | _, [], h => by cases h; rfl
  | _, n :: ns, h => by
    cases h with
    | cons a b => cases a; rw [DaAll.toBools b] <;> rfl
theorem DaAll.one {H : Hp} {vs : List V} {a : PyData} (h : DaAll H vs [a]) : ∃ x, vs = [x] ∧ Da H x a := by
  cases h with
  | cons p q => cases q; exact ⟨_, rfl, p⟩
theorem DaAll.two {H : Hp} {vs : List V} {a b : PyData} (h : DaAll H vs [a, b]) : ∃ x y, vs = [x, y] ∧ Da H x a ∧ Da H y b := by
  cases h with
  | cons p q =>
    obtain ⟨y, rfl, hy⟩ := DaAll.one q
    exact ⟨_, y, rfl, p, hy⟩
theorem DaAll.three {H : Hp} {vs : List V} {a b c : PyData} (h : DaAll H vs [a, b, c]) : ∃ x y z, vs = [x, y, z] ∧ Da H x a ∧ Da H y b ∧ Da H z c := by
  cases h with
  | cons p q =>
    obtain ⟨y, z, rfl, hy, hz⟩ := DaAll.two q
    exact ⟨_, y, z, rfl, p, hy, hz⟩

/-- a list of things, each told by f -/
def dL {α : Type} (f : α → PyData) (xs : List α) : PyData := .list (xs.map f)
abbrev dI : List Int → PyData := dL PyData.int
/-- an int or None -/
def dO : Option Int → PyData
  | none => .none
  | some i => .int i

/-! ### the base and the heap: the base is what is known and stays; the heap may hold more, which may change -/
structure Wd (Hb H Hb' H' : Hp) : Prop where
  eb : Ex Hb Hb'
  sb : Ex Hb' H'
  eh : Ex H H'
  ft : ∀ b o, Hb' b = some o → Hb b = some o ∨ H b = none
theorem Wd.refl {Hb H : Hp} (e : Ex Hb H) : Wd Hb H Hb H := ⟨Ex.refl _, e, Ex.refl _, fun _ _ h => .inl h⟩
theorem none_of {H H' : Hp} {p : Addr} (e : Ex H H') (h : H' p = none) : H p = none := fresh_back e h
theorem Wd.trans {Hb H Hb1 H1 Hb2 H2 : Hp} (a : Wd Hb H Hb1 H1) (b : Wd Hb1 H1 Hb2 H2) : Wd Hb H Hb2 H2 :=
  ⟨a.eb.trans b.eb, b.sb, a.eh.trans b.eh, fun c o h => (b.ft c o h).elim (fun z => a.ft c o z) fun z => .inr (none_of a.eh z)⟩
/-- nothing new is known -/
theorem Wd.keep {Hb H H' : Hp} (e : Ex Hb H) (e2 : Ex H H') : Wd Hb H Hb H' := ⟨Ex.refl _, e.trans e2, e2, fun _ _ h => .inl h⟩
/-- a new object, known from now on -/
theorem Wd.new {Hb H : Hp} {p : Addr} {o : HO} (e : Ex Hb H) (h : H p = none) : Wd Hb H (upd Hb p o) (upd H p o) where
  eb := Ex.new (none_of e h)
  sb := fun b u q => by
    by_cases hb : b = p
    · subst hb; rw [upd_same] at q ⊢; exact q
    · rw [upd_ne hb] at q ⊢; exact e b u q
  eh := Ex.new h
  ft := fun b u q => by
    by_cases hb : b = p
    · subst hb; exact .inr h
    · rw [upd_ne hb] at q; exact .inl q
/-- the union of two bases that both are parts of H -/
def un (Hb Hc H : Hp) : Hp := fun b => if (Hb b).isSome = true ∨ (Hc b).isSome = true then H b else none
theorem un_l {Hb Hc H : Hp} (e : Ex Hb H) : Ex Hb (un Hb Hc H) := fun b o h => by
  unfold un
  rw [if_pos (.inl (by rw [h]; rfl))]
  exact e b o h
theorem un_r {Hb Hc H : Hp} (e : Ex Hc H) : Ex Hc (un Hb Hc H) := fun b o h => by
  unfold un
  rw [if_pos (.inr (by rw [h]; rfl))]
  exact e b o h
theorem un_sub {Hb Hc H : Hp} : Ex (un Hb Hc H) H := fun b o h => by
  unfold un at h
  split at h
  · exact h
  · cases h
theorem un_or {Hb Hc H : Hp} {b : Addr} {o : HO} (h : un Hb Hc H b = some o) : (∃ u, Hb b = some u) ∨ ∃ u, Hc b = some u := by
  unfold un at h
  split at h
  · rename_i z
    rcases z with z | z
    · exact .inl (Option.isSome_iff_exists.mp z)
    · exact .inr (Option.isSome_iff_exists.mp z)
  · cases h
/-- a larger base ahead is a larger base behind -/
theorem Wd.wider {Hb Hc H Hb' H' : Hp} (w : Wd Hb H Hb' H') (e : Ex Hb Hc) (ec : Ex Hc H) : Wd Hc H (un Hc Hb' H') H' where
  eb := un_l (ec.trans w.eh)
  sb := un_sub
  eh := w.eh
  ft := fun b o h => by
    rcases un_or h with ⟨u, hu⟩ | ⟨u, hu⟩
    · have h2 := (ec.trans w.eh) b u hu
      have h3 := un_sub b o h
      rw [h2] at h3
      cases h3
      exact .inl hu
    · rcases w.ft b u hu with z | z
      · have h2 := ec b u (e b u z)
        have h3 := un_sub b o h
        rw [w.eh b u h2] at h3
        cases h3
        exact .inl (e b _ z)
      · exact .inr z
theorem Wd.widerSub {Hb Hc H Hb' H' : Hp} (w : Wd Hb H Hb' H') : Ex Hb' (un Hc Hb' H') := un_r w.sb
/-- a known thing that was not there ahead is no part of what is behind -/
theorem Wd.out {Hb H Hb' H' : Hp} (w : Wd Hb H Hb' H') {l : Addr} {o : HO} (h : Hb l = none) (hl : H l = some o) : Hb' l = none := by
  cases q : Hb' l with
  | none => rfl
  | some u =>
    rcases w.ft l u q with z | z
    · rw [h] at z; cases z
    · rw [hl] at z; cases z
/-- an owned object (not of the base) changes -/
theorem Ex.own {Hb H : Hp} {l : Addr} {o : HO} (e : Ex Hb H) (h : Hb l = none) : Ex Hb (upd H l o) := fun b u q => by
  rw [upd_ne (ne_of_none q h)]
  exact e b u q

/-- a new list at p, ours: told by d, no part of the base -/
structure Own (Hb H : Hp) (p : Addr) (d : PyData) (Hb' H' : Hp) : Prop where
  wd : Wd Hb H Hb' H'
  new : H p = none
  out : Hb' p = none
  it : ∃ xs es, d = .list es ∧ H' p = some (.lst xs) ∧ DaAll Hb' xs es
theorem Own.after {Hb H Hb1 H1 Hb2 H2 : Hp} {p : Addr} {d : PyData} (w : Wd Hb H Hb1 H1) (o : Own Hb1 H1 p d Hb2 H2) : Own Hb H p d Hb2 H2 := ⟨w.trans o.wd, none_of w.eh o.new, o.out, o.it⟩
/-- laid down just now -/
theorem Own.laid {Hb H : Hp} {p : Addr} {xs : List V} {ds : List PyData} (e : Ex Hb H) (h : H p = none) (k : DaAll Hb xs ds) : Own Hb H p (.list ds) Hb (upd H p (.lst xs)) :=
  ⟨.keep e (Ex.new h), h, none_of e h, xs, ds, rfl, upd_same, k⟩
/-- from now on it stays: it goes to the base -/
theorem Own.known {Hb H Hb' H' : Hp} {p : Addr} {d : PyData} (o : Own Hb H p d Hb' H') : ∃ Hb2, Wd Hb H Hb2 H' ∧ Ex Hb' Hb2 ∧ Da Hb2 (.ref p) d := by
  obtain ⟨w, n, u, xs, es, rfl, hp, ha⟩ := o
  refine ⟨upd Hb' p (.lst xs), ⟨w.eb.trans (Ex.new u), fun b o q => ?_, w.eh, fun b o q => ?_⟩, Ex.new u, .lst (.inl upd_same) (ha.up (Ex.new u))⟩
  · by_cases hb : b = p
    · subst hb; rw [upd_same] at q; cases q; exact hp
    · rw [upd_ne hb] at q; exact w.sb b o q
  · by_cases hb : b = p
    · subst hb; exact .inr n
    · rw [upd_ne hb] at q; exact w.ft b o q

/-! ### what evaluates to what -/
def EvD (te : TE) (σ : L2.St) (Hb : Hp) (d : PyData) : Prop := ∀ H, Ex Hb H → ∀ Q : VK, (∀ v Hb' H', Wd Hb H Hb' H' → Da Hb' v d → Q v H') → te σ H Q
/-- the same, and what comes is new -/
def EvF (te : TE) (σ : L2.St) (Hb : Hp) (d : PyData) : Prop := ∀ H, Ex Hb H → ∀ Q : VK, (∀ p Hb' H', Own Hb H p d Hb' H' → Q (.ref p) H') → te σ H Q
def EvB (tt : TT) (σ : L2.St) (Hb : Hp) (b : Bool) : Prop := ∀ H, Ex Hb H → ∀ Q : Bool → Hp → Prop, (∀ H', Ex H H' → Q b H') → tt σ H Q
def EvAs (ta : TA) (σ : L2.St) (Hb : Hp) (ds : List PyData) : Prop := ∀ H, Ex Hb H → ∀ Q : List V → Hp → Prop, (∀ vs Hb' H', Wd Hb H Hb' H' → DaAll Hb' vs ds → Q vs H') → ta σ H Q
def EvPt (to : TO) (σ : L2.St) (Hb : Hp) (o : Option Int) : Prop := ∀ H, Ex Hb H → ∀ Q : Option Int → Hp → Prop, (∀ H', Ex H H' → Q o H') → to σ H Q
section
variable {K : PySem.W.Frag} {σ : L2.St} {Hb Hc : Hp} {ta tb tc te : TE} {t u : TT} {d e : PyData} {i j : Int} {a b : Bool}
theorem EvF.D (h : EvF te σ Hb d) : EvD te σ Hb d := fun H x Q q => h H x Q fun p Hb' H' o => by
  obtain ⟨Hb2, w, _, k⟩ := o.known
  exact q _ Hb2 H' w k
theorem EvD.up (h : EvD te σ Hb d) (x : Ex Hb Hc) : EvD te σ Hc d := fun H ec Q q =>
  h H (x.trans ec) Q fun v Hb' H' w k => q v _ H' (w.wider x ec) (k.up w.widerSub)
theorem Own.wider {Hb Hc H Hb' H' : Hp} {p : Addr} {d : PyData} (o : Own Hb H p d Hb' H') (x : Ex Hb Hc) (ec : Ex Hc H) : Own Hc H p d (un Hc Hb' H') H' := by
  obtain ⟨xs, es, e, hp, ha⟩ := o.it
  refine ⟨o.wd.wider x ec, o.new, ?_, xs, es, e, hp, ha.up o.wd.widerSub⟩
  cases z : un Hc Hb' H' p with
  | none => rfl
  | some u =>
    rcases un_or z with ⟨y, hy⟩ | ⟨y, hy⟩
    · have := ec p y hy
      rw [o.new] at this
      cases this
    · rw [o.out] at hy
      cases hy
theorem EvF.up (h : EvF te σ Hb d) (x : Ex Hb Hc) : EvF te σ Hc d := fun H ec Q q =>
  h H (x.trans ec) Q fun p Hb' H' o => q p _ H' (o.wider x ec)
theorem EvB.up (h : EvB t σ Hb a) (x : Ex Hb Hc) : EvB t σ Hc a := fun H ec Q q => h H (x.trans ec) Q q
theorem EvAs.up {ts : TA} {ds : List PyData} (h : EvAs ts σ Hb ds) (x : Ex Hb Hc) : EvAs ts σ Hc ds := fun H ec Q q =>
  h H (x.trans ec) Q fun v Hb' H' w k => q v _ H' (w.wider x ec) (k.up w.widerSub)
theorem EvPt.up {to : TO} {o : Option Int} (h : EvPt to σ Hb o) (x : Ex Hb Hc) : EvPt to σ Hc o := fun H ec Q q => h H (x.trans ec) Q q
theorem EvD.is (h : EvD te σ Hb d) (x : d = e) : EvD te σ Hb e := x ▸ h
theorem EvF.is (h : EvF te σ Hb d) (x : d = e) : EvF te σ Hb e := x ▸ h
theorem EvB.is (h : EvB t σ Hb a) (x : a = b) : EvB t σ Hb b := x ▸ h
/-- an int: the value is known -/
theorem EvD.int (h : EvD te σ Hb (.int i)) {H : Hp} (x : Ex Hb H) {Q : VK} (q : ∀ H', Ex H H' → Q (.int i) H') : te σ H Q :=
  h H x Q fun v Hb' H' w k => by cases k; exact q H' w.eh
theorem EvD.bool (h : EvD te σ Hb (.bool a)) {H : Hp} (x : Ex Hb H) {Q : VK} (q : ∀ H', Ex H H' → Q (.bl a) H') : te σ H Q :=
  h H x Q fun v Hb' H' w k => by cases k; exact q H' w.eh
theorem EvD.scal (hs : ∀ Hb' v, Da Hb' v d → Da Hb v d) (q : ∀ H, Ex Hb H → ∀ Q : VK, (∀ v H', Ex H H' → Da Hb v d → Q v H') → te σ H Q) : EvD te σ Hb d := fun H x Q k => q H x Q fun v H' e h => k v Hb H' (.keep x e) h
theorem EvD.ofInt (q : ∀ H, Ex Hb H → ∀ Q : VK, (∀ H', Ex H H' → Q (.int i) H') → te σ H Q) : EvD te σ Hb (.int i) := fun H x Q k => q H x Q fun H' e => k _ Hb H' (.keep x e) (.int i)
theorem EvD.ofBool (q : ∀ H, Ex Hb H → ∀ Q : VK, (∀ H', Ex H H' → Q (.bl a) H') → te σ H Q) : EvD te σ Hb (.bool a) := fun H x Q k => q H x Q fun H' e => k _ Hb H' (.keep x e) (.bl a)

/-! names, constants -/
theorem d_var {k : Nat} {v : V} (h : σ[k]? = some (some v)) (hd : Da Hb v d) : EvD (tVar k) σ Hb d := fun H x Q q => ⟨v, h, q v Hb H (.refl x) hd⟩
theorem d_int : EvD (tC (.int i)) σ Hb (.int i) := fun H x Q q => q _ Hb H (.refl x) (.int i)
theorem d_bl : EvD (tC (.bl a)) σ Hb (.bool a) := fun H x Q q => q _ Hb H (.refl x) (.bl a)
theorem d_non : EvD (tC .non) σ Hb .none := fun H x Q q => q _ Hb H (.refl x) .non
theorem d_str {z : Str} : EvD (tC (.str z)) σ Hb (.str z) := fun H x Q q => q _ Hb H (.refl x) (.str z)

/-! two operands -/
theorem two {r : R2} {Q : VK} {H : Hp} (ha : EvD ta σ Hb d) (hb : EvD tb σ Hb e) (x : Ex Hb H) (q : ∀ v w Hb' H', Wd Hb H Hb' H' → Da Hb' v d → Da Hb' w e → r v w H' Q) : tOp r ta tb σ H Q :=
  ha H x _ fun v Hb1 H1 w1 k1 => (hb.up w1.eb) H1 w1.sb _ fun w Hb2 H2 w2 k2 => q v w Hb2 H2 (w1.trans w2) (k1.up w2.eb) k2
theorem d_I0 {g : Int → Int → Int} (ha : EvD ta σ Hb (.int i)) (hb : EvD tb σ Hb (.int j)) : EvD (tOp (rI0 fun i j => .int (g i j)) ta tb) σ Hb (.int (g i j)) := .ofInt fun H x Q q =>
  two ha hb x fun v w Hb' H' wd k1 k2 => by cases k1; cases k2; exact ⟨i, j, rfl, rfl, q H' wd.eh⟩
theorem d_IC {C : Int → Int → Prop} {g : Int → Int → Int} (ha : EvD ta σ Hb (.int i)) (hb : EvD tb σ Hb (.int j)) (hc : C i j) : EvD (tOp (rI C fun i j => .int (g i j)) ta tb) σ Hb (.int (g i j)) := .ofInt fun H x Q q =>
  two ha hb x fun v w Hb' H' wd k1 k2 => by cases k1; cases k2; exact ⟨i, j, rfl, rfl, hc, q H' wd.eh⟩
theorem d_IB {g : Int → Int → Bool} (ha : EvD ta σ Hb (.int i)) (hb : EvD tb σ Hb (.int j)) : EvD (tOp (rI0 fun i j => .bl (g i j)) ta tb) σ Hb (.bool (g i j)) := .ofBool fun H x Q q =>
  two ha hb x fun v w Hb' H' wd k1 k2 => by cases k1; cases k2; exact ⟨i, j, rfl, rfl, q H' wd.eh⟩
theorem d_eqI (ha : EvD ta σ Hb (.int i)) (hb : EvD tb σ Hb (.int j)) : EvD (tOp rEq ta tb) σ Hb (.bool (decide (i = j))) := .ofBool fun H x Q q =>
  two ha hb x fun v w Hb' H' wd k1 k2 => by
    cases k1; cases k2
    refine ⟨rfl, ?_⟩
    have h : decide (V.int i = V.int j) = decide (i = j) := by by_cases h : i = j <;> simp [h]
    rw [h]
    exact q H' wd.eh
theorem d_neI (ha : EvD ta σ Hb (.int i)) (hb : EvD tb σ Hb (.int j)) : EvD (tOp rNe ta tb) σ Hb (.bool (!decide (i = j))) := .ofBool fun H x Q q =>
  two ha hb x fun v w Hb' H' wd k1 k2 => by
    cases k1; cases k2
    refine ⟨rfl, ?_⟩
    have h : decide (V.int i = V.int j) = decide (i = j) := by by_cases h : i = j <;> simp [h]
    rw [h]
    exact q H' wd.eh
theorem d_neg (ha : EvD ta σ Hb (.int i)) : EvD (tUn (rU fun i => .int (-i)) ta) σ Hb (.int (-i)) := .ofInt fun H x Q q =>
  ha.int x fun H' ex => ⟨i, rfl, q H' ex⟩
/-- a data's shape: as deep == asks -/
structure Shp (d : PyData) : Prop where
  sh : SeqAt.shaped d = true
  nd : noDict d = true
theorem d_eqD (ha : EvD ta σ Hb d) (hb : EvD tb σ Hb e) (sd : Shp d) (se : Shp e) : EvD (tOp (rEqD K) ta tb) σ Hb (.bool (PyData.eqv d e)) := .ofBool fun H x Q q =>
  two ha hb x fun v w Hb' H' wd k1 k2 => ⟨d, e, Da.dp _ _ sd.nd (k1.up wd.sb), Da.dp _ _ se.nd (k2.up wd.sb), sd.sh, se.sh, q H' wd.eh⟩
theorem d_neD (ha : EvD ta σ Hb d) (hb : EvD tb σ Hb e) (sd : Shp d) (se : Shp e) : EvD (tOp (rNeD K) ta tb) σ Hb (.bool (!PyData.eqv d e)) := .ofBool fun H x Q q =>
  two ha hb x fun v w Hb' H' wd k1 k2 => ⟨d, e, Da.dp _ _ sd.nd (k1.up wd.sb), Da.dp _ _ se.nd (k2.up wd.sb), sd.sh, se.sh, q H' wd.eh⟩
theorem d_inD {ds : List PyData} (ha : EvD ta σ Hb d) (hb : EvD tb σ Hb (.list ds)) (sd : Shp d) (se : Shp (.list ds)) : EvD (tOp (rInD K) ta tb) σ Hb (.bool (ds.any fun z => PyData.eqv z d)) := .ofBool fun H x Q q =>
  two ha hb x fun v w Hb' H' wd k1 k2 => ⟨d, ds, Da.dp _ _ sd.nd (k1.up wd.sb), Da.dp _ _ se.nd (k2.up wd.sb), sd.sh, se.sh, q H' wd.eh⟩
theorem d_notInD {ds : List PyData} (ha : EvD ta σ Hb d) (hb : EvD tb σ Hb (.list ds)) (sd : Shp d) (se : Shp (.list ds)) : EvD (tOp (rNotInD K) ta tb) σ Hb (.bool (!ds.any fun z => PyData.eqv z d)) := .ofBool fun H x Q q =>
  two ha hb x fun v w Hb' H' wd k1 k2 => ⟨d, ds, Da.dp _ _ sd.nd (k1.up wd.sb), Da.dp _ _ se.nd (k2.up wd.sb), sd.sh, se.sh, q H' wd.eh⟩
theorem non_iff {H : Hp} {v : V} (k : Da H v d) : decide (v = .non) = (match d with | .none => true | _ => false) := by
  cases k <;> rfl
def isNon : PyData → Bool
  | .none => true
  | _ => false
theorem d_isN (ha : EvD ta σ Hb d) : EvD (tOp (fun x y H Q => y = .non ∧ Q (.bl (decide (x = .non))) H) ta (tC .non)) σ Hb (.bool (isNon d)) := .ofBool fun H x Q q =>
  ha H x _ fun v Hb' H' w k => ⟨rfl, by rw [show decide (v = V.non) = isNon d from by cases k <;> rfl]; exact q H' w.eh⟩
theorem d_notN (ha : EvD ta σ Hb d) : EvD (tOp (fun x y H Q => y = .non ∧ Q (.bl (!decide (x = .non))) H) ta (tC .non)) σ Hb (.bool (!isNon d)) := .ofBool fun H x Q q =>
  ha H x _ fun v Hb' H' w k => ⟨rfl, by rw [show decide (v = V.non) = isNon d from by cases k <;> rfl]; exact q H' w.eh⟩
theorem d_isB (ha : EvD ta σ Hb (.bool a)) (hb : EvD tb σ Hb (.bool b)) : EvD (tOp rIsB ta tb) σ Hb (.bool (decide (a = b))) := .ofBool fun H x Q q =>
  two ha hb x fun v w Hb' H' wd k1 k2 => by cases k1; cases k2; exact ⟨a, b, rfl, rfl, q H' wd.eh⟩
theorem d_notB (ha : EvD ta σ Hb (.bool a)) (hb : EvD tb σ Hb (.bool b)) : EvD (tOp rNotB ta tb) σ Hb (.bool (!decide (a = b))) := .ofBool fun H x Q q =>
  two ha hb x fun v w Hb' H' wd k1 k2 => by cases k1; cases k2; exact ⟨a, b, rfl, rfl, q H' wd.eh⟩
/-- a op b op' c, ints -/
theorem d_chain {g g' : Int → Int → Bool} {k : Int} (ha : EvD ta σ Hb (.int i)) (hb : EvD tb σ Hb (.int j)) (hc : EvD tc σ Hb (.int k)) :
    EvD (tChain (rI0 fun i j => .bl (g i j)) (rI0 fun i j => .bl (g' i j)) ta tb tc) σ Hb (.bool (g i j && g' j k)) := .ofBool fun H x Q q =>
  ha.int x fun H1 e1 => hb.int (x.trans e1) fun H2 e2 => ⟨i, j, rfl, rfl, g i j, rfl, by
    cases hg : g i j with
    | true =>
      rw [hg] at q
      show tc σ H2 _
      exact hc.int ((x.trans e1).trans e2) fun H3 e3 => ⟨j, k, rfl, rfl, q H3 ((e1.trans e2).trans e3)⟩
    | false =>
      rw [hg] at q
      show Q (.bl false) H2
      exact q H2 (e1.trans e2)⟩

/-! and, or, not, if -/
theorem d_and (ha : EvD ta σ Hb (.bool a)) (hb : a = true → EvD tb σ Hb (.bool b)) : EvD (tAndV ta tb) σ Hb (.bool (a && b)) := .ofBool fun H x Q q =>
  ha.bool x fun H1 e1 => ⟨a, rfl, by
    cases a with
    | true =>
      show tb σ H1 Q
      exact (hb rfl).bool (x.trans e1) fun H2 e2 => q H2 (e1.trans e2)
    | false =>
      show Q (.bl false) H1
      exact q H1 e1⟩
theorem d_or (ha : EvD ta σ Hb (.bool a)) (hb : a = false → EvD tb σ Hb (.bool b)) : EvD (tOrV ta tb) σ Hb (.bool (a || b)) := .ofBool fun H x Q q =>
  ha.bool x fun H1 e1 => ⟨a, rfl, by
    cases a with
    | false =>
      show tb σ H1 Q
      exact (hb rfl).bool (x.trans e1) fun H2 e2 => q H2 (e1.trans e2)
    | true =>
      show Q (.bl true) H1
      exact q H1 e1⟩
theorem d_not (ha : EvD ta σ Hb (.bool a)) : EvD (tNotV ta) σ Hb (.bool (!a)) := .ofBool fun H x Q q => ha.bool x fun H1 e1 => ⟨a, rfl, q H1 e1⟩
theorem d_if (h : EvB t σ Hb a) (h1 : a = true → EvD ta σ Hb d) (h2 : a = false → EvD tb σ Hb d) : EvD (tIf t ta tb) σ Hb d := fun H x Q q => h H x _ fun H1 e1 => by
  cases a with
  | true =>
    show ta σ H1 Q
    exact h1 rfl H1 (x.trans e1) Q fun v Hb' H' w k => q v Hb' H' ((Wd.keep x e1).trans w) k
  | false =>
    show tb σ H1 Q
    exact h2 rfl H1 (x.trans e1) Q fun v Hb' H' w k => q v Hb' H' ((Wd.keep x e1).trans w) k
/-- told by an if -/
theorem d_ite {d1 d2 : PyData} (h : EvB t σ Hb a) (h1 : a = true → EvD ta σ Hb d1) (h2 : a = false → EvD tb σ Hb d2) : EvD (tIf t ta tb) σ Hb (if a = true then d1 else d2) :=
  d_if h (fun e => by subst e; exact (h1 rfl)) (fun e => by subst e; exact (h2 rfl))
theorem t_cmp (h : EvD te σ Hb (.bool a)) : EvB (tTest te) σ Hb a := fun H x Q q => h.bool x fun H1 e1 => ⟨a, rfl, q H1 e1⟩
theorem t_val (h : EvD te σ Hb (.bool a)) : EvB (tB te) σ Hb a := fun H x Q q => h.bool x fun H1 e1 => ⟨a, rfl, q H1 e1⟩
theorem t_and (h1 : EvB t σ Hb a) (h2 : a = true → EvB u σ Hb b) : EvB (tAnd t u) σ Hb (a && b) := fun H x Q q => h1 H x _ fun H1 e1 => by
  cases a with
  | true =>
    show u σ H1 Q
    exact h2 rfl H1 (x.trans e1) Q fun H2 e2 => q H2 (e1.trans e2)
  | false =>
    show Q false H1
    exact q H1 e1
theorem t_or (h1 : EvB t σ Hb a) (h2 : a = false → EvB u σ Hb b) : EvB (tOr t u) σ Hb (a || b) := fun H x Q q => h1 H x _ fun H1 e1 => by
  cases a with
  | false =>
    show u σ H1 Q
    exact h2 rfl H1 (x.trans e1) Q fun H2 e2 => q H2 (e1.trans e2)
  | true =>
    show Q true H1
    exact q H1 e1
theorem t_not (h : EvB t σ Hb a) : EvB (tNot t) σ Hb (!a) := fun H x Q q => h H x _ fun H1 e1 => q H1 e1
theorem t_yes : EvB tYes σ Hb true := fun H x Q q => q H (Ex.refl H)

/-! arguments, displays -/
variable {tr ts : TA} {ds es : List PyData}
theorem a_nil : EvAs tNil σ Hb [] := fun H x Q q => q [] Hb H (.refl x) .nil
theorem a_cons (h : EvD te σ Hb d) (hr : EvAs tr σ Hb ds) : EvAs (tCons te tr) σ Hb (d :: ds) := fun H x Q q =>
  h H x _ fun v Hb1 H1 w1 k1 => (hr.up w1.eb) H1 w1.sb _ fun vs Hb2 H2 w2 k2 => q _ Hb2 H2 (w1.trans w2) (.cons (k1.up w2.eb) k2)
theorem sz5 {n : Nat} (h : n ≤ 100000) : n ≤ sizeLine := Nat.le_trans h (by decide)
theorem sl5 {n : Nat} (h : n < 100000) : n < sizeLine := Nat.lt_of_lt_of_le h (by decide)
theorem f_lst (h : EvAs ts σ Hb ds) (hl : ds.length ≤ 100000) : EvF (tLst ts) σ Hb (.list ds) := fun H x Q q =>
  h H x _ fun vs Hb1 H1 w1 k1 => ⟨sz5 (by rw [k1.len]; exact hl), fun p hp => q p _ _ (.after w1 (.laid w1.sb hp k1))⟩
theorem d_lst (h : EvAs ts σ Hb ds) (hl : ds.length ≤ 100000) : EvD (tLst ts) σ Hb (.list ds) := (f_lst h hl).D
theorem d_tup (h : EvAs ts σ Hb ds) (hl : ds.length ≤ 100000) : EvD (tTup ts) σ Hb (.tuple ds) := fun H x Q q =>
  h H x _ fun vs Hb1 H1 w1 k1 => ⟨sz5 (by rw [k1.len]; exact hl), fun p hp => q _ _ _ (w1.trans (.new w1.sb hp)) (.tup (.inl upd_same) (k1.up (Ex.new (none_of w1.sb hp))))⟩
theorem f_lstT {α : Type} {f : α → PyData} {xs : List α} (h : EvAs ts σ Hb (xs.map f)) (hl : xs.length ≤ 100000) : EvF (tLst ts) σ Hb (dL f xs) := f_lst h (by rw [List.length_map]; exact hl)
theorem d_lstT {α : Type} {f : α → PyData} {xs : List α} (h : EvAs ts σ Hb (xs.map f)) (hl : xs.length ≤ 100000) : EvD (tLst ts) σ Hb (dL f xs) := (f_lstT h hl).D
theorem a_nilT {α : Type} {f : α → PyData} : EvAs tNil σ Hb (([] : List α).map f) := a_nil
theorem a_consT {α : Type} {f : α → PyData} {x : α} {xs : List α} (h : EvD te σ Hb (f x)) (hr : EvAs tr σ Hb (xs.map f)) : EvAs (tCons te tr) σ Hb ((x :: xs).map f) := a_cons h hr

/-! items, slices, len, sum .. -/
theorem cut_map {α β : Type} (f : α → β) (xs : List α) (n m : Nat) : ((xs.map f).drop n).take m = ((xs.drop n).take m).map f := by
  rw [← List.map_drop, ← List.map_take]
/-- a slice by whole numbers or nothing -/
def cut {α : Type} (xs : List α) (lo hi : Option Int) : List α := (xs.drop (HT.sIx xs.length 0 lo)).take (HT.sIx xs.length xs.length hi - HT.sIx xs.length 0 lo)
theorem p_none : EvPt tNoPart σ Hb none := fun H x Q q => q H (Ex.refl H)
theorem p_some (h : EvD te σ Hb (.int i)) : EvPt (tPart te) σ Hb (some i) := fun H x Q q => h.int x fun H1 e1 => ⟨i, rfl, q H1 e1⟩
theorem f_slice {tl th : TO} {lo hi : Option Int} (h : EvD te σ Hb (.list ds)) (h1 : EvPt tl σ Hb lo) (h2 : EvPt th σ Hb hi) : EvF (tSl (rSlL K) te tl th) σ Hb (.list (cut ds lo hi)) := fun H x Q q =>
  h H x _ fun v Hb1 H1 w1 k1 => (h1.up w1.eb) H1 w1.sb _ fun H2 e2 => (h2.up w1.eb) H2 (w1.sb.trans e2) _ fun H3 e3 => by
    cases k1 with
    | @lst a xs _ hs ha =>
      refine ⟨a, xs, rfl, .inl (ex_rd ((w1.sb.trans e2).trans e3) hs), fun p hp => ?_⟩
      refine q p _ _ (.after (w1.trans (.keep w1.sb (e2.trans e3))) (.laid ((w1.sb.trans e2).trans e3) hp ?_))
      have e : cutV xs lo hi = (xs.drop (HT.sIx ds.length 0 lo)).take (HT.sIx ds.length ds.length hi - HT.sIx ds.length 0 lo) := by
        unfold cutV
        rw [ha.len]
      rw [e]
      exact (ha.drop _).take _
theorem f_sliceT {α : Type} {f : α → PyData} {xs : List α} {tl th : TO} {lo hi : Option Int} (h : EvD te σ Hb (dL f xs)) (h1 : EvPt tl σ Hb lo) (h2 : EvPt th σ Hb hi) : EvF (tSl (rSlL K) te tl th) σ Hb (dL f (cut xs lo hi)) := by
  refine (f_slice (K := K) h h1 h2).is ?_
  unfold cut dL
  rw [List.length_map, cut_map]
theorem d_sliceT {α : Type} {f : α → PyData} {xs : List α} {tl th : TO} {lo hi : Option Int} (h : EvD te σ Hb (dL f xs)) (h1 : EvPt tl σ Hb lo) (h2 : EvPt th σ Hb hi) : EvD (tSl (rSlL K) te tl th) σ Hb (dL f (cut xs lo hi)) := (f_sliceT h h1 h2).D
theorem d_ix (ha : EvD ta σ Hb (.list ds)) (hb : EvD tb σ Hb (.int i)) (hi : atI ds i = some d) : EvD (tOp (rIxL K) ta tb) σ Hb d := fun H x Q q =>
  two ha hb x fun v w Hb' H' wd k1 k2 => by
    cases k2
    cases k1 with
    | @lst a xs _ hs hall =>
      obtain ⟨k, h1, h2, _⟩ := atI_get hi
      obtain ⟨y, hy, hd⟩ := hall.get h2
      refine ⟨a, xs, i, y, rfl, rfl, .inl (ex_rd wd.sb hs), ?_, q y Hb' H' wd hd⟩
      unfold atI at hi ⊢
      rw [hall.len]
      cases z : ixN ds.length i with
      | none => rw [z] at hi; cases hi
      | some m =>
        rw [z] at hi
        have := (ixN_seq z).1
        rw [h1] at this
        cases this
        exact hy
theorem d_ixU (ha : EvD ta σ Hb (.tuple ds)) (hb : EvD tb σ Hb (.int i)) (hi : atI ds i = some d) : EvD (tOp (rIxT K) ta tb) σ Hb d := fun H x Q q =>
  two ha hb x fun v w Hb' H' wd k1 k2 => by
    cases k2
    cases k1 with
    | @tup a xs _ hs hall =>
      obtain ⟨k, h1, h2, _⟩ := atI_get hi
      obtain ⟨y, hy, hd⟩ := hall.get h2
      refine ⟨a, xs, i, y, rfl, rfl, .inl (ex_rd wd.sb hs), ?_, q y Hb' H' wd hd⟩
      unfold atI at hi ⊢
      rw [hall.len]
      cases z : ixN ds.length i with
      | none => rw [z] at hi; cases hi
      | some m =>
        rw [z] at hi
        have := (ixN_seq z).1
        rw [h1] at this
        cases this
        exact hy
theorem at_map {α β : Type} (f : α → β) {xs : List α} {i : Int} {x : α} (h : xs[i.toNat]? = some x) (h0 : 0 ≤ i) : atI (xs.map f) i = some (f x) := by
  have e : i = ((i.toNat : Nat) : Int) := by omega
  rw [e]
  refine atI_nat ?_
  rw [List.getElem?_map, h]
  rfl
theorem d_ixT {α : Type} {f : α → PyData} {xs : List α} (z : α) (ha : EvD ta σ Hb (dL f xs)) (hb : EvD tb σ Hb (.int i)) (h0 : 0 ≤ i) (h1 : i < xs.length) : EvD (tOp (rIxL K) ta tb) σ Hb (f (xs.getD i.toNat z)) :=
  d_ix ha hb (at_map f (by rw [List.getD_eq_getElem?_getD, List.getElem?_eq_getElem (by omega)] <;> rfl) h0)
theorem d_ixLast {α : Type} {f : α → PyData} {xs : List α} (z : α) (ha : EvD ta σ Hb (dL f xs)) (hb : EvD tb σ Hb (.int (-1))) (h1 : 0 < xs.length) : EvD (tOp (rIxL K) ta tb) σ Hb (f (xs.getLastD z)) := by
  refine d_ix ha hb ?_
  cases xs with
  | nil => simp at h1
  | cons x r =>
    have e : (x :: r) = (x :: r).dropLast ++ [(x :: r).getLast (List.cons_ne_nil _ _)] := (List.dropLast_concat_getLast _).symm
    have e2 : (x :: r).getLastD z = (x :: r).getLast (List.cons_ne_nil _ _) := by simp [List.getLastD, List.getLast_cons_cons]
    rw [e2]
    conv => lhs; rw [e, List.map_append]
    exact atI_last _ _
theorem one {Q : VK} {H : Hp} {r : List V → Hp → VK → Prop} (h : EvD te σ Hb d) (x : Ex Hb H) (q : ∀ v Hb' H', Wd Hb H Hb' H' → Da Hb' v d → r [v] H' Q) : tCB r (tCons te tNil) σ H Q :=
  h H x _ fun v Hb1 H1 w1 k1 => q v Hb1 H1 w1 k1
def rLn (K : PySem.W.Frag) : List V → Hp → VK → Prop := fun xs H Q => ∃ p ys, xs = [.ref p] ∧ (SqL K H p ys ∨ SqT K H p ys) ∧ Q (.int ys.length) H
theorem d_len (h : EvD te σ Hb (.list ds)) : EvD (tCB (rLn K) (tCons te tNil)) σ Hb (.int ds.length) := .ofInt fun H x Q q =>
  one h x fun v Hb1 H1 w1 k1 => by
    cases k1 with
    | lst hs ha => exact ⟨_, _, rfl, .inl (.inl (ex_rd w1.sb hs)), by rw [ha.len]; exact q H1 w1.eh⟩
theorem d_lenT {α : Type} {f : α → PyData} {xs : List α} (h : EvD te σ Hb (dL f xs)) : EvD (tCB (rLn K) (tCons te tNil)) σ Hb (.int xs.length) := by
  have := d_len (K := K) h
  rw [List.length_map] at this
  exact this
theorem d_sum {ns : List Int} (h : EvD te σ Hb (dI ns)) : EvD (tCB (rSum K) (tCons te tNil)) σ Hb (.int ns.sum) := .ofInt fun H x Q q =>
  one h x fun v Hb1 H1 w1 k1 => by
    cases k1 with
    | lst hs ha =>
      rw [ha.toInts] at hs
      exact ⟨_, ns, rfl, .inl (ex_rd w1.sb hs), q H1 w1.eh⟩
theorem d_all {bs : List Bool} (h : EvD te σ Hb (dL PyData.bool bs)) : EvD (tCB (rAll K) (tCons te tNil)) σ Hb (.bool (bs.all id)) := .ofBool fun H x Q q =>
  one h x fun v Hb1 H1 w1 k1 => by
    cases k1 with
    | lst hs ha =>
      rw [ha.toBools] at hs
      exact ⟨_, bs, rfl, .inl (ex_rd w1.sb hs), q H1 w1.eh⟩
theorem d_any {bs : List Bool} (h : EvD te σ Hb (dL PyData.bool bs)) : EvD (tCB (rAny K) (tCons te tNil)) σ Hb (.bool (bs.any id)) := .ofBool fun H x Q q =>
  one h x fun v Hb1 H1 w1 k1 => by
    cases k1 with
    | lst hs ha =>
      rw [ha.toBools] at hs
      exact ⟨_, bs, rfl, .inl (ex_rd w1.sb hs), q H1 w1.eh⟩
/-- the least of a list that is not empty -/
def minL : List Int → Int
  | [] => 0
  | [x] => x
  | x :: y :: r => min x (minL (y :: r))
theorem minL_le : ∀ (ns : List Int) (x : Int), x ∈ ns → minL ns ≤ x
  | [], _, h => by cases h
  | [y], x, h => by
    have e : x = y := by simpa using h
    subst e
    exact Int.le_refl _
  | y :: z :: r, x, h => by
    show min y (minL (z :: r)) ≤ x
    rcases List.mem_cons.mp h with e | e
    · subst e; exact Int.min_le_left _ _
    · exact Int.le_trans (Int.min_le_right _ _) (minL_le (z :: r) x e)
theorem minL_mem : ∀ (ns : List Int), 0 < ns.length → minL ns ∈ ns
  | [], h => by simp at h
  | [y], _ => by show y ∈ [y]; simp
  | y :: z :: r, _ => by
    show min y (minL (z :: r)) ∈ y :: z :: r
    have ih := minL_mem (z :: r) (by simp)
    by_cases h : y ≤ minL (z :: r)
    · rw [Int.min_eq_left h]; simp
    · rw [Int.min_eq_right (by omega)]; exact List.mem_cons_of_mem _ ih
theorem minL_is {ns : List Int} {m : Int} (h : m ∈ ns) (hl : ∀ y ∈ ns, m ≤ y) : m = minL ns := by
  have h0 : 0 < ns.length := List.length_pos_of_mem h
  have h1 := minL_le ns m h
  have h2 := hl _ (minL_mem ns h0)
  omega
theorem d_min {ns : List Int} (h : EvD te σ Hb (dI ns)) (h0 : 0 < ns.length) : EvD (tCB (rMin K) (tCons te tNil)) σ Hb (.int (minL ns)) := .ofInt fun H x Q q =>
  one h x fun v Hb1 H1 w1 k1 => by
    cases k1 with
    | lst hs ha =>
      rw [ha.toInts] at hs
      exact ⟨_, ns, rfl, .inl (ex_rd w1.sb hs), h0, fun m hm hl => by rw [minL_is hm hl]; exact q H1 w1.eh⟩
theorem oneTwo {Q : VK} {H : Hp} {r : List V → Hp → VK → Prop} (h : EvD ta σ Hb d) (h2 : EvD tb σ Hb e) (x : Ex Hb H) (q : ∀ v w Hb' H', Wd Hb H Hb' H' → Da Hb' v d → Da Hb' w e → r [v, w] H' Q) : tCB r (tCons ta (tCons tb tNil)) σ H Q :=
  h H x _ fun v Hb1 H1 w1 k1 => (h2.up w1.eb) H1 w1.sb _ fun w Hb2 H2 w2 k2 => q v w Hb2 H2 (w1.trans w2) (k1.up w2.eb) k2
theorem d_max2 (ha : EvD ta σ Hb (.int i)) (hb : EvD tb σ Hb (.int j)) : EvD (tCB (fun xs H Q => ∃ i j, xs = [.int i, .int j] ∧ Q (.int (if j > i then j else i)) H) (tCons ta (tCons tb tNil))) σ Hb (.int (max i j)) := .ofInt fun H x Q q =>
  oneTwo ha hb x fun v w Hb' H' wd k1 k2 => by
    cases k1; cases k2
    refine ⟨i, j, rfl, ?_⟩
    have e : (if j > i then j else i) = max i j := by split <;> omega
    rw [e]
    exact q H' wd.eh
theorem d_min2 (ha : EvD ta σ Hb (.int i)) (hb : EvD tb σ Hb (.int j)) : EvD (tCB (fun xs H Q => ∃ i j, xs = [.int i, .int j] ∧ Q (.int (if j < i then j else i)) H) (tCons ta (tCons tb tNil))) σ Hb (.int (min i j)) := .ofInt fun H x Q q =>
  oneTwo ha hb x fun v w Hb' H' wd k1 k2 => by
    cases k1; cases k2
    refine ⟨i, j, rfl, ?_⟩
    have e : (if j < i then j else i) = min i j := by split <;> omega
    rw [e]
    exact q H' wd.eh
theorem d_abs (ha : EvD ta σ Hb (.int i)) : EvD (tCB (fun xs H Q => ∃ i, xs = [.int i] ∧ Q (.int (if i < 0 then -i else i)) H) (tCons ta tNil)) σ Hb (.int i.natAbs) := .ofInt fun H x Q q =>
  one ha x fun v Hb1 H1 w1 k1 => by
    cases k1
    refine ⟨i, rfl, ?_⟩
    have e : (if i < 0 then -i else i) = (i.natAbs : Int) := by split <;> omega
    rw [e]
    exact q H1 w1.eh
theorem f_list (h : EvD te σ Hb (.list ds)) : EvF (tCB (rListS K) (tCons te tNil)) σ Hb (.list ds) := fun H x Q q =>
  one h x fun v Hb1 H1 w1 k1 => by
    cases k1 with
    | lst hs ha => exact ⟨_, _, rfl, .inl (.inl (ex_rd w1.sb hs)), fun l hl => q l _ _ (.after w1 (.laid w1.sb hl ha))⟩
theorem d_list (h : EvD te σ Hb (.list ds)) : EvD (tCB (rListS K) (tCons te tNil)) σ Hb (.list ds) := (f_list h).D
theorem f_rev (h : EvD te σ Hb (.list ds)) : EvF (tRevL K te) σ Hb (.list ds.reverse) := fun H x Q q =>
  h H x _ fun v Hb1 H1 w1 k1 => by
    cases k1 with
    | lst hs ha => exact ⟨_, _, rfl, .inl (ex_rd w1.sb hs), fun l hl => q l _ _ (.after w1 (.laid w1.sb hl ha.reverse))⟩
theorem f_revT {α : Type} {f : α → PyData} {xs : List α} (h : EvD te σ Hb (dL f xs)) : EvF (tRevL K te) σ Hb (dL f xs.reverse) := by
  have := f_rev (K := K) h
  rw [← List.map_reverse] at this
  exact this
/-! list + list, list * int: of known lists -/
def rCatR : R2 := fun x y H Q => ∃ l b xs zs, x = .ref l ∧ y = .ref b ∧ Rd H l (.lst xs) ∧ Rd H b (.lst zs) ∧ xs.length + zs.length ≤ sizeLine ∧ ∀ p, H p = none → Q (.ref p) (upd H p (.lst (xs ++ zs)))
theorem op_catR {X : Cx} : OpR X (binaryOp .Add) rCatR := by
  intro pins s σ H x y v u Q I rx ry h
  obtain ⟨l, b, xs, zs, rfl, rfl, hH, hB, hz, q⟩ := h
  cases rx
  cases ry
  obtain ⟨z, its, n, r, e⟩ := hH.ok I.hok
  obtain ⟨z2, its2, n2, r2, e2⟩ := hB.ok I.hok
  have hl := r.length
  have hl2 := r2.length
  refine PySem.P.add_list e e2 ?_ (by rw [List.size_toArray, List.size_toArray]; omega)
  have ea : its.toArray ++ its2.toArray = (its ++ its2).toArray := by simp
  rw [ea]
  exact ⟨.ref _, _, I.lnew (t' := s.toks) (r.append r2) (by rw [List.length_append]; omega), rfl, q _ I.fresh⟩
theorem f_cat (ha : EvD ta σ Hb (.list ds)) (hb : EvD tb σ Hb (.list es)) (hz : ds.length + es.length ≤ 100000) : EvF (tOp rCatR ta tb) σ Hb (.list (ds ++ es)) := fun H x Q q =>
  two ha hb x fun v w Hb' H' wd k1 k2 => by
    cases k1 with
    | lst hs hall =>
      cases k2 with
      | lst hs2 hall2 =>
        exact ⟨_, _, _, _, rfl, rfl, ex_rd wd.sb hs, ex_rd wd.sb hs2, sz5 (by rw [hall.len, hall2.len]; exact hz), fun p hp =>
          q p _ _ (.after wd (.laid wd.sb hp (hall.append hall2)))⟩
theorem f_catT {α : Type} {f : α → PyData} {xs ys : List α} (ha : EvD ta σ Hb (dL f xs)) (hb : EvD tb σ Hb (dL f ys)) (hz : xs.length + ys.length ≤ 100000) : EvF (tOp rCatR ta tb) σ Hb (dL f (xs ++ ys)) := by
  have := f_cat ha hb (by rw [List.length_map, List.length_map]; exact hz)
  rw [← List.map_append] at this
  exact this
theorem d_catT {α : Type} {f : α → PyData} {xs ys : List α} (ha : EvD ta σ Hb (dL f xs)) (hb : EvD tb σ Hb (dL f ys)) (hz : xs.length + ys.length ≤ 100000) : EvD (tOp rCatR ta tb) σ Hb (dL f (xs ++ ys)) := (f_catT ha hb hz).D
/-- a display times an int -/
theorem f_rep1 (h : EvD te σ Hb d) (hb : EvD tb σ Hb (.int i)) (hi : i ≤ 100000) (h0 : -100000 ≤ i) : EvF (tOp rRep (tLst (tCons te tNil)) tb) σ Hb (.list (List.replicate i.toNat d)) := fun H x Q q =>
  h H x _ fun v Hb1 H1 w1 k1 => ⟨sz5 (by simp), fun l hl => (hb.up w1.eb).int (w1.sb.trans (Ex.new hl)) fun H2 e2 =>
    ⟨l, i, [v], rfl, rfl, e2 l _ upd_same, by omega, by omega, sz5 (by simp only [List.length_cons, List.length_nil]; omega), fun p hp => by
      refine q p _ _ (.after (w1.trans (.keep w1.sb ((Ex.new hl).trans e2))) (.laid ((w1.sb.trans (Ex.new hl)).trans e2) hp ?_))
      have h2 := DaAll.rep (DaAll.cons k1 .nil) i.toNat
      have e3 : (List.replicate i.toNat [d]).flatten = List.replicate i.toNat d := by
        generalize i.toNat = n
        induction n with
        | zero => rfl
        | succ n ih => rw [List.replicate_succ, List.flatten_cons, ih, List.replicate_succ] <;> rfl
      rw [e3] at h2
      exact h2⟩⟩
theorem f_rep1T {α : Type} {f : α → PyData} {y : α} (h : EvD te σ Hb (f y)) (hb : EvD tb σ Hb (.int i)) (hi : i ≤ 100000) (h0 : -100000 ≤ i) : EvF (tOp rRep (tLst (tCons te tNil)) tb) σ Hb (dL f (List.replicate i.toNat y)) := by
  have := f_rep1 h hb hi h0
  rw [show List.replicate i.toNat (f y) = (List.replicate i.toNat y).map f from (List.map_replicate).symm] at this
  exact this
/-! isinstance -/
def tyN : PyData → String
  | .none => "NoneType"
  | .bool _ => "bool"
  | .int _ => "int"
  | .str _ => "str"
  | .list _ => "list"
  | .tuple _ => "tuple"
  | .dict _ => "dict"
theorem Da.ty {H : Hp} {v : V} (k : Da H v d) : TyX K H v (.type (tyN d)) := by
  cases k with
  | non => exact .base .non
  | bl b => exact .base (.bl b)
  | int i => exact .base (.int i)
  | str x => exact .base (.str x)
  | lst hs _ =>
    rcases hs with h | ⟨o, h⟩
    · exact .base (.lst h)
    · exact .base (.frz h)
  | tup hs _ =>
    rcases hs with h | ⟨o, h⟩
    · exact .base (.tup h)
    · exact .fTuple h
  | dic h => exact .base (.dK h)
theorem d_isi {T : String} (h : EvD te σ Hb d) (hk : kitB (tyN d) T = some a) : EvD (tCB (rIsi K) (tCons te (tCons (tC (.ty T)) tNil))) σ Hb (.bool a) := .ofBool fun H x Q q =>
  h H x _ fun v Hb1 H1 w1 k1 => ⟨v, .ty T, .type (tyN d), .type T, a, rfl, .ty T, (k1.up w1.sb).ty, kit_ty hk, q H1 w1.eh⟩
theorem kit_int_int : kitB "int" "int" = some true := by decide +kernel
theorem kit_int_bool : kitB "int" "bool" = some false := by decide +kernel
theorem kit_bool_bool : kitB "bool" "bool" = some true := by decide +kernel
theorem kit_bool_int : kitB "bool" "int" = some true := by decide +kernel
theorem kit_list_list : kitB "list" "list" = some true := by decide +kernel
end
end Hg

namespace Hg
open PySem PySem.Spec PyProof.Rows L2 Evl

/-! ### defs and their promises -/
def Def (K : PySem.W.Frag) (mg : Str → Option Value) (x : Str) (st : Stmt) : Prop := ∃ (f : Addr) (fd : FuncData), Fun K x x st f fd ∧ mg x = some (.ref f)
def Has (P : Program) (w : World) (K : PySem.W.Frag) (mg : Str → Option Value) (base : Heap) (k : Nat) (x : Str) (ps : List Str) (sp : Sp) : Prop :=
  ∃ (f : Addr) (fd : FuncData), FnOk P w K mg base (L2.CX P w) k f fd ps sp ∧ mg x = some (.ref f) ∧ PySem.W.keepIn K (.ref f) = true ∧ Binds K fd ps []
theorem has_of {P : Program} {w : World} {K : PySem.W.Frag} {mg : Str → Option Value} {base : Heap} {x : Str} {st : Stmt} {N ps : List Str} {k : Nat} {sp : Sp} (D : Def K mg x st) (S : FnScope N ps (defScope st))
    (hb : ∀ (kV doc pm : Value) (an : Option Addr) (cdv ct : Value) (us : List Value), us.length = ps.length → bindArgs (PySem.W.fnOf x x (defArgs st) (defBody st) (defScope st) .none kV doc pm an cdv ct) ⟨us, []⟩ = pure (ps.zip us))
    (len : ∀ vs H Q E, sp vs H Q E → vs.length = ps.length)
    (hbody : ∀ (f : Addr) (cdv : Value) (A : Around) (outer : List Env) (s : Shared) (H : Hp) (vs : List V) (Q : VK) (E : XK), Room k (A.deeper (envOfC x (defScope st) s.heap.objs.size f cdv)) → sp vs H Q E →
      ∃ t, PSs (cxOf (L2.CX P w) P w K mg base N x (defScope st) f cdv A outer s H E) (defBody st) t ∧ t { nx := fun _ H' => Q .non H', rt := Q } (start N vs) H) : Has P w K mg base (k + 1) x ps sp := by
  obtain ⟨f, fd, F, g⟩ := D
  exact ⟨f, fd, F.okX S len fun cdv A outer s H vs Q E hr h => hbody f cdv A outer s H vs Q E hr h, g, F.kp, F.binds hb⟩
theorem peTo {X : Cx} {e : Expr} {t t' : TE} (h : PE X e t) (x : t = t') : PE X e t' := x ▸ h
def tCl (sp : Sp) (E : XK) (t : TA) : TE := fun σ H Q => t σ H fun vs H1 => sp vs H1 Q E
theorem tCl_eq (sp : Sp) (E : XK) (t : TA) : tCall sp [] E t = tCl sp E t := by
  funext σ H Q
  unfold tCall tCl
  simp only [List.append_nil]
section
variable {X : Cx} {k : Nat} {x : Str} {ps : List Str} {sp : Sp} {E : XK} {p pos : Pos} {e : Expr} {es : List Expr} {t : TA}
/-- f(e, ..), nothing is raised -/
theorem pe_cl (F : Has X.prog X.w X.K X.mg X.base k x ps sp) (hr : Room k X.A) (hg : Gl X x)
    (ha : PA X (e :: es) t) (hdb : (x == ("__debug__" : Str)) = false := by decide) (he : starEach (e :: es) X.env = (false, eval e X.env) :: starEach es X.env := by rfl) (hpl : (backTo pos (starEach es X.env)).any (·.1) = false := by rfl) :
    PE X (.Call (.Name x p) (e :: es) [] pos) (tCl sp E0 t) := by
  obtain ⟨f, fd, F, g, kp, b⟩ := F
  exact peTo (pe_call F hr hg g kp b .nil passL ha hdb he hpl) (tCl_eq sp E0 t)
theorem pe_cl0 (F : Has X.prog X.w X.K X.mg X.base k x ps sp) (hr : Room k X.A) (hg : Gl X x) (hdb : (x == ("__debug__" : Str)) = false := by decide) : PE X (.Call (.Name x p) [] [] pos) (tCl sp E0 tNil) := by
  obtain ⟨f, fd, F, g, kp, b⟩ := F
  exact peTo (pe_call0 F hr hg g kp b .nil passL hdb) (tCl_eq sp E0 tNil)
end
/-- from data to data -/
def Ct (R : List PyData → PyData → Prop) : Sp := fun vs H Q _ => ∃ (Hb : Hp) (ds : List PyData) (d : PyData), Ex Hb H ∧ DaAll Hb vs ds ∧ R ds d ∧ ∀ v Hb' H', Wd Hb H Hb' H' → Da Hb' v d → Q v H'
/-- .. to a new object -/
def CtF (R : List PyData → PyData → Prop) : Sp := fun vs H Q _ => ∃ (Hb : Hp) (ds : List PyData) (d : PyData), Ex Hb H ∧ DaAll Hb vs ds ∧ R ds d ∧ ∀ p Hb' H', Own Hb H p d Hb' H' → Q (.ref p) H'
theorem Ct.len {R : List PyData → PyData → Prop} {n : Nat} (h : ∀ ds d, R ds d → ds.length = n) : ∀ vs H Q E, Ct R vs H Q E → vs.length = n := fun vs H Q E z => by
  obtain ⟨Hb, ds, d, _, a, r, _⟩ := z
  rw [a.len]
  exact h ds d r
theorem CtF.len {R : List PyData → PyData → Prop} {n : Nat} (h : ∀ ds d, R ds d → ds.length = n) : ∀ vs H Q E, CtF R vs H Q E → vs.length = n := fun vs H Q E z => by
  obtain ⟨Hb, ds, d, _, a, r, _⟩ := z
  rw [a.len]
  exact h ds d r
section
variable {K : PySem.W.Frag} {σ : L2.St} {Hb Hc H H0 Hb0 : Hp} {ta tb tc te : TE} {t u : TT} {d e : PyData} {i j : Int} {a b : Bool} {tr ts : TA} {ds es : List PyData} {R : List PyData → PyData → Prop} {E : XK}
theorem d_call (h : EvAs ts σ Hb ds) (r : R ds d) : EvD (tCl (Ct R) E ts) σ Hb d := fun H x Q q =>
  h H x _ fun vs Hb1 H1 w1 k1 => ⟨Hb1, ds, d, w1.sb, k1, r, fun v Hb' H' w k => q v Hb' H' (w1.trans w) k⟩
theorem f_call (h : EvAs ts σ Hb ds) (r : R ds d) : EvF (tCl (CtF R) E ts) σ Hb d := fun H x Q q =>
  h H x _ fun vs Hb1 H1 w1 k1 => ⟨Hb1, ds, d, w1.sb, k1, r, fun p Hb' H' o => q p Hb' H' (.after w1 o)⟩

theorem Ex.with {l : Addr} {o : HO} (e : Ex Hb H) (h : H l = some o) : Ex (upd Hb l o) H := fun b u q => by
  by_cases hb : b = l
  · subst hb; rw [upd_same] at q; cases q; exact h
  · rw [upd_ne hb] at q; exact e b u q
theorem lt_of_get {α : Type} {xs : List α} {i : Nat} {x : α} (h : xs[i]? = some x) : i < xs.length := (List.getElem?_eq_some_iff.mp h).1
/-! ### statements; the rest behind -/
variable {D : Ends} {tu tw tz : TS} {g : TG} {n : Nat}
theorem s_asg (x : Ex Hb H) (h : EvD te σ Hb d) (k : ∀ v Hb' H', Wd Hb H Hb' H' → Da Hb' v d → D.nx (σ.set n (some v)) H') : tAsg te (gName n) D σ H := h H x _ k
theorem s_asgF (x : Ex Hb H) (h : EvF te σ Hb d) (k : ∀ p Hb' H', Own Hb H p d Hb' H' → D.nx (σ.set n (some (.ref p))) H') : tAsg te (gName n) D σ H := h H x _ k
theorem s_asgI (x : Ex Hb H) (h : EvD te σ Hb (.int i)) (k : ∀ H', Ex H H' → D.nx (σ.set n (some (.int i))) H') : tAsg te (gName n) D σ H := h.int x k
theorem s_asgB (x : Ex Hb H) (h : EvD te σ Hb (.bool a)) (k : ∀ H', Ex H H' → D.nx (σ.set n (some (.bl a))) H') : tAsg te (gName n) D σ H := h.bool x k
theorem q_asg (x : Ex Hb H) (h : EvD te σ Hb d) (k : ∀ v Hb' H', Wd Hb H Hb' H' → Da Hb' v d → tz D (σ.set n (some v)) H') : tSeq (tAsg te (gName n)) tz D σ H := h H x _ k
theorem q_asgF (x : Ex Hb H) (h : EvF te σ Hb d) (k : ∀ p Hb' H', Own Hb H p d Hb' H' → tz D (σ.set n (some (.ref p))) H') : tSeq (tAsg te (gName n)) tz D σ H := h H x _ k
theorem q_asgI (x : Ex Hb H) (h : EvD te σ Hb (.int i)) (k : ∀ H', Ex H H' → tz D (σ.set n (some (.int i))) H') : tSeq (tAsg te (gName n)) tz D σ H := h.int x k
theorem q_asgB (x : Ex Hb H) (h : EvD te σ Hb (.bool a)) (k : ∀ H', Ex H H' → tz D (σ.set n (some (.bl a))) H') : tSeq (tAsg te (gName n)) tz D σ H := h.bool x k
theorem s_ret (x : Ex Hb H) (h : EvD te σ Hb d) (k : ∀ v Hb' H', Wd Hb H Hb' H' → Da Hb' v d → D.rt v H') : tRet te D σ H := h H x _ k
theorem s_retF (x : Ex Hb H) (h : EvF te σ Hb d) (k : ∀ p Hb' H', Own Hb H p d Hb' H' → D.rt (.ref p) H') : tRet te D σ H := h H x _ k
theorem s_retI (x : Ex Hb H) (h : EvD te σ Hb (.int i)) (k : ∀ H', Ex H H' → D.rt (.int i) H') : tRet te D σ H := h.int x k
theorem s_retB (x : Ex Hb H) (h : EvD te σ Hb (.bool a)) (k : ∀ H', Ex H H' → D.rt (.bl a) H') : tRet te D σ H := h.bool x k
theorem s_drop (x : Ex Hb H) (h : EvD te σ Hb d) (k : ∀ H', Ex H H' → D.nx σ H') : tDrop te D σ H := h H x _ fun _ _ H' w _ => k H' w.eh
theorem q_drop (x : Ex Hb H) (h : EvD te σ Hb d) (k : ∀ H', Ex H H' → tz D σ H') : tSeq (tDrop te) tz D σ H := h H x _ fun _ _ H' w _ => k H' w.eh
theorem s_if (x : Ex Hb H) (h : EvB t σ Hb a) (h1 : a = true → ∀ H1, Ex H H1 → tu D σ H1) (h2 : a = false → ∀ H1, Ex H H1 → tw D σ H1) : tIfS t tu tw D σ H := h H x _ fun H1 e => by
  cases a with
  | true =>
    show tu D σ H1
    exact h1 rfl H1 e
  | false =>
    show tw D σ H1
    exact h2 rfl H1 e
theorem q_if (x : Ex Hb H) (h : EvB t σ Hb a) (h1 : a = true → ∀ H1, Ex H H1 → tu { D with nx := tz D } σ H1) (h2 : a = false → ∀ H1, Ex H H1 → tw { D with nx := tz D } σ H1) : tSeq (tIfS t tu tw) tz D σ H := s_if (D := { D with nx := tz D }) x h h1 h2
/-- an if without else -/
theorem q_when (x : Ex Hb H) (h : EvB t σ Hb a) (h1 : a = true → ∀ H1, Ex H H1 → tu { D with nx := tz D } σ H1) (h2 : a = false → ∀ H1, Ex H H1 → tz D σ H1) : tSeq (tIfS t tu tNext) tz D σ H := s_if (D := { D with nx := tz D }) x h h1 h2
theorem s_when (x : Ex Hb H) (h : EvB t σ Hb a) (h1 : a = true → ∀ H1, Ex H H1 → tu D σ H1) (h2 : a = false → ∀ H1, Ex H H1 → D.nx σ H1) : tIfS t tu tNext D σ H := s_if x h h1 h2
/-- an if whose way is shut -/
theorem q_no (x : Ex Hb H) (h : EvB t σ Hb false) (h2 : ∀ H1, Ex H H1 → tz D σ H1) : tSeq (tIfS t tu tNext) tz D σ H := q_when x h (fun z => nomatch z) fun _ => h2
theorem s_no (x : Ex Hb H) (h : EvB t σ Hb false) (h2 : ∀ H1, Ex H H1 → D.nx σ H1) : tIfS t tu tNext D σ H := s_when x h (fun z => nomatch z) fun _ => h2
theorem Own.vals {Hb' H' : Hp} {p : Addr} {α : Type} {f : α → PyData} {xs : List α} (o : Own Hb H p (dL f xs) Hb' H') : ∃ vs, H' p = some (.lst vs) ∧ DaAll Hb' vs (xs.map f) := by
  obtain ⟨vs, es, e, h1, h2⟩ := o.it
  have e2 := PyData.list.inj e
  subst e2
  exact ⟨vs, h1, h2⟩
theorem Own.ints {Hb' H' : Hp} {p : Addr} {ns : List Int} (o : Own Hb H p (dI ns) Hb' H') : H' p = some (.lst (ns.map V.int)) := by
  obtain ⟨vs, h1, h2⟩ := o.vals
  rw [h2.toInts] at h1
  exact h1
/-- what is ours and a list of d's is what a promise of a new list asks -/
theorem Own.of {Hb0 H0 Hb' H' : Hp} {p : Addr} {vs : List V} {es : List PyData} (w : Wd Hb0 H0 Hb' H') (n : H0 p = none) (u : Hb' p = none) (h : H' p = some (.lst vs)) (a : DaAll Hb' vs es) : Own Hb0 H0 p (.list es) Hb' H' := ⟨w, n, u, vs, es, rfl, h, a⟩
/-- x = []: ours -/
theorem q_nil (k : ∀ l, H l = none → tz D (σ.set n (some (.ref l))) (upd H l (.lst []))) : tSeq (tAsg (tLst tNil) (gName n)) tz D σ H := ⟨Nat.zero_le _, k⟩
/-- l.append(e), l owned -/
theorem s_app {l : Addr} {xs : List V} (x : Ex Hb H) (hs : σ[n]? = some (some (.ref l))) (hl : H l = some (.lst xs)) (h : EvD te σ Hb d) (hz : xs.length < 100000)
    (k : ∀ v Hb' H', Wd Hb H Hb' H' → Da Hb' v d → H' l = some (.lst xs) → D.nx σ (upd H' l (.lst (xs ++ [v])))) : tDrop (tBM K "list" rAppend (tVar n) (tCons te tNil)) D σ H :=
  ⟨_, hs, .inl ⟨rfl, xs, sq_of hl⟩, h H x _ fun v Hb' H' w kk => ⟨l, xs, v, rfl, rfl, w.eh l _ hl, sl5 hz, k v Hb' H' w kk (w.eh l _ hl)⟩⟩
theorem q_app {l : Addr} {xs : List V} (x : Ex Hb H) (hs : σ[n]? = some (some (.ref l))) (hl : H l = some (.lst xs)) (h : EvD te σ Hb d) (hz : xs.length < 100000)
    (k : ∀ v Hb' H', Wd Hb H Hb' H' → Da Hb' v d → H' l = some (.lst xs) → tz D σ (upd H' l (.lst (xs ++ [v])))) : tSeq (tDrop (tBM K "list" rAppend (tVar n) (tCons te tNil))) tz D σ H := s_app (D := { D with nx := tz D }) x hs hl h hz k
/-- l[i] = e, l owned -/
theorem s_setAt {l : Addr} {xs : List V} (x : Ex Hb H) (hs : σ[n]? = some (some (.ref l))) (hl : H l = some (.lst xs)) (h : EvD te σ Hb d) (hi : EvD tb σ Hb (.int i)) (h0 : 0 ≤ i) (h1 : i < xs.length)
    (k : ∀ v Hb' H', Wd Hb H Hb' H' → Da Hb' v d → H' l = some (.lst xs) → D.nx σ (upd H' l (.lst (xs.set i.toNat v)))) : tAsg te (gSub (tVar n) tb rSetL) D σ H :=
  h H x _ fun v Hb' H' w kk => ⟨_, hs, (hi.up w.eb).int w.sb fun H2 e2 => ⟨l, xs, i, i.toNat, rfl, rfl, e2 l _ (w.eh l _ hl), by
    have e : i = ((i.toNat : Nat) : Int) := by omega
    rw [e]
    exact ixN_nat (by omega), k v Hb' H2 (w.trans (.keep w.sb e2)) kk (e2 l _ (w.eh l _ hl))⟩⟩
theorem q_setAt {l : Addr} {xs : List V} (x : Ex Hb H) (hs : σ[n]? = some (some (.ref l))) (hl : H l = some (.lst xs)) (h : EvD te σ Hb d) (hi : EvD tb σ Hb (.int i)) (h0 : 0 ≤ i) (h1 : i < xs.length)
    (k : ∀ v Hb' H', Wd Hb H Hb' H' → Da Hb' v d → H' l = some (.lst xs) → tz D σ (upd H' l (.lst (xs.set i.toNat v)))) : tSeq (tAsg te (gSub (tVar n) tb rSetL)) tz D σ H := s_setAt (D := { D with nx := tz D }) x hs hl h hi h0 h1 k

/-! ### what is walked: n items, each told by how the slots change -/
def Src (wi : TI) (g : TG) (σ : L2.St) (Hb : Hp) (n : Nat) (up : Nat → Hp → (L2.St → L2.St) → Prop) : Prop :=
  ∀ H, Ex Hb H → ∀ R : It → Hp → Prop, (∀ (J : It) (Hb1 H1 : Hp), Wd Hb H Hb1 H1 → (∀ i H2, i < n → Ex Hb1 H2 → J.go i H2) → (∀ H2, Ex Hb1 H2 → J.stop n H2) →
    (∀ i H2 x H3, i < n → Ex Hb1 H2 → J.yld i H2 x H3 → ∃ f, up i Hb1 f ∧ Ex H2 H3 ∧ ∀ (σ' : L2.St) (Q : L2.St → Hp → Prop), Q (f σ') H3 → g x σ' H3 Q) → R J H1) → wi σ H R
def upN (n : Nat) (ds : List PyData) : Nat → Hp → (L2.St → L2.St) → Prop := fun i Hb1 f => ∃ v d, ds[i]? = some d ∧ Da Hb1 v d ∧ f = fun σ => σ.set n (some v)
def upR (n : Nat) (g : Nat → Int) : Nat → Hp → (L2.St → L2.St) → Prop := fun i _ f => f = fun σ => σ.set n (some (.int (g i)))
def upE (n m : Nat) (ds : List PyData) : Nat → Hp → (L2.St → L2.St) → Prop := fun i Hb1 f => ∃ v d, ds[i]? = some d ∧ Da Hb1 v d ∧ f = fun σ => (σ.set n (some (.int (i : Nat)))).set m (some v)
def upZ (n m : Nat) (ds es : List PyData) : Nat → Hp → (L2.St → L2.St) → Prop := fun i Hb1 f => ∃ v d w e, ds[i]? = some d ∧ Da Hb1 v d ∧ es[i]? = some e ∧ Da Hb1 w e ∧ f = fun σ => (σ.set n (some v)).set m (some w)
theorem src_list {m : Nat} (h : EvD te σ Hb (.list ds)) : Src (iList K te) (gName m) σ Hb ds.length (upN m ds) := fun H x R q =>
  h H x _ fun v Hb1 H1 w1 k1 => by
    cases k1 with
    | @lst a xs _ hs ha =>
      refine ⟨a, rfl, ⟨xs, .inl (ex_rd w1.sb hs)⟩, q _ Hb1 H1 w1 (fun i H2 hi e => ?_) (fun H2 e => ?_) fun i H2 y H3 hi e hy => ?_⟩
      · exact ⟨xs, xs[i]'(by rw [ha.len]; exact hi), .inl (ex_rd e hs), List.getElem?_eq_getElem _⟩
      · exact ⟨xs, .inl (ex_rd e hs), by rw [ha.len]; exact Nat.le_refl _⟩
      · obtain ⟨rfl, hy⟩ := hy
        obtain ⟨d, h1, h2⟩ := ha.at (hy xs (.inl (ex_rd e hs)))
        exact ⟨_, ⟨y, d, h1, h2, rfl⟩, Ex.refl _, fun _ _ h => h⟩
theorem src_range1 {m : Nat} (h : EvD te σ Hb (.int j)) (h1 : -1000000 ≤ j) (h2 : j ≤ 1000000) : Src (iRng1 (tCons te tNil)) (gName m) σ Hb j.toNat (upR m fun i => (i : Nat)) := fun H x R q =>
  h.int x fun H1 e1 => ⟨j, rfl, by omega, by omega, q _ Hb H1 (.keep x e1) (fun i H2 hi e => hi) (fun H2 e => Nat.le_refl _) fun i H2 y H3 hi e hy => by
    obtain ⟨rfl, rfl⟩ := hy
    exact ⟨_, rfl, Ex.refl _, fun _ _ h => by rw [Int.zero_add]; exact h⟩⟩
theorem src_range2 {m : Nat} (ha : EvD ta σ Hb (.int i)) (hb : EvD tb σ Hb (.int j)) (h1 : -1000000 ≤ i) (h2 : i ≤ 1000000) (h3 : -1000000 ≤ j) (h4 : j ≤ 1000000) : Src (iRng2 (tCons ta (tCons tb tNil))) (gName m) σ Hb (j - i).toNat (upR m fun k => i + (k : Nat)) := fun H x R q =>
  ha.int x fun H1 e1 => hb.int (x.trans e1) fun H2 e2 => ⟨i, j, rfl, ⟨by omega, by omega, by omega, by omega⟩, q _ Hb H2 (.keep x (e1.trans e2)) (fun i H2 hi e => hi) (fun H2 e => Nat.le_refl _) fun i H2 y H3 hi e hy => by
    obtain ⟨rfl, rfl⟩ := hy
    exact ⟨_, rfl, Ex.refl _, fun _ _ h => h⟩⟩
theorem src_range3 {m n : Nat} {c : Int} (ha : EvD ta σ Hb (.int i)) (hb : EvD tb σ Hb (.int j)) (hc : EvD tc σ Hb (.int c)) (hr : RgC i j c n) : Src (iRng3 (tCons ta (tCons tb (tCons tc tNil)))) (gName m) σ Hb n (upR m fun k => i + (k : Nat) * c) := fun H x R q =>
  ha.int x fun H1 e1 => hb.int (x.trans e1) fun H2 e2 => hc.int ((x.trans e1).trans e2) fun H3 e3 => ⟨i, j, c, n, rfl, hr, q _ Hb H3 (.keep x ((e1.trans e2).trans e3)) (fun i H2 hi e => hi) (fun H2 e => Nat.le_refl _) fun i H2 y H3 hi e hy => by
    obtain ⟨rfl, rfl⟩ := hy
    exact ⟨_, rfl, Ex.refl _, fun _ _ h => h⟩⟩
theorem src_enum {m1 m2 : Nat} (h : EvD te σ Hb (.list ds)) : Src (iEnum K (tCons te tNil)) (gTup K 2 (gCons (gName m1) (gCons (gName m2) gNil))) σ Hb ds.length (upE m1 m2 ds) := fun H x R q =>
  h H x _ fun v Hb1 H1 w1 k1 => by
    cases k1 with
    | @lst a xs _ hs ha =>
      refine ⟨a, xs, rfl, .inl (ex_rd w1.sb hs), q _ Hb1 H1 w1 (fun i H2 hi e => ?_) (fun H2 e => ?_) fun i H2 y H3 hi e hy => ?_⟩
      · exact ⟨xs, xs[i]'(by rw [ha.len]; exact hi), .inl (ex_rd e hs), List.getElem?_eq_getElem _⟩
      · exact ⟨xs, .inl (ex_rd e hs), by rw [ha.len]; exact Nat.le_refl _⟩
      · obtain ⟨T, z, rfl, hT, rfl, hy⟩ := hy
        obtain ⟨d, h1, h2⟩ := ha.at (hy xs (.inl (ex_rd e hs)))
        exact ⟨_, ⟨z, d, h1, h2, rfl⟩, Ex.new hT, fun _ _ h => ⟨T, _, rfl, .inl (.inl upd_same), rfl, _, _, rfl, _, _, rfl, rfl, h⟩⟩
theorem src_zip {m1 m2 : Nat} (h : EvD ta σ Hb (.list ds)) (h' : EvD tb σ Hb (.list es)) : Src (iZip K (tCons ta (tCons tb tNil))) (gTup K 2 (gCons (gName m1) (gCons (gName m2) gNil))) σ Hb (min ds.length es.length) (upZ m1 m2 ds es) := fun H x R q =>
  h H x _ fun v Hb1 H1 w1 k1 => (h'.up w1.eb) H1 w1.sb _ fun v2 Hb2 H2 w2 k2 => by
    have k1 := k1.up w2.eb
    cases k1 with
    | @lst a xs _ hs ha =>
      cases k2 with
      | @lst b ys _ hs' ha' =>
        refine ⟨a, b, xs, ys, rfl, .inl (ex_rd w2.sb hs), .inl (ex_rd w2.sb hs'), q _ Hb2 H2 (w1.trans w2) (fun i H2 hi e => ?_) (fun H2 e => ?_) fun i H2 y H3 hi e hy => ?_⟩
        · exact ⟨xs, ys, xs[i]'(by rw [ha.len]; omega), ys[i]'(by rw [ha'.len]; omega), .inl (ex_rd e hs), .inl (ex_rd e hs'), List.getElem?_eq_getElem _, List.getElem?_eq_getElem _⟩
        · refine ⟨xs, ys, .inl (ex_rd e hs), .inl (ex_rd e hs'), ?_⟩
          rw [ha.len, ha'.len]
          omega
        · obtain ⟨T, z, z', rfl, hT, rfl, hy, hy'⟩ := hy
          obtain ⟨d, h1, h2⟩ := ha.at (hy xs (.inl (ex_rd e hs)))
          obtain ⟨d', h1', h2'⟩ := ha'.at (hy' ys (.inl (ex_rd e hs')))
          exact ⟨_, ⟨z, d, z', d', h1, h2, h1', h2', rfl⟩, Ex.new hT, fun _ _ h => ⟨T, _, rfl, .inl (.inl upd_same), rfl, _, _, rfl, _, _, rfl, rfl, h⟩⟩
/-! ### for -/
theorem s_for {wi : TI} {up : Nat → Hp → (L2.St → L2.St) → Prop} (x : Ex Hb H) (S : Src wi g σ Hb n up) (k : ∀ Hb1 H1, Wd Hb H Hb1 H1 → ∃ Pv : Nat → L2.St → Hp → Prop, Pv 0 σ H1 ∧ (∀ i σ' H', Pv i σ' H' → Ex Hb1 H') ∧
      (∀ i f σ' H' H'', i < n → up i Hb1 f → Pv i σ' H' → Ex H' H'' → tu { D with nx := Pv (i + 1), ct := Pv (i + 1), bk := D.nx } (f σ') H'') ∧ ∀ σ' H', Pv n σ' H' → D.nx σ' H') : tFor wi g tu D σ H :=
  S H x _ fun J Hb1 H1 w1 go stop yld => by
    obtain ⟨Pv, h0, hx, hs, hd⟩ := k Hb1 H1 w1
    refine ⟨fun i m σ H => m = n - i ∧ i ≤ n ∧ Pv i σ H, ⟨n, by simp, Nat.zero_le _, h0⟩, ?_⟩
    rintro i m σ H ⟨rfl, hi, p⟩
    by_cases hlt : i < n
    · refine .inr ⟨go i H hlt (hx i σ H p), Pv (i + 1), fun σ' H' p' => ⟨n - (i + 1), by omega, rfl, hlt, p'⟩, fun x H' y => ?_⟩
      obtain ⟨f, hu, e, hg⟩ := yld i H x H' hlt (hx i σ H p) y
      exact hg σ _ (hs i f σ H H' hlt hu p e)
    · have e : i = n := by omega
      subst e
      exact .inl ⟨stop H (hx _ σ H p), hd σ H p⟩
theorem q_for {wi : TI} {up : Nat → Hp → (L2.St → L2.St) → Prop} (x : Ex Hb H) (S : Src wi g σ Hb n up) (k : ∀ Hb1 H1, Wd Hb H Hb1 H1 → ∃ Pv : Nat → L2.St → Hp → Prop, Pv 0 σ H1 ∧ (∀ i σ' H', Pv i σ' H' → Ex Hb1 H') ∧
      (∀ i f σ' H' H'', i < n → up i Hb1 f → Pv i σ' H' → Ex H' H'' → tu { D with nx := Pv (i + 1), ct := Pv (i + 1), bk := tz D } (f σ') H'') ∧ ∀ σ' H', Pv n σ' H' → tz D σ' H') : tSeq (tFor wi g tu) tz D σ H := s_for (D := { D with nx := tz D }) x S k
/-! ### comprehensions -/
def kept {γ : Type} (p : γ → Bool) (f : γ → PyData) (zs : List γ) : List PyData := (zs.filter p).map f
theorem kept_snoc {γ : Type} {p : γ → Bool} {f : γ → PyData} {zs : List γ} {k : Nat} {z : γ} (h : zs[k]? = some z) : kept p f (zs.take (k + 1)) = kept p f (zs.take k) ++ (if p z = true then [f z] else []) := by
  unfold kept
  rw [List.take_add_one, h, List.filter_append, List.map_append]
  cases hp : p z <;> simp [hp]
theorem kept_len {γ : Type} (p : γ → Bool) (f : γ → PyData) (zs : List γ) : (kept p f zs).length ≤ zs.length := by
  unfold kept
  rw [List.length_map]
  exact List.length_filter_le _ _
theorem f_lc {γ : Type} {wi : TI} {vs : List Nat} {up : Nat → Hp → (L2.St → L2.St) → Prop} {tt : TT} {zs : List γ} (p : γ → Bool) (f : γ → PyData) (S : Src wi g σ Hb n up) (hn : n = zs.length) (hz : zs.length ≤ 50000)
    (hw : ∀ i Hb1 f, up i Hb1 f → wipe (f (wipe σ vs)) vs = wipe σ vs)
    (ht : ∀ (i : Nat) z Hb1 f, zs[i]? = some z → Ex Hb Hb1 → up i Hb1 f → EvB tt (f (wipe σ vs)) Hb1 (p z))
    (he : ∀ (i : Nat) z Hb1 f', zs[i]? = some z → Ex Hb Hb1 → up i Hb1 f' → p z = true → EvD te (f' (wipe σ vs)) Hb1 (f z)) : EvF (tLc wi g tt te vs) σ Hb (.list (kept p f zs)) := fun H x Q q =>
  S H x _ fun J Hb1 H1 w1 go stop yld => fun L hL => by
    refine ⟨fun i m H' => m = n - i ∧ i ≤ n ∧ ∃ Hb' acc, Wd Hb1 H1 Hb' H' ∧ Hb' L = none ∧ H' L = some (.lst acc) ∧ DaAll Hb' acc (kept p f (zs.take i)), ⟨n, by simp, Nat.zero_le _, Hb1, [], ⟨Ex.refl _, Ex.own w1.sb (none_of w1.sb hL), Ex.new hL, fun _ _ h => .inl h⟩, none_of w1.sb hL, upd_same, ?_⟩, ?_⟩
    · rw [List.take_zero]
      exact .nil
    rintro i m H' ⟨rfl, hi, Hb', acc, w, hLb, hLH, hacc⟩
    have exb : Ex Hb1 H' := w.eb.trans w.sb
    by_cases hlt : i < n
    · refine .inr ⟨go i H' hlt exb, fun H' => ∃ Hb' acc, Wd Hb1 H1 Hb' H' ∧ Hb' L = none ∧ H' L = some (.lst acc) ∧ DaAll Hb' acc (kept p f (zs.take (i + 1))), fun H' p' => ⟨n - (i + 1), by omega, rfl, hlt, p'⟩, fun y H2 hy => ?_⟩
      obtain ⟨f', hu, e2, hg⟩ := yld i H' y H2 hlt exb hy
      have hzi : zs[i]? = some (zs[i]'(by omega)) := List.getElem?_eq_getElem (by omega)
      refine hg (wipe σ vs) _ ⟨hw i Hb1 f' hu, ?_⟩
      have sb2 : Ex Hb' H2 := w.sb.trans e2
      refine (ht i _ Hb1 f' hzi w1.eb hu).up w.eb H2 sb2 _ fun H3 e3 => ?_
      cases hp : p (zs[i]'(by omega)) with
      | true =>
        show te _ H3 _
        refine (he i _ Hb1 f' hzi w1.eb hu hp).up w.eb H3 (sb2.trans e3) _ fun v Hb4 H4 w4 k4 => ?_
        have hL3 : H3 L = some (.lst acc) := e3 _ _ (e2 _ _ hLH)
        have hL4 : Hb4 L = none := w4.out hLb hL3
        refine ⟨acc, w4.eh _ _ hL3, sl5 ?_, Hb4, acc ++ [v], ⟨w.eb.trans w4.eb, Ex.own w4.sb hL4, ?_, fun b o hbo => ?_⟩, hL4, upd_same, ?_⟩
        · have h1 := hacc.len
          have h2 := kept_len p f (zs.take i)
          rw [List.length_take] at h2
          omega
        · exact Ex.mut ((w.eh.trans (e2.trans e3)).trans w4.eh) hL
        · rcases w4.ft b o hbo with z | z
          · exact w.ft b o z
          · exact .inr (none_of (w.eh.trans (e2.trans e3)) z)
        · rw [kept_snoc hzi, if_pos hp]
          exact (hacc.up w4.eb).append (.cons k4 .nil)
      | false =>
        refine ⟨Hb', acc, ⟨w.eb, sb2.trans e3, w.eh.trans (e2.trans e3), w.ft⟩, hLb, e3 _ _ (e2 _ _ hLH), ?_⟩
        rw [kept_snoc hzi, if_neg (by rw [hp]; decide), List.append_nil]
        exact hacc
    · have e : i = n := by omega
      subst e
      refine .inl ⟨stop H' exb, q L Hb' H' ⟨w1.trans ⟨w.eb, w.sb, w.eh, w.ft⟩, none_of w1.eh hL, hLb, acc, _, rfl, hLH, ?_⟩⟩
      rw [hn, List.take_length] at hacc
      exact hacc
/-! by what is walked: a list, a range, enumerate, zip -/
section
variable {α β γ : Type} {f : α → PyData} {fb : γ → PyData} {e2 : β → PyData} {xs : List α} {ys : List γ} {vs : List Nat} {m m1 m2 : Nat} {tt : TT}
theorem kept_map {γ : Type} {r : γ → β} {zs : List γ} {p : γ → Bool} : kept p (fun z => e2 (r z)) zs = ((zs.filter p).map r).map e2 := by
  unfold kept
  rw [List.map_map]
  rfl
theorem kept_all {γ : Type} {r : γ → β} {zs : List γ} : kept (fun _ => true) (fun z => e2 (r z)) zs = (zs.map r).map e2 := by
  rw [kept_map, List.filter_eq_self.mpr (fun _ _ => rfl)]
theorem lcL (p : α → Bool) (r : α → β) (h : EvD ta σ Hb (dL f xs)) (hw : ∀ v, wipe ((wipe σ vs).set m (some v)) vs = wipe σ vs)
    (ht : ∀ (i : Nat) x v Hb1, xs[i]? = some x → Ex Hb Hb1 → Da Hb1 v (f x) → EvB tt ((wipe σ vs).set m (some v)) Hb1 (p x))
    (he : ∀ (i : Nat) x v Hb1, xs[i]? = some x → Ex Hb Hb1 → Da Hb1 v (f x) → p x = true → EvD te ((wipe σ vs).set m (some v)) Hb1 (e2 (r x))) (hz : xs.length ≤ 50000) : EvF (tLc (iList K ta) (gName m) tt te vs) σ Hb (dL e2 ((xs.filter p).map r)) := by
  have key : ∀ (i : Nat) x d, xs[i]? = some x → (xs.map f)[i]? = some d → d = f x := fun i x d h1 h2 => by
    rw [List.getElem?_map, h1] at h2
    exact (Option.some.inj h2).symm
  refine (f_lc (zs := xs) p (fun z => e2 (r z)) (src_list h) (by rw [List.length_map]) hz (fun i Hb1 f' hu => ?_) (fun i z Hb1 f' hi hx hu => ?_) (fun i z Hb1 f' hi hx hu hp => ?_)).is (by rw [kept_map] <;> rfl)
  · obtain ⟨v, d, _, _, rfl⟩ := hu
    exact hw v
  · obtain ⟨v, d, h1, h2, rfl⟩ := hu
    cases key i z d hi h1
    exact ht i z v Hb1 hi hx h2
  · obtain ⟨v, d, h1, h2, rfl⟩ := hu
    cases key i z d hi h1
    exact he i z v Hb1 hi hx h2 hp
theorem lcLm (r : α → β) (h : EvD ta σ Hb (dL f xs)) (hw : ∀ v, wipe ((wipe σ vs).set m (some v)) vs = wipe σ vs)
    (he : ∀ (i : Nat) x v Hb1, xs[i]? = some x → Ex Hb Hb1 → Da Hb1 v (f x) → EvD te ((wipe σ vs).set m (some v)) Hb1 (e2 (r x))) (hz : xs.length ≤ 50000) : EvF (tLc (iList K ta) (gName m) tYes te vs) σ Hb (dL e2 (xs.map r)) := by
  refine (lcL (fun _ => true) r h hw (fun i x v Hb1 _ _ _ => t_yes) (fun i x v Hb1 h1 h2 h3 _ => he i x v Hb1 h1 h2 h3) hz).is ?_
  rw [List.filter_eq_self.mpr (fun _ _ => rfl)]
theorem lcR (p : Nat → Bool) (r : Nat → β) (h : EvD ta σ Hb (.int j)) (hw : ∀ v, wipe ((wipe σ vs).set m (some v)) vs = wipe σ vs)
    (ht : ∀ (i : Nat) Hb1, (i : Int) < j → Ex Hb Hb1 → EvB tt ((wipe σ vs).set m (some (.int (i : Nat)))) Hb1 (p i))
    (he : ∀ (i : Nat) Hb1, (i : Int) < j → Ex Hb Hb1 → p i = true → EvD te ((wipe σ vs).set m (some (.int (i : Nat)))) Hb1 (e2 (r i))) (h1 : -1000000 ≤ j) (hz : j ≤ 50000) :
    EvF (tLc (iRng1 (tCons ta tNil)) (gName m) tt te vs) σ Hb (dL e2 (((List.range j.toNat).filter p).map r)) := by
  have key : ∀ (i : Nat) z, (List.range j.toNat)[i]? = some z → z = i ∧ (i : Int) < j := fun i z h => by
    obtain ⟨h3, h4⟩ := List.getElem?_eq_some_iff.mp h
    rw [List.getElem_range] at h4
    rw [List.length_range] at h3
    omega
  refine (f_lc (zs := List.range j.toNat) p (fun z => e2 (r z)) (src_range1 h h1 (by omega)) (by rw [List.length_range]) (by rw [List.length_range]; omega) (fun i Hb1 f' hu => ?_) (fun i z Hb1 f' hi hx hu => ?_) (fun i z Hb1 f' hi hx hu hp => ?_)).is (by rw [kept_map] <;> rfl)
  · cases hu
    exact hw _
  · obtain ⟨rfl, hl⟩ := key i z hi
    cases hu
    exact ht z Hb1 hl hx
  · obtain ⟨rfl, hl⟩ := key i z hi
    cases hu
    exact he z Hb1 hl hx hp
theorem lcRm (r : Nat → β) (h : EvD ta σ Hb (.int j)) (hw : ∀ v, wipe ((wipe σ vs).set m (some v)) vs = wipe σ vs)
    (he : ∀ (i : Nat) Hb1, (i : Int) < j → Ex Hb Hb1 → EvD te ((wipe σ vs).set m (some (.int (i : Nat)))) Hb1 (e2 (r i))) (h1 : -1000000 ≤ j) (hz : j ≤ 50000) :
    EvF (tLc (iRng1 (tCons ta tNil)) (gName m) tYes te vs) σ Hb (dL e2 ((List.range j.toNat).map r)) := by
  refine (lcR (fun _ => true) r h hw (fun i Hb1 _ _ => t_yes) (fun i Hb1 h1 h2 _ => he i Hb1 h1 h2) h1 hz).is ?_
  rw [List.filter_eq_self.mpr (fun _ _ => rfl)]
theorem lcE (p : α × Nat → Bool) (r : α × Nat → β) (h : EvD ta σ Hb (dL f xs)) (hw : ∀ v v2, wipe (((wipe σ vs).set m1 (some v)).set m2 (some v2)) vs = wipe σ vs)
    (ht : ∀ (i : Nat) x v Hb1, xs[i]? = some x → Ex Hb Hb1 → Da Hb1 v (f x) → EvB tt (((wipe σ vs).set m1 (some (.int (i : Nat)))).set m2 (some v)) Hb1 (p (x, i)))
    (he : ∀ (i : Nat) x v Hb1, xs[i]? = some x → Ex Hb Hb1 → Da Hb1 v (f x) → p (x, i) = true → EvD te (((wipe σ vs).set m1 (some (.int (i : Nat)))).set m2 (some v)) Hb1 (e2 (r (x, i)))) (hz : xs.length ≤ 50000) :
    EvF (tLc (iEnum K (tCons ta tNil)) (gTup K 2 (gCons (gName m1) (gCons (gName m2) gNil))) tt te vs) σ Hb (dL e2 ((xs.zipIdx.filter p).map r)) := by
  have key : ∀ (i : Nat) z d, xs.zipIdx[i]? = some z → (xs.map f)[i]? = some d → xs[i]? = some z.1 ∧ z = (z.1, i) ∧ d = f z.1 := fun i z d h1 h2 => by
    rw [List.getElem?_zipIdx] at h1
    cases hq : xs[i]? with
    | none => rw [hq] at h1; cases h1
    | some y =>
      rw [hq] at h1
      have e1 := Option.some.inj h1
      subst e1
      rw [List.getElem?_map, hq] at h2
      exact ⟨rfl, by simp, (Option.some.inj h2).symm⟩
  refine (f_lc (zs := xs.zipIdx) p (fun z => e2 (r z)) (src_enum h) (by rw [List.length_map, List.length_zipIdx]) (by rw [List.length_zipIdx]; exact hz) (fun i Hb1 f' hu => ?_) (fun i z Hb1 f' hi hx hu => ?_) (fun i z Hb1 f' hi hx hu hp => ?_)).is (by rw [kept_map] <;> rfl)
  · obtain ⟨v, d, _, _, rfl⟩ := hu
    exact hw _ v
  · obtain ⟨v, d, h1, h2, rfl⟩ := hu
    obtain ⟨k1, k2, rfl⟩ := key i z d hi h1
    have := ht i z.1 v Hb1 k1 hx h2
    rw [← k2] at this
    exact this
  · obtain ⟨v, d, h1, h2, rfl⟩ := hu
    obtain ⟨k1, k2, rfl⟩ := key i z d hi h1
    have := he i z.1 v Hb1 k1 hx h2
    rw [← k2] at this
    exact this hp
theorem lcEc (p : α → Nat → Bool) (r : α → Nat → β) (h : EvD ta σ Hb (dL f xs)) (hw : ∀ v v2, wipe (((wipe σ vs).set m1 (some v)).set m2 (some v2)) vs = wipe σ vs)
    (ht : ∀ (i : Nat) x v Hb1, xs[i]? = some x → Ex Hb Hb1 → Da Hb1 v (f x) → EvB tt (((wipe σ vs).set m1 (some (.int (i : Nat)))).set m2 (some v)) Hb1 (p x i))
    (he : ∀ (i : Nat) x v Hb1, xs[i]? = some x → Ex Hb Hb1 → Da Hb1 v (f x) → p x i = true → EvD te (((wipe σ vs).set m1 (some (.int (i : Nat)))).set m2 (some v)) Hb1 (e2 (r x i))) (hz : xs.length ≤ 50000) :
    EvF (tLc (iEnum K (tCons ta tNil)) (gTup K 2 (gCons (gName m1) (gCons (gName m2) gNil))) tt te vs) σ Hb (dL e2 ((xs.zipIdx.filter fun z => p z.1 z.2).map fun z => r z.1 z.2)) :=
  lcE (fun z => p z.1 z.2) (fun z => r z.1 z.2) h hw ht he hz
theorem lcEm (r : α × Nat → β) (h : EvD ta σ Hb (dL f xs)) (hw : ∀ v v2, wipe (((wipe σ vs).set m1 (some v)).set m2 (some v2)) vs = wipe σ vs)
    (he : ∀ (i : Nat) x v Hb1, xs[i]? = some x → Ex Hb Hb1 → Da Hb1 v (f x) → EvD te (((wipe σ vs).set m1 (some (.int (i : Nat)))).set m2 (some v)) Hb1 (e2 (r (x, i)))) (hz : xs.length ≤ 50000) :
    EvF (tLc (iEnum K (tCons ta tNil)) (gTup K 2 (gCons (gName m1) (gCons (gName m2) gNil))) tYes te vs) σ Hb (dL e2 (xs.zipIdx.map r)) := by
  refine (lcE (fun _ => true) r h hw (fun i x v Hb1 _ _ _ => t_yes) (fun i x v Hb1 h1 h2 h3 _ => he i x v Hb1 h1 h2 h3) hz).is ?_
  rw [List.filter_eq_self.mpr (fun _ _ => rfl)]
theorem lcEmc (r : α → Nat → β) (h : EvD ta σ Hb (dL f xs)) (hw : ∀ v v2, wipe (((wipe σ vs).set m1 (some v)).set m2 (some v2)) vs = wipe σ vs)
    (he : ∀ (i : Nat) x v Hb1, xs[i]? = some x → Ex Hb Hb1 → Da Hb1 v (f x) → EvD te (((wipe σ vs).set m1 (some (.int (i : Nat)))).set m2 (some v)) Hb1 (e2 (r x i))) (hz : xs.length ≤ 50000) :
    EvF (tLc (iEnum K (tCons ta tNil)) (gTup K 2 (gCons (gName m1) (gCons (gName m2) gNil))) tYes te vs) σ Hb (dL e2 (xs.zipIdx.map fun z => r z.1 z.2)) :=
  lcEm (fun z => r z.1 z.2) h hw he hz
theorem lcZ (p : α × γ → Bool) (r : α × γ → β) (h : EvD ta σ Hb (dL f xs)) (h' : EvD tb σ Hb (dL fb ys)) (hw : ∀ v v2, wipe (((wipe σ vs).set m1 (some v)).set m2 (some v2)) vs = wipe σ vs)
    (ht : ∀ (i : Nat) x y v w Hb1, xs[i]? = some x → ys[i]? = some y → Ex Hb Hb1 → Da Hb1 v (f x) → Da Hb1 w (fb y) → EvB tt (((wipe σ vs).set m1 (some v)).set m2 (some w)) Hb1 (p (x, y)))
    (he : ∀ (i : Nat) x y v w Hb1, xs[i]? = some x → ys[i]? = some y → Ex Hb Hb1 → Da Hb1 v (f x) → Da Hb1 w (fb y) → p (x, y) = true → EvD te (((wipe σ vs).set m1 (some v)).set m2 (some w)) Hb1 (e2 (r (x, y)))) (hz : xs.length ≤ 50000) :
    EvF (tLc (iZip K (tCons ta (tCons tb tNil))) (gTup K 2 (gCons (gName m1) (gCons (gName m2) gNil))) tt te vs) σ Hb (dL e2 (((xs.zip ys).filter p).map r)) := by
  have key : ∀ (i : Nat) z d e, (xs.zip ys)[i]? = some z → (xs.map f)[i]? = some d → (ys.map fb)[i]? = some e → xs[i]? = some z.1 ∧ ys[i]? = some z.2 ∧ d = f z.1 ∧ e = fb z.2 := fun i z d e h1 h2 h3 => by
    obtain ⟨a, b⟩ := z
    obtain ⟨q1, q2⟩ := List.getElem?_zip_eq_some.mp h1
    rw [List.getElem?_map, q1] at h2
    rw [List.getElem?_map, q2] at h3
    exact ⟨q1, q2, (Option.some.inj h2).symm, (Option.some.inj h3).symm⟩
  refine (f_lc (zs := xs.zip ys) p (fun z => e2 (r z)) (src_zip h h') (by rw [List.length_map, List.length_map, List.length_zip]) (by rw [List.length_zip]; omega) (fun i Hb1 f' hu => ?_) (fun i z Hb1 f' hi hx hu => ?_) (fun i z Hb1 f' hi hx hu hp => ?_)).is (by rw [kept_map] <;> rfl)
  · obtain ⟨v, d, w, e, _, _, _, _, rfl⟩ := hu
    exact hw v w
  · obtain ⟨v, d, w, e, h1, h2, h3, h4, rfl⟩ := hu
    obtain ⟨k1, k2, rfl, rfl⟩ := key i z d e hi h1 h3
    exact ht i z.1 z.2 v w Hb1 k1 k2 hx h2 h4
  · obtain ⟨v, d, w, e, h1, h2, h3, h4, rfl⟩ := hu
    obtain ⟨k1, k2, rfl, rfl⟩ := key i z d e hi h1 h3
    exact he i z.1 z.2 v w Hb1 k1 k2 hx h2 h4 hp
theorem lcZm (r : α × γ → β) (h : EvD ta σ Hb (dL f xs)) (h' : EvD tb σ Hb (dL fb ys)) (hw : ∀ v v2, wipe (((wipe σ vs).set m1 (some v)).set m2 (some v2)) vs = wipe σ vs)
    (he : ∀ (i : Nat) x y v w Hb1, xs[i]? = some x → ys[i]? = some y → Ex Hb Hb1 → Da Hb1 v (f x) → Da Hb1 w (fb y) → EvD te (((wipe σ vs).set m1 (some v)).set m2 (some w)) Hb1 (e2 (r (x, y)))) (hz : xs.length ≤ 50000) :
    EvF (tLc (iZip K (tCons ta (tCons tb tNil))) (gTup K 2 (gCons (gName m1) (gCons (gName m2) gNil))) tYes te vs) σ Hb (dL e2 ((xs.zip ys).map r)) := by
  refine (lcZ (fun _ => true) r h h' hw (fun i x y v w Hb1 _ _ _ _ _ => t_yes) (fun i x y v w Hb1 h1 h2 h3 h4 h5 _ => he i x y v w Hb1 h1 h2 h3 h4 h5) hz).is ?_
  rw [List.filter_eq_self.mpr (fun _ _ => rfl)]
theorem lcZc (p : α → γ → Bool) (r : α → γ → β) (h : EvD ta σ Hb (dL f xs)) (h' : EvD tb σ Hb (dL fb ys)) (hw : ∀ v v2, wipe (((wipe σ vs).set m1 (some v)).set m2 (some v2)) vs = wipe σ vs)
    (ht : ∀ (i : Nat) x y v w Hb1, xs[i]? = some x → ys[i]? = some y → Ex Hb Hb1 → Da Hb1 v (f x) → Da Hb1 w (fb y) → EvB tt (((wipe σ vs).set m1 (some v)).set m2 (some w)) Hb1 (p x y))
    (he : ∀ (i : Nat) x y v w Hb1, xs[i]? = some x → ys[i]? = some y → Ex Hb Hb1 → Da Hb1 v (f x) → Da Hb1 w (fb y) → p x y = true → EvD te (((wipe σ vs).set m1 (some v)).set m2 (some w)) Hb1 (e2 (r x y))) (hz : xs.length ≤ 50000) :
    EvF (tLc (iZip K (tCons ta (tCons tb tNil))) (gTup K 2 (gCons (gName m1) (gCons (gName m2) gNil))) tt te vs) σ Hb (dL e2 (((xs.zip ys).filter fun z => p z.1 z.2).map fun z => r z.1 z.2)) :=
  lcZ (fun z => p z.1 z.2) (fun z => r z.1 z.2) h h' hw ht he hz
theorem lcZmc (r : α → γ → β) (h : EvD ta σ Hb (dL f xs)) (h' : EvD tb σ Hb (dL fb ys)) (hw : ∀ v v2, wipe (((wipe σ vs).set m1 (some v)).set m2 (some v2)) vs = wipe σ vs)
    (he : ∀ (i : Nat) x y v w Hb1, xs[i]? = some x → ys[i]? = some y → Ex Hb Hb1 → Da Hb1 v (f x) → Da Hb1 w (fb y) → EvD te (((wipe σ vs).set m1 (some v)).set m2 (some w)) Hb1 (e2 (r x y))) (hz : xs.length ≤ 50000) :
    EvF (tLc (iZip K (tCons ta (tCons tb tNil))) (gTup K 2 (gCons (gName m1) (gCons (gName m2) gNil))) tYes te vs) σ Hb (dL e2 ((xs.zip ys).map fun z => r z.1 z.2)) :=
  lcZm (fun z => r z.1 z.2) h h' hw he hz
end
end
end Hg

namespace Hg
open PySem PySem.Spec PyProof.Rows L2 Evl
theorem hu65 {k : Nat} {A : Around} (r : Room k A) : A.units + 65 < cLine := by have := r.un; omega
/-! ### shapes -/
structure ShF {α : Type} (f : α → PyData) (n : Nat) : Prop where
  lay : ∀ x, (f x).canLay0 = true
  dep : ∀ x, (f x).depth ≤ n
  nod : ∀ x, noDict (f x) = true
theorem shf_int : ShF PyData.int 0 := ⟨fun _ => by simp [PyData.canLay0], fun _ => by simp [PyData.depth], fun _ => by simp [noDict]⟩
theorem shf_bool : ShF PyData.bool 0 := ⟨fun _ => by simp [PyData.canLay0], fun _ => by simp [PyData.depth], fun _ => by simp [noDict]⟩
theorem shf_opt : ShF dO 0 := ⟨fun x => by cases x <;> simp [dO, PyData.canLay0], fun x => by cases x <;> simp [dO, PyData.depth], fun x => by cases x <;> simp [dO, noDict]⟩
theorem shf_list {α : Type} {f : α → PyData} {n : Nat} (h : ShF f n) : ShF (dL f) (n + 1) := by
  have h1 : ∀ xs : List α, PyData.canLayAll0 (xs.map f) = true := fun xs => by
    induction xs with
    | nil => simp [PyData.canLayAll0]
    | cons x r ih => simp [PyData.canLayAll0, h.lay x, ih]
  have h2 : ∀ xs : List α, PyData.depthAll (xs.map f) ≤ n := fun xs => by
    induction xs with
    | nil => simp [PyData.depthAll]
    | cons x r ih =>
      have := h.dep x
      simp only [List.map_cons, PyData.depthAll]
      omega
  have h3 : ∀ xs : List α, noDictAll (xs.map f) = true := fun xs => by
    induction xs with
    | nil => simp [noDictAll]
    | cons x r ih => simp [noDictAll, h.nod x, ih]
  exact ⟨fun xs => by simp only [dL, PyData.canLay0]; exact h1 xs, fun xs => by simp only [dL, PyData.depth]; have := h2 xs; omega, fun xs => by simp only [dL, noDict]; exact h3 xs⟩
theorem shp_of {α : Type} {f : α → PyData} {n : Nat} {x : α} (h : ShF f n) (hn : n ≤ 64) : Shp (f x) := by
  refine ⟨?_, h.nod x⟩
  unfold SeqAt.shaped
  rw [h.lay x, Bool.true_and]
  exact decide_eq_true (Nat.le_trans (h.dep x) hn)
theorem shp_non : Shp .none := ⟨by simp [SeqAt.shaped, PyData.canLay0, PyData.depth], by simp [noDict]⟩
/-! ### == told by = -/
def EqF {α : Type} [DecidableEq α] (f : α → PyData) : Prop := ∀ x y, PyData.eqv (f x) (f y) = decide (x = y)
theorem eqf_int : EqF PyData.int := fun x y => by simp only [PyData.eqv]; by_cases h : x = y <;> simp [h]
theorem eqf_bool : EqF PyData.bool := fun x y => by simp only [PyData.eqv]; by_cases h : x = y <;> simp [h]
theorem eqf_opt : EqF dO := fun x y => by
  cases x with
  | none => cases y <;> simp [dO, PyData.eqv]
  | some x =>
    cases y with
    | none => simp [dO, PyData.eqv]
    | some y => simp only [dO, PyData.eqv]; by_cases h : x = y <;> simp [h]
theorem eqf_list {α : Type} [DecidableEq α] {f : α → PyData} (h : EqF f) : EqF (dL f) := fun xs ys => by
  unfold dL
  simp only [PyData.eqv]
  induction xs generalizing ys with
  | nil => cases ys <;> simp [PyData.eqvAll]
  | cons x r ih =>
    cases ys with
    | nil => simp [PyData.eqvAll]
    | cons y s =>
      simp only [List.map_cons, PyData.eqvAll, h x y, ih s]
      by_cases h1 : x = y <;> by_cases h2 : r = s <;> simp [h1, h2]
/-! ### great numbers -/
def CDv (_ j : Int) : Prop := 0 < j ∧ j < 10 ^ 40
theorem cdv_w {i j : Int} (h : CDv i j) : CDivW i j := by
  have h1 := h.2
  have h2 := h.1
  refine wide_div h2 (b := 200) ?_ (by decide) (by decide)
  have e : (10 : Int) ^ 40 ≤ 2 ^ 200 := by decide +kernel
  have e2 : ((2 ^ 200 : Nat) : Int) = (2 : Int) ^ 200 := by decide +kernel
  have e3 : (j.natAbs : Int) = j := by omega
  have e4 : (j.natAbs : Int) < ((2 ^ 200 : Nat) : Int) := by rw [e3, e2]; exact Int.lt_of_lt_of_le h1 e
  exact Int.ofNat_lt.mp e4
theorem op_fdv {X : Cx} : OpR X (binaryOp .FloorDiv) (rI CDv fun i j => .int (i / j)) := fun pins s σ H x y v u Q I rx ry h => by
  obtain ⟨i, j, h1, h2, hc, q⟩ := h
  exact op_fdivW pins s σ H x y v u Q I rx ry ⟨i, j, h1, h2, cdv_w hc, q⟩
/-- factors of at most 2^25 bits each -/
def CMulB (i j : Int) : Prop := i.natAbs < 2 ^ (2 ^ 25) ∧ j.natAbs < 2 ^ (2 ^ 25)
theorem bits_le {i : Int} {n : Nat} (h : i.natAbs < 2 ^ n) : Builtin.Int.intBits i ≤ n := by
  unfold Builtin.Int.intBits
  split
  · omega
  · rename_i h0
    have h0 : i.natAbs ≠ 0 := by simpa using h0
    have := (Nat.log2_lt h0).mpr h
    omega
theorem CMulB.ok {i j : Int} (h : CMulB i j) : IntMulOk i j := by
  have h1 := bits_le h.1
  have h2 := bits_le h.2
  have e : bitsLine = 134217728 := by decide
  have e2 : (2 : Nat) ^ 25 = 33554432 := by decide
  unfold IntMulOk
  intro z
  rw [Bool.and_eq_true] at z
  have z2 := z.2
  unfold Builtin.Int.intTooBig at z2
  have z3 := of_decide_eq_true z2
  rw [e] at z3
  rw [e2] at h1 h2
  omega
theorem op_mulB {X : Cx} : OpR X (binaryOp .Mult) (rI CMulB fun i j => .int (i * j)) := opI fun _ _ _ _ _ _ _ hc q => mul_int q hc.ok
/-- a number's size in bits -/
def Bt (n : Nat) (i : Int) : Prop := i.natAbs < 2 ^ n
theorem Bt.add {n m : Nat} {i j : Int} (h : Bt n i) (k : Bt m j) : Bt (max n m + 1) (i + j) := by
  unfold Bt at *
  have a : (i + j).natAbs ≤ i.natAbs + j.natAbs := Int.natAbs_add_le i j
  have b : i.natAbs < 2 ^ max n m := Nat.lt_of_lt_of_le h (Nat.pow_le_pow_right (by decide) (Nat.le_max_left _ _))
  have c : j.natAbs < 2 ^ max n m := Nat.lt_of_lt_of_le k (Nat.pow_le_pow_right (by decide) (Nat.le_max_right _ _))
  rw [Nat.pow_succ]
  omega
theorem Bt.mul {n m : Nat} {i j : Int} (h : Bt n i) (k : Bt m j) : Bt (n + m) (i * j) := wide_lt h k
theorem Bt.mono {n m : Nat} {i : Int} (h : Bt n i) (e : n ≤ m) : Bt m i := Nat.lt_of_lt_of_le h (Nat.pow_le_pow_right (by decide) e)
theorem Bt.of {n : Nat} {i : Int} (h : Builtin.Int.intBits i ≤ n) : Bt n i := by
  unfold Builtin.Int.intBits at h
  unfold Bt
  split at h
  · rename_i h0
    have h0 : i.natAbs = 0 := by simpa using h0
    rw [h0]
    exact Nat.pow_pos (by decide)
  · rename_i h0
    have h0 : i.natAbs ≠ 0 := by simpa using h0
    exact (Nat.log2_lt h0).mp (by omega)
theorem Bt.sum {n : Nat} : ∀ {ns : List Int}, (∀ x ∈ ns, Bt n x) → Bt (n + ns.length) ns.sum
  | [], _ => by show (0 : Int).natAbs < _; exact Nat.pow_pos (by decide)
  | x :: r, h => by
    have a := Bt.add (h x (by simp)) (Bt.sum (ns := r) fun y hy => h y (List.mem_cons_of_mem _ hy))
    rw [List.sum_cons]
    exact a.mono (by rw [List.length_cons]; omega)
/-! ### more rules -/
section
variable {K : PySem.W.Frag} {σ : L2.St} {Hb Hc H : Hp} {ta tb tc te : TE} {t u : TT} {d e : PyData} {i j : Int} {a b : Bool} {tr ts : TA} {ds es : List PyData} {α : Type} {f : α → PyData} {x y : α} {xs ys : List α}
theorem d_eqT [DecidableEq α] (hf : EqF f) (ha : EvD ta σ Hb (f x)) (hb : EvD tb σ Hb (f y)) (sd : Shp (f x)) (se : Shp (f y)) : EvD (tOp (rEqD K) ta tb) σ Hb (.bool (decide (x = y))) := by
  have := d_eqD (K := K) ha hb sd se
  rw [hf x y] at this
  exact this
theorem d_neT [DecidableEq α] (hf : EqF f) (ha : EvD ta σ Hb (f x)) (hb : EvD tb σ Hb (f y)) (sd : Shp (f x)) (se : Shp (f y)) : EvD (tOp (rNeD K) ta tb) σ Hb (.bool (!decide (x = y))) := by
  have := d_neD (K := K) ha hb sd se
  rw [hf x y] at this
  exact this
theorem d_inT (ha : EvD ta σ Hb d) (hb : EvD tb σ Hb (dL f xs)) (sd : Shp d) (se : Shp (dL f xs)) : EvD (tOp (rInD K) ta tb) σ Hb (.bool (xs.any fun z => PyData.eqv (f z) d)) := by
  have := d_inD (K := K) ha hb sd se
  rw [List.any_map] at this
  exact this
theorem d_notInT (ha : EvD ta σ Hb d) (hb : EvD tb σ Hb (dL f xs)) (sd : Shp d) (se : Shp (dL f xs)) : EvD (tOp (rNotInD K) ta tb) σ Hb (.bool (!xs.any fun z => PyData.eqv (f z) d)) := by
  have := d_notInD (K := K) ha hb sd se
  rw [List.any_map] at this
  exact this
theorem d_iteT (h : EvB t σ Hb a) (h1 : a = true → EvD ta σ Hb (f x)) (h2 : a = false → EvD tb σ Hb (f y)) : EvD (tIf t ta tb) σ Hb (f (if a = true then x else y)) :=
  d_if h (fun e => by subst e; exact h1 rfl) (fun e => by subst e; exact h2 rfl)
/-- a tuple of things of one kind -/
def dU {α : Type} (f : α → PyData) (xs : List α) : PyData := .tuple (xs.map f)
theorem d_tupT (h : EvAs ts σ Hb (xs.map f)) (hl : xs.length ≤ 100000) : EvD (tTup ts) σ Hb (dU f xs) := d_tup h (by rw [List.length_map]; exact hl)
theorem d_ixUT (z : α) (ha : EvD ta σ Hb (dU f xs)) (hb : EvD tb σ Hb (.int i)) (h0 : 0 ≤ i) (h1 : i < xs.length) : EvD (tOp (rIxT K) ta tb) σ Hb (f (xs.getD i.toNat z)) :=
  d_ixU ha hb (at_map f (by rw [List.getD_eq_getElem?_getD, List.getElem?_eq_getElem (by omega)] <;> rfl) h0)
end
/-! ### rules whose reading names K alone (for comprehensions) -/
section
variable {X : Cx} {K : PySem.W.Frag} {tg : Expr}
theorem ix_listK (h : X.K = K) : IxR X (rIxL K) := h ▸ ix_list
theorem ix_tupK (h : X.K = K) : IxR X (rIxT K) := h ▸ ix_tup
theorem sl_listK (h : X.K = K) : SlR X (rSlL K) := h ▸ sl_list
theorem cr_sumK (h : X.K = K) (hc : X.calm = true) : CallR X (.builtin "sum") (rSum K) := h ▸ cr_sum hc
theorem cr_allK (h : X.K = K) (hc : X.calm = true) : CallR X (.builtin "all") (rAll K) := h ▸ cr_all hc
theorem cr_anyK (h : X.K = K) (hc : X.calm = true) : CallR X (.builtin "any") (rAny K) := h ▸ cr_any hc
theorem cr_minK (h : X.K = K) (hc : X.calm = true) : CallR X (.builtin "min") (rMin K) := h ▸ cr_min hc
theorem call_lenK (h : X.K = K) : CallR X (.builtin "len") (rLn K) := h ▸ call_len_seq
theorem call_listK (h : X.K = K) : CallR X (.type "list") (rListS K) := h ▸ call_list_of
theorem call_isiK2 (h : X.K = K) : CallR X (.builtin "isinstance") (rIsi K) := h ▸ call_isi
theorem op_eqDK (h : X.K = K) (hu : X.A.units + 64 < cLine) : OpR X (compareOp .Eq) (rEqD K) := h ▸ op_eqD hu
theorem op_neDK (h : X.K = K) (hu : X.A.units + 64 < cLine) : OpR X (compareOp .NotEq) (rNeD K) := h ▸ op_neD hu
theorem op_inDK (h : X.K = K) (hu : X.A.units + 65 < cLine) : OpR X (compareOp .In) (rInD K) := h ▸ op_inD hu
theorem op_notInDK (h : X.K = K) (hu : X.A.units + 65 < cLine) : OpR X (compareOp .NotIn) (rNotInD K) := h ▸ op_notInD hu
theorem pi_listK {l : Expr} {tl : TE} (h : X.K = K) (hl : PE X l tl) : PI X tg l (iList K tl) := h ▸ pi_list hl
theorem pi_enumK {e : Expr} {ta : TA} {p pos tpos : Pos} {elts : List Expr} {kk : Nat} (h : X.K = K) (hg : Gl X "enumerate") (hm : X.mg "enumerate" = none) (ha : PA X [e] ta) (hs : starEach [e] X.env = [(false, eval e X.env)] := by rfl) :
    PI X (.Tuple elts kk tpos) (.Call (.Name "enumerate" p) [e] [] pos) (iEnum K ta) := h ▸ pi_enum hg hm ha hs
theorem pi_zipK {e e2 : Expr} {ta : TA} {p pos tpos : Pos} {elts : List Expr} {kk : Nat} (h : X.K = K) (hg : Gl X "zip") (hm : X.mg "zip" = none) (ha : PA X [e, e2] ta) (hs : starEach [e, e2] X.env = (false, eval e X.env) :: starEach [e2] X.env := by rfl) (hs2 : (backTo pos (starEach [e2] X.env)).any (·.1) = false := by rfl) :
    PI X (.Tuple elts kk tpos) (.Call (.Name "zip" p) [e, e2] [] pos) (iZip K ta) := h ▸ pi_zip hg hm ha hs hs2
theorem pg_tupK {es : List Expr} {k : Nat} {t : TGs} {n : Nat} {pos : Pos} (h : X.K = K) (hc : X.calm = true) (hp : PGs X es t)
    (hn : (assignEach es X.env).length = n := by rfl) (hst : (assignEach es X.env).findIdx? (·.1) = none := by rfl) : PG X (.Tuple es k pos) (gTup K n t) := h ▸ pg_tup hc hp hn hst
theorem pe_revLK {e : Expr} {te : TE} {k : Nat} {p1 p2 p3 pos : Pos} (h : X.K = K) (he : PE X e te) : PE X (.Subscript e (.Slice none none (some (.UnaryOp .USub (.Constant (.int 1) k p1) p2)) p3) pos) (tRevL K te) := h ▸ pe_revL he
theorem pe_bmK {T name id : String} {r : V → List V → Hp → VK → Prop} {o e : Expr} {es : List Expr} {to : TE} {t : TA} {apos pos : Pos} {q : PE X (.Call (.Attribute o name apos) (e :: es) [] pos) (tBM X.K T r to t)} (h : X.K = K) : PE X (.Call (.Attribute o name apos) (e :: es) [] pos) (tBM K T r to t) := h ▸ q
end
theorem pe_gint {X : Cx} {x : Str} {i : Int} {pos : Pos} (hg : Gl X x) (hm : ∃ t, X.mg x = some (.int i t)) (hd : (x == ("__debug__" : Str)) = false := by decide) : PE X (.Name x pos) (tC (.int i)) := by
  obtain ⟨t, hm⟩ := hm
  exact pe_glob hg hm ⟨t, rfl⟩ hd
end Hg
namespace Hg
open PySem PySem.Spec PyProof.Rows L2 Evl
/-! ### the script: it may be an object of the module -/
section
variable {K : PySem.W.Frag} {σ : L2.St} {Hb Hc H : Hp} {ta tb tc te : TE} {t u : TT} {d e : PyData} {i j : Int} {a : Addr} {k : Nat} {ns : List Int} {tr ts : TA} {ds : List PyData} {R : List PyData → PyData → Prop} {E : XK}
theorem f_sliceS {tl th : TO} {lo hi : Option Int} (h : σ[k]? = some (some (.ref a))) (hs : SqL K Hb a (ns.map V.int)) (h1 : EvPt tl σ Hb lo) (h2 : EvPt th σ Hb hi) : EvF (tSl (rSlL K) (tVar k) tl th) σ Hb (dI (cut ns lo hi)) := fun H x Q q =>
  ⟨_, h, h1 H x _ fun H2 e2 => h2 H2 (x.trans e2) _ fun H3 e3 => ⟨a, ns.map V.int, rfl, ex_l ((x.trans e2).trans e3) hs, fun p hp => by
    refine q p _ _ (.after (.keep x (e2.trans e3)) (.laid ((x.trans e2).trans e3) hp ?_))
    have e : cutV (ns.map V.int) lo hi = (cut ns lo hi).map V.int := by
      unfold cutV cut
      rw [List.length_map, cut_map]
    rw [e]
    exact DaAll.ints _⟩⟩
theorem d_lenS (h : σ[k]? = some (some (.ref a))) (hs : SqL K Hb a (ns.map V.int)) : EvD (tCB (rLn K) (tCons (tVar k) tNil)) σ Hb (.int ns.length) := .ofInt fun H x Q q =>
  ⟨_, h, a, ns.map V.int, rfl, .inl (ex_l x hs), by rw [List.length_map]; exact q H (Ex.refl H)⟩
theorem dp_ints {Hx : Hp} : ∀ ns : List Int, DpAll K Hx (ns.map V.int) (ns.map PyData.int)
  | [] => .nil
  | n :: r => .cons (.int n) (dp_ints r)
theorem d_neS (h : σ[k]? = some (some (.ref a))) (hs : SqL K Hb a (ns.map V.int)) : EvD (tOp (rNeD K) (tVar k) (tLst tNil)) σ Hb (.bool (!decide (ns = []))) := .ofBool fun H x Q q =>
  ⟨_, h, Nat.zero_le _, fun p hp => ⟨dI ns, dI [], .lst (ex_l (Ex.new hp) (ex_l x hs)) (dp_ints ns), .lst (SqL.of upd_same) .nil, (shp_of (shf_list shf_int) (by decide)).sh, (shp_of (shf_list shf_int) (by decide)).sh, by
    rw [eqf_list eqf_int ns []]
    exact q _ (Ex.new hp)⟩⟩
theorem src_listS {m : Nat} (h : σ[k]? = some (some (.ref a))) (hs : SqL K Hb a (ns.map V.int)) : Src (iList K (tVar k)) (gName m) σ Hb ns.length (fun i _ f => ∃ y, ns[i]? = some y ∧ f = fun σ => σ.set m (some (.int y))) := fun H x R q =>
  ⟨_, h, a, rfl, ⟨_, ex_l x hs⟩, q _ Hb H (.refl x) (fun i H2 hi e => ⟨ns.map V.int, .int ns[i], ex_l e hs, by rw [List.getElem?_map, List.getElem?_eq_getElem hi] <;> rfl⟩) (fun H2 e => ⟨_, ex_l e hs, by rw [List.length_map]; exact Nat.le_refl _⟩) fun i H2 y H3 hi e hy => by
    obtain ⟨rfl, hy⟩ := hy
    have h1 := hy _ (ex_l e hs)
    rw [List.getElem?_map, List.getElem?_eq_getElem hi] at h1
    cases h1
    exact ⟨_, ⟨ns[i], List.getElem?_eq_getElem hi, rfl⟩, Ex.refl _, fun _ _ h => h⟩⟩
def CtS (K : PySem.W.Frag) (R : List PyData → PyData → Prop) : Sp := fun vs H Q _ => ∃ (Hb : Hp) (a : Addr) (ns : List Int) (vs' : List V) (ds : List PyData) (d : PyData), vs = .ref a :: vs' ∧ Ex Hb H ∧ SqL K Hb a (ns.map V.int) ∧ DaAll Hb vs' ds ∧ R (dI ns :: ds) d ∧ ∀ v Hb' H', Wd Hb H Hb' H' → Da Hb' v d → Q v H'
def CtFS (K : PySem.W.Frag) (R : List PyData → PyData → Prop) : Sp := fun vs H Q _ => ∃ (Hb : Hp) (a : Addr) (ns : List Int) (vs' : List V) (ds : List PyData) (d : PyData), vs = .ref a :: vs' ∧ Ex Hb H ∧ SqL K Hb a (ns.map V.int) ∧ DaAll Hb vs' ds ∧ R (dI ns :: ds) d ∧ ∀ p Hb' H', Own Hb H p d Hb' H' → Q (.ref p) H'
theorem CtS.len {n : Nat} (h : ∀ ds d, R ds d → ds.length = n) : ∀ vs H Q E, CtS K R vs H Q E → vs.length = n := fun vs H Q E z => by
  obtain ⟨Hb, a, ns, vs', ds, d, rfl, _, _, b, r, _⟩ := z
  rw [List.length_cons, b.len]
  exact h _ d r
theorem CtFS.len {n : Nat} (h : ∀ ds d, R ds d → ds.length = n) : ∀ vs H Q E, CtFS K R vs H Q E → vs.length = n := fun vs H Q E z => by
  obtain ⟨Hb, a, ns, vs', ds, d, rfl, _, _, b, r, _⟩ := z
  rw [List.length_cons, b.len]
  exact h _ d r
theorem d_callS (h : σ[k]? = some (some (.ref a))) (hs : SqL K Hb a (ns.map V.int)) (hr : EvAs tr σ Hb ds) (r : R (dI ns :: ds) d) : EvD (tCl (CtS K R) E (tCons (tVar k) tr)) σ Hb d := fun H x Q q =>
  ⟨_, h, hr H x _ fun vs Hb1 H1 w1 k1 => ⟨Hb1, a, ns, vs, ds, d, rfl, w1.sb, ex_l w1.eb hs, k1, r, fun v Hb' H' w kk => q v Hb' H' (w1.trans w) kk⟩⟩
theorem f_callS (h : σ[k]? = some (some (.ref a))) (hs : SqL K Hb a (ns.map V.int)) (hr : EvAs tr σ Hb ds) (r : R (dI ns :: ds) d) : EvF (tCl (CtFS K R) E (tCons (tVar k) tr)) σ Hb d := fun H x Q q =>
  ⟨_, h, hr H x _ fun vs Hb1 H1 w1 k1 => ⟨Hb1, a, ns, vs, ds, d, rfl, w1.sb, ex_l w1.eb hs, k1, r, fun p Hb' H' o => q p Hb' H' (.after w1 o)⟩⟩
end
theorem cx_false {P : Program} {w : World} {o : List Env} {H : Hp} {s : Shared} {e : Value} {s' : Shared} (h : L2.CX P w o H s (fun _ _ _ => False) e s') : False := by
  obtain ⟨_, _, _, _, _, _, _, _, _, _, _, _, z⟩ := h
  exact z.elim
/-- the law's promise -/
def spLaw (K : PySem.W.Frag) : Sp := fun vs H Q _ => ∃ (a : Addr) (ns : List Int), vs = [.ref a] ∧ SqL K H a (ns.map V.int) ∧ ns.length ≤ 63 ∧ (∀ y ∈ ns, Bt 1048576 y) ∧ ∀ H', Q (.bl true) H'
end Hg

namespace Hg
open PySem PySem.Spec PyProof.Rows L2 Evl
/-! ### l.count(x), data -/
def rCountD (K : PySem.W.Frag) : V → List V → Hp → VK → Prop := fun x xs H Q => ∃ (a : Addr) (y : V) (d : PyData) (ds : List PyData), x = V.ref a ∧ xs = [y] ∧ Dp K H (V.ref a) (.list ds) ∧ Dp K H y d ∧
  SeqAt.shaped (.list ds) = true ∧ SeqAt.shaped d = true ∧ Q (.int ((ds.countP fun z => PyData.eqv z d : Nat) : Int)) H
theorem mt_countD {X : Cx} (hu : X.A.units + 65 < cLine) : MtR X "list.count" (rCountD X.K) := by
  intro pins s σ H x xs v us Q I rx rxs h
  obtain ⟨a, y, d, ds, rfl, rfl, hl, hy, sl, sd, q⟩ := h
  cases rx
  cases rxs with
  | cons ry rt =>
    rename_i uy ut
    cases rt
    obtain ⟨bs, r1⟩ := Dp.reads I d y uy hy ry
    have hxs : PyData.canLayAll0 ds = true := SeqAt.canLay_of_shaped sl
    have hroom : X.A.units + 1 + min (PyData.depthAll ds) d.depth < cLine := room_in_shaped sd hu
    cases hl with
    | lst hs ha =>
      obtain ⟨its, rv, ⟨⟨cls, dd, data, sls⟩, n, ho, hc, hdn, hdt⟩, hlen⟩ := I.list hs
      simp only at hc hdt
      subst hc hdt
      obtain ⟨as, h4⟩ := Dp.readsAll I ds _ its ha rv
      have hmap : its.map (SeqAt.readOf s.heap) = ds := SeqAt.readsAll_map ds its as hxs h4
      refine call_meets PySem.F.slot_list_count ⟨_, ho, rfl⟩ PySem.F.entry_list_count (PySem.F.args_list_count_2 _ _)
        (SeqAt.list_countAt a its.toArray n dd sls uy (fun u => PyData.eqv (SeqAt.readOf s.heap u) d)) ⟨ho, SeqAt.items_eqAt (vs := its.toArray) (show ReadsAll s.heap its.toArray.toList ds as from h4) r1 hxs (SeqAt.canLay_of_shaped sd) hroom, ?_⟩
      have ec : its.toArray.toList.countP (fun u => PyData.eqv (SeqAt.readOf s.heap u) d) = ds.countP fun z => PyData.eqv z d := by
        conv => rhs; rw [← hmap, List.countP_map]
        rfl
      refine ⟨.int ((ds.countP fun z => PyData.eqv z d : Nat) : Int), H, I.tok _, ⟨s.toks, ?_⟩, q⟩
      rw [ec]
theorem mt_countDK {X : Cx} {K : PySem.W.Frag} (h : X.K = K) (hu : X.A.units + 65 < cLine) : MtR X "list.count" (rCountD K) := h ▸ mt_countD hu
section
variable {K : PySem.W.Frag} {σ : L2.St} {Hb Hc H : Hp} {ta tb tc te : TE} {t u : TT} {d e : PyData} {i j : Int} {tr ts : TA} {ds : List PyData} {α : Type} {f : α → PyData} {xs : List α}
theorem d_count (ha : EvD ta σ Hb (dL f xs)) (hb : EvD tb σ Hb d) (sl : Shp (dL f xs)) (sd : Shp d) : EvD (tBM K "list" (rCountD K) ta (tCons tb tNil)) σ Hb (.int ((xs.countP fun z => PyData.eqv (f z) d : Nat) : Int)) := .ofInt fun H x Q q =>
  ha H x _ fun v Hb1 H1 w1 k1 => by
    have hd := Da.dp (K := K) _ _ sl.nd (k1.up w1.sb)
    cases k1 with
    | @lst a ys _ hs hall =>
      refine ⟨.inl ⟨rfl, ys, .inl (ex_rd w1.sb hs)⟩, (hb.up w1.eb) H1 w1.sb _ fun v2 Hb2 H2 w2 k2 => ?_⟩
      have hs2 := ex_rd w2.sb (ex_rd w2.eb hs)
      refine ⟨a, v2, d, xs.map f, rfl, rfl, .lst (.inl hs2) (DaAll.dp _ _ (by have := sl.nd; unfold dL noDict at this; exact this) ((hall.up w2.eb).up w2.sb)), Da.dp _ _ sd.nd (k2.up w2.sb), sl.sh, sd.sh, ?_⟩
      have e : (xs.map f).countP (fun z => PyData.eqv z d) = xs.countP fun z => PyData.eqv (f z) d := by rw [List.countP_map]; rfl
      rw [e]
      exact q H2 (w1.eh.trans w2.eh)
/-! ### from a script to some data -/
end
/-- a def of the script alone: what comes is told by what holds of it -/
def CtN (K : PySem.W.Frag) (Pre : List Int → Prop) (Post : List Int → PyData → Prop) : Sp := fun vs H Q _ => ∃ (Hb : Hp) (a : Addr) (ns : List Int), vs = [.ref a] ∧ Ex Hb H ∧ SqL K Hb a (ns.map V.int) ∧ Pre ns ∧ ∀ d v Hb' H', Post ns d → Wd Hb H Hb' H' → Da Hb' v d → Q v H'
theorem CtN.len {K : PySem.W.Frag} {Pre : List Int → Prop} {Post : List Int → PyData → Prop} : ∀ vs H Q E, CtN K Pre Post vs H Q E → vs.length = 1 := fun vs H Q E z => by
  obtain ⟨Hb, a, ns, rfl, _⟩ := z
  rfl
theorem Bt.shr {n : Nat} {i : Int} (h : Bt n i) (j : Nat) : Bt n (i / 2 ^ j) := Nat.lt_of_le_of_lt (Int.natAbs_ediv_le_natAbs _ _) h
end Hg

namespace Hg
open PySem PySem.Spec PyProof.Rows L2 Evl
def topS (i : Nat) : Stmt := PySem.Challenge.pw_hatguess_k03_whole_passing.main.body.getD i (.Pass ⟨0, 0, 0, 0⟩)
abbrev s_is_number : Stmt := topS 5
theorem sc_is_number : FnScope ["thing"] ["thing"] (defScope s_is_number) := ⟨rfl, rfl, rfl, by decide +kernel, rfl, by decide +kernel, by decide +kernel⟩
abbrev s_asked_hats : Stmt := topS 6
theorem sc_asked_hats : FnScope ["colours", "hats", "hat"] ["colours", "hats"] (defScope s_asked_hats) := ⟨rfl, rfl, rfl, by decide +kernel, rfl, by decide +kernel, by decide +kernel⟩
abbrev s_power_of : Stmt := topS 9
theorem sc_power_of : FnScope ["many", "power"] ["many"] (defScope s_power_of) := ⟨rfl, rfl, rfl, by decide +kernel, rfl, by decide +kernel, by decide +kernel⟩
abbrev s_asked_team : Stmt := topS 10
theorem sc_asked_team : FnScope ["hats", "more"] ["hats", "more"] (defScope s_asked_team) := ⟨rfl, rfl, rfl, by decide +kernel, rfl, by decide +kernel, by decide +kernel⟩
abbrev s_mark : Stmt := topS 11
theorem sc_mark : FnScope ["hats", "skip", "found", "at", "hat"] ["hats", "skip"] (defScope s_mark) := ⟨rfl, rfl, rfl, by decide +kernel, rfl, by decide +kernel, by decide +kernel⟩
abbrev s_word : Stmt := topS 12
theorem sc_word : FnScope ["seen", "place"] ["seen", "place"] (defScope s_word) := ⟨rfl, rfl, rfl, by decide +kernel, rfl, by decide +kernel, by decide +kernel⟩
abbrev s_says : Stmt := topS 13
theorem sc_says : FnScope ["which", "others"] ["which", "others"] (defScope s_says) := ⟨rfl, rfl, rfl, by decide +kernel, rfl, by decide +kernel, by decide +kernel⟩
abbrev s_said : Stmt := topS 14
theorem sc_said : FnScope ["hats", "whole", "at", "hat"] ["hats"] (defScope s_said) := ⟨rfl, rfl, rfl, by decide +kernel, rfl, by decide +kernel, by decide +kernel⟩
abbrev s_won : Stmt := topS 15
theorem sc_won : FnScope ["hats", "words", "one", "hat"] ["hats"] (defScope s_won) := ⟨rfl, rfl, rfl, by decide +kernel, rfl, by decide +kernel, by decide +kernel⟩
abbrev s__law_number : Stmt := topS 17
theorem sc__law_number : FnScope ["_law_cell", "_law_at", "_law_whole", "_law_mixed", "_law_more"] ["_law_cell", "_law_at", "_law_whole"] (defScope s__law_number) := ⟨rfl, rfl, rfl, by decide +kernel, rfl, by decide +kernel, by decide +kernel⟩
abbrev s__law_team : Stmt := topS 18
theorem sc__law_team : FnScope ["_law_script", "_law_whole", "_law_many", "_law_cells", "_law_found", "_law_number_here", "_law_at", "_law_hat"] ["_law_script"] (defScope s__law_team) := ⟨rfl, rfl, rfl, by decide +kernel, rfl, by decide +kernel, by decide +kernel⟩
abbrev s__law_words_right : Stmt := topS 19
theorem sc__law_words_right : FnScope ["_law_hats", "_law_words", "_law_told", "_law_one"] ["_law_hats", "_law_words"] (defScope s__law_words_right) := ⟨rfl, rfl, rfl, by decide +kernel, rfl, by decide +kernel, by decide +kernel⟩
abbrev s__law_won : Stmt := topS 20
theorem sc__law_won : FnScope ["_law_hats", "_law_words", "_law_wrong", "_law_at", "_law_one"] ["_law_hats", "_law_words"] (defScope s__law_won) := ⟨rfl, rfl, rfl, by decide +kernel, rfl, by decide +kernel, by decide +kernel⟩
abbrev s_law : Stmt := topS 21
theorem sc_law : FnScope ["_law_script", "_law_hats", "_law_handed", "_law_lost", "_law_at", "_law_bent", "_law_words", "_law_told", "_law_which", "_law_others", "_law_kept"] ["_law_script"] (defScope s_law) := ⟨rfl, rfl, rfl, by decide +kernel, rfl, by decide +kernel, by decide +kernel⟩
structure Top (K : PySem.W.Frag) (mg : Str → Option Value) : Prop where
  d_is_number : Def K mg "is_number" s_is_number
  d_asked_hats : Def K mg "asked_hats" s_asked_hats
  d_power_of : Def K mg "power_of" s_power_of
  d_asked_team : Def K mg "asked_team" s_asked_team
  d_mark : Def K mg "mark" s_mark
  d_word : Def K mg "word" s_word
  d_says : Def K mg "says" s_says
  d_said : Def K mg "said" s_said
  d_won : Def K mg "won" s_won
  d__law_number : Def K mg "_law_number" s__law_number
  d__law_team : Def K mg "_law_team" s__law_team
  d__law_words_right : Def K mg "_law_words_right" s__law_words_right
  d__law_won : Def K mg "_law_won" s__law_won
  d_law : Def K mg "law" s_law
  n_all : mg "all" = none
  n_bool : mg "bool" = none
  n_enumerate : mg "enumerate" = none
  n_int : mg "int" = none
  n_isinstance : mg "isinstance" = none
  n_len : mg "len" = none
  n_list : mg "list" = none
  n_range : mg "range" = none
  n_sum : mg "sum" = none
  n_zip : mg "zip" = none
  g_MOST : ∃ t, mg "MOST" = some (.int 6 t)
section
variable {P : Program} {w : World} {K : PySem.W.Frag} {mg : Str → Option Value} {base : Heap}
/-! ### plain lists -/
theorem getD_of {α : Type} {xs : List α} {i : Nat} {y z : α} (h : xs[i]? = some y) : xs.getD i z = y := by
  rw [List.getD_eq_getElem?_getD, h]
  rfl
theorem cut_from {α : Type} (xs : List α) (k : Nat) : cut xs (some (k : Int)) none = xs.drop k := by
  unfold cut
  rw [HT.sIx_nat, HT.sIx_none]
  by_cases h : k ≤ xs.length
  · rw [Nat.min_eq_left h]
    exact List.take_of_length_le (by rw [List.length_drop]; exact Nat.le_refl _)
  · rw [Nat.min_eq_right (by omega), List.drop_of_length_le (Nat.le_refl _), List.drop_of_length_le (by omega), List.take_nil]
theorem cut_to {α : Type} (xs : List α) (k : Nat) : cut xs none (some (k : Int)) = xs.take k := by
  unfold cut
  rw [HT.sIx_nat, HT.sIx_none, List.drop_zero, Nat.sub_zero]
  by_cases h : k ≤ xs.length
  · rw [Nat.min_eq_left h]
  · rw [Nat.min_eq_right (by omega), List.take_of_length_le (Nat.le_refl _), List.take_of_length_le (by omega)]
theorem cut_last {α : Type} (xs : List α) (y : α) : cut (xs ++ [y]) none (some (-1)) = xs := by
  unfold cut
  rw [HT.sIx_none, List.drop_zero, Nat.sub_zero]
  have e : HT.sIx (xs ++ [y]).length (xs ++ [y]).length (some (-1)) = xs.length := by
    show (if (-1 : Int) < 0 then ((-1 : Int) + ((xs ++ [y]).length : Int)).toNat else min (-1 : Int).toNat (xs ++ [y]).length) = xs.length
    rw [if_pos (by decide), List.length_append, List.length_singleton]
    omega
  rw [e, List.take_left]
theorem sum_split (r : List Int) (i : Nat) (y : Int) (h : r[i]? = some y) : r.sum = (r.take i).sum + y + (r.drop (i + 1)).sum := by
  induction r generalizing i with
  | nil => simp at h
  | cons a r ih =>
    cases i with
    | zero =>
      have e : a = y := by simpa using h
      subst e
      simp
    | succ i =>
      have := ih i (by simpa using h)
      simp only [List.take_succ_cons, List.drop_succ_cons, List.sum_cons]
      omega

/-! ### hats.py, where nothing is refused -/
def Hats (c : Int) (xs : List Int) : Prop := ∀ x ∈ xs, 0 ≤ x ∧ x < c
theorem Hats.drop {c : Int} {xs : List Int} (h : Hats c xs) (n : Nat) : Hats c (xs.drop n) := fun y hy => h y (List.mem_of_mem_drop hy)
theorem Hats.take {c : Int} {xs : List Int} (h : Hats c xs) (n : Nat) : Hats c (xs.take n) := fun y hy => h y (List.mem_of_mem_take hy)

inductive R_is_number : List PyData → PyData → Prop
  | mk {i : Int} : R_is_number [.int i] (.bool true)
theorem ok_is_number (T : Top K mg) : Has P w K mg base 1 "is_number" ["thing"] (Ct R_is_number) := by
  refine has_of T.d_is_number sc_is_number (fun _ _ _ _ _ _ us hl => match us, hl with | [_], _ => rfl) (Ct.len fun ds d r => by cases r; rfl) (fun f cdv A outer s H vs Q E hr h => ?_)
  obtain ⟨Hb, ds, d, x, hv, r, q⟩ := h
  obtain ⟨i⟩ := r
  obtain ⟨v1, rfl, h_thing⟩ := DaAll.one hv
  refine ⟨_, PSs.nox (pss_one (ps_ret (pe_and (pe_callB (call_isiK2 (K := K) rfl) (by rfl) T.n_isinstance (by decide +kernel) (pa_cons (pv 0) (pa_cons (pe_bltn (v := .ty "int") (by rfl) T.n_int (by decide +kernel) rfl) pa_nil))) (pe_one (pe_not (pe_callB (call_isiK2 (K := K) rfl) (by rfl) T.n_isinstance (by decide +kernel) (pa_cons (pv 0) (pa_cons (pe_bltn (v := .ty "bool") (by rfl) T.n_bool (by decide +kernel) rfl) pa_nil)))))))), ?_⟩
  exact s_retB x (d_and (d_isi (d_var rfl h_thing) kit_int_int) (fun hyp => (d_not (d_isi (d_var rfl h_thing) kit_int_bool)))) fun H' e => q _ Hb H' (.keep x e) (.bl _)


inductive R_asked_hats : List PyData → PyData → Prop
  | mk {c : Int} {hats : List Int} (h : Hats c hats) (hl : hats.length ≤ 1000) : R_asked_hats [.int c, dI hats] .none
theorem hats_all {c : Int} {hats : List Int} (h : Hats c hats) : ((hats.map fun x => true && (decide (0 ≤ x) && decide (x < c))).all id) = true := by
  rw [List.all_map, List.all_eq_true]
  intro x hx
  obtain ⟨h1, h2⟩ := h x hx
  show (true && (decide (0 ≤ x) && decide (x < c))) = true
  rw [decide_eq_true h1, decide_eq_true h2]
  rfl
theorem ok_asked_hats (T : Top K mg) : Has P w K mg base 2 "asked_hats" ["colours", "hats"] (Ct R_asked_hats) := by
  refine has_of T.d_asked_hats sc_asked_hats (fun _ _ _ _ _ _ us hl => match us, hl with | [_, _], _ => rfl) (Ct.len fun ds d r => by cases r; rfl) (fun f cdv A outer s H vs Q E hr h => ?_)
  obtain ⟨Hb, ds, d, x, hv, r, q⟩ := h
  obtain ⟨hh, hl⟩ := r
  obtain ⟨v1, v2, rfl, h_colours, h_hats⟩ := DaAll.two hv
  refine ⟨_, PSs.nox (pss_one (ps_if (PW.pt (pw_or (pt_not (pt_val (pe_callB (call_isiK2 (K := K) rfl) (by rfl) T.n_isinstance (by decide +kernel) (pa_cons (pv 1) (pa_cons (pe_bltn (v := .ty "list") (by rfl) T.n_list (by decide +kernel) rfl) pa_nil))))) (pw_or1 (pt_not (pt_val (pe_callB (cr_allK (K := K) rfl rfl) (by rfl) T.n_all (by decide +kernel) (pa_cons (pe_lc (own := [("hat", 2)]) (by rfl) sc_asked_hats.nd (pi_listK (K := K) rfl (pv 1)) (blkOk_by (own := [("hat", 2)]) (N := ["colours", "hats", "hat"]) (sc := defScope s_asked_hats) (by decide +kernel)) (fun _ _ _ _ _ => (pg_name (i := 2) sc_asked_hats.nd rfl (.inl rfl))) (fun _ _ _ _ _ => pts_nil) (fun _ _ _ _ _ => (pe_and (pe_cl (ok_is_number T) (hr.mono (by decide)) (by rfl) (pa_cons (pv 2) pa_nil)) (pe_one (pe_chain op_le op_lt pe_int (pv 2) (pv 0)))))) pa_nil))))))) (pss_one ps_never) pss_nil)), ?_⟩
  refine s_no x ((t_or (t_not (t_val (d_isi (d_var rfl h_hats) kit_list_list))) (fun hyp => (t_not (t_val (d_all (lcLm (e2 := PyData.bool) _ (d_var rfl h_hats) (fun _ => rfl) (fun i1 x1 v1 B1 hi1 hx1 h_hat => (d_and (d_call (a_cons (d_var rfl h_hat) a_nil) R_is_number.mk) (fun hyp => (d_chain d_int (d_var rfl h_hat) (d_var rfl (h_colours.up hx1)))))) (by first | assumption | omega | (simp; done) | exact hsd1 _ | exact hsd2 _ | exact hsd3 _ | (have hq := lt_of_get (by assumption); omega))).D))))).is ?_) fun H1 e1 => q _ Hb H1 (.keep x e1) .non
  exact congrArg (fun b => (!true || !b)) (hats_all hh)

end
end Hg

namespace Hg
open PySem PySem.Spec PyProof.Rows L2 Evl
section
variable {P : Program} {w : World} {K : PySem.W.Frag} {mg : Str → Option Value} {base : Heap}
/-! ### passing.py: the mathematics -/
def powM (n : Int) : Int := if n = 1 then 1 else if n = 3 then 2 else if n = 7 then 3 else if n = 15 then 4 else if n = 31 then 5 else if n = 63 then 6 else 0
/-- all counts of those with a 1, crossed; from skip on each counts one more -/
def mkN (skip : Nat) : Nat → List Int → Nat
  | _, [] => 0
  | k, h :: r => (if h = 1 then (if k < skip then k + 1 else k + 2) else 0) ^^^ mkN skip (k + 1) r
def mk0 : Nat → List Int → Nat
  | _, [] => 0
  | k, h :: r => (if h = 1 then k + 1 else 0) ^^^ mk0 (k + 1) r
theorem mkN_app (s : Nat) : ∀ (k : Nat) (a b : List Int), mkN s k (a ++ b) = mkN s k a ^^^ mkN s (k + a.length) b
  | k, [], b => by simp [mkN]
  | k, h :: r, b => by
    show _ ^^^ mkN s (k + 1) (r ++ b) = (_ ^^^ mkN s (k + 1) r) ^^^ _
    rw [mkN_app s (k + 1) r b, Nat.xor_assoc, List.length_cons, show k + 1 + r.length = k + (r.length + 1) by omega]
theorem mk0_app : ∀ (k : Nat) (a b : List Int), mk0 k (a ++ b) = mk0 k a ^^^ mk0 (k + a.length) b
  | k, [], b => by simp [mk0]
  | k, h :: r, b => by
    show _ ^^^ mk0 (k + 1) (r ++ b) = (_ ^^^ mk0 (k + 1) r) ^^^ _
    rw [mk0_app (k + 1) r b, Nat.xor_assoc, List.length_cons, show k + 1 + r.length = k + (r.length + 1) by omega]
theorem mkN_low (s : Nat) : ∀ (k : Nat) (a : List Int), k + a.length ≤ s → mkN s k a = mk0 k a
  | _, [], _ => rfl
  | k, h :: r, hl => by
    rw [List.length_cons] at hl
    show (if h = 1 then (if k < s then k + 1 else k + 2) else 0) ^^^ mkN s (k + 1) r = _
    rw [mkN_low s (k + 1) r (by omega), if_pos (show k < s by omega)]
    rfl
theorem mkN_high (s : Nat) : ∀ (k : Nat) (a : List Int), s ≤ k → mkN s k a = mk0 (k + 1) a
  | _, [], _ => rfl
  | k, h :: r, hl => by
    show (if h = 1 then (if k < s then k + 1 else k + 2) else 0) ^^^ mkN s (k + 1) r = _
    rw [mkN_high s (k + 1) r (by omega), if_neg (show ¬ k < s by omega)]
    rfl
theorem mk0_lt (p : Nat) : ∀ (k : Nat) (a : List Int), k + a.length < 2 ^ p → mk0 k a < 2 ^ p
  | _, [], _ => Nat.two_pow_pos p
  | k, h :: r, hl => by
    rw [List.length_cons] at hl
    refine Nat.xor_lt_two_pow ?_ (mk0_lt p (k + 1) r (by omega))
    split
    · omega
    · exact Nat.two_pow_pos p
/-- the term of the hat at i -/
def tmN (i : Nat) (h : Int) : Nat := if h = 1 then i + 1 else 0
theorem mk0_split {hats : List Int} {i : Nat} {h : Int} (hi : hats[i]? = some h) : mk0 0 hats = mk0 0 (hats.take i) ^^^ (tmN i h ^^^ mk0 (i + 1) (hats.drop (i + 1))) := by
  have hl := lt_of_get hi
  have e : hats = hats.take i ++ h :: hats.drop (i + 1) := by
    conv => lhs; rw [← List.take_append_drop i hats]
    congr 1
    rw [List.drop_eq_getElem_cons hl]
    congr 1
    rw [List.getElem?_eq_getElem hl] at hi
    exact Option.some.inj hi
  conv => lhs; rw [e]
  rw [mk0_app, List.length_take, Nat.min_eq_left (by omega), Nat.zero_add]
  rfl
/-- what the others tell -/
theorem mk_others {hats : List Int} {i : Nat} {h : Int} (hi : hats[i]? = some h) : mkN i 0 (hats.take i ++ hats.drop (i + 1)) = mk0 0 hats ^^^ tmN i h := by
  have hl := lt_of_get hi
  rw [mkN_app, mkN_low i 0 _ (by rw [List.length_take]; omega), mkN_high i _ _ (by rw [List.length_take]; omega), mk0_split hi, List.length_take, Nat.min_eq_left (by omega), Nat.zero_add]
  rw [Nat.xor_assoc, Nat.xor_comm (tmN i h) (mk0 (i + 1) (hats.drop (i + 1))), Nat.xor_assoc, Nat.xor_self, Nat.xor_zero]
theorem mk_set {hats : List Int} {i : Nat} {h g : Int} (hi : hats[i]? = some h) : mk0 0 (hats.take i ++ g :: hats.drop (i + 1)) = mk0 0 hats ^^^ tmN i h ^^^ tmN i g := by
  have hl := lt_of_get hi
  rw [mk0_app, List.length_take, Nat.min_eq_left (by omega), Nat.zero_add]
  show mk0 0 (hats.take i) ^^^ (tmN i g ^^^ mk0 (i + 1) (hats.drop (i + 1))) = _
  rw [mk0_split hi]
  generalize mk0 0 (hats.take i) = a
  generalize tmN i h = b
  generalize tmN i g = c
  generalize mk0 (i + 1) (hats.drop (i + 1)) = e
  rw [Nat.xor_assoc, Nat.xor_assoc]
  congr 1
  rw [← Nat.xor_assoc, Nat.xor_comm b e, Nat.xor_assoc e b b, Nat.xor_self, Nat.xor_zero, Nat.xor_comm]
def wordM (seen place : Int) : Option Int := if seen = 0 then some 1 else if seen = place then some 0 else none
def saidM (hats : List Int) : List (Option Int) := hats.zipIdx.map fun z => wordM (Builtin.bitXor ((mkN hats.length 0 hats : Nat) : Int) ((((z.2 : Nat) : Int) + 1) * z.1)) (((z.2 : Nat) : Int) + 1)
theorem saidM_len (hats : List Int) : (saidM hats).length = hats.length := by
  unfold saidM
  rw [List.length_map, List.length_zipIdx]
theorem hat01 {h : Int} (h0 : 0 ≤ h) (h1 : h < 2) : h = 0 ∨ h = 1 := by omega
theorem saidM_get {hats : List Int} (hh : Hats 2 hats) {i : Nat} {h : Int} (hi : hats[i]? = some h) : (saidM hats)[i]? = some (wordM ((mk0 0 hats ^^^ tmN i h : Nat) : Int) ((i : Int) + 1)) := by
  unfold saidM
  rw [List.getElem?_map, List.getElem?_zipIdx, hi]
  show some (wordM (Builtin.bitXor ((mkN hats.length 0 hats : Nat) : Int) ((((0 + i : Nat) : Int) + 1) * h)) (((0 + i : Nat) : Int) + 1)) = _
  rw [Nat.zero_add, mkN_low hats.length 0 hats (by omega)]
  have hb := hh h (List.mem_of_getElem? hi)
  rcases hat01 hb.1 hb.2 with rfl | rfl
  · rw [Int.mul_zero, Bits.bitXor_pp (by omega) (by omega)]
    rfl
  · rw [Int.mul_one, Bits.bitXor_pp (by omega) (by omega), Int.toNat_natCast, show (((i : Int) + 1).toNat) = i + 1 by omega]
    rfl
def wonM (hats : List Int) : Bool := (!decide (saidM hats = List.replicate ((saidM hats).length : Int).toNat none)) && (((saidM hats).zip hats).map fun z => isNon (dO z.1) || PyData.eqv (dO z.1) (.int z.2)).all id
/-- a team's count -/
def Team (n : Nat) : Prop := n = 1 ∨ n = 3 ∨ n = 7 ∨ n = 15 ∨ n = 31 ∨ n = 63
theorem Team.pow {n : Nat} (h : Team n) : ∃ p, n + 1 = 2 ^ p ∧ 1 ≤ p ∧ p ≤ 6 := by
  rcases h with h | h | h | h | h | h <;> subst h
  · exact ⟨1, rfl, by omega, by omega⟩
  · exact ⟨2, rfl, by omega, by omega⟩
  · exact ⟨3, rfl, by omega, by omega⟩
  · exact ⟨4, rfl, by omega, by omega⟩
  · exact ⟨5, rfl, by omega, by omega⟩
  · exact ⟨6, rfl, by omega, by omega⟩
theorem Team.powM {n : Nat} (h : Team n) : Hg.powM (n : Int) ≠ 0 := by
  rcases h with h | h | h | h | h | h <;> subst h <;> decide
theorem Team.le {n : Nat} (h : Team n) : 1 ≤ n ∧ n ≤ 63 := by
  rcases h with h | h | h | h | h | h <;> omega
theorem mk0_le {hats : List Int} (ht : Team hats.length) : mk0 0 hats ≤ hats.length := by
  obtain ⟨p, hp, _, _⟩ := ht.pow
  have := mk0_lt p 0 hats (by omega)
  omega
/-- where the crossed counts are nothing, all guess and are wrong; else just the one whose count it is guesses, and is right -/
theorem said_zero {hats : List Int} (hh : Hats 2 hats) (hz : mk0 0 hats = 0) {i : Nat} {h : Int} (hi : hats[i]? = some h) : (saidM hats)[i]? = some (some (1 - h)) := by
  rw [saidM_get hh hi, hz, Nat.zero_xor]
  have hb := hh h (List.mem_of_getElem? hi)
  rcases hat01 hb.1 hb.2 with rfl | rfl
  · rfl
  · unfold wordM tmN
    rw [if_pos rfl, if_neg (by omega), if_pos (by omega)]
    rfl
theorem said_one {hats : List Int} (hh : Hats 2 hats) (hz : mk0 0 hats ≠ 0) {i : Nat} {h : Int} (hi : hats[i]? = some h) : (saidM hats)[i]? = some (if i + 1 = mk0 0 hats then some h else none) := by
  rw [saidM_get hh hi]
  have hb := hh h (List.mem_of_getElem? hi)
  generalize mk0 0 hats = S at hz
  congr 1
  rcases hat01 hb.1 hb.2 with rfl | rfl
  · show wordM ((S ^^^ 0 : Nat) : Int) ((i : Int) + 1) = _
    rw [Nat.xor_zero]
    unfold wordM
    rw [if_neg (by omega)]
    by_cases e : i + 1 = S
    · rw [if_pos (by omega), if_pos e]
    · rw [if_neg (by omega), if_neg e]
  · show wordM ((S ^^^ (i + 1) : Nat) : Int) ((i : Int) + 1) = _
    unfold wordM
    by_cases e : i + 1 = S
    · rw [if_pos e, e, Nat.xor_self]
      rfl
    · have h1 : S ^^^ (i + 1) ≠ 0 := fun z => by
        have h3 : (S ^^^ (i + 1)) ^^^ (i + 1) = 0 ^^^ (i + 1) := by rw [z]
        rw [Nat.xor_assoc, Nat.xor_self, Nat.xor_zero, Nat.zero_xor] at h3
        exact e h3.symm
      have h2 : S ^^^ (i + 1) ≠ i + 1 := fun z => by
        have h3 : (S ^^^ (i + 1)) ^^^ (i + 1) = (i + 1) ^^^ (i + 1) := by rw [z]
        rw [Nat.xor_assoc, Nat.xor_self, Nat.xor_zero] at h3
        exact hz h3
      rw [if_neg e, if_neg (by omega), if_neg (by omega)]
theorem wonM_is {hats : List Int} (hh : Hats 2 hats) (ht : Team hats.length) : wonM hats = decide (mk0 0 hats ≠ 0) := by
  have hle := ht.le
  unfold wonM
  rw [Int.toNat_natCast, saidM_len]
  by_cases hz : mk0 0 hats = 0
  · rw [decide_eq_false (p := mk0 0 hats ≠ 0) (fun z => z hz)]
    have h0 : hats[0]? = some (hats[0]'(by omega)) := List.getElem?_eq_getElem (by omega)
    have hs := said_zero hh hz h0
    have hb := hh _ (List.getElem_mem (by omega : 0 < hats.length))
    have hf : (((saidM hats).zip hats).map fun z => isNon (dO z.1) || PyData.eqv (dO z.1) (.int z.2)).all id = false := by
      rw [List.all_eq_false]
      refine ⟨false, List.mem_map.mpr ⟨(some (1 - hats[0]'(by omega)), hats[0]'(by omega)), ?_, ?_⟩, by decide⟩
      · exact List.mem_of_getElem? (i := 0) (List.getElem?_zip_eq_some.mpr ⟨hs, h0⟩)
      · show (false || PyData.eqv (.int (1 - hats[0]'(by omega))) (.int (hats[0]'(by omega)))) = false
        rw [eqf_int]
        exact decide_eq_false (by omega)
    rw [hf, Bool.and_false]
  · rw [decide_eq_true (p := mk0 0 hats ≠ 0) hz]
    have hm := mk0_le ht
    have hi : mk0 0 hats - 1 < hats.length := by omega
    have hg : hats[mk0 0 hats - 1]? = some (hats[mk0 0 hats - 1]'hi) := List.getElem?_eq_getElem hi
    have hs := said_one hh hz hg
    rw [if_pos (by omega)] at hs
    have h1 : saidM hats ≠ List.replicate hats.length none := fun e => by
      rw [e, List.getElem?_replicate, if_pos hi] at hs
      cases hs
    have h2 : (((saidM hats).zip hats).map fun z => isNon (dO z.1) || PyData.eqv (dO z.1) (.int z.2)).all id = true := by
      rw [List.all_eq_true]
      intro b hb
      obtain ⟨⟨o, h⟩, hm2, rfl⟩ := List.mem_map.mp hb
      obtain ⟨i, hi2⟩ := List.getElem?_of_mem hm2
      obtain ⟨q1, q2⟩ := List.getElem?_zip_eq_some.mp hi2
      rw [said_one hh hz q2] at q1
      have q3 : o = (if i + 1 = mk0 0 hats then some h else none) := (Option.some.inj q1).symm
      rw [q3]
      show (isNon (dO (if i + 1 = mk0 0 hats then some h else none)) || PyData.eqv (dO (if i + 1 = mk0 0 hats then some h else none)) (.int h)) = true
      split
      · show (false || PyData.eqv (.int h) (.int h)) = true
        rw [eqf_int, decide_eq_true rfl]
        rfl
      · rfl
    rw [h2, decide_eq_false h1]
    rfl

end
end Hg

namespace Hg
open PySem PySem.Spec PyProof.Rows L2 Evl
section
variable {P : Program} {w : World} {K : PySem.W.Frag} {mg : Str → Option Value} {base : Heap}
/-! ### passing.py, where nothing is refused -/

inductive R_power_of : List PyData → PyData → Prop
  | mk {n : Int} : R_power_of [.int n] (.int (powM n))
theorem ok_power_of (T : Top K mg) : Has P w K mg base 1 "power_of" ["many"] (Ct R_power_of) := by
  refine has_of T.d_power_of sc_power_of (fun _ _ _ _ _ _ us hl => match us, hl with | [_], _ => rfl) (Ct.len fun ds d r => by cases r; rfl) (fun f cdv A outer s H vs Q E hr h => ?_)
  obtain ⟨Hb, ds, d, x, hv, r, q⟩ := h
  obtain ⟨n⟩ := r
  rename_i n
  obtain ⟨v1, rfl, h_many⟩ := DaAll.one hv
  refine ⟨_, PSs.nox (pss_cons (ps_for PassesOwn.never rfl (pi_range2 (by rfl) T.n_range (pa_cons pe_int (pa_cons (pe_op op_add (pe_gint (by rfl) T.g_MOST) pe_int) pa_nil))) (pg_name (i := 1) sc_power_of.nd rfl (.inl rfl)) (pss_one (ps_if (pt_cmpR op_eq (pe_op op_sub (pe_op op_shl pe_int (pv 1)) pe_int) (pv 0) (nomark _)) (pss_one (ps_ret (pv 1))) pss_nil)))
      (pss_one (ps_ret pe_int))), ?_⟩
  refine q_for x (src_range2 d_int (d_I0 d_int d_int) (by first | assumption | omega | (simp; done) | exact hsd1 _ | exact hsd2 _ | exact hsd3 _ | (have hq := lt_of_get (by assumption); omega)) (by first | assumption | omega | (simp; done) | exact hsd1 _ | exact hsd2 _ | exact hsd3 _ | (have hq := lt_of_get (by assumption); omega)) (by first | assumption | omega | (simp; done) | exact hsd1 _ | exact hsd2 _ | exact hsd3 _ | (have hq := lt_of_get (by assumption); omega)) (by first | assumption | omega | (simp; done) | exact hsd1 _ | exact hsd2 _ | exact hsd3 _ | (have hq := lt_of_get (by assumption); omega))) fun B1 H1 w1 => ?_
  have h_many := h_many.up w1.eb
  refine ⟨fun i σ' H' => ∃ y, σ' = [some v1, y] ∧ Wd Hb H B1 H' ∧ ∀ j : Nat, j < i → (2 : Int) ^ (j + 1) - 1 ≠ n, ⟨none, rfl, w1, fun j hj => absurd hj (Nat.not_lt_zero j)⟩, fun i σ' H' ⟨_, _, h, _⟩ => h.sb, ?_, ?_⟩
  · rintro i f' σ' H' H2 hi hu ⟨y, rfl, w, hn⟩ e2
    cases hu
    have hi : i < 6 := by omega
    have h_power : Da B1 (.int (1 + ((i : Nat) : Int))) (.int (1 + ((i : Nat) : Int))) := .int _
    have ep : (1 : Int) * 2 ^ (1 + ((i : Nat) : Int)).toNat = 2 ^ (i + 1) := by rw [Int.one_mul, show (1 + ((i : Nat) : Int)).toNat = i + 1 by omega]
    refine s_when (w.sb.trans e2) (t_cmp (d_eqI (d_I0 (d_IC d_int (d_var rfl h_power) (by first | assumption | exact ⟨by omega, by omega, by omega⟩)) d_int) (d_var rfl h_many))) (fun hb H3 e3 => ?_) (fun hb H3 e3 => ?_)
    · have hb := of_decide_eq_true hb
      rw [ep] at hb
      refine s_retI ((w.sb.trans e2).trans e3) (d_var rfl h_power) fun H4 e4 => ?_
      have e : powM n = 1 + ((i : Nat) : Int) := by
        match i, hi with
        | 0, _ => subst hb; decide
        | 1, _ => subst hb; decide
        | 2, _ => subst hb; decide
        | 3, _ => subst hb; decide
        | 4, _ => subst hb; decide
        | 5, _ => subst hb; decide
      rw [← e]
      exact q _ B1 H4 (w.trans (.keep w.sb ((e2.trans e3).trans e4))) (.int _)
    · have hb := of_decide_eq_false hb
      rw [ep] at hb
      refine ⟨_, rfl, w.trans (.keep w.sb (e2.trans e3)), fun j hj => ?_⟩
      by_cases e : j = i
      · subst e; exact hb
      · exact hn j (by omega)
  · rintro σ' H' ⟨y, rfl, w, hn⟩
    refine s_retI w.sb d_int fun H4 e4 => ?_
    have e : powM n = 0 := by
      have h0 := hn 0 (by decide)
      have h1 := hn 1 (by decide)
      have h2 := hn 2 (by decide)
      have h3 := hn 3 (by decide)
      have h4 := hn 4 (by decide)
      have h5 := hn 5 (by decide)
      unfold powM
      rw [if_neg (by omega), if_neg (by omega), if_neg (by omega), if_neg (by omega), if_neg (by omega), if_neg (by omega)]
    rw [← e]
    exact q _ B1 H4 (w.trans (.keep w.sb e4)) (.int _)

inductive R_asked_team : List PyData → PyData → Prop
  | mk {hats : List Int} {more : Int} (h : Hats 2 hats) (hl : hats.length ≤ 1000) (hp : powM ((hats.length : Int) + more) ≠ 0) : R_asked_team [dI hats, .int more] .none
theorem ok_asked_team (T : Top K mg) : Has P w K mg base 3 "asked_team" ["hats", "more"] (Ct R_asked_team) := by
  refine has_of T.d_asked_team sc_asked_team (fun _ _ _ _ _ _ us hl => match us, hl with | [_, _], _ => rfl) (Ct.len fun ds d r => by cases r; rfl) (fun f cdv A outer s H vs Q E hr h => ?_)
  obtain ⟨Hb, ds, d, x, hv, r, q⟩ := h
  obtain ⟨hh, hl, hp⟩ := r
  obtain ⟨v1, v2, rfl, h_hats, h_more⟩ := DaAll.two hv
  refine ⟨_, PSs.nox (pss_cons (ps_expr (pe_cl (ok_asked_hats T) (hr.mono (by decide)) (by rfl) (pa_cons pe_int (pa_cons (pv 0) pa_nil))))
      (pss_one (ps_if (pt_cmpR op_eq (pe_cl (ok_power_of T) (hr.mono (by decide)) (by rfl) (pa_cons (pe_op op_add (pe_callB (call_lenK (K := K) rfl) (by rfl) T.n_len (by decide +kernel) (pa_cons (pv 0) pa_nil)) (pv 1)) pa_nil)) pe_int (nomark _)) (pss_one ps_never) pss_nil))), ?_⟩
  refine q_drop x (d_call (a_cons d_int (a_cons (d_var rfl h_hats) a_nil)) (R_asked_hats.mk (by first | assumption | omega | decide | (simp; done) | exact hside1 _ _ (by assumption) | exact hside2 _ _ (by assumption) | (have hq := lt_of_get (by assumption); omega)) (by first | assumption | omega | decide | (simp; done) | exact hside1 _ _ (by assumption) | exact hside2 _ _ (by assumption) | (have hq := lt_of_get (by assumption); omega)))) fun H1 e1 => ?_
  exact s_no (x.trans e1) ((t_cmp (d_eqI (d_call (a_cons (d_I0 (d_lenT (d_var rfl h_hats)) (d_var rfl h_more)) a_nil) R_power_of.mk) d_int)).is (decide_eq_false hp)) fun H2 e2 => q _ Hb H2 (.keep x (e1.trans e2)) .non

inductive R_mark : List PyData → PyData → Prop
  | mk {hats : List Int} {skip : Nat} (h : hats.length ≤ 1000) : R_mark [dI hats, .int (skip : Nat)] (.int (mkN skip 0 hats : Nat))
theorem ok_mark (T : Top K mg) : Has P w K mg base 1 "mark" ["hats", "skip"] (Ct R_mark) := by
  refine has_of T.d_mark sc_mark (fun _ _ _ _ _ _ us hl => match us, hl with | [_, _], _ => rfl) (Ct.len fun ds d r => by cases r; rfl) (fun f cdv A outer s H vs Q E hr h => ?_)
  obtain ⟨Hb, ds, d, x, hv, r, q⟩ := h
  obtain ⟨hl⟩ := r
  rename_i hats skip
  obtain ⟨v1, v2, rfl, h_hats, h_skip⟩ := DaAll.two hv
  refine ⟨_, PSs.nox (pss_cons (ps_set (i := 2) sc_mark.nd rfl (.inl rfl) pe_int)
      (pss_cons (ps_for PassesOwn.never rfl (pi_enumK (K := K) rfl (by rfl) T.n_enumerate (pa_cons (pv 0) pa_nil)) (pg_tupK (K := K) (n := 2) rfl rfl (pgs_cons (pg_name (i := 3) sc_mark.nd rfl (.inl rfl)) (pgs_cons (pg_name (i := 4) sc_mark.nd rfl (.inl rfl)) pgs_nil))) (pss_one (ps_if (pt_cmpR op_eq (pv 4) pe_int (nomark _)) (pss_one (ps_set (i := 2) sc_mark.nd rfl (.inl rfl) (pe_op op_xor (pv 2) (pe_ifExp (pt_cmpR op_lt (pv 3) (pv 1) (nomark _)) (pe_op op_add (pv 3) pe_int) (pe_op op_add (pv 3) pe_int))))) pss_nil)))
      (pss_one (ps_ret (pv 2))))), ?_⟩
  refine q_asgI x d_int fun H1 e1 => ?_
  refine q_for (x.trans e1) (src_enum (d_var rfl h_hats)) fun B2 H2 w2 => ?_
  have h_hats := h_hats.up w2.eb; have h_skip := h_skip.up w2.eb
  refine ⟨fun i σ' H' => ∃ y z, σ' = [some v1, some v2, some (.int ((mkN skip 0 (hats.take i) : Nat) : Int)), y, z] ∧ Wd Hb H B2 H', ⟨none, none, by rw [List.take_zero]; rfl, (Wd.keep x e1).trans w2⟩, fun i σ' H' ⟨_, _, _, h⟩ => h.sb, ?_, ?_⟩
  · rintro i f' σ' H' H3 hi hu ⟨y, z, rfl, w⟩ e3
    obtain ⟨v, d, hd, h_hat, rfl⟩ := hu
    rw [List.getElem?_map] at hd
    cases hq : hats[i]? with
    | none => rw [hq] at hd; cases hd
    | some g =>
      rw [hq] at hd
      cases hd
      have hil := lt_of_get hq
      have h_at : Da B2 (.int (i : Nat)) (.int (i : Nat)) := .int _
      have h_found : Da B2 (.int ((mkN skip 0 (hats.take i) : Nat) : Int)) (.int ((mkN skip 0 (hats.take i) : Nat) : Int)) := .int _
      have step : mkN skip 0 (hats.take (i + 1)) = mkN skip 0 (hats.take i) ^^^ (if g = 1 then (if i < skip then i + 1 else i + 2) else 0) := by
        rw [List.take_add_one, hq, mkN_app, List.length_take, Nat.min_eq_left (by omega), Nat.zero_add]
        show _ ^^^ ((if g = 1 then (if i < skip then i + 1 else i + 2) else 0) ^^^ 0) = _
        rw [Nat.xor_zero]
      refine s_when (w.sb.trans e3) (t_cmp (d_eqI (d_var rfl h_hat) d_int)) (fun hb H4 e4 => ?_) (fun hb H4 e4 => ?_)
      · have hb := of_decide_eq_true hb
        refine s_asgI ((w.sb.trans e3).trans e4) (d_I0 (d_var rfl h_found) (d_iteT (f := PyData.int) (t_cmp (d_IB (d_var rfl h_at) (d_var rfl h_skip))) (fun hyp => (d_I0 (d_var rfl h_at) d_int)) (fun hyp => (d_I0 (d_var rfl h_at) d_int)))) fun H5 e5 => ?_
        refine ⟨some (.int (i : Nat)), some v, ?_, w.trans (.keep w.sb ((e3.trans e4).trans e5))⟩
        have e6 : Builtin.bitXor ((mkN skip 0 (hats.take i) : Nat) : Int) (if decide (((i : Nat) : Int) < (skip : Int)) = true then ((i : Nat) : Int) + 1 else ((i : Nat) : Int) + 2) = ((mkN skip 0 (hats.take (i + 1)) : Nat) : Int) := by
          rw [step, if_pos hb]
          by_cases hs : i < skip
          · rw [if_pos (decide_eq_true (by omega)), if_pos hs, Bits.bitXor_pp (by omega) (by omega), Int.toNat_natCast, show (((i : Nat) : Int) + 1).toNat = i + 1 by omega]
          · rw [if_neg (by rw [decide_eq_false (by omega)]; decide), if_neg hs, Bits.bitXor_pp (by omega) (by omega), Int.toNat_natCast, show (((i : Nat) : Int) + 2).toNat = i + 2 by omega]
        rw [e6]
        rfl
      · have hb := of_decide_eq_false hb
        refine ⟨some (.int (i : Nat)), some v, ?_, w.trans (.keep w.sb (e3.trans e4))⟩
        rw [step, if_neg hb, Nat.xor_zero]
        rfl
  · rintro σ' H' ⟨y, z, rfl, w⟩
    rw [List.length_map, List.take_length]
    have h_found : Da B2 (.int ((mkN skip 0 hats : Nat) : Int)) (.int ((mkN skip 0 hats : Nat) : Int)) := .int _
    exact s_retI w.sb (d_var rfl h_found) fun H4 e4 => q _ B2 H4 (w.trans (.keep w.sb e4)) (.int _)

inductive R_word : List PyData → PyData → Prop
  | mk {seen place : Int} : R_word [.int seen, .int place] (dO (wordM seen place))
theorem ok_word (T : Top K mg) : Has P w K mg base 1 "word" ["seen", "place"] (Ct R_word) := by
  refine has_of T.d_word sc_word (fun _ _ _ _ _ _ us hl => match us, hl with | [_, _], _ => rfl) (Ct.len fun ds d r => by cases r; rfl) (fun f cdv A outer s H vs Q E hr h => ?_)
  obtain ⟨Hb, ds, d, x, hv, r, q⟩ := h
  obtain ⟨seen, place⟩ := r
  rename_i seen place
  obtain ⟨v1, v2, rfl, h_seen, h_place⟩ := DaAll.two hv
  refine ⟨_, PSs.nox (pss_cons (ps_if (pt_cmpR op_eq (pv 0) pe_int (nomark _)) (pss_one (ps_ret pe_int)) pss_nil)
      (pss_one (ps_ret (pe_ifExp (pt_cmpR op_eq (pv 0) (pv 1) (nomark _)) pe_int pe_non)))), ?_⟩
  unfold wordM at q
  refine q_when x (t_cmp (d_eqI (d_var rfl h_seen) d_int)) (fun hb H1 e1 => ?_) (fun hb H1 e1 => ?_)
  · rw [if_pos (of_decide_eq_true hb)] at q
    exact s_retI (x.trans e1) d_int fun H2 e2 => q _ Hb H2 (.keep x (e1.trans e2)) (.int _)
  · rw [if_neg (of_decide_eq_false hb)] at q
    refine s_ret (x.trans e1) ((d_iteT (f := dO) (x := some _) (y := none) (t_cmp (d_eqI (d_var rfl h_seen) (d_var rfl h_place))) (fun hyp => d_int) (fun hyp => d_non)).is (e := dO (if seen = place then some 0 else none)) ?_) fun v Hb' H' w k => q v Hb' H' ((Wd.keep x e1).trans w) k
    by_cases h : seen = place <;> simp [h]

inductive R_said : List PyData → PyData → Prop
  | mk {hats : List Int} (h : Hats 2 hats) (ht : Team hats.length) : R_said [dI hats] (dL dO (saidM hats))
theorem ok_said (T : Top K mg) : Has P w K mg base 4 "said" ["hats"] (CtF R_said) := by
  refine has_of T.d_said sc_said (fun _ _ _ _ _ _ us hl => match us, hl with | [_], _ => rfl) (CtF.len fun ds d r => by cases r; rfl) (fun f cdv A outer s H vs Q E hr h => ?_)
  obtain ⟨Hb, ds, d, x, hv, r, q⟩ := h
  obtain ⟨hh, ht⟩ := r
  rename_i hats
  obtain ⟨v1, rfl, h_hats⟩ := DaAll.one hv
  have hle := ht.le
  have hp : powM ((hats.length : Int) + 0) ≠ 0 := by rw [Int.add_zero]; exact ht.powM
  have hl : hats.length ≤ 1000 := by omega
  refine ⟨_, PSs.nox (pss_cons (ps_expr (pe_cl (ok_asked_team T) (hr.mono (by decide)) (by rfl) (pa_cons (pv 0) (pa_cons pe_int pa_nil))))
      (pss_cons (ps_set (i := 1) sc_said.nd rfl (.inr rfl) (pe_cl (ok_mark T) (hr.mono (by decide)) (by rfl) (pa_cons (pv 0) (pa_cons (pe_callB (call_lenK (K := K) rfl) (by rfl) T.n_len (by decide +kernel) (pa_cons (pv 0) pa_nil)) pa_nil))))
      (pss_one (ps_ret (pe_lc (own := [("at", 2), ("hat", 3)]) (by rfl) sc_said.nd (pi_enumK (K := K) rfl (by rfl) T.n_enumerate (pa_cons (pv 0) pa_nil)) (blkOk_by (own := [("at", 2), ("hat", 3)]) (N := ["hats", "whole", "at", "hat"]) (sc := defScope s_said) (by decide +kernel)) (fun _ _ _ _ _ => (pg_tupK (K := K) (n := 2) rfl rfl (pgs_cons (pg_name (i := 2) sc_said.nd rfl (.inl rfl)) (pgs_cons (pg_name (i := 3) sc_said.nd rfl (.inl rfl)) pgs_nil)))) (fun _ _ _ _ _ => pts_nil) (fun _ _ _ _ _ => (pe_cl (ok_word T) (hr.mono (by decide)) (by rfl) (pa_cons (pe_op op_xor (pv 1) (pe_op op_mul (pe_op op_add (pv 2) pe_int) (pv 3))) (pa_cons (pe_op op_add (pv 2) pe_int) pa_nil))))))))), ?_⟩
  refine q_drop x (d_call (a_cons (d_var rfl h_hats) (a_cons d_int a_nil)) (R_asked_team.mk (by first | assumption | omega | decide | (simp; done) | exact hside1 _ _ (by assumption) | exact hside2 _ _ (by assumption) | (have hq := lt_of_get (by assumption); omega)) (by first | assumption | omega | decide | (simp; done) | exact hside1 _ _ (by assumption) | exact hside2 _ _ (by assumption) | (have hq := lt_of_get (by assumption); omega)) (by first | assumption | omega | decide | (simp; done) | exact hside1 _ _ (by assumption) | exact hside2 _ _ (by assumption) | (have hq := lt_of_get (by assumption); omega)))) fun H1 e1 => ?_
  refine q_asgI (x.trans e1) (d_call (a_cons (d_var rfl h_hats) (a_cons (d_lenT (d_var rfl h_hats)) a_nil)) (R_mark.mk (by first | assumption | omega | decide | (simp; done) | exact hside1 _ _ (by assumption) | exact hside2 _ _ (by assumption) | (have hq := lt_of_get (by assumption); omega)))) fun H2 e2 => ?_
  have h_whole : Da Hb (.int ((mkN hats.length 0 hats : Nat) : Int)) (.int ((mkN hats.length 0 hats : Nat) : Int)) := .int _
  exact s_retF ((x.trans e1).trans e2) (lcEmc (e2 := dO) _ (d_var rfl h_hats) (fun _ _ => rfl) (fun i1 x1 v1 B1 hi1 hx1 h_hat => have h_at : Da B1 (.int (i1 : Nat)) (.int (i1 : Nat)) := .int _; (d_call (a_cons (d_I0 (d_var rfl (h_whole.up hx1)) (d_IC (d_I0 (d_var rfl h_at) d_int) (d_var rfl h_hat) (by first | assumption | exact Or.inl ⟨by omega, by omega⟩ | exact Or.inr ⟨by omega, by omega⟩ | (have hq := lt_of_get (by assumption); exact Or.inl ⟨by omega, by omega⟩)))) (a_cons (d_I0 (d_var rfl h_at) d_int) a_nil)) R_word.mk)) (by first | assumption | omega | (simp; done) | exact hsd1 _ | exact hsd2 _ | exact hsd3 _ | (have hq := lt_of_get (by assumption); omega))) fun p Hb' H' o => q p Hb' H' (.after (.keep x (e1.trans e2)) o)

inductive R_won : List PyData → PyData → Prop
  | mk {hats : List Int} (h : Hats 2 hats) (ht : Team hats.length) : R_won [dI hats] (.bool (wonM hats))
theorem ok_won (T : Top K mg) : Has P w K mg base 5 "won" ["hats"] (Ct R_won) := by
  refine has_of T.d_won sc_won (fun _ _ _ _ _ _ us hl => match us, hl with | [_], _ => rfl) (Ct.len fun ds d r => by cases r; rfl) (fun f cdv A outer s H vs Q E hr h => ?_)
  obtain ⟨Hb, ds, d, x, hv, r, q⟩ := h
  obtain ⟨hh, ht⟩ := r
  rename_i hats
  obtain ⟨v1, rfl, h_hats⟩ := DaAll.one hv
  have hle := ht.le
  have hsl := saidM_len hats
  refine ⟨_, PSs.nox (pss_cons (ps_set (i := 1) sc_won.nd rfl (.inl rfl) (pe_cl (ok_said T) (hr.mono (by decide)) (by rfl) (pa_cons (pv 0) pa_nil)))
      (pss_one (ps_ret (pe_and (pe_cmpR (op_neDK (K := K) rfl hr.units) (pv 1) (pe_op op_rep (pe_lst (pa_cons pe_non pa_nil)) (pe_callB (call_lenK (K := K) rfl) (by rfl) T.n_len (by decide +kernel) (pa_cons (pv 1) pa_nil))) (nomark _)) (pe_one (pe_callB (cr_allK (K := K) rfl rfl) (by rfl) T.n_all (by decide +kernel) (pa_cons (pe_lc (own := [("one", 2), ("hat", 3)]) (by rfl) sc_won.nd (pi_zipK (K := K) rfl (by rfl) T.n_zip (pa_cons (pv 1) (pa_cons (pv 0) pa_nil))) (blkOk_by (own := [("one", 2), ("hat", 3)]) (N := ["hats", "words", "one", "hat"]) (sc := defScope s_won) (by decide +kernel)) (fun _ _ _ _ _ => (pg_tupK (K := K) (n := 2) rfl rfl (pgs_cons (pg_name (i := 2) sc_won.nd rfl (.inl rfl)) (pgs_cons (pg_name (i := 3) sc_won.nd rfl (.inl rfl)) pgs_nil)))) (fun _ _ _ _ _ => pts_nil) (fun _ _ _ _ _ => (pe_or (pe_cmpR op_isN (pv 2) pe_non (nomark _)) (pe_one (pe_cmpR (op_eqDK (K := K) rfl hr.units) (pv 2) (pv 3) (nomark _)))))) pa_nil))))))), ?_⟩
  refine q_asg x (f_call (a_cons (d_var rfl h_hats) a_nil) (R_said.mk (by first | assumption | omega | decide | (simp; done) | exact hside1 _ _ (by assumption) | exact hside2 _ _ (by assumption) | (have hq := lt_of_get (by assumption); omega)) (by first | assumption | omega | decide | (simp; done) | exact hside1 _ _ (by assumption) | exact hside2 _ _ (by assumption) | (have hq := lt_of_get (by assumption); omega)))).D fun v2 B1 H1 w1 h_words => ?_
  have h_hats := h_hats.up w1.eb
  exact s_retB w1.sb (d_and (d_neT (eqf_list eqf_opt) (d_var rfl h_words) (f_rep1T (f := dO) (y := none) d_non (d_lenT (d_var rfl h_words)) (by first | assumption | omega | (simp; done) | exact hsd1 _ | exact hsd2 _ | exact hsd3 _ | (have hq := lt_of_get (by assumption); omega)) (by first | assumption | omega | (simp; done) | exact hsd1 _ | exact hsd2 _ | exact hsd3 _ | (have hq := lt_of_get (by assumption); omega))).D (shp_of (shf_list shf_opt) (by decide)) (shp_of (shf_list shf_opt) (by decide))) (fun hyp => (d_all (lcZmc (e2 := PyData.bool) _ (d_var rfl h_words) (d_var rfl h_hats) (fun _ _ => rfl) (fun i2 x2 y2 v2 w2 B2 hi2 hj2 hx2 h_one h_hat => (d_or (d_isN (d_var rfl h_one)) (fun hyp => (d_eqD (d_var rfl h_one) (d_var rfl h_hat) (shp_of shf_opt (by decide)) (shp_of shf_int (by decide)))))) (by first | assumption | omega | (simp; done) | exact hsd1 _ | exact hsd2 _ | exact hsd3 _ | (have hq := lt_of_get (by assumption); omega))).D))) fun H2 e2 => q _ B1 H2 (w1.trans (.keep w1.sb e2)) (.bl _)


inductive R_says : List PyData → PyData → Prop
  | mk {which : Nat} {others : List Int} (h : Hats 2 others) (hl : others.length ≤ 1000) (hp : powM ((others.length : Int) + 1) ≠ 0) (hw : which ≤ others.length) : R_says [.int (which : Nat), dI others] (dO (wordM ((mkN which 0 others : Nat) : Int) (((which : Nat) : Int) + 1)))
theorem ok_says (T : Top K mg) : Has P w K mg base 4 "says" ["which", "others"] (Ct R_says) := by
  refine has_of T.d_says sc_says (fun _ _ _ _ _ _ us hl => match us, hl with | [_, _], _ => rfl) (Ct.len fun ds d r => by cases r; rfl) (fun f cdv A outer s H vs Q E hr h => ?_)
  obtain ⟨Hb, ds, d, x, hv, r, q⟩ := h
  obtain ⟨hh, hl, hp, hw⟩ := r
  rename_i which others
  obtain ⟨v1, v2, rfl, h_which, h_others⟩ := DaAll.two hv
  refine ⟨_, PSs.nox (pss_cons (ps_expr (pe_cl (ok_asked_team T) (hr.mono (by decide)) (by rfl) (pa_cons (pv 1) (pa_cons pe_int pa_nil))))
      (pss_cons (ps_if (PW.pt (pw_or (pt_not (pt_val (pe_cl (ok_is_number T) (hr.mono (by decide)) (by rfl) (pa_cons (pv 0) pa_nil)))) (pw_or1 (pt_not (pt_chain op_le op_le pe_int (pv 0) (pe_callB (call_lenK (K := K) rfl) (by rfl) T.n_len (by decide +kernel) (pa_cons (pv 1) pa_nil))))))) (pss_one ps_never) pss_nil)
      (pss_one (ps_ret (pe_cl (ok_word T) (hr.mono (by decide)) (by rfl) (pa_cons (pe_cl (ok_mark T) (hr.mono (by decide)) (by rfl) (pa_cons (pv 1) (pa_cons (pv 0) pa_nil))) (pa_cons (pe_op op_add (pv 0) pe_int) pa_nil))))))), ?_⟩
  refine q_drop x (d_call (a_cons (d_var rfl h_others) (a_cons d_int a_nil)) (R_asked_team.mk (by first | assumption | omega | decide | (simp; done) | exact hside1 _ _ (by assumption) | exact hside2 _ _ (by assumption) | (have hq := lt_of_get (by assumption); omega)) (by first | assumption | omega | decide | (simp; done) | exact hside1 _ _ (by assumption) | exact hside2 _ _ (by assumption) | (have hq := lt_of_get (by assumption); omega)) (by first | assumption | omega | decide | (simp; done) | exact hside1 _ _ (by assumption) | exact hside2 _ _ (by assumption) | (have hq := lt_of_get (by assumption); omega)))) fun H1 e1 => ?_
  refine q_no (x.trans e1) ((t_or (t_not (t_val (d_call (a_cons (d_var rfl h_which) a_nil) R_is_number.mk))) (fun hyp => (t_not (t_cmp (d_chain d_int (d_var rfl h_which) (d_lenT (d_var rfl h_others))))))).is (by rw [decide_eq_true (show (0 : Int) ≤ (which : Nat) by omega), decide_eq_true (show ((which : Nat) : Int) ≤ (others.length : Int) by omega)]; rfl)) fun H2 e2 => ?_
  exact s_ret ((x.trans e1).trans e2) (d_call (a_cons (d_call (a_cons (d_var rfl h_others) (a_cons (d_var rfl h_which) a_nil)) (R_mark.mk (by first | assumption | omega | decide | (simp; done) | exact hside1 _ _ (by assumption) | exact hside2 _ _ (by assumption) | (have hq := lt_of_get (by assumption); omega)))) (a_cons (d_I0 (d_var rfl h_which) d_int) a_nil)) R_word.mk) fun v Hb' H' w k => q v Hb' H' ((Wd.keep x (e1.trans e2)).trans w) k

end
end Hg

namespace Hg
open PySem PySem.Spec PyProof.Rows L2 Evl
section
variable {P : Program} {w : World} {K : PySem.W.Frag} {mg : Str → Option Value} {base : Heap}
/-! ### the law's numbers -/
def numM (cell at_ whole : Int) : Int := if 1000000000000000000 ≤ cell then cell else
  (((cell + 977 * at_) * 48271 + whole) % 2147483647 * (cell + 31 * at_ + 7)) * (((cell + 977 * at_) * 48271 + whole) % 2147483647 + cell + 5) / (1009 + at_)

inductive R_law_number : List PyData → PyData → Prop
  | mk {cell at_ whole : Int} (h : Bt 2000000 cell) (h0 : 0 ≤ at_) (h1 : at_ ≤ 100000) : R_law_number [.int cell, .int at_, .int whole] (.int (numM cell at_ whole))
theorem big_ok {cell at_ m : Int} (h : Bt 2000000 cell) (h0 : 0 ≤ at_) (h1 : at_ ≤ 100000) (m0 : 0 ≤ m) (m1 : m < 2147483647) : CMulB (m * (cell + 31 * at_ + 7)) (m + cell + 5) := by
  have hm : Bt 31 m := by
    unfold Bt
    omega
  have ha : Bt 64 (31 * at_ + 7) := by
    unfold Bt
    omega
  have h5 : Bt 64 (m + 5) := by
    unfold Bt
    omega
  have e1 : cell + 31 * at_ + 7 = cell + (31 * at_ + 7) := by omega
  have e2 : m + cell + 5 = cell + (m + 5) := by omega
  have a := hm.mul (h.add ha)
  have b := h.add h5
  have p : (2 : Nat) ^ 25 = 33554432 := by decide
  rw [e1, e2]
  constructor
  · rw [p]; exact a.mono (by omega)
  · rw [p]; exact b.mono (by omega)
theorem ok__law_number (T : Top K mg) : Has P w K mg base 1 "_law_number" ["_law_cell", "_law_at", "_law_whole"] (Ct R_law_number) := by
  refine has_of T.d__law_number sc__law_number (fun _ _ _ _ _ _ us hl => match us, hl with | [_, _, _], _ => rfl) (Ct.len fun ds d r => by cases r; rfl) (fun f cdv A outer s H vs Q E hr h => ?_)
  obtain ⟨Hb, ds, d, x, hv, r, q⟩ := h
  obtain ⟨hb, h0, h1⟩ := r
  rename_i cell at_ whole
  obtain ⟨v1, v2, v3, rfl, h__law_cell, h__law_at, h__law_whole⟩ := DaAll.three hv
  refine ⟨_, PSs.nox (pss_cons (ps_if (pt_cmpR op_ge (pv 0) (pe_op op_pow pe_int pe_int) (nomark _)) (pss_one (ps_ret (pv 0))) pss_nil)
      (pss_cons (ps_set (i := 3) sc__law_number.nd rfl (.inl rfl) (pe_op op_mod (pe_op op_add (pe_op op_mul (pe_op op_add (pv 0) (pe_op op_mul pe_int (pv 1))) pe_int) (pv 2)) pe_int))
      (pss_cons (ps_set (i := 4) sc__law_number.nd rfl (.inl rfl) (pe_op op_mul (pv 3) (pe_op op_add (pe_op op_add (pv 0) (pe_op op_mul pe_int (pv 1))) pe_int)))
      (pss_one (ps_ret (pe_op op_fdv (pe_op op_mulB (pv 4) (pe_op op_add (pe_op op_add (pv 3) (pv 0)) pe_int)) (pe_op op_add pe_int (pv 1)))))))), ?_⟩
  refine q_when x (t_cmp (d_IB (d_var rfl h__law_cell) (d_IC d_int d_int (by first | assumption | exact ⟨by omega, by omega, by omega⟩)))) (fun hb H1 e1 => ?_) (fun hb H1 e1 => ?_)
  · have hb : (1000000000000000000 : Int) ≤ cell := of_decide_eq_true hb
    refine s_retI (x.trans e1) (d_var rfl h__law_cell) fun H' e => ?_
    have := q _ Hb H' (.keep x (e1.trans e)) (.int _)
    unfold numM at this
    rw [if_pos hb] at this
    exact this
  · have hb : ¬ (1000000000000000000 : Int) ≤ cell := of_decide_eq_false hb
    unfold numM at q
    rw [if_neg hb] at q
    refine q_asgI (x.trans e1) (d_IC (d_I0 (d_IC (d_I0 (d_var rfl h__law_cell) (d_IC d_int (d_var rfl h__law_at) (by first | assumption | exact Or.inl ⟨by omega, by omega⟩ | exact Or.inr ⟨by omega, by omega⟩ | (have hq := lt_of_get (by assumption); exact Or.inl ⟨by omega, by omega⟩)))) d_int (by first | assumption | exact Or.inl ⟨by omega, by omega⟩ | exact Or.inr ⟨by omega, by omega⟩ | (have hq := lt_of_get (by assumption); exact Or.inl ⟨by omega, by omega⟩))) (d_var rfl h__law_whole)) d_int (by first | assumption | omega | (simp; done) | exact hsd1 _ | exact hsd2 _ | exact hsd3 _ | (have hq := lt_of_get (by assumption); omega))) fun H2 e2 => ?_
    generalize hm : ((cell + 977 * at_) * 48271 + whole) % 2147483647 = m at q ⊢
    have m0 : 0 ≤ m := by omega
    have m1 : m < 2147483647 := by omega
    have hbig := big_ok (by assumption) h0 h1 m0 m1
    have h__law_mixed : Da Hb (.int m) (.int m) := .int m
    refine q_asgI ((x.trans e1).trans e2) (d_IC (d_var rfl h__law_mixed) (d_I0 (d_I0 (d_var rfl h__law_cell) (d_IC d_int (d_var rfl h__law_at) (by first | assumption | exact Or.inl ⟨by omega, by omega⟩ | exact Or.inr ⟨by omega, by omega⟩ | (have hq := lt_of_get (by assumption); exact Or.inl ⟨by omega, by omega⟩)))) d_int) (by first | assumption | exact Or.inl ⟨by omega, by omega⟩ | exact Or.inr ⟨by omega, by omega⟩ | (have hq := lt_of_get (by assumption); exact Or.inl ⟨by omega, by omega⟩))) fun H3 e3 => ?_
    have h__law_more : Da Hb (.int (m * (cell + 31 * at_ + 7))) (.int (m * (cell + 31 * at_ + 7))) := .int _
    exact s_retI (((x.trans e1).trans e2).trans e3) (d_IC (d_IC (d_var rfl h__law_more) (d_I0 (d_I0 (d_var rfl h__law_mixed) (d_var rfl h__law_cell)) d_int) (by assumption)) (d_I0 d_int (d_var rfl h__law_at)) (by first | assumption | exact ⟨by omega, by omega⟩)) fun H4 e4 => q _ Hb H4 (.keep x (((e1.trans e2).trans e3).trans e4)) (.int _)

/-! ### the law's team -/

def TeamPost (_ : List Int) (d : PyData) : Prop := ∃ hats : List Int, d = dI hats ∧ Hats 2 hats ∧ Team hats.length
theorem many_team (whole : Int) : ∃ n : Nat, [7, 3, 7, 15, 1, 7, 15, 31].getD (whole % 8).toNat 0 = (n : Int) ∧ Team n := by
  have h1 : (whole % 8).toNat < 8 := by omega
  generalize (whole % 8).toNat = n at h1
  match n, h1 with
  | 0, _ => exact ⟨7, rfl, by unfold Team; omega⟩
  | 1, _ => exact ⟨3, rfl, by unfold Team; omega⟩
  | 2, _ => exact ⟨7, rfl, by unfold Team; omega⟩
  | 3, _ => exact ⟨15, rfl, by unfold Team; omega⟩
  | 4, _ => exact ⟨1, rfl, by unfold Team; omega⟩
  | 5, _ => exact ⟨7, rfl, by unfold Team; omega⟩
  | 6, _ => exact ⟨15, rfl, by unfold Team; omega⟩
  | 7, _ => exact ⟨31, rfl, by unfold Team; omega⟩
theorem alike_hats {found : List Int} (h : Hats 2 found) (p : Int × Nat → Bool) : Hats 2 (found.zipIdx.map fun z => if p z = true then found.getD (0 : Int).toNat 0 else z.1) := by
  intro y hy
  obtain ⟨z, hz, rfl⟩ := List.mem_map.mp hy
  have h1 : found[z.2]? = some z.1 := List.mem_zipIdx_iff_getElem?.mp hz
  have hl := lt_of_get h1
  split
  · rw [List.getD_eq_getElem?_getD]
    have e : found[(0 : Int).toNat]? = some (found[0]'(by omega)) := List.getElem?_eq_getElem (by omega)
    rw [e]
    exact h _ (List.getElem_mem (by omega))
  · exact h _ (List.mem_of_getElem? h1)
theorem ok__law_team (T : Top K mg) : Has P w K mg base 2 "_law_team" ["_law_script"] (CtN K (fun ns => ∀ y ∈ ns, Bt 1048576 y) TeamPost) := by
  refine has_of T.d__law_team sc__law_team (fun _ _ _ _ _ _ us hl => match us, hl with | [_], _ => rfl) CtN.len (fun f cdv A outer s H vs Q E hr h => ?_)
  obtain ⟨Hb, a, ns, rfl, x, h__law_script, hbit, q⟩ := h
  refine ⟨_, PSs.nox (pss_cons (ps_set (i := 1) sc__law_team.nd rfl (.inr rfl) (pe_callB (cr_sumK (K := K) rfl rfl) (by rfl) T.n_sum (by decide +kernel) (pa_cons (pe_slice (sl_listK (K := K) rfl) (pv 0) po_none (po_some pe_int)) pa_nil)))
      (pss_cons (ps_set (i := 2) sc__law_team.nd rfl (.inl rfl) (pe_ix (ix_tupK (K := K) rfl) (pe_tup (pa_cons pe_int (pa_cons pe_int (pa_cons pe_int (pa_cons pe_int (pa_cons pe_int (pa_cons pe_int (pa_cons pe_int (pa_cons pe_int pa_nil))))))))) (pe_op op_mod (pv 1) pe_int) (fun _ _ => rfl)))
      (Evl.pss_cut (ps_if (pt_cmpR op_eq (pe_op op_mod (pe_op op_fdv (pv 1) pe_int) pe_int) pe_int (nomark _)) (pss_one (ps_set (i := 2) sc__law_team.nd rfl (.inl rfl) pe_int)) pss_nil)
      (pss_cons (ps_set (i := 3) sc__law_team.nd rfl (.inr rfl) (pe_ifExp (pt_cmpR (op_neDK (K := K) rfl hr.units) (pv 0) (pe_lst pa_nil) (nomark _)) (pe_slice (sl_listK (K := K) rfl) (pv 0) po_none (po_some pe_int)) (pe_lst (pa_cons pe_int pa_nil))))
      (pss_cons (ps_set (i := 4) sc__law_team.nd rfl (.inr rfl) (pe_lc (own := [("_law_at", 6)]) (by rfl) sc__law_team.nd (pi_range1 (by rfl) T.n_range (pa_cons (pv 2) pa_nil)) (blkOk_by (own := [("_law_at", 6)]) (N := ["_law_script", "_law_whole", "_law_many", "_law_cells", "_law_found", "_law_number_here", "_law_at", "_law_hat"]) (sc := defScope s__law_team) (by decide +kernel)) (fun _ _ _ _ _ => (pg_name (i := 6) sc__law_team.nd rfl (.inl rfl))) (fun _ _ _ _ _ => pts_nil) (fun _ _ _ _ _ => (pe_op op_mod (pe_cl (ok__law_number T) (hr.mono (by decide)) (by rfl) (pa_cons (pe_op op_shr (pe_ix (ix_listK (K := K) rfl) (pv 3) (pe_op op_mod (pv 6) (pe_callB (call_lenK (K := K) rfl) (by rfl) T.n_len (by decide +kernel) (pa_cons (pv 3) pa_nil))) (fun _ _ => rfl)) (pe_op op_fdv (pv 6) (pe_callB (call_lenK (K := K) rfl) (by rfl) T.n_len (by decide +kernel) (pa_cons (pv 3) pa_nil)))) (pa_cons (pv 6) (pa_cons (pv 1) pa_nil)))) pe_int))))
      (Evl.pss_cut (ps_if (pt_cmpR op_eq (pe_op op_mod (pe_op op_fdv (pv 1) pe_int) pe_int) pe_int (nomark _)) (pss_cons (ps_set (i := 5) sc__law_team.nd rfl (.inr rfl) (pe_cl (ok__law_number T) (hr.mono (by decide)) (by rfl) (pa_cons (pe_ix (ix_listK (K := K) rfl) (pv 3) pe_int (fun _ _ => rfl)) (pa_cons pe_int (pa_cons (pv 1) pa_nil)))))
      (pss_one (ps_set (i := 4) sc__law_team.nd rfl (.inr rfl) (pe_lc (own := [("_law_at", 6)]) (by rfl) sc__law_team.nd (pi_range1 (by rfl) T.n_range (pa_cons (pv 2) pa_nil)) (blkOk_by (own := [("_law_at", 6)]) (N := ["_law_script", "_law_whole", "_law_many", "_law_cells", "_law_found", "_law_number_here", "_law_at", "_law_hat"]) (sc := defScope s__law_team) (by decide +kernel)) (fun _ _ _ _ _ => (pg_name (i := 6) sc__law_team.nd rfl (.inl rfl))) (fun _ _ _ _ _ => pts_nil) (fun _ _ _ _ _ => (pe_op op_and (pe_op op_shr (pv 5) (pv 6)) pe_int)))))) pss_nil)
      (pss_one (ps_ret (pe_ifExp (pt_cmpR op_eq (pe_op op_mod (pe_op op_fdv (pv 1) pe_int) pe_int) pe_int (nomark _)) (pe_lc (own := [("_law_at", 6), ("_law_hat", 7)]) (by rfl) sc__law_team.nd (pi_enumK (K := K) rfl (by rfl) T.n_enumerate (pa_cons (pv 4) pa_nil)) (blkOk_by (own := [("_law_at", 6), ("_law_hat", 7)]) (N := ["_law_script", "_law_whole", "_law_many", "_law_cells", "_law_found", "_law_number_here", "_law_at", "_law_hat"]) (sc := defScope s__law_team) (by decide +kernel)) (fun _ _ _ _ _ => (pg_tupK (K := K) (n := 2) rfl rfl (pgs_cons (pg_name (i := 6) sc__law_team.nd rfl (.inl rfl)) (pgs_cons (pg_name (i := 7) sc__law_team.nd rfl (.inl rfl)) pgs_nil)))) (fun _ _ _ _ _ => pts_nil) (fun _ _ _ _ _ => (pe_ifExp (pt_cmpR op_gt (pe_op op_mod (pv 6) pe_int) pe_int (nomark _)) (pe_ix (ix_listK (K := K) rfl) (pv 4) pe_int (fun _ _ => rfl)) (pv 7)))) (pv 4)))))))))), ?_⟩
  refine q_asgI x (d_sum (f_sliceS rfl h__law_script p_none (p_some d_int)).D) fun H1 e1 => ?_
  generalize (cut ns none (some 63)).sum = whole
  have h__law_whole : Da Hb (.int whole) (.int whole) := .int _
  refine q_asgI (x.trans e1) (d_ixUT (0 : Int) (d_tupT (f := PyData.int) (a_consT d_int (a_consT d_int (a_consT d_int (a_consT d_int (a_consT d_int (a_consT d_int (a_consT d_int (a_consT d_int a_nilT)))))))) (by simp)) (d_IC (d_var rfl h__law_whole) d_int (by first | assumption | omega | (simp; done) | exact hsd1 _ | exact hsd2 _ | exact hsd3 _ | (have hq := lt_of_get (by assumption); omega))) (by first | assumption | omega | (simp; done) | exact hsd1 _ | exact hsd2 _ | exact hsd3 _ | (have hq := lt_of_get (by assumption); omega)) (by first | omega | (simp; omega))) fun H2 e2 => ?_
  obtain ⟨n0, hn0, ht0⟩ := many_team whole
  rw [hn0]
  have h__law_many : Da Hb (.int (n0 : Nat)) (.int (n0 : Nat)) := .int _
  have x2 : Ex Hb H2 := (x.trans e1).trans e2
  refine Evl.q_cut (M := fun σ' H' => ∃ n : Nat, σ' = [some (.ref a), some (.int whole), some (.int (n : Nat)), none, none, none, none, none] ∧ Team n ∧ Ex H H') ?_ ?_
  · refine s_when x2 (t_cmp (d_eqI (d_IC (d_IC (d_var rfl h__law_whole) d_int (by first | assumption | exact ⟨by omega, by omega⟩)) d_int (by first | assumption | omega | (simp; done) | exact hsd1 _ | exact hsd2 _ | exact hsd3 _ | (have hq := lt_of_get (by assumption); omega))) d_int)) (fun hb H3 e3 => ?_) (fun hb H3 e3 => ?_)
    · exact s_asgI (x2.trans e3) d_int fun H4 e4 => ⟨63, rfl, by unfold Team; omega, ((e1.trans e2).trans e3).trans e4⟩
    · exact ⟨n0, rfl, ht0, (e1.trans e2).trans e3⟩
  rintro σ' H3 ⟨n, rfl, ht, e3⟩
  have hle := ht.le
  have h__law_many : Da Hb (.int (n : Nat)) (.int (n : Nat)) := .int _
  refine q_asg (x.trans e3) (d_iteT (f := (dL PyData.int)) (t_cmp (d_neS rfl h__law_script)) (fun hyp => (f_sliceS rfl h__law_script p_none (p_some d_int)).D) (fun hyp => (d_lstT (f := PyData.int) (a_consT d_int a_nilT) (by simp)))) fun v3 B4 H4 w4 h__law_cells => ?_
  have h__law_whole := h__law_whole.up w4.eb; have h__law_many := h__law_many.up w4.eb
  have hcells : (if (!decide (ns = [])) = true then cut ns none (some 63) else [5]).length ≤ 63 ∧ 0 < (if (!decide (ns = [])) = true then cut ns none (some 63) else [5]).length ∧ ∀ y ∈ (if (!decide (ns = [])) = true then cut ns none (some 63) else [5]), Bt 1048576 y := by
    have e63 : cut ns none (some 63) = ns.take 63 := by rw [show (some (63 : Int)) = some ((63 : Nat) : Int) from rfl, cut_to]
    split
    · rename_i h
      have h : ns ≠ [] := by simpa using h
      have hl := List.length_pos_iff.mpr h
      rw [e63, List.length_take]
      exact ⟨by omega, by omega, fun y hy => hbit y (List.mem_of_mem_take hy)⟩
    · refine ⟨by simp, by simp, fun y hy => ?_⟩
      have hy : y = 5 := by simpa using hy
      subst hy
      exact (show Bt 3 5 by unfold Bt; decide).mono (by omega)
  generalize (if (!decide (ns = [])) = true then cut ns none (some 63) else [5]) = cells at hcells h__law_cells
  obtain ⟨hcl, hcp, hcb⟩ := hcells
  have hsd1 : ∀ i : Int, 0 ≤ i % (cells.length : Int) := fun i => Int.emod_nonneg _ (by omega)
  have hsd2 : ∀ i : Int, i % (cells.length : Int) < (cells.length : Int) := fun i => Int.emod_lt_of_pos _ (by omega)
  have hsd3 : ∀ i : Nat, 0 ≤ ((i : Nat) : Int) / (cells.length : Int) := fun i => Int.ediv_nonneg (by omega) (by omega)
  have hsb : ∀ (k j : Nat), Bt 2000000 (cells.getD k 0 / 2 ^ j) := fun k j => by
    refine Bt.shr ?_ j
    rw [List.getD_eq_getElem?_getD]
    cases hq : cells[k]? with
    | none => exact (show Bt 1 0 by unfold Bt; decide).mono (by omega)
    | some y => exact (hcb y (List.mem_of_getElem? hq)).mono (by omega)
  have hmod : ∀ (m : Nat) (g : Nat → Int), Hats 2 ((List.range m).map fun i => g i % 2) := fun m g y hy => by
    obtain ⟨i, _, rfl⟩ := List.mem_map.mp hy
    exact ⟨Int.emod_nonneg _ (by omega), Int.emod_lt_of_pos _ (by omega)⟩
  refine q_asgF w4.sb (lcRm (e2 := PyData.int) _ (d_var rfl h__law_many) (fun _ => rfl) (fun i1 B1 hi1 hx1 => have h__law_at : Da B1 (.int (i1 : Nat)) (.int (i1 : Nat)) := .int _; (d_IC (d_call (a_cons (d_IC (d_ixT (0 : Int) (d_var rfl (h__law_cells.up hx1)) (d_IC (d_var rfl h__law_at) (d_lenT (d_var rfl (h__law_cells.up hx1))) (by first | assumption | omega | (simp; done) | exact hsd1 _ | exact hsd2 _ | exact hsd3 _ | (have hq := lt_of_get (by assumption); omega))) (by first | assumption | omega | (simp; done) | exact hsd1 _ | exact hsd2 _ | exact hsd3 _ | (have hq := lt_of_get (by assumption); omega)) (by first | assumption | omega | (simp; done) | exact hsd1 _ | exact hsd2 _ | exact hsd3 _ | (have hq := lt_of_get (by assumption); omega))) (d_IC (d_var rfl h__law_at) (d_lenT (d_var rfl (h__law_cells.up hx1))) (by first | assumption | exact ⟨by omega, by omega⟩)) (by first | assumption | omega | (simp; done) | exact hsd1 _ | exact hsd2 _ | exact hsd3 _ | (have hq := lt_of_get (by assumption); omega))) (a_cons (d_var rfl h__law_at) (a_cons (d_var rfl (h__law_whole.up hx1)) a_nil))) (R_law_number.mk (by first | assumption | omega | decide | (simp; done) | exact hsb _ _ | exact hside1 _ _ (by assumption) | exact hside2 _ _ (by assumption) | (have hq := lt_of_get (by assumption); omega)) (by first | assumption | omega | decide | (simp; done) | exact hsb _ _ | exact hside1 _ _ (by assumption) | exact hside2 _ _ (by assumption) | (have hq := lt_of_get (by assumption); omega)) (by first | assumption | omega | decide | (simp; done) | exact hsb _ _ | exact hside1 _ _ (by assumption) | exact hside2 _ _ (by assumption) | (have hq := lt_of_get (by assumption); omega)))) d_int (by first | assumption | omega | (simp; done) | exact hsd1 _ | exact hsd2 _ | exact hsd3 _ | (have hq := lt_of_get (by assumption); omega)))) (by first | assumption | omega | (simp; done) | exact hsd1 _ | exact hsd2 _ | exact hsd3 _ | (have hq := lt_of_get (by assumption); omega)) (by first | assumption | omega | (simp; done) | exact hsd1 _ | exact hsd2 _ | exact hsd3 _ | (have hq := lt_of_get (by assumption); omega))) fun p5 Hb5 H5 o5 => ?_
  obtain ⟨B5, w5, _, k5⟩ := o5.known
  have w05 : Wd Hb H B5 H5 := ((Wd.keep x e3).trans w4).trans w5
  have h__law_whole := h__law_whole.up w5.eb; have h__law_many := h__law_many.up w5.eb; have h__law_cells := h__law_cells.up w5.eb
  have hf5 := hmod ((n : Int)).toNat fun i => numM (cells.getD (((i : Nat) : Int) % (cells.length : Int)).toNat 0 / 2 ^ (((i : Nat) : Int) / (cells.length : Int)).toNat) ((i : Nat) : Int) whole
  refine Evl.q_cut (M := fun σ' H' => ∃ (y5 : Option V) (p : Addr) (found : List Int) (B : Hp), σ' = [some (.ref a), some (.int whole), some (.int (n : Nat)), some v3, some (.ref p), y5, none, none] ∧ Wd Hb H B H' ∧ Da B (.ref p) (dI found) ∧ Hats 2 found ∧ found.length = n) ?_ ?_
  · refine s_when w5.sb (t_cmp (d_eqI (d_IC (d_IC (d_var rfl h__law_whole) d_int (by first | assumption | exact ⟨by omega, by omega⟩)) d_int (by first | assumption | omega | (simp; done) | exact hsd1 _ | exact hsd2 _ | exact hsd3 _ | (have hq := lt_of_get (by assumption); omega))) d_int)) (fun hb H6 e6 => ?_) (fun hb H6 e6 => ?_)
    · have hsb0 : Bt 2000000 (cells.getD (0 : Int).toNat 0) := by
        have := hsb 0 0
        rw [show (2 : Int) ^ 0 = 1 from rfl, Int.ediv_one] at this
        exact this
      refine q_asgI (w5.sb.trans e6) (d_call (a_cons (d_ixT (0 : Int) (d_var rfl h__law_cells) d_int (by first | assumption | omega | (simp; done) | exact hsd1 _ | exact hsd2 _ | exact hsd3 _ | (have hq := lt_of_get (by assumption); omega)) (by first | assumption | omega | (simp; done) | exact hsd1 _ | exact hsd2 _ | exact hsd3 _ | (have hq := lt_of_get (by assumption); omega))) (a_cons d_int (a_cons (d_var rfl h__law_whole) a_nil))) (R_law_number.mk (by first | assumption | omega | decide | (simp; done) | exact hsb _ _ | exact hside1 _ _ (by assumption) | exact hside2 _ _ (by assumption) | (have hq := lt_of_get (by assumption); omega)) (by first | assumption | omega | decide | (simp; done) | exact hsb _ _ | exact hside1 _ _ (by assumption) | exact hside2 _ _ (by assumption) | (have hq := lt_of_get (by assumption); omega)) (by first | assumption | omega | decide | (simp; done) | exact hsb _ _ | exact hside1 _ _ (by assumption) | exact hside2 _ _ (by assumption) | (have hq := lt_of_get (by assumption); omega)))) fun H7 e7 => ?_
      generalize numM (cells.getD (0 : Int).toNat 0) 2 whole = num
      have h__law_number_here : Da B5 (.int num) (.int num) := .int _
      refine s_asgF ((w5.sb.trans e6).trans e7) (lcRm (e2 := PyData.int) _ (d_var rfl h__law_many) (fun _ => rfl) (fun i2 B2 hi2 hx2 => have h__law_at : Da B2 (.int (i2 : Nat)) (.int (i2 : Nat)) := .int _; (d_I0 (d_IC (d_var rfl (h__law_number_here.up hx2)) (d_var rfl h__law_at) (by first | assumption | omega | (simp; done) | exact hsd1 _ | exact hsd2 _ | exact hsd3 _ | (have hq := lt_of_get (by assumption); omega))) d_int)) (by first | assumption | omega | (simp; done) | exact hsd1 _ | exact hsd2 _ | exact hsd3 _ | (have hq := lt_of_get (by assumption); omega)) (by first | assumption | omega | (simp; done) | exact hsd1 _ | exact hsd2 _ | exact hsd3 _ | (have hq := lt_of_get (by assumption); omega))) fun p8 Hb8 H8 o8 => ?_
      obtain ⟨B8, w8, _, k8⟩ := o8.known
      refine ⟨some (.int num), p8, _, B8, rfl, (w05.trans (.keep w5.sb (e6.trans e7))).trans w8, k8, fun y hy => ?_, by rw [List.length_map, List.length_range]; omega⟩
      obtain ⟨i, _, rfl⟩ := List.mem_map.mp hy
      rw [bitAnd_m1]
      exact ⟨Int.emod_nonneg _ (by omega), Int.emod_lt_of_pos _ (by omega)⟩
    · exact ⟨none, p5, _, B5, rfl, w05.trans (.keep w5.sb e6), k5, hf5, by rw [List.length_map, List.length_range]; omega⟩
  rintro σ' H9 ⟨y5, p, found, B, rfl, w, h__law_found, hfh, hfl⟩
  have h__law_whole : Da B (.int whole) (.int whole) := .int _
  refine s_ret w.sb (d_iteT (f := (dL PyData.int)) (t_cmp (d_eqI (d_IC (d_IC (d_var rfl h__law_whole) d_int (by first | assumption | exact ⟨by omega, by omega⟩)) d_int (by first | assumption | omega | (simp; done) | exact hsd1 _ | exact hsd2 _ | exact hsd3 _ | (have hq := lt_of_get (by assumption); omega))) d_int)) (fun hyp => (lcEmc (e2 := PyData.int) _ (d_var rfl h__law_found) (fun _ _ => rfl) (fun i3 x3 v3 B3 hi3 hx3 h__law_hat => have h__law_at : Da B3 (.int (i3 : Nat)) (.int (i3 : Nat)) := .int _; (d_iteT (f := PyData.int) (t_cmp (d_IB (d_IC (d_var rfl h__law_at) d_int (by first | assumption | omega | (simp; done) | exact hsd1 _ | exact hsd2 _ | exact hsd3 _ | (have hq := lt_of_get (by assumption); omega))) d_int)) (fun hyp => (d_ixT (0 : Int) (d_var rfl (h__law_found.up hx3)) d_int (by first | assumption | omega | (simp; done) | exact hsd1 _ | exact hsd2 _ | exact hsd3 _ | (have hq := lt_of_get (by assumption); omega)) (by first | assumption | omega | (simp; done) | exact hsd1 _ | exact hsd2 _ | exact hsd3 _ | (have hq := lt_of_get (by assumption); omega)))) (fun hyp => (d_var rfl h__law_hat)))) (by first | assumption | omega | (simp; done) | exact hsd1 _ | exact hsd2 _ | exact hsd3 _ | (have hq := lt_of_get (by assumption); omega))).D) (fun hyp => (d_var rfl h__law_found))) fun v Hb' H' w' k => q _ v Hb' H' ⟨_, rfl, ?_, ?_⟩ (w.trans w') k
  · split
    · exact alike_hats hfh _
    · exact hfh
  · split
    · rw [List.length_map, List.length_zipIdx, hfl]
      exact ht
    · rw [hfl]
      exact ht
/-! ### the law's looks at words -/

theorem told_ints : ∀ words : List (Option Int), (∀ o ∈ words, o = none ∨ o = some 0 ∨ o = some 1) → ∃ ts : List Int, ((words.filter fun o => !isNon (dO o)).map fun o => o) = ts.map some ∧ ∀ t ∈ ts, t = 0 ∨ t = 1
  | [], _ => ⟨[], rfl, fun t ht => by cases ht⟩
  | o :: r, h => by
    obtain ⟨ts, h1, h2⟩ := told_ints r fun z hz => h z (List.mem_cons_of_mem _ hz)
    cases o with
    | none =>
      refine ⟨ts, ?_, h2⟩
      rw [List.filter_cons_of_neg (by decide)]
      exact h1
    | some t =>
      refine ⟨t :: ts, ?_, fun z hz => ?_⟩
      · rw [List.filter_cons_of_pos (by rfl), List.map_cons, h1]
        rfl
      · rcases List.mem_cons.mp hz with e | e
        · subst e
          rcases h (some z) (by simp) with q | q | q
          · cases q
          · exact .inl (Option.some.inj q)
          · exact .inr (Option.some.inj q)
        · exact h2 z e
inductive R_law_words_right : List PyData → PyData → Prop
  | mk {hats : List Int} {words : List (Option Int)} (h : ∀ o ∈ words, o = none ∨ o = some 0 ∨ o = some 1) (hl : words.length = hats.length) (hz : hats.length ≤ 1000) : R_law_words_right [dI hats, dL dO words] (.bool true)
theorem ok__law_words_right (T : Top K mg) : Has P w K mg base 1 "_law_words_right" ["_law_hats", "_law_words"] (Ct R_law_words_right) := by
  refine has_of T.d__law_words_right sc__law_words_right (fun _ _ _ _ _ _ us hl => match us, hl with | [_, _], _ => rfl) (Ct.len fun ds d r => by cases r; rfl) (fun f cdv A outer s H vs Q E hr h => ?_)
  obtain ⟨Hb, ds, d, x, hv, r, q⟩ := h
  obtain ⟨hw, hl, hz⟩ := r
  rename_i hats words
  obtain ⟨v1, v2, rfl, h__law_hats, h__law_words⟩ := DaAll.two hv
  refine ⟨_, PSs.nox (pss_cons (ps_if (PW.pt (pw_or (pt_not (pt_val (pe_callB (call_isiK2 (K := K) rfl) (by rfl) T.n_isinstance (by decide +kernel) (pa_cons (pv 1) (pa_cons (pe_bltn (v := .ty "list") (by rfl) T.n_list (by decide +kernel) rfl) pa_nil))))) (pw_or1 (pt_cmpR op_ne (pe_callB (call_lenK (K := K) rfl) (by rfl) T.n_len (by decide +kernel) (pa_cons (pv 1) pa_nil)) (pe_callB (call_lenK (K := K) rfl) (by rfl) T.n_len (by decide +kernel) (pa_cons (pv 0) pa_nil)) (nomark _))))) (pss_one (ps_ret pe_bl)) pss_nil)
      (pss_cons (ps_setLc (i := 2) (own := [("_law_one", 3)]) (by rfl) sc__law_words_right.nd rfl rfl (sw_true rfl rfl rfl (by decide +kernel)) (pi_listK (K := K) rfl (pv 1)) (blkOk_by (own := [("_law_one", 3)]) (N := ["_law_hats", "_law_words", "_law_told", "_law_one"]) (sc := defScope s__law_words_right) (by decide +kernel)) (fun _ _ _ _ _ => (pg_name (i := 3) sc__law_words_right.nd rfl (.inl rfl))) (fun _ _ _ _ _ => (pts_one (pt_cmpR op_notN (pv 3) pe_non (nomark _)))) (fun _ _ _ _ _ => (pv 3)))
      (pss_one (ps_ret (pe_callB (cr_allK (K := K) rfl rfl) (by rfl) T.n_all (by decide +kernel) (pa_cons (pe_lc (own := [("_law_one", 3)]) (by rfl) sc__law_words_right.nd (pi_listK (K := K) rfl (pv 2)) (blkOk_by (own := [("_law_one", 3)]) (N := ["_law_hats", "_law_words", "_law_told", "_law_one"]) (sc := defScope s__law_words_right) (by decide +kernel)) (fun _ _ _ _ _ => (pg_name (i := 3) sc__law_words_right.nd rfl (.inl rfl))) (fun _ _ _ _ _ => pts_nil) (fun _ _ _ _ _ => (pe_and (pe_callB (call_isiK2 (K := K) rfl) (by rfl) T.n_isinstance (by decide +kernel) (pa_cons (pv 3) (pa_cons (pe_bltn (v := .ty "int") (by rfl) T.n_int (by decide +kernel) rfl) pa_nil))) (pe_and (pe_not (pe_callB (call_isiK2 (K := K) rfl) (by rfl) T.n_isinstance (by decide +kernel) (pa_cons (pv 3) (pa_cons (pe_bltn (v := .ty "bool") (by rfl) T.n_bool (by decide +kernel) rfl) pa_nil)))) (pe_one (pe_cmpR (op_inDK (K := K) rfl (hu65 hr)) (pv 3) (pe_lst (pa_cons pe_int (pa_cons pe_int pa_nil))) (by rfl))))))) pa_nil)))))), ?_⟩
  refine q_no x ((t_or (t_not (t_val (d_isi (d_var rfl h__law_words) kit_list_list))) (fun hyp => (t_cmp (d_neI (d_lenT (d_var rfl h__law_words)) (d_lenT (d_var rfl h__law_hats)))))).is (by rw [hl]; simp)) fun H1 e1 => ?_
  refine q_asg (x.trans e1) (lcL (e2 := dO) _ _ (d_var rfl h__law_words) (fun _ => rfl) (fun i4 x4 v4 B4 hi4 hx4 h__law_one => (t_cmp (d_notN (d_var rfl h__law_one)))) (fun i4 x4 v4 B4 hi4 hx4 h__law_one hp4 => (d_var rfl h__law_one)) (by first | assumption | omega | (simp; done) | exact hsd1 _ | exact hsd2 _ | exact hsd3 _ | (have hq := lt_of_get (by assumption); omega))).D fun v2 B2 H2 w2 k2 => ?_
  obtain ⟨ts, hts, ht⟩ := told_ints words hw
  rw [hts] at k2
  have hlen : ts.length ≤ 1000 := by
    have h1 := congrArg List.length hts
    rw [List.length_map, List.length_map] at h1
    have h2 := List.length_filter_le (fun o => !isNon (dO o)) words
    omega
  have h__law_told : Da B2 v2 (dI ts) := by
    have e : dL dO (ts.map some) = dI ts := by unfold dL; rw [List.map_map]; rfl
    rw [← e]
    exact k2
  refine s_retB w2.sb ((d_all (lcLm (e2 := PyData.bool) _ (d_var rfl h__law_told) (fun _ => rfl) (fun i5 x5 v5 B5 hi5 hx5 h__law_one => (d_and (d_isi (d_var rfl h__law_one) kit_int_int) (fun hyp => (d_and (d_not (d_isi (d_var rfl h__law_one) kit_int_bool)) (fun hyp => (d_inT (d_var rfl h__law_one) (d_lstT (f := PyData.int) (a_consT d_int (a_consT d_int a_nilT)) (by simp)) (shp_of shf_int (by decide)) (shp_of (shf_list shf_int) (by decide)))))))) (by first | assumption | omega | (simp; done) | exact hsd1 _ | exact hsd2 _ | exact hsd3 _ | (have hq := lt_of_get (by assumption); omega))).D).is ?_) fun H3 e3 => q _ B2 H3 ((Wd.keep x e1).trans (w2.trans (.keep w2.sb e3))) (.bl _)
  congr 1
  rw [List.all_map, List.all_eq_true]
  intro t htm
  rcases ht t htm with rfl | rfl <;> rfl

def lawWonM (hats : List Int) (words : List (Option Int)) : Bool := decide (((words.zipIdx.filter fun z => !isNon (dO z.1) && !PyData.eqv (dO z.1) (.int (hats.getD ((z.2 : Nat) : Int).toNat 0))).map fun z => ((z.2 : Nat) : Int)) = []) && decide (((words.countP fun o => PyData.eqv (dO o) .none : Nat) : Int) < (words.length : Int))
theorem lawWon_is {hats : List Int} (hh : Hats 2 hats) (ht : Team hats.length) : lawWonM hats (saidM hats) = decide (mk0 0 hats ≠ 0) := by
  have hle := ht.le
  unfold lawWonM
  by_cases hz : mk0 0 hats = 0
  · rw [decide_eq_false (p := mk0 0 hats ≠ 0) (fun z => z hz)]
    have h0 : hats[0]? = some (hats[0]'(by omega)) := List.getElem?_eq_getElem (by omega)
    have hs := said_zero hh hz h0
    have hb := hh _ (List.getElem_mem (by omega : 0 < hats.length))
    have hm : (((0 : Nat) : Int)) ∈ ((saidM hats).zipIdx.filter fun z => !isNon (dO z.1) && !PyData.eqv (dO z.1) (.int (hats.getD ((z.2 : Nat) : Int).toNat 0))).map fun z => ((z.2 : Nat) : Int) := by
      refine List.mem_map.mpr ⟨(some (1 - hats[0]'(by omega)), 0), List.mem_filter.mpr ⟨List.mem_zipIdx_iff_getElem?.mpr hs, ?_⟩, rfl⟩
      show (!false && !PyData.eqv (.int (1 - hats[0]'(by omega))) (.int (hats.getD 0 0))) = true
      rw [eqf_int, List.getD_eq_getElem?_getD, h0]
      show (!false && !decide (1 - hats[0]'(by omega) = hats[0]'(by omega))) = true
      rw [decide_eq_false (by omega)]
      rfl
    rw [decide_eq_false (fun z => by rw [z] at hm; cases hm), Bool.false_and]
  · rw [decide_eq_true (p := mk0 0 hats ≠ 0) hz]
    have hm := mk0_le ht
    have hi : mk0 0 hats - 1 < hats.length := by omega
    have hg : hats[mk0 0 hats - 1]? = some (hats[mk0 0 hats - 1]'hi) := List.getElem?_eq_getElem hi
    have hs := said_one hh hz hg
    rw [if_pos (by omega)] at hs
    have h1 : ((saidM hats).zipIdx.filter fun z => !isNon (dO z.1) && !PyData.eqv (dO z.1) (.int (hats.getD ((z.2 : Nat) : Int).toNat 0))) = [] := by
      rw [List.filter_eq_nil_iff]
      rintro ⟨o, i⟩ hm2
      have q1 : (saidM hats)[i]? = some o := List.mem_zipIdx_iff_getElem?.mp hm2
      have hil : i < hats.length := by have := lt_of_get q1; rw [saidM_len] at this; exact this
      have q2 : hats[i]? = some (hats[i]'hil) := List.getElem?_eq_getElem hil
      rw [said_one hh hz q2] at q1
      have q3 := (Option.some.inj q1).symm
      rw [q3]
      show ¬ ((!isNon (dO (if i + 1 = mk0 0 hats then some (hats[i]'hil) else none)) && !PyData.eqv (dO (if i + 1 = mk0 0 hats then some (hats[i]'hil) else none)) (.int (hats.getD ((i : Nat) : Int).toNat 0))) = true)
      rw [List.getD_eq_getElem?_getD, Int.toNat_natCast, q2]
      split
      · show ¬ ((!false && !PyData.eqv (.int (hats[i]'hil)) (.int (hats[i]'hil))) = true)
        rw [eqf_int, decide_eq_true rfl]
        decide
      · exact Bool.false_ne_true
    have h2 : (saidM hats).countP (fun o => PyData.eqv (dO o) .none) < (saidM hats).length := by
      refine Nat.lt_of_le_of_ne List.countP_le_length fun e => ?_
      have h3 := List.countP_eq_length.mp e _ (List.mem_of_getElem? hs)
      cases h3
    rw [h1, decide_eq_true (show (([] : List (Option Int × Nat)).map fun z => ((z.2 : Nat) : Int)) = [] from rfl), decide_eq_true (by omega)]
    rfl
inductive R_law_won : List PyData → PyData → Prop
  | mk {hats : List Int} {words : List (Option Int)} (hl : words.length = hats.length) (hz : hats.length ≤ 1000) : R_law_won [dI hats, dL dO words] (.bool (lawWonM hats words))
theorem ok__law_won (T : Top K mg) : Has P w K mg base 1 "_law_won" ["_law_hats", "_law_words"] (Ct R_law_won) := by
  refine has_of T.d__law_won sc__law_won (fun _ _ _ _ _ _ us hl => match us, hl with | [_, _], _ => rfl) (Ct.len fun ds d r => by cases r; rfl) (fun f cdv A outer s H vs Q E hr h => ?_)
  obtain ⟨Hb, ds, d, x, hv, r, q⟩ := h
  obtain ⟨hl, hz⟩ := r
  rename_i hats words
  obtain ⟨v1, v2, rfl, h__law_hats, h__law_words⟩ := DaAll.two hv
  refine ⟨_, PSs.nox (pss_cons (ps_setLc (i := 2) (own := [("_law_at", 3), ("_law_one", 4)]) (by rfl) sc__law_won.nd rfl rfl (sw_true rfl rfl rfl (by decide +kernel)) (pi_enumK (K := K) rfl (by rfl) T.n_enumerate (pa_cons (pv 1) pa_nil)) (blkOk_by (own := [("_law_at", 3), ("_law_one", 4)]) (N := ["_law_hats", "_law_words", "_law_wrong", "_law_at", "_law_one"]) (sc := defScope s__law_won) (by decide +kernel)) (fun _ _ _ _ _ => (pg_tupK (K := K) (n := 2) rfl rfl (pgs_cons (pg_name (i := 3) sc__law_won.nd rfl (.inl rfl)) (pgs_cons (pg_name (i := 4) sc__law_won.nd rfl (.inl rfl)) pgs_nil)))) (fun _ _ _ _ _ => (pts_one (PW.pt (pw_and (pt_cmpR op_notN (pv 4) pe_non (nomark _)) (pw_and1 (pt_cmpR (op_neDK (K := K) rfl hr.units) (pv 4) (pe_ix (ix_listK (K := K) rfl) (pv 0) (pv 3) (fun _ _ => rfl)) (nomark _))))))) (fun _ _ _ _ _ => (pv 3)))
      (pss_one (ps_ret (pe_and (pe_cmpR (op_eqDK (K := K) rfl hr.units) (pv 2) (pe_lst pa_nil) (nomark _)) (pe_one (pe_cmpR op_lt (pe_bm PySem.F.plainAttrs_list PySem.F.slot_list_count PySem.F.type_list_count (mt_countDK (K := K) rfl (hu65 hr)) (pv 1) (pa_cons pe_non pa_nil)) (pe_callB (call_lenK (K := K) rfl) (by rfl) T.n_len (by decide +kernel) (pa_cons (pv 1) pa_nil)) (nomark _))))))), ?_⟩
  refine q_asg x (lcEc (e2 := PyData.int) _ _ (d_var rfl h__law_words) (fun _ _ => rfl) (fun i6 x6 v6 B6 hi6 hx6 h__law_one => have h__law_at : Da B6 (.int (i6 : Nat)) (.int (i6 : Nat)) := .int _; (t_and (t_cmp (d_notN (d_var rfl h__law_one))) (fun hyp => (t_cmp (d_neD (d_var rfl h__law_one) (d_ixT (0 : Int) (d_var rfl (h__law_hats.up hx6)) (d_var rfl h__law_at) (by first | assumption | omega | (simp; done) | exact hsd1 _ | exact hsd2 _ | exact hsd3 _ | (have hq := lt_of_get (by assumption); omega)) (by first | assumption | omega | (simp; done) | exact hsd1 _ | exact hsd2 _ | exact hsd3 _ | (have hq := lt_of_get (by assumption); omega))) (shp_of shf_opt (by decide)) (shp_of shf_int (by decide))))))) (fun i6 x6 v6 B6 hi6 hx6 h__law_one hp6 => have h__law_at : Da B6 (.int (i6 : Nat)) (.int (i6 : Nat)) := .int _; (d_var rfl h__law_at)) (by first | assumption | omega | (simp; done) | exact hsd1 _ | exact hsd2 _ | exact hsd3 _ | (have hq := lt_of_get (by assumption); omega))).D fun v2 B2 H2 w2 h__law_wrong => ?_
  have h__law_words := h__law_words.up w2.eb
  exact s_retB w2.sb (d_and (d_eqT (eqf_list eqf_int) (d_var rfl h__law_wrong) (d_lstT (f := PyData.int) a_nilT (by simp)) (shp_of (shf_list shf_int) (by decide)) (shp_of (shf_list shf_int) (by decide))) (fun hyp => (d_IB (d_count (d_var rfl h__law_words) d_non (shp_of (shf_list shf_opt) (by decide)) (shp_non)) (d_lenT (d_var rfl h__law_words))))) fun H3 e3 => q _ B2 H3 (w2.trans (.keep w2.sb e3)) (.bl _)
/-! ### the law -/
theorem said_words {hats : List Int} (hh : Hats 2 hats) : ∀ o ∈ saidM hats, o = none ∨ o = some 0 ∨ o = some 1 := fun o ho => by
  unfold saidM at ho
  obtain ⟨z, _, rfl⟩ := List.mem_map.mp ho
  unfold wordM
  split
  · exact .inr (.inr rfl)
  · split
    · exact .inr (.inl rfl)
    · exact .inl rfl
/-- the hats, the one ahead of k changed -/
def bentM (hats : List Int) : Nat → List Int
  | 0 => hats
  | k + 1 => hats.set k (1 - hats.getD k 0)
theorem set_split (xs : List Int) {k : Nat} (hk : k < xs.length) (g : Int) : xs.set k g = xs.take k ++ g :: xs.drop (k + 1) := by
  rw [List.set_eq_take_append_cons_drop, if_pos hk]
theorem bentM_len (hats : List Int) (k : Nat) : (bentM hats k).length = hats.length := by
  cases k with
  | zero => rfl
  | succ k => unfold bentM; rw [List.length_set]
theorem flip_hats {hats : List Int} (hh : Hats 2 hats) {k : Nat} (hk : k < hats.length) : Hats 2 (hats.set k (1 - hats.getD k 0)) := by
  intro y hy
  have hb : 0 ≤ hats.getD k 0 ∧ hats.getD k 0 < 2 := by
    rw [List.getD_eq_getElem?_getD, List.getElem?_eq_getElem hk]
    exact hh _ (List.getElem_mem hk)
  rcases List.mem_or_eq_of_mem_set hy with h | h
  · exact hh y h
  · subst h; omega
theorem flip_mk {hats : List Int} (hh : Hats 2 hats) {k : Nat} (hk : k < hats.length) : mk0 0 (hats.set k (1 - hats.getD k 0)) = mk0 0 hats ^^^ (k + 1) := by
  have hg : hats[k]? = some (hats[k]'hk) := List.getElem?_eq_getElem hk
  have hb := hh _ (List.getElem_mem hk)
  rw [set_split hats hk, mk_set hg, List.getD_eq_getElem?_getD, hg]
  show mk0 0 hats ^^^ tmN k (hats[k]'hk) ^^^ tmN k (1 - hats[k]'hk) = _
  generalize hats[k]'hk = h at hb
  rw [Nat.xor_assoc]
  congr 1
  rcases hat01 hb.1 hb.2 with rfl | rfl
  · show 0 ^^^ (k + 1) = k + 1
    rw [Nat.zero_xor]
  · show (k + 1) ^^^ 0 = k + 1
    rw [Nat.xor_zero]
theorem bentM_hats {hats : List Int} (hh : Hats 2 hats) {k : Nat} (hk : k ≤ hats.length) : Hats 2 (bentM hats k) := by
  cases k with
  | zero => exact hh
  | succ k => exact flip_hats hh (by omega)
theorem bentM_mk {hats : List Int} (hh : Hats 2 hats) {k : Nat} (hk : k ≤ hats.length) : mk0 0 (bentM hats k) = mk0 0 hats ^^^ k := by
  cases k with
  | zero => unfold bentM; rw [Nat.xor_zero]
  | succ k => exact flip_mk hh (by omega)
theorem xor_zero_iff (a b : Nat) : a ^^^ b = 0 ↔ a = b := by
  constructor
  · intro z
    have h3 : (a ^^^ b) ^^^ b = 0 ^^^ b := by rw [z]
    rw [Nat.xor_assoc, Nat.xor_self, Nat.xor_zero, Nat.zero_xor] at h3
    exact h3
  · rintro rfl
    exact Nat.xor_self a

theorem ok_law (T : Top K mg) {f : Addr} {fd : FuncData} (F : Fun K "law" "law" s_law f fd) : FnOk P w K mg base (L2.CX P w) 6 f fd ["_law_script"] (spLaw K) := by
  refine F.okX sc_law (fun vs H Q E h => by obtain ⟨a, ns, rfl, _⟩ := h; rfl) (fun cdv A outer s H vs Q E hr h => ?_)
  obtain ⟨a, ns, rfl, h__law_script, hlen, hbit, q⟩ := h
  refine ⟨_, PSs.nox (pss_cons (ps_set (i := 1) sc_law.nd rfl (.inl rfl) (pe_cl (ok__law_team T) (hr.mono (by decide)) (by rfl) (pa_cons (pv 0) pa_nil)))
      (pss_cons (ps_set (i := 2) sc_law.nd rfl (.inl rfl) (pe_callTy (call_listK (K := K) rfl) (by rfl) T.n_list (by decide +kernel) (pa_cons (pv 1) pa_nil)))
      (pss_cons (ps_set (i := 3) sc_law.nd rfl (.inl rfl) pe_int)
      (pss_cons (ps_for PassesOwn.never rfl (pi_range2 (by rfl) T.n_range (pa_cons (pe_un un_neg pe_int) (pa_cons (pe_callB (call_lenK (K := K) rfl) (by rfl) T.n_len (by decide +kernel) (pa_cons (pv 1) pa_nil)) pa_nil))) (pg_name (i := 4) sc_law.nd rfl (.inl rfl)) (pss_cons (ps_set (i := 5) sc_law.nd rfl (.inl rfl) (pe_callTy (call_listK (K := K) rfl) (by rfl) T.n_list (by decide +kernel) (pa_cons (pv 1) pa_nil)))
      (Evl.pss_cut (ps_if (pt_cmpR op_ge (pv 4) pe_int (nomark _)) (pss_one (ps_asg (pe_op op_sub pe_int (pe_ix (ix_listK (K := K) rfl) (pv 5) (pv 4) (fun _ _ => rfl))) (pg_sub (pv 5) (pv 4) set_list))) pss_nil)
      (pss_cons (ps_set (i := 6) sc_law.nd rfl (.inl rfl) (pe_cl (ok_said T) (hr.mono (by decide)) (by rfl) (pa_cons (pv 5) pa_nil)))
      (pss_cons (ps_set (i := 7) sc_law.nd rfl (.inl rfl) (pe_cl (ok_won T) (hr.mono (by decide)) (by rfl) (pa_cons (pv 5) pa_nil)))
      (pss_cons (ps_if (PW.pt (pw_or (pt_not (pt_val (pe_cl (ok__law_words_right T) (hr.mono (by decide)) (by rfl) (pa_cons (pv 5) (pa_cons (pv 6) pa_nil))))) (pw_or (pt_not (pt_val (pe_callB (call_isiK2 (K := K) rfl) (by rfl) T.n_isinstance (by decide +kernel) (pa_cons (pv 7) (pa_cons (pe_bltn (v := .ty "bool") (by rfl) T.n_bool (by decide +kernel) rfl) pa_nil))))) (pw_or1 (pt_cmpR (op_neDK (K := K) rfl hr.units) (pv 7) (pe_cl (ok__law_won T) (hr.mono (by decide)) (by rfl) (pa_cons (pv 5) (pa_cons (pv 6) pa_nil))) (nomark _)))))) (pss_one (ps_ret pe_bl)) pss_nil)
      (pss_one (ps_set (i := 3) sc_law.nd rfl (.inl rfl) (pe_op op_add (pv 3) (pe_ifExp (pt_val (pv 7)) pe_int pe_int))))))))))
      (pss_cons (ps_if (pt_cmpR op_ne (pv 3) pe_int (nomark _)) (pss_one (ps_ret pe_bl)) pss_nil)
      (pss_cons (ps_set (i := 6) sc_law.nd rfl (.inl rfl) (pe_cl (ok_said T) (hr.mono (by decide)) (by rfl) (pa_cons (pv 2) pa_nil)))
      (pss_cons (ps_for PassesOwn.never rfl (pi_range1 (by rfl) T.n_range (pa_cons (pe_callB (call_lenK (K := K) rfl) (by rfl) T.n_len (by decide +kernel) (pa_cons (pv 1) pa_nil)) pa_nil)) (pg_name (i := 8) sc_law.nd rfl (.inl rfl)) (pss_cons (ps_set (i := 9) sc_law.nd rfl (.inl rfl) (pe_op op_catR (pe_slice (sl_listK (K := K) rfl) (pv 1) po_none (po_some (pv 8))) (pe_slice (sl_listK (K := K) rfl) (pv 1) (po_some (pe_op op_add (pv 8) pe_int)) po_none)))
      (pss_cons (ps_set (i := 10) sc_law.nd rfl (.inl rfl) (pe_callTy (call_listK (K := K) rfl) (by rfl) T.n_list (by decide +kernel) (pa_cons (pv 9) pa_nil)))
      (pss_cons (ps_if (PW.pt (pw_or (pt_cmpR (op_neDK (K := K) rfl hr.units) (pe_cl (ok_says T) (hr.mono (by decide)) (by rfl) (pa_cons (pv 8) (pa_cons (pv 9) pa_nil))) (pe_ix (ix_listK (K := K) rfl) (pv 6) (pv 8) (fun _ _ => rfl)) (nomark _)) (pw_or1 (pt_cmpR (op_neDK (K := K) rfl hr.units) (pv 9) (pv 10) (nomark _))))) (pss_one (ps_ret pe_bl)) pss_nil)
      (pss_one (ps_if (pt_cmpR op_eq (pe_op op_mod (pv 8) pe_int) pe_int (nomark _)) (pss_cons (ps_set (i := 5) sc_law.nd rfl (.inl rfl) (pe_op op_catR (pe_op op_catR (pe_slice (sl_listK (K := K) rfl) (pv 1) po_none (po_some (pv 8))) (pe_lst (pa_cons (pe_op op_sub pe_int (pe_ix (ix_listK (K := K) rfl) (pv 1) (pv 8) (fun _ _ => rfl))) pa_nil))) (pe_slice (sl_listK (K := K) rfl) (pv 1) (po_some (pe_op op_add (pv 8) pe_int)) po_none)))
      (pss_one (ps_if (pt_cmpR (op_neDK (K := K) rfl hr.units) (pe_ix (ix_listK (K := K) rfl) (pe_cl (ok_said T) (hr.mono (by decide)) (by rfl) (pa_cons (pv 5) pa_nil)) (pv 8) (fun _ _ => rfl)) (pe_ix (ix_listK (K := K) rfl) (pv 6) (pv 8) (fun _ _ => rfl)) (nomark _)) (pss_one (ps_ret pe_bl)) pss_nil))) pss_nil))))))
      (pss_cons (ps_expr (pe_bm PySem.F.plainAttrs_list PySem.F.slot_list_append PySem.F.type_list_append mt_append (pv 6) (pa_cons pe_int pa_nil)))
      (pss_one (ps_ret (pe_and (pe_cmpR (op_eqDK (K := K) rfl hr.units) (pe_cl (ok_said T) (hr.mono (by decide)) (by rfl) (pa_cons (pv 2) pa_nil)) (pe_slice (sl_listK (K := K) rfl) (pv 6) po_none (po_some (pe_un un_neg pe_int))) (nomark _)) (pe_and (pe_cmpR (op_eqDK (K := K) rfl hr.units) (pv 2) (pv 1) (nomark _)) (pe_one (pe_cmpR (op_inDK (K := K) rfl (hu65 hr)) (pe_cl (ok_says T) (hr.mono (by decide)) (by rfl) (pa_cons pe_int (pa_cons (pe_lst pa_nil) pa_nil))) (pe_lst (pa_cons pe_int (pa_cons pe_int (pa_cons pe_non pa_nil)))) (by rfl))))))))))))))), ?_⟩
  have x : Ex H H := Ex.refl H
  refine ⟨_, rfl, H, a, ns, rfl, x, h__law_script, hbit, fun d v1 B1 H1 hpost w1 h__law_hats => ?_⟩
  obtain ⟨hats, rfl, hh, ht⟩ := hpost
  have hle := ht.le
  have hm := mk0_le ht
  refine q_asg w1.sb (f_list (d_var rfl h__law_hats)).D fun v2 B2 H2 w2 h__law_handed => ?_
  have h__law_hats := h__law_hats.up w2.eb
  refine q_asgI w2.sb d_int fun H3 e3 => ?_
  -- them and all unlike them at one player
  refine q_for (w2.sb.trans e3) (src_range2 (d_neg d_int) (d_lenT (d_var rfl h__law_hats)) (by first | assumption | omega | (simp; done) | exact hsd1 _ | exact hsd2 _ | exact hsd3 _ | (have hq := lt_of_get (by assumption); omega)) (by first | assumption | omega | (simp; done) | exact hsd1 _ | exact hsd2 _ | exact hsd3 _ | (have hq := lt_of_get (by assumption); omega)) (by first | assumption | omega | (simp; done) | exact hsd1 _ | exact hsd2 _ | exact hsd3 _ | (have hq := lt_of_get (by assumption); omega)) (by first | assumption | omega | (simp; done) | exact hsd1 _ | exact hsd2 _ | exact hsd3 _ | (have hq := lt_of_get (by assumption); omega))) fun B4 H4 w4 => ?_
  have h__law_hats := h__law_hats.up w4.eb; have h__law_handed := h__law_handed.up w4.eb
  refine ⟨fun k σ' H' => ∃ y4 y5 y6 y7, σ' = [some (.ref a), some v1, some v2, some (.int (if mk0 0 hats < k then 1 else 0)), y4, y5, y6, y7, none, none, none] ∧ Ex B4 H',
    ⟨none, none, none, none, rfl, w4.sb⟩, fun i σ' H' ⟨_, _, _, _, _, h⟩ => h, ?_, ?_⟩
  · rintro k f' σ' H' H5 hk hu ⟨y4, y5, y6, y7, rfl, xb⟩ e5
    cases hu
    have hk : k ≤ hats.length := by omega
    have h__law_at : Da B4 (.int (-1 + ((k : Nat) : Int))) (.int (-1 + ((k : Nat) : Int))) := .int _
    refine q_asgF (xb.trans e5) (f_list (d_var rfl h__law_hats)) fun p6 Hb6 H6 o6 => ?_
    have hp6 := Own.ints (ns := hats) o6
    have hb6 : Hb6 p6 = none := o6.out
    have w6 := o6.wd
    refine Evl.q_cut (M := fun σ' H' => σ' = [some (.ref a), some v1, some v2, some (.int (if mk0 0 hats < k then 1 else 0)), some (.int (-1 + ((k : Nat) : Int))), some (.ref p6), y6, y7, none, none, none] ∧ Ex B4 H' ∧ H' p6 = some (.lst ((bentM hats k).map V.int))) ?_ ?_
    · refine s_when w6.sb (EvB.up (t_cmp (d_IB (d_var rfl h__law_at) d_int)) w6.eb) (fun hb H7 e7 => ?_) (fun hb H7 e7 => ?_)
      · have hb : (0 : Int) ≤ -1 + ((k : Nat) : Int) := of_decide_eq_true hb
        obtain ⟨j, rfl⟩ : ∃ j, k = j + 1 := ⟨k - 1, by omega⟩
        have h__law_bent : Da (upd Hb6 p6 (.lst (hats.map V.int))) (.ref p6) (dI hats) := .lst (.inl upd_same) (DaAll.ints _)
        have h__law_at : Da (upd Hb6 p6 (.lst (hats.map V.int))) (.int (-1 + ((j + 1 : Nat) : Int))) (.int (-1 + ((j + 1 : Nat) : Int))) := .int _
        have hp7 := e7 _ _ hp6
        refine s_setAt (Ex.with (w6.sb.trans e7) hp7) rfl hp7 (d_I0 d_int (d_ixT (0 : Int) (d_var rfl h__law_bent) (d_var rfl h__law_at) (by first | assumption | omega | (simp; done) | exact hsd1 _ | exact hsd2 _ | exact hsd3 _ | (have hq := lt_of_get (by assumption); omega)) (by first | assumption | omega | (simp; done) | exact hsd1 _ | exact hsd2 _ | exact hsd3 _ | (have hq := lt_of_get (by assumption); omega)))) (d_var rfl h__law_at) hb (by rw [List.length_map]; omega) fun v B8 H8 w8 k8 hp8 => ?_
        cases k8
        have hB4p : B4 p6 = none := none_of w6.eb hb6
        refine ⟨rfl, Ex.own ((w6.eb.trans (w6.sb.trans e7)).trans w8.eh) hB4p, ?_⟩
        rw [upd_same]
        have ej : (-1 + ((j + 1 : Nat) : Int)).toNat = j := by omega
        rw [ej]
        show some (HO.lst ((hats.map V.int).set j (V.int (1 - hats.getD j 0)))) = some (HO.lst ((hats.set j (1 - hats.getD j 0)).map V.int))
        rw [List.map_set]
      · have hb : ¬ (0 : Int) ≤ -1 + ((k : Nat) : Int) := of_decide_eq_false hb
        obtain rfl : k = 0 := by omega
        exact ⟨rfl, (w6.eb.trans w6.sb).trans e7, e7 _ _ hp6⟩
    rintro σ' H9 ⟨rfl, x9, hp9⟩
    have hbh := bentM_hats hh hk
    have hbl := bentM_len hats k
    have hbm := bentM_mk hh hk
    have hbt : Team (bentM hats k).length := by rw [hbl]; exact ht
    have hbw := said_words hbh
    have hwl := saidM_len (bentM hats k)
    have hle2 : (bentM hats k).length ≤ 1000 := by omega
    have hwon := wonM_is hbh hbt
    have hlw := lawWon_is hbh hbt
    generalize bentM hats k = bent at hbh hbl hbm hbt hbw hwl hle2 hwon hlw hp9
    have xB : Ex (upd B4 p6 (.lst (bent.map V.int))) H9 := Ex.with x9 hp9
    have xn : Ex B4 (upd B4 p6 (.lst (bent.map V.int))) := Ex.new (none_of w6.eb hb6)
    have h__law_bent : Da (upd B4 p6 (.lst (bent.map V.int))) (.ref p6) (dI bent) := .lst (.inl upd_same) (DaAll.ints _)
    refine q_asg xB (f_call (a_cons (d_var rfl h__law_bent) a_nil) (R_said.mk (by first | assumption | omega | decide | (simp; done) | exact hsb _ _ | exact hside1 _ _ (by assumption) | exact hside2 _ _ (by assumption) | (have hq := lt_of_get (by assumption); omega)) (by first | assumption | omega | decide | (simp; done) | exact hsb _ _ | exact hside1 _ _ (by assumption) | exact hside2 _ _ (by assumption) | (have hq := lt_of_get (by assumption); omega)))).D fun v10 B10 H10 w10 h__law_words => ?_
    have h__law_bent := h__law_bent.up w10.eb
    refine q_asgB w10.sb (d_call (a_cons (d_var rfl h__law_bent) a_nil) (R_won.mk (by first | assumption | omega | decide | (simp; done) | exact hsb _ _ | exact hside1 _ _ (by assumption) | exact hside2 _ _ (by assumption) | (have hq := lt_of_get (by assumption); omega)) (by first | assumption | omega | decide | (simp; done) | exact hsb _ _ | exact hside1 _ _ (by assumption) | exact hside2 _ _ (by assumption) | (have hq := lt_of_get (by assumption); omega)))) fun H11 e11 => ?_
    have h__law_told : Da B10 (.bl (wonM bent)) (.bool (wonM bent)) := .bl _
    refine q_no (w10.sb.trans e11) ((t_or (t_not (t_val (d_call (a_cons (d_var rfl h__law_bent) (a_cons (d_var rfl h__law_words) a_nil)) (R_law_words_right.mk (by first | assumption | omega | decide | (simp; done) | exact hsb _ _ | exact hside1 _ _ (by assumption) | exact hside2 _ _ (by assumption) | (have hq := lt_of_get (by assumption); omega)) (by first | assumption | omega | decide | (simp; done) | exact hsb _ _ | exact hside1 _ _ (by assumption) | exact hside2 _ _ (by assumption) | (have hq := lt_of_get (by assumption); omega)) (by first | assumption | omega | decide | (simp; done) | exact hsb _ _ | exact hside1 _ _ (by assumption) | exact hside2 _ _ (by assumption) | (have hq := lt_of_get (by assumption); omega)))))) (fun hyp => (t_or (t_not (t_val (d_isi (d_var rfl h__law_told) kit_bool_bool))) (fun hyp => (t_cmp (d_neT eqf_bool (d_var rfl h__law_told) (d_call (a_cons (d_var rfl h__law_bent) (a_cons (d_var rfl h__law_words) a_nil)) (R_law_won.mk (by first | assumption | omega | decide | (simp; done) | exact hsb _ _ | exact hside1 _ _ (by assumption) | exact hside2 _ _ (by assumption) | (have hq := lt_of_get (by assumption); omega)) (by first | assumption | omega | decide | (simp; done) | exact hsb _ _ | exact hside1 _ _ (by assumption) | exact hside2 _ _ (by assumption) | (have hq := lt_of_get (by assumption); omega)))) (shp_of shf_bool (by decide)) (shp_of shf_bool (by decide)))))))).is (by rw [hwon, hlw]; simp)) fun H12 e12 => ?_
    have h__law_lost : Da B10 (.int (if mk0 0 hats < k then 1 else 0)) (.int (if mk0 0 hats < k then 1 else 0)) := .int _
    refine s_asgI ((w10.sb.trans e11).trans e12) (d_I0 (d_var rfl h__law_lost) (d_iteT (f := PyData.int) (t_val (d_var rfl h__law_told)) (fun hyp => d_int) (fun hyp => d_int))) fun H13 e13 => ?_
    refine ⟨some (.int (-1 + ((k : Nat) : Int))), some (.ref p6), some v10, some (.bl (wonM bent)), ?_, (((xn.trans w10.eb).trans w10.sb).trans e11).trans (e12.trans e13)⟩
    have ev : (if mk0 0 hats < k then (1 : Int) else 0) + (if wonM bent = true then 0 else 1) = (if mk0 0 hats < k + 1 then 1 else 0) := by
      rw [hwon, hbm]
      by_cases e : mk0 0 hats = k
      · have : ¬ (mk0 0 hats ^^^ k ≠ 0) := fun z => z ((xor_zero_iff _ _).mpr e)
        rw [decide_eq_false this, if_neg (by omega), if_neg (by decide), if_pos (by omega)]
        rfl
      · have : mk0 0 hats ^^^ k ≠ 0 := fun z => e ((xor_zero_iff _ _).mp z)
        rw [decide_eq_true this, if_pos rfl]
        by_cases e2 : mk0 0 hats < k
        · rw [if_pos e2, if_pos (by omega)]; rfl
        · rw [if_neg e2, if_neg (by omega)]; rfl
    rw [← ev]
    rfl
  · rintro σ' H5 ⟨y4, y5, y6, y7, rfl, xb⟩
    have hone : (if mk0 0 hats < ((hats.length : Int) - -1).toNat then (1 : Int) else 0) = 1 := if_pos (by omega)
    rw [hone]
    have h__law_lost : Da B4 (.int 1) (.int 1) := .int _
    refine q_no xb ((t_cmp (d_neI (d_var rfl h__law_lost) d_int)).is (by simp)) fun H6 e6 => ?_
    -- what each says
    refine q_asgF (xb.trans e6) (f_call (a_cons (d_var rfl h__law_handed) a_nil) (R_said.mk (by first | assumption | omega | decide | (simp; done) | exact hsb _ _ | exact hside1 _ _ (by assumption) | exact hside2 _ _ (by assumption) | (have hq := lt_of_get (by assumption); omega)) (by first | assumption | omega | decide | (simp; done) | exact hsb _ _ | exact hside1 _ _ (by assumption) | exact hside2 _ _ (by assumption) | (have hq := lt_of_get (by assumption); omega)))) fun p7 Hb7 H7 o7 => ?_
    obtain ⟨vs7, h7p, h7a⟩ := o7.vals
    have g_handed := h__law_handed
    have g_hats := h__law_hats
    have hB4p : B4 p7 = none := none_of (xb.trans e6) o7.new
    obtain ⟨B7, w7, x77, h__law_words⟩ := o7.known
    have h__law_hats := h__law_hats.up w7.eb; have h__law_handed := h__law_handed.up w7.eb
    have hwl := saidM_len hats
    refine q_for w7.sb (src_range1 (d_lenT (d_var rfl h__law_hats)) (by first | assumption | omega | (simp; done) | exact hsd1 _ | exact hsd2 _ | exact hsd3 _ | (have hq := lt_of_get (by assumption); omega)) (by first | assumption | omega | (simp; done) | exact hsd1 _ | exact hsd2 _ | exact hsd3 _ | (have hq := lt_of_get (by assumption); omega))) fun B8 H8 w8 => ?_
    have h__law_hats := h__law_hats.up w8.eb; have h__law_handed := h__law_handed.up w8.eb; have h__law_words := h__law_words.up w8.eb
    refine ⟨fun i σ' H' => ∃ y5 y8 y9 y10, σ' = [some (.ref a), some v1, some v2, some (.int 1), y4, y5, some (.ref p7), y7, y8, y9, y10] ∧ Ex B8 H' ∧ Ex H7 H',
      ⟨y5, none, none, none, rfl, w8.sb, w8.eh⟩, fun i σ' H' ⟨_, _, _, _, _, h, _⟩ => h, ?_, ?_⟩
    · rintro i f' σ' H' H9 hi hu ⟨y5, y8, y9, y10, rfl, xb, x7⟩ e9
      cases hu
      have hi : i < hats.length := by omega
      have h__law_which : Da B8 (.int (i : Nat)) (.int (i : Nat)) := .int _
      have hg : hats[i]? = some (hats[i]'hi) := List.getElem?_eq_getElem hi
      have ea : cut hats none (some ((i : Nat) : Int)) = hats.take i := cut_to _ _
      have eb : cut hats (some (((i : Nat) : Int) + 1)) none = hats.drop (i + 1) := by rw [show ((i : Nat) : Int) + 1 = ((i + 1 : Nat) : Int) by omega, cut_from]
      have hsz : (cut hats none (some ((i : Nat) : Int))).length + (cut hats (some (((i : Nat) : Int) + 1)) none).length ≤ 100000 := by rw [ea, eb, List.length_take, List.length_drop]; omega
      refine q_asg (xb.trans e9) (d_catT (f_sliceT (d_var rfl h__law_hats) p_none (p_some (d_var rfl h__law_which))).D (f_sliceT (d_var rfl h__law_hats) (p_some (d_I0 (d_var rfl h__law_which) d_int)) p_none).D (by first | assumption | omega | (simp; done) | exact hsd1 _ | exact hsd2 _ | exact hsd3 _ | (have hq := lt_of_get (by assumption); omega))) fun v10 B10 H10 w10 h__law_others => ?_
      have h__law_hats := h__law_hats.up w10.eb; have h__law_words := h__law_words.up w10.eb; have h__law_which := h__law_which.up w10.eb
      have eo : cut hats none (some ((i : Nat) : Int)) ++ cut hats (some (((i : Nat) : Int) + 1)) none = hats.take i ++ hats.drop (i + 1) := by rw [ea, eb]
      have hoh : Hats 2 (cut hats none (some ((i : Nat) : Int)) ++ cut hats (some (((i : Nat) : Int) + 1)) none) := by
        rw [eo]
        exact fun y hy => (List.mem_append.mp hy).elim (hh.take _ y) (hh.drop _ y)
      have hol : (cut hats none (some ((i : Nat) : Int)) ++ cut hats (some (((i : Nat) : Int) + 1)) none).length + 1 = hats.length := by rw [eo, List.length_append, List.length_take, List.length_drop]; omega
      have hop : powM (((cut hats none (some ((i : Nat) : Int)) ++ cut hats (some (((i : Nat) : Int) + 1)) none).length : Int) + 1) ≠ 0 := by
        rw [show ((cut hats none (some ((i : Nat) : Int)) ++ cut hats (some (((i : Nat) : Int) + 1)) none).length : Int) + 1 = (hats.length : Int) by omega]
        exact ht.powM
      have key : wordM ((mkN i 0 (cut hats none (some ((i : Nat) : Int)) ++ cut hats (some (((i : Nat) : Int) + 1)) none) : Nat) : Int) (((i : Nat) : Int) + 1) = (saidM hats).getD ((i : Nat) : Int).toNat none := by
        rw [eo, mk_others hg, List.getD_eq_getElem?_getD, Int.toNat_natCast, saidM_get hh hg]
        rfl
      refine q_asg w10.sb (f_list (d_var rfl h__law_others)).D fun v11 B11 H11 w11 h__law_kept => ?_
      have h__law_hats := h__law_hats.up w11.eb; have h__law_words := h__law_words.up w11.eb; have h__law_which := h__law_which.up w11.eb; have h__law_others := h__law_others.up w11.eb
      refine q_no w11.sb ((t_or (t_cmp (d_neT eqf_opt (d_call (a_cons (d_var rfl h__law_which) (a_cons (d_var rfl h__law_others) a_nil)) (R_says.mk (by first | assumption | omega | decide | (simp; done) | exact hsb _ _ | exact hside1 _ _ (by assumption) | exact hside2 _ _ (by assumption) | (have hq := lt_of_get (by assumption); omega)) (by first | assumption | omega | decide | (simp; done) | exact hsb _ _ | exact hside1 _ _ (by assumption) | exact hside2 _ _ (by assumption) | (have hq := lt_of_get (by assumption); omega)) (by first | assumption | omega | decide | (simp; done) | exact hsb _ _ | exact hside1 _ _ (by assumption) | exact hside2 _ _ (by assumption) | (have hq := lt_of_get (by assumption); omega)) (by first | assumption | omega | decide | (simp; done) | exact hsb _ _ | exact hside1 _ _ (by assumption) | exact hside2 _ _ (by assumption) | (have hq := lt_of_get (by assumption); omega)))) (d_ixT none (d_var rfl h__law_words) (d_var rfl h__law_which) (by first | assumption | omega | (simp; done) | exact hsd1 _ | exact hsd2 _ | exact hsd3 _ | (have hq := lt_of_get (by assumption); omega)) (by first | assumption | omega | (simp; done) | exact hsd1 _ | exact hsd2 _ | exact hsd3 _ | (have hq := lt_of_get (by assumption); omega))) (shp_of shf_opt (by decide)) (shp_of shf_opt (by decide)))) (fun hyp => (t_cmp (d_neT (eqf_list eqf_int) (d_var rfl h__law_others) (d_var rfl h__law_kept) (shp_of (shf_list shf_int) (by decide)) (shp_of (shf_list shf_int) (by decide)))))).is (by rw [key]; simp)) fun H12 e12 => ?_
      have x12 : Ex B8 H12 := ((w10.eb.trans w11.eb).trans w11.sb).trans e12
      have x712 : Ex H7 H12 := (((x7.trans e9).trans w10.eh).trans w11.eh).trans e12
      refine s_when (w11.sb.trans e12) (t_cmp (d_eqI (d_IC (d_var rfl h__law_which) d_int (by first | assumption | omega | (simp; done) | exact hsd1 _ | exact hsd2 _ | exact hsd3 _ | (have hq := lt_of_get (by assumption); omega))) d_int)) (fun hb H13 e13 => ?_) (fun hb H13 e13 => ⟨_, _, _, _, rfl, x12.trans e13, x712.trans e13⟩)
      have hs1 : (cut hats none (some ((i : Nat) : Int))).length + ([1 - hats.getD ((i : Nat) : Int).toNat 0] : List Int).length ≤ 100000 := by rw [ea, List.length_take, List.length_singleton]; omega
      have hs2 : (cut hats none (some ((i : Nat) : Int)) ++ [1 - hats.getD ((i : Nat) : Int).toNat 0]).length + (cut hats (some (((i : Nat) : Int) + 1)) none).length ≤ 100000 := by rw [ea, eb, List.length_append, List.length_take, List.length_singleton, List.length_drop]; omega
      refine q_asg ((w11.sb.trans e12).trans e13) (d_catT (d_catT (f_sliceT (d_var rfl h__law_hats) p_none (p_some (d_var rfl h__law_which))).D (d_lstT (f := PyData.int) (a_consT (d_I0 d_int (d_ixT (0 : Int) (d_var rfl h__law_hats) (d_var rfl h__law_which) (by first | assumption | omega | (simp; done) | exact hsd1 _ | exact hsd2 _ | exact hsd3 _ | (have hq := lt_of_get (by assumption); omega)) (by first | assumption | omega | (simp; done) | exact hsd1 _ | exact hsd2 _ | exact hsd3 _ | (have hq := lt_of_get (by assumption); omega)))) a_nilT) (by simp)) (by first | assumption | omega | (simp; done) | exact hsd1 _ | exact hsd2 _ | exact hsd3 _ | (have hq := lt_of_get (by assumption); omega))) (f_sliceT (d_var rfl h__law_hats) (p_some (d_I0 (d_var rfl h__law_which) d_int)) p_none).D (by first | assumption | omega | (simp; done) | exact hsd1 _ | exact hsd2 _ | exact hsd3 _ | (have hq := lt_of_get (by assumption); omega))) fun v14 B14 H14 w14 h__law_bent => ?_
      have h__law_words := h__law_words.up w14.eb; have h__law_which := h__law_which.up w14.eb
      have ebent : cut hats none (some ((i : Nat) : Int)) ++ [1 - hats.getD ((i : Nat) : Int).toNat 0] ++ cut hats (some (((i : Nat) : Int) + 1)) none = hats.set i (1 - hats.getD i 0) := by
        rw [ea, eb, List.append_assoc, Int.toNat_natCast, set_split hats hi]
        rfl
      rw [ebent] at h__law_bent
      have hfh := flip_hats hh hi
      have hfm := flip_mk hh hi
      have hfl : (hats.set i (1 - hats.getD i 0)).length = hats.length := List.length_set
      have hft : Team (hats.set i (1 - hats.getD i 0)).length := by rw [hfl]; exact ht
      have hfs := saidM_len (hats.set i (1 - hats.getD i 0))
      have hb := hh _ (List.getElem_mem hi)
      have key2 : (saidM (hats.set i (1 - hats.getD i 0))).getD ((i : Nat) : Int).toNat none = (saidM hats).getD ((i : Nat) : Int).toNat none := by
        have hg2 : (hats.set i (1 - hats.getD i 0))[i]? = some (1 - hats.getD i 0) := by rw [List.getElem?_set_self (by omega)]
        rw [Int.toNat_natCast, getD_of (saidM_get hfh hg2), getD_of (saidM_get hh hg), hfm]
        have hgd : hats.getD i 0 = hats[i]'hi := by rw [List.getD_eq_getElem?_getD, hg]; rfl
        rw [hgd]
        generalize hats[i]'hi = h at hb
        have et : mk0 0 hats ^^^ (i + 1) ^^^ tmN i (1 - h) = mk0 0 hats ^^^ tmN i h := by
          rw [Nat.xor_assoc]
          congr 1
          rcases hat01 hb.1 hb.2 with rfl | rfl
          · show (i + 1) ^^^ (i + 1) = 0
            rw [Nat.xor_self]
          · show (i + 1) ^^^ 0 = i + 1
            rw [Nat.xor_zero]
        rw [et]
      refine s_no w14.sb ((t_cmp (d_neT eqf_opt (d_ixT none (f_call (a_cons (d_var rfl h__law_bent) a_nil) (R_said.mk (by first | assumption | omega | decide | (simp; done) | exact hsb _ _ | exact hside1 _ _ (by assumption) | exact hside2 _ _ (by assumption) | (have hq := lt_of_get (by assumption); omega)) (by first | assumption | omega | decide | (simp; done) | exact hsb _ _ | exact hside1 _ _ (by assumption) | exact hside2 _ _ (by assumption) | (have hq := lt_of_get (by assumption); omega)))).D (d_var rfl h__law_which) (by first | assumption | omega | (simp; done) | exact hsd1 _ | exact hsd2 _ | exact hsd3 _ | (have hq := lt_of_get (by assumption); omega)) (by first | assumption | omega | (simp; done) | exact hsd1 _ | exact hsd2 _ | exact hsd3 _ | (have hq := lt_of_get (by assumption); omega))) (d_ixT none (d_var rfl h__law_words) (d_var rfl h__law_which) (by first | assumption | omega | (simp; done) | exact hsd1 _ | exact hsd2 _ | exact hsd3 _ | (have hq := lt_of_get (by assumption); omega)) (by first | assumption | omega | (simp; done) | exact hsd1 _ | exact hsd2 _ | exact hsd3 _ | (have hq := lt_of_get (by assumption); omega))) (shp_of shf_opt (by decide)) (shp_of shf_opt (by decide)))).is (by rw [key2]; simp)) fun H15 e15 => ?_
      exact ⟨_, _, _, _, rfl, (((x12.trans e13).trans w14.eh)).trans e15, ((x712.trans e13).trans w14.eh).trans e15⟩
    · rintro σ' H9 ⟨y5, y8, y9, y10, rfl, xb8, x7⟩
      have hp := x7 _ _ h7p
      have xB : Ex B4 H9 := ((xb.trans e6).trans w7.eh).trans x7
      have hvl : vs7.length = hats.length := by rw [h7a.len, List.length_map, hwl]
      refine q_app (w7.sb.trans x7) rfl hp d_int (by omega) fun v B10 H10 w10 k10 hp10 => ?_
      cases k10
      have xB7 : Ex Hb7 H10 := ((o7.wd.sb.trans x7)).trans w10.eh
      have xf : Ex (upd Hb7 p7 (.lst (vs7 ++ [.int 0]))) (upd H10 p7 (.lst (vs7 ++ [.int 0]))) := Ex.with (Ex.own xB7 o7.out) upd_same
      have xn : Ex B4 (upd Hb7 p7 (.lst (vs7 ++ [.int 0]))) := o7.wd.eb.trans (Ex.new o7.out)
      have h__law_handed := g_handed.up xn
      have h__law_hats := g_hats.up xn
      have h__law_words : Da (upd Hb7 p7 (.lst (vs7 ++ [.int 0]))) (.ref p7) (dL dO (saidM hats ++ [some 0])) := by
        refine .lst (.inl upd_same) ?_
        rw [List.map_append]
        exact (h7a.up (Ex.new o7.out)).append (.cons (.int 0) .nil)
      have hh0 : Hats 2 [] := fun y hy => by cases hy
      have hp1 : powM ((([] : List Int).length : Int) + 1) ≠ 0 := by decide
      refine s_retB xf ((d_and (d_eqT (eqf_list eqf_opt) (f_call (a_cons (d_var rfl h__law_handed) a_nil) (R_said.mk (by first | assumption | omega | decide | (simp; done) | exact hsb _ _ | exact hside1 _ _ (by assumption) | exact hside2 _ _ (by assumption) | (have hq := lt_of_get (by assumption); omega)) (by first | assumption | omega | decide | (simp; done) | exact hsb _ _ | exact hside1 _ _ (by assumption) | exact hside2 _ _ (by assumption) | (have hq := lt_of_get (by assumption); omega)))).D (f_sliceT (d_var rfl h__law_words) p_none (p_some (d_neg d_int))).D (shp_of (shf_list shf_opt) (by decide)) (shp_of (shf_list shf_opt) (by decide))) (fun hyp => (d_and (d_eqT (eqf_list eqf_int) (d_var rfl h__law_handed) (d_var rfl h__law_hats) (shp_of (shf_list shf_int) (by decide)) (shp_of (shf_list shf_int) (by decide))) (fun hyp => (d_inT (d_call (a_cons d_int (a_cons (d_lstT (f := PyData.int) a_nilT (by simp)) a_nil)) (R_says.mk (which := 0) (others := []) hh0 (by decide) hp1 (by decide))) (d_lstT (f := dO) (a_consT (x := some _) d_int (a_consT (x := some _) d_int (a_consT (x := none) d_non a_nilT))) (by simp)) (shp_of shf_opt (by decide)) (shp_of (shf_list shf_opt) (by decide))))))).is ?_) fun H16 e16 => q H16
      rw [cut_last]
      have e : ([some 0, some 1, none] : List (Option Int)).any (fun z => PyData.eqv (dO z) (dO (wordM ((mkN 0 0 [] : Nat) : Int) (((0 : Nat) : Int) + 1)))) = true := by rfl
      rw [e, decide_eq_true rfl, decide_eq_true rfl]
      rfl

end
end Hg

namespace Hg
open PySem PySem.Spec PyProof.Rows L2 Evl
theorem top_mk {K : PySem.W.Frag} {h : Heap} {mg : Str → Option Value} (X : K.In h) (G : h.Ns mainGlobals mg)
    {f0 : Addr} {od0 an0 : Option Addr} {sl0 : Array (Option Value)} {oc0 kV0 dc0 pm0 cd0 ct0 : Value}
    {f1 : Addr} {od1 an1 : Option Addr} {sl1 : Array (Option Value)} {oc1 kV1 dc1 pm1 cd1 ct1 : Value}
    {f2 : Addr} {od2 an2 : Option Addr} {sl2 : Array (Option Value)} {oc2 kV2 dc2 pm2 cd2 ct2 : Value}
    {f3 : Addr} {od3 an3 : Option Addr} {sl3 : Array (Option Value)} {oc3 kV3 dc3 pm3 cd3 ct3 : Value}
    {f4 : Addr} {od4 an4 : Option Addr} {sl4 : Array (Option Value)} {oc4 kV4 dc4 pm4 cd4 ct4 : Value}
    {f5 : Addr} {od5 an5 : Option Addr} {sl5 : Array (Option Value)} {oc5 kV5 dc5 pm5 cd5 ct5 : Value}
    {f6 : Addr} {od6 an6 : Option Addr} {sl6 : Array (Option Value)} {oc6 kV6 dc6 pm6 cd6 ct6 : Value}
    {f7 : Addr} {od7 an7 : Option Addr} {sl7 : Array (Option Value)} {oc7 kV7 dc7 pm7 cd7 ct7 : Value}
    {f8 : Addr} {od8 an8 : Option Addr} {sl8 : Array (Option Value)} {oc8 kV8 dc8 pm8 cd8 ct8 : Value}
    {f9 : Addr} {od9 an9 : Option Addr} {sl9 : Array (Option Value)} {oc9 kV9 dc9 pm9 cd9 ct9 : Value}
    {f10 : Addr} {od10 an10 : Option Addr} {sl10 : Array (Option Value)} {oc10 kV10 dc10 pm10 cd10 ct10 : Value}
    {f11 : Addr} {od11 an11 : Option Addr} {sl11 : Array (Option Value)} {oc11 kV11 dc11 pm11 cd11 ct11 : Value}
    {f12 : Addr} {od12 an12 : Option Addr} {sl12 : Array (Option Value)} {oc12 kV12 dc12 pm12 cd12 ct12 : Value}
    {f13 : Addr} {od13 an13 : Option Addr} {sl13 : Array (Option Value)} {oc13 kV13 dc13 pm13 cd13 ct13 : Value}
    {tk0 : Tok}
    (a0 : PySem.W.nsIn K mainGlobals "is_number" = some (some (.ref f0))) (l0 : K.lookup f0 = some ⟨oc0, od0, .func (PySem.W.fnOf "is_number" "is_number" (defArgs s_is_number) (defBody s_is_number) (defScope s_is_number) .none kV0 dc0 pm0 an0 cd0 ct0), sl0⟩) (c0 : PySem.W.codeIn K cd0 "is_number" = true) (k0 : PySem.W.keepIn K (.ref f0) = true)
    (a1 : PySem.W.nsIn K mainGlobals "asked_hats" = some (some (.ref f1))) (l1 : K.lookup f1 = some ⟨oc1, od1, .func (PySem.W.fnOf "asked_hats" "asked_hats" (defArgs s_asked_hats) (defBody s_asked_hats) (defScope s_asked_hats) .none kV1 dc1 pm1 an1 cd1 ct1), sl1⟩) (c1 : PySem.W.codeIn K cd1 "asked_hats" = true) (k1 : PySem.W.keepIn K (.ref f1) = true)
    (a2 : PySem.W.nsIn K mainGlobals "power_of" = some (some (.ref f2))) (l2 : K.lookup f2 = some ⟨oc2, od2, .func (PySem.W.fnOf "power_of" "power_of" (defArgs s_power_of) (defBody s_power_of) (defScope s_power_of) .none kV2 dc2 pm2 an2 cd2 ct2), sl2⟩) (c2 : PySem.W.codeIn K cd2 "power_of" = true) (k2 : PySem.W.keepIn K (.ref f2) = true)
    (a3 : PySem.W.nsIn K mainGlobals "asked_team" = some (some (.ref f3))) (l3 : K.lookup f3 = some ⟨oc3, od3, .func (PySem.W.fnOf "asked_team" "asked_team" (defArgs s_asked_team) (defBody s_asked_team) (defScope s_asked_team) .none kV3 dc3 pm3 an3 cd3 ct3), sl3⟩) (c3 : PySem.W.codeIn K cd3 "asked_team" = true) (k3 : PySem.W.keepIn K (.ref f3) = true)
    (a4 : PySem.W.nsIn K mainGlobals "mark" = some (some (.ref f4))) (l4 : K.lookup f4 = some ⟨oc4, od4, .func (PySem.W.fnOf "mark" "mark" (defArgs s_mark) (defBody s_mark) (defScope s_mark) .none kV4 dc4 pm4 an4 cd4 ct4), sl4⟩) (c4 : PySem.W.codeIn K cd4 "mark" = true) (k4 : PySem.W.keepIn K (.ref f4) = true)
    (a5 : PySem.W.nsIn K mainGlobals "word" = some (some (.ref f5))) (l5 : K.lookup f5 = some ⟨oc5, od5, .func (PySem.W.fnOf "word" "word" (defArgs s_word) (defBody s_word) (defScope s_word) .none kV5 dc5 pm5 an5 cd5 ct5), sl5⟩) (c5 : PySem.W.codeIn K cd5 "word" = true) (k5 : PySem.W.keepIn K (.ref f5) = true)
    (a6 : PySem.W.nsIn K mainGlobals "says" = some (some (.ref f6))) (l6 : K.lookup f6 = some ⟨oc6, od6, .func (PySem.W.fnOf "says" "says" (defArgs s_says) (defBody s_says) (defScope s_says) .none kV6 dc6 pm6 an6 cd6 ct6), sl6⟩) (c6 : PySem.W.codeIn K cd6 "says" = true) (k6 : PySem.W.keepIn K (.ref f6) = true)
    (a7 : PySem.W.nsIn K mainGlobals "said" = some (some (.ref f7))) (l7 : K.lookup f7 = some ⟨oc7, od7, .func (PySem.W.fnOf "said" "said" (defArgs s_said) (defBody s_said) (defScope s_said) .none kV7 dc7 pm7 an7 cd7 ct7), sl7⟩) (c7 : PySem.W.codeIn K cd7 "said" = true) (k7 : PySem.W.keepIn K (.ref f7) = true)
    (a8 : PySem.W.nsIn K mainGlobals "won" = some (some (.ref f8))) (l8 : K.lookup f8 = some ⟨oc8, od8, .func (PySem.W.fnOf "won" "won" (defArgs s_won) (defBody s_won) (defScope s_won) .none kV8 dc8 pm8 an8 cd8 ct8), sl8⟩) (c8 : PySem.W.codeIn K cd8 "won" = true) (k8 : PySem.W.keepIn K (.ref f8) = true)
    (a9 : PySem.W.nsIn K mainGlobals "_law_number" = some (some (.ref f9))) (l9 : K.lookup f9 = some ⟨oc9, od9, .func (PySem.W.fnOf "_law_number" "_law_number" (defArgs s__law_number) (defBody s__law_number) (defScope s__law_number) .none kV9 dc9 pm9 an9 cd9 ct9), sl9⟩) (c9 : PySem.W.codeIn K cd9 "_law_number" = true) (k9 : PySem.W.keepIn K (.ref f9) = true)
    (a10 : PySem.W.nsIn K mainGlobals "_law_team" = some (some (.ref f10))) (l10 : K.lookup f10 = some ⟨oc10, od10, .func (PySem.W.fnOf "_law_team" "_law_team" (defArgs s__law_team) (defBody s__law_team) (defScope s__law_team) .none kV10 dc10 pm10 an10 cd10 ct10), sl10⟩) (c10 : PySem.W.codeIn K cd10 "_law_team" = true) (k10 : PySem.W.keepIn K (.ref f10) = true)
    (a11 : PySem.W.nsIn K mainGlobals "_law_words_right" = some (some (.ref f11))) (l11 : K.lookup f11 = some ⟨oc11, od11, .func (PySem.W.fnOf "_law_words_right" "_law_words_right" (defArgs s__law_words_right) (defBody s__law_words_right) (defScope s__law_words_right) .none kV11 dc11 pm11 an11 cd11 ct11), sl11⟩) (c11 : PySem.W.codeIn K cd11 "_law_words_right" = true) (k11 : PySem.W.keepIn K (.ref f11) = true)
    (a12 : PySem.W.nsIn K mainGlobals "_law_won" = some (some (.ref f12))) (l12 : K.lookup f12 = some ⟨oc12, od12, .func (PySem.W.fnOf "_law_won" "_law_won" (defArgs s__law_won) (defBody s__law_won) (defScope s__law_won) .none kV12 dc12 pm12 an12 cd12 ct12), sl12⟩) (c12 : PySem.W.codeIn K cd12 "_law_won" = true) (k12 : PySem.W.keepIn K (.ref f12) = true)
    (a13 : PySem.W.nsIn K mainGlobals "law" = some (some (.ref f13))) (l13 : K.lookup f13 = some ⟨oc13, od13, .func (PySem.W.fnOf "law" "law" (defArgs s_law) (defBody s_law) (defScope s_law) .none kV13 dc13 pm13 an13 cd13 ct13), sl13⟩) (c13 : PySem.W.codeIn K cd13 "law" = true) (k13 : PySem.W.keepIn K (.ref f13) = true)
    (z0 : PySem.W.nsIn K mainGlobals "all" = some none)
    (z1 : PySem.W.nsIn K mainGlobals "bool" = some none)
    (z2 : PySem.W.nsIn K mainGlobals "enumerate" = some none)
    (z3 : PySem.W.nsIn K mainGlobals "int" = some none)
    (z4 : PySem.W.nsIn K mainGlobals "isinstance" = some none)
    (z5 : PySem.W.nsIn K mainGlobals "len" = some none)
    (z6 : PySem.W.nsIn K mainGlobals "list" = some none)
    (z7 : PySem.W.nsIn K mainGlobals "range" = some none)
    (z8 : PySem.W.nsIn K mainGlobals "sum" = some none)
    (z9 : PySem.W.nsIn K mainGlobals "zip" = some none)
    (y0 : PySem.W.nsIn K mainGlobals "MOST" = some (some (.int 6 tk0))) : Top K mg :=
  { d_is_number := ⟨f0, _, fun_mk (st := s_is_number) l0 c0 k0, PySem.W.mg_of X G a0⟩,
    d_asked_hats := ⟨f1, _, fun_mk (st := s_asked_hats) l1 c1 k1, PySem.W.mg_of X G a1⟩,
    d_power_of := ⟨f2, _, fun_mk (st := s_power_of) l2 c2 k2, PySem.W.mg_of X G a2⟩,
    d_asked_team := ⟨f3, _, fun_mk (st := s_asked_team) l3 c3 k3, PySem.W.mg_of X G a3⟩,
    d_mark := ⟨f4, _, fun_mk (st := s_mark) l4 c4 k4, PySem.W.mg_of X G a4⟩,
    d_word := ⟨f5, _, fun_mk (st := s_word) l5 c5 k5, PySem.W.mg_of X G a5⟩,
    d_says := ⟨f6, _, fun_mk (st := s_says) l6 c6 k6, PySem.W.mg_of X G a6⟩,
    d_said := ⟨f7, _, fun_mk (st := s_said) l7 c7 k7, PySem.W.mg_of X G a7⟩,
    d_won := ⟨f8, _, fun_mk (st := s_won) l8 c8 k8, PySem.W.mg_of X G a8⟩,
    d__law_number := ⟨f9, _, fun_mk (st := s__law_number) l9 c9 k9, PySem.W.mg_of X G a9⟩,
    d__law_team := ⟨f10, _, fun_mk (st := s__law_team) l10 c10 k10, PySem.W.mg_of X G a10⟩,
    d__law_words_right := ⟨f11, _, fun_mk (st := s__law_words_right) l11 c11 k11, PySem.W.mg_of X G a11⟩,
    d__law_won := ⟨f12, _, fun_mk (st := s__law_won) l12 c12 k12, PySem.W.mg_of X G a12⟩,
    d_law := ⟨f13, _, fun_mk (st := s_law) l13 c13 k13, PySem.W.mg_of X G a13⟩,
    n_all := PySem.W.mg_none_of X G z0,
    n_bool := PySem.W.mg_none_of X G z1,
    n_enumerate := PySem.W.mg_none_of X G z2,
    n_int := PySem.W.mg_none_of X G z3,
    n_isinstance := PySem.W.mg_none_of X G z4,
    n_len := PySem.W.mg_none_of X G z5,
    n_list := PySem.W.mg_none_of X G z6,
    n_range := PySem.W.mg_none_of X G z7,
    n_sum := PySem.W.mg_none_of X G z8,
    n_zip := PySem.W.mg_none_of X G z9,
    g_MOST := ⟨tk0, PySem.W.mg_of X G y0⟩ }
theorem law_mk {P : Program} {w : World} {K : PySem.W.Frag} {mg : Str → Option Value} {fa : Addr} (hfa : mg "law" = some (.ref fa)) (T : Top K mg) :
    ∃ fd : FuncData, (∀ (s : Shared) (v : Value), BindsTo s fd ⟨[v], []⟩ [("_law_script", v)]) ∧ ∀ base : Heap, K.In base → base.Ns mainGlobals mg → FnOk P w K mg base (L2.CX P w) 6 fa fd ["_law_script"] (spLaw K) := by
  obtain ⟨f, fd, F, g⟩ := T.d_law
  have e := hfa.symm.trans g
  cases e
  refine ⟨fd, ?_, fun base _ _ => ?_⟩
  · obtain ⟨oc, od, kV, doc, pm, an, cdv, ct, osl, rfl, lk, hcd⟩ := F.ex
    exact fun s v => .of_eq rfl
  · exact ok_law T F
end Hg
open PySem PySem.W PyProof.Rows
set_option maxHeartbeats 0 in
theorem PySem.Challenge.cw_hatguess_k03_whole_passing_holds : PySem.Challenge.rw_hatguess_k03_whole_passing.Holds := by
  w_on; o_law; k_head; (case hw => w_witness2)
  k_fill
  refine L2.walk_ofB (l := PySem.Challenge.rw_hatguess_k03_whole_passing) (n := 63) (k := 6) (x := "_law_script") (CX := fun w => L2.CX (PySem.Challenge.rw_hatguess_k03_whole_passing).prog w) (sp := fun w => Hg.spLaw _) rfl (by decide) rfl ⟨rfl, by decide, by decide⟩ (fun w h Y => PySem.W.kIn_of Y) ?F (fun _ _ a ns hl hb _ hS => ⟨a, ns, rfl, hS, hl, fun y hy => Hg.Bt.of (hb y hy), fun _ => rfl⟩) (fun _ _ _ _ _ h => Hg.cx_false h)
  case F =>
    intro w mg fa h KX G hmg
    refine' Hg.law_mk hmg (Hg.top_mk KX G ?a0 ?l0 ?c0 ?k0 ?a1 ?l1 ?c1 ?k1 ?a2 ?l2 ?c2 ?k2 ?a3 ?l3 ?c3 ?k3 ?a4 ?l4 ?c4 ?k4 ?a5 ?l5 ?c5 ?k5 ?a6 ?l6 ?c6 ?k6 ?a7 ?l7 ?c7 ?k7 ?a8 ?l8 ?c8 ?k8 ?a9 ?l9 ?c9 ?k9 ?a10 ?l10 ?c10 ?k10 ?a11 ?l11 ?c11 ?k11 ?a12 ?l12 ?c12 ?k12 ?a13 ?l13 ?c13 ?k13 ?z0 ?z1 ?z2 ?z3 ?z4 ?z5 ?z6 ?z7 ?z8 ?z9 ?y0)
    (case a0 => k_is); (case l0 => k_is); (case c0 => k_is); (case k0 => k_is); (case a1 => k_is); (case l1 => k_is); (case c1 => k_is); (case k1 => k_is); (case a2 => k_is); (case l2 => k_is); (case c2 => k_is); (case k2 => k_is); (case a3 => k_is); (case l3 => k_is); (case c3 => k_is); (case k3 => k_is); (case a4 => k_is); (case l4 => k_is); (case c4 => k_is); (case k4 => k_is); (case a5 => k_is); (case l5 => k_is); (case c5 => k_is); (case k5 => k_is); (case a6 => k_is); (case l6 => k_is); (case c6 => k_is); (case k6 => k_is); (case a7 => k_is); (case l7 => k_is); (case c7 => k_is); (case k7 => k_is); (case a8 => k_is); (case l8 => k_is); (case c8 => k_is); (case k8 => k_is); (case a9 => k_is); (case l9 => k_is); (case c9 => k_is); (case k9 => k_is); (case a10 => k_is); (case l10 => k_is); (case c10 => k_is); (case k10 => k_is); (case a11 => k_is); (case l11 => k_is); (case c11 => k_is); (case k11 => k_is); (case a12 => k_is); (case l12 => k_is); (case c12 => k_is); (case k12 => k_is); (case a13 => k_is); (case l13 => k_is); (case c13 => k_is); (case k13 => k_is); (case z0 => k_is); (case z1 => k_is); (case z2 => k_is); (case z3 => k_is); (case z4 => k_is); (case z5 => k_is); (case z6 => k_is); (case z7 => k_is); (case z8 => k_is); (case z9 => k_is); (case y0 => k_is)
