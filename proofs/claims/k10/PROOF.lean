import PyProof.Rows.All
import Wide.All
import OpenK.AllK
import Wide.FinOn
import HandS.ForMost
import HandS.SortRule
import HandS.TupAny
import HandS.Zip
import HandS.IsInst
import HandS.Deep
import KE.GoesEnum
import HandS.Wide
import HandS.Ends
import HandS.TupLe
import HandS.TupMul
import KE.KTupSum
import HandS.DictTup
import HandS.Iter
import KE.DataFind
import HandS.Style
import KE.KRevSl
import KE.KDictKeyed
import PyProof.DictCompW
import HandS.DictComp
import HandS.Head0
import HandS.Head1
import HandS.Head2
import HandS.HeadEnd
import HandS.HeadHook1
import HandS.HeadHook2
import HandS.HeadNt
import PySem.Challenge.RW_tirewish_k10_whole_hands_turned_about
set_option Elab.async false
set_option linter.all false
set_option maxRecDepth 100000
set_option maxHeartbeats 20000000
/-! Tw: expressions and statements read over data (PyData), not over addresses. -/
namespace Tw
open PySem PySem.Spec PyProof.Rows L2

/-! ## data in a heap of things that stand still -/
mutual
inductive Rp (F : Hp) : V → PyData → Prop
  | non : Rp F .non .none
  | bl (b : Bool) : Rp F (.bl b) (.bool b)
  | int (i : Int) : Rp F (.int i) (.int i)
  | str (x : Str) : Rp F (.str x) (.str x)
  | lst {a : Addr} {xs : List V} {ds : List PyData} : F a = some (.lst xs) → RpA F xs ds → Rp F (.ref a) (.list ds)
  | tup {a : Addr} {xs : List V} {ds : List PyData} : F a = some (.tup xs) → RpA F xs ds → Rp F (.ref a) (.tuple ds)
inductive RpA (F : Hp) : List V → List PyData → Prop
  | nil : RpA F [] []
  | cons {v : V} {vs : List V} {d : PyData} {ds : List PyData} : Rp F v d → RpA F vs ds → RpA F (v :: vs) (d :: ds)
end

mutual
theorem Rp.mono {F F' : Hp} (e : Same F F') : ∀ {v : V} {d : PyData}, Rp F v d → Rp F' v d
  | _, _, .non => .non
  | _, _, .bl b => .bl b
  | _, _, .int i => .int i
  | _, _, .str x => .str x
  | _, _, .lst h r => .lst (e _ _ h) (RpA.mono e r)
  | _, _, .tup h r => .tup (e _ _ h) (RpA.mono e r)
theorem RpA.mono {F F' : Hp} (e : Same F F') : ∀ {vs : List V} {ds : List PyData}, RpA F vs ds → RpA F' vs ds
  | _, _, .nil => .nil
  | _, _, .cons r t => .cons (Rp.mono e r) (RpA.mono e t)
end
mutual
theorem Rp.dp {K : PySem.W.Frag} {F H : Hp} (e : Same F H) : ∀ {v : V} {d : PyData}, Rp F v d → Dp K H v d
  | _, _, .non => .non
  | _, _, .bl b => .bl b
  | _, _, .int i => .int i
  | _, _, .str x => .str x
  | _, _, .lst h r => .lst (SqL.of (e _ _ h)) (RpA.dp e r)
  | _, _, .tup h r => .tup (SqT.of (e _ _ h)) (RpA.dp e r)
theorem RpA.dp {K : PySem.W.Frag} {F H : Hp} (e : Same F H) : ∀ {vs : List V} {ds : List PyData}, RpA F vs ds → DpAll K H vs ds
  | _, _, .nil => .nil
  | _, _, .cons r t => .cons (Rp.dp e r) (RpA.dp e t)
end
section
variable {F : Hp} {xs ys : List V} {ds es : List PyData}
theorem RpA.len (h : RpA F xs ds) : xs.length = ds.length := by
  induction ds generalizing xs with
  | nil => cases h; rfl
  | cons d ds ih => cases h with | cons r t => simp [ih t]
theorem RpA.get {i : Nat} {d : PyData} (h : RpA F xs ds) (e : ds[i]? = some d) : ∃ v, xs[i]? = some v ∧ Rp F v d := by
  induction ds generalizing xs i with
  | nil => simp at e
  | cons d0 ds ih =>
    cases h with
    | cons r t =>
      cases i with
      | zero => simp at e; subst e; exact ⟨_, rfl, r⟩
      | succ i => simp at e; obtain ⟨v, h1, h2⟩ := ih t e; exact ⟨v, by simpa using h1, h2⟩
theorem RpA.get' {i : Nat} {v : V} (h : RpA F xs ds) (e : xs[i]? = some v) : ∃ d, ds[i]? = some d ∧ Rp F v d := by
  have hl := h.len
  have hi : i < ds.length := by
    have := (List.getElem?_eq_some_iff.mp e).1
    omega
  obtain ⟨v', h1, h2⟩ := h.get (List.getElem?_eq_getElem hi)
  rw [e] at h1; cases h1
  exact ⟨_, List.getElem?_eq_getElem hi, h2⟩
theorem RpA.append (h : RpA F xs ds) (h' : RpA F ys es) : RpA F (xs ++ ys) (ds ++ es) := by
  induction ds generalizing xs with
  | nil => cases h; exact h'
  | cons d ds ih => cases h with | cons r t => exact .cons r (ih t)
theorem RpA.take (n : Nat) (h : RpA F xs ds) : RpA F (xs.take n) (ds.take n) := by
  induction ds generalizing xs n with
  | nil => cases h; simp; exact .nil
  | cons d ds ih =>
    cases h with
    | cons r t =>
      cases n with
      | zero => exact .nil
      | succ n => exact .cons r (ih n t)
theorem RpA.drop (n : Nat) (h : RpA F xs ds) : RpA F (xs.drop n) (ds.drop n) := by
  induction ds generalizing xs n with
  | nil => cases h; simp; exact .nil
  | cons d ds ih =>
    cases h with
    | cons r t =>
      cases n with
      | zero => exact .cons r t
      | succ n => exact ih n t
theorem RpA.set (n : Nat) {v : V} {d : PyData} (h : RpA F xs ds) (r : Rp F v d) : RpA F (xs.set n v) (ds.set n d) := by
  induction ds generalizing xs n with
  | nil => cases h; simp; exact .nil
  | cons d0 ds ih =>
    cases h with
    | cons r0 t =>
      cases n with
      | zero => exact .cons r t
      | succ n => exact .cons r0 (ih n t)
theorem RpA.reverse (h : RpA F xs ds) : RpA F xs.reverse ds.reverse := by
  induction ds generalizing xs with
  | nil => cases h; exact .nil
  | cons d ds ih => cases h with | cons r t => simp only [List.reverse_cons]; exact (ih t).append (.cons r .nil)
theorem RpA.rep (n : Nat) (h : RpA F xs ds) : RpA F (List.replicate n xs).flatten (List.replicate n ds).flatten := by
  induction n with
  | zero => exact .nil
  | succ n ih => simp only [List.replicate_succ, List.flatten_cons]; exact h.append ih
theorem RpA.ints : ∀ {ns : List Int} {xs : List V}, RpA F xs (ns.map .int) → xs = ns.map V.int
  | [], _, .nil => rfl
  | n :: ns, _, .cons r t => by cases r; simp [RpA.ints t]
theorem RpA.of_ints : ∀ ns : List Int, RpA F (ns.map V.int) (ns.map .int)
  | [] => .nil
  | n :: ns => .cons (.int n) (RpA.of_ints ns)
theorem RpA.bools : ∀ {bs : List Bool} {xs : List V}, RpA F xs (bs.map .bool) → xs = bs.map V.bl
  | [], _, .nil => rfl
  | n :: ns, _, .cons r t => by cases r; simp [RpA.bools t]
theorem Rp.tup_inv {v : V} (h : Rp F v (.tuple ds)) : ∃ a xs, v = .ref a ∧ F a = some (.tup xs) ∧ RpA F xs ds := by
  cases h with | tup h r => exact ⟨_, _, rfl, h, r⟩
theorem Rp.lst_inv {v : V} (h : Rp F v (.list ds)) : ∃ a xs, v = .ref a ∧ F a = some (.lst xs) ∧ RpA F xs ds := by
  cases h with | lst h r => exact ⟨_, _, rfl, h, r⟩
theorem Rp.int_inv {v : V} {i : Int} (h : Rp F v (.int i)) : v = .int i := by cases h; rfl
theorem Rp.bl_inv {v : V} {b : Bool} (h : Rp F v (.bool b)) : v = .bl b := by cases h; rfl
theorem Rp.str_inv {v : V} {b : Str} (h : Rp F v (.str b)) : v = .str b := by cases h; rfl
theorem Rp.non_inv {v : V} (h : Rp F v .none) : v = .non := by cases h; rfl
end

/-! ## how heaps grow: F what stands still, H all; things at ex may change -/
/-- something that is no tuple stands at a -/
def NN (H : Hp) (a : Addr) : Prop := ∃ o, H a = some o ∧ ∀ xs, o ≠ .tup xs
theorem NN.ne {H : Hp} {a : Addr} (h : NN H a) : H a ≠ none := by obtain ⟨o, h, _⟩ := h; rw [h]; simp
theorem NN.lst {H : Hp} {a : Addr} {xs : List V} (h : H a = some (.lst xs)) : NN H a := ⟨_, h, fun _ z => by cases z⟩
theorem NN.upd {H : Hp} {a p : Addr} {o : HO} (h : NN H a) (ho : ∀ xs, o ≠ .tup xs) : NN (upd H p o) a := by
  by_cases hb : a = p
  · subst hb; exact ⟨o, upd_same, ho⟩
  · obtain ⟨u, h1, h2⟩ := h
    exact ⟨u, by rw [upd_ne hb]; exact h1, h2⟩
theorem NN.new {H : Hp} {a p : Addr} {o : HO} (h : NN H a) (hp : H p = none) : NN (L2.upd H p o) a := by
  have hb : a ≠ p := fun z => by subst z; exact h.ne hp
  obtain ⟨u, h1, h2⟩ := h
  exact ⟨u, by rw [upd_ne hb]; exact h1, h2⟩
structure GrowX (ex : List Addr) (F H F2 H2 : Hp) : Prop where
  f : Same F F2
  s : Same F2 H2
  h : ∀ a o, a ∉ ex → H a = some o → H2 a = some o
  k : ∀ a, H a ≠ none → H2 a ≠ none
  n : ∀ a, F a = none → NN H a → F2 a = none
  m : ∀ a, NN H a → NN H2 a
abbrev Grow := GrowX []
section
variable {ex : List Addr} {F H F2 H2 F3 H3 : Hp} {p : Addr} {o : HO}
theorem same_none (e : Same F H) {a : Addr} (h : H a = none) : F a = none := e.free h
theorem GrowX.refl (e : Same F H) : GrowX ex F H F H := ⟨Same.refl _, e, fun _ _ _ h => h, fun _ h => h, fun _ h _ => h, fun _ h => h⟩
theorem GrowX.trans (a : GrowX ex F H F2 H2) (b : GrowX ex F2 H2 F3 H3) : GrowX ex F H F3 H3 :=
  ⟨a.f.trans b.f, b.s, fun c o hx h => b.h c o hx (a.h c o hx h), fun c h => b.k c (a.k c h), fun c h1 h2 => b.n c (a.n c h1 h2) (a.m c h2), fun c h => b.m c (a.m c h)⟩
theorem GrowX.up (g : Grow F H F2 H2) : GrowX ex F H F2 H2 := ⟨g.f, g.s, fun c o _ h => g.h c o (List.not_mem_nil) h, g.k, g.n, g.m⟩
theorem GrowX.same (g : Grow F H F2 H2) : Same H H2 := fun c o h => g.h c o List.not_mem_nil h
theorem Same.upd_new (hp : H p = none) : Same H (upd H p o) := fun b u q => by rw [upd_ne (ne_of_none q hp)]; exact q
theorem Same.upd2 (e : Same F H) : Same (upd F p o) (upd H p o) := fun b u q => by
  by_cases hb : b = p
  · subst hb; rw [upd_same] at q ⊢; exact q
  · rw [upd_ne hb] at q ⊢; exact e b u q
theorem Grow.new (e : Same F H) (hp : H p = none) : Grow F H (upd F p o) (upd H p o) :=
  ⟨Same.upd_new (same_none e hp), Same.upd2 e, fun c u _ h => Same.upd_new hp c u h, fun c h => by
    by_cases hc : c = p
    · subst hc; rw [upd_same]; simp
    · rw [upd_ne hc]; exact h, fun c h1 h2 => by
    have hc : c ≠ p := fun z => by subst z; exact h2.ne hp
    rw [upd_ne hc]; exact h1, fun c h => h.new hp⟩
/-- a new thing that is not told as still -/
theorem Grow.skip (e : Same F H) (hp : H p = none) : Grow F H F (upd H p o) :=
  ⟨Same.refl _, e.trans (Same.upd_new hp), fun c u _ h => Same.upd_new hp c u h, fun c h => by
    by_cases hc : c = p
    · subst hc; rw [upd_same]; simp
    · rw [upd_ne hc]; exact h, fun c h1 _ => h1, fun c h => h.new hp⟩
/-- only what stood is told -/
theorem GrowX.back (g : GrowX ex F H F2 H2) : GrowX ex F H F H2 := ⟨Same.refl _, g.f.trans g.s, g.h, g.k, fun _ h _ => h, g.m⟩
end

/-! ## what is known of the slots -/
/-- what a changing thing is like -/
structure Ow where
  φ : Hp → HO → Prop
  mono : ∀ {F F' : Hp} {o : HO}, Same F F' → φ F o → φ F' o
  nt : ∀ {F : Hp} {o : HO}, φ F o → ∀ xs, o ≠ .tup xs
def Ow.lst (ds : List PyData) : Ow := ⟨fun F o => ∃ xs, o = .lst xs ∧ RpA F xs ds, fun e ⟨xs, h, r⟩ => ⟨xs, h, r.mono e⟩, fun ⟨xs, h, r⟩ ys z => by rw [h] at z; cases z⟩
inductive Ent where
  /-- nothing is told -/
  | no
  /-- data that stand still -/
  | dat (d : PyData)
  /-- just this value -/
  | val (v : V)
  /-- a thing of this def's own, which may change -/
  | own (p : Addr) (w : Ow)
  /-- a thing that stands still, as it stands -/
  | fx (p : Addr) (u : HO)
  /-- a thing that stands still, and what it is like -/
  | st (p : Addr) (w : Ow)
abbrev Env' := List Ent
def EntOk (F H : Hp) : Ent → Option V → Prop
  | .no, _ => True
  | .dat d, o => ∃ v, o = some v ∧ Rp F v d
  | .val v, o => o = some v
  | .own p w, o => o = some (.ref p) ∧ F p = none ∧ ∃ ho, H p = some ho ∧ w.φ F ho
  | .fx p u, o => o = some (.ref p) ∧ F p = some u
  | .st p w, o => o = some (.ref p) ∧ ∃ u, F p = some u ∧ w.φ F u
structure Ok (F H : Hp) (ρ : Env') (σ : L2.St) : Prop where
  s : Same F H
  len : σ.length = ρ.length
  at_ : ∀ (i : Nat) (e : Ent), ρ[i]? = some e → ∃ o, σ[i]? = some o ∧ EntOk F H e o
  ne : ∀ (i j : Nat) (p q : Addr) (w w' : Ow), ρ[i]? = some (.own p w) → ρ[j]? = some (.own q w') → i ≠ j → p ≠ q
section
variable {F H F2 H2 : Hp} {ρ : Env'} {σ : L2.St}
theorem EntOk.grow {e : Ent} {o : Option V} (h : EntOk F H e o) (g : Grow F H F2 H2) : EntOk F2 H2 e o := by
  cases e with
  | no => trivial
  | dat d => obtain ⟨v, e, r⟩ := h; exact ⟨v, e, r.mono g.f⟩
  | val v => exact h
  | fx q u => exact ⟨h.1, g.f _ _ h.2⟩
  | st q w => exact ⟨h.1, let ⟨u, hu, hw⟩ := h.2; ⟨u, g.f _ _ hu, w.mono g.f hw⟩⟩
  | own p w =>
    obtain ⟨e, hp, ho, hh, hw⟩ := h
    exact ⟨e, g.n p hp ⟨ho, hh, w.nt hw⟩, ho, g.same p ho hh, w.mono g.f hw⟩
theorem Ok.grow (h : Ok F H ρ σ) (g : Grow F H F2 H2) : Ok F2 H2 ρ σ :=
  ⟨g.s, h.len, fun i e he => let ⟨o, h1, h2⟩ := h.at_ i e he; ⟨o, h1, h2.grow g⟩, h.ne⟩
theorem Ok.dat {i : Nat} {d : PyData} (h : Ok F H ρ σ) (e : ρ[i]? = some (.dat d)) : ∃ v, σ[i]? = some (some v) ∧ Rp F v d := by
  obtain ⟨o, h1, v, rfl, r⟩ := h.at_ i _ e
  exact ⟨v, h1, r⟩
theorem Ok.own {i : Nat} {p : Addr} {w : Ow} (h : Ok F H ρ σ) (e : ρ[i]? = some (.own p w)) : σ[i]? = some (some (.ref p)) ∧ F p = none ∧ ∃ ho, H p = some ho ∧ w.φ F ho := by
  obtain ⟨o, h1, rfl, h2⟩ := h.at_ i _ e
  exact ⟨h1, h2⟩
theorem Ok.set {i : Nat} {e : Ent} {v : V} (h : Ok F H ρ σ) (he : EntOk F H e (some v)) (hn : ∀ p w, e = .own p w → ∀ j q w', ρ[j]? = some (.own q w') → i ≠ j → p ≠ q) : Ok F H (ρ.set i e) (σ.set i (some v)) := by
  refine ⟨h.s, by simp [h.len], fun j e' hj => ?_, fun j k p q w w' hj hk hjk => ?_⟩
  · by_cases hij : i = j
    · subst hij
      have hl : i < ρ.length := by
        have := (List.getElem?_eq_some_iff.mp hj).1
        simpa using this
      rw [List.getElem?_set_self hl] at hj
      cases hj
      exact ⟨some v, List.getElem?_set_self (by rw [h.len]; exact hl), he⟩
    · rw [List.getElem?_set_ne hij] at hj
      obtain ⟨o, h1, h2⟩ := h.at_ j e' hj
      exact ⟨o, by rw [List.getElem?_set_ne hij]; exact h1, h2⟩
  · by_cases hij : i = j
    · subst hij
      have hl : i < ρ.length := by
        have := (List.getElem?_eq_some_iff.mp hj).1
        simpa using this
      rw [List.getElem?_set_self hl] at hj
      cases hj
      rw [List.getElem?_set_ne hjk] at hk
      exact hn p w rfl k q w' hk hjk
    · rw [List.getElem?_set_ne hij] at hj
      by_cases hik : i = k
      · subst hik
        have hl : i < ρ.length := by
          have := (List.getElem?_eq_some_iff.mp hk).1
          simpa using this
        rw [List.getElem?_set_self hl] at hk
        cases hk
        exact (hn q w' rfl j p w hj hij).symm
      · rw [List.getElem?_set_ne hik] at hk
        exact h.ne j k p q w w' hj hk hjk
theorem Ok.setD {i : Nat} {d : PyData} {v : V} (h : Ok F H ρ σ) (r : Rp F v d) : Ok F H (ρ.set i (.dat d)) (σ.set i (some v)) :=
  h.set ⟨v, rfl, r⟩ fun p w e => nomatch e
/-- less is told -/
theorem Ok.forget {i : Nat} (h : Ok F H ρ σ) : Ok F H (ρ.set i .no) σ := by
  refine ⟨h.s, by simp [h.len], fun j e hj => ?_, fun j k p q w w' hj hk hjk => ?_⟩
  · by_cases hij : i = j
    · subst hij
      have hl : i < ρ.length := by
        have := (List.getElem?_eq_some_iff.mp hj).1
        simpa using this
      rw [List.getElem?_set_self hl] at hj
      cases hj
      obtain ⟨o, ho⟩ : ∃ o, σ[i]? = some o := ⟨σ[i]'(by rw [h.len]; exact hl), List.getElem?_eq_getElem _⟩
      exact ⟨o, ho, trivial⟩
    · rw [List.getElem?_set_ne hij] at hj
      exact h.at_ j e hj
  · have f : ∀ {j : Nat} {p : Addr} {w : Ow}, (ρ.set i .no)[j]? = some (.own p w) → ρ[j]? = some (.own p w) := fun {j p w} hj => by
      by_cases hij : i = j
      · subst hij
        have hl : i < ρ.length := by
          have := (List.getElem?_eq_some_iff.mp hj).1
          simpa using this
        rw [List.getElem?_set_self hl] at hj
        cases hj
      · rw [List.getElem?_set_ne hij] at hj
        exact hj
    exact h.ne j k p q w w' (f hj) (f hk) hjk
/-- the slots of a comprehension's own names forgotten -/
def wipeE (ρ : Env') : List Nat → Env'
  | [] => ρ
  | v :: vs => (wipeE ρ vs).set v .no
theorem Ok.wipe (h : Ok F H ρ σ) : ∀ vs : List Nat, Ok F H (wipeE ρ vs) (L2.wipe σ vs)
  | [] => h
  | v :: vs => by
    have hw := Ok.wipe h vs
    have h2 := hw.forget (i := v)
    refine ⟨h2.s, by simp [L2.wipe, wipeE, hw.len], fun j e hj => ?_, h2.ne⟩
    by_cases hij : v = j
    · subst hij
      have hl : v < (wipeE ρ vs).length := by
        have := (List.getElem?_eq_some_iff.mp hj).1
        simpa [wipeE] using this
      have hj' : ((wipeE ρ vs).set v .no)[v]? = some e := hj
      rw [List.getElem?_set_self hl] at hj'
      cases hj'
      exact ⟨none, List.getElem?_set_self (by rw [hw.len]; exact hl), trivial⟩
    · obtain ⟨o, h3, h4⟩ := h2.at_ j e hj
      exact ⟨o, by show ((L2.wipe σ vs).set v none)[j]? = _; rw [List.getElem?_set_ne hij]; exact h3, h4⟩
theorem wipe_set_in {i : Nat} {x : Option V} : ∀ {vs : List Nat} {σ : L2.St}, i ∈ vs → L2.wipe (σ.set i x) vs = L2.wipe σ vs := by
  intro vs
  induction vs with
  | nil => intro σ h; cases h
  | cons v vs ih =>
    intro σ h
    by_cases hin : i ∈ vs
    · show (L2.wipe (σ.set i x) vs).set v none = (L2.wipe σ vs).set v none
      rw [ih hin]
    · have hv : i = v := by
        rcases List.mem_cons.mp h with e | e
        · exact e
        · exact (hin e).elim
      subst hv
      show (L2.wipe (σ.set i x) vs).set i none = (L2.wipe σ vs).set i none
      refine List.ext_getElem? fun j => ?_
      by_cases hij : i = j
      · subst hij
        simp [List.getElem?_set, L2.wipe_length]
      · rw [List.getElem?_set_ne hij, List.getElem?_set_ne hij]
        have key : ∀ (ws : List Nat) (τ : L2.St), (L2.wipe (τ.set i x) ws)[j]? = (L2.wipe τ ws)[j]? := by
          intro ws
          induction ws with
          | nil => intro τ; exact List.getElem?_set_ne hij
          | cons w ws ihw =>
            intro τ
            show ((L2.wipe (τ.set i x) ws).set w none)[j]? = ((L2.wipe τ ws).set w none)[j]?
            by_cases hwj : w = j
            · subst hwj
              simp [List.getElem?_set, L2.wipe_length]
            · rw [List.getElem?_set_ne hwj, List.getElem?_set_ne hwj]
              exact ihw τ
        exact key vs σ
end

/-! ## weakening -/
section
variable {X : Cx}
theorem PE.imp {e : Expr} {t t' : TE} (h : PE X e t) (i : ∀ σ H Q, t' σ H Q → t σ H Q) : PE X e t' := ⟨fun pins s σ H Q I q => h.run pins s σ H Q I (i _ _ _ q)⟩
theorem PT.imp {e : Expr} {t t' : TT} (h : PT X e t) (i : ∀ σ H Q, t' σ H Q → t σ H Q) : PT X e t' := ⟨fun pins s σ H Q I q => h.run pins s σ H Q I (i _ _ _ q)⟩
theorem PW.imp {e : Expr} {t t' : TT} (h : PW X e t) (i : ∀ σ H Q, t' σ H Q → t σ H Q) : PW X e t' := ⟨fun wh pins s σ H Q I q => h.run wh pins s σ H Q I (i _ _ _ q)⟩
theorem PA.imp {e : List Expr} {t t' : TA} (h : PA X e t) (i : ∀ σ H Q, t' σ H Q → t σ H Q) : PA X e t' := ⟨fun ps pins s σ H Q I q => h.run ps pins s σ H Q I (i _ _ _ q)⟩
theorem PS.imp {e : Stmt} {t t' : TS} (h : PS X e t) (i : ∀ D σ H, t' D σ H → t D σ H) : PS X e t' := ⟨fun pins s σ H D I q => h.run pins s σ H D I (i _ _ _ q)⟩
theorem PSs.imp {e : List Stmt} {t t' : TS} (h : PSs X e t) (i : ∀ D σ H, t' D σ H → t D σ H) : PSs X e t' := ⟨fun pins s σ H D I q => h.run pins s σ H D I (i _ _ _ q)⟩
theorem PI.imp {tg e : Expr} {t t' : TI} (h : PI X tg e t) (i : ∀ σ H R, t' σ H R → t σ H R) : PI X tg e t' := ⟨fun pins s σ H R I q => h.run pins s σ H R I (i _ _ _ q)⟩
theorem PG.imp {tg : Expr} {t t' : TG} (h : PG X tg t) (i : ∀ v σ H Q, t' v σ H Q → t v σ H Q) : PG X tg t' := ⟨fun pins s σ H v u Q I r q => h.run pins s σ H v u Q I r (i _ _ _ _ q)⟩
theorem PGs.imp {tg : List Expr} {t t' : TGs} (h : PGs X tg t) (i : ∀ v σ H Q, t' v σ H Q → t v σ H Q) : PGs X tg t' := ⟨fun pins s σ H v u Q I r q => h.run pins s σ H v u Q I r (i _ _ _ _ q)⟩
/-- a family of readings, each shown -/
theorem PE.any {e : Expr} {ι : Sort _} {c : ι → Prop} {t : ι → TE} (h : ∀ i, c i → PE X e (t i)) : PE X e (fun σ H Q => ∃ i, c i ∧ t i σ H Q) := ⟨fun pins s σ H Q I ⟨i, ci, q⟩ => (h i ci).run pins s σ H Q I q⟩
theorem PT.any {e : Expr} {ι : Sort _} {c : ι → Prop} {t : ι → TT} (h : ∀ i, c i → PT X e (t i)) : PT X e (fun σ H Q => ∃ i, c i ∧ t i σ H Q) := ⟨fun pins s σ H Q I ⟨i, ci, q⟩ => (h i ci).run pins s σ H Q I q⟩
theorem PW.any {e : Expr} {ι : Sort _} {c : ι → Prop} {t : ι → TT} (h : ∀ i, c i → PW X e (t i)) : PW X e (fun σ H Q => ∃ i, c i ∧ t i σ H Q) := ⟨fun wh pins s σ H Q I ⟨i, ci, q⟩ => (h i ci).run wh pins s σ H Q I q⟩
theorem PA.any {e : List Expr} {ι : Sort _} {c : ι → Prop} {t : ι → TA} (h : ∀ i, c i → PA X e (t i)) : PA X e (fun σ H Q => ∃ i, c i ∧ t i σ H Q) := ⟨fun ps pins s σ H Q I ⟨i, ci, q⟩ => (h i ci).run ps pins s σ H Q I q⟩
theorem PTs.any {e : List Expr} {ι : Sort _} {c : ι → Prop} {t : ι → TT} (h : ∀ i, c i → PTs X e (t i)) : PTs X e (fun σ H Q => ∃ i, c i ∧ t i σ H Q) := ⟨fun pins s σ H Q I ⟨i, ci, q⟩ => (h i ci).run pins s σ H Q I q⟩
theorem PS.any {e : Stmt} {ι : Sort _} {c : ι → Prop} {t : ι → TS} (h : ∀ i, c i → PS X e (t i)) : PS X e (fun D σ H => ∃ i, c i ∧ t i D σ H) := ⟨fun pins s σ H D I ⟨i, ci, q⟩ => (h i ci).run pins s σ H D I q⟩
theorem PSs.any {e : List Stmt} {ι : Sort _} {c : ι → Prop} {t : ι → TS} (h : ∀ i, c i → PSs X e (t i)) : PSs X e (fun D σ H => ∃ i, c i ∧ t i D σ H) := ⟨fun pins s σ H D I ⟨i, ci, q⟩ => (h i ci).run pins s σ H D I q⟩
theorem PG.any {tg : Expr} {ι : Sort _} {c : ι → Prop} {t : ι → TG} (h : ∀ i, c i → PG X tg (t i)) : PG X tg (fun v σ H Q => ∃ i, c i ∧ t i v σ H Q) := ⟨fun pins s σ H v u Q I r ⟨i, ci, q⟩ => (h i ci).run pins s σ H v u Q I r q⟩
theorem PI.any {tg e : Expr} {ι : Sort _} {c : ι → Prop} {t : ι → TI} (h : ∀ i, c i → PI X tg e (t i)) : PI X tg e (fun σ H R => ∃ i, c i ∧ t i σ H R) := ⟨fun pins s σ H R I ⟨i, ci, q⟩ => (h i ci).run pins s σ H R I q⟩
end

/-! ## expressions that change nothing -/
def tD (ρ : Env') (d : PyData) : TE := fun σ H Q => ∃ F, Ok F H ρ σ ∧ ∀ v F2 H2, Grow F H F2 H2 → Rp F2 v d → Q v H2
def tDT (ρ : Env') (b : Bool) : TT := fun σ H Q => ∃ F, Ok F H ρ σ ∧ ∀ F2 H2, Grow F H F2 H2 → Q b H2
def tDA (ρ : Env') (ds : List PyData) : TA := fun σ H Q => ∃ F, Ok F H ρ σ ∧ ∀ vs F2 H2, Grow F H F2 H2 → RpA F2 vs ds → Q vs H2
def tDO (ρ : Env') (o : Option Int) : TO := fun σ H Q => ∃ F, Ok F H ρ σ ∧ ∀ F2 H2, Grow F H F2 H2 → Q o H2
/-- e gives d -/
abbrev DE (X : Cx) (ρ : Env') (e : Expr) (d : PyData) : Prop := PE X e (tD ρ d)
abbrev DT (X : Cx) (ρ : Env') (e : Expr) (b : Bool) : Prop := PT X e (tDT ρ b)
abbrev DW (X : Cx) (ρ : Env') (e : Expr) (b : Bool) : Prop := PW X e (tDT ρ b)
abbrev DTs (X : Cx) (ρ : Env') (es : List Expr) (b : Bool) : Prop := PTs X es (tDT ρ b)
abbrev DA (X : Cx) (ρ : Env') (es : List Expr) (ds : List PyData) : Prop := PA X es (tDA ρ ds)
abbrev DO (X : Cx) (ρ : Env') (e : Option Expr) (o : Option Int) : Prop := PO X e (tDO ρ o)
/-- rules on values -/
def V2 (r : R2) (d1 d2 d : PyData) : Prop := ∀ F H v1 v2, Same F H → Rp F v1 d1 → Rp F v2 d2 → ∀ Q : VK, (∀ v F2 H2, Grow F H F2 H2 → Rp F2 v d → Q v H2) → r v1 v2 H Q
def V1 (r : V → Hp → VK → Prop) (d1 d : PyData) : Prop := ∀ F H v1, Same F H → Rp F v1 d1 → ∀ Q : VK, (∀ v F2 H2, Grow F H F2 H2 → Rp F2 v d → Q v H2) → r v1 H Q
def VN (r : List V → Hp → VK → Prop) (ds : List PyData) (d : PyData) : Prop := ∀ F H vs, Same F H → RpA F vs ds → ∀ Q : VK, (∀ v F2 H2, Grow F H F2 H2 → Rp F2 v d → Q v H2) → r vs H Q
/-- data without parts -/
def flatD : PyData → Bool
  | .none => true
  | .bool _ => true
  | .int _ => true
  | .str _ => true
  | _ => false
theorem Rp.flat {F F' : Hp} {v : V} {d : PyData} (h : Rp F v d) (f : flatD d = true) : Rp F' v d := by
  cases h with
  | non => exact .non
  | bl b => exact .bl b
  | int i => exact .int i
  | str x => exact .str x
  | lst _ _ => cases f
  | tup _ _ => cases f
section
variable {X : Cx} {ρ : Env'} {a b c e : Expr} {es : List Expr} {d d1 d2 : PyData} {ds : List PyData} {pos : Pos}
theorem de_var (i : Nat) {x : Str} (h : ρ[i]? = some (.dat d) := by rfl) (hN : X.N[i]? = some x := by rfl) (hv : Vis X.env.scope x := by first | exact Or.inl rfl | exact Or.inr (Or.inl rfl) | exact Or.inr (Or.inr rfl))
    (hd : (x == ("__debug__" : Str)) = false := by decide) (hcd : (x == ("__classdict__" : Str)) = false := by decide) : DE X ρ (.Name x pos) d :=
  PE.imp (pe_var hN hv hd hcd) fun σ H Q ⟨F, ok, k⟩ => by
    obtain ⟨v, h1, r⟩ := ok.dat h
    exact ⟨v, h1, k v F H (GrowX.refl ok.s) r⟩
theorem de_int {i : Int} {j} : DE X ρ (.Constant (.int i) j pos) (.int i) := PE.imp pe_int fun σ H Q ⟨F, ok, k⟩ => k _ F H (GrowX.refl ok.s) (.int i)
theorem de_bl {i : Bool} {j} : DE X ρ (.Constant (.bool i) j pos) (.bool i) := PE.imp pe_bl fun σ H Q ⟨F, ok, k⟩ => k _ F H (GrowX.refl ok.s) (.bl i)
theorem de_non {j} : DE X ρ (.Constant .none j pos) .none := PE.imp pe_non fun σ H Q ⟨F, ok, k⟩ => k _ F H (GrowX.refl ok.s) .non
theorem de_str {i : Str} {j} : DE X ρ (.Constant (.str i) j pos) (.str i) := PE.imp pe_str fun σ H Q ⟨F, ok, k⟩ => k _ F H (GrowX.refl ok.s) (.str i)
theorem bin_go {r : R2} {ta tb : TE} (hr : V2 r d1 d2 d) : ∀ σ H Q, tD ρ d σ H Q → tOp r (tD ρ d1) (tD ρ d2) σ H Q := fun σ H Q ⟨F, ok, k⟩ =>
  ⟨F, ok, fun v1 F1 H1 g1 r1 => ⟨F1, ok.grow g1, fun v2 F2 H2 g2 r2 => hr F2 H2 v1 v2 g2.s (r1.mono g2.f) r2 Q fun v F3 H3 g3 r3 => k v F3 H3 (g1.trans (g2.trans g3)) r3⟩⟩
theorem de_op {op : Operator} {r : R2} (ho : OpR X (binaryOp op) r) (ha : DE X ρ a d1) (hb : DE X ρ b d2) (hr : V2 r d1 d2 d) : DE X ρ (.BinOp a op b pos) d :=
  PE.imp (pe_op ho ha hb) (bin_go (ta := tD ρ d1) (tb := tD ρ d2) hr)
theorem de_cmp {op : CmpOp} {r : R2} (ho : OpR X (compareOp op) r) (ha : DE X ρ a d1) (hb : DE X ρ b d2) (hr : V2 r d1 d2 d) (hm : behindInMarks op b = false := by first | exact nomark _ | rfl | with_unfolding_all rfl) : DE X ρ (.Compare a [op] [b] pos) d :=
  PE.imp (pe_cmpR ho ha hb hm) (bin_go (ta := tD ρ d1) (tb := tD ρ d2) hr)
theorem de_un {op : UnaryOp} {r : V → Hp → VK → Prop} (ho : UnR X (unaryOp op) r) (ha : DE X ρ a d1) (hr : V1 r d1 d) : DE X ρ (.UnaryOp op a pos) d :=
  PE.imp (pe_un ho ha) fun σ H Q ⟨F, ok, k⟩ => ⟨F, ok, fun v1 F1 H1 g1 r1 => hr F1 H1 v1 g1.s r1 Q fun v F2 H2 g2 r2 => k v F2 H2 (g1.trans g2) r2⟩
theorem de_is (h : DE X ρ e d1) (q : d1 = d2) : DE X ρ e d2 := q ▸ h
theorem dt_is {x y : Bool} (h : DT X ρ e x) (q : x = y) : DT X ρ e y := q ▸ h
/-! tests -/
theorem dt_val {x : Bool} (h : DE X ρ e (.bool x)) (he : ∀ whole, isTrue e X.env whole = (do let v ← whole; standAt e.pos; holding [v] (truthy v)) := by intro _; rfl) : DT X ρ e x :=
  PT.imp (pt_val h he) fun σ H Q ⟨F, ok, k⟩ => ⟨F, ok, fun v F2 H2 g r => ⟨x, r.bl_inv, k F2 H2 g⟩⟩
theorem dt_cmp {op : CmpOp} {r : R2} {x : Bool} (ho : OpR X (compareOp op) r) (ha : DE X ρ a d1) (hb : DE X ρ b d2) (hr : V2 r d1 d2 (.bool x)) (hm : behindInMarks op b = false := by first | exact nomark _ | rfl | with_unfolding_all rfl) : DT X ρ (.Compare a [op] [b] pos) x :=
  PT.imp (pt_cmpR ho ha hb hm) fun σ H Q ⟨F, ok, k⟩ => bin_go (ta := tD ρ d1) (tb := tD ρ d2) hr σ H _ ⟨F, ok, fun v F2 H2 g r => ⟨x, r.bl_inv, k F2 H2 g⟩⟩
theorem dt_w {x : Bool} (h : DW X ρ e x) : DT X ρ e x := PW.pt h
theorem dw_and1 {x : Bool} {p2 : Pos} (h : DT X ρ a x) : DW X ρ (.BoolOp .And [a] p2) x := pw_and1 h
theorem dw_or1 {x : Bool} {p2 : Pos} (h : DT X ρ a x) : DW X ρ (.BoolOp .Or [a] p2) x := pw_or1 h
theorem dw_and {x y : Bool} (ha : DT X ρ a x) (hb : x = true → DW X ρ (.BoolOp .And (b :: es) pos) y) : DW X ρ (.BoolOp .And (a :: b :: es) pos) (x && y) :=
  PW.imp (pw_and ha (PW.any (ι := Unit) (c := fun _ => x = true) (t := fun _ => tDT ρ y) fun _ hx => hb hx)) fun σ H Q ⟨F, ok, k⟩ => ⟨F, ok, fun F2 H2 g => by
    cases x with
    | true => exact iteT ⟨(), rfl, F2, ok.grow g, fun F3 H3 g3 => by simpa using k F3 H3 (g.trans g3)⟩
    | false => exact iteF (by simpa using k F2 H2 g)⟩
theorem dw_or {x y : Bool} (ha : DT X ρ a x) (hb : x = false → DW X ρ (.BoolOp .Or (b :: es) pos) y) : DW X ρ (.BoolOp .Or (a :: b :: es) pos) (x || y) :=
  PW.imp (pw_or ha (PW.any (ι := Unit) (c := fun _ => x = false) (t := fun _ => tDT ρ y) fun _ hx => hb hx)) fun σ H Q ⟨F, ok, k⟩ => ⟨F, ok, fun F2 H2 g => by
    cases x with
    | true => exact iteT (by simpa using k F2 H2 g)
    | false => exact iteF ⟨(), rfl, F2, ok.grow g, fun F3 H3 g3 => by simpa using k F3 H3 (g.trans g3)⟩⟩
theorem dt_not {x : Bool} (h : DT X ρ a x) : DT X ρ (.UnaryOp .Not a pos) (!x) := PT.imp (pt_not h) fun σ H Q ⟨F, ok, k⟩ => ⟨F, ok, fun F2 H2 g => k F2 H2 g⟩
theorem de_not {x : Bool} (h : DE X ρ a (.bool x)) : DE X ρ (.UnaryOp .Not a pos) (.bool (!x)) :=
  PE.imp (pe_not h) fun σ H Q ⟨F, ok, k⟩ => ⟨F, ok, fun v F2 H2 g r => ⟨x, r.bl_inv, k _ F2 H2 g (.bl _)⟩⟩
theorem de_one {op} (h : DE X ρ a d) : DE X ρ (.BoolOp op [a] pos) d := pe_one h
theorem de_and {x y : Bool} (ha : DE X ρ a (.bool x)) (hb : x = true → DE X ρ (.BoolOp .And (b :: es) pos) (.bool y)) : DE X ρ (.BoolOp .And (a :: b :: es) pos) (.bool (x && y)) :=
  PE.imp (pe_and ha (PE.any (ι := Unit) (c := fun _ => x = true) (t := fun _ => tD ρ (.bool y)) fun _ hx => hb hx)) fun σ H Q ⟨F, ok, k⟩ => ⟨F, ok, fun v F2 H2 g r => ⟨x, r.bl_inv, by
    cases x with
    | true => exact iteT ⟨(), rfl, F2, ok.grow g, fun v F3 H3 g3 r3 => k v F3 H3 (g.trans g3) (by simpa using r3)⟩
    | false => exact iteF (k _ F2 H2 g (by simpa using .bl false))⟩⟩
theorem de_or {x y : Bool} (ha : DE X ρ a (.bool x)) (hb : x = false → DE X ρ (.BoolOp .Or (b :: es) pos) (.bool y)) : DE X ρ (.BoolOp .Or (a :: b :: es) pos) (.bool (x || y)) :=
  PE.imp (pe_or ha (PE.any (ι := Unit) (c := fun _ => x = false) (t := fun _ => tD ρ (.bool y)) fun _ hx => hb hx)) fun σ H Q ⟨F, ok, k⟩ => ⟨F, ok, fun v F2 H2 g r => ⟨x, r.bl_inv, by
    cases x with
    | true => exact iteT (k _ F2 H2 g (by simpa using .bl true))
    | false => exact iteF ⟨(), rfl, F2, ok.grow g, fun v F3 H3 g3 r3 => k v F3 H3 (g.trans g3) (by simpa using r3)⟩⟩⟩
theorem de_if {x : Bool} (hc : DT X ρ c x) (ha : x = true → DE X ρ a d1) (hb : x = false → DE X ρ b d2) : DE X ρ (.IfExp c a b pos) (if x = true then d1 else d2) :=
  PE.imp (pe_ifExp hc (PE.any (ι := Unit) (c := fun _ => x = true) (t := fun _ => tD ρ d1) fun _ hx => ha hx) (PE.any (ι := Unit) (c := fun _ => x = false) (t := fun _ => tD ρ d2) fun _ hx => hb hx)) fun σ H Q ⟨F, ok, k⟩ => ⟨F, ok, fun F2 H2 g => by
    cases x with
    | true => exact iteT ⟨(), rfl, F2, ok.grow g, fun v F3 H3 g3 r3 => k v F3 H3 (g.trans g3) (by simpa using r3)⟩
    | false => exact iteF ⟨(), rfl, F2, ok.grow g, fun v F3 H3 g3 r3 => k v F3 H3 (g.trans g3) (by simpa using r3)⟩⟩
/-! argument lists, displays -/
theorem da_nil : DA X ρ [] [] := PA.imp pa_nil fun σ H Q ⟨F, ok, k⟩ => k _ F H (GrowX.refl ok.s) .nil
theorem da_cons (ha : DE X ρ e d) (hr : DA X ρ es ds) (hs : starEach (e :: es) X.env = (false, eval e X.env) :: starEach es X.env := by rfl) : DA X ρ (e :: es) (d :: ds) :=
  PA.imp (pa_cons ha hr hs) fun σ H Q ⟨F, ok, k⟩ => ⟨F, ok, fun v F2 H2 g r => ⟨F2, ok.grow g, fun vs F3 H3 g3 r3 => k _ F3 H3 (g.trans g3) (.cons (r.mono g3.f) r3)⟩⟩
theorem de_tup {k : Nat} (h : DA X ρ es ds) (hl : ds.length ≤ 1000 := by exact Nat.le_of_ble_eq_true rfl) : DE X ρ (.Tuple es k pos) (.tuple ds) :=
  PE.imp (pe_tup h) fun σ H Q ⟨F, ok, k⟩ => ⟨F, ok, fun vs F2 H2 g r => ⟨by rw [r.len]; exact Nat.le_trans hl (by decide), fun p hp => k _ _ _ (g.trans (Grow.new g.s hp)) (.tup upd_same (r.mono (Same.upd_new (same_none g.s hp))))⟩⟩
theorem de_lst (h : DA X ρ es ds) (hl : ds.length ≤ 1000 := by exact Nat.le_of_ble_eq_true rfl) : DE X ρ (.List es pos) (.list ds) :=
  PE.imp (pe_lst h) fun σ H Q ⟨F, ok, k⟩ => ⟨F, ok, fun vs F2 H2 g r => ⟨by rw [r.len]; exact Nat.le_trans hl (by decide), fun p hp => k _ _ _ (g.trans (Grow.new g.s hp)) (.lst upd_same (r.mono (Same.upd_new (same_none g.s hp))))⟩⟩
/-! subscripts, slices -/
theorem de_ix {r : R2} (hx : IxR X r) (ha : DE X ρ a d1) (hb : DE X ρ b d2) (hr : V2 r d1 d2 d) (hs : PlainIx b := by exact fun _ _ => rfl) : DE X ρ (.Subscript a b pos) d :=
  PE.imp (pe_ix hx ha hb hs) (bin_go (ta := tD ρ d1) (tb := tD ρ d2) hr)
theorem do_none : DO X ρ none none := ⟨fun pins s σ H Q I ⟨F, ok, k⟩ => po_none.run pins s σ H Q I (k F H (GrowX.refl ok.s))⟩
theorem do_some {i : Int} (h : DE X ρ e (.int i)) : DO X ρ (some e) (some i) := ⟨fun pins s σ H Q I ⟨F, ok, k⟩ => (po_some h).run pins s σ H Q I ⟨F, ok, fun v F2 H2 g r => ⟨i, r.int_inv, k F2 H2 g⟩⟩⟩
def VS (r : V → Option Int → Option Int → Hp → VK → Prop) (d1 : PyData) (lo hi : Option Int) (d : PyData) : Prop := ∀ F H v1, Same F H → Rp F v1 d1 → ∀ Q : VK, (∀ v F2 H2, Grow F H F2 H2 → Rp F2 v d → Q v H2) → r v1 lo hi H Q
theorem de_sl {r : V → Option Int → Option Int → Hp → VK → Prop} {lo hi : Option Expr} {l h : Option Int} {p2 : Pos} (hx : SlR X r) (ha : DE X ρ a d1) (hl : DO X ρ lo l) (hh : DO X ρ hi h) (hr : VS r d1 l h d) : DE X ρ (.Subscript a (.Slice lo hi none p2) pos) d :=
  PE.imp (pe_slice hx ha hl hh) fun σ H Q ⟨F, ok, k⟩ => ⟨F, ok, fun v F1 H1 g1 r1 => ⟨F1, ok.grow g1, fun F2 H2 g2 => ⟨F2, (ok.grow g1).grow g2, fun F3 H3 g3 =>
    hr F3 H3 v g3.s (r1.mono (g2.trans g3).f) Q fun v' F4 H4 g4 r4 => k v' F4 H4 (g1.trans (g2.trans (g3.trans g4))) r4⟩⟩⟩
/-! calls of built-in functions and types -/
theorem de_callB {x : Str} {p : Pos} {id : String} {r : List V → Hp → VK → Prop} (hc : CallR X (.builtin id) r) (hm : X.mg x = none) (hv : bootBuiltins x = some (.builtin id)) (ha : DA X ρ (e :: es) ds) (hr : VN r ds d) (hg : Gl X x := by rfl) (hn : x ≠ "__name__" := by decide) (hdb : (x == ("__debug__" : Str)) = false := by decide)
    (he : starEach (e :: es) X.env = (false, eval e X.env) :: starEach es X.env := by rfl) (hpl : (backTo pos (starEach es X.env)).any (·.1) = false := by rfl) : DE X ρ (.Call (.Name x p) (e :: es) [] pos) d :=
  PE.imp (pe_callB hc hg hm hv ha hn hdb he hpl) fun σ H Q ⟨F, ok, k⟩ => ⟨F, ok, fun vs F2 H2 g r => hr F2 H2 vs g.s r Q fun v F3 H3 g3 r3 => k v F3 H3 (g.trans g3) r3⟩
theorem de_callTy {x : Str} {p : Pos} {id : String} {r : List V → Hp → VK → Prop} (hc : CallR X (.type id) r) (hm : X.mg x = none) (hv : bootBuiltins x = some (.type id)) (ha : DA X ρ (e :: es) ds) (hr : VN r ds d) (hg : Gl X x := by rfl) (hn : x ≠ "__name__" := by decide) (hdb : (x == ("__debug__" : Str)) = false := by decide)
    (he : starEach (e :: es) X.env = (false, eval e X.env) :: starEach es X.env := by rfl) (hpl : (backTo pos (starEach es X.env)).any (·.1) = false := by rfl) : DE X ρ (.Call (.Name x p) (e :: es) [] pos) d :=
  PE.imp (pe_callTy hc hg hm hv ha hn hdb he hpl) fun σ H Q ⟨F, ok, k⟩ => ⟨F, ok, fun vs F2 H2 g r => hr F2 H2 vs g.s r Q fun v F3 H3 g3 r3 => k v F3 H3 (g.trans g3) r3⟩
end
end Tw

namespace Tw
open PySem PySem.Spec PyProof.Rows L2

/-! ## targets -/
/-- the value of d goes to the target; is: the slots that it sets -/
def tDG (ρ : Env') (d : PyData) (ρ' : Env') (is : List Nat) : TG := fun v σ H Q => ∃ F, Ok F H ρ σ ∧ Rp F v d ∧ ∀ σ', Ok F H ρ' σ' → (∀ vs : List Nat, (∀ i ∈ is, i ∈ vs) → wipe σ' vs = wipe σ vs) → Q σ' H
def tDGs (ρ : Env') (ds : List PyData) (ρ' : Env') (is : List Nat) : TGs := fun vs σ H Q => ∃ F, Ok F H ρ σ ∧ RpA F vs ds ∧ ∀ σ', Ok F H ρ' σ' → (∀ vs : List Nat, (∀ i ∈ is, i ∈ vs) → wipe σ' vs = wipe σ vs) → Q σ' H
/-- no new own things -/
def OwnSub (ρ1 ρ : Env') : Prop := ∀ (i : Nat) (p : Addr) (w : Ow), ρ1[i]? = some (.own p w) → ρ[i]? = some (.own p w)
theorem OwnSub.refl (ρ : Env') : OwnSub ρ ρ := fun _ _ _ h => h
theorem OwnSub.trans {ρ1 ρ2 ρ3 : Env'} (a : OwnSub ρ1 ρ2) (b : OwnSub ρ2 ρ3) : OwnSub ρ1 ρ3 := fun i p w h => b i p w (a i p w h)
theorem OwnSub.set {ρ : Env'} {i : Nat} {d : PyData} : OwnSub (ρ.set i (.dat d)) ρ := fun j p w hj => by
  by_cases h : i = j
  · subst h
    have hl : i < ρ.length := by
      have := (List.getElem?_eq_some_iff.mp hj).1
      simpa using this
    rw [List.getElem?_set_self hl] at hj; cases hj
  · rw [List.getElem?_set_ne h] at hj; exact hj
def DG (X : Cx) (ρ : Env') (tg : Expr) (d : PyData) (ρ' : Env') (is : List Nat) : Prop := PG X tg (tDG ρ d ρ' is) ∧ OwnSub ρ' ρ
def DGs (X : Cx) (ρ : Env') (tgs : List Expr) (ds : List PyData) (ρ' : Env') (is : List Nat) : Prop := PGs X tgs (tDGs ρ ds ρ' is) ∧ OwnSub ρ' ρ
section
variable {X : Cx} {ρ ρ1 ρ2 : Env'} {e : Expr} {es : List Expr} {d : PyData} {ds : List PyData} {pos : Pos} {is js : List Nat}
theorem dg_name (i : Nat) {x : Str} (hN : X.N.Nodup) (hi : X.N[i]? = some x := by rfl) (hx : Loc X.env.scope x := by first | exact Or.inl rfl | exact Or.inr rfl)
    (hf : X.fn x = true ∨ X.env.scope.names.lookup x = some .local := by first | exact .inl rfl | exact .inr rfl) : DG X ρ (.Name x pos) d (ρ.set i (.dat d)) [i] :=
  ⟨PG.imp (pg_name hN hi hx hf) fun v σ H Q ⟨F, ok, r, k⟩ => k _ (ok.setD r) fun vs h => wipe_set_in (h i (List.mem_singleton.mpr rfl)), OwnSub.set⟩
theorem dgs_nil : DGs X ρ [] [] ρ [] := ⟨PGs.imp pgs_nil fun v σ H Q ⟨F, ok, r, k⟩ => ⟨by cases r; rfl, k σ ok fun _ _ => rfl⟩, OwnSub.refl _⟩
theorem dgs_cons (h1 : DG X ρ e d ρ1 is) (h2 : DGs X ρ1 es ds ρ2 js) (hs : (assignEach (e :: es) X.env).map (·.2) = assign e X.env :: (assignEach es X.env).map (·.2) := by rfl) : DGs X ρ (e :: es) (d :: ds) ρ2 (is ++ js) :=
  ⟨PGs.imp (pgs_cons h1.1 h2.1 hs) fun v σ H Q ⟨F, ok, r, k⟩ => by
    cases r with
    | cons r rr =>
      exact ⟨_, _, rfl, F, ok, r, fun σ1 ok1 w1 => ⟨F, ok1, rr, fun σ2 ok2 w2 => k σ2 ok2 fun vs h => (w2 vs fun i hi => h i (List.mem_append_right _ hi)).trans (w1 vs fun i hi => h i (List.mem_append_left _ hi))⟩⟩, h2.2.trans h1.2⟩
theorem dg_tup {k : Nat} (h : DGs X ρ es ds ρ1 is) (hc : X.calm = true := by rfl) (hn : (assignEach es X.env).length = ds.length := by rfl) (hst : (assignEach es X.env).findIdx? (·.1) = none := by rfl) : DG X ρ (.Tuple es k pos) (.tuple ds) ρ1 is :=
  ⟨PG.imp (pg_tup hc h.1 hn hst) fun v σ H Q ⟨F, ok, r, k⟩ => by
    obtain ⟨a, xs, rfl, h1, r1⟩ := r.tup_inv
    exact ⟨a, xs, rfl, SqT.of (ok.s _ _ h1), r1.len, F, ok, r1, k⟩, h.2⟩
end

/-! ## what is walked -/
def JOk (J : It) (F : Hp) (ds : List PyData) : Prop := ∀ (i : Nat) (F1 H : Hp), Same F F1 → Same F1 H →
  (∀ d, ds[i]? = some d → J.go i H ∧ ∀ x H', J.yld i H x H' → ∃ F2, Grow F1 H F2 H' ∧ Rp F2 x d) ∧ (ds[i]? = none → J.stop i H)
def tDI (ρ : Env') (ds : List PyData) : TI := fun σ H R => ∃ F, Ok F H ρ σ ∧ ∀ J F2 H2, Grow F H F2 H2 → JOk J F2 ds → R J H2
abbrev DI (X : Cx) (ρ : Env') (tg iter : Expr) (ds : List PyData) : Prop := PI X tg iter (tDI ρ ds)
theorem JOk.mono {J : It} {F F' : Hp} {ds : List PyData} (h : JOk J F ds) (e : Same F F') : JOk J F' ds := fun i F1 H h1 h2 => h i F1 H (e.trans h1) h2
section
variable {X : Cx} {ρ : Env'} {tg l e e2 : Expr} {ds es : List PyData} {p pos tpos : Pos}
theorem di_list (h : DE X ρ l (.list ds)) : DI X ρ tg l ds :=
  PI.imp (pi_list h) fun σ H R ⟨F, ok, k⟩ => ⟨F, ok, fun v F2 H2 g r => by
    obtain ⟨a, xs, rfl, h1, r1⟩ := r.lst_inv
    refine ⟨a, rfl, ⟨xs, SqL.of (g.s _ _ h1)⟩, k _ F2 H2 g fun i F1 H' e1 e2 => ⟨fun d hd => ?_, fun hn => ?_⟩⟩
    · obtain ⟨x, hx, rx⟩ := r1.get hd
      refine ⟨⟨xs, x, SqL.of (e2 _ _ (e1 _ _ h1)), hx⟩, fun y H'' ⟨q1, q2⟩ => ?_⟩
      subst q1
      have := q2 xs (SqL.of (e2 _ _ (e1 _ _ h1)))
      rw [hx] at this; cases this
      exact ⟨F1, GrowX.refl e2, rx.mono e1⟩
    · exact ⟨xs, SqL.of (e2 _ _ (e1 _ _ h1)), by rw [r1.len]; exact List.getElem?_eq_none_iff.mp hn⟩⟩
theorem di_tup (h : DE X ρ l (.tuple ds)) : DI X ρ tg l ds :=
  PI.imp (pi_tup h) fun σ H R ⟨F, ok, k⟩ => ⟨F, ok, fun v F2 H2 g r => by
    obtain ⟨a, xs, rfl, h1, r1⟩ := r.tup_inv
    refine ⟨a, rfl, ⟨xs, SqT.of (g.s _ _ h1)⟩, k _ F2 H2 g fun i F1 H' e1 e2 => ⟨fun d hd => ?_, fun hn => ?_⟩⟩
    · obtain ⟨x, hx, rx⟩ := r1.get hd
      refine ⟨⟨xs, x, SqT.of (e2 _ _ (e1 _ _ h1)), hx⟩, fun y H'' ⟨q1, q2⟩ => ?_⟩
      subst q1
      have := q2 xs (SqT.of (e2 _ _ (e1 _ _ h1)))
      rw [hx] at this; cases this
      exact ⟨F1, GrowX.refl e2, rx.mono e1⟩
    · exact ⟨xs, SqT.of (e2 _ _ (e1 _ _ h1)), by rw [r1.len]; exact List.getElem?_eq_none_iff.mp hn⟩⟩
/-- lo, lo + 1, .., n of them -/
def rngD (lo : Int) (n : Nat) : List PyData := (List.range n).map fun (i : Nat) => PyData.int (lo + (i : Int))
theorem rngD_get {lo : Int} {n i : Nat} {d : PyData} (h : (rngD lo n)[i]? = some d) : i < n ∧ d = .int (lo + (i : Int)) := by
  unfold rngD at h
  rw [List.getElem?_map] at h
  obtain ⟨j, h1, h2⟩ := Option.map_eq_some_iff.mp h
  obtain ⟨h3, h4⟩ := List.getElem?_eq_some_iff.mp h1
  simp at h3 h4
  subst h4
  exact ⟨h3, h2.symm⟩
theorem jok_rng {lo : Int} {n : Nat} {F : Hp} : JOk (Itr lo n) F (rngD lo n) := fun i F1 H e1 e2 => ⟨fun d hd => by
    obtain ⟨h1, rfl⟩ := rngD_get hd
    exact ⟨h1, fun x H' ⟨q1, q2⟩ => ⟨F1, by subst q1; exact GrowX.refl e2, by subst q2; exact .int _⟩⟩, fun hn => by
    have := List.getElem?_eq_none_iff.mp hn
    show n ≤ i
    simpa [rngD] using this⟩
theorem di_range1 {j : Int} (ha : DA X ρ [e] [.int j]) (hm : X.mg "range" = none) (hb : -(2 ^ 62) ≤ j ∧ j < 2 ^ 62) (hg : Gl X "range" := by rfl) (hs : starEach [e] X.env = [(false, eval e X.env)] := by rfl) : DI X ρ tg (.Call (.Name "range" p) [e] [] pos) (rngD 0 j.toNat) :=
  PI.imp (pi_range1 hg hm ha hs) fun σ H R ⟨F, ok, k⟩ => ⟨F, ok, fun vs F2 H2 g r => by
    cases r with
    | cons r rr =>
      cases rr
      exact ⟨j, by rw [r.int_inv], hb.1, hb.2, k _ F2 H2 g jok_rng⟩⟩
theorem di_range2 {i j : Int} (ha : DA X ρ [e, e2] [.int i, .int j]) (hm : X.mg "range" = none) (hi : -(2 ^ 62) ≤ i ∧ i < 2 ^ 62 ∧ -(2 ^ 62) ≤ j ∧ j < 2 ^ 62) (hg : Gl X "range" := by rfl) (hs : starEach [e, e2] X.env = [(false, eval e X.env), (false, eval e2 X.env)] := by rfl) (hs2 : starEach [e2] X.env = [(false, eval e2 X.env)] := by rfl) :
    DI X ρ tg (.Call (.Name "range" p) [e, e2] [] pos) (rngD i (j - i).toNat) :=
  PI.imp (pi_range2 hg hm ha hs hs2) fun σ H R ⟨F, ok, k⟩ => ⟨F, ok, fun vs F2 H2 g r => by
    cases r with
    | cons r rr =>
      cases rr with
      | cons r2 rr =>
        cases rr
        exact ⟨i, j, by rw [r.int_inv, r2.int_inv], hi, k _ F2 H2 g jok_rng⟩⟩
end

/-! ## list comprehensions -/
theorem wipe_get {σ : L2.St} {j : Nat} : ∀ {vs : List Nat}, (wipe σ vs)[j]? = if j ∈ vs then (if j < σ.length then some none else none) else σ[j]? := by
  intro vs
  induction vs with
  | nil => simp [wipe]
  | cons v vs ih =>
    show ((wipe σ vs).set v none)[j]? = _
    rw [List.getElem?_set]
    by_cases h : v = j
    · subst h
      simp [wipe_length]
    · have h' : ¬ j = v := fun z => h z.symm
      rw [if_neg h, ih]
      simp [h']
theorem wipe_twice (σ : L2.St) (vs : List Nat) : wipe (wipe σ vs) vs = wipe σ vs := by
  refine List.ext_getElem? fun j => ?_
  rw [wipe_get, wipe_get, wipe_length]
  by_cases h : j ∈ vs
  · simp [h]
  · simp [h]
/-- growth of the rest, the thing at D left out -/
theorem grow_minus {F2 H2 F3 H3 F4 H4 : Hp} {D : Addr} {o : HO} (g3 : Grow F2 H2 F3 (fun a => if a = D then none else H3 a)) (g4 : Grow F3 H3 F4 H4) (hD : F3 D = none) (ho : H3 D = some o) (h2 : H2 D = none) (hnt : ∀ xs, o ≠ .tup xs) :
    Grow F2 H2 F4 (fun a => if a = D then none else H4 a) := by
  have hD4 : F4 D = none := g4.n D hD ⟨o, ho, hnt⟩
  refine ⟨g3.f.trans g4.f, fun c u hc => ?_, fun c u hx hc => ?_, fun c hc => ?_, fun c h1 h3 => ?_, fun c h3 => ?_⟩
  · by_cases h : c = D
    · subst h; rw [hD4] at hc; cases hc
    · simp only [h, if_false]; exact g4.s c u hc
  · have := g3.h c u hx hc
    by_cases h : c = D
    · subst h; rw [h2] at hc; cases hc
    · simp only [h, if_false] at this ⊢; exact g4.same c u this
  · have := g3.k c hc
    by_cases h : c = D
    · subst h; exact (hc h2).elim
    · simp only [h, if_false] at this ⊢; exact g4.k c this
  · have e := g3.n c h1 h3
    have := g3.m c h3
    by_cases h : c = D
    · subst h; exact (h3.ne h2).elim
    · exact g4.n c e (by obtain ⟨o, q1, q2⟩ := this; exact ⟨o, by simpa [h] using q1, q2⟩)
  · have := g3.m c h3
    by_cases h : c = D
    · subst h; exact (h3.ne h2).elim
    · obtain ⟨o, q1, q2⟩ := g4.m c (by obtain ⟨o, q1, q2⟩ := this; exact ⟨o, by simpa [h] using q1, q2⟩)
      exact ⟨o, by simpa [h] using q1, q2⟩
section
variable {X : Cx} {ρ : Env'} {α : Type} {xs : List α} {enc : α → PyData} {elt tg iter : Expr} {ifs : List Expr} {scope : Scope} {pos : Pos} {own : List (Str × Nat)}
theorem pts_none {X : Cx} {ρ : Env'} : DTs X ρ [] true := ⟨fun pins s σ H Q I ⟨F, ok, k⟩ => pts_nil.run pins s σ H Q I (k F H (GrowX.refl ok.s))⟩
theorem pts_1 {X : Cx} {ρ : Env'} {c : Expr} {b : Bool} (h : DT X ρ c b) : DTs X ρ [c] b := pts_one h
/-- a context of the block -/
abbrev Blk (X : Cx) (scope : Scope) (P : Cx → Prop) : Prop := ∀ (s : Shared) (H : Hp) (C : Addr) (cl : List (Str × Addr)) (fp : List Addr), P (X.blk s H scope (compEnvC scope cl C X.env) fp)
theorem lc_read (g : α → Env') (b : α → Bool) (f : α → PyData) (is : List Nat) (vsl : List Nat) (his : ∀ i ∈ is, i ∈ vsl) (hl : xs.length ≤ sizeLine) :
    ∀ σ H Q, tD ρ (.list ((xs.filter b).map f)) σ H Q → tLc (tDI ρ (xs.map enc)) (fun v σ H Q => ∃ x, x ∈ xs ∧ tDG (wipeE ρ vsl) (enc x) (g x) is v σ H Q) (fun σ H Q => ∃ x, x ∈ xs ∧ tDT (g x) (b x) σ H Q) (fun σ H Q => ∃ x, (x ∈ xs ∧ b x = true) ∧ tD (g x) (f x) σ H Q) vsl σ H Q := by
  refine fun σ H Q ⟨F, ok1, k⟩ => ⟨F, ok1, fun J F2 H2 g2 hJ => ?_⟩
  intro D hD
  -- behind i turns: what stands still, the new list
  refine ⟨fun i m H3 => m = xs.length - i ∧ i ≤ xs.length ∧ ∃ F3, Grow F2 H2 F3 (fun a => if a = D then none else H3 a) ∧ Same F3 H3 ∧ F3 D = none ∧ ∃ vs, H3 D = some (.lst vs) ∧ RpA F3 vs (((xs.take i).filter b).map f),
    ⟨xs.length, by simp, Nat.zero_le _, F2, ?_, ?_, ?_, [], upd_same, by simp; exact .nil⟩, ?_⟩
  · have e : (fun a => if a = D then none else upd H2 D (.lst []) a) = H2 := by
      funext a
      by_cases ha : a = D
      · subst ha; rw [if_pos rfl, hD]
      · rw [if_neg ha, upd_ne ha]
    rw [e]; exact GrowX.refl g2.s
  · exact g2.s.trans (Same.upd_new hD)
  · exact same_none g2.s hD
  rintro i m H3 ⟨rfl, hle, F3, g3, s3, hD3, vs, hvs, rvs⟩
  have gr : ∀ {F4 H4 : Hp}, Grow F3 H3 F4 H4 → F4 D = none ∧ H4 D = some (.lst vs) := fun {F4 H4} g4 => ⟨g4.n D hD3 (NN.lst hvs), g4.same D _ hvs⟩
  by_cases hlt : i < xs.length
  · right
    have hd : (xs.map enc)[i]? = some (enc xs[i]) := by rw [List.getElem?_map, List.getElem?_eq_getElem hlt]; rfl
    have hx : xs[i] ∈ xs := List.getElem_mem hlt
    obtain ⟨h1, -⟩ := hJ i F3 H3 g3.f s3
    obtain ⟨go, yl⟩ := h1 _ hd
    refine ⟨go, fun H' => ∃ m', m' < xs.length - i ∧ (m' = xs.length - (i + 1) ∧ i + 1 ≤ xs.length ∧ ∃ F4, Grow F2 H2 F4 (fun a => if a = D then none else H' a) ∧ Same F4 H' ∧ F4 D = none ∧ ∃ vs, H' D = some (.lst vs) ∧ RpA F4 vs (((xs.take (i + 1)).filter b).map f)), fun H' h => h, fun x H4 hy => ?_⟩
    obtain ⟨F4, g4, rx⟩ := yl x H4 hy
    -- the slots: told at F2, H2 they are told at every later heap without D
    have okAll : ∀ {F5 H5 : Hp}, Grow F3 H3 F5 H5 → Ok F5 H5 ρ σ := fun {F5 H5} g5 => by
      have o3 : Ok F3 H3 ρ σ := by
        have o2 := (ok1.grow g2).grow g3
        refine ⟨s3, o2.len, fun j e hj => ?_, o2.ne⟩
        obtain ⟨o, ho, h2⟩ := o2.at_ j e hj
        refine ⟨o, ho, ?_⟩
        cases e with
        | no => trivial
        | dat d => exact h2
        | val v => exact h2
        | fx q u => exact h2
        | st q w => exact h2
        | own p w =>
          obtain ⟨e1, e2, hho, e3, e4⟩ := h2
          refine ⟨e1, e2, hho, ?_, e4⟩
          have e3' : (if p = D then none else H3 p) = some hho := e3
          by_cases hp : p = D
          · rw [if_pos hp] at e3'; cases e3'
          · rw [if_neg hp] at e3'; exact e3'
      exact o3.grow g5
    have ok4 : Ok F4 H4 ρ σ := okAll g4
    refine ⟨xs[i], hx, F4, ok4.wipe _, rx, fun σ2 okx hw => ⟨?_, ?_⟩⟩
    · rw [hw _ his]
      exact wipe_twice σ _
    refine ⟨xs[i], hx, F4, okx, fun F5 H5 g5 => ?_⟩
    have tk : xs.take (i + 1) = xs.take i ++ [xs[i]] := by rw [List.take_append_getElem hlt]
    cases hb : b xs[i] with
    | false =>
      refine iteF ⟨_, by omega, rfl, hlt, F5, ?_, (g4.trans g5).s, (gr (g4.trans g5)).1, vs, (gr (g4.trans g5)).2, ?_⟩
      · exact grow_minus g3 (g4.trans g5) hD3 hvs hD (fun _ z => by cases z)
      · rw [tk, List.filter_append, List.map_append]
        simp [hb]
        simpa using rvs.mono (g4.trans g5).f
    | true =>
      refine iteT ⟨xs[i], ⟨hx, hb⟩, F5, okx.grow g5, fun y F6 H6 g6 ry => ?_⟩
      have g46 := g4.trans (g5.trans g6)
      refine ⟨vs, (gr g46).2, ?_, ?_⟩
      · rw [rvs.len]
        have h1 : (((xs.take i).filter b).map f).length ≤ i := by
          rw [List.length_map]
          refine Nat.le_trans (List.length_filter_le _ _) ?_
          rw [List.length_take]; omega
        omega
      · refine ⟨_, by omega, rfl, hlt, F6, ?_, ?_, (gr g46).1, vs ++ [y], upd_same, ?_⟩
        · have e : (fun a => if a = D then none else upd H6 D (.lst (vs ++ [y])) a) = fun a => if a = D then none else H6 a := by
            funext a
            by_cases ha : a = D
            · rw [if_pos ha, if_pos ha]
            · rw [if_neg ha, if_neg ha, upd_ne ha]
          rw [e]
          exact grow_minus g3 g46 hD3 hvs hD (fun _ z => by cases z)
        · intro c u hc
          have hcD : c ≠ D := fun z => by subst z; rw [(gr g46).1] at hc; cases hc
          rw [upd_ne hcD]
          exact g46.s c u hc
        · rw [tk, List.filter_append, List.map_append]
          refine (rvs.mono g46.f).append ?_
          simp [hb]
          exact .cons ry .nil
  · left
    have hi' : i = xs.length := by omega
    subst hi'
    obtain ⟨-, h2⟩ := hJ xs.length F3 H3 g3.f s3
    refine ⟨h2 (by simp), ?_⟩
    rw [List.take_length] at rvs
    have hF : Same F3 (upd F3 D (.lst vs)) := Same.upd_new hD3
    refine k (.ref D) (upd F3 D (.lst vs)) H3 (g2.trans ⟨g3.f.trans hF, fun c u hc => ?_, fun c u _ hc => ?_, fun c hc => ?_, fun c h1 h2 => ?_, fun c h2 => ?_⟩) (.lst upd_same (rvs.mono hF))
    · by_cases h : c = D
      · subst h; rw [upd_same] at hc; rw [hvs]; exact hc
      · rw [upd_ne h] at hc; exact s3 c u hc
    · have := g3.same c u hc
      by_cases h : c = D
      · subst h; rw [hD] at hc; cases hc
      · simpa [h] using this
    · by_cases h : c = D
      · subst h; rw [hvs]; simp
      · have := g3.k c hc
        simpa [h] using this
    · by_cases h : c = D
      · subst h; exact (h2.ne hD).elim
      · rw [upd_ne h]; exact g3.n c h1 h2
    · by_cases h : c = D
      · subst h; exact NN.lst hvs
      · obtain ⟨o, q1, q2⟩ := g3.m c h2
        exact ⟨o, by simpa [h] using q1, q2⟩
theorem de_lc (g : α → Env') (b : α → Bool) (f : α → PyData) (is : List Nat) (hc : X.calm = true) (hN : X.N.Nodup) (ok : BlkOk X.N X.env.scope scope own) (hi : DI X ρ tg iter (xs.map enc))
    (hg : ∀ x ∈ xs, Blk X scope fun Y => DG Y (wipeE ρ (own.map (·.2))) tg (enc x) (g x) is)
    (ht : ∀ x ∈ xs, Blk X scope fun Y => DTs Y (g x) ifs (b x))
    (he : ∀ x ∈ xs, b x = true → Blk X scope fun Y => DE Y (g x) elt (f x))
    (his : ∀ i ∈ is, i ∈ own.map (·.2)) (hl : xs.length ≤ sizeLine) (hs : ∀ x, foldedSetIterable iter X.env x = pure x := by intro _; rfl) :
    DE X ρ (.ListComp elt [⟨tg, iter, ifs, 0⟩] scope pos) (.list ((xs.filter b).map f)) :=
  PE.imp (pe_lc hc hN hi ok (fun s H C cl fp => PG.any fun x hx => (hg x hx s H C cl fp).1) (fun s H C cl fp => PTs.any fun x hx => ht x hx s H C cl fp) (fun s H C cl fp => PE.any fun x hx => he x hx.1 hx.2 s H C cl fp) hs) (lc_read g b f is (own.map (·.2)) his hl)
/-- the same, set to a name on one line -/
theorem ps_lcD (i : Nat) {y : Str} {py spos : Pos} (g : α → Env') (b : α → Bool) (f : α → PyData) (is : List Nat) (hc : X.calm = true) (hN : X.N.Nodup) (ok : BlkOk X.N X.env.scope scope own) (hi : DI X ρ tg iter (xs.map enc))
    (hg : ∀ x ∈ xs, Blk X scope fun Y => DG Y (wipeE ρ (own.map (·.2))) tg (enc x) (g x) is)
    (ht : ∀ x ∈ xs, Blk X scope fun Y => DTs Y (g x) ifs (b x))
    (he : ∀ x ∈ xs, b x = true → Blk X scope fun Y => DE Y (g x) elt (f x))
    (his : ∀ i ∈ is, i ∈ own.map (·.2)) (hl : xs.length ≤ sizeLine) (hy : X.N[i]? = some y) (hk : X.env.scope.kind = .function) (hyl : X.env.scope.names.lookup y = some .local) (hln : (py.line == pos.line) = true)
    (ha : (scope.names.any fun (n, k) => n == y && (k == .local || k == .cell)) = false) (hs : ∀ x, foldedSetIterable iter X.env x = pure x := by intro _; rfl) :
    PS X (.Assign [.Name y py] (.ListComp elt [⟨tg, iter, ifs, 0⟩] scope pos) spos) (tAsg (tD ρ (.list ((xs.filter b).map f))) (gName i)) :=
  PS.imp (ps_setLc hc hN hy hyl (sw_true hk hyl hln ha) hi ok (te := fun σ H Q => ∃ x, (x ∈ xs ∧ b x = true) ∧ tD (g x) (f x) σ H Q) (fun s H C cl fp => PG.any fun x hx => (hg x hx s H C cl fp).1) (fun s H C cl fp => PTs.any fun x hx => ht x hx s H C cl fp) (fun s H C cl fp => PE.any fun x hx => he x hx.1 hx.2 s H C cl fp) hs) fun D σ H h => show tLc _ _ _ _ _ σ H _ from lc_read g b f is (own.map (·.2)) his hl σ H _ h
end
end Tw

namespace Tw
open PySem PySem.Spec PyProof.Rows L2

/-! ## statements -/
/-- the state at a statement: F0, H0 at the entry; ex: what may have changed of what stood there -/
structure At (ex : List Addr) (F0 H0 : Hp) (ρ : Env') (σ : L2.St) (F H : Hp) : Prop where
  g : GrowX ex F0 H0 F H
  ok : Ok F H ρ σ
  new : ∀ (i : Nat) (p : Addr) (w : Ow), ρ[i]? = some (.own p w) → H0 p = none ∨ p ∈ ex
/-- N what may be known behind, R what may be handed back, B, C at a break and a continue -/
structure Aims where
  N : Env' → Prop
  R : PyData → Env' → Prop
  RR : V → Hp → Prop := fun _ _ => False
  B : Env' → Prop := fun _ => False
  C : Env' → Prop := fun _ => False
def tS (ex : List Addr) (F0 H0 : Hp) (ρ : Env') (A : Aims) : TS := fun D σ H => ∃ F, At ex F0 H0 ρ σ F H ∧
  (∀ ρ' σ' F' H', A.N ρ' → Same F F' → At ex F0 H0 ρ' σ' F' H' → D.nx σ' H') ∧ ((∀ d v ρ' σ' F' H', A.R d ρ' → At ex F0 H0 ρ' σ' F' H' → Rp F' v d → D.rt v H') ∧ ∀ v H', A.RR v H' → D.rt v H') ∧
  (∀ ρ' σ' F' H', A.B ρ' → Same F F' → At ex F0 H0 ρ' σ' F' H' → D.bk σ' H') ∧ (∀ ρ' σ' F' H', A.C ρ' → Same F F' → At ex F0 H0 ρ' σ' F' H' → D.ct σ' H')
abbrev DS (X : Cx) (ex : List Addr) (F0 H0 : Hp) (ρ : Env') (st : Stmt) (A : Aims) : Prop := PS X st (tS ex F0 H0 ρ A)
abbrev DSs (X : Cx) (ex : List Addr) (F0 H0 : Hp) (ρ : Env') (sts : List Stmt) (A : Aims) : Prop := PSs X sts (tS ex F0 H0 ρ A)
section
variable {X : Cx} {ex : List Addr} {F0 H0 : Hp} {ρ ρ1 : Env'} {st : Stmt} {sts : List Stmt} {A A' : Aims} {e c : Expr} {d : PyData} {pos : Pos} {σ : L2.St} {F H F2 H2 : Hp}
theorem At.grow (a : At ex F0 H0 ρ σ F H) (g : Grow F H F2 H2) : At ex F0 H0 ρ σ F2 H2 := ⟨a.g.trans g.up, a.ok.grow g, a.new⟩
theorem At.setD {i : Nat} {v : V} (a : At ex F0 H0 ρ σ F H) (r : Rp F v d) : At ex F0 H0 (ρ.set i (.dat d)) (σ.set i (some v)) F H := ⟨a.g, a.ok.setD r, fun j p w hj => by
  by_cases h : i = j
  · subst h
    have hl : i < ρ.length := by
      have := (List.getElem?_eq_some_iff.mp hj).1
      simpa using this
    rw [List.getElem?_set_self hl] at hj; cases hj
  · rw [List.getElem?_set_ne h] at hj; exact a.new j p w hj⟩
/-- the same ends by another list of names for what is known -/
theorem dss_imp (h : DSs X ex F0 H0 ρ sts A) (hN : ∀ ρ', A.N ρ' → A'.N ρ') (hR : ∀ d ρ', A.R d ρ' → A'.R d ρ') (hB : ∀ ρ', A.B ρ' → A'.B ρ') (hC : ∀ ρ', A.C ρ' → A'.C ρ') (hRR : ∀ v H', A.RR v H' → A'.RR v H' := by exact fun _ _ h => h) : DSs X ex F0 H0 ρ sts A' :=
  PSs.imp h fun D σ H ⟨F, a, n, r, b, c⟩ => ⟨F, a, fun ρ' σ' F' H' h1 => n ρ' σ' F' H' (hN _ h1), ⟨fun d v ρ' σ' F' H' h1 => r.1 d v ρ' σ' F' H' (hR _ _ h1), fun v H' h => r.2 v H' (hRR v H' h)⟩, fun ρ' σ' F' H' h1 => b ρ' σ' F' H' (hB _ h1), fun ρ' σ' F' H' h1 => c ρ' σ' F' H' (hC _ h1)⟩
theorem dss_seq {N1 : Env' → Prop} (h1 : DS X ex F0 H0 ρ st { A with N := N1 }) (h2 : ∀ ρ', N1 ρ' → DSs X ex F0 H0 ρ' sts A) : DSs X ex F0 H0 ρ (st :: sts) A :=
  PSs.imp (pss_cons h1 (PSs.any (c := N1) (t := fun ρ' => tS ex F0 H0 ρ' A) h2)) fun D σ H ⟨F, a, n, r, b, c⟩ =>
    ⟨F, a, fun ρ' σ' F' H' h s1 a' => ⟨ρ', h, F', a', fun ρ2 σ2 F2 H2 h2 s2 => n ρ2 σ2 F2 H2 h2 (s1.trans s2), r, fun ρ2 σ2 F2 H2 h2 s2 => b ρ2 σ2 F2 H2 h2 (s1.trans s2), fun ρ2 σ2 F2 H2 h2 s2 => c ρ2 σ2 F2 H2 h2 (s1.trans s2)⟩, r, b, c⟩
theorem dss_one (h1 : DS X ex F0 H0 ρ st A) : DSs X ex F0 H0 ρ [st] A := pss_one h1
theorem dss_nil (h : A.N ρ) : DSs X ex F0 H0 ρ [] A := PSs.imp pss_nil fun D σ H ⟨F, a, n, r, b, c⟩ => n ρ σ F H h (Same.refl _) a
/-- x = e -/
theorem ds_set (i : Nat) {x : Str} {pos' : Pos} (hN : X.N.Nodup) (he : DE X ρ e d) (h : A.N (ρ.set i (.dat d))) (hi : X.N[i]? = some x := by rfl) (hx : Loc X.env.scope x := by first | exact Or.inl rfl | exact Or.inr rfl) (hs : swapsWith e (some (.Name x pos')) pos.line X.env = pure false := by rfl)
    (hf : X.fn x = true ∨ X.env.scope.names.lookup x = some .local := by first | exact .inl rfl | exact .inr rfl) (hw : swappedStores [.Name x pos'] e X.env = pure none := by rfl) : DS X ex F0 H0 ρ (.Assign [.Name x pos'] e pos) A :=
  PS.imp (ps_set (i := i) hN hi hx he hs hf) fun D σ H ⟨F, a, n, r, b, c⟩ => ⟨F, a.ok, fun v F2 H2 g rv => n _ _ F2 H2 h g.f ((a.grow g).setD rv)⟩
/-- a target of any form = e -/
theorem ds_asg {tg : Expr} {is : List Nat} (he : DE X ρ e d) (hg : DG X ρ tg d ρ1 is) (h : A.N ρ1) (hs : swapsWithSole [tg] e pos.line X.env = pure false := by rfl) (hw : swappedStores [tg] e X.env = pure none := by rfl)
    (hh1 : (assignEach [tg] X.env).map (·.2) = [assign tg X.env] := by rfl) : DS X ex F0 H0 ρ (.Assign [tg] e pos) A :=
  PS.imp (ps_asg he hg.1 hs hw hh1) fun D σ H ⟨F, a, n, r, b, c⟩ => ⟨F, a.ok, fun v F2 H2 g rv => ⟨F2, a.ok.grow g, rv, fun σ' ok' _ => n _ _ F2 H2 h g.f ⟨a.g.trans g.up, ok', fun i p w q => a.new i p w (hg.2 i p w q)⟩⟩⟩
theorem ds_drop (he : DE X ρ e d) (h : A.N ρ) (hs : swapsWith e none pos.line X.env = pure false := by rfl) : DS X ex F0 H0 ρ (.Expr e pos) A :=
  PS.imp (ps_expr he hs) fun D σ H ⟨F, a, n, r, b, c⟩ => ⟨F, a.ok, fun v F2 H2 g rv => n _ _ F2 H2 h g.f (a.grow g)⟩
theorem ds_ret (he : DE X ρ e d) (h : A.R d ρ) : DS X ex F0 H0 ρ (.Return (some e) pos) A :=
  PS.imp (ps_ret he) fun D σ H ⟨F, a, n, r, b, c⟩ => ⟨F, a.ok, fun v F2 H2 g rv => r.1 d v ρ σ F2 H2 h (a.grow g) rv⟩
theorem ds_retN (h : A.R .none ρ) : DS X ex F0 H0 ρ (.Return none pos) A :=
  PS.imp ps_retN fun D σ H ⟨F, a, n, r, b, c⟩ => r.1 .none _ ρ σ F H h a .non
theorem ds_pass (h : A.N ρ) : DS X ex F0 H0 ρ (.Pass pos) A := PS.imp ps_pass fun D σ H ⟨F, a, n, r, b, c⟩ => n ρ σ F H h (Same.refl _) a
theorem ds_if {x : Bool} {s1 s2 : List Stmt} (hc : DT X ρ c x) (h1 : x = true → DSs X ex F0 H0 ρ s1 A) (h2 : x = false → DSs X ex F0 H0 ρ s2 A) : DS X ex F0 H0 ρ (.If c s1 s2 pos) A :=
  PS.imp (ps_if hc (PSs.any (ι := Unit) (c := fun _ => x = true) (t := fun _ => tS ex F0 H0 ρ A) fun _ q => h1 q) (PSs.any (ι := Unit) (c := fun _ => x = false) (t := fun _ => tS ex F0 H0 ρ A) fun _ q => h2 q)) fun D σ H ⟨F, a, n, r, b, c⟩ => ⟨F, a.ok, fun F2 H2 g => by
    cases x with
    | true => exact iteT ⟨(), rfl, F2, a.grow g, fun ρ2 σ2 F3 H3 h2 s2 => n ρ2 σ2 F3 H3 h2 (g.f.trans s2), r, fun ρ2 σ2 F3 H3 h2 s2 => b ρ2 σ2 F3 H3 h2 (g.f.trans s2), fun ρ2 σ2 F3 H3 h2 s2 => c ρ2 σ2 F3 H3 h2 (g.f.trans s2)⟩
    | false => exact iteF ⟨(), rfl, F2, a.grow g, fun ρ2 σ2 F3 H3 h2 s2 => n ρ2 σ2 F3 H3 h2 (g.f.trans s2), r, fun ρ2 σ2 F3 H3 h2 s2 => b ρ2 σ2 F3 H3 h2 (g.f.trans s2), fun ρ2 σ2 F3 H3 h2 s2 => c ρ2 σ2 F3 H3 h2 (g.f.trans s2)⟩⟩
/-- an own list is made: x = [] -/
theorem ds_newl (i : Nat) {x : Str} {pos' lp : Pos} (hN : X.N.Nodup) (h : ∀ p, A.N (ρ.set i (.own p (.lst [])))) (hi : X.N[i]? = some x := by rfl) (hx : Loc X.env.scope x := by first | exact Or.inl rfl | exact Or.inr rfl) (hs : swapsWith (.List [] lp) (some (.Name x pos')) pos.line X.env = pure false := by rfl)
    (hf : X.fn x = true ∨ X.env.scope.names.lookup x = some .local := by first | exact .inl rfl | exact .inr rfl) : DS X ex F0 H0 ρ (.Assign [.Name x pos'] (.List [] lp) pos) A :=
  PS.imp (ps_set (i := i) hN hi hx (pe_lst pa_nil) hs hf) fun D σ H ⟨F, a, n, r, b, c⟩ => ⟨Nat.zero_le _, fun p hp => by
    have hF := same_none a.ok.s hp
    have g : Grow F H F (upd H p (.lst [])) := Grow.skip a.ok.s hp
    refine n _ _ F _ (h p) (Same.refl _) ⟨a.g.trans g.up, (a.ok.grow g).set ⟨rfl, hF, _, upd_same, [], rfl, .nil⟩ fun q w e j q' w' hj _ => ?_, fun j q w hj => ?_⟩
    · cases e
      intro z; subst z
      obtain ⟨_, _, ho, h1, _⟩ := a.ok.own hj
      rw [hp] at h1; cases h1
    · by_cases hij : i = j
      · subst hij
        have hl : i < ρ.length := by
          have := (List.getElem?_eq_some_iff.mp hj).1
          simpa using this
        rw [List.getElem?_set_self hl] at hj; cases hj
        exact .inl (by
          cases q' : H0 p with
          | none => rfl
          | some u => exact absurd hp (a.g.k p (by rw [q']; simp)))
      · rw [List.getElem?_set_ne hij] at hj; exact a.new j q w hj⟩
theorem Ok.lstIs {i : Nat} {p : Addr} {ds : List PyData} (h : Ok F H ρ σ) (e : ρ[i]? = some (.own p (.lst ds))) : ∃ xs, σ[i]? = some (some (.ref p)) ∧ F p = none ∧ H p = some (.lst xs) ∧ RpA F xs ds := by
  obtain ⟨h1, h2, ho, h3, xs, rfl, r⟩ := h.own e
  exact ⟨xs, h1, h2, h3, r⟩
/-- the thing at p in slot i is written -/
theorem At.write {i : Nat} {p : Addr} {w w' : Ow} {o : HO} (a : At ex F0 H0 ρ σ F H) (hi : ρ[i]? = some (.own p w)) (ho : w'.φ F o) : At ex F0 H0 (ρ.set i (.own p w')) σ F (upd H p o) := by
  obtain ⟨h1, h2, ho1, h3, _⟩ := a.ok.own hi
  have hl : i < ρ.length := (List.getElem?_eq_some_iff.mp hi).1
  have sF : Same F (upd H p o) := fun b u q => by
    have hb : b ≠ p := fun z => by subst z; rw [h2] at q; cases q
    rw [upd_ne hb]; exact a.ok.s b u q
  refine ⟨⟨a.g.f, sF, fun b u hx q => ?_, fun b q => ?_, a.g.n, fun b q => (a.g.m b q).upd (w'.nt ho)⟩, ⟨sF, by simp [a.ok.len], fun j e hj => ?_, fun j k q q' v v' hj hk hjk => ?_⟩, fun j q v hj => ?_⟩
  · have hb : b ≠ p := fun z => by
      subst z
      rcases a.new i b w hi with h | h
      · rw [h] at q; cases q
      · exact hx h
    rw [upd_ne hb]; exact a.g.h b u hx q
  · by_cases hb : b = p
    · subst hb; rw [upd_same]; simp
    · rw [upd_ne hb]; exact a.g.k b q
  · by_cases hij : i = j
    · subst hij
      rw [List.getElem?_set_self hl] at hj; cases hj
      exact ⟨_, h1, rfl, h2, o, upd_same, ho⟩
    · rw [List.getElem?_set_ne hij] at hj
      obtain ⟨oo, e1, e2⟩ := a.ok.at_ j e hj
      refine ⟨oo, e1, ?_⟩
      cases e with
      | no => trivial
      | dat d => exact e2
      | val v => exact e2
      | fx q u => exact e2
      | st q w => exact e2
      | own q v =>
        obtain ⟨x1, x2, hh, x3, x4⟩ := e2
        exact ⟨x1, x2, hh, by rw [upd_ne (a.ok.ne j i q p v w hj hi (Ne.symm hij))]; exact x3, x4⟩
  · have f : ∀ {j : Nat} {q : Addr} {v : Ow}, (ρ.set i (.own p w'))[j]? = some (.own q v) → ∃ v0, ρ[j]? = some (.own q v0) := fun {j q v} hj => by
      by_cases hij : i = j
      · subst hij
        rw [List.getElem?_set_self hl] at hj; cases hj
        exact ⟨w, hi⟩
      · rw [List.getElem?_set_ne hij] at hj; exact ⟨v, hj⟩
    obtain ⟨_, y1⟩ := f hj
    obtain ⟨_, y2⟩ := f hk
    exact a.ok.ne j k q q' _ _ y1 y2 hjk
  · by_cases hij : i = j
    · subst hij
      rw [List.getElem?_set_self hl] at hj; cases hj
      exact a.new i p w hi
    · rw [List.getElem?_set_ne hij] at hj; exact a.new j q v hj
/-- xs.append(e), xs an own list in slot i -/
theorem ds_app (i : Nat) {p : Addr} {ds : List PyData} {x : Str} {px apos cpos : Pos} (he : DA X ρ [e] [d]) (h : A.N (ρ.set i (.own p (.lst (ds ++ [d]))))) (hl : ds.length < sizeLine) (hi : ρ[i]? = some (.own p (.lst ds)) := by rfl)
    (hxN : X.N[i]? = some x := by rfl) (hv : Vis X.env.scope x := by first | exact Or.inl rfl | exact Or.inr (Or.inl rfl) | exact Or.inr (Or.inr rfl)) (hd : (x == ("__debug__" : Str)) = false := by decide) (hcd : (x == ("__classdict__" : Str)) = false := by decide)
    (hbase : attributeBase (.Name x px) "append" X.env (eval (.Name x px) X.env) = eval (.Name x px) X.env := by rfl)
    (hfew : ((backTo cpos (starEach [e] X.env)).all (fun x => !x.1) && (backToKw cpos (keywordEach [] X.env)).all (fun x => x.1.isSome) && decide (([e] : List Expr).length + ([] : List Keyword).length + (if ([] : List Keyword).isEmpty then 0 else 1) < 30)) = true := by rfl)
    (hline : (apos.endLine == cpos.line) = true := by rfl) (hst : starEach [e] X.env = (false, eval e X.env) :: starEach [] X.env := by rfl) (hpl : (backTo cpos (starEach [] X.env)).any (·.1) = false := by rfl)
    (hs : swapsWith (.Call (.Attribute (.Name x px) "append" apos) [e] [] cpos) none pos.line X.env = pure false := by rfl) :
    DS X ex F0 H0 ρ (.Expr (.Call (.Attribute (.Name x px) "append" apos) [e] [] cpos) pos) A :=
  PS.imp (ps_expr (pe_bm PySem.F.plainAttrs_list PySem.F.slot_list_append PySem.F.type_list_append mt_append (pe_var hxN hv hd hcd) he hbase hfew hline hst hpl) hs) fun D σ H ⟨F, a, n, r, b, c⟩ => by
    obtain ⟨xs, h1, h2, h3, h4⟩ := a.ok.lstIs hi
    refine ⟨_, h1, .inl ⟨rfl, xs, SqL.of h3⟩, F, a.ok, fun vs F2 H2 g rv => ?_⟩
    cases rv with
    | cons rv rr =>
      cases rr
      have h5 := g.same p _ h3
      exact ⟨p, xs, _, rfl, rfl, h5, by rw [h4.len]; exact hl, n _ _ F2 _ h g.f ((a.grow g).write hi ⟨_, rfl, (h4.mono g.f).append (.cons rv .nil)⟩)⟩
/-- an own list stands still from here on -/
theorem Ok.freeze {i : Nat} {p : Addr} {ds : List PyData} (h : Ok F H ρ σ) (hi : ρ[i]? = some (.own p (.lst ds))) : ∃ xs, H p = some (.lst xs) ∧ F p = none ∧ RpA F xs ds ∧ Ok (upd F p (.lst xs)) H (ρ.set i (.dat (.list ds))) σ := by
  obtain ⟨xs, h1, h2, h3, h4⟩ := h.lstIs hi
  have hl : i < ρ.length := (List.getElem?_eq_some_iff.mp hi).1
  have sF : Same F (upd F p (.lst xs)) := Same.upd_new h2
  have sH : Same (upd F p (.lst xs)) H := fun b u q => by
    by_cases hb : b = p
    · subst hb; rw [upd_same] at q; cases q; exact h3
    · rw [upd_ne hb] at q; exact h.s b u q
  refine ⟨xs, h3, h2, h4, sH, by simp [h.len], fun j e hj => ?_, fun j k q q' v v' hj hk hjk => ?_⟩
  · by_cases hij : i = j
    · subst hij
      rw [List.getElem?_set_self hl] at hj; cases hj
      exact ⟨_, h1, _, rfl, .lst upd_same (h4.mono sF)⟩
    · rw [List.getElem?_set_ne hij] at hj
      obtain ⟨oo, e1, e2⟩ := h.at_ j e hj
      refine ⟨oo, e1, ?_⟩
      cases e with
      | no => trivial
      | dat d => obtain ⟨v, x1, x2⟩ := e2; exact ⟨v, x1, x2.mono sF⟩
      | val v => exact e2
      | fx q u => exact ⟨e2.1, sF _ _ e2.2⟩
      | st q w => exact ⟨e2.1, let ⟨u, hu, hw⟩ := e2.2; ⟨u, sF _ _ hu, w.mono sF hw⟩⟩
      | own q v =>
        obtain ⟨x1, x2, hh, x3, x4⟩ := e2
        exact ⟨x1, by rw [upd_ne (h.ne j i q p v _ hj hi (Ne.symm hij))]; exact x2, hh, x3, v.mono sF x4⟩
  · have f : ∀ {j : Nat} {q : Addr} {v : Ow}, (ρ.set i (.dat (.list ds)))[j]? = some (.own q v) → ρ[j]? = some (.own q v) := fun {j q v} hj => by
      by_cases hij : i = j
      · subst hij
        rw [List.getElem?_set_self hl] at hj; cases hj
      · rw [List.getElem?_set_ne hij] at hj; exact hj
    exact h.ne j k q q' _ _ (f hj) (f hk) hjk
theorem At.freeze {i : Nat} {p : Addr} {ds : List PyData} (a : At ex F0 H0 ρ σ F H) (hi : ρ[i]? = some (.own p (.lst ds))) (hex : ex = []) : ∃ F', Same F F' ∧ At ex F0 H0 (ρ.set i (.dat (.list ds))) σ F' H := by
  obtain ⟨xs, h3, h2, _, ok⟩ := a.ok.freeze hi
  have hl : i < ρ.length := (List.getElem?_eq_some_iff.mp hi).1
  have hp0 : H0 p = none := by
    rcases a.new i p _ hi with h | h
    · exact h
    · subst hex; cases h
  refine ⟨upd F p (.lst xs), Same.upd_new h2, ⟨a.g.f.trans (Same.upd_new h2), ok.s, a.g.h, a.g.k, fun b q1 q2 => ?_, a.g.m⟩, ok, fun j q v hj => ?_⟩
  · have hb : b ≠ p := fun z => by subst z; exact q2.ne hp0
    rw [upd_ne hb]; exact a.g.n b q1 q2
  · by_cases hij : i = j
    · subst hij
      rw [List.getElem?_set_self hl] at hj; cases hj
    · rw [List.getElem?_set_ne hij] at hj; exact a.new j q v hj
theorem dss_freeze (i : Nat) {p : Addr} {ds : List PyData} (h : DSs X [] F0 H0 (ρ.set i (.dat (.list ds))) sts A) (hi : ρ[i]? = some (.own p (.lst ds)) := by rfl) : DSs X [] F0 H0 ρ sts A :=
  PSs.imp h fun D σ H ⟨F, a, n, r, b, c⟩ => let ⟨F', s1, a'⟩ := a.freeze hi rfl; ⟨F', a', fun ρ2 σ2 F3 H3 h2 s2 => n ρ2 σ2 F3 H3 h2 (s1.trans s2), r, fun ρ2 σ2 F3 H3 h2 s2 => b ρ2 σ2 F3 H3 h2 (s1.trans s2), fun ρ2 σ2 F3 H3 h2 s2 => c ρ2 σ2 F3 H3 h2 (s1.trans s2)⟩
/-- a part of what is known is enough -/
theorem dss_forget (i : Nat) (h : DSs X ex F0 H0 (ρ.set i .no) sts A) : DSs X ex F0 H0 ρ sts A :=
  PSs.imp h fun D σ H ⟨F, a, q⟩ => ⟨F, ⟨a.g, a.ok.forget, fun j p w hj => by
    by_cases hij : i = j
    · subst hij
      have hl : i < ρ.length := by
        have := (List.getElem?_eq_some_iff.mp hj).1
        simpa using this
      rw [List.getElem?_set_self hl] at hj; cases hj
    · rw [List.getElem?_set_ne hij] at hj; exact a.new j p w hj⟩, q⟩
/-- an own list is read, for something flat -/
theorem de_peek (i : Nat) {p : Addr} {ds : List PyData} (hi : ρ[i]? = some (.own p (.lst ds))) (h : DE X (ρ.set i (.dat (.list ds))) e d) (hf : flatD d = true := by rfl) : DE X ρ e d :=
  PE.imp h fun σ H Q ⟨F, ok, k⟩ => by
    obtain ⟨xs, h3, h2, _, ok'⟩ := ok.freeze hi
    refine ⟨_, ok', fun v F2 H2 g r => k v F H2 ⟨Same.refl _, (Same.upd_new h2).trans (g.f.trans g.s), g.h, g.k, fun _ h _ => h, g.m⟩ (r.flat hf)⟩
/-! ## loops -/
/-- for: I, what is known by the turn -/
theorem ds_for {tg iter : Expr} {body : List Stmt} {ds : List PyData} (I : Nat → Env' → Prop) (hi : DI X ρ tg iter ds) (h0 : I 0 ρ)
    (hs : ∀ (i : Nat) (x : PyData) (ρ' : Env'), ds[i]? = some x → I i ρ' → ∃ ρ2 is, DG X ρ' tg x ρ2 is ∧ DSs X ex F0 H0 ρ2 body { A with N := I (i + 1), B := A.N, C := I (i + 1) })
    (hd : ∀ ρ', I ds.length ρ' → A.N ρ') (hp : PassesOwn (model X.prog X.w) X.A X.env X.xe := by exact PassesOwn.never) (hc : X.calm = true := by rfl) (hse : ∀ x, foldedSetIterable iter X.env x = pure x := by intro _; rfl) : DS X ex F0 H0 ρ (.For tg iter body [] pos) A := by
  refine PS.imp (ps_for hp hc hi (g := fun v σ H Q => ∃ q : Env' × PyData × Env' × List Nat, PG X tg (tDG q.1 q.2.1 q.2.2.1 q.2.2.2) ∧ tDG q.1 q.2.1 q.2.2.1 q.2.2.2 v σ H Q) (tb := fun D σ H => ∃ q : Env' × Aims, DSs X ex F0 H0 q.1 body q.2 ∧ tS ex F0 H0 q.1 q.2 D σ H)
    (PG.any fun q h => h) (PSs.any fun q h => h) hse) fun D σ H ⟨F, a, n, r, b, c⟩ => ⟨F, a.ok, fun J F1 H1 g1 hJ => ?_⟩
  refine ⟨fun i m σ' H' => m = ds.length - i ∧ i ≤ ds.length ∧ ∃ ρ' F', I i ρ' ∧ At ex F0 H0 ρ' σ' F' H' ∧ Same F1 F', ⟨ds.length, by simp, Nat.zero_le _, ρ, F1, h0, a.grow g1, Same.refl _⟩, ?_⟩
  rintro i m σ' H' ⟨rfl, hle, ρ', F', hI, a', sF⟩
  obtain ⟨j1, j2⟩ := hJ i F' H' sF a'.ok.s
  by_cases hlt : i < ds.length
  · right
    have hd' : ds[i]? = some ds[i] := List.getElem?_eq_getElem hlt
    obtain ⟨go, yl⟩ := j1 _ hd'
    refine ⟨go, fun σ2 H2 => ∃ ρ2 F2, I (i + 1) ρ2 ∧ At ex F0 H0 ρ2 σ2 F2 H2 ∧ Same F1 F2, fun σ2 H2 ⟨ρ2, F2, q1, q2, q3⟩ => ⟨ds.length - (i + 1), by omega, rfl, hlt, ρ2, F2, q1, q2, q3⟩, fun x H2 hy => ?_⟩
    obtain ⟨F2, g2, rx⟩ := yl x H2 hy
    obtain ⟨ρ2, is, ⟨hG, hr⟩, hB⟩ := hs i _ ρ' hd' hI
    have a2 := a'.grow g2
    refine ⟨(ρ', ds[i], ρ2, is), hG, F2, a2.ok, rx, fun σ3 ok3 _ => ⟨(ρ2, _), hB, F2, ⟨a2.g, ok3, fun i p w q => a2.new i p w (hr i p w q)⟩, fun ρ4 σ4 F4 H4 h4 s4 a4 => ⟨ρ4, F4, h4, a4, sF.trans (g2.f.trans s4)⟩, r,
      fun ρ4 σ4 F4 H4 h4 s4 a4 => n ρ4 σ4 F4 H4 h4 (g1.f.trans (sF.trans (g2.f.trans s4))) a4, fun ρ4 σ4 F4 H4 h4 s4 a4 => ⟨ρ4, F4, h4, a4, sF.trans (g2.f.trans s4)⟩⟩⟩
  · left
    have hi' : i = ds.length := by omega
    subst hi'
    exact ⟨j2 (by simp), n _ _ F' H' (hd _ hI) (g1.f.trans sF) a'⟩
/-- while: W, what is known, with its measure -/
theorem ds_while {body : List Stmt} (W : Nat → Env' → Prop) (m0 : Nat) (h0 : W m0 ρ)
    (hs : ∀ (m : Nat) (ρ' : Env'), W m ρ' → ∃ x, DT X ρ' c x ∧ (x = true → DSs X ex F0 H0 ρ' body { A with N := fun ρ2 => ∃ m', m' < m ∧ W m' ρ2, B := A.N, C := fun ρ2 => ∃ m', m' < m ∧ W m' ρ2 }) ∧ (x = false → A.N ρ'))
    (hp : PassesOwn (model X.prog X.w) X.A X.env X.xe := by exact PassesOwn.never) : DS X ex F0 H0 ρ (.While c body [] pos) A := by
  refine PS.imp (ps_while hp (PT.any (ι := Env' × Bool) (c := fun q => DT X q.1 c q.2) (t := fun q => tDT q.1 q.2) fun q h => h) (tb := fun D σ H => ∃ q : Env' × Aims, DSs X ex F0 H0 q.1 body q.2 ∧ tS ex F0 H0 q.1 q.2 D σ H) (PSs.any fun q h => h)) fun D σ H ⟨F, a, n, r, b, _⟩ => ?_
  refine ⟨fun m σ' H' => ∃ ρ' F', W m ρ' ∧ At ex F0 H0 ρ' σ' F' H' ∧ Same F F', ⟨m0, ρ, F, h0, a, Same.refl _⟩, ?_⟩
  rintro m σ' H' ⟨ρ', F', hW, a', sF⟩
  obtain ⟨x, hx, h1, h2⟩ := hs m ρ' hW
  refine ⟨(ρ', x), hx, F', a'.ok, fun F2 H2 g2 => ?_⟩
  cases x with
  | true =>
    refine iteT ⟨fun σ2 H2 => ∃ m', m' < m ∧ ∃ ρ2 F2, W m' ρ2 ∧ At ex F0 H0 ρ2 σ2 F2 H2 ∧ Same F F2, fun _ _ h => h, (ρ', _), h1 rfl, F2, a'.grow g2, ?_, r, ?_, ?_⟩
    · rintro ρ4 σ4 F4 H4 ⟨m', hm, hW'⟩ s4 a4
      exact ⟨m', hm, ρ4, F4, hW', a4, sF.trans (g2.f.trans s4)⟩
    · exact fun ρ4 σ4 F4 H4 h4 s4 a4 => n ρ4 σ4 F4 H4 h4 (sF.trans (g2.f.trans s4)) a4
    · rintro ρ4 σ4 F4 H4 ⟨m', hm, hW'⟩ s4 a4
      exact ⟨m', hm, ρ4, F4, hW', a4, sF.trans (g2.f.trans s4)⟩
  | false => exact iteF (n _ _ F2 H2 (h2 rfl) (sF.trans g2.f) (a'.grow g2))
end

/-! ## the same, with what stands behind -/
section
variable {X : Cx} {ex : List Addr} {F0 H0 : Hp} {ρ ρ1 : Env'} {st : Stmt} {sts : List Stmt} {A : Aims} {e c : Expr} {d : PyData} {pos : Pos}
theorem dss_set (i : Nat) {x : Str} {pos' : Pos} (hN : X.N.Nodup) (he : DE X ρ e d) (k : DSs X ex F0 H0 (ρ.set i (.dat d)) sts A) (hi : X.N[i]? = some x := by rfl) (hx : Loc X.env.scope x := by first | exact Or.inl rfl | exact Or.inr rfl) (hs : swapsWith e (some (.Name x pos')) pos.line X.env = pure false := by rfl)
    (hf : X.fn x = true ∨ X.env.scope.names.lookup x = some .local := by first | exact .inl rfl | exact .inr rfl) (hw : swappedStores [.Name x pos'] e X.env = pure none := by rfl) : DSs X ex F0 H0 ρ (.Assign [.Name x pos'] e pos :: sts) A :=
  dss_seq (N1 := fun ρ' => ρ' = ρ.set i (.dat d)) (ds_set i hN he rfl hi hx hs hf hw) fun _ h => h ▸ k
theorem dss_asg {tg : Expr} {is : List Nat} (he : DE X ρ e d) (hg : DG X ρ tg d ρ1 is) (k : DSs X ex F0 H0 ρ1 sts A) (hs : swapsWithSole [tg] e pos.line X.env = pure false := by rfl) (hw : swappedStores [tg] e X.env = pure none := by rfl)
    (hh1 : (assignEach [tg] X.env).map (·.2) = [assign tg X.env] := by rfl) : DSs X ex F0 H0 ρ (.Assign [tg] e pos :: sts) A :=
  dss_seq (N1 := fun ρ' => ρ' = ρ1) (ds_asg he hg rfl hs hw hh1) fun _ h => h ▸ k
theorem dss_drop (he : DE X ρ e d) (k : DSs X ex F0 H0 ρ sts A) (hs : swapsWith e none pos.line X.env = pure false := by rfl) : DSs X ex F0 H0 ρ (.Expr e pos :: sts) A :=
  dss_seq (N1 := fun ρ' => ρ' = ρ) (ds_drop he rfl hs) fun _ h => h ▸ k
theorem dss_ret (he : DE X ρ e d) (h : A.R d ρ) : DSs X ex F0 H0 ρ (.Return (some e) pos :: sts) A :=
  dss_seq (N1 := fun _ => False) (ds_ret he h) fun _ h => h.elim
/-- what is handed back is said outright -/
theorem dss_retRaw {te : TE} (he : PE X e te) (h : ∀ σ F H, At ex F0 H0 ρ σ F H → te σ H A.RR) (hm : ∀ σ H (Q Q' : VK), (∀ v H', Q v H' → Q' v H') → te σ H Q → te σ H Q') : DSs X ex F0 H0 ρ (.Return (some e) pos :: sts) A :=
  dss_seq (N1 := fun _ => False) (PS.imp (ps_ret he) fun D σ H ⟨F, a, n, r, b, c⟩ => hm σ H A.RR D.rt r.2 (h σ F H a)) fun _ h => h.elim
theorem dss_newl (i : Nat) {x : Str} {pos' lp : Pos} (hN : X.N.Nodup) (k : ∀ p, DSs X ex F0 H0 (ρ.set i (.own p (.lst []))) sts A) (hi : X.N[i]? = some x := by rfl) (hx : Loc X.env.scope x := by first | exact Or.inl rfl | exact Or.inr rfl) (hs : swapsWith (.List [] lp) (some (.Name x pos')) pos.line X.env = pure false := by rfl)
    (hf : X.fn x = true ∨ X.env.scope.names.lookup x = some .local := by first | exact .inl rfl | exact .inr rfl) : DSs X ex F0 H0 ρ (.Assign [.Name x pos'] (.List [] lp) pos :: sts) A :=
  dss_seq (N1 := fun ρ' => ∃ p, ρ' = ρ.set i (.own p (.lst []))) (ds_newl i hN (fun p => ⟨p, rfl⟩) hi hx hs hf) fun _ ⟨p, h⟩ => h ▸ k p
theorem dss_app (i : Nat) {p : Addr} {ds : List PyData} {x : Str} {px apos cpos : Pos} (he : DA X ρ [e] [d]) (hl : ds.length < sizeLine) (k : DSs X ex F0 H0 (ρ.set i (.own p (.lst (ds ++ [d])))) sts A) (hi : ρ[i]? = some (.own p (.lst ds)) := by rfl)
    (hxN : X.N[i]? = some x := by rfl) (hv : Vis X.env.scope x := by first | exact Or.inl rfl | exact Or.inr (Or.inl rfl) | exact Or.inr (Or.inr rfl)) (hd : (x == ("__debug__" : Str)) = false := by decide) (hcd : (x == ("__classdict__" : Str)) = false := by decide)
    (hbase : attributeBase (.Name x px) "append" X.env (eval (.Name x px) X.env) = eval (.Name x px) X.env := by rfl)
    (hfew : ((backTo cpos (starEach [e] X.env)).all (fun x => !x.1) && (backToKw cpos (keywordEach [] X.env)).all (fun x => x.1.isSome) && decide (([e] : List Expr).length + ([] : List Keyword).length + (if ([] : List Keyword).isEmpty then 0 else 1) < 30)) = true := by rfl)
    (hline : (apos.endLine == cpos.line) = true := by rfl) (hst : starEach [e] X.env = (false, eval e X.env) :: starEach [] X.env := by rfl) (hpl : (backTo cpos (starEach [] X.env)).any (·.1) = false := by rfl)
    (hs : swapsWith (.Call (.Attribute (.Name x px) "append" apos) [e] [] cpos) none pos.line X.env = pure false := by rfl) :
    DSs X ex F0 H0 ρ (.Expr (.Call (.Attribute (.Name x px) "append" apos) [e] [] cpos) pos :: sts) A :=
  dss_seq (N1 := fun ρ' => ρ' = ρ.set i (.own p (.lst (ds ++ [d])))) (ds_app i he rfl hl hi hxN hv hd hcd hbase hfew hline hst hpl hs) fun _ h => h ▸ k
/-- an if whose ways go on -/
theorem dss_if {x : Bool} {s1 s2 : List Stmt} (N1 : Env' → Prop) (hc : DT X ρ c x) (h1 : x = true → DSs X ex F0 H0 ρ s1 { A with N := N1 }) (h2 : x = false → DSs X ex F0 H0 ρ s2 { A with N := N1 }) (k : ∀ ρ', N1 ρ' → DSs X ex F0 H0 ρ' sts A) : DSs X ex F0 H0 ρ (.If c s1 s2 pos :: sts) A :=
  dss_seq (N1 := N1) (ds_if hc h1 h2) k
/-- an if whose body leaves: behind it its test was false -/
theorem dss_ifx {x : Bool} {s1 : List Stmt} (hc : DT X ρ c x) (h1 : x = true → DSs X ex F0 H0 ρ s1 { A with N := fun _ => False }) (k : x = false → DSs X ex F0 H0 ρ sts A) : DSs X ex F0 H0 ρ (.If c s1 [] pos :: sts) A :=
  dss_seq (N1 := fun ρ' => ρ' = ρ ∧ x = false) (ds_if hc (fun h => dss_imp (h1 h) (fun _ q => q.elim) (fun _ _ q => q) (fun _ q => q) (fun _ q => q)) (fun h => dss_nil ⟨rfl, h⟩)) fun _ ⟨h, h'⟩ => h ▸ k h'
theorem dss_for {tg iter : Expr} {body : List Stmt} {ds : List PyData} (I : Nat → Env' → Prop) (hi : DI X ρ tg iter ds) (h0 : I 0 ρ)
    (hs : ∀ (i : Nat) (x : PyData) (ρ' : Env'), ds[i]? = some x → I i ρ' → ∃ ρ2 is, DG X ρ' tg x ρ2 is ∧ DSs X ex F0 H0 ρ2 body { A with N := I (i + 1), B := I ds.length, C := I (i + 1) })
    (k : ∀ ρ', I ds.length ρ' → DSs X ex F0 H0 ρ' sts A) (hp : PassesOwn (model X.prog X.w) X.A X.env X.xe := by exact PassesOwn.never) (hc : X.calm = true := by rfl) (hse : ∀ x, foldedSetIterable iter X.env x = pure x := by intro _; rfl) : DSs X ex F0 H0 ρ (.For tg iter body [] pos :: sts) A :=
  dss_seq (N1 := I ds.length) (ds_for I hi h0 hs (fun _ h => h) hp hc hse) k
theorem dss_while {body : List Stmt} (W : Nat → Env' → Prop) (N1 : Env' → Prop) (m0 : Nat) (h0 : W m0 ρ)
    (hs : ∀ (m : Nat) (ρ' : Env'), W m ρ' → ∃ x, DT X ρ' c x ∧ (x = true → DSs X ex F0 H0 ρ' body { A with N := fun ρ2 => ∃ m', m' < m ∧ W m' ρ2, B := N1, C := fun ρ2 => ∃ m', m' < m ∧ W m' ρ2 }) ∧ (x = false → N1 ρ'))
    (k : ∀ ρ', N1 ρ' → DSs X ex F0 H0 ρ' sts A) (hp : PassesOwn (model X.prog X.w) X.A X.env X.xe := by exact PassesOwn.never) : DSs X ex F0 H0 ρ (.While c body [] pos :: sts) A :=
  dss_seq (N1 := N1) (ds_while W m0 h0 hs hp) k
end

/-! ## defs -/
/-- a promise: from data to data, nothing that stood is changed -/
def spP (P : List PyData → PyData → Prop) : Sp := fun vs H Q _ => ∃ F ds d, Same F H ∧ RpA F vs ds ∧ P ds d ∧ ∀ v F2 H2, Grow F H F2 H2 → Rp F2 v d → Q v H2
/-- a def that stands under its name -/
def Cal (P : Program) (w : World) (K : PySem.W.Frag) (mg : Str → Option Value) (base : Heap) (k : Nat) (x : Str) (n : Nat) (sp : Sp) : Prop :=
  ∃ f fd ps, mg x = some (.ref f) ∧ PySem.W.keepIn K (.ref f) = true ∧ Binds K fd ps [] ∧ ps.length = n ∧ FnOk P w K mg base CX0 k f fd ps sp
section
variable {X : Cx} {ρ : Env'} {e : Expr} {es : List Expr} {pos p : Pos} {x : Str} {k n : Nat} {P : List PyData → PyData → Prop} {ds : List PyData} {d : PyData}
theorem de_call (G : Cal X.prog X.w X.K X.mg X.base k x n (spP P)) (hr : Room k X.A) (ha : DA X ρ (e :: es) ds) (hP : P ds d) (hg : Gl X x := by rfl) (hdb : (x == ("__debug__" : Str)) = false := by decide)
    (he : starEach (e :: es) X.env = (false, eval e X.env) :: starEach es X.env := by rfl) (hpl : (backTo pos (starEach es X.env)).any (·.1) = false := by rfl) : DE X ρ (.Call (.Name x p) (e :: es) [] pos) d := by
  obtain ⟨f, fd, ps, h1, h2, h3, _, h4⟩ := G
  exact PE.imp (pe_call h4 hr hg h1 h2 h3 .nil pass0 ha hdb he hpl) fun σ H Q ⟨F, ok, k⟩ => ⟨F, ok, fun vs F2 H2 g r => by
    show spP P (vs ++ []) H2 Q E0
    rw [List.append_nil]
    exact ⟨F2, ds, d, g.s, r, hP, fun v F3 H3 g3 r3 => k v F3 H3 (g.trans g3) r3⟩⟩
end
/-- the slots at the entry: the parameters, then nothing -/
def entry (ds : List PyData) (n : Nat) : Env' := ds.map .dat ++ List.replicate (n - ds.length) .no
theorem ok_entry {F H : Hp} {vs : List V} {ds : List PyData} {N : List Str} (e : Same F H) (r : RpA F vs ds) (hl : ds.length ≤ N.length) : Ok F H (entry ds N.length) (L2.start N vs) := by
  have hlen := r.len
  refine ⟨e, by simp [entry, L2.start, hlen], fun i en hi => ?_, fun i j p q w w' hi => ?_⟩
  · unfold entry at hi
    unfold L2.start
    by_cases h : i < ds.length
    · rw [List.getElem?_append_left (by simpa using h), List.getElem?_map] at hi
      obtain ⟨d, h1, rfl⟩ := Option.map_eq_some_iff.mp hi
      obtain ⟨v, h2, rv⟩ := r.get h1
      refine ⟨some v, ?_, v, rfl, rv⟩
      rw [List.getElem?_append_left (by simp; omega), List.getElem?_map, h2]; rfl
    · rw [List.getElem?_append_right (by simp; omega)] at hi
      have hi2 : i < N.length := by
        have := (List.getElem?_eq_some_iff.mp hi).1
        simp at this; omega
      have he : en = .no := by
        obtain ⟨_, h2⟩ := List.getElem?_eq_some_iff.mp hi
        simpa using h2.symm
      subst he
      refine ⟨none, ?_, trivial⟩
      rw [List.getElem?_append_right (by simp; omega)]
      exact List.getElem?_eq_some_iff.mpr ⟨by simp; omega, by simp⟩
  · exfalso
    unfold entry at hi
    by_cases h : i < ds.length
    · rw [List.getElem?_append_left (by simpa using h), List.getElem?_map] at hi
      obtain ⟨d, h1, h2⟩ := Option.map_eq_some_iff.mp hi
      cases h2
    · rw [List.getElem?_append_right (by simp; omega)] at hi
      obtain ⟨_, h2⟩ := List.getElem?_eq_some_iff.mp hi
      simp at h2
section
variable {P : Program} {w : World} {K : PySem.W.Frag} {mg : Str → Option Value} {base : Heap}
/-- the context of a def's body -/
abbrev Bod (P : Program) (w : World) (K : PySem.W.Frag) (mg : Str → Option Value) (base : Heap) (N : List Str) (qual : Str) (st : Stmt) (f : Addr) (cdv : Value) (A : Around) (outer : List Env) (s : Shared) (H : Hp) (E : XK) : Cx :=
  (cxOf CX0 P w K mg base N qual (defScope st) f cdv A outer s H E).nox
/-- a def keeps its promise by its body -/
theorem fn_ok {x qual : Str} {st : Stmt} {f : Addr} {fd : FuncData} {N ps : List Str} {k : Nat} {Pr : List PyData → PyData → Prop} (F : Fun K x qual st f fd) (S : FnScope N ps (defScope st))
    (hlen : ∀ ds d, Pr ds d → ds.length = ps.length)
    (hb : ∀ ds d, Pr ds d → ∀ (f : Addr) (cdv : Value) (A : Around) (outer : List Env) (s : Shared) (H : Hp) (E : XK) (F0 H0 : Hp), Room k (Bod P w K mg base N qual st f cdv A outer s H E).A →
      DSs (Bod P w K mg base N qual st f cdv A outer s H E) [] F0 H0 (entry ds N.length) (defBody st) { N := fun _ => d = .none, R := fun d' _ => d' = d }) :
    FnOk P w K mg base CX0 (k + 1) f fd ps (spP Pr) := by
  have hps : ps.length ≤ N.length := by
    have := S.pre
    rw [← this]
    simp
    omega
  refine F.ok S (fun vs H Q E h => ?_) (fun cdv A outer s H vs Q E hr h => ?_)
  · obtain ⟨F, ds, d, e, r, hP, _⟩ := h
    rw [r.len]; exact hlen ds d hP
  · obtain ⟨F0, ds, d, e, r, hP, kk⟩ := h
    refine ⟨_, hb ds d hP f cdv A outer s H E F0 H hr, F0, ⟨GrowX.refl e, ok_entry e r (by rw [hlen ds d hP]; exact hps), fun i p w q => ?_⟩, fun ρ' σ' F' H' hn s1 a' => ?_, ⟨fun d' v ρ' σ' F' H' hd a' rv => ?_, fun _ _ h => h.elim⟩, fun ρ' σ' F' H' hn s1 a' => hn.elim, fun ρ' σ' F' H' hn s1 a' => hn.elim⟩
    · exfalso
      have o := ok_entry (N := N) e r (by rw [hlen ds d hP]; exact hps)
      unfold entry at q
      by_cases h : i < ds.length
      · rw [List.getElem?_append_left (by simpa using h), List.getElem?_map] at q
        obtain ⟨d, h1, h2⟩ := Option.map_eq_some_iff.mp q
        cases h2
      · rw [List.getElem?_append_right (by simp; omega)] at q
        obtain ⟨_, h2⟩ := List.getElem?_eq_some_iff.mp q
        simp at h2
    · have hd : d = .none := hn
      subst hd
      exact kk .non F' H' a'.g .non
    · have hd' : d' = d := hd
      subst hd'
      exact kk v F' H' a'.g rv
theorem cal_mk {x qual : Str} {st : Stmt} {f : Addr} {fd : FuncData} {ps : List Str} {k : Nat} {sp : Sp} (F : Fun K x qual st f fd) (hm : mg x = some (.ref f)) (hb : Binds K fd ps []) (h : FnOk P w K mg base CX0 k f fd ps sp) : Cal P w K mg base k x ps.length sp :=
  ⟨f, fd, ps, hm, F.kp, hb, rfl, h⟩
end
end Tw

namespace Tw
open PySem PySem.Spec PyProof.Rows L2

/-! ## rules on values -/
section
variable {F H : Hp} {i j : Int} {x y : Bool} {s t : Str}
theorem v_I0 {g : Int → Int → V} {f : Int → Int → PyData} (h : ∀ F i j, Rp F (g i j) (f i j)) : V2 (rI0 g) (.int i) (.int j) (f i j) := fun F H v1 v2 e r1 r2 Q k => ⟨i, j, r1.int_inv, r2.int_inv, k _ F H (GrowX.refl e) (h F i j)⟩
theorem v_I {C : Int → Int → Prop} {g : Int → Int → V} {f : Int → Int → PyData} (h : ∀ F i j, Rp F (g i j) (f i j)) (hc : C i j) : V2 (rI C g) (.int i) (.int j) (f i j) := fun F H v1 v2 e r1 r2 Q k => ⟨i, j, r1.int_inv, r2.int_inv, hc, k _ F H (GrowX.refl e) (h F i j)⟩
theorem v_add : V2 (rI0 fun i j => .int (i + j)) (.int i) (.int j) (.int (i + j)) := v_I0 (f := fun i j => .int (i + j)) fun F i j => .int _
theorem v_sub : V2 (rI0 fun i j => .int (i - j)) (.int i) (.int j) (.int (i - j)) := v_I0 (f := fun i j => .int (i - j)) fun F i j => .int _
theorem v_mul (h : CMul i j) : V2 (rI CMul fun i j => .int (i * j)) (.int i) (.int j) (.int (i * j)) := v_I (f := fun i j => .int (i * j)) (fun F i j => .int _) h
theorem v_mod (h : 0 < j) : V2 (rI (fun _ j => 0 < j) fun i j => .int (i % j)) (.int i) (.int j) (.int (i % j)) := v_I (C := fun _ j => 0 < j) (f := fun i j => .int (i % j)) (fun F i j => .int _) h
theorem v_fdiv (h : CDiv i j) : V2 (rI CDiv fun i j => .int (i / j)) (.int i) (.int j) (.int (i / j)) := v_I (f := fun i j => .int (i / j)) (fun F i j => .int _) h
theorem v_pow (h : CPow i j) : V2 (rI CPow fun i j => .int (i ^ j.toNat)) (.int i) (.int j) (.int (i ^ j.toNat)) := v_I (f := fun i j => .int (i ^ j.toNat)) (fun F i j => .int _) h
theorem v_lt : V2 (rI0 fun i j => .bl (decide (i < j))) (.int i) (.int j) (.bool (decide (i < j))) := v_I0 (f := fun i j => .bool (decide (i < j))) fun F i j => .bl _
theorem v_le : V2 (rI0 fun i j => .bl (decide (i ≤ j))) (.int i) (.int j) (.bool (decide (i ≤ j))) := v_I0 (f := fun i j => .bool (decide (i ≤ j))) fun F i j => .bl _
theorem v_gt : V2 (rI0 fun i j => .bl (decide (j < i))) (.int i) (.int j) (.bool (decide (j < i))) := v_I0 (f := fun i j => .bool (decide (j < i))) fun F i j => .bl _
theorem v_ge : V2 (rI0 fun i j => .bl (decide (j ≤ i))) (.int i) (.int j) (.bool (decide (j ≤ i))) := v_I0 (f := fun i j => .bool (decide (j ≤ i))) fun F i j => .bl _
theorem v_neg : V1 (rU fun i => .int (-i)) (.int i) (.int (-i)) := fun F H v1 e r1 Q k => ⟨i, r1.int_inv, k _ F H (GrowX.refl e) (.int _)⟩
/-! == of scalars, of data -/
theorem v_eqI : V2 rEq (.int i) (.int j) (.bool (decide (i = j))) := fun F H v1 v2 e r1 r2 Q k => by
  rw [r1.int_inv, r2.int_inv]; exact ⟨rfl, by have := k (.bl (decide (i = j))) F H (GrowX.refl e) (.bl _); simpa using this⟩
theorem v_neI : V2 rNe (.int i) (.int j) (.bool (!decide (i = j))) := fun F H v1 v2 e r1 r2 Q k => by
  rw [r1.int_inv, r2.int_inv]; exact ⟨rfl, by have := k (.bl (!decide (i = j))) F H (GrowX.refl e) (.bl _); simpa using this⟩
theorem v_eqS : V2 rEq (.str s) (.str t) (.bool (decide (s = t))) := fun F H v1 v2 e r1 r2 Q k => by
  rw [r1.str_inv, r2.str_inv]; exact ⟨rfl, by have := k (.bl (decide (s = t))) F H (GrowX.refl e) (.bl _); simpa using this⟩
theorem v_neS : V2 rNe (.str s) (.str t) (.bool (!decide (s = t))) := fun F H v1 v2 e r1 r2 Q k => by
  rw [r1.str_inv, r2.str_inv]; exact ⟨rfl, by have := k (.bl (!decide (s = t))) F H (GrowX.refl e) (.bl _); simpa using this⟩
theorem v_eqD {K : PySem.W.Frag} {d e : PyData} (h1 : SeqAt.shaped d = true) (h2 : SeqAt.shaped e = true) : V2 (rEqD K) d e (.bool (PyData.eqv d e)) := fun F H v1 v2 s r1 r2 Q k => ⟨d, e, r1.dp s, r2.dp s, h1, h2, k _ F H (GrowX.refl s) (.bl _)⟩
theorem v_neD {K : PySem.W.Frag} {d e : PyData} (h1 : SeqAt.shaped d = true) (h2 : SeqAt.shaped e = true) : V2 (rNeD K) d e (.bool (!PyData.eqv d e)) := fun F H v1 v2 s r1 r2 Q k => ⟨d, e, r1.dp s, r2.dp s, h1, h2, k _ F H (GrowX.refl s) (.bl _)⟩
def isNoneD : PyData → Bool
  | .none => true
  | _ => false
theorem v_isN {d : PyData} : V2 (fun x y H Q => y = .non ∧ Q (.bl (decide (x = .non))) H) d .none (.bool (isNoneD d)) := fun F H v1 v2 e r1 r2 Q k => by
  cases r2
  refine ⟨rfl, ?_⟩
  have h : decide (v1 = V.non) = isNoneD d := by cases r1 <;> first | rfl | simp [isNoneD]
  rw [h]; exact k _ F H (GrowX.refl e) (.bl _)
theorem v_notN {d : PyData} : V2 (fun x y H Q => y = .non ∧ Q (.bl (!decide (x = .non))) H) d .none (.bool (!isNoneD d)) := fun F H v1 v2 e r1 r2 Q k => by
  cases r2
  refine ⟨rfl, ?_⟩
  have h : decide (v1 = V.non) = isNoneD d := by cases r1 <;> first | rfl | simp [isNoneD]
  rw [h]; exact k _ F H (GrowX.refl e) (.bl _)
/-! in, of flat things -/
def vD : PyData → V
  | .none => .non
  | .bool b => .bl b
  | .int i => .int i
  | .str s => .str s
  | _ => .non
theorem Rp.vD {v : V} {d : PyData} (h : Rp F v d) (f : flatD d = true) : v = Tw.vD d := by cases h <;> first | rfl | cases f
theorem flatV_vD {d : PyData} (f : flatD d = true) : flatV (Tw.vD d) = true := by cases d <;> first | rfl | cases f
theorem RpA.vDs : ∀ {xs : List V} {ds : List PyData}, RpA F xs ds → ds.all flatD = true → xs = ds.map Tw.vD ∧ xs.all flatV = true
  | _, _, .nil, _ => ⟨rfl, rfl⟩
  | _, _, .cons (d := d) (ds := ds) r t, h => by
    have h' : flatD d = true ∧ ds.all flatD = true := by rw [List.all_cons] at h; exact Bool.and_eq_true_iff.mp h
    obtain ⟨a, b⟩ := t.vDs h'.2
    have e := r.vD h'.1
    subst e
    refine ⟨by rw [a]; rfl, ?_⟩
    rw [List.all_cons, b, flatV_vD h'.1]; rfl
def inD (d : PyData) (ds : List PyData) : Bool := inV (Tw.vD d) (ds.map Tw.vD)
theorem v_inT {K : PySem.W.Frag} {neg : Bool} {d : PyData} {ds : List PyData} (h1 : flatD d = true) (h2 : ds.all flatD = true) : V2 (rIn K neg) d (.tuple ds) (.bool (if neg then !inD d ds else inD d ds)) := fun F H v1 v2 e r1 r2 Q k => by
  obtain ⟨a, xs, rfl, ha, rx⟩ := r2.tup_inv
  obtain ⟨e1, e2⟩ := rx.vDs h2
  have e3 := r1.vD h1
  subst e1; subst e3
  exact ⟨a, _, rfl, .inr (SqT.of (e _ _ ha)), flatV_vD h1, e2, k _ F H (GrowX.refl e) (.bl _)⟩
theorem v_inL {K : PySem.W.Frag} {neg : Bool} {d : PyData} {ds : List PyData} (h1 : flatD d = true) (h2 : ds.all flatD = true) : V2 (rIn K neg) d (.list ds) (.bool (if neg then !inD d ds else inD d ds)) := fun F H v1 v2 e r1 r2 Q k => by
  obtain ⟨a, xs, rfl, ha, rx⟩ := r2.lst_inv
  obtain ⟨e1, e2⟩ := rx.vDs h2
  have e3 := r1.vD h1
  subst e1; subst e3
  exact ⟨a, _, rfl, .inl (SqL.of (e _ _ ha)), flatV_vD h1, e2, k _ F H (GrowX.refl e) (.bl _)⟩
/-! subscripts -/
theorem atI_of {α β : Type} {xs : List α} {ds : List β} (hl : xs.length = ds.length) {i : Int} {d : β} (h : atI ds i = some d) : ∃ j : Nat, ds[j]? = some d ∧ ∀ v, xs[j]? = some v → atI xs i = some v := by
  unfold atI at h
  obtain ⟨j, h1, h2⟩ := Option.bind_eq_some_iff.mp h
  refine ⟨j, h2, fun v hv => ?_⟩
  unfold atI
  rw [hl, h1]; exact hv
theorem v_ixT {K : PySem.W.Frag} {ds : List PyData} {d : PyData} (h : atI ds i = some d) : V2 (rIxT K) (.tuple ds) (.int i) d := fun F H v1 v2 e r1 r2 Q k => by
  obtain ⟨a, xs, rfl, ha, rx⟩ := r1.tup_inv
  obtain ⟨j, h1, h2⟩ := atI_of rx.len h
  obtain ⟨v, h3, h4⟩ := rx.get h1
  exact ⟨a, xs, i, v, rfl, r2.int_inv, SqT.of (e _ _ ha), h2 v h3, k v F H (GrowX.refl e) h4⟩
theorem v_ixL {K : PySem.W.Frag} {ds : List PyData} {d : PyData} (h : atI ds i = some d) : V2 (rIxL K) (.list ds) (.int i) d := fun F H v1 v2 e r1 r2 Q k => by
  obtain ⟨a, xs, rfl, ha, rx⟩ := r1.lst_inv
  obtain ⟨j, h1, h2⟩ := atI_of rx.len h
  obtain ⟨v, h3, h4⟩ := rx.get h1
  exact ⟨a, xs, i, v, rfl, r2.int_inv, SqL.of (e _ _ ha), h2 v h3, k v F H (GrowX.refl e) h4⟩
/-! slices -/
def cutD (ds : List PyData) (lo hi : Option Int) : List PyData := (ds.drop (HT.sIx ds.length 0 lo)).take (HT.sIx ds.length ds.length hi - HT.sIx ds.length 0 lo)
theorem RpA.cut {xs : List V} {ds : List PyData} (h : RpA F xs ds) (lo hi : Option Int) : RpA F (cutV xs lo hi) (cutD ds lo hi) := by
  unfold cutV cutD
  rw [h.len]
  exact (h.drop _).take _
theorem v_slL {K : PySem.W.Frag} {ds : List PyData} {lo hi : Option Int} : VS (rSlL K) (.list ds) lo hi (.list (cutD ds lo hi)) := fun F H v1 e r1 Q k => by
  obtain ⟨a, xs, rfl, ha, rx⟩ := r1.lst_inv
  exact ⟨a, xs, rfl, SqL.of (e _ _ ha), fun p hp => k _ _ _ (Grow.new e hp) (.lst upd_same ((rx.cut lo hi).mono (Same.upd_new (same_none e hp))))⟩
theorem v_slT {K : PySem.W.Frag} {ds : List PyData} {lo hi : Option Int} : VS (rSlA K) (.tuple ds) lo hi (.tuple (cutD ds lo hi)) := fun F H v1 e r1 Q k => by
  obtain ⟨a, xs, rfl, ha, rx⟩ := r1.tup_inv
  refine ⟨a, xs, rfl, SqT.of (e _ _ ha), fun hw => ?_, fun _ p hp => k _ _ _ (Grow.new e hp) (.tup upd_same ((rx.cut lo hi).mono (Same.upd_new (same_none e hp))))⟩
  have hc : cutD ds lo hi = ds := by
    unfold cutD
    rw [← rx.len, hw.1, hw.2]
    simp [rx.len]
  exact k _ F H (GrowX.refl e) (by rw [hc]; exact r1)
/-! built-in calls -/
theorem v_max2 : VN (fun xs H Q => ∃ i j, xs = [.int i, .int j] ∧ Q (.int (if j > i then j else i)) H) [.int i, .int j] (.int (max i j)) := fun F H vs e r Q k => by
  cases r with
  | cons r1 r => cases r with
    | cons r2 r =>
      cases r
      refine ⟨i, j, by rw [r1.int_inv, r2.int_inv], ?_⟩
      have h : (if j > i then j else i) = max i j := by split <;> omega
      rw [h]; exact k _ F H (GrowX.refl e) (.int _)
theorem v_min2 : VN (fun xs H Q => ∃ i j, xs = [.int i, .int j] ∧ Q (.int (if j < i then j else i)) H) [.int i, .int j] (.int (min i j)) := fun F H vs e r Q k => by
  cases r with
  | cons r1 r => cases r with
    | cons r2 r =>
      cases r
      refine ⟨i, j, by rw [r1.int_inv, r2.int_inv], ?_⟩
      have h : (if j < i then j else i) = min i j := by split <;> omega
      rw [h]; exact k _ F H (GrowX.refl e) (.int _)
theorem VN1 {r : List V → Hp → VK → Prop} {d d' : PyData} (h : ∀ F H v, Same F H → Rp F v d → ∀ Q : VK, (∀ v F2 H2, Grow F H F2 H2 → Rp F2 v d' → Q v H2) → r [v] H Q) : VN r [d] d' := fun F H vs e r1 Q k => by
  cases r1 with
  | cons r1 rr => cases rr; exact h F H _ e r1 Q k
theorem v_lenL {K : PySem.W.Frag} {ds : List PyData} : VN (fun xs H Q => ∃ p ys, xs = [.ref p] ∧ (SqL K H p ys ∨ SqT K H p ys) ∧ Q (.int ys.length) H) [.list ds] (.int ds.length) := VN1 fun F H v e r Q k => by
  obtain ⟨a, xs, rfl, ha, rx⟩ := r.lst_inv
  exact ⟨a, xs, rfl, .inl (SqL.of (e _ _ ha)), by rw [rx.len]; exact k _ F H (GrowX.refl e) (.int _)⟩
theorem v_lenT {K : PySem.W.Frag} {ds : List PyData} : VN (fun xs H Q => ∃ p ys, xs = [.ref p] ∧ (SqL K H p ys ∨ SqT K H p ys) ∧ Q (.int ys.length) H) [.tuple ds] (.int ds.length) := VN1 fun F H v e r Q k => by
  obtain ⟨a, xs, rfl, ha, rx⟩ := r.tup_inv
  exact ⟨a, xs, rfl, .inr (SqT.of (e _ _ ha)), by rw [rx.len]; exact k _ F H (GrowX.refl e) (.int _)⟩
theorem v_tupL {K : PySem.W.Frag} {ds : List PyData} : VN (fun xs H Q => ∃ p ys, xs = [.ref p] ∧ ((SqL K H p ys ∧ ∀ l, H l = none → Q (.ref l) (upd H l (.tup ys))) ∨ (SqT K H p ys ∧ Q (.ref p) H))) [.list ds] (.tuple ds) := VN1 fun F H v e r Q k => by
  obtain ⟨a, xs, rfl, ha, rx⟩ := r.lst_inv
  exact ⟨a, xs, rfl, .inl ⟨SqL.of (e _ _ ha), fun l hl => k _ _ _ (Grow.new e hl) (.tup upd_same (rx.mono (Same.upd_new (same_none e hl))))⟩⟩
theorem v_listT {K : PySem.W.Frag} {ds : List PyData} : VN (fun xs H Q => ∃ p ys, xs = [.ref p] ∧ (SqL K H p ys ∨ SqT K H p ys) ∧ ∀ l, H l = none → Q (.ref l) (upd H l (.lst ys))) [.tuple ds] (.list ds) := VN1 fun F H v e r Q k => by
  obtain ⟨a, xs, rfl, ha, rx⟩ := r.tup_inv
  exact ⟨a, xs, rfl, .inr (SqT.of (e _ _ ha)), fun l hl => k _ _ _ (Grow.new e hl) (.lst upd_same (rx.mono (Same.upd_new (same_none e hl))))⟩
theorem v_sum {K : PySem.W.Frag} {ns : List Int} : VN (rSum K) [.list (ns.map .int)] (.int ns.sum) := VN1 fun F H v e r Q k => by
  obtain ⟨a, xs, rfl, ha, rx⟩ := r.lst_inv
  have := rx.ints; subst this
  exact ⟨a, ns, rfl, SqL.of (e _ _ ha), k _ F H (GrowX.refl e) (.int _)⟩
theorem v_all {K : PySem.W.Frag} {bs : List Bool} : VN (rAll K) [.list (bs.map .bool)] (.bool (bs.all id)) := VN1 fun F H v e r Q k => by
  obtain ⟨a, xs, rfl, ha, rx⟩ := r.lst_inv
  have := rx.bools; subst this
  exact ⟨a, bs, rfl, SqL.of (e _ _ ha), k _ F H (GrowX.refl e) (.bl _)⟩
theorem v_any {K : PySem.W.Frag} {bs : List Bool} : VN (rAny K) [.list (bs.map .bool)] (.bool (bs.any id)) := VN1 fun F H v e r Q k => by
  obtain ⟨a, xs, rfl, ha, rx⟩ := r.lst_inv
  have := rx.bools; subst this
  exact ⟨a, bs, rfl, SqL.of (e _ _ ha), k _ F H (GrowX.refl e) (.bl _)⟩
theorem v_intB : VN (fun xs H Q => (∃ i, xs = [.int i] ∧ Q (.int i) H) ∨ ∃ k, xs = [.bl k] ∧ Q (.int (if k then 1 else 0)) H) [.bool x] (.int (if x then 1 else 0)) := VN1 fun F H v e r Q k =>
  .inr ⟨x, by rw [r.bl_inv], k _ F H (GrowX.refl e) (.int _)⟩
/-- sorted of ints: core Lean's own -/
def sortI (ns : List Int) : List Int := ns.mergeSort (fun a b => decide (a ≤ b))
theorem sortI_of {ns ms : List Int} (hp : ms.Perm ns) (hs : ms.Pairwise (· ≤ ·)) : ms = sortI ns := by
  have h1 : (sortI ns).Perm ns := List.mergeSort_perm _ _
  have h2 : (sortI ns).Pairwise (fun a b => decide (a ≤ b) = true) := List.pairwise_mergeSort (fun a b c h1 h2 => by simp at *; omega) (fun a b => by simp; omega) _
  refine List.Perm.eq_of_pairwise (le := fun a b => a ≤ b) (fun a b _ _ h1 h2 => by omega) hs (h2.imp fun h => by simpa using h) (hp.trans h1.symm)
theorem v_sortI {K : PySem.W.Frag} {ns : List Int} (hl : ns.length < 64) : VN (rSorted K) [.list (ns.map .int)] (.list ((sortI ns).map .int)) := VN1 fun F H v e r Q k => by
  obtain ⟨a, xs, rfl, ha, rx⟩ := r.lst_inv
  have := rx.ints; subst this
  refine ⟨a, ns, rfl, SqL.of (e _ _ ha), hl, fun ns' p h1 h2 hp => ?_⟩
  have hs := sortI_of h1 h2
  subst hs
  exact k _ _ _ (Grow.new e hp) (.lst upd_same (RpA.of_ints _))
end
end Tw

/-! enumerate over a tuple -/
namespace PySem
open PyProof.Rows
theorem tw_enum_new {v : Value} {o : Obj} {H : Heap → Prop} (B : Begins v o H) :
    Meets (Builtin.«enumerate.__new__» ⟨[.type "enumerate", v], []⟩) (fun _ R s => H s.heap ∧
      R (.ok (.ret (.ref (s.heap.push o).objs.size))) { s with heap := (s.heap.push o).push { cls := .type "enumerate", data := .fields #[.none, .bool false, .ref s.heap.objs.size, rawInt 0, .none, .none] } }) :=
  .of_wp fun prog w A R s0 h0 => by
    obtain ⟨hp, gg, dd, tk, oo⟩ := s0
    obtain ⟨hH, hR⟩ := h0
    have hsub := sub_enumerate
    have it1 : ∀ {A' : Around} {E : Value → Shared → Prop} {Q : Value → Shared → Prop}, Q (.ref hp.objs.size) ⟨hp.push o, gg, dd, tk, oo⟩ → wpAny (model prog w) A' (pyIter v) Q E ⟨hp, gg, dd, tk, oo⟩ :=
      fun q => B.iter prog w _ _ ⟨hp, gg, dd, tk, oo⟩ _ hH q
    wp_walk using it1
    refine wpAny_stack_any fun st => wpAny_pure ?_
    split
    · rename_i c _ _ _ _ _
      cases (c == Value.type "enumerate") <;> (wp_walk using it1; exact ⟨_, rfl, hR⟩)
    · wp_walk using it1
      exact ⟨_, rfl, hR⟩
section
variable {prog : Program} {w : World} {A : Around} {E : Value → Shared → Prop} {s : Shared}
theorem tw_enum_call {v : Value} {o : Obj} {H : Heap → Prop} {Q : Value → Shared → Prop} (B : Begins v o H) (hH : H s.heap)
    (h : ∀ h', IsEnum h' (s.heap.objs.size + 1) s.heap.objs.size 0 .none → h'.get? s.heap.objs.size = some o → h'.objs.size = s.heap.objs.size + 2 →
      (∀ b u, s.heap.get? b = some u → h'.get? b = some u) → Q (.ref (s.heap.objs.size + 1)) { s with heap := h' }) :
    wpAny (model prog w) A (call (.type "enumerate") [v]) Q E s := by
  refine callType_new F.called_enumerate (by decide) (F.typeCall_enumerate_1 _) (F.newCall_enumerate_1 _) (fun obj => F.args_object_init_2 obj _) F.entry_enumerate_new
    (tw_enum_new B) ⟨hH, ?_⟩
  have hz : (s.heap.push o).objs.size = s.heap.objs.size + 1 := Heap.size_push ..
  show _ ∧ _
  rw [hz]
  have he : IsEnum ((s.heap.push o).push { cls := .type "enumerate", data := .fields #[.none, .bool false, .ref s.heap.objs.size, rawInt 0, .none, .none] }) (s.heap.objs.size + 1) s.heap.objs.size 0 .none := by
    have q := Heap.get?_push_size (s.heap.push o) (o := { cls := .type "enumerate", data := .fields #[.none, .bool false, .ref s.heap.objs.size, rawInt 0, .none, .none] }) rfl
    rw [hz] at q; exact q
  exact ⟨⟨_, he, rfl⟩, h _ he (Heap.get?_push_of_some _ (Heap.get?_push_size _ B.free)) (by rw [Heap.size_push, hz]) fun b u x => Heap.get?_push_of_some _ (Heap.get?_push_of_some _ x)⟩
theorem tw_enum_end {e it t : Addr} {i : Nat} {items : Array Value} {c : Int} {old : Value} {Q : Option Value → Shared → Prop} (he : IsEnum s.heap e it c old) (hit : s.heap.IsTupleIter it t i) (ht : s.heap.IsTuple t items) (hx : items[i]? = none) (hh : A.handled = none)
    (hQ : ∀ h', Heap.ExtBut it s.heap h' → Q none { s with heap := h' }) : wpAny (model prog w) A (pyNext (.ref e)) Q E s := by
  have hT : s.TypeIs (.ref e) "enumerate" := ⟨_, he, rfl⟩
  unfold pyNext
  refine wpAny_bind (wpAny_attempt (wpAny_callSpecial?_slot (name := Str.ofString "__next__") hT F.slot_enumerate_next (wpAny_call_entry F.slot_enumerate_next hT F.entry_enumerate_next ?_ (F.args_enumerate_next_1 _))))
  show wpAny _ _ (field (.ref e) 2 >>= _) _ _ _
  refine wpAny_bind (wpAny_field he rfl (x := .ref it) rfl (wpAny_bind (wpAny_nextOf_tuple_end hh hit ht hx fun h2 x k2 ⟨o, ho, hc⟩ => ?_)))
  exact wpAny_bind (wpAny_isInstance (T := "StopIteration") (b := true) ⟨o, ho, hc⟩ isSubtype_stop (wpAny_pure (hQ _ k2)))
end
end PySem
namespace Tw
open PySem PySem.Spec PyProof.Rows L2
/-- the tuple at a, each item in a new pair -/
def IteT (K : PySem.W.Frag) (a : Addr) : It :=
  ⟨fun i H => ∃ (xs : List V) (x : V), SqT K H a xs ∧ xs[i]? = some x, fun i H v H' => ∃ T x, v = .ref T ∧ H T = none ∧ H' = upd H T (.tup [.int (i : Nat), x]) ∧ ∀ xs, SqT K H a xs → xs[i]? = some x, fun i H => ∃ xs : List V, SqT K H a xs ∧ xs.length ≤ i⟩
theorem turn_enumT {P : Program} {w : World} {K : PySem.W.Frag} {elts : List Expr} {kk : Nat} {tpos : Pos} (a e it : Addr) :
    Turn P w K (.Tuple elts kk tpos) (IteT K a) [e, it] e (fun i h => (∃ old, IsEnum h e it ((i : Nat) : Int) old) ∧ h.IsTupleIter it a i ∧ e ≠ it ∧ a ≠ it ∧ a ≠ e) where
  mem := by simp
  obj := fun i h ⟨⟨old, he⟩, ⟨o, ho, hc, hd⟩, _⟩ b hb => by
    rcases (by simpa using hb : b = e ∨ b = it) with z | z
    · rw [z]; exact ⟨_, he, fun v q => nomatch q⟩
    · rw [z]; exact ⟨o, ho, fun v q => by rw [hd] at q; cases q⟩
  keep := fun i h h' ⟨⟨old, he⟩, hi, hne⟩ k => ⟨⟨old, k e (by simp) _ he⟩, hi.at fun o q => k it (by simp) o q, hne⟩
  item := by
    intro X hP hw hK hc i pins s σ H E I hf st hg
    subst hP hw hK
    obtain ⟨⟨old, he⟩, hit, hne, hai, hae⟩ := st
    obtain ⟨xs, x, hq, hx⟩ := hg
    obtain ⟨its, rv, p, hz⟩ := I.tuple hq
    obtain ⟨u, hu, ru⟩ := rv.get hx
    have hel : e < s.heap.objs.size := Heap.lt_size he
    have hil : it < s.heap.objs.size := by obtain ⟨_, q, _⟩ := hit; exact Heap.lt_size q
    have hil2 : i < its.toArray.size := by
      have := (List.getElem?_eq_some_iff.mp hu).1
      simpa using this
    refine wpAny_pyNext_enum_itemD (Draws.tuple (prog := X.prog) (w := X.w) (A := X.A.in1) (I.ok.hd hc) it a hai its.toArray) he ⟨hit, p⟩ hil2 hne (by simp [hne, Ne.symm hae]) fun y h' tk hy ho ⟨hit', p'⟩ hT hsz hk => ?_
    obtain rfl : y = u := by
      have : its.toArray[i]? = some u := by simpa using hu
      rw [this] at hy; exact (Option.some.inj hy).symm
    refine ⟨_, rfl, wpAny_letOwnedTupleGo_enum (s := { s with heap := h', toks := tk + 1 }) ho fun h2 he2 sb => ?_⟩
    have hT2 : h2.get? s.heap.objs.size = some { cls := .type "tuple", data := .seq #[.int i tk, y] } := (sb.2 _ (Nat.ne_of_gt hel)).trans hT
    have new : ObjOk X.prog X.w (upd H s.heap.objs.size (.tup [.int (i : Nat), x])) h2 s.heap.objs.size (.tup [.int (i : Nat), x]) :=
      ⟨by show 2 ≤ sizeLine; decide, [.int i tk, y], .cons ⟨_, rfl⟩ (.cons ru .nil), ⟨_, hT2, rfl, _, rfl⟩⟩
    have I1 : Inv X pins σ (upd H s.heap.objs.size (.tup [.int (i : Nat), x])) { s with heap := h2, toks := tk + 1 } :=
      I.turnedNew (ch := [e, it]) (fun b ob hb q => (sb.2 b (fun z => hb (by simp [z]))).trans (hk b ob (fun z => hb (by simp [z])) (fun z => hb (by simp [z])) q)) hf (Nat.le_refl _) new
    refine ⟨.ref s.heap.objs.size, _, I1, rfl, ⟨_, x, rfl, I.hok.fresh (Nat.le_refl _), rfl, fun ys hy => by rw [I.tuple_inj hy hq]; exact hx⟩, ⟨⟨y, ?_⟩, hit'.at fun o q => (sb.2 it (Ne.symm hne)).trans q, hne, hai, hae⟩, fun b hb => ?_⟩
    · have e1 : ((i + 1 : Nat) : Int) = (i : Int) + 1 := by omega
      rw [e1]; exact he2
    · have hb' : b < s.heap.objs.size := by
        rcases (by simpa using hb : b = e ∨ b = it) with z | z
        · rw [z]; exact hel
        · rw [z]; exact hil
      rw [upd_ne (Nat.ne_of_lt hb')]
      exact (hf b hb).1
  done := by
    intro X hP hw hK hc i pins s σ H E I hf st hg
    subst hP hw hK
    obtain ⟨⟨old, he⟩, hit, hne, hai, hae⟩ := st
    obtain ⟨xs, hq, hx⟩ := hg
    obtain ⟨its, rv, p, hz⟩ := I.tuple hq
    obtain ⟨f0, f1, f2, f3, f4, f5⟩ := hf it (by simp)
    have hl := rv.length
    have hlen : its.length ≤ i := by omega
    refine tw_enum_end he hit p (by simpa using hlen) (I.ok.hd hc) fun h' eb => ⟨rfl, I.turned (t' := s.toks) (fun b o hb q => eb b o hb q) f0 f1 f3 f4 f5⟩
  self := fun A i s Q E ⟨⟨_, he⟩, _⟩ h => wpAny_pyIter_enum he h
def iEnumT (K : PySem.W.Frag) (ta : TA) : TI := fun σ H R => ta σ H fun vs H1 => ∃ a xs, vs = [.ref a] ∧ SqT K H1 a xs ∧ R (IteT K a) H1
theorem pi_enumT {X : Cx} {e : Expr} {ta : TA} {p pos tpos : Pos} {elts : List Expr} {kk : Nat} (hg : Gl X "enumerate") (hm : X.mg "enumerate" = none) (ha : PA X [e] ta)
    (hs : starEach [e] X.env = (false, eval e X.env) :: starEach [] X.env := by rfl) (hpl : (backTo pos (starEach [] X.env)).any (·.1) = false := by rfl) :
    PI X (.Tuple elts kk tpos) (.Call (.Name "enumerate" p) [e] [] pos) (iEnumT X.K ta) := by
  refine ⟨fun pins s σ H R I h => ?_⟩
  refine Call_ (ld_blt I hg hm PyProof.Rows.boot_enumerate (PyProof.Rows.callWith_type1 (thn (ha.run pos pins s σ H _ I h) fun us s1 ⟨vs, H1, I1, r1, q1⟩ => ?_) hs hpl))
  obtain ⟨a, xs, rfl, hq, q⟩ := q1
  cases r1 with
  | cons r rr =>
    cases rr
    cases r
    obtain ⟨its, rv, p', hz⟩ := I1.tuple hq
    have hal : a < s1.heap.objs.size := p'.lt
    refine tw_enum_call (begins_tuple a its.toArray) p' fun h' he ho hsz hk => wpAny_pyIter_enum he ?_
    have I2 : Inv X pins σ H1 { s1 with heap := h' } := I1.kept (t' := s1.toks) hk
    refine ⟨s1.heap.objs.size + 1, [s1.heap.objs.size + 1, s1.heap.objs.size], _, _, H1, rfl, I2, turn_enumT a (s1.heap.objs.size + 1) s1.heap.objs.size, ⟨⟨.none, he⟩, ⟨_, ho, rfl, rfl⟩, Nat.succ_ne_self _, Nat.ne_of_lt hal, Nat.ne_of_lt (Nat.lt_succ_of_lt hal)⟩, fun b hb => ?_, q⟩
    have hle : s1.heap.objs.size ≤ b := by
      rcases (by simpa using hb : b = s1.heap.objs.size + 1 ∨ b = s1.heap.objs.size) with z | z
      · rw [z]; exact Nat.le_add_right _ _
      · rw [z]; exact Nat.le_refl _
    exact I1.fpOk hle (I1.hok.fresh hle)
/-- the pairs (i, item) -/
def enumD (ds : List PyData) : List PyData := ds.mapIdx fun i d => .tuple [.int (i : Int), d]
section
variable {X : Cx} {ρ : Env'} {e : Expr} {ds es : List PyData} {p pos tpos : Pos} {elts : List Expr} {kk : Nat}
theorem enumD_get {i : Nat} {d : PyData} (h : (enumD ds)[i]? = some d) : ∃ x, ds[i]? = some x ∧ d = .tuple [.int (i : Int), x] := by
  unfold enumD at h
  rw [List.getElem?_mapIdx] at h
  obtain ⟨x, h1, h2⟩ := Option.map_eq_some_iff.mp h
  exact ⟨x, h1, h2.symm⟩
theorem pair_new {F1 H : Hp} {T : Addr} {v1 v2 : V} {d1 d2 : PyData} (e2 : Same F1 H) (hT : H T = none) (r1 : Rp F1 v1 d1) (r2 : Rp F1 v2 d2) : ∃ F2, Grow F1 H F2 (upd H T (.tup [v1, v2])) ∧ Rp F2 (.ref T) (.tuple [d1, d2]) :=
  have sN : Same F1 (upd F1 T (.tup [v1, v2])) := Same.upd_new (same_none e2 hT)
  ⟨_, Grow.new e2 hT, .tup upd_same (.cons (r1.mono sN) (.cons (r2.mono sN) .nil))⟩
theorem di_enumT (ha : DA X ρ [e] [.tuple ds]) (hm : X.mg "enumerate" = none) (hg : Gl X "enumerate" := by rfl) (hs : starEach [e] X.env = (false, eval e X.env) :: starEach [] X.env := by rfl) (hpl : (backTo pos (starEach [] X.env)).any (·.1) = false := by rfl) :
    DI X ρ (.Tuple elts kk tpos) (.Call (.Name "enumerate" p) [e] [] pos) (enumD ds) :=
  PI.imp (pi_enumT hg hm ha hs hpl) fun σ H R ⟨F, ok, k⟩ => ⟨F, ok, fun vs F2 H2 g r => by
    cases r with
    | cons r rr =>
      cases rr
      obtain ⟨a, xs, rfl, h1, r1⟩ := r.tup_inv
      refine ⟨a, xs, rfl, SqT.of (g.s _ _ h1), k _ F2 H2 g fun i F1 H' e1 e2 => ⟨fun d hd => ?_, fun hn => ?_⟩⟩
      · obtain ⟨x, h3, rfl⟩ := enumD_get hd
        obtain ⟨v, hx, rx⟩ := r1.get h3
        have hs : SqT X.K H' a xs := SqT.of (e2 _ _ (e1 _ _ h1))
        refine ⟨⟨xs, v, hs, hx⟩, fun y H'' ⟨T, z, q1, q2, q3, q4⟩ => ?_⟩
        have := q4 xs hs
        rw [hx] at this; cases this
        subst q1 q3
        exact pair_new e2 q2 (.int _) (rx.mono e1)
      · have hl : ds.length ≤ i := by simpa [enumD] using hn
        exact ⟨xs, SqT.of (e2 _ _ (e1 _ _ h1)), by rw [r1.len]; exact hl⟩⟩
theorem di_enumL (ha : DA X ρ [e] [.list ds]) (hm : X.mg "enumerate" = none) (hg : Gl X "enumerate" := by rfl) (hs : starEach [e] X.env = (false, eval e X.env) :: starEach [] X.env := by rfl) (hpl : (backTo pos (starEach [] X.env)).any (·.1) = false := by rfl) :
    DI X ρ (.Tuple elts kk tpos) (.Call (.Name "enumerate" p) [e] [] pos) (enumD ds) :=
  PI.imp (pi_enum hg hm ha hs) fun σ H R ⟨F, ok, k⟩ => ⟨F, ok, fun vs F2 H2 g r => by
    cases r with
    | cons r rr =>
      cases rr
      obtain ⟨a, xs, rfl, h1, r1⟩ := r.lst_inv
      refine ⟨a, xs, rfl, SqL.of (g.s _ _ h1), k _ F2 H2 g fun i F1 H' e1 e2 => ⟨fun d hd => ?_, fun hn => ?_⟩⟩
      · obtain ⟨x, h3, rfl⟩ := enumD_get hd
        obtain ⟨v, hx, rx⟩ := r1.get h3
        have hs : SqL X.K H' a xs := SqL.of (e2 _ _ (e1 _ _ h1))
        refine ⟨⟨xs, v, hs, hx⟩, fun y H'' ⟨T, z, q1, q2, q3, q4⟩ => ?_⟩
        have := q4 xs hs
        rw [hx] at this; cases this
        subst q1 q3
        exact pair_new e2 q2 (.int _) (rx.mono e1)
      · have hl : ds.length ≤ i := by simpa [enumD] using hn
        exact ⟨xs, SqL.of (e2 _ _ (e1 _ _ h1)), by rw [r1.len]; exact hl⟩⟩
/-- zip of two tuples, of two lists -/
def zipD (ds es : List PyData) : List PyData := List.zipWith (fun a b => .tuple [a, b]) ds es
theorem zipD_get {i : Nat} {d : PyData} (h : (zipD ds es)[i]? = some d) : ∃ x y, ds[i]? = some x ∧ es[i]? = some y ∧ d = .tuple [x, y] := by
  unfold zipD at h
  rw [List.getElem?_zipWith] at h
  cases h1 : ds[i]? with
  | none => rw [h1] at h; simp at h
  | some x =>
    cases h2 : es[i]? with
    | none => rw [h1, h2] at h; simp at h
    | some y => rw [h1, h2] at h; simp at h; exact ⟨x, y, rfl, rfl, h.symm⟩
theorem zipD_none {i : Nat} (h : (zipD ds es)[i]? = none) : ds.length ≤ i ∨ es.length ≤ i := by
  have := List.getElem?_eq_none_iff.mp h
  simp [zipD] at this
  omega
variable {e2 : Expr}
theorem di_zipT (ha : DA X ρ [e, e2] [.tuple ds, .tuple es]) (hm : X.mg "zip" = none) (hg : Gl X "zip" := by rfl) (hs : starEach [e, e2] X.env = (false, eval e X.env) :: starEach [e2] X.env := by rfl) (hpl : (backTo pos (starEach [e2] X.env)).any (·.1) = false := by rfl) :
    DI X ρ (.Tuple elts kk tpos) (.Call (.Name "zip" p) [e, e2] [] pos) (zipD ds es) :=
  PI.imp (RZ.pi_zipA hg hm ha hs hpl) fun σ H R ⟨F, ok, k⟩ => ⟨F, ok, fun vs F2 H2 g r => by
    cases r with
    | cons r rr =>
      cases rr with
      | cons r' rr =>
        cases rr
        obtain ⟨a, xs, rfl, h1, r1⟩ := r.tup_inv
        obtain ⟨b, ys, rfl, h2, r2⟩ := r'.tup_inv
        refine ⟨a, b, xs, ys, rfl, .inr ⟨SqT.of (g.s _ _ h1), SqT.of (g.s _ _ h2), k _ F2 H2 g fun i F1 H' e1 e2 => ⟨fun d hd => ?_, fun hn => ?_⟩⟩⟩
        · obtain ⟨x, y, h3, h4, rfl⟩ := zipD_get hd
          obtain ⟨v, hx, rx⟩ := r1.get h3
          obtain ⟨u, hy, ry⟩ := r2.get h4
          have hs1 : SqT X.K H' a xs := SqT.of (e2 _ _ (e1 _ _ h1))
          have hs2 : SqT X.K H' b ys := SqT.of (e2 _ _ (e1 _ _ h2))
          refine ⟨⟨xs, ys, v, u, hs1, hs2, hx, hy⟩, fun _ H'' ⟨T, z1, z2, q1, q2, q3, q4, q5⟩ => ?_⟩
          have e3 := q4 xs hs1
          have e4 := q5 ys hs2
          rw [hx] at e3; cases e3
          rw [hy] at e4; cases e4
          subst q1 q3
          exact pair_new e2 q2 (rx.mono e1) (ry.mono e1)
        · exact ⟨xs, ys, SqT.of (e2 _ _ (e1 _ _ h1)), SqT.of (e2 _ _ (e1 _ _ h2)), by rw [r1.len, r2.len]; exact zipD_none hn⟩⟩
theorem di_zipL (ha : DA X ρ [e, e2] [.list ds, .list es]) (hm : X.mg "zip" = none) (hg : Gl X "zip" := by rfl) (hs : starEach [e, e2] X.env = (false, eval e X.env) :: starEach [e2] X.env := by rfl) (hpl : (backTo pos (starEach [e2] X.env)).any (·.1) = false := by rfl) :
    DI X ρ (.Tuple elts kk tpos) (.Call (.Name "zip" p) [e, e2] [] pos) (zipD ds es) :=
  PI.imp (RZ.pi_zipA hg hm ha hs hpl) fun σ H R ⟨F, ok, k⟩ => ⟨F, ok, fun vs F2 H2 g r => by
    cases r with
    | cons r rr =>
      cases rr with
      | cons r' rr =>
        cases rr
        obtain ⟨a, xs, rfl, h1, r1⟩ := r.lst_inv
        obtain ⟨b, ys, rfl, h2, r2⟩ := r'.lst_inv
        refine ⟨a, b, xs, ys, rfl, .inl ⟨SqL.of (g.s _ _ h1), SqL.of (g.s _ _ h2), k _ F2 H2 g fun i F1 H' e1 e2 => ⟨fun d hd => ?_, fun hn => ?_⟩⟩⟩
        · obtain ⟨x, y, h3, h4, rfl⟩ := zipD_get hd
          obtain ⟨v, hx, rx⟩ := r1.get h3
          obtain ⟨u, hy, ry⟩ := r2.get h4
          have hs1 : SqL X.K H' a xs := SqL.of (e2 _ _ (e1 _ _ h1))
          have hs2 : SqL X.K H' b ys := SqL.of (e2 _ _ (e1 _ _ h2))
          refine ⟨⟨xs, ys, v, u, hs1, hs2, hx, hy⟩, fun _ H'' ⟨T, z1, z2, q1, q2, q3, q4, q5⟩ => ?_⟩
          have e3 := q4 xs hs1
          have e4 := q5 ys hs2
          rw [hx] at e3; cases e3
          rw [hy] at e4; cases e4
          subst q1 q3
          exact pair_new e2 q2 (rx.mono e1) (ry.mono e1)
        · exact ⟨xs, ys, SqL.of (e2 _ _ (e1 _ _ h1)), SqL.of (e2 _ _ (e1 _ _ h2)), by rw [r1.len, r2.len]; exact zipD_none hn⟩⟩
end
end Tw

namespace Tw
open PySem PySem.Spec PyProof.Rows L2
/-! ## sorted of pairs -/
/-- (a, b) ahead of (c, d) or like it -/
def leP (x y : Int × Int) : Bool := decide (x.1 < y.1 ∨ (x.1 = y.1 ∧ x.2 ≤ y.2))
def pairD (x : Int × Int) : PyData := .tuple [.int x.1, .int x.2]
def sortP (xs : List (Int × Int)) : List (Int × Int) := xs.mergeSort leP
theorem leP_iff {x y : Int × Int} : leP x y = true ↔ (x.1 < y.1 ∨ (x.1 = y.1 ∧ x.2 ≤ y.2)) := by simp [leP]
theorem sortP_perm (xs : List (Int × Int)) : (sortP xs).Perm xs := List.mergeSort_perm _ _
theorem sortP_sorted (xs : List (Int × Int)) : (sortP xs).Pairwise (fun a b => leP a b = true) :=
  List.pairwise_mergeSort (fun a b c h1 h2 => by simp only [leP_iff] at *; omega) (fun a b => by simp only [Bool.or_eq_true, leP_iff]; omega) _
theorem sortP_of {xs ys : List (Int × Int)} (hp : ys.Perm xs) (hs : ys.Pairwise (fun a b => leP a b = true)) : ys = sortP xs := by
  refine List.Perm.eq_of_pairwise (le := fun a b => leP a b = true) (fun a b _ _ h1 h2 => ?_) hs (sortP_sorted xs) (hp.trans (sortP_perm xs).symm)
  simp only [leP_iff] at *
  exact Prod.ext (by omega) (by omega)
theorem Rp.pair_inj {F : Hp} {v : V} {p q : Int × Int} (h : Rp F v (pairD p)) (h' : Rp F v (pairD q)) : p = q := by
  obtain ⟨a, xs, rfl, h1, r1⟩ := h.tup_inv
  obtain ⟨b, ys, e, h2, r2⟩ := h'.tup_inv
  cases e
  rw [h1] at h2; cases h2
  cases r1 with
  | cons r1 t => cases t with
    | cons r1' t => cases r2 with
      | cons r2 t2 => cases t2 with
        | cons r2' t2 =>
          have e1 := r1.int_inv.symm.trans r2.int_inv
          have e2 := r1'.int_inv.symm.trans r2'.int_inv
          exact Prod.ext (V.int.inj e1) (V.int.inj e2)
theorem RpA.pairs_get {F : Hp} : ∀ {xs : List V} {ps : List (Int × Int)}, RpA F xs (ps.map pairD) → ∀ k : V → Int × Int, (∀ v p, Rp F v (pairD p) → k v = p) → xs.map k = ps
  | _, [], .nil, _, _ => rfl
  | _, p :: ps, .cons r t, k, h => by rw [List.map_cons, h _ p r, t.pairs_get k h]
theorem RpA.of_mem {F : Hp} {f : V → PyData} : ∀ {ys : List V}, (∀ y ∈ ys, Rp F y (f y)) → RpA F ys (ys.map f)
  | [], _ => .nil
  | y :: ys, h => .cons (h y List.mem_cons_self) (RpA.of_mem fun z hz => h z (List.mem_cons_of_mem _ hz))
theorem RpA.mem {F : Hp} : ∀ {xs : List V} {ds : List PyData}, RpA F xs ds → ∀ x ∈ xs, ∃ d ∈ ds, Rp F x d
  | _, _, .nil, x, h => by cases h
  | _, _, .cons r t, x, h => by
    rcases List.mem_cons.mp h with e | h
    · subst e; exact ⟨_, List.mem_cons_self, r⟩
    · obtain ⟨d, h1, h2⟩ := t.mem x h; exact ⟨d, List.mem_cons_of_mem _ h1, h2⟩
open Classical in
theorem v_sortP {K : PySem.W.Frag} {ps : List (Int × Int)} : VN (rSortedPO K) [.list (ps.map pairD)] (.list ((sortP ps).map pairD)) := VN1 fun F H v e r Q k => by
  obtain ⟨a, xs, rfl, ha, rx⟩ := r.lst_inv
  let kk : V → Int × Int := fun v => if h : ∃ p, Rp F v (pairD p) then h.choose else (0, 0)
  have hk : ∀ v p, Rp F v (pairD p) → kk v = p := fun v p hv => by
    have h : ∃ p, Rp F v (pairD p) := ⟨p, hv⟩
    show (if h : ∃ p, Rp F v (pairD p) then h.choose else (0, 0)) = p
    rw [dif_pos h]
    exact h.choose_spec.pair_inj hv
  have hm := rx.pairs_get kk hk
  have hx : ∀ x ∈ xs, Rp F x (pairD (kk x)) := fun x hx => by
    obtain ⟨d, h1, h2⟩ := rx.mem x hx
    obtain ⟨p, _, rfl⟩ := List.mem_map.mp h1
    rw [hk x p h2]; exact h2
  refine ⟨a, xs, kk, rfl, SqL.of (e _ _ ha), fun x hxx => ?_, fun ys p h1 h2 hp => ?_⟩
  · obtain ⟨t, zs, rfl, h3, r3⟩ := (hx x hxx).tup_inv
    refine ⟨t, rfl, ?_⟩
    cases r3 with
    | cons r3 t3 => cases t3 with
      | cons r4 t4 =>
        cases t4
        have := e _ _ h3
        rw [r3.int_inv, r4.int_inv] at this
        exact this
  · have hperm : (ys.map kk).Perm ps := by rw [← hm]; exact h2.perm.map kk
    have hsrt : (ys.map kk).Pairwise (fun a b => leP a b = true) := by
      rw [List.pairwise_map]
      refine h1.imp fun {x y} h => ?_
      have := SrtO.lexB_no.mp h
      rw [leP_iff]
      omega
    have hs := sortP_of hperm hsrt
    refine k _ _ _ (Grow.new e hp) (.lst upd_same (RpA.mono (Same.upd_new (same_none e hp)) ?_))
    rw [← hs, List.map_map]
    exact RpA.of_mem fun y hy => hx y (h2.perm.mem_iff.mp hy)

/-! ## short forms -/
/-- a tuple of ints -/
def wiD (ws : List Int) : PyData := .tuple (ws.map .int)
theorem flat_ints (ns : List Int) : (ns.map PyData.int).all flatD = true := by simp [flatD]
theorem inD_ints (i : Int) (ns : List Int) : inD (.int i) (ns.map .int) = decide (i ∈ ns) := by
  unfold inD inV
  rw [List.map_map, List.any_map]
  induction ns with
  | nil => simp
  | cons n ns ih =>
    rw [List.any_cons, ih]
    show ((n == i) || decide (i ∈ ns)) = decide (i ∈ n :: ns)
    by_cases h : i = n
    · subst h; simp
    · have h' : ¬ n = i := fun z => h z.symm
      simp [h, h']
theorem v_inI {K : PySem.W.Frag} {i : Int} {ns : List Int} : V2 (rIn K false) (.int i) (.tuple (ns.map .int)) (.bool (decide (i ∈ ns))) := by
  have := v_inT (K := K) (neg := false) (d := .int i) (ds := ns.map .int) rfl (flat_ints ns)
  rwa [if_neg (by decide), inD_ints] at this
theorem v_ninI {K : PySem.W.Frag} {i : Int} {ns : List Int} : V2 (rIn K true) (.int i) (.tuple (ns.map .int)) (.bool (!decide (i ∈ ns))) := by
  have := v_inT (K := K) (neg := true) (d := .int i) (ds := ns.map .int) rfl (flat_ints ns)
  rwa [if_pos rfl, inD_ints] at this
/-- the end of a block, some slots forgotten -/
theorem dss_nilF {X : Cx} {ex : List Addr} {F0 H0 : Hp} {ρ : Env'} {A : Aims} (is : List Nat) (h : A.N (wipeE ρ is)) : DSs X ex F0 H0 ρ [] A := by
  induction is generalizing A with
  | nil => exact dss_nil h
  | cons i is ih =>
    have step : ∀ (ρ' : Env'), DSs X ex F0 H0 (ρ'.set i .no) [] A → DSs X ex F0 H0 ρ' [] A := fun ρ' h => dss_forget i h
    -- told from the inmost: the tail's slots first
    have gen : ∀ (js : List Nat) (ρ' : Env'), DSs X ex F0 H0 (wipeE ρ' js) [] A → DSs X ex F0 H0 ρ' [] A := by
      intro js
      induction js with
      | nil => intro ρ' h; exact h
      | cons j js ihj => intro ρ' h; exact ihj ρ' (dss_forget j h)
    exact gen (i :: is) ρ (dss_nil h)
/-- x = [.. for ..] on one line -/
theorem dss_setLc {X : Cx} {ex : List Addr} {F0 H0 : Hp} {ρ : Env'} {sts : List Stmt} {A : Aims} {α : Type} {xs : List α} {enc : α → PyData} {elt tg iter : Expr} {ifs : List Expr} {scope : Scope} {pos : Pos} {own : List (Str × Nat)} {d : PyData}
    (i : Nat) {y : Str} {py spos : Pos} (g : α → Env') (b : α → Bool) (f : α → PyData) (is : List Nat) (hc : X.calm = true) (hN : X.N.Nodup) (ok : BlkOk X.N X.env.scope scope own) (hi : DI X ρ tg iter (xs.map enc))
    (hg : ∀ x ∈ xs, Blk X scope fun Y => DG Y (wipeE ρ (own.map (·.2))) tg (enc x) (g x) is)
    (ht : ∀ x ∈ xs, Blk X scope fun Y => DTs Y (g x) ifs (b x))
    (he : ∀ x ∈ xs, b x = true → Blk X scope fun Y => DE Y (g x) elt (f x))
    (his : ∀ i ∈ is, i ∈ own.map (·.2)) (hl : xs.length ≤ sizeLine) (hd : PyData.list ((xs.filter b).map f) = d) (k : DSs X ex F0 H0 (ρ.set i (.dat d)) sts A)
    (hy : X.N[i]? = some y := by rfl) (hk : X.env.scope.kind = .function := by rfl) (hyl : X.env.scope.names.lookup y = some .local := by rfl) (hln : (py.line == pos.line) = true := by rfl)
    (ha : (scope.names.any fun (n, k) => n == y && (k == .local || k == .cell)) = false := by rfl) (hs : ∀ x, foldedSetIterable iter X.env x = pure x := by intro _; rfl) :
    DSs X ex F0 H0 ρ (.Assign [.Name y py] (.ListComp elt [⟨tg, iter, ifs, 0⟩] scope pos) spos :: sts) A := by
  subst hd
  refine dss_seq (N1 := fun ρ' => ρ' = ρ.set i (.dat (.list ((xs.filter b).map f)))) ?_ fun _ h => h ▸ k
  exact PS.imp (ps_lcD i g b f is hc hN ok hi hg ht he his hl hy hk hyl hln ha hs) fun D σ H ⟨F, a, n, r, b, c⟩ => ⟨F, a.ok, fun v F2 H2 g rv => n _ _ F2 H2 rfl g.f ((a.grow g).setD rv)⟩
end Tw

/-! Tw: expressions that change a thing of the def's own (a deck), and things newly made that will change -/
namespace Tw
open PySem PySem.Spec PyProof.Rows L2

/-! ## something newly made -/
def tN (ρ : Env') (w : Ow) : TE := fun σ H Q => ∃ F, Ok F H ρ σ ∧ ∀ p ho F2 H2, Grow F H F2 H2 → H p = none → F2 p = none → H2 p = some ho → w.φ F2 ho → Q (.ref p) H2
abbrev DN (X : Cx) (ρ : Env') (e : Expr) (w : Ow) : Prop := PE X e (tN ρ w)
/-! ## expressions with an effect: P what is said of the datum, ρ' what is known behind -/
def tW (ex : List Addr) (ρ : Env') (P : PyData → Prop) (ρ' : Env') : TE := fun σ H Q => ∃ F, Ok F H ρ σ ∧ ∀ d v F2 H2, P d → GrowX ex F H F2 H2 → Ok F2 H2 ρ' σ → Rp F2 v d → Q v H2
def tWA (ex : List Addr) (ρ : Env') (P : List PyData → Prop) (ρ' : Env') : TA := fun σ H Q => ∃ F, Ok F H ρ σ ∧ ∀ ds vs F2 H2, P ds → GrowX ex F H F2 H2 → Ok F2 H2 ρ' σ → RpA F2 vs ds → Q vs H2
abbrev WE (X : Cx) (ex : List Addr) (ρ : Env') (e : Expr) (P : PyData → Prop) (ρ' : Env') : Prop := PE X e (tW ex ρ P ρ')
abbrev WA (X : Cx) (ex : List Addr) (ρ : Env') (es : List Expr) (P : List PyData → Prop) (ρ' : Env') : Prop := PA X es (tWA ex ρ P ρ')
section
variable {X : Cx} {ex : List Addr} {ρ ρ1 ρ2 : Env'} {a b e : Expr} {es : List Expr} {P P1 : PyData → Prop} {P2 : PyData → PyData → Prop} {PA1 PA2 : List PyData → Prop} {d : PyData} {ds : List PyData} {pos : Pos}
theorem we_d (h : DE X ρ e d) (hP : P d) : WE X ex ρ e P ρ := PE.imp h fun σ H Q ⟨F, ok, k⟩ => ⟨F, ok, fun v F2 H2 g r => k d v F2 H2 hP g.up (ok.grow g) r⟩
theorem we_imp {P' : PyData → Prop} (h : WE X ex ρ e P ρ1) (i : ∀ d, P d → P' d) : WE X ex ρ e P' ρ1 := PE.imp h fun σ H Q ⟨F, ok, k⟩ => ⟨F, ok, fun d v F2 H2 hp g o r => k d v F2 H2 (i d hp) g o r⟩
theorem we_op {op : Operator} {r : R2} (ho : OpR X (binaryOp op) r) (ha : WE X ex ρ a P1 ρ1) (hb : ∀ d1, P1 d1 → WE X ex ρ1 b (P2 d1) ρ2) (hr : ∀ d1 d2, P1 d1 → P2 d1 d2 → ∃ d, V2 r d1 d2 d ∧ P d) : WE X ex ρ (.BinOp a op b pos) P ρ2 :=
  PE.imp (pe_op ho ha (PE.any (c := fun d1 => P1 d1) (t := fun d1 => tW ex ρ1 (P2 d1) ρ2) hb)) fun σ H Q ⟨F, ok, k⟩ => ⟨F, ok, fun d1 v1 F1 H1 h1 g1 o1 r1 => ⟨d1, h1, F1, o1, fun d2 v2 F2 H2 h2 g2 o2 r2 => by
    obtain ⟨d, hv, hp⟩ := hr d1 d2 h1 h2
    exact hv F2 H2 v1 v2 o2.s (r1.mono g2.f) r2 Q fun v F3 H3 g3 r3 => k d v F3 H3 hp (g1.trans (g2.trans g3.up)) (o2.grow g3) r3⟩⟩
theorem we_ix {r : R2} (hx : IxR X r) (ha : WE X ex ρ a P1 ρ1) (hb : ∀ d1, P1 d1 → WE X ex ρ1 b (P2 d1) ρ2) (hr : ∀ d1 d2, P1 d1 → P2 d1 d2 → ∃ d, V2 r d1 d2 d ∧ P d) (hs : PlainIx b := by exact fun _ _ => rfl) : WE X ex ρ (.Subscript a b pos) P ρ2 :=
  PE.imp (pe_ix hx ha (PE.any (c := fun d1 => P1 d1) (t := fun d1 => tW ex ρ1 (P2 d1) ρ2) hb) hs) fun σ H Q ⟨F, ok, k⟩ => ⟨F, ok, fun d1 v1 F1 H1 h1 g1 o1 r1 => ⟨d1, h1, F1, o1, fun d2 v2 F2 H2 h2 g2 o2 r2 => by
    obtain ⟨d, hv, hp⟩ := hr d1 d2 h1 h2
    exact hv F2 H2 v1 v2 o2.s (r1.mono g2.f) r2 Q fun v F3 H3 g3 r3 => k d v F3 H3 hp (g1.trans (g2.trans g3.up)) (o2.grow g3) r3⟩⟩
theorem wa_nil : WA X ex ρ [] (fun ds => ds = []) ρ := PA.imp pa_nil fun σ H Q ⟨F, ok, k⟩ => k [] _ F H rfl (GrowX.refl ok.s) ok .nil
theorem wa_d (h : DA X ρ es ds) (hP : PA1 ds) : WA X ex ρ es PA1 ρ := PA.imp h fun σ H Q ⟨F, ok, k⟩ => ⟨F, ok, fun v F2 H2 g r => k ds v F2 H2 hP g.up (ok.grow g) r⟩
theorem wa_imp {P' : List PyData → Prop} (h : WA X ex ρ es PA1 ρ1) (i : ∀ d, PA1 d → P' d) : WA X ex ρ es P' ρ1 := PA.imp h fun σ H Q ⟨F, ok, k⟩ => ⟨F, ok, fun d v F2 H2 hp g o r => k d v F2 H2 (i d hp) g o r⟩
theorem wa_cons (ha : WE X ex ρ e P1 ρ1) (hr : WA X ex ρ1 es PA2 ρ2) (hs : starEach (e :: es) X.env = (false, eval e X.env) :: starEach es X.env := by rfl) : WA X ex ρ (e :: es) (fun ds => ∃ d ds', ds = d :: ds' ∧ P1 d ∧ PA2 ds') ρ2 :=
  PA.imp (pa_cons ha hr hs) fun σ H Q ⟨F, ok, k⟩ => ⟨F, ok, fun d v F2 H2 hp g o r => ⟨F2, o, fun ds vs F3 H3 hp3 g3 o3 r3 => k _ _ F3 H3 ⟨d, ds, rfl, hp, hp3⟩ (g.trans g3) o3 (.cons (r.mono g3.f) r3)⟩⟩
theorem we_tup {k : Nat} (h : WA X ex ρ es PA1 ρ1) (hP : ∀ ds, PA1 ds → ds.length ≤ 1000 ∧ P (.tuple ds)) : WE X ex ρ (.Tuple es k pos) P ρ1 :=
  PE.imp (pe_tup h) fun σ H Q ⟨F, ok, k⟩ => ⟨F, ok, fun ds vs F2 H2 hp g o r => ⟨by rw [r.len]; exact Nat.le_trans (hP ds hp).1 (by decide), fun p hpn => k _ _ _ _ (hP ds hp).2 (g.trans (Grow.new g.s hpn).up) (o.grow (Grow.new g.s hpn)) (.tup upd_same (r.mono (Same.upd_new (same_none g.s hpn))))⟩⟩
theorem we_lst (h : WA X ex ρ es PA1 ρ1) (hP : ∀ ds, PA1 ds → ds.length ≤ 1000 ∧ P (.list ds)) : WE X ex ρ (.List es pos) P ρ1 :=
  PE.imp (pe_lst h) fun σ H Q ⟨F, ok, k⟩ => ⟨F, ok, fun ds vs F2 H2 hp g o r => ⟨by rw [r.len]; exact Nat.le_trans (hP ds hp).1 (by decide), fun p hpn => k _ _ _ _ (hP ds hp).2 (g.trans (Grow.new g.s hpn).up) (o.grow (Grow.new g.s hpn)) (.lst upd_same (r.mono (Same.upd_new (same_none g.s hpn))))⟩⟩
theorem we_callTy {x : Str} {p : Pos} {id : String} {r : List V → Hp → VK → Prop} (hc : CallR X (.type id) r) (hr : ∀ ds, PA1 ds → ∃ d, VN r ds d ∧ P d) (hm : X.mg x = none) (hv : bootBuiltins x = some (.type id)) (ha : WA X ex ρ (e :: es) PA1 ρ1) (hg : Gl X x := by rfl) (hn : x ≠ "__name__" := by decide) (hdb : (x == ("__debug__" : Str)) = false := by decide)
    (he : starEach (e :: es) X.env = (false, eval e X.env) :: starEach es X.env := by rfl) (hpl : (backTo pos (starEach es X.env)).any (·.1) = false := by rfl) : WE X ex ρ (.Call (.Name x p) (e :: es) [] pos) P ρ1 :=
  PE.imp (pe_callTy hc hg hm hv ha hn hdb he hpl) fun σ H Q ⟨F, ok, k⟩ => ⟨F, ok, fun ds vs F2 H2 hp g o r => by
    obtain ⟨d, hv, hP⟩ := hr ds hp
    exact hv F2 H2 vs g.s r Q fun v F3 H3 g3 r3 => k d v F3 H3 hP (g.trans g3.up) (o.grow g3) r3⟩
theorem we_callB {x : Str} {p : Pos} {id : String} {r : List V → Hp → VK → Prop} (hc : CallR X (.builtin id) r) (hr : ∀ ds, PA1 ds → ∃ d, VN r ds d ∧ P d) (hm : X.mg x = none) (hv : bootBuiltins x = some (.builtin id)) (ha : WA X ex ρ (e :: es) PA1 ρ1) (hg : Gl X x := by rfl) (hn : x ≠ "__name__" := by decide) (hdb : (x == ("__debug__" : Str)) = false := by decide)
    (he : starEach (e :: es) X.env = (false, eval e X.env) :: starEach es X.env := by rfl) (hpl : (backTo pos (starEach es X.env)).any (·.1) = false := by rfl) : WE X ex ρ (.Call (.Name x p) (e :: es) [] pos) P ρ1 :=
  PE.imp (pe_callB hc hg hm hv ha hn hdb he hpl) fun σ H Q ⟨F, ok, k⟩ => ⟨F, ok, fun ds vs F2 H2 hp g o r => by
    obtain ⟨d, hv, hP⟩ := hr ds hp
    exact hv F2 H2 vs g.s r Q fun v F3 H3 g3 r3 => k d v F3 H3 hP (g.trans g3.up) (o.grow g3) r3⟩
end

/-! ## the deck -/
/-- a list of three whole numbers, the turn at most n -/
def Ow.deck (n : Int) : Ow := ⟨fun _ o => ∃ a b c : Int, o = .lst [.int a, .int b, .int c] ∧ 0 ≤ a ∧ 0 ≤ b ∧ b < 2147483579 ∧ 0 ≤ c ∧ c ≤ n, fun _ h => h, fun ⟨a, b, c, h, _⟩ ys z => by rw [h] at z; cases z⟩
/-- a promise of a def whose first argument is a deck: up to cost turns go by, Pre of the other arguments, P of them and the answer -/
def spK (cost : Int) (Pre : List PyData → Prop) (P : List PyData → PyData → Prop) : Sp := fun vs H Q _ => ∃ F p n vs' ds, Same F H ∧ F p = none ∧ (∃ ho, H p = some ho ∧ (Ow.deck n).φ F ho) ∧ n + cost ≤ 1000000000 ∧ vs = .ref p :: vs' ∧ RpA F vs' ds ∧ Pre ds ∧
  ∀ d v F2 H2, P ds d → GrowX [p] F H F2 H2 → (∃ ho, H2 p = some ho ∧ (Ow.deck (n + cost)).φ F2 ho) → Rp F2 v d → Q v H2
section
variable {X : Cx} {ρ : Env'} {F H F2 H2 : Hp} {σ : L2.St} {ex : List Addr} {p : Addr} {i : Nat} {n m : Int}
/-- behind a change of the deck alone -/
theorem Ok.deck {w' : Ow} (h : Ok F H ρ σ) (hi : ρ[i]? = some (.own p w')) (g : GrowX [p] F H F2 H2) (w : Ow) (hd : ∃ ho, H2 p = some ho ∧ w.φ F2 ho) : Ok F2 H2 (ρ.set i (.own p w)) σ := by
  obtain ⟨h1, h2, ho1, h3, h4⟩ := h.own hi
  have hl : i < ρ.length := (List.getElem?_eq_some_iff.mp hi).1
  refine ⟨g.s, by simp [h.len], fun j e hj => ?_, fun j k q q' v v' hj hk hjk => ?_⟩
  · by_cases hij : i = j
    · subst hij
      rw [List.getElem?_set_self hl] at hj; cases hj
      exact ⟨_, h1, rfl, g.n p h2 ⟨ho1, h3, w'.nt h4⟩, hd⟩
    · rw [List.getElem?_set_ne hij] at hj
      obtain ⟨oo, e1, e2⟩ := h.at_ j e hj
      refine ⟨oo, e1, ?_⟩
      cases e with
      | no => trivial
      | dat d => obtain ⟨v, x1, x2⟩ := e2; exact ⟨v, x1, x2.mono g.f⟩
      | val v => exact e2
      | fx q u => exact ⟨e2.1, g.f _ _ e2.2⟩
      | st q w => exact ⟨e2.1, let ⟨u, hu, hw⟩ := e2.2; ⟨u, g.f _ _ hu, w.mono g.f hw⟩⟩
      | own q v =>
        obtain ⟨x1, x2, hh, x3, x4⟩ := e2
        have hq : q ∉ [p] := fun z => h.ne j i q p v _ hj hi (Ne.symm hij) (List.mem_singleton.mp z)
        exact ⟨x1, g.n q x2 ⟨hh, x3, v.nt x4⟩, hh, g.h q hh hq x3, v.mono g.f x4⟩
  · have f : ∀ {j : Nat} {q : Addr} {v : Ow}, (ρ.set i (.own p w))[j]? = some (.own q v) → ∃ v0, ρ[j]? = some (.own q v0) := fun {j q v} hj => by
      by_cases hij : i = j
      · subst hij
        rw [List.getElem?_set_self hl] at hj; cases hj
        exact ⟨_, hi⟩
      · rw [List.getElem?_set_ne hij] at hj; exact ⟨v, hj⟩
    obtain ⟨_, y1⟩ := f hj
    obtain ⟨_, y2⟩ := f hk
    exact h.ne j k q q' _ _ y1 y2 hjk
variable {k nn : Nat} {x dk : Str} {cost : Int} {Pre : List PyData → Prop} {P : List PyData → PyData → Prop} {es : List Expr} {PA1 : List PyData → Prop} {ρ1 : Env'} {pos q pd : Pos}
/-- f(deck, e, ..) -/
theorem we_call (i : Nat) (G : Cal X.prog X.w X.K X.mg X.base k x nn (spK cost Pre P)) (hr : Room k X.A) (ha : WA X [p] ρ es PA1 ρ1) (hPre : ∀ ds, PA1 ds → Pre ds) (hi0 : ρ[i]? = some (.own p (.deck m)) := by rfl) (hi : ρ1[i]? = some (.own p (.deck n)) := by rfl) (hn : n + cost ≤ 1000000000 := by decide)
    (hN : X.N[i]? = some dk := by rfl) (hv : Vis X.env.scope dk := by first | exact Or.inl rfl | exact Or.inr (Or.inl rfl) | exact Or.inr (Or.inr rfl)) (hd : (dk == ("__debug__" : Str)) = false := by decide) (hcd : (dk == ("__classdict__" : Str)) = false := by decide) (hg : Gl X x := by rfl) (hdb : (x == ("__debug__" : Str)) = false := by decide)
    (he : starEach (.Name dk pd :: es) X.env = (false, eval (.Name dk pd) X.env) :: starEach es X.env := by rfl) (hpl : (backTo pos (starEach es X.env)).any (·.1) = false := by rfl) :
    WE X [p] ρ (.Call (.Name x q) (.Name dk pd :: es) [] pos) (fun d => ∃ ds, PA1 ds ∧ P ds d) (ρ1.set i (.own p (.deck (n + cost)))) := by
  obtain ⟨f, fd, ps, h1, h2, h3, _, h4⟩ := G
  refine PE.imp (pe_call h4 hr hg h1 h2 h3 .nil pass0 (pa_cons (pe_var hN hv hd hcd) ha he) hdb he hpl) fun σ H Q ⟨F, ok, kk⟩ => ?_
  obtain ⟨e1, _⟩ := ok.own hi0
  refine ⟨_, e1, F, ok, fun ds vs F2 H2 hp g o r => ?_⟩
  show spK cost Pre P ((.ref p :: vs) ++ []) H2 Q E0
  rw [List.append_nil]
  obtain ⟨_, hp0, hdk⟩ := o.own hi
  exact ⟨F2, p, n, vs, ds, o.s, hp0, hdk, hn, rfl, r, hPre ds hp, fun d v F3 H3 hP g3 hd3 r3 => kk d v F3 H3 ⟨ds, hp, hP⟩ (g.trans g3) (o.deck hi g3 _ hd3) r3⟩
end

/-! ## statements with such expressions -/
section
variable {X : Cx} {ex : List Addr} {F0 H0 : Hp} {ρ ρ1 : Env'} {st : Stmt} {sts : List Stmt} {A : Aims} {e c : Expr} {P : PyData → Prop} {pos : Pos} {σ : L2.St} {F H F2 H2 : Hp}
/-- what may be own behind -/
def OwnLike (ρ1 ρ : Env') : Prop := ∀ (i : Nat) (p : Addr) (w : Ow), ρ1[i]? = some (.own p w) → ∃ w', ρ[i]? = some (.own p w')
theorem OwnLike.refl (ρ : Env') : OwnLike ρ ρ := fun _ _ w h => ⟨w, h⟩
theorem At.like (a : At ex F0 H0 ρ σ F H) (g : GrowX ex F H F2 H2) (o : Ok F2 H2 ρ1 σ) (l : OwnLike ρ1 ρ) : At ex F0 H0 ρ1 σ F2 H2 := ⟨a.g.trans g, o, fun i p w h => let ⟨w', h'⟩ := l i p w h; a.new i p w' h'⟩
theorem dss_setW (i : Nat) {x : Str} {pos' : Pos} (hN : X.N.Nodup) (he : WE X ex ρ e P ρ1) (l : OwnLike ρ1 ρ) (k : ∀ d, P d → DSs X ex F0 H0 (ρ1.set i (.dat d)) sts A) (hi : X.N[i]? = some x := by rfl) (hx : Loc X.env.scope x := by first | exact Or.inl rfl | exact Or.inr rfl) (hs : swapsWith e (some (.Name x pos')) pos.line X.env = pure false := by rfl)
    (hf : X.fn x = true ∨ X.env.scope.names.lookup x = some .local := by first | exact .inl rfl | exact .inr rfl) (hw : swappedStores [.Name x pos'] e X.env = pure none := by rfl) : DSs X ex F0 H0 ρ (.Assign [.Name x pos'] e pos :: sts) A :=
  dss_seq (N1 := fun ρ' => ∃ d, P d ∧ ρ' = ρ1.set i (.dat d)) (PS.imp (ps_set (i := i) hN hi hx he hs hf) fun D σ H ⟨F, a, n, r, b, c⟩ => ⟨F, a.ok, fun d v F2 H2 hp g o rv => n _ _ F2 H2 ⟨d, hp, rfl⟩ g.f ((a.like g o l).setD rv)⟩) fun _ ⟨d, hd, h⟩ => h ▸ k d hd
theorem dss_retW (he : WE X ex ρ e P ρ1) (l : OwnLike ρ1 ρ) (h : ∀ d, P d → A.R d ρ1) : DSs X ex F0 H0 ρ (.Return (some e) pos :: sts) A :=
  dss_seq (N1 := fun _ => False) (PS.imp (ps_ret he) fun D σ H ⟨F, a, n, r, b, c⟩ => ⟨F, a.ok, fun d v F2 H2 hp g o rv => r.1 d v ρ1 σ F2 H2 (h d hp) (a.like g o l) rv⟩) fun _ h => h.elim
theorem dss_asgW {tg : Expr} {is : List Nat} {ρ2 : PyData → Env'} (he : WE X ex ρ e P ρ1) (l : OwnLike ρ1 ρ) (hg : ∀ d, P d → DG X ρ1 tg d (ρ2 d) is) (k : ∀ d, P d → DSs X ex F0 H0 (ρ2 d) sts A) (hs : swapsWithSole [tg] e pos.line X.env = pure false := by rfl) (hw : swappedStores [tg] e X.env = pure none := by rfl)
    (hh1 : (assignEach [tg] X.env).map (·.2) = [assign tg X.env] := by rfl) : DSs X ex F0 H0 ρ (.Assign [tg] e pos :: sts) A :=
  dss_seq (N1 := fun ρ' => ∃ d, P d ∧ ρ' = ρ2 d) (PS.imp (ps_asg he (PG.any (c := P) (t := fun d => tDG ρ1 d (ρ2 d) is) fun d hd => (hg d hd).1) hs hw hh1) fun D σ H ⟨F, a, n, r, b, c⟩ => ⟨F, a.ok, fun d v F2 H2 hp g o rv => ⟨d, hp, F2, o, rv, fun σ' ok' _ => n _ _ F2 H2 ⟨d, hp, rfl⟩ g.f ⟨(a.like g o l).g, ok', fun i p w q => (a.like g o l).new i p w ((hg d hp).2 i p w q)⟩⟩⟩) fun _ ⟨d, hd, h⟩ => h ▸ k d hd
/-- something new that will change -/
theorem dss_own (i : Nat) {x : Str} {w : Ow} {pos' : Pos} (hN : X.N.Nodup) (he : DN X ρ e w) (k : ∀ p, DSs X ex F0 H0 (ρ.set i (.own p w)) sts A) (hi : X.N[i]? = some x := by rfl) (hx : Loc X.env.scope x := by first | exact Or.inl rfl | exact Or.inr rfl) (hs : swapsWith e (some (.Name x pos')) pos.line X.env = pure false := by rfl)
    (hf : X.fn x = true ∨ X.env.scope.names.lookup x = some .local := by first | exact .inl rfl | exact .inr rfl) (hw : swappedStores [.Name x pos'] e X.env = pure none := by rfl) : DSs X ex F0 H0 ρ (.Assign [.Name x pos'] e pos :: sts) A :=
  dss_seq (N1 := fun ρ' => ∃ p, ρ' = ρ.set i (.own p w)) (PS.imp (ps_set (i := i) hN hi hx he hs hf) fun D σ H ⟨F, a, n, r, b, c⟩ => ⟨F, a.ok, fun p ho F2 H2 g hp hF hh hw => by
    have a2 := a.grow g
    refine n _ _ F2 H2 ⟨p, rfl⟩ g.f ⟨a2.g, a2.ok.set ⟨rfl, hF, ho, hh, hw⟩ fun q w e j q' w' hj _ => ?_, fun j q w' hj => ?_⟩
    · cases e
      intro z; subst z
      obtain ⟨_, _, ho', h1, _⟩ := a.ok.own hj
      rw [hp] at h1; cases h1
    · by_cases hij : i = j
      · subst hij
        have hl : i < ρ.length := by
          have := (List.getElem?_eq_some_iff.mp hj).1
          simpa using this
        rw [List.getElem?_set_self hl] at hj; cases hj
        exact .inl (by
          cases q' : H0 p with
          | none => rfl
          | some u => exact absurd hp (a.g.k p (by rw [q']; simp)))
      · rw [List.getElem?_set_ne hij] at hj; exact a2.new j q w' hj⟩) fun _ ⟨p, h⟩ => h ▸ k p
/-- a deck may be told for older -/
theorem dss_deck (i : Nat) {p : Addr} {n : Int} (m : Int) (h : DSs X ex F0 H0 (ρ.set i (.own p (.deck m))) sts A) (hi : ρ[i]? = some (.own p (.deck n)) := by rfl) (hnm : n ≤ m := by omega) : DSs X ex F0 H0 ρ sts A :=
  PSs.imp h fun D σ H ⟨F, a, q⟩ => by
    obtain ⟨h1, h2, ho, h3, aa, b, c, e1, e2, e3, e4, e5, e6⟩ := a.ok.own hi
    have hl : i < ρ.length := (List.getElem?_eq_some_iff.mp hi).1
    have := a.write (w' := .deck m) (o := ho) hi ⟨aa, b, c, e1, e2, e3, e4, e5, by omega⟩
    have e : upd H p ho = H := by
      funext b
      by_cases hb : b = p
      · subst hb; rw [upd_same, h3]
      · rw [upd_ne hb]
    rw [e] at this
    exact ⟨F, this, q⟩
/-- xs.append(e) -/
theorem dss_appW (i : Nat) {p : Addr} {ds : List PyData} {x : Str} {px apos cpos : Pos} {PA1 : List PyData → Prop} (he : WA X ex ρ [e] PA1 ρ1) (l : OwnLike ρ1 ρ) (hP : ∀ ds, PA1 ds → ∃ d, ds = [d] ∧ P d) (hl : ds.length < sizeLine) (k : ∀ d, P d → DSs X ex F0 H0 (ρ1.set i (.own p (.lst (ds ++ [d])))) sts A) (hi0 : ρ[i]? = some (.own p (.lst ds)) := by rfl) (hi : ρ1[i]? = some (.own p (.lst ds)) := by rfl)
    (hxN : X.N[i]? = some x := by rfl) (hv : Vis X.env.scope x := by first | exact Or.inl rfl | exact Or.inr (Or.inl rfl) | exact Or.inr (Or.inr rfl)) (hd : (x == ("__debug__" : Str)) = false := by decide) (hcd : (x == ("__classdict__" : Str)) = false := by decide)
    (hbase : attributeBase (.Name x px) "append" X.env (eval (.Name x px) X.env) = eval (.Name x px) X.env := by rfl)
    (hfew : ((backTo cpos (starEach [e] X.env)).all (fun x => !x.1) && (backToKw cpos (keywordEach [] X.env)).all (fun x => x.1.isSome) && decide (([e] : List Expr).length + ([] : List Keyword).length + (if ([] : List Keyword).isEmpty then 0 else 1) < 30)) = true := by rfl)
    (hline : (apos.endLine == cpos.line) = true := by rfl) (hst : starEach [e] X.env = (false, eval e X.env) :: starEach [] X.env := by rfl) (hpl : (backTo cpos (starEach [] X.env)).any (·.1) = false := by rfl)
    (hs : swapsWith (.Call (.Attribute (.Name x px) "append" apos) [e] [] cpos) none pos.line X.env = pure false := by rfl) :
    DSs X ex F0 H0 ρ (.Expr (.Call (.Attribute (.Name x px) "append" apos) [e] [] cpos) pos :: sts) A :=
  dss_seq (N1 := fun ρ' => ∃ d, P d ∧ ρ' = ρ1.set i (.own p (.lst (ds ++ [d])))) (PS.imp (ps_expr (pe_bm PySem.F.plainAttrs_list PySem.F.slot_list_append PySem.F.type_list_append mt_append (pe_var hxN hv hd hcd) he hbase hfew hline hst hpl) hs) fun D σ H ⟨F, a, n, r, b, c⟩ => by
    obtain ⟨xs, h1, h2, h3, h4⟩ := a.ok.lstIs hi0
    refine ⟨_, h1, .inl ⟨rfl, xs, SqL.of h3⟩, F, a.ok, fun es vs F2 H2 hp g o rv => ?_⟩
    obtain ⟨d, rfl, hPd⟩ := hP es hp
    cases rv with
    | cons rv rr =>
      cases rr
      obtain ⟨xs', _, _, h5, h6⟩ := o.lstIs hi
      exact ⟨p, xs', _, rfl, rfl, h5, by rw [h6.len]; exact hl, n _ _ F2 _ ⟨d, hPd, rfl⟩ g.f ((a.like g o l).write hi ⟨_, rfl, h6.append (.cons rv .nil)⟩)⟩) fun _ ⟨d, hd, h⟩ => h ▸ k d hd
/-- an own list stands still from here on, beside a deck -/
theorem dss_freezeX (i j : Nat) {p pd : Addr} {w : Ow} {ds : List PyData} (h : DSs X [pd] F0 H0 (ρ.set i (.dat (.list ds))) sts A) (hi : ρ[i]? = some (.own p (.lst ds)) := by rfl) (hj : ρ[j]? = some (.own pd w) := by rfl) (hij : i ≠ j := by decide) : DSs X [pd] F0 H0 ρ sts A :=
  PSs.imp h fun D σ H ⟨F, a, n, r, b, c⟩ => by
    obtain ⟨xs, h3, h2, _, ok⟩ := a.ok.freeze hi
    have hl : i < ρ.length := (List.getElem?_eq_some_iff.mp hi).1
    have hne := a.ok.ne i j p pd _ w hi hj hij
    have hp0 : H0 p = none := by
      rcases a.new i p _ hi with h | h
      · exact h
      · exact (hne (List.mem_singleton.mp h)).elim
    have s1 : Same F (upd F p (.lst xs)) := Same.upd_new h2
    refine ⟨upd F p (.lst xs), ⟨⟨a.g.f.trans s1, ok.s, a.g.h, a.g.k, fun b q1 q2 => ?_, a.g.m⟩, ok, fun j q v hj => ?_⟩, fun ρ2 σ2 F3 H3 h2 s2 => n ρ2 σ2 F3 H3 h2 (s1.trans s2), r, fun ρ2 σ2 F3 H3 h2 s2 => b ρ2 σ2 F3 H3 h2 (s1.trans s2), fun ρ2 σ2 F3 H3 h2 s2 => c ρ2 σ2 F3 H3 h2 (s1.trans s2)⟩
    · have hb : b ≠ p := fun z => by subst z; exact q2.ne hp0
      rw [upd_ne hb]; exact a.g.n b q1 q2
    · by_cases hij : i = j
      · subst hij
        rw [List.getElem?_set_self hl] at hj; cases hj
      · rw [List.getElem?_set_ne hij] at hj; exact a.new j q v hj
/-- a deck is opened: its three numbers -/
theorem dss_open (i : Nat) {p : Addr} {n : Int} (h : ∀ x y z : Int, 0 ≤ x → 0 ≤ y → y < 2147483579 → 0 ≤ z → z ≤ n → DSs X ex F0 H0 (ρ.set i (.own p (.lst [.int x, .int y, .int z]))) sts A) (hi : ρ[i]? = some (.own p (.deck n)) := by rfl) : DSs X ex F0 H0 ρ sts A := by
  refine PSs.imp (PSs.any (ι := Int × Int × Int) (c := fun q => 0 ≤ q.1 ∧ 0 ≤ q.2.1 ∧ q.2.1 < 2147483579 ∧ 0 ≤ q.2.2 ∧ q.2.2 ≤ n) (t := fun q => tS ex F0 H0 (ρ.set i (.own p (.lst [.int q.1, .int q.2.1, .int q.2.2]))) A) fun q hq => h q.1 q.2.1 q.2.2 hq.1 hq.2.1 hq.2.2.1 hq.2.2.2.1 hq.2.2.2.2) fun D σ H ⟨F, a, q⟩ => ?_
  obtain ⟨h1, h2, ho, h3, aa, b, c, e1, e2, e3, e4, e5, e6⟩ := a.ok.own hi
  have := a.write (w' := .lst [.int aa, .int b, .int c]) (o := ho) hi ⟨_, e1, .cons (.int _) (.cons (.int _) (.cons (.int _) .nil))⟩
  have e : upd H p ho = H := by
    funext b
    by_cases hb : b = p
    · subst hb; rw [upd_same, h3]
    · rw [upd_ne hb]
  rw [e] at this
  exact ⟨(aa, b, c), ⟨e2, e3, e4, e5, e6⟩, F, this, q⟩
theorem deck_of {n a b c : Int} (h1 : 0 ≤ a) (h2 : 0 ≤ b) (h3 : b < 2147483579) (h4 : 0 ≤ c) (h5 : c ≤ n) : ∀ F o, (Ow.lst [.int a, .int b, .int c]).φ F o → (Ow.deck n).φ F o := fun F o ⟨xs, e, r⟩ => by
  have := RpA.ints (ns := [a, b, c]) r
  subst this
  exact ⟨a, b, c, e, h1, h2, h3, h4, h5⟩
/-- xs[j] = e, xs an own list in slot i -/
theorem dss_seti (i : Nat) {p : Addr} {ds : List PyData} {x : Str} {px tp : Pos} {ix : Expr} {d : PyData} {j : Nat} {jj : Int} (he : DE X ρ e d) (hj : DE X ρ ix (.int jj)) (hjj : ixN ds.length jj = some j) (k : DSs X ex F0 H0 (ρ.set i (.own p (.lst (ds.set j d)))) sts A) (hi : ρ[i]? = some (.own p (.lst ds)) := by rfl)
    (hxN : X.N[i]? = some x := by rfl) (hv : Vis X.env.scope x := by first | exact Or.inl rfl | exact Or.inr (Or.inl rfl) | exact Or.inr (Or.inr rfl)) (hd : (x == ("__debug__" : Str)) = false := by decide) (hcd : (x == ("__classdict__" : Str)) = false := by decide)
    (hs : swapsWithSole [.Subscript (.Name x px) ix tp] e pos.line X.env = pure false := by rfl) (hw : swappedStores [.Subscript (.Name x px) ix tp] e X.env = pure none := by rfl) (hh1 : (assignEach [.Subscript (.Name x px) ix tp] X.env).map (·.2) = [assign (.Subscript (.Name x px) ix tp) X.env] := by rfl)
    (ha : ∀ v, assign (.Subscript (.Name x px) ix tp) X.env v = (do
      let ov ← holding [v] (eval (.Name x px) X.env)
      let iv ← holding [v, ov] (eval ix X.env)
      standAt tp
      holding [v, ov, iv] (setItem ov iv v)
      release [v, ov, iv] []) := by intro _; rfl) : DSs X ex F0 H0 ρ (.Assign [.Subscript (.Name x px) ix tp] e pos :: sts) A :=
  dss_seq (N1 := fun ρ' => ρ' = ρ.set i (.own p (.lst (ds.set j d)))) (PS.imp (ps_asg he (pg_sub (pe_var hxN hv hd hcd) hj set_list ha) hs hw hh1) fun D σ H ⟨F, a, n, r, b, c⟩ => ⟨F, a.ok, fun v F2 H2 g rv => by
    have a2 := a.grow g
    obtain ⟨xs, h1, h2, h3, h4⟩ := a2.ok.lstIs hi
    refine ⟨_, h1, F2, a2.ok, fun v' F3 H3 g3 r3 => ?_⟩
    have a3 := a2.grow g3
    obtain ⟨xs', q1, q2, q3, q4⟩ := a3.ok.lstIs hi
    exact ⟨p, xs', jj, j, rfl, r3.int_inv, q3, by rw [q4.len]; exact hjj, n _ _ F3 _ rfl (g.f.trans g3.f) (a3.write hi ⟨_, rfl, q4.set j (rv.mono g3.f)⟩)⟩⟩) fun _ h => h ▸ k
end
/-! ## a def whose first argument is a deck -/
section
variable {P : Program} {w : World} {K : PySem.W.Frag} {mg : Str → Option Value} {base : Heap}
theorem fn_okK {x qual : Str} {st : Stmt} {f : Addr} {fd : FuncData} {N ps : List Str} {k : Nat} {cost : Int} {Pre : List PyData → Prop} {Pr : List PyData → PyData → Prop} (F : Fun K x qual st f fd) (S : FnScope N ps (defScope st))
    (hlen : ∀ ds, Pre ds → ds.length + 1 = ps.length)
    (hb : ∀ (p : Addr) (n : Int) ds, Pre ds → n + cost ≤ 1000000000 → ∀ (f : Addr) (cdv : Value) (A : Around) (outer : List Env) (s : Shared) (H : Hp) (E : XK) (F0 H0 : Hp), Room k (Bod P w K mg base N qual st f cdv A outer s H E).A →
      DSs (Bod P w K mg base N qual st f cdv A outer s H E) [p] F0 H0 (.own p (.deck n) :: entry ds (N.length - 1)) (defBody st) { N := fun _ => False, R := fun d ρ => Pr ds d ∧ ∃ w, ρ[0]? = some (.own p w) ∧ ∀ F o, w.φ F o → (Ow.deck (n + cost)).φ F o }) :
    FnOk P w K mg base CX0 (k + 1) f fd ps (spK cost Pre Pr) := by
  have hps : ps.length ≤ N.length := by
    have := S.pre
    rw [← this]
    simp
    omega
  refine F.ok S (fun vs H Q E h => ?_) (fun cdv A outer s H vs Q E hr h => ?_)
  · obtain ⟨F, p, n, vs', ds, e, hp, hd, hn, rfl, r, hP, _⟩ := h
    rw [List.length_cons, r.len]; exact hlen ds hP
  · obtain ⟨F0, p, n, vs', ds, e, hp, hd, hn, rfl, r, hP, kk⟩ := h
    have hl := hlen ds hP
    have ok0 : Ok F0 H (.own p (.deck n) :: entry ds (N.length - 1)) (L2.start N (.ref p :: vs')) := by
      cases N with
      | nil => have hz : ps.length ≤ 0 := hps; omega
      | cons x0 N' =>
        have o := ok_entry (N := N') e r (by simp at hps; omega)
        have hst : L2.start (x0 :: N') (.ref p :: vs') = some (.ref p) :: L2.start N' vs' := by simp [L2.start]
        rw [hst]
        have hn' : (x0 :: N').length - 1 = N'.length := by simp
        rw [hn']
        refine ⟨o.s, by simp [o.len], fun i en hi => ?_, fun i j q q' v v' hi hj hij => ?_⟩
        · cases i with
          | zero => simp at hi; subst hi; exact ⟨_, rfl, rfl, hp, hd⟩
          | succ i => simp at hi; obtain ⟨oo, h1, h2⟩ := o.at_ i en hi; exact ⟨oo, by simpa using h1, h2⟩
        · have no : ∀ (i : Nat) (q : Addr) (v : Ow), (entry ds N'.length)[i]? = some (.own q v) → False := fun i q v q1 => by
            unfold entry at q1
            by_cases h : i < ds.length
            · rw [List.getElem?_append_left (by simpa using h), List.getElem?_map] at q1
              obtain ⟨d, h1, h2⟩ := Option.map_eq_some_iff.mp q1
              cases h2
            · rw [List.getElem?_append_right (by simp; omega)] at q1
              obtain ⟨_, h2⟩ := List.getElem?_eq_some_iff.mp q1
              simp at h2
          cases i with
          | zero => cases j with
            | zero => exact (hij rfl).elim
            | succ j => simp at hj; exact (no j _ _ hj).elim
          | succ i => simp at hi; exact (no i _ _ hi).elim
    refine ⟨_, hb p n ds hP hn f cdv A outer s H E F0 H hr, F0, ⟨GrowX.refl e, ok0, fun i q w hi => ?_⟩, fun ρ' σ' F' H' hn s1 a' => hn.elim, ⟨fun d v ρ' σ' F' H' hd a' rv => ?_, fun _ _ h => h.elim⟩, fun ρ' σ' F' H' hn s1 a' => hn.elim, fun ρ' σ' F' H' hn s1 a' => hn.elim⟩
    · by_cases hi0 : i = 0
      · subst hi0; simp at hi; exact .inr (by simp [hi.1])
      · refine .inr (Classical.byContradiction fun hq => ?_)
        have hne := ok0.ne i 0 q p w (.deck n) hi rfl hi0
        obtain ⟨_, _, ho, h3, _⟩ := ok0.own hi
        cases i with
        | zero => exact hi0 rfl
        | succ i =>
          simp at hi
          unfold entry at hi
          by_cases h : i < ds.length
          · rw [List.getElem?_append_left (by simpa using h), List.getElem?_map] at hi
            obtain ⟨d, h1, h2⟩ := Option.map_eq_some_iff.mp hi
            cases h2
          · rw [List.getElem?_append_right (by simp; omega)] at hi
            obtain ⟨_, h2⟩ := List.getElem?_eq_some_iff.mp hi
            simp at h2
    · obtain ⟨hP', w, hw, hφ⟩ := hd
      obtain ⟨_, h2, ho, h3, h4⟩ := a'.ok.own hw
      exact kk d v F' H' hP' a'.g ⟨ho, h3, hφ _ _ h4⟩ rv
end
end Tw

namespace Tw
open PySem PySem.Spec PyProof.Rows L2

theorem v_fdivW {i j : Int} (h : CDivW i j) : V2 (rI CDivW fun i j => .int (i / j)) (.int i) (.int j) (.int (i / j)) := v_I (f := fun i j => .int (i / j)) (fun F i j => .int _) h
theorem v_mulW {i j : Int} (h : CMulW i j) : V2 (rI CMulW fun i j => .int (i * j)) (.int i) (.int j) (.int (i * j)) := v_I (f := fun i j => .int (i * j)) (fun F i j => .int _) h

/-! ## a, b = x, y -/
section
variable {X : Cx} {ex : List Addr} {F0 H0 : Hp} {ρ ρ1 : Env'} {st : Stmt} {sts : List Stmt} {A : Aims} {a b c : Expr} {d1 d2 : PyData} {pos px py pt pt2 : Pos} {PA1 : List PyData → Prop} {kt k2 : Nat}
theorem dss_parW (i j : Nat) {x y : Str} (hN : X.N.Nodup) (ha : WA X ex ρ [a, b] PA1 ρ1) (l : OwnLike ρ1 ρ) (k : ∀ d1 d2, PA1 [d1, d2] → DSs X ex F0 H0 ((ρ1.set i (.dat d1)).set j (.dat d2)) sts A) (h2 : ∀ ds, PA1 ds → ds.length = 2) (hc : X.calm = true := by rfl) (hi : X.N[i]? = some x := by rfl) (hj : X.N[j]? = some y := by rfl) (hij : i ≠ j := by decide)
    (hx : X.env.scope.names.lookup x = some .local := by rfl) (hy : X.env.scope.names.lookup y = some .local := by rfl)
    (hw : swappedStores [.Tuple [.Name x px, .Name y py] kt pt] (.Tuple [a, b] k2 pt2) X.env = pure (some [x, y]) := by rfl)
    (hs : swapsWithSole [.Tuple [.Name x px, .Name y py] kt pt] (.Tuple [a, b] k2 pt2) pos.line X.env = pure false := by rfl) :
    DSs X ex F0 H0 ρ (.Assign [.Tuple [.Name x px, .Name y py] kt pt] (.Tuple [a, b] k2 pt2) pos :: sts) A :=
  dss_seq (N1 := fun ρ' => ∃ d1 d2, PA1 [d1, d2] ∧ ρ' = (ρ1.set i (.dat d1)).set j (.dat d2)) (PS.imp (ps_par hc hN hi hj hij hx hy ha hw hs) fun D σ H ⟨F, a, n, r, b, c⟩ => ⟨F, a.ok, fun ds vs F2 H2 hp g o rv => by
    have hl := h2 ds hp
    match ds, hl, rv, hp with
    | [e1, e2], _, .cons r1 (.cons r2 .nil), hp => exact ⟨_, _, rfl, n _ _ F2 H2 ⟨_, _, hp, rfl⟩ g.f (((a.like g o l).setD r1).setD r2)⟩⟩) fun _ ⟨d1, d2, h, e⟩ => e ▸ k d1 d2 h
theorem dss_par (i j : Nat) {x y : Str} (hN : X.N.Nodup) (ha : DA X ρ [a, b] [d1, d2]) (k : DSs X ex F0 H0 ((ρ.set i (.dat d1)).set j (.dat d2)) sts A) (hc : X.calm = true := by rfl) (hi : X.N[i]? = some x := by rfl) (hj : X.N[j]? = some y := by rfl) (hij : i ≠ j := by decide)
    (hx : X.env.scope.names.lookup x = some .local := by rfl) (hy : X.env.scope.names.lookup y = some .local := by rfl)
    (hw : swappedStores [.Tuple [.Name x px, .Name y py] kt pt] (.Tuple [a, b] k2 pt2) X.env = pure (some [x, y]) := by rfl)
    (hs : swapsWithSole [.Tuple [.Name x px, .Name y py] kt pt] (.Tuple [a, b] k2 pt2) pos.line X.env = pure false := by rfl) :
    DSs X ex F0 H0 ρ (.Assign [.Tuple [.Name x px, .Name y py] kt pt] (.Tuple [a, b] k2 pt2) pos :: sts) A :=
  dss_parW i j hN (wa_d (PA1 := fun ds => ds = [d1, d2]) ha rfl) (OwnLike.refl _) (fun e1 e2 h => by cases h; exact k) (fun ds h => by rw [h]; rfl) hc hi hj hij hx hy hw hs
end

/-! ## loops whose source has an effect -/
def tWI (ex : List Addr) (ρ : Env') (P : List PyData → Prop) (ρ' : Env') : TI := fun σ H R => ∃ F, Ok F H ρ σ ∧ ∀ ds J F2 H2, P ds → GrowX ex F H F2 H2 → Ok F2 H2 ρ' σ → JOk J F2 ds → R J H2
abbrev WI (X : Cx) (ex : List Addr) (ρ : Env') (tg iter : Expr) (P : List PyData → Prop) (ρ' : Env') : Prop := PI X tg iter (tWI ex ρ P ρ')
section
variable {X : Cx} {ex : List Addr} {F0 H0 : Hp} {ρ ρ1 : Env'} {sts : List Stmt} {A : Aims} {e tg : Expr} {p pos : Pos} {PA1 : List PyData → Prop}
theorem wi_range1 (ha : WA X ex ρ [e] PA1 ρ1) (hP : ∀ ds, PA1 ds → ∃ j : Int, ds = [.int j] ∧ -(2 ^ 62) ≤ j ∧ j < 2 ^ 62) (hm : X.mg "range" = none) (hg : Gl X "range" := by rfl) (hs : starEach [e] X.env = [(false, eval e X.env)] := by rfl) :
    WI X ex ρ tg (.Call (.Name "range" p) [e] [] pos) (fun ds => ∃ j : Int, PA1 [.int j] ∧ ds = rngD 0 j.toNat) ρ1 :=
  PI.imp (pi_range1 hg hm ha hs) fun σ H R ⟨F, ok, k⟩ => ⟨F, ok, fun ds vs F2 H2 hp g o r => by
    obtain ⟨j, rfl, h1, h2⟩ := hP ds hp
    cases r with
    | cons r rr =>
      cases rr
      exact ⟨j, by rw [r.int_inv], h1, h2, k _ _ F2 H2 ⟨j, hp, rfl⟩ g o jok_rng⟩⟩
theorem dss_forW {iter : Expr} {body : List Stmt} {P : List PyData → Prop} (I : List PyData → Nat → Env' → Prop) (hi : WI X ex ρ tg iter P ρ1) (l : OwnLike ρ1 ρ) (h0 : ∀ ds, P ds → I ds 0 ρ1)
    (hs : ∀ (ds : List PyData) (i : Nat) (x : PyData) (ρ' : Env'), P ds → ds[i]? = some x → I ds i ρ' → ∃ ρ2 is, DG X ρ' tg x ρ2 is ∧ DSs X ex F0 H0 ρ2 body { A with N := I ds (i + 1), B := fun _ => False, C := I ds (i + 1) })
    (k : ∀ ds ρ', P ds → I ds ds.length ρ' → DSs X ex F0 H0 ρ' sts A) (hp : PassesOwn (model X.prog X.w) X.A X.env X.xe := by exact PassesOwn.never) (hc : X.calm = true := by rfl) (hse : ∀ x, foldedSetIterable iter X.env x = pure x := by intro _; rfl) : DSs X ex F0 H0 ρ (.For tg iter body [] pos :: sts) A := by
  refine dss_seq (N1 := fun ρ' => ∃ ds, P ds ∧ I ds ds.length ρ') ?_ fun ρ' ⟨ds, h1, h2⟩ => k ds ρ' h1 h2
  refine PS.imp (ps_for hp hc hi (g := fun v σ H Q => ∃ q : Env' × PyData × Env' × List Nat, PG X tg (tDG q.1 q.2.1 q.2.2.1 q.2.2.2) ∧ tDG q.1 q.2.1 q.2.2.1 q.2.2.2 v σ H Q) (tb := fun D σ H => ∃ q : Env' × Aims, DSs X ex F0 H0 q.1 body q.2 ∧ tS ex F0 H0 q.1 q.2 D σ H)
    (PG.any fun q h => h) (PSs.any fun q h => h) hse) fun D σ H ⟨F, a, n, r, b, c⟩ => ⟨F, a.ok, fun ds J F1 H1 hP g1 o1 hJ => ?_⟩
  refine ⟨fun i m σ' H' => m = ds.length - i ∧ i ≤ ds.length ∧ ∃ ρ' F', I ds i ρ' ∧ At ex F0 H0 ρ' σ' F' H' ∧ Same F1 F', ⟨ds.length, by simp, Nat.zero_le _, ρ1, F1, h0 ds hP, a.like g1 o1 l, Same.refl _⟩, ?_⟩
  rintro i m σ' H' ⟨rfl, hle, ρ', F', hI, a', sF⟩
  obtain ⟨j1, j2⟩ := hJ i F' H' sF a'.ok.s
  by_cases hlt : i < ds.length
  · right
    have hd' : ds[i]? = some ds[i] := List.getElem?_eq_getElem hlt
    obtain ⟨go, yl⟩ := j1 _ hd'
    refine ⟨go, fun σ2 H2 => ∃ ρ2 F2, I ds (i + 1) ρ2 ∧ At ex F0 H0 ρ2 σ2 F2 H2 ∧ Same F1 F2, fun σ2 H2 ⟨ρ2, F2, q1, q2, q3⟩ => ⟨ds.length - (i + 1), by omega, rfl, hlt, ρ2, F2, q1, q2, q3⟩, fun x H2 hy => ?_⟩
    obtain ⟨F2, g2, rx⟩ := yl x H2 hy
    obtain ⟨ρ2, is, ⟨hG, hr⟩, hB⟩ := hs ds i _ ρ' hP hd' hI
    have a2 := a'.grow g2
    exact ⟨(ρ', ds[i], ρ2, is), hG, F2, a2.ok, rx, fun σ3 ok3 _ => ⟨(ρ2, _), hB, F2, ⟨a2.g, ok3, fun i p w q => a2.new i p w (hr i p w q)⟩, fun ρ4 σ4 F4 H4 h4 s4 a4 => ⟨ρ4, F4, h4, a4, sF.trans (g2.f.trans s4)⟩, r,
      fun ρ4 σ4 F4 H4 h4 s4 a4 => h4.elim, fun ρ4 σ4 F4 H4 h4 s4 a4 => ⟨ρ4, F4, h4, a4, sF.trans (g2.f.trans s4)⟩⟩⟩
  · left
    have hi' : i = ds.length := by omega
    subst hi'
    exact ⟨j2 (by simp), n _ _ F' H' ⟨ds, hP, hI⟩ (g1.f.trans sF) a'⟩
end

/-! ## a comprehension whose items are drawn -/
theorem growX_minus {ex : List Addr} {F2 H2 F3 H3 F4 H4 : Hp} {D : Addr} {o : HO} (g3 : GrowX ex F2 H2 F3 (fun a => if a = D then none else H3 a)) (g4 : GrowX ex F3 H3 F4 H4) (hD : F3 D = none) (ho : H3 D = some o) (h2 : H2 D = none) (hnt : ∀ xs, o ≠ .tup xs) :
    GrowX ex F2 H2 F4 (fun a => if a = D then none else H4 a) := by
  have hD4 : F4 D = none := g4.n D hD ⟨o, ho, hnt⟩
  refine ⟨g3.f.trans g4.f, fun c u hc => ?_, fun c u hx hc => ?_, fun c hc => ?_, fun c h1 h3 => ?_, fun c h3 => ?_⟩
  · by_cases h : c = D
    · subst h; rw [hD4] at hc; cases hc
    · simp only [h, if_false]; exact g4.s c u hc
  · have := g3.h c u hx hc
    by_cases h : c = D
    · subst h; rw [h2] at hc; cases hc
    · simp only [h, if_false] at this ⊢; exact g4.h c u hx this
  · have := g3.k c hc
    by_cases h : c = D
    · subst h; exact (hc h2).elim
    · simp only [h, if_false] at this ⊢; exact g4.k c this
  · have e := g3.n c h1 h3
    have := g3.m c h3
    by_cases h : c = D
    · subst h; exact (h3.ne h2).elim
    · exact g4.n c e (by obtain ⟨o, q1, q2⟩ := this; exact ⟨o, by simpa [h] using q1, q2⟩)
  · have := g3.m c h3
    by_cases h : c = D
    · subst h; exact (h3.ne h2).elim
    · obtain ⟨o, q1, q2⟩ := g4.m c (by obtain ⟨o, q1, q2⟩ := this; exact ⟨o, by simpa [h] using q1, q2⟩)
      exact ⟨o, by simpa [h] using q1, q2⟩
/-- each item stands in P to its source -/
inductive All2 {α β : Type} (P : α → β → Prop) : List α → List β → Prop
  | nil : All2 P [] []
  | cons {x : α} {y : β} {xs : List α} {ys : List β} : P x y → All2 P xs ys → All2 P (x :: xs) (y :: ys)
theorem All2.snoc {α β : Type} {P : α → β → Prop} {x : α} {y : β} : ∀ {xs : List α} {ys : List β}, All2 P xs ys → P x y → All2 P (xs ++ [x]) (ys ++ [y])
  | _, _, .nil, h => .cons h .nil
  | _, _, .cons a t, h => .cons a (t.snoc h)
theorem All2.len {α β : Type} {P : α → β → Prop} : ∀ {xs : List α} {ys : List β}, All2 P xs ys → xs.length = ys.length
  | _, _, .nil => rfl
  | _, _, .cons a t => by simp [t.len]
section
variable {X : Cx} {ρ : Env'} {α : Type} {xs : List α} {enc : α → PyData} {elt tg iter : Expr} {scope : Scope} {pos : Pos} {own : List (Str × Nat)} {p : Addr}
theorem lcK_read (jd : Nat) (n cost : Int) (g g2 : α → Int → Env') (Pf : α → PyData → Prop) (is : List Nat)
    (hjd : ρ[jd]? = some (.own p (.deck n)))
    (hg2 : ∀ x m, (g2 x m)[jd]? = some (.own p (.deck (m + cost))))
    (hcost : 0 ≤ cost) (his : ∀ i ∈ is, i ∈ own.map (·.2)) (hl : xs.length ≤ sizeLine) :
    ∀ σ H Q, tW [p] ρ (fun d => ∃ ds, d = .list ds ∧ All2 Pf xs ds) (ρ.set jd (.own p (.deck (n + cost * xs.length)))) σ H Q →
      tLc (tDI ρ (xs.map enc)) (fun v σ H Q => ∃ x : α × Int, x.1 ∈ xs ∧ tDG (wipeE (ρ.set jd (.own p (.deck x.2))) (own.map (·.2))) (enc x.1) (g x.1 x.2) is v σ H Q) tYes (fun σ H Q => ∃ x : α × Int, (x.1 ∈ xs ∧ n ≤ x.2 ∧ x.2 + cost ≤ n + cost * xs.length) ∧ tW [p] (g x.1 x.2) (Pf x.1) (g2 x.1 x.2) σ H Q) (own.map (·.2)) σ H Q := by
  refine fun σ H Q ⟨F, ok1, k⟩ => ⟨F, ok1, fun J F2 H2 g2' hJ => ?_⟩
  intro D hD
  have hlr : jd < ρ.length := (List.getElem?_eq_some_iff.mp hjd).1
  refine ⟨fun i m H3 => m = xs.length - i ∧ i ≤ xs.length ∧ ∃ F3, GrowX [p] F2 H2 F3 (fun a => if a = D then none else H3 a) ∧ Same F3 H3 ∧ F3 D = none ∧ Ok F3 H3 (ρ.set jd (.own p (.deck (n + cost * i)))) σ ∧ ∃ vs ds, H3 D = some (.lst vs) ∧ RpA F3 vs ds ∧ All2 Pf (xs.take i) ds,
    ⟨xs.length, by simp, Nat.zero_le _, F2, ?_, ?_, ?_, ?_, [], [], upd_same, .nil, by simp; exact .nil⟩, ?_⟩
  · have e : (fun a => if a = D then none else upd H2 D (.lst []) a) = H2 := by
      funext a
      by_cases ha : a = D
      · subst ha; rw [if_pos rfl, hD]
      · rw [if_neg ha, upd_ne ha]
    rw [e]; exact GrowX.refl g2'.s
  · exact g2'.s.trans (Same.upd_new hD)
  · exact same_none g2'.s hD
  · have o2 := (ok1.grow g2').grow (Grow.skip (o := .lst []) g2'.s hD)
    have e : ρ.set jd (.own p (.deck (n + cost * ((0 : Nat) : Int)))) = ρ := by
      have : n + cost * ((0 : Nat) : Int) = n := by simp
      rw [this]
      refine List.ext_getElem? fun j => ?_
      by_cases hj : jd = j
      · subst hj; rw [List.getElem?_set_self hlr, hjd]
      · rw [List.getElem?_set_ne hj]
    rw [e]; exact o2
  rintro i m H3 ⟨rfl, hle, F3, g3, s3, hD3, ok3, vs, ds, hvs, rvs, al⟩
  by_cases hlt : i < xs.length
  · right
    have hd : (xs.map enc)[i]? = some (enc xs[i]) := by rw [List.getElem?_map, List.getElem?_eq_getElem hlt]; rfl
    have hx : xs[i] ∈ xs := List.getElem_mem hlt
    obtain ⟨h1, -⟩ := hJ i F3 H3 g3.f s3
    obtain ⟨go, yl⟩ := h1 _ hd
    refine ⟨go, fun H' => ∃ m', m' < xs.length - i ∧ (m' = xs.length - (i + 1) ∧ i + 1 ≤ xs.length ∧ ∃ F4, GrowX [p] F2 H2 F4 (fun a => if a = D then none else H' a) ∧ Same F4 H' ∧ F4 D = none ∧ Ok F4 H' (ρ.set jd (.own p (.deck (n + cost * (i + 1 : Nat))))) σ ∧ ∃ vs ds, H' D = some (.lst vs) ∧ RpA F4 vs ds ∧ All2 Pf (xs.take (i + 1)) ds), fun H' h => h, fun x H4 hy => ?_⟩
    obtain ⟨F4, g4, rx⟩ := yl x H4 hy
    have ok4 := ok3.grow g4
    have hm1 : n ≤ n + cost * (i : Int) := by
      have := Int.mul_nonneg hcost (Int.natCast_nonneg i)
      omega
    have hm2 : n + cost * (i : Int) + cost ≤ n + cost * xs.length := by
      have h : cost * ((i : Int) + 1) ≤ cost * (xs.length : Int) := Int.mul_le_mul_of_nonneg_left (by omega) hcost
      rw [Int.mul_add, Int.mul_one] at h
      omega
    refine ⟨(xs[i], n + cost * i), hx, F4, ok4.wipe _, rx, fun σ2 okx hw => ⟨?_, ?_⟩⟩
    · rw [hw _ his]
      exact wipe_twice σ _
    dsimp only [tYes]
    rw [if_pos rfl]
    refine ⟨(xs[i], n + cost * i), ⟨hx, hm1, hm2⟩, F4, okx, fun d y F6 H6 hPd g6 ok6 ry => ?_⟩
    have g46 : GrowX [p] F3 H3 F6 H6 := g4.up.trans g6
    have hpD : D ≠ p := fun z => by
      subst z
      obtain ⟨_, _, ho, h3, _⟩ := (ok1.grow g2').own hjd
      rw [hD] at h3; cases h3
    have hD6 : H6 D = some (.lst vs) := g46.h D _ (fun z => hpD (List.mem_singleton.mp z)) hvs
    have hF6 : F6 D = none := g46.n D hD3 (NN.lst hvs)
    have tk : xs.take (i + 1) = xs.take i ++ [xs[i]] := by rw [List.take_append_getElem hlt]
    refine ⟨vs, hD6, ?_, ?_⟩
    · have h1 := al.len
      rw [rvs.len, ← h1, List.length_take]
      omega
    · have hdk := (ok6.own (hg2 _ _)).2.2
      have hset : (ρ.set jd (.own p (.deck (n + cost * (i : Int)))))[jd]? = some (.own p (.deck (n + cost * (i : Int)))) := List.getElem?_set_self hlr
      have ok7 := ok3.deck hset g46 (.deck (n + cost * (i + 1 : Nat))) (by
        obtain ⟨ho, q1, aa, bb, cc, q2, q3, q4, q5, q6, q7⟩ := hdk
        refine ⟨ho, q1, aa, bb, cc, q2, q3, q4, q5, q6, ?_⟩
        have : cost * ((i + 1 : Nat) : Int) = cost * i + cost := by rw [Int.natCast_add, Int.mul_add]; simp
        rw [this]; omega)
      rw [List.set_set] at ok7
      have sN : Same F6 (upd H6 D (.lst (vs ++ [y]))) := fun c u hc => by
        have hcD : c ≠ D := fun z => by subst z; rw [hF6] at hc; cases hc
        rw [upd_ne hcD]
        exact g46.s c u hc
      refine ⟨_, by omega, rfl, hlt, F6, ?_, sN, hF6, ?_, vs ++ [y], ds ++ [d], upd_same, (rvs.mono g46.f).append (.cons ry .nil), ?_⟩
      · have e : (fun a => if a = D then none else upd H6 D (.lst (vs ++ [y])) a) = fun a => if a = D then none else H6 a := by
          funext a
          by_cases ha : a = D
          · rw [if_pos ha, if_pos ha]
          · rw [if_neg ha, if_neg ha, upd_ne ha]
        rw [e]
        exact growX_minus g3 g46 hD3 hvs hD (fun _ z => by cases z)
      · refine ⟨sN, ok7.len, fun j e hj => ?_, ok7.ne⟩
        obtain ⟨oo, e1, e2⟩ := ok7.at_ j e hj
        refine ⟨oo, e1, ?_⟩
        cases e with
        | no => trivial
        | dat d => exact e2
        | val v => exact e2
        | fx q u => exact e2
        | st q w => exact e2
        | own q w =>
          obtain ⟨x1, x2, hh, x3, x4⟩ := e2
          have hqD : q ≠ D := fun z => by
            subst z
            -- an own thing of before is not the new list
            have : ∃ w0, ρ[j]? = some (.own q w0) := by
              by_cases hjj : jd = j
              · subst hjj
                rw [List.getElem?_set_self hlr] at hj; cases hj
                exact ⟨_, hjd⟩
              · rw [List.getElem?_set_ne hjj] at hj; exact ⟨w, hj⟩
            obtain ⟨w0, hw0⟩ := this
            obtain ⟨_, _, ho, h3, _⟩ := (ok1.grow g2').own hw0
            rw [hD] at h3; cases h3
          exact ⟨x1, x2, hh, by rw [upd_ne hqD]; exact x3, x4⟩
      · rw [tk]; exact al.snoc hPd
  · left
    have hi' : i = xs.length := by omega
    subst hi'
    obtain ⟨-, h2⟩ := hJ xs.length F3 H3 g3.f s3
    refine ⟨h2 (by simp), ?_⟩
    rw [List.take_length] at al
    have hF : Same F3 (upd F3 D (.lst vs)) := Same.upd_new hD3
    have sH : Same (upd F3 D (.lst vs)) H3 := fun c u hc => by
      by_cases h : c = D
      · subst h; rw [upd_same] at hc; rw [hvs]; exact hc
      · rw [upd_ne h] at hc; exact s3 c u hc
    refine k (.list ds) (.ref D) (upd F3 D (.lst vs)) H3 ⟨ds, rfl, al⟩ (g2'.up.trans ⟨g3.f.trans hF, sH, fun c u hx hc => ?_, fun c hc => ?_, fun c h1 h2 => ?_, fun c h2 => ?_⟩) ?_ (.lst upd_same (rvs.mono hF))
    · have := g3.h c u hx hc
      by_cases h : c = D
      · subst h; rw [hD] at hc; cases hc
      · simpa [h] using this
    · by_cases h : c = D
      · subst h; rw [hvs]; simp
      · have := g3.k c hc
        simpa [h] using this
    · by_cases h : c = D
      · subst h; exact (h2.ne hD).elim
      · rw [upd_ne h]; exact g3.n c h1 h2
    · by_cases h : c = D
      · subst h; exact NN.lst hvs
      · obtain ⟨o, q1, q2⟩ := g3.m c h2
        exact ⟨o, by simpa [h] using q1, q2⟩
    · refine ⟨sH, ok3.len, fun j e hj => ?_, ok3.ne⟩
      obtain ⟨oo, e1, e2⟩ := ok3.at_ j e hj
      refine ⟨oo, e1, ?_⟩
      cases e with
      | no => trivial
      | dat d => obtain ⟨v, x1, x2⟩ := e2; exact ⟨v, x1, x2.mono hF⟩
      | val v => exact e2
      | fx q u => exact ⟨e2.1, hF _ _ e2.2⟩
      | st q w => exact ⟨e2.1, let ⟨u, hu, hw⟩ := e2.2; ⟨u, hF _ _ hu, w.mono hF hw⟩⟩
      | own q w =>
        obtain ⟨x1, x2, hh, x3, x4⟩ := e2
        have hqD : q ≠ D := fun z => by
          subst z
          have : ∃ w0, ρ[j]? = some (.own q w0) := by
            by_cases hjj : jd = j
            · subst hjj
              rw [List.getElem?_set_self hlr] at hj; cases hj
              exact ⟨_, hjd⟩
            · rw [List.getElem?_set_ne hjj] at hj; exact ⟨w, hj⟩
          obtain ⟨w0, hw0⟩ := this
          obtain ⟨_, _, ho, h3, _⟩ := (ok1.grow g2').own hw0
          rw [hD] at h3; cases h3
        exact ⟨x1, by rw [upd_ne hqD]; exact x2, hh, x3, w.mono hF x4⟩
theorem we_lcK (jd : Nat) (n cost : Int) (g g2 : α → Int → Env') (Pf : α → PyData → Prop) (is : List Nat) (hc : X.calm = true) (hN : X.N.Nodup) (ok : BlkOk X.N X.env.scope scope own) (hi : DI X ρ tg iter (xs.map enc))
    (hjd : ρ[jd]? = some (.own p (.deck n)))
    (hg : ∀ x ∈ xs, ∀ m, Blk X scope fun Y => DG Y (wipeE (ρ.set jd (.own p (.deck m))) (own.map (·.2))) tg (enc x) (g x m) is)
    (he : ∀ x ∈ xs, ∀ m, n ≤ m → m + cost ≤ n + cost * xs.length → Blk X scope fun Y => WE Y [p] (g x m) elt (Pf x) (g2 x m))
    (hg2 : ∀ x m, (g2 x m)[jd]? = some (.own p (.deck (m + cost))))
    (hcost : 0 ≤ cost) (his : ∀ i ∈ is, i ∈ own.map (·.2)) (hl : xs.length ≤ sizeLine) (hs : ∀ x, foldedSetIterable iter X.env x = pure x := by intro _; rfl) :
    WE X [p] ρ (.ListComp elt [⟨tg, iter, [], 0⟩] scope pos) (fun d => ∃ ds, d = .list ds ∧ All2 Pf xs ds) (ρ.set jd (.own p (.deck (n + cost * xs.length)))) :=
  PE.imp (pe_lc hc hN hi ok (fun s H C cl fp => PG.any fun x hx => (hg x.1 hx x.2 s H C cl fp).1) (fun s H C cl fp => pts_nil) (fun s H C cl fp => PE.any fun x hx => he x.1 hx.1 x.2 hx.2.1 hx.2.2 s H C cl fp) hs) (lcK_read jd n cost g g2 Pf is hjd hg2 hcost his hl)
end

/-! ## isinstance -/
def tyD : PyData → String
  | .none => "NoneType"
  | .bool _ => "bool"
  | .int _ => "int"
  | .str _ => "str"
  | .list _ => "list"
  | .tuple _ => "tuple"
  | .dict _ => "dict"
theorem Rp.ty {K : PySem.W.Frag} {F H : Hp} {v : V} {d : PyData} (h : Rp F v d) (e : Same F H) : TyX K H v (.type (tyD d)) := by
  cases h with
  | non => exact .base .non
  | bl b => exact .base (.bl b)
  | int i => exact .base (.int i)
  | str s => exact .base (.str s)
  | lst h _ => exact .base (.lst (e _ _ h))
  | tup h _ => exact .base (.tup (e _ _ h))
section
variable {X : Cx} {ρ : Env'} {e : Expr} {d : PyData} {p q pos : Pos} {T : String} {x : Str}
theorem de_isi {b : Bool} (he : DE X ρ e d) (hm : X.mg "isinstance" = none) (hmT : X.mg x = none) (hvT : bootBuiltins x = some (.type T)) (hb : kitB (tyD d) T = some b) (hg : Gl X "isinstance" := by rfl) (hgT : Gl X x := by rfl) (hnT : x ≠ "__name__" := by decide) (hdT : (x == ("__debug__" : Str)) = false := by decide)
    (hs : starEach [e, .Name x q] X.env = (false, eval e X.env) :: starEach [.Name x q] X.env := by rfl) (hpl : (backTo pos (starEach [.Name x q] X.env)).any (·.1) = false := by rfl) (hs2 : starEach [.Name x q] X.env = (false, eval (.Name x q) X.env) :: starEach [] X.env := by rfl) :
    DE X ρ (.Call (.Name "isinstance" p) [e, .Name x q] [] pos) (.bool b) :=
  PE.imp (pe_callB call_isi hg hm (by decide +kernel) (pa_cons he (pa_cons (pe_bltn (v := .ty T) hgT hmT hvT rfl hnT hdT) pa_nil hs2) hs) (by decide) (by decide) hs hpl) fun σ H Q ⟨F, ok, k⟩ => ⟨F, ok, fun v F2 H2 g r =>
    ⟨v, .ty T, .type (tyD d), .type T, b, rfl, .ty T, r.ty g.s, kit_ty hb, k _ F2 H2 g (.bl b)⟩⟩
end
/-! ## a <= b <= c -/
theorem de_chainI {X : Cx} {ρ : Env'} {a b c : Expr} {i j k : Int} {pos : Pos} {op op' : CmpOp} {f g : Int → Int → Bool} (ho : OpR X (compareOp op) (rI0 fun i j => .bl (f i j))) (ho' : OpR X (compareOp op') (rI0 fun i j => .bl (g i j))) (ha : DE X ρ a (.int i)) (hb : DE X ρ b (.int j)) (hc : DE X ρ c (.int k))
    (hm : lastMarks [op, op'] [b, c] = false := by with_unfolding_all rfl) : DE X ρ (.Compare a [op, op'] [b, c] pos) (.bool (f i j && g j k)) :=
  PE.imp (pe_chain ho ho' ha hb hc hm) fun σ H Q ⟨F, ok, kk⟩ => ⟨F, ok, fun v1 F1 H1 g1 r1 => ⟨F1, ok.grow g1, fun v2 F2 H2 g2 r2 => by
    refine ⟨i, j, (r1.int_inv), r2.int_inv, f i j, rfl, ?_⟩
    cases hf : f i j with
    | true =>
      rw [if_pos rfl]
      refine ⟨F2, (ok.grow g1).grow g2, fun v3 F3 H3 g3 r3 => ⟨j, k, r2.int_inv, r3.int_inv, ?_⟩⟩
      have := kk (.bl (g j k)) F3 H3 (g1.trans (g2.trans g3)) (by rw [hf, Bool.true_and]; exact .bl _)
      exact this
    | false =>
      rw [if_neg Bool.false_ne_true]
      exact kk (.bl false) F2 H2 (g1.trans g2) (by rw [hf, Bool.false_and]; exact .bl _)⟩⟩
end Tw

namespace Tw
open PySem PySem.Spec PyProof.Rows L2
/-! ## the mirror: customs, a turn -/
structure Hand where
  rise : Int
  fall : Int
  cap : Int
  deriving DecidableEq, Repr
structure Custom where
  many : Int
  first : Bool
  hands : List Hand
  deriving DecidableEq, Repr
def haD (h : Hand) : PyData := .tuple [.int h.rise, .int h.fall, .int h.cap]
def tieS (b : Bool) : Str := if b then "first" else "last"
def cuD (c : Custom) : PyData := .tuple [.int c.many, .str (tieS c.first), .tuple (c.hands.map haD)]
def signOf (c : Custom) : Int := if c.first then 1 else -1
def enumI (ws : List Int) : List (Int × Int) := ws.mapIdx fun i w => ((i : Int), w)
def orderOf (c : Custom) (ws : List Int) : List (Int × Int) := sortP ((enumI ws).map fun p => (-p.2, signOf c * p.1))
def takeI {α : Type} (n : Int) (xs : List α) : List α := xs.take (if n < 0 then (n + xs.length).toNat else min n.toNat xs.length)
def hadOf (c : Custom) (ws : List Int) : List Int := sortI ((takeI c.many (orderOf c ws)).map fun p => signOf c * p.2)
def handAt (hands : List Hand) (i : Int) : Hand := hands.getD i.toNat ⟨0, 0, 0⟩
def stepOf (had : List Int) (hands : List Hand) (i : Int) (w : Int) : Int :=
  if i ∈ had then max 0 (w - (handAt hands i).fall) else min (handAt hands i).cap (w + (handAt hands i).rise)
def afterBy (had : List Int) (hands : List Hand) (ws : List Int) : List Int := (enumI ws).map fun p => stepOf had hands p.1 p.2
/-- by counting who goes ahead -/
def goesAhead (first : Bool) (p q : Int × Int) : Bool := decide (q.2 > p.2) || (decide (q.2 = p.2) && (if first then decide (q.1 < p.1) else decide (q.1 > p.1)))
def aheadOf (c : Custom) (ws : List Int) (p : Int × Int) : Nat := ((enumI ws).filter (goesAhead c.first p)).length
def had (c : Custom) (ws : List Int) : List Int := ((enumI ws).filter fun p => decide ((aheadOf c ws p : Int) < c.many)).map (·.1)
/-- a custom, wishes, as the document says -/
structure WfC (c : Custom) : Prop where
  two : 2 ≤ c.hands.length
  four : c.hands.length ≤ 4
  many1 : 1 ≤ c.many
  many2 : c.many ≤ (c.hands.length : Int) - 1
  steps : ∀ h ∈ c.hands, 0 ≤ h.rise ∧ h.rise ≤ 15 ∧ 0 ≤ h.fall ∧ h.fall ≤ 15 ∧ 0 ≤ h.cap ∧ h.cap ≤ 15
structure WfW (c : Custom) (ws : List Int) : Prop where
  len : ws.length = c.hands.length
  bound : ∀ (i : Nat) (w : Int), ws[i]? = some w → 0 ≤ w ∧ w ≤ (handAt c.hands i).cap
/-! ## the mathematics of a turn -/
theorem enumI_len (ws : List Int) : (enumI ws).length = ws.length := by simp [enumI]
theorem enumI_get (ws : List Int) (i : Nat) : (enumI ws)[i]? = ws[i]?.map fun w => ((i : Int), w) := by simp [enumI, List.getElem?_mapIdx]
theorem enumI_mem {ws : List Int} {p : Int × Int} : p ∈ enumI ws ↔ ∃ i : Nat, p.1 = i ∧ ws[i]? = some p.2 := by
  rw [List.mem_iff_getElem?]
  constructor
  · rintro ⟨i, h⟩
    rw [enumI_get] at h
    obtain ⟨w, h1, h2⟩ := Option.map_eq_some_iff.mp h
    subst h2
    exact ⟨i, rfl, h1⟩
  · rintro ⟨i, h1, h2⟩
    exact ⟨i, by rw [enumI_get, h2]; exact congrArg some (Prod.ext h1.symm rfl)⟩
theorem enumI_fst (ws : List Int) : (enumI ws).map (·.1) = (List.range ws.length).map fun (i : Nat) => (i : Int) := by
  refine List.ext_getElem? fun i => ?_
  rw [List.getElem?_map, enumI_get, List.getElem?_map]
  by_cases h : i < ws.length
  · rw [List.getElem?_eq_getElem h, List.getElem?_range h]; rfl
  · have h1 : ws[i]? = none := List.getElem?_eq_none_iff.mpr (by omega)
    have h2 : (List.range ws.length)[i]? = none := List.getElem?_eq_none_iff.mpr (by simp; omega)
    rw [h1, h2]; rfl
theorem enumI_snd (ws : List Int) : (enumI ws).map (·.2) = ws := by
  refine List.ext_getElem? fun i => ?_
  rw [List.getElem?_map, enumI_get, Option.map_map]
  cases ws[i]? <;> rfl
theorem castRange_sorted (n : Nat) : ((List.range n).map fun (i : Nat) => (i : Int)).Pairwise (· < ·) := by
  rw [List.pairwise_map]
  exact List.pairwise_lt_range.imp fun h => by omega
theorem had_sorted (c : Custom) (ws : List Int) : (had c ws).Pairwise (· < ·) := by
  unfold had
  have h : (((enumI ws).filter fun p => decide ((aheadOf c ws p : Int) < c.many)).map (·.1)).Sublist ((enumI ws).map (·.1)) := List.Sublist.map _ List.filter_sublist
  rw [enumI_fst] at h
  exact (castRange_sorted _).sublist h
theorem nodup_of_lt {l : List Int} (h : l.Pairwise (· < ·)) : l.Nodup := h.imp fun q e => by omega
theorem take_sorted {α : Type} {lt : α → α → Bool} (hir : ∀ x, lt x x = false) : ∀ {L : List α} (m : Nat), L.Pairwise (fun a b => lt a b = true ∧ lt b a = false) → ∀ x ∈ L, (x ∈ L.take m ↔ (L.filter (fun y => lt y x)).length < m)
  | [], _, _, x, h => by cases h
  | h :: t, m, hp, x, hx => by
    obtain ⟨h1, h2⟩ := List.pairwise_cons.mp hp
    have hne : ∀ y ∈ t, y ≠ h := fun y hy e => by subst e; have := (h1 y hy).1; rw [hir] at this; cases this
    rcases List.mem_cons.mp hx with e | e
    · subst e
      have hz : (List.filter (fun y => lt y x) (x :: t)) = [] := by
        rw [List.filter_eq_nil_iff]
        intro y hy
        rcases List.mem_cons.mp hy with e | e
        · subst e; simp [hir]
        · simp [(h1 y e).2]
      rw [hz]
      cases m with
      | zero => simp
      | succ m => simp
    · have ih := take_sorted hir (m - 1) h2 x e
      have hlt : lt h x = true := (h1 x e).1
      rw [List.filter_cons_of_pos (by simpa using hlt), List.length_cons]
      cases m with
      | zero => simp
      | succ m =>
        rw [List.take_succ_cons, List.mem_cons]
        simp only [Nat.add_sub_cancel] at ih
        constructor
        · rintro (q | q)
          · exact absurd q (hne x e)
          · exact Nat.succ_lt_succ (ih.mp q)
        · intro q; exact .inr (ih.mpr (Nat.lt_of_succ_lt_succ q))
def ltPr (x y : Int × Int) : Bool := decide (x.1 < y.1 ∨ (x.1 = y.1 ∧ x.2 < y.2))
theorem signOf_sq (c : Custom) (i : Int) : signOf c * (signOf c * i) = i := by unfold signOf; split <;> omega
theorem signOf_inj (c : Custom) {i j : Int} (h : signOf c * i = signOf c * j) : i = j := by
  have := congrArg (signOf c * ·) h
  simpa [signOf_sq] using this
theorem enumI_nodup (ws : List Int) : (enumI ws).Nodup := by
  have h : ((enumI ws).map (·.1)).Nodup := by rw [enumI_fst]; exact nodup_of_lt (castRange_sorted _)
  exact List.Pairwise.imp (fun {a b} q e => q (by rw [e])) (List.pairwise_map.mp h)
theorem enumI_inj {ws : List Int} {p q : Int × Int} (hp : p ∈ enumI ws) (hq : q ∈ enumI ws) (h : p.1 = q.1) : p = q := by
  obtain ⟨i, h1, h2⟩ := enumI_mem.mp hp
  obtain ⟨j, h3, h4⟩ := enumI_mem.mp hq
  have : i = j := by omega
  subst this
  rw [h2] at h4
  exact Prod.ext h (Option.some.inj h4)
theorem hadOf_eq (c : Custom) (ws : List Int) (hm : 0 ≤ c.many) : hadOf c ws = had c ws := by
  unfold hadOf
  symm
  let key : Int × Int → Int × Int := fun p => (-p.2, signOf c * p.1)
  have hkinj : ∀ p q, key p = key q → p = q := fun p q h => by
    have h1 : -p.2 = -q.2 := congrArg Prod.fst h
    have h2 : signOf c * p.1 = signOf c * q.1 := congrArg Prod.snd h
    exact Prod.ext (signOf_inj c h2) (by omega)
  have hperm : (orderOf c ws).Perm ((enumI ws).map key) := sortP_perm _
  have hnd : (orderOf c ws).Nodup := hperm.nodup_iff.mpr (by
    rw [List.nodup_iff_pairwise_ne, List.pairwise_map]
    exact (enumI_nodup ws).imp fun h e => h (hkinj _ _ e))
  have hstr : (orderOf c ws).Pairwise (fun a b => ltPr a b = true ∧ ltPr b a = false) := by
    have h1 := sortP_sorted ((enumI ws).map key)
    have h2 : (orderOf c ws).Pairwise (fun a b => leP a b = true ∧ a ≠ b) := h1.and hnd
    refine h2.imp fun {a b} ⟨h3, h4⟩ => ?_
    rw [leP_iff] at h3
    have h5 : ¬ (a.1 = b.1 ∧ a.2 = b.2) := fun z => h4 (Prod.ext z.1 z.2)
    constructor
    · simp only [ltPr, decide_eq_true_eq]; omega
    · simp only [ltPr, decide_eq_false_iff_not]; omega
  have htk : takeI c.many (orderOf c ws) = (orderOf c ws).take c.many.toNat := by
    unfold takeI
    rw [if_neg (by omega)]
    refine List.take_eq_take_iff.mpr ?_
    omega
  rw [htk]
  refine sortI_of ?_ ((had_sorted c ws).imp fun h => by omega)
  have hnd1 : (had c ws).Nodup := nodup_of_lt (had_sorted c ws)
  have hnd2 : (((orderOf c ws).take c.many.toNat).map fun p => signOf c * p.2).Nodup := by
    have h1 : ((orderOf c ws).map fun p => signOf c * p.2).Perm ((enumI ws).map (·.1)) := by
      have h2 := hperm.map fun p => signOf c * p.2
      rw [List.map_map] at h2
      have h3 : ((fun p : Int × Int => signOf c * p.2) ∘ key) = fun p => p.1 := by
        funext p; exact signOf_sq c p.1
      rw [h3] at h2
      exact h2
    have h4 : ((orderOf c ws).map fun p => signOf c * p.2).Nodup := h1.nodup_iff.mpr (by rw [enumI_fst]; exact nodup_of_lt (castRange_sorted _))
    exact h4.sublist ((List.take_sublist _ _).map _)
  rw [List.perm_ext_iff_of_nodup hnd1 hnd2]
  intro i
  have hcount : ∀ p, ((orderOf c ws).filter (fun y => ltPr y (key p))).length = aheadOf c ws p := fun p => by
    rw [(hperm.filter _).length_eq, List.filter_map, List.length_map]
    unfold aheadOf
    congr 1
    refine List.filter_congr fun q _ => ?_
    show ltPr (key q) (key p) = goesAhead c.first p q
    unfold ltPr goesAhead key signOf
    cases c.first
    · simp only [if_neg Bool.false_ne_true]
      rw [Bool.eq_iff_iff]
      simp only [decide_eq_true_eq, Bool.or_eq_true, Bool.and_eq_true]
      omega
    · simp only [if_true]
      rw [Bool.eq_iff_iff]
      simp only [decide_eq_true_eq, Bool.or_eq_true, Bool.and_eq_true]
      omega
  have hmem : ∀ p ∈ enumI ws, (key p ∈ (orderOf c ws).take c.many.toNat ↔ (aheadOf c ws p : Int) < c.many) := fun p hp => by
    have hin : key p ∈ orderOf c ws := hperm.mem_iff.mpr (List.mem_map.mpr ⟨p, hp, rfl⟩)
    rw [take_sorted (lt := ltPr) (fun x => by simp [ltPr]) c.many.toNat hstr (key p) hin, hcount p]
    omega
  constructor
  · intro hi
    unfold had at hi
    obtain ⟨p, hp, rfl⟩ := List.mem_map.mp hi
    obtain ⟨hp1, hp2⟩ := List.mem_filter.mp hp
    exact List.mem_map.mpr ⟨key p, (hmem p hp1).mpr (by simpa using hp2), signOf_sq c p.1⟩
  · intro hi
    obtain ⟨x, hx, rfl⟩ := List.mem_map.mp hi
    obtain ⟨p, hp, rfl⟩ := List.mem_map.mp (hperm.mem_iff.mp (List.mem_of_mem_take hx))
    show signOf c * (signOf c * p.1) ∈ had c ws
    rw [signOf_sq]
    exact List.mem_map.mpr ⟨p, List.mem_filter.mpr ⟨hp, by simpa using (hmem p hp).mp hx⟩, rfl⟩
/-! ## turn by turn -/
def after (c : Custom) (ws : List Int) : List Int := afterBy (had c ws) c.hands ws
def oneD (c : Custom) (ws : List Int) : PyData := .tuple [wiD (had c ws), wiD (after c ws)]
def wAt (c : Custom) (ws : List Int) : Nat → List Int
  | 0 => ws
  | k + 1 => after c (wAt c ws k)
def hadAt (c : Custom) (ws : List Int) (k : Nat) : List Int := had c (wAt c ws k)
def rowN (c : Custom) (ws : List Int) (n : Nat) : List (List Int) := (List.range n).map (hadAt c ws)
theorem rowN_len (c : Custom) (ws : List Int) (n : Nat) : (rowN c ws n).length = n := by simp [rowN]
theorem rowN_succ (c : Custom) (ws : List Int) (n : Nat) : rowN c ws (n + 1) = rowN c ws n ++ [hadAt c ws n] := by simp [rowN, List.range_succ]
theorem after_len (c : Custom) (ws : List Int) : (after c ws).length = ws.length := by simp [after, afterBy, enumI_len]
theorem after_get (c : Custom) (ws : List Int) (i : Nat) : (after c ws)[i]? = ws[i]?.map fun w => stepOf (had c ws) c.hands (i : Int) w := by
  unfold after afterBy
  rw [List.getElem?_map, enumI_get, Option.map_map]; rfl
theorem handAt_mem {hands : List Hand} {i : Nat} (h : i < hands.length) : handAt hands (i : Int) ∈ hands := by
  unfold handAt
  rw [Int.toNat_natCast, List.getD_eq_getElem?_getD, List.getElem?_eq_getElem h]
  exact List.getElem_mem h
theorem wf_after {c : Custom} {ws : List Int} (hc : WfC c) (hw : WfW c ws) : WfW c (after c ws) := by
  refine ⟨by rw [after_len, hw.len], fun i w h => ?_⟩
  rw [after_get] at h
  obtain ⟨v, h1, rfl⟩ := Option.map_eq_some_iff.mp h
  have hb := hw.bound i v h1
  have hi : i < c.hands.length := by rw [← hw.len]; exact (List.getElem?_eq_some_iff.mp h1).1
  have hs := hc.steps _ (handAt_mem hi)
  unfold stepOf
  split <;> omega
theorem wf_at {c : Custom} {ws : List Int} (hc : WfC c) (hw : WfW c ws) : ∀ k, WfW c (wAt c ws k)
  | 0 => hw
  | k + 1 => wf_after hc (wf_at hc hw k)
theorem wAt_len {c : Custom} {ws : List Int} : ∀ k, (wAt c ws k).length = ws.length
  | 0 => rfl
  | k + 1 => by rw [wAt, after_len, wAt_len k]
theorem wAt_add (c : Custom) (ws : List Int) (i : Nat) : ∀ j, wAt c ws (i + j) = wAt c (wAt c ws i) j
  | 0 => rfl
  | j + 1 => by show after c (wAt c ws (i + j)) = after c _; rw [wAt_add c ws i j]
/-! ## small things that walks ask -/
theorem tieS_first (b : Bool) : decide (tieS b = Str.ofString "first") = b := by cases b <;> decide
theorem enumD_ints (ws : List Int) : enumD (ws.map .int) = (enumI ws).map fun p => .tuple [.int p.1, .int p.2] := by
  unfold enumD enumI
  refine List.ext_getElem? fun i => ?_
  simp only [List.getElem?_mapIdx, List.getElem?_map, Option.map_map]
  rfl
theorem enumD_int_get {ws : List Int} {i : Nat} {x : PyData} (h : (enumD (ws.map PyData.int))[i]? = some x) : ∃ w, ws[i]? = some w ∧ x = .tuple [.int (i : Int), .int w] := by
  obtain ⟨y, hy, rfl⟩ := enumD_get h
  rw [List.getElem?_map] at hy
  obtain ⟨w, hw, rfl⟩ := Option.map_eq_some_iff.mp hy
  exact ⟨w, hw, rfl⟩
theorem enumI_take_succ {β : Type} (f : Int × Int → β) {ws : List Int} {i : Nat} {w : Int} (h : ws[i]? = some w) : ((enumI ws).take (i + 1)).map f = ((enumI ws).take i).map f ++ [f ((i : Int), w)] := by
  have h2 : (enumI ws)[i]? = some ((i : Int), w) := by rw [enumI_get, h]; rfl
  obtain ⟨h3, h4⟩ := List.getElem?_eq_some_iff.mp h2
  rw [← List.take_append_getElem h3, List.map_append, h4]; rfl
theorem take_map_succ {α β : Type} (f : α → β) {xs : List α} {i : Nat} {x : α} (h : xs[i]? = some x) : (xs.take (i + 1)).map f = (xs.take i).map f ++ [f x] := by
  obtain ⟨h3, h4⟩ := List.getElem?_eq_some_iff.mp h
  rw [← List.take_append_getElem h3, List.map_append, h4]; rfl
theorem cutD_take {α : Type} (f : α → PyData) (xs : List α) (n : Int) : cutD (xs.map f) none (some n) = (takeI n xs).map f := by
  unfold cutD takeI HT.sIx
  simp [List.map_take]
theorem takeI_len {α : Type} (n : Int) (xs : List α) : (takeI n xs).length ≤ xs.length := by unfold takeI; simp; omega
theorem signOf_mul (c : Custom) (j : Int) : CMul (signOf c) j := .inl (by unfold signOf; split <;> decide)
theorem atI_hand {hs : List Hand} {i : Nat} (h : i < hs.length) : atI (hs.map haD) (i : Int) = some (haD (handAt hs i)) := by
  refine atI_nat ?_
  unfold handAt
  rw [List.getElem?_map, List.getElem?_eq_getElem h, Int.toNat_natCast, List.getD_eq_getElem?_getD, List.getElem?_eq_getElem h]; rfl
theorem atI_int {ws : List Int} {i : Nat} {w : Int} (h : ws[i]? = some w) : atI (ws.map PyData.int) (i : Int) = some (.int w) := atI_nat (by rw [List.getElem?_map, h]; rfl)
theorem filter_tt {α : Type} (xs : List α) : xs.filter (fun _ => true) = xs := List.filter_eq_self.mpr fun _ _ => rfl
/-! ## promises -/
def prOne (ds : List PyData) (d : PyData) : Prop := ∃ c ws, ds = [cuD c, wiD ws] ∧ WfC c ∧ WfW c ws ∧ d = oneD c ws
def runD (c : Custom) (ws : List Int) (n : Nat) : PyData := .tuple [.list ((rowN c ws n).map wiD), wiD (wAt c ws n)]
def prRun (ds : List PyData) (d : PyData) : Prop := ∃ c ws n, ds = [cuD c, wiD ws, .int n] ∧ WfC c ∧ WfW c ws ∧ 0 ≤ n ∧ n ≤ 1000000 ∧ d = runD c ws n.toNat
/-- a whole number from one to another -/
def isFrom (d : PyData) (lo hi : Int) : Bool := match d with
  | .int i => decide (lo ≤ i) && decide (i ≤ hi)
  | _ => false
def prIsFrom (ds : List PyData) (d : PyData) : Prop := ∃ t lo hi, ds = [t, .int lo, .int hi] ∧ d = .bool (isFrom t lo hi)
def areW (c : Custom) (d : PyData) : Bool := match d with
  | .tuple ds => decide (ds.length = c.hands.length) && ((ds.zip c.hands).all fun p => isFrom p.1 0 p.2.cap)
  | _ => false
def prAre (ds : List PyData) (d : PyData) : Prop := ∃ c t, ds = [cuD c, t] ∧ c.hands.length ≤ 1000 ∧ d = .bool (areW c t)
theorem zipD_hands (ds : List PyData) (hs : List Hand) : zipD ds (hs.map haD) = (ds.zip hs).map fun p => .tuple [p.1, haD p.2] := by
  unfold zipD
  rw [List.zipWith_map_right, List.zip, List.map_zipWith]
/-! the deck and what is drawn from it -/
def spDeck : Sp := fun vs H Q _ => ∃ cell turn : Int, vs = [.int cell, .int turn] ∧ ∀ (p : Addr) (a b : Int), 0 ≤ a → 0 ≤ b → b < 2147483579 → H p = none → Q (.ref p) (upd H p (.lst [.int a, .int b, .int turn]))
def prePick (ds : List PyData) : Prop := ∃ lim : Int, ds = [.int lim] ∧ 1 ≤ lim ∧ lim ≤ 1000000000000000001
def prPick (ds : List PyData) (d : PyData) : Prop := ∃ lim r : Int, ds = [.int lim] ∧ d = .int r ∧ 0 ≤ r ∧ r < lim
def IntIn (lo hi : Int) (d : PyData) : Prop := ∃ i, d = .int i ∧ lo ≤ i ∧ i < hi
def preLwi (ds : List PyData) : Prop := ∃ c, ds = [cuD c] ∧ WfC c
def prLwi (ds : List PyData) (d : PyData) : Prop := ∃ c, ds = [cuD c] ∧ WfC c ∧ ∃ es, d = .tuple es ∧ All2 (fun (h : Hand) d => IntIn 0 (h.cap + 1) d) c.hands es
theorem prLwi_w {ds : List PyData} {d : PyData} (h : prLwi ds d) : ∃ c ws, ds = [cuD c] ∧ d = wiD ws ∧ WfW c ws := by
  obtain ⟨c, rfl, hc, es, rfl, al⟩ := h
  have key : ∀ (hs : List Hand) (es : List PyData), All2 (fun (h : Hand) d => IntIn 0 (h.cap + 1) d) hs es → ∃ ws : List Int, es = ws.map PyData.int ∧ ws.length = hs.length ∧ ∀ (i : Nat) w, ws[i]? = some w → 0 ≤ w ∧ w ≤ (handAt hs i).cap := by
    intro hs es al
    induction al with
    | nil => exact ⟨[], rfl, rfl, fun i w h => by simp at h⟩
    | @cons x y xs ys h _ ih =>
      obtain ⟨i, rfl, h1, h2⟩ := h
      obtain ⟨ws, rfl, hl, hb⟩ := ih
      refine ⟨i :: ws, rfl, by simp [hl], fun j w hj => ?_⟩
      cases j with
      | zero => simp at hj; subst hj; exact ⟨h1, by show i ≤ x.cap; omega⟩
      | succ j =>
        have := hb j w (by simpa using hj)
        refine ⟨this.1, ?_⟩
        have e : handAt (x :: xs) ((j + 1 : Nat) : Int) = handAt xs (j : Int) := by
          unfold handAt
          rw [Int.toNat_natCast, Int.toNat_natCast]; rfl
        rw [e]; exact this.2
  obtain ⟨ws, rfl, hl, hb⟩ := key _ _ al
  exact ⟨c, ws, rfl, rfl, hl, hb⟩
theorem OwnLike_deck {ρ : Env'} {p : Addr} (i : Nat) {w : Ow} {w0 : Ow} (h : ρ[i]? = some (.own p w0) := by rfl) : OwnLike (ρ.set i (.own p w)) ρ := fun j q w' hj => by
  by_cases hij : i = j
  · subst hij
    have hl : i < ρ.length := by
      have := (List.getElem?_eq_some_iff.mp hj).1
      simpa using this
    rw [List.getElem?_set_self hl] at hj; cases hj
    exact ⟨_, h⟩
  · rw [List.getElem?_set_ne hij] at hj; exact ⟨w', hj⟩
theorem OwnLike.trans {ρ1 ρ2 ρ3 : Env'} (a : OwnLike ρ1 ρ2) (b : OwnLike ρ2 ρ3) : OwnLike ρ1 ρ3 := fun i p w h => let ⟨w', h'⟩ := a i p w h; b i p w' h'
theorem deck_mono {n m : Int} (h : n ≤ m) : ∀ F o, (Ow.deck n).φ F o → (Ow.deck m).φ F o := fun F o ⟨a, b, c, h1, h2, h3, h4, h5, h6⟩ => ⟨a, b, c, h1, h2, h3, h4, h5, by omega⟩
section
variable {X : Cx} {ρ ρ1 : Env'} {p : Addr} {k : Nat} {e : Expr} {dk : Str} {m n lim : Int} {q pd pos : Pos}
/-- a number is drawn -/
theorem we_pick (i : Nat) (G : Cal X.prog X.w X.K X.mg X.base k "_law_pick" 2 (spK 1 prePick prPick)) (hr : Room k X.A) (he : DE X ρ e (.int lim)) (h1 : 1 ≤ lim) (h2 : lim ≤ 1000000000000000001) (hi : ρ[i]? = some (.own p (.deck n))) (hn : n + 1 ≤ 1000000000)
    (hN : X.N[i]? = some dk := by rfl) (hv : Vis X.env.scope dk := by first | exact Or.inl rfl | exact Or.inr (Or.inl rfl) | exact Or.inr (Or.inr rfl)) (hd : (dk == ("__debug__" : Str)) = false := by decide) (hcd : (dk == ("__classdict__" : Str)) = false := by decide) (hg : Gl X "_law_pick" := by rfl)
    (he1 : starEach (.Name dk pd :: [e]) X.env = (false, eval (.Name dk pd) X.env) :: starEach [e] X.env := by rfl) (hs : starEach [e] X.env = (false, eval e X.env) :: starEach [] X.env := by rfl) (hpl : (backTo pos (starEach [e] X.env)).any (·.1) = false := by rfl) :
    WE X [p] ρ (.Call (.Name "_law_pick" q) (.Name dk pd :: [e]) [] pos) (IntIn 0 lim) (ρ.set i (.own p (.deck (n + 1)))) :=
  we_imp (we_call i G hr (wa_d (PA1 := fun ds => ds = [.int lim]) (da_cons he da_nil hs) rfl) (fun ds h => ⟨lim, h, h1, h2⟩) hi hi hn hN hv hd hcd hg (by decide) he1 hpl) fun d ⟨ds, e1, l, r, e2, e3, e4, e5⟩ => by
    subst e1
    have : l = lim := by cases e2; rfl
    subst this
    exact ⟨r, e3, e4, e5⟩
end
/-- an item of a list whose items are all of P -/
theorem v_ixAll {K : PySem.W.Frag} {P : PyData → Prop} {ds : List PyData} {d2 : PyData} {n : Nat} (hl : ds.length = n) (h : ∀ d ∈ ds, P d) (h2 : IntIn 0 n d2) : ∃ d, V2 (rIxL K) (.list ds) d2 d ∧ P d := by
  obtain ⟨i, rfl, h3, h4⟩ := h2
  have hi : i.toNat < ds.length := by omega
  refine ⟨ds[i.toNat], ?_, h _ (List.getElem_mem hi)⟩
  have hc : (i.toNat : Int) = i := by omega
  have e := atI_nat (List.getElem?_eq_getElem hi)
  rw [hc] at e
  exact v_ixL e
def prHad (ds : List PyData) (d : PyData) : Prop := ∃ c ws, ds = [cuD c, wiD ws] ∧ ws.length ≤ 1000 ∧ d = wiD (had c ws)
theorem had_take_yes (c : Custom) {ws : List Int} {i : Nat} {w : Int} (h : ws[i]? = some w) (ha : decide (((aheadOf c ws ((i : Int), w) : Nat) : Int) < c.many) = true) :
    (((enumI ws).take (i + 1)).filter fun q => decide ((aheadOf c ws q : Int) < c.many)).map (·.1) = (((enumI ws).take i).filter fun q => decide ((aheadOf c ws q : Int) < c.many)).map (·.1) ++ [(i : Int)] := by
  have h2 : (enumI ws)[i]? = some ((i : Int), w) := by rw [enumI_get, h]; rfl
  obtain ⟨h3, h4⟩ := List.getElem?_eq_some_iff.mp h2
  rw [← List.take_append_getElem h3, List.filter_append, List.map_append, h4, List.filter_cons_of_pos (by exact ha)]; rfl
theorem had_take_no (c : Custom) {ws : List Int} {i : Nat} {w : Int} (h : ws[i]? = some w) (ha : decide (((aheadOf c ws ((i : Int), w) : Nat) : Int) < c.many) = false) :
    (((enumI ws).take (i + 1)).filter fun q => decide ((aheadOf c ws q : Int) < c.many)).map (·.1) = (((enumI ws).take i).filter fun q => decide ((aheadOf c ws q : Int) < c.many)).map (·.1) := by
  have h2 : (enumI ws)[i]? = some ((i : Int), w) := by rw [enumI_get, h]; rfl
  obtain ⟨h3, h4⟩ := List.getElem?_eq_some_iff.mp h2
  rw [← List.take_append_getElem h3, List.filter_append, List.map_append, h4, List.filter_cons_of_neg (by rw [ha]; decide)]; simp
theorem count_take_succ (g : Int × Int → Bool) {ws : List Int} {j : Nat} {v : Int} (h : ws[j]? = some v) :
    ((((enumI ws).take (j + 1)).filter g).length : Int) = ((((enumI ws).take j).filter g).length : Int) + (if g ((j : Int), v) = true then 1 else 0) := by
  have h2 : (enumI ws)[j]? = some ((j : Int), v) := by rw [enumI_get, h]; rfl
  obtain ⟨h3, h4⟩ := List.getElem?_eq_some_iff.mp h2
  rw [← List.take_append_getElem h3, List.filter_append, List.length_append, h4]
  cases hg : g ((j : Int), v) with
  | true => rw [List.filter_cons_of_pos (by exact hg)]; simp
  | false => rw [List.filter_cons_of_neg (by rw [hg]; decide)]; simp
/-- the middle one of nought, z and the cap -/
theorem sort3 (z : Int) {cap : Int} (hc : 0 ≤ cap) : atI ((sortI [0, z, cap]).map PyData.int) 1 = some (.int (max 0 (min z cap))) := by
  have key : ∀ ms : List Int, ms.Perm [0, z, cap] → ms.Pairwise (· ≤ ·) → ms[1]? = some (max 0 (min z cap)) → atI ((sortI [0, z, cap]).map PyData.int) 1 = some (.int (max 0 (min z cap))) := fun ms h1 h2 h3 => by
    rw [← sortI_of h1 h2]
    exact atI_int (i := 1) h3
  by_cases h0 : z ≤ 0
  · refine key [z, 0, cap] (List.Perm.swap _ _ _) (by simp; omega) ?_
    show some 0 = _
    congr 1; omega
  · by_cases h1 : z ≤ cap
    · refine key [0, z, cap] (List.Perm.refl _) (by simp; omega) ?_
      show some z = _
      congr 1; omega
    · refine key [0, cap, z] (.cons 0 (List.Perm.swap _ _ _)) (by simp; omega) ?_
      show some cap = _
      congr 1; omega
def okHand (h : Hand) : Prop := 0 ≤ h.rise ∧ h.rise ≤ 15 ∧ 0 ≤ h.fall ∧ h.fall ≤ 15 ∧ 0 ≤ h.cap ∧ h.cap ≤ 15
def preCus (ds : List PyData) : Prop := ∃ size top : Int, ds = [.int size, .int top] ∧ 2 ≤ size ∧ size ≤ 4 ∧ 0 ≤ top ∧ top ≤ 15
def prCus (ds : List PyData) (d : PyData) : Prop := ∃ (size top : Int) (c : Custom), ds = [.int size, .int top] ∧ d = cuD c ∧ WfC c ∧ ∀ h ∈ c.hands, h.cap ≤ top
theorem wi_imp {X : Cx} {ex : List Addr} {ρ ρ1 : Env'} {tg iter : Expr} {P P' : List PyData → Prop} (h : WI X ex ρ tg iter P ρ1) (i : ∀ ds, P ds → P' ds) : WI X ex ρ tg iter P' ρ1 :=
  PI.imp h fun σ H R ⟨F, ok, k⟩ => ⟨F, ok, fun ds J F2 H2 hp => k ds J F2 H2 (i ds hp)⟩
/-- the built-in names are still theirs -/
structure Bn (mg : Str → Option Value) : Prop where
  sorted : mg "sorted" = none
  enumerate : mg "enumerate" = none
  tuple : mg "tuple" = none
  max : mg "max" = none
  min : mg "min" = none
  range : mg "range" = none
  len : mg "len" = none
  zip : mg "zip" = none
  all : mg "all" = none
  any : mg "any" = none
  isinstance : mg "isinstance" = none
  int : mg "int" = none
  bool : mg "bool" = none
  str : mg "str" = none
  list : mg "list" = none
  sum : mg "sum" = none
  divmod : mg "divmod" = none
  dict : mg "dict" = none
end Tw

namespace Tw
open PySem PySem.Spec PyProof.Rows L2
/-! ## the law's own call -/
/-- the abstract heap at the law's call: the script, where it is not a thing of the module's own -/
def scrH (K : PySem.W.Frag) (a : Addr) (o : Obj) (xs : List V) : Hp := fun b => if b = a ∧ (K.lookup a).isNone = true then some (.frz o (.lst xs)) else none
section
variable {P : Program} {w : World} {K : PySem.W.Frag} {mg mb : Str → Option Value} {fa a : Addr} {st : Stmt} {fd : FuncData} {N : List Str} {s1 : Shared} {vs : List Value} {ns : List Int} {k : Nat} {x : Str}
theorem law_run (KX : K.In s1.heap) (hns : s1.heap.Ns mainGlobals mg) (hb : s1.heap.Ns builtinsNs mb) (hbb : ∀ y : Str, y ≠ "__name__" → mb y = bootBuiltins y) (hlim : s1.heap.NoLimit) (hg : s1.gens = #[])
    (ha : s1.heap.get? a = some { cls := .type "list", data := .seq vs.toArray }) (hi : IntsAre vs ns) (hl : ns.length ≤ sizeLine) (hr : Room (k + 1) callerA)
    (F : Fun K "law" "law" st fa fd) (S : FnScope N [x] (defScope st)) (hbind : Binds K fd [x] [])
    (body : ∀ (base : Heap) (cdv : Value) (s : Shared) (H : Hp) (E : XK), Room k (Bod P w K mg base N "law" st fa cdv callerA [] s H E).A → SqL K H a (ns.map V.int) →
      ∃ t, PSs (Bod P w K mg base N "law" st fa cdv callerA [] s H E) (defBody st) t ∧ t { nx := fun _ _ => False, rt := fun v _ => v = .bl true } (L2.start N [.ref a]) H) :
    codeAny (model P w) callerA (.call (.ref fa) ⟨[.ref a], []⟩) (fun r s' => r = .ok (.ret (.bool true)) ∧ OldK s1.heap s'.heap ∧ s'.os = s1.os ∧ AllBare s'.gens) s1 := by
  have rv := vals_ints hi
  have lenV := hi.length
  generalize hH : scrH K a { cls := .type "list", data := .seq vs.toArray } (ns.map V.int) = H
  have hKa : ∀ o, K.lookup a = some o → o = { cls := .type "list", data := .seq vs.toArray } := fun o h => by
    have h2 := KX a o h
    rw [ha] at h2
    exact (Option.some.inj h2).symm
  have hcase : ∀ b, H b = none ∨ (b = a ∧ K.lookup a = none ∧ H b = some (.frz { cls := .type "list", data := .seq vs.toArray } (.lst (ns.map V.int)))) := fun b => by
    subst hH
    by_cases q : b = a ∧ (K.lookup a).isNone = true
    · exact .inr ⟨q.1, Option.isNone_iff_eq_none.mp q.2, if_pos q⟩
    · exact .inl (if_neg q)
  have hS : SqL K H a (ns.map V.int) := by
    cases q : K.lookup a with
    | none => exact .inl (.inr ⟨{ cls := .type "list", data := .seq vs.toArray }, by subst hH; exact if_pos ⟨rfl, by rw [q]; rfl⟩⟩)
    | some o =>
      have := hKa o q
      subst this
      exact .inr ⟨_, vs.toArray, _, q, rfl, rfl, rfl, by rw [List.size_toArray, lenV]; exact hl, by simpa using rv⟩
  have hok : HOk P w H s1.heap := fun b u q => by
    rcases hcase b with z | ⟨z1, z2, z3⟩
    · rw [z] at q; cases q
    · rw [z3] at q
      cases q
      subst z1
      exact ⟨ha, by rw [List.length_map]; exact hl, vs, _, rv, ha⟩
  have hb1 : ∀ {b : Addr} {o : Obj}, s1.heap.get? b = some o → (b = a → K.lookup a = none → False) → (hidT s1.heap H).get? b = some o := fun {b o} e n => hidT_get e (by
    rcases hcase b with z | ⟨z1, z2, _⟩
    · exact z
    · exact (n z1 z2).elim)
  have hNs : ∀ {b : Addr} {m : Str → Option Value}, s1.heap.Ns b m → (hidT s1.heap H).Ns b m := fun {b m} ⟨o, es, ep, e, d, r⟩ => ⟨o, es, ep, hb1 e (fun z _ => by
    subst z
    rw [ha] at e
    cases e
    have d' : Data.seq vs.toArray _ = Data.dict es ep := d
    cases d'), d, r⟩
  have hKb : K.In (hidT s1.heap H) := fun b o e => hb1 (KX b o e) fun z n => by subst z; rw [n] at e; cases e
  have hM : Mod K mg (hidT s1.heap H) := ⟨hKb, hNs hns, ⟨mb, hNs hb, hbb⟩, let ⟨mc, h1, h2⟩ := hlim; ⟨mc, hNs h1, h2⟩⟩
  have e0 : Env0 P w K mg (hidT s1.heap H) callerA [] s1 H := ⟨rfl, hM, fun b o e => of_hidT e, Nat.le_of_eq (hidT_size _ _), trivial, fun b hb => absurd (show b ∈ ([] : List Addr) from hb) (by simp), hok, .of_eq hg⟩
  refine codeAny_mono (R := CR CX0 [] P w H s1 (fun v _ => v = .bl true) (fun _ _ _ => False)) ?_ fun r s' h => ?_
  · obtain ⟨oc, od, kV, doc, pm, an, cdv, ct, osl, rfl, lk, hcd⟩ := F.ex
    have hkind : ∀ y ∈ [x].zip [Value.ref a], (defScope st).names.lookup y.1 = some .local ∨ ((defScope st).names.lookup y.1 = some .cell ∧ ((cellsFrom (s1.heap.objs.size + 1) (defScope st).names []).lookup y.1).isSome = true) := fun ⟨n, v⟩ hy => by
      rcases S.par n (List.of_mem_zip hy).1 with q | q
      · exact .inl q
      · exact .inr ⟨q, PySem.W.cellsFrom_some _ _ _ (.inl q)⟩
    refine codeAny_call_function hr.depth (KX _ _ lk) rfl S.co S.gen rfl (PySem.W.codeRec_of KX hcd) (hbind s1 [.ref a] KX rfl _ _ _ _ ?_)
    refine wpAny_newFunctionEnv_cells S.kind hkind fun env he s2 X1 => ?_
    subst he
    refine ⟨hlim.keeps X1.toInCall.keep, codeAny_func ?_⟩
    obtain ⟨t, ht, hq⟩ := body (hidT s1.heap H) cdv s1 H (fun _ _ _ => False) (hr.deeper _) hS
    have I : Inv (cxOf CX0 P w K mg (hidT s1.heap H) N "law" (defScope st) fa cdv callerA [] s1 H (fun _ _ _ => False)) [] (L2.start N [V.ref a]) H s2 := inv_start S hr.hd e0 (us := [Value.ref a]) rfl (.cons rfl .nil) X1
    refine wpAny_mono (ht.nox.run [] s2 (L2.start N [V.ref a]) H _ I hq) (fun fl s' hs => ?_) fun e s' hs => hs
    cases fl with
    | ret u =>
      obtain ⟨v, σ', H', J, rv', q⟩ := hs
      exact ⟨v, H', J.os, J.bare, J.base, J.hok, rv', q⟩
    | next =>
      obtain ⟨σ', H', J, q⟩ := hs
      exact q.elim
    | brk =>
      obtain ⟨_, _, _, q⟩ := hs
      exact False.elim q
    | cont =>
      obtain ⟨_, _, _, q⟩ := hs
      exact False.elim q
  · cases r with
    | error e => exact False.elim (show False from h)
    | ok fl =>
      cases fl with
      | next => exact False.elim h
      | brk => exact False.elim h
      | cont => exact False.elim h
      | ret u =>
        obtain ⟨v, H', os, bare, un, hok', rv', q⟩ := h
        have q' : v = .bl true := q
        subst q'
        obtain rfl : u = Value.bool true := rv'
        refine ⟨rfl, OldK.of_keep fun b o e => ?_, os, bare⟩
        rcases hcase b with z | ⟨z1, z2, z3⟩
        · exact un.keep b o e z (by intro z; exact absurd (show b ∈ ([] : List Addr) from z) (by simp)) (by simp)
        · have z4 := un.frzs b _ _ z3
          obtain ⟨e1, _⟩ := hok b _ z3
          obtain ⟨e2, _⟩ := hok' b _ z4
          rw [e] at e1; cases e1
          exact e2
end
/-! ## str of data -/
section
variable {X : Cx}
def rStrD (K : PySem.W.Frag) : List V → Hp → VK → Prop := fun xs H Q => ∃ v d, xs = [v] ∧ Dp K H v d ∧ isDisplay d = true ∧ d.showable = true ∧ d.hasDict = false ∧ d.depth ≤ 60 ∧ d.shown.length ≤ sizeLine ∧ Q (.str d.shown) H
theorem call_strD (hg : X.A.guards = some []) (hu : X.A.units + 64 < cLine) : CallR X (.type "str") (rStrD X.K) := by
  intro pins s σ H xs us Q I r h
  obtain ⟨v, d, rfl, hd, h1, h2, h3, h4, h5, q⟩ := h
  obtain ⟨u, rfl, rv⟩ := vals1 r
  obtain ⟨as, r1⟩ := Dp.reads I d v u hd rv
  obtain ⟨a, rfl⟩ := isRef_of_reads r1 h1
  exact str_of_reads r1 h2 (PyData.noDict_hsm h3) hg (by omega) (fun _ _ e => e) (fun h' u tk hk => ⟨.str d.shown, H, I.kept hk, ⟨u, rfl⟩, q⟩) h5
theorem v_strD {K : PySem.W.Frag} {d : PyData} (h1 : isDisplay d = true) (h2 : d.showable = true) (h3 : d.hasDict = false) (h4 : d.depth ≤ 60) (h5 : d.shown.length ≤ sizeLine) : VN (rStrD K) [d] (.str d.shown) := VN1 fun F H v e r Q k =>
  ⟨v, d, rfl, r.dp e, h1, h2, h3, h4, h5, k _ F H (GrowX.refl e) (.str _)⟩
theorem v_maxL {K : PySem.W.Frag} {ns : List Int} {m : Int} (hm : m ∈ ns) (hx : ∀ y ∈ ns, y ≤ m) : VN (rMax K) [.list (ns.map .int)] (.int m) := VN1 fun F H v e r Q k => by
  obtain ⟨a, xs, rfl, ha, rx⟩ := r.lst_inv
  have := rx.ints; subst this
  refine ⟨a, ns, rfl, SqL.of (e _ _ ha), List.length_pos_of_mem hm, fun m' h1 h2 => ?_⟩
  have : m' = m := Int.le_antisymm (hx _ h1) (h2 _ hm)
  subst this
  exact k _ F H (GrowX.refl e) (.int _)
theorem v_minL {K : PySem.W.Frag} {ns : List Int} {m : Int} (hm : m ∈ ns) (hx : ∀ y ∈ ns, m ≤ y) : VN (rMin K) [.list (ns.map .int)] (.int m) := VN1 fun F H v e r Q k => by
  obtain ⟨a, xs, rfl, ha, rx⟩ := r.lst_inv
  have := rx.ints; subst this
  refine ⟨a, ns, rfl, SqL.of (e _ _ ha), List.length_pos_of_mem hm, fun m' h1 h2 => ?_⟩
  have : m' = m := Int.le_antisymm (h2 _ hm) (hx _ h1)
  subst this
  exact k _ F H (GrowX.refl e) (.int _)
theorem v_isnotB {a b : Bool} : V2 (fun x y H Q => ∃ a b, x = .bl a ∧ y = .bl b ∧ Q (.bl (!decide (a = b))) H) (.bool a) (.bool b) (.bool (!decide (a = b))) := fun F H v1 v2 s r1 r2 Q k =>
  ⟨a, b, r1.bl_inv, r2.bl_inv, k _ F H (GrowX.refl s) (.bl _)⟩
end
/-! ## for cell in [0] + script[:8] -/
section
variable {X : Cx} {F0 H0 : Hp} {ρ : Env'} {sts body : List Stmt} {A : Aims} {tg iter : Expr} {pos : Pos}
/-- a loop whose source is told by the heap at the entry -/
theorem dss_forS {ds : List PyData} (I : Nat → Env' → Prop) (Sc : Hp → Prop) (hSc : ∀ F H σ, At [] F0 H0 ρ σ F H → Sc H) (hi : PI X tg iter (fun σ H R => Sc H ∧ tDI ρ ds σ H R)) (h0 : I 0 ρ)
    (hs : ∀ (i : Nat) (x : PyData) (ρ' : Env'), ds[i]? = some x → I i ρ' → ∃ ρ2 is, DG X ρ' tg x ρ2 is ∧ DSs X [] F0 H0 ρ2 body { A with N := I (i + 1), B := I ds.length, C := I (i + 1) })
    (k : ∀ ρ', I ds.length ρ' → DSs X [] F0 H0 ρ' sts A) (hp : PassesOwn (model X.prog X.w) X.A X.env X.xe := by exact PassesOwn.never) (hc : X.calm = true := by rfl) (hse : ∀ x, foldedSetIterable iter X.env x = pure x := by intro _; rfl) : DSs X [] F0 H0 ρ (.For tg iter body [] pos :: sts) A := by
  refine dss_seq (N1 := I ds.length) ?_ k
  refine PS.imp (ps_for hp hc hi (g := fun v σ H Q => ∃ q : Env' × PyData × Env' × List Nat, PG X tg (tDG q.1 q.2.1 q.2.2.1 q.2.2.2) ∧ tDG q.1 q.2.1 q.2.2.1 q.2.2.2 v σ H Q) (tb := fun D σ H => ∃ q : Env' × Aims, DSs X [] F0 H0 q.1 body q.2 ∧ tS [] F0 H0 q.1 q.2 D σ H)
    (PG.any fun q h => h) (PSs.any fun q h => h) hse) fun D σ H ⟨F, a, n, r, b, c⟩ => ⟨hSc F H σ a, F, a.ok, fun J F1 H1 g1 hJ => ?_⟩
  refine ⟨fun i m σ' H' => m = ds.length - i ∧ i ≤ ds.length ∧ ∃ ρ' F', I i ρ' ∧ At [] F0 H0 ρ' σ' F' H' ∧ Same F1 F', ⟨ds.length, by simp, Nat.zero_le _, ρ, F1, h0, a.grow g1, Same.refl _⟩, ?_⟩
  rintro i m σ' H' ⟨rfl, hle, ρ', F', hI, a', sF⟩
  obtain ⟨j1, j2⟩ := hJ i F' H' sF a'.ok.s
  by_cases hlt : i < ds.length
  · right
    have hd' : ds[i]? = some ds[i] := List.getElem?_eq_getElem hlt
    obtain ⟨go, yl⟩ := j1 _ hd'
    refine ⟨go, fun σ2 H2 => ∃ ρ2 F2, I (i + 1) ρ2 ∧ At [] F0 H0 ρ2 σ2 F2 H2 ∧ Same F1 F2, fun σ2 H2 ⟨ρ2, F2, q1, q2, q3⟩ => ⟨ds.length - (i + 1), by omega, rfl, hlt, ρ2, F2, q1, q2, q3⟩, fun x H2 hy => ?_⟩
    obtain ⟨F2, g2, rx⟩ := yl x H2 hy
    obtain ⟨ρ2, is, ⟨hG, hr⟩, hB⟩ := hs i _ ρ' hd' hI
    have a2 := a'.grow g2
    refine ⟨(ρ', ds[i], ρ2, is), hG, F2, a2.ok, rx, fun σ3 ok3 _ => ⟨(ρ2, _), hB, F2, ⟨a2.g, ok3, fun i p w q => a2.new i p w (hr i p w q)⟩, fun ρ4 σ4 F4 H4 h4 s4 a4 => ⟨ρ4, F4, h4, a4, sF.trans (g2.f.trans s4)⟩, r,
      fun ρ4 σ4 F4 H4 h4 s4 a4 => n ρ4 σ4 F4 H4 h4 (g1.f.trans (sF.trans (g2.f.trans s4))) a4, fun ρ4 σ4 F4 H4 h4 s4 a4 => ⟨ρ4, F4, h4, a4, sF.trans (g2.f.trans s4)⟩⟩⟩
  · left
    have hi' : i = ds.length := by omega
    subst hi'
    exact ⟨j2 (by simp), n _ _ F' H' hI (g1.f.trans sF) a'⟩
theorem sqL_same {K : PySem.W.Frag} {H H' : Hp} {a : Addr} {xs : List V} (h : SqL K H a xs) (e : Same H H') : SqL K H' a xs := by
  rcases h with (h | ⟨o, h⟩) | h
  · exact .inl (.inl (e _ _ h))
  · exact .inl (.inr ⟨o, e _ _ h⟩)
  · exact .inr h
theorem jok_lst {K : PySem.W.Frag} {F : Hp} {a : Addr} {xs : List V} {ds : List PyData} (h1 : F a = some (.lst xs)) (r1 : RpA F xs ds) : JOk (Itl K a) F ds := fun i F1 H' e1 e2 => ⟨fun d hd => by
    obtain ⟨x, hx, rx⟩ := r1.get hd
    refine ⟨⟨xs, x, SqL.of (e2 _ _ (e1 _ _ h1)), hx⟩, fun y H'' ⟨q1, q2⟩ => ?_⟩
    subst q1
    have := q2 xs (SqL.of (e2 _ _ (e1 _ _ h1)))
    rw [hx] at this; cases this
    exact ⟨F1, GrowX.refl e2, rx.mono e1⟩, fun hn => ⟨xs, SqL.of (e2 _ _ (e1 _ _ h1)), by rw [r1.len]; exact List.getElem?_eq_none_iff.mp hn⟩⟩
/-- [0] + script[:m] -/
theorem pi_script {a : Addr} {ns : List Int} {sc : Str} {m : Int} {k1 k2 : Nat} {p1 p2 p3 p4 p5 p6 p7 : Pos} (hr : ρ[0]? = some (.val (.ref a))) (hm : 0 ≤ m) (hl : ns.length ≤ 1000) (h0 : X.N[0]? = some sc := by rfl) (hv : Vis X.env.scope sc := by first | exact Or.inl rfl | exact Or.inr (Or.inl rfl) | exact Or.inr (Or.inr rfl))
    (hd : (sc == ("__debug__" : Str)) = false := by decide) (hcd : (sc == ("__classdict__" : Str)) = false := by decide) :
    PI X tg (.BinOp (.List [.Constant (.int 0) k1 p1] p2) .Add (.Subscript (.Name sc p3) (.Slice none (some (.Constant (.int m) k2 p4)) none p5) p6) p7) (fun σ H R => SqL X.K H a (ns.map V.int) ∧ tDI ρ ((0 :: ns.take m.toNat).map .int) σ H R) := by
  refine PI.imp (pi_list (pe_op op_cat (pe_lst (pa_cons pe_int pa_nil)) (pe_slice sl_list (pe_var h0 hv hd hcd) po_none (po_some (pe_int))))) fun σ H R ⟨hS, F, ok, k⟩ => ?_
  obtain ⟨o, h1, h2⟩ := ok.at_ 0 _ hr
  have h2' : o = some (.ref a) := h2
  subst h2'
  refine ⟨Nat.le_of_ble_eq_true rfl, fun p hp => ?_⟩
  have s1 : Same H (upd H p (HO.lst [V.int 0])) := Same.upd_new hp
  refine ⟨V.ref a, h1, m, rfl, a, ns.map V.int, rfl, sqL_same hS s1, fun q hq => ?_⟩
  have hpq : p ≠ q := fun z => by subst z; rw [upd_same] at hq; cases hq
  have hq0 : H q = none := by
    rw [upd_ne (Ne.symm hpq)] at hq; exact hq
  have hcut : cutV (ns.map V.int) none (some m) = (ns.take m.toNat).map V.int := by
    unfold cutV HT.sIx
    show List.take ((if m < 0 then (m + ((ns.map V.int).length : Int)).toNat else min m.toNat (ns.map V.int).length) - 0) (List.drop 0 (ns.map V.int)) = _
    rw [if_neg (by omega)]
    simp only [List.drop_zero, Nat.sub_zero, List.length_map, ← List.map_take]
    congr 1
    refine List.take_eq_take_iff.mpr ?_
    omega
  rw [hcut]
  have hlen : [V.int 0].length + ((ns.take m.toNat).map V.int).length ≤ sizeLine := by
    rw [List.length_map, List.length_take]
    refine Nat.le_trans (show 1 + min m.toNat ns.length ≤ 1001 by omega) (by decide)
  refine ⟨p, q, [V.int 0], _, rfl, rfl, by rw [upd_ne hpq]; exact upd_same, upd_same, hlen, fun r hr' => ?_⟩
  have s2 : Same H (upd (upd H p (HO.lst [V.int 0])) q (HO.lst ((ns.take m.toNat).map V.int))) := s1.trans (Same.upd_new hq)
  have hr0 : H r = none := by
    cases z : H r with
    | none => rfl
    | some u => rw [s2 _ _ z] at hr'; cases hr'
  have g : Grow F H (upd F r (.lst ((V.int 0) :: (ns.take m.toNat).map V.int))) (upd (upd (upd H p (HO.lst [V.int 0])) q (HO.lst ((ns.take m.toNat).map V.int))) r (.lst ((V.int 0) :: (ns.take m.toNat).map V.int))) :=
    ((Grow.skip ok.s hp).trans (Grow.skip (ok.s.trans s1) hq)).trans (Grow.new (ok.s.trans s2) hr')
  exact ⟨r, rfl, ⟨_, SqL.of upd_same⟩, k _ _ _ g (jok_lst upd_same (RpA.of_ints (0 :: ns.take m.toNat)))⟩
end
/-! ## a deck of the law's own -/
section
variable {X : Cx} {ex : List Addr} {F0 H0 : Hp} {ρ : Env'} {st : Stmt} {sts : List Stmt} {A : Aims} {e1 e2 : Expr} {pos q : Pos} {k : Nat} {cell turn : Int}
theorem dn_deck (G : Cal X.prog X.w X.K X.mg X.base k "_law_deck" 2 spDeck) (hr : Room k X.A) (ha : DA X ρ [e1, e2] [.int cell, .int turn]) (ht : 0 ≤ turn) (hg : Gl X "_law_deck" := by rfl)
    (he : starEach [e1, e2] X.env = (false, eval e1 X.env) :: starEach [e2] X.env := by rfl) (hpl : (backTo pos (starEach [e2] X.env)).any (·.1) = false := by rfl) : DN X ρ (.Call (.Name "_law_deck" q) [e1, e2] [] pos) (.deck turn) := by
  obtain ⟨f, fd, ps, h1, h2, h3, _, h4⟩ := G
  exact PE.imp (pe_call h4 hr hg h1 h2 h3 .nil pass0 ha (by decide) he hpl) fun σ H Q ⟨F, ok, k⟩ => ⟨F, ok, fun vs F2 H2 g r => by
    cases r with
    | cons r1 r => cases r with
      | cons r2 r =>
        cases r
        refine ⟨cell, turn, by rw [r1.int_inv, r2.int_inv]; rfl, fun p a b ha hb hb2 hp => ?_⟩
        have hp1 : H p = none := by
          cases z : H p with
          | none => rfl
          | some u => exact absurd hp (g.k p (by rw [z]; simp))
        exact k p _ F2 _ (g.trans (Grow.skip g.s hp)) hp1 (same_none g.s hp) upd_same ⟨a, b, turn, rfl, ha, hb, hb2, ht, Int.le_refl _⟩⟩
/-- the one own thing is a deck: from here on only it may change -/
theorem dss_mine (i : Nat) {p : Addr} {w : Ow} (hi : ρ[i]? = some (.own p w)) (h1 : ∀ (j : Nat) (q : Addr) (w' : Ow), ρ[j]? = some (.own q w') → q = p) (h : ∀ F1 H1, DSs X [p] F1 H1 ρ sts A) : DSs X ex F0 H0 ρ sts A := by
  refine PSs.imp (PSs.any (ι := Hp × Hp) (c := fun _ => True) (t := fun z => tS [p] z.1 z.2 ρ A) fun z _ => h z.1 z.2) fun D σ H ⟨F, a, n, r, b, c⟩ => ⟨(F, H), trivial, F, ⟨GrowX.refl a.ok.s, a.ok, fun j q w' hj => .inr (by rw [h1 j q w' hj]; exact List.mem_singleton.mpr rfl)⟩, ?_⟩
  have hp := a.new i p w hi
  have back : ∀ {ρ' σ' F' H'}, At [p] F H ρ' σ' F' H' → At ex F0 H0 ρ' σ' F' H' := fun {ρ' σ' F' H'} a' => by
    refine ⟨⟨a.g.f.trans a'.g.f, a'.g.s, fun c o hx hc => ?_, fun c hc => a'.g.k c (a.g.k c hc), fun c q1 q2 => a'.g.n c (a.g.n c q1 q2) (a.g.m c q2), fun c q => a'.g.m c (a.g.m c q)⟩, a'.ok, fun j q w' hj => ?_⟩
    · refine a'.g.h c o (fun z => ?_) (a.g.h c o hx hc)
      have := List.mem_singleton.mp z
      subst this
      rcases hp with hp | hp
      · rw [hp] at hc; cases hc
      · exact hx hp
    · rcases a'.new j q w' hj with z | z
      · refine .inl ?_
        cases y : H0 q with
        | none => rfl
        | some u => exact absurd z (a.g.k q (by rw [y]; simp))
      · rw [List.mem_singleton.mp z]; exact hp
  exact ⟨fun ρ' σ' F' H' q s1 a' => n ρ' σ' F' H' q s1 (back a'), ⟨fun d v ρ' σ' F' H' q a' rv => r.1 d v ρ' σ' F' H' q (back a') rv, r.2⟩, fun ρ' σ' F' H' q s1 a' => b ρ' σ' F' H' q s1 (back a'), fun ρ' σ' F' H' q s1 a' => c ρ' σ' F' H' q s1 (back a')⟩
end
/-! ## a law's body and its end -/
def owns : Env' → List Addr
  | [] => []
  | .own p _ :: ρ => p :: owns ρ
  | _ :: ρ => owns ρ
theorem owns_mem {ρ : Env'} {j : Nat} {q : Addr} {w : Ow} (h : ρ[j]? = some (.own q w)) : q ∈ owns ρ := by
  induction ρ generalizing j with
  | nil => simp at h
  | cons e ρ ih =>
    cases j with
    | zero =>
      have : e = .own q w := by simpa using h
      subst this
      exact List.mem_cons_self ..
    | succ j =>
      have := ih (j := j) (by simpa using h)
      cases e with
      | own p v => exact List.mem_cons_of_mem _ this
      | no => exact this
      | dat d => exact this
      | val v => exact this
      | fx q u => exact this
      | st q w => exact this
theorem owns_one {ρ : Env'} {p : Addr} (h : owns ρ = [p]) : ∀ (j : Nat) (q : Addr) (w : Ow), ρ[j]? = some (.own q w) → q = p := fun j q w hj => by
  have := owns_mem hj
  rw [h] at this
  exact List.mem_singleton.mp this
theorem owns_no (a : V) : ∀ n : Nat, owns (.val a :: List.replicate n .no) = []
  | 0 => rfl
  | n + 1 => owns_no a n
theorem law_fin {X : Cx} {H : Hp} {a : Addr} {N : List Str} {sts : List Stmt} (n : Nat) (body : DSs X [] (fun _ => none) H (.val (.ref a) :: List.replicate n .no) sts { N := fun _ => False, R := fun d _ => d = .bool true }) (hN : N.length = n + 1) :
    ∃ t, PSs X sts t ∧ t { nx := fun _ _ => False, rt := fun v _ => v = .bl true } (L2.start N [.ref a]) H := by
  refine ⟨_, body, fun _ => none, ⟨GrowX.refl (fun b u q => by cases q), ⟨(fun b u q => by cases q), ?_, fun j e hj => ?_, fun j k p q w w' hj => ?_⟩, fun j q w hj => ?_⟩, fun _ _ _ _ z => z.elim, ⟨fun d v ρ' σ' F' H' h _ rv => ?_, fun _ _ h => h.elim⟩, fun _ _ _ _ z => z.elim, fun _ _ _ _ z => z.elim⟩
  · simp [L2.start, hN]
  · cases j with
    | zero =>
      have : e = .val (.ref a) := by simpa using hj.symm
      subst this
      exact ⟨some (.ref a), by simp [L2.start], rfl⟩
    | succ j =>
      have hj' : (List.replicate n Ent.no)[j]? = some e := by simpa using hj
      rw [List.getElem?_replicate] at hj'
      by_cases hlt : j < n
      · rw [if_pos hlt] at hj'
        cases hj'
        refine ⟨none, ?_, trivial⟩
        simp [L2.start, hN, hlt]
      · rw [if_neg hlt] at hj'; cases hj'
  · have := owns_mem hj
    rw [owns_no] at this
    cases this
  · have := owns_mem hj
    rw [owns_no] at this
    cases this
  · have h' : d = .bool true := h
    subst h'
    exact rv.bl_inv
theorem dt_eq {X : Cx} {ρ : Env'} {e : Expr} {x y : Bool} (h : DT X ρ e x) (e1 : x = y) : DT X ρ e y := e1 ▸ h
section
variable {ρ : Env'}
theorem Ok.tell {F H : Hp} {σ : L2.St} {p : Addr} {o : HO} (h : Ok F H ρ σ) (hF : F p = none) (hp : H p = some o) (hne : ∀ (j : Nat) (q : Addr) (w : Ow), ρ[j]? = some (.own q w) → q ≠ p) : Ok (upd F p o) H ρ σ := by
  have sF : Same F (upd F p o) := Same.upd_new hF
  refine ⟨fun b u q => ?_, h.len, fun j en hj => ?_, h.ne⟩
  · by_cases hb : b = p
    · subst hb; rw [upd_same] at q; rw [hp]; exact q
    · rw [upd_ne hb] at q; exact h.s b u q
  · obtain ⟨oo, x1, x2⟩ := h.at_ j en hj
    refine ⟨oo, x1, ?_⟩
    cases en with
    | no => trivial
    | dat d => obtain ⟨v, y1, y2⟩ := x2; exact ⟨v, y1, y2.mono sF⟩
    | val v => exact x2
    | fx q u => exact ⟨x2.1, sF _ _ x2.2⟩
    | st q w => exact ⟨x2.1, let ⟨u, hu, hw⟩ := x2.2; ⟨u, sF _ _ hu, w.mono sF hw⟩⟩
    | own q w =>
      obtain ⟨y1, y2, ho, y3, y4⟩ := x2
      exact ⟨y1, by rw [upd_ne (hne j q w hj)]; exact y2, ho, y3, w.mono sF y4⟩
theorem Ok.aside {F H : Hp} {σ : L2.St} {p : Addr} {o : HO} (h : Ok F H ρ σ) (hF : F p = none) (hne : ∀ (j : Nat) (q : Addr) (w : Ow), ρ[j]? = some (.own q w) → q ≠ p) : Ok F (upd H p o) ρ σ := by
  refine ⟨fun b u q => ?_, h.len, fun j en hj => ?_, h.ne⟩
  · have hb : b ≠ p := fun z => by subst z; rw [hF] at q; cases q
    rw [upd_ne hb]; exact h.s b u q
  · obtain ⟨oo, x1, x2⟩ := h.at_ j en hj
    refine ⟨oo, x1, ?_⟩
    cases en with
    | no => trivial
    | dat d => exact x2
    | val v => exact x2
    | fx q u => exact x2
    | st q w => exact x2
    | own q w =>
      obtain ⟨y1, y2, ho, y3, y4⟩ := x2
      exact ⟨y1, y2, ho, by rw [upd_ne (hne j q w hj)]; exact y3, y4⟩
theorem Grow.tellNew {F H F2 H2 : Hp} {p : Addr} {o : HO} (g : Grow F H F2 H2) (h0 : H p = none) (h1 : F2 p = none) (h2 : H2 p = some o) : Grow F H (upd F2 p o) H2 := by
  have s1 : Same F2 (upd F2 p o) := Same.upd_new h1
  refine ⟨g.f.trans s1, fun b u q => ?_, g.h, g.k, fun b q1 q2 => ?_, g.m⟩
  · by_cases hb : b = p
    · subst hb; rw [upd_same] at q; rw [h2]; exact q
    · rw [upd_ne hb] at q; exact g.s b u q
  · have hb : b ≠ p := fun z => by subst z; exact q2.ne h0
    rw [upd_ne hb]; exact g.n b q1 q2
/-- a tuple that stands may be told -/
theorem Grow.tellT {F H F2 H2 : Hp} {p : Addr} {xs : List V} (g : Grow F H F2 H2) (h2 : H2 p = some (.tup xs)) : Grow F H (upd F2 p (.tup xs)) H2 := by
  have s1 : Same F2 (upd F2 p (.tup xs)) := fun b u q => by
    by_cases hb : b = p
    · subst hb
      have := g.s _ _ q
      rw [h2] at this; cases this
      exact upd_same
    · rw [upd_ne hb]; exact q
  refine ⟨g.f.trans s1, fun b u q => ?_, g.h, g.k, fun b q1 q2 => ?_, g.m⟩
  · by_cases hb : b = p
    · subst hb; rw [upd_same] at q; rw [h2]; exact q
    · rw [upd_ne hb] at q; exact g.s b u q
  · have hb : b ≠ p := fun z => by
      subst z
      obtain ⟨o, h3, h4⟩ := g.m b q2
      rw [h2] at h3; cases h3
      exact h4 _ rfl
    rw [upd_ne hb]; exact g.n b q1 q2
end
end Tw

namespace Tw
open PySem PySem.Spec PyProof.Rows L2
/-! ## data that can be compared -/
def Lay (n : Nat) (d : PyData) : Prop := d.canLay0 = true ∧ d.depth ≤ n
theorem Lay.mono {n m : Nat} {d : PyData} (h : Lay n d) (e : n ≤ m) : Lay m d := ⟨h.1, Nat.le_trans h.2 e⟩
theorem layAll {n : Nat} : ∀ {ds : List PyData}, (∀ d ∈ ds, Lay n d) → PyData.canLayAll0 ds = true ∧ PyData.depthAll ds ≤ n
  | [], _ => ⟨by simp [PyData.canLayAll0], by simp [PyData.depthAll]⟩
  | d :: ds, h => by
    obtain ⟨h1, h2⟩ := h d (List.mem_cons_self ..)
    obtain ⟨h3, h4⟩ := layAll (fun e he => h e (List.mem_cons_of_mem _ he))
    exact ⟨by simp [PyData.canLayAll0, h1, h3], by simp [PyData.depthAll]; omega⟩
theorem Lay.list {n : Nat} {ds : List PyData} (h : ∀ d ∈ ds, Lay n d) : Lay (n + 1) (.list ds) := by
  obtain ⟨h1, h2⟩ := layAll h
  exact ⟨by simp [PyData.canLay0, h1], by simp [PyData.depth]; omega⟩
theorem Lay.tup {n : Nat} {ds : List PyData} (h : ∀ d ∈ ds, Lay n d) : Lay (n + 1) (.tuple ds) := by
  obtain ⟨h1, h2⟩ := layAll h
  exact ⟨by simp [PyData.canLay0, h1], by simp [PyData.depth]; omega⟩
theorem Lay.int (i : Int) {n : Nat} : Lay n (.int i) := ⟨by simp [PyData.canLay0], by simp [PyData.depth]⟩
theorem Lay.bl (i : Bool) {n : Nat} : Lay n (.bool i) := ⟨by simp [PyData.canLay0], by simp [PyData.depth]⟩
theorem Lay.non {n : Nat} : Lay n .none := ⟨by simp [PyData.canLay0], by simp [PyData.depth]⟩
theorem Lay.shaped {n : Nat} {d : PyData} (h : Lay n d) (hn : n ≤ 64 := by decide) : SeqAt.shaped d = true := by
  unfold SeqAt.shaped
  rw [h.1, decide_eq_true (Nat.le_trans h.2 hn)]; rfl
theorem Lay.eqv {n : Nat} {d : PyData} (h : Lay n d) : PyData.eqv d d = true := PySem.SeqAt.eqv_refl d h.1
theorem lay_ints (ws : List Int) : ∀ d ∈ ws.map PyData.int, Lay 0 d := fun d hd => by
  obtain ⟨i, _, rfl⟩ := List.mem_map.mp hd
  exact .int i
theorem lay_wi (ws : List Int) : Lay 1 (wiD ws) := .tup (lay_ints ws)
theorem lay_cons {n : Nat} {d : PyData} {ds : List PyData} (h : Lay n d) (t : ∀ e ∈ ds, Lay n e) : ∀ e ∈ d :: ds, Lay n e := fun e he => by
  rcases List.mem_cons.mp he with q | q
  · rw [q]; exact h
  · exact t e q
theorem lay_nil {n : Nat} : ∀ e ∈ ([] : List PyData), Lay n e := fun e he => by cases he
theorem lay_one (c : Custom) (ws : List Int) : Lay 2 (oneD c ws) := .tup (lay_cons (lay_wi _) (lay_cons (lay_wi _) lay_nil))
theorem lay_rows (rs : List (List Int)) : Lay 2 (.list (rs.map wiD)) := .list fun d hd => by
  obtain ⟨i, _, rfl⟩ := List.mem_map.mp hd
  exact lay_wi i
theorem lay_run (c : Custom) (ws : List Int) (n : Nat) : Lay 3 (runD c ws n) := .tup (lay_cons (lay_rows _) (lay_cons ((lay_wi _).mono (by decide)) lay_nil))
/-! ## d != d -/
theorem v_neL {K : PySem.W.Frag} {n : Nat} {d : PyData} (h : Lay n d) (hn : n ≤ 64 := by decide) : V2 (rNeD K) d d (.bool false) := by
  have := v_neD (K := K) (h.shaped hn) (h.shaped hn)
  rw [h.eqv] at this
  exact this
/-! ## a tuple of small numbers as text -/
theorem shown_small {i : Int} (h0 : 0 ≤ i) (h1 : i ≤ 15) : (PyData.int i).shown.length ≤ 2 := by
  have key : ∀ n : Fin 16, (Str.ofString (toString ((n.val : Nat) : Int))).length ≤ 2 := by decide +kernel
  have := key ⟨i.toNat, by omega⟩
  have e : ((i.toNat : Nat) : Int) = i := by omega
  rw [PyData.shown.eq_3, ← e]
  exact this
theorem shown_ints : ∀ ws : List Int, PyData.shownAll (ws.map PyData.int) = ws.map fun i => (PyData.int i).shown
  | [] => by simp [PyData.shownAll]
  | w :: ws => by simp [PyData.shownAll, shown_ints ws]
theorem str_wi {K : PySem.W.Frag} {ws : List Int} (h : ∀ w ∈ ws, 0 ≤ w ∧ w ≤ 15) (hl : ws.length ≤ 4) : VN (rStrD K) [wiD ws] (.str (wiD ws).shown) := by
  have hs : ∀ (ws : List Int), (∀ w ∈ ws, 0 ≤ w ∧ w ≤ 15) → PyData.showableAll (ws.map PyData.int) = true := fun ws h => by
    induction ws with
    | nil => simp [PyData.showableAll]
    | cons w ws ih =>
      obtain ⟨h1, h2⟩ := h w (List.mem_cons_self ..)
      have : w.natAbs.log2 < 1920 := Nat.lt_of_le_of_lt (Nat.log2_le_self _) (by omega)
      simp [PyData.showableAll, PyData.showable, ih fun w hw => h w (List.mem_cons_of_mem _ hw), this]
  have hd : ∀ (ws : List Int), PyData.hasDictAll (ws.map PyData.int) = false := fun ws => by
    induction ws with
    | nil => simp [PyData.hasDictAll]
    | cons w ws ih => simp [PyData.hasDictAll, PyData.hasDict, ih]
  refine v_strD rfl (by simp [wiD, PyData.showable, hs ws h]) (by simp [wiD, PyData.hasDict, hd]) (Nat.le_trans (lay_wi ws).2 (by decide)) ?_
  show (PyData.shown (.tuple (ws.map PyData.int))).length ≤ sizeLine
  rw [PyData.shown.eq_6, shown_ints]
  refine Nat.le_trans (tupleText_len_le _) (Nat.le_trans (m := 40) ?_ (by decide))
  have key : ∀ ws : List Int, (∀ w ∈ ws, 0 ≤ w ∧ w ≤ 15) → ((ws.map fun i => (PyData.int i).shown).map (·.length)).sum ≤ 2 * ws.length := fun ws => by
    induction ws with
    | nil => intro _; simp
    | cons w ws ih =>
      intro h
      have h1 := shown_small (h w (List.mem_cons_self ..)).1 (h w (List.mem_cons_self ..)).2
      have h2 := ih fun w hw => h w (List.mem_cons_of_mem _ hw)
      simp only [List.map_cons, List.sum_cons, List.length_cons]
      omega
  have h1 := key ws h
  rw [List.length_map]
  omega
/-! ## who has it wishes most -/
theorem had_mem {c : Custom} {ws : List Int} {i : Int} : i ∈ had c ws ↔ ∃ (k : Nat) (w : Int), i = k ∧ ws[k]? = some w ∧ (aheadOf c ws ((k : Int), w) : Int) < c.many := by
  unfold had
  rw [List.mem_map]
  constructor
  · rintro ⟨p, hp, rfl⟩
    obtain ⟨h1, h2⟩ := List.mem_filter.mp hp
    obtain ⟨k, h3, h4⟩ := enumI_mem.mp h1
    have : p = ((k : Int), p.2) := Prod.ext h3 rfl
    refine ⟨k, p.2, h3, h4, ?_⟩
    rw [← this]; simpa using h2
  · rintro ⟨k, w, rfl, h1, h2⟩
    exact ⟨((k : Int), w), List.mem_filter.mpr ⟨enumI_mem.mpr ⟨k, rfl, h1⟩, by simpa using h2⟩, rfl⟩
theorem had_bound {c : Custom} {ws : List Int} {i : Int} (h : i ∈ had c ws) : 0 ≤ i ∧ i < ws.length := by
  obtain ⟨k, w, rfl, h1, _⟩ := had_mem.mp h
  have := (List.getElem?_eq_some_iff.mp h1).1
  omega
theorem had_len {c : Custom} {ws : List Int} (h1 : 0 ≤ c.many) (h2 : c.many ≤ ws.length) : ((had c ws).length : Int) = c.many := by
  rw [← hadOf_eq c ws h1]
  unfold hadOf
  rw [show (sortI _).length = _ from List.length_mergeSort _, List.length_map]
  unfold takeI
  rw [if_neg (by omega), List.length_take]
  have : (orderOf c ws).length = ws.length := by rw [orderOf, (sortP_perm _).length_eq, List.length_map, enumI_len]
  rw [this]
  omega
theorem ahead_le {c : Custom} {ws : List Int} {p q : Int × Int} (h : q.2 < p.2) : aheadOf c ws p ≤ aheadOf c ws q := by
  unfold aheadOf
  have key : ∀ l : List (Int × Int), (l.filter (goesAhead c.first p)).length ≤ (l.filter (goesAhead c.first q)).length := fun l => by
    induction l with
    | nil => simp
    | cons x l ih =>
      simp only [List.filter_cons]
      have hx : goesAhead c.first p x = true → goesAhead c.first q x = true := fun hx => by
        unfold goesAhead at hx ⊢
        simp only [Bool.or_eq_true, decide_eq_true_eq, Bool.and_eq_true] at hx ⊢
        rcases hx with hx | hx
        · left; omega
        · left; have := hx.1; omega
      by_cases h1 : goesAhead c.first p x = true
      · rw [if_pos h1, if_pos (hx h1), List.length_cons, List.length_cons]; omega
      · rw [if_neg h1]
        split
        · rw [List.length_cons]; omega
        · exact ih
  exact key _
theorem had_most {c : Custom} {ws : List Int} {i j : Nat} {v w : Int} (hi : (i : Int) ∉ had c ws) (hj : (j : Int) ∈ had c ws) (h1 : ws[i]? = some v) (h2 : ws[j]? = some w) : v ≤ w := by
  obtain ⟨k, w', e, h3, h4⟩ := had_mem.mp hj
  have : k = j := by omega
  subst this
  rw [h2] at h3; cases h3
  refine Int.not_lt.mp fun hlt => hi (had_mem.mpr ⟨i, v, rfl, h1, ?_⟩)
  have := ahead_le (c := c) (ws := ws) (p := ((i : Int), v)) (q := ((k : Int), w)) hlt
  omega
theorem exists_max : ∀ {l : List Int}, l ≠ [] → ∃ m ∈ l, ∀ y ∈ l, y ≤ m
  | [x], _ => ⟨x, List.mem_singleton.mpr rfl, fun y hy => by rw [List.mem_singleton.mp hy]; exact Int.le_refl _⟩
  | x :: y :: l, _ => by
    obtain ⟨m, h1, h2⟩ := exists_max (l := y :: l) (by simp)
    by_cases h : m ≤ x
    · exact ⟨x, List.mem_cons_self .., fun z hz => by
        rcases List.mem_cons.mp hz with q | q
        · omega
        · have := h2 z q; omega⟩
    · exact ⟨m, List.mem_cons_of_mem _ h1, fun z hz => by
        rcases List.mem_cons.mp hz with q | q
        · omega
        · exact h2 z q⟩
theorem exists_min {l : List Int} (h : l ≠ []) : ∃ m ∈ l, ∀ y ∈ l, m ≤ y := by
  obtain ⟨m, h1, h2⟩ := exists_max (l := l.map (- ·)) (by simpa using h)
  obtain ⟨n, h3, h4⟩ := List.mem_map.mp h1
  exact ⟨n, h3, fun y hy => by have := h2 (-y) (List.mem_map.mpr ⟨y, hy, rfl⟩); omega⟩
/-- there is one who lacks -/
theorem some_lacks {c : Custom} {ws : List Int} (h1 : 0 ≤ c.many) (h2 : c.many < ws.length) : ∃ i : Nat, i < ws.length ∧ (i : Int) ∉ had c ws := by
  refine Classical.byContradiction fun hn => ?_
  have hall : ∀ i : Nat, i < ws.length → (i : Int) ∈ had c ws := fun i hi => Classical.byContradiction fun h => hn ⟨i, hi, h⟩
  have hnd : ((List.range ws.length).map fun (i : Nat) => (i : Int)).Nodup := nodup_of_lt (castRange_sorted _)
  have hsub : ((List.range ws.length).map fun (i : Nat) => (i : Int)).length ≤ (had c ws).length := hnd.length_le_of_subset (fun x hx => by
    obtain ⟨i, hi, rfl⟩ := List.mem_map.mp hx
    exact hall i (List.mem_range.mp hi))
  rw [List.length_map, List.length_range] at hsub
  have := had_len (c := c) (ws := ws) h1 (by omega)
  omega
theorem areW_after {c : Custom} {ws : List Int} (hc : WfC c) (hw : WfW c ws) : areW c (wiD ws) = true := by
  unfold areW wiD
  simp only [List.length_map, hw.len, decide_true, Bool.true_and]
  rw [List.all_eq_true]
  intro p hp
  obtain ⟨i, hi⟩ := List.mem_iff_getElem?.mp hp
  rw [List.getElem?_zip_eq_some, List.getElem?_map] at hi
  obtain ⟨h1, h2⟩ := hi
  obtain ⟨w, h3, h4⟩ := Option.map_eq_some_iff.mp h1
  have hb := hw.bound i w h3
  have hh : handAt c.hands (i : Int) = p.2 := by
    unfold handAt
    rw [Int.toNat_natCast, List.getD_eq_getElem?_getD, h2]; rfl
  rw [hh] at hb
  rw [← h4]
  unfold isFrom
  simp only [Bool.and_eq_true, decide_eq_true_eq]
  exact hb
theorem wf_small {c : Custom} {ws : List Int} (hc : WfC c) (hw : WfW c ws) : ∀ w ∈ ws, 0 ≤ w ∧ w ≤ 15 := fun w h => by
  obtain ⟨i, hi⟩ := List.mem_iff_getElem?.mp h
  have hb := hw.bound i w hi
  have hl : i < c.hands.length := by rw [← hw.len]; exact (List.getElem?_eq_some_iff.mp hi).1
  have hs := hc.steps _ (handAt_mem hl)
  omega
end Tw

namespace Tw
open PySem PySem.Spec PyProof.Rows L2
/-! ## an own dict whose keys are tuples of whole numbers -/
def Ow.dct (kvs : List (List Key × V)) : Ow := ⟨fun _ o => o = .dT kvs, fun _ h => h, fun h xs z => by rw [h] at z; cases z⟩
def wKey (ws : List Int) : List Key := ws.map Sum.inl
theorem wKey_kV (ws : List Int) : (wKey ws).map kV = ws.map V.int := by
  unfold wKey
  rw [List.map_map]; rfl
theorem wKey_inj {a b : List Int} (h : wKey a = wKey b) : a = b := by
  unfold wKey at h
  induction a generalizing b with
  | nil => cases b with
    | nil => rfl
    | cons y b => simp at h
  | cons x a ih => cases b with
    | nil => simp at h
    | cons y b =>
      simp only [List.map_cons, List.cons.injEq] at h
      rw [ih h.2, Sum.inl.inj h.1]
section
variable {X : Cx} {ex : List Addr} {F0 H0 : Hp} {ρ : Env'} {sts : List Stmt} {A : Aims} {e k : Expr} {ws : List Int} {d : PyData} {x : Str} {kvs : List (List Key × V)} {p : Addr} {px pos tp : Pos}
theorem Rp.key {F H : Hp} {v : V} (h : Rp F v (wiD ws)) (e : Same F H) : ∃ b, v = .ref b ∧ H b = some (.tup ((wKey ws).map kV)) := by
  obtain ⟨a, xs, rfl, h1, h2⟩ := h.tup_inv
  have := h2.ints
  subst this
  exact ⟨a, rfl, by rw [wKey_kV]; exact e _ _ h1⟩
/-- x = {} -/
theorem dss_newD (i : Nat) {pos' lp : Pos} (hN : X.N.Nodup) (h : ∀ p, DSs X ex F0 H0 (ρ.set i (.own p (.dct []))) sts A) (hi : X.N[i]? = some x := by rfl) (hx : Loc X.env.scope x := by first | exact Or.inl rfl | exact Or.inr rfl) (hs : swapsWith (.Dict [] [] lp) (some (.Name x pos')) pos.line X.env = pure false := by rfl)
    (hf : X.fn x = true ∨ X.env.scope.names.lookup x = some .local := by first | exact .inl rfl | exact .inr rfl) : DSs X ex F0 H0 ρ (.Assign [.Name x pos'] (.Dict [] [] lp) pos :: sts) A :=
  dss_own i hN (PE.imp pe_dnewT fun σ H Q ⟨F, ok, k⟩ => fun p hp => k p _ F _ (Grow.skip ok.s hp) hp (same_none ok.s hp) upd_same rfl) h hi hx hs hf
/-- key not in x -/
theorem dt_notinD (i : Nat) (hi : ρ[i]? = some (.own p (.dct kvs))) (hu : X.A.units + 1 < cLine) (hk : DE X ρ k (wiD ws)) (hxN : X.N[i]? = some x := by rfl) (hv : Vis X.env.scope x := by first | exact Or.inl rfl | exact Or.inr (Or.inl rfl) | exact Or.inr (Or.inr rfl)) (hd : (x == ("__debug__" : Str)) = false := by decide) (hcd : (x == ("__classdict__" : Str)) = false := by decide)
    (hm : behindInMarks .NotIn (.Name x px) = false := by first | exact nobehind _ (by decide) (by decide) | rfl) : DT X ρ (.Compare k [.NotIn] [.Name x px] pos) (!(valV kvs (wKey ws)).isSome) :=
  PT.imp (pt_cmp (pc_dnotin hu hk (pe_var hxN hv hd hcd)) hm) fun σ H Q ⟨F, ok, kk⟩ => ⟨F, ok, fun v F2 H2 g r => by
    obtain ⟨h1, h2, ho, h3, h4⟩ := (ok.grow g).own hi
    have h4' : ho = .dT kvs := h4
    subst h4'
    obtain ⟨b, rfl, hb⟩ := r.key g.s
    exact ⟨.ref p, h1, p, _, rfl, DGet.t h3 hb, _, rfl, kk F2 H2 g⟩⟩
/-- x[key] -/
theorem de_getD (i : Nat) {n : Int} (hi : ρ[i]? = some (.own p (.dct kvs))) (hu : X.A.units + 1 < cLine) (hk : DE X ρ k (wiD ws)) (hval : valV kvs (wKey ws) = some (.int n)) (hs : NoSl k := by exact fun _ _ => rfl) (hxN : X.N[i]? = some x := by rfl) (hv : Vis X.env.scope x := by first | exact Or.inl rfl | exact Or.inr (Or.inl rfl) | exact Or.inr (Or.inr rfl)) (hd : (x == ("__debug__" : Str)) = false := by decide) (hcd : (x == ("__classdict__" : Str)) = false := by decide) : DE X ρ (.Subscript (.Name x px) k pos) (.int n) :=
  PE.imp (pe_dget hu (pe_var hxN hv hd hcd) hk hs) fun σ H Q ⟨F, ok, kk⟩ => by
    obtain ⟨h1, h2, ho, h3, h4⟩ := ok.own hi
    refine ⟨.ref p, h1, F, ok, fun v F2 H2 g r => ?_⟩
    obtain ⟨_, _, ho2, h3', h4'⟩ := (ok.grow g).own hi
    have h4'' : ho2 = .dT kvs := h4'
    subst h4''
    obtain ⟨b, rfl, hb⟩ := r.key g.s
    exact ⟨p, .int n, rfl, by have := DGet.t (k := wKey ws) h3' hb; rw [hval] at this; exact this, kk (.int n) F2 H2 g (.int n)⟩
/-- x[key] = e, a new key -/
theorem dss_putD (i : Nat) {n : Int} (hi : ρ[i]? = some (.own p (.dct kvs))) (hu : X.A.units + 1 < cLine) (he : DE X ρ e (.int n)) (hk : DE X ρ k (wiD ws)) (hl : kvs.length < sizeLine) (h : DSs X ex F0 H0 (ρ.set i (.own p (.dct (putK kvs (wKey ws) (.int n))))) sts A)
    (hxN : X.N[i]? = some x := by rfl) (hv : Vis X.env.scope x := by first | exact Or.inl rfl | exact Or.inr (Or.inl rfl) | exact Or.inr (Or.inr rfl)) (hd : (x == ("__debug__" : Str)) = false := by decide) (hcd : (x == ("__classdict__" : Str)) = false := by decide)
    (hs : swapsWith e (some (.Subscript (.Name x px) k tp)) pos.line X.env = pure false := by rfl) : DSs X ex F0 H0 ρ (.Assign [.Subscript (.Name x px) k tp] e pos :: sts) A := by
  refine dss_seq (N1 := fun ρ' => ρ' = ρ.set i (.own p (.dct (putK kvs (wKey ws) (.int n))))) ?_ fun _ h' => h' ▸ h
  refine PS.imp (ps_dput hu (pe_var hxN hv hd hcd) hk he hs) fun D σ H ⟨F, a, nn, r, b, c⟩ => ⟨F, a.ok, fun v F2 H2 g rv => ?_⟩
  obtain rfl := rv.int_inv
  have a2 := a.grow g
  obtain ⟨h1, _⟩ := a2.ok.own hi
  refine ⟨.ref p, h1, F2, a2.ok, fun y F3 H3 g3 ry => ?_⟩
  have a3 := a2.grow g3
  obtain ⟨_, _, ho, h3, h4⟩ := a3.ok.own hi
  have h4' : ho = .dT kvs := h4
  subst h4'
  obtain ⟨q, rfl, hq⟩ := ry.key g3.s
  exact ⟨p, _, rfl, DPut.t h3 hq hl, nn _ _ F3 _ rfl (g.f.trans g3.f) (a3.write hi rfl)⟩
end
/-! ## the first time that wishes come again -/
structure Round (c : Custom) (ws : List Int) (i n : Nat) : Prop where
  dist : ∀ j k, j < k → k < n → wAt c ws j ≠ wAt c ws k
  lt : i < n
  again : wAt c ws i = wAt c ws n
theorem Round.inj {c : Custom} {ws : List Int} {i n i' n' : Nat} (h : Round c ws i n) (h' : Round c ws i' n') : i = i' ∧ n = n' := by
  have key : ∀ {i n i' n'}, Round c ws i n → Round c ws i' n' → ¬ n < n' := fun {i n i' n'} h h' z => h'.dist i n h.lt z h.again
  have hn : n = n' := by
    have h1 := key h h'
    have h2 := key h' h
    omega
  subst hn
  refine ⟨?_, rfl⟩
  have e := h.again.trans h'.again.symm
  rcases Nat.lt_trichotomy i i' with q | q | q
  · exact (h.dist i i' q h'.lt e).elim
  · exact q
  · exact (h.dist i' i q h.lt e.symm).elim
def dctN (c : Custom) (ws : List Int) (n : Nat) : List (List Key × V) := (List.range n).map fun k => (wKey (wAt c ws k), V.int (k : Int))
theorem dctN_len (c : Custom) (ws : List Int) (n : Nat) : (dctN c ws n).length = n := by simp [dctN]
theorem dctN_none {c : Custom} {ws : List Int} {n : Nat} {v : List Int} (h : ∀ k, k < n → wAt c ws k ≠ v) : valV (dctN c ws n) (wKey v) = none := by
  unfold valV
  rw [Option.map_eq_none_iff, List.find?_eq_none]
  intro x hx
  obtain ⟨k, hk, rfl⟩ := List.mem_map.mp hx
  simp only [decide_eq_true_eq]
  exact fun z => h k (List.mem_range.mp hk) (wKey_inj z)
theorem dctN_some {c : Custom} {ws : List Int} {n i : Nat} (hi : i < n) (hd : ∀ j k, j < k → k < n → wAt c ws j ≠ wAt c ws k) : valV (dctN c ws n) (wKey (wAt c ws i)) = some (.int (i : Int)) := by
  unfold valV dctN
  have key : ((List.range n).map fun k => (wKey (wAt c ws k), V.int (k : Int))).find? (fun kv => decide (kv.1 = wKey (wAt c ws i))) = some (wKey (wAt c ws i), V.int (i : Int)) := by
    rw [List.find?_map, Option.map_eq_some_iff]
    refine ⟨i, ?_, rfl⟩
    rw [List.find?_range_eq_some]
    refine ⟨by simp, List.mem_range.mpr hi, fun j hj => ?_⟩
    simp only [Function.comp_apply, Bool.not_eq_true', decide_eq_false_iff_not]
    exact fun z => hd j i hj hi (wKey_inj z)
  rw [key]; rfl
theorem dctN_put {c : Custom} {ws : List Int} {n : Nat} (hd : ∀ k, k < n → wAt c ws k ≠ wAt c ws n) : putK (dctN c ws n) (wKey (wAt c ws n)) (.int (n : Int)) = dctN c ws (n + 1) := by
  unfold putK
  rw [if_neg]
  · unfold dctN
    rw [List.range_succ, List.map_append]; rfl
  · rw [List.any_eq_true]
    rintro ⟨x, hx, h⟩
    obtain ⟨k, hk, rfl⟩ := List.mem_map.mp hx
    exact hd k (List.mem_range.mp hk) (wKey_inj (by simpa using h))
/-! all wishes of a custom: no more than 65536 -/
def allW : Nat → List (List Int)
  | 0 => [[]]
  | n + 1 => (List.range 16).flatMap fun (i : Nat) => (allW n).map fun ws => (i : Int) :: ws
theorem allW_len : ∀ n, (allW n).length = 16 ^ n
  | 0 => rfl
  | n + 1 => by
    unfold allW
    rw [List.length_flatMap]
    simp only [List.length_map, allW_len n]
    simp [List.map_const', Nat.pow_succ, Nat.mul_comm]
    omega
theorem allW_mem : ∀ {ws : List Int}, (∀ w ∈ ws, 0 ≤ w ∧ w ≤ 15) → ws ∈ allW ws.length
  | [], _ => by simp [allW]
  | w :: ws, h => by
    have h1 := h w (List.mem_cons_self ..)
    show _ ∈ (List.range 16).flatMap fun (i : Nat) => (allW ws.length).map fun ws => (i : Int) :: ws
    rw [List.mem_flatMap]
    exact ⟨w.toNat, List.mem_range.mpr (by omega), List.mem_map.mpr ⟨ws, allW_mem fun x hx => h x (List.mem_cons_of_mem _ hx), by rw [show ((w.toNat : Nat) : Int) = w by omega]⟩⟩
theorem distinct_bound {c : Custom} {ws : List Int} {n : Nat} (hc : WfC c) (hw : WfW c ws) (hd : ∀ j k, j < k → k < n → wAt c ws j ≠ wAt c ws k) : n ≤ 65536 := by
  have hnd : ((List.range n).map fun k => wAt c ws k).Nodup := by
    rw [List.nodup_iff_pairwise_ne, List.pairwise_map]
    refine List.Pairwise.imp_of_mem (fun {a b} ha hb hab => hd a b hab (List.mem_range.mp hb)) (List.pairwise_lt_range (n := n))
  have h1 := hnd.length_le_of_subset (l₂ := allW ws.length) (fun x hx => by
    obtain ⟨k, _, rfl⟩ := List.mem_map.mp hx
    have hk := wf_at hc hw k
    have := allW_mem (wf_small hc hk)
    rwa [wAt_len] at this)
  rw [List.length_map, List.length_range, allW_len] at h1
  have h4 : ws.length ≤ 4 := by rw [hw.len]; exact hc.four
  exact Nat.le_trans h1 (Nat.le_trans (Nat.pow_le_pow_right (by decide) h4) (by decide))
theorem v_repT {K : PySem.W.Frag} {ds : List PyData} {k : Int} (h1 : ds ≠ []) (h2 : 2 ≤ k) (h3 : k ≤ 1000) (h4 : ds.length ≤ 1000) : V2 (rRepT K) (.tuple ds) (.int k) (.tuple (List.replicate k.toNat ds).flatten) := fun F H v1 v2 e r1 r2 Q kk => by
  obtain ⟨a, xs, rfl, ha, rx⟩ := r1.tup_inv
  refine ⟨a, k, xs, rfl, r2.int_inv, SqT.of (e _ _ ha), fun z => ?_, h2, h3, by rw [rx.len]; exact h4, fun p hp => kk _ _ _ (Grow.new e hp) (.tup upd_same ((rx.rep k.toNat).mono (Same.upd_new (same_none e hp))))⟩
  have := rx.len
  rw [z] at this
  exact h1 (List.length_eq_zero_iff.mp this.symm)
/-- (n,) * k -/
theorem rep_int (n : Int) (k : Nat) : (List.replicate k [PyData.int n]).flatten = (List.replicate k n).map PyData.int := by
  induction k with
  | zero => rfl
  | succ k ih => rw [List.replicate_succ, List.flatten_cons, ih, List.replicate_succ]; rfl
theorem round_ex {c : Custom} {ws : List Int} (hc : WfC c) (hw : WfW c ws) : ∃ i n, Round c ws i n := by
  have key : ∀ n, (∃ i m, m ≤ n ∧ Round c ws i m) ∨ ∀ j k, j < k → k ≤ n → wAt c ws j ≠ wAt c ws k := fun n => by
    induction n with
    | zero => exact .inr fun j k h1 h2 => by omega
    | succ n ih =>
      rcases ih with ⟨i, m, h1, h2⟩ | h
      · exact .inl ⟨i, m, by omega, h2⟩
      · by_cases he : ∃ i, i ≤ n ∧ wAt c ws i = wAt c ws (n + 1)
        · obtain ⟨i, h1, h2⟩ := he
          exact .inl ⟨i, n + 1, Nat.le_refl _, ⟨fun j k h3 h4 => h j k h3 (by omega), by omega, h2⟩⟩
        · refine .inr fun j k h1 h2 => ?_
          by_cases hk : k = n + 1
          · subst hk
            exact fun z => he ⟨j, by omega, z⟩
          · exact h j k h1 (by omega)
  rcases key 65536 with ⟨i, m, _, h⟩ | h
  · exact ⟨i, m, h⟩
  · have := distinct_bound hc hw (n := 65537) fun j k h1 h2 => h j k h1 (by omega)
    omega
theorem dctN_is {c : Custom} {ws : List Int} {n : Nat} {v : List Int} (h : (valV (dctN c ws n) (wKey v)).isSome = true) : ∃ k, k < n ∧ wAt c ws k = v := by
  refine Classical.byContradiction fun hn => ?_
  rw [dctN_none fun k h1 h2 => hn ⟨k, h1, h2⟩] at h
  cases h
theorem Round.le {c : Custom} {ws : List Int} {i n : Nat} (h : Round c ws i n) (hc : WfC c) (hw : WfW c ws) : n ≤ 65536 := distinct_bound hc hw h.dist
theorem rep_one {α : Type} (d : α) (k : Nat) : (List.replicate k [d]).flatten = List.replicate k d := by
  induction k with
  | zero => rfl
  | succ k ih => rw [List.replicate_succ, List.flatten_cons, ih, List.replicate_succ]; rfl
/-- [d] * k -/
theorem v_rep1 {d : PyData} {k : Int} (h2 : 0 ≤ k) (h3 : k ≤ 1000000) : V2 rRep (.list [d]) (.int k) (.list (List.replicate k.toNat d)) := fun F H v1 v2 e r1 r2 Q kk => by
  obtain ⟨a, xs, rfl, ha, rx⟩ := r1.lst_inv
  have hl := rx.len
  refine ⟨a, k, xs, rfl, r2.int_inv, e _ _ ha, by omega, by omega, ?_, fun p hp => kk _ _ _ (Grow.new e hp) ?_⟩
  · rw [hl]
    show 1 * _ ≤ _
    exact Nat.le_trans (show 1 * k.toNat ≤ 1000000 by omega) (by decide)
  · refine .lst upd_same ?_
    rw [← rep_one d k.toNat]
    exact (rx.rep k.toNat).mono (Same.upd_new (same_none e hp))
/-! ## sum(t), t a tuple of whole numbers -/
def rSumT (K : PySem.W.Frag) : List V → Hp → VK → Prop := fun vs H Q => ∃ (a : Addr) (ns : List Int), vs = [V.ref a] ∧ SqT K H a (ns.map V.int) ∧ Q (.int ns.sum) H
theorem cr_sumT {X : Cx} (hc : X.calm = true) : CallR X (.builtin "sum") (rSumT X.K) := by
  intro pins s σ H vs us Q I r h
  obtain ⟨a, ns, rfl, hs, q⟩ := h
  obtain ⟨its, rv, hl, _⟩ := I.tuple hs
  rw [Vals.ref1 r]
  have hi : IntsAre its ns := rv.ints
  obtain ⟨xs, e⟩ := hi.allInts.items
  have hn : numsOf (intItems xs).toList = ns := by rw [← e]; exact hi.numsOf
  rw [nums_intItems] at hn
  rw [e] at hl
  have hl2 : s.heap.IsTuple a (intItems xs) := by
    obtain ⟨o, h1, h2, n, h3⟩ := hl
    exact ⟨o, h1, h2, n, h3⟩
  refine PySem.W.ktm_sumG (I.ok.hd hc) hl2 fun h' tk t' hk => ⟨.int ns.sum, H, I.kept hk, ⟨t', ?_⟩, q⟩
  rw [preSum_eq, List.take_of_length_le (by simp), hn]
theorem v_sumT {K : PySem.W.Frag} {ns : List Int} : VN (rSumT K) [.tuple (ns.map .int)] (.int ns.sum) := VN1 fun F H v e r Q k => by
  obtain ⟨a, xs, rfl, ha, rx⟩ := r.tup_inv
  have := rx.ints; subst this
  exact ⟨a, ns, rfl, SqT.of (e _ _ ha), k _ F H (GrowX.refl e) (.int _)⟩
end Tw

namespace Tw
open PySem PySem.Spec PyProof.Rows L2
/-! ## for key, value in d.items(), d's keys tuples -/
/-- the pairs of the locked dict at d, each a new tuple -/
def Itit (d : Addr) (o : Obj) (kvs : List (List Key × V)) : It :=
  ⟨fun i H => H d = some (.frz o (.dT kvs)) ∧ i < kvs.length, fun i H x H' => ∃ T k v q, kvs[i]? = some (k, v) ∧ x = .ref T ∧ H T = none ∧ H q = some (.tup (k.map kV)) ∧ H' = upd H T (.tup [.ref q, v]), fun i H => H d = some (.frz o (.dT kvs)) ∧ kvs.length ≤ i⟩
section
variable {X : Cx} {pins : List (Addr × Obj)} {σ : L2.St} {H : Hp} {s : Shared} {d : Addr} {o : Obj} {kvs : List (List Key × V)}
/-- what stands at the locked dict, entry by entry -/
theorem frz_entries (I : Inv X pins σ H s) (h : H d = some (.frz o (.dT kvs))) : (d == sysModules) = false ∧ s.heap.get? d = some o ∧ o.ExactDict ∧ ∃ (es : Array DictEntry) (ep : Nat), o.data = .dict es ep ∧ es.size = kvs.length ∧
    ∀ (i : Nat) (k : List Key) (v : V), kvs[i]? = some (k, v) → ∃ (en : DictEntry) (q : Addr), es[i]? = some en ∧ en.key = .ref q ∧ H q = some (.tup (k.map kV)) ∧ RelV v en.val := by
  obtain ⟨hd, z, hs, xs, pr, o', es, ep, ho, hx, hdt, he, _⟩ := I.hok d _ h
  rw [hd] at ho
  cases ho
  have l1 : es.size = xs.length := by rw [← Array.length_toList, he, List.length_map]
  have l2 : kvs.length = xs.length := Paired.length pr
  refine ⟨hs, hd, hx, es, ep, hdt, by omega, fun i k v e => ?_⟩
  obtain ⟨b, hb, e1, e2, e3⟩ := paired_get pr e
  have q : es[i]? = some (entryOfKey (tupleKind (mixKind X.prog X.w)) b) := by rw [← Array.getElem?_toList, he, List.getElem?_map, hb]; rfl
  exact ⟨_, b.2.1, q, rfl, e2, e3⟩
end
theorem turn_itemsT {P : Program} {w : World} {K : PySem.W.Frag} {d : Addr} {o : Obj} {es : Array DictEntry} {ep : Nat} {kvs : List (List Key × V)} {elts : List Expr} {kk : Nat} {tpos : Pos} (it : Addr) (hod : o.data = .dict es ep) :
    Turn P w K (.Tuple elts kk tpos) (Itit d o kvs) [it] it (fun i h => ∃ ok ov, IsItemIter h it d i kvs.length ep ok ov) where
  mem := List.mem_singleton.mpr rfl
  obj := fun i h st b hb => by
    rw [List.mem_singleton.mp hb]
    obtain ⟨ok, ov, e⟩ := st
    exact ⟨_, e, fun v z => nomatch z⟩
  keep := fun i h h' st k => let ⟨ok, ov, e⟩ := st; ⟨ok, ov, k it (List.mem_singleton.mpr rfl) _ e⟩
  item := by
    intro X hP hw hK hc i pins s σ H E I hf st hg
    subst hP hw hK
    obtain ⟨hd, hi⟩ := hg
    obtain ⟨hs, hgd, hx, es', ep', hdt, hsz, ent⟩ := frz_entries I hd
    obtain ⟨rfl, rfl⟩ := dict_ep hod hdt
    obtain ⟨⟨k, v⟩, hkv⟩ : ∃ p, kvs[i]? = some p := ⟨kvs[i], List.getElem?_eq_getElem hi⟩
    obtain ⟨en, q, hen, hkey, hq, rv⟩ := ent i k v hkv
    obtain ⟨ok, ov, he⟩ := st
    rw [← hsz] at he
    have hlt : it < s.heap.objs.size := Heap.lt_size he
    have hie : i < es'.size := by omega
    have hen' : es'[i] = en := Option.some.inj ((Array.getElem?_eq_getElem hie).symm.trans hen)
    refine DT.nextI he ⟨o, hgd, hx, hdt⟩ hie fun h' ho hT hz hk => ?_
    rw [hen'] at ho hT
    rw [hkey] at ho hT
    refine ⟨_, rfl, wpAny_letOwnedTupleGo_items (s := { s with heap := h' }) ho fun h'' he' sb => ?_⟩
    have hT2 : h''.get? s.heap.objs.size = some { cls := .type "tuple", data := .seq #[.ref q, en.val] } := (sb.2 _ (Nat.ne_of_gt hlt)).trans hT
    have new : ObjOk X.prog X.w (upd H s.heap.objs.size (.tup [.ref q, v])) h'' s.heap.objs.size (.tup [.ref q, v]) :=
      ⟨by show 2 ≤ sizeLine; decide, [.ref q, en.val], .cons rfl (.cons rv .nil), ⟨_, hT2, rfl, _, rfl⟩⟩
    have I1 : Inv X pins σ (upd H s.heap.objs.size (.tup [.ref q, v])) { s with heap := h'' } :=
      I.turnedNew (t' := s.toks) (ch := [it]) (fun b ob hb e => by
        have hb' : b ≠ it := fun z => hb (List.mem_singleton.mpr z)
        exact (sb.2 b hb').trans (hk b ob hb' e)) hf (Nat.le_refl _) new
    refine ⟨.ref s.heap.objs.size, _, I1, rfl, ⟨_, k, v, q, hkv, rfl, I.hok.fresh (Nat.le_refl _), hq, rfl⟩, ⟨.ref q, en.val, ?_⟩, fun b hb => ?_⟩
    · rw [← hsz]; exact he'
    · have e := List.mem_singleton.mp hb
      rw [e, upd_ne (Nat.ne_of_lt hlt)]
      exact (hf it (List.mem_singleton.mpr rfl)).1
  done := by
    intro X hP hw hK hc i pins s σ H E I hf st hg
    subst hP hw hK
    obtain ⟨hd, hi⟩ := hg
    obtain ⟨f0, f1, f2, f3, f4, f5⟩ := hf it (List.mem_singleton.mpr rfl)
    obtain ⟨hs, hgd, hx, es', ep', hdt, hsz, ent⟩ := frz_entries I hd
    obtain ⟨rfl, rfl⟩ := dict_ep hod hdt
    obtain ⟨ok, ov, he⟩ := st
    rw [← hsz] at he
    exact DT.endI (I.ok.hd hc) he ⟨o, hgd, hx, hdt⟩ (by omega) fun h' eb => ⟨rfl, I.turned (t' := s.toks) (fun b ob hb e => eb b ob hb e) f0 f1 f3 f4 f5⟩
  self := fun A i s Q E st h => let ⟨_, _, e⟩ := st; PySem.W.kcp_self e h
section
variable {X : Cx} {e : Expr} {td : TE} {apos cpos : Pos}
def iItemsT (td : TE) : TI := fun σ H R => td σ H fun x H1 => ∃ d o kvs, x = .ref d ∧ H1 d = some (.frz o (.dT kvs)) ∧ R (Itit d o kvs) H1
theorem pi_itemsT {elts : List Expr} {kk : Nat} {tpos : Pos} (he : PE X e td) (hbase : attributeBase e "items" X.env (eval e X.env) = eval e X.env := by rfl) (hline : (apos.endLine == cpos.line) = true := by rfl) :
    PI X (.Tuple elts kk tpos) (.Call (.Attribute e "items" apos) [] [] cpos) (iItemsT td) := by
  refine ⟨fun pins s σ H R I h => ?_⟩
  refine wpAny_Call_method (T := "dict") (id := "dict.items") hbase rfl hline F.plainAttrs_dict F.slot_dict_items F.type_dict_items (thn (he.run pins s σ H _ I h) fun u s1 ⟨x, H1, I1, rx, d, o, kvs, ex, hd, q⟩ => ?_)
  subst ex
  obtain rfl : u = Value.ref d := rx
  obtain ⟨hs, hgd, hx, es, ep, hdt, hsz, ent⟩ := frz_entries I1 hd
  have raw : DT.Raw s1.heap d es ep := ⟨o, hgd, hx, hdt⟩
  refine ⟨raw.typeIs, ?_, ?_⟩
  · intro b e
    injection e with e
    subst e
    exact ⟨o, hgd, hx.2.1⟩
  have I2 : Inv X pins σ H1 { s1 with heap := s1.heap.push { cls := .type "dict_items", data := .fields #[.ref d] } } := I1.kept (t' := s1.toks) fun b ob q => Heap.get?_push_of_some _ q
  have fin : wpAny (model X.prog X.w) X.A (pyIter (.ref s1.heap.objs.size)) (PIE X pins σ (.Tuple elts kk tpos) R) X.xe { s1 with heap := s1.heap.push { cls := .type "dict_items", data := .fields #[.ref d] } } := by
    refine DT.iterI (d := d) ⟨_, Heap.get?_push_size _ rfl, rfl, rfl⟩ (raw.push _) (pi_one (tk := s1.toks) I2 _ (turn_itemsT _ hdt) ⟨.none, .none, ?_⟩ q)
    rw [← hsz]
    exact Heap.get?_push_size _ rfl
  show wpAny _ _ (callWith cpos (.builtin "dict.items") [.ref d] [] []) _ X.xe s1
  exact method_meetsIn F.slot_dict_items F.entry_dict_items rfl (PySem.evalArgs_none ⟨rfl, raw.typeIs, F.args_dict_items_1 _, _, DT.meetsItems (es := es) (ep := ep) hs, ⟨raw, fin⟩⟩)
end
theorem dctN_get {c : Custom} {ws : List Int} {n i : Nat} {kv : List Key × V} (h : (dctN c ws n)[i]? = some kv) : i < n ∧ kv = (wKey (wAt c ws i), .int (i : Int)) := by
  unfold dctN at h
  rw [List.getElem?_map] at h
  obtain ⟨j, h1, h2⟩ := Option.map_eq_some_iff.mp h
  obtain ⟨h3, h4⟩ := List.getElem?_eq_some_iff.mp h1
  simp at h3 h4
  subst h4
  exact ⟨h3, h2.symm⟩
/-- the pairs: wishes, when they first came -/
def itemsD (c : Custom) (ws : List Int) (n : Nat) : List PyData := (List.range n).map fun k => .tuple [wiD (wAt c ws k), .int (k : Int)]
theorem itemsD_get {c : Custom} {ws : List Int} {n i : Nat} {d : PyData} (h : (itemsD c ws n)[i]? = some d) : i < n ∧ d = .tuple [wiD (wAt c ws i), .int (i : Int)] := by
  unfold itemsD at h
  rw [List.getElem?_map] at h
  obtain ⟨j, h1, h2⟩ := Option.map_eq_some_iff.mp h
  obtain ⟨h3, h4⟩ := List.getElem?_eq_some_iff.mp h1
  simp at h3 h4
  subst h4
  exact ⟨h3, h2.symm⟩
theorem jok_items {c : Custom} {ws : List Int} {n : Nat} {F : Hp} {d : Addr} {od : Obj} (hF : F d = some (.frz od (.dT (dctN c ws n)))) : JOk (Itit d od (dctN c ws n)) F (itemsD c ws n) := fun i F1 H e1 e2 => ⟨fun dd hd => by
    obtain ⟨hi, rfl⟩ := itemsD_get hd
    refine ⟨⟨e2 _ _ (e1 _ _ hF), by rw [dctN_len]; exact hi⟩, fun x H' ⟨T, k, v, q, hkv, hx, hT, hq, hH⟩ => ?_⟩
    subst hx hH
    obtain ⟨_, e⟩ := dctN_get hkv
    cases e
    rw [wKey_kV] at hq
    have hqT : q ≠ T := fun z => by subst z; rw [hq] at hT; cases hT
    have g1 : Grow F1 H (upd F1 q (.tup ((wAt c ws i).map V.int))) H := Grow.tellT (GrowX.refl e2) hq
    have g2 : Grow F1 H (upd (upd F1 q (.tup ((wAt c ws i).map V.int))) T (.tup [.ref q, .int (i : Int)])) (upd H T (.tup [.ref q, .int (i : Int)])) := g1.trans (Grow.new g1.s hT)
    exact ⟨_, g2, .tup upd_same (.cons (.tup (by rw [upd_ne hqT]; exact upd_same) (RpA.of_ints _)) (.cons (.int _) .nil))⟩, fun hn => ⟨e2 _ _ (e1 _ _ hF), by
    have := List.getElem?_eq_none_iff.mp hn
    rw [dctN_len]
    simpa [itemsD] using this⟩⟩
theorem di_items {X : Cx} {ρ : Env'} {x : Str} {px apos cpos tpos : Pos} {elts : List Expr} {kk : Nat} (i : Nat) {c : Custom} {ws : List Int} {n : Nat} {d : Addr} {od : Obj} (hi : ρ[i]? = some (.fx d (.frz od (.dT (dctN c ws n)))))
    (hxN : X.N[i]? = some x := by rfl) (hv : Vis X.env.scope x := by first | exact Or.inl rfl | exact Or.inr (Or.inl rfl) | exact Or.inr (Or.inr rfl)) (hd : (x == ("__debug__" : Str)) = false := by decide) (hcd : (x == ("__classdict__" : Str)) = false := by decide)
    (hbase : attributeBase (.Name x px) "items" X.env (eval (.Name x px) X.env) = eval (.Name x px) X.env := by rfl) (hline : (apos.endLine == cpos.line) = true := by rfl) :
    DI X ρ (.Tuple elts kk tpos) (.Call (.Attribute (.Name x px) "items" apos) [] [] cpos) (itemsD c ws n) :=
  PI.imp (pi_itemsT (pe_var hxN hv hd hcd) hbase hline) fun σ H R ⟨F, ok, k⟩ => by
    obtain ⟨o, h1, h2, h3⟩ := ok.at_ i _ hi
    subst h2
    exact ⟨.ref d, h1, d, od, _, rfl, ok.s _ _ h3, k _ F H (GrowX.refl ok.s) (jok_items h3)⟩
/-! ## while a dict is locked -/
mutual
theorem Rp.drop {F : Hp} {d : Addr} {o : Obj} {u : HO} (hF : F d = some (.frz o u)) : ∀ {v : V} {x : PyData}, Rp F v x → Rp (fun b => if b = d then none else F b) v x
  | _, _, .non => .non
  | _, _, .bl b => .bl b
  | _, _, .int i => .int i
  | _, _, .str x => .str x
  | _, _, .lst (a := a) h r => .lst (by
      have hb : a ≠ d := fun z => by subst z; rw [hF] at h; cases h
      show (if a = d then none else F a) = _
      rw [if_neg hb]; exact h) (RpA.drop' hF r)
  | _, _, .tup (a := a) h r => .tup (by
      have hb : a ≠ d := fun z => by subst z; rw [hF] at h; cases h
      show (if a = d then none else F a) = _
      rw [if_neg hb]; exact h) (RpA.drop' hF r)
theorem RpA.drop' {F : Hp} {d : Addr} {o : Obj} {u : HO} (hF : F d = some (.frz o u)) : ∀ {vs : List V} {xs : List PyData}, RpA F vs xs → RpA (fun b => if b = d then none else F b) vs xs
  | _, _, .nil => .nil
  | _, _, .cons r t => .cons (Rp.drop hF r) (RpA.drop' hF t)
end
/-- an entry that tells neither of own things nor of standing ones -/
def plainE : Ent → Bool
  | .own _ _ => false
  | .fx _ _ => false
  | .st _ _ => false
  | _ => true
theorem dss_lockD {X : Cx} {F0 H0 : Hp} {ρ : Env'} {st : Stmt} {sts : List Stmt} {A : Aims} (i : Nat) {d : Addr} {kvs : List (List Key × V)} (N1 : Env' → Prop) (hi : ρ[i]? = some (.own d (.dct kvs)))
    (h : ∀ od, DS X [] F0 H0 (ρ.set i (.fx d (.frz od (.dT kvs)))) st { N := fun ρ' => ρ'[i]? = some (.fx d (.frz od (.dT kvs))) ∧ (ρ'.set i .no).all plainE = true ∧ N1 (ρ'.set i .no), R := fun _ _ => False })
    (k : ∀ ρ', N1 ρ' → DSs X [] F0 H0 ρ' sts A) : DSs X [] F0 H0 ρ (st :: sts) A := by
  refine dss_seq (N1 := N1) ?_ k
  refine PS.imp (ps_lock (PS.any (ι := Obj) (c := fun _ => True) (t := fun od => tS [] F0 H0 (ρ.set i (.fx d (.frz od (.dT kvs)))) { N := fun ρ' => ρ'[i]? = some (.fx d (.frz od (.dT kvs))) ∧ (ρ'.set i .no).all plainE = true ∧ N1 (ρ'.set i .no), R := fun _ _ => False }) fun od _ => h od)) fun D σ H ⟨F, a, n, r, b, c⟩ => ?_
  obtain ⟨h1, h2, ho, h3, h4⟩ := a.ok.own hi
  have h4' : ho = .dT kvs := h4
  subst h4'
  have hH0 : H0 d = none := by
    rcases a.new i d _ hi with q | q
    · exact q
    · cases q
  have hl : i < ρ.length := (List.getElem?_eq_some_iff.mp hi).1
  refine ⟨d, _, h3, trivial, fun od => ⟨od, trivial, upd F d (.frz od (.dT kvs)), ?_, ?_, ⟨fun _ _ _ _ _ _ z => z.elim, fun _ _ z => z.elim⟩, fun _ _ _ _ z => z.elim, fun _ _ _ _ z => z.elim⟩⟩
  · -- the lock is on
    have s1 : Same F (upd F d (.frz od (.dT kvs))) := Same.upd_new h2
    have sH : Same (upd F d (.frz od (.dT kvs))) (upd H d (.frz od (.dT kvs))) := Same.upd2 a.ok.s
    refine ⟨⟨a.g.f.trans s1, sH, fun b u hb q => ?_, fun b q => ?_, fun b q1 q2 => ?_, fun b q => (a.g.m b q).upd (fun _ z => by cases z)⟩, ⟨sH, by simp [a.ok.len], fun j e hj => ?_, fun j l p q w w' hj hk hjk => ?_⟩, fun j p w hj => ?_⟩
    · have hbd : b ≠ d := fun z => by subst z; rw [hH0] at q; cases q
      rw [upd_ne hbd]; exact a.g.h b u hb q
    · by_cases hbd : b = d
      · subst hbd; rw [upd_same]; simp
      · rw [upd_ne hbd]; exact a.g.k b q
    · have hbd : b ≠ d := fun z => by subst z; exact q2.ne hH0
      rw [upd_ne hbd]; exact a.g.n b q1 q2
    · by_cases hij : i = j
      · subst hij
        rw [List.getElem?_set_self hl] at hj; cases hj
        exact ⟨_, h1, rfl, upd_same⟩
      · rw [List.getElem?_set_ne hij] at hj
        obtain ⟨oo, e1, e2⟩ := a.ok.at_ j e hj
        refine ⟨oo, e1, ?_⟩
        cases e with
        | no => trivial
        | dat x => obtain ⟨v, x1, x2⟩ := e2; exact ⟨v, x1, x2.mono s1⟩
        | val v => exact e2
        | fx q u => exact ⟨e2.1, s1 _ _ e2.2⟩
        | st q w => exact ⟨e2.1, let ⟨u, hu, hw⟩ := e2.2; ⟨u, s1 _ _ hu, w.mono s1 hw⟩⟩
        | own q w =>
          obtain ⟨x1, x2, hh, x3, x4⟩ := e2
          have hq : q ≠ d := a.ok.ne j i q d _ _ hj hi (Ne.symm hij)
          exact ⟨x1, by rw [upd_ne hq]; exact x2, hh, by rw [upd_ne hq]; exact x3, w.mono s1 x4⟩
    · have f : ∀ {j : Nat} {q : Addr} {w : Ow}, (ρ.set i (.fx d (.frz od (.dT kvs))))[j]? = some (.own q w) → ρ[j]? = some (.own q w) := fun {j q w} hj => by
        by_cases hij : i = j
        · subst hij
          rw [List.getElem?_set_self hl] at hj; cases hj
        · rw [List.getElem?_set_ne hij] at hj; exact hj
      exact a.ok.ne j l p q _ _ (f hj) (f hk) hjk
    · by_cases hij : i = j
      · subst hij
        rw [List.getElem?_set_self hl] at hj; cases hj
      · rw [List.getElem?_set_ne hij] at hj; exact a.new j p w hj
  · -- the lock is off
    intro ρ' σ' F' H' ⟨hi', hpl, hN⟩ s1 a'
    obtain ⟨oo, e1, e2, e3⟩ := a'.ok.at_ i _ hi'
    have hHd : H' d = some (.frz od (.dT kvs)) := a'.ok.s _ _ e3
    refine ⟨hHd, n (ρ'.set i .no) σ' (fun b => if b = d then none else F' b) (upd H' d (.dT kvs)) hN (fun b u q => ?_) ?_⟩
    · have hbd : b ≠ d := fun z => by subst z; rw [h2] at q; cases q
      show (if b = d then none else F' b) = some u
      rw [if_neg hbd]
      exact s1 b u (by rw [upd_ne hbd]; exact q)
    · have sH : Same (fun b => if b = d then none else F' b) (upd H' d (.dT kvs)) := fun b u q => by
        by_cases hbd : b = d
        · have q' : (if b = d then none else F' b) = some u := q
          rw [if_pos hbd] at q'; cases q'
        · have q' : (if b = d then none else F' b) = some u := q
          rw [if_neg hbd] at q'; have q := q'; rw [upd_ne hbd]; exact a'.ok.s b u q
      have hpe : ∀ (j : Nat) (e : Ent), (ρ'.set i .no)[j]? = some e → plainE e = true := fun j e hj => List.all_eq_true.mp hpl e (List.mem_of_getElem? hj)
      refine ⟨⟨fun b u q => ?_, sH, fun b u hb q => ?_, fun b q => ?_, fun b q1 q2 => ?_, fun b q => (a'.g.m b q).upd (fun _ z => by cases z)⟩, ⟨sH, by simp [a'.ok.len], fun j e hj => ?_, fun j l p q w w' hj hk hjk => by have := hpe j _ hj; cases this⟩, fun j p w hj => by have := hpe j _ hj; cases this⟩
      · have hbd : b ≠ d := fun z => by
          subst z
          have := a.g.f _ _ q
          rw [h2] at this; cases this
        show (if b = d then none else F' b) = some u
        rw [if_neg hbd]; exact a'.g.f b u q
      · have hbd : b ≠ d := fun z => by subst z; rw [hH0] at q; cases q
        rw [upd_ne hbd]; exact a'.g.h b u hb q
      · by_cases hbd : b = d
        · subst hbd; rw [upd_same]; simp
        · rw [upd_ne hbd]; exact a'.g.k b q
      · by_cases hbd : b = d
        · show (if b = d then none else F' b) = none
          rw [if_pos hbd]
        · show (if b = d then none else F' b) = none
          rw [if_neg hbd]; exact a'.g.n b q1 q2
      · have hp := hpe j e hj
        have hli : i < ρ'.length := (List.getElem?_eq_some_iff.mp hi').1
        by_cases hij : i = j
        · subst hij
          rw [List.getElem?_set_self hli] at hj; cases hj
          exact ⟨oo, e1, trivial⟩
        · rw [List.getElem?_set_ne hij] at hj
          obtain ⟨o2, x1, x2⟩ := a'.ok.at_ j e hj
          refine ⟨o2, x1, ?_⟩
          cases e with
          | no => trivial
          | dat x => obtain ⟨v, y1, y2⟩ := x2; exact ⟨v, y1, y2.drop e3⟩
          | val v => exact x2
          | fx q u => cases hp
          | st q w => cases hp
          | own q w => cases hp
end Tw

namespace Tw
open PySem PySem.Spec PyProof.Rows L2
/-! ## xs.count(x) over data -/
def rCountD (K : PySem.W.Frag) : V → List V → Hp → VK → Prop := fun x xs H Q => ∃ v ds d, xs = [v] ∧ Dp K H x (.list ds) ∧ Dp K H v d ∧ PyData.plainAll ds = true ∧ d.plain = true ∧ d.depth ≤ 60 ∧ Q (.int ((ds.countP fun y => PyData.eqv y d : Nat) : Int)) H
theorem mt_countD {X : Cx} (hu : X.A.units + 64 < cLine) : MtR X "list.count" (rCountD X.K) := by
  intro pins s σ H x xs v us Q I rx rxs h
  obtain ⟨y, ds, d, rfl, hx, hy, h1, h2, h3, q⟩ := h
  obtain ⟨u, rfl, ru⟩ := rxs.one
  obtain ⟨as, r1⟩ := Dp.reads I (.list ds) x v hx rx
  obtain ⟨bs, r2⟩ := Dp.reads I d y u hy ru
  cases r1 with
  | list ha hc hd rs => exact PySem.SeqAt.count_list_data ⟨_, ha, hc, _, hd⟩ rs r2 h1 h2 (by omega) ⟨.int _, H, I.tok _, ⟨_, rfl⟩, q⟩
theorem plain_ints : ∀ ws : List Int, PyData.plainAll (ws.map PyData.int) = true
  | [] => by simp [PyData.plainAll]
  | w :: ws => by simp [PyData.plainAll, PyData.plain, plain_ints ws]
theorem plain_wi (ws : List Int) : (wiD ws).plain = true := by simp [wiD, PyData.plain, plain_ints]
theorem plain_rows : ∀ rs : List (List Int), PyData.plainAll (rs.map wiD) = true
  | [] => by simp [PyData.plainAll]
  | r :: rs => by simp [PyData.plainAll, plain_wi, plain_rows rs]
theorem eqv_ints : ∀ a b : List Int, PyData.eqvAll (a.map PyData.int) (b.map PyData.int) = decide (a = b)
  | [], [] => by simp [PyData.eqvAll]
  | [], _ :: _ => by simp [PyData.eqvAll]
  | _ :: _, [] => by simp [PyData.eqvAll]
  | x :: a, y :: b => by
    simp only [List.map_cons, PyData.eqvAll, PyData.eqv, eqv_ints a b]
    by_cases h : x = y <;> by_cases h2 : a = b <;> simp [h, h2]
theorem eqv_wi (a b : List Int) : PyData.eqv (wiD a) (wiD b) = decide (a = b) := by
  unfold wiD
  rw [PyData.eqv, eqv_ints]
section
variable {X : Cx} {ρ : Env'} {o e : Expr} {apos cpos : Pos}
/-- rows.count(row) -/
theorem de_countW {rs : List (List Int)} {h : List Int} (hu : X.A.units + 64 < cLine) (ho : DE X ρ o (.list (rs.map wiD))) (ha : DE X ρ e (wiD h)) (hbase : attributeBase o "count" X.env (eval o X.env) = eval o X.env := by rfl)
    (hfew : ((backTo cpos (starEach [e] X.env)).all (fun x => !x.1) && (backToKw cpos (keywordEach [] X.env)).all (fun x => x.1.isSome) && decide (([e] : List Expr).length + ([] : List Keyword).length + (if ([] : List Keyword).isEmpty then 0 else 1) < 30)) = true := by rfl)
    (hline : (apos.endLine == cpos.line) = true := by rfl) (hst : starEach [e] X.env = (false, eval e X.env) :: starEach [] X.env := by rfl) (hpl : (backTo cpos (starEach [] X.env)).any (·.1) = false := by rfl) :
    DE X ρ (.Call (.Attribute o "count" apos) [e] [] cpos) (.int ((rs.count h : Nat) : Int)) :=
  PE.imp (pe_bm PySem.F.plainAttrs_list PySem.F.slot_list_count PySem.F.type_list_count (mt_countD hu) ho (da_cons ha da_nil hst) hbase hfew hline hst hpl) fun σ H Q ⟨F, ok, k⟩ => ⟨F, ok, fun v F1 H1 g1 r1 => by
    obtain ⟨a, xs, rfl, h1, r1'⟩ := r1.lst_inv
    refine ⟨.inl ⟨rfl, xs, SqL.of (g1.s _ _ h1)⟩, F1, ok.grow g1, fun vs F2 H2 g2 r2 => ?_⟩
    cases r2 with
    | cons r2 rr =>
      cases rr
      refine ⟨_, rs.map wiD, wiD h, rfl, (r1.mono g2.f).dp g2.s, r2.dp g2.s, plain_rows rs, plain_wi h, Nat.le_trans (lay_wi h).2 (by decide), ?_⟩
      have e : ((rs.map wiD).countP fun y => PyData.eqv y (wiD h)) = rs.count h := by
        rw [List.countP_map, List.count]
        refine List.countP_congr fun r _ => ?_
        simp only [Function.comp_apply, eqv_wi]
        by_cases hh : r = h <;> simp [hh]
      rw [e]
      exact k _ F2 H2 (g1.trans g2) (.int _)⟩
end
end Tw

/-! Tw: [::-1] of a tuple -/
namespace Tw
open PySem PySem.Spec PyProof.Rows L2
theorem sliceApplied_back {prog : Program} {w : World} {A : Around} {E : Value → Shared → Prop} {s : Shared} {sl : Addr} {u : Tok} {n : Nat} {Q : Int × Int × Nat → Shared → Prop}
    (hs : s.heap.IsSliceOf sl .none .none (.int (-1) u)) (h : Q ((n : Int) - 1, -1, n) s) : wpAny (model prog w) A (Builtin.Slice.sliceApplied (.ref sl) (pure ↑n)) Q E s := by
  obtain ⟨o, h1, h2, h3⟩ := hs
  unfold Builtin.Slice.sliceApplied Builtin.Slice.sliceFields
  have hf : ∀ (i : Nat) (v : Value) {Q' : Value → Shared → Prop}, (#[Value.none, Value.none, Value.int (-1) u])[i]? = some v → Q' v s → wpAny (model prog w) A (field (.ref sl) i) Q' E s := fun i v Q' e q => by
    exact wpAny_field h1 h3 e q
  refine wpAny_bind (wpAny_bind (hf 0 _ rfl (wpAny_bind (hf 1 _ rfl (wpAny_bind (hf 2 _ rfl (wpAny_pure ?_)))))))
  refine wpAny_bind (HT.slicePart_ (IsPart.int (-1) u) ?_)
  refine wpAny_bind (HT.slicePart_ IsPart.none (wpAny_bind (HT.slicePart_ IsPart.none (wpAny_bind (wpAny_pure ?_)))))
  refine wpAny_pure ?_
  have e1 : Builtin.Slice.slicePlaces ((n : Int) - 1) (-1) (-1) = n := by
    unfold Builtin.Slice.slicePlaces
    by_cases hn : n = 0
    · subst hn; rfl
    · rw [if_neg (by decide), if_pos (by omega)]
      have : (((n : Int) - 1 - -1 - 1) / - -1 + 1).toNat = n := by
        rw [show (- -1 : Int) = 1 from rfl, Int.ediv_one]; omega
      exact this
  show Q ((n : Int) - 1, -1, Builtin.Slice.slicePlaces ((n : Int) - 1) (-1) (-1)) s
  rw [e1]; exact h
theorem back_items (items : Array Value) : (List.filterMap (fun (k : Nat) => items[(((items.size : Nat) : Int) - 1 + (k : Int) * -1).toNat]?) (List.range items.size)).toArray = items.toList.reverse.toArray := by
  congr 1
  have h1 : List.filterMap (fun (k : Nat) => items[(((items.size : Nat) : Int) - 1 + (k : Int) * -1).toNat]?) (List.range items.size) = List.filterMap (fun (k : Nat) => (items.toList.reverse)[k]?) (List.range items.size) := by
    have cg : ∀ (l : List Nat) (f g : Nat → Option Value), (∀ k ∈ l, f k = g k) → l.filterMap f = l.filterMap g := fun l f g hh => by
      induction l with
      | nil => rfl
      | cons k l ih => simp only [List.filterMap_cons, hh k (List.mem_cons_self ..), ih fun j hj => hh j (List.mem_cons_of_mem _ hj)]
    refine cg _ _ _ fun k hk => ?_
    have hk' := List.mem_range.mp hk
    have e : (((items.size : Nat) : Int) - 1 + (k : Int) * -1).toNat = items.size - 1 - k := by omega
    rw [e, List.getElem?_reverse (by simpa using hk')]
    simp
  rw [h1]
  have := PySem.W.krv_all items.toList.reverse.toArray
  simpa using this
def spBack (t sl : Addr) (items : Array Value) (u : Tok) : PySem.Spec := fun A R s => PyProof.Rows.IsTup s.heap t items ∧ s.heap.IsSliceOf sl .none .none (.int (-1) u) ∧ items.size ≤ sizeLine ∧
  R (.ok (.ret (.ref s.heap.objs.size))) { heap := s.heap.push { cls := .type "tuple", data := .seq items.toList.reverse.toArray }, gens := s.gens, drawn := s.drawn, toks := s.toks, os := s.os }
theorem meets_back (t sl : Addr) (items : Array Value) (u : Tok) : Meets (Builtin.«tuple.__getitem__» { pos := [.ref t, .ref sl] }) (spBack t sl items u) := by
  rintro prog w A R s ⟨ht, hs, hsz, h⟩
  obtain ⟨o, ho, hc, n, hd⟩ := id ht
  obtain ⟨os, hos, hcs, hds⟩ := id hs
  have ha : slotArgs "__getitem__" 1 { pos := [.ref t, .ref sl] } = pure (.ref t, [.ref sl]) := rfl
  unfold Builtin.«tuple.__getitem__»
  rw [ha]
  refine wpAny_bind (wpAny_pure ?_)
  refine wpAny_bind (wpAny_tupleItemsOf ho hd ?_)
  refine wpAny_bind (wpAny_typeOf (T := "slice") ⟨os, hos, hcs⟩ ?_)
  refine wpAny_bind (sliceApplied_back hs ?_)
  have hb : (((items.size : Int) - 1 == 0) && ((-1 : Int) == 1) && (items.size == items.size)) = false := by
    rw [show ((-1 : Int) == 1) = false from rfl]; simp
  show wpAny (model prog w) A.in1 (if (((items.size : Int) - 1 == 0) && ((-1 : Int) == 1) && (items.size == items.size)) = true then _ else _) _ _ s
  rw [hb, if_neg (by decide), back_items]
  refine wpAny_bind ?_
  unfold Builtin.Tuple.tupleExact
  refine wpAny_newObj_type ?_ ?_
  · exact wpAny_pure h
  · show items.toList.reverse.toArray.size ≤ sizeLine
    simpa using hsz
theorem getItem_tuple_back {prog : Program} {w : World} {A : Around} {E : Value → Shared → Prop} {s : Shared} {t sl : Addr} {items : Array Value} {u : Tok} {Q : Value → Shared → Prop}
    (ht : PyProof.Rows.IsTup s.heap t items) (hs : s.heap.IsSliceOf sl .none .none (.int (-1) u)) (hsz : items.size ≤ sizeLine)
    (h : Q (.ref s.heap.objs.size) { heap := s.heap.push { cls := .type "tuple", data := .seq items.toList.reverse.toArray }, gens := s.gens, drawn := s.drawn, toks := s.toks, os := s.os }) :
    wpAny (model prog w) A (getItem (.ref t) (.ref sl)) Q E s := by
  obtain ⟨o, ho, hc, n, hd⟩ := id ht
  exact getItem_meets (T := "tuple") ⟨o, ho, hc⟩ (by decide) PySem.F.slot_tuple_getitem PySem.F.entry_tuple_getitem (PySem.F.args_tuple_getitem_2 _ _) (meets_back t sl items u) ⟨ht, hs, hsz, h⟩
def tRevT (K : PySem.W.Frag) (te : TE) : TE := fun σ H Q => te σ H fun x H1 => ∃ a xs, x = .ref a ∧ SqT K H1 a xs ∧ ∀ p, H1 p = none → Q (.ref p) (upd H1 p (.tup xs.reverse))
theorem pe_revT {X : Cx} {x : Str} {px : Pos} {te : TE} {k : Nat} {p1 p2 p3 pos : Pos} (he : PE X (.Name x px) te) :
    PE X (.Subscript (.Name x px) (.Slice none none (some (.UnaryOp .USub (.Constant (.int 1) k p1) p2)) p3) pos) (tRevT X.K te) := ⟨fun pins s σ H Q I q => by
  rw [eval_Subscript]
  refine wpAny_bind (wpAny_mono (he.run pins s σ H _ I q) (fun v s1 h1 => ?_) fun _ _ h => h)
  obtain ⟨x1, H1, I1, r1, a, xs, rfl, hs, q1⟩ := h1
  refine wpAny_bind (wpAny_holding ?_)
  rw [eval]
  refine wpAny_bind (wpAny_pure ?_)
  refine wpAny_bind (wpAny_holding (wpAny_pure ?_))
  refine wpAny_bind (wpAny_holding ?_)
  show wpAny (model X.prog X.w) X.A (eval (.UnaryOp .USub (.Constant (.int 1) k p1) p2) X.env) _ _ s1
  refine wpAny_mono ((pe_un un_neg pe_int).run pins s1 σ H1 (fun v' H' => v' = .int (-1) ∧ H' = H1) I1 ⟨1, rfl, rfl, rfl⟩) (fun v2 s2 h2 => ?_) fun _ _ h => h
  obtain ⟨x2, H2, I2, r2, rfl, rfl⟩ := h2
  obtain ⟨u, rfl⟩ := r2
  unfold newFields
  refine wpAny_newObj_type ?_ ?_
  · have I3 := I2.kept (h' := s2.heap.push { cls := Value.type "slice", data := Data.fields #[Value.none, Value.none, Value.int (-1) u] }) (t' := s2.toks) (fun b o hb => Heap.get?_push_of_some _ hb)
    obtain ⟨its, rv, ht, hlen⟩ := I3.tuple hs
    cases r1
    refine wpAny_bind (wpAny_standAt ?_)
    have hsz : its.toArray.size ≤ sizeLine := by
      have := rv.length
      simpa [← this] using hlen
    have hsl : Heap.IsSliceOf (s2.heap.push { cls := Value.type "slice", data := Data.fields #[Value.none, Value.none, Value.int (-1) u] }) s2.heap.objs.size .none .none (.int (-1) u) := ⟨_, Heap.get?_push_size _ rfl, rfl, rfl⟩
    obtain ⟨o, ho, hc, n, hd⟩ := id ht
    refine subscriptTail_ops (T := "tuple") (id := "tuple.__getitem__") (ops := [.ref a, .ref s2.heap.objs.size]) ⟨o, ho, hc⟩ rfl ?_ rfl (fun r => rfl)
    refine getItem_tuple_back ht hsl hsz ?_
    have hfr := I3.fresh
    have e : its.toArray.toList.reverse.toArray = its.reverse.toArray := by simp
    rw [e]
    have I4 := I3.laid (a := (s2.heap.push { cls := Value.type "slice", data := Data.fields #[Value.none, Value.none, Value.int (-1) u] }).objs.size) (o := .tup xs.reverse)
      (h' := (s2.heap.push { cls := Value.type "slice", data := Data.fields #[Value.none, Value.none, Value.int (-1) u] }).push { cls := Value.type "tuple", data := Data.seq its.reverse.toArray }) (t' := s2.toks)
      (fun b o hb => Heap.get?_push_of_some _ hb) (Nat.le_refl _) ⟨by simpa using hlen, its.reverse, rv.reverse, _, Heap.get?_push_size _ rfl, rfl, _, rfl⟩
    exact ⟨.ref _, _, I4, rfl, q1 _ hfr⟩
  · exact Nat.le_trans (show 3 ≤ 10 by decide) (by decide)⟩
end Tw

/-! Tw: things of any kind -/
namespace Tw
open PySem PySem.Spec PyProof.Rows L2
theorem wp_rule {M : Model} {A : Around} {E : Value → Shared → Prop} {s : Shared} {t : String} {Q : Unit → Shared → Prop} (q : Q () s) : wpAny M A (rule t) Q E s := by
  intro Γ p hΓ
  unfold rule
  first
  | exact q
  | (simp [Sem.wp]; exact q)
/-! ## t * 1 -/
theorem tuple_mul1 (l : Addr) (items : Array Value) (n : Nat) (dd : Option Addr) (sl : Array (Option Value)) (u : Tok) :
    Meets (Builtin.«tuple.__mul__» { pos := [.ref l, .int 1 u] }) fun _ R s => s.heap.get? l = some { cls := .type "tuple", dict := dd, data := .seq items n, slots := sl } ∧ R (.ok (.ret (.ref l))) s := by
  rintro prog w A R s ⟨h1, q⟩
  change wpAny _ _ (asIndex (.int 1 u) >>= _) _ _ _
  refine wpAny_bind ?_
  change wpAny _ _ (pure (1 : Int)) _ _ _
  refine wpAny_pure ?_
  change wpAny _ _ (Builtin.Tuple.tupleItemsOf (.ref l) >>= _) _ _ _
  refine wpAny_bind (wpAny_tupleItemsOf h1 rfl ?_)
  have hb : (items.isEmpty || (1 : Int) == 1) = true := by simp
  dsimp only
  rw [if_pos hb]
  refine wpAny_bind ?_
  unfold Builtin.Tuple.tupleIsExact
  refine wpAny_bind (wpAny_typeOf (T := "tuple") ⟨_, h1, rfl⟩ (wpAny_pure ?_))
  rw [if_pos (by rfl)]
  exact wpAny_bind (wp_rule (wpAny_pure q))
def rRep1 (K : PySem.W.Frag) : R2 := fun x y H Q => ∃ l xs, x = .ref l ∧ y = .int 1 ∧ SqT K H l xs ∧ Q (.ref l) H
theorem op_rep1 {X : Cx} : OpR X (binaryOp .Mult) (rRep1 X.K) := by
  intro pins s σ H x y v u Q I rx ry ⟨l, xs, hx, hy, hs, q⟩
  subst hx; subst hy
  obtain rfl : v = Value.ref l := rx
  obtain ⟨t, rfl⟩ := ry
  obtain ⟨its, rv, ⟨o, ho, hc, n, hd⟩, hlen⟩ := I.tuple hs
  obtain ⟨cls, dd, data, sl⟩ := o
  subst hc; subst hd
  refine wpAny_binaryOp_repeat_ref (T := "tuple") (U := "int") (id := "tuple.__mul__") (idr := "int.__rmul__") rfl ⟨_, ho, rfl⟩ (fun _ => rfl) noFill_tuple_mul rfl PySem.F.slot_int_rmul repeat_tuple rfl ?_
  refine call_meets (T := "int") PySem.F.slot_int_rmul rfl PySem.F.entry_int_rmul (PySem.F.args_int_rmul_2 _ _) (int_rmul_tuple 1 t l _ n dd sl) ⟨ho, rfl, ⟨_, ho, rfl⟩, ?_⟩
  exact call_meets (T := "tuple") PySem.F.slot_tuple_mul ⟨_, ho, rfl⟩ PySem.F.entry_tuple_mul (PySem.F.args_tuple_mul_2 _ _) (tuple_mul1 l _ n dd sl t) ⟨ho, ⟨.ref l, H, I, rfl, q⟩⟩
theorem v_rep1T {K : PySem.W.Frag} {ds : List PyData} : V2 (rRep1 K) (.tuple ds) (.int 1) (.tuple ds) := fun F H v1 v2 e r1 r2 Q k => by
  obtain ⟨a, xs, rfl, ha, rx⟩ := r1.tup_inv
  exact ⟨a, xs, rfl, r2.int_inv, SqT.of (e _ _ ha), k _ F H (GrowX.refl e) (.tup ha rx)⟩
/-! ## True + 1, True - 1 -/
def rBI (g : Int → Int → Int) : R2 := fun x y H Q => ∃ (b : Bool) (i : Int), x = .bl b ∧ y = .int i ∧ Q (.int (g (if b then 1 else 0) i)) H
theorem op_addB {X : Cx} : OpR X (binaryOp .Add) (rBI (· + ·)) := by
  intro pins s σ H x y v u Q I rx ry ⟨b, i, hx, hy, q⟩
  subst hx; subst hy
  obtain rfl : v = Value.bool b := rx
  obtain ⟨t, rfl⟩ := ry
  exact IntBool.add_bool_int ⟨.int _, H, I.tok _, ⟨_, rfl⟩, q⟩
theorem op_subB {X : Cx} : OpR X (binaryOp .Sub) (rBI (· - ·)) := by
  intro pins s σ H x y v u Q I rx ry ⟨b, i, hx, hy, q⟩
  subst hx; subst hy
  obtain rfl : v = Value.bool b := rx
  obtain ⟨t, rfl⟩ := ry
  exact IntBool.sub_bool_int ⟨.int _, H, I.tok _, ⟨_, rfl⟩, q⟩
theorem v_BI {g : Int → Int → Int} {b : Bool} {i : Int} : V2 (rBI g) (.bool b) (.int i) (.int (g (if b then 1 else 0) i)) := fun F H v1 v2 e r1 r2 Q k => ⟨b, i, r1.bl_inv, r2.int_inv, k _ F H (GrowX.refl e) (.int _)⟩
/-! ## tuple + tuple, list -/
theorem v_catT {K : PySem.W.Frag} {ds es : List PyData} (h : ds.length + es.length ≤ 1000000) : V2 (rCatA K) (.tuple ds) (.tuple es) (.tuple (ds ++ es)) := fun F H v1 v2 e r1 r2 Q k => by
  obtain ⟨a, xs, rfl, ha, rx⟩ := r1.tup_inv
  obtain ⟨b, ys, rfl, hb, ry⟩ := r2.tup_inv
  refine ⟨a, b, xs, ys, rfl, rfl, SqT.of (e _ _ ha), SqT.of (e _ _ hb), by rw [rx.len, ry.len]; exact Nat.le_trans h (by decide), fun hx => ?_, fun _ hy => ?_, fun _ _ p hp => k _ _ _ (Grow.new e hp) (.tup upd_same ((rx.append ry).mono (Same.upd_new (same_none e hp))))⟩
  · subst hx
    cases rx
    exact k _ F H (GrowX.refl e) (.tup hb ry)
  · subst hy
    cases ry
    rw [List.append_nil] at k
    exact k _ F H (GrowX.refl e) (.tup ha rx)
/-! ## tuple(t), list(l) -/
theorem v_tupT {K : PySem.W.Frag} {ds : List PyData} : VN (fun xs H Q => ∃ p ys, xs = [.ref p] ∧ ((SqL K H p ys ∧ ∀ l, H l = none → Q (.ref l) (upd H l (.tup ys))) ∨ (SqT K H p ys ∧ Q (.ref p) H))) [.tuple ds] (.tuple ds) := VN1 fun F H v e r Q k => by
  obtain ⟨a, xs, rfl, ha, rx⟩ := r.tup_inv
  exact ⟨a, xs, rfl, .inr ⟨SqT.of (e _ _ ha), k _ F H (GrowX.refl e) (.tup ha rx)⟩⟩
theorem v_listL {K : PySem.W.Frag} {ds : List PyData} : VN (fun xs H Q => ∃ p ys, xs = [.ref p] ∧ (SqL K H p ys ∨ SqT K H p ys) ∧ ∀ l, H l = none → Q (.ref l) (upd H l (.lst ys))) [.list ds] (.list ds) := VN1 fun F H v e r Q k => by
  obtain ⟨a, xs, rfl, ha, rx⟩ := r.lst_inv
  exact ⟨a, xs, rfl, .inl (SqL.of (e _ _ ha)), fun l hl => k _ _ _ (Grow.new e hl) (.lst upd_same (rx.mono (Same.upd_new (same_none e hl))))⟩
/-! ## x[::-1] -/
section
variable {X : Cx} {ρ : Env'} {e : Expr} {ds : List PyData} {k : Nat} {p1 p2 p3 pos px : Pos} {x : Str}
theorem de_revT (he : DE X ρ (.Name x px) (.tuple ds)) : DE X ρ (.Subscript (.Name x px) (.Slice none none (some (.UnaryOp .USub (.Constant (.int 1) k p1) p2)) p3) pos) (.tuple ds.reverse) :=
  PE.imp (pe_revT he) fun σ H Q ⟨F, ok, kk⟩ => ⟨F, ok, fun v F2 H2 g r => by
    obtain ⟨a, xs, rfl, ha, rx⟩ := r.tup_inv
    exact ⟨a, xs, rfl, SqT.of (g.s _ _ ha), fun p hp => kk _ _ _ (g.trans (Grow.new g.s hp)) (.tup upd_same (rx.reverse.mono (Same.upd_new (same_none g.s hp))))⟩⟩
theorem de_revL (he : DE X ρ e (.list ds)) : DE X ρ (.Subscript e (.Slice none none (some (.UnaryOp .USub (.Constant (.int 1) k p1) p2)) p3) pos) (.list ds.reverse) :=
  PE.imp (pe_revL he) fun σ H Q ⟨F, ok, kk⟩ => ⟨F, ok, fun v F2 H2 g r => by
    obtain ⟨a, xs, rfl, ha, rx⟩ := r.lst_inv
    exact ⟨a, xs, rfl, SqL.of (g.s _ _ ha), fun p hp => kk _ _ _ (g.trans (Grow.new g.s hp)) (.lst upd_same (rx.reverse.mono (Same.upd_new (same_none g.s hp))))⟩⟩
end
/-! ## isinstance(x, (tuple, list)) -/
theorem kitAny_two {K : PySem.W.Frag} {t a b : Value} {x y : Bool} (h1 : PySem.W.kitOne K t a = some x) (h2 : PySem.W.kitOne K t b = some y) : PySem.W.kitAny K t [a, b] = some (x || y) := by
  rw [PySem.W.kitAny, PySem.W.kitAny, PySem.W.kitAny, h1]
  cases x <;> cases y <;> simp [h2]
theorem de_isi2 {X : Cx} {ρ : Env'} {e : Expr} {d : PyData} {p q q2 tp pos : Pos} {kk : Nat} {b1 b2 : Bool} (he : DE X ρ e d) (hm : X.mg "isinstance" = none) (hmT : X.mg "tuple" = none) (hmL : X.mg "list" = none) (h1 : kitB (tyD d) "tuple" = some b1) (h2 : kitB (tyD d) "list" = some b2)
    (hg : Gl X "isinstance" := by rfl) (hgT : Gl X "tuple" := by rfl) (hgL : Gl X "list" := by rfl)
    (hs : starEach [e, .Tuple [.Name "tuple" q, .Name "list" q2] kk tp] X.env = (false, eval e X.env) :: starEach [.Tuple [.Name "tuple" q, .Name "list" q2] kk tp] X.env := by rfl) (hpl : (backTo pos (starEach [.Tuple [.Name "tuple" q, .Name "list" q2] kk tp] X.env)).any (·.1) = false := by rfl)
    (hs2 : starEach [.Tuple [.Name "tuple" q, .Name "list" q2] kk tp] X.env = (false, eval (.Tuple [.Name "tuple" q, .Name "list" q2] kk tp) X.env) :: starEach [] X.env := by rfl) :
    DE X ρ (.Call (.Name "isinstance" p) [e, .Tuple [.Name "tuple" q, .Name "list" q2] kk tp] [] pos) (.bool (b1 || b2)) :=
  PE.imp (pe_callB call_isiT hg hm (by decide +kernel) (pa_cons he (pa_cons (pe_tup (pa_cons (pe_bltn (v := .ty "tuple") hgT hmT (by decide +kernel) rfl (by decide) (by decide)) (pa_cons (pe_bltn (v := .ty "list") hgL hmL (by decide +kernel) rfl (by decide) (by decide)) pa_nil))) pa_nil hs2) hs) (by decide) (by decide) hs hpl) fun σ H Q ⟨F, ok, k⟩ => ⟨F, ok, fun v F2 H2 g r =>
    ⟨by decide, fun pp hp => ⟨v, pp, [.ty "tuple", .ty "list"], .type (tyD d), [.type "tuple", .type "list"], (b1 || b2), rfl, upd_same, .cons (.ty _) (.cons (.ty _) .nil), (r.mono (Same.upd_new (same_none g.s hp))).ty (Same.upd2 g.s), kitAny_two (kit_ty h1) (kit_ty h2), k _ _ _ (g.trans (Grow.skip g.s hp)) (.bl _)⟩⟩⟩
/-! ## str of any thing -/
def strD : PyData → Str
  | .str x => x
  | d => d.shown
def rStrA (K : PySem.W.Frag) : List V → Hp → VK → Prop := fun xs H Q => ∃ v d, xs = [v] ∧ Dp K H v d ∧ d.showable = true ∧ d.hasDict = false ∧ d.depth ≤ 60 ∧ d.shown.length ≤ sizeLine ∧ Q (.str (strD d)) H
theorem call_strA {X : Cx} (hg : X.A.guards = some []) (hu : X.A.units + 64 < cLine) : CallR X (.type "str") (rStrA X.K) := by
  intro pins s σ H xs us Q I r h
  obtain ⟨v, d, rfl, hd, h2, h3, h4, h5, q⟩ := h
  cases d with
  | list ds => exact call_strD hg hu pins s σ H _ us Q I r ⟨v, _, rfl, hd, rfl, h2, h3, h4, h5, q⟩
  | tuple ds => exact call_strD hg hu pins s σ H _ us Q I r ⟨v, _, rfl, hd, rfl, h2, h3, h4, h5, q⟩
  | dict ds => rw [PyData.hasDict] at h3; cases h3
  | none =>
    obtain ⟨u, rfl, rv⟩ := vals1 r
    cases hd
    obtain rfl : u = Value.none := rv
    exact P.str_of_none ⟨.str _, H, I.tok _, ⟨_, rfl⟩, q⟩
  | bool b =>
    obtain ⟨u, rfl, rv⟩ := vals1 r
    cases hd
    obtain rfl : u = Value.bool b := rv
    refine P.str_of_bool ⟨.str _, H, I.tok _, ⟨_, rfl⟩, ?_⟩
    have : strD (.bool b) = if b = true then Str.ofString "True" else Str.ofString "False" := PyData.shown.eq_2 b
    rw [← this]; exact q
  | int i =>
    obtain ⟨u, rfl, rv⟩ := vals1 r
    cases hd
    obtain ⟨t, rfl⟩ := rv
    have hs : i.natAbs.log2 < 1920 := by simpa [PyData.showable] using h2
    refine P.str_of_int hs ⟨.str _, H, I.tok _, ⟨_, rfl⟩, ?_⟩
    have : strD (.int i) = Str.ofString (toString i) := PyData.shown.eq_3 i
    rw [← this]; exact q
  | str x =>
    obtain ⟨u, rfl, rv⟩ := vals1 r
    cases hd
    obtain ⟨t, rfl⟩ := rv
    exact P.str_of_str ⟨.str _, H, I, ⟨_, rfl⟩, q⟩
theorem v_strA {K : PySem.W.Frag} {d : PyData} (h2 : d.showable = true) (h3 : d.hasDict = false) (h4 : d.depth ≤ 60) (h5 : d.shown.length ≤ sizeLine) : VN (rStrA K) [d] (.str (strD d)) := VN1 fun F H v e r Q k =>
  ⟨v, d, rfl, r.dp e, h2, h3, h4, h5, k _ F H (GrowX.refl e) (.str _)⟩
/-! ## own lists -/
section
variable {X : Cx} {ex : List Addr} {F0 H0 : Hp} {ρ ρ1 : Env'} {sts : List Stmt} {A : Aims} {e ix c a b : Expr} {es : List Expr} {P : PyData → Prop} {pos px tp : Pos} {p : Addr} {ds : List PyData} {d : PyData} {x : Str} {jj : Int}
theorem de_ixOwn (i : Nat) (hj : DE X ρ ix (.int jj)) (h : atI ds jj = some d) (hi : ρ[i]? = some (.own p (.lst ds)) := by rfl) (hs : PlainIx ix := by exact fun _ _ => rfl)
    (hxN : X.N[i]? = some x := by rfl) (hv : Vis X.env.scope x := by first | exact Or.inl rfl | exact Or.inr (Or.inl rfl) | exact Or.inr (Or.inr rfl)) (hd : (x == ("__debug__" : Str)) = false := by decide) (hcd : (x == ("__classdict__" : Str)) = false := by decide) :
    DE X ρ (.Subscript (.Name x px) ix pos) d :=
  PE.imp (pe_ix ix_list (pe_var hxN hv hd hcd) hj hs) fun σ H Q ⟨F, ok, k⟩ => by
    obtain ⟨_, e1, _⟩ := ok.lstIs hi
    refine ⟨_, e1, F, ok, fun v F2 H2 g r => ?_⟩
    obtain ⟨xs, _, _, hH, rx⟩ := (ok.grow g).lstIs hi
    obtain ⟨j, h1, h2⟩ := atI_of rx.len h
    obtain ⟨w, h3, h4⟩ := rx.get h1
    exact ⟨p, xs, jj, w, rfl, r.int_inv, SqL.of hH, h2 w h3, k w F2 H2 g h4⟩
theorem dss_setiW (i : Nat) {j : Nat} (he : WE X ex ρ e P ρ1) (l : OwnLike ρ1 ρ) (hj : DE X ρ1 ix (.int jj)) (hjj : ixN ds.length jj = some j) (k : ∀ d, P d → DSs X ex F0 H0 (ρ1.set i (.own p (.lst (ds.set j d)))) sts A)
    (hi : ρ1[i]? = some (.own p (.lst ds)) := by rfl)
    (hxN : X.N[i]? = some x := by rfl) (hv : Vis X.env.scope x := by first | exact Or.inl rfl | exact Or.inr (Or.inl rfl) | exact Or.inr (Or.inr rfl)) (hd : (x == ("__debug__" : Str)) = false := by decide) (hcd : (x == ("__classdict__" : Str)) = false := by decide)
    (hs : swapsWithSole [.Subscript (.Name x px) ix tp] e pos.line X.env = pure false := by rfl) (hw : swappedStores [.Subscript (.Name x px) ix tp] e X.env = pure none := by rfl) (hh1 : (assignEach [.Subscript (.Name x px) ix tp] X.env).map (·.2) = [assign (.Subscript (.Name x px) ix tp) X.env] := by rfl)
    (ha : ∀ v, assign (.Subscript (.Name x px) ix tp) X.env v = (do
      let ov ← holding [v] (eval (.Name x px) X.env)
      let iv ← holding [v, ov] (eval ix X.env)
      standAt tp
      holding [v, ov, iv] (setItem ov iv v)
      release [v, ov, iv] []) := by intro _; rfl) : DSs X ex F0 H0 ρ (.Assign [.Subscript (.Name x px) ix tp] e pos :: sts) A :=
  dss_seq (N1 := fun ρ' => ∃ d, P d ∧ ρ' = ρ1.set i (.own p (.lst (ds.set j d)))) (PS.imp (ps_asg he (pg_sub (pe_var hxN hv hd hcd) hj set_list ha) hs hw hh1) fun D σ H ⟨F, a, n, r, b, c⟩ => ⟨F, a.ok, fun d v F2 H2 hP g o rv => by
    have a2 := a.like g o l
    obtain ⟨xs, h1, h2, h3, h4⟩ := a2.ok.lstIs hi
    refine ⟨_, h1, F2, a2.ok, fun v' F3 H3 g3 r3 => ?_⟩
    have a3 := a2.grow g3
    obtain ⟨xs', q1, q2, q3, q4⟩ := a3.ok.lstIs hi
    exact ⟨p, xs', jj, j, rfl, r3.int_inv, q3, by rw [q4.len]; exact hjj, n _ _ F3 _ ⟨d, hP, rfl⟩ (g.f.trans g3.f) (a3.write hi ⟨_, rfl, q4.set j (rv.mono g3.f)⟩)⟩⟩) fun _ ⟨d, hP, h⟩ => h ▸ k d hP
/-! ## a test from which the deck is drawn -/
def tWT (ex : List Addr) (ρ ρ' : Env') : TT := fun σ H Q => ∃ F, Ok F H ρ σ ∧ ∀ b F2 H2, GrowX ex F H F2 H2 → Ok F2 H2 ρ' σ → Q b H2
theorem wt_gt {lim : Int} {kk : Nat} {p2 : Pos} (ha : WE X ex ρ a (IntIn 0 lim) ρ1) : PT X (.Compare a [.Gt] [.Constant (.int 0) kk p2] pos) (tWT ex ρ ρ1) :=
  PT.imp (pt_cmpR op_gt ha (pe_int) (nomark _)) fun σ H Q ⟨F, ok, k⟩ => ⟨F, ok, fun d v F2 H2 hP g o r => by
    obtain ⟨i, rfl, _⟩ := hP
    exact ⟨i, 0, r.int_inv, rfl, _, rfl, k _ F2 H2 g o⟩⟩
theorem wt_and (ha : DT X ρ a true) (hb : PW X (.BoolOp .And (b :: es) pos) (tWT ex ρ ρ1)) : PW X (.BoolOp .And (a :: b :: es) pos) (tWT ex ρ ρ1) :=
  PW.imp (pw_and ha hb) fun σ H Q ⟨F, ok, k⟩ => ⟨F, ok, fun F2 H2 g => iteT ⟨F2, ok.grow g, fun b F3 H3 g3 o3 => k b F3 H3 (GrowX.trans g.up g3) o3⟩⟩
theorem dss_ifxW {s1 : List Stmt} (hc : PT X c (tWT ex ρ ρ1)) (l : OwnLike ρ1 ρ) (h1 : DSs X ex F0 H0 ρ1 s1 { A with N := fun _ => False }) (k : DSs X ex F0 H0 ρ1 sts A) : DSs X ex F0 H0 ρ (.If c s1 [] pos :: sts) A := by
  refine dss_seq (N1 := fun ρ' => ρ' = ρ1) ?_ fun _ h => h ▸ k
  refine PS.imp (ps_if hc (PSs.imp h1 fun D σ H h => h) pss_nil) fun D σ H ⟨F, a, n, r, b, cc⟩ => ⟨F, a.ok, fun x F2 H2 g o => ?_⟩
  cases x with
  | true => exact iteT ⟨F2, a.like g o l, fun _ _ _ _ q => q.elim, r, fun ρ2 σ2 F3 H3 h2 s2 => b ρ2 σ2 F3 H3 h2 (g.f.trans s2), fun ρ2 σ2 F3 H3 h2 s2 => cc ρ2 σ2 F3 H3 h2 (g.f.trans s2)⟩
  | false => exact iteF (n _ _ F2 H2 rfl g.f (a.like g o l))
/-- list(x), a new list that may change -/
theorem dn_list {p1 p2 : Pos} {d : PyData} (hd : d = .list ds ∨ d = .tuple ds) (he : DE X ρ e d) (hm : X.mg "list" = none) (hg : Gl X "list" := by rfl) (hs : starEach [e] X.env = (false, eval e X.env) :: starEach [] X.env := by rfl) (hpl : (backTo p2 (starEach [] X.env)).any (·.1) = false := by rfl) :
    DN X ρ (.Call (.Name "list" p1) [e] [] p2) (.lst ds) :=
  PE.imp (pe_callTy call_list_of hg hm (by decide +kernel) (pa_cons he pa_nil hs) (by decide) (by decide) hs hpl) fun σ H Q ⟨F, ok, kk⟩ => ⟨F, ok, fun v F2 H2 g r => by
    have fin : ∀ (xs : List V), RpA F2 xs ds → ∀ p, H2 p = none → Q (.ref p) (upd H2 p (.lst xs)) := fun xs rx p hp => by
      have hp0 : H p = none := by
        cases z : H p with
        | none => rfl
        | some u => exact absurd hp (g.k p (by rw [z]; simp))
      exact kk p (.lst xs) F2 (upd H2 p (.lst xs)) (g.trans (Grow.skip g.s hp)) hp0 (same_none g.s hp) upd_same ⟨xs, rfl, rx⟩
    rcases hd with rfl | rfl
    · obtain ⟨a, xs, rfl, ha, rx⟩ := r.lst_inv
      exact ⟨a, xs, rfl, .inl (SqL.of (g.s _ _ ha)), fin xs rx⟩
    · obtain ⟨a, xs, rfl, ha, rx⟩ := r.tup_inv
      exact ⟨a, xs, rfl, .inr (SqT.of (g.s _ _ ha)), fin xs rx⟩⟩
/-- a whole number of the module -/
theorem de_gint {i : Int} (hm : ∃ t, X.mg x = some (.int i t)) (hg : Gl X x := by rfl) (hdb : (x == ("__debug__" : Str)) = false := by decide) : DE X ρ (.Name x pos) (.int i) := by
  obtain ⟨t, hm⟩ := hm
  exact PE.imp (pe_glob (v := .int i) (hd := hdb) hg hm ⟨_, rfl⟩) fun σ H Q ⟨F, ok, k⟩ => k _ F H (GrowX.refl ok.s) (.int i)
/-- s in T, T a tuple of texts of the module -/
theorem de_inG {s : Str} {py : Pos} {C : Addr} {ts : List Str} (he : DE X ρ e (.str s)) (hm : X.mg x = some (.ref C)) (hs : ∀ H, SqT X.K H C (ts.map V.str)) (hg : Gl X x := by rfl) (hdb : (x == ("__debug__" : Str)) = false := by decide) : DE X ρ (.Compare e [.In] [.Name x py] pos) (.bool (inV (.str s) (ts.map V.str))) :=
  PE.imp (pe_cmpR op_in_seq he (pe_glob (v := .ref C) (hd := hdb) hg hm rfl) (by rfl)) fun σ H Q ⟨F, ok, k⟩ => ⟨F, ok, fun v F2 H2 g r => by
    have := r.str_inv
    subst this
    exact ⟨C, _, rfl, .inr (hs H2), rfl, by simp [flatV], k _ F2 H2 g (.bl _)⟩⟩
end
theorem dt_chainI {X : Cx} {ρ : Env'} {a b c : Expr} {i j k : Int} {pos : Pos} {op op' : CmpOp} {f g : Int → Int → Bool} (ho : OpR X (compareOp op) (rI0 fun i j => .bl (f i j))) (ho' : OpR X (compareOp op') (rI0 fun i j => .bl (g i j))) (ha : DE X ρ a (.int i)) (hb : DE X ρ b (.int j)) (hc : DE X ρ c (.int k)) (hm : lastMarks [op, op'] [b, c] = false := by with_unfolding_all rfl) :
    DT X ρ (.Compare a [op, op'] [b, c] pos) (f i j && g j k) :=
  PT.imp (pt_chain ho ho' ha hb hc hm) fun σ H Q ⟨F, ok, kk⟩ => ⟨F, ok, fun v1 F1 H1 g1 r1 => ⟨F1, ok.grow g1, fun v2 F2 H2 g2 r2 => by
    refine ⟨i, j, (r1.int_inv), r2.int_inv, f i j, rfl, ?_⟩
    cases hf : f i j with
    | true =>
      rw [if_pos rfl]
      refine ⟨F2, (ok.grow g1).grow g2, fun v3 F3 H3 g3 r3 => ⟨j, k, r2.int_inv, r3.int_inv, g j k, rfl, ?_⟩⟩
      have := kk F3 H3 (g1.trans (g2.trans g3))
      rw [hf, Bool.true_and] at this
      exact this
    | false =>
      rw [if_neg Bool.false_ne_true]
      have := kk F2 H2 (g1.trans g2)
      rw [hf, Bool.false_and] at this
      exact ⟨false, rfl, this⟩⟩⟩
def rStrF (K : PySem.W.Frag) : List V → Hp → VK → Prop := fun xs H Q => ∃ v d, xs = [v] ∧ Dp K H v d ∧ d.showable = true ∧ flatD d = true ∧ Q (.str (strD d)) H
theorem call_strF {X : Cx} : CallR X (.type "str") (rStrF X.K) := by
  intro pins s σ H xs us Q I r h
  obtain ⟨v, d, rfl, hd, h2, h3, q⟩ := h
  cases d with
  | list ds => cases h3
  | tuple ds => cases h3
  | dict ds => cases h3
  | none =>
    obtain ⟨u, rfl, rv⟩ := vals1 r
    cases hd
    obtain rfl : u = Value.none := rv
    exact P.str_of_none ⟨.str _, H, I.tok _, ⟨_, rfl⟩, q⟩
  | bool b =>
    obtain ⟨u, rfl, rv⟩ := vals1 r
    cases hd
    obtain rfl : u = Value.bool b := rv
    refine P.str_of_bool ⟨.str _, H, I.tok _, ⟨_, rfl⟩, ?_⟩
    have : strD (.bool b) = if b = true then Str.ofString "True" else Str.ofString "False" := PyData.shown.eq_2 b
    rw [← this]; exact q
  | int i =>
    obtain ⟨u, rfl, rv⟩ := vals1 r
    cases hd
    obtain ⟨t, rfl⟩ := rv
    have hs : i.natAbs.log2 < 1920 := by simpa [PyData.showable] using h2
    refine P.str_of_int hs ⟨.str _, H, I.tok _, ⟨_, rfl⟩, ?_⟩
    have : strD (.int i) = Str.ofString (toString i) := PyData.shown.eq_3 i
    rw [← this]; exact q
  | str x =>
    obtain ⟨u, rfl, rv⟩ := vals1 r
    cases hd
    obtain ⟨t, rfl⟩ := rv
    exact P.str_of_str ⟨.str _, H, I, ⟨_, rfl⟩, q⟩
theorem v_strF {K : PySem.W.Frag} {d : PyData} (h2 : d.showable = true) (h3 : flatD d = true) : VN (rStrF K) [d] (.str (strD d)) := VN1 fun F H v e r Q k =>
  ⟨v, d, rfl, r.dp e, h2, h3, k _ F H (GrowX.refl e) (.str _)⟩
end Tw

/-! Tw: data that are small enough -/
namespace Tw
open PySem PySem.Spec PyProof.Rows L2
def ten30 : Int := 1000000000000000000000000000000
def TxtOk (x : Str) : Prop := x.length ≤ 64 ∧ ∀ c ∈ x.cps.toList, c < 1114112
def Nice (k : Nat) (n : Nat) (d : PyData) : Prop :=
  match n, d with
  | _, .none => True
  | _, .bool _ => True
  | _, .int i => -(k : Int) ≤ i ∧ i ≤ ten30 + k
  | _, .str x => TxtOk x
  | n + 1, .list ds => ds.length ≤ 5 + k ∧ ∀ d ∈ ds, Nice k n d
  | n + 1, .tuple ds => ds.length ≤ 5 + k ∧ ∀ d ∈ ds, Nice k n d
  | 0, .list _ => False
  | 0, .tuple _ => False
  | _, .dict _ => False
section
variable {k n : Nat} {d : PyData} {ds : List PyData}
theorem nice_list : Nice k (n + 1) (.list ds) ↔ ds.length ≤ 5 + k ∧ ∀ d ∈ ds, Nice k n d := by rw [Nice]
theorem nice_tup : Nice k (n + 1) (.tuple ds) ↔ ds.length ≤ 5 + k ∧ ∀ d ∈ ds, Nice k n d := by rw [Nice]
theorem nice_int {i : Int} : Nice k n (.int i) ↔ -(k : Int) ≤ i ∧ i ≤ ten30 + k := by cases n <;> rw [Nice]
theorem nice_str {x : Str} : Nice k n (.str x) ↔ TxtOk x := by cases n <;> rw [Nice]
theorem nice_non : Nice k n .none := by cases n <;> (rw [Nice]; trivial)
theorem nice_bl {b : Bool} : Nice k n (.bool b) := by cases n <;> (rw [Nice]; trivial)
theorem Nice.flat (h : Nice k 0 d) : flatD d = true := by
  cases d with
  | list ds => rw [Nice] at h; exact h.elim
  | tuple ds => rw [Nice] at h; exact h.elim
  | dict ds => rw [Nice] at h; exact h.elim
  | _ => rfl
theorem Nice.nodict {kv : List (PyData × PyData)} (h : Nice k n (.dict kv)) : False := by cases n <;> (rw [Nice] at h; exact h)
theorem Nice.wide : ∀ {n : Nat} {d : PyData} {k k' : Nat}, Nice k n d → k ≤ k' → Nice k' n d := fun {n} => by
  induction n with
  | zero =>
    intro d k k' h hk
    cases d with
    | none => exact nice_non
    | bool b => exact nice_bl
    | int i => rw [nice_int] at h ⊢; omega
    | str x => rw [nice_str] at h ⊢; exact h
    | list ds => cases h.flat
    | tuple ds => cases h.flat
    | dict ds => exact h.nodict.elim
  | succ n ih =>
    intro d k k' h hk
    cases d with
    | none => exact nice_non
    | bool b => exact nice_bl
    | int i => rw [nice_int] at h ⊢; omega
    | str x => rw [nice_str] at h ⊢; exact h
    | list ds => rw [nice_list] at h ⊢; exact ⟨by omega, fun d hd => ih (h.2 d hd) hk⟩
    | tuple ds => rw [nice_tup] at h ⊢; exact ⟨by omega, fun d hd => ih (h.2 d hd) hk⟩
    | dict ds => exact h.nodict.elim
theorem Nice.up : ∀ {n : Nat} {d : PyData}, Nice k n d → Nice k (n + 1) d := fun {n} => by
  induction n with
  | zero =>
    intro d h
    cases d with
    | none => exact nice_non
    | bool b => exact nice_bl
    | int i => rw [nice_int] at h ⊢; exact h
    | str x => rw [nice_str] at h ⊢; exact h
    | list ds => cases h.flat
    | tuple ds => cases h.flat
    | dict ds => exact h.nodict.elim
  | succ n ih =>
    intro d h
    cases d with
    | none => exact nice_non
    | bool b => exact nice_bl
    | int i => rw [nice_int] at h ⊢; exact h
    | str x => rw [nice_str] at h ⊢; exact h
    | list ds => rw [nice_list] at h ⊢; exact ⟨h.1, fun d hd => ih (h.2 d hd)⟩
    | tuple ds => rw [nice_tup] at h ⊢; exact ⟨h.1, fun d hd => ih (h.2 d hd)⟩
    | dict ds => exact h.nodict.elim
theorem lay_str {x : Str} (h : TxtOk x) : Lay n (.str x) := ⟨by
  rw [PyData.canLay0.eq_4, PyData.strOk]
  rw [Array.all_eq_true']
  intro c hc
  exact decide_eq_true (h.2 c (Array.mem_toList_iff.mpr hc)), by simp [PyData.depth]⟩
theorem Nice.lay : ∀ {n : Nat} {d : PyData}, Nice k n d → Lay n d := fun {n} => by
  induction n with
  | zero =>
    intro d h
    cases d with
    | none => exact .non
    | bool b => exact .bl b
    | int i => exact .int i
    | str x => exact lay_str (nice_str.mp h)
    | list ds => cases h.flat
    | tuple ds => cases h.flat
    | dict ds => exact h.nodict.elim
  | succ n ih =>
    intro d h
    cases d with
    | none => exact .non
    | bool b => exact .bl b
    | int i => exact .int i
    | str x => exact lay_str (nice_str.mp h)
    | list ds => exact .list fun d hd => ih ((nice_list.mp h).2 d hd)
    | tuple ds => exact .tup fun d hd => ih ((nice_tup.mp h).2 d hd)
    | dict ds => exact h.nodict.elim
theorem showable_all : ∀ {ds : List PyData}, (∀ d ∈ ds, d.showable = true) → PyData.showableAll ds = true
  | [], _ => by simp [PyData.showableAll]
  | d :: ds, h => by simp [PyData.showableAll, h d (List.mem_cons_self ..), showable_all fun e he => h e (List.mem_cons_of_mem _ he)]
theorem noDict_all : ∀ {ds : List PyData}, (∀ d ∈ ds, d.hasDict = false) → PyData.hasDictAll ds = false
  | [], _ => by simp [PyData.hasDictAll]
  | d :: ds, h => by simp [PyData.hasDictAll, h d (List.mem_cons_self ..), noDict_all fun e he => h e (List.mem_cons_of_mem _ he)]
theorem shown_all : ∀ ds : List PyData, PyData.shownAll ds = ds.map PyData.shown
  | [] => by simp [PyData.shownAll]
  | d :: ds => by simp [PyData.shownAll, shown_all ds]
theorem sum_len {B : Nat} : ∀ {ds : List PyData}, (∀ d ∈ ds, d.shown.length ≤ B) → (((ds.map PyData.shown).map (·.length)).sum) ≤ B * ds.length
  | [], _ => by simp
  | d :: ds, h => by
    have h1 := h d (List.mem_cons_self ..)
    have h2 := sum_len (B := B) (ds := ds) fun e he => h e (List.mem_cons_of_mem _ he)
    simp only [List.map_cons, List.sum_cons, List.length_cons]
    rw [Nat.mul_succ]
    omega
theorem int_showable {i : Int} (hk : k ≤ 4) (h : -(k : Int) ≤ i ∧ i ≤ ten30 + k) : (PyData.int i).showable = true := by
  rw [PyData.showable.eq_4]
  refine decide_eq_true ?_
  by_cases h0 : i.natAbs = 0
  · rw [h0]; decide
  · rw [Nat.log2_lt h0]
    have : i.natAbs < 10 ^ 31 := by
      have e : ten30 = 1000000000000000000000000000000 := rfl
      omega
    exact Nat.lt_trans this (Nat.lt_of_lt_of_le (show 10 ^ 31 < 2 ^ 128 by decide) (Nat.pow_le_pow_right (by decide) (by decide)))
theorem int_len {i : Int} (hk : k ≤ 4) (h : -(k : Int) ≤ i ∧ i ≤ ten30 + k) : (Str.ofString (toString i)).length ≤ 40 := by
  by_cases h0 : 0 ≤ i
  · refine toString_length_le h0 (by decide) ?_
    have e : ten30 = 1000000000000000000000000000000 := rfl
    have : (10 : Int) ^ 40 = 10000000000000000000000000000000000000000 := by decide
    omega
  · have := len_str_of_int i
    omega
def boundS (n : Nat) : Nat := 700 * 12 ^ n
theorem boundS_succ (n : Nat) : boundS (n + 1) = boundS n * 12 := by unfold boundS; rw [Nat.pow_succ, Nat.mul_assoc]
theorem boundS_ge (n : Nat) : 700 ≤ boundS n := by
  unfold boundS
  have : 1 ≤ 12 ^ n := Nat.one_le_pow _ _ (by decide)
  omega
structure Shows (n : Nat) (d : PyData) : Prop where
  s : d.showable = true
  h : d.hasDict = false
  l : d.shown.length ≤ boundS n
theorem shows_flat (hk : k ≤ 4) (h : Nice k n d) (hf : flatD d = true) : Shows n d := by
  have hb := boundS_ge n
  cases d with
  | none => exact ⟨PyData.showable.eq_1, by simp [PyData.hasDict], by rw [PyProof.Rows.shownLen_none]; omega⟩
  | bool b => exact ⟨PyData.showable.eq_2 b, by simp [PyData.hasDict], by
      rw [PyData.shown.eq_2]
      have : ∀ b : Bool, (if b = true then Str.ofString "True" else Str.ofString "False").length ≤ 5 := by decide +kernel
      exact Nat.le_trans (this b) (by omega)⟩
  | int i => exact ⟨int_showable hk (nice_int.mp h), by simp [PyData.hasDict], by
      rw [PyData.shown.eq_3]
      exact Nat.le_trans (int_len hk (nice_int.mp h)) (by omega)⟩
  | str x =>
    obtain ⟨h1, h2⟩ := nice_str.mp h
    exact ⟨PyData.showable.eq_3 x, by simp [PyData.hasDict], by
      rw [PyData.shown.eq_4]
      refine Nat.le_trans (PySem.StrLaws.reprText_len x fun c hc => Nat.lt_trans (h2 c hc) (by decide)) ?_
      omega⟩
  | list ds => cases hf
  | tuple ds => cases hf
  | dict ds => cases hf
theorem Nice.shows (hk : k ≤ 4) : ∀ {n : Nat} {d : PyData}, Nice k n d → Shows n d := fun {n} => by
  induction n with
  | zero => intro d h; exact shows_flat hk h h.flat
  | succ n ih =>
    intro d h
    have hb := boundS_ge n
    have hs := boundS_succ n
    cases hf : flatD d with
    | true => exact shows_flat hk h hf
    | false =>
      have len : ∀ {ds : List PyData}, ds.length ≤ 5 + k → (∀ d ∈ ds, Nice k n d) → ((ds.map PyData.shown).map fun x => x.length).sum + 2 * (ds.map PyData.shown).length + 3 ≤ boundS (n + 1) := fun {ds} h1 h2 => by
        have := sum_len (B := boundS n) (ds := ds) fun d hd => (ih (h2 d hd)).l
        rw [List.length_map, hs]
        have h3 : boundS n * ds.length ≤ boundS n * 9 := Nat.mul_le_mul_left _ (by omega)
        omega
      cases d with
      | list ds =>
        obtain ⟨h1, h2⟩ := nice_list.mp h
        exact ⟨by rw [PyData.showable.eq_5]; exact showable_all fun d hd => (ih (h2 d hd)).s, by rw [PyData.hasDict]; exact noDict_all fun d hd => (ih (h2 d hd)).h, by
          rw [PyData.shown.eq_5, shown_all]
          exact Nat.le_trans (listText_len_le _) (len h1 h2)⟩
      | tuple ds =>
        obtain ⟨h1, h2⟩ := nice_tup.mp h
        exact ⟨by rw [PyData.showable.eq_6]; exact showable_all fun d hd => (ih (h2 d hd)).s, by rw [PyData.hasDict]; exact noDict_all fun d hd => (ih (h2 d hd)).h, by
          rw [PyData.shown.eq_6, shown_all]
          exact Nat.le_trans (tupleText_len_le _) (len h1 h2)⟩
      | dict ds => exact h.nodict.elim
      | _ => cases hf
/-- str(d) -/
theorem v_strN {K : PySem.W.Frag} (hk : k ≤ 4) (hn : n ≤ 4) (h : Nice k n d) : VN (rStrA K) [d] (.str (strD d)) := by
  have hs := h.shows hk
  refine v_strA hs.s hs.h (Nat.le_trans h.lay.2 (by omega)) (Nat.le_trans hs.l ?_)
  have : boundS n ≤ boundS 4 := Nat.mul_le_mul_left _ (Nat.pow_le_pow_right (by decide) hn)
  exact Nat.le_trans this (by decide)
theorem txt_int {i : Int} (hk : k ≤ 4) (h : -(k : Int) ≤ i ∧ i ≤ ten30 + k) : TxtOk (Str.ofString (toString i)) := ⟨Nat.le_trans (int_len hk h) (by decide), fun c hc => by
  rw [Str.ofString_eq_toList] at hc
  simp only [List.mem_map] at hc
  obtain ⟨ch, _, rfl⟩ := hc
  exact ch.valid.elim (fun h => by have : ch.toNat < 55296 := h; omega) fun h => by have : ch.toNat < 1114112 := h.2; omega⟩
end
end Tw

/-! Tw: comprehensions of two fors -/
namespace Tw
open PySem PySem.Spec PyProof.Rows L2
/-- nothing in the slots may change -/
def NoOwn (ρ : Env') : Prop := ∀ (j : Nat) (p : Addr) (w : Ow), ρ[j]? ≠ some (.own p w)
theorem Ok.stay {F H F' H' : Hp} {ρ : Env'} {σ : L2.St} (h : Ok F H ρ σ) (hn : NoOwn ρ) (e : Same F F') (s : Same F' H') : Ok F' H' ρ σ := by
  refine ⟨s, h.len, fun j en hj => ?_, fun i j p q w w' hi => (hn i p w hi).elim⟩
  obtain ⟨o, h1, h2⟩ := h.at_ j en hj
  refine ⟨o, h1, ?_⟩
  cases en with
  | no => trivial
  | dat d => obtain ⟨v, x, r⟩ := h2; exact ⟨v, x, r.mono e⟩
  | val v => exact h2
  | fx p u => exact ⟨h2.1, e _ _ h2.2⟩
  | st p w => exact ⟨h2.1, let ⟨u, hu, hw⟩ := h2.2; ⟨u, e _ _ hu, w.mono e hw⟩⟩
  | own p w => exact (hn j p w hj).elim
/-- the new list at D holds ds -/
def Acc (D : Addr) (F2 H2 : Hp) (ds : List PyData) (F H : Hp) : Prop := Grow F2 H2 F (fun a => if a = D then none else H a) ∧ Same F H ∧ F D = none ∧ ∃ vs, H D = some (.lst vs) ∧ RpA F vs ds
section
variable {D : Addr} {F2 H2 F H F' H' : Hp} {ds : List PyData} {v : V} {d : PyData}
theorem Acc.new (e : Same F2 H2) (hD : H2 D = none) : Acc D F2 H2 [] F2 (upd H2 D (.lst [])) := by
  refine ⟨?_, e.trans (Same.upd_new hD), same_none e hD, [], upd_same, .nil⟩
  have h : (fun a => if a = D then none else upd H2 D (.lst []) a) = H2 := by
    funext a
    by_cases ha : a = D
    · subst ha; rw [if_pos rfl, hD]
    · rw [if_neg ha, upd_ne ha]
  rw [h]; exact GrowX.refl e
theorem Acc.grow (a : Acc D F2 H2 ds F H) (hD : H2 D = none) (g : Grow F H F' H') : Acc D F2 H2 ds F' H' := by
  obtain ⟨g3, s3, hD3, vs, hvs, rvs⟩ := a
  exact ⟨grow_minus g3 g hD3 hvs hD (fun _ z => by cases z), g.s, g.n D hD3 (NN.lst hvs), vs, g.same D _ hvs, rvs.mono g.f⟩
theorem Acc.add {vs : List V} (a : Acc D F2 H2 ds F H) (hvs : H D = some (.lst vs)) (r : Rp F v d) : Acc D F2 H2 (ds ++ [d]) F (upd H D (.lst (vs ++ [v]))) := by
  obtain ⟨g3, s3, hD3, vs', hvs', rvs⟩ := a
  rw [hvs] at hvs'; cases hvs'
  refine ⟨?_, fun c u hc => ?_, hD3, vs ++ [v], upd_same, rvs.append (.cons r .nil)⟩
  · have e : (fun a => if a = D then none else upd H D (.lst (vs ++ [v])) a) = fun a => if a = D then none else H a := by
      funext a
      by_cases ha : a = D
      · rw [if_pos ha, if_pos ha]
      · rw [if_neg ha, if_neg ha, upd_ne ha]
    rw [e]; exact g3
  · have hcD : c ≠ D := fun z => by subst z; rw [hD3] at hc; cases hc
    rw [upd_ne hcD]
    exact s3 c u hc
theorem Acc.tell (a : Acc D F2 H2 ds F H) (hD : H2 D = none) (g2 : Same F2 H2) : ∃ F', Grow F2 H2 F' H ∧ Rp F' (.ref D) (.list ds) := by
  obtain ⟨g3, s3, hD3, vs, hvs, rvs⟩ := a
  have hF : Same F (upd F D (.lst vs)) := Same.upd_new hD3
  refine ⟨upd F D (.lst vs), ⟨g3.f.trans hF, fun c u hc => ?_, fun c u _ hc => ?_, fun c hc => ?_, fun c h1 h2 => ?_, fun c h2 => ?_⟩, .lst upd_same (rvs.mono hF)⟩
  · by_cases h : c = D
    · subst h; rw [upd_same] at hc; rw [hvs]; exact hc
    · rw [upd_ne h] at hc; exact s3 c u hc
  · have := g3.same c u hc
    by_cases h : c = D
    · subst h; rw [hD] at hc; cases hc
    · simpa [h] using this
  · by_cases h : c = D
    · subst h; rw [hvs]; simp
    · have := g3.k c hc
      simpa [h] using this
  · by_cases h : c = D
    · subst h; exact (h2.ne hD).elim
    · rw [upd_ne h]; exact g3.n c h1 h2
  · by_cases h : c = D
    · subst h; exact NN.lst hvs
    · obtain ⟨o, q1, q2⟩ := g3.m c h2
      exact ⟨o, by simpa [h] using q1, q2⟩
end
section
variable {X : Cx} {ρ : Env'} {α β : Type} {xs : List α} {ys : α → List β} {enc : α → PyData} {enc1 : β → PyData} {elt tg iter tg1 iter1 : Expr} {scope : Scope} {pos : Pos} {own : List (Str × Nat)}
def allF (xs : List α) (ys : α → List β) (f : α → β → PyData) : List PyData := xs.flatMap fun x => (ys x).map (f x)
theorem lc2_read (g : α → Env') (g2 : α → β → Env') (f : α → β → PyData) (is is1 vsl vs1 : List Nat) (his : ∀ i ∈ is, i ∈ vsl) (his1 : ∀ i ∈ is1, i ∈ vs1) (h0 : NoOwn ρ) (h1 : ∀ x ∈ xs, NoOwn (g x)) (hl : (allF xs ys f).length ≤ sizeLine) :
    ∀ σ H Q, tD ρ (.list (allF xs ys f)) σ H Q → tLc2 (tDI ρ (xs.map enc)) (fun v σ H Q => ∃ x, x ∈ xs ∧ tDG (wipeE ρ vsl) (enc x) (g x) is v σ H Q) tYes (fun σ H R => ∃ x, x ∈ xs ∧ tDI (g x) ((ys x).map enc1) σ H R) (fun v σ H Q => ∃ z : α × β, (z.1 ∈ xs ∧ z.2 ∈ ys z.1) ∧ tDG (wipeE (g z.1) vs1) (enc1 z.2) (g2 z.1 z.2) is1 v σ H Q) tYes (fun σ H Q => ∃ z : α × β, (z.1 ∈ xs ∧ z.2 ∈ ys z.1) ∧ tD (g2 z.1 z.2) (f z.1 z.2) σ H Q) vsl vs1 σ H Q := by
  refine fun σ H Q ⟨F, ok1, k⟩ => ⟨F, ok1, fun J F2 H2 g2' hJ => ?_⟩
  intro D hD
  have okρ : ∀ {F3 H3 : Hp}, Same F2 F3 → Same F3 H3 → Ok F3 H3 ρ σ := fun {F3 H3} e s => (ok1.grow g2').stay h0 e s
  refine ⟨fun i m H3 => m = xs.length - i ∧ i ≤ xs.length ∧ ∃ F3, Acc D F2 H2 (allF (xs.take i) ys f) F3 H3, ⟨xs.length, by simp, Nat.zero_le _, F2, by simpa [allF] using Acc.new g2'.s hD⟩, ?_⟩
  rintro i m H3 ⟨rfl, hle, F3, a3⟩
  by_cases hlt : i < xs.length
  · right
    have hd : (xs.map enc)[i]? = some (enc xs[i]) := by rw [List.getElem?_map, List.getElem?_eq_getElem hlt]; rfl
    have hx : xs[i] ∈ xs := List.getElem_mem hlt
    obtain ⟨go, yl⟩ := (hJ i F3 H3 a3.1.f a3.2.1).1 _ hd
    have tk : xs.take (i + 1) = xs.take i ++ [xs[i]] := by rw [List.take_append_getElem hlt]
    have hall : allF (xs.take (i + 1)) ys f = allF (xs.take i) ys f ++ (ys xs[i]).map (f xs[i]) := by
      rw [tk]; unfold allF; rw [List.flatMap_append]; simp
    refine ⟨go, fun H' => ∃ F4, Acc D F2 H2 (allF (xs.take (i + 1)) ys f) F4 H', fun H' ⟨F4, a4⟩ => ⟨_, by omega, rfl, hlt, F4, a4⟩, fun x H4 hy => ?_⟩
    obtain ⟨F4, g4, rx⟩ := yl x H4 hy
    have a4 := a3.grow hD g4
    have ok4 : Ok F4 H4 ρ σ := okρ a4.1.f a4.2.1
    refine ⟨xs[i], hx, F4, ok4.wipe _, rx, fun σ2 okx hw => ⟨?_, ?_⟩⟩
    · rw [hw _ his]
      exact wipe_twice σ _
    dsimp only [tYes]
    rw [if_pos rfl]
    refine ⟨xs[i], hx, F4, okx, fun J1 F5 H5 g5 hJ1 => ?_⟩
    have a5 := a4.grow hD g5
    refine ⟨fun j k H6 => k = (ys xs[i]).length - j ∧ j ≤ (ys xs[i]).length ∧ ∃ F6, Same F5 F6 ∧ Acc D F2 H2 (allF (xs.take i) ys f ++ ((ys xs[i]).take j).map (f xs[i])) F6 H6, ⟨_, rfl, Nat.zero_le _, F5, Same.refl _, by simpa using a5⟩, ?_⟩
    rintro j k H6 ⟨rfl, hje, F6, s56, a6⟩
    by_cases hjl : j < (ys xs[i]).length
    · right
      have hd1 : ((ys xs[i]).map enc1)[j]? = some (enc1 (ys xs[i])[j]) := by rw [List.getElem?_map, List.getElem?_eq_getElem hjl]; rfl
      have hy1 : (ys xs[i])[j] ∈ ys xs[i] := List.getElem_mem hjl
      obtain ⟨go1, yl1⟩ := (hJ1 j F6 H6 s56 a6.2.1).1 _ hd1
      refine ⟨go1, fun H' => ∃ F7, Same F5 F7 ∧ Acc D F2 H2 (allF (xs.take i) ys f ++ ((ys xs[i]).take (j + 1)).map (f xs[i])) F7 H', fun H' ⟨F7, s7, a7⟩ => ⟨_, by omega, rfl, hjl, F7, s7, a7⟩, fun x1 H7 hy7 => ?_⟩
      obtain ⟨F7, g7, rx7⟩ := yl1 x1 H7 hy7
      have a7 := a6.grow hD g7
      have ok7 : Ok F7 H7 (g xs[i]) σ2 := okx.stay (h1 _ hx) (g5.f.trans (s56.trans g7.f)) a7.2.1
      refine ⟨(xs[i], (ys xs[i])[j]), ⟨hx, hy1⟩, F7, ok7.wipe _, rx7, fun σ3 oky hw3 => ⟨?_, ?_⟩⟩
      · rw [hw3 _ his1]
        exact wipe_twice σ2 _
      dsimp only [tYes]
      rw [if_pos rfl]
      refine ⟨(xs[i], (ys xs[i])[j]), ⟨hx, hy1⟩, F7, oky, fun v F8 H8 g8 r8 => ?_⟩
      have a8 := a7.grow hD g8
      obtain ⟨_, _, _, vs, hvs, rvs⟩ := id a8
      have tk1 : (ys xs[i]).take (j + 1) = (ys xs[i]).take j ++ [(ys xs[i])[j]] := by rw [List.take_append_getElem hjl]
      refine ⟨vs, hvs, ?_, F8, s56.trans (g7.f.trans g8.f), ?_⟩
      · rw [rvs.len]
        have e1 : xs = xs.take i ++ (xs[i] :: xs.drop (i + 1)) := by
          rw [← List.drop_eq_getElem_cons hlt, List.take_append_drop]
        have e2 : (allF xs ys f).length = (allF (xs.take i) ys f).length + ((ys xs[i]).length + (allF (xs.drop (i + 1)) ys f).length) := by
          have e3 : allF xs ys f = allF (xs.take i) ys f ++ ((ys xs[i]).map (f xs[i]) ++ allF (xs.drop (i + 1)) ys f) := by
            have e4 : allF (xs.take i ++ (xs[i] :: xs.drop (i + 1))) ys f = allF (xs.take i) ys f ++ ((ys xs[i]).map (f xs[i]) ++ allF (xs.drop (i + 1)) ys f) := by
              unfold allF; rw [List.flatMap_append, List.flatMap_cons]
            rw [← e1] at e4; exact e4
          rw [e3, List.length_append, List.length_append, List.length_map]
        rw [List.length_append, List.length_map, List.length_take]
        omega
      · rw [tk1, List.map_append, ← List.append_assoc]
        exact a8.add hvs r8
    · left
      have hj' : j = (ys xs[i]).length := by omega
      subst hj'
      obtain ⟨-, h2⟩ := hJ1 (ys xs[i]).length F6 H6 s56 a6.2.1
      refine ⟨h2 (by simp), F6, ?_⟩
      rw [hall]
      rw [List.take_length] at a6
      exact a6
  · left
    have hi' : i = xs.length := by omega
    subst hi'
    obtain ⟨-, h2⟩ := hJ xs.length F3 H3 a3.1.f a3.2.1
    refine ⟨h2 (by simp), ?_⟩
    rw [List.take_length] at a3
    obtain ⟨F', gF, rF⟩ := a3.tell hD g2'.s
    exact k (.ref D) F' H3 (g2'.trans gF) rF
/-- y = [e for .. in .. for .. in ..], on one line -/
theorem ps_lc2D (i : Nat) {y : Str} {py spos : Pos} (g : α → Env') (g2 : α → β → Env') (f : α → β → PyData) (is is1 vs1 : List Nat) (hc : X.calm = true) (hN : X.N.Nodup) (ok : BlkOk X.N X.env.scope scope own) (hv : ∀ i ∈ vs1, i ∈ own.map (·.2)) (hi : DI X ρ tg iter (xs.map enc))
    (hg : ∀ x ∈ xs, Blk X scope fun Y => DG Y (wipeE ρ (own.map (·.2))) tg (enc x) (g x) is)
    (hi1 : ∀ x ∈ xs, Blk X scope fun Y => DI Y (g x) tg1 iter1 ((ys x).map enc1))
    (hg1 : ∀ x ∈ xs, ∀ y ∈ ys x, Blk X scope fun Y => DG Y (wipeE (g x) vs1) tg1 (enc1 y) (g2 x y) is1)
    (he : ∀ x ∈ xs, ∀ y ∈ ys x, Blk X scope fun Y => DE Y (g2 x y) elt (f x y))
    (his : ∀ i ∈ is, i ∈ own.map (·.2)) (his1 : ∀ i ∈ is1, i ∈ vs1) (h0 : NoOwn ρ) (h1 : ∀ x ∈ xs, NoOwn (g x)) (hl : (allF xs ys f).length ≤ sizeLine) (hy : X.N[i]? = some y) (hk : X.env.scope.kind = .function) (hyl : X.env.scope.names.lookup y = some .local) (hln : (py.line == pos.line) = true)
    (ha : (scope.names.any fun (n, k) => n == y && (k == .local || k == .cell)) = false) (hs : ∀ x, foldedSetIterable iter X.env x = pure x := by intro _; rfl) (hs1 : ∀ env x, foldedSetIterable iter1 env x = pure x := by intro _ _; rfl) :
    PS X (.Assign [.Name y py] (.ListComp elt [⟨tg, iter, [], 0⟩, ⟨tg1, iter1, [], 0⟩] scope pos) spos) (tAsg (tD ρ (.list (allF xs ys f))) (gName i)) :=
  PS.imp (ps_setLc2 hc hN hy hyl (sw_true hk hyl hln ha) hi ok hv (te := fun σ H Q => ∃ z : α × β, (z.1 ∈ xs ∧ z.2 ∈ ys z.1) ∧ tD (g2 z.1 z.2) (f z.1 z.2) σ H Q) (fun s H C cl fp => PG.any fun x hx => (hg x hx s H C cl fp).1) (fun s H C cl fp => pts_nil) (fun s H C cl fp => PI.any fun x hx => hi1 x hx s H C cl fp) (fun s H C cl fp => PG.any fun z hz => (hg1 z.1 hz.1 z.2 hz.2 s H C cl fp).1) (fun s H C cl fp => pts_nil) (fun s H C cl fp => PE.any fun z hz => he z.1 hz.1 z.2 hz.2 s H C cl fp) hs hs1) fun D σ H h => show tLc2 _ _ _ _ _ _ _ _ _ σ H _ from lc2_read g g2 f is is1 (own.map (·.2)) vs1 his his1 h0 h1 hl σ H _ h
end
end Tw

/-! Tw: x = [.. for .. for ..]; x *= e -/
namespace Tw
open PySem PySem.Spec PyProof.Rows L2
theorem dss_setLc2 {X : Cx} {ex : List Addr} {F0 H0 : Hp} {ρ : Env'} {sts : List Stmt} {A : Aims} {α β : Type} {xs : List α} {ys : α → List β} {enc : α → PyData} {enc1 : β → PyData} {elt tg iter tg1 iter1 : Expr} {scope : Scope} {pos : Pos} {own : List (Str × Nat)} {d : PyData}
    (i : Nat) {y : Str} {py spos : Pos} (g : α → Env') (g2 : α → β → Env') (f : α → β → PyData) (is is1 vs1 : List Nat) (hc : X.calm = true) (hN : X.N.Nodup) (ok : BlkOk X.N X.env.scope scope own) (hv : ∀ i ∈ vs1, i ∈ own.map (·.2)) (hi : DI X ρ tg iter (xs.map enc))
    (hg : ∀ x ∈ xs, Blk X scope fun Y => DG Y (wipeE ρ (own.map (·.2))) tg (enc x) (g x) is)
    (hi1 : ∀ x ∈ xs, Blk X scope fun Y => DI Y (g x) tg1 iter1 ((ys x).map enc1))
    (hg1 : ∀ x ∈ xs, ∀ y ∈ ys x, Blk X scope fun Y => DG Y (wipeE (g x) vs1) tg1 (enc1 y) (g2 x y) is1)
    (he : ∀ x ∈ xs, ∀ y ∈ ys x, Blk X scope fun Y => DE Y (g2 x y) elt (f x y))
    (his : ∀ i ∈ is, i ∈ own.map (·.2)) (his1 : ∀ i ∈ is1, i ∈ vs1) (h0 : NoOwn ρ) (h1 : ∀ x ∈ xs, NoOwn (g x)) (hl : (allF xs ys f).length ≤ sizeLine) (hd : PyData.list (allF xs ys f) = d) (k : DSs X ex F0 H0 (ρ.set i (.dat d)) sts A)
    (hy : X.N[i]? = some y := by rfl) (hk : X.env.scope.kind = .function := by rfl) (hyl : X.env.scope.names.lookup y = some .local := by rfl) (hln : (py.line == pos.line) = true := by rfl)
    (ha : (scope.names.any fun (n, k) => n == y && (k == .local || k == .cell)) = false := by rfl) (hs : ∀ x, foldedSetIterable iter X.env x = pure x := by intro _; rfl) (hs1 : ∀ env x, foldedSetIterable iter1 env x = pure x := by intro _ _; rfl) :
    DSs X ex F0 H0 ρ (.Assign [.Name y py] (.ListComp elt [⟨tg, iter, [], 0⟩, ⟨tg1, iter1, [], 0⟩] scope pos) spos :: sts) A := by
  subst hd
  refine dss_seq (N1 := fun ρ' => ρ' = ρ.set i (.dat (.list (allF xs ys f)))) ?_ fun _ h => h ▸ k
  exact PS.imp (ps_lc2D i g g2 f is is1 vs1 hc hN ok hv hi hg hi1 hg1 he his his1 h0 h1 hl hy hk hyl hln ha hs hs1) fun D σ H ⟨F, a, n, r, b, c⟩ => ⟨F, a.ok, fun v F2 H2 g rv => n _ _ F2 H2 rfl g.f ((a.grow g).setD rv)⟩
section
variable {X : Cx} {ex : List Addr} {F0 H0 : Hp} {ρ : Env'} {sts : List Stmt} {A : Aims} {e : Expr} {i j : Int} {pos pos' : Pos} {x : Str}
theorem ip_mul : PIp X .Mult (rI CMul fun i j => .int (i * j)) := fun pins s σ H x y v u Q I r1 r2 h => iop_mul pins s σ H x y v u Q I r1 r2 h
/-- x *= e, whole numbers -/
theorem dss_mulI (k : Nat) (hN : X.N.Nodup) (he : DE X ρ e (.int j)) (hρ : ρ[k]? = some (.dat (.int i))) (hm : CMul i j) (h : DSs X ex F0 H0 (ρ.set k (.dat (.int (i * j)))) sts A) (hi : X.N[k]? = some x := by rfl) (hx : Loc X.env.scope x := by first | exact Or.inl rfl | exact Or.inr rfl)
    (hf : X.fn x = true ∨ X.env.scope.names.lookup x = some .local := by first | exact .inl rfl | exact .inr rfl) : DSs X ex F0 H0 ρ (.AugAssign (.Name x pos') .Mult e pos :: sts) A := by
  refine dss_seq (N1 := fun ρ' => ρ' = ρ.set k (.dat (.int (i * j)))) ?_ fun _ h' => h' ▸ h
  refine PS.imp (ps_aug hN hi hx he ip_mul hf) fun D σ H ⟨F, a, n, r, b, c⟩ => ?_
  obtain ⟨v, h1, h2⟩ := a.ok.dat hρ
  obtain rfl := h2.int_inv
  refine ⟨_, h1, F, a.ok, fun v F2 H2 g rv => ?_⟩
  obtain rfl := rv.int_inv
  exact ⟨i, j, rfl, rfl, hm, n _ _ F2 H2 rfl g.f ((a.grow g).setD (.int _))⟩
end
end Tw

/-! Tw: dicts whose keys are pairs of tuples of whole numbers -/
namespace Tw
open PySem PySem.Spec PyProof.Rows L2
abbrev PK := List Int × List Int
def nkW (ws : List Int) : NestedKey := .tup (ws.map .num)
def nk (k : PK) : NestedKey := .tup [nkW k.1, nkW k.2]
theorem nkW_inj {a b : List Int} (h : nkW a = nkW b) : a = b := by
  unfold nkW at h
  injection h with h
  induction a generalizing b with
  | nil => cases b with
    | nil => rfl
    | cons y b => simp at h
  | cons x a ih => cases b with
    | nil => simp at h
    | cons y b =>
      simp only [List.map_cons, List.cons.injEq, NestedKey.num.injEq] at h
      rw [h.1, ih h.2]
theorem nk_inj {a b : PK} (h : nk a = nk b) : a = b := by
  unfold nk at h
  injection h with h
  simp only [List.cons.injEq, and_true] at h
  exact Prod.ext (nkW_inj h.1) (nkW_inj h.2)
theorem depth_nums (ws : List Int) : NestedKey.depthAll (ws.map .num) = 0 := by
  induction ws with
  | nil => rw [List.map_nil, NestedKey.depthAll]
  | cons x ws ih => rw [List.map_cons, NestedKey.depthAll, ih, NestedKey.depth]; rfl
theorem nk_depth (k : PK) : (nk k).depth ≤ 8 := by
  unfold nk nkW
  simp [NestedKey.depth, NestedKey.depthAll, depth_nums]
def keyD (k : PK) : PyData := .tuple [wiD k.1, wiD k.2]
abbrev NE := PK × Addr × Addr
def ndEs (xs : List NE) : List (NestedKey × Addr × Value) := xs.map fun x => (nk x.1, x.2.1, .ref x.2.2)
def RawN (P : Program) (w : World) (h : Heap) (p : Addr) (xs : List NE) : Prop := (p == sysModules) = false ∧ xs.length ≤ sizeLine ∧ ∃ o es ep, h.get? p = some o ∧ o.ExactDict ∧ o.data = .dict es ep ∧ es.toList = (ndEs xs).map (entryOfKey (nestedKind P w)) ∧ (xs.map (·.1)).Nodup
def ndHO (P : Program) (w : World) (p : Addr) (xs : List NE) : HO := .ext fun h => RawN P w h p xs
section
variable {P : Program} {w : World} {H F : Hp} {h : Heap} {p b : Addr} {k : PK} {xs : List NE}
theorem nested_ints {its : List Value} (ws : List Int) (r : Vals (ws.map V.int) its) : NestedAll h (ws.map .num) its := by
  induction ws generalizing its with
  | nil => cases r; exact .nil
  | cons x ws ih =>
    cases r with
    | cons r1 r2 =>
      obtain ⟨t, rfl⟩ := r1
      exact .cons (.int x t) (ih r2)
theorem nested_word {ws : List Int} {v : V} {u : Value} (hok : HOk P w H h) (e : Same F H) (r : Rp F v (wiD ws)) (ru : RelV v u) : NestedIs h (nkW ws) u := by
  obtain ⟨a, xs, rfl, h1, h2⟩ := r.tup_inv
  have := h2.ints
  subst this
  obtain rfl : u = Value.ref a := ru
  obtain ⟨_, its, rv, o, ho, hc, n, hd⟩ := hok a _ (e _ _ h1)
  exact .tup ho hc hd (nested_ints ws rv)
theorem is_key (hok : HOk P w H h) (e : Same F H) (r : Rp F (.ref b) (keyD k)) : (nestedKind P w).is h (nk k) b := by
  refine ⟨?_, nk_depth k⟩
  obtain ⟨a, ys, ha, h1, h2⟩ := r.tup_inv
  cases ha
  obtain ⟨_, its, rv, o, ho, hc, n, hd⟩ := hok b _ (e _ _ h1)
  cases h2 with
  | cons q1 h2 => cases h2 with
    | cons q2 h2 =>
      cases h2
      cases rv with
      | cons v1 rv => cases rv with
        | cons v2 rv =>
          cases rv
          exact .tup ho hc hd (.cons (nested_word hok e q1 v1) (.cons (nested_word hok e q2 v2) .nil))
theorem nd_ok {H' : Hp} (r : RawN P w h p xs) : ObjOk P w H' h p (ndHO P w p xs) := by
  obtain ⟨hs, hl, o, es, ep, ho, hr⟩ := r
  refine ⟨⟨hs, hl, o, es, ep, ho, hr⟩, ⟨o, ho⟩, fun h1 h2 z k => ?_⟩
  obtain ⟨hs, hl, o, es, ep, ho, hr⟩ := z
  exact ⟨hs, hl, o, es, ep, k _ ho, hr⟩
theorem nd_at (hok : HOk P w H h) (e : H p = some (ndHO P w p xs)) : RawN P w h p xs := by
  have x : ObjOk P w H h p (.ext fun h => RawN P w h p xs) := hok p _ e
  exact x.1
/-- the keys stand -/
def KeysOk (F : Hp) (xs : List NE) : Prop := ∀ x ∈ xs, Rp F (.ref x.2.1) (keyD x.1)
theorem dict_of (r : RawN P w h p xs) (hok : HOk P w H h) (e : Same F H) (hk : KeysOk F xs) : h.DictOfH (nestedKind P w) p (ndEs xs) := by
  obtain ⟨hs, hl, o, es, ep, ho, hx, hd, he, hn⟩ := r
  refine ⟨o, es, ep, ho, hx, hd, he, fun y hy => ?_, ?_⟩
  · obtain ⟨x, hx, rfl⟩ := List.mem_map.mp hy
    exact is_key hok e (hk x hx)
  · have e1 : (ndEs xs).map (·.1) = (xs.map (·.1)).map nk := by unfold ndEs; rw [List.map_map, List.map_map]; rfl
    rw [e1]
    exact List.Pairwise.map nk (fun a b hab z => hab (nk_inj z)) hn
theorem raw_of (hs : (p == sysModules) = false) (hl : xs.length ≤ sizeLine) (r : h.DictOfH (nestedKind P w) p (ndEs xs)) : RawN P w h p xs := by
  obtain ⟨o, es, ep, ho, hx, hd, he, _, hn⟩ := r
  refine ⟨hs, hl, o, es, ep, ho, hx, hd, he, ?_⟩
  have e1 : (ndEs xs).map (·.1) = (xs.map (·.1)).map nk := by unfold ndEs; rw [List.map_map, List.map_map]; rfl
  rw [e1] at hn
  exact (List.pairwise_map.mp hn).imp fun hab z => hab (congrArg nk z)
theorem at_key (xs : List NE) (k : PK) : (atKey (ndEs xs) (nk k)).isSome = decide (k ∈ xs.map (·.1)) := by
  induction xs with
  | nil => rfl
  | cons x xs ih =>
    by_cases hx : x.1 = k
    · simp [ndEs, atKey, hx]
    · have hx' : nk x.1 ≠ nk k := fun z => hx (nk_inj z)
      have e : atKey (ndEs (x :: xs)) (nk k) = atKey (ndEs xs) (nk k) := by simp [ndEs, atKey, hx']
      rw [e, ih]
      have hx2 : ¬ k = x.1 := fun z => hx z.symm
      simp [hx2]
theorem stored_new {v : Addr} (hk : k ∉ xs.map (·.1)) : storedH (ndEs xs) (nk k) b (.ref v) = ndEs (xs ++ [(k, b, v)]) := by
  have h1 : (atKey (ndEs xs) (nk k)).isSome = false := by rw [at_key, decide_eq_false hk]
  have h2 : atKey (ndEs xs) (nk k) = none := Option.isSome_eq_false_iff.mp h1 |> Option.isNone_iff_eq_none.mp
  rw [storedH_new h2]
  simp [ndEs]
end
end Tw

/-! Tw: own dicts with keys of two tuples: rules -/
namespace Tw
open PySem PySem.Spec PyProof.Rows L2
/-- where the keys and the values stand -/
inductive EntsOk (F : Hp) : List NE → List (PK × List Int) → Prop
  | nil : EntsOk F [] []
  | cons {k : PK} {b v : Addr} {u : List Int} {xs : List NE} {kvs : List (PK × List Int)} : Rp F (.ref b) (keyD k) → Rp F (.ref v) (wiD u) → EntsOk F xs kvs → EntsOk F ((k, b, v) :: xs) ((k, u) :: kvs)
section
variable {F F' : Hp} {xs ys : List NE} {kvs lvs : List (PK × List Int)}
theorem EntsOk.mono (e : Same F F') (h : EntsOk F xs kvs) : EntsOk F' xs kvs := by
  induction h with
  | nil => exact .nil
  | cons r1 r2 _ ih => exact .cons (r1.mono e) (r2.mono e) ih
theorem EntsOk.keys (h : EntsOk F xs kvs) : xs.map (·.1) = kvs.map (·.1) := by
  induction h with
  | nil => rfl
  | cons r1 r2 _ ih => simp [ih]
theorem EntsOk.len (h : EntsOk F xs kvs) : xs.length = kvs.length := by
  have := congrArg List.length h.keys
  simpa using this
theorem EntsOk.ok (h : EntsOk F xs kvs) : KeysOk F xs := by
  induction h with
  | nil => intro x hx; cases hx
  | cons r1 r2 _ ih =>
    intro x hx
    rcases List.mem_cons.mp hx with rfl | q
    · exact r1
    · exact ih x q
theorem EntsOk.append (h : EntsOk F xs kvs) (h' : EntsOk F ys lvs) : EntsOk F (xs ++ ys) (kvs ++ lvs) := by
  induction h with
  | nil => exact h'
  | cons r1 r2 _ ih => exact .cons r1 r2 ih
theorem EntsOk.get {i : Nat} {e : PK × List Int} (h : EntsOk F xs kvs) (he : kvs[i]? = some e) : ∃ b v, xs[i]? = some (e.1, b, v) ∧ Rp F (.ref b) (keyD e.1) ∧ Rp F (.ref v) (wiD e.2) := by
  induction h generalizing i with
  | nil => simp at he
  | cons r1 r2 _ ih =>
    cases i with
    | zero => cases he; exact ⟨_, _, rfl, r1, r2⟩
    | succ i => exact ih (by simpa using he)
end
def Ow.nd (P : Program) (w : World) (p : Addr) (kvs : List (PK × List Int)) : Ow := ⟨fun F o => ∃ xs, o = ndHO P w p xs ∧ EntsOk F xs kvs, fun e ⟨xs, h, r⟩ => ⟨xs, h, r.mono e⟩, fun ⟨xs, h, r⟩ ys z => by
  rw [h] at z
  have z' : HO.ext _ = HO.tup ys := z
  cases z'⟩
/-- the same, never changed again -/
def Ow.ndF (P : Program) (w : World) (p : Addr) (kvs : List (PK × List Int)) : Ow := ⟨fun F o => ∃ od xs, o = .frz od (ndHO P w p xs) ∧ EntsOk F xs kvs, fun e ⟨od, xs, h, r⟩ => ⟨od, xs, h, r.mono e⟩, fun ⟨od, xs, h, r⟩ ys z => by
  rw [h] at z
  cases z⟩
def tNP (ρ : Env') (w : Addr → Ow) : TE := fun σ H Q => ∃ F, Ok F H ρ σ ∧ ∀ p ho F2 H2, Grow F H F2 H2 → H p = none → F2 p = none → H2 p = some ho → (w p).φ F2 ho → Q (.ref p) H2
section
variable {X : Cx} {ex : List Addr} {F0 H0 : Hp} {ρ : Env'} {sts : List Stmt} {A : Aims} {e ke : Expr} {pos px : Pos} {x : Str} {kvs : List (PK × List Int)} {p : Addr} {k : PK}
theorem dss_ownP (i : Nat) {x : Str} {w : Addr → Ow} {pos' : Pos} (hN : X.N.Nodup) (he : PE X e (tNP ρ w)) (k : ∀ p, DSs X ex F0 H0 (ρ.set i (.own p (w p))) sts A) (hi : X.N[i]? = some x := by rfl) (hx : Loc X.env.scope x := by first | exact Or.inl rfl | exact Or.inr rfl) (hs : swapsWith e (some (.Name x pos')) pos.line X.env = pure false := by rfl)
    (hf : X.fn x = true ∨ X.env.scope.names.lookup x = some .local := by first | exact .inl rfl | exact .inr rfl) : DSs X ex F0 H0 ρ (.Assign [.Name x pos'] e pos :: sts) A :=
  dss_seq (N1 := fun ρ' => ∃ p, ρ' = ρ.set i (.own p (w p))) (PS.imp (ps_set (i := i) hN hi hx he hs hf) fun D σ H ⟨F, a, n, r, b, c⟩ => ⟨F, a.ok, fun p ho F2 H2 g hp hF hh hw => by
    have a2 := a.grow g
    refine n _ _ F2 H2 ⟨p, rfl⟩ g.f ⟨a2.g, a2.ok.set ⟨rfl, hF, ho, hh, hw⟩ fun q w e j q' w' hj _ => ?_, fun j q w' hj => ?_⟩
    · cases e
      intro z; subst z
      obtain ⟨_, _, ho', h1, _⟩ := a.ok.own hj
      rw [hp] at h1; cases h1
    · by_cases hij : i = j
      · subst hij
        have hl : i < ρ.length := by
          have := (List.getElem?_eq_some_iff.mp hj).1
          simpa using this
        rw [List.getElem?_set_self hl] at hj; cases hj
        refine .inl ?_
        cases q' : H0 p with
        | none => rfl
        | some u => exact (a.g.k p (by rw [q']; simp) hp).elim
      · rw [List.getElem?_set_ne hij] at hj; exact a.new j q w' hj⟩) fun _ ⟨p, h'⟩ => h' ▸ k p
/-! ## {} -/
theorem pe_newN {lp : Pos} : PE X (.Dict [] [] lp) (fun σ H Q => ∀ p, H p = none → Q (.ref p) (upd H p (ndHO X.prog X.w p []))) := ⟨fun pins s σ H Q I h =>
  wpAny_Dict_empty ⟨.ref s.heap.objs.size, _, I.laid (a := s.heap.objs.size) (o := ndHO X.prog X.w s.heap.objs.size []) (t' := s.toks) (fun _ _ q => Heap.get?_push_of_some _ q) (Nat.le_refl _)
    (nd_ok ⟨beq_eq_false_iff_ne.mpr (Ne.symm (Nat.ne_of_lt I.big)), Nat.zero_le _, _, #[], 0, Heap.get?_push_size _ rfl, ⟨rfl, rfl, rfl⟩, rfl, rfl, List.nodup_nil⟩), rfl, h _ (I.hok.fresh (Nat.le_refl _))⟩⟩
theorem dss_newN (i : Nat) {pos' lp : Pos} (hN : X.N.Nodup) (h : ∀ p, DSs X ex F0 H0 (ρ.set i (.own p (.nd X.prog X.w p []))) sts A) (hi : X.N[i]? = some x := by rfl) (hx : Loc X.env.scope x := by first | exact Or.inl rfl | exact Or.inr rfl) (hs : swapsWith (.Dict [] [] lp) (some (.Name x pos')) pos.line X.env = pure false := by rfl)
    (hf : X.fn x = true ∨ X.env.scope.names.lookup x = some .local := by first | exact .inl rfl | exact .inr rfl) : DSs X ex F0 H0 ρ (.Assign [.Name x pos'] (.Dict [] [] lp) pos :: sts) A :=
  dss_ownP i (w := fun p => .nd X.prog X.w p []) hN (PE.imp pe_newN fun σ H Q ⟨F, ok, k⟩ => fun p hp => k p _ F _ (Grow.skip ok.s hp) hp (same_none ok.s hp) upd_same ⟨[], rfl, .nil⟩) h hi hx hs hf
/-! ## key not in d -/
def rNotInN (P : Program) (w : World) : R2 := fun x y H Q => ∃ b p k xs F, x = .ref b ∧ y = .ref p ∧ H p = some (ndHO P w p xs) ∧ Same F H ∧ Rp F (.ref b) (keyD k) ∧ KeysOk F xs ∧ Q (.bl (!decide (k ∈ xs.map (·.1)))) H
theorem op_notinN (hu : X.A.units + 16 < cLine) : OpR X (compareOp .NotIn) (rNotInN X.prog X.w) := by
  intro pins s σ H x y v u Q I rx ry h
  obtain ⟨b, p, k, xs, F, rfl, rfl, hp, e, rk, ks, q⟩ := h
  obtain rfl : v = Value.ref b := rx
  obtain rfl : u = Value.ref p := ry
  have raw := nd_at I.hok hp
  refine wpAny_notIn_heap (knd := nestedKind X.prog X.w) (show X.A.in1.units + 8 < cLine from Nat.lt_of_le_of_lt (show X.A.units + 1 + 8 ≤ X.A.units + 16 by omega) hu) (is_key I.hok e rk) raw.1 (dict_of raw I.hok e ks) ?_
  rw [at_key]
  exact ⟨.bl _, H, I.tok _, rfl, q⟩
theorem dt_notinN (i : Nat) (hi : ρ[i]? = some (.own p (.nd X.prog X.w p kvs))) (hu : X.A.units + 16 < cLine) (hk : DE X ρ ke (keyD k)) (hxN : X.N[i]? = some x := by rfl) (hv : Vis X.env.scope x := by first | exact Or.inl rfl | exact Or.inr (Or.inl rfl) | exact Or.inr (Or.inr rfl)) (hd : (x == ("__debug__" : Str)) = false := by decide) (hcd : (x == ("__classdict__" : Str)) = false := by decide)
    (hm : behindInMarks .NotIn (.Name x px) = false := by first | exact nobehind _ (by decide) (by decide) | rfl) : DT X ρ (.Compare ke [.NotIn] [.Name x px] pos) (!decide (k ∈ kvs.map (·.1))) :=
  PT.imp (pt_cmpR (op_notinN hu) hk (pe_var hxN hv hd hcd) hm) fun σ H Q ⟨F, ok, kk⟩ => ⟨F, ok, fun v F2 H2 g r => by
    obtain ⟨h1, h2, ho, h3, xs, h4, h5⟩ := (ok.grow g).own hi
    subst h4
    obtain ⟨b, ys, rfl, hb, ry⟩ := r.tup_inv
    exact ⟨.ref p, h1, b, p, k, xs, F2, rfl, rfl, h3, g.s, .tup hb ry, h5.ok, _, by rw [h5.keys], kk F2 H2 g⟩⟩
/-! ## d[key] = value, a new key -/
def tPutN (P : Program) (w : World) (td ty tv : TE) : TS := fun D σ H => tv σ H fun v H1 => td σ H1 fun x H2 => ty σ H2 fun y H3 => ∃ p b va k xs F, x = .ref p ∧ y = .ref b ∧ v = .ref va ∧ H3 p = some (ndHO P w p xs) ∧ Same F H3 ∧ Rp F (.ref b) (keyD k) ∧ KeysOk F xs ∧ k ∉ xs.map (·.1) ∧ xs.length < sizeLine ∧ D.nx σ (upd H3 p (ndHO P w p (xs ++ [(k, b, va)])))
theorem nd_put {pins : List (Addr × Obj)} {σ : L2.St} {H : Hp} {s : Shared} {p b va : Addr} {xs : List NE} {h' : Heap} {t' : Nat} (I : Inv X pins σ H s) (hp : H p = some (ndHO X.prog X.w p xs)) (hk : k ∉ xs.map (·.1)) (hl : xs.length < sizeLine)
    (hm : h'.DictOfH (nestedKind X.prog X.w) p (storedH (ndEs xs) (nk k) b (.ref va))) (hs : Heap.SameBut p s.heap h') : Inv X pins σ (upd H p (ndHO X.prog X.w p (xs ++ [(k, b, va)]))) { s with heap := h', toks := t' } := by
  have raw := nd_at I.hok hp
  rw [stored_new hk] at hm
  have raw2 : RawN X.prog X.w h' p (xs ++ [(k, b, va)]) := raw_of raw.1 (by rw [List.length_append, List.length_singleton]; exact hl) hm
  refine I.write (x := p) (e := p) (t' := t') (by rw [hp]; exact True.intro) (.inl rfl) (fun c o hc q => hs.extBut c o hc q) ?_ (nd_ok raw2)
  obtain ⟨_, _, o, _, _, ho, _⟩ := raw2
  exact ⟨o, ho⟩
theorem ps_putN {o i value : Expr} {td ty tv : TE} {pos' : Pos} (hu : X.A.units + 16 < cLine) (ho : PE X o td) (hi : PE X i ty) (hv : PE X value tv) (hs : swapsWith value (some (.Subscript o i pos')) pos.line X.env = pure false) :
    PS X (.Assign [.Subscript o i pos'] value pos) (tPutN X.prog X.w td ty tv) := by
  refine ⟨fun pins s σ H D I h => ?_⟩
  refine wpAny_Assign_Subscript (thn (hv.run pins s σ H _ I h) fun r s1 ⟨v, H1, I1, rv, q1⟩ => thn (ho.run pins s1 σ H1 _ I1 q1) fun u s2 ⟨x, H2, I2, rx, q2⟩ => thn (hi.run pins s2 σ H2 _ I2 q2) fun iv s3 ⟨y, H3, I3, ry, h3⟩ => ?_) hs
  obtain ⟨p, b, va, k, xs, F, rfl, rfl, rfl, hp, e, rk, ks, hk, hl, q⟩ := h3
  obtain rfl : u = Value.ref p := rx
  obtain rfl : iv = Value.ref b := ry
  obtain rfl : r = Value.ref va := rv
  have raw := nd_at I3.hok hp
  refine wpAny_setItem_heap (knd := nestedKind X.prog X.w) (hsz := by unfold ndEs; rw [List.length_map]; exact Nat.le_of_lt hl) (show X.A.in1.units + 8 < cLine from Nat.lt_of_le_of_lt (show X.A.units + 1 + 8 ≤ X.A.units + 16 by omega) hu) (is_key I3.hok e rk) (dict_of raw I3.hok e ks) fun h' hm hs => ?_
  exact ⟨σ, _, nd_put I3 hp hk hl hm hs, q⟩
theorem dss_putN (i : Nat) {u : List Int} {tp : Pos} (hi : ρ[i]? = some (.own p (.nd X.prog X.w p kvs))) (hu : X.A.units + 16 < cLine) (he : DE X ρ e (wiD u)) (hk : DE X ρ ke (keyD k)) (hn : k ∉ kvs.map (·.1)) (hl : kvs.length < sizeLine) (h : DSs X ex F0 H0 (ρ.set i (.own p (.nd X.prog X.w p (kvs ++ [(k, u)])))) sts A)
    (hxN : X.N[i]? = some x := by rfl) (hv : Vis X.env.scope x := by first | exact Or.inl rfl | exact Or.inr (Or.inl rfl) | exact Or.inr (Or.inr rfl)) (hd : (x == ("__debug__" : Str)) = false := by decide) (hcd : (x == ("__classdict__" : Str)) = false := by decide)
    (hs : swapsWith e (some (.Subscript (.Name x px) ke tp)) pos.line X.env = pure false := by rfl) : DSs X ex F0 H0 ρ (.Assign [.Subscript (.Name x px) ke tp] e pos :: sts) A := by
  refine dss_seq (N1 := fun ρ' => ρ' = ρ.set i (.own p (.nd X.prog X.w p (kvs ++ [(k, u)])))) ?_ fun _ h' => h' ▸ h
  refine PS.imp (ps_putN hu (pe_var hxN hv hd hcd) hk he hs) fun D σ H ⟨F, a, nn, r, b, c⟩ => ⟨F, a.ok, fun v F2 H2 g rv => ?_⟩
  obtain ⟨va, vs, rfl, hva, rvs⟩ := rv.tup_inv
  have a2 := a.grow g
  obtain ⟨h1, _⟩ := a2.ok.own hi
  refine ⟨.ref p, h1, F2, a2.ok, fun y F3 H3 g3 ry => ?_⟩
  have a3 := a2.grow g3
  obtain ⟨_, _, ho, h3, xs, h4, h5⟩ := a3.ok.own hi
  subst h4
  obtain ⟨b, ys, rfl, hb, ryy⟩ := ry.tup_inv
  refine ⟨p, b, va, k, xs, F3, rfl, rfl, rfl, h3, g3.s, .tup hb ryy, h5.ok, by rw [h5.keys]; exact hn, by rw [h5.len]; exact hl, nn _ _ F3 _ rfl (g.f.trans g3.f) (a3.write hi ⟨_, rfl, h5.append (.cons (.tup hb ryy) ((Rp.tup hva rvs).mono g3.f) .nil)⟩)⟩
end
end Tw

/-! Tw: dicts with keys of two tuples: != {}, dict(d), items -/
namespace Tw
open PySem PySem.Spec PyProof.Rows L2
/-! ## never changed again -/
theorem pss_fix {X : Cx} {sts : List Stmt} {t : TS} (h : PSs X sts t) : PSs X sts (fun D σ H => ∃ d u, H d = some u ∧ Mut (some u) ∧ ∀ od, t D σ (upd H d (.frz od u))) := ⟨fun pins s σ H D I ⟨d, u, hd, mu, hw⟩ => by
  obtain ⟨od, I1⟩ := I.lock hd mu
  exact h.run pins s σ _ D I1 (hw od)⟩
section
variable {X : Cx} {F0 H0 : Hp} {ρ : Env'} {sts : List Stmt} {A : Aims} {kvs : List (PK × List Int)} {d : Addr}
theorem dss_fixN (i : Nat) (h : DSs X [] F0 H0 (ρ.set i (.st d (.ndF X.prog X.w d kvs))) sts A) (hi : ρ[i]? = some (.own d (.nd X.prog X.w d kvs)) := by rfl) : DSs X [] F0 H0 ρ sts A := by
  refine PSs.imp (pss_fix h) fun D σ H ⟨F, a, n, r, b, c⟩ => ?_
  obtain ⟨h1, h2, ho, h3, xs, h4, h5⟩ := a.ok.own hi
  subst h4
  have hH0 : H0 d = none := by
    rcases a.new i d _ hi with q | q
    · exact q
    · cases q
  have hl : i < ρ.length := (List.getElem?_eq_some_iff.mp hi).1
  refine ⟨d, _, h3, True.intro, fun od => ?_⟩
  generalize hu : HO.frz od (ndHO X.prog X.w d xs) = u
  have s1 : Same F (upd F d u) := Same.upd_new h2
  have sH : Same (upd F d u) (upd H d u) := Same.upd2 a.ok.s
  have nd : ∀ {c : Addr} {o : HO}, H0 c = some o → c ≠ d := fun {c o} q z => by subst z; rw [hH0] at q; cases q
  refine ⟨upd F d u, ⟨⟨a.g.f.trans s1, sH, fun c o hx q => by rw [upd_ne (nd q)]; exact a.g.h c o hx q, fun c q => ?_, fun c q1 q2 => ?_, fun c q => (a.g.m c q).upd (fun _ z => by rw [← hu] at z; cases z)⟩, ⟨sH, by simp [a.ok.len], fun j e hj => ?_, fun j l p q w w' hj hk hjk => ?_⟩, fun j p w hj => ?_⟩,
    fun ρ2 σ2 F3 H3 z1 z2 => n ρ2 σ2 F3 H3 z1 (s1.trans z2), r, fun ρ2 σ2 F3 H3 z1 z2 => b ρ2 σ2 F3 H3 z1 (s1.trans z2), fun ρ2 σ2 F3 H3 z1 z2 => c ρ2 σ2 F3 H3 z1 (s1.trans z2)⟩
  · by_cases hc : c = d
    · subst hc; rw [upd_same]; simp
    · rw [upd_ne hc]; exact a.g.k c q
  · have hc : c ≠ d := fun z => by subst z; exact q2.ne hH0
    rw [upd_ne hc]; exact a.g.n c q1 q2
  · by_cases hij : i = j
    · subst hij
      rw [List.getElem?_set_self hl] at hj; cases hj
      exact ⟨_, h1, rfl, u, upd_same, od, xs, hu.symm, h5.mono s1⟩
    · rw [List.getElem?_set_ne hij] at hj
      obtain ⟨oo, e1, e2⟩ := a.ok.at_ j e hj
      refine ⟨oo, e1, ?_⟩
      cases e with
      | no => trivial
      | dat x => obtain ⟨v, x1, x2⟩ := e2; exact ⟨v, x1, x2.mono s1⟩
      | val v => exact e2
      | fx q u => exact ⟨e2.1, s1 _ _ e2.2⟩
      | st q w => exact ⟨e2.1, let ⟨u, hu, hw⟩ := e2.2; ⟨u, s1 _ _ hu, w.mono s1 hw⟩⟩
      | own q w =>
        obtain ⟨x1, x2, hh, x3, x4⟩ := e2
        have hq : q ≠ d := a.ok.ne j i q d _ _ hj hi (Ne.symm hij)
        exact ⟨x1, by rw [upd_ne hq]; exact x2, hh, by rw [upd_ne hq]; exact x3, w.mono s1 x4⟩
  · have f : ∀ {j : Nat} {q : Addr} {w : Ow}, (ρ.set i (.st d (.ndF X.prog X.w d kvs)))[j]? = some (.own q w) → ρ[j]? = some (.own q w) := fun {j q w} hj => by
      by_cases hij : i = j
      · subst hij
        rw [List.getElem?_set_self hl] at hj; cases hj
      · rw [List.getElem?_set_ne hij] at hj; exact hj
    exact a.ok.ne j l p q _ _ (f hj) (f hk) hjk
  · by_cases hij : i = j
    · subst hij
      rw [List.getElem?_set_self hl] at hj; cases hj
    · rw [List.getElem?_set_ne hij] at hj; exact a.new j p w hj
end
/-! ## d != {} -/
section
variable {prog : Program} {w : World} {A : Around} {E : Value → Shared → Prop} {s : Shared} {a b : Addr} {es : Array DictEntry} {ep ep' : Nat}
theorem same_empty {nm : String} {Q : Bool → Shared → Prop} (ha : (a == sysModules) = false) (hb : (b == sysModules) = false) (ra : DT.Raw s.heap a es ep) (rb : DT.Raw s.heap b #[] ep') (h : Q es.isEmpty s) : wpAny (model prog w) A (Builtin.Dict.samePairs nm a b) Q E s := by
  obtain ⟨o1, g1, _, d1⟩ := ra
  obtain ⟨o2, g2, _, d2⟩ := rb
  unfold Builtin.Dict.samePairs Builtin.Dict.showsAll
  rw [ha, hb]
  refine wpAny_bind (wpAny_pure (wpAny_bind (wpAny_pure (wpAny_bind (wpAny_dictEntries g1 d1 ?_)))))
  dsimp only
  refine wpAny_bind (wpAny_dictEntries g2 d2 ?_)
  by_cases hz : es.size = 0
  · have he : es = #[] := Array.size_eq_zero_iff.mp hz
    subst he
    rw [if_neg (by simp)]
    refine wpAny_bind (wpAny_dictEpoch g1 d1 (wpAny_bind ?_))
    rw [Std.Legacy.Range.forIn_eq_forIn_range']
    exact wpAny_pure (wpAny_pure h)
  · rw [if_pos (by simpa using hz)]
    have he : es.isEmpty = false := by simpa [Array.isEmpty] using hz
    rw [he] at h
    exact wpAny_bind (wpAny_rule (wpAny_pure h))
theorem ne_empty {Q : Value → Shared → Prop} (ha : (a == sysModules) = false) (hb : (b == sysModules) = false) (ra : DT.Raw s.heap a es ep) (rb : DT.Raw s.heap b #[] ep') (hu : A.units < cLine) (h : Q (.bool (!es.isEmpty)) s) : wpAny (model prog w) A (compareOp .NotEq (.ref a) (.ref b)) Q E s := by
  refine wpAny_richCompare_same_room (op := .NotEq) ra.typeIs rb.typeIs PySem.F.slot_dict_ne (wpAny_call_entry PySem.F.slot_dict_ne ra.typeIs PySem.F.entry_dict_ne ?_ (PySem.F.args_dict_ne_2 _ _)) hu
  show wpAny _ _ (Builtin.Dict.dictSlotArgs "__ne__" ⟨[.ref a, .ref b], []⟩ >>= _) _ _ s
  unfold Builtin.Dict.dictSlotArgs
  refine wpAny_bind (wpAny_bind (wpAny_notOrdered_dict ra.typeIs (wpAny_pure (wpAny_bind (wpAny_isInstance (T := "dict") rb.typeIs PySem.F.sub_dict_dict ?_)))))
  rw [show (!true) = false from rfl, if_neg (by decide)]
  exact wpAny_bind (wpAny_pure (wpAny_bind (wpAny_pure (wpAny_bind (same_empty ha hb ra rb (wpAny_pure ⟨_, rfl, (fun x => nomatch x), by simpa using h⟩))))))
end
theorem raw_rawN {P : Program} {w : World} {h : Heap} {p : Addr} {xs : List NE} (r : RawN P w h p xs) : ∃ es ep, DT.Raw h p es ep ∧ es.toList = (ndEs xs).map (entryOfKey (nestedKind P w)) := by
  obtain ⟨_, _, o, es, ep, ho, hx, hd, he, _⟩ := r
  exact ⟨es, ep, ⟨o, ho, hx, hd⟩, he⟩
section
variable {X : Cx} {ρ : Env'} {x : Str} {px lp pos : Pos} {kvs : List (PK × List Int)} {p : Addr}
def rNeN (P : Program) (w : World) : R2 := fun x y H Q => ∃ p od xs q, x = .ref p ∧ H p = some (.frz od (ndHO P w p xs)) ∧ y = .ref q ∧ H q = some (.dT []) ∧ Q (.bl (!xs.isEmpty)) H
theorem frz_raw {P : Program} {w : World} {H : Hp} {h : Heap} {od : Obj} {xs : List NE} (hok : HOk P w H h) (e : H p = some (.frz od (ndHO P w p xs))) : h.get? p = some od ∧ RawN P w h p xs := by
  have z : ObjOk P w H h p (.frz od (ndHO P w p xs)) := hok p _ e
  obtain ⟨z1, z2⟩ := z
  have z3 : ObjOk P w H h p (.ext fun h => RawN P w h p xs) := z2
  exact ⟨z1, z3.1⟩
theorem op_neN (hu : X.A.units < cLine) : OpR X (compareOp .NotEq) (rNeN X.prog X.w) := by
  intro pins s σ H x y v u Q I rx ry h
  obtain ⟨p, od, xs, q, rfl, hp, rfl, hq, k⟩ := h
  obtain rfl : v = Value.ref p := rx
  obtain rfl : u = Value.ref q := ry
  obtain ⟨_, raw⟩ := frz_raw I.hok hp
  obtain ⟨es, ep, r1, he⟩ := raw_rawN raw
  obtain ⟨_, hs2, ys, pr, o2, es2, ep2, ho2, hx2, hd2, he2, _⟩ := I.hok q _ hq
  cases pr
  have e2 : es2 = #[] := by simpa using he2
  subst e2
  refine ne_empty raw.1 hs2 r1 ⟨o2, ho2, hx2, hd2⟩ hu ⟨.bl (!xs.isEmpty), H, I, ?_, k⟩
  have : es.isEmpty = xs.isEmpty := by
    have e1 : es.size = xs.length := by rw [← Array.length_toList, he]; simp [ndEs]
    rw [← Array.isEmpty_toList, he]; simp [ndEs]
  rw [this]; rfl
theorem dt_neN (i : Nat) (hi : ρ[i]? = some (.st p (.ndF X.prog X.w p kvs))) (hu : X.A.units < cLine) (hxN : X.N[i]? = some x := by rfl) (hv : Vis X.env.scope x := by first | exact Or.inl rfl | exact Or.inr (Or.inl rfl) | exact Or.inr (Or.inr rfl)) (hd : (x == ("__debug__" : Str)) = false := by decide) (hcd : (x == ("__classdict__" : Str)) = false := by decide)
    (hm : behindInMarks .NotEq (.Dict [] [] lp) = false := by first | exact nomark _ | rfl | with_unfolding_all rfl) : DT X ρ (.Compare (.Name x px) [.NotEq] [.Dict [] [] lp] pos) (!kvs.isEmpty) :=
  PT.imp (pt_cmpR (op_neN hu) (pe_var hxN hv hd hcd) pe_dnewT hm) fun σ H Q ⟨F, ok, kk⟩ => by
    obtain ⟨o, h1, h2, u, h3, od, xs, h4, h5⟩ := ok.at_ i _ hi
    subst h2 h4
    refine ⟨.ref p, h1, fun q hq => ⟨p, od, xs, q, rfl, ?_, rfl, upd_same, !kvs.isEmpty, ?_, kk F _ (Grow.skip ok.s hq)⟩⟩
    · rw [upd_ne (ne_of_none (ok.s _ _ h3) hq)]; exact ok.s _ _ h3
    · have := h5.len
      cases xs <;> cases kvs <;> simp_all
end
end Tw

/-! Tw: dicts with keys of two tuples: dict(d), items -/
namespace Tw
open PySem PySem.Spec PyProof.Rows L2
/-! ## dict(d) -/
def hW (ws : List Int) : Int := reduceHash (Builtin.Tuple.tupleHashOf (ws.map hashInt))
def hK (k : PK) : Int := reduceHash (Builtin.Tuple.tupleHashOf [hW k.1, hW k.2])
theorem hashes_nums (w : World) (ws : List Int) : NestedKey.hashes w (ws.map .num) = ws.map hashInt := by
  induction ws with
  | nil => rw [List.map_nil, NestedKey.hashes]; rfl
  | cons x ws ih => rw [List.map_cons, NestedKey.hashes, ih, NestedKey.hash]; rfl
theorem hash_nk (w : World) (k : PK) : (nk k).hash w = hK k := by
  unfold nk nkW hK hW
  simp only [NestedKey.hash, NestedKey.hashes, hashes_nums]
section
variable {prog : Program} {w : World} {A : Around} {E : Value → Shared → Prop} {s : Shared} {p : Addr} {es : List (NestedKey × Addr × Value)}
theorem hash_kind : (nestedKind prog w).hash = fun k => NestedKey.hash w k := rfl
theorem upd_dictN {d : Addr} {R : Result → Shared → Prop} {xs : List NE} (hu : A.units + 16 < cLine) (hdp : d ≠ p) (hs : (p == sysModules) = false) (hd : s.heap.DictOfH (nestedKind prog w) d []) (ho : s.heap.DictOfH (nestedKind prog w) p (ndEs xs)) (hl : xs.length ≤ sizeLine) (hn : (xs.map fun x => hK x.1).Nodup)
    (hR : ∀ h', h'.DictOfH (nestedKind prog w) d (ndEs xs) → Heap.SameBut d s.heap h' → R (.ok (.ret .none)) { s with heap := h' }) : wpAny (model prog w) A.in1 (Builtin.Dict.updateFrom "dict.__init__" d (.ref p) [] .none)
      (fun f s' => match f with | .done f => R (.ok f) s' | .again c => c.quiet = true ∧ codeAny (model prog w) A c R s') (fun e s' => R (.error e) s') s := by
  have hty : ∀ x ∈ ndEs xs, s.TypeIs (.ref x.2.1) "tuple" := fun x hx => by
    obtain ⟨_, _, _, _, _, _, _, his, _⟩ := ho
    exact nestedKind_stays.tuple (his x hx)
  have hh : ((ndEs xs).map fun x => (nestedKind prog w).hash x.1).Nodup := by
    have e1 : ((ndEs xs).map fun x => (nestedKind prog w).hash x.1) = xs.map fun x => hK x.1 := by
      rw [hash_kind]
      unfold ndEs
      rw [List.map_map]
      refine List.map_congr_left fun x _ => ?_
      rw [Function.comp_apply]
      exact hash_nk w x.1
    rw [e1]; exact hn
  have hnd : ((ndEs xs).map (·.1)).Nodup := by obtain ⟨_, _, _, _, _, _, _, _, q⟩ := ho; exact q
  have hz : ([] : List (NestedKey × Addr × Value)).length + (ndEs xs).length ≤ sizeLine := by
    rw [List.length_nil, Nat.zero_add]
    unfold ndEs
    rw [List.length_map]; exact hl
  have hr : (nestedKind prog w).room A.in1 := Nat.lt_of_le_of_lt (show A.units + 1 + 8 ≤ A.units + 16 by omega) hu
  exact updateFrom_dictH (knd := nestedKind prog w) .none hr hdp hs hd ho (.inr ⟨hty, hh⟩) hz fun h' hd' _ hs' => hR h' (by rw [storedAllH_nil_of_nodup _ hnd] at hd'; exact hd') hs'
theorem dict_of_dictN {H F : Hp} {xs : List NE} {Q : Value → Shared → Prop} (hu : A.units + 32 < cLine) (hok : HOk prog w H s.heap) (e : Same F H) (ks : KeysOk F xs) (r : RawN prog w s.heap p xs) (hn : (xs.map fun x => hK x.1).Nodup) (hb : sysModules < s.heap.objs.size)
    (h : ∀ h', RawN prog w h' s.heap.objs.size xs → (∀ c o, s.heap.get? c = some o → h'.get? c = some o) → Q (.ref s.heap.objs.size) { s with heap := h' }) : wpAny (model prog w) A (call (.type "dict") [.ref p]) Q E s := by
  have ho := dict_of r hok e ks
  have hlt : p < s.heap.objs.size := by obtain ⟨_, _, o, _, _, g, _⟩ := r; exact Heap.lt_size g
  refine callType_codes (Q₁ := fun ob t => ob = .ref s.heap.objs.size ∧ t = { s with heap := s.heap.push { cls := .type "dict", data := .dict #[] } }) PySem.F.kt_called_dict (PySem.F.kt_typeCall_dict_1 _) PySem.F.entry_dict_init (kt_code_dict_new _ ⟨rfl, rfl⟩) ?_
  rintro ob t ⟨rfl, rfl⟩
  generalize ht : ({ s with heap := s.heap.push { cls := .type "dict", data := .dict #[] } } : Shared) = t
  have th : t.heap = s.heap.push { cls := .type "dict", data := .dict #[] } := by rw [← ht]
  have kp : ∀ c o, s.heap.get? c = some o → t.heap.get? c = some o := fun c o q => by rw [th]; exact Heap.get?_push_of_some _ q
  have hT : t.TypeIs (.ref s.heap.objs.size) "dict" := ⟨_, by rw [th]; exact Heap.get?_push_size _ rfl, rfl⟩
  refine ⟨hT, PySem.F.args_dict_init_2 _ _, ?_⟩
  unfold Builtin.«dict.__init__»
  refine wpAny_bind ?_
  unfold Builtin.Dict.selfAndRest
  refine wpAny_bind (wpAny_notOrdered_dict hT ?_)
  show wpAny _ _ (pure (s.heap.objs.size, [Value.ref p])) _ _ t
  refine wpAny_pure ?_
  have new0 : t.heap.DictOfH (nestedKind prog w) s.heap.objs.size [] := by rw [th]; exact Heap.DictOfH.new s.heap
  have hoT : t.heap.DictOfH (nestedKind prog w) p (ndEs xs) := by
    obtain ⟨o, es, ep, g1, g2, g3, g4, g5, g6⟩ := ho
    exact ⟨o, es, ep, kp _ _ g1, g2, g3, g4, fun x hx => nestedKind_stays.stays (fun c oc _ _ q _ => kp c oc q) (g5 x hx), g6⟩
  refine upd_dictN (A := A.in1) (R := wants (fun r t2 => r = .none ∧ Q (.ref s.heap.objs.size) t2) E) (Nat.lt_of_le_of_lt (show A.units + 1 + 16 ≤ A.units + 32 by omega) hu) (Nat.ne_of_gt hlt) r.1 new0 hoT r.2.1 hn fun h' hd' hs' => ?_
  have hq := h h' (raw_of (beq_eq_false_iff_ne.mpr (Ne.symm (Nat.ne_of_lt hb))) r.2.1 hd') fun c o q => hs'.extBut c o (Nat.ne_of_lt (Heap.lt_size q)) (kp c o q)
  refine ⟨rfl, ?_⟩
  rw [← ht]; exact hq
end
section
variable {X : Cx} {ρ : Env'} {x : Str} {px p1 pos : Pos} {kvs : List (PK × List Int)} {p : Addr}
def rDictN (P : Program) (w : World) : List V → Hp → VK → Prop := fun vs H Q => ∃ p od xs F, vs = [.ref p] ∧ H p = some (.frz od (ndHO P w p xs)) ∧ Same F H ∧ KeysOk F xs ∧ (xs.map fun x => hK x.1).Nodup ∧ ∀ q, H q = none → Q (.ref q) (upd H q (ndHO P w q xs))
theorem call_dictN (hu : X.A.units + 32 < cLine) : CallR X (.type "dict") (rDictN X.prog X.w) := by
  intro pins s σ H xs us Q I r h
  obtain ⟨p, od, ys, F, rfl, hp, e, ks, hn, k⟩ := h
  cases r with
  | cons r1 r2 =>
    cases r2
    cases r1
    obtain ⟨_, raw⟩ := frz_raw I.hok hp
    refine dict_of_dictN hu I.hok e ks raw hn I.big fun h' raw' kp => ?_
    exact ⟨.ref s.heap.objs.size, _, I.laid (a := s.heap.objs.size) (o := ndHO X.prog X.w s.heap.objs.size ys) (t' := s.toks) kp (Nat.le_refl _) (nd_ok raw'), rfl, k _ (I.hok.fresh (Nat.le_refl _))⟩
theorem pe_dictN (i : Nat) (hi : ρ[i]? = some (.st p (.ndF X.prog X.w p kvs))) (hu : X.A.units + 32 < cLine) (hm : X.mg "dict" = none) (hnd : (kvs.map fun x => hK x.1).Nodup) (hxN : X.N[i]? = some x := by rfl) (hv : Vis X.env.scope x := by first | exact Or.inl rfl | exact Or.inr (Or.inl rfl) | exact Or.inr (Or.inr rfl)) (hd : (x == ("__debug__" : Str)) = false := by decide) (hcd : (x == ("__classdict__" : Str)) = false := by decide) (hg : Gl X "dict" := by rfl)
    (he : starEach [.Name x px] X.env = (false, eval (.Name x px) X.env) :: starEach [] X.env := by rfl) (hpl : (backTo pos (starEach [] X.env)).any (·.1) = false := by rfl) :
    PE X (.Call (.Name "dict" p1) [.Name x px] [] pos) (tNP ρ fun q => .nd X.prog X.w q kvs) :=
  PE.imp (pe_callTy (call_dictN hu) hg hm (by decide +kernel) (pa_cons (pe_var hxN hv hd hcd) pa_nil (by exact he)) (by decide) (by decide) he hpl) fun σ H Q ⟨F, ok, k⟩ => by
    obtain ⟨o, h1, h2, u, h3, od, xs, h4, h5⟩ := ok.at_ i _ hi
    subst h2 h4
    refine ⟨.ref p, h1, p, od, xs, F, rfl, ok.s _ _ h3, ok.s, h5.ok, ?_, fun q hq => k q _ F _ (Grow.skip ok.s hq) hq (same_none ok.s hq) upd_same ⟨xs, rfl, h5⟩⟩
    have e1 : (xs.map fun x => hK x.1) = kvs.map fun x => hK x.1 := by
      have := congrArg (List.map hK) h5.keys
      simpa [List.map_map, Function.comp_def] using this
    rw [e1]; exact hnd
end
/-! ## for (left, right), begin in d.items() -/
def Ititn (P : Program) (w : World) (d : Addr) (o : Obj) (xs : List NE) : It :=
  ⟨fun i H => H d = some (.frz o (ndHO P w d xs)) ∧ i < xs.length, fun i H x H' => ∃ T e, xs[i]? = some e ∧ x = .ref T ∧ H T = none ∧ H' = upd H T (.tup [.ref e.2.1, .ref e.2.2]), fun i H => H d = some (.frz o (ndHO P w d xs)) ∧ xs.length ≤ i⟩
theorem raw_ent {P : Program} {w : World} {h : Heap} {p : Addr} {xs : List NE} {o : Obj} (r : RawN P w h p xs) (ho : h.get? p = some o) : ∃ (es : Array DictEntry) (ep : Nat), o.data = .dict es ep ∧ o.ExactDict ∧ es.size = xs.length ∧ ∀ (i : Nat) (e : NE), xs[i]? = some e → ∃ en, es[i]? = some en ∧ en.key = .ref e.2.1 ∧ en.val = .ref e.2.2 := by
  obtain ⟨_, _, o', es, ep, ho', hx, hd, he, _⟩ := r
  rw [ho] at ho'
  cases ho'
  refine ⟨es, ep, hd, hx, by rw [← Array.length_toList, he]; simp [ndEs], fun i e q => ⟨entryOfKey (nestedKind P w) (nk e.1, e.2.1, .ref e.2.2), ?_, rfl, rfl⟩⟩
  rw [← Array.getElem?_toList, he]
  unfold ndEs
  rw [List.map_map, List.getElem?_map, q]; rfl
theorem turn_itemsN {P : Program} {w : World} {K : PySem.W.Frag} {d : Addr} {o : Obj} {es : Array DictEntry} {ep : Nat} {xs : List NE} {elts : List Expr} {kk : Nat} {tpos : Pos} (it : Addr) (hod : o.data = .dict es ep) :
    Turn P w K (.Tuple elts kk tpos) (Ititn P w d o xs) [it] it (fun i h => ∃ ok ov, IsItemIter h it d i xs.length ep ok ov) where
  mem := List.mem_singleton.mpr rfl
  obj := fun i h st b hb => by
    rw [List.mem_singleton.mp hb]
    obtain ⟨ok, ov, e⟩ := st
    exact ⟨_, e, fun v z => nomatch z⟩
  keep := fun i h h' st k => let ⟨ok, ov, e⟩ := st; ⟨ok, ov, k it (List.mem_singleton.mpr rfl) _ e⟩
  item := by
    intro X hP hw hK hc i pins s σ H E I hf st hg
    subst hP hw hK
    obtain ⟨hd, hi⟩ := hg
    obtain ⟨hgd, raw⟩ := frz_raw I.hok hd
    obtain ⟨es', ep', hdt, hx, hsz, ent⟩ := raw_ent raw hgd
    obtain ⟨rfl, rfl⟩ := dict_ep hod hdt
    obtain ⟨e, hkv⟩ : ∃ p, xs[i]? = some p := ⟨xs[i], List.getElem?_eq_getElem hi⟩
    obtain ⟨en, hen, hkey, hval⟩ := ent i e hkv
    obtain ⟨ok, ov, he⟩ := st
    rw [← hsz] at he
    have hlt : it < s.heap.objs.size := Heap.lt_size he
    have hie : i < es'.size := by omega
    have hen' : es'[i] = en := Option.some.inj ((Array.getElem?_eq_getElem hie).symm.trans hen)
    refine DT.nextI he ⟨o, hgd, hx, hdt⟩ hie fun h' ho hT hz hk => ?_
    rw [hen'] at ho hT
    rw [hkey, hval] at ho hT
    refine ⟨_, rfl, wpAny_letOwnedTupleGo_items (s := { s with heap := h' }) ho fun h'' he' sb => ?_⟩
    have hT2 : h''.get? s.heap.objs.size = some { cls := .type "tuple", data := .seq #[.ref e.2.1, .ref e.2.2] } := (sb.2 _ (Nat.ne_of_gt hlt)).trans hT
    have new : ObjOk X.prog X.w (upd H s.heap.objs.size (.tup [.ref e.2.1, .ref e.2.2])) h'' s.heap.objs.size (.tup [.ref e.2.1, .ref e.2.2]) :=
      ⟨by show 2 ≤ sizeLine; decide, [.ref e.2.1, .ref e.2.2], .cons rfl (.cons rfl .nil), ⟨_, hT2, rfl, _, rfl⟩⟩
    have I1 : Inv X pins σ (upd H s.heap.objs.size (.tup [.ref e.2.1, .ref e.2.2])) { s with heap := h'' } :=
      I.turnedNew (t' := s.toks) (ch := [it]) (fun b ob hb e => by
        have hb' : b ≠ it := fun z => hb (List.mem_singleton.mpr z)
        exact (sb.2 b hb').trans (hk b ob hb' e)) hf (Nat.le_refl _) new
    refine ⟨.ref s.heap.objs.size, _, I1, rfl, ⟨_, e, hkv, rfl, I.hok.fresh (Nat.le_refl _), rfl⟩, ⟨.ref e.2.1, .ref e.2.2, ?_⟩, fun b hb => ?_⟩
    · rw [← hsz]; exact he'
    · have e := List.mem_singleton.mp hb
      rw [e, upd_ne (Nat.ne_of_lt hlt)]
      exact (hf it (List.mem_singleton.mpr rfl)).1
  done := by
    intro X hP hw hK hc i pins s σ H E I hf st hg
    subst hP hw hK
    obtain ⟨hd, hi⟩ := hg
    obtain ⟨f0, f1, f2, f3, f4, f5⟩ := hf it (List.mem_singleton.mpr rfl)
    obtain ⟨hgd, raw⟩ := frz_raw I.hok hd
    obtain ⟨es', ep', hdt, hx, hsz, ent⟩ := raw_ent raw hgd
    obtain ⟨rfl, rfl⟩ := dict_ep hod hdt
    obtain ⟨ok, ov, he⟩ := st
    rw [← hsz] at he
    exact DT.endI (I.ok.hd hc) he ⟨o, hgd, hx, hdt⟩ (by omega) fun h' eb => ⟨rfl, I.turned (t' := s.toks) (fun b ob hb e => eb b ob hb e) f0 f1 f3 f4 f5⟩
  self := fun A i s Q E st h => let ⟨_, _, e⟩ := st; PySem.W.kcp_self e h
section
variable {X : Cx} {e : Expr} {td : TE} {apos cpos : Pos}
def iItemsN (P : Program) (w : World) (td : TE) : TI := fun σ H R => td σ H fun x H1 => ∃ d o xs, x = .ref d ∧ H1 d = some (.frz o (ndHO P w d xs)) ∧ R (Ititn P w d o xs) H1
theorem pi_itemsN {elts : List Expr} {kk : Nat} {tpos : Pos} (he : PE X e td) (hbase : attributeBase e "items" X.env (eval e X.env) = eval e X.env := by rfl) (hline : (apos.endLine == cpos.line) = true := by rfl) :
    PI X (.Tuple elts kk tpos) (.Call (.Attribute e "items" apos) [] [] cpos) (iItemsN X.prog X.w td) := by
  refine ⟨fun pins s σ H R I h => ?_⟩
  refine wpAny_Call_method (T := "dict") (id := "dict.items") hbase rfl hline F.plainAttrs_dict F.slot_dict_items F.type_dict_items (thn (he.run pins s σ H _ I h) fun u s1 ⟨x, H1, I1, rx, d, o, xs, ex, hd, q⟩ => ?_)
  subst ex
  obtain rfl : u = Value.ref d := rx
  obtain ⟨hgd, rawN⟩ := frz_raw I1.hok hd
  obtain ⟨es, ep, hdt, hx, hsz, ent⟩ := raw_ent rawN hgd
  have hs := rawN.1
  have raw : DT.Raw s1.heap d es ep := ⟨o, hgd, hx, hdt⟩
  refine ⟨raw.typeIs, ?_, ?_⟩
  · intro b e
    injection e with e
    subst e
    exact ⟨o, hgd, hx.2.1⟩
  have I2 : Inv X pins σ H1 { s1 with heap := s1.heap.push { cls := .type "dict_items", data := .fields #[.ref d] } } := I1.kept (t' := s1.toks) fun b ob q => Heap.get?_push_of_some _ q
  have fin : wpAny (model X.prog X.w) X.A (pyIter (.ref s1.heap.objs.size)) (PIE X pins σ (.Tuple elts kk tpos) R) X.xe { s1 with heap := s1.heap.push { cls := .type "dict_items", data := .fields #[.ref d] } } := by
    refine DT.iterI (d := d) ⟨_, Heap.get?_push_size _ rfl, rfl, rfl⟩ (raw.push _) (pi_one (tk := s1.toks) I2 _ (turn_itemsN _ hdt) ⟨.none, .none, ?_⟩ q)
    rw [← hsz]
    exact Heap.get?_push_size _ rfl
  show wpAny _ _ (callWith cpos (.builtin "dict.items") [.ref d] [] []) _ X.xe s1
  exact method_meetsIn F.slot_dict_items F.entry_dict_items rfl (PySem.evalArgs_none ⟨rfl, raw.typeIs, F.args_dict_items_1 _, _, DT.meetsItems (es := es) (ep := ep) hs, ⟨raw, fin⟩⟩)
end
def itemN (e : PK × List Int) : PyData := .tuple [keyD e.1, wiD e.2]
theorem jok_itemsN {P : Program} {w : World} {F : Hp} {d : Addr} {od : Obj} {xs : List NE} {kvs : List (PK × List Int)} (hF : F d = some (.frz od (ndHO P w d xs))) (he : EntsOk F xs kvs) : JOk (Ititn P w d od xs) F (kvs.map itemN) := fun i F1 H e1 e2 => ⟨fun dd hd => by
    rw [List.getElem?_map] at hd
    obtain ⟨e, hk, rfl⟩ := Option.map_eq_some_iff.mp hd
    obtain ⟨b, v, hx, r1, r2⟩ := he.get hk
    refine ⟨⟨e2 _ _ (e1 _ _ hF), (List.getElem?_eq_some_iff.mp hx).1⟩, fun x H' ⟨T, e', hxe, hx', hT, hH⟩ => ?_⟩
    subst hx' hH
    rw [hx] at hxe
    cases hxe
    exact ⟨upd F1 T (.tup [.ref b, .ref v]), Grow.new e2 hT, .tup upd_same (.cons ((r1.mono e1).mono (Same.upd_new (same_none e2 hT))) (.cons ((r2.mono e1).mono (Same.upd_new (same_none e2 hT))) .nil))⟩, fun hn => ⟨e2 _ _ (e1 _ _ hF), by
    have := List.getElem?_eq_none_iff.mp hn
    rw [he.len]
    simpa using this⟩⟩
theorem di_itemsN {X : Cx} {ρ : Env'} {x : Str} {px apos cpos tpos : Pos} {elts : List Expr} {kk : Nat} (i : Nat) {d : Addr} {kvs : List (PK × List Int)} (hi : ρ[i]? = some (.st d (.ndF X.prog X.w d kvs)))
    (hxN : X.N[i]? = some x := by rfl) (hv : Vis X.env.scope x := by first | exact Or.inl rfl | exact Or.inr (Or.inl rfl) | exact Or.inr (Or.inr rfl)) (hd : (x == ("__debug__" : Str)) = false := by decide) (hcd : (x == ("__classdict__" : Str)) = false := by decide)
    (hbase : attributeBase (.Name x px) "items" X.env (eval (.Name x px) X.env) = eval (.Name x px) X.env := by rfl) (hline : (apos.endLine == cpos.line) = true := by rfl) :
    DI X ρ (.Tuple elts kk tpos) (.Call (.Attribute (.Name x px) "items" apos) [] [] cpos) (kvs.map itemN) :=
  PI.imp (pi_itemsN (pe_var hxN hv hd hcd) hbase hline) fun σ H R ⟨F, ok, k⟩ => by
    obtain ⟨o, h1, h2, u, h3, od, xs, h4, h5⟩ := ok.at_ i _ hi
    subst h2 h4
    exact ⟨.ref d, h1, d, od, xs, rfl, ok.s _ _ h3, k _ F H (GrowX.refl ok.s) (jok_itemsN h3 h5)⟩
end Tw

/-! Tw: dict comprehensions with keys of two tuples -/
namespace Tw
open PySem PySem.Spec PyProof.Rows L2
/-- the turn's end: key b, value va go into the dict at D -/
def PutTo (P : Program) (w : World) (D : Addr) (y z : V) (H5 : Hp) (Nx : Hp → Prop) : Prop := ∃ xs k b va F, y = .ref b ∧ z = .ref va ∧ H5 D = some (ndHO P w D xs) ∧ Same F H5 ∧ Rp F (.ref b) (keyD k) ∧ KeysOk F xs ∧ k ∉ xs.map (·.1) ∧ xs.length < sizeLine ∧ Nx (upd H5 D (ndHO P w D (xs ++ [(k, b, va)])))
/-- {k: v for target in iter} -/
def tDcN (P : Program) (w : World) (wi : TI) (g : TG) (tk tv : TE) (vs : List Nat) : TE := fun σ H Q => wi σ H fun J H1 => ∀ D, H1 D = none →
  ∃ W : Nat → Nat → Hp → Prop, (∃ m, W 0 m (upd H1 D (ndHO P w D []))) ∧ ∀ i m H, W i m H →
    (J.stop i H ∧ Q (.ref D) H) ∨ (J.go i H ∧ ∃ Nx : Hp → Prop, (∀ H', Nx H' → ∃ m', m' < m ∧ W (i + 1) m' H') ∧ ∀ x H', J.yld i H x H' → g x (wipe σ vs) H' fun σ2 H2 => wipe σ2 vs = wipe σ vs ∧ tk σ2 H2 fun y H4 => tv σ2 H4 fun z H5 => PutTo P w D y z H5 Nx)
section
variable {X : Cx} {kx vx tg iter : Expr} {scope : Scope} {own : List (Str × Nat)} {pos pos' : Pos} {wi : TI} {g : TG} {tk tv : TE}
theorem put_step {pins : List (Addr × Obj)} {σ : L2.St} {H : Hp} {s : Shared} {E : Value → Shared → Prop} {D : Addr} {y z : V} {u r : Value} {Q : Unit → Shared → Prop} {Nx : Hp → Prop} (hu : X.A.units + 16 < cLine) (I : Inv X pins σ H s) (ry : RelV y u) (rz : RelV z r)
    (hp : PutTo X.prog X.w D y z H Nx) (h : ∀ s' H', Inv X pins σ H' s' → Nx H' → Q () s') : wpAny (model X.prog X.w) X.A (dictSet D u r) Q E s := by
  obtain ⟨xs, k, b, va, F, rfl, rfl, hD, e, rk, ks, hk, hl, q⟩ := hp
  obtain rfl : u = Value.ref b := ry
  obtain rfl : r = Value.ref va := rz
  have raw := nd_at I.hok hD
  refine wpAny_dictSet_heap (knd := nestedKind X.prog X.w) (hsz := by unfold ndEs; rw [List.length_map]; exact Nat.le_of_lt hl) (show X.A.units + 8 < cLine by omega) (is_key I.hok e rk) (dict_of raw I.hok e ks) fun h' hm hs => ?_
  exact h _ _ (nd_put I hD hk hl hm hs) q
theorem dcn_core {pins : List (Addr × Obj)} {s : Shared} {σ : L2.St} {H : Hp} {Q : VK} {use : Option (Value → Sem Unit)} {Qf : Value → Shared → Prop} (hu : X.A.units + 16 < cLine)
    (hc : X.calm = true) (hN : X.N.Nodup) (I : Inv X pins σ H s) (hi : PI X tg iter wi) (ok : BlkOk X.N X.env.scope scope own) (hg : Blk X scope fun Y => PG Y tg g) (hk : Blk X scope fun Y => PE Y kx tk) (he : Blk X scope fun Y => PE Y vx tv) (hs : ∀ x, foldedSetIterable iter X.env x = pure x)
    (h : tDcN X.prog X.w wi g tk tv (own.map (·.2)) σ H Q) (hEnd : ∀ D C s' m H', Inv X pins σ H' s' → Q (.ref D) H' → s'.heap.Ns C m → FpOk X pins H' C → compPost (model X.prog X.w) X.A X.xe use Qf (.ref D) C (.ok .next) s') :
    wpAny (model X.prog X.w) X.A (comprehension (.DictComp kx vx [⟨tg, iter, [], 0⟩] scope pos) scope X.env pos' newDict false (eval iter X.env) use) Qf X.xe s := by
  have caught : ∀ n ∈ scope.names, n.2 = .free → ∃ c, X.env.cells.lookup n.1 = some c := fun n hn e => (ok.free n hn e).elim (fun k => I.ok.has _ (.inl k)) fun k => I.ok.has _ (.inr k)
  refine wpAny_comprehension_free (use := use) rfl hs (closure_ok caught) ok.kind (fun n hn e => by rw [ok.uniq n hn, e]) (thn (hi.run pins s σ H _ I h) fun xv sa hx => thn hx fun iv sb hb => ?_)
  obtain ⟨it, fp, tn, J, Hb, e, Ib, T, stb, fb, turns⟩ := hb
  subst e
  refine wpAny_newObj_type (newEnv_comp ?_)
  generalize hD : sb.heap.objs.size = D
  have nD : Hb D = none := Ib.hok.fresh (Nat.le_of_eq hD)
  obtain ⟨W, ⟨m0, w0⟩, turn⟩ := turns D nD
  generalize hsc : ({ sb with heap := sb.heap.push { cls := .type "dict", data := .dict #[] } } : Shared) = sc
  have hc3 : sc.heap = sb.heap.push { cls := .type "dict", data := .dict #[] } := by rw [← hsc]
  have Ic : Inv X pins σ (upd Hb D (ndHO X.prog X.w D [])) sc := by
    rw [← hsc]
    refine Ib.laid (t' := sb.toks) (fun a o q => Heap.get?_push_of_some _ q) (Nat.le_of_eq hD) (nd_ok ⟨?_, Nat.zero_le _, { cls := .type "dict", data := .dict #[] }, #[], 0, ?_, ⟨rfl, rfl, rfl⟩, rfl, rfl, List.nodup_nil⟩)
    · rw [← hD]; exact beq_eq_false_iff_ne.mpr (Ne.symm (Nat.ne_of_lt Ib.big))
    · rw [← hD]; exact Heap.get?_push_size _ rfl
  have fc : ∀ a ∈ fp, FpOk X pins (upd Hb D (ndHO X.prog X.w D [])) a ∧ a < sc.heap.objs.size := fun a ha => by
    obtain ⟨o, ho, _⟩ := T.obj _ _ stb a ha
    have lt := Heap.lt_size ho
    refine ⟨⟨?_, (fb a ha).2⟩, by rw [hc3, Heap.size_push]; exact Nat.lt_succ_of_lt lt⟩
    rw [upd_ne (by rw [← hD]; exact Nat.ne_of_lt lt)]
    exact (fb a ha).1
  have stc : tn 0 sc.heap := T.keep _ _ _ stb fun a _ o q => by rw [hc3]; exact Heap.get?_push_of_some _ q
  have Id := block_start Ic ok hN fc
  generalize hH : upd Hb D (ndHO X.prog X.w D []) = Hc at Ic Id fc w0
  generalize hcl : cellsFrom (sc.heap.objs.size + 1) scope.names (cloFrom X.env.cells scope.names []) = cl at Id
  have pg := hg sc Hc sc.heap.objs.size cl fp
  have pk := hk sc Hc sc.heap.objs.size cl fp
  have pe := he sc Hc sc.heap.objs.size cl fp
  show codeAny _ _ (.compStart (.DictComp kx vx [⟨tg, iter, [], 0⟩] scope pos) 0 (.ref it) (.ref D) (compEnvC scope cl sc.heap.objs.size X.env)) (compPost (model X.prog X.w) X.A X.xe use Qf (.ref D) sc.heap.objs.size)
    { sc with heap := pushCells (sc.heap.push { cls := .type "dict", data := .dict #[] }) scope.names }
  generalize hce : compEnvC scope cl sc.heap.objs.size X.env = ce at Id pg pk pe ⊢
  have cL : ce.locals = sc.heap.objs.size := by subst hce; rfl
  generalize hsd : ({ sc with heap := pushCells (sc.heap.push { cls := .type "dict", data := .dict #[] }) scope.names } : Shared) = sd at Id ⊢
  have std : tn 0 sd.heap := T.keep _ _ _ stc fun a _ o q => by rw [← hsd]; exact pushCells_keeps _ _ _ _ (Heap.get?_push_of_some _ q)
  have stands : ∀ {σ' : L2.St} {H' : Hp} {s' : Shared}, Inv (X.blk sc Hc scope ce fp) [] σ' H' s' → (∀ a ∈ fp, H' a = none) → ∀ a ∈ fp, FpOk (X.blk sc Hc scope ce fp) [] H' a := fun {σ' H' s'} J' hn a ha => by
    have x1 := J'.ok.exf a ha
    exact ⟨hn a ha, x1.1, J'.ok.exfs a ha, .inl ha, fun x c q => x1.2 x c q, fun p hp => absurd (show p ∈ ([] : List (Addr × Obj)) ++ [] from hp) (by simp)⟩
  have loop : codeAny (model X.prog X.w) X.A (.compLoop (.DictComp kx vx [⟨tg, iter, [], 0⟩] scope pos) 0 (.ref it) (.ref D) ce) (compPost (model X.prog X.w) X.A X.xe use Qf (.ref D) sc.heap.objs.size) sd := by
    refine compLoop_anyD (fun n s' => ∃ i H', Inv (X.blk sc Hc scope ce fp) [] (wipe σ (own.map (·.2))) H' s' ∧ tn i s'.heap ∧ (∀ a ∈ fp, H' a = none) ∧ W i n H') ?_ m0 ⟨0, Hc, Id, std, fun a ha => (fc a ha).1.1, w0⟩
    rintro n s5 ⟨i, H5, I5, st5, n5, w5⟩
    rcases turn i n H5 w5 with ⟨stop, qq⟩ | ⟨go, Nx, hNx, step⟩
    · refine thnF (T.done (X.blk sc Hc scope ce fp) rfl rfl rfl hc i [] s5 _ H5 (fun _ _ => False) I5 (stands I5 n5) st5 stop) fun r s6 ⟨hr, I6⟩ => ?_
      subst hr
      have I7 : Inv X pins σ H5 s6 := Ic.call' (ch := fp) I6.os I6.base I6.hok I6.bare fun a ha => let ⟨⟨_, b1, b2, b3, b4, b5⟩, _⟩ := fc a ha; ⟨b3, b1, b4, b5⟩
      have nC : H5 ce.locals = none := I6.free
      obtain ⟨m, hn, _⟩ := I6.loc
      have hn : s6.heap.Ns ce.locals m := hn
      rw [cL] at hn nC
      exact hEnd D sc.heap.objs.size s6 m H5 I7 qq hn (Ic.fpOk (Nat.le_refl _) nC)
    · refine thnF (T.item (X.blk sc Hc scope ce fp) rfl rfl rfl hc i [] s5 _ H5 (fun _ _ => False) I5 (stands I5 n5) st5 go) fun r s6 ⟨u, hr, h6⟩ => ?_
      subst hr
      refine thnF h6 fun _ s7 ⟨x, H7, I7, r7, y7, st7, n7⟩ => ?_
      refine thnF (pg.run _ s7 _ H7 x u _ (I7.pinned (stands I7 n7) (T.obj _ _ st7)) r7 (step x H7 y7)) fun _ s8 ⟨σ8, H8, I8, hw8, q8⟩ => ?_
      refine wpAny_pure ?_
      simp only [if_true]
      refine thnF (pk.run _ s8 σ8 H8 _ I8 q8) fun z s10 ⟨yk, H10, I10, r10, q10⟩ => ?_
      refine thnF (pe.run _ s10 σ8 H10 _ I10 q10) fun z2 s11 ⟨yv, H11, I11, r11, put⟩ => ?_
      refine put_step (X := X.blk sc Hc scope ce fp) hu I11 r10 r11 put fun s' H' I' nx => ?_
      obtain ⟨m', hm, w'⟩ := hNx H' nx
      have pinned : ∀ a ∈ fp, ∀ o, s7.heap.get? a = some o → s'.heap.get? a = some o ∧ H' a = none := fun a ha o q =>
        let z := I'.pin (a, o) (List.mem_append_right _ (List.mem_append_right _ (mem_pinsAt ha q)))
        ⟨z.1, z.2.1⟩
      refine ⟨m', hm, i + 1, H', (I'.unpinned (pins := [])).weak (by rw [← hw8, wipe_length]) (fun j v q => ?_), T.keep _ _ _ st7 fun a ha o q => (pinned a ha o q).1, fun a ha => ?_, w'⟩
      · rw [← hw8] at q; exact (wipe_some q).1
      · obtain ⟨o, q, _⟩ := T.obj _ _ st7 a ha
        exact (pinned a ha o q).2
  exact codeAny_compStart_dict loop (T.self X.A 0 _ _ _ std loop)
theorem sw_trueD {py : Pos} {y : Str} {l : Nat} {gs : List Comprehension} {env : Env} (hk : env.scope.kind = .function) (hy : env.scope.names.lookup y = some .local) (hl : (py.line == pos.line) = true) (ha : (scope.names.any fun (n, k) => n == y && (k == .local || k == .cell)) = false) :
    swapsWith (.DictComp kx vx gs scope pos) (some (.Name y py)) l env = pure true := by
  have ky : env.kindOf y = some .local := hy
  have hb : env.blockKind = .function := by unfold Env.blockKind; rw [hk]; rfl
  unfold swapsWith
  simp only [hb, ky, ha, Expr.pos, hl]
  rfl
theorem ps_setDcN {i : Nat} {y : Str} {py spos : Pos} (hu : X.A.units + 16 < cLine) (hc : X.calm = true) (hN : X.N.Nodup) (hy : X.N[i]? = some y) (hyl : X.env.scope.names.lookup y = some .local) (hsw : swapsWith (.DictComp kx vx [⟨tg, iter, [], 0⟩] scope pos) (some (.Name y py)) spos.line X.env = pure true) (hi : PI X tg iter wi) (ok : BlkOk X.N X.env.scope scope own)
    (hg : Blk X scope fun Y => PG Y tg g) (hk : Blk X scope fun Y => PE Y kx tk) (he : Blk X scope fun Y => PE Y vx tv) (hs : ∀ x, foldedSetIterable iter X.env x = pure x := by intro _; rfl) :
    PS X (.Assign [.Name y py] (.DictComp kx vx [⟨tg, iter, [], 0⟩] scope pos) spos) (tAsg (tDcN X.prog X.w wi g tk tv (own.map (·.2))) (gName i)) := by
  refine ⟨fun pins s σ H D I h => ?_⟩
  rw [exec_Assign_Name_used _ _ _ _ hsw]
  refine wpAny_bind (wpAny_standAt (wpAny_bind ?_))
  show wpAny _ X.A (do let _ ← comprehension (.DictComp kx vx [⟨tg, iter, [], 0⟩] scope pos) scope X.env (firstIterPos [⟨tg, iter, [], 0⟩] pos) newDict false (eval iter X.env) (some (assign (.Name y py) X.env))) _ _ s
  have h : tDcN X.prog X.w wi g tk tv (own.map (·.2)) σ H (fun x H1 => gName i x σ H1 D.nx) := h
  refine wpAny_bind (thn (dcn_core (Qf := fun _ s' => SP X pins D .next s') hu hc hN I hi ok hg hk he hs h fun L C s' m H' I' q hn f => ?_) fun _ s' hq => wpAny_pure (wpAny_pure hq))
  show wpAny _ _ (assign (.Name y py) X.env (.ref L)) _ _ _
  refine wpAny_assign_Name (store_ok2 (v := V.ref L) I' hN hy (.inl hyl) rfl (fun s2 I2 ⟨a, sb, ha⟩ => ?_) (.inr hyl))
  obtain ⟨g0, g1, g2, g3, g4, g5⟩ := f
  have ne : C ≠ a := ha.elim (fun z => by rw [z]; exact g1) fun z e => g4 y a z e.symm
  exact ⟨m, hn.sameBut sb ne, fun h3 sb3 => ⟨_, H', I2.turned (t' := s2.toks) (fun b o hb e => (sb3.2 b hb).trans e) g0 g1 g3 g4 g5, q⟩⟩
end
/-! ## on data -/
section
variable {X : Cx} {ρ : Env'} {α : Type} {xs : List α} {enc : α → PyData} {kx vx tg iter : Expr} {scope : Scope} {pos : Pos} {own : List (Str × Nat)} {kf : α → PK} {vf : α → List Int}
theorem dcn_read (g : α → Env') (is : List Nat) (vsl : List Nat) (his : ∀ i ∈ is, i ∈ vsl) (hl : xs.length ≤ sizeLine) (hnd : (xs.map kf).Nodup) : ∀ σ H Q, tNP ρ (fun p => .nd X.prog X.w p (xs.map fun x => (kf x, vf x))) σ H Q →
    tDcN X.prog X.w (tDI ρ (xs.map enc)) (fun v σ H Q => ∃ x, x ∈ xs ∧ tDG (wipeE ρ vsl) (enc x) (g x) is v σ H Q) (fun σ H Q => ∃ x, x ∈ xs ∧ tD (g x) (keyD (kf x)) σ H Q) (fun σ H Q => ∃ x, x ∈ xs ∧ tD (g x) (wiD (vf x)) σ H Q) vsl σ H Q := by
  refine fun σ H Q ⟨F, ok1, k⟩ => ⟨F, ok1, fun J F2 H2 g2 hJ => ?_⟩
  intro D hD
  refine ⟨fun i m H3 => m = xs.length - i ∧ i ≤ xs.length ∧ ∃ F3, Grow F2 H2 F3 (fun a => if a = D then none else H3 a) ∧ Same F3 H3 ∧ F3 D = none ∧ ∃ vs, H3 D = some (ndHO X.prog X.w D vs) ∧ EntsOk F3 vs ((xs.take i).map fun x => (kf x, vf x)),
    ⟨xs.length, by simp, Nat.zero_le _, F2, ?_, g2.s.trans (Same.upd_new hD), same_none g2.s hD, [], upd_same, by simp; exact .nil⟩, ?_⟩
  · have e : (fun a => if a = D then none else upd H2 D (ndHO X.prog X.w D []) a) = H2 := by
      funext a
      by_cases ha : a = D
      · subst ha; rw [if_pos rfl, hD]
      · rw [if_neg ha, upd_ne ha]
    rw [e]; exact GrowX.refl g2.s
  rintro i m H3 ⟨rfl, hle, F3, g3, s3, hD3, vs, hvs, rvs⟩
  have nt : ∀ {ys : List V} {zs : List NE}, ndHO X.prog X.w D zs ≠ .tup ys := fun {ys zs} z => by
    have z' : HO.ext _ = HO.tup ys := z
    cases z'
  have gr : ∀ {F4 H4 : Hp}, Grow F3 H3 F4 H4 → F4 D = none ∧ H4 D = some (ndHO X.prog X.w D vs) := fun {F4 H4} g4 => ⟨g4.n D hD3 ⟨_, hvs, fun ys => nt⟩, g4.same D _ hvs⟩
  by_cases hlt : i < xs.length
  · right
    have hd : (xs.map enc)[i]? = some (enc xs[i]) := by rw [List.getElem?_map, List.getElem?_eq_getElem hlt]; rfl
    have hx : xs[i] ∈ xs := List.getElem_mem hlt
    obtain ⟨go, yl⟩ := (hJ i F3 H3 g3.f s3).1 _ hd
    refine ⟨go, fun H' => ∃ m', m' < xs.length - i ∧ (m' = xs.length - (i + 1) ∧ i + 1 ≤ xs.length ∧ ∃ F4, Grow F2 H2 F4 (fun a => if a = D then none else H' a) ∧ Same F4 H' ∧ F4 D = none ∧ ∃ vs, H' D = some (ndHO X.prog X.w D vs) ∧ EntsOk F4 vs ((xs.take (i + 1)).map fun x => (kf x, vf x))), fun H' h => h, fun x H4 hy => ?_⟩
    obtain ⟨F4, g4, rx⟩ := yl x H4 hy
    have o3 : Ok F3 H3 ρ σ := by
      have o2 := (ok1.grow g2).grow g3
      refine ⟨s3, o2.len, fun j e hj => ?_, o2.ne⟩
      obtain ⟨o, ho, h2⟩ := o2.at_ j e hj
      refine ⟨o, ho, ?_⟩
      cases e with
      | no => trivial
      | dat d => exact h2
      | val v => exact h2
      | fx q u => exact h2
      | st q w => exact h2
      | own p w =>
        obtain ⟨e1, e2, hho, e3, e4⟩ := h2
        refine ⟨e1, e2, hho, ?_, e4⟩
        have e3' : (if p = D then none else H3 p) = some hho := e3
        by_cases hp : p = D
        · rw [if_pos hp] at e3'; cases e3'
        · rw [if_neg hp] at e3'; exact e3'
    refine ⟨xs[i], hx, F4, (o3.grow g4).wipe _, rx, fun σ2 okx hw => ⟨by rw [hw _ his]; exact wipe_twice σ _, xs[i], hx, F4, okx, fun b F5 H5 g5 rb => ⟨xs[i], hx, F5, okx.grow g5, fun va F6 H6 g6 rv => ?_⟩⟩⟩
    have g46 := g4.trans (g5.trans g6)
    obtain ⟨b, ys, rfl, hb, ry⟩ := rb.tup_inv
    obtain ⟨va, us, rfl, hva, rus⟩ := rv.tup_inv
    have rb : Rp F6 (.ref b) (keyD (kf xs[i])) := (Rp.tup hb ry).mono g6.f
    have rv : Rp F6 (.ref va) (wiD (vf xs[i])) := Rp.tup hva rus
    have tk : xs.take (i + 1) = xs.take i ++ [xs[i]] := by rw [List.take_append_getElem hlt]
    have ents := rvs.mono g46.f
    have ky : vs.map (·.1) = (xs.take i).map kf := by rw [rvs.keys, List.map_map]; rfl
    refine ⟨vs, kf xs[i], b, va, F6, rfl, rfl, (gr g46).2, g46.s, rb, ents.ok, ?_, ?_, _, by omega, rfl, hlt, F6, ?_, ?_, (gr g46).1, _, upd_same, ?_⟩
    · rw [ky]
      intro hm
      have h1 := hnd
      rw [← List.take_append_drop i xs, List.map_append, List.nodup_append] at h1
      refine h1.2.2 _ hm _ (List.mem_map.mpr ⟨xs[i], ?_, rfl⟩) rfl
      rw [List.drop_eq_getElem_cons hlt]; exact List.mem_cons_self
    · rw [rvs.len, List.length_map, List.length_take]; omega
    · have e : (fun a => if a = D then none else upd H6 D (ndHO X.prog X.w D (vs ++ [(kf xs[i], b, va)])) a) = fun a => if a = D then none else H6 a := by
        funext a
        by_cases ha : a = D
        · rw [if_pos ha, if_pos ha]
        · rw [if_neg ha, if_neg ha, upd_ne ha]
      rw [e]
      exact grow_minus g3 g46 hD3 hvs hD (fun _ => nt)
    · intro c u hc
      have hcD : c ≠ D := fun z => by subst z; rw [(gr g46).1] at hc; cases hc
      rw [upd_ne hcD]
      exact g46.s c u hc
    · rw [tk, List.map_append]
      exact ents.append (.cons rb rv .nil)
  · left
    have hi' : i = xs.length := by omega
    subst hi'
    refine ⟨(hJ xs.length F3 H3 g3.f s3).2 (by simp), ?_⟩
    rw [List.take_length] at rvs
    exact k D (ndHO X.prog X.w D vs) F3 H3 (g2.trans ⟨g3.f, s3, fun c u hx hc => by
      have := g3.h c u hx hc
      by_cases h : c = D
      · subst h; rw [hD] at hc; cases hc
      · simpa [h] using this, fun c hc => by
      by_cases h : c = D
      · subst h; rw [hvs]; simp
      · have := g3.k c hc
        simpa [h] using this, fun c h1 h2 => g3.n c h1 h2, fun c h2 => by
      by_cases h : c = D
      · subst h; exact (h2.ne hD).elim
      · obtain ⟨o, q1, q2⟩ := g3.m c h2
        exact ⟨o, by simpa [h] using q1, q2⟩⟩) (Classical.byContradiction fun z => g2.k D z hD) hD3 hvs ⟨vs, rfl, rvs⟩
theorem dss_ownPS {ex : List Addr} {F0 H0 : Hp} {sts : List Stmt} {A : Aims} {st : Stmt} {w : Addr → Ow} (i : Nat) (hst : PS X st (tAsg (tNP ρ w) (gName i))) (k : ∀ p, DSs X ex F0 H0 (ρ.set i (.own p (w p))) sts A) : DSs X ex F0 H0 ρ (st :: sts) A :=
  dss_seq (N1 := fun ρ' => ∃ p, ρ' = ρ.set i (.own p (w p))) (PS.imp hst fun D σ H ⟨F, a, n, r, b, c⟩ => ⟨F, a.ok, fun p ho F2 H2 g hp hF hh hw => by
    have a2 := a.grow g
    refine n _ _ F2 H2 ⟨p, rfl⟩ g.f ⟨a2.g, a2.ok.set ⟨rfl, hF, ho, hh, hw⟩ fun q w e j q' w' hj _ => ?_, fun j q w' hj => ?_⟩
    · cases e
      intro z; subst z
      obtain ⟨_, _, ho', h1, _⟩ := a.ok.own hj
      rw [hp] at h1; cases h1
    · by_cases hij : i = j
      · subst hij
        have hl : i < ρ.length := by
          have := (List.getElem?_eq_some_iff.mp hj).1
          simpa using this
        rw [List.getElem?_set_self hl] at hj; cases hj
        refine .inl ?_
        cases q' : H0 p with
        | none => rfl
        | some u => exact (a.g.k p (by rw [q']; simp) hp).elim
      · rw [List.getElem?_set_ne hij] at hj; exact a.new j q w' hj⟩) fun _ ⟨p, h'⟩ => h' ▸ k p
/-- y = {k: v for target in iter} -/
theorem dss_setDcN {ex : List Addr} {F0 H0 : Hp} {sts : List Stmt} {A : Aims} {y : Str} {py spos : Pos} (i : Nat) (own : List (Str × Nat)) (g : α → Env') (is : List Nat) (kf : α → PK) (vf : α → List Int) (hu : X.A.units + 16 < cLine) (hc : X.calm = true) (hN : X.N.Nodup) (ok : BlkOk X.N X.env.scope scope own) (hi : DI X ρ tg iter (xs.map enc))
    (hg : ∀ x ∈ xs, Blk X scope fun Y => DG Y (wipeE ρ (own.map (·.2))) tg (enc x) (g x) is) (hk : ∀ x ∈ xs, Blk X scope fun Y => DE Y (g x) kx (keyD (kf x))) (he : ∀ x ∈ xs, Blk X scope fun Y => DE Y (g x) vx (wiD (vf x)))
    (his : ∀ i ∈ is, i ∈ own.map (·.2)) (hl : xs.length ≤ sizeLine) (hnd : (xs.map kf).Nodup) (k : ∀ p, DSs X ex F0 H0 (ρ.set i (.own p (.nd X.prog X.w p (xs.map fun x => (kf x, vf x))))) sts A)
    (hy : X.N[i]? = some y := by rfl) (hkd : X.env.scope.kind = .function := by rfl) (hyl : X.env.scope.names.lookup y = some .local := by rfl) (hln : (py.line == pos.line) = true := by rfl)
    (ha : (scope.names.any fun (n, k) => n == y && (k == .local || k == .cell)) = false := by rfl) (hs : ∀ x, foldedSetIterable iter X.env x = pure x := by intro _; rfl) :
    DSs X ex F0 H0 ρ (.Assign [.Name y py] (.DictComp kx vx [⟨tg, iter, [], 0⟩] scope pos) spos :: sts) A :=
  dss_ownPS i (PS.imp (ps_setDcN hu hc hN hy hyl (sw_trueD hkd hyl hln ha) hi ok (fun s H C cl fp => PG.any fun x hx => (hg x hx s H C cl fp).1) (fun s H C cl fp => PE.any fun x hx => hk x hx s H C cl fp) (fun s H C cl fp => PE.any fun x hx => he x hx s H C cl fp) hs) fun D σ H h => show tDcN _ _ _ _ _ _ _ σ H _ from dcn_read g is (own.map (·.2)) his hl hnd σ H _ h) k
/-- x = y, a thing that stands -/
theorem dss_copySt {ex : List Addr} {F0 H0 : Hp} {sts : List Stmt} {A : Aims} {x y : Str} {px pos' : Pos} (i j : Nat) {p : Addr} {w : Ow} (hN : X.N.Nodup) (hj : ρ[j]? = some (.st p w)) (k : DSs X ex F0 H0 (ρ.set i (.st p w)) sts A) (hi : X.N[i]? = some x := by rfl) (hx : Loc X.env.scope x := by first | exact Or.inl rfl | exact Or.inr rfl)
    (hyN : X.N[j]? = some y := by rfl) (hv : Vis X.env.scope y := by first | exact Or.inl rfl | exact Or.inr (Or.inl rfl) | exact Or.inr (Or.inr rfl)) (hd : (y == ("__debug__" : Str)) = false := by decide) (hcd : (y == ("__classdict__" : Str)) = false := by decide)
    (hs : swapsWith (.Name y px) (some (.Name x pos')) pos.line X.env = pure false := by rfl) (hf : X.fn x = true ∨ X.env.scope.names.lookup x = some .local := by first | exact .inl rfl | exact .inr rfl) : DSs X ex F0 H0 ρ (.Assign [.Name x pos'] (.Name y px) pos :: sts) A := by
  refine dss_seq (N1 := fun ρ' => ρ' = ρ.set i (.st p w)) ?_ fun _ h' => h' ▸ k
  refine PS.imp (ps_set (i := i) hN hi hx (pe_var hyN hv hd hcd) hs hf) fun D σ H ⟨F, a, n, r, b, c⟩ => ?_
  obtain ⟨o, h1, h2, u, hu, hw⟩ := a.ok.at_ j _ hj
  subst h2
  refine ⟨.ref p, h1, n _ _ F _ rfl (Same.refl _) ⟨a.g, a.ok.set ⟨rfl, u, hu, hw⟩ (fun q w' e => nomatch e), fun l q w' hl => ?_⟩⟩
  by_cases hil : i = l
  · subst hil
    have hlt : i < ρ.length := by
      have := (List.getElem?_eq_some_iff.mp hl).1
      simpa using this
    rw [List.getElem?_set_self hlt] at hl; cases hl
  · rw [List.getElem?_set_ne hil] at hl; exact a.new l q w' hl
end
end Tw

/-! Tw: e[::-1], tuples and lists -/
namespace Tw
open PySem PySem.Spec PyProof.Rows L2
section
variable {X : Cx} {ρ : Env'} {e : Expr} {te : TE} {k : Nat} {p1 p2 p3 pos : Pos} {ds : List PyData}
theorem pe_revA (he : PE X e te) : PE X (.Subscript e (.Slice none none (some (.UnaryOp .USub (.Constant (.int 1) k p1) p2)) p3) pos) (tRevT X.K te) := by
  refine ⟨fun pins s σ H Q I h => Subscript_ (thn (he.run pins s σ H _ I h) fun v sa ⟨x, Ha, Ia, ra, qa⟩ => ?_)⟩
  obtain ⟨a, xs, rfl, hs, q⟩ := qa
  cases ra
  have hm : PO X (some (.UnaryOp .USub (.Constant (.int 1) k p1) p2)) (tPart (tUn (rU fun i => .int (-i)) (tC (.int 1)))) := po_some (pe_un un_neg pe_int)
  refine wpAny_Slice (thn (po_none.run pins sa σ Ha (fun o H2 => o = none ∧ H2 = Ha) Ia ⟨rfl, rfl⟩) fun vl sb ⟨l, Hb, Ib, pl, z1, z2⟩ => ?_)
  cases z1; cases z2
  refine thn (po_none.run pins sb σ Ha (fun o H3 => o = none ∧ H3 = Ha) Ib ⟨rfl, rfl⟩) fun vu sc ⟨u, Hc, Ic, pu, z3, z4⟩ => ?_
  cases z3; cases z4
  refine thn (hm.run pins sc σ Ha (fun o H4 => o = some (-1) ∧ H4 = Ha) Ic ⟨1, rfl, -1, rfl, rfl, rfl⟩) fun vs sd ⟨o, Hd, Id, ps, z5, z6⟩ => ?_
  cases z5; cases z6
  have hz : vl = .none := by cases pl; rfl
  have hz2 : vu = .none := by cases pu; rfl
  obtain ⟨w, rfl⟩ : ∃ w, vs = .int (-1) w := by
    cases ps with
    | int i t => exact ⟨t, rfl⟩
  subst hz hz2
  have Ie : Inv X pins σ Ha { sd with heap := sd.heap.push { cls := .type "slice", data := .fields #[.none, .none, .int (-1) w] } } := Id.kept (t' := sd.toks) fun b ob q => Heap.get?_push_of_some _ q
  obtain ⟨its, rv, ht, hlen⟩ := Ie.tuple hs
  have hsz : its.toArray.size ≤ sizeLine := by
    have := rv.length
    simpa [← this] using hlen
  obtain ⟨ob, ho, hc, n, hd⟩ := id ht
  show wpAny (model X.prog X.w) X.A (subscriptTail e (.Slice none none (some (.UnaryOp .USub (.Constant (.int 1) k p1) p2)) p3) (.ref a) (.ref sd.heap.objs.size)) (EP X pins σ Q) X.xe _
  refine tail_any (ops := [.ref a, .ref sd.heap.objs.size]) (T := "tuple") ⟨ob, ho, hc⟩ PySem.F.slot_tuple_getitem.lookup ?_ (by with_unfolding_all rfl)
  refine getItem_tuple_back ht ⟨_, Heap.get?_push_size _ rfl, rfl, rfl⟩ hsz ?_
  have e1 : its.toArray.toList.reverse.toArray = its.reverse.toArray := by simp
  rw [e1]
  exact ⟨.ref _, _, Ie.laid (t' := sd.toks) (o := .tup xs.reverse) (fun b o hb => Heap.get?_push_of_some _ hb) (Nat.le_refl _) ⟨by simpa using hlen, its.reverse, rv.reverse, _, Heap.get?_push_size _ rfl, rfl, _, rfl⟩, rfl, q _ Ie.fresh⟩
theorem de_revA (he : DE X ρ e (.tuple ds)) : DE X ρ (.Subscript e (.Slice none none (some (.UnaryOp .USub (.Constant (.int 1) k p1) p2)) p3) pos) (.tuple ds.reverse) :=
  PE.imp (pe_revA he) fun σ H Q ⟨F, ok, kk⟩ => ⟨F, ok, fun v F2 H2 g r => by
    obtain ⟨a, xs, rfl, h1, r1⟩ := r.tup_inv
    exact ⟨a, xs, rfl, SqT.of (g.s _ _ h1), fun p hp => kk _ _ _ (g.trans (Grow.new g.s hp)) (.tup upd_same (r1.reverse.mono (Same.upd_new (same_none g.s hp))))⟩⟩
end
end Tw

/-! Tw: x = [.. for ..], the items drawn from a deck -/
namespace Tw
open PySem PySem.Spec PyProof.Rows L2
theorem dss_setLcK {X : Cx} {F0 H0 : Hp} {ρ : Env'} {sts : List Stmt} {A : Aims} {α : Type} {xs : List α} {enc : α → PyData} {elt tg iter : Expr} {scope : Scope} {pos spos py : Pos} {y : Str} {own : List (Str × Nat)} {p : Addr}
    (i jd : Nat) (n cost : Int) (g g2 : α → Int → Env') (Pf : α → PyData → Prop) (is : List Nat) (hc : X.calm = true) (hN : X.N.Nodup) (ok : BlkOk X.N X.env.scope scope own) (hi : DI X ρ tg iter (xs.map enc))
    (hjd : ρ[jd]? = some (.own p (.deck n)))
    (hg : ∀ x ∈ xs, ∀ m, Blk X scope fun Y => DG Y (wipeE (ρ.set jd (.own p (.deck m))) (own.map (·.2))) tg (enc x) (g x m) is)
    (he : ∀ x ∈ xs, ∀ m, n ≤ m → m + cost ≤ n + cost * xs.length → Blk X scope fun Y => WE Y [p] (g x m) elt (Pf x) (g2 x m))
    (hg2 : ∀ x m, (g2 x m)[jd]? = some (.own p (.deck (m + cost))))
    (hcost : 0 ≤ cost) (his : ∀ i ∈ is, i ∈ own.map (·.2)) (hl : xs.length ≤ sizeLine) (l : OwnLike (ρ.set jd (.own p (.deck (n + cost * xs.length)))) ρ)
    (k : ∀ ds, All2 Pf xs ds → DSs X [p] F0 H0 ((ρ.set jd (.own p (.deck (n + cost * xs.length)))).set i (.dat (.list ds))) sts A)
    (hy : X.N[i]? = some y := by rfl) (hkd : X.env.scope.kind = .function := by rfl) (hyl : X.env.scope.names.lookup y = some .local := by rfl) (hln : (py.line == pos.line) = true := by rfl)
    (ha : (scope.names.any fun (n, k) => n == y && (k == .local || k == .cell)) = false := by rfl) (hs : ∀ x, foldedSetIterable iter X.env x = pure x := by intro _; rfl) :
    DSs X [p] F0 H0 ρ (.Assign [.Name y py] (.ListComp elt [⟨tg, iter, [], 0⟩] scope pos) spos :: sts) A := by
  have hp : PS X (.Assign [.Name y py] (.ListComp elt [⟨tg, iter, [], 0⟩] scope pos) spos) (tAsg (tW [p] ρ (fun d => ∃ ds, d = .list ds ∧ All2 Pf xs ds) (ρ.set jd (.own p (.deck (n + cost * xs.length))))) (gName i)) :=
    PS.imp (ps_setLc hc hN hy hyl (sw_true hkd hyl hln ha) hi ok (fun s H C cl fp => PG.any fun x hx => (hg x.1 hx x.2 s H C cl fp).1) (fun s H C cl fp => pts_nil) (fun s H C cl fp => PE.any fun x hx => he x.1 hx.1 x.2 hx.2.1 hx.2.2 s H C cl fp) hs) fun D σ H h => show tLc _ _ _ _ _ σ H _ from lcK_read jd n cost g g2 Pf is hjd hg2 hcost his hl σ H _ h
  refine dss_seq (N1 := fun ρ' => ∃ ds, All2 Pf xs ds ∧ ρ' = (ρ.set jd (.own p (.deck (n + cost * xs.length)))).set i (.dat (.list ds))) (PS.imp hp fun D σ H ⟨F, a, nn, r, b, c⟩ => ⟨F, a.ok, fun d v F2 H2 ⟨ds, hd, hall⟩ g o rv => ?_⟩) fun _ ⟨ds, hd, h⟩ => h ▸ k ds hd
  subst hd
  exact nn _ _ F2 H2 ⟨ds, hall, rfl⟩ g.f ((a.like g o l).setD rv)
end Tw

namespace Tw
open PySem PySem.Spec PyProof.Rows L2
def topS (i : Nat) : Stmt := PySem.Challenge.pw_tirewish_k10_whole_hands_turned_about.main.body.getD i (.Pass ⟨0, 0, 0, 0⟩)
abbrev S_one_turn : Stmt := topS 1
abbrev S_run : Stmt := topS 2
abbrev S_added : Stmt := topS 4
abbrev S_walked : Stmt := topS 5
abbrev S_counted : Stmt := topS 6
abbrev S_comes_round : Stmt := topS 7
abbrev S_far : Stmt := topS 8
abbrev S_TooMany___init__ : Stmt := inClass (topS 12) 0
abbrev S_caps : Stmt := topS 14
abbrev S_all_wishes : Stmt := topS 15
abbrev S_longest : Stmt := topS 18
abbrev S_lacks : Stmt := topS 19
abbrev S_starving : Stmt := topS 20
abbrev S_parting : Stmt := topS 23
abbrev S__law_deck : Stmt := topS 25
abbrev S__law_pick : Stmt := topS 26
abbrev S__law_custom : Stmt := topS 27
abbrev S__law_wishes : Stmt := topS 28
abbrev S__law_had : Stmt := topS 29
abbrev S__law_after : Stmt := topS 30
abbrev S__law_all : Stmt := topS 31
abbrev S__law_small : Stmt := topS 32
abbrev S__law_turned : Stmt := topS 33
abbrev S__law_back : Stmt := topS 34
abbrev S_law : Stmt := topS 35
/-! ## one_turn -/
def nOne : List Str := ["custom", "wishes", "many", "ties", "hands", "sign", "hand", "wish", "order", "had", "after", "rise", "fall", "cap"]
theorem scOne : FnScope nOne ["custom", "wishes"] (defScope S_one_turn) := ⟨rfl, rfl, rfl, by decide +kernel, rfl, by decide +kernel, by decide +kernel⟩
section
variable {P : Program} {w : World} {K : PySem.W.Frag} {mg : Str → Option Value} {base : Heap}
theorem ok_one_turn {f : Addr} {fd : FuncData} (F : Fun K "one_turn" "one_turn" S_one_turn f fd) (B : Bn mg) : FnOk P w K mg base CX0 1 f fd ["custom", "wishes"] (spP prOne) := by
  refine fn_ok F scOne (fun ds d h => ?_) (fun ds d h f cdv A outer s H E F0 H0 hr => ?_)
  · obtain ⟨c, ws, rfl, _⟩ := h; rfl
  · obtain ⟨c, ws, rfl, hc, hw, rfl⟩ := h
    have nd := scOne.nd
    have hl : ws.length ≤ c.hands.length := Nat.le_of_eq hw.len
    have h64 : ws.length < 64 := by have := hc.four; omega
    have hm0 : 0 ≤ c.many := by have := hc.many1; omega
    -- many, ties, hands = custom
    refine dss_asg (de_var 0) (dg_tup (dgs_cons (dg_name 2 nd) (dgs_cons (dg_name 3 nd) (dgs_cons (dg_name 4 nd) dgs_nil)))) ?_
    -- sign = 1 if ties == 'first' else -1
    refine dss_set 5 nd (de_is (d2 := .int (signOf c)) (de_if (dt_cmp op_eq (de_var 3) de_str v_eqS) (fun _ => de_int) (fun _ => de_un un_neg de_int v_neg)) ?_) ?_
    · unfold signOf
      rw [tieS_first]
      cases c.first <;> rfl
    -- order = sorted([(-wish, sign * hand) for hand, wish in enumerate(wishes)])
    refine dss_set 8 nd (d := .list ((orderOf c ws).map pairD)) (de_callB cr_sortedPO B.sorted (by decide +kernel) (da_cons (de_is (d2 := .list (((enumI ws).map fun p => (-p.2, signOf c * p.1)).map pairD)) (de_lc (xs := enumI ws) (enc := fun p => .tuple [.int p.1, .int p.2]) (own := [("hand", 6), ("wish", 7)]) _ (fun _ => true) (fun p => pairD (-p.2, signOf c * p.1)) [6, 7] rfl nd (blkOk_by (N := nOne) (sc := defScope S_one_turn) (by decide +kernel))
      (by rw [← enumD_ints]; exact di_enumT (da_cons (de_var 1) da_nil) B.enumerate)
      (fun p _ _ _ _ _ _ => dg_tup (dgs_cons (dg_name 6 nd) (dgs_cons (dg_name 7 nd) dgs_nil)))
      (fun _ _ _ _ _ _ _ => pts_none)
      (fun p _ _ _ _ _ _ _ => de_tup (da_cons (de_un un_neg (de_var 7) v_neg) (da_cons (de_op op_mul (de_var 5) (de_var 6) (v_mul (signOf_mul c _))) da_nil)))
      (by decide) (by rw [enumI_len]; exact small64 h64)) (by rw [filter_tt, List.map_map]; rfl)) da_nil) v_sortP) ?_
    -- had = tuple(sorted([sign * hand for wish, hand in order[:many]]))
    refine dss_set 9 nd (d := wiD (hadOf c ws)) (de_callTy call_tuple_of B.tuple (by decide +kernel) (da_cons (de_callB cr_sorted B.sorted (by decide +kernel) (da_cons (de_is (de_lc (xs := takeI c.many (orderOf c ws)) (enc := pairD) (own := [("wish", 7), ("hand", 6)]) _ (fun _ => true) (fun p => .int (signOf c * p.2)) [7, 6] rfl nd (blkOk_by (N := nOne) (sc := defScope S_one_turn) (by decide +kernel))
      (by rw [← cutD_take]; exact di_list (de_sl sl_list (de_var 8) do_none (do_some (de_var 2)) v_slL))
      (fun p _ _ _ _ _ _ => dg_tup (dgs_cons (dg_name 7 nd) (dgs_cons (dg_name 6 nd) dgs_nil)))
      (fun _ _ _ _ _ _ _ => pts_none)
      (fun p _ _ _ _ _ _ _ => de_op op_mul (de_var 5) (de_var 6) (v_mul (signOf_mul c _)))
      (by decide) ?_) (by rw [filter_tt, List.map_map]; rfl)) da_nil) (v_sortI (ns := (takeI c.many (orderOf c ws)).map fun p => signOf c * p.2) ?_)) da_nil) v_tupL) ?_
    · refine Nat.le_trans (takeI_len _ _) (small64 ?_)
      rw [orderOf, (sortP_perm _).length_eq, List.length_map, enumI_len]; exact h64
    · rw [List.length_map]
      refine Nat.lt_of_le_of_lt (takeI_len _ _) ?_
      rw [orderOf, (sortP_perm _).length_eq, List.length_map, enumI_len]; exact h64
    rw [hadOf_eq c ws hm0]
    -- after = []
    refine dss_newl 10 nd fun p => ?_
    -- for hand, wish in enumerate(wishes)
    let I : Nat → Env' → Prop := fun i ρ => ρ = [.dat (cuD c), .dat (wiD ws), .dat (.int c.many), .dat (.str (tieS c.first)), .dat (.tuple (c.hands.map haD)), .dat (.int (signOf c)), .no, .no, .dat (.list ((orderOf c ws).map pairD)), .dat (wiD (had c ws)),
      .own p (.lst (((enumI ws).take i).map fun q => .int (stepOf (had c ws) c.hands q.1 q.2))), .no, .no, .no]
    refine dss_for I (di_enumT (da_cons (de_var 1) da_nil) B.enumerate) rfl (fun i x ρ' hx hI => ?_) (fun ρ' hI => ?_)
    · subst hI
      obtain ⟨wq, hw, rfl⟩ := enumD_int_get hx
      have hi : i < ws.length := (List.getElem?_eq_some_iff.mp hw).1
      refine ⟨_, _, dg_tup (dgs_cons (dg_name 6 nd) (dgs_cons (dg_name 7 nd) dgs_nil)), ?_⟩
      -- rise, fall, cap = hands[hand]
      refine dss_asg (de_ix ix_tup (de_var 4) (de_var 6) (v_ixT (atI_hand (Nat.lt_of_lt_of_le hi hl)))) (dg_tup (dgs_cons (dg_name 11 nd) (dgs_cons (dg_name 12 nd) (dgs_cons (dg_name 13 nd) dgs_nil)))) ?_
      refine dss_app 10 (d := .int (stepOf (had c ws) c.hands i wq)) (da_cons (de_is (de_if (dt_cmp op_in_seq (de_var 6) (de_var 9) v_inI) (fun _ => de_callB (call_max2 rfl) B.max (by decide +kernel) (da_cons de_int (da_cons (de_op op_sub (de_var 7) (de_var 12) v_sub) da_nil)) v_max2)
        (fun _ => de_callB (call_min2 rfl) B.min (by decide +kernel) (da_cons (de_var 13) (da_cons (de_op op_add (de_var 7) (de_var 11) v_add) da_nil)) v_min2)) ?_) da_nil) ?_ ?_
      · unfold stepOf
        by_cases hm : (i : Int) ∈ had c ws
        · rw [if_pos (decide_eq_true hm), if_pos hm]
        · rw [decide_eq_false hm, if_neg (by decide), if_neg hm]
      · rw [List.length_map, List.length_take, enumI_len]
        exact Nat.lt_of_le_of_lt (Nat.min_le_right _ _) (Nat.lt_of_lt_of_le h64 (by decide))
      · refine dss_nilF [6, 7, 11, 12, 13] ?_
        have e := enumI_take_succ (fun q : Int × Int => PyData.int (stepOf (had c ws) c.hands q.1 q.2)) hw
        show _ = _
        rw [e]; rfl
    · subst hI
      refine dss_freeze 10 (dss_ret (de_is (de_tup (da_cons (de_var 9) (da_cons (de_callTy call_tuple_of B.tuple (by decide +kernel) (da_cons (de_var 10) da_nil) v_tupL) da_nil))) ?_) rfl)
      have hn : (enumD (ws.map PyData.int)).length = (enumI ws).length := by rw [enumD_ints, List.length_map]
      rw [hn, List.take_length]
      unfold oneD wiD after afterBy
      rw [List.map_map]; rfl
end

/-! ## run -/
def nRun : List Str := ["custom", "wishes", "turns", "row", "number", "had"]
theorem scRun : FnScope nRun ["custom", "wishes", "turns"] (defScope S_run) := ⟨rfl, rfl, rfl, by decide +kernel, rfl, by decide +kernel, by decide +kernel⟩
section
variable {P : Program} {w : World} {K : PySem.W.Frag} {mg : Str → Option Value} {base : Heap}
/-- the row is a new list, the pair a new tuple -/
def spRun : Sp := fun vs H Q _ => ∃ F c ws n, Same F H ∧ RpA F vs [cuD c, wiD ws, .int n] ∧ WfC c ∧ WfW c ws ∧ 0 ≤ n ∧ n ≤ 1000000 ∧
  ∀ p t xs v F2 H2, Grow F H F2 H2 → H p = none → F2 p = none → H2 p = some (.lst xs) → RpA F2 xs ((rowN c ws n.toNat).map wiD) → H t = none → F2 t = none → H2 t = some (.tup [.ref p, v]) → Rp F2 v (wiD (wAt c ws n.toNat)) → Q (.ref t) H2
theorem ok_runS {f : Addr} {fd : FuncData} (F : Fun K "run" "run" S_run f fd) (B : Bn mg) (G1 : Cal P w K mg base 1 "one_turn" 2 (spP prOne)) : FnOk P w K mg base CX0 2 f fd ["custom", "wishes", "turns"] spRun := by
  refine F.ok scRun (fun vs H Q E h => ?_) (fun cdv A outer s H vs Q E hr h => ?_)
  · obtain ⟨F, c, ws, n, _, r, _⟩ := h; exact r.len
  · obtain ⟨F0, c, ws, n, e, r, hc, hw, hn0, hn1, kk⟩ := h
    have nd := scRun.nd
    have hn : (rngD 0 n.toNat).length = n.toNat := by simp [rngD]
    have body : DSs (Bod P w K mg base nRun "run" S_run f cdv A outer s H E) [] F0 H (entry [cuD c, wiD ws, .int n] nRun.length) (defBody S_run) { N := fun _ => False, R := fun _ _ => False, RR := Q } := by
      refine dss_newl 3 nd fun p => ?_
      let I : Nat → Env' → Prop := fun i ρ => ρ = [.dat (cuD c), .dat (wiD (wAt c ws i)), .dat (.int n), .own p (.lst ((rowN c ws i).map wiD)), .no, .no]
      refine dss_for I (di_range1 (da_cons (de_var 2) da_nil) B.range ⟨by omega, by omega⟩) rfl (fun i x ρ' hx hI => ?_) (fun ρ' hI => ?_)
      · subst hI
        obtain ⟨hi, rfl⟩ := rngD_get hx
        refine ⟨_, _, dg_name 4 nd, ?_⟩
        refine dss_asg (de_call (d := oneD c (wAt c ws i)) G1 hr (da_cons (de_var 0) (da_cons (de_var 1) da_nil)) ⟨c, wAt c ws i, rfl, hc, wf_at hc hw i, rfl⟩) (dg_tup (dgs_cons (dg_name 5 nd) (dgs_cons (dg_name 1 nd) dgs_nil))) ?_
        refine dss_app 3 (da_cons (de_var 5) da_nil) ?_ ?_
        · rw [List.length_map, rowN_len]
          exact Nat.lt_of_lt_of_le (show i < 1000001 by omega) (by decide)
        refine dss_nilF [4, 5] ?_
        show _ = _
        rw [rowN_succ, List.map_append]
        rfl
      · have hI' : ρ' = _ := hI
        rw [hn] at hI'
        subst hI'
        refine dss_retRaw (pe_tup (pa_cons (pv 3) (pa_cons (pv 1) pa_nil))) (fun σ F H1 a => ?_) (fun σ H Q Q' m h => ?_)
        · obtain ⟨xs, h1, h2, h3, h4⟩ := a.ok.lstIs (i := 3) rfl
          obtain ⟨v, h5, h6⟩ := a.ok.dat (i := 1) rfl
          refine ⟨_, h1, _, h5, by show 2 ≤ sizeLine; decide, fun t ht => ?_⟩
          have hp0 : H p = none := by
            rcases a.new 3 p _ rfl with q | q
            · exact q
            · cases q
          have ht0 : H t = none := by
            cases q : H t with
            | none => rfl
            | some u => exact absurd ht (a.g.k t (by rw [q]; simp))
          have hpt : p ≠ t := fun z => by subst z; rw [h3] at ht; cases ht
          exact kk p t xs v F (upd H1 t _) (a.g.trans (Grow.skip a.ok.s ht)) hp0 h2 (by rw [upd_ne hpt]; exact h3) h4 ht0 (same_none a.ok.s ht) upd_same h6
        · obtain ⟨_, h1, _, h5, h6, h7⟩ := h
          exact ⟨_, h1, _, h5, h6, fun t ht => m _ _ (h7 t ht)⟩
    refine ⟨_, body, F0, ⟨GrowX.refl e, ok_entry e r (Nat.le_of_ble_eq_true rfl), fun i p w q => ?_⟩, fun ρ' σ' F' H' hn => hn.elim, ⟨fun d v ρ' σ' F' H' h => h.elim, fun v H' h => h⟩, fun ρ' σ' F' H' hn => hn.elim, fun ρ' σ' F' H' hn => hn.elim⟩
    match i, q with
    | 0, q => cases q
    | 1, q => cases q
    | 2, q => cases q
    | 3, q => cases q
    | 4, q => cases q
    | 5, q => cases q
theorem ok_run {f : Addr} {fd : FuncData} (F : Fun K "run" "run" S_run f fd) (B : Bn mg) (G1 : Cal P w K mg base 1 "one_turn" 2 (spP prOne)) : FnOk P w K mg base CX0 2 f fd ["custom", "wishes", "turns"] (spP prRun) := by
  refine (ok_runS F B G1).imp fun vs H Q E ⟨F0, ds, d, e, r, ⟨c, ws, n, h1, hc, hw, h2, h3, h4⟩, k⟩ => ?_
  subst h1 h4
  refine ⟨F0, c, ws, n, e, r, hc, hw, h2, h3, fun p t xs v F2 H2 g p0 p1 p2 p3 t0 t1 t2 r2 => ?_⟩
  have hpt : p ≠ t := fun z => by subst z; rw [p2] at t2; cases t2
  have s1 : Same F2 (upd F2 p (.lst xs)) := Same.upd_new p1
  have s2 : Same (upd F2 p (.lst xs)) (upd (upd F2 p (.lst xs)) t (.tup [.ref p, v])) := Same.upd_new (by rw [upd_ne hpt.symm]; exact t1)
  have sH : Same (upd (upd F2 p (.lst xs)) t (.tup [.ref p, v])) H2 := fun b u q => by
    by_cases hb : b = t
    · subst hb; rw [upd_same] at q; rw [t2]; exact q
    · rw [upd_ne hb] at q
      by_cases hb' : b = p
      · subst hb'; rw [upd_same] at q; rw [p2]; exact q
      · rw [upd_ne hb'] at q; exact g.s b u q
  refine k (.ref t) (upd (upd F2 p (.lst xs)) t (.tup [.ref p, v])) H2 ⟨g.f.trans (s1.trans s2), sH, g.h, g.k, fun b q1 q2 => ?_, g.m⟩ (.tup upd_same (.cons ((Rp.lst upd_same (p3.mono s1)).mono s2) (.cons (r2.mono (s1.trans s2)) .nil)))
  have hb1 : b ≠ t := fun z => by subst z; exact q2.ne t0
  have hb2 : b ≠ p := fun z => by subst z; exact q2.ne p0
  rw [upd_ne hb1, upd_ne hb2]; exact g.n b q1 q2
end

/-! ## added -/
def addI (had cs : List Int) : List Int := (enumI cs).map fun p => p.2 + (if p.1 ∈ had then 1 else 0)
def prAdd (ds : List PyData) (d : PyData) : Prop := ∃ cs h, ds = [wiD cs, wiD h] ∧ cs.length ≤ 1000 ∧ d = wiD (addI h cs)
def nAdd : List Str := ["counts", "had", "hand", "count"]
theorem scAdd : FnScope nAdd ["counts", "had"] (defScope S_added) := ⟨rfl, rfl, rfl, by decide +kernel, rfl, by decide +kernel, by decide +kernel⟩
section
variable {P : Program} {w : World} {K : PySem.W.Frag} {mg : Str → Option Value} {base : Heap}
theorem ok_added {f : Addr} {fd : FuncData} (F : Fun K "added" "added" S_added f fd) (B : Bn mg) : FnOk P w K mg base CX0 1 f fd ["counts", "had"] (spP prAdd) := by
  refine fn_ok F scAdd (fun ds d h => ?_) (fun ds d h f cdv A outer s H E F0 H0 hr => ?_)
  · obtain ⟨cs, h, rfl, _⟩ := h; rfl
  · obtain ⟨cs, h, rfl, hl, rfl⟩ := h
    have nd := scAdd.nd
    refine dss_ret (de_is (de_callTy call_tuple_of B.tuple (by decide +kernel) (da_cons (de_lc (xs := enumI cs) (enc := fun p => .tuple [.int p.1, .int p.2]) (own := [("hand", 2), ("count", 3)]) _ (fun _ => true) (fun p => .int (p.2 + (if p.1 ∈ h then 1 else 0))) [2, 3] rfl nd (blkOk_by (N := nAdd) (sc := defScope S_added) (by decide +kernel))
      (by rw [← enumD_ints]; exact di_enumT (da_cons (de_var 0) da_nil) B.enumerate)
      (fun p _ _ _ _ _ _ => dg_tup (dgs_cons (dg_name 2 nd) (dgs_cons (dg_name 3 nd) dgs_nil)))
      (fun _ _ _ _ _ _ _ => pts_none)
      (fun p _ _ _ _ _ _ _ => de_is (de_op op_add (de_var 3) (de_callTy call_int1 B.int (by decide +kernel) (da_cons (de_cmp op_in_seq (de_var 2) (de_var 1) v_inI) da_nil) v_intB) v_add) (by
        by_cases hm : p.1 ∈ h
        · rw [decide_eq_true hm, if_pos hm]; rfl
        · rw [decide_eq_false hm, if_neg hm]; rfl))
      (by decide) (Nat.le_trans (by rw [enumI_len]; exact hl) (by decide))) da_nil) v_tupL) ?_) rfl
    rw [filter_tt]
    unfold wiD addI
    rw [List.map_map]; rfl
end

/-! ## counted -/
def cntI (n : Nat) (rs : List (List Int)) : List Int := rs.foldl (fun cs h => addI h cs) (List.replicate n 0)
theorem addI_len (h cs : List Int) : (addI h cs).length = cs.length := by unfold addI; rw [List.length_map, enumI_len]
theorem foldA_len (rs : List (List Int)) : ∀ cs : List Int, (rs.foldl (fun cs h => addI h cs) cs).length = cs.length := by
  induction rs with
  | nil => intro cs; rfl
  | cons r rs ih => intro cs; rw [List.foldl_cons, ih, addI_len]
theorem cntI_len (n : Nat) (rs : List (List Int)) : (cntI n rs).length = n := by unfold cntI; rw [foldA_len, List.length_replicate]
theorem cntI_snoc (n : Nat) (rs : List (List Int)) (h : List Int) : cntI n (rs ++ [h]) = addI h (cntI n rs) := by unfold cntI; rw [List.foldl_append]; rfl
def prCnt (ds : List PyData) (d : PyData) : Prop := ∃ c rs, ds = [cuD c, .list (rs.map wiD)] ∧ WfC c ∧ d = wiD (cntI c.hands.length rs)
def nCnt : List Str := ["custom", "row", "counts", "had"]
theorem scCnt : FnScope nCnt ["custom", "row"] (defScope S_counted) := ⟨rfl, rfl, rfl, by decide +kernel, rfl, by decide +kernel, by decide +kernel⟩
section
variable {P : Program} {w : World} {K : PySem.W.Frag} {mg : Str → Option Value} {base : Heap}
theorem ok_counted {f : Addr} {fd : FuncData} (F : Fun K "counted" "counted" S_counted f fd) (B : Bn mg) (G1 : Cal P w K mg base 1 "added" 2 (spP prAdd)) : FnOk P w K mg base CX0 2 f fd ["custom", "row"] (spP prCnt) := by
  refine fn_ok F scCnt (fun ds d h => ?_) (fun ds d h f cdv A outer s H E F0 H0 hr => ?_)
  · obtain ⟨c, rs, rfl, _⟩ := h; rfl
  · obtain ⟨c, rs, rfl, hc, rfl⟩ := h
    have nd := scCnt.nd
    have h2 := hc.two
    have h4 := hc.four
    refine dss_set 2 nd (d := wiD (List.replicate c.hands.length 0)) (de_is (de_op op_repT (de_tup (da_cons de_int da_nil)) (de_callB call_len_seq B.len (by decide +kernel) (da_cons (de_ix ix_tup (de_var 0) de_int (v_ixT (by rfl))) da_nil) v_lenT) (v_repT (by simp) (by rw [List.length_map]; omega) (by rw [List.length_map]; omega) (by decide))) ?_) ?_
    · rw [List.length_map, Int.toNat_natCast, rep_int]; rfl
    let I : Nat → Env' → Prop := fun i ρ => ρ = [.dat (cuD c), .dat (.list (rs.map wiD)), .dat (wiD (cntI c.hands.length (rs.take i))), .no]
    refine dss_for I (di_list (de_var 1)) rfl (fun i x ρ' hx hI => ?_) (fun ρ' hI => ?_)
    · subst hI
      rw [List.getElem?_map] at hx
      obtain ⟨h, hh, rfl⟩ := Option.map_eq_some_iff.mp hx
      refine ⟨_, _, dg_name 3 nd, ?_⟩
      refine dss_set 2 nd (de_call (d := wiD (addI h (cntI c.hands.length (rs.take i)))) G1 hr (da_cons (de_var 2) (da_cons (de_var 3) da_nil)) ⟨_, h, rfl, by rw [cntI_len]; omega, rfl⟩) (dss_nilF [3] ?_)
      show _ = _
      have e : rs.take (i + 1) = rs.take i ++ [h] := by
        have := take_map_succ (fun x : List Int => x) hh
        simpa using this
      rw [e, cntI_snoc]; rfl
    · have hI' : ρ' = _ := hI
      rw [List.length_map, List.take_length] at hI'
      subst hI'
      exact dss_ret (de_var 2) rfl
end

/-! ## rounds: the mathematics -/
theorem ind_len {h : List Int} {n : Nat} (hn : h.Nodup) (hb : ∀ x ∈ h, 0 ≤ x ∧ x < n) : (((List.range n).map fun (i : Nat) => (i : Int)).filter fun i => decide (i ∈ h)).length = h.length := by
  have hr : ((List.range n).map fun (i : Nat) => (i : Int)).Nodup := nodup_of_lt (castRange_sorted n)
  refine Nat.le_antisymm ?_ ?_
  · exact List.Nodup.length_le_of_subset (hr.filter _) fun x hx => by simpa using (List.mem_filter.mp hx).2
  · refine hn.length_le_of_subset fun x hx => List.mem_filter.mpr ⟨List.mem_map.mpr ⟨x.toNat, List.mem_range.mpr ?_, ?_⟩, by simpa using hx⟩
    · have := hb x hx; omega
    · have := hb x hx; omega
theorem sum_pairs (h : List Int) : ∀ l : List (Int × Int), (l.map fun p => p.2 + (if p.1 ∈ h then 1 else 0)).sum = (l.map (·.2)).sum + (((l.map (·.1)).filter fun i => decide (i ∈ h)).length : Int)
  | [] => rfl
  | p :: l => by
    simp only [List.map_cons, List.sum_cons, sum_pairs h l]
    by_cases hp : p.1 ∈ h
    · rw [List.filter_cons_of_pos (by simpa using hp), List.length_cons, if_pos hp]; push_cast; omega
    · rw [List.filter_cons_of_neg (by simpa using hp), if_neg hp]; omega
theorem addI_sum {h cs : List Int} (hn : h.Nodup) (hb : ∀ x ∈ h, 0 ≤ x ∧ x < cs.length) : (addI h cs).sum = cs.sum + (h.length : Int) := by
  unfold addI
  rw [sum_pairs, enumI_snd, enumI_fst, ind_len hn hb]
theorem foldA_sum {m : Int} {n : Nat} : ∀ (rs : List (List Int)) (cs : List Int), cs.length = n → (∀ h ∈ rs, h.Nodup ∧ (∀ x ∈ h, 0 ≤ x ∧ x < n) ∧ (h.length : Int) = m) → (rs.foldl (fun cs h => addI h cs) cs).sum = cs.sum + m * (rs.length : Int)
  | [], cs, _, _ => by simp
  | r :: rs, cs, hl, h => by
    obtain ⟨h1, h2, h3⟩ := h r (List.mem_cons_self ..)
    rw [List.foldl_cons, foldA_sum rs (addI r cs) (by rw [addI_len, hl]) (fun k hk => h k (List.mem_cons_of_mem _ hk)), addI_sum h1 (by rw [hl]; exact h2), h3, List.length_cons]
    push_cast
    rw [Int.mul_add]; omega
theorem rep_sum (n : Nat) : (List.replicate n (0 : Int)).sum = 0 := by
  induction n with
  | zero => rfl
  | succ n ih => rw [List.replicate_succ, List.sum_cons, ih]; rfl
theorem row_fine {c : Custom} {ws : List Int} (hc : WfC c) (hw : WfW c ws) : (had c ws).Nodup ∧ (∀ x ∈ had c ws, 0 ≤ x ∧ x < c.hands.length) ∧ ((had c ws).length : Int) = c.many := by
  refine ⟨nodup_of_lt (had_sorted c ws), fun x hx => ?_, had_len (by have := hc.many1; omega) (by have := hc.many2; have := hw.len; omega)⟩
  have := had_bound hx
  rw [hw.len] at this
  exact this
theorem rowN_mem {c : Custom} {ws : List Int} {n : Nat} {h : List Int} (hh : h ∈ rowN c ws n) : ∃ k, k < n ∧ h = had c (wAt c ws k) := by
  obtain ⟨k, hk, rfl⟩ := List.mem_map.mp hh
  exact ⟨k, List.mem_range.mp hk, rfl⟩
theorem cnt_sum {c : Custom} {ws : List Int} (hc : WfC c) (hw : WfW c ws) {rs : List (List Int)} (hr : ∀ h ∈ rs, ∃ k, h = had c (wAt c ws k)) : (cntI c.hands.length rs).sum = c.many * (rs.length : Int) := by
  unfold cntI
  rw [foldA_sum (m := c.many) (n := c.hands.length) rs _ (List.length_replicate ..) (fun h hh => ?_), rep_sum]
  · omega
  · obtain ⟨k, rfl⟩ := hr h hh
    exact row_fine hc (wf_at hc hw k)
theorem addI_get (h cs : List Int) (j : Nat) : (addI h cs)[j]? = cs[j]?.map fun v => v + (if (j : Int) ∈ h then 1 else 0) := by
  unfold addI
  rw [List.getElem?_map, enumI_get, Option.map_map]; rfl
theorem addI_comm (h k cs : List Int) : addI h (addI k cs) = addI k (addI h cs) := by
  refine List.ext_getElem? fun j => ?_
  rw [addI_get, addI_get, addI_get, addI_get, Option.map_map, Option.map_map]
  congr 1
  funext v
  simp only [Function.comp_apply]
  omega
theorem foldA_out (h : List Int) : ∀ (rs : List (List Int)) (cs : List Int), rs.foldl (fun cs h => addI h cs) (addI h cs) = addI h (rs.foldl (fun cs h => addI h cs) cs)
  | [], _ => rfl
  | r :: rs, cs => by rw [List.foldl_cons, List.foldl_cons, addI_comm, foldA_out h rs]
theorem foldA_swap : ∀ (a b : List (List Int)) (cs : List Int), (a ++ b).foldl (fun cs h => addI h cs) cs = (b ++ a).foldl (fun cs h => addI h cs) cs
  | [], b, cs => by simp
  | r :: a, b, cs => by
    rw [List.cons_append, List.foldl_cons, foldA_out, foldA_swap a b, List.foldl_append, List.foldl_append, List.foldl_cons, foldA_out]
theorem cnt_swap (n : Nat) (a b : List (List Int)) : cntI n (a ++ b) = cntI n (b ++ a) := foldA_swap a b _
theorem Round.per {c : Custom} {ws : List Int} {i n : Nat} (h : Round c ws i n) (m : Nat) : wAt c ws (i + m + (n - i)) = wAt c ws (i + m) := by
  have hl := h.lt
  rw [show i + m + (n - i) = n + m by omega, wAt_add, ← h.again, ← wAt_add]
theorem Round.turn {c : Custom} {ws : List Int} {i n t : Nat} (h : Round c ws i n) (ht : t < n - i) : Round c (wAt c ws (i + t)) 0 (n - i) := by
  have hl := h.lt
  refine ⟨fun j k hjk hk => ?_, by omega, ?_⟩
  · rw [← wAt_add, ← wAt_add]
    have red : ∀ m, m < n - i + (n - i) → ∃ r, r < n - i ∧ wAt c ws (i + m) = wAt c ws (i + r) ∧ (m = r ∨ m = r + (n - i)) := fun m hm => by
      by_cases h1 : m < n - i
      · exact ⟨m, h1, rfl, .inl rfl⟩
      · refine ⟨m - (n - i), by omega, ?_, .inr (by omega)⟩
        have := h.per (m - (n - i))
        rw [← this]
        congr 1
        omega
    obtain ⟨r1, a1, a2, a3⟩ := red (t + j) (by omega)
    obtain ⟨r2, b1, b2, b3⟩ := red (t + k) (by omega)
    rw [Nat.add_assoc, Nat.add_assoc, a2, b2]
    have hne : r1 ≠ r2 := by omega
    rcases Nat.lt_trichotomy r1 r2 with q | q | q
    · exact h.dist _ _ (by omega) (by omega)
    · exact (hne q).elim
    · exact fun z => h.dist _ _ (show i + r2 < i + r1 by omega) (by omega) z.symm
  · show wAt c ws (i + t) = wAt c (wAt c ws (i + t)) (n - i)
    rw [← wAt_add]
    exact (h.per t).symm
theorem rowN_get (c : Custom) (ws : List Int) (n j : Nat) : (rowN c ws n)[j]? = if j < n then some (had c (wAt c ws j)) else none := by
  unfold rowN
  rw [List.getElem?_map]
  by_cases h : j < n
  · rw [List.getElem?_range h, if_pos h]; rfl
  · rw [if_neg h, List.getElem?_eq_none_iff.mpr (by simp; omega)]; rfl
theorem rowN_drop (c : Custom) (ws : List Int) (i n : Nat) : (rowN c ws n).drop i = rowN c (wAt c ws i) (n - i) := by
  refine List.ext_getElem? fun j => ?_
  rw [List.getElem?_drop, rowN_get, rowN_get, ← wAt_add]
  by_cases h : i + j < n
  · rw [if_pos h, if_pos (by omega)]
  · rw [if_neg h, if_neg (by omega)]
theorem Round.rows {c : Custom} {ws : List Int} {i n t : Nat} (h : Round c ws i n) (ht : t < n - i) : rowN c (wAt c ws (i + t)) (n - i) = (rowN c (wAt c ws i) (n - i)).drop t ++ (rowN c (wAt c ws i) (n - i)).take t := by
  refine List.ext_getElem? fun j => ?_
  rw [rowN_get, ← wAt_add]
  have hdl : ((rowN c (wAt c ws i) (n - i)).drop t).length = n - i - t := by rw [List.length_drop, rowN_len]
  by_cases h1 : j < n - i - t
  · rw [List.getElem?_append_left (by omega), List.getElem?_drop, rowN_get, if_pos (by omega), if_pos (by omega), ← wAt_add, Nat.add_assoc]
  · rw [List.getElem?_append_right (by omega), hdl]
    by_cases h2 : j < n - i
    · rw [if_pos h2, List.getElem?_take_of_lt (by omega), rowN_get, if_pos (by omega), ← wAt_add]
      have := h.per (j - (n - i - t))
      rw [← this]
      congr 3
      omega
    · rw [if_neg h2, eq_comm, List.getElem?_eq_none_iff, List.length_take, rowN_len]
      omega
theorem Round.counts {c : Custom} {ws : List Int} {i n t : Nat} (h : Round c ws i n) (ht : t < n - i) (m : Nat) : cntI m (rowN c (wAt c ws (i + t)) (n - i)) = cntI m ((rowN c ws n).drop i) := by
  rw [h.rows ht, cnt_swap, List.take_append_drop, rowN_drop]

/-! ## far turns: the mathematics -/
def ind (h : List Int) (j : Nat) : Int := if (j : Int) ∈ h then 1 else 0
def cnt (j : Nat) (rs : List (List Int)) : Int := (rs.map fun h => ind h j).sum
theorem cnt_nil (j : Nat) : cnt j [] = 0 := rfl
theorem cnt_append (j : Nat) (a b : List (List Int)) : cnt j (a ++ b) = cnt j a + cnt j b := by unfold cnt; rw [List.map_append, List.sum_append]
theorem cnt_one (j : Nat) (h : List Int) : cnt j [h] = ind h j := by unfold cnt; simp
theorem foldA_get (j : Nat) : ∀ (rs : List (List Int)) (cs : List Int), (rs.foldl (fun cs h => addI h cs) cs)[j]? = cs[j]?.map fun v => v + cnt j rs
  | [], cs => by simp [cnt_nil]
  | r :: rs, cs => by
    rw [List.foldl_cons, foldA_get j rs, addI_get, Option.map_map, show r :: rs = [r] ++ rs from rfl, cnt_append, cnt_one]
    congr 1
    funext v
    simp only [Function.comp_apply, ind]
    omega
theorem cntI_get (m j : Nat) (rs : List (List Int)) : (cntI m rs)[j]? = if j < m then some (cnt j rs) else none := by
  unfold cntI
  rw [foldA_get, List.getElem?_replicate]
  by_cases h : j < m
  · rw [if_pos h, if_pos h]; simp
  · rw [if_neg h, if_neg h]; rfl
theorem cntI_zip (m : Nat) (a b c : List (List Int)) (q : Int) (h : ∀ j, cnt j a + q * cnt j b = cnt j c) : ((cntI m a).zip (cntI m b)).map (fun p => p.1 + q * p.2) = cntI m c := by
  refine List.ext_getElem? fun j => ?_
  rw [List.getElem?_map, List.zip, List.getElem?_zipWith, cntI_get, cntI_get, cntI_get]
  by_cases hj : j < m
  · rw [if_pos hj, if_pos hj, if_pos hj]
    simp [h j]
  · rw [if_neg hj, if_neg hj, if_neg hj]; rfl
theorem rowN_add (c : Custom) (ws : List Int) (a : Nat) : ∀ b, rowN c ws (a + b) = rowN c ws a ++ rowN c (wAt c ws a) b
  | 0 => by simp [rowN]
  | b + 1 => by
    rw [show a + (b + 1) = (a + b) + 1 from rfl, rowN_succ, rowN_add c ws a b, rowN_succ, List.append_assoc]
    unfold hadAt
    rw [wAt_add]
theorem rowN_take (c : Custom) (ws : List Int) {a n : Nat} (h : a ≤ n) : (rowN c ws n).take a = rowN c ws a := by
  obtain ⟨b, rfl⟩ := Nat.exists_eq_add_of_le h
  rw [rowN_add, List.take_append_of_le_length (by rw [rowN_len]; exact Nat.le_refl _), List.take_of_length_le (by rw [rowN_len]; exact Nat.le_refl _)]
theorem rowN_one (c : Custom) (ws : List Int) : rowN c ws 1 = [had c ws] := rfl
theorem Round.block {c : Custom} {ws : List Int} {i n : Nat} (h : Round c ws i n) (j s : Nat) : cnt j (rowN c (wAt c ws (i + s)) (n - i)) = cnt j ((rowN c ws n).drop i) := by
  induction s with
  | zero => rw [rowN_drop]; rfl
  | succ s ih =>
    rw [← ih]
    have e1 := rowN_add c (wAt c ws (i + s)) (n - i) 1
    have e2 := rowN_add c (wAt c ws (i + s)) 1 (n - i)
    rw [Nat.add_comm 1 (n - i), e1, rowN_one, rowN_one] at e2
    have e3 : wAt c (wAt c ws (i + s)) (n - i) = wAt c ws (i + s) := by rw [← wAt_add]; exact h.per s
    have e4 : wAt c (wAt c ws (i + s)) 1 = wAt c ws (i + (s + 1)) := by rw [← wAt_add]; rfl
    rw [e3, e4] at e2
    have e5 := congrArg (cnt j) e2
    rw [cnt_append, cnt_append] at e5
    omega
theorem Round.laps {c : Custom} {ws : List Int} {i n : Nat} (h : Round c ws i n) (j s : Nat) : ∀ q : Nat, cnt j (rowN c ws (i + s + (n - i) * q)) = cnt j (rowN c ws (i + s)) + (q : Int) * cnt j ((rowN c ws n).drop i) ∧ wAt c ws (i + s + (n - i) * q) = wAt c ws (i + s)
  | 0 => by simp
  | q + 1 => by
    obtain ⟨h1, h2⟩ := h.laps j s q
    have hb := h.block j s
    rw [show i + s + (n - i) * (q + 1) = (i + s + (n - i) * q) + (n - i) by rw [Nat.mul_succ]; omega, rowN_add, cnt_append, h1, h2, hb]
    refine ⟨by push_cast; rw [Int.add_mul]; omega, ?_⟩
    rw [wAt_add, h2, ← wAt_add]
    exact h.per s
/-- what far tells -/
def farD (c : Custom) (ws : List Int) (t : Nat) : PyData := .tuple [wiD (cntI c.hands.length (rowN c ws t)), wiD (wAt c ws t)]
theorem lay_far (c : Custom) (ws : List Int) (t : Nat) : Lay 2 (farD c ws t) := .tup (lay_cons (lay_wi _) (lay_cons (lay_wi _) lay_nil))

/-! ## walked -/
def spWalk : Sp := fun vs H Q _ => ∃ F c ws, Same F H ∧ RpA F vs [cuD c, wiD ws] ∧ WfC c ∧ WfW c ws ∧
  ∀ i n p dd t xs F2 H2, Round c ws i n → Grow F H F2 H2 → H p = none → F2 p = none → H2 p = some (.lst xs) → RpA F2 xs ((rowN c ws n).map wiD) → H dd = none → F2 dd = none → H2 dd = some (.dT (dctN c ws n)) →
    H t = none → F2 t = none → H2 t = some (.tup [.ref p, .ref dd, .int (i : Int)]) → Q (.ref t) H2
def nWalk : List Str := ["custom", "wishes", "known", "row", "had"]
theorem scWalk : FnScope nWalk ["custom", "wishes"] (defScope S_walked) := ⟨rfl, rfl, rfl, by decide +kernel, rfl, by decide +kernel, by decide +kernel⟩
section
variable {P : Program} {w : World} {K : PySem.W.Frag} {mg : Str → Option Value} {base : Heap}
theorem ok_walked {f : Addr} {fd : FuncData} (F : Fun K "walked" "walked" S_walked f fd) (B : Bn mg) (G1 : Cal P w K mg base 1 "one_turn" 2 (spP prOne)) : FnOk P w K mg base CX0 2 f fd ["custom", "wishes"] spWalk := by
  refine F.ok scWalk (fun vs H Q E h => ?_) (fun cdv A outer s H vs Q E hr h => ?_)
  · obtain ⟨F, c, ws, _, r, _⟩ := h; exact r.len
  · obtain ⟨F0, c, ws, e, r, hc, hw, kk⟩ := h
    have nd := scWalk.nd
    have hu : (Bod P w K mg base nWalk "walked" S_walked f cdv A outer s H E).A.units + 1 < cLine := by have := hr.un; show (A.deeper _).units + 1 < _; omega
    have body : DSs (Bod P w K mg base nWalk "walked" S_walked f cdv A outer s H E) [] F0 H (entry [cuD c, wiD ws] nWalk.length) (defBody S_walked) { N := fun _ => False, R := fun _ _ => False, RR := Q } := by
      refine dss_newD 2 nd fun dd => ?_
      refine dss_newl 3 nd fun p => ?_
      let W : Nat → Env' → Prop := fun m ρ => ∃ k, m = 65537 - k ∧ (∀ j l, j < l → l < k → wAt c ws j ≠ wAt c ws l) ∧ ρ = [.dat (cuD c), .dat (wiD (wAt c ws k)), .own dd (.dct (dctN c ws k)), .own p (.lst ((rowN c ws k).map wiD)), .no]
      refine dss_while W (fun ρ => ∃ i n, Round c ws i n ∧ ρ = [.dat (cuD c), .dat (wiD (wAt c ws n)), .own dd (.dct (dctN c ws n)), .own p (.lst ((rowN c ws n).map wiD)), .no]) 65537 ⟨0, rfl, fun j l _ h => by omega, rfl⟩ (fun m ρ' hW => ?_) (fun ρ' hI => ?_)
      · obtain ⟨k, rfl, hd, rfl⟩ := hW
        refine ⟨_, dt_notinD 2 rfl hu (de_var 1), fun hx => ?_, fun hx => ?_⟩
        · have hnone : valV (dctN c ws k) (wKey (wAt c ws k)) = none := by
            cases z : valV (dctN c ws k) (wKey (wAt c ws k)) with
            | none => rfl
            | some v => rw [z] at hx; cases hx
          have hdk : ∀ j, j < k → wAt c ws j ≠ wAt c ws k := fun j hj z => by
            have := dctN_some hj hd
            rw [z, hnone] at this; cases this
          have hd1 : ∀ j l, j < l → l < k + 1 → wAt c ws j ≠ wAt c ws l := fun j l h1 h2 => by
            by_cases hl : l = k
            · subst hl; exact hdk j h1
            · exact hd j l h1 (by omega)
          have hb := distinct_bound hc hw hd1
          refine dss_putD 2 (n := (k : Int)) rfl hu (de_is (de_peek 3 rfl (de_callB call_len_seq B.len (by decide +kernel) (da_cons (de_var 3) da_nil) v_lenL)) (by rw [List.length_map, rowN_len])) (de_var 1) (by rw [dctN_len]; exact Nat.lt_of_lt_of_le (show k < 65536 by omega) (by decide)) ?_
          rw [dctN_put hdk]
          refine dss_asg (de_call (d := oneD c (wAt c ws k)) G1 hr (da_cons (de_var 0) (da_cons (de_var 1) da_nil)) ⟨c, wAt c ws k, rfl, hc, wf_at hc hw k, rfl⟩) (dg_tup (dgs_cons (dg_name 4 nd) (dgs_cons (dg_name 1 nd) dgs_nil))) ?_
          refine dss_app 3 (da_cons (de_var 4) da_nil) ?_ ?_
          · rw [List.length_map, rowN_len]
            exact Nat.lt_of_lt_of_le (show k < 65536 by omega) (by decide)
          refine dss_nilF [4] ⟨65537 - (k + 1), by omega, k + 1, rfl, hd1, ?_⟩
          rw [rowN_succ, List.map_append]
          rfl
        · have hsome : (valV (dctN c ws k) (wKey (wAt c ws k))).isSome = true := by
            cases z : (valV (dctN c ws k) (wKey (wAt c ws k))).isSome with
            | true => rfl
            | false => rw [z] at hx; cases hx
          obtain ⟨i, hi, he⟩ := dctN_is hsome
          exact ⟨i, k, ⟨hd, hi, he⟩, rfl⟩
      · obtain ⟨i, n, hR, rfl⟩ := hI
        have hget : valV (dctN c ws n) (wKey (wAt c ws n)) = some (.int (i : Int)) := by rw [← hR.again]; exact dctN_some hR.lt hR.dist
        refine dss_retRaw (pe_tup (pa_cons (pv 3) (pa_cons (pv 2) (pa_cons (de_getD 2 (n := (i : Int)) (ρ := [.dat (cuD c), .dat (wiD (wAt c ws n)), .own dd (.dct (dctN c ws n)), .own p (.lst ((rowN c ws n).map wiD)), .no]) rfl hu (de_var 1) hget) pa_nil)))) (fun σ F H1 a => ?_) (fun σ H Q Q' m h => ?_)
        · obtain ⟨xs, h1, h2, h3, h4⟩ := a.ok.lstIs (i := 3) rfl
          obtain ⟨g1, g2, ho, g3, g4⟩ := a.ok.own (i := 2) rfl
          have g4' : ho = .dT (dctN c ws n) := g4
          subst g4'
          refine ⟨_, h1, _, g1, F, a.ok, fun v F2 H2 g r => ?_⟩
          obtain rfl := r.int_inv
          refine ⟨by show 3 ≤ sizeLine; decide, fun t ht => ?_⟩
          have a2 := a.grow g
          have fr : ∀ {b : Addr} {j : Nat} {w : Ow}, [Ent.dat (cuD c), .dat (wiD (wAt c ws n)), .own dd (.dct (dctN c ws n)), .own p (.lst ((rowN c ws n).map wiD)), .no][j]? = some (.own b w) → H b = none := fun {b j w} hj => by
            rcases a.new j b w hj with q | q
            · exact q
            · cases q
          have hp0 : H p = none := fr (j := 3) rfl
          have hd0 : H dd = none := fr (j := 2) rfl
          have ht0 : H t = none := by
            cases q : H t with
            | none => rfl
            | some u => exact absurd ht (a2.g.k t (by rw [q]; simp))
          have h3' := g.same _ _ h3
          have g3' := g.same _ _ g3
          have hpt : p ≠ t := fun z => by subst z; rw [h3'] at ht; cases ht
          have hdt : dd ≠ t := fun z => by subst z; rw [g3'] at ht; cases ht
          exact kk i n p dd t xs F2 (upd H2 t _) hR (a2.g.trans (Grow.skip g.s ht)) hp0 (g.n p h2 (NN.lst h3)) (by rw [upd_ne hpt]; exact h3') (h4.mono g.f) hd0 (g.n dd g2 ⟨_, g3, fun _ z => by cases z⟩) (by rw [upd_ne hdt]; exact g3') ht0 (same_none g.s ht) upd_same
        · obtain ⟨_, h1, _, h2, F, ok, h3⟩ := h
          exact ⟨_, h1, _, h2, F, ok, fun v F2 H2 g r => ⟨(h3 v F2 H2 g r).1, fun t ht => m _ _ ((h3 v F2 H2 g r).2 t ht)⟩⟩
    refine ⟨_, body, F0, ⟨GrowX.refl e, ok_entry e r (Nat.le_of_ble_eq_true rfl), fun i p w q => ?_⟩, fun ρ' σ' F' H' hn => hn.elim, ⟨fun d v ρ' σ' F' H' h => h.elim, fun v H' h => h⟩, fun ρ' σ' F' H' hn => hn.elim, fun ρ' σ' F' H' hn => hn.elim⟩
    have := owns_mem q
    cases this
end

/-! ## row, known, first = walked(custom, wishes) -/
section
variable {X : Cx} {ex : List Addr} {F0 H0 : Hp} {ρ : Env'} {sts : List Stmt} {A : Aims} {e : Expr} {es : List Expr} {k : Nat}
theorem dss_walk (ir ik iff : Nat) {xr xk xf : Str} {c : Custom} {ws : List Int} {p1 p2 p3 p4 p5 p6 p7 : Pos} {kt : Nat} (hN : X.N.Nodup)
    (G : Cal X.prog X.w X.K X.mg X.base k "walked" 2 spWalk) (hr : Room k X.A) (ha : DA X ρ (e :: es) [cuD c, wiD ws]) (hc : WfC c) (hw : WfW c ws)
    (kk : ∀ (i n : Nat) (dd : Addr), Round c ws i n → DSs X ex F0 H0 (((ρ.set ir (.dat (.list ((rowN c ws n).map wiD)))).set ik (.own dd (.dct (dctN c ws n)))).set iff (.dat (.int (i : Int)))) sts A)
    (hir : X.N[ir]? = some xr := by rfl) (hik : X.N[ik]? = some xk := by rfl) (hif : X.N[iff]? = some xf := by rfl)
    (hxr : Loc X.env.scope xr := by first | exact Or.inl rfl | exact Or.inr rfl) (hxk : Loc X.env.scope xk := by first | exact Or.inl rfl | exact Or.inr rfl) (hxf : Loc X.env.scope xf := by first | exact Or.inl rfl | exact Or.inr rfl)
    (hfr : X.fn xr = true ∨ X.env.scope.names.lookup xr = some .local := by first | exact .inl rfl | exact .inr rfl) (hfk : X.fn xk = true ∨ X.env.scope.names.lookup xk = some .local := by first | exact .inl rfl | exact .inr rfl) (hff : X.fn xf = true ∨ X.env.scope.names.lookup xf = some .local := by first | exact .inl rfl | exact .inr rfl)
    (hcalm : X.calm = true := by rfl)
    (hn : (assignEach [Expr.Name xr p1, .Name xk p2, .Name xf p3] X.env).length = 3 := by rfl) (hst : (assignEach [Expr.Name xr p1, .Name xk p2, .Name xf p3] X.env).findIdx? (·.1) = none := by rfl)
    (hs1 : (assignEach [Expr.Name xr p1, .Name xk p2, .Name xf p3] X.env).map (·.2) = assign (Expr.Name xr p1) X.env :: (assignEach [Expr.Name xk p2, .Name xf p3] X.env).map (·.2) := by rfl)
    (hs2 : (assignEach [Expr.Name xk p2, .Name xf p3] X.env).map (·.2) = assign (Expr.Name xk p2) X.env :: (assignEach [Expr.Name xf p3] X.env).map (·.2) := by rfl)
    (hs3 : (assignEach [Expr.Name xf p3] X.env).map (·.2) = assign (Expr.Name xf p3) X.env :: (assignEach [] X.env).map (·.2) := by rfl)
    (hs : swapsWithSole [.Tuple [Expr.Name xr p1, .Name xk p2, .Name xf p3] kt p4] (.Call (.Name "walked" p5) (e :: es) [] p6) p7.line X.env = pure false := by rfl) (hw2 : swappedStores [.Tuple [Expr.Name xr p1, .Name xk p2, .Name xf p3] kt p4] (.Call (.Name "walked" p5) (e :: es) [] p6) X.env = pure none := by rfl)
    (hh1 : (assignEach [.Tuple [Expr.Name xr p1, .Name xk p2, .Name xf p3] kt p4] X.env).map (·.2) = [assign (.Tuple [Expr.Name xr p1, .Name xk p2, .Name xf p3] kt p4) X.env] := by rfl)
    (hg : Gl X "walked" := by rfl) (he : starEach (e :: es) X.env = (false, eval e X.env) :: starEach es X.env := by rfl) (hpl : (backTo p6 (starEach es X.env)).any (·.1) = false := by rfl)
    (hrk : ir ≠ ik := by decide) (hkf : iff ≠ ik := by decide) (hlk : ik < ρ.length := by exact Nat.le_of_ble_eq_true rfl) :
    DSs X ex F0 H0 ρ (.Assign [.Tuple [.Name xr p1, .Name xk p2, .Name xf p3] kt p4] (.Call (.Name "walked" p5) (e :: es) [] p6) p7 :: sts) A := by
  obtain ⟨f, fd, ps, h1, h2, h3, _, h4⟩ := G
  refine dss_seq (N1 := fun ρ' => ∃ i n dd, Round c ws i n ∧ ρ' = ((ρ.set ir (.dat (.list ((rowN c ws n).map wiD)))).set ik (.own dd (.dct (dctN c ws n)))).set iff (.dat (.int (i : Int)))) ?_ fun ρ' ⟨i, n, dd, hR, h'⟩ => h' ▸ kk i n dd hR
  refine PS.imp (ps_asg (pe_call h4 hr hg h1 h2 h3 .nil pass0 ha (by decide) he hpl) (pg_tup hcalm (pgs_cons (pg_name hN hir hxr hfr) (pgs_cons (pg_name hN hik hxk hfk) (pgs_cons (pg_name hN hif hxf hff) pgs_nil hs3) hs2) hs1) hn hst) hs hw2 hh1) fun D σ H ⟨F, a, nn, rr, bb, cc⟩ => ?_
  refine ⟨F, a.ok, fun vs F1 H1 g1 r1 => ?_⟩
  show spWalk (vs ++ []) H1 _ E0
  rw [List.append_nil]
  refine ⟨F1, c, ws, g1.s, r1, hc, hw, fun i n p dd t xs F2 H2 hR g2 p0 q1 q2 q3 d0 q7 q8 t0 q4 q5 => ?_⟩
  have hH0 : ∀ {b : Addr}, H1 b = none → H b = none := fun {b} h => by
    cases z : H b with
    | none => rfl
    | some u => exact absurd h (g1.k b (by rw [z]; simp))
  have hH00 : ∀ {b : Addr}, H b = none → H0 b = none := fun {b} h => by
    cases z : H0 b with
    | none => rfl
    | some u => exact absurd h (a.g.k b (by rw [z]; simp))
  have hne : ∀ {b : Addr}, H b = none → ∀ (j : Nat) (q : Addr) (w : Ow), ρ[j]? = some (.own q w) → q ≠ b := fun {b} hb j q w hj z => by
    subst z
    obtain ⟨_, _, ho, y, _⟩ := a.ok.own hj
    rw [hb] at y; cases y
  have hpd : dd ≠ p := fun z => by subst z; rw [q2] at q8; cases q8
  refine ⟨t, _, rfl, SqT.of q5, rfl, _, _, rfl, _, _, rfl, _, _, rfl, rfl, ?_⟩
  have g12 : Grow F H F2 H2 := g1.trans g2
  have g3 : Grow F H (upd F2 p (.lst xs)) H2 := g12.tellNew (hH0 p0) q1 q2
  have ok2 : Ok (upd F2 p (.lst xs)) H2 ρ σ := (a.ok.grow g3)
  have s1 : Same F2 (upd F2 p (.lst xs)) := Same.upd_new q1
  have ok3 := ok2.setD (i := ir) (.lst upd_same (q3.mono s1))
  have hd3 : (upd F2 p (.lst xs)) dd = none := by rw [upd_ne hpd]; exact q7
  have hneS : ∀ (j : Nat) (q : Addr) (w : Ow), (ρ.set ir (.dat (.list ((rowN c ws n).map wiD))))[j]? = some (.own q w) → q ≠ dd := fun j q w hj => by
    by_cases hij : ir = j
    · subst hij
      have hl : ir < ρ.length := by
        have := (List.getElem?_eq_some_iff.mp hj).1
        simpa using this
      rw [List.getElem?_set_self hl] at hj; cases hj
    · rw [List.getElem?_set_ne hij] at hj
      exact hne (hH0 d0) j q w hj
  have ok4 := ok3.set (i := ik) (e := .own dd (.dct (dctN c ws n))) (v := .ref dd) ⟨rfl, hd3, _, q8, rfl⟩ (fun p' w z j q w' hj _ => by cases z; exact (hneS j q w' hj).symm)
  have ok5 := ok4.setD (i := iff) (d := .int (i : Int)) (.int _)
  refine nn _ _ _ _ ⟨i, n, dd, hR, rfl⟩ g3.f ⟨a.g.trans g3.up, ok5, fun j q w hj => ?_⟩
  by_cases h5 : iff = j
  · subst h5
    have hl := (List.getElem?_eq_some_iff.mp hj).1
    rw [List.getElem?_set_self (by simpa using hl)] at hj; cases hj
  rw [List.getElem?_set_ne h5] at hj
  by_cases h6 : ik = j
  · subst h6
    have hl := (List.getElem?_eq_some_iff.mp hj).1
    rw [List.getElem?_set_self (by simpa using hl)] at hj
    cases hj
    exact .inl (hH00 (hH0 d0))
  rw [List.getElem?_set_ne h6] at hj
  by_cases h7 : ir = j
  · subst h7
    have hl := (List.getElem?_eq_some_iff.mp hj).1
    rw [List.getElem?_set_self (by simpa using hl)] at hj; cases hj
  rw [List.getElem?_set_ne h7] at hj
  exact a.new j q w hj
end

/-! ## comes_round -/
def crD (c : Custom) (ws : List Int) (i n : Nat) : PyData := .tuple [.int (i : Int), .int ((n : Int) - (i : Int)), wiD (cntI c.hands.length ((rowN c ws n).drop i))]
def prCr (ds : List PyData) (d : PyData) : Prop := ∃ c ws i n, ds = [cuD c, wiD ws] ∧ WfC c ∧ WfW c ws ∧ Round c ws i n ∧ d = crD c ws i n
def nCr : List Str := ["custom", "wishes", "row", "known", "first"]
theorem scCr : FnScope nCr ["custom", "wishes"] (defScope S_comes_round) := ⟨rfl, rfl, rfl, by decide +kernel, rfl, by decide +kernel, by decide +kernel⟩
theorem cutD_drop {α : Type} (f : α → PyData) (xs : List α) (n : Nat) (h : n ≤ xs.length) : cutD (xs.map f) (some (n : Int)) none = (xs.drop n).map f := by
  unfold cutD HT.sIx
  show List.take ((xs.map f).length - (if (n : Int) < 0 then ((n : Int) + ((xs.map f).length : Int)).toNat else min ((n : Int)).toNat (xs.map f).length)) (List.drop (if (n : Int) < 0 then ((n : Int) + ((xs.map f).length : Int)).toNat else min ((n : Int)).toNat (xs.map f).length) (xs.map f)) = _
  rw [if_neg (by omega), List.length_map, Int.toNat_natCast, Nat.min_eq_left h, List.map_drop]
  exact List.take_of_length_le (by rw [List.length_drop, List.length_map]; exact Nat.le_refl _)
section
variable {P : Program} {w : World} {K : PySem.W.Frag} {mg : Str → Option Value} {base : Heap}
theorem ok_comes_round {f : Addr} {fd : FuncData} (F : Fun K "comes_round" "comes_round" S_comes_round f fd) (B : Bn mg) (G1 : Cal P w K mg base 2 "walked" 2 spWalk) (G2 : Cal P w K mg base 2 "counted" 2 (spP prCnt)) : FnOk P w K mg base CX0 3 f fd ["custom", "wishes"] (spP prCr) := by
  refine fn_ok F scCr (fun ds d h => ?_) (fun ds d h f cdv A outer s H E F0 H0 hr => ?_)
  · obtain ⟨c, ws, i, n, rfl, _⟩ := h; rfl
  · obtain ⟨c, ws, i, n, rfl, hc, hw, hR, rfl⟩ := h
    have nd := scCr.nd
    refine dss_walk 2 3 4 nd G1 hr (da_cons (de_var 0) (da_cons (de_var 1) da_nil)) hc hw fun i' n' dd hR' => ?_
    obtain ⟨rfl, rfl⟩ := hR.inj hR'
    have hrl : ((rowN c ws n).map wiD).length = n := by rw [List.length_map, rowN_len]
    refine dss_ret (de_is (d1 := .tuple [.int (i : Int), .int (((rowN c ws n).map wiD).length - (i : Int)), wiD (cntI c.hands.length ((rowN c ws n).drop i))]) (de_tup (da_cons (de_var 4) (da_cons (de_op op_sub (de_callB call_len_seq B.len (by decide +kernel) (da_cons (de_var 2) da_nil) v_lenL) (de_var 4) v_sub)
      (da_cons (de_call (ds := [cuD c, .list (((rowN c ws n).drop i).map wiD)]) G2 hr (da_cons (de_var 0) (da_cons (de_is (de_sl sl_list (de_var 2) (do_some (de_var 4)) do_none v_slL) (congrArg PyData.list (cutD_drop wiD _ i (by rw [rowN_len]; exact Nat.le_of_lt hR.lt)))) da_nil)) ⟨c, _, rfl, hc, rfl⟩) da_nil)))) ?_) rfl
    rw [hrl]; rfl
end

/-! ## far -/
def prFar (ds : List PyData) (d : PyData) : Prop := ∃ c ws t, ds = [cuD c, wiD ws, .int t] ∧ WfC c ∧ WfW c ws ∧ 0 ≤ t ∧ t < 18000000000000000000 ∧ d = farD c ws t.toNat
def nFar : List Str := ["custom", "wishes", "turns", "row", "known", "first", "rounds", "left", "counts", "again", "after", "place", "one", "other"]
theorem scFar : FnScope nFar ["custom", "wishes", "turns"] (defScope S_far) := ⟨rfl, rfl, rfl, by decide +kernel, rfl, by decide +kernel, by decide +kernel⟩
theorem v_divmod {i j : Int} (h1 : 0 < j) (h2 : j < 1073741824) : VN (fun xs H Q => ∃ i j, xs = [.int i, .int j] ∧ CDiv i j ∧ ∀ p, H p = none → Q (.ref p) (upd H p (.tup [.int (i / j), .int (i % j)]))) [.int i, .int j] (.tuple [.int (i / j), .int (i % j)]) := fun F H vs e r Q k => by
  cases r with
  | cons r1 r => cases r with
    | cons r2 r =>
      cases r
      exact ⟨i, j, by rw [r1.int_inv, r2.int_inv], ⟨h1, h2⟩, fun p hp => k _ _ _ (Grow.new e hp) (.tup upd_same (.cons (.int _) (.cons (.int _) .nil)))⟩
section
variable {X : Cx} {ex : List Addr} {F0 H0 : Hp} {ρ : Env'} {sts : List Stmt} {A : Aims} {e : Expr} {i j : Int} {pos pos' : Pos} {x : Str}
/-- x += e, whole numbers -/
theorem dss_augI (k : Nat) (hN : X.N.Nodup) (he : DE X ρ e (.int j)) (hρ : ρ[k]? = some (.dat (.int i))) (h : DSs X ex F0 H0 (ρ.set k (.dat (.int (i + j)))) sts A) (hi : X.N[k]? = some x := by rfl) (hx : Loc X.env.scope x := by first | exact Or.inl rfl | exact Or.inr rfl)
    (hf : X.fn x = true ∨ X.env.scope.names.lookup x = some .local := by first | exact .inl rfl | exact .inr rfl) : DSs X ex F0 H0 ρ (.AugAssign (.Name x pos') .Add e pos :: sts) A := by
  refine dss_seq (N1 := fun ρ' => ρ' = ρ.set k (.dat (.int (i + j)))) ?_ fun _ h' => h' ▸ h
  refine PS.imp (ps_aug hN hi hx he ip_add hf) fun D σ H ⟨F, a, n, r, b, c⟩ => ?_
  obtain ⟨v, h1, h2⟩ := a.ok.dat hρ
  obtain rfl := h2.int_inv
  refine ⟨_, h1, F, a.ok, fun v F2 H2 g rv => ?_⟩
  obtain rfl := rv.int_inv
  exact ⟨i, j, rfl, rfl, n _ _ F2 H2 rfl g.f ((a.grow g).setD (.int _))⟩
end
section
variable {P : Program} {w : World} {K : PySem.W.Frag} {mg : Str → Option Value} {base : Heap}
theorem ok_far {f : Addr} {fd : FuncData} (F : Fun K "far" "far" S_far f fd) (B : Bn mg) (G1 : Cal P w K mg base 2 "walked" 2 spWalk) (G2 : Cal P w K mg base 2 "counted" 2 (spP prCnt)) : FnOk P w K mg base CX0 3 f fd ["custom", "wishes", "turns"] (spP prFar) := by
  refine fn_ok F scFar (fun ds d h => ?_) (fun ds d h f cdv A outer s H E F0 H0 hr => ?_)
  · obtain ⟨c, ws, t, rfl, _⟩ := h; rfl
  · obtain ⟨c, ws, t, rfl, hc, hw, ht0, ht1, rfl⟩ := h
    have nd := scFar.nd
    refine dss_walk 3 4 5 nd G1 hr (da_cons (de_var 0) (da_cons (de_var 1) da_nil)) hc hw fun i n dd hR => ?_
    have hlt := hR.lt
    have hle := hR.le hc hw
    have hrl : ((rowN c ws n).map wiD).length = n := by rw [List.length_map, rowN_len]
    -- rounds, left
    let st : Int → Nat → Env' := fun rounds left => [.dat (cuD c), .dat (wiD ws), .dat (.int t), .dat (.list ((rowN c ws n).map wiD)), .own dd (.dct (dctN c ws n)), .dat (.int (i : Int)), .dat (.int rounds), .dat (.int (left : Int)), .no, .no, .no, .no, .no, .no]
    have hlen : ∀ {ρ : Env'} {p1 p2 p3 : Pos}, ρ[3]? = some (.dat (.list ((rowN c ws n).map wiD))) → DE (Bod P w K mg base nFar "far" S_far f cdv A outer s H E) ρ (.Call (.Name "len" p1) [.Name "row" p2] [] p3) (.int (n : Int)) := fun {ρ p1 p2 p3} h => de_is (de_callB call_len_seq B.len (by decide +kernel) (da_cons (de_var 3 (h := h)) da_nil) v_lenL) (by rw [hrl])
    refine dss_if (x := decide (t ≤ (n : Int))) (fun ρ => ∃ (q : Nat) (left : Nat), left ≤ n ∧ (q : Int) < 18000000000000000000 ∧ (q = 0 ∨ (i ≤ left ∧ left < n)) ∧ left + (n - i) * q = t.toNat ∧ ρ = st q left) (dt_cmp op_le (de_var 2) (hlen rfl) v_le) (fun h => ?_) (fun h => ?_) (fun ρ' hI => ?_)
    · have h' : t ≤ (n : Int) := of_decide_eq_true h
      refine dss_asg (d := .tuple [.int 0, .int t]) (de_tup (da_cons de_int (da_cons (de_var 2) da_nil))) (dg_tup (dgs_cons (dg_name 6 nd) (dgs_cons (dg_name 7 nd) dgs_nil))) (dss_nil ⟨0, t.toNat, by omega, by decide, .inl rfl, by omega, ?_⟩)
      show _ = [_, _, _, _, _, _, _, _, _, _, _, _, _, _]
      rw [show ((t.toNat : Nat) : Int) = t by omega]; rfl
    · have h' : ¬ t ≤ (n : Int) := of_decide_eq_false h
      have hL : 0 < (n : Int) - (i : Int) := by omega
      refine dss_asg (d := .tuple [.int ((t - (i : Int)) / ((n : Int) - (i : Int))), .int ((t - (i : Int)) % ((n : Int) - (i : Int)))]) (de_callB call_divmod B.divmod (by decide +kernel) (da_cons (de_op op_sub (de_var 2) (de_var 5) v_sub) (da_cons (de_op op_sub (hlen rfl) (de_var 5) v_sub) da_nil)) (v_divmod hL (by omega))) (dg_tup (dgs_cons (dg_name 6 nd) (dgs_cons (dg_name 7 nd) dgs_nil))) ?_
      have hm0 := Int.emod_nonneg (t - (i : Int)) (show (n : Int) - (i : Int) ≠ 0 by omega)
      have hm1 := Int.emod_lt_of_pos (t - (i : Int)) hL
      have hq0 : 0 ≤ (t - (i : Int)) / ((n : Int) - (i : Int)) := Int.ediv_nonneg (by omega) (by omega)
      have hq1 : (t - (i : Int)) / ((n : Int) - (i : Int)) ≤ t - (i : Int) := Int.ediv_le_self _ (by omega)
      have hdm := Int.mul_ediv_add_emod (t - (i : Int)) ((n : Int) - (i : Int))
      generalize (t - (i : Int)) / ((n : Int) - (i : Int)) = q at hq0 hq1 hdm
      generalize (t - (i : Int)) % ((n : Int) - (i : Int)) = m at hm0 hm1 hdm
      refine dss_augI 7 nd (i := m) (de_var 5) rfl (dss_nil ⟨q.toNat, (m + (i : Int)).toNat, by omega, by omega, .inr ⟨by omega, by omega⟩, ?_, ?_⟩)
      · have e1 : (((n - i) * q.toNat : Nat) : Int) = ((n : Int) - (i : Int)) * q := by
          rw [Int.natCast_mul, show ((n - i : Nat) : Int) = (n : Int) - (i : Int) by omega, show ((q.toNat : Nat) : Int) = q by omega]
        omega
      · show _ = [_, _, _, _, _, _, _, _, _, _, _, _, _, _]
        rw [show ((q.toNat : Nat) : Int) = q by omega, show (((m + (i : Int)).toNat : Nat) : Int) = m + (i : Int) by omega]; rfl
    · obtain ⟨q, left, hl1, hq1, hcase, hsum, rfl⟩ := hI
      have h4 := hc.four
      refine dss_set 8 nd (d := wiD (cntI c.hands.length (rowN c ws left))) (de_call (ds := [cuD c, .list ((rowN c ws left).map wiD)]) G2 hr (da_cons (de_var 0) (da_cons (de_is (de_sl sl_list (de_var 3) do_none (do_some (de_var 7)) v_slL) ?_) da_nil)) ⟨c, _, rfl, hc, rfl⟩) ?_
      · refine congrArg PyData.list ?_
        rw [cutD_take]
        unfold takeI
        rw [if_neg (by omega), rowN_len, Int.toNat_natCast, Nat.min_eq_left hl1, rowN_take c ws hl1]
      refine dss_set 9 nd (d := wiD (cntI c.hands.length ((rowN c ws n).drop i))) (de_call (ds := [cuD c, .list (((rowN c ws n).drop i).map wiD)]) G2 hr (da_cons (de_var 0) (da_cons (de_is (de_sl sl_list (de_var 3) (do_some (de_var 5)) do_none v_slL) (congrArg PyData.list (cutD_drop wiD _ i (by rw [rowN_len]; exact Nat.le_of_lt hlt)))) da_nil)) ⟨c, _, rfl, hc, rfl⟩) ?_
      -- wishes by their place
      let tgt : Nat := if left < n then left else i
      have htgt : tgt < n := by show (if left < n then left else i) < n; split <;> omega
      let stw : Nat → Env' := fun k => [.dat (cuD c), .dat (wiD (if tgt < k then wAt c ws tgt else ws)), .dat (.int t), .dat (.list ((rowN c ws n).map wiD)), .no, .dat (.int (i : Int)), .dat (.int (q : Int)), .dat (.int (left : Int)), .dat (wiD (cntI c.hands.length (rowN c ws left))), .dat (wiD (cntI c.hands.length ((rowN c ws n).drop i))), .no, .no, .no, .no]
      refine dss_lockD 4 (fun ρ => ρ = stw n) rfl (fun od => ?_) (fun ρ' hI => ?_)
      · let stf : Nat → Env' := fun k => (stw k).set 4 (.fx dd (.frz od (.dT (dctN c ws n))))
        have hil : (itemsD c ws n).length = n := by simp [itemsD]
        refine ds_for (fun k ρ => ρ = stf k) (di_items 4 rfl) rfl (fun k x ρ' hx hI => ?_) (fun ρ' hI => ?_)
        · subst hI
          obtain ⟨hk, rfl⟩ := itemsD_get hx
          refine ⟨_, _, dg_tup (dgs_cons (dg_name 10 nd) (dgs_cons (dg_name 11 nd) dgs_nil)), ?_⟩
          refine dss_one (ds_if (x := decide ((k : Int) = (tgt : Int))) (dt_cmp op_eq (de_var 11) (de_is (d2 := .int (tgt : Int)) (de_if (dt_cmp op_lt (de_var 7) (hlen rfl) v_lt) (fun _ => de_var 7) (fun _ => de_var 5)) ?_) v_eqI) (fun h => ?_) (fun h => ?_))
          · show (if decide ((left : Int) < (n : Int)) = true then PyData.int (left : Int) else PyData.int (i : Int)) = PyData.int (((if left < n then left else i) : Nat) : Int)
            by_cases hh : left < n
            · rw [if_pos (decide_eq_true (by omega)), if_pos hh]
            · rw [if_neg (by simp; omega), if_neg hh]
          · have hkt : k = tgt := by have := of_decide_eq_true h; omega
            refine dss_set 1 nd (de_var 10) (dss_nilF [10, 11] ?_)
            show _ = List.set [_, _, _, _, _, _, _, _, _, _, _, _, _, _] 4 _
            rw [if_pos (by omega), hkt]; rfl
          · have hkt : k ≠ tgt := fun z => by have := of_decide_eq_false h; omega
            refine dss_nilF [10, 11] ?_
            show _ = List.set [_, _, _, _, _, _, _, _, _, _, _, _, _, _] 4 _
            have : (if tgt < k + 1 then wAt c ws tgt else ws) = (if tgt < k then wAt c ws tgt else ws) := by
              by_cases hh : tgt < k
              · rw [if_pos hh, if_pos (by omega)]
              · rw [if_neg hh, if_neg (by omega)]
            rw [this]; rfl
        · have hI' : ρ' = stf (itemsD c ws n).length := hI
          rw [hil] at hI'
          subst hI'
          exact ⟨rfl, rfl, rfl⟩
      · subst hI
        have hwl : wAt c ws tgt = wAt c ws left := by
          show wAt c ws (if left < n then left else i) = _
          by_cases hh : left < n
          · rw [if_pos hh]
          · rw [if_neg hh, show left = n by omega, hR.again]
        have key : (∀ j, cnt j (rowN c ws left) + (q : Int) * cnt j ((rowN c ws n).drop i) = cnt j (rowN c ws t.toNat)) ∧ wAt c ws left = wAt c ws t.toNat := by
          rw [← hsum]
          rcases hcase with h0 | ⟨h1, h2⟩
          · subst h0; simp
          · have e : left = i + (left - i) := by omega
            have hx := fun j => hR.laps j (left - i) q
            rw [← e] at hx
            exact ⟨fun j => (hx j).1.symm, (hx 0).2.symm⟩
        refine dss_ret (de_is (de_tup (da_cons (de_callTy call_tuple_of B.tuple (by decide +kernel) (da_cons (de_lc (xs := (cntI c.hands.length (rowN c ws left)).zip (cntI c.hands.length ((rowN c ws n).drop i))) (enc := fun p => .tuple [.int p.1, .int p.2]) (own := [("one", 12), ("other", 13)]) _ (fun _ => true) (fun p => .int (p.1 + (q : Int) * p.2)) [12, 13] rfl nd (blkOk_by (N := nFar) (sc := defScope S_far) (by decide +kernel))
          (by
            have e : ((cntI c.hands.length (rowN c ws left)).zip (cntI c.hands.length ((rowN c ws n).drop i))).map (fun p : Int × Int => PyData.tuple [.int p.1, .int p.2]) = zipD ((cntI c.hands.length (rowN c ws left)).map .int) ((cntI c.hands.length ((rowN c ws n).drop i)).map .int) := by
              unfold zipD
              rw [List.zipWith_map, List.zip, List.map_zipWith]
            rw [e]
            exact di_zipT (da_cons (de_var 8) (da_cons (de_var 9) da_nil)) B.zip)
          (fun p _ _ _ _ _ _ => dg_tup (dgs_cons (dg_name 12 nd) (dgs_cons (dg_name 13 nd) dgs_nil)))
          (fun _ _ _ _ _ _ _ => pts_none)
          (fun p _ _ _ _ _ _ _ => de_op op_add (de_var 12) (de_op op_mul (de_var 6) (de_var 13) (v_mul (.inl ⟨by omega, by omega⟩))) v_add)
          (by decide) (small64 (by rw [List.length_zip, cntI_len, cntI_len]; omega))) da_nil) v_tupL) (da_cons (de_var 1) da_nil))) ?_) rfl
        rw [filter_tt, if_pos htgt, hwl, key.2]
        unfold farD
        have e := cntI_zip c.hands.length (rowN c ws left) ((rowN c ws n).drop i) (rowN c ws t.toNat) (q : Int) key.1
        rw [← e]
        show PyData.tuple [_, _] = PyData.tuple [PyData.tuple _, _]
        rw [List.map_map]; rfl
end

/-! ## caps -/
def capsD (c : Custom) : PyData := .tuple ((c.hands.map fun h => h.cap).map .int)
def prCaps (ds : List PyData) (d : PyData) : Prop := ∃ c, ds = [cuD c] ∧ c.hands.length ≤ 1000 ∧ d = capsD c
def nCaps : List Str := ["custom", "hand"]
theorem scCaps : FnScope nCaps ["custom"] (defScope S_caps) := ⟨rfl, rfl, rfl, by decide +kernel, rfl, by decide +kernel, by decide +kernel⟩
section
variable {P : Program} {w : World} {K : PySem.W.Frag} {mg : Str → Option Value} {base : Heap}
theorem ok_caps {f : Addr} {fd : FuncData} (F : Fun K "caps" "caps" S_caps f fd) (B : Bn mg) : FnOk P w K mg base CX0 1 f fd ["custom"] (spP prCaps) := by
  refine fn_ok F scCaps (fun ds d h => ?_) (fun ds d h f cdv A outer s H E F0 H0 hr => ?_)
  · obtain ⟨c, rfl, _⟩ := h; rfl
  · obtain ⟨c, rfl, hl, rfl⟩ := h
    have nd := scCaps.nd
    exact dss_ret (de_callTy call_tuple_of B.tuple (by decide +kernel) (da_cons (de_is (d2 := .list ((c.hands.map fun h => h.cap).map .int)) (de_lc (xs := c.hands) (enc := haD) (own := [("hand", 1)]) _ (fun _ => true) (fun h => .int h.cap) [1] rfl nd (blkOk_by (N := nCaps) (sc := defScope S_caps) (by decide +kernel))
      (di_tup (de_ix ix_tup (de_var 0) de_int (v_ixT (by rfl))))
      (fun h _ _ _ _ _ _ => dg_name 1 nd)
      (fun _ _ _ _ _ _ _ => pts_none)
      (fun h _ _ _ _ _ _ _ => de_ix ix_tup (de_var 1) de_int (v_ixT (by rfl)))
      (by decide) (Nat.le_trans hl (by decide))) (by rw [filter_tt, List.map_map]; rfl)) da_nil) v_tupL) rfl
end

/-! ## all_wishes -/
def capsI (c : Custom) : List Int := c.hands.map fun h => h.cap
def allStep (acc : List (List Int)) (c : Int) : List (List Int) := acc.flatMap fun w => (List.range (c + 1).toNat).map fun (i : Nat) => w ++ [(i : Int)]
def allWs (cs : List Int) : List (List Int) := cs.foldl allStep [[]]
def sizeI (cs : List Int) : Int := cs.foldl (fun s c => s * (c + 1)) 1
def CapsOk (cs : List Int) : Prop := cs.length ≤ 4 ∧ ∀ c ∈ cs, 0 ≤ c ∧ c ≤ 15
theorem capsOk_of {c : Custom} (h : WfC c) : CapsOk (capsI c) := ⟨by unfold capsI; rw [List.length_map]; exact h.four, fun x hx => by
  obtain ⟨a, ha, rfl⟩ := List.mem_map.mp hx
  exact (h.steps a ha).2.2.2.2⟩
def inCaps : List Int → List Int → Prop
  | [], [] => True
  | c :: cs, x :: t => (0 ≤ x ∧ x ≤ c) ∧ inCaps cs t
  | _, _ => False
theorem inCaps_len : ∀ {cs t : List Int}, inCaps cs t → t.length = cs.length
  | [], [], _ => rfl
  | _ :: _, _ :: _, h => by simp [inCaps_len h.2]
  | [], _ :: _, h => h.elim
  | _ :: _, [], h => h.elim
theorem mem_step {acc : List (List Int)} {c : Int} {w : List Int} : w ∈ allStep acc c ↔ ∃ a ∈ acc, ∃ x : Int, (0 ≤ x ∧ x ≤ c) ∧ w = a ++ [x] := by
  unfold allStep
  simp only [List.mem_flatMap, List.mem_map, List.mem_range]
  constructor
  · rintro ⟨a, ha, i, hi, rfl⟩
    exact ⟨a, ha, i, ⟨by omega, by omega⟩, rfl⟩
  · rintro ⟨a, ha, x, hx, rfl⟩
    exact ⟨a, ha, x.toNat, by omega, by rw [Int.toNat_of_nonneg hx.1]⟩
theorem mem_fold (cs : List Int) : ∀ (acc : List (List Int)) (w : List Int), w ∈ cs.foldl allStep acc ↔ ∃ a ∈ acc, ∃ t, inCaps cs t ∧ w = a ++ t := by
  induction cs with
  | nil =>
    intro acc w
    constructor
    · intro h; exact ⟨w, h, [], trivial, by simp⟩
    · rintro ⟨a, ha, t, ht, rfl⟩
      cases t with
      | nil => simpa using ha
      | cons _ _ => exact ht.elim
  | cons c cs ih =>
    intro acc w
    rw [List.foldl_cons, ih]
    constructor
    · rintro ⟨a, ha, t, ht, rfl⟩
      obtain ⟨b, hb, x, hx, rfl⟩ := mem_step.mp ha
      exact ⟨b, hb, x :: t, ⟨hx, ht⟩, by simp⟩
    · rintro ⟨a, ha, t, ht, rfl⟩
      cases t with
      | nil => exact ht.elim
      | cons x t => exact ⟨a ++ [x], mem_step.mpr ⟨a, ha, x, ht.1, rfl⟩, t, ht.2, by simp⟩
theorem mem_allWs {cs w : List Int} : w ∈ allWs cs ↔ inCaps cs w := by
  unfold allWs
  rw [mem_fold]
  constructor
  · rintro ⟨a, ha, t, ht, rfl⟩
    rw [List.mem_singleton.mp ha]; exact ht
  · intro h; exact ⟨[], by simp, w, h, rfl⟩
theorem inCaps_wf : ∀ (hs : List Hand) (ws : List Int), inCaps (hs.map fun h => h.cap) ws ↔ ws.length = hs.length ∧ ∀ (i : Nat) (w : Int), ws[i]? = some w → 0 ≤ w ∧ w ≤ (handAt hs i).cap
  | [], [] => by simp [inCaps]
  | [], _ :: _ => by simp [inCaps]
  | _ :: _, [] => by simp [inCaps]
  | h :: hs, x :: ws => by
    show (_ ∧ _) ↔ _
    rw [inCaps_wf hs ws]
    constructor
    · rintro ⟨h1, h2, h3⟩
      refine ⟨by simp [h2], fun i w hi => ?_⟩
      cases i with
      | zero => cases hi; exact h1
      | succ i =>
        have := h3 i w (by simpa using hi)
        simpa [handAt] using this
    · rintro ⟨h1, h2⟩
      refine ⟨h2 0 x rfl, by simpa using h1, fun i w hi => ?_⟩
      have := h2 (i + 1) w (by simpa using hi)
      simpa [handAt] using this
theorem mem_wf {c : Custom} {ws : List Int} : ws ∈ allWs (capsI c) ↔ WfW c ws := by
  rw [mem_allWs]
  show inCaps (c.hands.map fun h => h.cap) ws ↔ _
  rw [inCaps_wf]
  exact ⟨fun ⟨a, b⟩ => ⟨a, b⟩, fun h => ⟨h.len, h.bound⟩⟩
theorem allStep_len (acc : List (List Int)) (c : Int) (h : 0 ≤ c) : ((allStep acc c).length : Int) = acc.length * (c + 1) := by
  unfold allStep
  rw [List.length_flatMap]
  simp only [List.length_map, List.length_range]
  rw [List.map_const', List.sum_replicate_nat]
  have : ((c + 1).toNat : Int) = c + 1 := by omega
  push_cast
  rw [this]
theorem allStep_le (acc : List (List Int)) (c : Int) (h : 0 ≤ c) (h2 : c ≤ 15) : (allStep acc c).length ≤ acc.length * 16 := by
  have := allStep_len acc c h
  have h3 : (acc.length : Int) * (c + 1) ≤ acc.length * 16 := Int.mul_le_mul_of_nonneg_left (by omega) (by omega)
  omega
theorem fold_all (cs : List Int) : ∀ acc, (∀ c ∈ cs, 0 ≤ c ∧ c ≤ 15) → ((cs.foldl allStep acc).length : Int) = cs.foldl (fun s c => s * (c + 1)) (acc.length : Int) ∧ (cs.foldl allStep acc).length ≤ acc.length * 16 ^ cs.length := by
  induction cs with
  | nil => intro acc _; simp
  | cons c cs ih =>
    intro acc h
    have hc := h c (by simp)
    obtain ⟨h1, h2⟩ := ih (allStep acc c) (fun x hx => h x (by simp [hx]))
    refine ⟨by rw [List.foldl_cons, List.foldl_cons, h1, allStep_len acc c hc.1], ?_⟩
    rw [List.foldl_cons]
    have h3 := allStep_le acc c hc.1 hc.2
    refine Nat.le_trans h2 (Nat.le_trans (Nat.mul_le_mul_right _ h3) ?_)
    rw [List.length_cons, Nat.pow_succ, Nat.mul_assoc, Nat.mul_comm 16]
    exact Nat.le_refl _
theorem allWs_len {cs : List Int} (h : CapsOk cs) : ((allWs cs).length : Int) = sizeI cs := (fold_all cs [[]] h.2).1
theorem take_capsOk {cs : List Int} (h : CapsOk cs) (i : Nat) : CapsOk (cs.take i) := ⟨by rw [List.length_take]; have := h.1; omega, fun c hc => h.2 c (List.mem_of_mem_take hc)⟩
theorem allWs_bound {cs : List Int} (h : CapsOk cs) : (allWs cs).length ≤ 65536 := by
  have := (fold_all cs [[]] h.2).2
  refine Nat.le_trans this ?_
  rw [List.length_singleton, Nat.one_mul]
  exact Nat.le_trans (Nat.pow_le_pow_right (by decide) h.1) (by decide)
theorem allWs_each {cs : List Int} (h : CapsOk cs) (i : Nat) : ∀ v ∈ allWs (cs.take i), v.length ≤ 4 := fun v hv => by
  have h1 := inCaps_len (mem_allWs.mp hv)
  have h2 := (take_capsOk h i).1
  omega
theorem sizeI_bound {cs : List Int} (h : CapsOk cs) : 0 ≤ sizeI cs ∧ sizeI cs ≤ 65536 := by
  have h1 := allWs_len h
  have h2 := allWs_bound h
  omega
theorem foldl_take {α β : Type} (f : β → α → β) (b : β) {xs : List α} {i : Nat} {x : α} (h : xs[i]? = some x) : (xs.take (i + 1)).foldl f b = f ((xs.take i).foldl f b) x := by
  have e : xs.take (i + 1) = xs.take i ++ [x] := by
    have := take_map_succ (fun x : α => x) h
    simpa using this
  rw [e, List.foldl_append]; rfl
def prAll (ds : List PyData) (d : PyData) : Prop := ∃ c most, ds = [cuD c, .int most] ∧ WfC c ∧ sizeI (capsI c) ≤ most ∧ d = .list ((allWs (capsI c)).map wiD)
theorem capsD_eq (c : Custom) : capsD c = .tuple ((capsI c).map .int) := rfl
def nAll : List Str := ["custom", "most", "size", "cap", "found", "wishes", "wish"]
theorem scAll : FnScope nAll ["custom", "most"] (defScope S_all_wishes) := ⟨rfl, rfl, rfl, by decide +kernel, rfl, by decide +kernel, by decide +kernel⟩
theorem noOwn_of (ρ : Env') (h : ρ.all (fun e => match e with | .own _ _ => false | _ => true) = true) : NoOwn ρ := fun j p w hj => by
  have := List.all_eq_true.mp h _ (List.mem_of_getElem? hj)
  exact absurd this (by simp)
section
variable {P : Program} {w : World} {K : PySem.W.Frag} {mg : Str → Option Value} {base : Heap}
theorem ok_all_wishes {f : Addr} {fd : FuncData} (F : Fun K "all_wishes" "all_wishes" S_all_wishes f fd) (B : Bn mg) (G1 : Cal P w K mg base 1 "caps" 1 (spP prCaps)) : FnOk P w K mg base CX0 2 f fd ["custom", "most"] (spP prAll) := by
  refine fn_ok F scAll (fun ds d h => ?_) (fun ds d h f cdv A outer s H E F0 H0 hr => ?_)
  · obtain ⟨c, most, rfl, _⟩ := h; rfl
  · obtain ⟨c, most, rfl, hc, hm, rfl⟩ := h
    have nd := scAll.nd
    have co := capsOk_of hc
    have h4 := hc.four
    have hcl : (capsI c).length ≤ 4 := co.1
    refine dss_set 2 nd de_int ?_
    let I : Nat → Env' → Prop := fun i ρ => ρ = [.dat (cuD c), .dat (.int most), .dat (.int (sizeI ((capsI c).take i))), .no, .no, .no, .no]
    refine dss_for I (di_tup (ds := (capsI c).map .int) (de_call (d := capsD c) G1 hr (da_cons (de_var 0) da_nil) ⟨c, rfl, by omega, rfl⟩)) rfl (fun i x ρ' hx hI => ?_) (fun ρ' hI => ?_)
    · subst hI
      rw [List.getElem?_map] at hx
      obtain ⟨cap, hcap, rfl⟩ := Option.map_eq_some_iff.mp hx
      refine ⟨_, _, dg_name 3 nd, ?_⟩
      have hb := sizeI_bound (take_capsOk co i)
      refine dss_mulI 2 nd (j := cap + 1) (i := sizeI ((capsI c).take i)) (de_op op_add (de_var 3) de_int v_add) rfl (.inl ⟨by omega, by omega⟩) (dss_nilF [3] ?_)
      have e : sizeI ((capsI c).take (i + 1)) = sizeI ((capsI c).take i) * (cap + 1) := foldl_take _ _ hcap
      show _ = _
      rw [e]; rfl
    · have hI' : ρ' = _ := hI
      rw [List.length_map, List.take_length] at hI'
      subst hI'
      refine dss_ifx (x := false) (dt_is (dt_cmp op_gt (de_var 2) (de_var 1) v_gt) (by
        rw [decide_eq_false_iff_not]; omega)) (fun h => by cases h) (fun _ => ?_)
      refine dss_set 4 nd (d := .list ((allWs []).map wiD)) (de_lst (da_cons (de_tup da_nil) da_nil)) ?_
      let J : Nat → Env' → Prop := fun i ρ => ρ = [.dat (cuD c), .dat (.int most), .dat (.int (sizeI (capsI c))), .no, .dat (.list ((allWs ((capsI c).take i)).map wiD)), .no, .no]
      refine dss_for J (di_tup (ds := (capsI c).map .int) (de_call (d := capsD c) G1 hr (da_cons (de_var 0) da_nil) ⟨c, rfl, by omega, rfl⟩)) rfl (fun i x ρ' hx hI => ?_) (fun ρ' hI => ?_)
      · subst hI
        rw [List.getElem?_map] at hx
        obtain ⟨cap, hcap, rfl⟩ := Option.map_eq_some_iff.mp hx
        have hcm := co.2 cap (List.mem_of_getElem? hcap)
        refine ⟨_, _, dg_name 3 nd, ?_⟩
        have e : allWs ((capsI c).take (i + 1)) = allStep (allWs ((capsI c).take i)) cap := foldl_take _ _ hcap
        have hb1 := allWs_bound (take_capsOk co (i + 1))
        have hb0 := allWs_bound (take_capsOk co i)
        have hd : allF (allWs ((capsI c).take i)) (fun _ => List.range (cap + 1).toNat) (fun w (j : Nat) => wiD (w ++ [(j : Int)])) = (allWs ((capsI c).take (i + 1))).map wiD := by
          rw [e]; unfold allF allStep; rw [List.map_flatMap]
          simp only [List.map_map]; rfl
        have hlen : ∀ v ∈ allWs ((capsI c).take i), v.length ≤ 4 := fun v hv => allWs_each co i v hv
        generalize hW : allWs ((capsI c).take i) = W at hd hlen hb0 ⊢
        refine dss_setLc2 4 (xs := W) (ys := fun _ => List.range (cap + 1).toNat) (enc := wiD) (enc1 := fun (j : Nat) => .int (j : Int)) (own := [("wishes", 5), ("wish", 6)]) _ _ (fun w (j : Nat) => wiD (w ++ [(j : Int)])) [5] [6] [6] rfl nd (blkOk_by (N := nAll) (sc := defScope S_all_wishes) (by decide +kernel)) (by decide)
          (di_list (de_var 4))
          (fun v _ _ _ _ _ _ => dg_name 5 nd)
          (fun v _ _ _ _ _ _ => by
            rw [show (List.range (cap + 1).toNat).map (fun (j : Nat) => PyData.int (j : Int)) = rngD 0 (cap + 1).toNat by simp [rngD]]
            exact di_range1 (da_cons (de_op op_add (de_var 3) de_int v_add) da_nil) B.range ⟨by omega, by omega⟩)
          (fun v _ j _ _ _ _ _ _ => dg_name 6 nd)
          (fun v hv j _ _ _ _ _ _ => de_is (de_op op_catA (de_var 5) (de_tup (da_cons (de_var 6) da_nil)) (v_catT (by
            have := hlen v hv
            rw [List.length_map, List.length_singleton]; omega))) (by unfold wiD; rw [List.map_append]; rfl))
          (by decide) (by decide) (noOwn_of _ rfl) (fun v _ => noOwn_of _ rfl) (by rw [hd, List.length_map]; exact Nat.le_trans hb1 (by decide)) (congrArg PyData.list hd) (dss_nilF [3] rfl)
      · have hJ' : ρ' = _ := hI
        rw [List.length_map, List.take_length] at hJ'
        subst hJ'
        exact dss_ret (de_var 4) rfl
end

/-! ## starving -/
open Classical in
noncomputable def rnd (c : Custom) (ws : List Int) : Nat × Nat := if h : ∃ p : Nat × Nat, Round c ws p.1 p.2 then h.choose else (0, 0)
theorem rnd_of {c : Custom} {ws : List Int} {i n : Nat} (h : Round c ws i n) : rnd c ws = (i, n) := by
  have hx : ∃ p : Nat × Nat, Round c ws p.1 p.2 := ⟨(i, n), h⟩
  unfold rnd
  rw [dif_pos hx]
  obtain ⟨h1, h2⟩ := Round.inj hx.choose_spec h
  exact Prod.ext h1 h2
/-- a hand has in the round -/
def hasR (rs : List (List Int)) (i : Nat) (hand : Int) : Bool := ((rs.drop i).map fun h => decide (hand ∈ h)).any id
noncomputable def hasH (c : Custom) (ws : List Int) (hand : Int) : Bool := hasR (rowN c ws (rnd c ws).2) (rnd c ws).1 hand
noncomputable def stOne (c : Custom) (ws : List Int) : Option (List Int × Nat) := ((List.range c.hands.length).find? fun (h : Nat) => !hasH c ws (h : Int)).map fun h => (ws, h)
noncomputable def firstSt (c : Custom) : Option (List Int × Nat) := (allWs (capsI c)).findSome? (stOne c)
def stD : Option (List Int × Nat) → PyData
  | none => .none
  | some (ws, h) => .tuple [wiD ws, .int (h : Int)]
def prSt (ds : List PyData) (d : PyData) : Prop := ∃ c, ds = [cuD c] ∧ WfC c ∧ sizeI (capsI c) ≤ 2000 ∧ d = stD (firstSt c)
def nSt : List Str := ["custom", "wishes", "row", "known", "first", "hand", "had"]
theorem scSt : FnScope nSt ["custom"] (defScope S_starving) := ⟨rfl, rfl, rfl, by decide +kernel, rfl, by decide +kernel, by decide +kernel⟩
theorem find_range_none {p : Nat → Bool} {k : Nat} (h : (List.range k).find? p = none) (hk : p k = false) : (List.range (k + 1)).find? p = none := by
  rw [List.range_succ, List.find?_append, h]
  simp [hk]
theorem find_range_some {p : Nat → Bool} {k m : Nat} (h : (List.range k).find? p = none) (hk : p k = true) (hm : k < m) : (List.range m).find? p = some k := by
  rw [List.find?_eq_none] at h
  have e : List.range m = List.range k ++ (List.range' k (m - k)) := by
    rw [List.range_eq_range', List.range_eq_range', show m = k + (m - k) by omega, ← List.range'_append]
    simp
  rw [e, List.find?_append, List.find?_eq_none.mpr h]
  rw [show m - k = (m - k - 1) + 1 by omega, List.range'_succ]
  simp [hk]
section
variable {P : Program} {w : World} {K : PySem.W.Frag} {mg : Str → Option Value} {base : Heap}
theorem ok_starving {f : Addr} {fd : FuncData} (F : Fun K "starving" "starving" S_starving f fd) (B : Bn mg) (hM : ∃ t, mg "MOST_lacks" = some (.int 2000 t)) (G0 : Cal P w K mg base 2 "all_wishes" 2 (spP prAll)) (G1 : Cal P w K mg base 2 "walked" 2 spWalk) : FnOk P w K mg base CX0 3 f fd ["custom"] (spP prSt) := by
  refine fn_ok F scSt (fun ds d h => ?_) (fun ds d h f cdv A outer s H E F0 H0 hr => ?_)
  · obtain ⟨c, rfl, _⟩ := h; rfl
  · obtain ⟨c, rfl, hc, hsz, rfl⟩ := h
    have nd := scSt.nd
    have h4 := hc.four
    generalize hW : allWs (capsI c) = W
    let I : Nat → Env' → Prop := fun i ρ => (W.take i).findSome? (stOne c) = none ∧ ρ = [.dat (cuD c), .no, .no, .no, .no, .no, .no]
    refine dss_for I (di_list (ds := W.map wiD) (de_call (d := .list ((allWs (capsI c)).map wiD)) G0 hr (da_cons (de_var 0) (da_cons (de_gint hM) da_nil)) ⟨c, 2000, rfl, hc, hsz, rfl⟩ |> fun h => de_is h (by rw [hW]))) ⟨rfl, rfl⟩ (fun i x ρ' hx hI => ?_) (fun ρ' hI => ?_)
    · obtain ⟨hno, rfl⟩ := hI
      rw [List.getElem?_map] at hx
      obtain ⟨ws, hws, rfl⟩ := Option.map_eq_some_iff.mp hx
      have hw : WfW c ws := mem_wf.mp (by rw [hW]; exact List.mem_of_getElem? hws)
      refine ⟨_, _, dg_name 1 nd, ?_⟩
      refine dss_walk 2 3 4 nd G1 hr (da_cons (de_var 0) (da_cons (de_var 1) da_nil)) hc hw fun i' n dd hR => ?_
      have hle := hR.le hc hw
      have hrn := rnd_of hR
      generalize hrs : rowN c ws n = rs
      have hrl : rs.length = n := by rw [← hrs, rowN_len]
      have hhas : ∀ h : Nat, hasH c ws (h : Int) = hasR rs i' (h : Int) := fun h => by
        unfold hasH; rw [hrn, hrs]
      let J : Nat → Env' → Prop := fun k ρ => (List.range k).find? (fun (h : Nat) => !hasH c ws (h : Int)) = none ∧ ρ = [.dat (cuD c), .dat (wiD ws), .dat (.list (rs.map wiD)), .own dd (.dct (dctN c ws n)), .dat (.int (i' : Int)), .no, .no]
      have take1 : W.take (i + 1) = W.take i ++ [ws] := by
        have := take_map_succ (fun x : List Int => x) hws
        simpa using this
      refine dss_for J (di_range1 (da_cons (de_callB call_len_seq B.len (by decide +kernel) (da_cons (de_ix ix_tup (de_var 0) de_int (v_ixT (by rfl))) da_nil) v_lenT) da_nil) B.range ⟨by omega, by rw [List.length_map]; omega⟩) ⟨rfl, rfl⟩ (fun k x ρ' hx hJ => ?_) (fun ρ' hJ => ?_)
      · obtain ⟨hnk, rfl⟩ := hJ
        obtain ⟨hk, rfl⟩ := rngD_get hx
        rw [List.length_map, Int.toNat_natCast] at hk
        rw [Int.zero_add]
        refine ⟨_, _, dg_name 5 nd, ?_⟩
        have hdl : (rs.drop i').length ≤ n := by rw [List.length_drop]; omega
        refine dss_ifx (x := !hasR rs i' (k : Int)) (dt_not (dt_val (de_callB (cr_any rfl) B.any (by decide +kernel) (da_cons (de_is (d2 := .list (((rs.drop i').map fun h => decide ((k : Int) ∈ h)).map .bool)) (de_lc (xs := rs.drop i') (enc := wiD) (own := [("had", 6)]) _ (fun _ => true) (fun h => .bool (decide ((k : Int) ∈ h))) [6] rfl nd (blkOk_by (N := nSt) (sc := defScope S_starving) (by decide +kernel))
          (di_list (de_is (de_sl sl_list (de_var 2) (do_some (de_var 4)) do_none v_slL) (congrArg PyData.list (cutD_drop wiD _ i' (by have := hR.lt; omega)))))
          (fun h _ _ _ _ _ _ => dg_name 6 nd)
          (fun _ _ _ _ _ _ _ => pts_none)
          (fun h _ _ _ _ _ _ _ => de_cmp op_in_seq (de_var 5) (de_var 6) v_inI)
          (by decide) (Nat.le_trans hdl (Nat.le_trans hle (by decide)))) (by rw [filter_tt, List.map_map]; rfl)) da_nil) v_any))) (fun hx => ?_) (fun hx => ?_)
        · refine dss_ret (de_tup (da_cons (de_var 1) (da_cons (de_var 5) da_nil))) ?_
          have e1 : stOne c ws = some (ws, k) := by
            unfold stOne
            rw [find_range_some hnk (by show (!hasH c ws (k : Int)) = true; rw [hhas]; exact hx) hk]
            rfl
          have e2 : firstSt c = some (ws, k) := by
            unfold firstSt
            rw [hW]
            have hsp : W = W.take i ++ ws :: W.drop (i + 1) := by
              have h1 : W = W.take (i + 1) ++ W.drop (i + 1) := (List.take_append_drop _ _).symm
              rw [take1, List.append_assoc] at h1
              exact h1
            rw [hsp, List.findSome?_append, hno]
            simp [e1]
          rw [e2]; rfl
        · refine dss_nilF [5, 6] ⟨find_range_none hnk ?_, rfl⟩
          show (!hasH c ws (k : Int)) = false
          rw [hhas]; exact hx
      · obtain ⟨hnk, rfl⟩ := hJ
        have hl2 : (rngD 0 (((c.hands.map haD).length : Int)).toNat).length = c.hands.length := by simp [rngD]
        rw [hl2] at hnk
        refine dss_nilF [1, 2, 3, 4, 5, 6] ⟨?_, rfl⟩
        rw [take1, List.findSome?_append, hno]
        simp [stOne, hnk]
    · obtain ⟨hno, rfl⟩ := hI
      rw [List.length_map, List.take_length] at hno
      refine dss_ret de_non ?_
      unfold firstSt
      rw [hW, hno]; rfl
end

/-! ## longest, lacks -/
def longStep (hand : Int) (s : Int × Int) (h : List Int) : Int × Int := let here := if hand ∈ h then 0 else s.2 + 1; (max s.1 here, here)
def longI (rs : List (List Int)) (hand : Int) : Int := (rs.foldl (longStep hand) (0, 0)).1
def prLong (ds : List PyData) (d : PyData) : Prop := ∃ rs hand, ds = [.list (rs.map wiD), .int hand] ∧ d = .int (longI rs hand)
def nLong : List Str := ["row", "hand", "found", "here", "had"]
theorem scLong : FnScope nLong ["row", "hand"] (defScope S_longest) := ⟨rfl, rfl, rfl, by decide +kernel, rfl, by decide +kernel, by decide +kernel⟩
theorem v_cat {ds es : List PyData} (h : ds.length + es.length ≤ 1000000) : V2 rCat (.list ds) (.list es) (.list (ds ++ es)) := fun F H v1 v2 e r1 r2 Q k => by
  obtain ⟨a, xs, rfl, ha, rx⟩ := r1.lst_inv
  obtain ⟨b, ys, rfl, hb, ry⟩ := r2.lst_inv
  refine ⟨a, b, xs, ys, rfl, rfl, e _ _ ha, e _ _ hb, by rw [rx.len, ry.len]; exact Nat.le_trans h (by decide), fun p hp => k _ _ _ (Grow.new e hp) (.lst upd_same ((rx.append ry).mono (Same.upd_new (same_none e hp))))⟩
section
variable {P : Program} {w : World} {K : PySem.W.Frag} {mg : Str → Option Value} {base : Heap}
theorem ok_longest {f : Addr} {fd : FuncData} (F : Fun K "longest" "longest" S_longest f fd) (B : Bn mg) : FnOk P w K mg base CX0 1 f fd ["row", "hand"] (spP prLong) := by
  refine fn_ok F scLong (fun ds d h => ?_) (fun ds d h f cdv A outer s H E F0 H0 hr => ?_)
  · obtain ⟨rs, hand, rfl, _⟩ := h; rfl
  · obtain ⟨rs, hand, rfl, rfl⟩ := h
    have nd := scLong.nd
    refine dss_set 2 nd de_int ?_
    refine dss_set 3 nd de_int ?_
    let I : Nat → Env' → Prop := fun i ρ => ρ = [.dat (.list (rs.map wiD)), .dat (.int hand), .dat (.int ((rs.take i).foldl (longStep hand) (0, 0)).1), .dat (.int ((rs.take i).foldl (longStep hand) (0, 0)).2), .no]
    refine dss_for I (di_list (de_var 0)) rfl (fun i x ρ' hx hI => ?_) (fun ρ' hI => ?_)
    · subst hI
      rw [List.getElem?_map] at hx
      obtain ⟨h, hh, rfl⟩ := Option.map_eq_some_iff.mp hx
      refine ⟨_, _, dg_name 4 nd, ?_⟩
      have e : rs.take (i + 1) = rs.take i ++ [h] := by
        have := take_map_succ (fun x : List Int => x) hh
        simpa using this
      generalize hs : (rs.take i).foldl (longStep hand) (0, 0) = st
      refine dss_set 3 nd (d := .int (if hand ∈ h then 0 else st.2 + 1)) (de_is (de_if (dt_cmp op_in_seq (de_var 1) (de_var 4) v_inI) (fun _ => de_int) (fun _ => de_op op_add (de_var 3) de_int v_add)) ?_) ?_
      · by_cases hm : hand ∈ h
        · rw [if_pos (decide_eq_true hm), if_pos hm]
        · rw [decide_eq_false hm, if_neg (by decide), if_neg hm]
      refine dss_set 2 nd (de_callB (call_max2 rfl) B.max (by decide +kernel) (da_cons (de_var 2) (da_cons (de_var 3) da_nil)) v_max2) (dss_nilF [4] ?_)
      show _ = _
      rw [e, List.foldl_append, hs]; rfl
    · have hI' : ρ' = _ := hI
      rw [List.length_map, List.take_length] at hI'
      subst hI'
      exact dss_ret (de_var 2) rfl
end
/-- what lacks tells of a hand -/
def lackD (rs : List (List Int)) (i : Nat) (hand : Int) : PyData := if ((rs.drop i).map fun h => decide (hand ∈ h)).any id = true then .int (longI (rs ++ rs.drop i) hand) else .none
def lacksD (c : Custom) (ws : List Int) (i n : Nat) : PyData := .list ((List.range c.hands.length).map fun (h : Nat) => lackD (rowN c ws n) i (h : Int))
def prLacks (ds : List PyData) (d : PyData) : Prop := ∃ c ws i n, ds = [cuD c, wiD ws] ∧ WfC c ∧ WfW c ws ∧ Round c ws i n ∧ d = lacksD c ws i n
def nLacks : List Str := ["custom", "wishes", "row", "known", "first", "found", "hand", "had"]
theorem scLacks : FnScope nLacks ["custom", "wishes"] (defScope S_lacks) := ⟨rfl, rfl, rfl, by decide +kernel, rfl, by decide +kernel, by decide +kernel⟩
section
variable {P : Program} {w : World} {K : PySem.W.Frag} {mg : Str → Option Value} {base : Heap}
theorem ok_lacks {f : Addr} {fd : FuncData} (F : Fun K "lacks" "lacks" S_lacks f fd) (B : Bn mg) (G1 : Cal P w K mg base 2 "walked" 2 spWalk) (G2 : Cal P w K mg base 1 "longest" 2 (spP prLong)) : FnOk P w K mg base CX0 3 f fd ["custom", "wishes"] (spP prLacks) := by
  refine fn_ok F scLacks (fun ds d h => ?_) (fun ds d h f cdv A outer s H E F0 H0 hr => ?_)
  · obtain ⟨c, ws, i, n, rfl, _⟩ := h; rfl
  · obtain ⟨c, ws, i, n, rfl, hc, hw, hR, rfl⟩ := h
    have nd := scLacks.nd
    have hr1 := hr.mono (show 1 ≤ 2 by decide)
    refine dss_walk 2 3 4 nd G1 hr (da_cons (de_var 0) (da_cons (de_var 1) da_nil)) hc hw fun i' n' dd hR' => ?_
    obtain ⟨rfl, rfl⟩ := hR.inj hR'
    have hle := hR.le hc hw
    have h4 := hc.four
    refine dss_newl 5 nd fun p => ?_
    generalize hrs : rowN c ws n = rs
    have hrl : rs.length = n := by rw [← hrs, rowN_len]
    let I : Nat → Env' → Prop := fun k ρ => ρ = [.dat (cuD c), .dat (wiD ws), .dat (.list (rs.map wiD)), .own dd (.dct (dctN c ws n)), .dat (.int (i : Int)), .own p (.lst ((List.range k).map fun (h : Nat) => lackD rs i (h : Int))), .no, .no]
    have hrow : ∀ {ρ : Env'} {p1 p2 p3 p4 : Pos} , ρ[2]? = some (.dat (.list (rs.map wiD))) → ρ[4]? = some (.dat (.int (i : Int))) → DE (Bod P w K mg base nLacks "lacks" S_lacks f cdv A outer s H E) ρ (.Subscript (.Name "row" p1) (.Slice (some (.Name "first" p2)) none none p3) p4) (.list ((rs.drop i).map wiD)) := fun {ρ p1 p2 p3 p4} h2 h4 =>
      de_is (de_sl sl_list (de_var 2 (h := h2)) (do_some (de_var 4 (h := h4))) do_none v_slL) (congrArg PyData.list (cutD_drop wiD _ i (by have := hR.lt; omega)))
    refine dss_for I (di_range1 (da_cons (de_callB call_len_seq B.len (by decide +kernel) (da_cons (de_ix ix_tup (de_var 0) de_int (v_ixT (by rfl))) da_nil) v_lenT) da_nil) B.range ⟨by omega, by rw [List.length_map]; omega⟩) rfl (fun k x ρ' hx hI => ?_) (fun ρ' hI => ?_)
    · subst hI
      obtain ⟨hk, rfl⟩ := rngD_get hx
      rw [List.length_map, Int.toNat_natCast] at hk
      rw [Int.zero_add]
      refine ⟨_, _, dg_name 6 nd, ?_⟩
      have hdl : (rs.drop i).length ≤ n := by rw [List.length_drop]; omega
      have step : ∀ d, d = lackD rs i (k : Int) → (wipeE (((([.dat (cuD c), .dat (wiD ws), .dat (.list (rs.map wiD)), .own dd (.dct (dctN c ws n)), .dat (.int (i : Int)), .own p (.lst ((List.range k).map fun (h : Nat) => lackD rs i (h : Int))), .no, .no] : Env').set 6 (.dat (.int (k : Int)))).set 5 (.own p (.lst (((List.range k).map fun (h : Nat) => lackD rs i (h : Int)) ++ [d]))))) [6]) = [.dat (cuD c), .dat (wiD ws), .dat (.list (rs.map wiD)), .own dd (.dct (dctN c ws n)), .dat (.int (i : Int)), .own p (.lst ((List.range (k + 1)).map fun (h : Nat) => lackD rs i (h : Int))), .no, .no] := fun d hd => by
        rw [hd, List.range_succ, List.map_append]; rfl
      have hlen5 : ((List.range k).map fun (h : Nat) => lackD rs i (h : Int)).length < sizeLine := by
        rw [List.length_map, List.length_range]
        exact Nat.lt_of_lt_of_le (show k < 64 by omega) (by decide)
      refine dss_one (ds_if (x := ((rs.drop i).map fun h => decide ((k : Int) ∈ h)).any id) (dt_val (de_callB (cr_any rfl) B.any (by decide +kernel) (da_cons (de_is (d2 := .list (((rs.drop i).map fun h => decide ((k : Int) ∈ h)).map .bool)) (de_lc (xs := rs.drop i) (enc := wiD) (own := [("had", 7)]) _ (fun _ => true) (fun h => .bool (decide ((k : Int) ∈ h))) [7] rfl nd (blkOk_by (N := nLacks) (sc := defScope S_lacks) (by decide +kernel))
        (di_list (hrow rfl rfl))
        (fun h _ _ _ _ _ _ => dg_name 7 nd)
        (fun _ _ _ _ _ _ _ => pts_none)
        (fun h _ _ _ _ _ _ _ => de_cmp op_in_seq (de_var 6) (de_var 7) v_inI)
        (by decide) (Nat.le_trans hdl (Nat.le_trans hle (by decide)))) (by rw [filter_tt, List.map_map]; rfl)) da_nil) v_any)) (fun hx => ?_) (fun hx => ?_))
      · refine dss_app 5 (d := .int (longI (rs ++ rs.drop i) (k : Int))) (da_cons (de_call (ds := [.list ((rs ++ rs.drop i).map wiD), .int (k : Int)]) G2 hr1 (da_cons (de_is (de_op op_cat (de_var 2) (hrow rfl rfl) (v_cat (by rw [List.length_map, List.length_map]; omega))) (by rw [List.map_append])) (da_cons (de_var 6) da_nil)) ⟨_, _, rfl, rfl⟩) da_nil) hlen5 (dss_nilF [6] (step _ ?_))
        unfold lackD
        rw [if_pos hx]
      · refine dss_app 5 (d := .none) (da_cons de_non da_nil) hlen5 (dss_nilF [6] (step _ ?_))
        unfold lackD
        rw [if_neg (by rw [hx]; decide)]
    · have hl2 : (rngD 0 (((c.hands.map haD).length : Int)).toNat).length = c.hands.length := by simp [rngD]
      have hI' : ρ' = _ := hI
      rw [hl2] at hI'
      subst hI'
      refine dss_freeze 5 (dss_ret (de_var 5) ?_)
      unfold lacksD
      rw [hrs]
end

/-! ## parting -/
abbrev PVal := PK × List Int
def pStepK (c c' : Custom) (k : PK) : PK := (after c k.1, after c' k.2)
def pDiff (c c' : Custom) (e : PVal) : Bool := !decide (had c e.1.1 = had c' e.1.2)
def pAdd (c c' : Custom) (known later : List PVal) (e : PVal) : List PVal := if pStepK c c' e.1 ∈ (known ++ later).map (·.1) then later else later ++ [(pStepK c c' e.1, e.2)]
def pRow (c c' : Custom) (known row : List PVal) : List PVal := row.foldl (pAdd c c' known) []
def partF (c c' : Custom) : Nat → Nat → List PVal → List PVal → Option (Nat × List Int)
  | 0, _, _, _ => none
  | f + 1, n, known, row => if row.isEmpty then none else match row.find? (pDiff c c') with
    | some e => some (n + 1, e.2)
    | none => partF c c' f (n + 1) (known ++ pRow c c' known row) (pRow c c' known row)
def startP (c : Custom) : List PVal := (allWs (capsI c)).map fun w => ((w, w), w)
def partV (c c' : Custom) : Option (Nat × List Int) := partF c c' 400000 0 (startP c) (startP c)
def partD : Option (Nat × List Int) → PyData
  | none => .none
  | some (n, b) => .tuple [.int (n : Int), wiD b]
def HashOk (c : Custom) : Prop := ((allWs (capsI c)).map fun w => hK (w, w)).Nodup
def prPart (ds : List PyData) (d : PyData) : Prop := ∃ c c', ds = [cuD c, cuD c'] ∧ WfC c ∧ WfC c' ∧ capsI c = capsI c' ∧ sizeI (capsI c) ≤ 400 ∧ HashOk c ∧ d = partD (partV c c')
structure KOk (c c' : Custom) (known : List PVal) : Prop where
  nd : (known.map (·.1)).Nodup
  wf : ∀ e ∈ known, WfW c e.1.1 ∧ WfW c' e.1.2
theorem KOk.len {c c' : Custom} {known : List PVal} (h : KOk c c' known) (hc : WfC c) (hc' : WfC c') (he : capsI c = capsI c') (hsz : sizeI (capsI c) ≤ 400) : known.length ≤ 160000 := by
  have co := capsOk_of hc
  have hl := allWs_len co
  have h1 := h.nd.length_le_of_subset (l₂ := (allWs (capsI c)).flatMap fun a => (allWs (capsI c)).map fun b => (a, b)) (fun k hk => by
    obtain ⟨e, he', rfl⟩ := List.mem_map.mp hk
    obtain ⟨w1, w2⟩ := h.wf e he'
    have m1 := mem_wf.mpr w1
    have m2 := mem_wf.mpr w2
    rw [← he] at m2
    exact List.mem_flatMap.mpr ⟨_, m1, List.mem_map.mpr ⟨_, m2, rfl⟩⟩)
  rw [List.length_map, List.length_flatMap] at h1
  simp only [List.length_map] at h1
  rw [List.map_const', List.sum_replicate_nat] at h1
  generalize (allWs (capsI c)).length = n at hl h1
  have hn : n ≤ 400 := by omega
  have := Nat.mul_le_mul hn hn
  omega
theorem allStep_nodup {acc : List (List Int)} {c : Int} (h : acc.Nodup) (hl : ∀ a ∈ acc, ∀ b ∈ acc, a.length = b.length) : (allStep acc c).Nodup := by
  unfold allStep
  rw [List.flatMap_def, List.Nodup, List.pairwise_flatten]
  refine ⟨fun l hl => ?_, ?_⟩
  · obtain ⟨a, _, rfl⟩ := List.mem_map.mp hl
    refine List.pairwise_map.mpr (List.Pairwise.imp (fun {x y} hxy z => ?_) (List.nodup_range (n := (c + 1).toNat)))
    simp at z
    exact hxy (Int.ofNat.inj z)
  · refine List.pairwise_map.mpr (List.Pairwise.imp_of_mem (fun {a b} ha hb hab => ?_) h)
    intro x hx y hy z
    obtain ⟨i, _, rfl⟩ := List.mem_map.mp hx
    obtain ⟨j, _, rfl⟩ := List.mem_map.mp hy
    exact hab (List.append_inj_left z (hl a ha b hb))
theorem allWs_nodup (cs : List Int) : (allWs cs).Nodup := by
  have gen : ∀ (cs : List Int) (acc : List (List Int)), acc.Nodup → (∀ a ∈ acc, ∀ b ∈ acc, a.length = b.length) → (cs.foldl allStep acc).Nodup := by
    intro cs
    induction cs with
    | nil => intro acc h _; exact h
    | cons c cs ih =>
      intro acc h hl
      refine ih _ (allStep_nodup h hl) fun a ha b hb => ?_
      obtain ⟨x, hx, i, _, rfl⟩ := mem_step.mp ha
      obtain ⟨y, hy, j, _, rfl⟩ := mem_step.mp hb
      simp [hl x hx y hy]
  refine gen cs _ (by simp) fun a ha b hb => ?_
  rw [List.mem_singleton.mp ha, List.mem_singleton.mp hb]
theorem startP_ok {c c' : Custom} (he : capsI c = capsI c') : KOk c c' (startP c) := by
  refine ⟨?_, fun e h => ?_⟩
  · unfold startP
    rw [List.map_map]
    refine List.pairwise_map.mpr (List.Pairwise.imp (fun {x y} hxy z => ?_) (allWs_nodup (capsI c)))
    have z' : (x, x) = (y, y) := z
    exact hxy (Prod.ext_iff.mp z').1
  · obtain ⟨w, hw, rfl⟩ := List.mem_map.mp h
    refine ⟨mem_wf.mp hw, mem_wf.mp ?_⟩
    rw [← he]; exact hw
theorem KOk.add {c c' : Custom} {known later : List PVal} {e : PVal} (h : KOk c c' (known ++ later)) (hc : WfC c) (hc' : WfC c') (hw : WfW c e.1.1 ∧ WfW c' e.1.2) : KOk c c' (known ++ pAdd c c' known later e) := by
  unfold pAdd
  split
  · exact h
  · rename_i hn
    rw [← List.append_assoc]
    refine ⟨?_, fun x hx => ?_⟩
    · rw [List.map_append, List.nodup_append]
      refine ⟨h.nd, by simp, fun a ha b hb z => ?_⟩
      have hb' : b = pStepK c c' e.1 := by simpa using hb
      rw [z, hb'] at ha
      exact hn ha
    · rcases List.mem_append.mp hx with q | q
      · exact h.wf x q
      · rw [List.mem_singleton.mp q]
        exact ⟨wf_after hc hw.1, wf_after hc' hw.2⟩
theorem KOk.row {c c' : Custom} {known : List PVal} (h : KOk c c' known) (hc : WfC c) (hc' : WfC c') (row : List PVal) (hr : ∀ e ∈ row, WfW c e.1.1 ∧ WfW c' e.1.2) : KOk c c' (known ++ pRow c c' known row) := by
  have gen : ∀ (row later : List PVal), (∀ e ∈ row, WfW c e.1.1 ∧ WfW c' e.1.2) → KOk c c' (known ++ later) → KOk c c' (known ++ row.foldl (pAdd c c' known) later) := by
    intro row
    induction row with
    | nil => intro later _ h; exact h
    | cons e row ih => intro later hr h; exact ih _ (fun x hx => hr x (by simp [hx])) (h.add hc hc' (hr e (by simp)))
  exact gen row [] hr (by simpa using h)
/-- how many turns the walk has left, at most -/
def pLeft (known row : List PVal) : Nat := (160000 - known.length) * 2 + if row.isEmpty then 0 else 1
theorem pLeft_lt {c c' : Custom} {known row : List PVal} (hc : WfC c) (hc' : WfC c') (he : capsI c = capsI c') (hsz : sizeI (capsI c) ≤ 400) (h2 : KOk c c' (known ++ pRow c c' known row)) (hr : row.isEmpty = false) : pLeft (known ++ pRow c c' known row) (pRow c c' known row) < pLeft known row := by
  have hl := h2.len hc hc' he hsz
  unfold pLeft
  rw [hr]
  rw [List.length_append] at hl ⊢
  cases hz : (pRow c c' known row).isEmpty with
  | true =>
    rw [List.isEmpty_iff.mp hz] at hl ⊢
    simp
  | false =>
    have hne : 0 < (pRow c c' known row).length := by
      cases hq : pRow c c' known row with
      | nil => rw [hq] at hz; cases hz
      | cons _ _ => simp
    simp
    omega
theorem find_split {α : Type} {p : α → Bool} {xs : List α} {i : Nat} {x : α} (h : (xs.take i).find? p = none) (hx : xs[i]? = some x) (hp : p x = true) : xs.find? p = some x := by
  have hsp : xs = xs.take i ++ x :: xs.drop (i + 1) := by
    have h1 : xs = xs.take (i + 1) ++ xs.drop (i + 1) := (List.take_append_drop _ _).symm
    have h2 := take_map_succ (fun x : α => x) hx
    simp only [List.map_id'] at h2
    rw [h2, List.append_assoc] at h1
    exact h1
  rw [hsp, List.find?_append, h]
  simp [hp]
theorem find_succ {α : Type} {p : α → Bool} {xs : List α} {i : Nat} {x : α} (h : (xs.take i).find? p = none) (hx : xs[i]? = some x) (hp : p x = false) : (xs.take (i + 1)).find? p = none := by
  have h2 := take_map_succ (fun x : α => x) hx
  simp only [List.map_id'] at h2
  rw [h2, List.find?_append, h]
  simp [hp]
def nPart : List Str := ["one", "other", "row", "known", "turns", "later", "left", "right", "begin", "had", "same", "wishes"]
theorem scPart : FnScope nPart ["one", "other"] (defScope S_parting) := ⟨rfl, rfl, rfl, by decide +kernel, rfl, by decide +kernel, by decide +kernel⟩
section
variable {P : Program} {w : World} {K : PySem.W.Frag} {mg : Str → Option Value} {base : Heap}
theorem ok_parting {f : Addr} {fd : FuncData} (F : Fun K "parting" "parting" S_parting f fd) (B : Bn mg) (hM : ∃ t, mg "MOST_apart" = some (.int 400 t)) (G0 : Cal P w K mg base 1 "caps" 1 (spP prCaps)) (G1 : Cal P w K mg base 2 "all_wishes" 2 (spP prAll)) (G2 : Cal P w K mg base 1 "one_turn" 2 (spP prOne)) : FnOk P w K mg base CX0 3 f fd ["one", "other"] (spP prPart) := by
  refine fn_ok F scPart (fun ds d h => ?_) (fun ds d h f cdv A outer s H E F0 H0 hr => ?_)
  · obtain ⟨c, c', rfl, _⟩ := h; rfl
  · obtain ⟨c, c', rfl, hc, hc', hcaps, hsz, hh, rfl⟩ := h
    have nd := scPart.nd
    have h4 := hc.four
    have h4' := hc'.four
    have hun : (Bod P w K mg base nPart "parting" S_parting f cdv A outer s H E).A.units + 64 < cLine := by have := hr.un; omega
    have hu16 : (Bod P w K mg base nPart "parting" S_parting f cdv A outer s H E).A.units + 16 < cLine := by omega
    have hu32 : (Bod P w K mg base nPart "parting" S_parting f cdv A outer s H E).A.units + 32 < cLine := by omega
    have hu0 : (Bod P w K mg base nPart "parting" S_parting f cdv A outer s H E).A.units < cLine := by omega
    have hcd : capsD c' = capsD c := by rw [capsD_eq, capsD_eq, hcaps]
    have co := capsOk_of hc
    have hlen := allWs_len co
    have hlt : (allWs (capsI c)).length ≤ 400 := by omega
    -- if caps(one) != caps(other)
    refine dss_ifx (x := false) (dt_cmp (op_neD (by omega)) (de_call (d := capsD c) G0 (hr.mono (by decide)) (da_cons (de_var 0) da_nil) ⟨c, rfl, by omega, rfl⟩) (de_call (d := capsD c) G0 (hr.mono (by decide)) (da_cons (de_var 1) da_nil) ⟨c', rfl, by omega, hcd.symm⟩) (v_neL (lay_wi (capsI c)))) (fun h => by cases h) (fun _ => ?_)
    generalize hW : allWs (capsI c) = W at hlt
    have hwf : ∀ v ∈ W, WfW c v := fun v hv => mem_wf.mp (by rw [hW]; exact hv)
    have hWn : W.Nodup := by rw [← hW]; exact allWs_nodup _
    -- row = {(wishes, wishes): wishes for ..}
    refine dss_setDcN 2 (xs := W) (enc := wiD) [("wishes", 11)] _ [11] (fun w => (w, w)) (fun w => w) hu16 rfl nd (blkOk_by (N := nPart) (sc := defScope S_parting) (by decide +kernel))
      (di_list (ds := W.map wiD) (de_call (d := .list ((allWs (capsI c)).map wiD)) G1 hr (da_cons (de_var 0) (da_cons (de_gint hM) da_nil)) ⟨c, 400, rfl, hc, hsz, rfl⟩ |> fun h => de_is h (by rw [hW])))
      (fun v _ _ _ _ _ _ => dg_name 11 nd)
      (fun v _ _ _ _ _ _ => de_tup (da_cons (de_var 11) (da_cons (de_var 11) da_nil)))
      (fun v _ _ _ _ _ _ => de_var 11)
      (by decide) (Nat.le_trans hlt (by decide)) (List.pairwise_map.mpr (hWn.imp fun {x y} hxy z => hxy (Prod.ext_iff.mp z).1)) fun rd => ?_
    have hst : (W.map fun w => ((w, w), w)) = startP c := by unfold startP; rw [hW]
    rw [hst]
    have hstart := startP_ok hcaps
    refine dss_fixN 2 ?_
    -- known = dict(row)
    refine dss_ownP 3 (w := fun p => .nd P w p (startP c)) nd (pe_dictN 2 rfl hu32 B.dict (by unfold startP; rw [List.map_map]; exact hh)) fun kd => ?_
    refine dss_set 4 nd de_int ?_
    let V : Nat → Env' → Prop := fun m ρ => ∃ (n : Nat) (rd : Addr) (known row : List PVal) (fu : Nat), m = pLeft known row ∧ m ≤ fu ∧ n + m ≤ 400000 ∧ partV c c' = partF c c' fu n known row ∧ KOk c c' known ∧ (∀ e ∈ row, WfW c e.1.1 ∧ WfW c' e.1.2) ∧
      ρ = [.dat (cuD c), .dat (cuD c'), .st rd (.ndF P w rd row), .own kd (.nd P w kd known), .dat (.int (n : Int)), .no, .no, .no, .no, .no, .no, .no]
    refine dss_while V (fun ρ => partV c c' = none) (pLeft (startP c) (startP c)) ⟨0, rd, startP c, startP c, 400000, rfl, by unfold pLeft; split <;> omega, by unfold pLeft; split <;> omega, rfl, hstart, hstart.wf, rfl⟩ (fun m ρ' hV => ?_) (fun ρ' hI => ?_)
    · obtain ⟨n, rd, known, row, fu, rfl, hfu, hnm, hv, hk, hrow, rfl⟩ := hV
      refine ⟨_, dt_neN 2 rfl hu0, fun hx => ?_, fun hx => ?_⟩
      · have hne : row.isEmpty = false := by cases q : row.isEmpty <;> simp_all
        obtain ⟨fu, rfl⟩ : ∃ f, fu = f + 1 := ⟨fu - 1, by
          have h0 : 0 < pLeft known row := by unfold pLeft; rw [hne]; simp
          omega⟩
        have hv2 : partV c c' = match row.find? (pDiff c c') with
          | some e => some (n + 1, e.2)
          | none => partF c c' fu (n + 1) (known ++ pRow c c' known row) (pRow c c' known row) := by
          rw [hv, partF, hne]; rfl
        refine dss_augI 4 nd (i := (n : Int)) de_int rfl ?_
        refine dss_newN 5 nd fun ld => ?_
        let J : Nat → Env' → Prop := fun i ρ => (row.take i).find? (pDiff c c') = none ∧ KOk c c' (known ++ pRow c c' known (row.take i)) ∧
          ρ = [.dat (cuD c), .dat (cuD c'), .st rd (.ndF P w rd row), .own kd (.nd P w kd (known ++ pRow c c' known (row.take i))), .dat (.int ((n : Int) + 1)), .own ld (.nd P w ld (pRow c c' known (row.take i))), .no, .no, .no, .no, .no, .no]
        refine dss_for J (di_itemsN 2 rfl) ⟨rfl, by simpa [pRow] using hk, by simp only [List.take_zero, pRow, List.foldl_nil, List.append_nil]; rfl⟩ (fun i x ρ' hx hJ => ?_) (fun ρ' hJ => ?_)
        · obtain ⟨hnone, hki, rfl⟩ := hJ
          rw [List.getElem?_map] at hx
          obtain ⟨e, he, rfl⟩ := Option.map_eq_some_iff.mp hx
          obtain ⟨⟨a, a'⟩, b⟩ := e
          obtain ⟨wa, wa'⟩ := hrow _ (List.mem_of_getElem? he)
          refine ⟨_, _, dg_tup (dgs_cons (dg_tup (dgs_cons (dg_name 6 nd) (dgs_cons (dg_name 7 nd) dgs_nil))) (dgs_cons (dg_name 8 nd) dgs_nil)), ?_⟩
          generalize hL : pRow c c' known (row.take i) = L at hki
          change DSs _ _ _ _ [.dat (cuD c), .dat (cuD c'), .st rd (.ndF P w rd row), .own kd (.nd P w kd (known ++ L)), .dat (.int ((n : Int) + 1)), .own ld (.nd P w ld L), .dat (wiD a), .dat (wiD a'), .dat (wiD b), .no, .no, .no] _ _
          refine dss_asg (de_call (d := oneD c a) G2 (hr.mono (by decide)) (da_cons (de_var 0) (da_cons (de_var 6) da_nil)) ⟨c, a, rfl, hc, wa, rfl⟩) (dg_tup (dgs_cons (dg_name 9 nd) (dgs_cons (dg_name 6 nd) dgs_nil))) ?_
          refine dss_asg (de_call (d := oneD c' a') G2 (hr.mono (by decide)) (da_cons (de_var 1) (da_cons (de_var 7) da_nil)) ⟨c', a', rfl, hc', wa', rfl⟩) (dg_tup (dgs_cons (dg_name 10 nd) (dgs_cons (dg_name 7 nd) dgs_nil))) ?_
          change DSs _ _ _ _ [.dat (cuD c), .dat (cuD c'), .st rd (.ndF P w rd row), .own kd (.nd P w kd (known ++ L)), .dat (.int ((n : Int) + 1)), .own ld (.nd P w ld L), .dat (wiD (after c a)), .dat (wiD (after c' a')), .dat (wiD b), .dat (wiD (had c a)), .dat (wiD (had c' a')), .no] _ _
          refine dss_ifx (x := pDiff c c' ((a, a'), b)) (dt_is (dt_cmp (op_neD (by omega)) (de_var 9) (de_var 10) (v_neD ((lay_wi _).shaped (by decide)) ((lay_wi _).shaped (by decide)))) (by rw [eqv_wi]; rfl)) (fun hx => ?_) (fun hx => ?_)
          · refine dss_ret (de_tup (da_cons (de_var 4) (da_cons (de_var 8) da_nil))) ?_
            rw [find_split hnone he hx] at hv2
            rw [hv2]
            show _ = PyData.tuple [.int ((n + 1 : Nat) : Int), wiD b]
            rw [Int.natCast_add]; rfl
          · have hfs := find_succ hnone he hx
            have hLs : pRow c c' known (row.take (i + 1)) = pAdd c c' known L ((a, a'), b) := by
              rw [← hL]; exact foldl_take _ _ he
            have hks : KOk c c' (known ++ pAdd c c' known L ((a, a'), b)) := hki.add hc hc' ⟨wa, wa'⟩
            have hb1 := hki.len hc hc' hcaps hsz
            rw [List.length_append] at hb1
            have hpk : pStepK c c' (a, a') = (after c a, after c' a') := rfl
            unfold J
            rw [hLs]
            refine dss_seq (N1 := fun ρ => ρ = [.dat (cuD c), .dat (cuD c'), .st rd (.ndF P w rd row), .own kd (.nd P w kd (known ++ pAdd c c' known L ((a, a'), b))), .dat (.int ((n : Int) + 1)), .own ld (.nd P w ld (pAdd c c' known L ((a, a'), b))), .dat (wiD (after c a)), .dat (wiD (after c' a')), .dat (wiD b), .dat (wiD (had c a)), .dat (wiD (had c' a')), .no]) (ds_if (x := !decide ((after c a, after c' a') ∈ (known ++ L).map (·.1))) (dt_notinN 3 rfl hu16 (de_tup (da_cons (de_var 6) (da_cons (de_var 7) da_nil)))) (fun hx => ?_) (fun hx => ?_)) fun ρ' h => ?_
            · have hni : (after c a, after c' a') ∉ (known ++ L).map (·.1) := by
                intro z
                rw [decide_eq_true z] at hx; cases hx
              have hnL : (after c a, after c' a') ∉ L.map (·.1) := fun z => hni (by rw [List.map_append]; exact List.mem_append_right _ z)
              have hpa : pAdd c c' known L ((a, a'), b) = L ++ [((after c a, after c' a'), b)] := by
                unfold pAdd; rw [hpk, if_neg hni]
              refine dss_putN 3 (k := (after c a, after c' a')) rfl hu16 (de_var 8) (de_tup (da_cons (de_var 6) (da_cons (de_var 7) da_nil))) hni (by rw [List.length_append]; exact Nat.lt_of_le_of_lt hb1 (by decide)) ?_
              refine dss_putN 5 (k := (after c a, after c' a')) rfl hu16 (de_var 8) (de_tup (da_cons (de_var 6) (da_cons (de_var 7) da_nil))) hnL (Nat.lt_of_le_of_lt (Nat.le_trans (Nat.le_add_left _ _) hb1) (by decide)) (dss_nil ?_)
              rw [hpa, ← List.append_assoc]; rfl
            · have hin : (after c a, after c' a') ∈ (known ++ L).map (·.1) := by
                cases q : decide ((after c a, after c' a') ∈ (known ++ L).map (·.1)) with
                | true => exact of_decide_eq_true q
                | false => rw [q] at hx; cases hx
              have hpa : pAdd c c' known L ((a, a'), b) = L := by
                unfold pAdd; rw [hpk, if_pos hin]
              refine dss_nil ?_
              rw [hpa]
            · subst h
              exact dss_nilF [6, 7, 8, 9, 10] ⟨hfs, hks, rfl⟩
        · obtain ⟨hnone, hki, rfl⟩ := hJ
          rw [List.length_map, List.take_length] at hnone hki
          rw [List.length_map, List.take_length]
          rw [hnone] at hv2
          refine dss_fixN 5 ?_
          refine dss_copySt 2 5 nd rfl ?_
          have hlt2 := pLeft_lt hc hc' hcaps hsz hki hne
          refine dss_nilF [5] ⟨_, hlt2, n + 1, ld, _, _, fu, rfl, by omega, by omega, hv2, hki, fun e he => hki.wf e (List.mem_append_right _ he), ?_⟩
          rw [Int.natCast_add]; rfl
      · have he : row.isEmpty = true := by cases q : row.isEmpty <;> simp_all
        rw [hv]
        cases fu with
        | zero => rfl
        | succ f => rw [partF, he]; rfl
    · refine dss_ret de_non ?_
      rw [hI]; rfl
end

/-! ## hands turned about: the mathematics -/
def turnC (c : Custom) : Custom := ⟨c.many, !c.first, c.hands.reverse⟩
def backI (m : Nat) (h : List Int) : List Int := (h.map fun x => (m : Int) - 1 - x).reverse
theorem turn_len (c : Custom) : (turnC c).hands.length = c.hands.length := List.length_reverse
theorem wfC_turn {c : Custom} (h : WfC c) : WfC (turnC c) := ⟨by rw [turn_len]; exact h.two, by rw [turn_len]; exact h.four, h.many1, by rw [turn_len]; exact h.many2, fun k hk => h.steps k (List.mem_reverse.mp hk)⟩
theorem handAt_rev (hs : List Hand) {i : Nat} (h : i < hs.length) : handAt hs.reverse ((hs.length : Int) - 1 - (i : Int)) = handAt hs (i : Int) := by
  unfold handAt
  rw [Int.toNat_natCast, show ((hs.length : Int) - 1 - (i : Int)).toNat = hs.length - 1 - i by omega, List.getD_eq_getElem?_getD, List.getD_eq_getElem?_getD, List.getElem?_reverse (by omega), show hs.length - 1 - (hs.length - 1 - i) = i by omega]
theorem enum_rev (ws : List Int) : enumI ws.reverse = ((enumI ws).map fun p => ((ws.length : Int) - 1 - p.1, p.2)).reverse := by
  refine List.ext_getElem? fun i => ?_
  rw [enumI_get]
  by_cases h : i < ws.length
  · rw [List.getElem?_reverse h, List.getElem?_reverse (by rw [List.length_map, enumI_len]; exact h), List.length_map, enumI_len, List.getElem?_map, enumI_get, Option.map_map]
    congr 1
    funext v
    simp only [Function.comp_apply]
    rw [show (ws.length : Int) - 1 - ((ws.length - 1 - i : Nat) : Int) = (i : Int) by omega]
  · rw [List.getElem?_eq_none_iff.mpr (by rw [List.length_reverse]; omega), List.getElem?_eq_none_iff.mpr (by rw [List.length_reverse, List.length_map, enumI_len]; omega)]; rfl
theorem ahead_flip (f : Bool) (n : Int) (p q : Int × Int) : goesAhead (!f) (n - p.1, p.2) (n - q.1, q.2) = goesAhead f p q := by
  unfold goesAhead
  rw [Bool.eq_iff_iff]
  cases f
  · simp only [Bool.or_eq_true, Bool.and_eq_true, decide_eq_true_eq, Bool.not_false, if_true, if_neg Bool.false_ne_true]
    omega
  · simp only [Bool.or_eq_true, Bool.and_eq_true, decide_eq_true_eq, Bool.not_true, if_true, if_neg Bool.false_ne_true]
    omega
theorem aheadOf_turn (c : Custom) (ws : List Int) (p : Int × Int) : aheadOf (turnC c) ws.reverse ((ws.length : Int) - 1 - p.1, p.2) = aheadOf c ws p := by
  unfold aheadOf
  rw [enum_rev, List.filter_reverse, List.length_reverse, List.filter_map, List.length_map]
  congr 2
  funext q
  exact ahead_flip c.first _ p q
theorem had_turn (c : Custom) (ws : List Int) : had (turnC c) ws.reverse = backI ws.length (had c ws) := by
  unfold had backI
  rw [enum_rev, List.filter_reverse, List.map_reverse, List.filter_map, List.map_map, List.map_map]
  congr 2
  congr 1
  funext p
  simp only [Function.comp_apply, aheadOf_turn]
  rfl
theorem mem_back {m : Nat} {h : List Int} {x : Int} : (m : Int) - 1 - x ∈ backI m h ↔ x ∈ h := by
  unfold backI
  rw [List.mem_reverse, List.mem_map]
  constructor
  · rintro ⟨y, hy, e⟩
    rw [show x = y by omega]; exact hy
  · intro hx; exact ⟨x, hx, rfl⟩
theorem back_inj {m : Nat} {a b : List Int} (h : backI m a = backI m b) : a = b := by
  unfold backI at h
  have h1 := List.reverse_inj.mp h
  induction a generalizing b with
  | nil => cases b with
    | nil => rfl
    | cons y b => simp at h1
  | cons x a ih => cases b with
    | nil => simp at h1
    | cons y b =>
      simp only [List.map_cons, List.cons.injEq] at h1
      rw [ih (by rw [h1.2]) h1.2, show x = y by omega]
theorem after_turn {c : Custom} {ws : List Int} (hw : WfW c ws) : after (turnC c) ws.reverse = (after c ws).reverse := by
  unfold after afterBy
  rw [enum_rev, List.map_reverse, List.map_map, had_turn]
  congr 1
  refine List.map_congr_left fun p hp => ?_
  obtain ⟨i, h1, h2⟩ := enumI_mem.mp hp
  have hi : i < ws.length := (List.getElem?_eq_some_iff.mp h2).1
  simp only [Function.comp_apply]
  unfold stepOf
  have e1 : handAt (turnC c).hands ((ws.length : Int) - 1 - p.1) = handAt c.hands p.1 := by
    rw [h1, hw.len]
    exact handAt_rev c.hands (by rw [← hw.len]; exact hi)
  rw [e1]
  by_cases hm : p.1 ∈ had c ws
  · rw [if_pos hm, if_pos (mem_back.mpr hm)]
  · rw [if_neg hm, if_neg (fun z => hm (mem_back.mp z))]
theorem wfW_turn {c : Custom} {ws : List Int} (h : WfW c ws) : WfW (turnC c) ws.reverse := by
  refine ⟨by rw [turn_len, List.length_reverse]; exact h.len, fun i w hi => ?_⟩
  have hl : i < ws.length := by
    have := (List.getElem?_eq_some_iff.mp hi).1
    simpa using this
  rw [List.getElem?_reverse hl] at hi
  have hb := h.bound _ w hi
  have e := handAt_rev c.hands (i := ws.length - 1 - i) (by rw [← h.len]; omega)
  rw [← e] at hb
  rw [show (c.hands.length : Int) - 1 - ((ws.length - 1 - i : Nat) : Int) = (i : Int) by rw [← h.len]; omega] at hb
  exact hb
theorem turn_turn (c : Custom) : turnC (turnC c) = c := by
  cases c with | mk m f hs => simp [turnC]
section
variable {c : Custom} {ws : List Int}
theorem at_turn (hc : WfC c) (hw : WfW c ws) : ∀ k, wAt (turnC c) ws.reverse k = (wAt c ws k).reverse
  | 0 => rfl
  | k + 1 => by rw [wAt, wAt, at_turn hc hw k, after_turn (wf_at hc hw k)]
theorem hadAt_turn (hc : WfC c) (hw : WfW c ws) (k : Nat) : hadAt (turnC c) ws.reverse k = backI c.hands.length (hadAt c ws k) := by
  unfold hadAt
  rw [at_turn hc hw, had_turn, wAt_len, hw.len]
theorem row_turn (hc : WfC c) (hw : WfW c ws) (n : Nat) : rowN (turnC c) ws.reverse n = (rowN c ws n).map (backI c.hands.length) := by
  unfold rowN
  rw [List.map_map]
  exact List.map_congr_left fun k _ => hadAt_turn hc hw k
theorem round_turn (hc : WfC c) (hw : WfW c ws) {i n : Nat} (h : Round c ws i n) : Round (turnC c) ws.reverse i n := ⟨fun j k h1 h2 => by
  rw [at_turn hc hw, at_turn hc hw]
  exact fun z => h.dist j k h1 h2 (List.reverse_inj.mp z), h.lt, by rw [at_turn hc hw, at_turn hc hw, h.again]⟩
theorem cnt_back (m : Nat) {j : Nat} (hj : j < m) : ∀ rs : List (List Int), cnt (m - 1 - j) (rs.map (backI m)) = cnt j rs
  | [] => rfl
  | r :: rs => by
    rw [List.map_cons, show backI m r :: rs.map (backI m) = [backI m r] ++ rs.map (backI m) from rfl, show r :: rs = [r] ++ rs from rfl, cnt_append, cnt_append, cnt_one, cnt_one, cnt_back m hj rs]
    unfold ind
    have e : ((m - 1 - j : Nat) : Int) = (m : Int) - 1 - (j : Int) := by omega
    rw [e]
    by_cases h : (j : Int) ∈ r
    · rw [if_pos h, if_pos (mem_back.mpr h)]
    · rw [if_neg h, if_neg (fun z => h (mem_back.mp z))]
theorem cntI_back (m : Nat) (rs : List (List Int)) : cntI m (rs.map (backI m)) = (cntI m rs).reverse := by
  refine List.ext_getElem? fun j => ?_
  rw [cntI_get]
  by_cases h : j < m
  · rw [if_pos h, List.getElem?_reverse (by rw [cntI_len]; exact h), cntI_len, cntI_get, if_pos (by omega)]
    have e := cnt_back m (j := m - 1 - j) (by omega) rs
    rw [show m - 1 - (m - 1 - j) = j by omega] at e
    rw [e]
  · rw [if_neg h, List.getElem?_eq_none_iff.mpr (by rw [List.length_reverse, cntI_len]; omega)]
theorem cr_turn (hc : WfC c) (hw : WfW c ws) (i n : Nat) : crD (turnC c) ws.reverse i n = .tuple [.int (i : Int), .int ((n : Int) - (i : Int)), .tuple ((cntI c.hands.length ((rowN c ws n).drop i)).map PyData.int).reverse] := by
  unfold crD
  rw [row_turn hc hw, ← List.map_drop, turn_len, cntI_back]
  unfold wiD
  rw [List.map_reverse]
theorem far_turn (hc : WfC c) (hw : WfW c ws) (t : Nat) : farD (turnC c) ws.reverse t = .tuple [.tuple ((cntI c.hands.length (rowN c ws t)).map PyData.int).reverse, .tuple ((wAt c ws t).map PyData.int).reverse] := by
  unfold farD
  rw [row_turn hc hw, turn_len, cntI_back, at_turn hc hw]
  unfold wiD
  rw [List.map_reverse, List.map_reverse]
theorem long_back (m : Nat) (x : Int) : ∀ (rs : List (List Int)) (st : Int × Int), (rs.map (backI m)).foldl (longStep ((m : Int) - 1 - x)) st = rs.foldl (longStep x) st
  | [], _ => rfl
  | r :: rs, st => by
    rw [List.map_cons, List.foldl_cons, List.foldl_cons, long_back m x rs]
    congr 1
    unfold longStep
    by_cases h : x ∈ r
    · rw [if_pos h, if_pos (mem_back.mpr h)]
    · rw [if_neg h, if_neg (fun z => h (mem_back.mp z))]
theorem any_back (m : Nat) (x : Int) (rs : List (List Int)) : ((rs.map (backI m)).map fun h => decide ((m : Int) - 1 - x ∈ h)).any id = (rs.map fun h => decide (x ∈ h)).any id := by
  rw [List.map_map]
  congr 1
  refine List.map_congr_left fun r _ => ?_
  simp only [Function.comp_apply]
  by_cases h : x ∈ r
  · rw [decide_eq_true h, decide_eq_true (mem_back.mpr h)]
  · rw [decide_eq_false h, decide_eq_false (fun z => h (mem_back.mp z))]
theorem lack_back (m : Nat) (x : Int) (rs : List (List Int)) (i : Nat) : lackD (rs.map (backI m)) i ((m : Int) - 1 - x) = lackD rs i x := by
  unfold lackD longI
  rw [← List.map_drop, any_back, ← List.map_append, long_back]
theorem lacks_turn (hc : WfC c) (hw : WfW c ws) (i n : Nat) : lacksD (turnC c) ws.reverse i n = .list ((List.range c.hands.length).map fun (h : Nat) => lackD (rowN c ws n) i (h : Int)).reverse := by
  unfold lacksD
  rw [turn_len, row_turn hc hw]
  congr 1
  refine List.ext_getElem? fun j => ?_
  rw [List.getElem?_map]
  by_cases h : j < c.hands.length
  · rw [List.getElem?_range h, List.getElem?_reverse (by simpa using h), List.getElem?_map, List.length_map, List.length_range, List.getElem?_range (by omega)]
    simp only [Option.map_some, Option.some.injEq]
    rw [← lack_back c.hands.length (((c.hands.length - 1 - j : Nat)) : Int)]
    congr 1
    omega
  · rw [List.getElem?_eq_none_iff.mpr (by simpa using h), List.getElem?_eq_none_iff.mpr (by simpa using h)]; rfl
theorem hasR_back (m : Nat) (x : Int) (rs : List (List Int)) (i : Nat) : hasR (rs.map (backI m)) i ((m : Int) - 1 - x) = hasR rs i x := by
  unfold hasR
  rw [← List.map_drop, any_back]
end
/-! ### starving -/
theorem first_iff (c : Custom) : firstSt c = none ↔ ∀ ws, WfW c ws → ∀ h : Nat, h < c.hands.length → hasH c ws (h : Int) = true := by
  unfold firstSt
  rw [List.findSome?_eq_none_iff]
  constructor
  · intro hh ws hw h hl
    have := hh ws (mem_wf.mpr hw)
    unfold stOne at this
    rw [Option.map_eq_none_iff, List.find?_eq_none] at this
    have := this h (List.mem_range.mpr hl)
    simpa using this
  · intro hh ws hw
    unfold stOne
    rw [Option.map_eq_none_iff, List.find?_eq_none]
    intro h hl
    have := hh ws (mem_wf.mp hw) h (List.mem_range.mp hl)
    simp [this]
theorem has_turn {c : Custom} {ws : List Int} (hc : WfC c) (hw : WfW c ws) (h : Nat) (hl : h < c.hands.length) : hasH (turnC c) ws.reverse ((c.hands.length - 1 - h : Nat) : Int) = hasH c ws (h : Int) := by
  obtain ⟨i, n, hR⟩ := round_ex hc hw
  unfold hasH
  rw [rnd_of hR, rnd_of (round_turn hc hw hR), row_turn hc hw, show ((c.hands.length - 1 - h : Nat) : Int) = (c.hands.length : Int) - 1 - (h : Int) by omega]
  exact hasR_back _ _ _ _
theorem first_half {c : Custom} (hc : WfC c) (hh : firstSt c = none) : firstSt (turnC c) = none := by
  rw [first_iff] at hh ⊢
  intro ws hw h hl
  rw [turn_len] at hl
  have hw2 : WfW c ws.reverse := by
    have := wfW_turn hw
    rwa [turn_turn] at this
  have h1 := hh ws.reverse hw2 (c.hands.length - 1 - h) (by omega)
  rw [← has_turn hc hw2 _ (by omega), List.reverse_reverse, show c.hands.length - 1 - (c.hands.length - 1 - h) = h by omega] at h1
  exact h1
theorem first_turn {c : Custom} (hc : WfC c) : isNoneD (stD (firstSt (turnC c))) = isNoneD (stD (firstSt c)) := by
  have h2 : firstSt (turnC c) = none → firstSt c = none := fun h => by
    have := first_half (wfC_turn hc) h
    rwa [turn_turn] at this
  cases e : firstSt c with
  | none => rw [first_half hc e]
  | some p =>
    cases e2 : firstSt (turnC c) with
    | none => rw [h2 e2] at e; cases e
    | some q => rfl
/-! ### parting -/
def agree (c c' : Custom) (w : List Int) (t : Nat) : Prop := had c (wAt c w t) = had c' (wAt c' w t)
def pairAt (c c' : Custom) (w : List Int) (t : Nat) : PK := (wAt c w t, wAt c' w t)
def PSpec (c c' : Custom) : Option (Nat × List Int) → Prop
  | none => ∀ w, WfW c w → ∀ t, agree c c' w t
  | some (T, b) => ∃ n, T = n + 1 ∧ WfW c b ∧ ¬ agree c c' b n ∧ ∀ w, WfW c w → ∀ t, t < n → agree c c' w t
structure BInv (c c' : Custom) (n : Nat) (known row : List PVal) : Prop where
  ok : KOk c c' known
  bef : ∀ w, WfW c w → ∀ t, t < n → agree c c' w t
  seen : ∀ w, WfW c w → ∀ t, t ≤ n → pairAt c c' w t ∈ known.map (·.1)
  cur : ∀ e ∈ row, WfW c e.2 ∧ e.1 = pairAt c c' e.2 n
  done : ∀ k ∈ known.map (·.1), k ∈ row.map (·.1) ∨ (had c k.1 = had c' k.2 ∧ pStepK c c' k ∈ known.map (·.1))
theorem pRow_props (c c' : Custom) (known : List PVal) : ∀ (row later : List PVal), (∀ x ∈ row.foldl (pAdd c c' known) later, x ∈ later ∨ ∃ e ∈ row, x = (pStepK c c' e.1, e.2)) ∧ (∀ x ∈ later, x ∈ row.foldl (pAdd c c' known) later) ∧ ∀ e ∈ row, pStepK c c' e.1 ∈ (known ++ row.foldl (pAdd c c' known) later).map (·.1)
  | [], later => ⟨fun x hx => .inl hx, fun x hx => hx, fun e he => by cases he⟩
  | e :: row, later => by
    obtain ⟨h1, h2, h3⟩ := pRow_props c c' known row (pAdd c c' known later e)
    have hsub : ∀ x ∈ later, x ∈ pAdd c c' known later e := fun x hx => by
      unfold pAdd
      split
      · exact hx
      · exact List.mem_append_left _ hx
    rw [List.foldl_cons]
    refine ⟨fun x hx => ?_, fun x hx => h2 x (hsub x hx), fun e' he' => ?_⟩
    · rcases h1 x hx with q | ⟨e', q1, q2⟩
      · unfold pAdd at q
        split at q
        · exact .inl q
        · rcases List.mem_append.mp q with q | q
          · exact .inl q
          · exact .inr ⟨e, by simp, List.mem_singleton.mp q⟩
      · exact .inr ⟨e', List.mem_cons_of_mem _ q1, q2⟩
    · rcases List.mem_cons.mp he' with rfl | q
      · have hin : pStepK c c' e'.1 ∈ (known ++ pAdd c c' known later e').map (·.1) := by
          unfold pAdd
          split
          · assumption
          · rw [List.map_append, List.map_append]
            simp
        obtain ⟨x, hx, ex⟩ := List.mem_map.mp hin
        rcases List.mem_append.mp hx with q | q
        · exact List.mem_map.mpr ⟨x, List.mem_append_left _ q, ex⟩
        · exact List.mem_map.mpr ⟨x, List.mem_append_right _ (h2 x q), ex⟩
      · exact h3 e' q
section
variable {c c' : Custom}
theorem pair_next (w : List Int) (t : Nat) : pairAt c c' w (t + 1) = pStepK c c' (pairAt c c' w t) := rfl
theorem binv_none {n : Nat} {known : List PVal} (h : BInv c c' n known []) : PSpec c c' none := by
  intro w hw
  have hk : ∀ t, pairAt c c' w t ∈ known.map (·.1) ∧ agree c c' w t := by
    have ag : ∀ t, pairAt c c' w t ∈ known.map (·.1) → agree c c' w t ∧ pairAt c c' w (t + 1) ∈ known.map (·.1) := fun t ht => by
      rcases h.done _ ht with q | ⟨q1, q2⟩
      · cases q
      · exact ⟨q1, q2⟩
    intro t
    induction t with
    | zero => exact ⟨h.seen w hw 0 (Nat.zero_le _), (ag 0 (h.seen w hw 0 (Nat.zero_le _))).1⟩
    | succ t ih =>
      have := (ag t ih.1).2
      exact ⟨this, (ag _ this).1⟩
  exact fun t => (hk t).2
theorem binv_next {n : Nat} {known row : List PVal} (hc : WfC c) (hc' : WfC c') (he : capsI c = capsI c') (h : BInv c c' n known row) (hf : row.find? (pDiff c c') = none) : BInv c c' (n + 1) (known ++ pRow c c' known row) (pRow c c' known row) := by
  obtain ⟨p1, _, p3⟩ := pRow_props c c' known row []
  have hag : ∀ e ∈ row, had c e.1.1 = had c' e.1.2 := fun e hm => by
    have := List.find?_eq_none.mp hf e hm
    unfold pDiff at this
    simpa using this
  have both : ∀ k ∈ known.map (·.1), had c k.1 = had c' k.2 ∧ pStepK c c' k ∈ (known ++ pRow c c' known row).map (·.1) := fun k hk => by
    rcases h.done k hk with q | ⟨q1, q2⟩
    · obtain ⟨e, hm, rfl⟩ := List.mem_map.mp q
      exact ⟨hag e hm, p3 e hm⟩
    · exact ⟨q1, by rw [List.map_append]; exact List.mem_append_left _ q2⟩
  have wf' : ∀ w, WfW c w → WfW c' w := fun w hw => mem_wf.mp (by rw [← he]; exact mem_wf.mpr hw)
  refine ⟨h.ok.row hc hc' row fun e hm => ?_, fun w hw t ht => ?_, fun w hw t ht => ?_, fun e hm => ?_, fun k hk => ?_⟩
  · obtain ⟨w1, w2⟩ := h.cur e hm
    rw [w2]
    exact ⟨wf_at hc w1 n, wf_at hc' (wf' _ w1) n⟩
  · by_cases htn : t = n
    · subst htn
      exact (both _ (h.seen w hw t (Nat.le_refl _))).1
    · exact h.bef w hw t (by omega)
  · by_cases htn : t ≤ n
    · rw [List.map_append]
      exact List.mem_append_left _ (h.seen w hw t htn)
    · obtain rfl : t = n + 1 := by omega
      rw [pair_next]
      exact (both _ (h.seen w hw n (Nat.le_refl _))).2
  · rcases p1 e hm with q | ⟨e', q1, rfl⟩
    · cases q
    · obtain ⟨w1, w2⟩ := h.cur e' q1
      exact ⟨w1, by rw [w2]; rfl⟩
  · rw [List.map_append] at hk
    rcases List.mem_append.mp hk with q | q
    · exact .inr (both k q)
    · exact .inl q
theorem part_spec (hc : WfC c) (hc' : WfC c') (he : capsI c = capsI c') (hsz : sizeI (capsI c) ≤ 400) : ∀ (f n : Nat) (known row : List PVal), BInv c c' n known row → pLeft known row ≤ f → PSpec c c' (partF c c' f n known row) := by
  intro f
  induction f with
  | zero =>
    intro n known row h hl
    have : row = [] := by
      cases row with
      | nil => rfl
      | cons e row => unfold pLeft at hl; simp at hl
    subst this
    exact binv_none h
  | succ f ih =>
    intro n known row h hl
    rw [partF]
    cases hr : row.isEmpty with
    | true =>
      rw [List.isEmpty_iff.mp hr] at h
      exact binv_none h
    | false =>
      rw [if_neg (by decide)]
      cases hf : row.find? (pDiff c c') with
      | some e =>
        obtain ⟨w1, w2⟩ := h.cur e (List.mem_of_find?_eq_some hf)
        refine ⟨n, rfl, w1, fun z => ?_, h.bef⟩
        have := List.find?_some hf
        unfold pDiff at this
        rw [w2] at this
        have z' : had c (pairAt c c' e.2 n).1 = had c' (pairAt c c' e.2 n).2 := z
        rw [decide_eq_true z'] at this
        cases this
      | none =>
        have h2 := binv_next hc hc' he h hf
        refine ih _ _ _ h2 ?_
        have := pLeft_lt hc hc' he hsz h2.ok hr
        omega
theorem partV_spec (hc : WfC c) (hc' : WfC c') (he : capsI c = capsI c') (hsz : sizeI (capsI c) ≤ 400) : PSpec c c' (partV c c') := by
  refine part_spec hc hc' he hsz 400000 0 _ _ ⟨startP_ok he, fun w hw t ht => absurd ht (Nat.not_lt_zero _), fun w hw t ht => ?_, fun e hm => ?_, fun k hk => .inl hk⟩ (by unfold pLeft; split <;> omega)
  · obtain rfl : t = 0 := by omega
    exact List.mem_map.mpr ⟨((w, w), w), List.mem_map.mpr ⟨w, mem_wf.mpr hw, rfl⟩, rfl⟩
  · obtain ⟨w, hw, rfl⟩ := List.mem_map.mp hm
    exact ⟨mem_wf.mp hw, rfl⟩
theorem agree_turn (hc : WfC c) (hc' : WfC c') (he : capsI c = capsI c') {w : List Int} (hw : WfW c w) (t : Nat) : agree (turnC c) (turnC c') w.reverse t ↔ agree c c' w t := by
  have hw' : WfW c' w := mem_wf.mp (by rw [← he]; exact mem_wf.mpr hw)
  have hl : c'.hands.length = c.hands.length := by
    have := congrArg List.length he
    simpa [capsI] using this.symm
  have h1 := hadAt_turn hc hw t
  have h2 := hadAt_turn hc' hw' t
  unfold hadAt at h1 h2
  unfold agree
  rw [h1, h2, hl]
  exact ⟨back_inj, fun z => by rw [z]⟩
theorem caps_turn (c : Custom) : capsI (turnC c) = (capsI c).reverse := by
  unfold capsI turnC
  rw [List.map_reverse]
/-- as many turns, or none of both -/
theorem part_turn (hc : WfC c) (hc' : WfC c') (he : capsI c = capsI c') (hsz : sizeI (capsI c) ≤ 400) (hsz2 : sizeI (capsI (turnC c)) ≤ 400) : (partV (turnC c) (turnC c')).map (·.1) = (partV c c').map (·.1) := by
  have h1 := partV_spec hc hc' he hsz
  have h2 := partV_spec (wfC_turn hc) (wfC_turn hc') (by rw [caps_turn, caps_turn, he]) hsz2
  have ag : ∀ w, WfW (turnC c) w → ∀ t, (agree (turnC c) (turnC c') w t ↔ agree c c' w.reverse t) := fun w hw t => by
    have hw2 : WfW c w.reverse := by
      have := wfW_turn hw
      rwa [turn_turn] at this
    have := agree_turn hc hc' he hw2 t
    rwa [List.reverse_reverse] at this
  have wt : ∀ w, WfW (turnC c) w → WfW c w.reverse := fun w hw => by
    have := wfW_turn hw
    rwa [turn_turn] at this
  cases e1 : partV c c' with
  | none =>
    rw [e1] at h1
    cases e2 : partV (turnC c) (turnC c') with
    | none => rfl
    | some p =>
      obtain ⟨T, b⟩ := p
      rw [e2] at h2
      obtain ⟨n, _, hb, hn, _⟩ := h2
      exact (hn ((ag b hb n).mpr (h1 _ (wt b hb) n))).elim
  | some p =>
    obtain ⟨T, b⟩ := p
    rw [e1] at h1
    obtain ⟨n, rfl, hb, hn, hlt⟩ := h1
    cases e2 : partV (turnC c) (turnC c') with
    | none =>
      rw [e2] at h2
      exact (hn ((agree_turn hc hc' he hb n).mp (h2 _ (wfW_turn hb) n))).elim
    | some p =>
      obtain ⟨T', b'⟩ := p
      rw [e2] at h2
      obtain ⟨n', rfl, hb', hn', hlt'⟩ := h2
      have : n' = n := by
        rcases Nat.lt_trichotomy n' n with q | q | q
        · exact (hn' ((ag b' hb' n').mpr (hlt _ (wt b' hb') n' q))).elim
        · exact q
        · exact (hn ((agree_turn hc hc' he hb n).mp (hlt' _ (wfW_turn hb) n q))).elim
      subst this
      rfl
end
/-! ### small customs -/
theorem inj_on {α β : Type} {f : α → β} : ∀ {l : List α}, (l.map f).Nodup → ∀ a ∈ l, ∀ b ∈ l, f a = f b → a = b
  | [], _, a, ha, _, _, _ => by cases ha
  | x :: l, h, a, ha, b, hb, e => by
    rw [List.map_cons, List.nodup_cons] at h
    rcases List.mem_cons.mp ha with rfl | ha'
    · rcases List.mem_cons.mp hb with rfl | hb'
      · rfl
      · exact (h.1 (List.mem_map.mpr ⟨b, hb', e.symm⟩)).elim
    · rcases List.mem_cons.mp hb with rfl | hb'
      · exact (h.1 (List.mem_map.mpr ⟨a, ha', e⟩)).elim
      · exact inj_on h.2 a ha' b hb' e
theorem nodup_sub {α β : Type} {f : α → β} {l l' : List α} (h : (l.map f).Nodup) (hn : l'.Nodup) (hs : ∀ a ∈ l', a ∈ l) : (l'.map f).Nodup := by
  refine List.pairwise_map.mpr (List.Pairwise.imp_of_mem (fun {a b} ha hb hab z => ?_) hn)
  exact hab (inj_on h a (hs a ha) b (hs b hb) z)
def inCaps' : List Int → List Int → Prop
  | [], [] => True
  | c :: cs, d :: ds => c ≤ d ∧ inCaps' cs ds
  | _, _ => False
theorem inCaps_mono : ∀ {cs ds w : List Int}, inCaps cs w → inCaps' cs ds → inCaps ds w
  | [], [], [], _, _ => trivial
  | c :: cs, d :: ds, x :: w, h, h' => ⟨⟨h.1.1, Int.le_trans h.1.2 h'.1⟩, inCaps_mono h.2 h'.2⟩
  | [], _ :: _, _, _, h' => h'.elim
  | _ :: _, [], _, _, h' => h'.elim
  | [], [], _ :: _, h, _ => h.elim
  | _ :: _, _ :: _, [], h, _ => h.elim

/-! ## _law_deck -/
def nDeck : List Str := ["cell", "turn"]
theorem scDeck : FnScope nDeck ["cell", "turn"] (defScope S__law_deck) := ⟨rfl, rfl, rfl, by decide +kernel, rfl, by decide +kernel, by decide +kernel⟩
section
variable {P : Program} {w : World} {K : PySem.W.Frag} {mg : Str → Option Value} {base : Heap}
theorem ok__law_deck {f : Addr} {fd : FuncData} (F : Fun K "_law_deck" "_law_deck" S__law_deck f fd) : FnOk P w K mg base CX0 1 f fd ["cell", "turn"] spDeck := by
  refine F.ok scDeck (fun vs H Q E h => ?_) (fun cdv A outer s H vs Q E hr h => ?_)
  · obtain ⟨cell, turn, rfl, _⟩ := h; rfl
  · obtain ⟨cell, turn, rfl, k⟩ := h
    refine ⟨_, pss_cons (ps_if (pt_cmpR op_ge (pv 0) (pe_op op_pow pe_int pe_int) (nomark _)) (pss_one (ps_ret (pe_lst (pa_cons (pe_op op_sub (pv 0) (pe_op op_pow pe_int pe_int)) (pa_cons (pe_op op_mod (pv 0) pe_int) (pa_cons (pv 1) pa_nil)))))) pss_nil)
      (pss_one (ps_ret (pe_lst (pa_cons pe_int (pa_cons (pe_op op_mod (pv 0) pe_int) (pa_cons (pv 1) pa_nil)))))), ?_⟩
    refine ⟨_, rfl, _, _, rfl, rfl, ⟨by decide, by decide, by decide⟩, _, _, rfl, rfl, _, rfl, ?_⟩
    have hm0 : 0 ≤ cell % 2147483579 := Int.emod_nonneg _ (by decide)
    have hm1 : cell % 2147483579 < 2147483579 := Int.emod_lt_of_pos _ (by decide)
    refine ite2 (fun hc => ?_) (fun hc => ?_)
    · have hc' : (10 : Int) ^ (18 : Int).toNat ≤ cell := of_decide_eq_true hc
      refine ⟨_, rfl, _, _, rfl, rfl, ⟨by decide, by decide, by decide⟩, _, _, rfl, rfl, _, rfl, _, _, rfl, rfl, (by show (0 : Int) < 2147483579; decide), _, rfl, by show 3 ≤ sizeLine; decide, fun p hp => ?_⟩
      exact k p _ _ (by omega) hm0 hm1 hp
    · refine ⟨_, rfl, _, _, rfl, rfl, (by show (0 : Int) < 2147483579; decide), _, rfl, by show 3 ≤ sizeLine; decide, fun p hp => ?_⟩
      exact k p _ _ (by decide) hm0 hm1 hp
end

/-! ## _law_pick -/
def nPick : List Str := ["deck", "limit", "found", "number"]
theorem scPick : FnScope nPick ["deck", "limit"] (defScope S__law_pick) := ⟨rfl, rfl, rfl, by decide +kernel, rfl, by decide +kernel, by decide +kernel⟩
section
variable {P : Program} {w : World} {K : PySem.W.Frag} {mg : Str → Option Value} {base : Heap}
theorem ok__law_pick {f : Addr} {fd : FuncData} (F : Fun K "_law_pick" "_law_pick" S__law_pick f fd) : FnOk P w K mg base CX0 1 f fd ["deck", "limit"] (spK 1 prePick prPick) := by
  refine fn_okK F scPick (fun ds h => ?_) (fun p n ds h hn f cdv A outer s H E F0 H0 hr => ?_)
  · obtain ⟨lim, rfl, _⟩ := h; rfl
  · obtain ⟨lim, rfl, h1, h2⟩ := h
    have nd := scPick.nd
    have hlim : ∀ z, CDivW z lim := fun z => by
      refine wide_div (b := 64) (by omega) ?_ (by decide) (by decide)
      have : (1000000000000000001 : Nat) < 2 ^ 64 := by decide
      omega
    refine dss_open 0 fun a b c ha hb hb2 hc hcn => ?_
    -- if deck[0] > 1
    refine dss_ifx (dt_cmp op_gt (de_peek 0 rfl (de_ix ix_list (de_var 0) de_int (v_ixL (by rfl)))) de_int v_gt) (fun _ => ?_) (fun _ => ?_)
    · refine dss_set 2 nd (de_op op_mod (de_peek 0 rfl (de_ix ix_list (de_var 0) de_int (v_ixL (by rfl)))) (de_var 1) (v_mod (by omega))) ?_
      refine dss_seti 0 (j := 0) (de_op op_fdivW (de_peek 0 rfl (de_ix ix_list (de_var 0) de_int (v_ixL (by rfl)))) (de_var 1) (v_fdivW (hlim _))) de_int rfl ?_
      exact dss_ret (de_var 2) ⟨⟨lim, _, rfl, rfl, Int.emod_nonneg _ (by omega), Int.emod_lt_of_pos _ (by omega)⟩, _, rfl, deck_of (Int.ediv_nonneg ha (by omega)) hb hb2 hc (by omega)⟩
    · -- deck[2] = deck[2] + 1
      refine dss_seti 0 (j := 2) (de_op op_add (de_peek 0 rfl (de_ix ix_list (de_var 0) de_int (v_ixL (by rfl)))) de_int v_add) de_int rfl ?_
      have hc9 : c + 1 ≤ 1000000000 := by omega
      refine dss_set 3 nd (de_op op_mod (de_op op_pow (de_op op_add (de_peek 0 rfl (de_ix ix_list (de_var 0) de_int (v_ixL (by rfl)))) (de_op op_mul de_int (de_peek 0 rfl (de_ix ix_list (de_var 0) de_int (v_ixL (by rfl)))) (v_mul (.inl (by decide)))) v_add) de_int (v_pow ?_)) de_int (v_mod (by decide))) ?_
      · refine ⟨by decide, by decide, ?_⟩
        have : (2:Nat) ^ 64 = 18446744073709551616 := by decide
        omega
      generalize hnum : (b + 15485867 * (c + 1)) ^ (5 : Int).toNat % 2147483647 = num
      have hn0 : 0 ≤ num := by rw [← hnum]; exact Int.emod_nonneg _ (by decide)
      have hn1 : num < 2147483647 := by rw [← hnum]; exact Int.emod_lt_of_pos _ (by decide)
      refine dss_set 2 nd (de_op op_fdiv (de_op op_mod (de_op op_pow (de_op op_add (de_var 3) (de_op op_mul de_int (de_peek 0 rfl (de_ix ix_list (de_var 0) de_int (v_ixL (by rfl)))) (v_mul (.inl (by decide)))) v_add) de_int (v_pow ?_)) de_int (v_mod (by decide))) de_int (v_fdiv ⟨by decide, by decide⟩)) ?_
      · refine ⟨by decide, by decide, ?_⟩
        have : (2:Nat) ^ 64 = 18446744073709551616 := by decide
        omega
      generalize hfo : (num + 7919 * (c + 1)) ^ (3 : Int).toNat % 2147483629 / 32 = fo
      have hf0 : 0 ≤ fo := by rw [← hfo]; exact Int.ediv_nonneg (Int.emod_nonneg _ (by decide)) (by decide)
      have hf1 : fo < 2147483629 := by
        have : (num + 7919 * (c + 1)) ^ (3 : Int).toNat % 2147483629 < 2147483629 := Int.emod_lt_of_pos _ (by decide)
        omega
      have fin : ∀ z : Int, prPick [.int lim] (.int (z % lim)) := fun z => ⟨lim, _, rfl, rfl, Int.emod_nonneg _ (by omega), Int.emod_lt_of_pos _ (by omega)⟩
      refine dss_ifx (dt_cmp op_gt (de_var 1) de_int v_gt) (fun _ => ?_) (fun _ => ?_)
      · exact dss_ret (de_op op_mod (de_op op_add (de_op op_mul (de_var 2) de_int (v_mul (.inl (by omega)))) (de_var 3) v_add) (de_var 1) (v_mod (by omega))) ⟨fin _, _, rfl, deck_of ha hb hb2 (by omega) (by omega)⟩
      · exact dss_ret (de_op op_mod (de_var 2) (de_var 1) (v_mod (by omega))) ⟨fin _, _, rfl, deck_of ha hb hb2 (by omega) (by omega)⟩
end

/-! ## _law_custom -/
def nCus : List Str := ["deck", "size", "top", "hands", "k", "steps", "rise", "fall"]
theorem scCus : FnScope nCus ["deck", "size", "top"] (defScope S__law_custom) := ⟨rfl, rfl, rfl, by decide +kernel, rfl, by decide +kernel, by decide +kernel⟩
section
variable {P : Program} {w : World} {K : PySem.W.Frag} {mg : Str → Option Value} {base : Heap}
theorem ok__law_custom {f : Addr} {fd : FuncData} (F : Fun K "_law_custom" "_law_custom" S__law_custom f fd) (B : Bn mg) (G1 : Cal P w K mg base 1 "_law_pick" 2 (spK 1 prePick prPick)) : FnOk P w K mg base CX0 2 f fd ["deck", "size", "top"] (spK 40 preCus prCus) := by
  refine fn_okK F scCus (fun ds h => ?_) (fun p n ds h hn f cdv A outer s H E F0 H0 hr => ?_)
  · obtain ⟨size, top, rfl, _⟩ := h; rfl
  · obtain ⟨size, top, rfl, hs2, hs4, ht0, ht1⟩ := h
    have nd := scCus.nd
    refine dss_newl 3 nd fun q => ?_
    let I : List PyData → Nat → Env' → Prop := fun ds i ρ => ∃ hs : List Hand, hs.length = i ∧ (∀ h ∈ hs, okHand h ∧ h.cap ≤ top) ∧ ρ = [.own p (.deck (n + 1 + 8 * (i : Int))), .dat (.int size), .dat (.int top), .own q (.lst (hs.map haD)), .no, .no, .no, .no]
    let ρ1 : Env' := [.own p (.deck n), .dat (.int size), .dat (.int top), .own q (.lst []), .no, .no, .no, .no]
    let ρ2 : Env' := [.own p (.deck (n + 1)), .dat (.int size), .dat (.int top), .own q (.lst []), .no, .no, .no, .no]
    refine dss_forW (P := fun ds => ∃ j : Int, 2 ≤ j ∧ j ≤ size ∧ ds = rngD 0 j.toNat) I
      (wi_imp (wi_range1 (ρ := ρ1) (ρ1 := ρ2) (PA1 := fun ds => ∃ j : Int, ds = [.int j] ∧ 2 ≤ j ∧ j ≤ size) (wa_imp (wa_cons (we_op (ρ := ρ1) (P := fun d => ∃ j : Int, d = .int j ∧ 2 ≤ j ∧ j ≤ size) op_add (we_d (P := fun d => d = .int 2) de_int rfl) (fun d1 h => we_pick (n := n) (p := p) (lim := size - 1) 0 G1 hr (de_op op_sub (de_var 1) de_int v_sub) (by omega) (by omega) rfl (by omega)) (fun d1 d2 h1 ⟨r, h2, h3, h4⟩ => ⟨.int (2 + r), by rw [h1, h2]; exact v_add, 2 + r, rfl, by omega, by omega⟩)) wa_nil)
        (fun ds ⟨d, ds', e1, ⟨j, e2, e3, e4⟩, e5⟩ => ⟨j, by rw [e1, e2, e5], e3, e4⟩)) (fun ds ⟨j, e1, e2, e3⟩ => ⟨j, e1, by omega, by omega⟩) B.range) (fun ds ⟨j, ⟨j', e1, e2, e3⟩, e4⟩ => ⟨j, by cases e1; exact e2, by cases e1; exact e3, e4⟩))
      (show OwnLike (ρ1.set 0 (.own p (.deck (n + 1)))) ρ1 from OwnLike_deck 0) (fun ds _ => ⟨[], rfl, (fun h hh => by cases hh), (by show ρ2 = _; simp [ρ2])⟩) (fun ds i x ρ' hP hx hI => ?_) (fun ds ρ' hP hI => ?_)
    · obtain ⟨j, hj1, hj2, rfl⟩ := hP
      obtain ⟨hs, hl, hok, rfl⟩ := hI
      obtain ⟨hi, rfl⟩ := rngD_get hx
      have hi4 : i < 4 := by omega
      refine ⟨_, _, dg_name 4 nd, ?_⟩
      -- steps = [_law_pick(deck, 3), _law_pick(deck, 16), 1]
      refine dss_setW 5 nd (P := fun d => ∃ ds, d = .list ds ∧ ds.length = 3 ∧ ∀ d ∈ ds, IntIn 0 16 d) (we_lst (wa_cons (we_pick 0 G1 hr de_int (by decide) (by decide) rfl (by omega)) (wa_cons (we_pick 0 G1 hr de_int (by decide) (by decide) rfl (by omega)) (wa_d (PA1 := fun ds => ds = [.int 1]) (da_cons de_int da_nil) rfl))) (fun ds ⟨d1, ds1, e1, ⟨i1, a1, a2, a3⟩, d2, ds2, e2, ⟨i2, b1, b2, b3⟩, e3⟩ => by
          subst e1 e2 e3 a1 b1
          refine ⟨Nat.le_of_ble_eq_true rfl, _, rfl, rfl, fun d hd => ?_⟩
          simp only [List.mem_cons, List.not_mem_nil, or_false] at hd
          rcases hd with rfl | rfl | rfl
          · exact ⟨i1, rfl, a2, by omega⟩
          · exact ⟨i2, rfl, b2, by omega⟩
          · exact ⟨1, rfl, by decide, by decide⟩)) ((OwnLike_deck 0).trans (OwnLike_deck 0)) (fun d hd => ?_)
      obtain ⟨sd, rfl, hsl, hsall⟩ := hd
      -- rise, fall = (steps[_law_pick(deck, 3)], [_law_pick(deck, 5), _law_pick(deck, 16)][_law_pick(deck, 2)])
      refine dss_parW 6 7 nd (PA1 := fun ds => ∃ a b : Int, ds = [.int a, .int b] ∧ 0 ≤ a ∧ a ≤ 15 ∧ 0 ≤ b ∧ b ≤ 15) (wa_imp (wa_cons (we_ix (P := IntIn 0 16) ix_list (we_d (P := fun d => d = .list sd) (de_var 5) rfl) (fun _ _ => we_pick 0 G1 hr de_int (by decide) (by decide) rfl (by omega)) (fun d1 d2 h1 h2 => by rw [h1]; exact v_ixAll hsl hsall h2))
          (wa_cons (we_ix (P := IntIn 0 16) ix_list (we_lst (P := fun d => ∃ ds, d = .list ds ∧ ds.length = 2 ∧ ∀ d ∈ ds, IntIn 0 16 d) (wa_cons (we_pick 0 G1 hr de_int (by decide) (by decide) rfl (by omega)) (wa_cons (we_pick 0 G1 hr de_int (by decide) (by decide) rfl (by omega)) wa_nil)) (fun ds ⟨d1, ds1, e1, ⟨i1, a1, a2, a3⟩, d2, ds2, e2, ⟨i2, b1, b2, b3⟩, e3⟩ => by
              subst e1 e2 e3 a1 b1
              refine ⟨Nat.le_of_ble_eq_true rfl, _, rfl, rfl, fun d hd => ?_⟩
              simp only [List.mem_cons, List.not_mem_nil, or_false] at hd
              rcases hd with rfl | rfl
              · exact ⟨i1, rfl, a2, by omega⟩
              · exact ⟨i2, rfl, b2, by omega⟩)) (fun _ _ => we_pick 0 G1 hr de_int (by decide) (by decide) rfl (by omega)) (fun d1 d2 ⟨ds, h1, h2, h3⟩ h4 => by rw [h1]; exact v_ixAll h2 h3 h4)) wa_nil))
          (fun ds ⟨d1, ds1, e1, ⟨i1, a1, a2, a3⟩, d2, ds2, e2, ⟨i2, b1, b2, b3⟩, e3⟩ => ⟨i1, i2, by rw [e1, e2, e3, a1, b1], a2, by omega, b2, by omega⟩)) ((OwnLike_deck 0).trans ((OwnLike_deck 0).trans ((OwnLike_deck 0).trans (OwnLike_deck 0)))) (fun d1 d2 h => ?_) (fun ds ⟨a, b, e, _⟩ => by rw [e]; rfl)
      obtain ⟨ra, fb, e, hr0, hr1, hf0, hf1⟩ := h
      cases e
      -- hands.append((rise, fall, [top, _law_pick(deck, top + 1)][_law_pick(deck, 2)]))
      refine dss_appW 3 (P := fun d => ∃ h : Hand, d = haD h ∧ okHand h ∧ h.cap ≤ top) (PA1 := fun ds => ∃ h : Hand, ds = [haD h] ∧ okHand h ∧ h.cap ≤ top) (wa_imp (wa_cons (we_tup (P := fun d => ∃ h : Hand, d = haD h ∧ okHand h ∧ h.cap ≤ top) (wa_cons (we_d (P := fun d => d = .int ra) (de_var 6) rfl) (wa_cons (we_d (P := fun d => d = .int fb) (de_var 7) rfl) (wa_cons (we_ix (P := IntIn 0 (top + 1)) ix_list (we_lst (P := fun d => ∃ ds, d = .list ds ∧ ds.length = 2 ∧ ∀ d ∈ ds, IntIn 0 (top + 1) d) (wa_cons (we_d (P := fun d => d = .int top) (de_var 2) rfl) (wa_cons (we_pick (lim := top + 1) 0 G1 hr (de_op op_add (de_var 2) de_int v_add) (by omega) (by omega) rfl (by omega)) wa_nil)) (fun ds ⟨d1, ds1, e1, a1, d2, ds2, e2, ⟨i2, b1, b2, b3⟩, e3⟩ => by
              subst e1 e2 e3 a1 b1
              refine ⟨Nat.le_of_ble_eq_true rfl, _, rfl, rfl, fun d hd => ?_⟩
              simp only [List.mem_cons, List.not_mem_nil, or_false] at hd
              rcases hd with rfl | rfl
              · exact ⟨top, rfl, by omega, by omega⟩
              · exact ⟨i2, rfl, b2, by omega⟩)) (fun _ _ => we_pick 0 G1 hr de_int (by decide) (by decide) rfl (by omega)) (fun d1 d2 ⟨ds, h1, h2, h3⟩ h4 => by rw [h1]; exact v_ixAll h2 h3 h4)) wa_nil)))
          (fun ds ⟨d1, ds1, e1, a1, d2, ds2, e2, a2, d3, ds3, e3, ⟨i3, b1, b2, b3⟩, e4⟩ => by
            subst e1 e2 e3 e4 a1 a2 b1
            exact ⟨Nat.le_of_ble_eq_true rfl, ⟨ra, fb, i3⟩, rfl, ⟨hr0, hr1, hf0, hf1, b2, show i3 ≤ 15 by omega⟩, show i3 ≤ top by omega⟩)) wa_nil) (fun ds ⟨d, ds', e1, ⟨h, e2, e3⟩, e4⟩ => ⟨h, by rw [e1, e2, e4], e3⟩))
        ((OwnLike_deck 0).trans (OwnLike_deck 0)) (fun ds ⟨h, e1, e2⟩ => ⟨haD h, e1, h, rfl, e2⟩) ?_ (fun d ⟨h, e1, e2⟩ => ?_)
      · rw [List.length_map, hl]
        exact Nat.lt_of_lt_of_le hi4 (by decide)
      · subst e1
        refine dss_nilF [4, 5, 6, 7] ?_
        refine ⟨hs ++ [h], by simp [hl], fun h' hh' => ?_, ?_⟩
        · rcases List.mem_append.mp hh' with q | q
          · exact hok h' q
          · rw [List.mem_singleton.mp q]; exact e2
        · have e : n + 1 + 8 * ((i + 1 : Nat) : Int) = n + 1 + 8 * (i : Int) + 1 + 1 + 1 + 1 + 1 + 1 + 1 + 1 := by omega
          rw [e, List.map_append]; rfl
    · obtain ⟨j, hj1, hj2, rfl⟩ := hP
      obtain ⟨hs, hl, hok, rfl⟩ := hI
      have hjl : (rngD 0 j.toNat).length = j.toNat := by simp [rngD]
      rw [hjl] at hl ⊢
      have hlj : (hs.length : Int) = j := by omega
      refine dss_freezeX 3 0 ?_
      refine dss_retW (P := prCus [.int size, .int top]) (we_tup (wa_cons (we_op (P := IntIn 1 (hs.length : Int)) op_add (we_d (P := fun d => d = .int 1) de_int rfl) (fun _ _ => we_pick (lim := ((hs.map haD).length : Int) - 1) 0 G1 hr (de_op op_sub (de_callB call_len_seq B.len (by decide +kernel) (da_cons (de_var 3) da_nil) v_lenL) de_int v_sub) (by rw [List.length_map]; omega) (by rw [List.length_map]; omega) rfl (by omega)) (fun d1 d2 h1 ⟨r, h2, h3, h4⟩ => ⟨.int (1 + r), by rw [h1, h2]; exact v_add, 1 + r, rfl, by omega, by rw [List.length_map] at h4; omega⟩))
        (wa_cons (we_ix (P := fun d => ∃ b, d = .str (tieS b)) ix_list (we_d (P := fun d => d = .list [.str "first", .str "last"]) (de_lst (da_cons de_str (da_cons de_str da_nil))) rfl) (fun _ _ => we_pick 0 G1 hr de_int (by decide) (by decide) rfl (by omega)) (fun d1 d2 h1 h2 => by
            rw [h1]
            refine v_ixAll (P := fun d => ∃ b, d = .str (tieS b)) (n := 2) rfl (fun d hd => ?_) h2
            simp only [List.mem_cons, List.not_mem_nil, or_false] at hd
            rcases hd with rfl | rfl
            · exact ⟨true, rfl⟩
            · exact ⟨false, rfl⟩)) (wa_d (PA1 := fun ds => ds = [.tuple (hs.map haD)]) (da_cons (de_callTy call_tuple_of B.tuple (by decide +kernel) (da_cons (de_var 3) da_nil) v_tupL) da_nil) rfl))) (fun ds ⟨d1, ds1, e1, ⟨m, a1, a2, a3⟩, d2, ds2, e2, ⟨b, b1⟩, e3⟩ => by
          subst e1 e2 e3 a1 b1
          refine ⟨Nat.le_of_ble_eq_true rfl, size, top, ⟨m, b, hs⟩, rfl, rfl, ⟨?_, ?_, a2, ?_, fun h hh => (hok h hh).1⟩, fun h hh => (hok h hh).2⟩
          · show 2 ≤ hs.length; omega
          · show hs.length ≤ 4; omega
          · show m ≤ (hs.length : Int) - 1; omega)) ((OwnLike_deck 0).trans (OwnLike_deck 0)) (fun d hd => ⟨hd, _, rfl, deck_mono (by omega)⟩)
end

/-! ## _law_wishes -/
def nLwi : List Str := ["deck", "custom", "hand"]
theorem scLwi : FnScope nLwi ["deck", "custom"] (defScope S__law_wishes) := ⟨rfl, rfl, rfl, by decide +kernel, rfl, by decide +kernel, by decide +kernel⟩
section
variable {P : Program} {w : World} {K : PySem.W.Frag} {mg : Str → Option Value} {base : Heap}
theorem ok__law_wishes {f : Addr} {fd : FuncData} (F : Fun K "_law_wishes" "_law_wishes" S__law_wishes f fd) (B : Bn mg) (G1 : Cal P w K mg base 1 "_law_pick" 2 (spK 1 prePick prPick)) : FnOk P w K mg base CX0 2 f fd ["deck", "custom"] (spK 4 preLwi prLwi) := by
  refine fn_okK F scLwi (fun ds h => ?_) (fun p n ds h hn f cdv A outer s H E F0 H0 hr => ?_)
  · obtain ⟨c, rfl, _⟩ := h; rfl
  · obtain ⟨c, rfl, hc⟩ := h
    have nd := scLwi.nd
    have h4 : (c.hands.length : Int) ≤ 4 := by have := hc.four; omega
    refine dss_retW (we_callTy (PA1 := fun ds => ∃ es, ds = [.list es] ∧ All2 (fun (h : Hand) d => IntIn 0 (h.cap + 1) d) c.hands es) call_tuple_of (fun ds ⟨es, h, _⟩ => ⟨.tuple es, by rw [h]; exact v_tupL, ?_⟩) B.tuple (by decide +kernel) (wa_imp (wa_cons (we_lcK (xs := c.hands) (enc := haD) (own := [("hand", 2)]) 0 n 1 (fun h m => [.own p (.deck m), .dat (cuD c), .dat (haD h)]) (fun h m => [.own p (.deck (m + 1)), .dat (cuD c), .dat (haD h)]) (fun h d => IntIn 0 (h.cap + 1) d) [2] rfl nd (blkOk_by (N := nLwi) (sc := defScope S__law_wishes) (by decide +kernel))
      (di_tup (de_ix ix_tup (de_var 1) de_int (v_ixT (by rfl)))) rfl
      (fun h _ m _ _ _ _ _ => dg_name 2 nd)
      (fun h hh m hm1 hm2 _ _ _ _ _ => we_pick 0 G1 hr (de_op op_add (de_ix ix_tup (de_var 2) de_int (v_ixT (by rfl))) de_int v_add) (by have := hc.steps h hh; omega) (by have := hc.steps h hh; omega) rfl (by omega))
      (fun h m => rfl) (by decide) (by decide) (Nat.le_trans hc.four (by decide))) wa_nil) (fun ds ⟨d, ds', e1, ⟨es, e2, al⟩, e3⟩ => ⟨es, by rw [e1, e2, e3], al⟩))) (OwnLike_deck 0) (fun d hd => ⟨hd, _, rfl, deck_mono (by omega)⟩)
    · exact ⟨c, rfl, hc, es, rfl, by assumption⟩
end

/-! ## _law_turned, _law_back, _law_small -/
def prTurned (ds : List PyData) (d : PyData) : Prop := ∃ c, ds = [cuD c] ∧ d = cuD (turnC c)
def prBack (ds : List PyData) (d : PyData) : Prop := ∃ c h, ds = [cuD c, wiD h] ∧ c.hands.length ≤ 4 ∧ h.length < 64 ∧ h.Pairwise (· < ·) ∧ d = wiD (backI c.hands.length h)
def SmallC (c : Custom) : Prop := (∀ h ∈ c.hands, h.cap ≤ 3) ∧ (c.hands.length = 4 → ∀ h ∈ c.hands, h.cap ≤ 1)
def preSm (ds : List PyData) : Prop := ds = [.int 3]
def prSm (_ : List PyData) (d : PyData) : Prop := ∃ c, d = cuD c ∧ WfC c ∧ SmallC c
def lessC (n : Nat) (h : Hand) : Hand := ⟨h.rise, h.fall, min h.cap (if n < 4 then 3 else 1)⟩
theorem sort_back {m : Nat} {h : List Int} (hs : h.Pairwise (· < ·)) : sortI (h.map fun x => (m : Int) - 1 - x) = backI m h := by
  refine (sortI_of ?_ ?_).symm
  · unfold backI
    exact List.reverse_perm _
  · unfold backI
    rw [List.pairwise_reverse, List.pairwise_map]
    exact hs.imp fun h => by omega
def nTnd : List Str := ["custom"]
theorem scTnd : FnScope nTnd ["custom"] (defScope S__law_turned) := ⟨rfl, rfl, rfl, by decide +kernel, rfl, by decide +kernel, by decide +kernel⟩
def nBck : List Str := ["custom", "had", "hand"]
theorem scBck : FnScope nBck ["custom", "had"] (defScope S__law_back) := ⟨rfl, rfl, rfl, by decide +kernel, rfl, by decide +kernel, by decide +kernel⟩
def nSm : List Str := ["deck", "top", "custom", "less", "hands", "rise", "fall", "cap"]
theorem scSm : FnScope nSm ["deck", "top"] (defScope S__law_small) := ⟨rfl, rfl, rfl, by decide +kernel, rfl, by decide +kernel, by decide +kernel⟩
section
variable {P : Program} {w : World} {K : PySem.W.Frag} {mg : Str → Option Value} {base : Heap}
theorem ok__law_turned {f : Addr} {fd : FuncData} (F : Fun K "_law_turned" "_law_turned" S__law_turned f fd) (B : Bn mg) : FnOk P w K mg base CX0 1 f fd ["custom"] (spP prTurned) := by
  refine fn_ok F scTnd (fun ds d h => ?_) (fun ds d h f cdv A outer s H E F0 H0 hr => ?_)
  · obtain ⟨c, rfl, _⟩ := h; rfl
  · obtain ⟨c, rfl, rfl⟩ := h
    have nd := scTnd.nd
    refine dss_ret (de_tup (da_cons (de_ix ix_tup (de_var 0) de_int (v_ixT (by rfl))) (da_cons (de_ix ix_list (de_lst (da_cons de_str (da_cons de_str da_nil))) (de_callTy call_int1 B.int (by decide +kernel) (da_cons (de_cmp op_eq (de_ix ix_tup (de_var 0) de_int (v_ixT (by rfl))) de_str v_eqS) da_nil) v_intB) (v_ixL (d := .str (tieS (!c.first))) ?_))
      (da_cons (de_revA (de_ix ix_tup (de_var 0) de_int (v_ixT (by rfl)))) da_nil)))) ?_
    · rw [tieS_first]
      cases c.first <;> rfl
    · show _ = cuD (turnC c)
      unfold cuD turnC
      rw [List.map_reverse]
theorem ok__law_back {f : Addr} {fd : FuncData} (F : Fun K "_law_back" "_law_back" S__law_back f fd) (B : Bn mg) : FnOk P w K mg base CX0 1 f fd ["custom", "had"] (spP prBack) := by
  refine fn_ok F scBck (fun ds d h => ?_) (fun ds d h f cdv A outer s H E F0 H0 hr => ?_)
  · obtain ⟨c, h, rfl, _⟩ := h; rfl
  · obtain ⟨c, h, rfl, hc, hl, hs, rfl⟩ := h
    have nd := scBck.nd
    refine dss_ret (de_callTy call_tuple_of B.tuple (by decide +kernel) (da_cons (de_callB cr_sorted B.sorted (by decide +kernel) (da_cons (de_is (d2 := .list ((h.map fun x => (c.hands.length : Int) - 1 - x).map .int)) (de_lc (xs := h) (enc := fun x => .int x) (own := [("hand", 2)]) _ (fun _ => true) (fun x => .int ((c.hands.length : Int) - 1 - x)) [2] rfl nd (blkOk_by (N := nBck) (sc := defScope S__law_back) (by decide +kernel))
      (di_tup (de_var 1))
      (fun x _ _ _ _ _ _ => dg_name 2 nd)
      (fun _ _ _ _ _ _ _ => pts_none)
      (fun x _ _ _ _ _ _ _ => de_is (de_op op_sub (de_op op_sub (de_callB call_len_seq B.len (by decide +kernel) (da_cons (de_ix ix_tup (de_var 0) de_int (v_ixT (by rfl))) da_nil) v_lenT) de_int v_sub) (de_var 2) v_sub) (by rw [List.length_map]))
      (by decide) (small64 hl)) (by rw [filter_tt, List.map_map]; rfl)) da_nil) (v_sortI (ns := h.map fun x => (c.hands.length : Int) - 1 - x) (by rw [List.length_map]; exact hl))) da_nil) v_tupL) ?_
    rw [sort_back hs]; rfl
theorem ok__law_small {f : Addr} {fd : FuncData} (F : Fun K "_law_small" "_law_small" S__law_small f fd) (B : Bn mg) (G1 : Cal P w K mg base 2 "_law_custom" 3 (spK 40 preCus prCus)) : FnOk P w K mg base CX0 3 f fd ["deck", "top"] (spK 40 preSm prSm) := by
  refine fn_okK F scSm (fun ds h => ?_) (fun p n ds h hn f cdv A outer s H E F0 H0 hr => ?_)
  · rw [show ds = [.int 3] from h]; rfl
  · obtain rfl : ds = [.int 3] := h
    have nd := scSm.nd
    refine dss_setW 2 nd (P := fun d => ∃ c, d = cuD c ∧ WfC c ∧ ∀ h ∈ c.hands, h.cap ≤ 3) (we_imp (we_call (n := n) 0 G1 hr (wa_d (PA1 := fun ds => ds = [.int 4, .int 3]) (da_cons de_int (da_cons (de_var 1) da_nil)) rfl) (fun ds h => ⟨4, 3, h, by decide, by decide, by decide, by decide⟩) rfl rfl (by omega)) (fun d ⟨ds, e, size, top, c, h1, h2, h3, h4⟩ => ⟨c, h2, h3, by
      rw [e] at h1
      have : top = 3 := by
        have h5 := (List.cons.inj (List.cons.inj h1).2).1
        injection h5 with h5
        exact h5.symm
      rw [← this]; exact h4⟩)) (OwnLike_deck 0) (fun d hd => ?_)
    obtain ⟨c, rfl, hc, h3⟩ := hd
    have h4 := hc.four
    change DSs _ _ _ _ [.own p (.deck (n + 40)), .dat (.int 3), .dat (cuD c), .no, .no, .no, .no, .no] _ _
    refine dss_set 3 nd (d := .int (if c.hands.length < 4 then 3 else 1)) (de_is (de_if (dt_cmp op_lt (de_callB call_len_seq B.len (by decide +kernel) (da_cons (de_ix ix_tup (de_var 2) de_int (v_ixT (by rfl))) da_nil) v_lenT) de_int v_lt) (fun _ => de_var 1) (fun _ => de_op op_fdiv (de_var 1) de_int (v_fdiv ⟨by decide, by decide⟩))) ?_) ?_
    · rw [List.length_map]
      by_cases hl : c.hands.length < 4
      · rw [if_pos hl, decide_eq_true (show (c.hands.length : Int) < 4 by omega), if_pos rfl]
      · rw [if_neg hl, decide_eq_false (show ¬ (c.hands.length : Int) < 4 by omega), if_neg (by decide)]; rfl
    refine dss_newl 4 nd fun q => ?_
    let I : Nat → Env' → Prop := fun i ρ => ρ = [.own p (.deck (n + 40)), .dat (.int 3), .dat (cuD c), .dat (.int (if c.hands.length < 4 then 3 else 1)), .own q (.lst (((c.hands.take i).map (lessC c.hands.length)).map haD)), .no, .no, .no]
    refine dss_for I (di_tup (de_ix ix_tup (de_var 2) de_int (v_ixT (by rfl)))) rfl (fun i x ρ' hx hI => ?_) (fun ρ' hI => ?_)
    · subst hI
      rw [List.getElem?_map] at hx
      obtain ⟨h, hh, rfl⟩ := Option.map_eq_some_iff.mp hx
      refine ⟨_, _, dg_tup (dgs_cons (dg_name 5 nd) (dgs_cons (dg_name 6 nd) (dgs_cons (dg_name 7 nd) dgs_nil))), ?_⟩
      refine dss_app 4 (d := haD (lessC c.hands.length h)) (da_cons (de_is (de_tup (da_cons (de_var 5) (da_cons (de_var 6) (da_cons (de_callB (call_min2 rfl) B.min (by decide +kernel) (da_cons (de_var 7) (da_cons (de_var 3) da_nil)) v_min2) da_nil)))) rfl) da_nil) ?_ ?_
      · rw [List.length_map, List.length_map, List.length_take]
        exact Nat.lt_of_le_of_lt (Nat.min_le_right _ _) (Nat.lt_of_le_of_lt h4 (by decide))
      · refine dss_nilF [5, 6, 7] ?_
        show _ = _
        rw [take_map_succ (lessC c.hands.length) hh, List.map_append]; rfl
    · have hI' : ρ' = _ := hI
      rw [List.length_map, List.take_length] at hI'
      subst hI'
      refine dss_freezeX 4 0 ?_
      refine dss_ret (d := cuD ⟨c.many, c.first, c.hands.map (lessC c.hands.length)⟩) (de_is (de_op op_catA (de_sl sl_tupA (de_var 2) do_none (do_some de_int) v_slT) (de_tup (da_cons (de_callTy call_tuple_of B.tuple (by decide +kernel) (da_cons (de_var 4) da_nil) v_tupL) da_nil)) (v_catT (by show 2 + 1 ≤ _; decide))) rfl) ⟨⟨_, rfl, ⟨?_, ?_, hc.many1, ?_, fun k hk => ?_⟩, fun k hk => ?_, fun hl k hk => ?_⟩, _, rfl, deck_mono (by omega)⟩
      · show 2 ≤ (c.hands.map _).length
        rw [List.length_map]; exact hc.two
      · show (c.hands.map _).length ≤ 4
        rw [List.length_map]; exact h4
      · show c.many ≤ ((c.hands.map _).length : Int) - 1
        rw [List.length_map]; exact hc.many2
      · obtain ⟨h, hh, rfl⟩ := List.mem_map.mp hk
        have s := hc.steps h hh
        refine ⟨s.1, s.2.1, s.2.2.1, s.2.2.2.1, ?_, ?_⟩
        · show 0 ≤ min h.cap _
          have := s.2.2.2.2.1
          split <;> omega
        · show min h.cap _ ≤ 15
          have := s.2.2.2.2.2
          omega
      · obtain ⟨h, hh, rfl⟩ := List.mem_map.mp hk
        show min h.cap _ ≤ 3
        have := h3 h hh
        omega
      · obtain ⟨h, hh, rfl⟩ := List.mem_map.mp hk
        have hl' : (c.hands.map (lessC c.hands.length)).length = 4 := hl
        rw [List.length_map] at hl'
        show min h.cap (if c.hands.length < 4 then 3 else 1) ≤ 1
        rw [hl', if_neg (by decide)]
        omega
end

/-! ## law (k10) -/
theorem haD_inj {h k : Hand} (e : haD h = haD k) : h = k := by
  cases h; cases k
  unfold haD at e
  simp only [PyData.tuple.injEq, List.cons.injEq, PyData.int.injEq, and_true] at e
  obtain ⟨rfl, rfl, rfl⟩ := e
  rfl
theorem map_inj {α β : Type} {f : α → β} (hf : ∀ x y, f x = f y → x = y) : ∀ {xs ys : List α}, xs.map f = ys.map f → xs = ys
  | [], [], _ => rfl
  | [], _ :: _, h => by simp at h
  | _ :: _, [], h => by simp at h
  | x :: xs, y :: ys, h => by
    simp only [List.map_cons, List.cons.injEq] at h
    rw [hf _ _ h.1, map_inj hf h.2]
theorem cuD_inj {c d : Custom} (e : cuD c = cuD d) : c = d := by
  cases c with | mk m f hs => cases d with | mk m' f' hs' =>
  unfold cuD at e
  simp only [PyData.tuple.injEq, List.cons.injEq, PyData.int.injEq, PyData.str.injEq, and_true] at e
  obtain ⟨h1, h2, h3⟩ := e
  have h4 : hs = hs' := map_inj (fun _ _ => haD_inj) h3
  have h5 : f = f' := by
    have := tieS_first f
    rw [h2, tieS_first] at this
    exact this.symm
  rw [h1, h4, h5]
/-! ### small customs -/
def bigOf (n : Nat) : List Int := if n = 2 then [3, 3] else if n = 3 then [3, 3, 3] else [1, 1, 1, 1]
theorem small_big {c : Custom} (hc : WfC c) (hs : SmallC c) : inCaps' (capsI c) (bigOf c.hands.length) := by
  have h2 := hc.two
  have h4 := hc.four
  obtain ⟨h3, h1⟩ := hs
  unfold capsI bigOf
  cases c with | mk m f hands =>
  simp only at h2 h4 h3 h1 ⊢
  match hands, h2, h4, h3, h1 with
  | [a, b], _, _, h3, _ => exact ⟨h3 a (by simp), h3 b (by simp), trivial⟩
  | [a, b, d], _, _, h3, _ => exact ⟨h3 a (by simp), h3 b (by simp), h3 d (by simp), trivial⟩
  | [a, b, d, e], _, _, _, h1 => exact ⟨h1 rfl a (by simp), h1 rfl b (by simp), h1 rfl d (by simp), h1 rfl e (by simp), trivial⟩
theorem big_facts (n : Nat) : (allWs (bigOf n)).length ≤ 64 ∧ ((allWs (bigOf n)).map fun w => hK (w, w)).Nodup := by
  unfold bigOf
  split
  · exact ⟨by decide +kernel, by decide +kernel⟩
  · split
    · exact ⟨by decide +kernel, by decide +kernel⟩
    · exact ⟨by decide +kernel, by decide +kernel⟩
theorem small_facts {c : Custom} (hc : WfC c) (hs : SmallC c) : sizeI (capsI c) ≤ 64 ∧ HashOk c := by
  obtain ⟨b1, b2⟩ := big_facts c.hands.length
  have hsub : ∀ w ∈ allWs (capsI c), w ∈ allWs (bigOf c.hands.length) := fun w hw => mem_allWs.mpr (inCaps_mono (mem_allWs.mp hw) (small_big hc hs))
  refine ⟨?_, nodup_sub b2 (allWs_nodup _) hsub⟩
  have := (allWs_nodup (capsI c)).length_le_of_subset hsub
  have := allWs_len (capsOk_of hc)
  omega
theorem small_turn {c : Custom} (hs : SmallC c) : SmallC (turnC c) := ⟨fun h hh => hs.1 h (List.mem_reverse.mp hh), fun hl h hh => hs.2 (by rw [← hl]; exact (turn_len c).symm) h (List.mem_reverse.mp hh)⟩
/-- the hands, some rising more -/
theorem more_hands : ∀ {hs : List Hand} {es : List PyData}, All2 (fun (h : Hand) d => ∃ r : Int, d = haD ⟨r, h.fall, h.cap⟩ ∧ 0 ≤ r ∧ r ≤ 15) hs es → ∃ ks : List Hand, es = ks.map haD ∧ ks.map (fun h => h.cap) = hs.map (fun h => h.cap) ∧ ∀ k ∈ ks, ∃ h ∈ hs, 0 ≤ k.rise ∧ k.rise ≤ 15 ∧ k.fall = h.fall ∧ k.cap = h.cap
  | [], _, .nil => ⟨[], rfl, rfl, fun k hk => by cases hk⟩
  | h :: hs, _, .cons (ys := es) ⟨r, e, h1, h2⟩ t => by
    obtain ⟨ks, e2, hcap, hb⟩ := more_hands t
    refine ⟨⟨r, h.fall, h.cap⟩ :: ks, by rw [e, e2]; rfl, by simp [hcap], fun k hk => ?_⟩
    rcases List.mem_cons.mp hk with rfl | q
    · exact ⟨h, by simp, h1, h2, rfl, rfl⟩
    · obtain ⟨h', q1, q2⟩ := hb k q
      exact ⟨h', List.mem_cons_of_mem _ q1, q2⟩
theorem lay_lackL {n : Nat} (xs : List Nat) (rs : List (List Int)) (i : Nat) : ∀ d ∈ xs.map fun (h : Nat) => lackD rs i (h : Int), Lay n d := fun d hd => by
  obtain ⟨h, _, rfl⟩ := List.mem_map.mp hd
  unfold lackD
  split
  · exact .int _
  · exact .non
def nLaw : List Str := ["script", "cell", "deck", "custom", "wishes", "other", "row", "after", "first", "long", "counts", "far_ones", "end", "small", "hands", "more", "one", "two", "had", "rise", "fall", "cap"]
theorem scLaw : FnScope nLaw ["script"] (defScope S_law) := ⟨rfl, rfl, rfl, by decide +kernel, rfl, by decide +kernel, by decide +kernel⟩
section
variable {P : Program} {w : World} {K : PySem.W.Frag} {mg : Str → Option Value} {base : Heap}
theorem law_body {fa a : Addr} {ns : List Int} (hl : ns.length ≤ 63) (B : Bn mg) (G1 : Cal P w K mg base 2 "run" 3 (spP prRun)) (G3 : Cal P w K mg base 3 "comes_round" 2 (spP prCr)) (Gf : Cal P w K mg base 3 "far" 3 (spP prFar)) (Gl : Cal P w K mg base 3 "lacks" 2 (spP prLacks)) (Gs : Cal P w K mg base 3 "starving" 1 (spP prSt)) (Gp : Cal P w K mg base 3 "parting" 2 (spP prPart))
    (G4 : Cal P w K mg base 1 "_law_deck" 2 spDeck) (G5 : Cal P w K mg base 1 "_law_pick" 2 (spK 1 prePick prPick)) (G6 : Cal P w K mg base 2 "_law_custom" 3 (spK 40 preCus prCus)) (G7 : Cal P w K mg base 2 "_law_wishes" 2 (spK 4 preLwi prLwi)) (G8 : Cal P w K mg base 3 "_law_small" 2 (spK 40 preSm prSm)) (Gt : Cal P w K mg base 1 "_law_turned" 1 (spP prTurned)) (Gb : Cal P w K mg base 1 "_law_back" 2 (spP prBack))
    (cdv : Value) (s : Shared) (H : Hp) (E : XK) (hr : Room 3 (Bod P w K mg base nLaw "law" S_law fa cdv callerA [] s H E).A) (hS : SqL K H a (ns.map V.int)) :
    ∃ t, PSs (Bod P w K mg base nLaw "law" S_law fa cdv callerA [] s H E) (defBody S_law) t ∧ t { nx := fun _ _ => False, rt := fun v _ => v = .bl true } (L2.start nLaw [.ref a]) H := by
  have nd := scLaw.nd
  have hr1 := hr.mono (show 1 ≤ 3 by decide)
  have hr2 := hr.mono (show 2 ≤ 3 by decide)
  have hun : (Bod P w K mg base nLaw "law" S_law fa cdv callerA [] s H E).A.units + 64 < cLine := by have := hr.un; omega
  let ρ0 : Env' := [.val (.ref a), .no, .no, .no, .no, .no, .no, .no, .no, .no, .no, .no, .no, .no, .no, .no, .no, .no, .no, .no, .no, .no]
  have body : DSs (Bod P w K mg base nLaw "law" S_law fa cdv callerA [] s H E) [] (fun _ => none) H ρ0 (defBody S_law) { N := fun _ => False, R := fun d _ => d = .bool true } := by
    refine dss_forS (fun _ ρ => ρ = ρ0) (fun H => SqL K H a (ns.map V.int)) (fun F H' σ at_ => sqL_same hS at_.g.same) (pi_script rfl (by decide) (by omega)) rfl (fun i x ρ' hx hI => ?_) (fun ρ' hI => dss_ret de_bl rfl)
    subst hI
    rw [List.getElem?_map] at hx
    obtain ⟨cell, _, rfl⟩ := Option.map_eq_some_iff.mp hx
    refine ⟨_, _, dg_name 1 nd, ?_⟩
    refine dss_own 2 nd (dn_deck G4 hr1 (da_cons (de_var 1) (da_cons de_int da_nil)) (by decide)) fun p => ?_
    refine dss_mine 2 (p := p) rfl (owns_one rfl) fun F1 H1 => ?_
    refine dss_setW 3 nd (P := fun d => ∃ c, d = cuD c ∧ WfC c) (we_imp (we_call (n := 10) 2 G6 hr2 (wa_d (PA1 := fun ds => ds = [.int 4, .int 9]) (da_cons de_int (da_cons de_int da_nil)) rfl) (fun ds h => ⟨4, 9, h, by decide, by decide, by decide, by decide⟩) rfl rfl (by decide)) (fun d ⟨ds, e, size, top, c, h1, h2, h3, _⟩ => ⟨c, h2, h3⟩)) (OwnLike_deck 2) (fun d hd => ?_)
    obtain ⟨c, rfl, hc⟩ := hd
    have h2 := hc.two
    have h4 := hc.four
    have hct := wfC_turn hc
    let ρ1 : Env' := [.val (.ref a), .dat (.int cell), .own p (.deck 50), .dat (cuD c), .no, .no, .no, .no, .no, .no, .no, .no, .no, .no, .no, .no, .no, .no, .no, .no, .no, .no]
    change DSs _ _ _ _ ρ1 _ _
    -- wishes, other
    refine dss_parW 4 5 (ρ1 := ρ1.set 2 (.own p (.deck (50 + 4)))) (PA1 := fun ds => ∃ ws, ds = [wiD ws, cuD (turnC c)] ∧ WfW c ws) nd (wa_imp (wa_cons (P1 := fun d => ∃ ws, d = wiD ws ∧ WfW c ws) (we_imp (we_call (ρ := ρ1) (n := 50) (p := p) 2 G7 hr2 (wa_d (PA1 := fun ds => ds = [cuD c]) (da_cons (de_var 3) da_nil) rfl) (fun ds h => ⟨c, h, hc⟩) rfl rfl (by decide)) (fun d ⟨ds, e, h⟩ => ?_))
      (wa_d (PA1 := fun ds => ds = [cuD (turnC c)]) (da_cons (de_call Gt hr1 (da_cons (de_var 3) da_nil) ⟨c, rfl, rfl⟩) da_nil) rfl)) (fun ds ⟨d, ds', e1, ⟨ws, e2, e3⟩, e4⟩ => ⟨ws, by rw [e1, e2, e4], e3⟩)) (OwnLike_deck 2) (fun d1 d2 ⟨ws, hd, hw⟩ => ?_) (fun ds ⟨ws, hd, _⟩ => by rw [hd]; rfl)
    · subst e
      obtain ⟨c', ws, h1, h2, h3⟩ := prLwi_w h
      have : c = c' := cuD_inj (List.cons.inj h1).1
      subst this
      exact ⟨ws, h2, h3⟩
    obtain rfl : d1 = wiD ws := (List.cons.inj hd).1
    obtain rfl : d2 = cuD (turnC c) := (List.cons.inj (List.cons.inj hd).2).1
    have hwt := wfW_turn hw
    have hwl := hw.len
    obtain ⟨m, hm⟩ : ∃ m, c.hands.length = m := ⟨_, rfl⟩
    have hback : ∀ {ρ : Env'} {e : Expr} {ds : List Int} {k : Nat} {p1 p2 p3 pos : Pos}, DE (Bod P w K mg base nLaw "law" S_law fa cdv callerA [] s H E) ρ e (wiD ds) → DE (Bod P w K mg base nLaw "law" S_law fa cdv callerA [] s H E) ρ (.Subscript e (.Slice none none (some (.UnaryOp .USub (.Constant (.int 1) k p1) p2)) p3) pos) (wiD ds.reverse) := fun {ρ e ds k p1 p2 p3 pos} he => de_is (de_revA he) (by unfold wiD; rw [List.map_reverse])
    change DSs _ _ _ _ [.val (.ref a), .dat (.int cell), .own p (.deck 54), .dat (cuD c), .dat (wiD ws), .dat (cuD (turnC c)), .no, .no, .no, .no, .no, .no, .no, .no, .no, .no, .no, .no, .no, .no, .no, .no] _ _
    -- run
    obtain ⟨R, hR⟩ : ∃ R, rowN c ws 30 = R := ⟨_, rfl⟩
    obtain ⟨Z, hZ⟩ : ∃ Z, wAt c ws 30 = Z := ⟨_, rfl⟩
    have hrun : runD c ws (30 : Int).toNat = .tuple [.list (R.map wiD), wiD Z] := by
      show runD c ws 30 = _
      unfold runD; rw [hR, hZ]
    have hrun2 : runD (turnC c) ws.reverse (30 : Int).toNat = .tuple [.list ((R.map (backI m)).map wiD), wiD Z.reverse] := by
      show runD (turnC c) ws.reverse 30 = _
      unfold runD; rw [row_turn hc hw, at_turn hc hw, hR, hZ, hm]
    have hRs : ∀ h ∈ R, h.Pairwise (· < ·) ∧ h.length < 64 := fun h hh => by
      rw [← hR] at hh
      unfold rowN at hh
      obtain ⟨k, _, rfl⟩ := List.mem_map.mp hh
      refine ⟨had_sorted _ _, ?_⟩
      have hk := wf_at hc hw k
      have e := had_len (c := c) (ws := wAt c ws k) (by have := hc.many1; omega) (by have := hc.many2; rw [hk.len]; omega)
      have := hc.many2
      unfold hadAt
      omega
    have hRl : R.length = 30 := by rw [← hR, rowN_len]
    refine dss_asg (de_call (d := .tuple [.list (R.map wiD), wiD Z]) G1 hr2 (da_cons (de_var 3) (da_cons (de_var 4) (da_cons de_int da_nil))) ⟨c, ws, 30, rfl, hc, hw, by decide, by decide, hrun.symm⟩) (dg_tup (dgs_cons (dg_name 6 nd) (dgs_cons (dg_name 7 nd) dgs_nil))) ?_
    change DSs _ _ _ _ [.val (.ref a), .dat (.int cell), .own p (.deck 54), .dat (cuD c), .dat (wiD ws), .dat (cuD (turnC c)), .dat (.list (R.map wiD)), .dat (wiD Z), .no, .no, .no, .no, .no, .no, .no, .no, .no, .no, .no, .no, .no, .no] _ _
    refine dss_ifx (x := false) (dt_cmp (op_neD hun) (de_call (d := .tuple [.list ((R.map (backI m)).map wiD), wiD Z.reverse]) G1 hr2 (da_cons (de_var 5) (da_cons (hback (de_var 4)) (da_cons de_int da_nil))) ⟨turnC c, ws.reverse, 30, rfl, hct, hwt, by decide, by decide, hrun2.symm⟩)
      (de_tup (da_cons (de_is (d2 := .list ((R.map (backI m)).map wiD)) (de_lc (xs := R) (enc := wiD) (own := [("had", 18)]) _ (fun _ => true) (fun h => wiD (backI m h)) [18] rfl nd (blkOk_by (N := nLaw) (sc := defScope S_law) (by decide +kernel))
        (di_list (de_var 6))
        (fun h _ _ _ _ _ _ => dg_name 18 nd)
        (fun _ _ _ _ _ _ _ => pts_none)
        (fun h hh _ _ _ _ _ _ => de_call Gb hr1 (da_cons (de_var 3) (da_cons (de_var 18) da_nil)) ⟨c, h, rfl, h4, (hRs h hh).2, (hRs h hh).1, by rw [hm]⟩)
        (by decide) (small64 (by omega))) (by rw [filter_tt, List.map_map]; rfl)) (da_cons (hback (de_var 7)) da_nil)))
      (v_neL (n := 3) (.tup (lay_cons (lay_rows _) (lay_cons ((lay_wi _).mono (by decide)) lay_nil))))) (fun h => by cases h) (fun _ => ?_)
    -- comes_round
    obtain ⟨i', n, hRd⟩ := round_ex hc hw
    have hRt := round_turn hc hw hRd
    obtain ⟨cs, hcs⟩ : ∃ cs, cntI c.hands.length ((rowN c ws n).drop i') = cs := ⟨_, rfl⟩
    have hcr : crD c ws i' n = .tuple [.int (i' : Int), .int ((n : Int) - (i' : Int)), wiD cs] := by unfold crD; rw [hcs]
    have hcr2 : crD (turnC c) ws.reverse i' n = .tuple [.int (i' : Int), .int ((n : Int) - (i' : Int)), wiD cs.reverse] := by
      rw [cr_turn hc hw, hcs]
      unfold wiD
      rw [List.map_reverse]
    refine dss_asg (de_call (d := .tuple [.int (i' : Int), .int ((n : Int) - (i' : Int)), wiD cs]) G3 hr (da_cons (de_var 3) (da_cons (de_var 4) da_nil)) ⟨c, ws, i', n, rfl, hc, hw, hRd, hcr.symm⟩) (dg_tup (dgs_cons (dg_name 8 nd) (dgs_cons (dg_name 9 nd) (dgs_cons (dg_name 10 nd) dgs_nil)))) ?_
    change DSs _ _ _ _ [.val (.ref a), .dat (.int cell), .own p (.deck 54), .dat (cuD c), .dat (wiD ws), .dat (cuD (turnC c)), .dat (.list (R.map wiD)), .dat (wiD Z), .dat (.int (i' : Int)), .dat (.int ((n : Int) - (i' : Int))), .dat (wiD cs), .no, .no, .no, .no, .no, .no, .no, .no, .no, .no, .no] _ _
    refine dss_ifx (x := false) (dt_cmp (op_neD hun) (de_call (d := .tuple [.int (i' : Int), .int ((n : Int) - (i' : Int)), wiD cs.reverse]) G3 hr (da_cons (de_var 5) (da_cons (hback (de_var 4)) da_nil)) ⟨turnC c, ws.reverse, i', n, rfl, hct, hwt, hRt, hcr2.symm⟩)
      (de_tup (da_cons (de_var 8) (da_cons (de_var 9) (da_cons (hback (de_var 10)) da_nil))))
      (v_neL (n := 2) (.tup (lay_cons (.int _) (lay_cons (.int _) (lay_cons (lay_wi _) lay_nil)))))) (fun h => by cases h) (fun _ => ?_)
    -- far
    have hp15 : (10 : Int) ^ (15 : Int).toNat = 1000000000000000 := by decide
    obtain ⟨t, ht⟩ : ∃ t : Int, t = 1000000000000007 := ⟨_, rfl⟩
    have hfarT : ∀ {ρ : Env'} {p1 p2 p3 p4 p5 : Pos} {k1 k2 k3 : Nat}, DE (Bod P w K mg base nLaw "law" S_law fa cdv callerA [] s H E) ρ (.BinOp (.BinOp (.Constant (.int 10) k1 p1) .Pow (.Constant (.int 15) k2 p2) p3) .Add (.Constant (.int 7) k3 p4) p5) (.int t) := fun {ρ p1 p2 p3 p4 p5 k1 k2 k3} => de_is (de_op op_add (de_op op_pow de_int de_int (v_pow ⟨by decide, by decide, by decide⟩)) de_int v_add) (by rw [hp15, ht]; rfl)
    obtain ⟨fc, hfc⟩ : ∃ fc, cntI c.hands.length (rowN c ws t.toNat) = fc := ⟨_, rfl⟩
    obtain ⟨fe, hfe⟩ : ∃ fe, wAt c ws t.toNat = fe := ⟨_, rfl⟩
    have hfar : farD c ws t.toNat = .tuple [wiD fc, wiD fe] := by unfold farD; rw [hfc, hfe]
    have hfar2 : farD (turnC c) ws.reverse t.toNat = .tuple [wiD fc.reverse, wiD fe.reverse] := by
      rw [far_turn hc hw, hfc, hfe]
      unfold wiD
      rw [List.map_reverse, List.map_reverse]
    refine dss_asg (de_call (d := .tuple [wiD fc, wiD fe]) Gf hr (da_cons (de_var 3) (da_cons (de_var 4) (da_cons hfarT da_nil))) ⟨c, ws, t, rfl, hc, hw, by omega, by omega, hfar.symm⟩) (dg_tup (dgs_cons (dg_name 11 nd) (dgs_cons (dg_name 12 nd) dgs_nil))) ?_
    change DSs _ _ _ _ [.val (.ref a), .dat (.int cell), .own p (.deck 54), .dat (cuD c), .dat (wiD ws), .dat (cuD (turnC c)), .dat (.list (R.map wiD)), .dat (wiD Z), .dat (.int (i' : Int)), .dat (.int ((n : Int) - (i' : Int))), .dat (wiD cs), .dat (wiD fc), .dat (wiD fe), .no, .no, .no, .no, .no, .no, .no, .no, .no] _ _
    refine dss_ifx (x := false) (dt_cmp (op_neD hun) (de_call (d := .tuple [wiD fc.reverse, wiD fe.reverse]) Gf hr (da_cons (de_var 5) (da_cons (hback (de_var 4)) (da_cons hfarT da_nil))) ⟨turnC c, ws.reverse, t, rfl, hct, hwt, by omega, by omega, hfar2.symm⟩)
      (de_tup (da_cons (hback (de_var 11)) (da_cons (hback (de_var 12)) da_nil)))
      (v_neL (n := 2) (.tup (lay_cons (lay_wi _) (lay_cons (lay_wi _) lay_nil))))) (fun h => by cases h) (fun _ => ?_)
    -- lacks
    obtain ⟨ls, hls⟩ : ∃ ls, (List.range c.hands.length).map (fun (h : Nat) => lackD (rowN c ws n) i' (h : Int)) = ls := ⟨_, rfl⟩
    have hlay : ∀ d ∈ ls.reverse, Lay 0 d := fun d hd => by
      rw [← hls] at hd
      exact lay_lackL _ _ _ d (List.mem_reverse.mp hd)
    refine dss_ifx (x := false) (dt_cmp (op_neD hun) (de_call (d := .list ls.reverse) Gl hr (da_cons (de_var 5) (da_cons (hback (de_var 4)) da_nil)) ⟨turnC c, ws.reverse, i', n, rfl, hct, hwt, hRt, by rw [lacks_turn hc hw, hls]⟩)
      (de_revL (de_call (d := .list ls) Gl hr (da_cons (de_var 3) (da_cons (de_var 4) da_nil)) ⟨c, ws, i', n, rfl, hc, hw, hRd, by unfold lacksD; rw [hls]⟩))
      (v_neL (n := 1) (.list hlay))) (fun h => by cases h) (fun _ => ?_)
    -- small
    refine dss_forget 4 (dss_forget 5 (dss_forget 6 (dss_forget 7 (dss_forget 8 (dss_forget 9 (dss_forget 10 (dss_forget 11 (dss_forget 12 ?_))))))))
    let ρ2 : Env' := [.val (.ref a), .dat (.int cell), .own p (.deck 54), .dat (cuD c), .no, .no, .no, .no, .no, .no, .no, .no, .no, .no, .no, .no, .no, .no, .no, .no, .no, .no]
    change DSs _ _ _ _ ρ2 _ _
    refine dss_setW 13 nd (P := prSm [.int 3]) (we_imp (we_call (ρ := ρ2) (n := 54) (p := p) 2 G8 hr (wa_d (PA1 := fun ds => ds = [.int 3]) (da_cons de_int da_nil) rfl) (fun ds h => h) rfl rfl (by decide)) (fun d ⟨ds, _, h⟩ => h)) (OwnLike_deck 2) (fun d hd => ?_)
    obtain ⟨c2, rfl, hc2, hs2⟩ := hd
    have hct2 := wfC_turn hc2
    have hst2 := small_turn hs2
    obtain ⟨z1, k1⟩ := small_facts hc2 hs2
    obtain ⟨z2, k2⟩ := small_facts hct2 hst2
    let ρ3 : Env' := [.val (.ref a), .dat (.int cell), .own p (.deck 94), .dat (cuD c), .no, .no, .no, .no, .no, .no, .no, .no, .no, .dat (cuD c2), .no, .no, .no, .no, .no, .no, .no, .no]
    change DSs _ _ _ _ ρ3 _ _
    have hturn : ∀ {ρ : Env'} {p1 p2 px : Pos} {x : Str} {c9 : Custom}, DE (Bod P w K mg base nLaw "law" S_law fa cdv callerA [] s H E) ρ (.Name x px) (cuD c9) → DE (Bod P w K mg base nLaw "law" S_law fa cdv callerA [] s H E) ρ (.Call (.Name "_law_turned" p1) [.Name x px] [] p2) (cuD (turnC c9)) := fun {ρ p1 p2 px x c9} h => de_call Gt hr1 (da_cons h da_nil) ⟨c9, rfl, rfl⟩
    refine dss_ifx (x := false) (dt_cmp (op_neD hun) (de_cmp op_isN (de_call (d := stD (firstSt c2)) Gs hr (da_cons (de_var 13) da_nil) ⟨c2, rfl, hc2, by omega, rfl⟩) de_non v_isN)
      (de_is (d2 := .bool (isNoneD (stD (firstSt c2)))) (de_cmp op_isN (de_call (d := stD (firstSt (turnC c2))) Gs hr (da_cons (hturn (de_var 13)) da_nil) ⟨turnC c2, rfl, hct2, by omega, rfl⟩) de_non v_isN) (by rw [first_turn hc2]))
      (v_neL (n := 0) (.bl _))) (fun h => by cases h) (fun _ => ?_)
    -- hands
    refine dss_setLcK 14 2 94 1 (ρ := ρ3) (xs := c2.hands) (enc := haD) (own := [("rise", 19), ("fall", 20), ("cap", 21)]) _ (fun h m => [.val (.ref a), .dat (.int cell), .own p (.deck (m + 1)), .dat (cuD c), .no, .no, .no, .no, .no, .no, .no, .no, .no, .dat (cuD c2), .no, .no, .no, .no, .no, .dat (.int h.rise), .dat (.int h.fall), .dat (.int h.cap)])
      (fun (h : Hand) d => ∃ r : Int, d = haD ⟨r, h.fall, h.cap⟩ ∧ 0 ≤ r ∧ r ≤ 15) [19, 20, 21] rfl nd (blkOk_by (N := nLaw) (sc := defScope S_law) (by decide +kernel))
      (di_tup (de_ix ix_tup (de_var 13) de_int (v_ixT (by rfl)))) rfl
      (fun h _ m _ _ _ _ _ => dg_tup (dgs_cons (dg_name 19 nd) (dgs_cons (dg_name 20 nd) (dgs_cons (dg_name 21 nd) dgs_nil))))
      (fun h hh m hm1 hm2 _ _ _ _ _ => ?_)
      (fun h m => rfl) (by decide) (by decide) (Nat.le_trans hc2.four (by decide)) (OwnLike_deck 2) (fun es hall => ?_)
    · refine we_tup (PA1 := fun ds => ∃ r : Int, ds = [.int r, .int h.fall, .int h.cap] ∧ 0 ≤ r ∧ r ≤ 15) (wa_imp (wa_cons (P1 := IntIn 0 16) (we_callB (PA1 := fun ds => ∃ v : Int, ds = [.int 15, .int v] ∧ 0 ≤ v) (call_min2 rfl) (fun ds ⟨v, e, h0⟩ => ⟨.int (min 15 v), by rw [e]; exact v_min2, _, rfl, by omega, by omega⟩) B.min (by decide +kernel)
        (wa_imp (wa_cons (P1 := fun d => d = .int 15) (we_d de_int rfl) (wa_cons (P1 := fun d => ∃ v : Int, d = .int v ∧ 0 ≤ v) (we_op (P1 := fun d => d = .int h.rise) (P2 := fun _ => IntIn 0 2) op_add (we_d (de_var 19) rfl) (fun _ _ => we_pick 2 G5 hr1 de_int (by decide) (by decide) rfl (by have := hc2.four; omega)) (fun d1 d2 h1 ⟨v, h2, h3, h4⟩ => ⟨.int (h.rise + v), by rw [h1, h2]; exact v_add, h.rise + v, rfl, by have := (hc2.steps h hh).1; omega⟩)) wa_nil))
          (fun ds ⟨d1, ds1, e1, e2, d2, ds2, e3, ⟨v, e4, e5⟩, e6⟩ => ⟨v, by rw [e1, e2, e3, e4, e6], e5⟩)))
        (wa_d (PA1 := fun ds => ds = [.int h.fall, .int h.cap]) (da_cons (de_var 20) (da_cons (de_var 21) da_nil)) rfl)) (fun ds ⟨d1, ds1, e1, ⟨r, e2, e3, e4⟩, e5⟩ => ⟨r, by rw [e1, e2, e5], e3, by omega⟩)) (fun ds ⟨r, e1, e2, e3⟩ => by
          subst e1
          exact ⟨Nat.le_of_ble_eq_true rfl, r, rfl, e2, e3⟩)
    · obtain ⟨ks, rfl, hcap, hks⟩ := more_hands hall
      have hkl : ks.length = c2.hands.length := by
        have := congrArg List.length hcap
        simpa using this
      obtain ⟨c3, hc3e⟩ : ∃ c3 : Custom, c3 = ⟨c2.many, c2.first, ks⟩ := ⟨_, rfl⟩
      have hcapI : capsI c2 = capsI c3 := by
        rw [hc3e]
        unfold capsI
        exact hcap.symm
      have hc3 : WfC c3 := by
        rw [hc3e]
        refine ⟨?_, ?_, hc2.many1, ?_, fun k hk => ?_⟩
        · show 2 ≤ ks.length
          rw [hkl]; exact hc2.two
        · show ks.length ≤ 4
          rw [hkl]; exact hc2.four
        · show c2.many ≤ (ks.length : Int) - 1
          rw [hkl]; exact hc2.many2
        · obtain ⟨h, hh, q1, q2, q3, q4⟩ := hks k hk
          have s := hc2.steps h hh
          exact ⟨q1, q2, by rw [q3]; exact s.2.2.1, by rw [q3]; exact s.2.2.2.1, by rw [q4]; exact s.2.2.2.2.1, by rw [q4]; exact s.2.2.2.2.2⟩
      have hcut : cuD c3 = .tuple ([.int c2.many, .str (tieS c2.first)] ++ [.tuple (ks.map haD)]) := by rw [hc3e]; rfl
      generalize (94 + 1 * (c2.hands.length : Int)) = dk
      change DSs _ _ _ _ [.val (.ref a), .dat (.int cell), .own p (.deck dk), .dat (cuD c), .no, .no, .no, .no, .no, .no, .no, .no, .no, .dat (cuD c2), .dat (.list (ks.map haD)), .no, .no, .no, .no, .no, .no, .no] _ _
      refine dss_set 15 nd (d := cuD c3) (de_is (de_op op_catA (de_sl sl_tupA (de_var 13) do_none (do_some de_int) v_slT) (de_tup (da_cons (de_callTy call_tuple_of B.tuple (by decide +kernel) (da_cons (de_var 14) da_nil) v_tupL) da_nil)) (v_catT (by show 2 + 1 ≤ _; decide))) (by rw [hcut]; rfl)) ?_
      change DSs _ _ _ _ [.val (.ref a), .dat (.int cell), .own p (.deck dk), .dat (cuD c), .no, .no, .no, .no, .no, .no, .no, .no, .no, .dat (cuD c2), .dat (.list (ks.map haD)), .dat (cuD c3), .no, .no, .no, .no, .no, .no] _ _
      have hpt := part_turn hc2 hc3 hcapI (by omega) (by omega)
      generalize hp1 : partV c2 c3 = r1 at hpt
      generalize hp2 : partV (turnC c2) (turnC c3) = r2 at hpt
      refine dss_par 16 17 nd (da_cons (de_call (d := partD r1) Gp hr (da_cons (de_var 13) (da_cons (de_var 15) da_nil)) ⟨c2, c3, rfl, hc2, hc3, hcapI, by omega, k1, by rw [hp1]⟩) (da_cons (de_call (d := partD r2) Gp hr (da_cons (hturn (de_var 13)) (da_cons (hturn (de_var 15)) da_nil)) ⟨turnC c2, turnC c3, rfl, hct2, wfC_turn hc3, by rw [caps_turn, caps_turn, hcapI], by omega, k2, by rw [hp2]⟩) da_nil)) ?_
      change DSs _ _ _ _ [.val (.ref a), .dat (.int cell), .own p (.deck dk), .dat (cuD c), .no, .no, .no, .no, .no, .no, .no, .no, .no, .dat (cuD c2), .dat (.list (ks.map haD)), .dat (cuD c3), .dat (partD r1), .dat (partD r2), .no, .no, .no, .no] _ _
      have hnn : isNoneD (partD r2) = isNoneD (partD r1) := by
        cases r1 with
        | none => cases r2 with
          | none => rfl
          | some q => cases hpt
        | some q => cases r2 with
          | none => cases hpt
          | some q' => rfl
      refine dss_ifx (x := false) (dt_w (dw_or (x := false) (y := false) (dt_cmp (op_neD hun) (de_cmp op_isN (de_var 16) de_non v_isN) (de_is (d2 := .bool (isNoneD (partD r1))) (de_cmp op_isN (de_var 17) de_non v_isN) (by rw [hnn])) (v_neL (n := 0) (.bl _)))
        (fun _ => dw_or1 ?_))) (fun h => by cases h) (fun _ => dss_nilF [1, 2, 3, 13, 14, 15, 16, 17] rfl)
      cases r1 with
      | none => exact dt_w (dw_and (x := false) (y := false) (dt_cmp op_notN (de_var 16) de_non v_notN) (fun h => by cases h))
      | some q =>
        cases r2 with
        | none => cases hpt
        | some q' =>
          obtain ⟨T, b⟩ := q
          obtain ⟨T', b'⟩ := q'
          have e : T' = T := Option.some.inj hpt
          subst e
          exact dt_w (dw_and (x := true) (y := false) (dt_cmp op_notN (de_var 16) de_non v_notN) (fun _ => dw_and1 (dt_cmp (op_neD hun) (de_ix ix_tup (de_var 16) de_int (v_ixT (by rfl))) (de_ix ix_tup (de_var 17) de_int (v_ixT (by rfl))) (v_neL (n := 0) (.int _)))))
  exact law_fin 21 body rfl
end

def dd_one_turn : He.DefD := ⟨("one_turn", none), "one_turn", "one_turn", defArgs S_one_turn, defBody S_one_turn, defScope S_one_turn, [], []⟩
def dd_run : He.DefD := ⟨("run", none), "run", "run", defArgs S_run, defBody S_run, defScope S_run, [], []⟩
def dd_added : He.DefD := ⟨("added", none), "added", "added", defArgs S_added, defBody S_added, defScope S_added, [], []⟩
def dd_walked : He.DefD := ⟨("walked", none), "walked", "walked", defArgs S_walked, defBody S_walked, defScope S_walked, [], []⟩
def dd_counted : He.DefD := ⟨("counted", none), "counted", "counted", defArgs S_counted, defBody S_counted, defScope S_counted, [], []⟩
def dd_comes_round : He.DefD := ⟨("comes_round", none), "comes_round", "comes_round", defArgs S_comes_round, defBody S_comes_round, defScope S_comes_round, [], []⟩
def dd_far : He.DefD := ⟨("far", none), "far", "far", defArgs S_far, defBody S_far, defScope S_far, [], []⟩
def dd_caps : He.DefD := ⟨("caps", none), "caps", "caps", defArgs S_caps, defBody S_caps, defScope S_caps, [], []⟩
def dd_all_wishes : He.DefD := ⟨("all_wishes", none), "all_wishes", "all_wishes", defArgs S_all_wishes, defBody S_all_wishes, defScope S_all_wishes, [], []⟩
def dd_longest : He.DefD := ⟨("longest", none), "longest", "longest", defArgs S_longest, defBody S_longest, defScope S_longest, [], []⟩
def dd_lacks : He.DefD := ⟨("lacks", none), "lacks", "lacks", defArgs S_lacks, defBody S_lacks, defScope S_lacks, [], []⟩
def dd_starving : He.DefD := ⟨("starving", none), "starving", "starving", defArgs S_starving, defBody S_starving, defScope S_starving, [], []⟩
def dd_parting : He.DefD := ⟨("parting", none), "parting", "parting", defArgs S_parting, defBody S_parting, defScope S_parting, [], []⟩
def dd__law_deck : He.DefD := ⟨("_law_deck", none), "_law_deck", "_law_deck", defArgs S__law_deck, defBody S__law_deck, defScope S__law_deck, [], []⟩
def dd__law_pick : He.DefD := ⟨("_law_pick", none), "_law_pick", "_law_pick", defArgs S__law_pick, defBody S__law_pick, defScope S__law_pick, [], []⟩
def dd__law_custom : He.DefD := ⟨("_law_custom", none), "_law_custom", "_law_custom", defArgs S__law_custom, defBody S__law_custom, defScope S__law_custom, [], []⟩
def dd__law_wishes : He.DefD := ⟨("_law_wishes", none), "_law_wishes", "_law_wishes", defArgs S__law_wishes, defBody S__law_wishes, defScope S__law_wishes, [], []⟩
def dd__law_had : He.DefD := ⟨("_law_had", none), "_law_had", "_law_had", defArgs S__law_had, defBody S__law_had, defScope S__law_had, [], []⟩
def dd__law_after : He.DefD := ⟨("_law_after", none), "_law_after", "_law_after", defArgs S__law_after, defBody S__law_after, defScope S__law_after, [], []⟩
def dd__law_all : He.DefD := ⟨("_law_all", none), "_law_all", "_law_all", defArgs S__law_all, defBody S__law_all, defScope S__law_all, [], []⟩
def dd__law_small : He.DefD := ⟨("_law_small", none), "_law_small", "_law_small", defArgs S__law_small, defBody S__law_small, defScope S__law_small, [], []⟩
def dd__law_turned : He.DefD := ⟨("_law_turned", none), "_law_turned", "_law_turned", defArgs S__law_turned, defBody S__law_turned, defScope S__law_turned, [], []⟩
def dd__law_back : He.DefD := ⟨("_law_back", none), "_law_back", "_law_back", defArgs S__law_back, defBody S__law_back, defScope S__law_back, [], []⟩
def dd_law : He.DefD := ⟨("law", none), "law", "law", defArgs S_law, defBody S_law, defScope S_law, [], []⟩
def fnL : List He.DefD := [dd_one_turn, dd_run, dd_added, dd_walked, dd_counted, dd_comes_round, dd_far, dd_caps, dd_all_wishes, dd_longest, dd_lacks, dd_starving, dd_parting, dd__law_deck, dd__law_pick, dd__law_custom, dd__law_wishes, dd__law_had, dd__law_after, dd__law_all, dd__law_small, dd__law_turned, dd__law_back, dd_law]
def faL : List He.Fa := [.glo "one_turn", .glo "run", .glo "added", .glo "walked", .glo "counted", .glo "comes_round", .glo "far", .glo "caps", .glo "all_wishes", .glo "longest", .glo "lacks", .glo "starving", .glo "parting", .glo "_law_deck", .glo "_law_pick", .glo "_law_custom", .glo "_law_wishes", .glo "_law_had", .glo "_law_after", .glo "_law_all", .glo "_law_small", .glo "_law_turned", .glo "_law_back", .glo "law", .free "sorted", .free "enumerate", .free "tuple", .free "max", .free "min", .free "range", .free "len", .free "zip", .free "all", .free "any", .free "isinstance", .free "int", .free "bool", .free "str", .free "list", .free "sum", .free "divmod", .free "dict", .int "MOST_lacks" 2000, .int "MOST_apart" 400]
abbrev RwR : PySem.W.OpenRow := PySem.W.OpenLaw.row PySem.Challenge.rw_tirewish_k10_whole_hands_turned_about
abbrev hkL : PySem.W.Hook := He.hookD 4 faL fnL
def obL (s : PySem.W.SharedT) : He.AlD := He.obsDG 4 faL fnL (HandSHeadRun.getT s)
theorem obL_eq (s : PySem.W.SharedT) : obL s = hkL.obs s.abs := He.obsDG_eq (HandSHeadRun.getT_eq s)
def looseL : List PySem.Str := ["one_turn", "run", "added", "walked", "counted", "comes_round", "far", "caps", "all_wishes", "longest", "lacks", "starving", "parting", "_law_deck", "_law_pick", "_law_custom", "_law_wishes", "_law_had", "_law_after", "_law_all", "_law_small", "_law_turned", "_law_back", "MOST_lacks", "MOST_apart", "WishError", "Unlike", "TooMany"]
def lawAt : Nat := 35
theorem runL (w : World) : HandSHeadRun.RunEq RwR (PySem.W.view RwR.prog [35]) hkL obL 8000 looseL w := by
  intro os
  kernel_rfl
section
variable {P : Program} {w : World} {K : PySem.W.Frag} {h : Heap} {mg : Str → Option Value}
theorem fn_one_turn (X : K.In h) (G : h.Ns mainGlobals mg) (c : He.SaysD faL fnL K) : ∃ f fd, mg "one_turn" = some (.ref f) ∧ Fun K "one_turn" "one_turn" S_one_turn f fd ∧ Binds K fd ["custom", "wishes"] [] := by
  obtain ⟨fd, F⟩ := c.def_ 0 (d := dd_one_turn) rfl
  have F2 : Fun K "one_turn" "one_turn" S_one_turn _ fd := He5.fun_of F
  exact ⟨_, fd, He.glo_ok X G (c.fact 0 (f := .glo "one_turn") rfl), F2, F2.binds (ps := ["custom", "wishes"]) (fun _ _ _ _ _ _ us hl => match us, hl with | [_, _], _ => rfl)⟩
theorem fn_run (X : K.In h) (G : h.Ns mainGlobals mg) (c : He.SaysD faL fnL K) : ∃ f fd, mg "run" = some (.ref f) ∧ Fun K "run" "run" S_run f fd ∧ Binds K fd ["custom", "wishes", "turns"] [] := by
  obtain ⟨fd, F⟩ := c.def_ 1 (d := dd_run) rfl
  have F2 : Fun K "run" "run" S_run _ fd := He5.fun_of F
  exact ⟨_, fd, He.glo_ok X G (c.fact 1 (f := .glo "run") rfl), F2, F2.binds (ps := ["custom", "wishes", "turns"]) (fun _ _ _ _ _ _ us hl => match us, hl with | [_, _, _], _ => rfl)⟩
theorem fn_added (X : K.In h) (G : h.Ns mainGlobals mg) (c : He.SaysD faL fnL K) : ∃ f fd, mg "added" = some (.ref f) ∧ Fun K "added" "added" S_added f fd ∧ Binds K fd ["counts", "had"] [] := by
  obtain ⟨fd, F⟩ := c.def_ 2 (d := dd_added) rfl
  have F2 : Fun K "added" "added" S_added _ fd := He5.fun_of F
  exact ⟨_, fd, He.glo_ok X G (c.fact 2 (f := .glo "added") rfl), F2, F2.binds (ps := ["counts", "had"]) (fun _ _ _ _ _ _ us hl => match us, hl with | [_, _], _ => rfl)⟩
theorem fn_walked (X : K.In h) (G : h.Ns mainGlobals mg) (c : He.SaysD faL fnL K) : ∃ f fd, mg "walked" = some (.ref f) ∧ Fun K "walked" "walked" S_walked f fd ∧ Binds K fd ["custom", "wishes"] [] := by
  obtain ⟨fd, F⟩ := c.def_ 3 (d := dd_walked) rfl
  have F2 : Fun K "walked" "walked" S_walked _ fd := He5.fun_of F
  exact ⟨_, fd, He.glo_ok X G (c.fact 3 (f := .glo "walked") rfl), F2, F2.binds (ps := ["custom", "wishes"]) (fun _ _ _ _ _ _ us hl => match us, hl with | [_, _], _ => rfl)⟩
theorem fn_counted (X : K.In h) (G : h.Ns mainGlobals mg) (c : He.SaysD faL fnL K) : ∃ f fd, mg "counted" = some (.ref f) ∧ Fun K "counted" "counted" S_counted f fd ∧ Binds K fd ["custom", "row"] [] := by
  obtain ⟨fd, F⟩ := c.def_ 4 (d := dd_counted) rfl
  have F2 : Fun K "counted" "counted" S_counted _ fd := He5.fun_of F
  exact ⟨_, fd, He.glo_ok X G (c.fact 4 (f := .glo "counted") rfl), F2, F2.binds (ps := ["custom", "row"]) (fun _ _ _ _ _ _ us hl => match us, hl with | [_, _], _ => rfl)⟩
theorem fn_comes_round (X : K.In h) (G : h.Ns mainGlobals mg) (c : He.SaysD faL fnL K) : ∃ f fd, mg "comes_round" = some (.ref f) ∧ Fun K "comes_round" "comes_round" S_comes_round f fd ∧ Binds K fd ["custom", "wishes"] [] := by
  obtain ⟨fd, F⟩ := c.def_ 5 (d := dd_comes_round) rfl
  have F2 : Fun K "comes_round" "comes_round" S_comes_round _ fd := He5.fun_of F
  exact ⟨_, fd, He.glo_ok X G (c.fact 5 (f := .glo "comes_round") rfl), F2, F2.binds (ps := ["custom", "wishes"]) (fun _ _ _ _ _ _ us hl => match us, hl with | [_, _], _ => rfl)⟩
theorem fn_far (X : K.In h) (G : h.Ns mainGlobals mg) (c : He.SaysD faL fnL K) : ∃ f fd, mg "far" = some (.ref f) ∧ Fun K "far" "far" S_far f fd ∧ Binds K fd ["custom", "wishes", "turns"] [] := by
  obtain ⟨fd, F⟩ := c.def_ 6 (d := dd_far) rfl
  have F2 : Fun K "far" "far" S_far _ fd := He5.fun_of F
  exact ⟨_, fd, He.glo_ok X G (c.fact 6 (f := .glo "far") rfl), F2, F2.binds (ps := ["custom", "wishes", "turns"]) (fun _ _ _ _ _ _ us hl => match us, hl with | [_, _, _], _ => rfl)⟩
theorem fn_caps (X : K.In h) (G : h.Ns mainGlobals mg) (c : He.SaysD faL fnL K) : ∃ f fd, mg "caps" = some (.ref f) ∧ Fun K "caps" "caps" S_caps f fd ∧ Binds K fd ["custom"] [] := by
  obtain ⟨fd, F⟩ := c.def_ 7 (d := dd_caps) rfl
  have F2 : Fun K "caps" "caps" S_caps _ fd := He5.fun_of F
  exact ⟨_, fd, He.glo_ok X G (c.fact 7 (f := .glo "caps") rfl), F2, F2.binds (ps := ["custom"]) (fun _ _ _ _ _ _ us hl => match us, hl with | [_], _ => rfl)⟩
theorem fn_all_wishes (X : K.In h) (G : h.Ns mainGlobals mg) (c : He.SaysD faL fnL K) : ∃ f fd, mg "all_wishes" = some (.ref f) ∧ Fun K "all_wishes" "all_wishes" S_all_wishes f fd ∧ Binds K fd ["custom", "most"] [] := by
  obtain ⟨fd, F⟩ := c.def_ 8 (d := dd_all_wishes) rfl
  have F2 : Fun K "all_wishes" "all_wishes" S_all_wishes _ fd := He5.fun_of F
  exact ⟨_, fd, He.glo_ok X G (c.fact 8 (f := .glo "all_wishes") rfl), F2, F2.binds (ps := ["custom", "most"]) (fun _ _ _ _ _ _ us hl => match us, hl with | [_, _], _ => rfl)⟩
theorem fn_longest (X : K.In h) (G : h.Ns mainGlobals mg) (c : He.SaysD faL fnL K) : ∃ f fd, mg "longest" = some (.ref f) ∧ Fun K "longest" "longest" S_longest f fd ∧ Binds K fd ["row", "hand"] [] := by
  obtain ⟨fd, F⟩ := c.def_ 9 (d := dd_longest) rfl
  have F2 : Fun K "longest" "longest" S_longest _ fd := He5.fun_of F
  exact ⟨_, fd, He.glo_ok X G (c.fact 9 (f := .glo "longest") rfl), F2, F2.binds (ps := ["row", "hand"]) (fun _ _ _ _ _ _ us hl => match us, hl with | [_, _], _ => rfl)⟩
theorem fn_lacks (X : K.In h) (G : h.Ns mainGlobals mg) (c : He.SaysD faL fnL K) : ∃ f fd, mg "lacks" = some (.ref f) ∧ Fun K "lacks" "lacks" S_lacks f fd ∧ Binds K fd ["custom", "wishes"] [] := by
  obtain ⟨fd, F⟩ := c.def_ 10 (d := dd_lacks) rfl
  have F2 : Fun K "lacks" "lacks" S_lacks _ fd := He5.fun_of F
  exact ⟨_, fd, He.glo_ok X G (c.fact 10 (f := .glo "lacks") rfl), F2, F2.binds (ps := ["custom", "wishes"]) (fun _ _ _ _ _ _ us hl => match us, hl with | [_, _], _ => rfl)⟩
theorem fn_starving (X : K.In h) (G : h.Ns mainGlobals mg) (c : He.SaysD faL fnL K) : ∃ f fd, mg "starving" = some (.ref f) ∧ Fun K "starving" "starving" S_starving f fd ∧ Binds K fd ["custom"] [] := by
  obtain ⟨fd, F⟩ := c.def_ 11 (d := dd_starving) rfl
  have F2 : Fun K "starving" "starving" S_starving _ fd := He5.fun_of F
  exact ⟨_, fd, He.glo_ok X G (c.fact 11 (f := .glo "starving") rfl), F2, F2.binds (ps := ["custom"]) (fun _ _ _ _ _ _ us hl => match us, hl with | [_], _ => rfl)⟩
theorem fn_parting (X : K.In h) (G : h.Ns mainGlobals mg) (c : He.SaysD faL fnL K) : ∃ f fd, mg "parting" = some (.ref f) ∧ Fun K "parting" "parting" S_parting f fd ∧ Binds K fd ["one", "other"] [] := by
  obtain ⟨fd, F⟩ := c.def_ 12 (d := dd_parting) rfl
  have F2 : Fun K "parting" "parting" S_parting _ fd := He5.fun_of F
  exact ⟨_, fd, He.glo_ok X G (c.fact 12 (f := .glo "parting") rfl), F2, F2.binds (ps := ["one", "other"]) (fun _ _ _ _ _ _ us hl => match us, hl with | [_, _], _ => rfl)⟩
theorem fn__law_deck (X : K.In h) (G : h.Ns mainGlobals mg) (c : He.SaysD faL fnL K) : ∃ f fd, mg "_law_deck" = some (.ref f) ∧ Fun K "_law_deck" "_law_deck" S__law_deck f fd ∧ Binds K fd ["cell", "turn"] [] := by
  obtain ⟨fd, F⟩ := c.def_ 13 (d := dd__law_deck) rfl
  have F2 : Fun K "_law_deck" "_law_deck" S__law_deck _ fd := He5.fun_of F
  exact ⟨_, fd, He.glo_ok X G (c.fact 13 (f := .glo "_law_deck") rfl), F2, F2.binds (ps := ["cell", "turn"]) (fun _ _ _ _ _ _ us hl => match us, hl with | [_, _], _ => rfl)⟩
theorem fn__law_pick (X : K.In h) (G : h.Ns mainGlobals mg) (c : He.SaysD faL fnL K) : ∃ f fd, mg "_law_pick" = some (.ref f) ∧ Fun K "_law_pick" "_law_pick" S__law_pick f fd ∧ Binds K fd ["deck", "limit"] [] := by
  obtain ⟨fd, F⟩ := c.def_ 14 (d := dd__law_pick) rfl
  have F2 : Fun K "_law_pick" "_law_pick" S__law_pick _ fd := He5.fun_of F
  exact ⟨_, fd, He.glo_ok X G (c.fact 14 (f := .glo "_law_pick") rfl), F2, F2.binds (ps := ["deck", "limit"]) (fun _ _ _ _ _ _ us hl => match us, hl with | [_, _], _ => rfl)⟩
theorem fn__law_custom (X : K.In h) (G : h.Ns mainGlobals mg) (c : He.SaysD faL fnL K) : ∃ f fd, mg "_law_custom" = some (.ref f) ∧ Fun K "_law_custom" "_law_custom" S__law_custom f fd ∧ Binds K fd ["deck", "size", "top"] [] := by
  obtain ⟨fd, F⟩ := c.def_ 15 (d := dd__law_custom) rfl
  have F2 : Fun K "_law_custom" "_law_custom" S__law_custom _ fd := He5.fun_of F
  exact ⟨_, fd, He.glo_ok X G (c.fact 15 (f := .glo "_law_custom") rfl), F2, F2.binds (ps := ["deck", "size", "top"]) (fun _ _ _ _ _ _ us hl => match us, hl with | [_, _, _], _ => rfl)⟩
theorem fn__law_wishes (X : K.In h) (G : h.Ns mainGlobals mg) (c : He.SaysD faL fnL K) : ∃ f fd, mg "_law_wishes" = some (.ref f) ∧ Fun K "_law_wishes" "_law_wishes" S__law_wishes f fd ∧ Binds K fd ["deck", "custom"] [] := by
  obtain ⟨fd, F⟩ := c.def_ 16 (d := dd__law_wishes) rfl
  have F2 : Fun K "_law_wishes" "_law_wishes" S__law_wishes _ fd := He5.fun_of F
  exact ⟨_, fd, He.glo_ok X G (c.fact 16 (f := .glo "_law_wishes") rfl), F2, F2.binds (ps := ["deck", "custom"]) (fun _ _ _ _ _ _ us hl => match us, hl with | [_, _], _ => rfl)⟩
theorem fn__law_had (X : K.In h) (G : h.Ns mainGlobals mg) (c : He.SaysD faL fnL K) : ∃ f fd, mg "_law_had" = some (.ref f) ∧ Fun K "_law_had" "_law_had" S__law_had f fd ∧ Binds K fd ["custom", "wishes"] [] := by
  obtain ⟨fd, F⟩ := c.def_ 17 (d := dd__law_had) rfl
  have F2 : Fun K "_law_had" "_law_had" S__law_had _ fd := He5.fun_of F
  exact ⟨_, fd, He.glo_ok X G (c.fact 17 (f := .glo "_law_had") rfl), F2, F2.binds (ps := ["custom", "wishes"]) (fun _ _ _ _ _ _ us hl => match us, hl with | [_, _], _ => rfl)⟩
theorem fn__law_after (X : K.In h) (G : h.Ns mainGlobals mg) (c : He.SaysD faL fnL K) : ∃ f fd, mg "_law_after" = some (.ref f) ∧ Fun K "_law_after" "_law_after" S__law_after f fd ∧ Binds K fd ["custom", "wishes"] [] := by
  obtain ⟨fd, F⟩ := c.def_ 18 (d := dd__law_after) rfl
  have F2 : Fun K "_law_after" "_law_after" S__law_after _ fd := He5.fun_of F
  exact ⟨_, fd, He.glo_ok X G (c.fact 18 (f := .glo "_law_after") rfl), F2, F2.binds (ps := ["custom", "wishes"]) (fun _ _ _ _ _ _ us hl => match us, hl with | [_, _], _ => rfl)⟩
theorem fn__law_all (X : K.In h) (G : h.Ns mainGlobals mg) (c : He.SaysD faL fnL K) : ∃ f fd, mg "_law_all" = some (.ref f) ∧ Fun K "_law_all" "_law_all" S__law_all f fd ∧ Binds K fd ["custom"] [] := by
  obtain ⟨fd, F⟩ := c.def_ 19 (d := dd__law_all) rfl
  have F2 : Fun K "_law_all" "_law_all" S__law_all _ fd := He5.fun_of F
  exact ⟨_, fd, He.glo_ok X G (c.fact 19 (f := .glo "_law_all") rfl), F2, F2.binds (ps := ["custom"]) (fun _ _ _ _ _ _ us hl => match us, hl with | [_], _ => rfl)⟩
theorem fn__law_small (X : K.In h) (G : h.Ns mainGlobals mg) (c : He.SaysD faL fnL K) : ∃ f fd, mg "_law_small" = some (.ref f) ∧ Fun K "_law_small" "_law_small" S__law_small f fd ∧ Binds K fd ["deck", "top"] [] := by
  obtain ⟨fd, F⟩ := c.def_ 20 (d := dd__law_small) rfl
  have F2 : Fun K "_law_small" "_law_small" S__law_small _ fd := He5.fun_of F
  exact ⟨_, fd, He.glo_ok X G (c.fact 20 (f := .glo "_law_small") rfl), F2, F2.binds (ps := ["deck", "top"]) (fun _ _ _ _ _ _ us hl => match us, hl with | [_, _], _ => rfl)⟩
theorem fn__law_turned (X : K.In h) (G : h.Ns mainGlobals mg) (c : He.SaysD faL fnL K) : ∃ f fd, mg "_law_turned" = some (.ref f) ∧ Fun K "_law_turned" "_law_turned" S__law_turned f fd ∧ Binds K fd ["custom"] [] := by
  obtain ⟨fd, F⟩ := c.def_ 21 (d := dd__law_turned) rfl
  have F2 : Fun K "_law_turned" "_law_turned" S__law_turned _ fd := He5.fun_of F
  exact ⟨_, fd, He.glo_ok X G (c.fact 21 (f := .glo "_law_turned") rfl), F2, F2.binds (ps := ["custom"]) (fun _ _ _ _ _ _ us hl => match us, hl with | [_], _ => rfl)⟩
theorem fn__law_back (X : K.In h) (G : h.Ns mainGlobals mg) (c : He.SaysD faL fnL K) : ∃ f fd, mg "_law_back" = some (.ref f) ∧ Fun K "_law_back" "_law_back" S__law_back f fd ∧ Binds K fd ["custom", "had"] [] := by
  obtain ⟨fd, F⟩ := c.def_ 22 (d := dd__law_back) rfl
  have F2 : Fun K "_law_back" "_law_back" S__law_back _ fd := He5.fun_of F
  exact ⟨_, fd, He.glo_ok X G (c.fact 22 (f := .glo "_law_back") rfl), F2, F2.binds (ps := ["custom", "had"]) (fun _ _ _ _ _ _ us hl => match us, hl with | [_, _], _ => rfl)⟩
theorem fn_law (X : K.In h) (G : h.Ns mainGlobals mg) (c : He.SaysD faL fnL K) : ∃ f fd, mg "law" = some (.ref f) ∧ Fun K "law" "law" S_law f fd ∧ Binds K fd ["script"] [] := by
  obtain ⟨fd, F⟩ := c.def_ 23 (d := dd_law) rfl
  have F2 : Fun K "law" "law" S_law _ fd := He5.fun_of F
  exact ⟨_, fd, He.glo_ok X G (c.fact 23 (f := .glo "law") rfl), F2, F2.binds (ps := ["script"]) (fun _ _ _ _ _ _ us hl => match us, hl with | [_], _ => rfl)⟩
theorem bn_of (X : K.In h) (G : h.Ns mainGlobals mg) (c : He.SaysD faL fnL K) : Bn mg := ⟨He.free_ok X G (c.fact 24 (f := .free "sorted") rfl), He.free_ok X G (c.fact 25 (f := .free "enumerate") rfl), He.free_ok X G (c.fact 26 (f := .free "tuple") rfl), He.free_ok X G (c.fact 27 (f := .free "max") rfl), He.free_ok X G (c.fact 28 (f := .free "min") rfl), He.free_ok X G (c.fact 29 (f := .free "range") rfl), He.free_ok X G (c.fact 30 (f := .free "len") rfl), He.free_ok X G (c.fact 31 (f := .free "zip") rfl), He.free_ok X G (c.fact 32 (f := .free "all") rfl), He.free_ok X G (c.fact 33 (f := .free "any") rfl), He.free_ok X G (c.fact 34 (f := .free "isinstance") rfl), He.free_ok X G (c.fact 35 (f := .free "int") rfl), He.free_ok X G (c.fact 36 (f := .free "bool") rfl), He.free_ok X G (c.fact 37 (f := .free "str") rfl), He.free_ok X G (c.fact 38 (f := .free "list") rfl), He.free_ok X G (c.fact 39 (f := .free "sum") rfl), He.free_ok X G (c.fact 40 (f := .free "divmod") rfl), He.free_ok X G (c.fact 41 (f := .free "dict") rfl)⟩
theorem mo_MOST_lacks (X : K.In h) (G : h.Ns mainGlobals mg) (c : He.SaysD faL fnL K) : ∃ t, mg "MOST_lacks" = some (.int 2000 t) := He.int_ok X G (c.fact 42 (f := .int "MOST_lacks" 2000) rfl)
theorem mo_MOST_apart (X : K.In h) (G : h.Ns mainGlobals mg) (c : He.SaysD faL fnL K) : ∃ t, mg "MOST_apart" = some (.int 400 t) := He.int_ok X G (c.fact 43 (f := .int "MOST_apart" 400) rfl)
end

theorem law_all {P : Program} {w : World} {K : PySem.W.Frag} {mg mb : Str → Option Value} {fa a : Addr} {s1 : Shared} {vs : List Value} {ns : List Int} (KX : K.In s1.heap) (hns : s1.heap.Ns mainGlobals mg) (hb : s1.heap.Ns builtinsNs mb) (hbb : ∀ y : Str, y ≠ "__name__" → mb y = bootBuiltins y) (hlim : s1.heap.NoLimit) (hg : s1.gens = #[])
    (ha : s1.heap.get? a = some { cls := .type "list", data := .seq vs.toArray }) (hi : IntsAre vs ns) (hl : ns.length ≤ 63) (c : He.SaysD faL fnL K) (hmg : mg "law" = some (.ref fa)) :
    codeAny (model P w) callerA (.call (.ref fa) ⟨[.ref a], []⟩) (fun r s' => r = .ok (.ret (.bool true)) ∧ OldK s1.heap s'.heap ∧ s'.os = s1.os ∧ AllBare s'.gens) s1 := by
  have B := bn_of KX hns c
  obtain ⟨f1, fd1, m1, F1, b1⟩ := fn_one_turn KX hns c
  obtain ⟨f2, fd2, m2, F2, b2⟩ := fn_run KX hns c
  obtain ⟨f3, fd3, m3, F3, b3⟩ := fn_added KX hns c
  obtain ⟨f4, fd4, m4, F4, b4⟩ := fn_walked KX hns c
  obtain ⟨f5, fd5, m5, F5, b5⟩ := fn_counted KX hns c
  obtain ⟨f6, fd6, m6, F6, b6⟩ := fn_comes_round KX hns c
  obtain ⟨f7, fd7, m7, F7, b7⟩ := fn_far KX hns c
  obtain ⟨f8, fd8, m8, F8, b8⟩ := fn_caps KX hns c
  obtain ⟨f9, fd9, m9, F9, b9⟩ := fn_all_wishes KX hns c
  obtain ⟨f10, fd10, m10, F10, b10⟩ := fn_longest KX hns c
  obtain ⟨f11, fd11, m11, F11, b11⟩ := fn_lacks KX hns c
  obtain ⟨f12, fd12, m12, F12, b12⟩ := fn_starving KX hns c
  obtain ⟨f13, fd13, m13, F13, b13⟩ := fn_parting KX hns c
  obtain ⟨f14, fd14, m14, F14, b14⟩ := fn__law_deck KX hns c
  obtain ⟨f15, fd15, m15, F15, b15⟩ := fn__law_pick KX hns c
  obtain ⟨f16, fd16, m16, F16, b16⟩ := fn__law_custom KX hns c
  obtain ⟨f17, fd17, m17, F17, b17⟩ := fn__law_wishes KX hns c
  obtain ⟨f18, fd18, m18, F18, b18⟩ := fn__law_had KX hns c
  obtain ⟨f19, fd19, m19, F19, b19⟩ := fn__law_after KX hns c
  obtain ⟨f20, fd20, m20, F20, b20⟩ := fn__law_all KX hns c
  obtain ⟨f21, fd21, m21, F21, b21⟩ := fn__law_small KX hns c
  obtain ⟨f22, fd22, m22, F22, b22⟩ := fn__law_turned KX hns c
  obtain ⟨f23, fd23, m23, F23, b23⟩ := fn__law_back KX hns c
  obtain ⟨f24, fd24, m24, F24, b24⟩ := fn_law KX hns c
  have e : f24 = fa := by
    have z := m24.symm.trans hmg
    cases z; rfl
  subst e
  have hroom : Room (3 + 1) callerA := ⟨rfl, by decide, by decide⟩
  refine law_run (k := 3) KX hns hb hbb hlim hg ha hi (Nat.le_trans hl (by decide)) hroom F24 scLaw b24 fun base cdv s H E hr hS => ?_
  have M20 := mo_MOST_lacks KX hns c
  have M4 := mo_MOST_apart KX hns c
  have G1 : Cal P w K mg base 1 "one_turn" 2 (spP prOne) := cal_mk F1 m1 b1 (ok_one_turn F1 B)
  have G2 : Cal P w K mg base 2 "run" 3 (spP prRun) := cal_mk F2 m2 b2 (ok_run F2 B G1)
  have G3 : Cal P w K mg base 1 "added" 2 (spP prAdd) := cal_mk F3 m3 b3 (ok_added F3 B)
  have G4 : Cal P w K mg base 2 "walked" 2 (spWalk) := cal_mk F4 m4 b4 (ok_walked F4 B G1)
  have G5 : Cal P w K mg base 2 "counted" 2 (spP prCnt) := cal_mk F5 m5 b5 (ok_counted F5 B G3)
  have G6 : Cal P w K mg base 3 "comes_round" 2 (spP prCr) := cal_mk F6 m6 b6 (ok_comes_round F6 B G4 G5)
  have G7 : Cal P w K mg base 3 "far" 3 (spP prFar) := cal_mk F7 m7 b7 (ok_far F7 B G4 G5)
  have G8 : Cal P w K mg base 1 "caps" 1 (spP prCaps) := cal_mk F8 m8 b8 (ok_caps F8 B)
  have G9 : Cal P w K mg base 2 "all_wishes" 2 (spP prAll) := cal_mk F9 m9 b9 (ok_all_wishes F9 B G8)
  have G10 : Cal P w K mg base 1 "longest" 2 (spP prLong) := cal_mk F10 m10 b10 (ok_longest F10 B)
  have G11 : Cal P w K mg base 3 "lacks" 2 (spP prLacks) := cal_mk F11 m11 b11 (ok_lacks F11 B G4 G10)
  have G12 : Cal P w K mg base 3 "starving" 1 (spP prSt) := cal_mk F12 m12 b12 (ok_starving F12 B M20 G9 G4)
  have G13 : Cal P w K mg base 3 "parting" 2 (spP prPart) := cal_mk F13 m13 b13 (ok_parting F13 B M4 G8 G9 G1)
  have G14 : Cal P w K mg base 1 "_law_deck" 2 (spDeck) := cal_mk F14 m14 b14 (ok__law_deck F14 )
  have G15 : Cal P w K mg base 1 "_law_pick" 2 (spK 1 prePick prPick) := cal_mk F15 m15 b15 (ok__law_pick F15 )
  have G16 : Cal P w K mg base 2 "_law_custom" 3 (spK 40 preCus prCus) := cal_mk F16 m16 b16 (ok__law_custom F16 B G15)
  have G17 : Cal P w K mg base 2 "_law_wishes" 2 (spK 4 preLwi prLwi) := cal_mk F17 m17 b17 (ok__law_wishes F17 B G15)
  have G21 : Cal P w K mg base 3 "_law_small" 2 (spK 40 preSm prSm) := cal_mk F21 m21 b21 (ok__law_small F21 B G16)
  have G22 : Cal P w K mg base 1 "_law_turned" 1 (spP prTurned) := cal_mk F22 m22 b22 (ok__law_turned F22 B)
  have G23 : Cal P w K mg base 1 "_law_back" 2 (spP prBack) := cal_mk F23 m23 b23 (ok__law_back F23 B)
  exact law_body hl B G2 G6 G7 G11 G12 G13 G14 G15 G16 G17 G21 G22 G23 cdv s H E hr hS
end Tw
open PySem PySem.W PySem.Calls PyProof.Rows
theorem PySem.Challenge.cw_tirewish_k10_whole_hands_turned_about_holds : PySem.Challenge.rw_tirewish_k10_whole_hands_turned_about.Holds := by
  w_on; o_law
  refine HandSHeadRun.head_any (r := OpenLaw.row PySem.Challenge.rw_tirewish_k10_whole_hands_turned_about) (q := view (OpenLaw.row PySem.Challenge.rw_tirewish_k10_whole_hands_turned_about).prog [Tw.lawAt]) (H := Tw.hkL) (ob := Tw.obL) (M := 8000) (loose := Tw.looseL) (d := HandSHeadRun.topDef (OpenLaw.row PySem.Challenge.rw_tirewish_k10_whole_hands_turned_about).prog Tw.lawAt) (kwd := []) Tw.obL_eq
    (by kernel_rfl) (fun s => by kernel_rfl) Tw.runL (by kernel_rfl) (by kernel_rfl) (by kernel_rfl) (by rfl) (by first | assumption | decide +kernel) (by decide +kernel) ⟨rfl, rfl, rfl, rfl, rfl, by decide +kernel⟩ ?hw ?hc
  case hw => w_witness2
  case hc =>
    refine Att.attach_call (l := PySem.Challenge.rw_tirewish_k10_whole_hands_turned_about) (n := 63) rfl (by kernel_rfl) fun w s₀ s₁ mg mb fa o pm cd doc a vs ns G Y ho hd hcd hmg0 hobj hints hlen hg => ?_
    obtain ⟨K, KX, c⟩ := Y
    have hmg : mg ("law" : PySem.Str) = some (.ref fa) := by
      have e : (HandSHeadRun.topDef (OpenLaw.row PySem.Challenge.rw_tirewish_k10_whole_hands_turned_about).prog Tw.lawAt).name = ("law" : PySem.Str) := by kernel_rfl
      rw [← e]
      exact hmg0
    exact Tw.law_all KX G.T.g G.T.b G.T.builtins G.T.nolimit hg hobj hints hlen c hmg

