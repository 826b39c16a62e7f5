import PyProof.Rows.All
import Wide.All
import OpenK.AllK
import Wide.FinOn
import HandS.ForMost
import HandS.Lambda
import HandS.SortRule
import HandS.TupAny
import HandS.Zip
import HandS.IsInst
import HandS.Deep
import KE.GoesEnum
import HandS.Wide
import HandS.Ends
import HandS.TupLe
import HandS.TupMul
import KE.KTupSum
import HandS.DictTup
import HandS.Iter
import KE.DataFind
import HandS.Style
import KE.KRevSl
import HandS.Hot
import HandS.HotCalls
import PyProof.ZipIter
import HandS.ExcCtx
import HandS.ExcIs
import KE.KExcIs
import HandS.ExcField
import HandS.ExcInit
import HandS.ExcInitHot
import HandS.EndTab
import HandS.HeadHook4
import HandS.HeadNt
import HandS.Head0
import HandS.Head1
import HandS.Head2
import HandS.HeadEnd
import HandS.HeadHook1
import HandS.HeadHook2
import PySem.Challenge.RW_tirewish_k04_whole_nobody_lacks_longer
set_option Elab.async false
set_option linter.all false
set_option maxRecDepth 100000
set_option maxHeartbeats 20000000
namespace Tw
/-- the qualified name of the lambdas that the law's maker makes -/
def tnQ : PySem.Str := "law.<locals>.<lambda>"
end Tw

/-! Tw: expressions and statements read over data (PyData), not over addresses. -/
namespace Tw
open PySem PySem.Spec PyProof.Rows L2

/-! ## data in a heap of things that stand still -/
mutual
inductive Rp (F : Hp) : V → PyData → Prop
  | non : Rp F .non .none
  | bl (b : Bool) : Rp F (.bl b) (.bool b)
  | int (i : Int) : Rp F (.int i) (.int i)
  | str (x : Str) : Rp F (.str x) (.str x)
  | lst {a : Addr} {xs : List V} {ds : List PyData} : F a = some (.lst xs) → RpA F xs ds → Rp F (.ref a) (.list ds)
  | tup {a : Addr} {xs : List V} {ds : List PyData} : F a = some (.tup xs) → RpA F xs ds → Rp F (.ref a) (.tuple ds)
inductive RpA (F : Hp) : List V → List PyData → Prop
  | nil : RpA F [] []
  | cons {v : V} {vs : List V} {d : PyData} {ds : List PyData} : Rp F v d → RpA F vs ds → RpA F (v :: vs) (d :: ds)
end

mutual
theorem Rp.mono {F F' : Hp} (e : Same F F') : ∀ {v : V} {d : PyData}, Rp F v d → Rp F' v d
  | _, _, .non => .non
  | _, _, .bl b => .bl b
  | _, _, .int i => .int i
  | _, _, .str x => .str x
  | _, _, .lst h r => .lst (e _ _ h) (RpA.mono e r)
  | _, _, .tup h r => .tup (e _ _ h) (RpA.mono e r)
theorem RpA.mono {F F' : Hp} (e : Same F F') : ∀ {vs : List V} {ds : List PyData}, RpA F vs ds → RpA F' vs ds
  | _, _, .nil => .nil
  | _, _, .cons r t => .cons (Rp.mono e r) (RpA.mono e t)
end
mutual
theorem Rp.dp {K : PySem.W.Frag} {F H : Hp} (e : Same F H) : ∀ {v : V} {d : PyData}, Rp F v d → Dp K H v d
  | _, _, .non => .non
  | _, _, .bl b => .bl b
  | _, _, .int i => .int i
  | _, _, .str x => .str x
  | _, _, .lst h r => .lst (SqL.of (e _ _ h)) (RpA.dp e r)
  | _, _, .tup h r => .tup (SqT.of (e _ _ h)) (RpA.dp e r)
theorem RpA.dp {K : PySem.W.Frag} {F H : Hp} (e : Same F H) : ∀ {vs : List V} {ds : List PyData}, RpA F vs ds → DpAll K H vs ds
  | _, _, .nil => .nil
  | _, _, .cons r t => .cons (Rp.dp e r) (RpA.dp e t)
end
section
variable {F : Hp} {xs ys : List V} {ds es : List PyData}
theorem RpA.len (h : RpA F xs ds) : xs.length = ds.length := by
  induction ds generalizing xs with
  | nil => cases h; rfl
  | cons d ds ih => cases h with | cons r t => simp [ih t]
theorem RpA.get {i : Nat} {d : PyData} (h : RpA F xs ds) (e : ds[i]? = some d) : ∃ v, xs[i]? = some v ∧ Rp F v d := by
  induction ds generalizing xs i with
  | nil => simp at e
  | cons d0 ds ih =>
    cases h with
    | cons r t =>
      cases i with
      | zero => simp at e; subst e; exact ⟨_, rfl, r⟩
      | succ i => simp at e; obtain ⟨v, h1, h2⟩ := ih t e; exact ⟨v, by simpa using h1, h2⟩
theorem RpA.get' {i : Nat} {v : V} (h : RpA F xs ds) (e : xs[i]? = some v) : ∃ d, ds[i]? = some d ∧ Rp F v d := by
  have hl := h.len
  have hi : i < ds.length := by
    have := (List.getElem?_eq_some_iff.mp e).1
    omega
  obtain ⟨v', h1, h2⟩ := h.get (List.getElem?_eq_getElem hi)
  rw [e] at h1; cases h1
  exact ⟨_, List.getElem?_eq_getElem hi, h2⟩
theorem RpA.append (h : RpA F xs ds) (h' : RpA F ys es) : RpA F (xs ++ ys) (ds ++ es) := by
  induction ds generalizing xs with
  | nil => cases h; exact h'
  | cons d ds ih => cases h with | cons r t => exact .cons r (ih t)
theorem RpA.take (n : Nat) (h : RpA F xs ds) : RpA F (xs.take n) (ds.take n) := by
  induction ds generalizing xs n with
  | nil => cases h; simp; exact .nil
  | cons d ds ih =>
    cases h with
    | cons r t =>
      cases n with
      | zero => exact .nil
      | succ n => exact .cons r (ih n t)
theorem RpA.drop (n : Nat) (h : RpA F xs ds) : RpA F (xs.drop n) (ds.drop n) := by
  induction ds generalizing xs n with
  | nil => cases h; simp; exact .nil
  | cons d ds ih =>
    cases h with
    | cons r t =>
      cases n with
      | zero => exact .cons r t
      | succ n => exact ih n t
theorem RpA.set (n : Nat) {v : V} {d : PyData} (h : RpA F xs ds) (r : Rp F v d) : RpA F (xs.set n v) (ds.set n d) := by
  induction ds generalizing xs n with
  | nil => cases h; simp; exact .nil
  | cons d0 ds ih =>
    cases h with
    | cons r0 t =>
      cases n with
      | zero => exact .cons r t
      | succ n => exact .cons r0 (ih n t)
theorem RpA.reverse (h : RpA F xs ds) : RpA F xs.reverse ds.reverse := by
  induction ds generalizing xs with
  | nil => cases h; exact .nil
  | cons d ds ih => cases h with | cons r t => simp only [List.reverse_cons]; exact (ih t).append (.cons r .nil)
theorem RpA.rep (n : Nat) (h : RpA F xs ds) : RpA F (List.replicate n xs).flatten (List.replicate n ds).flatten := by
  induction n with
  | zero => exact .nil
  | succ n ih => simp only [List.replicate_succ, List.flatten_cons]; exact h.append ih
theorem RpA.ints : ∀ {ns : List Int} {xs : List V}, RpA F xs (ns.map .int) → xs = ns.map V.int
  | [], _, .nil => rfl
  | n :: ns, _, .cons r t => by cases r; simp [RpA.ints t]
theorem RpA.of_ints : ∀ ns : List Int, RpA F (ns.map V.int) (ns.map .int)
  | [] => .nil
  | n :: ns => .cons (.int n) (RpA.of_ints ns)
theorem RpA.bools : ∀ {bs : List Bool} {xs : List V}, RpA F xs (bs.map .bool) → xs = bs.map V.bl
  | [], _, .nil => rfl
  | n :: ns, _, .cons r t => by cases r; simp [RpA.bools t]
theorem Rp.tup_inv {v : V} (h : Rp F v (.tuple ds)) : ∃ a xs, v = .ref a ∧ F a = some (.tup xs) ∧ RpA F xs ds := by
  cases h with | tup h r => exact ⟨_, _, rfl, h, r⟩
theorem Rp.lst_inv {v : V} (h : Rp F v (.list ds)) : ∃ a xs, v = .ref a ∧ F a = some (.lst xs) ∧ RpA F xs ds := by
  cases h with | lst h r => exact ⟨_, _, rfl, h, r⟩
theorem Rp.int_inv {v : V} {i : Int} (h : Rp F v (.int i)) : v = .int i := by cases h; rfl
theorem Rp.bl_inv {v : V} {b : Bool} (h : Rp F v (.bool b)) : v = .bl b := by cases h; rfl
theorem Rp.str_inv {v : V} {b : Str} (h : Rp F v (.str b)) : v = .str b := by cases h; rfl
theorem Rp.non_inv {v : V} (h : Rp F v .none) : v = .non := by cases h; rfl
end

/-! ## how heaps grow: F what stands still, H all; things at ex may change -/
/-- no tuple, no table of codes -/
def plB : HO → Bool
  | .tup _ => false
  | .tbl _ => false
  | _ => true
/-- no table of codes -/
def ntB : HO → Bool
  | .tbl _ => false
  | _ => true
theorem plB_nt {o : HO} (h : plB o = true) : ntB o = true := by cases o <;> first | rfl | exact h
theorem plB_tup {o : HO} (h : plB o = true) (xs : List V) : o ≠ .tup xs := fun z => by subst z; cases h
theorem ntB_tbl {o : HO} (h : ntB o = true) (ps : Array Value) : o ≠ .tbl ps := fun z => by subst z; cases h
/-- something that is no tuple and no table stands at a -/
def NN (H : Hp) (a : Addr) : Prop := ∃ o, H a = some o ∧ plB o = true
theorem NN.ne {H : Hp} {a : Addr} (h : NN H a) : H a ≠ none := by obtain ⟨o, h, _⟩ := h; rw [h]; simp
theorem NN.lst {H : Hp} {a : Addr} {xs : List V} (h : H a = some (.lst xs)) : NN H a := ⟨_, h, rfl⟩
theorem NN.upd {H : Hp} {a p : Addr} {o : HO} (h : NN H a) (ho : plB o = true) : NN (upd H p o) a := by
  by_cases hb : a = p
  · subst hb; exact ⟨o, upd_same, ho⟩
  · obtain ⟨u, h1, h2⟩ := h
    exact ⟨u, by rw [upd_ne hb]; exact h1, h2⟩
theorem NN.new {H : Hp} {a p : Addr} {o : HO} (h : NN H a) (hp : H p = none) : NN (L2.upd H p o) a := by
  have hb : a ≠ p := fun z => by subst z; exact h.ne hp
  obtain ⟨u, h1, h2⟩ := h
  exact ⟨u, by rw [upd_ne hb]; exact h1, h2⟩
/-- a table of codes: the codes in it stand still, and bear the maker's name -/
def TabF (F H : Hp) (P : Addr) : Prop := F P = none ∧ ∃ ps : Array Value, H P = some (.tbl ps) ∧ TriplesOk ps.toList ∧ ∀ (pos : Pos) (cv : Value), codeAmong pos ps.toList = some cv → ∃ c, cv = .ref c ∧ F c = some (LamX.CodeO c tnQ)
section
variable {F H F2 H2 : Hp} {P p : Addr} {o : HO}
theorem TabF.to (t : TabF F H P) (sF : Same F F2) (hF : F2 P = none) (hH : H2 P = H P) : TabF F2 H2 P := by
  obtain ⟨_, ps, h1, h2, h3⟩ := t
  exact ⟨hF, ps, hH.trans h1, h2, fun pos cv e => let ⟨c, e1, e2⟩ := h3 pos cv e; ⟨c, e1, sF _ _ e2⟩⟩
theorem TabF.is (t : TabF F H P) : ∃ ps, H P = some (.tbl ps) := let ⟨_, ps, h1, _⟩ := t; ⟨ps, h1⟩
/-- another thing is written -/
theorem TabF.upd (t : TabF F H P) (hp : ∀ ps, H p ≠ some (.tbl ps)) : TabF F (L2.upd H p o) P := by
  have hb : P ≠ p := fun z => by obtain ⟨ps, h⟩ := t.is; subst z; exact hp ps h
  exact t.to (Same.refl _) t.1 (upd_ne hb)
/-- another thing is told -/
theorem TabF.updF (t : TabF F H P) (hf : F p = none) (hp : ∀ ps, H p ≠ some (.tbl ps)) : TabF (L2.upd F p o) H P := by
  have hb : P ≠ p := fun z => by obtain ⟨ps, h⟩ := t.is; subst z; exact hp ps h
  exact t.to (fun b u q => by rw [upd_ne (ne_of_none q hf)]; exact q) (by rw [upd_ne hb]; exact t.1) rfl
theorem TabF.upd2 (t : TabF F H P) (hf : F p = none) (hp : ∀ ps, H p ≠ some (.tbl ps)) : TabF (L2.upd F p o) (L2.upd H p o) P := by
  have hb : P ≠ p := fun z => by obtain ⟨ps, h⟩ := t.is; subst z; exact hp ps h
  exact t.to (fun b u q => by rw [upd_ne (ne_of_none q hf)]; exact q) (by rw [upd_ne hb]; exact t.1) (upd_ne hb)
theorem tbl_none (hp : H p = none) : ∀ ps, H p ≠ some (.tbl ps) := fun ps z => by rw [hp] at z; cases z
theorem tbl_nt (hp : H p = some o) (ho : ntB o = true) : ∀ ps, H p ≠ some (.tbl ps) := fun ps z => by rw [hp] at z; cases z; cases ho
end
structure GrowX (ex : List Addr) (F H F2 H2 : Hp) : Prop where
  f : Same F F2
  s : Same F2 H2
  h : ∀ a o, a ∉ ex → H a = some o → ntB o = true → H2 a = some o
  k : ∀ a, H a ≠ none → H2 a ≠ none
  n : ∀ a, F a = none → NN H a → F2 a = none
  m : ∀ a, NN H a → NN H2 a
  t : ∀ P, TabF F H P → TabF F2 H2 P
abbrev Grow := GrowX []
section
variable {ex : List Addr} {F H F2 H2 F3 H3 : Hp} {p : Addr} {o : HO}
theorem same_none (e : Same F H) {a : Addr} (h : H a = none) : F a = none := e.free h
theorem GrowX.refl (e : Same F H) : GrowX ex F H F H := ⟨Same.refl _, e, fun _ _ _ h _ => h, fun _ h => h, fun _ h _ => h, fun _ h => h, fun _ h => h⟩
theorem GrowX.trans (a : GrowX ex F H F2 H2) (b : GrowX ex F2 H2 F3 H3) : GrowX ex F H F3 H3 :=
  ⟨a.f.trans b.f, b.s, fun c o hx h i => b.h c o hx (a.h c o hx h i) i, fun c h => b.k c (a.k c h), fun c h1 h2 => b.n c (a.n c h1 h2) (a.m c h2), fun c h => b.m c (a.m c h), fun c h => b.t c (a.t c h)⟩
theorem GrowX.up (g : Grow F H F2 H2) : GrowX ex F H F2 H2 := ⟨g.f, g.s, fun c o _ h i => g.h c o (List.not_mem_nil) h i, g.k, g.n, g.m, g.t⟩
theorem GrowX.same (g : Grow F H F2 H2) : ∀ c o, H c = some o → ntB o = true → H2 c = some o := fun c o h i => g.h c o List.not_mem_nil h i
theorem Same.upd_new (hp : H p = none) : Same H (upd H p o) := fun b u q => by rw [upd_ne (ne_of_none q hp)]; exact q
theorem Same.upd2 (e : Same F H) : Same (upd F p o) (upd H p o) := fun b u q => by
  by_cases hb : b = p
  · subst hb; rw [upd_same] at q ⊢; exact q
  · rw [upd_ne hb] at q ⊢; exact e b u q
theorem Grow.new (e : Same F H) (hp : H p = none) : Grow F H (upd F p o) (upd H p o) :=
  ⟨Same.upd_new (same_none e hp), Same.upd2 e, fun c u _ h _ => Same.upd_new hp c u h, fun c h => by
    by_cases hc : c = p
    · subst hc; rw [upd_same]; simp
    · rw [upd_ne hc]; exact h, fun c h1 h2 => by
    have hc : c ≠ p := fun z => by subst z; exact h2.ne hp
    rw [upd_ne hc]; exact h1, fun c h => h.new hp, fun c t => t.upd2 (same_none e hp) (tbl_none hp)⟩
/-- a new thing that is not told as still -/
theorem Grow.skip (e : Same F H) (hp : H p = none) : Grow F H F (upd H p o) :=
  ⟨Same.refl _, e.trans (Same.upd_new hp), fun c u _ h _ => Same.upd_new hp c u h, fun c h => by
    by_cases hc : c = p
    · subst hc; rw [upd_same]; simp
    · rw [upd_ne hc]; exact h, fun c h1 _ => h1, fun c h => h.new hp, fun c t => t.upd (tbl_none hp)⟩
end

/-! ## what is known of the slots -/
/-- what a changing thing is like -/
structure Ow where
  φ : Hp → HO → Prop
  mono : ∀ {F F' : Hp} {o : HO}, Same F F' → φ F o → φ F' o
  nt : ∀ {F : Hp} {o : HO}, φ F o → plB o = true
def Ow.lst (ds : List PyData) : Ow := ⟨fun F o => ∃ xs, o = .lst xs ∧ RpA F xs ds, fun e ⟨xs, h, r⟩ => ⟨xs, h, r.mono e⟩, fun ⟨xs, h, r⟩ => by rw [h]; rfl⟩
inductive Ent where
  /-- nothing is told -/
  | no
  /-- data that stand still -/
  | dat (d : PyData)
  /-- just this value -/
  | val (v : V)
  /-- a thing of this def's own, which may change -/
  | own (p : Addr) (w : Ow)
  /-- a thing that stands still, as it stands -/
  | fx (p : Addr) (u : HO)
  /-- a thing that stands still, and what it is like -/
  | st (p : Addr) (w : Ow)
abbrev Env' := List Ent
def EntOk (F H : Hp) : Ent → Option V → Prop
  | .no, _ => True
  | .dat d, o => ∃ v, o = some v ∧ Rp F v d
  | .val v, o => o = some v
  | .own p w, o => o = some (.ref p) ∧ F p = none ∧ ∃ ho, H p = some ho ∧ w.φ F ho
  | .fx p u, o => o = some (.ref p) ∧ F p = some u
  | .st p w, o => o = some (.ref p) ∧ ∃ u, F p = some u ∧ w.φ F u
structure Ok (F H : Hp) (ρ : Env') (σ : L2.St) : Prop where
  s : Same F H
  len : σ.length = ρ.length
  at_ : ∀ (i : Nat) (e : Ent), ρ[i]? = some e → ∃ o, σ[i]? = some o ∧ EntOk F H e o
  ne : ∀ (i j : Nat) (p q : Addr) (w w' : Ow), ρ[i]? = some (.own p w) → ρ[j]? = some (.own q w') → i ≠ j → p ≠ q
section
variable {F H F2 H2 : Hp} {ρ : Env'} {σ : L2.St}
theorem EntOk.grow {e : Ent} {o : Option V} (h : EntOk F H e o) (g : Grow F H F2 H2) : EntOk F2 H2 e o := by
  cases e with
  | no => trivial
  | dat d => obtain ⟨v, e, r⟩ := h; exact ⟨v, e, r.mono g.f⟩
  | val v => exact h
  | fx q u => exact ⟨h.1, g.f _ _ h.2⟩
  | st q w => exact ⟨h.1, let ⟨u, hu, hw⟩ := h.2; ⟨u, g.f _ _ hu, w.mono g.f hw⟩⟩
  | own p w =>
    obtain ⟨e, hp, ho, hh, hw⟩ := h
    exact ⟨e, g.n p hp ⟨ho, hh, w.nt hw⟩, ho, g.same p ho hh (plB_nt (w.nt hw)), w.mono g.f hw⟩
theorem Ok.grow (h : Ok F H ρ σ) (g : Grow F H F2 H2) : Ok F2 H2 ρ σ :=
  ⟨g.s, h.len, fun i e he => let ⟨o, h1, h2⟩ := h.at_ i e he; ⟨o, h1, h2.grow g⟩, h.ne⟩
theorem Ok.dat {i : Nat} {d : PyData} (h : Ok F H ρ σ) (e : ρ[i]? = some (.dat d)) : ∃ v, σ[i]? = some (some v) ∧ Rp F v d := by
  obtain ⟨o, h1, v, rfl, r⟩ := h.at_ i _ e
  exact ⟨v, h1, r⟩
theorem Ok.own {i : Nat} {p : Addr} {w : Ow} (h : Ok F H ρ σ) (e : ρ[i]? = some (.own p w)) : σ[i]? = some (some (.ref p)) ∧ F p = none ∧ ∃ ho, H p = some ho ∧ w.φ F ho := by
  obtain ⟨o, h1, rfl, h2⟩ := h.at_ i _ e
  exact ⟨h1, h2⟩
theorem Ok.set {i : Nat} {e : Ent} {v : V} (h : Ok F H ρ σ) (he : EntOk F H e (some v)) (hn : ∀ p w, e = .own p w → ∀ j q w', ρ[j]? = some (.own q w') → i ≠ j → p ≠ q) : Ok F H (ρ.set i e) (σ.set i (some v)) := by
  refine ⟨h.s, by simp [h.len], fun j e' hj => ?_, fun j k p q w w' hj hk hjk => ?_⟩
  · by_cases hij : i = j
    · subst hij
      have hl : i < ρ.length := by
        have := (List.getElem?_eq_some_iff.mp hj).1
        simpa using this
      rw [List.getElem?_set_self hl] at hj
      cases hj
      exact ⟨some v, List.getElem?_set_self (by rw [h.len]; exact hl), he⟩
    · rw [List.getElem?_set_ne hij] at hj
      obtain ⟨o, h1, h2⟩ := h.at_ j e' hj
      exact ⟨o, by rw [List.getElem?_set_ne hij]; exact h1, h2⟩
  · by_cases hij : i = j
    · subst hij
      have hl : i < ρ.length := by
        have := (List.getElem?_eq_some_iff.mp hj).1
        simpa using this
      rw [List.getElem?_set_self hl] at hj
      cases hj
      rw [List.getElem?_set_ne hjk] at hk
      exact hn p w rfl k q w' hk hjk
    · rw [List.getElem?_set_ne hij] at hj
      by_cases hik : i = k
      · subst hik
        have hl : i < ρ.length := by
          have := (List.getElem?_eq_some_iff.mp hk).1
          simpa using this
        rw [List.getElem?_set_self hl] at hk
        cases hk
        exact (hn q w' rfl j p w hj hij).symm
      · rw [List.getElem?_set_ne hik] at hk
        exact h.ne j k p q w w' hj hk hjk
theorem Ok.setD {i : Nat} {d : PyData} {v : V} (h : Ok F H ρ σ) (r : Rp F v d) : Ok F H (ρ.set i (.dat d)) (σ.set i (some v)) :=
  h.set ⟨v, rfl, r⟩ fun p w e => nomatch e
/-- less is told -/
theorem Ok.forget {i : Nat} (h : Ok F H ρ σ) : Ok F H (ρ.set i .no) σ := by
  refine ⟨h.s, by simp [h.len], fun j e hj => ?_, fun j k p q w w' hj hk hjk => ?_⟩
  · by_cases hij : i = j
    · subst hij
      have hl : i < ρ.length := by
        have := (List.getElem?_eq_some_iff.mp hj).1
        simpa using this
      rw [List.getElem?_set_self hl] at hj
      cases hj
      obtain ⟨o, ho⟩ : ∃ o, σ[i]? = some o := ⟨σ[i]'(by rw [h.len]; exact hl), List.getElem?_eq_getElem _⟩
      exact ⟨o, ho, trivial⟩
    · rw [List.getElem?_set_ne hij] at hj
      exact h.at_ j e hj
  · have f : ∀ {j : Nat} {p : Addr} {w : Ow}, (ρ.set i .no)[j]? = some (.own p w) → ρ[j]? = some (.own p w) := fun {j p w} hj => by
      by_cases hij : i = j
      · subst hij
        have hl : i < ρ.length := by
          have := (List.getElem?_eq_some_iff.mp hj).1
          simpa using this
        rw [List.getElem?_set_self hl] at hj
        cases hj
      · rw [List.getElem?_set_ne hij] at hj
        exact hj
    exact h.ne j k p q w w' (f hj) (f hk) hjk
/-- the slots of a comprehension's own names forgotten -/
def wipeE (ρ : Env') : List Nat → Env'
  | [] => ρ
  | v :: vs => (wipeE ρ vs).set v .no
theorem Ok.wipe (h : Ok F H ρ σ) : ∀ vs : List Nat, Ok F H (wipeE ρ vs) (L2.wipe σ vs)
  | [] => h
  | v :: vs => by
    have hw := Ok.wipe h vs
    have h2 := hw.forget (i := v)
    refine ⟨h2.s, by simp [L2.wipe, wipeE, hw.len], fun j e hj => ?_, h2.ne⟩
    by_cases hij : v = j
    · subst hij
      have hl : v < (wipeE ρ vs).length := by
        have := (List.getElem?_eq_some_iff.mp hj).1
        simpa [wipeE] using this
      have hj' : ((wipeE ρ vs).set v .no)[v]? = some e := hj
      rw [List.getElem?_set_self hl] at hj'
      cases hj'
      exact ⟨none, List.getElem?_set_self (by rw [hw.len]; exact hl), trivial⟩
    · obtain ⟨o, h3, h4⟩ := h2.at_ j e hj
      exact ⟨o, by show ((L2.wipe σ vs).set v none)[j]? = _; rw [List.getElem?_set_ne hij]; exact h3, h4⟩
theorem wipe_set_in {i : Nat} {x : Option V} : ∀ {vs : List Nat} {σ : L2.St}, i ∈ vs → L2.wipe (σ.set i x) vs = L2.wipe σ vs := by
  intro vs
  induction vs with
  | nil => intro σ h; cases h
  | cons v vs ih =>
    intro σ h
    by_cases hin : i ∈ vs
    · show (L2.wipe (σ.set i x) vs).set v none = (L2.wipe σ vs).set v none
      rw [ih hin]
    · have hv : i = v := by
        rcases List.mem_cons.mp h with e | e
        · exact e
        · exact (hin e).elim
      subst hv
      show (L2.wipe (σ.set i x) vs).set i none = (L2.wipe σ vs).set i none
      refine List.ext_getElem? fun j => ?_
      by_cases hij : i = j
      · subst hij
        simp [List.getElem?_set, L2.wipe_length]
      · rw [List.getElem?_set_ne hij, List.getElem?_set_ne hij]
        have key : ∀ (ws : List Nat) (τ : L2.St), (L2.wipe (τ.set i x) ws)[j]? = (L2.wipe τ ws)[j]? := by
          intro ws
          induction ws with
          | nil => intro τ; exact List.getElem?_set_ne hij
          | cons w ws ihw =>
            intro τ
            show ((L2.wipe (τ.set i x) ws).set w none)[j]? = ((L2.wipe τ ws).set w none)[j]?
            by_cases hwj : w = j
            · subst hwj
              simp [List.getElem?_set, L2.wipe_length]
            · rw [List.getElem?_set_ne hwj, List.getElem?_set_ne hwj]
              exact ihw τ
        exact key vs σ
end

/-! ## weakening -/
section
variable {X : Cx}
theorem PE.imp {e : Expr} {t t' : TE} (h : PE X e t) (i : ∀ σ H Q, t' σ H Q → t σ H Q) : PE X e t' := ⟨fun pins s σ H Q I q => h.run pins s σ H Q I (i _ _ _ q)⟩
theorem PT.imp {e : Expr} {t t' : TT} (h : PT X e t) (i : ∀ σ H Q, t' σ H Q → t σ H Q) : PT X e t' := ⟨fun pins s σ H Q I q => h.run pins s σ H Q I (i _ _ _ q)⟩
theorem PW.imp {e : Expr} {t t' : TT} (h : PW X e t) (i : ∀ σ H Q, t' σ H Q → t σ H Q) : PW X e t' := ⟨fun wh pins s σ H Q I q => h.run wh pins s σ H Q I (i _ _ _ q)⟩
theorem PA.imp {e : List Expr} {t t' : TA} (h : PA X e t) (i : ∀ σ H Q, t' σ H Q → t σ H Q) : PA X e t' := ⟨fun ps pins s σ H Q I q => h.run ps pins s σ H Q I (i _ _ _ q)⟩
theorem PS.imp {e : Stmt} {t t' : TS} (h : PS X e t) (i : ∀ D σ H, t' D σ H → t D σ H) : PS X e t' := ⟨fun pins s σ H D I q => h.run pins s σ H D I (i _ _ _ q)⟩
theorem PSs.imp {e : List Stmt} {t t' : TS} (h : PSs X e t) (i : ∀ D σ H, t' D σ H → t D σ H) : PSs X e t' := ⟨fun pins s σ H D I q => h.run pins s σ H D I (i _ _ _ q)⟩
theorem PI.imp {tg e : Expr} {t t' : TI} (h : PI X tg e t) (i : ∀ σ H R, t' σ H R → t σ H R) : PI X tg e t' := ⟨fun pins s σ H R I q => h.run pins s σ H R I (i _ _ _ q)⟩
theorem PG.imp {tg : Expr} {t t' : TG} (h : PG X tg t) (i : ∀ v σ H Q, t' v σ H Q → t v σ H Q) : PG X tg t' := ⟨fun pins s σ H v u Q I r q => h.run pins s σ H v u Q I r (i _ _ _ _ q)⟩
theorem PGs.imp {tg : List Expr} {t t' : TGs} (h : PGs X tg t) (i : ∀ v σ H Q, t' v σ H Q → t v σ H Q) : PGs X tg t' := ⟨fun pins s σ H v u Q I r q => h.run pins s σ H v u Q I r (i _ _ _ _ q)⟩
/-- a family of readings, each shown -/
theorem PE.any {e : Expr} {ι : Sort _} {c : ι → Prop} {t : ι → TE} (h : ∀ i, c i → PE X e (t i)) : PE X e (fun σ H Q => ∃ i, c i ∧ t i σ H Q) := ⟨fun pins s σ H Q I ⟨i, ci, q⟩ => (h i ci).run pins s σ H Q I q⟩
theorem PT.any {e : Expr} {ι : Sort _} {c : ι → Prop} {t : ι → TT} (h : ∀ i, c i → PT X e (t i)) : PT X e (fun σ H Q => ∃ i, c i ∧ t i σ H Q) := ⟨fun pins s σ H Q I ⟨i, ci, q⟩ => (h i ci).run pins s σ H Q I q⟩
theorem PW.any {e : Expr} {ι : Sort _} {c : ι → Prop} {t : ι → TT} (h : ∀ i, c i → PW X e (t i)) : PW X e (fun σ H Q => ∃ i, c i ∧ t i σ H Q) := ⟨fun wh pins s σ H Q I ⟨i, ci, q⟩ => (h i ci).run wh pins s σ H Q I q⟩
theorem PA.any {e : List Expr} {ι : Sort _} {c : ι → Prop} {t : ι → TA} (h : ∀ i, c i → PA X e (t i)) : PA X e (fun σ H Q => ∃ i, c i ∧ t i σ H Q) := ⟨fun ps pins s σ H Q I ⟨i, ci, q⟩ => (h i ci).run ps pins s σ H Q I q⟩
theorem PTs.any {e : List Expr} {ι : Sort _} {c : ι → Prop} {t : ι → TT} (h : ∀ i, c i → PTs X e (t i)) : PTs X e (fun σ H Q => ∃ i, c i ∧ t i σ H Q) := ⟨fun pins s σ H Q I ⟨i, ci, q⟩ => (h i ci).run pins s σ H Q I q⟩
theorem PS.any {e : Stmt} {ι : Sort _} {c : ι → Prop} {t : ι → TS} (h : ∀ i, c i → PS X e (t i)) : PS X e (fun D σ H => ∃ i, c i ∧ t i D σ H) := ⟨fun pins s σ H D I ⟨i, ci, q⟩ => (h i ci).run pins s σ H D I q⟩
theorem PSs.any {e : List Stmt} {ι : Sort _} {c : ι → Prop} {t : ι → TS} (h : ∀ i, c i → PSs X e (t i)) : PSs X e (fun D σ H => ∃ i, c i ∧ t i D σ H) := ⟨fun pins s σ H D I ⟨i, ci, q⟩ => (h i ci).run pins s σ H D I q⟩
theorem PG.any {tg : Expr} {ι : Sort _} {c : ι → Prop} {t : ι → TG} (h : ∀ i, c i → PG X tg (t i)) : PG X tg (fun v σ H Q => ∃ i, c i ∧ t i v σ H Q) := ⟨fun pins s σ H v u Q I r ⟨i, ci, q⟩ => (h i ci).run pins s σ H v u Q I r q⟩
theorem PI.any {tg e : Expr} {ι : Sort _} {c : ι → Prop} {t : ι → TI} (h : ∀ i, c i → PI X tg e (t i)) : PI X tg e (fun σ H R => ∃ i, c i ∧ t i σ H R) := ⟨fun pins s σ H R I ⟨i, ci, q⟩ => (h i ci).run pins s σ H R I q⟩
end

/-! ## expressions that change nothing -/
def tD (ρ : Env') (d : PyData) : TE := fun σ H Q => ∃ F, Ok F H ρ σ ∧ ∀ v F2 H2, Grow F H F2 H2 → Rp F2 v d → Q v H2
def tDT (ρ : Env') (b : Bool) : TT := fun σ H Q => ∃ F, Ok F H ρ σ ∧ ∀ F2 H2, Grow F H F2 H2 → Q b H2
def tDA (ρ : Env') (ds : List PyData) : TA := fun σ H Q => ∃ F, Ok F H ρ σ ∧ ∀ vs F2 H2, Grow F H F2 H2 → RpA F2 vs ds → Q vs H2
def tDO (ρ : Env') (o : Option Int) : TO := fun σ H Q => ∃ F, Ok F H ρ σ ∧ ∀ F2 H2, Grow F H F2 H2 → Q o H2
/-- e gives d -/
abbrev DE (X : Cx) (ρ : Env') (e : Expr) (d : PyData) : Prop := PE X e (tD ρ d)
abbrev DT (X : Cx) (ρ : Env') (e : Expr) (b : Bool) : Prop := PT X e (tDT ρ b)
abbrev DW (X : Cx) (ρ : Env') (e : Expr) (b : Bool) : Prop := PW X e (tDT ρ b)
abbrev DTs (X : Cx) (ρ : Env') (es : List Expr) (b : Bool) : Prop := PTs X es (tDT ρ b)
abbrev DA (X : Cx) (ρ : Env') (es : List Expr) (ds : List PyData) : Prop := PA X es (tDA ρ ds)
abbrev DO (X : Cx) (ρ : Env') (e : Option Expr) (o : Option Int) : Prop := PO X e (tDO ρ o)
/-- rules on values -/
def V2 (r : R2) (d1 d2 d : PyData) : Prop := ∀ F H v1 v2, Same F H → Rp F v1 d1 → Rp F v2 d2 → ∀ Q : VK, (∀ v F2 H2, Grow F H F2 H2 → Rp F2 v d → Q v H2) → r v1 v2 H Q
def V1 (r : V → Hp → VK → Prop) (d1 d : PyData) : Prop := ∀ F H v1, Same F H → Rp F v1 d1 → ∀ Q : VK, (∀ v F2 H2, Grow F H F2 H2 → Rp F2 v d → Q v H2) → r v1 H Q
def VN (r : List V → Hp → VK → Prop) (ds : List PyData) (d : PyData) : Prop := ∀ F H vs, Same F H → RpA F vs ds → ∀ Q : VK, (∀ v F2 H2, Grow F H F2 H2 → Rp F2 v d → Q v H2) → r vs H Q
/-- data without parts -/
def flatD : PyData → Bool
  | .none => true
  | .bool _ => true
  | .int _ => true
  | .str _ => true
  | _ => false
theorem Rp.flat {F F' : Hp} {v : V} {d : PyData} (h : Rp F v d) (f : flatD d = true) : Rp F' v d := by
  cases h with
  | non => exact .non
  | bl b => exact .bl b
  | int i => exact .int i
  | str x => exact .str x
  | lst _ _ => cases f
  | tup _ _ => cases f
section
variable {X : Cx} {ρ : Env'} {a b c e : Expr} {es : List Expr} {d d1 d2 : PyData} {ds : List PyData} {pos : Pos}
theorem de_var (i : Nat) {x : Str} (h : ρ[i]? = some (.dat d) := by rfl) (hN : X.N[i]? = some x := by rfl) (hv : Vis X.env.scope x := by first | exact Or.inl rfl | exact Or.inr (Or.inl rfl) | exact Or.inr (Or.inr rfl))
    (hd : (x == ("__debug__" : Str)) = false := by decide) (hcd : (x == ("__classdict__" : Str)) = false := by decide) : DE X ρ (.Name x pos) d :=
  PE.imp (pe_var hN hv hd hcd) fun σ H Q ⟨F, ok, k⟩ => by
    obtain ⟨v, h1, r⟩ := ok.dat h
    exact ⟨v, h1, k v F H (GrowX.refl ok.s) r⟩
theorem de_int {i : Int} {j} : DE X ρ (.Constant (.int i) j pos) (.int i) := PE.imp pe_int fun σ H Q ⟨F, ok, k⟩ => k _ F H (GrowX.refl ok.s) (.int i)
theorem de_bl {i : Bool} {j} : DE X ρ (.Constant (.bool i) j pos) (.bool i) := PE.imp pe_bl fun σ H Q ⟨F, ok, k⟩ => k _ F H (GrowX.refl ok.s) (.bl i)
theorem de_non {j} : DE X ρ (.Constant .none j pos) .none := PE.imp pe_non fun σ H Q ⟨F, ok, k⟩ => k _ F H (GrowX.refl ok.s) .non
theorem de_str {i : Str} {j} : DE X ρ (.Constant (.str i) j pos) (.str i) := PE.imp pe_str fun σ H Q ⟨F, ok, k⟩ => k _ F H (GrowX.refl ok.s) (.str i)
theorem bin_go {r : R2} {ta tb : TE} (hr : V2 r d1 d2 d) : ∀ σ H Q, tD ρ d σ H Q → tOp r (tD ρ d1) (tD ρ d2) σ H Q := fun σ H Q ⟨F, ok, k⟩ =>
  ⟨F, ok, fun v1 F1 H1 g1 r1 => ⟨F1, ok.grow g1, fun v2 F2 H2 g2 r2 => hr F2 H2 v1 v2 g2.s (r1.mono g2.f) r2 Q fun v F3 H3 g3 r3 => k v F3 H3 (g1.trans (g2.trans g3)) r3⟩⟩
theorem de_op {op : Operator} {r : R2} (ho : OpR X (binaryOp op) r) (ha : DE X ρ a d1) (hb : DE X ρ b d2) (hr : V2 r d1 d2 d) : DE X ρ (.BinOp a op b pos) d :=
  PE.imp (pe_op ho ha hb) (bin_go (ta := tD ρ d1) (tb := tD ρ d2) hr)
theorem de_cmp {op : CmpOp} {r : R2} (ho : OpR X (compareOp op) r) (ha : DE X ρ a d1) (hb : DE X ρ b d2) (hr : V2 r d1 d2 d) (hm : behindInMarks op b = false := by first | exact nomark _ | rfl | with_unfolding_all rfl) : DE X ρ (.Compare a [op] [b] pos) d :=
  PE.imp (pe_cmpR ho ha hb hm) (bin_go (ta := tD ρ d1) (tb := tD ρ d2) hr)
theorem de_un {op : UnaryOp} {r : V → Hp → VK → Prop} (ho : UnR X (unaryOp op) r) (ha : DE X ρ a d1) (hr : V1 r d1 d) : DE X ρ (.UnaryOp op a pos) d :=
  PE.imp (pe_un ho ha) fun σ H Q ⟨F, ok, k⟩ => ⟨F, ok, fun v1 F1 H1 g1 r1 => hr F1 H1 v1 g1.s r1 Q fun v F2 H2 g2 r2 => k v F2 H2 (g1.trans g2) r2⟩
theorem de_is (h : DE X ρ e d1) (q : d1 = d2) : DE X ρ e d2 := q ▸ h
theorem dt_is {x y : Bool} (h : DT X ρ e x) (q : x = y) : DT X ρ e y := q ▸ h
/-! tests -/
theorem dt_val {x : Bool} (h : DE X ρ e (.bool x)) (he : ∀ whole, isTrue e X.env whole = (do let v ← whole; standAt e.pos; holding [v] (truthy v)) := by intro _; rfl) : DT X ρ e x :=
  PT.imp (pt_val h he) fun σ H Q ⟨F, ok, k⟩ => ⟨F, ok, fun v F2 H2 g r => ⟨x, r.bl_inv, k F2 H2 g⟩⟩
theorem dt_cmp {op : CmpOp} {r : R2} {x : Bool} (ho : OpR X (compareOp op) r) (ha : DE X ρ a d1) (hb : DE X ρ b d2) (hr : V2 r d1 d2 (.bool x)) (hm : behindInMarks op b = false := by first | exact nomark _ | rfl | with_unfolding_all rfl) : DT X ρ (.Compare a [op] [b] pos) x :=
  PT.imp (pt_cmpR ho ha hb hm) fun σ H Q ⟨F, ok, k⟩ => bin_go (ta := tD ρ d1) (tb := tD ρ d2) hr σ H _ ⟨F, ok, fun v F2 H2 g r => ⟨x, r.bl_inv, k F2 H2 g⟩⟩
theorem dt_w {x : Bool} (h : DW X ρ e x) : DT X ρ e x := PW.pt h
theorem dw_and1 {x : Bool} {p2 : Pos} (h : DT X ρ a x) : DW X ρ (.BoolOp .And [a] p2) x := pw_and1 h
theorem dw_or1 {x : Bool} {p2 : Pos} (h : DT X ρ a x) : DW X ρ (.BoolOp .Or [a] p2) x := pw_or1 h
theorem dw_and {x y : Bool} (ha : DT X ρ a x) (hb : x = true → DW X ρ (.BoolOp .And (b :: es) pos) y) : DW X ρ (.BoolOp .And (a :: b :: es) pos) (x && y) :=
  PW.imp (pw_and ha (PW.any (ι := Unit) (c := fun _ => x = true) (t := fun _ => tDT ρ y) fun _ hx => hb hx)) fun σ H Q ⟨F, ok, k⟩ => ⟨F, ok, fun F2 H2 g => by
    cases x with
    | true => exact iteT ⟨(), rfl, F2, ok.grow g, fun F3 H3 g3 => by simpa using k F3 H3 (g.trans g3)⟩
    | false => exact iteF (by simpa using k F2 H2 g)⟩
theorem dw_or {x y : Bool} (ha : DT X ρ a x) (hb : x = false → DW X ρ (.BoolOp .Or (b :: es) pos) y) : DW X ρ (.BoolOp .Or (a :: b :: es) pos) (x || y) :=
  PW.imp (pw_or ha (PW.any (ι := Unit) (c := fun _ => x = false) (t := fun _ => tDT ρ y) fun _ hx => hb hx)) fun σ H Q ⟨F, ok, k⟩ => ⟨F, ok, fun F2 H2 g => by
    cases x with
    | true => exact iteT (by simpa using k F2 H2 g)
    | false => exact iteF ⟨(), rfl, F2, ok.grow g, fun F3 H3 g3 => by simpa using k F3 H3 (g.trans g3)⟩⟩
theorem dt_not {x : Bool} (h : DT X ρ a x) : DT X ρ (.UnaryOp .Not a pos) (!x) := PT.imp (pt_not h) fun σ H Q ⟨F, ok, k⟩ => ⟨F, ok, fun F2 H2 g => k F2 H2 g⟩
theorem de_not {x : Bool} (h : DE X ρ a (.bool x)) : DE X ρ (.UnaryOp .Not a pos) (.bool (!x)) :=
  PE.imp (pe_not h) fun σ H Q ⟨F, ok, k⟩ => ⟨F, ok, fun v F2 H2 g r => ⟨x, r.bl_inv, k _ F2 H2 g (.bl _)⟩⟩
theorem de_one {op} (h : DE X ρ a d) : DE X ρ (.BoolOp op [a] pos) d := pe_one h
theorem de_and {x y : Bool} (ha : DE X ρ a (.bool x)) (hb : x = true → DE X ρ (.BoolOp .And (b :: es) pos) (.bool y)) : DE X ρ (.BoolOp .And (a :: b :: es) pos) (.bool (x && y)) :=
  PE.imp (pe_and ha (PE.any (ι := Unit) (c := fun _ => x = true) (t := fun _ => tD ρ (.bool y)) fun _ hx => hb hx)) fun σ H Q ⟨F, ok, k⟩ => ⟨F, ok, fun v F2 H2 g r => ⟨x, r.bl_inv, by
    cases x with
    | true => exact iteT ⟨(), rfl, F2, ok.grow g, fun v F3 H3 g3 r3 => k v F3 H3 (g.trans g3) (by simpa using r3)⟩
    | false => exact iteF (k _ F2 H2 g (by simpa using .bl false))⟩⟩
theorem de_or {x y : Bool} (ha : DE X ρ a (.bool x)) (hb : x = false → DE X ρ (.BoolOp .Or (b :: es) pos) (.bool y)) : DE X ρ (.BoolOp .Or (a :: b :: es) pos) (.bool (x || y)) :=
  PE.imp (pe_or ha (PE.any (ι := Unit) (c := fun _ => x = false) (t := fun _ => tD ρ (.bool y)) fun _ hx => hb hx)) fun σ H Q ⟨F, ok, k⟩ => ⟨F, ok, fun v F2 H2 g r => ⟨x, r.bl_inv, by
    cases x with
    | true => exact iteT (k _ F2 H2 g (by simpa using .bl true))
    | false => exact iteF ⟨(), rfl, F2, ok.grow g, fun v F3 H3 g3 r3 => k v F3 H3 (g.trans g3) (by simpa using r3)⟩⟩⟩
theorem de_if {x : Bool} (hc : DT X ρ c x) (ha : x = true → DE X ρ a d1) (hb : x = false → DE X ρ b d2) : DE X ρ (.IfExp c a b pos) (if x = true then d1 else d2) :=
  PE.imp (pe_ifExp hc (PE.any (ι := Unit) (c := fun _ => x = true) (t := fun _ => tD ρ d1) fun _ hx => ha hx) (PE.any (ι := Unit) (c := fun _ => x = false) (t := fun _ => tD ρ d2) fun _ hx => hb hx)) fun σ H Q ⟨F, ok, k⟩ => ⟨F, ok, fun F2 H2 g => by
    cases x with
    | true => exact iteT ⟨(), rfl, F2, ok.grow g, fun v F3 H3 g3 r3 => k v F3 H3 (g.trans g3) (by simpa using r3)⟩
    | false => exact iteF ⟨(), rfl, F2, ok.grow g, fun v F3 H3 g3 r3 => k v F3 H3 (g.trans g3) (by simpa using r3)⟩⟩
/-! argument lists, displays -/
theorem da_nil : DA X ρ [] [] := PA.imp pa_nil fun σ H Q ⟨F, ok, k⟩ => k _ F H (GrowX.refl ok.s) .nil
theorem da_cons (ha : DE X ρ e d) (hr : DA X ρ es ds) (hs : starEach (e :: es) X.env = (false, eval e X.env) :: starEach es X.env := by rfl) : DA X ρ (e :: es) (d :: ds) :=
  PA.imp (pa_cons ha hr hs) fun σ H Q ⟨F, ok, k⟩ => ⟨F, ok, fun v F2 H2 g r => ⟨F2, ok.grow g, fun vs F3 H3 g3 r3 => k _ F3 H3 (g.trans g3) (.cons (r.mono g3.f) r3)⟩⟩
theorem de_tup {k : Nat} (h : DA X ρ es ds) (hl : ds.length ≤ 1000 := by exact Nat.le_of_ble_eq_true rfl) : DE X ρ (.Tuple es k pos) (.tuple ds) :=
  PE.imp (pe_tup h) fun σ H Q ⟨F, ok, k⟩ => ⟨F, ok, fun vs F2 H2 g r => ⟨by rw [r.len]; exact Nat.le_trans hl (by decide), fun p hp => k _ _ _ (g.trans (Grow.new g.s hp)) (.tup upd_same (r.mono (Same.upd_new (same_none g.s hp))))⟩⟩
theorem de_lst (h : DA X ρ es ds) (hl : ds.length ≤ 1000 := by exact Nat.le_of_ble_eq_true rfl) : DE X ρ (.List es pos) (.list ds) :=
  PE.imp (pe_lst h) fun σ H Q ⟨F, ok, k⟩ => ⟨F, ok, fun vs F2 H2 g r => ⟨by rw [r.len]; exact Nat.le_trans hl (by decide), fun p hp => k _ _ _ (g.trans (Grow.new g.s hp)) (.lst upd_same (r.mono (Same.upd_new (same_none g.s hp))))⟩⟩
/-! subscripts, slices -/
theorem de_ix {r : R2} (hx : IxR X r) (ha : DE X ρ a d1) (hb : DE X ρ b d2) (hr : V2 r d1 d2 d) (hs : PlainIx b := by exact fun _ _ => rfl) : DE X ρ (.Subscript a b pos) d :=
  PE.imp (pe_ix hx ha hb hs) (bin_go (ta := tD ρ d1) (tb := tD ρ d2) hr)
theorem do_none : DO X ρ none none := ⟨fun pins s σ H Q I ⟨F, ok, k⟩ => po_none.run pins s σ H Q I (k F H (GrowX.refl ok.s))⟩
theorem do_some {i : Int} (h : DE X ρ e (.int i)) : DO X ρ (some e) (some i) := ⟨fun pins s σ H Q I ⟨F, ok, k⟩ => (po_some h).run pins s σ H Q I ⟨F, ok, fun v F2 H2 g r => ⟨i, r.int_inv, k F2 H2 g⟩⟩⟩
def VS (r : V → Option Int → Option Int → Hp → VK → Prop) (d1 : PyData) (lo hi : Option Int) (d : PyData) : Prop := ∀ F H v1, Same F H → Rp F v1 d1 → ∀ Q : VK, (∀ v F2 H2, Grow F H F2 H2 → Rp F2 v d → Q v H2) → r v1 lo hi H Q
theorem de_sl {r : V → Option Int → Option Int → Hp → VK → Prop} {lo hi : Option Expr} {l h : Option Int} {p2 : Pos} (hx : SlR X r) (ha : DE X ρ a d1) (hl : DO X ρ lo l) (hh : DO X ρ hi h) (hr : VS r d1 l h d) : DE X ρ (.Subscript a (.Slice lo hi none p2) pos) d :=
  PE.imp (pe_slice hx ha hl hh) fun σ H Q ⟨F, ok, k⟩ => ⟨F, ok, fun v F1 H1 g1 r1 => ⟨F1, ok.grow g1, fun F2 H2 g2 => ⟨F2, (ok.grow g1).grow g2, fun F3 H3 g3 =>
    hr F3 H3 v g3.s (r1.mono (g2.trans g3).f) Q fun v' F4 H4 g4 r4 => k v' F4 H4 (g1.trans (g2.trans (g3.trans g4))) r4⟩⟩⟩
/-! calls of built-in functions and types -/
theorem de_callB {x : Str} {p : Pos} {id : String} {r : List V → Hp → VK → Prop} (hc : CallR X (.builtin id) r) (hm : X.mg x = none) (hv : bootBuiltins x = some (.builtin id)) (ha : DA X ρ (e :: es) ds) (hr : VN r ds d) (hg : Gl X x := by rfl) (hn : x ≠ "__name__" := by decide) (hdb : (x == ("__debug__" : Str)) = false := by decide)
    (he : starEach (e :: es) X.env = (false, eval e X.env) :: starEach es X.env := by rfl) (hpl : (backTo pos (starEach es X.env)).any (·.1) = false := by rfl) : DE X ρ (.Call (.Name x p) (e :: es) [] pos) d :=
  PE.imp (pe_callB hc hg hm hv ha hn hdb he hpl) fun σ H Q ⟨F, ok, k⟩ => ⟨F, ok, fun vs F2 H2 g r => hr F2 H2 vs g.s r Q fun v F3 H3 g3 r3 => k v F3 H3 (g.trans g3) r3⟩
theorem de_callTy {x : Str} {p : Pos} {id : String} {r : List V → Hp → VK → Prop} (hc : CallR X (.type id) r) (hm : X.mg x = none) (hv : bootBuiltins x = some (.type id)) (ha : DA X ρ (e :: es) ds) (hr : VN r ds d) (hg : Gl X x := by rfl) (hn : x ≠ "__name__" := by decide) (hdb : (x == ("__debug__" : Str)) = false := by decide)
    (he : starEach (e :: es) X.env = (false, eval e X.env) :: starEach es X.env := by rfl) (hpl : (backTo pos (starEach es X.env)).any (·.1) = false := by rfl) : DE X ρ (.Call (.Name x p) (e :: es) [] pos) d :=
  PE.imp (pe_callTy hc hg hm hv ha hn hdb he hpl) fun σ H Q ⟨F, ok, k⟩ => ⟨F, ok, fun vs F2 H2 g r => hr F2 H2 vs g.s r Q fun v F3 H3 g3 r3 => k v F3 H3 (g.trans g3) r3⟩
end
end Tw

namespace Tw
open PySem PySem.Spec PyProof.Rows L2

/-! ## targets -/
/-- the value of d goes to the target; is: the slots that it sets -/
def tDG (ρ : Env') (d : PyData) (ρ' : Env') (is : List Nat) : TG := fun v σ H Q => ∃ F, Ok F H ρ σ ∧ Rp F v d ∧ ∀ σ', Ok F H ρ' σ' → (∀ vs : List Nat, (∀ i ∈ is, i ∈ vs) → wipe σ' vs = wipe σ vs) → Q σ' H
def tDGs (ρ : Env') (ds : List PyData) (ρ' : Env') (is : List Nat) : TGs := fun vs σ H Q => ∃ F, Ok F H ρ σ ∧ RpA F vs ds ∧ ∀ σ', Ok F H ρ' σ' → (∀ vs : List Nat, (∀ i ∈ is, i ∈ vs) → wipe σ' vs = wipe σ vs) → Q σ' H
/-- no new own things -/
def OwnSub (ρ1 ρ : Env') : Prop := ∀ (i : Nat) (p : Addr) (w : Ow), ρ1[i]? = some (.own p w) → ρ[i]? = some (.own p w)
theorem OwnSub.refl (ρ : Env') : OwnSub ρ ρ := fun _ _ _ h => h
theorem OwnSub.trans {ρ1 ρ2 ρ3 : Env'} (a : OwnSub ρ1 ρ2) (b : OwnSub ρ2 ρ3) : OwnSub ρ1 ρ3 := fun i p w h => b i p w (a i p w h)
theorem OwnSub.set {ρ : Env'} {i : Nat} {d : PyData} : OwnSub (ρ.set i (.dat d)) ρ := fun j p w hj => by
  by_cases h : i = j
  · subst h
    have hl : i < ρ.length := by
      have := (List.getElem?_eq_some_iff.mp hj).1
      simpa using this
    rw [List.getElem?_set_self hl] at hj; cases hj
  · rw [List.getElem?_set_ne h] at hj; exact hj
def DG (X : Cx) (ρ : Env') (tg : Expr) (d : PyData) (ρ' : Env') (is : List Nat) : Prop := PG X tg (tDG ρ d ρ' is) ∧ OwnSub ρ' ρ
def DGs (X : Cx) (ρ : Env') (tgs : List Expr) (ds : List PyData) (ρ' : Env') (is : List Nat) : Prop := PGs X tgs (tDGs ρ ds ρ' is) ∧ OwnSub ρ' ρ
section
variable {X : Cx} {ρ ρ1 ρ2 : Env'} {e : Expr} {es : List Expr} {d : PyData} {ds : List PyData} {pos : Pos} {is js : List Nat}
theorem dg_name (i : Nat) {x : Str} (hN : X.N.Nodup) (hi : X.N[i]? = some x := by rfl) (hx : Loc X.env.scope x := by first | exact Or.inl rfl | exact Or.inr rfl)
    (hf : X.fn x = true ∨ X.env.scope.names.lookup x = some .local := by first | exact .inl rfl | exact .inr rfl) : DG X ρ (.Name x pos) d (ρ.set i (.dat d)) [i] :=
  ⟨PG.imp (pg_name hN hi hx hf) fun v σ H Q ⟨F, ok, r, k⟩ => k _ (ok.setD r) fun vs h => wipe_set_in (h i (List.mem_singleton.mpr rfl)), OwnSub.set⟩
theorem dgs_nil : DGs X ρ [] [] ρ [] := ⟨PGs.imp pgs_nil fun v σ H Q ⟨F, ok, r, k⟩ => ⟨by cases r; rfl, k σ ok fun _ _ => rfl⟩, OwnSub.refl _⟩
theorem dgs_cons (h1 : DG X ρ e d ρ1 is) (h2 : DGs X ρ1 es ds ρ2 js) (hs : (assignEach (e :: es) X.env).map (·.2) = assign e X.env :: (assignEach es X.env).map (·.2) := by rfl) : DGs X ρ (e :: es) (d :: ds) ρ2 (is ++ js) :=
  ⟨PGs.imp (pgs_cons h1.1 h2.1 hs) fun v σ H Q ⟨F, ok, r, k⟩ => by
    cases r with
    | cons r rr =>
      exact ⟨_, _, rfl, F, ok, r, fun σ1 ok1 w1 => ⟨F, ok1, rr, fun σ2 ok2 w2 => k σ2 ok2 fun vs h => (w2 vs fun i hi => h i (List.mem_append_right _ hi)).trans (w1 vs fun i hi => h i (List.mem_append_left _ hi))⟩⟩, h2.2.trans h1.2⟩
theorem dg_tup {k : Nat} (h : DGs X ρ es ds ρ1 is) (hc : X.calm = true := by rfl) (hn : (assignEach es X.env).length = ds.length := by rfl) (hst : (assignEach es X.env).findIdx? (·.1) = none := by rfl) : DG X ρ (.Tuple es k pos) (.tuple ds) ρ1 is :=
  ⟨PG.imp (pg_tup hc h.1 hn hst) fun v σ H Q ⟨F, ok, r, k⟩ => by
    obtain ⟨a, xs, rfl, h1, r1⟩ := r.tup_inv
    exact ⟨a, xs, rfl, SqT.of (ok.s _ _ h1), r1.len, F, ok, r1, k⟩, h.2⟩
end

/-! ## what is walked -/
def JOk (J : It) (F : Hp) (ds : List PyData) : Prop := ∀ (i : Nat) (F1 H : Hp), Same F F1 → Same F1 H →
  (∀ d, ds[i]? = some d → J.go i H ∧ ∀ x H', J.yld i H x H' → ∃ F2, Grow F1 H F2 H' ∧ Rp F2 x d) ∧ (ds[i]? = none → J.stop i H)
def tDI (ρ : Env') (ds : List PyData) : TI := fun σ H R => ∃ F, Ok F H ρ σ ∧ ∀ J F2 H2, Grow F H F2 H2 → JOk J F2 ds → R J H2
abbrev DI (X : Cx) (ρ : Env') (tg iter : Expr) (ds : List PyData) : Prop := PI X tg iter (tDI ρ ds)
theorem JOk.mono {J : It} {F F' : Hp} {ds : List PyData} (h : JOk J F ds) (e : Same F F') : JOk J F' ds := fun i F1 H h1 h2 => h i F1 H (e.trans h1) h2
section
variable {X : Cx} {ρ : Env'} {tg l e e2 : Expr} {ds es : List PyData} {p pos tpos : Pos}
theorem di_list (h : DE X ρ l (.list ds)) : DI X ρ tg l ds :=
  PI.imp (pi_list h) fun σ H R ⟨F, ok, k⟩ => ⟨F, ok, fun v F2 H2 g r => by
    obtain ⟨a, xs, rfl, h1, r1⟩ := r.lst_inv
    refine ⟨a, rfl, ⟨xs, SqL.of (g.s _ _ h1)⟩, k _ F2 H2 g fun i F1 H' e1 e2 => ⟨fun d hd => ?_, fun hn => ?_⟩⟩
    · obtain ⟨x, hx, rx⟩ := r1.get hd
      refine ⟨⟨xs, x, SqL.of (e2 _ _ (e1 _ _ h1)), hx⟩, fun y H'' ⟨q1, q2⟩ => ?_⟩
      subst q1
      have := q2 xs (SqL.of (e2 _ _ (e1 _ _ h1)))
      rw [hx] at this; cases this
      exact ⟨F1, GrowX.refl e2, rx.mono e1⟩
    · exact ⟨xs, SqL.of (e2 _ _ (e1 _ _ h1)), by rw [r1.len]; exact List.getElem?_eq_none_iff.mp hn⟩⟩
theorem di_tup (h : DE X ρ l (.tuple ds)) : DI X ρ tg l ds :=
  PI.imp (pi_tup h) fun σ H R ⟨F, ok, k⟩ => ⟨F, ok, fun v F2 H2 g r => by
    obtain ⟨a, xs, rfl, h1, r1⟩ := r.tup_inv
    refine ⟨a, rfl, ⟨xs, SqT.of (g.s _ _ h1)⟩, k _ F2 H2 g fun i F1 H' e1 e2 => ⟨fun d hd => ?_, fun hn => ?_⟩⟩
    · obtain ⟨x, hx, rx⟩ := r1.get hd
      refine ⟨⟨xs, x, SqT.of (e2 _ _ (e1 _ _ h1)), hx⟩, fun y H'' ⟨q1, q2⟩ => ?_⟩
      subst q1
      have := q2 xs (SqT.of (e2 _ _ (e1 _ _ h1)))
      rw [hx] at this; cases this
      exact ⟨F1, GrowX.refl e2, rx.mono e1⟩
    · exact ⟨xs, SqT.of (e2 _ _ (e1 _ _ h1)), by rw [r1.len]; exact List.getElem?_eq_none_iff.mp hn⟩⟩
/-- lo, lo + 1, .., n of them -/
def rngD (lo : Int) (n : Nat) : List PyData := (List.range n).map fun (i : Nat) => PyData.int (lo + (i : Int))
theorem rngD_get {lo : Int} {n i : Nat} {d : PyData} (h : (rngD lo n)[i]? = some d) : i < n ∧ d = .int (lo + (i : Int)) := by
  unfold rngD at h
  rw [List.getElem?_map] at h
  obtain ⟨j, h1, h2⟩ := Option.map_eq_some_iff.mp h
  obtain ⟨h3, h4⟩ := List.getElem?_eq_some_iff.mp h1
  simp at h3 h4
  subst h4
  exact ⟨h3, h2.symm⟩
theorem jok_rng {lo : Int} {n : Nat} {F : Hp} : JOk (Itr lo n) F (rngD lo n) := fun i F1 H e1 e2 => ⟨fun d hd => by
    obtain ⟨h1, rfl⟩ := rngD_get hd
    exact ⟨h1, fun x H' ⟨q1, q2⟩ => ⟨F1, by subst q1; exact GrowX.refl e2, by subst q2; exact .int _⟩⟩, fun hn => by
    have := List.getElem?_eq_none_iff.mp hn
    show n ≤ i
    simpa [rngD] using this⟩
theorem di_range1 {j : Int} (ha : DA X ρ [e] [.int j]) (hm : X.mg "range" = none) (hb : -(2 ^ 62) ≤ j ∧ j < 2 ^ 62) (hg : Gl X "range" := by rfl) (hs : starEach [e] X.env = [(false, eval e X.env)] := by rfl) : DI X ρ tg (.Call (.Name "range" p) [e] [] pos) (rngD 0 j.toNat) :=
  PI.imp (pi_range1 hg hm ha hs) fun σ H R ⟨F, ok, k⟩ => ⟨F, ok, fun vs F2 H2 g r => by
    cases r with
    | cons r rr =>
      cases rr
      exact ⟨j, by rw [r.int_inv], hb.1, hb.2, k _ F2 H2 g jok_rng⟩⟩
theorem di_range2 {i j : Int} (ha : DA X ρ [e, e2] [.int i, .int j]) (hm : X.mg "range" = none) (hi : -(2 ^ 62) ≤ i ∧ i < 2 ^ 62 ∧ -(2 ^ 62) ≤ j ∧ j < 2 ^ 62) (hg : Gl X "range" := by rfl) (hs : starEach [e, e2] X.env = [(false, eval e X.env), (false, eval e2 X.env)] := by rfl) (hs2 : starEach [e2] X.env = [(false, eval e2 X.env)] := by rfl) :
    DI X ρ tg (.Call (.Name "range" p) [e, e2] [] pos) (rngD i (j - i).toNat) :=
  PI.imp (pi_range2 hg hm ha hs hs2) fun σ H R ⟨F, ok, k⟩ => ⟨F, ok, fun vs F2 H2 g r => by
    cases r with
    | cons r rr =>
      cases rr with
      | cons r2 rr =>
        cases rr
        exact ⟨i, j, by rw [r.int_inv, r2.int_inv], hi, k _ F2 H2 g jok_rng⟩⟩
end

/-! ## list comprehensions -/
theorem wipe_get {σ : L2.St} {j : Nat} : ∀ {vs : List Nat}, (wipe σ vs)[j]? = if j ∈ vs then (if j < σ.length then some none else none) else σ[j]? := by
  intro vs
  induction vs with
  | nil => simp [wipe]
  | cons v vs ih =>
    show ((wipe σ vs).set v none)[j]? = _
    rw [List.getElem?_set]
    by_cases h : v = j
    · subst h
      simp [wipe_length]
    · have h' : ¬ j = v := fun z => h z.symm
      rw [if_neg h, ih]
      simp [h']
theorem wipe_twice (σ : L2.St) (vs : List Nat) : wipe (wipe σ vs) vs = wipe σ vs := by
  refine List.ext_getElem? fun j => ?_
  rw [wipe_get, wipe_get, wipe_length]
  by_cases h : j ∈ vs
  · simp [h]
  · simp [h]
/-- a heap without the thing at D -/
theorem TabF.unhide {F H : Hp} {P D : Addr} {o : HO} (t : TabF F (fun a => if a = D then none else H a) P) (ho : H D = some o) (hn : ntB o = true) : TabF F H P := by
  have hP : P ≠ D := fun z => by obtain ⟨ps, h⟩ := t.is; subst z; simp at h
  exact t.to (Same.refl _) t.1 (by simp [hP])
theorem TabF.hide {F H : Hp} {P D : Addr} {o : HO} (t : TabF F H P) (ho : H D = some o) (hn : ntB o = true) : TabF F (fun a => if a = D then none else H a) P := by
  have hP : P ≠ D := fun z => by obtain ⟨ps, h⟩ := t.is; subst z; rw [ho] at h; cases h; cases hn
  exact t.to (Same.refl _) t.1 (by simp [hP])
/-- growth of the rest, the thing at D left out -/
theorem grow_minus {F2 H2 F3 H3 F4 H4 : Hp} {D : Addr} {o : HO} (g3 : Grow F2 H2 F3 (fun a => if a = D then none else H3 a)) (g4 : Grow F3 H3 F4 H4) (hD : F3 D = none) (ho : H3 D = some o) (h2 : H2 D = none) (hnt : plB o = true) :
    Grow F2 H2 F4 (fun a => if a = D then none else H4 a) := by
  have hD4 : F4 D = none := g4.n D hD ⟨o, ho, hnt⟩
  refine ⟨g3.f.trans g4.f, fun c u hc => ?_, fun c u hx hc hi => ?_, fun c hc => ?_, fun c h1 h3 => ?_, fun c h3 => ?_, fun c h3 => (g4.t c ((g3.t c h3).unhide ho (plB_nt hnt))).hide (g4.same D o ho (plB_nt hnt)) (plB_nt hnt)⟩
  · by_cases h : c = D
    · subst h; rw [hD4] at hc; cases hc
    · simp only [h, if_false]; exact g4.s c u hc
  · have := g3.h c u hx hc hi
    by_cases h : c = D
    · subst h; rw [h2] at hc; cases hc
    · simp only [h, if_false] at this ⊢; exact g4.same c u this hi
  · have := g3.k c hc
    by_cases h : c = D
    · subst h; exact (hc h2).elim
    · simp only [h, if_false] at this ⊢; exact g4.k c this
  · have e := g3.n c h1 h3
    have := g3.m c h3
    by_cases h : c = D
    · subst h; exact (h3.ne h2).elim
    · exact g4.n c e (by obtain ⟨o, q1, q2⟩ := this; exact ⟨o, by simpa [h] using q1, q2⟩)
  · have := g3.m c h3
    by_cases h : c = D
    · subst h; exact (h3.ne h2).elim
    · obtain ⟨o, q1, q2⟩ := g4.m c (by obtain ⟨o, q1, q2⟩ := this; exact ⟨o, by simpa [h] using q1, q2⟩)
      exact ⟨o, by simpa [h] using q1, q2⟩
section
variable {X : Cx} {ρ : Env'} {α : Type} {xs : List α} {enc : α → PyData} {elt tg iter : Expr} {ifs : List Expr} {scope : Scope} {pos : Pos} {own : List (Str × Nat)}
theorem pts_none {X : Cx} {ρ : Env'} : DTs X ρ [] true := ⟨fun pins s σ H Q I ⟨F, ok, k⟩ => pts_nil.run pins s σ H Q I (k F H (GrowX.refl ok.s))⟩
theorem pts_1 {X : Cx} {ρ : Env'} {c : Expr} {b : Bool} (h : DT X ρ c b) : DTs X ρ [c] b := pts_one h
/-- a context of the block -/
abbrev Blk (X : Cx) (scope : Scope) (P : Cx → Prop) : Prop := ∀ (s : Shared) (H : Hp) (C : Addr) (cl : List (Str × Addr)) (fp : List Addr), P (X.blk s H scope (compEnvC scope cl C X.env) fp)
theorem lc_read (g : α → Env') (b : α → Bool) (f : α → PyData) (is : List Nat) (vsl : List Nat) (his : ∀ i ∈ is, i ∈ vsl) (hl : xs.length ≤ sizeLine) :
    ∀ σ H Q, tD ρ (.list ((xs.filter b).map f)) σ H Q → tLc (tDI ρ (xs.map enc)) (fun v σ H Q => ∃ x, x ∈ xs ∧ tDG (wipeE ρ vsl) (enc x) (g x) is v σ H Q) (fun σ H Q => ∃ x, x ∈ xs ∧ tDT (g x) (b x) σ H Q) (fun σ H Q => ∃ x, (x ∈ xs ∧ b x = true) ∧ tD (g x) (f x) σ H Q) vsl σ H Q := by
  refine fun σ H Q ⟨F, ok1, k⟩ => ⟨F, ok1, fun J F2 H2 g2 hJ => ?_⟩
  intro D hD
  -- behind i turns: what stands still, the new list
  refine ⟨fun i m H3 => m = xs.length - i ∧ i ≤ xs.length ∧ ∃ F3, Grow F2 H2 F3 (fun a => if a = D then none else H3 a) ∧ Same F3 H3 ∧ F3 D = none ∧ ∃ vs, H3 D = some (.lst vs) ∧ RpA F3 vs (((xs.take i).filter b).map f),
    ⟨xs.length, by simp, Nat.zero_le _, F2, ?_, ?_, ?_, [], upd_same, by simp; exact .nil⟩, ?_⟩
  · have e : (fun a => if a = D then none else upd H2 D (.lst []) a) = H2 := by
      funext a
      by_cases ha : a = D
      · subst ha; rw [if_pos rfl, hD]
      · rw [if_neg ha, upd_ne ha]
    rw [e]; exact GrowX.refl g2.s
  · exact g2.s.trans (Same.upd_new hD)
  · exact same_none g2.s hD
  rintro i m H3 ⟨rfl, hle, F3, g3, s3, hD3, vs, hvs, rvs⟩
  have gr : ∀ {F4 H4 : Hp}, Grow F3 H3 F4 H4 → F4 D = none ∧ H4 D = some (.lst vs) := fun {F4 H4} g4 => ⟨g4.n D hD3 (NN.lst hvs), g4.same D _ hvs rfl⟩
  by_cases hlt : i < xs.length
  · right
    have hd : (xs.map enc)[i]? = some (enc xs[i]) := by rw [List.getElem?_map, List.getElem?_eq_getElem hlt]; rfl
    have hx : xs[i] ∈ xs := List.getElem_mem hlt
    obtain ⟨h1, -⟩ := hJ i F3 H3 g3.f s3
    obtain ⟨go, yl⟩ := h1 _ hd
    refine ⟨go, fun H' => ∃ m', m' < xs.length - i ∧ (m' = xs.length - (i + 1) ∧ i + 1 ≤ xs.length ∧ ∃ F4, Grow F2 H2 F4 (fun a => if a = D then none else H' a) ∧ Same F4 H' ∧ F4 D = none ∧ ∃ vs, H' D = some (.lst vs) ∧ RpA F4 vs (((xs.take (i + 1)).filter b).map f)), fun H' h => h, fun x H4 hy => ?_⟩
    obtain ⟨F4, g4, rx⟩ := yl x H4 hy
    -- the slots: told at F2, H2 they are told at every later heap without D
    have okAll : ∀ {F5 H5 : Hp}, Grow F3 H3 F5 H5 → Ok F5 H5 ρ σ := fun {F5 H5} g5 => by
      have o3 : Ok F3 H3 ρ σ := by
        have o2 := (ok1.grow g2).grow g3
        refine ⟨s3, o2.len, fun j e hj => ?_, o2.ne⟩
        obtain ⟨o, ho, h2⟩ := o2.at_ j e hj
        refine ⟨o, ho, ?_⟩
        cases e with
        | no => trivial
        | dat d => exact h2
        | val v => exact h2
        | fx q u => exact h2
        | st q w => exact h2
        | own p w =>
          obtain ⟨e1, e2, hho, e3, e4⟩ := h2
          refine ⟨e1, e2, hho, ?_, e4⟩
          have e3' : (if p = D then none else H3 p) = some hho := e3
          by_cases hp : p = D
          · rw [if_pos hp] at e3'; cases e3'
          · rw [if_neg hp] at e3'; exact e3'
      exact o3.grow g5
    have ok4 : Ok F4 H4 ρ σ := okAll g4
    refine ⟨xs[i], hx, F4, ok4.wipe _, rx, fun σ2 okx hw => ⟨?_, ?_⟩⟩
    · rw [hw _ his]
      exact wipe_twice σ _
    refine ⟨xs[i], hx, F4, okx, fun F5 H5 g5 => ?_⟩
    have tk : xs.take (i + 1) = xs.take i ++ [xs[i]] := by rw [List.take_append_getElem hlt]
    cases hb : b xs[i] with
    | false =>
      refine iteF ⟨_, by omega, rfl, hlt, F5, ?_, (g4.trans g5).s, (gr (g4.trans g5)).1, vs, (gr (g4.trans g5)).2, ?_⟩
      · exact grow_minus g3 (g4.trans g5) hD3 hvs hD rfl
      · rw [tk, List.filter_append, List.map_append]
        simp [hb]
        simpa using rvs.mono (g4.trans g5).f
    | true =>
      refine iteT ⟨xs[i], ⟨hx, hb⟩, F5, okx.grow g5, fun y F6 H6 g6 ry => ?_⟩
      have g46 := g4.trans (g5.trans g6)
      refine ⟨vs, (gr g46).2, ?_, ?_⟩
      · rw [rvs.len]
        have h1 : (((xs.take i).filter b).map f).length ≤ i := by
          rw [List.length_map]
          refine Nat.le_trans (List.length_filter_le _ _) ?_
          rw [List.length_take]; omega
        omega
      · refine ⟨_, by omega, rfl, hlt, F6, ?_, ?_, (gr g46).1, vs ++ [y], upd_same, ?_⟩
        · have e : (fun a => if a = D then none else upd H6 D (.lst (vs ++ [y])) a) = fun a => if a = D then none else H6 a := by
            funext a
            by_cases ha : a = D
            · rw [if_pos ha, if_pos ha]
            · rw [if_neg ha, if_neg ha, upd_ne ha]
          rw [e]
          exact grow_minus g3 g46 hD3 hvs hD rfl
        · intro c u hc
          have hcD : c ≠ D := fun z => by subst z; rw [(gr g46).1] at hc; cases hc
          rw [upd_ne hcD]
          exact g46.s c u hc
        · rw [tk, List.filter_append, List.map_append]
          refine (rvs.mono g46.f).append ?_
          simp [hb]
          exact .cons ry .nil
  · left
    have hi' : i = xs.length := by omega
    subst hi'
    obtain ⟨-, h2⟩ := hJ xs.length F3 H3 g3.f s3
    refine ⟨h2 (by simp), ?_⟩
    rw [List.take_length] at rvs
    have hF : Same F3 (upd F3 D (.lst vs)) := Same.upd_new hD3
    refine k (.ref D) (upd F3 D (.lst vs)) H3 (g2.trans ⟨g3.f.trans hF, fun c u hc => ?_, fun c u _ hc hi => ?_, fun c hc => ?_, fun c h1 h2 => ?_, fun c h2 => ?_, fun c h2 => ((g3.t c h2).unhide hvs rfl).updF hD3 (tbl_nt hvs rfl)⟩) (.lst upd_same (rvs.mono hF))
    · by_cases h : c = D
      · subst h; rw [upd_same] at hc; rw [hvs]; exact hc
      · rw [upd_ne h] at hc; exact s3 c u hc
    · have := g3.same c u hc hi
      by_cases h : c = D
      · subst h; rw [hD] at hc; cases hc
      · simpa [h] using this
    · by_cases h : c = D
      · subst h; rw [hvs]; simp
      · have := g3.k c hc
        simpa [h] using this
    · by_cases h : c = D
      · subst h; exact (h2.ne hD).elim
      · rw [upd_ne h]; exact g3.n c h1 h2
    · by_cases h : c = D
      · subst h; exact NN.lst hvs
      · obtain ⟨o, q1, q2⟩ := g3.m c h2
        exact ⟨o, by simpa [h] using q1, q2⟩
theorem de_lc (g : α → Env') (b : α → Bool) (f : α → PyData) (is : List Nat) (hc : X.calm = true) (hN : X.N.Nodup) (ok : BlkOk X.N X.env.scope scope own) (hi : DI X ρ tg iter (xs.map enc))
    (hg : ∀ x ∈ xs, Blk X scope fun Y => DG Y (wipeE ρ (own.map (·.2))) tg (enc x) (g x) is)
    (ht : ∀ x ∈ xs, Blk X scope fun Y => DTs Y (g x) ifs (b x))
    (he : ∀ x ∈ xs, b x = true → Blk X scope fun Y => DE Y (g x) elt (f x))
    (his : ∀ i ∈ is, i ∈ own.map (·.2)) (hl : xs.length ≤ sizeLine) (hs : ∀ x, foldedSetIterable iter X.env x = pure x := by intro _; rfl) :
    DE X ρ (.ListComp elt [⟨tg, iter, ifs, 0⟩] scope pos) (.list ((xs.filter b).map f)) :=
  PE.imp (pe_lc hc hN hi ok (fun s H C cl fp => PG.any fun x hx => (hg x hx s H C cl fp).1) (fun s H C cl fp => PTs.any fun x hx => ht x hx s H C cl fp) (fun s H C cl fp => PE.any fun x hx => he x hx.1 hx.2 s H C cl fp) hs) (lc_read g b f is (own.map (·.2)) his hl)
/-- the same, set to a name on one line -/
theorem ps_lcD (i : Nat) {y : Str} {py spos : Pos} (g : α → Env') (b : α → Bool) (f : α → PyData) (is : List Nat) (hc : X.calm = true) (hN : X.N.Nodup) (ok : BlkOk X.N X.env.scope scope own) (hi : DI X ρ tg iter (xs.map enc))
    (hg : ∀ x ∈ xs, Blk X scope fun Y => DG Y (wipeE ρ (own.map (·.2))) tg (enc x) (g x) is)
    (ht : ∀ x ∈ xs, Blk X scope fun Y => DTs Y (g x) ifs (b x))
    (he : ∀ x ∈ xs, b x = true → Blk X scope fun Y => DE Y (g x) elt (f x))
    (his : ∀ i ∈ is, i ∈ own.map (·.2)) (hl : xs.length ≤ sizeLine) (hy : X.N[i]? = some y) (hk : X.env.scope.kind = .function) (hyl : X.env.scope.names.lookup y = some .local) (hln : (py.line == pos.line) = true)
    (ha : (scope.names.any fun (n, k) => n == y && (k == .local || k == .cell)) = false) (hs : ∀ x, foldedSetIterable iter X.env x = pure x := by intro _; rfl) :
    PS X (.Assign [.Name y py] (.ListComp elt [⟨tg, iter, ifs, 0⟩] scope pos) spos) (tAsg (tD ρ (.list ((xs.filter b).map f))) (gName i)) :=
  PS.imp (ps_setLc hc hN hy hyl (sw_true hk hyl hln ha) hi ok (te := fun σ H Q => ∃ x, (x ∈ xs ∧ b x = true) ∧ tD (g x) (f x) σ H Q) (fun s H C cl fp => PG.any fun x hx => (hg x hx s H C cl fp).1) (fun s H C cl fp => PTs.any fun x hx => ht x hx s H C cl fp) (fun s H C cl fp => PE.any fun x hx => he x hx.1 hx.2 s H C cl fp) hs) fun D σ H h => show tLc _ _ _ _ _ σ H _ from lc_read g b f is (own.map (·.2)) his hl σ H _ h
end
end Tw

namespace Tw
open PySem PySem.Spec PyProof.Rows L2

/-! ## statements -/
/-- the state at a statement: F0, H0 at the entry; ex: what may have changed of what stood there -/
structure At (ex : List Addr) (F0 H0 : Hp) (ρ : Env') (σ : L2.St) (F H : Hp) : Prop where
  g : GrowX ex F0 H0 F H
  ok : Ok F H ρ σ
  new : ∀ (i : Nat) (p : Addr) (w : Ow), ρ[i]? = some (.own p w) → H0 p = none ∨ p ∈ ex
/-- N what may be known behind, R what may be handed back, B, C at a break and a continue -/
structure Aims where
  N : Env' → Prop
  R : PyData → Env' → Prop
  RR : V → Hp → Prop := fun _ _ => False
  B : Env' → Prop := fun _ => False
  C : Env' → Prop := fun _ => False
def tS (ex : List Addr) (F0 H0 : Hp) (ρ : Env') (A : Aims) : TS := fun D σ H => ∃ F, At ex F0 H0 ρ σ F H ∧
  (∀ ρ' σ' F' H', A.N ρ' → Same F F' → At ex F0 H0 ρ' σ' F' H' → D.nx σ' H') ∧ ((∀ d v ρ' σ' F' H', A.R d ρ' → At ex F0 H0 ρ' σ' F' H' → Rp F' v d → D.rt v H') ∧ ∀ v H', A.RR v H' → D.rt v H') ∧
  (∀ ρ' σ' F' H', A.B ρ' → Same F F' → At ex F0 H0 ρ' σ' F' H' → D.bk σ' H') ∧ (∀ ρ' σ' F' H', A.C ρ' → Same F F' → At ex F0 H0 ρ' σ' F' H' → D.ct σ' H')
abbrev DS (X : Cx) (ex : List Addr) (F0 H0 : Hp) (ρ : Env') (st : Stmt) (A : Aims) : Prop := PS X st (tS ex F0 H0 ρ A)
abbrev DSs (X : Cx) (ex : List Addr) (F0 H0 : Hp) (ρ : Env') (sts : List Stmt) (A : Aims) : Prop := PSs X sts (tS ex F0 H0 ρ A)
section
variable {X : Cx} {ex : List Addr} {F0 H0 : Hp} {ρ ρ1 : Env'} {st : Stmt} {sts : List Stmt} {A A' : Aims} {e c : Expr} {d : PyData} {pos : Pos} {σ : L2.St} {F H F2 H2 : Hp}
theorem At.grow (a : At ex F0 H0 ρ σ F H) (g : Grow F H F2 H2) : At ex F0 H0 ρ σ F2 H2 := ⟨a.g.trans g.up, a.ok.grow g, a.new⟩
theorem At.setD {i : Nat} {v : V} (a : At ex F0 H0 ρ σ F H) (r : Rp F v d) : At ex F0 H0 (ρ.set i (.dat d)) (σ.set i (some v)) F H := ⟨a.g, a.ok.setD r, fun j p w hj => by
  by_cases h : i = j
  · subst h
    have hl : i < ρ.length := by
      have := (List.getElem?_eq_some_iff.mp hj).1
      simpa using this
    rw [List.getElem?_set_self hl] at hj; cases hj
  · rw [List.getElem?_set_ne h] at hj; exact a.new j p w hj⟩
/-- the same ends by another list of names for what is known -/
theorem dss_imp (h : DSs X ex F0 H0 ρ sts A) (hN : ∀ ρ', A.N ρ' → A'.N ρ') (hR : ∀ d ρ', A.R d ρ' → A'.R d ρ') (hB : ∀ ρ', A.B ρ' → A'.B ρ') (hC : ∀ ρ', A.C ρ' → A'.C ρ') (hRR : ∀ v H', A.RR v H' → A'.RR v H' := by exact fun _ _ h => h) : DSs X ex F0 H0 ρ sts A' :=
  PSs.imp h fun D σ H ⟨F, a, n, r, b, c⟩ => ⟨F, a, fun ρ' σ' F' H' h1 => n ρ' σ' F' H' (hN _ h1), ⟨fun d v ρ' σ' F' H' h1 => r.1 d v ρ' σ' F' H' (hR _ _ h1), fun v H' h => r.2 v H' (hRR v H' h)⟩, fun ρ' σ' F' H' h1 => b ρ' σ' F' H' (hB _ h1), fun ρ' σ' F' H' h1 => c ρ' σ' F' H' (hC _ h1)⟩
theorem dss_seq {N1 : Env' → Prop} (h1 : DS X ex F0 H0 ρ st { A with N := N1 }) (h2 : ∀ ρ', N1 ρ' → DSs X ex F0 H0 ρ' sts A) : DSs X ex F0 H0 ρ (st :: sts) A :=
  PSs.imp (pss_cons h1 (PSs.any (c := N1) (t := fun ρ' => tS ex F0 H0 ρ' A) h2)) fun D σ H ⟨F, a, n, r, b, c⟩ =>
    ⟨F, a, fun ρ' σ' F' H' h s1 a' => ⟨ρ', h, F', a', fun ρ2 σ2 F2 H2 h2 s2 => n ρ2 σ2 F2 H2 h2 (s1.trans s2), r, fun ρ2 σ2 F2 H2 h2 s2 => b ρ2 σ2 F2 H2 h2 (s1.trans s2), fun ρ2 σ2 F2 H2 h2 s2 => c ρ2 σ2 F2 H2 h2 (s1.trans s2)⟩, r, b, c⟩
theorem dss_one (h1 : DS X ex F0 H0 ρ st A) : DSs X ex F0 H0 ρ [st] A := pss_one h1
theorem dss_nil (h : A.N ρ) : DSs X ex F0 H0 ρ [] A := PSs.imp pss_nil fun D σ H ⟨F, a, n, r, b, c⟩ => n ρ σ F H h (Same.refl _) a
/-- x = e -/
theorem ds_set (i : Nat) {x : Str} {pos' : Pos} (hN : X.N.Nodup) (he : DE X ρ e d) (h : A.N (ρ.set i (.dat d))) (hi : X.N[i]? = some x := by rfl) (hx : Loc X.env.scope x := by first | exact Or.inl rfl | exact Or.inr rfl) (hs : swapsWith e (some (.Name x pos')) pos.line X.env = pure false := by rfl)
    (hf : X.fn x = true ∨ X.env.scope.names.lookup x = some .local := by first | exact .inl rfl | exact .inr rfl) (hw : swappedStores [.Name x pos'] e X.env = pure none := by rfl) : DS X ex F0 H0 ρ (.Assign [.Name x pos'] e pos) A :=
  PS.imp (ps_set (i := i) hN hi hx he hs hf) fun D σ H ⟨F, a, n, r, b, c⟩ => ⟨F, a.ok, fun v F2 H2 g rv => n _ _ F2 H2 h g.f ((a.grow g).setD rv)⟩
/-- a target of any form = e -/
theorem ds_asg {tg : Expr} {is : List Nat} (he : DE X ρ e d) (hg : DG X ρ tg d ρ1 is) (h : A.N ρ1) (hs : swapsWithSole [tg] e pos.line X.env = pure false := by rfl) (hw : swappedStores [tg] e X.env = pure none := by rfl)
    (hh1 : (assignEach [tg] X.env).map (·.2) = [assign tg X.env] := by rfl) : DS X ex F0 H0 ρ (.Assign [tg] e pos) A :=
  PS.imp (ps_asg he hg.1 hs hw hh1) fun D σ H ⟨F, a, n, r, b, c⟩ => ⟨F, a.ok, fun v F2 H2 g rv => ⟨F2, a.ok.grow g, rv, fun σ' ok' _ => n _ _ F2 H2 h g.f ⟨a.g.trans g.up, ok', fun i p w q => a.new i p w (hg.2 i p w q)⟩⟩⟩
theorem ds_drop (he : DE X ρ e d) (h : A.N ρ) (hs : swapsWith e none pos.line X.env = pure false := by rfl) : DS X ex F0 H0 ρ (.Expr e pos) A :=
  PS.imp (ps_expr he hs) fun D σ H ⟨F, a, n, r, b, c⟩ => ⟨F, a.ok, fun v F2 H2 g rv => n _ _ F2 H2 h g.f (a.grow g)⟩
theorem ds_ret (he : DE X ρ e d) (h : A.R d ρ) : DS X ex F0 H0 ρ (.Return (some e) pos) A :=
  PS.imp (ps_ret he) fun D σ H ⟨F, a, n, r, b, c⟩ => ⟨F, a.ok, fun v F2 H2 g rv => r.1 d v ρ σ F2 H2 h (a.grow g) rv⟩
theorem ds_retN (h : A.R .none ρ) : DS X ex F0 H0 ρ (.Return none pos) A :=
  PS.imp ps_retN fun D σ H ⟨F, a, n, r, b, c⟩ => r.1 .none _ ρ σ F H h a .non
theorem ds_pass (h : A.N ρ) : DS X ex F0 H0 ρ (.Pass pos) A := PS.imp ps_pass fun D σ H ⟨F, a, n, r, b, c⟩ => n ρ σ F H h (Same.refl _) a
theorem ds_if {x : Bool} {s1 s2 : List Stmt} (hc : DT X ρ c x) (h1 : x = true → DSs X ex F0 H0 ρ s1 A) (h2 : x = false → DSs X ex F0 H0 ρ s2 A) : DS X ex F0 H0 ρ (.If c s1 s2 pos) A :=
  PS.imp (ps_if hc (PSs.any (ι := Unit) (c := fun _ => x = true) (t := fun _ => tS ex F0 H0 ρ A) fun _ q => h1 q) (PSs.any (ι := Unit) (c := fun _ => x = false) (t := fun _ => tS ex F0 H0 ρ A) fun _ q => h2 q)) fun D σ H ⟨F, a, n, r, b, c⟩ => ⟨F, a.ok, fun F2 H2 g => by
    cases x with
    | true => exact iteT ⟨(), rfl, F2, a.grow g, fun ρ2 σ2 F3 H3 h2 s2 => n ρ2 σ2 F3 H3 h2 (g.f.trans s2), r, fun ρ2 σ2 F3 H3 h2 s2 => b ρ2 σ2 F3 H3 h2 (g.f.trans s2), fun ρ2 σ2 F3 H3 h2 s2 => c ρ2 σ2 F3 H3 h2 (g.f.trans s2)⟩
    | false => exact iteF ⟨(), rfl, F2, a.grow g, fun ρ2 σ2 F3 H3 h2 s2 => n ρ2 σ2 F3 H3 h2 (g.f.trans s2), r, fun ρ2 σ2 F3 H3 h2 s2 => b ρ2 σ2 F3 H3 h2 (g.f.trans s2), fun ρ2 σ2 F3 H3 h2 s2 => c ρ2 σ2 F3 H3 h2 (g.f.trans s2)⟩⟩
/-- an own list is made: x = [] -/
theorem ds_newl (i : Nat) {x : Str} {pos' lp : Pos} (hN : X.N.Nodup) (h : ∀ p, A.N (ρ.set i (.own p (.lst [])))) (hi : X.N[i]? = some x := by rfl) (hx : Loc X.env.scope x := by first | exact Or.inl rfl | exact Or.inr rfl) (hs : swapsWith (.List [] lp) (some (.Name x pos')) pos.line X.env = pure false := by rfl)
    (hf : X.fn x = true ∨ X.env.scope.names.lookup x = some .local := by first | exact .inl rfl | exact .inr rfl) : DS X ex F0 H0 ρ (.Assign [.Name x pos'] (.List [] lp) pos) A :=
  PS.imp (ps_set (i := i) hN hi hx (pe_lst pa_nil) hs hf) fun D σ H ⟨F, a, n, r, b, c⟩ => ⟨Nat.zero_le _, fun p hp => by
    have hF := same_none a.ok.s hp
    have g : Grow F H F (upd H p (.lst [])) := Grow.skip a.ok.s hp
    refine n _ _ F _ (h p) (Same.refl _) ⟨a.g.trans g.up, (a.ok.grow g).set ⟨rfl, hF, _, upd_same, [], rfl, .nil⟩ fun q w e j q' w' hj _ => ?_, fun j q w hj => ?_⟩
    · cases e
      intro z; subst z
      obtain ⟨_, _, ho, h1, _⟩ := a.ok.own hj
      rw [hp] at h1; cases h1
    · by_cases hij : i = j
      · subst hij
        have hl : i < ρ.length := by
          have := (List.getElem?_eq_some_iff.mp hj).1
          simpa using this
        rw [List.getElem?_set_self hl] at hj; cases hj
        exact .inl (by
          cases q' : H0 p with
          | none => rfl
          | some u => exact absurd hp (a.g.k p (by rw [q']; simp)))
      · rw [List.getElem?_set_ne hij] at hj; exact a.new j q w hj⟩
theorem Ok.lstIs {i : Nat} {p : Addr} {ds : List PyData} (h : Ok F H ρ σ) (e : ρ[i]? = some (.own p (.lst ds))) : ∃ xs, σ[i]? = some (some (.ref p)) ∧ F p = none ∧ H p = some (.lst xs) ∧ RpA F xs ds := by
  obtain ⟨h1, h2, ho, h3, xs, rfl, r⟩ := h.own e
  exact ⟨xs, h1, h2, h3, r⟩
/-- the thing at p in slot i is written -/
theorem At.write {i : Nat} {p : Addr} {w w' : Ow} {o : HO} (a : At ex F0 H0 ρ σ F H) (hi : ρ[i]? = some (.own p w)) (ho : w'.φ F o) : At ex F0 H0 (ρ.set i (.own p w')) σ F (upd H p o) := by
  obtain ⟨h1, h2, ho1, h3, h3w⟩ := a.ok.own hi
  have hl : i < ρ.length := (List.getElem?_eq_some_iff.mp hi).1
  have sF : Same F (upd H p o) := fun b u q => by
    have hb : b ≠ p := fun z => by subst z; rw [h2] at q; cases q
    rw [upd_ne hb]; exact a.ok.s b u q
  refine ⟨⟨a.g.f, sF, fun b u hx q qi => ?_, fun b q => ?_, a.g.n, fun b q => (a.g.m b q).upd (w'.nt ho), fun b q => (a.g.t b q).upd (tbl_nt h3 (plB_nt (w.nt h3w)))⟩, ⟨sF, by simp [a.ok.len], fun j e hj => ?_, fun j k q q' v v' hj hk hjk => ?_⟩, fun j q v hj => ?_⟩
  · have hb : b ≠ p := fun z => by
      subst z
      rcases a.new i b w hi with h | h
      · rw [h] at q; cases q
      · exact hx h
    rw [upd_ne hb]; exact a.g.h b u hx q qi
  · by_cases hb : b = p
    · subst hb; rw [upd_same]; simp
    · rw [upd_ne hb]; exact a.g.k b q
  · by_cases hij : i = j
    · subst hij
      rw [List.getElem?_set_self hl] at hj; cases hj
      exact ⟨_, h1, rfl, h2, o, upd_same, ho⟩
    · rw [List.getElem?_set_ne hij] at hj
      obtain ⟨oo, e1, e2⟩ := a.ok.at_ j e hj
      refine ⟨oo, e1, ?_⟩
      cases e with
      | no => trivial
      | dat d => exact e2
      | val v => exact e2
      | fx q u => exact e2
      | st q w => exact e2
      | own q v =>
        obtain ⟨x1, x2, hh, x3, x4⟩ := e2
        exact ⟨x1, x2, hh, by rw [upd_ne (a.ok.ne j i q p v w hj hi (Ne.symm hij))]; exact x3, x4⟩
  · have f : ∀ {j : Nat} {q : Addr} {v : Ow}, (ρ.set i (.own p w'))[j]? = some (.own q v) → ∃ v0, ρ[j]? = some (.own q v0) := fun {j q v} hj => by
      by_cases hij : i = j
      · subst hij
        rw [List.getElem?_set_self hl] at hj; cases hj
        exact ⟨w, hi⟩
      · rw [List.getElem?_set_ne hij] at hj; exact ⟨v, hj⟩
    obtain ⟨_, y1⟩ := f hj
    obtain ⟨_, y2⟩ := f hk
    exact a.ok.ne j k q q' _ _ y1 y2 hjk
  · by_cases hij : i = j
    · subst hij
      rw [List.getElem?_set_self hl] at hj; cases hj
      exact a.new i p w hi
    · rw [List.getElem?_set_ne hij] at hj; exact a.new j q v hj
/-- xs.append(e), xs an own list in slot i -/
theorem ds_app (i : Nat) {p : Addr} {ds : List PyData} {x : Str} {px apos cpos : Pos} (he : DA X ρ [e] [d]) (h : A.N (ρ.set i (.own p (.lst (ds ++ [d]))))) (hl : ds.length < sizeLine) (hi : ρ[i]? = some (.own p (.lst ds)) := by rfl)
    (hxN : X.N[i]? = some x := by rfl) (hv : Vis X.env.scope x := by first | exact Or.inl rfl | exact Or.inr (Or.inl rfl) | exact Or.inr (Or.inr rfl)) (hd : (x == ("__debug__" : Str)) = false := by decide) (hcd : (x == ("__classdict__" : Str)) = false := by decide)
    (hbase : attributeBase (.Name x px) "append" X.env (eval (.Name x px) X.env) = eval (.Name x px) X.env := by rfl)
    (hfew : ((backTo cpos (starEach [e] X.env)).all (fun x => !x.1) && (backToKw cpos (keywordEach [] X.env)).all (fun x => x.1.isSome) && decide (([e] : List Expr).length + ([] : List Keyword).length + (if ([] : List Keyword).isEmpty then 0 else 1) < 30)) = true := by rfl)
    (hline : (apos.endLine == cpos.line) = true := by rfl) (hst : starEach [e] X.env = (false, eval e X.env) :: starEach [] X.env := by rfl) (hpl : (backTo cpos (starEach [] X.env)).any (·.1) = false := by rfl)
    (hs : swapsWith (.Call (.Attribute (.Name x px) "append" apos) [e] [] cpos) none pos.line X.env = pure false := by rfl) :
    DS X ex F0 H0 ρ (.Expr (.Call (.Attribute (.Name x px) "append" apos) [e] [] cpos) pos) A :=
  PS.imp (ps_expr (pe_bm PySem.F.plainAttrs_list PySem.F.slot_list_append PySem.F.type_list_append mt_append (pe_var hxN hv hd hcd) he hbase hfew hline hst hpl) hs) fun D σ H ⟨F, a, n, r, b, c⟩ => by
    obtain ⟨xs, h1, h2, h3, h4⟩ := a.ok.lstIs hi
    refine ⟨_, h1, .inl ⟨rfl, xs, SqL.of h3⟩, F, a.ok, fun vs F2 H2 g rv => ?_⟩
    cases rv with
    | cons rv rr =>
      cases rr
      have h5 := g.same p _ h3 rfl
      exact ⟨p, xs, _, rfl, rfl, h5, by rw [h4.len]; exact hl, n _ _ F2 _ h g.f ((a.grow g).write hi ⟨_, rfl, (h4.mono g.f).append (.cons rv .nil)⟩)⟩
/-- an own list stands still from here on -/
theorem Ok.freeze {i : Nat} {p : Addr} {ds : List PyData} (h : Ok F H ρ σ) (hi : ρ[i]? = some (.own p (.lst ds))) : ∃ xs, H p = some (.lst xs) ∧ F p = none ∧ RpA F xs ds ∧ Ok (upd F p (.lst xs)) H (ρ.set i (.dat (.list ds))) σ := by
  obtain ⟨xs, h1, h2, h3, h4⟩ := h.lstIs hi
  have hl : i < ρ.length := (List.getElem?_eq_some_iff.mp hi).1
  have sF : Same F (upd F p (.lst xs)) := Same.upd_new h2
  have sH : Same (upd F p (.lst xs)) H := fun b u q => by
    by_cases hb : b = p
    · subst hb; rw [upd_same] at q; cases q; exact h3
    · rw [upd_ne hb] at q; exact h.s b u q
  refine ⟨xs, h3, h2, h4, sH, by simp [h.len], fun j e hj => ?_, fun j k q q' v v' hj hk hjk => ?_⟩
  · by_cases hij : i = j
    · subst hij
      rw [List.getElem?_set_self hl] at hj; cases hj
      exact ⟨_, h1, _, rfl, .lst upd_same (h4.mono sF)⟩
    · rw [List.getElem?_set_ne hij] at hj
      obtain ⟨oo, e1, e2⟩ := h.at_ j e hj
      refine ⟨oo, e1, ?_⟩
      cases e with
      | no => trivial
      | dat d => obtain ⟨v, x1, x2⟩ := e2; exact ⟨v, x1, x2.mono sF⟩
      | val v => exact e2
      | fx q u => exact ⟨e2.1, sF _ _ e2.2⟩
      | st q w => exact ⟨e2.1, let ⟨u, hu, hw⟩ := e2.2; ⟨u, sF _ _ hu, w.mono sF hw⟩⟩
      | own q v =>
        obtain ⟨x1, x2, hh, x3, x4⟩ := e2
        exact ⟨x1, by rw [upd_ne (h.ne j i q p v _ hj hi (Ne.symm hij))]; exact x2, hh, x3, v.mono sF x4⟩
  · have f : ∀ {j : Nat} {q : Addr} {v : Ow}, (ρ.set i (.dat (.list ds)))[j]? = some (.own q v) → ρ[j]? = some (.own q v) := fun {j q v} hj => by
      by_cases hij : i = j
      · subst hij
        rw [List.getElem?_set_self hl] at hj; cases hj
      · rw [List.getElem?_set_ne hij] at hj; exact hj
    exact h.ne j k q q' _ _ (f hj) (f hk) hjk
theorem At.freeze {i : Nat} {p : Addr} {ds : List PyData} (a : At ex F0 H0 ρ σ F H) (hi : ρ[i]? = some (.own p (.lst ds))) (hex : ex = []) : ∃ F', Same F F' ∧ At ex F0 H0 (ρ.set i (.dat (.list ds))) σ F' H := by
  obtain ⟨xs, h3, h2, _, ok⟩ := a.ok.freeze hi
  have hl : i < ρ.length := (List.getElem?_eq_some_iff.mp hi).1
  have hp0 : H0 p = none := by
    rcases a.new i p _ hi with h | h
    · exact h
    · subst hex; cases h
  refine ⟨upd F p (.lst xs), Same.upd_new h2, ⟨a.g.f.trans (Same.upd_new h2), ok.s, a.g.h, a.g.k, fun b q1 q2 => ?_, a.g.m, fun b q => (a.g.t b q).updF h2 (tbl_nt h3 rfl)⟩, ok, fun j q v hj => ?_⟩
  · have hb : b ≠ p := fun z => by subst z; exact q2.ne hp0
    rw [upd_ne hb]; exact a.g.n b q1 q2
  · by_cases hij : i = j
    · subst hij
      rw [List.getElem?_set_self hl] at hj; cases hj
    · rw [List.getElem?_set_ne hij] at hj; exact a.new j q v hj
theorem dss_freeze (i : Nat) {p : Addr} {ds : List PyData} (h : DSs X [] F0 H0 (ρ.set i (.dat (.list ds))) sts A) (hi : ρ[i]? = some (.own p (.lst ds)) := by rfl) : DSs X [] F0 H0 ρ sts A :=
  PSs.imp h fun D σ H ⟨F, a, n, r, b, c⟩ => let ⟨F', s1, a'⟩ := a.freeze hi rfl; ⟨F', a', fun ρ2 σ2 F3 H3 h2 s2 => n ρ2 σ2 F3 H3 h2 (s1.trans s2), r, fun ρ2 σ2 F3 H3 h2 s2 => b ρ2 σ2 F3 H3 h2 (s1.trans s2), fun ρ2 σ2 F3 H3 h2 s2 => c ρ2 σ2 F3 H3 h2 (s1.trans s2)⟩
/-- a part of what is known is enough -/
theorem dss_forget (i : Nat) (h : DSs X ex F0 H0 (ρ.set i .no) sts A) : DSs X ex F0 H0 ρ sts A :=
  PSs.imp h fun D σ H ⟨F, a, q⟩ => ⟨F, ⟨a.g, a.ok.forget, fun j p w hj => by
    by_cases hij : i = j
    · subst hij
      have hl : i < ρ.length := by
        have := (List.getElem?_eq_some_iff.mp hj).1
        simpa using this
      rw [List.getElem?_set_self hl] at hj; cases hj
    · rw [List.getElem?_set_ne hij] at hj; exact a.new j p w hj⟩, q⟩
/-- the thing at p is told no more -/
theorem GrowX.untell {ex : List Addr} {F H F2 H2 : Hp} {p : Addr} {o : HO} (g : GrowX ex (upd F p o) H F2 H2) (h2 : F p = none) (h3 : H p = some o) (hn : ntB o = true) (hc : ∀ c q, o ≠ LamX.CodeO c q) : GrowX ex F H (fun a => if a = p then none else F2 a) H2 := by
  refine ⟨fun b u q => ?_, fun b u q => ?_, g.h, g.k, fun b q1 q2 => ?_, g.m, fun b q => ?_⟩
  · have hb : b ≠ p := fun z => by subst z; rw [h2] at q; cases q
    simp only [hb, if_false]
    exact g.f b u (by rw [upd_ne hb]; exact q)
  · by_cases hb : b = p
    · simp [hb] at q
    · simp only [hb, if_false] at q; exact g.s b u q
  · by_cases hb : b = p
    · simp [hb]
    · simp only [hb, if_false]; exact g.n b (by rw [upd_ne hb]; exact q1) q2
  · obtain ⟨z1, ps, z2, z3, z4⟩ := g.t b (q.updF h2 (tbl_nt h3 hn))
    refine ⟨?_, ps, z2, z3, fun pos cv e => ?_⟩
    · by_cases hb : b = p
      · simp [hb]
      · simp only [hb, if_false]; exact z1
    obtain ⟨c, e1, e2⟩ := z4 pos cv e
    refine ⟨c, e1, ?_⟩
    have hcp : c ≠ p := fun z => by
      subst z
      have := g.f c o upd_same
      rw [e2] at this
      exact hc _ _ (Option.some.inj this).symm
    simp only [hcp, if_false]
    exact e2
/-- an own list is read, for something flat -/
theorem de_peek (i : Nat) {p : Addr} {ds : List PyData} (hi : ρ[i]? = some (.own p (.lst ds))) (h : DE X (ρ.set i (.dat (.list ds))) e d) (hf : flatD d = true := by rfl) : DE X ρ e d :=
  PE.imp h fun σ H Q ⟨F, ok, k⟩ => by
    obtain ⟨xs, h3, h2, _, ok'⟩ := ok.freeze hi
    refine ⟨_, ok', fun v F2 H2 g r => k v _ H2 (g.untell h2 h3 rfl (fun _ _ z => by cases z)) (r.flat hf)⟩
/-! ## loops -/
/-- for: I, what is known by the turn -/
theorem ds_for {tg iter : Expr} {body : List Stmt} {ds : List PyData} (I : Nat → Env' → Prop) (hi : DI X ρ tg iter ds) (h0 : I 0 ρ)
    (hs : ∀ (i : Nat) (x : PyData) (ρ' : Env'), ds[i]? = some x → I i ρ' → ∃ ρ2 is, DG X ρ' tg x ρ2 is ∧ DSs X ex F0 H0 ρ2 body { A with N := I (i + 1), B := A.N, C := I (i + 1) })
    (hd : ∀ ρ', I ds.length ρ' → A.N ρ') (hp : PassesOwn (model X.prog X.w) X.A X.env X.xe := by exact PassesOwn.never) (hc : X.calm = true := by rfl) (hse : ∀ x, foldedSetIterable iter X.env x = pure x := by intro _; rfl) : DS X ex F0 H0 ρ (.For tg iter body [] pos) A := by
  refine PS.imp (ps_for hp hc hi (g := fun v σ H Q => ∃ q : Env' × PyData × Env' × List Nat, PG X tg (tDG q.1 q.2.1 q.2.2.1 q.2.2.2) ∧ tDG q.1 q.2.1 q.2.2.1 q.2.2.2 v σ H Q) (tb := fun D σ H => ∃ q : Env' × Aims, DSs X ex F0 H0 q.1 body q.2 ∧ tS ex F0 H0 q.1 q.2 D σ H)
    (PG.any fun q h => h) (PSs.any fun q h => h) hse) fun D σ H ⟨F, a, n, r, b, c⟩ => ⟨F, a.ok, fun J F1 H1 g1 hJ => ?_⟩
  refine ⟨fun i m σ' H' => m = ds.length - i ∧ i ≤ ds.length ∧ ∃ ρ' F', I i ρ' ∧ At ex F0 H0 ρ' σ' F' H' ∧ Same F1 F', ⟨ds.length, by simp, Nat.zero_le _, ρ, F1, h0, a.grow g1, Same.refl _⟩, ?_⟩
  rintro i m σ' H' ⟨rfl, hle, ρ', F', hI, a', sF⟩
  obtain ⟨j1, j2⟩ := hJ i F' H' sF a'.ok.s
  by_cases hlt : i < ds.length
  · right
    have hd' : ds[i]? = some ds[i] := List.getElem?_eq_getElem hlt
    obtain ⟨go, yl⟩ := j1 _ hd'
    refine ⟨go, fun σ2 H2 => ∃ ρ2 F2, I (i + 1) ρ2 ∧ At ex F0 H0 ρ2 σ2 F2 H2 ∧ Same F1 F2, fun σ2 H2 ⟨ρ2, F2, q1, q2, q3⟩ => ⟨ds.length - (i + 1), by omega, rfl, hlt, ρ2, F2, q1, q2, q3⟩, fun x H2 hy => ?_⟩
    obtain ⟨F2, g2, rx⟩ := yl x H2 hy
    obtain ⟨ρ2, is, ⟨hG, hr⟩, hB⟩ := hs i _ ρ' hd' hI
    have a2 := a'.grow g2
    refine ⟨(ρ', ds[i], ρ2, is), hG, F2, a2.ok, rx, fun σ3 ok3 _ => ⟨(ρ2, _), hB, F2, ⟨a2.g, ok3, fun i p w q => a2.new i p w (hr i p w q)⟩, fun ρ4 σ4 F4 H4 h4 s4 a4 => ⟨ρ4, F4, h4, a4, sF.trans (g2.f.trans s4)⟩, r,
      fun ρ4 σ4 F4 H4 h4 s4 a4 => n ρ4 σ4 F4 H4 h4 (g1.f.trans (sF.trans (g2.f.trans s4))) a4, fun ρ4 σ4 F4 H4 h4 s4 a4 => ⟨ρ4, F4, h4, a4, sF.trans (g2.f.trans s4)⟩⟩⟩
  · left
    have hi' : i = ds.length := by omega
    subst hi'
    exact ⟨j2 (by simp), n _ _ F' H' (hd _ hI) (g1.f.trans sF) a'⟩
/-- while: W, what is known, with its measure -/
theorem ds_while {body : List Stmt} (W : Nat → Env' → Prop) (m0 : Nat) (h0 : W m0 ρ)
    (hs : ∀ (m : Nat) (ρ' : Env'), W m ρ' → ∃ x, DT X ρ' c x ∧ (x = true → DSs X ex F0 H0 ρ' body { A with N := fun ρ2 => ∃ m', m' < m ∧ W m' ρ2, B := A.N, C := fun ρ2 => ∃ m', m' < m ∧ W m' ρ2 }) ∧ (x = false → A.N ρ'))
    (hp : PassesOwn (model X.prog X.w) X.A X.env X.xe := by exact PassesOwn.never) : DS X ex F0 H0 ρ (.While c body [] pos) A := by
  refine PS.imp (ps_while hp (PT.any (ι := Env' × Bool) (c := fun q => DT X q.1 c q.2) (t := fun q => tDT q.1 q.2) fun q h => h) (tb := fun D σ H => ∃ q : Env' × Aims, DSs X ex F0 H0 q.1 body q.2 ∧ tS ex F0 H0 q.1 q.2 D σ H) (PSs.any fun q h => h)) fun D σ H ⟨F, a, n, r, b, _⟩ => ?_
  refine ⟨fun m σ' H' => ∃ ρ' F', W m ρ' ∧ At ex F0 H0 ρ' σ' F' H' ∧ Same F F', ⟨m0, ρ, F, h0, a, Same.refl _⟩, ?_⟩
  rintro m σ' H' ⟨ρ', F', hW, a', sF⟩
  obtain ⟨x, hx, h1, h2⟩ := hs m ρ' hW
  refine ⟨(ρ', x), hx, F', a'.ok, fun F2 H2 g2 => ?_⟩
  cases x with
  | true =>
    refine iteT ⟨fun σ2 H2 => ∃ m', m' < m ∧ ∃ ρ2 F2, W m' ρ2 ∧ At ex F0 H0 ρ2 σ2 F2 H2 ∧ Same F F2, fun _ _ h => h, (ρ', _), h1 rfl, F2, a'.grow g2, ?_, r, ?_, ?_⟩
    · rintro ρ4 σ4 F4 H4 ⟨m', hm, hW'⟩ s4 a4
      exact ⟨m', hm, ρ4, F4, hW', a4, sF.trans (g2.f.trans s4)⟩
    · exact fun ρ4 σ4 F4 H4 h4 s4 a4 => n ρ4 σ4 F4 H4 h4 (sF.trans (g2.f.trans s4)) a4
    · rintro ρ4 σ4 F4 H4 ⟨m', hm, hW'⟩ s4 a4
      exact ⟨m', hm, ρ4, F4, hW', a4, sF.trans (g2.f.trans s4)⟩
  | false => exact iteF (n _ _ F2 H2 (h2 rfl) (sF.trans g2.f) (a'.grow g2))
end

/-! ## the same, with what stands behind -/
section
variable {X : Cx} {ex : List Addr} {F0 H0 : Hp} {ρ ρ1 : Env'} {st : Stmt} {sts : List Stmt} {A : Aims} {e c : Expr} {d : PyData} {pos : Pos}
theorem dss_set (i : Nat) {x : Str} {pos' : Pos} (hN : X.N.Nodup) (he : DE X ρ e d) (k : DSs X ex F0 H0 (ρ.set i (.dat d)) sts A) (hi : X.N[i]? = some x := by rfl) (hx : Loc X.env.scope x := by first | exact Or.inl rfl | exact Or.inr rfl) (hs : swapsWith e (some (.Name x pos')) pos.line X.env = pure false := by rfl)
    (hf : X.fn x = true ∨ X.env.scope.names.lookup x = some .local := by first | exact .inl rfl | exact .inr rfl) (hw : swappedStores [.Name x pos'] e X.env = pure none := by rfl) : DSs X ex F0 H0 ρ (.Assign [.Name x pos'] e pos :: sts) A :=
  dss_seq (N1 := fun ρ' => ρ' = ρ.set i (.dat d)) (ds_set i hN he rfl hi hx hs hf hw) fun _ h => h ▸ k
theorem dss_asg {tg : Expr} {is : List Nat} (he : DE X ρ e d) (hg : DG X ρ tg d ρ1 is) (k : DSs X ex F0 H0 ρ1 sts A) (hs : swapsWithSole [tg] e pos.line X.env = pure false := by rfl) (hw : swappedStores [tg] e X.env = pure none := by rfl)
    (hh1 : (assignEach [tg] X.env).map (·.2) = [assign tg X.env] := by rfl) : DSs X ex F0 H0 ρ (.Assign [tg] e pos :: sts) A :=
  dss_seq (N1 := fun ρ' => ρ' = ρ1) (ds_asg he hg rfl hs hw hh1) fun _ h => h ▸ k
theorem dss_drop (he : DE X ρ e d) (k : DSs X ex F0 H0 ρ sts A) (hs : swapsWith e none pos.line X.env = pure false := by rfl) : DSs X ex F0 H0 ρ (.Expr e pos :: sts) A :=
  dss_seq (N1 := fun ρ' => ρ' = ρ) (ds_drop he rfl hs) fun _ h => h ▸ k
theorem dss_ret (he : DE X ρ e d) (h : A.R d ρ) : DSs X ex F0 H0 ρ (.Return (some e) pos :: sts) A :=
  dss_seq (N1 := fun _ => False) (ds_ret he h) fun _ h => h.elim
/-- what is handed back is said outright -/
theorem dss_retRaw {te : TE} (he : PE X e te) (h : ∀ σ F H, At ex F0 H0 ρ σ F H → te σ H A.RR) (hm : ∀ σ H (Q Q' : VK), (∀ v H', Q v H' → Q' v H') → te σ H Q → te σ H Q') : DSs X ex F0 H0 ρ (.Return (some e) pos :: sts) A :=
  dss_seq (N1 := fun _ => False) (PS.imp (ps_ret he) fun D σ H ⟨F, a, n, r, b, c⟩ => hm σ H A.RR D.rt r.2 (h σ F H a)) fun _ h => h.elim
theorem dss_newl (i : Nat) {x : Str} {pos' lp : Pos} (hN : X.N.Nodup) (k : ∀ p, DSs X ex F0 H0 (ρ.set i (.own p (.lst []))) sts A) (hi : X.N[i]? = some x := by rfl) (hx : Loc X.env.scope x := by first | exact Or.inl rfl | exact Or.inr rfl) (hs : swapsWith (.List [] lp) (some (.Name x pos')) pos.line X.env = pure false := by rfl)
    (hf : X.fn x = true ∨ X.env.scope.names.lookup x = some .local := by first | exact .inl rfl | exact .inr rfl) : DSs X ex F0 H0 ρ (.Assign [.Name x pos'] (.List [] lp) pos :: sts) A :=
  dss_seq (N1 := fun ρ' => ∃ p, ρ' = ρ.set i (.own p (.lst []))) (ds_newl i hN (fun p => ⟨p, rfl⟩) hi hx hs hf) fun _ ⟨p, h⟩ => h ▸ k p
theorem dss_app (i : Nat) {p : Addr} {ds : List PyData} {x : Str} {px apos cpos : Pos} (he : DA X ρ [e] [d]) (hl : ds.length < sizeLine) (k : DSs X ex F0 H0 (ρ.set i (.own p (.lst (ds ++ [d])))) sts A) (hi : ρ[i]? = some (.own p (.lst ds)) := by rfl)
    (hxN : X.N[i]? = some x := by rfl) (hv : Vis X.env.scope x := by first | exact Or.inl rfl | exact Or.inr (Or.inl rfl) | exact Or.inr (Or.inr rfl)) (hd : (x == ("__debug__" : Str)) = false := by decide) (hcd : (x == ("__classdict__" : Str)) = false := by decide)
    (hbase : attributeBase (.Name x px) "append" X.env (eval (.Name x px) X.env) = eval (.Name x px) X.env := by rfl)
    (hfew : ((backTo cpos (starEach [e] X.env)).all (fun x => !x.1) && (backToKw cpos (keywordEach [] X.env)).all (fun x => x.1.isSome) && decide (([e] : List Expr).length + ([] : List Keyword).length + (if ([] : List Keyword).isEmpty then 0 else 1) < 30)) = true := by rfl)
    (hline : (apos.endLine == cpos.line) = true := by rfl) (hst : starEach [e] X.env = (false, eval e X.env) :: starEach [] X.env := by rfl) (hpl : (backTo cpos (starEach [] X.env)).any (·.1) = false := by rfl)
    (hs : swapsWith (.Call (.Attribute (.Name x px) "append" apos) [e] [] cpos) none pos.line X.env = pure false := by rfl) :
    DSs X ex F0 H0 ρ (.Expr (.Call (.Attribute (.Name x px) "append" apos) [e] [] cpos) pos :: sts) A :=
  dss_seq (N1 := fun ρ' => ρ' = ρ.set i (.own p (.lst (ds ++ [d])))) (ds_app i he rfl hl hi hxN hv hd hcd hbase hfew hline hst hpl hs) fun _ h => h ▸ k
/-- an if whose ways go on -/
theorem dss_if {x : Bool} {s1 s2 : List Stmt} (N1 : Env' → Prop) (hc : DT X ρ c x) (h1 : x = true → DSs X ex F0 H0 ρ s1 { A with N := N1 }) (h2 : x = false → DSs X ex F0 H0 ρ s2 { A with N := N1 }) (k : ∀ ρ', N1 ρ' → DSs X ex F0 H0 ρ' sts A) : DSs X ex F0 H0 ρ (.If c s1 s2 pos :: sts) A :=
  dss_seq (N1 := N1) (ds_if hc h1 h2) k
/-- an if whose body leaves: behind it its test was false -/
theorem dss_ifx {x : Bool} {s1 : List Stmt} (hc : DT X ρ c x) (h1 : x = true → DSs X ex F0 H0 ρ s1 { A with N := fun _ => False }) (k : x = false → DSs X ex F0 H0 ρ sts A) : DSs X ex F0 H0 ρ (.If c s1 [] pos :: sts) A :=
  dss_seq (N1 := fun ρ' => ρ' = ρ ∧ x = false) (ds_if hc (fun h => dss_imp (h1 h) (fun _ q => q.elim) (fun _ _ q => q) (fun _ q => q) (fun _ q => q)) (fun h => dss_nil ⟨rfl, h⟩)) fun _ ⟨h, h'⟩ => h ▸ k h'
theorem dss_for {tg iter : Expr} {body : List Stmt} {ds : List PyData} (I : Nat → Env' → Prop) (hi : DI X ρ tg iter ds) (h0 : I 0 ρ)
    (hs : ∀ (i : Nat) (x : PyData) (ρ' : Env'), ds[i]? = some x → I i ρ' → ∃ ρ2 is, DG X ρ' tg x ρ2 is ∧ DSs X ex F0 H0 ρ2 body { A with N := I (i + 1), B := I ds.length, C := I (i + 1) })
    (k : ∀ ρ', I ds.length ρ' → DSs X ex F0 H0 ρ' sts A) (hp : PassesOwn (model X.prog X.w) X.A X.env X.xe := by exact PassesOwn.never) (hc : X.calm = true := by rfl) (hse : ∀ x, foldedSetIterable iter X.env x = pure x := by intro _; rfl) : DSs X ex F0 H0 ρ (.For tg iter body [] pos :: sts) A :=
  dss_seq (N1 := I ds.length) (ds_for I hi h0 hs (fun _ h => h) hp hc hse) k
theorem dss_while {body : List Stmt} (W : Nat → Env' → Prop) (N1 : Env' → Prop) (m0 : Nat) (h0 : W m0 ρ)
    (hs : ∀ (m : Nat) (ρ' : Env'), W m ρ' → ∃ x, DT X ρ' c x ∧ (x = true → DSs X ex F0 H0 ρ' body { A with N := fun ρ2 => ∃ m', m' < m ∧ W m' ρ2, B := N1, C := fun ρ2 => ∃ m', m' < m ∧ W m' ρ2 }) ∧ (x = false → N1 ρ'))
    (k : ∀ ρ', N1 ρ' → DSs X ex F0 H0 ρ' sts A) (hp : PassesOwn (model X.prog X.w) X.A X.env X.xe := by exact PassesOwn.never) : DSs X ex F0 H0 ρ (.While c body [] pos :: sts) A :=
  dss_seq (N1 := N1) (ds_while W m0 h0 hs hp) k
end

/-! ## defs -/
/-- a promise: from data to data, nothing that stood is changed -/
def spP (P : List PyData → PyData → Prop) : Sp := fun vs H Q _ => ∃ F ds d, Same F H ∧ RpA F vs ds ∧ P ds d ∧ ∀ v F2 H2, Grow F H F2 H2 → Rp F2 v d → Q v H2
/-- a def that stands under its name -/
def Cal (P : Program) (w : World) (K : PySem.W.Frag) (mg : Str → Option Value) (base : Heap) (k : Nat) (x : Str) (n : Nat) (sp : Sp) : Prop :=
  ∃ f fd ps, mg x = some (.ref f) ∧ PySem.W.keepIn K (.ref f) = true ∧ Binds K fd ps [] ∧ ps.length = n ∧ FnOk P w K mg base CX0 k f fd ps sp
section
variable {X : Cx} {ρ : Env'} {e : Expr} {es : List Expr} {pos p : Pos} {x : Str} {k n : Nat} {P : List PyData → PyData → Prop} {ds : List PyData} {d : PyData}
theorem de_call (G : Cal X.prog X.w X.K X.mg X.base k x n (spP P)) (hr : Room k X.A) (ha : DA X ρ (e :: es) ds) (hP : P ds d) (hg : Gl X x := by rfl) (hdb : (x == ("__debug__" : Str)) = false := by decide)
    (he : starEach (e :: es) X.env = (false, eval e X.env) :: starEach es X.env := by rfl) (hpl : (backTo pos (starEach es X.env)).any (·.1) = false := by rfl) : DE X ρ (.Call (.Name x p) (e :: es) [] pos) d := by
  obtain ⟨f, fd, ps, h1, h2, h3, _, h4⟩ := G
  exact PE.imp (pe_call h4 hr hg h1 h2 h3 .nil pass0 ha hdb he hpl) fun σ H Q ⟨F, ok, k⟩ => ⟨F, ok, fun vs F2 H2 g r => by
    show spP P (vs ++ []) H2 Q E0
    rw [List.append_nil]
    exact ⟨F2, ds, d, g.s, r, hP, fun v F3 H3 g3 r3 => k v F3 H3 (g.trans g3) r3⟩⟩
end
/-- the slots at the entry: the parameters, then nothing -/
def entry (ds : List PyData) (n : Nat) : Env' := ds.map .dat ++ List.replicate (n - ds.length) .no
theorem ok_entry {F H : Hp} {vs : List V} {ds : List PyData} {N : List Str} (e : Same F H) (r : RpA F vs ds) (hl : ds.length ≤ N.length) : Ok F H (entry ds N.length) (L2.start N vs) := by
  have hlen := r.len
  refine ⟨e, by simp [entry, L2.start, hlen], fun i en hi => ?_, fun i j p q w w' hi => ?_⟩
  · unfold entry at hi
    unfold L2.start
    by_cases h : i < ds.length
    · rw [List.getElem?_append_left (by simpa using h), List.getElem?_map] at hi
      obtain ⟨d, h1, rfl⟩ := Option.map_eq_some_iff.mp hi
      obtain ⟨v, h2, rv⟩ := r.get h1
      refine ⟨some v, ?_, v, rfl, rv⟩
      rw [List.getElem?_append_left (by simp; omega), List.getElem?_map, h2]; rfl
    · rw [List.getElem?_append_right (by simp; omega)] at hi
      have hi2 : i < N.length := by
        have := (List.getElem?_eq_some_iff.mp hi).1
        simp at this; omega
      have he : en = .no := by
        obtain ⟨_, h2⟩ := List.getElem?_eq_some_iff.mp hi
        simpa using h2.symm
      subst he
      refine ⟨none, ?_, trivial⟩
      rw [List.getElem?_append_right (by simp; omega)]
      exact List.getElem?_eq_some_iff.mpr ⟨by simp; omega, by simp⟩
  · exfalso
    unfold entry at hi
    by_cases h : i < ds.length
    · rw [List.getElem?_append_left (by simpa using h), List.getElem?_map] at hi
      obtain ⟨d, h1, h2⟩ := Option.map_eq_some_iff.mp hi
      cases h2
    · rw [List.getElem?_append_right (by simp; omega)] at hi
      obtain ⟨_, h2⟩ := List.getElem?_eq_some_iff.mp hi
      simp at h2
section
variable {P : Program} {w : World} {K : PySem.W.Frag} {mg : Str → Option Value} {base : Heap}
/-- the context of a def's body -/
abbrev Bod (P : Program) (w : World) (K : PySem.W.Frag) (mg : Str → Option Value) (base : Heap) (N : List Str) (qual : Str) (st : Stmt) (f : Addr) (cdv : Value) (A : Around) (outer : List Env) (s : Shared) (H : Hp) (E : XK) : Cx :=
  (cxOf CX0 P w K mg base N qual (defScope st) f cdv A outer s H E).nox
/-- a def keeps its promise by its body -/
theorem fn_ok {x qual : Str} {st : Stmt} {f : Addr} {fd : FuncData} {N ps : List Str} {k : Nat} {Pr : List PyData → PyData → Prop} (F : Fun K x qual st f fd) (S : FnScope N ps (defScope st))
    (hlen : ∀ ds d, Pr ds d → ds.length = ps.length)
    (hb : ∀ ds d, Pr ds d → ∀ (f : Addr) (cdv : Value) (A : Around) (outer : List Env) (s : Shared) (H : Hp) (E : XK) (F0 H0 : Hp), Room k (Bod P w K mg base N qual st f cdv A outer s H E).A →
      DSs (Bod P w K mg base N qual st f cdv A outer s H E) [] F0 H0 (entry ds N.length) (defBody st) { N := fun _ => d = .none, R := fun d' _ => d' = d }) :
    FnOk P w K mg base CX0 (k + 1) f fd ps (spP Pr) := by
  have hps : ps.length ≤ N.length := by
    have := S.pre
    rw [← this]
    simp
    omega
  refine F.ok S (fun vs H Q E h => ?_) (fun cdv A outer s H vs Q E hr h => ?_)
  · obtain ⟨F, ds, d, e, r, hP, _⟩ := h
    rw [r.len]; exact hlen ds d hP
  · obtain ⟨F0, ds, d, e, r, hP, kk⟩ := h
    refine ⟨_, hb ds d hP f cdv A outer s H E F0 H hr, F0, ⟨GrowX.refl e, ok_entry e r (by rw [hlen ds d hP]; exact hps), fun i p w q => ?_⟩, fun ρ' σ' F' H' hn s1 a' => ?_, ⟨fun d' v ρ' σ' F' H' hd a' rv => ?_, fun _ _ h => h.elim⟩, fun ρ' σ' F' H' hn s1 a' => hn.elim, fun ρ' σ' F' H' hn s1 a' => hn.elim⟩
    · exfalso
      have o := ok_entry (N := N) e r (by rw [hlen ds d hP]; exact hps)
      unfold entry at q
      by_cases h : i < ds.length
      · rw [List.getElem?_append_left (by simpa using h), List.getElem?_map] at q
        obtain ⟨d, h1, h2⟩ := Option.map_eq_some_iff.mp q
        cases h2
      · rw [List.getElem?_append_right (by simp; omega)] at q
        obtain ⟨_, h2⟩ := List.getElem?_eq_some_iff.mp q
        simp at h2
    · have hd : d = .none := hn
      subst hd
      exact kk .non F' H' a'.g .non
    · have hd' : d' = d := hd
      subst hd'
      exact kk v F' H' a'.g rv
theorem cal_mk {x qual : Str} {st : Stmt} {f : Addr} {fd : FuncData} {ps : List Str} {k : Nat} {sp : Sp} (F : Fun K x qual st f fd) (hm : mg x = some (.ref f)) (hb : Binds K fd ps []) (h : FnOk P w K mg base CX0 k f fd ps sp) : Cal P w K mg base k x ps.length sp :=
  ⟨f, fd, ps, hm, F.kp, hb, rfl, h⟩
end
end Tw

namespace Tw
open PySem PySem.Spec PyProof.Rows L2

/-! ## rules on values -/
section
variable {F H : Hp} {i j : Int} {x y : Bool} {s t : Str}
theorem v_I0 {g : Int → Int → V} {f : Int → Int → PyData} (h : ∀ F i j, Rp F (g i j) (f i j)) : V2 (rI0 g) (.int i) (.int j) (f i j) := fun F H v1 v2 e r1 r2 Q k => ⟨i, j, r1.int_inv, r2.int_inv, k _ F H (GrowX.refl e) (h F i j)⟩
theorem v_I {C : Int → Int → Prop} {g : Int → Int → V} {f : Int → Int → PyData} (h : ∀ F i j, Rp F (g i j) (f i j)) (hc : C i j) : V2 (rI C g) (.int i) (.int j) (f i j) := fun F H v1 v2 e r1 r2 Q k => ⟨i, j, r1.int_inv, r2.int_inv, hc, k _ F H (GrowX.refl e) (h F i j)⟩
theorem v_add : V2 (rI0 fun i j => .int (i + j)) (.int i) (.int j) (.int (i + j)) := v_I0 (f := fun i j => .int (i + j)) fun F i j => .int _
theorem v_sub : V2 (rI0 fun i j => .int (i - j)) (.int i) (.int j) (.int (i - j)) := v_I0 (f := fun i j => .int (i - j)) fun F i j => .int _
theorem v_mul (h : CMul i j) : V2 (rI CMul fun i j => .int (i * j)) (.int i) (.int j) (.int (i * j)) := v_I (f := fun i j => .int (i * j)) (fun F i j => .int _) h
theorem v_mod (h : 0 < j) : V2 (rI (fun _ j => 0 < j) fun i j => .int (i % j)) (.int i) (.int j) (.int (i % j)) := v_I (C := fun _ j => 0 < j) (f := fun i j => .int (i % j)) (fun F i j => .int _) h
theorem v_fdiv (h : CDiv i j) : V2 (rI CDiv fun i j => .int (i / j)) (.int i) (.int j) (.int (i / j)) := v_I (f := fun i j => .int (i / j)) (fun F i j => .int _) h
theorem v_pow (h : CPow i j) : V2 (rI CPow fun i j => .int (i ^ j.toNat)) (.int i) (.int j) (.int (i ^ j.toNat)) := v_I (f := fun i j => .int (i ^ j.toNat)) (fun F i j => .int _) h
theorem v_lt : V2 (rI0 fun i j => .bl (decide (i < j))) (.int i) (.int j) (.bool (decide (i < j))) := v_I0 (f := fun i j => .bool (decide (i < j))) fun F i j => .bl _
theorem v_le : V2 (rI0 fun i j => .bl (decide (i ≤ j))) (.int i) (.int j) (.bool (decide (i ≤ j))) := v_I0 (f := fun i j => .bool (decide (i ≤ j))) fun F i j => .bl _
theorem v_gt : V2 (rI0 fun i j => .bl (decide (j < i))) (.int i) (.int j) (.bool (decide (j < i))) := v_I0 (f := fun i j => .bool (decide (j < i))) fun F i j => .bl _
theorem v_ge : V2 (rI0 fun i j => .bl (decide (j ≤ i))) (.int i) (.int j) (.bool (decide (j ≤ i))) := v_I0 (f := fun i j => .bool (decide (j ≤ i))) fun F i j => .bl _
theorem v_neg : V1 (rU fun i => .int (-i)) (.int i) (.int (-i)) := fun F H v1 e r1 Q k => ⟨i, r1.int_inv, k _ F H (GrowX.refl e) (.int _)⟩
/-! == of scalars, of data -/
theorem v_eqI : V2 rEq (.int i) (.int j) (.bool (decide (i = j))) := fun F H v1 v2 e r1 r2 Q k => by
  rw [r1.int_inv, r2.int_inv]; exact ⟨rfl, by have := k (.bl (decide (i = j))) F H (GrowX.refl e) (.bl _); simpa using this⟩
theorem v_neI : V2 rNe (.int i) (.int j) (.bool (!decide (i = j))) := fun F H v1 v2 e r1 r2 Q k => by
  rw [r1.int_inv, r2.int_inv]; exact ⟨rfl, by have := k (.bl (!decide (i = j))) F H (GrowX.refl e) (.bl _); simpa using this⟩
theorem v_eqS : V2 rEq (.str s) (.str t) (.bool (decide (s = t))) := fun F H v1 v2 e r1 r2 Q k => by
  rw [r1.str_inv, r2.str_inv]; exact ⟨rfl, by have := k (.bl (decide (s = t))) F H (GrowX.refl e) (.bl _); simpa using this⟩
theorem v_neS : V2 rNe (.str s) (.str t) (.bool (!decide (s = t))) := fun F H v1 v2 e r1 r2 Q k => by
  rw [r1.str_inv, r2.str_inv]; exact ⟨rfl, by have := k (.bl (!decide (s = t))) F H (GrowX.refl e) (.bl _); simpa using this⟩
theorem v_eqD {K : PySem.W.Frag} {d e : PyData} (h1 : SeqAt.shaped d = true) (h2 : SeqAt.shaped e = true) : V2 (rEqD K) d e (.bool (PyData.eqv d e)) := fun F H v1 v2 s r1 r2 Q k => ⟨d, e, r1.dp s, r2.dp s, h1, h2, k _ F H (GrowX.refl s) (.bl _)⟩
theorem v_neD {K : PySem.W.Frag} {d e : PyData} (h1 : SeqAt.shaped d = true) (h2 : SeqAt.shaped e = true) : V2 (rNeD K) d e (.bool (!PyData.eqv d e)) := fun F H v1 v2 s r1 r2 Q k => ⟨d, e, r1.dp s, r2.dp s, h1, h2, k _ F H (GrowX.refl s) (.bl _)⟩
def isNoneD : PyData → Bool
  | .none => true
  | _ => false
theorem v_isN {d : PyData} : V2 (fun x y H Q => y = .non ∧ Q (.bl (decide (x = .non))) H) d .none (.bool (isNoneD d)) := fun F H v1 v2 e r1 r2 Q k => by
  cases r2
  refine ⟨rfl, ?_⟩
  have h : decide (v1 = V.non) = isNoneD d := by cases r1 <;> first | rfl | simp [isNoneD]
  rw [h]; exact k _ F H (GrowX.refl e) (.bl _)
theorem v_notN {d : PyData} : V2 (fun x y H Q => y = .non ∧ Q (.bl (!decide (x = .non))) H) d .none (.bool (!isNoneD d)) := fun F H v1 v2 e r1 r2 Q k => by
  cases r2
  refine ⟨rfl, ?_⟩
  have h : decide (v1 = V.non) = isNoneD d := by cases r1 <;> first | rfl | simp [isNoneD]
  rw [h]; exact k _ F H (GrowX.refl e) (.bl _)
/-! in, of flat things -/
def vD : PyData → V
  | .none => .non
  | .bool b => .bl b
  | .int i => .int i
  | .str s => .str s
  | _ => .non
theorem Rp.vD {v : V} {d : PyData} (h : Rp F v d) (f : flatD d = true) : v = Tw.vD d := by cases h <;> first | rfl | cases f
theorem flatV_vD {d : PyData} (f : flatD d = true) : flatV (Tw.vD d) = true := by cases d <;> first | rfl | cases f
theorem RpA.vDs : ∀ {xs : List V} {ds : List PyData}, RpA F xs ds → ds.all flatD = true → xs = ds.map Tw.vD ∧ xs.all flatV = true
  | _, _, .nil, _ => ⟨rfl, rfl⟩
  | _, _, .cons (d := d) (ds := ds) r t, h => by
    have h' : flatD d = true ∧ ds.all flatD = true := by rw [List.all_cons] at h; exact Bool.and_eq_true_iff.mp h
    obtain ⟨a, b⟩ := t.vDs h'.2
    have e := r.vD h'.1
    subst e
    refine ⟨by rw [a]; rfl, ?_⟩
    rw [List.all_cons, b, flatV_vD h'.1]; rfl
def inD (d : PyData) (ds : List PyData) : Bool := inV (Tw.vD d) (ds.map Tw.vD)
theorem v_inT {K : PySem.W.Frag} {neg : Bool} {d : PyData} {ds : List PyData} (h1 : flatD d = true) (h2 : ds.all flatD = true) : V2 (rIn K neg) d (.tuple ds) (.bool (if neg then !inD d ds else inD d ds)) := fun F H v1 v2 e r1 r2 Q k => by
  obtain ⟨a, xs, rfl, ha, rx⟩ := r2.tup_inv
  obtain ⟨e1, e2⟩ := rx.vDs h2
  have e3 := r1.vD h1
  subst e1; subst e3
  exact ⟨a, _, rfl, .inr (SqT.of (e _ _ ha)), flatV_vD h1, e2, k _ F H (GrowX.refl e) (.bl _)⟩
theorem v_inL {K : PySem.W.Frag} {neg : Bool} {d : PyData} {ds : List PyData} (h1 : flatD d = true) (h2 : ds.all flatD = true) : V2 (rIn K neg) d (.list ds) (.bool (if neg then !inD d ds else inD d ds)) := fun F H v1 v2 e r1 r2 Q k => by
  obtain ⟨a, xs, rfl, ha, rx⟩ := r2.lst_inv
  obtain ⟨e1, e2⟩ := rx.vDs h2
  have e3 := r1.vD h1
  subst e1; subst e3
  exact ⟨a, _, rfl, .inl (SqL.of (e _ _ ha)), flatV_vD h1, e2, k _ F H (GrowX.refl e) (.bl _)⟩
/-! subscripts -/
theorem atI_of {α β : Type} {xs : List α} {ds : List β} (hl : xs.length = ds.length) {i : Int} {d : β} (h : atI ds i = some d) : ∃ j : Nat, ds[j]? = some d ∧ ∀ v, xs[j]? = some v → atI xs i = some v := by
  unfold atI at h
  obtain ⟨j, h1, h2⟩ := Option.bind_eq_some_iff.mp h
  refine ⟨j, h2, fun v hv => ?_⟩
  unfold atI
  rw [hl, h1]; exact hv
theorem v_ixT {K : PySem.W.Frag} {ds : List PyData} {d : PyData} (h : atI ds i = some d) : V2 (rIxT K) (.tuple ds) (.int i) d := fun F H v1 v2 e r1 r2 Q k => by
  obtain ⟨a, xs, rfl, ha, rx⟩ := r1.tup_inv
  obtain ⟨j, h1, h2⟩ := atI_of rx.len h
  obtain ⟨v, h3, h4⟩ := rx.get h1
  exact ⟨a, xs, i, v, rfl, r2.int_inv, SqT.of (e _ _ ha), h2 v h3, k v F H (GrowX.refl e) h4⟩
theorem v_ixL {K : PySem.W.Frag} {ds : List PyData} {d : PyData} (h : atI ds i = some d) : V2 (rIxL K) (.list ds) (.int i) d := fun F H v1 v2 e r1 r2 Q k => by
  obtain ⟨a, xs, rfl, ha, rx⟩ := r1.lst_inv
  obtain ⟨j, h1, h2⟩ := atI_of rx.len h
  obtain ⟨v, h3, h4⟩ := rx.get h1
  exact ⟨a, xs, i, v, rfl, r2.int_inv, SqL.of (e _ _ ha), h2 v h3, k v F H (GrowX.refl e) h4⟩
/-! slices -/
def cutD (ds : List PyData) (lo hi : Option Int) : List PyData := (ds.drop (HT.sIx ds.length 0 lo)).take (HT.sIx ds.length ds.length hi - HT.sIx ds.length 0 lo)
theorem RpA.cut {xs : List V} {ds : List PyData} (h : RpA F xs ds) (lo hi : Option Int) : RpA F (cutV xs lo hi) (cutD ds lo hi) := by
  unfold cutV cutD
  rw [h.len]
  exact (h.drop _).take _
theorem v_slL {K : PySem.W.Frag} {ds : List PyData} {lo hi : Option Int} : VS (rSlL K) (.list ds) lo hi (.list (cutD ds lo hi)) := fun F H v1 e r1 Q k => by
  obtain ⟨a, xs, rfl, ha, rx⟩ := r1.lst_inv
  exact ⟨a, xs, rfl, SqL.of (e _ _ ha), fun p hp => k _ _ _ (Grow.new e hp) (.lst upd_same ((rx.cut lo hi).mono (Same.upd_new (same_none e hp))))⟩
theorem v_slT {K : PySem.W.Frag} {ds : List PyData} {lo hi : Option Int} : VS (rSlA K) (.tuple ds) lo hi (.tuple (cutD ds lo hi)) := fun F H v1 e r1 Q k => by
  obtain ⟨a, xs, rfl, ha, rx⟩ := r1.tup_inv
  refine ⟨a, xs, rfl, SqT.of (e _ _ ha), fun hw => ?_, fun _ p hp => k _ _ _ (Grow.new e hp) (.tup upd_same ((rx.cut lo hi).mono (Same.upd_new (same_none e hp))))⟩
  have hc : cutD ds lo hi = ds := by
    unfold cutD
    rw [← rx.len, hw.1, hw.2]
    simp [rx.len]
  exact k _ F H (GrowX.refl e) (by rw [hc]; exact r1)
/-! built-in calls -/
theorem v_max2 : VN (fun xs H Q => ∃ i j, xs = [.int i, .int j] ∧ Q (.int (if j > i then j else i)) H) [.int i, .int j] (.int (max i j)) := fun F H vs e r Q k => by
  cases r with
  | cons r1 r => cases r with
    | cons r2 r =>
      cases r
      refine ⟨i, j, by rw [r1.int_inv, r2.int_inv], ?_⟩
      have h : (if j > i then j else i) = max i j := by split <;> omega
      rw [h]; exact k _ F H (GrowX.refl e) (.int _)
theorem v_min2 : VN (fun xs H Q => ∃ i j, xs = [.int i, .int j] ∧ Q (.int (if j < i then j else i)) H) [.int i, .int j] (.int (min i j)) := fun F H vs e r Q k => by
  cases r with
  | cons r1 r => cases r with
    | cons r2 r =>
      cases r
      refine ⟨i, j, by rw [r1.int_inv, r2.int_inv], ?_⟩
      have h : (if j < i then j else i) = min i j := by split <;> omega
      rw [h]; exact k _ F H (GrowX.refl e) (.int _)
theorem VN1 {r : List V → Hp → VK → Prop} {d d' : PyData} (h : ∀ F H v, Same F H → Rp F v d → ∀ Q : VK, (∀ v F2 H2, Grow F H F2 H2 → Rp F2 v d' → Q v H2) → r [v] H Q) : VN r [d] d' := fun F H vs e r1 Q k => by
  cases r1 with
  | cons r1 rr => cases rr; exact h F H _ e r1 Q k
theorem v_lenL {K : PySem.W.Frag} {ds : List PyData} : VN (fun xs H Q => ∃ p ys, xs = [.ref p] ∧ (SqL K H p ys ∨ SqT K H p ys) ∧ Q (.int ys.length) H) [.list ds] (.int ds.length) := VN1 fun F H v e r Q k => by
  obtain ⟨a, xs, rfl, ha, rx⟩ := r.lst_inv
  exact ⟨a, xs, rfl, .inl (SqL.of (e _ _ ha)), by rw [rx.len]; exact k _ F H (GrowX.refl e) (.int _)⟩
theorem v_lenT {K : PySem.W.Frag} {ds : List PyData} : VN (fun xs H Q => ∃ p ys, xs = [.ref p] ∧ (SqL K H p ys ∨ SqT K H p ys) ∧ Q (.int ys.length) H) [.tuple ds] (.int ds.length) := VN1 fun F H v e r Q k => by
  obtain ⟨a, xs, rfl, ha, rx⟩ := r.tup_inv
  exact ⟨a, xs, rfl, .inr (SqT.of (e _ _ ha)), by rw [rx.len]; exact k _ F H (GrowX.refl e) (.int _)⟩
theorem v_tupL {K : PySem.W.Frag} {ds : List PyData} : VN (fun xs H Q => ∃ p ys, xs = [.ref p] ∧ ((SqL K H p ys ∧ ∀ l, H l = none → Q (.ref l) (upd H l (.tup ys))) ∨ (SqT K H p ys ∧ Q (.ref p) H))) [.list ds] (.tuple ds) := VN1 fun F H v e r Q k => by
  obtain ⟨a, xs, rfl, ha, rx⟩ := r.lst_inv
  exact ⟨a, xs, rfl, .inl ⟨SqL.of (e _ _ ha), fun l hl => k _ _ _ (Grow.new e hl) (.tup upd_same (rx.mono (Same.upd_new (same_none e hl))))⟩⟩
theorem v_listT {K : PySem.W.Frag} {ds : List PyData} : VN (fun xs H Q => ∃ p ys, xs = [.ref p] ∧ (SqL K H p ys ∨ SqT K H p ys) ∧ ∀ l, H l = none → Q (.ref l) (upd H l (.lst ys))) [.tuple ds] (.list ds) := VN1 fun F H v e r Q k => by
  obtain ⟨a, xs, rfl, ha, rx⟩ := r.tup_inv
  exact ⟨a, xs, rfl, .inr (SqT.of (e _ _ ha)), fun l hl => k _ _ _ (Grow.new e hl) (.lst upd_same (rx.mono (Same.upd_new (same_none e hl))))⟩
theorem v_sum {K : PySem.W.Frag} {ns : List Int} : VN (rSum K) [.list (ns.map .int)] (.int ns.sum) := VN1 fun F H v e r Q k => by
  obtain ⟨a, xs, rfl, ha, rx⟩ := r.lst_inv
  have := rx.ints; subst this
  exact ⟨a, ns, rfl, SqL.of (e _ _ ha), k _ F H (GrowX.refl e) (.int _)⟩
theorem v_all {K : PySem.W.Frag} {bs : List Bool} : VN (rAll K) [.list (bs.map .bool)] (.bool (bs.all id)) := VN1 fun F H v e r Q k => by
  obtain ⟨a, xs, rfl, ha, rx⟩ := r.lst_inv
  have := rx.bools; subst this
  exact ⟨a, bs, rfl, SqL.of (e _ _ ha), k _ F H (GrowX.refl e) (.bl _)⟩
theorem v_any {K : PySem.W.Frag} {bs : List Bool} : VN (rAny K) [.list (bs.map .bool)] (.bool (bs.any id)) := VN1 fun F H v e r Q k => by
  obtain ⟨a, xs, rfl, ha, rx⟩ := r.lst_inv
  have := rx.bools; subst this
  exact ⟨a, bs, rfl, SqL.of (e _ _ ha), k _ F H (GrowX.refl e) (.bl _)⟩
theorem v_intB : VN (fun xs H Q => (∃ i, xs = [.int i] ∧ Q (.int i) H) ∨ ∃ k, xs = [.bl k] ∧ Q (.int (if k then 1 else 0)) H) [.bool x] (.int (if x then 1 else 0)) := VN1 fun F H v e r Q k =>
  .inr ⟨x, by rw [r.bl_inv], k _ F H (GrowX.refl e) (.int _)⟩
/-- sorted of ints: core Lean's own -/
def sortI (ns : List Int) : List Int := ns.mergeSort (fun a b => decide (a ≤ b))
theorem sortI_of {ns ms : List Int} (hp : ms.Perm ns) (hs : ms.Pairwise (· ≤ ·)) : ms = sortI ns := by
  have h1 : (sortI ns).Perm ns := List.mergeSort_perm _ _
  have h2 : (sortI ns).Pairwise (fun a b => decide (a ≤ b) = true) := List.pairwise_mergeSort (fun a b c h1 h2 => by simp at *; omega) (fun a b => by simp; omega) _
  refine List.Perm.eq_of_pairwise (le := fun a b => a ≤ b) (fun a b _ _ h1 h2 => by omega) hs (h2.imp fun h => by simpa using h) (hp.trans h1.symm)
theorem v_sortI {K : PySem.W.Frag} {ns : List Int} (hl : ns.length < 64) : VN (rSorted K) [.list (ns.map .int)] (.list ((sortI ns).map .int)) := VN1 fun F H v e r Q k => by
  obtain ⟨a, xs, rfl, ha, rx⟩ := r.lst_inv
  have := rx.ints; subst this
  refine ⟨a, ns, rfl, SqL.of (e _ _ ha), hl, fun ns' p h1 h2 hp => ?_⟩
  have hs := sortI_of h1 h2
  subst hs
  exact k _ _ _ (Grow.new e hp) (.lst upd_same (RpA.of_ints _))
end
end Tw

/-! enumerate over a tuple -/
namespace PySem
open PyProof.Rows
theorem tw_enum_new {v : Value} {o : Obj} {H : Heap → Prop} (B : Begins v o H) :
    Meets (Builtin.«enumerate.__new__» ⟨[.type "enumerate", v], []⟩) (fun _ R s => H s.heap ∧
      R (.ok (.ret (.ref (s.heap.push o).objs.size))) { s with heap := (s.heap.push o).push { cls := .type "enumerate", data := .fields #[.none, .bool false, .ref s.heap.objs.size, rawInt 0, .none, .none] } }) :=
  .of_wp fun prog w A R s0 h0 => by
    obtain ⟨hp, gg, dd, tk, oo⟩ := s0
    obtain ⟨hH, hR⟩ := h0
    have hsub := sub_enumerate
    have it1 : ∀ {A' : Around} {E : Value → Shared → Prop} {Q : Value → Shared → Prop}, Q (.ref hp.objs.size) ⟨hp.push o, gg, dd, tk, oo⟩ → wpAny (model prog w) A' (pyIter v) Q E ⟨hp, gg, dd, tk, oo⟩ :=
      fun q => B.iter prog w _ _ ⟨hp, gg, dd, tk, oo⟩ _ hH q
    wp_walk using it1
    refine wpAny_stack_any fun st => wpAny_pure ?_
    split
    · rename_i c _ _ _ _ _
      cases (c == Value.type "enumerate") <;> (wp_walk using it1; exact ⟨_, rfl, hR⟩)
    · wp_walk using it1
      exact ⟨_, rfl, hR⟩
section
variable {prog : Program} {w : World} {A : Around} {E : Value → Shared → Prop} {s : Shared}
theorem tw_enum_call {v : Value} {o : Obj} {H : Heap → Prop} {Q : Value → Shared → Prop} (B : Begins v o H) (hH : H s.heap)
    (h : ∀ h', IsEnum h' (s.heap.objs.size + 1) s.heap.objs.size 0 .none → h'.get? s.heap.objs.size = some o → h'.objs.size = s.heap.objs.size + 2 →
      (∀ b u, s.heap.get? b = some u → h'.get? b = some u) → Q (.ref (s.heap.objs.size + 1)) { s with heap := h' }) :
    wpAny (model prog w) A (call (.type "enumerate") [v]) Q E s := by
  refine callType_new F.called_enumerate (by decide) (F.typeCall_enumerate_1 _) (F.newCall_enumerate_1 _) (fun obj => F.args_object_init_2 obj _) F.entry_enumerate_new
    (tw_enum_new B) ⟨hH, ?_⟩
  have hz : (s.heap.push o).objs.size = s.heap.objs.size + 1 := Heap.size_push ..
  show _ ∧ _
  rw [hz]
  have he : IsEnum ((s.heap.push o).push { cls := .type "enumerate", data := .fields #[.none, .bool false, .ref s.heap.objs.size, rawInt 0, .none, .none] }) (s.heap.objs.size + 1) s.heap.objs.size 0 .none := by
    have q := Heap.get?_push_size (s.heap.push o) (o := { cls := .type "enumerate", data := .fields #[.none, .bool false, .ref s.heap.objs.size, rawInt 0, .none, .none] }) rfl
    rw [hz] at q; exact q
  exact ⟨⟨_, he, rfl⟩, h _ he (Heap.get?_push_of_some _ (Heap.get?_push_size _ B.free)) (by rw [Heap.size_push, hz]) fun b u x => Heap.get?_push_of_some _ (Heap.get?_push_of_some _ x)⟩
theorem tw_enum_end {e it t : Addr} {i : Nat} {items : Array Value} {c : Int} {old : Value} {Q : Option Value → Shared → Prop} (he : IsEnum s.heap e it c old) (hit : s.heap.IsTupleIter it t i) (ht : s.heap.IsTuple t items) (hx : items[i]? = none) (hh : A.handled = none)
    (hQ : ∀ h', Heap.ExtBut it s.heap h' → Q none { s with heap := h' }) : wpAny (model prog w) A (pyNext (.ref e)) Q E s := by
  have hT : s.TypeIs (.ref e) "enumerate" := ⟨_, he, rfl⟩
  unfold pyNext
  refine wpAny_bind (wpAny_attempt (wpAny_callSpecial?_slot (name := Str.ofString "__next__") hT F.slot_enumerate_next (wpAny_call_entry F.slot_enumerate_next hT F.entry_enumerate_next ?_ (F.args_enumerate_next_1 _))))
  show wpAny _ _ (field (.ref e) 2 >>= _) _ _ _
  refine wpAny_bind (wpAny_field he rfl (x := .ref it) rfl (wpAny_bind (wpAny_nextOf_tuple_end hh hit ht hx fun h2 x k2 ⟨o, ho, hc⟩ => ?_)))
  exact wpAny_bind (wpAny_isInstance (T := "StopIteration") (b := true) ⟨o, ho, hc⟩ isSubtype_stop (wpAny_pure (hQ _ k2)))
end
end PySem
namespace Tw
open PySem PySem.Spec PyProof.Rows L2
/-- the tuple at a, each item in a new pair -/
def IteT (K : PySem.W.Frag) (a : Addr) : It :=
  ⟨fun i H => ∃ (xs : List V) (x : V), SqT K H a xs ∧ xs[i]? = some x, fun i H v H' => ∃ T x, v = .ref T ∧ H T = none ∧ H' = upd H T (.tup [.int (i : Nat), x]) ∧ ∀ xs, SqT K H a xs → xs[i]? = some x, fun i H => ∃ xs : List V, SqT K H a xs ∧ xs.length ≤ i⟩
theorem turn_enumT {P : Program} {w : World} {K : PySem.W.Frag} {elts : List Expr} {kk : Nat} {tpos : Pos} (a e it : Addr) :
    Turn P w K (.Tuple elts kk tpos) (IteT K a) [e, it] e (fun i h => (∃ old, IsEnum h e it ((i : Nat) : Int) old) ∧ h.IsTupleIter it a i ∧ e ≠ it ∧ a ≠ it ∧ a ≠ e) where
  mem := by simp
  obj := fun i h ⟨⟨old, he⟩, ⟨o, ho, hc, hd⟩, _⟩ b hb => by
    rcases (by simpa using hb : b = e ∨ b = it) with z | z
    · rw [z]; exact ⟨_, he, fun v q => nomatch q⟩
    · rw [z]; exact ⟨o, ho, fun v q => by rw [hd] at q; cases q⟩
  keep := fun i h h' ⟨⟨old, he⟩, hi, hne⟩ k => ⟨⟨old, k e (by simp) _ he⟩, hi.at fun o q => k it (by simp) o q, hne⟩
  item := by
    intro X hP hw hK hc i pins s σ H E I hf st hg
    subst hP hw hK
    obtain ⟨⟨old, he⟩, hit, hne, hai, hae⟩ := st
    obtain ⟨xs, x, hq, hx⟩ := hg
    obtain ⟨its, rv, p, hz⟩ := I.tuple hq
    obtain ⟨u, hu, ru⟩ := rv.get hx
    have hel : e < s.heap.objs.size := Heap.lt_size he
    have hil : it < s.heap.objs.size := by obtain ⟨_, q, _⟩ := hit; exact Heap.lt_size q
    have hil2 : i < its.toArray.size := by
      have := (List.getElem?_eq_some_iff.mp hu).1
      simpa using this
    refine wpAny_pyNext_enum_itemD (Draws.tuple (prog := X.prog) (w := X.w) (A := X.A.in1) (I.ok.hd hc) it a hai its.toArray) he ⟨hit, p⟩ hil2 hne (by simp [hne, Ne.symm hae]) fun y h' tk hy ho ⟨hit', p'⟩ hT hsz hk => ?_
    obtain rfl : y = u := by
      have : its.toArray[i]? = some u := by simpa using hu
      rw [this] at hy; exact (Option.some.inj hy).symm
    refine ⟨_, rfl, wpAny_letOwnedTupleGo_enum (s := { s with heap := h', toks := tk + 1 }) ho fun h2 he2 sb => ?_⟩
    have hT2 : h2.get? s.heap.objs.size = some { cls := .type "tuple", data := .seq #[.int i tk, y] } := (sb.2 _ (Nat.ne_of_gt hel)).trans hT
    have new : ObjOk X.prog X.w (upd H s.heap.objs.size (.tup [.int (i : Nat), x])) h2 s.heap.objs.size (.tup [.int (i : Nat), x]) :=
      ⟨by show 2 ≤ sizeLine; decide, [.int i tk, y], .cons ⟨_, rfl⟩ (.cons ru .nil), ⟨_, hT2, rfl, _, rfl⟩⟩
    have I1 : Inv X pins σ (upd H s.heap.objs.size (.tup [.int (i : Nat), x])) { s with heap := h2, toks := tk + 1 } :=
      I.turnedNew (ch := [e, it]) (fun b ob hb q => (sb.2 b (fun z => hb (by simp [z]))).trans (hk b ob (fun z => hb (by simp [z])) (fun z => hb (by simp [z])) q)) hf (Nat.le_refl _) new
    refine ⟨.ref s.heap.objs.size, _, I1, rfl, ⟨_, x, rfl, I.hok.fresh (Nat.le_refl _), rfl, fun ys hy => by rw [I.tuple_inj hy hq]; exact hx⟩, ⟨⟨y, ?_⟩, hit'.at fun o q => (sb.2 it (Ne.symm hne)).trans q, hne, hai, hae⟩, fun b hb => ?_⟩
    · have e1 : ((i + 1 : Nat) : Int) = (i : Int) + 1 := by omega
      rw [e1]; exact he2
    · have hb' : b < s.heap.objs.size := by
        rcases (by simpa using hb : b = e ∨ b = it) with z | z
        · rw [z]; exact hel
        · rw [z]; exact hil
      rw [upd_ne (Nat.ne_of_lt hb')]
      exact (hf b hb).1
  done := by
    intro X hP hw hK hc i pins s σ H E I hf st hg
    subst hP hw hK
    obtain ⟨⟨old, he⟩, hit, hne, hai, hae⟩ := st
    obtain ⟨xs, hq, hx⟩ := hg
    obtain ⟨its, rv, p, hz⟩ := I.tuple hq
    obtain ⟨f0, f1, f2, f3, f4, f5⟩ := hf it (by simp)
    have hl := rv.length
    have hlen : its.length ≤ i := by omega
    refine tw_enum_end he hit p (by simpa using hlen) (I.ok.hd hc) fun h' eb => ⟨rfl, I.turned (t' := s.toks) (fun b o hb q => eb b o hb q) f0 f1 f3 f4 f5⟩
  self := fun A i s Q E ⟨⟨_, he⟩, _⟩ h => wpAny_pyIter_enum he h
def iEnumT (K : PySem.W.Frag) (ta : TA) : TI := fun σ H R => ta σ H fun vs H1 => ∃ a xs, vs = [.ref a] ∧ SqT K H1 a xs ∧ R (IteT K a) H1
theorem pi_enumT {X : Cx} {e : Expr} {ta : TA} {p pos tpos : Pos} {elts : List Expr} {kk : Nat} (hg : Gl X "enumerate") (hm : X.mg "enumerate" = none) (ha : PA X [e] ta)
    (hs : starEach [e] X.env = (false, eval e X.env) :: starEach [] X.env := by rfl) (hpl : (backTo pos (starEach [] X.env)).any (·.1) = false := by rfl) :
    PI X (.Tuple elts kk tpos) (.Call (.Name "enumerate" p) [e] [] pos) (iEnumT X.K ta) := by
  refine ⟨fun pins s σ H R I h => ?_⟩
  refine Call_ (ld_blt I hg hm PyProof.Rows.boot_enumerate (PyProof.Rows.callWith_type1 (thn (ha.run pos pins s σ H _ I h) fun us s1 ⟨vs, H1, I1, r1, q1⟩ => ?_) hs hpl))
  obtain ⟨a, xs, rfl, hq, q⟩ := q1
  cases r1 with
  | cons r rr =>
    cases rr
    cases r
    obtain ⟨its, rv, p', hz⟩ := I1.tuple hq
    have hal : a < s1.heap.objs.size := p'.lt
    refine tw_enum_call (begins_tuple a its.toArray) p' fun h' he ho hsz hk => wpAny_pyIter_enum he ?_
    have I2 : Inv X pins σ H1 { s1 with heap := h' } := I1.kept (t' := s1.toks) hk
    refine ⟨s1.heap.objs.size + 1, [s1.heap.objs.size + 1, s1.heap.objs.size], _, _, H1, rfl, I2, turn_enumT a (s1.heap.objs.size + 1) s1.heap.objs.size, ⟨⟨.none, he⟩, ⟨_, ho, rfl, rfl⟩, Nat.succ_ne_self _, Nat.ne_of_lt hal, Nat.ne_of_lt (Nat.lt_succ_of_lt hal)⟩, fun b hb => ?_, q⟩
    have hle : s1.heap.objs.size ≤ b := by
      rcases (by simpa using hb : b = s1.heap.objs.size + 1 ∨ b = s1.heap.objs.size) with z | z
      · rw [z]; exact Nat.le_add_right _ _
      · rw [z]; exact Nat.le_refl _
    exact I1.fpOk hle (I1.hok.fresh hle)
/-- the pairs (i, item) -/
def enumD (ds : List PyData) : List PyData := ds.mapIdx fun i d => .tuple [.int (i : Int), d]
section
variable {X : Cx} {ρ : Env'} {e : Expr} {ds es : List PyData} {p pos tpos : Pos} {elts : List Expr} {kk : Nat}
theorem enumD_get {i : Nat} {d : PyData} (h : (enumD ds)[i]? = some d) : ∃ x, ds[i]? = some x ∧ d = .tuple [.int (i : Int), x] := by
  unfold enumD at h
  rw [List.getElem?_mapIdx] at h
  obtain ⟨x, h1, h2⟩ := Option.map_eq_some_iff.mp h
  exact ⟨x, h1, h2.symm⟩
theorem pair_new {F1 H : Hp} {T : Addr} {v1 v2 : V} {d1 d2 : PyData} (e2 : Same F1 H) (hT : H T = none) (r1 : Rp F1 v1 d1) (r2 : Rp F1 v2 d2) : ∃ F2, Grow F1 H F2 (upd H T (.tup [v1, v2])) ∧ Rp F2 (.ref T) (.tuple [d1, d2]) :=
  have sN : Same F1 (upd F1 T (.tup [v1, v2])) := Same.upd_new (same_none e2 hT)
  ⟨_, Grow.new e2 hT, .tup upd_same (.cons (r1.mono sN) (.cons (r2.mono sN) .nil))⟩
theorem di_enumT (ha : DA X ρ [e] [.tuple ds]) (hm : X.mg "enumerate" = none) (hg : Gl X "enumerate" := by rfl) (hs : starEach [e] X.env = (false, eval e X.env) :: starEach [] X.env := by rfl) (hpl : (backTo pos (starEach [] X.env)).any (·.1) = false := by rfl) :
    DI X ρ (.Tuple elts kk tpos) (.Call (.Name "enumerate" p) [e] [] pos) (enumD ds) :=
  PI.imp (pi_enumT hg hm ha hs hpl) fun σ H R ⟨F, ok, k⟩ => ⟨F, ok, fun vs F2 H2 g r => by
    cases r with
    | cons r rr =>
      cases rr
      obtain ⟨a, xs, rfl, h1, r1⟩ := r.tup_inv
      refine ⟨a, xs, rfl, SqT.of (g.s _ _ h1), k _ F2 H2 g fun i F1 H' e1 e2 => ⟨fun d hd => ?_, fun hn => ?_⟩⟩
      · obtain ⟨x, h3, rfl⟩ := enumD_get hd
        obtain ⟨v, hx, rx⟩ := r1.get h3
        have hs : SqT X.K H' a xs := SqT.of (e2 _ _ (e1 _ _ h1))
        refine ⟨⟨xs, v, hs, hx⟩, fun y H'' ⟨T, z, q1, q2, q3, q4⟩ => ?_⟩
        have := q4 xs hs
        rw [hx] at this; cases this
        subst q1 q3
        exact pair_new e2 q2 (.int _) (rx.mono e1)
      · have hl : ds.length ≤ i := by simpa [enumD] using hn
        exact ⟨xs, SqT.of (e2 _ _ (e1 _ _ h1)), by rw [r1.len]; exact hl⟩⟩
theorem di_enumL (ha : DA X ρ [e] [.list ds]) (hm : X.mg "enumerate" = none) (hg : Gl X "enumerate" := by rfl) (hs : starEach [e] X.env = (false, eval e X.env) :: starEach [] X.env := by rfl) (hpl : (backTo pos (starEach [] X.env)).any (·.1) = false := by rfl) :
    DI X ρ (.Tuple elts kk tpos) (.Call (.Name "enumerate" p) [e] [] pos) (enumD ds) :=
  PI.imp (pi_enum hg hm ha hs) fun σ H R ⟨F, ok, k⟩ => ⟨F, ok, fun vs F2 H2 g r => by
    cases r with
    | cons r rr =>
      cases rr
      obtain ⟨a, xs, rfl, h1, r1⟩ := r.lst_inv
      refine ⟨a, xs, rfl, SqL.of (g.s _ _ h1), k _ F2 H2 g fun i F1 H' e1 e2 => ⟨fun d hd => ?_, fun hn => ?_⟩⟩
      · obtain ⟨x, h3, rfl⟩ := enumD_get hd
        obtain ⟨v, hx, rx⟩ := r1.get h3
        have hs : SqL X.K H' a xs := SqL.of (e2 _ _ (e1 _ _ h1))
        refine ⟨⟨xs, v, hs, hx⟩, fun y H'' ⟨T, z, q1, q2, q3, q4⟩ => ?_⟩
        have := q4 xs hs
        rw [hx] at this; cases this
        subst q1 q3
        exact pair_new e2 q2 (.int _) (rx.mono e1)
      · have hl : ds.length ≤ i := by simpa [enumD] using hn
        exact ⟨xs, SqL.of (e2 _ _ (e1 _ _ h1)), by rw [r1.len]; exact hl⟩⟩
/-- zip of two tuples, of two lists -/
def zipD (ds es : List PyData) : List PyData := List.zipWith (fun a b => .tuple [a, b]) ds es
theorem zipD_get {i : Nat} {d : PyData} (h : (zipD ds es)[i]? = some d) : ∃ x y, ds[i]? = some x ∧ es[i]? = some y ∧ d = .tuple [x, y] := by
  unfold zipD at h
  rw [List.getElem?_zipWith] at h
  cases h1 : ds[i]? with
  | none => rw [h1] at h; simp at h
  | some x =>
    cases h2 : es[i]? with
    | none => rw [h1, h2] at h; simp at h
    | some y => rw [h1, h2] at h; simp at h; exact ⟨x, y, rfl, rfl, h.symm⟩
theorem zipD_none {i : Nat} (h : (zipD ds es)[i]? = none) : ds.length ≤ i ∨ es.length ≤ i := by
  have := List.getElem?_eq_none_iff.mp h
  simp [zipD] at this
  omega
variable {e2 : Expr}
theorem di_zipT (ha : DA X ρ [e, e2] [.tuple ds, .tuple es]) (hm : X.mg "zip" = none) (hg : Gl X "zip" := by rfl) (hs : starEach [e, e2] X.env = (false, eval e X.env) :: starEach [e2] X.env := by rfl) (hpl : (backTo pos (starEach [e2] X.env)).any (·.1) = false := by rfl) :
    DI X ρ (.Tuple elts kk tpos) (.Call (.Name "zip" p) [e, e2] [] pos) (zipD ds es) :=
  PI.imp (RZ.pi_zipA hg hm ha hs hpl) fun σ H R ⟨F, ok, k⟩ => ⟨F, ok, fun vs F2 H2 g r => by
    cases r with
    | cons r rr =>
      cases rr with
      | cons r' rr =>
        cases rr
        obtain ⟨a, xs, rfl, h1, r1⟩ := r.tup_inv
        obtain ⟨b, ys, rfl, h2, r2⟩ := r'.tup_inv
        refine ⟨a, b, xs, ys, rfl, .inr ⟨SqT.of (g.s _ _ h1), SqT.of (g.s _ _ h2), k _ F2 H2 g fun i F1 H' e1 e2 => ⟨fun d hd => ?_, fun hn => ?_⟩⟩⟩
        · obtain ⟨x, y, h3, h4, rfl⟩ := zipD_get hd
          obtain ⟨v, hx, rx⟩ := r1.get h3
          obtain ⟨u, hy, ry⟩ := r2.get h4
          have hs1 : SqT X.K H' a xs := SqT.of (e2 _ _ (e1 _ _ h1))
          have hs2 : SqT X.K H' b ys := SqT.of (e2 _ _ (e1 _ _ h2))
          refine ⟨⟨xs, ys, v, u, hs1, hs2, hx, hy⟩, fun _ H'' ⟨T, z1, z2, q1, q2, q3, q4, q5⟩ => ?_⟩
          have e3 := q4 xs hs1
          have e4 := q5 ys hs2
          rw [hx] at e3; cases e3
          rw [hy] at e4; cases e4
          subst q1 q3
          exact pair_new e2 q2 (rx.mono e1) (ry.mono e1)
        · exact ⟨xs, ys, SqT.of (e2 _ _ (e1 _ _ h1)), SqT.of (e2 _ _ (e1 _ _ h2)), by rw [r1.len, r2.len]; exact zipD_none hn⟩⟩
theorem di_zipL (ha : DA X ρ [e, e2] [.list ds, .list es]) (hm : X.mg "zip" = none) (hg : Gl X "zip" := by rfl) (hs : starEach [e, e2] X.env = (false, eval e X.env) :: starEach [e2] X.env := by rfl) (hpl : (backTo pos (starEach [e2] X.env)).any (·.1) = false := by rfl) :
    DI X ρ (.Tuple elts kk tpos) (.Call (.Name "zip" p) [e, e2] [] pos) (zipD ds es) :=
  PI.imp (RZ.pi_zipA hg hm ha hs hpl) fun σ H R ⟨F, ok, k⟩ => ⟨F, ok, fun vs F2 H2 g r => by
    cases r with
    | cons r rr =>
      cases rr with
      | cons r' rr =>
        cases rr
        obtain ⟨a, xs, rfl, h1, r1⟩ := r.lst_inv
        obtain ⟨b, ys, rfl, h2, r2⟩ := r'.lst_inv
        refine ⟨a, b, xs, ys, rfl, .inl ⟨SqL.of (g.s _ _ h1), SqL.of (g.s _ _ h2), k _ F2 H2 g fun i F1 H' e1 e2 => ⟨fun d hd => ?_, fun hn => ?_⟩⟩⟩
        · obtain ⟨x, y, h3, h4, rfl⟩ := zipD_get hd
          obtain ⟨v, hx, rx⟩ := r1.get h3
          obtain ⟨u, hy, ry⟩ := r2.get h4
          have hs1 : SqL X.K H' a xs := SqL.of (e2 _ _ (e1 _ _ h1))
          have hs2 : SqL X.K H' b ys := SqL.of (e2 _ _ (e1 _ _ h2))
          refine ⟨⟨xs, ys, v, u, hs1, hs2, hx, hy⟩, fun _ H'' ⟨T, z1, z2, q1, q2, q3, q4, q5⟩ => ?_⟩
          have e3 := q4 xs hs1
          have e4 := q5 ys hs2
          rw [hx] at e3; cases e3
          rw [hy] at e4; cases e4
          subst q1 q3
          exact pair_new e2 q2 (rx.mono e1) (ry.mono e1)
        · exact ⟨xs, ys, SqL.of (e2 _ _ (e1 _ _ h1)), SqL.of (e2 _ _ (e1 _ _ h2)), by rw [r1.len, r2.len]; exact zipD_none hn⟩⟩
end
end Tw

namespace Tw
open PySem PySem.Spec PyProof.Rows L2
/-! ## sorted of pairs -/
/-- (a, b) ahead of (c, d) or like it -/
def leP (x y : Int × Int) : Bool := decide (x.1 < y.1 ∨ (x.1 = y.1 ∧ x.2 ≤ y.2))
def pairD (x : Int × Int) : PyData := .tuple [.int x.1, .int x.2]
def sortP (xs : List (Int × Int)) : List (Int × Int) := xs.mergeSort leP
theorem leP_iff {x y : Int × Int} : leP x y = true ↔ (x.1 < y.1 ∨ (x.1 = y.1 ∧ x.2 ≤ y.2)) := by simp [leP]
theorem sortP_perm (xs : List (Int × Int)) : (sortP xs).Perm xs := List.mergeSort_perm _ _
theorem sortP_sorted (xs : List (Int × Int)) : (sortP xs).Pairwise (fun a b => leP a b = true) :=
  List.pairwise_mergeSort (fun a b c h1 h2 => by simp only [leP_iff] at *; omega) (fun a b => by simp only [Bool.or_eq_true, leP_iff]; omega) _
theorem sortP_of {xs ys : List (Int × Int)} (hp : ys.Perm xs) (hs : ys.Pairwise (fun a b => leP a b = true)) : ys = sortP xs := by
  refine List.Perm.eq_of_pairwise (le := fun a b => leP a b = true) (fun a b _ _ h1 h2 => ?_) hs (sortP_sorted xs) (hp.trans (sortP_perm xs).symm)
  simp only [leP_iff] at *
  exact Prod.ext (by omega) (by omega)
theorem Rp.pair_inj {F : Hp} {v : V} {p q : Int × Int} (h : Rp F v (pairD p)) (h' : Rp F v (pairD q)) : p = q := by
  obtain ⟨a, xs, rfl, h1, r1⟩ := h.tup_inv
  obtain ⟨b, ys, e, h2, r2⟩ := h'.tup_inv
  cases e
  rw [h1] at h2; cases h2
  cases r1 with
  | cons r1 t => cases t with
    | cons r1' t => cases r2 with
      | cons r2 t2 => cases t2 with
        | cons r2' t2 =>
          have e1 := r1.int_inv.symm.trans r2.int_inv
          have e2 := r1'.int_inv.symm.trans r2'.int_inv
          exact Prod.ext (V.int.inj e1) (V.int.inj e2)
theorem RpA.pairs_get {F : Hp} : ∀ {xs : List V} {ps : List (Int × Int)}, RpA F xs (ps.map pairD) → ∀ k : V → Int × Int, (∀ v p, Rp F v (pairD p) → k v = p) → xs.map k = ps
  | _, [], .nil, _, _ => rfl
  | _, p :: ps, .cons r t, k, h => by rw [List.map_cons, h _ p r, t.pairs_get k h]
theorem RpA.of_mem {F : Hp} {f : V → PyData} : ∀ {ys : List V}, (∀ y ∈ ys, Rp F y (f y)) → RpA F ys (ys.map f)
  | [], _ => .nil
  | y :: ys, h => .cons (h y List.mem_cons_self) (RpA.of_mem fun z hz => h z (List.mem_cons_of_mem _ hz))
theorem RpA.mem {F : Hp} : ∀ {xs : List V} {ds : List PyData}, RpA F xs ds → ∀ x ∈ xs, ∃ d ∈ ds, Rp F x d
  | _, _, .nil, x, h => by cases h
  | _, _, .cons r t, x, h => by
    rcases List.mem_cons.mp h with e | h
    · subst e; exact ⟨_, List.mem_cons_self, r⟩
    · obtain ⟨d, h1, h2⟩ := t.mem x h; exact ⟨d, List.mem_cons_of_mem _ h1, h2⟩
open Classical in
theorem v_sortP {K : PySem.W.Frag} {ps : List (Int × Int)} : VN (rSortedPO K) [.list (ps.map pairD)] (.list ((sortP ps).map pairD)) := VN1 fun F H v e r Q k => by
  obtain ⟨a, xs, rfl, ha, rx⟩ := r.lst_inv
  let kk : V → Int × Int := fun v => if h : ∃ p, Rp F v (pairD p) then h.choose else (0, 0)
  have hk : ∀ v p, Rp F v (pairD p) → kk v = p := fun v p hv => by
    have h : ∃ p, Rp F v (pairD p) := ⟨p, hv⟩
    show (if h : ∃ p, Rp F v (pairD p) then h.choose else (0, 0)) = p
    rw [dif_pos h]
    exact h.choose_spec.pair_inj hv
  have hm := rx.pairs_get kk hk
  have hx : ∀ x ∈ xs, Rp F x (pairD (kk x)) := fun x hx => by
    obtain ⟨d, h1, h2⟩ := rx.mem x hx
    obtain ⟨p, _, rfl⟩ := List.mem_map.mp h1
    rw [hk x p h2]; exact h2
  refine ⟨a, xs, kk, rfl, SqL.of (e _ _ ha), fun x hxx => ?_, fun ys p h1 h2 hp => ?_⟩
  · obtain ⟨t, zs, rfl, h3, r3⟩ := (hx x hxx).tup_inv
    refine ⟨t, rfl, ?_⟩
    cases r3 with
    | cons r3 t3 => cases t3 with
      | cons r4 t4 =>
        cases t4
        have := e _ _ h3
        rw [r3.int_inv, r4.int_inv] at this
        exact this
  · have hperm : (ys.map kk).Perm ps := by rw [← hm]; exact h2.perm.map kk
    have hsrt : (ys.map kk).Pairwise (fun a b => leP a b = true) := by
      rw [List.pairwise_map]
      refine h1.imp fun {x y} h => ?_
      have := SrtO.lexB_no.mp h
      rw [leP_iff]
      omega
    have hs := sortP_of hperm hsrt
    refine k _ _ _ (Grow.new e hp) (.lst upd_same (RpA.mono (Same.upd_new (same_none e hp)) ?_))
    rw [← hs, List.map_map]
    exact RpA.of_mem fun y hy => hx y (h2.perm.mem_iff.mp hy)

/-! ## short forms -/
/-- a tuple of ints -/
def wiD (ws : List Int) : PyData := .tuple (ws.map .int)
theorem flat_ints (ns : List Int) : (ns.map PyData.int).all flatD = true := by simp [flatD]
theorem inD_ints (i : Int) (ns : List Int) : inD (.int i) (ns.map .int) = decide (i ∈ ns) := by
  unfold inD inV
  rw [List.map_map, List.any_map]
  induction ns with
  | nil => simp
  | cons n ns ih =>
    rw [List.any_cons, ih]
    show ((n == i) || decide (i ∈ ns)) = decide (i ∈ n :: ns)
    by_cases h : i = n
    · subst h; simp
    · have h' : ¬ n = i := fun z => h z.symm
      simp [h, h']
theorem v_inI {K : PySem.W.Frag} {i : Int} {ns : List Int} : V2 (rIn K false) (.int i) (.tuple (ns.map .int)) (.bool (decide (i ∈ ns))) := by
  have := v_inT (K := K) (neg := false) (d := .int i) (ds := ns.map .int) rfl (flat_ints ns)
  rwa [if_neg (by decide), inD_ints] at this
theorem v_ninI {K : PySem.W.Frag} {i : Int} {ns : List Int} : V2 (rIn K true) (.int i) (.tuple (ns.map .int)) (.bool (!decide (i ∈ ns))) := by
  have := v_inT (K := K) (neg := true) (d := .int i) (ds := ns.map .int) rfl (flat_ints ns)
  rwa [if_pos rfl, inD_ints] at this
/-- the end of a block, some slots forgotten -/
theorem dss_nilF {X : Cx} {ex : List Addr} {F0 H0 : Hp} {ρ : Env'} {A : Aims} (is : List Nat) (h : A.N (wipeE ρ is)) : DSs X ex F0 H0 ρ [] A := by
  induction is generalizing A with
  | nil => exact dss_nil h
  | cons i is ih =>
    have step : ∀ (ρ' : Env'), DSs X ex F0 H0 (ρ'.set i .no) [] A → DSs X ex F0 H0 ρ' [] A := fun ρ' h => dss_forget i h
    -- told from the inmost: the tail's slots first
    have gen : ∀ (js : List Nat) (ρ' : Env'), DSs X ex F0 H0 (wipeE ρ' js) [] A → DSs X ex F0 H0 ρ' [] A := by
      intro js
      induction js with
      | nil => intro ρ' h; exact h
      | cons j js ihj => intro ρ' h; exact ihj ρ' (dss_forget j h)
    exact gen (i :: is) ρ (dss_nil h)
/-- x = [.. for ..] on one line -/
theorem dss_setLc {X : Cx} {ex : List Addr} {F0 H0 : Hp} {ρ : Env'} {sts : List Stmt} {A : Aims} {α : Type} {xs : List α} {enc : α → PyData} {elt tg iter : Expr} {ifs : List Expr} {scope : Scope} {pos : Pos} {own : List (Str × Nat)} {d : PyData}
    (i : Nat) {y : Str} {py spos : Pos} (g : α → Env') (b : α → Bool) (f : α → PyData) (is : List Nat) (hc : X.calm = true) (hN : X.N.Nodup) (ok : BlkOk X.N X.env.scope scope own) (hi : DI X ρ tg iter (xs.map enc))
    (hg : ∀ x ∈ xs, Blk X scope fun Y => DG Y (wipeE ρ (own.map (·.2))) tg (enc x) (g x) is)
    (ht : ∀ x ∈ xs, Blk X scope fun Y => DTs Y (g x) ifs (b x))
    (he : ∀ x ∈ xs, b x = true → Blk X scope fun Y => DE Y (g x) elt (f x))
    (his : ∀ i ∈ is, i ∈ own.map (·.2)) (hl : xs.length ≤ sizeLine) (hd : PyData.list ((xs.filter b).map f) = d) (k : DSs X ex F0 H0 (ρ.set i (.dat d)) sts A)
    (hy : X.N[i]? = some y := by rfl) (hk : X.env.scope.kind = .function := by rfl) (hyl : X.env.scope.names.lookup y = some .local := by rfl) (hln : (py.line == pos.line) = true := by rfl)
    (ha : (scope.names.any fun (n, k) => n == y && (k == .local || k == .cell)) = false := by rfl) (hs : ∀ x, foldedSetIterable iter X.env x = pure x := by intro _; rfl) :
    DSs X ex F0 H0 ρ (.Assign [.Name y py] (.ListComp elt [⟨tg, iter, ifs, 0⟩] scope pos) spos :: sts) A := by
  subst hd
  refine dss_seq (N1 := fun ρ' => ρ' = ρ.set i (.dat (.list ((xs.filter b).map f)))) ?_ fun _ h => h ▸ k
  exact PS.imp (ps_lcD i g b f is hc hN ok hi hg ht he his hl hy hk hyl hln ha hs) fun D σ H ⟨F, a, n, r, b, c⟩ => ⟨F, a.ok, fun v F2 H2 g rv => n _ _ F2 H2 rfl g.f ((a.grow g).setD rv)⟩
end Tw

/-! Tw: expressions that change a thing of the def's own (a deck), and things newly made that will change -/
namespace Tw
open PySem PySem.Spec PyProof.Rows L2

/-! ## something newly made -/
def tN (ρ : Env') (w : Ow) : TE := fun σ H Q => ∃ F, Ok F H ρ σ ∧ ∀ p ho F2 H2, Grow F H F2 H2 → H p = none → F2 p = none → H2 p = some ho → w.φ F2 ho → Q (.ref p) H2
abbrev DN (X : Cx) (ρ : Env') (e : Expr) (w : Ow) : Prop := PE X e (tN ρ w)
/-! ## expressions with an effect: P what is said of the datum, ρ' what is known behind -/
def tW (ex : List Addr) (ρ : Env') (P : PyData → Prop) (ρ' : Env') : TE := fun σ H Q => ∃ F, Ok F H ρ σ ∧ ∀ d v F2 H2, P d → GrowX ex F H F2 H2 → Ok F2 H2 ρ' σ → Rp F2 v d → Q v H2
def tWA (ex : List Addr) (ρ : Env') (P : List PyData → Prop) (ρ' : Env') : TA := fun σ H Q => ∃ F, Ok F H ρ σ ∧ ∀ ds vs F2 H2, P ds → GrowX ex F H F2 H2 → Ok F2 H2 ρ' σ → RpA F2 vs ds → Q vs H2
abbrev WE (X : Cx) (ex : List Addr) (ρ : Env') (e : Expr) (P : PyData → Prop) (ρ' : Env') : Prop := PE X e (tW ex ρ P ρ')
abbrev WA (X : Cx) (ex : List Addr) (ρ : Env') (es : List Expr) (P : List PyData → Prop) (ρ' : Env') : Prop := PA X es (tWA ex ρ P ρ')
section
variable {X : Cx} {ex : List Addr} {ρ ρ1 ρ2 : Env'} {a b e : Expr} {es : List Expr} {P P1 : PyData → Prop} {P2 : PyData → PyData → Prop} {PA1 PA2 : List PyData → Prop} {d : PyData} {ds : List PyData} {pos : Pos}
theorem we_d (h : DE X ρ e d) (hP : P d) : WE X ex ρ e P ρ := PE.imp h fun σ H Q ⟨F, ok, k⟩ => ⟨F, ok, fun v F2 H2 g r => k d v F2 H2 hP g.up (ok.grow g) r⟩
theorem we_imp {P' : PyData → Prop} (h : WE X ex ρ e P ρ1) (i : ∀ d, P d → P' d) : WE X ex ρ e P' ρ1 := PE.imp h fun σ H Q ⟨F, ok, k⟩ => ⟨F, ok, fun d v F2 H2 hp g o r => k d v F2 H2 (i d hp) g o r⟩
theorem we_op {op : Operator} {r : R2} (ho : OpR X (binaryOp op) r) (ha : WE X ex ρ a P1 ρ1) (hb : ∀ d1, P1 d1 → WE X ex ρ1 b (P2 d1) ρ2) (hr : ∀ d1 d2, P1 d1 → P2 d1 d2 → ∃ d, V2 r d1 d2 d ∧ P d) : WE X ex ρ (.BinOp a op b pos) P ρ2 :=
  PE.imp (pe_op ho ha (PE.any (c := fun d1 => P1 d1) (t := fun d1 => tW ex ρ1 (P2 d1) ρ2) hb)) fun σ H Q ⟨F, ok, k⟩ => ⟨F, ok, fun d1 v1 F1 H1 h1 g1 o1 r1 => ⟨d1, h1, F1, o1, fun d2 v2 F2 H2 h2 g2 o2 r2 => by
    obtain ⟨d, hv, hp⟩ := hr d1 d2 h1 h2
    exact hv F2 H2 v1 v2 o2.s (r1.mono g2.f) r2 Q fun v F3 H3 g3 r3 => k d v F3 H3 hp (g1.trans (g2.trans g3.up)) (o2.grow g3) r3⟩⟩
theorem we_ix {r : R2} (hx : IxR X r) (ha : WE X ex ρ a P1 ρ1) (hb : ∀ d1, P1 d1 → WE X ex ρ1 b (P2 d1) ρ2) (hr : ∀ d1 d2, P1 d1 → P2 d1 d2 → ∃ d, V2 r d1 d2 d ∧ P d) (hs : PlainIx b := by exact fun _ _ => rfl) : WE X ex ρ (.Subscript a b pos) P ρ2 :=
  PE.imp (pe_ix hx ha (PE.any (c := fun d1 => P1 d1) (t := fun d1 => tW ex ρ1 (P2 d1) ρ2) hb) hs) fun σ H Q ⟨F, ok, k⟩ => ⟨F, ok, fun d1 v1 F1 H1 h1 g1 o1 r1 => ⟨d1, h1, F1, o1, fun d2 v2 F2 H2 h2 g2 o2 r2 => by
    obtain ⟨d, hv, hp⟩ := hr d1 d2 h1 h2
    exact hv F2 H2 v1 v2 o2.s (r1.mono g2.f) r2 Q fun v F3 H3 g3 r3 => k d v F3 H3 hp (g1.trans (g2.trans g3.up)) (o2.grow g3) r3⟩⟩
theorem wa_nil : WA X ex ρ [] (fun ds => ds = []) ρ := PA.imp pa_nil fun σ H Q ⟨F, ok, k⟩ => k [] _ F H rfl (GrowX.refl ok.s) ok .nil
theorem wa_d (h : DA X ρ es ds) (hP : PA1 ds) : WA X ex ρ es PA1 ρ := PA.imp h fun σ H Q ⟨F, ok, k⟩ => ⟨F, ok, fun v F2 H2 g r => k ds v F2 H2 hP g.up (ok.grow g) r⟩
theorem wa_imp {P' : List PyData → Prop} (h : WA X ex ρ es PA1 ρ1) (i : ∀ d, PA1 d → P' d) : WA X ex ρ es P' ρ1 := PA.imp h fun σ H Q ⟨F, ok, k⟩ => ⟨F, ok, fun d v F2 H2 hp g o r => k d v F2 H2 (i d hp) g o r⟩
theorem wa_cons (ha : WE X ex ρ e P1 ρ1) (hr : WA X ex ρ1 es PA2 ρ2) (hs : starEach (e :: es) X.env = (false, eval e X.env) :: starEach es X.env := by rfl) : WA X ex ρ (e :: es) (fun ds => ∃ d ds', ds = d :: ds' ∧ P1 d ∧ PA2 ds') ρ2 :=
  PA.imp (pa_cons ha hr hs) fun σ H Q ⟨F, ok, k⟩ => ⟨F, ok, fun d v F2 H2 hp g o r => ⟨F2, o, fun ds vs F3 H3 hp3 g3 o3 r3 => k _ _ F3 H3 ⟨d, ds, rfl, hp, hp3⟩ (g.trans g3) o3 (.cons (r.mono g3.f) r3)⟩⟩
theorem we_tup {k : Nat} (h : WA X ex ρ es PA1 ρ1) (hP : ∀ ds, PA1 ds → ds.length ≤ 1000 ∧ P (.tuple ds)) : WE X ex ρ (.Tuple es k pos) P ρ1 :=
  PE.imp (pe_tup h) fun σ H Q ⟨F, ok, k⟩ => ⟨F, ok, fun ds vs F2 H2 hp g o r => ⟨by rw [r.len]; exact Nat.le_trans (hP ds hp).1 (by decide), fun p hpn => k _ _ _ _ (hP ds hp).2 (g.trans (Grow.new g.s hpn).up) (o.grow (Grow.new g.s hpn)) (.tup upd_same (r.mono (Same.upd_new (same_none g.s hpn))))⟩⟩
theorem we_lst (h : WA X ex ρ es PA1 ρ1) (hP : ∀ ds, PA1 ds → ds.length ≤ 1000 ∧ P (.list ds)) : WE X ex ρ (.List es pos) P ρ1 :=
  PE.imp (pe_lst h) fun σ H Q ⟨F, ok, k⟩ => ⟨F, ok, fun ds vs F2 H2 hp g o r => ⟨by rw [r.len]; exact Nat.le_trans (hP ds hp).1 (by decide), fun p hpn => k _ _ _ _ (hP ds hp).2 (g.trans (Grow.new g.s hpn).up) (o.grow (Grow.new g.s hpn)) (.lst upd_same (r.mono (Same.upd_new (same_none g.s hpn))))⟩⟩
theorem we_callTy {x : Str} {p : Pos} {id : String} {r : List V → Hp → VK → Prop} (hc : CallR X (.type id) r) (hr : ∀ ds, PA1 ds → ∃ d, VN r ds d ∧ P d) (hm : X.mg x = none) (hv : bootBuiltins x = some (.type id)) (ha : WA X ex ρ (e :: es) PA1 ρ1) (hg : Gl X x := by rfl) (hn : x ≠ "__name__" := by decide) (hdb : (x == ("__debug__" : Str)) = false := by decide)
    (he : starEach (e :: es) X.env = (false, eval e X.env) :: starEach es X.env := by rfl) (hpl : (backTo pos (starEach es X.env)).any (·.1) = false := by rfl) : WE X ex ρ (.Call (.Name x p) (e :: es) [] pos) P ρ1 :=
  PE.imp (pe_callTy hc hg hm hv ha hn hdb he hpl) fun σ H Q ⟨F, ok, k⟩ => ⟨F, ok, fun ds vs F2 H2 hp g o r => by
    obtain ⟨d, hv, hP⟩ := hr ds hp
    exact hv F2 H2 vs g.s r Q fun v F3 H3 g3 r3 => k d v F3 H3 hP (g.trans g3.up) (o.grow g3) r3⟩
theorem we_callB {x : Str} {p : Pos} {id : String} {r : List V → Hp → VK → Prop} (hc : CallR X (.builtin id) r) (hr : ∀ ds, PA1 ds → ∃ d, VN r ds d ∧ P d) (hm : X.mg x = none) (hv : bootBuiltins x = some (.builtin id)) (ha : WA X ex ρ (e :: es) PA1 ρ1) (hg : Gl X x := by rfl) (hn : x ≠ "__name__" := by decide) (hdb : (x == ("__debug__" : Str)) = false := by decide)
    (he : starEach (e :: es) X.env = (false, eval e X.env) :: starEach es X.env := by rfl) (hpl : (backTo pos (starEach es X.env)).any (·.1) = false := by rfl) : WE X ex ρ (.Call (.Name x p) (e :: es) [] pos) P ρ1 :=
  PE.imp (pe_callB hc hg hm hv ha hn hdb he hpl) fun σ H Q ⟨F, ok, k⟩ => ⟨F, ok, fun ds vs F2 H2 hp g o r => by
    obtain ⟨d, hv, hP⟩ := hr ds hp
    exact hv F2 H2 vs g.s r Q fun v F3 H3 g3 r3 => k d v F3 H3 hP (g.trans g3.up) (o.grow g3) r3⟩
end

/-! ## the deck -/
/-- a list of three whole numbers, the turn at most n -/
def Ow.deck (n : Int) : Ow := ⟨fun _ o => ∃ a b c : Int, o = .lst [.int a, .int b, .int c] ∧ 0 ≤ a ∧ 0 ≤ b ∧ b < 2147483579 ∧ 0 ≤ c ∧ c ≤ n, fun _ h => h, fun ⟨a, b, c, h, _⟩ => by rw [h]; rfl⟩
/-- a promise of a def whose first argument is a deck: up to cost turns go by, Pre of the other arguments, P of them and the answer -/
def spK (cost : Int) (Pre : List PyData → Prop) (P : List PyData → PyData → Prop) : Sp := fun vs H Q _ => ∃ F p n vs' ds, Same F H ∧ F p = none ∧ (∃ ho, H p = some ho ∧ (Ow.deck n).φ F ho) ∧ n + cost ≤ 1000000000 ∧ vs = .ref p :: vs' ∧ RpA F vs' ds ∧ Pre ds ∧
  ∀ d v F2 H2, P ds d → GrowX [p] F H F2 H2 → (∃ ho, H2 p = some ho ∧ (Ow.deck (n + cost)).φ F2 ho) → Rp F2 v d → Q v H2
section
variable {X : Cx} {ρ : Env'} {F H F2 H2 : Hp} {σ : L2.St} {ex : List Addr} {p : Addr} {i : Nat} {n m : Int}
/-- behind a change of the deck alone -/
theorem Ok.deck {w' : Ow} (h : Ok F H ρ σ) (hi : ρ[i]? = some (.own p w')) (g : GrowX [p] F H F2 H2) (w : Ow) (hd : ∃ ho, H2 p = some ho ∧ w.φ F2 ho) : Ok F2 H2 (ρ.set i (.own p w)) σ := by
  obtain ⟨h1, h2, ho1, h3, h4⟩ := h.own hi
  have hl : i < ρ.length := (List.getElem?_eq_some_iff.mp hi).1
  refine ⟨g.s, by simp [h.len], fun j e hj => ?_, fun j k q q' v v' hj hk hjk => ?_⟩
  · by_cases hij : i = j
    · subst hij
      rw [List.getElem?_set_self hl] at hj; cases hj
      exact ⟨_, h1, rfl, g.n p h2 ⟨ho1, h3, w'.nt h4⟩, hd⟩
    · rw [List.getElem?_set_ne hij] at hj
      obtain ⟨oo, e1, e2⟩ := h.at_ j e hj
      refine ⟨oo, e1, ?_⟩
      cases e with
      | no => trivial
      | dat d => obtain ⟨v, x1, x2⟩ := e2; exact ⟨v, x1, x2.mono g.f⟩
      | val v => exact e2
      | fx q u => exact ⟨e2.1, g.f _ _ e2.2⟩
      | st q w => exact ⟨e2.1, let ⟨u, hu, hw⟩ := e2.2; ⟨u, g.f _ _ hu, w.mono g.f hw⟩⟩
      | own q v =>
        obtain ⟨x1, x2, hh, x3, x4⟩ := e2
        have hq : q ∉ [p] := fun z => h.ne j i q p v _ hj hi (Ne.symm hij) (List.mem_singleton.mp z)
        exact ⟨x1, g.n q x2 ⟨hh, x3, v.nt x4⟩, hh, g.h q hh hq x3 (plB_nt (v.nt x4)), v.mono g.f x4⟩
  · have f : ∀ {j : Nat} {q : Addr} {v : Ow}, (ρ.set i (.own p w))[j]? = some (.own q v) → ∃ v0, ρ[j]? = some (.own q v0) := fun {j q v} hj => by
      by_cases hij : i = j
      · subst hij
        rw [List.getElem?_set_self hl] at hj; cases hj
        exact ⟨_, hi⟩
      · rw [List.getElem?_set_ne hij] at hj; exact ⟨v, hj⟩
    obtain ⟨_, y1⟩ := f hj
    obtain ⟨_, y2⟩ := f hk
    exact h.ne j k q q' _ _ y1 y2 hjk
variable {k nn : Nat} {x dk : Str} {cost : Int} {Pre : List PyData → Prop} {P : List PyData → PyData → Prop} {es : List Expr} {PA1 : List PyData → Prop} {ρ1 : Env'} {pos q pd : Pos}
/-- f(deck, e, ..) -/
theorem we_call (i : Nat) (G : Cal X.prog X.w X.K X.mg X.base k x nn (spK cost Pre P)) (hr : Room k X.A) (ha : WA X [p] ρ es PA1 ρ1) (hPre : ∀ ds, PA1 ds → Pre ds) (hi0 : ρ[i]? = some (.own p (.deck m)) := by rfl) (hi : ρ1[i]? = some (.own p (.deck n)) := by rfl) (hn : n + cost ≤ 1000000000 := by decide)
    (hN : X.N[i]? = some dk := by rfl) (hv : Vis X.env.scope dk := by first | exact Or.inl rfl | exact Or.inr (Or.inl rfl) | exact Or.inr (Or.inr rfl)) (hd : (dk == ("__debug__" : Str)) = false := by decide) (hcd : (dk == ("__classdict__" : Str)) = false := by decide) (hg : Gl X x := by rfl) (hdb : (x == ("__debug__" : Str)) = false := by decide)
    (he : starEach (.Name dk pd :: es) X.env = (false, eval (.Name dk pd) X.env) :: starEach es X.env := by rfl) (hpl : (backTo pos (starEach es X.env)).any (·.1) = false := by rfl) :
    WE X [p] ρ (.Call (.Name x q) (.Name dk pd :: es) [] pos) (fun d => ∃ ds, PA1 ds ∧ P ds d) (ρ1.set i (.own p (.deck (n + cost)))) := by
  obtain ⟨f, fd, ps, h1, h2, h3, _, h4⟩ := G
  refine PE.imp (pe_call h4 hr hg h1 h2 h3 .nil pass0 (pa_cons (pe_var hN hv hd hcd) ha he) hdb he hpl) fun σ H Q ⟨F, ok, kk⟩ => ?_
  obtain ⟨e1, _⟩ := ok.own hi0
  refine ⟨_, e1, F, ok, fun ds vs F2 H2 hp g o r => ?_⟩
  show spK cost Pre P ((.ref p :: vs) ++ []) H2 Q E0
  rw [List.append_nil]
  obtain ⟨_, hp0, hdk⟩ := o.own hi
  exact ⟨F2, p, n, vs, ds, o.s, hp0, hdk, hn, rfl, r, hPre ds hp, fun d v F3 H3 hP g3 hd3 r3 => kk d v F3 H3 ⟨ds, hp, hP⟩ (g.trans g3) (o.deck hi g3 _ hd3) r3⟩
end

/-! ## statements with such expressions -/
section
variable {X : Cx} {ex : List Addr} {F0 H0 : Hp} {ρ ρ1 : Env'} {st : Stmt} {sts : List Stmt} {A : Aims} {e c : Expr} {P : PyData → Prop} {pos : Pos} {σ : L2.St} {F H F2 H2 : Hp}
/-- what may be own behind -/
def OwnLike (ρ1 ρ : Env') : Prop := ∀ (i : Nat) (p : Addr) (w : Ow), ρ1[i]? = some (.own p w) → ∃ w', ρ[i]? = some (.own p w')
theorem OwnLike.refl (ρ : Env') : OwnLike ρ ρ := fun _ _ w h => ⟨w, h⟩
theorem At.like (a : At ex F0 H0 ρ σ F H) (g : GrowX ex F H F2 H2) (o : Ok F2 H2 ρ1 σ) (l : OwnLike ρ1 ρ) : At ex F0 H0 ρ1 σ F2 H2 := ⟨a.g.trans g, o, fun i p w h => let ⟨w', h'⟩ := l i p w h; a.new i p w' h'⟩
theorem dss_setW (i : Nat) {x : Str} {pos' : Pos} (hN : X.N.Nodup) (he : WE X ex ρ e P ρ1) (l : OwnLike ρ1 ρ) (k : ∀ d, P d → DSs X ex F0 H0 (ρ1.set i (.dat d)) sts A) (hi : X.N[i]? = some x := by rfl) (hx : Loc X.env.scope x := by first | exact Or.inl rfl | exact Or.inr rfl) (hs : swapsWith e (some (.Name x pos')) pos.line X.env = pure false := by rfl)
    (hf : X.fn x = true ∨ X.env.scope.names.lookup x = some .local := by first | exact .inl rfl | exact .inr rfl) (hw : swappedStores [.Name x pos'] e X.env = pure none := by rfl) : DSs X ex F0 H0 ρ (.Assign [.Name x pos'] e pos :: sts) A :=
  dss_seq (N1 := fun ρ' => ∃ d, P d ∧ ρ' = ρ1.set i (.dat d)) (PS.imp (ps_set (i := i) hN hi hx he hs hf) fun D σ H ⟨F, a, n, r, b, c⟩ => ⟨F, a.ok, fun d v F2 H2 hp g o rv => n _ _ F2 H2 ⟨d, hp, rfl⟩ g.f ((a.like g o l).setD rv)⟩) fun _ ⟨d, hd, h⟩ => h ▸ k d hd
theorem dss_retW (he : WE X ex ρ e P ρ1) (l : OwnLike ρ1 ρ) (h : ∀ d, P d → A.R d ρ1) : DSs X ex F0 H0 ρ (.Return (some e) pos :: sts) A :=
  dss_seq (N1 := fun _ => False) (PS.imp (ps_ret he) fun D σ H ⟨F, a, n, r, b, c⟩ => ⟨F, a.ok, fun d v F2 H2 hp g o rv => r.1 d v ρ1 σ F2 H2 (h d hp) (a.like g o l) rv⟩) fun _ h => h.elim
theorem dss_asgW {tg : Expr} {is : List Nat} {ρ2 : PyData → Env'} (he : WE X ex ρ e P ρ1) (l : OwnLike ρ1 ρ) (hg : ∀ d, P d → DG X ρ1 tg d (ρ2 d) is) (k : ∀ d, P d → DSs X ex F0 H0 (ρ2 d) sts A) (hs : swapsWithSole [tg] e pos.line X.env = pure false := by rfl) (hw : swappedStores [tg] e X.env = pure none := by rfl)
    (hh1 : (assignEach [tg] X.env).map (·.2) = [assign tg X.env] := by rfl) : DSs X ex F0 H0 ρ (.Assign [tg] e pos :: sts) A :=
  dss_seq (N1 := fun ρ' => ∃ d, P d ∧ ρ' = ρ2 d) (PS.imp (ps_asg he (PG.any (c := P) (t := fun d => tDG ρ1 d (ρ2 d) is) fun d hd => (hg d hd).1) hs hw hh1) fun D σ H ⟨F, a, n, r, b, c⟩ => ⟨F, a.ok, fun d v F2 H2 hp g o rv => ⟨d, hp, F2, o, rv, fun σ' ok' _ => n _ _ F2 H2 ⟨d, hp, rfl⟩ g.f ⟨(a.like g o l).g, ok', fun i p w q => (a.like g o l).new i p w ((hg d hp).2 i p w q)⟩⟩⟩) fun _ ⟨d, hd, h⟩ => h ▸ k d hd
/-- something new that will change -/
theorem dss_own (i : Nat) {x : Str} {w : Ow} {pos' : Pos} (hN : X.N.Nodup) (he : DN X ρ e w) (k : ∀ p, DSs X ex F0 H0 (ρ.set i (.own p w)) sts A) (hi : X.N[i]? = some x := by rfl) (hx : Loc X.env.scope x := by first | exact Or.inl rfl | exact Or.inr rfl) (hs : swapsWith e (some (.Name x pos')) pos.line X.env = pure false := by rfl)
    (hf : X.fn x = true ∨ X.env.scope.names.lookup x = some .local := by first | exact .inl rfl | exact .inr rfl) (hw : swappedStores [.Name x pos'] e X.env = pure none := by rfl) : DSs X ex F0 H0 ρ (.Assign [.Name x pos'] e pos :: sts) A :=
  dss_seq (N1 := fun ρ' => ∃ p, ρ' = ρ.set i (.own p w)) (PS.imp (ps_set (i := i) hN hi hx he hs hf) fun D σ H ⟨F, a, n, r, b, c⟩ => ⟨F, a.ok, fun p ho F2 H2 g hp hF hh hw => by
    have a2 := a.grow g
    refine n _ _ F2 H2 ⟨p, rfl⟩ g.f ⟨a2.g, a2.ok.set ⟨rfl, hF, ho, hh, hw⟩ fun q w e j q' w' hj _ => ?_, fun j q w' hj => ?_⟩
    · cases e
      intro z; subst z
      obtain ⟨_, _, ho', h1, _⟩ := a.ok.own hj
      rw [hp] at h1; cases h1
    · by_cases hij : i = j
      · subst hij
        have hl : i < ρ.length := by
          have := (List.getElem?_eq_some_iff.mp hj).1
          simpa using this
        rw [List.getElem?_set_self hl] at hj; cases hj
        exact .inl (by
          cases q' : H0 p with
          | none => rfl
          | some u => exact absurd hp (a.g.k p (by rw [q']; simp)))
      · rw [List.getElem?_set_ne hij] at hj; exact a2.new j q w' hj⟩) fun _ ⟨p, h⟩ => h ▸ k p
/-- a deck may be told for older -/
theorem dss_deck (i : Nat) {p : Addr} {n : Int} (m : Int) (h : DSs X ex F0 H0 (ρ.set i (.own p (.deck m))) sts A) (hi : ρ[i]? = some (.own p (.deck n)) := by rfl) (hnm : n ≤ m := by omega) : DSs X ex F0 H0 ρ sts A :=
  PSs.imp h fun D σ H ⟨F, a, q⟩ => by
    obtain ⟨h1, h2, ho, h3, aa, b, c, e1, e2, e3, e4, e5, e6⟩ := a.ok.own hi
    have hl : i < ρ.length := (List.getElem?_eq_some_iff.mp hi).1
    have := a.write (w' := .deck m) (o := ho) hi ⟨aa, b, c, e1, e2, e3, e4, e5, by omega⟩
    have e : upd H p ho = H := by
      funext b
      by_cases hb : b = p
      · subst hb; rw [upd_same, h3]
      · rw [upd_ne hb]
    rw [e] at this
    exact ⟨F, this, q⟩
/-- xs.append(e) -/
theorem dss_appW (i : Nat) {p : Addr} {ds : List PyData} {x : Str} {px apos cpos : Pos} {PA1 : List PyData → Prop} (he : WA X ex ρ [e] PA1 ρ1) (l : OwnLike ρ1 ρ) (hP : ∀ ds, PA1 ds → ∃ d, ds = [d] ∧ P d) (hl : ds.length < sizeLine) (k : ∀ d, P d → DSs X ex F0 H0 (ρ1.set i (.own p (.lst (ds ++ [d])))) sts A) (hi0 : ρ[i]? = some (.own p (.lst ds)) := by rfl) (hi : ρ1[i]? = some (.own p (.lst ds)) := by rfl)
    (hxN : X.N[i]? = some x := by rfl) (hv : Vis X.env.scope x := by first | exact Or.inl rfl | exact Or.inr (Or.inl rfl) | exact Or.inr (Or.inr rfl)) (hd : (x == ("__debug__" : Str)) = false := by decide) (hcd : (x == ("__classdict__" : Str)) = false := by decide)
    (hbase : attributeBase (.Name x px) "append" X.env (eval (.Name x px) X.env) = eval (.Name x px) X.env := by rfl)
    (hfew : ((backTo cpos (starEach [e] X.env)).all (fun x => !x.1) && (backToKw cpos (keywordEach [] X.env)).all (fun x => x.1.isSome) && decide (([e] : List Expr).length + ([] : List Keyword).length + (if ([] : List Keyword).isEmpty then 0 else 1) < 30)) = true := by rfl)
    (hline : (apos.endLine == cpos.line) = true := by rfl) (hst : starEach [e] X.env = (false, eval e X.env) :: starEach [] X.env := by rfl) (hpl : (backTo cpos (starEach [] X.env)).any (·.1) = false := by rfl)
    (hs : swapsWith (.Call (.Attribute (.Name x px) "append" apos) [e] [] cpos) none pos.line X.env = pure false := by rfl) :
    DSs X ex F0 H0 ρ (.Expr (.Call (.Attribute (.Name x px) "append" apos) [e] [] cpos) pos :: sts) A :=
  dss_seq (N1 := fun ρ' => ∃ d, P d ∧ ρ' = ρ1.set i (.own p (.lst (ds ++ [d])))) (PS.imp (ps_expr (pe_bm PySem.F.plainAttrs_list PySem.F.slot_list_append PySem.F.type_list_append mt_append (pe_var hxN hv hd hcd) he hbase hfew hline hst hpl) hs) fun D σ H ⟨F, a, n, r, b, c⟩ => by
    obtain ⟨xs, h1, h2, h3, h4⟩ := a.ok.lstIs hi0
    refine ⟨_, h1, .inl ⟨rfl, xs, SqL.of h3⟩, F, a.ok, fun es vs F2 H2 hp g o rv => ?_⟩
    obtain ⟨d, rfl, hPd⟩ := hP es hp
    cases rv with
    | cons rv rr =>
      cases rr
      obtain ⟨xs', _, _, h5, h6⟩ := o.lstIs hi
      exact ⟨p, xs', _, rfl, rfl, h5, by rw [h6.len]; exact hl, n _ _ F2 _ ⟨d, hPd, rfl⟩ g.f ((a.like g o l).write hi ⟨_, rfl, h6.append (.cons rv .nil)⟩)⟩) fun _ ⟨d, hd, h⟩ => h ▸ k d hd
/-- an own list stands still from here on, beside a deck -/
theorem dss_freezeX (i j : Nat) {p pd : Addr} {w : Ow} {ds : List PyData} (h : DSs X [pd] F0 H0 (ρ.set i (.dat (.list ds))) sts A) (hi : ρ[i]? = some (.own p (.lst ds)) := by rfl) (hj : ρ[j]? = some (.own pd w) := by rfl) (hij : i ≠ j := by decide) : DSs X [pd] F0 H0 ρ sts A :=
  PSs.imp h fun D σ H ⟨F, a, n, r, b, c⟩ => by
    obtain ⟨xs, h3, h2, _, ok⟩ := a.ok.freeze hi
    have hl : i < ρ.length := (List.getElem?_eq_some_iff.mp hi).1
    have hne := a.ok.ne i j p pd _ w hi hj hij
    have hp0 : H0 p = none := by
      rcases a.new i p _ hi with h | h
      · exact h
      · exact (hne (List.mem_singleton.mp h)).elim
    have s1 : Same F (upd F p (.lst xs)) := Same.upd_new h2
    refine ⟨upd F p (.lst xs), ⟨⟨a.g.f.trans s1, ok.s, a.g.h, a.g.k, fun b q1 q2 => ?_, a.g.m, fun b q => (a.g.t b q).updF h2 (tbl_nt h3 rfl)⟩, ok, fun j q v hj => ?_⟩, fun ρ2 σ2 F3 H3 h2 s2 => n ρ2 σ2 F3 H3 h2 (s1.trans s2), r, fun ρ2 σ2 F3 H3 h2 s2 => b ρ2 σ2 F3 H3 h2 (s1.trans s2), fun ρ2 σ2 F3 H3 h2 s2 => c ρ2 σ2 F3 H3 h2 (s1.trans s2)⟩
    · have hb : b ≠ p := fun z => by subst z; exact q2.ne hp0
      rw [upd_ne hb]; exact a.g.n b q1 q2
    · by_cases hij : i = j
      · subst hij
        rw [List.getElem?_set_self hl] at hj; cases hj
      · rw [List.getElem?_set_ne hij] at hj; exact a.new j q v hj
/-- a deck is opened: its three numbers -/
theorem dss_open (i : Nat) {p : Addr} {n : Int} (h : ∀ x y z : Int, 0 ≤ x → 0 ≤ y → y < 2147483579 → 0 ≤ z → z ≤ n → DSs X ex F0 H0 (ρ.set i (.own p (.lst [.int x, .int y, .int z]))) sts A) (hi : ρ[i]? = some (.own p (.deck n)) := by rfl) : DSs X ex F0 H0 ρ sts A := by
  refine PSs.imp (PSs.any (ι := Int × Int × Int) (c := fun q => 0 ≤ q.1 ∧ 0 ≤ q.2.1 ∧ q.2.1 < 2147483579 ∧ 0 ≤ q.2.2 ∧ q.2.2 ≤ n) (t := fun q => tS ex F0 H0 (ρ.set i (.own p (.lst [.int q.1, .int q.2.1, .int q.2.2]))) A) fun q hq => h q.1 q.2.1 q.2.2 hq.1 hq.2.1 hq.2.2.1 hq.2.2.2.1 hq.2.2.2.2) fun D σ H ⟨F, a, q⟩ => ?_
  obtain ⟨h1, h2, ho, h3, aa, b, c, e1, e2, e3, e4, e5, e6⟩ := a.ok.own hi
  have := a.write (w' := .lst [.int aa, .int b, .int c]) (o := ho) hi ⟨_, e1, .cons (.int _) (.cons (.int _) (.cons (.int _) .nil))⟩
  have e : upd H p ho = H := by
    funext b
    by_cases hb : b = p
    · subst hb; rw [upd_same, h3]
    · rw [upd_ne hb]
  rw [e] at this
  exact ⟨(aa, b, c), ⟨e2, e3, e4, e5, e6⟩, F, this, q⟩
theorem deck_of {n a b c : Int} (h1 : 0 ≤ a) (h2 : 0 ≤ b) (h3 : b < 2147483579) (h4 : 0 ≤ c) (h5 : c ≤ n) : ∀ F o, (Ow.lst [.int a, .int b, .int c]).φ F o → (Ow.deck n).φ F o := fun F o ⟨xs, e, r⟩ => by
  have := RpA.ints (ns := [a, b, c]) r
  subst this
  exact ⟨a, b, c, e, h1, h2, h3, h4, h5⟩
/-- xs[j] = e, xs an own list in slot i -/
theorem dss_seti (i : Nat) {p : Addr} {ds : List PyData} {x : Str} {px tp : Pos} {ix : Expr} {d : PyData} {j : Nat} {jj : Int} (he : DE X ρ e d) (hj : DE X ρ ix (.int jj)) (hjj : ixN ds.length jj = some j) (k : DSs X ex F0 H0 (ρ.set i (.own p (.lst (ds.set j d)))) sts A) (hi : ρ[i]? = some (.own p (.lst ds)) := by rfl)
    (hxN : X.N[i]? = some x := by rfl) (hv : Vis X.env.scope x := by first | exact Or.inl rfl | exact Or.inr (Or.inl rfl) | exact Or.inr (Or.inr rfl)) (hd : (x == ("__debug__" : Str)) = false := by decide) (hcd : (x == ("__classdict__" : Str)) = false := by decide)
    (hs : swapsWithSole [.Subscript (.Name x px) ix tp] e pos.line X.env = pure false := by rfl) (hw : swappedStores [.Subscript (.Name x px) ix tp] e X.env = pure none := by rfl) (hh1 : (assignEach [.Subscript (.Name x px) ix tp] X.env).map (·.2) = [assign (.Subscript (.Name x px) ix tp) X.env] := by rfl)
    (ha : ∀ v, assign (.Subscript (.Name x px) ix tp) X.env v = (do
      let ov ← holding [v] (eval (.Name x px) X.env)
      let iv ← holding [v, ov] (eval ix X.env)
      standAt tp
      holding [v, ov, iv] (setItem ov iv v)
      release [v, ov, iv] []) := by intro _; rfl) : DSs X ex F0 H0 ρ (.Assign [.Subscript (.Name x px) ix tp] e pos :: sts) A :=
  dss_seq (N1 := fun ρ' => ρ' = ρ.set i (.own p (.lst (ds.set j d)))) (PS.imp (ps_asg he (pg_sub (pe_var hxN hv hd hcd) hj set_list ha) hs hw hh1) fun D σ H ⟨F, a, n, r, b, c⟩ => ⟨F, a.ok, fun v F2 H2 g rv => by
    have a2 := a.grow g
    obtain ⟨xs, h1, h2, h3, h4⟩ := a2.ok.lstIs hi
    refine ⟨_, h1, F2, a2.ok, fun v' F3 H3 g3 r3 => ?_⟩
    have a3 := a2.grow g3
    obtain ⟨xs', q1, q2, q3, q4⟩ := a3.ok.lstIs hi
    exact ⟨p, xs', jj, j, rfl, r3.int_inv, q3, by rw [q4.len]; exact hjj, n _ _ F3 _ rfl (g.f.trans g3.f) (a3.write hi ⟨_, rfl, q4.set j (rv.mono g3.f)⟩)⟩⟩) fun _ h => h ▸ k
end
/-! ## a def whose first argument is a deck -/
section
variable {P : Program} {w : World} {K : PySem.W.Frag} {mg : Str → Option Value} {base : Heap}
theorem fn_okK {x qual : Str} {st : Stmt} {f : Addr} {fd : FuncData} {N ps : List Str} {k : Nat} {cost : Int} {Pre : List PyData → Prop} {Pr : List PyData → PyData → Prop} (F : Fun K x qual st f fd) (S : FnScope N ps (defScope st))
    (hlen : ∀ ds, Pre ds → ds.length + 1 = ps.length)
    (hb : ∀ (p : Addr) (n : Int) ds, Pre ds → n + cost ≤ 1000000000 → ∀ (f : Addr) (cdv : Value) (A : Around) (outer : List Env) (s : Shared) (H : Hp) (E : XK) (F0 H0 : Hp), Room k (Bod P w K mg base N qual st f cdv A outer s H E).A →
      DSs (Bod P w K mg base N qual st f cdv A outer s H E) [p] F0 H0 (.own p (.deck n) :: entry ds (N.length - 1)) (defBody st) { N := fun _ => False, R := fun d ρ => Pr ds d ∧ ∃ w, ρ[0]? = some (.own p w) ∧ ∀ F o, w.φ F o → (Ow.deck (n + cost)).φ F o }) :
    FnOk P w K mg base CX0 (k + 1) f fd ps (spK cost Pre Pr) := by
  have hps : ps.length ≤ N.length := by
    have := S.pre
    rw [← this]
    simp
    omega
  refine F.ok S (fun vs H Q E h => ?_) (fun cdv A outer s H vs Q E hr h => ?_)
  · obtain ⟨F, p, n, vs', ds, e, hp, hd, hn, rfl, r, hP, _⟩ := h
    rw [List.length_cons, r.len]; exact hlen ds hP
  · obtain ⟨F0, p, n, vs', ds, e, hp, hd, hn, rfl, r, hP, kk⟩ := h
    have hl := hlen ds hP
    have ok0 : Ok F0 H (.own p (.deck n) :: entry ds (N.length - 1)) (L2.start N (.ref p :: vs')) := by
      cases N with
      | nil => have hz : ps.length ≤ 0 := hps; omega
      | cons x0 N' =>
        have o := ok_entry (N := N') e r (by simp at hps; omega)
        have hst : L2.start (x0 :: N') (.ref p :: vs') = some (.ref p) :: L2.start N' vs' := by simp [L2.start]
        rw [hst]
        have hn' : (x0 :: N').length - 1 = N'.length := by simp
        rw [hn']
        refine ⟨o.s, by simp [o.len], fun i en hi => ?_, fun i j q q' v v' hi hj hij => ?_⟩
        · cases i with
          | zero => simp at hi; subst hi; exact ⟨_, rfl, rfl, hp, hd⟩
          | succ i => simp at hi; obtain ⟨oo, h1, h2⟩ := o.at_ i en hi; exact ⟨oo, by simpa using h1, h2⟩
        · have no : ∀ (i : Nat) (q : Addr) (v : Ow), (entry ds N'.length)[i]? = some (.own q v) → False := fun i q v q1 => by
            unfold entry at q1
            by_cases h : i < ds.length
            · rw [List.getElem?_append_left (by simpa using h), List.getElem?_map] at q1
              obtain ⟨d, h1, h2⟩ := Option.map_eq_some_iff.mp q1
              cases h2
            · rw [List.getElem?_append_right (by simp; omega)] at q1
              obtain ⟨_, h2⟩ := List.getElem?_eq_some_iff.mp q1
              simp at h2
          cases i with
          | zero => cases j with
            | zero => exact (hij rfl).elim
            | succ j => simp at hj; exact (no j _ _ hj).elim
          | succ i => simp at hi; exact (no i _ _ hi).elim
    refine ⟨_, hb p n ds hP hn f cdv A outer s H E F0 H hr, F0, ⟨GrowX.refl e, ok0, fun i q w hi => ?_⟩, fun ρ' σ' F' H' hn s1 a' => hn.elim, ⟨fun d v ρ' σ' F' H' hd a' rv => ?_, fun _ _ h => h.elim⟩, fun ρ' σ' F' H' hn s1 a' => hn.elim, fun ρ' σ' F' H' hn s1 a' => hn.elim⟩
    · by_cases hi0 : i = 0
      · subst hi0; simp at hi; exact .inr (by simp [hi.1])
      · refine .inr (Classical.byContradiction fun hq => ?_)
        have hne := ok0.ne i 0 q p w (.deck n) hi rfl hi0
        obtain ⟨_, _, ho, h3, _⟩ := ok0.own hi
        cases i with
        | zero => exact hi0 rfl
        | succ i =>
          simp at hi
          unfold entry at hi
          by_cases h : i < ds.length
          · rw [List.getElem?_append_left (by simpa using h), List.getElem?_map] at hi
            obtain ⟨d, h1, h2⟩ := Option.map_eq_some_iff.mp hi
            cases h2
          · rw [List.getElem?_append_right (by simp; omega)] at hi
            obtain ⟨_, h2⟩ := List.getElem?_eq_some_iff.mp hi
            simp at h2
    · obtain ⟨hP', w, hw, hφ⟩ := hd
      obtain ⟨_, h2, ho, h3, h4⟩ := a'.ok.own hw
      exact kk d v F' H' hP' a'.g ⟨ho, h3, hφ _ _ h4⟩ rv
end
end Tw

namespace Tw
open PySem PySem.Spec PyProof.Rows L2

theorem v_fdivW {i j : Int} (h : CDivW i j) : V2 (rI CDivW fun i j => .int (i / j)) (.int i) (.int j) (.int (i / j)) := v_I (f := fun i j => .int (i / j)) (fun F i j => .int _) h
theorem v_mulW {i j : Int} (h : CMulW i j) : V2 (rI CMulW fun i j => .int (i * j)) (.int i) (.int j) (.int (i * j)) := v_I (f := fun i j => .int (i * j)) (fun F i j => .int _) h

/-! ## a, b = x, y -/
section
variable {X : Cx} {ex : List Addr} {F0 H0 : Hp} {ρ ρ1 : Env'} {st : Stmt} {sts : List Stmt} {A : Aims} {a b c : Expr} {d1 d2 : PyData} {pos px py pt pt2 : Pos} {PA1 : List PyData → Prop} {kt k2 : Nat}
theorem dss_parW (i j : Nat) {x y : Str} (hN : X.N.Nodup) (ha : WA X ex ρ [a, b] PA1 ρ1) (l : OwnLike ρ1 ρ) (k : ∀ d1 d2, PA1 [d1, d2] → DSs X ex F0 H0 ((ρ1.set i (.dat d1)).set j (.dat d2)) sts A) (h2 : ∀ ds, PA1 ds → ds.length = 2) (hc : X.calm = true := by rfl) (hi : X.N[i]? = some x := by rfl) (hj : X.N[j]? = some y := by rfl) (hij : i ≠ j := by decide)
    (hx : X.env.scope.names.lookup x = some .local := by rfl) (hy : X.env.scope.names.lookup y = some .local := by rfl)
    (hw : swappedStores [.Tuple [.Name x px, .Name y py] kt pt] (.Tuple [a, b] k2 pt2) X.env = pure (some [x, y]) := by rfl)
    (hs : swapsWithSole [.Tuple [.Name x px, .Name y py] kt pt] (.Tuple [a, b] k2 pt2) pos.line X.env = pure false := by rfl) :
    DSs X ex F0 H0 ρ (.Assign [.Tuple [.Name x px, .Name y py] kt pt] (.Tuple [a, b] k2 pt2) pos :: sts) A :=
  dss_seq (N1 := fun ρ' => ∃ d1 d2, PA1 [d1, d2] ∧ ρ' = (ρ1.set i (.dat d1)).set j (.dat d2)) (PS.imp (ps_par hc hN hi hj hij hx hy ha hw hs) fun D σ H ⟨F, a, n, r, b, c⟩ => ⟨F, a.ok, fun ds vs F2 H2 hp g o rv => by
    have hl := h2 ds hp
    match ds, hl, rv, hp with
    | [e1, e2], _, .cons r1 (.cons r2 .nil), hp => exact ⟨_, _, rfl, n _ _ F2 H2 ⟨_, _, hp, rfl⟩ g.f (((a.like g o l).setD r1).setD r2)⟩⟩) fun _ ⟨d1, d2, h, e⟩ => e ▸ k d1 d2 h
theorem dss_par (i j : Nat) {x y : Str} (hN : X.N.Nodup) (ha : DA X ρ [a, b] [d1, d2]) (k : DSs X ex F0 H0 ((ρ.set i (.dat d1)).set j (.dat d2)) sts A) (hc : X.calm = true := by rfl) (hi : X.N[i]? = some x := by rfl) (hj : X.N[j]? = some y := by rfl) (hij : i ≠ j := by decide)
    (hx : X.env.scope.names.lookup x = some .local := by rfl) (hy : X.env.scope.names.lookup y = some .local := by rfl)
    (hw : swappedStores [.Tuple [.Name x px, .Name y py] kt pt] (.Tuple [a, b] k2 pt2) X.env = pure (some [x, y]) := by rfl)
    (hs : swapsWithSole [.Tuple [.Name x px, .Name y py] kt pt] (.Tuple [a, b] k2 pt2) pos.line X.env = pure false := by rfl) :
    DSs X ex F0 H0 ρ (.Assign [.Tuple [.Name x px, .Name y py] kt pt] (.Tuple [a, b] k2 pt2) pos :: sts) A :=
  dss_parW i j hN (wa_d (PA1 := fun ds => ds = [d1, d2]) ha rfl) (OwnLike.refl _) (fun e1 e2 h => by cases h; exact k) (fun ds h => by rw [h]; rfl) hc hi hj hij hx hy hw hs
end

/-! ## loops whose source has an effect -/
def tWI (ex : List Addr) (ρ : Env') (P : List PyData → Prop) (ρ' : Env') : TI := fun σ H R => ∃ F, Ok F H ρ σ ∧ ∀ ds J F2 H2, P ds → GrowX ex F H F2 H2 → Ok F2 H2 ρ' σ → JOk J F2 ds → R J H2
abbrev WI (X : Cx) (ex : List Addr) (ρ : Env') (tg iter : Expr) (P : List PyData → Prop) (ρ' : Env') : Prop := PI X tg iter (tWI ex ρ P ρ')
section
variable {X : Cx} {ex : List Addr} {F0 H0 : Hp} {ρ ρ1 : Env'} {sts : List Stmt} {A : Aims} {e tg : Expr} {p pos : Pos} {PA1 : List PyData → Prop}
theorem wi_range1 (ha : WA X ex ρ [e] PA1 ρ1) (hP : ∀ ds, PA1 ds → ∃ j : Int, ds = [.int j] ∧ -(2 ^ 62) ≤ j ∧ j < 2 ^ 62) (hm : X.mg "range" = none) (hg : Gl X "range" := by rfl) (hs : starEach [e] X.env = [(false, eval e X.env)] := by rfl) :
    WI X ex ρ tg (.Call (.Name "range" p) [e] [] pos) (fun ds => ∃ j : Int, PA1 [.int j] ∧ ds = rngD 0 j.toNat) ρ1 :=
  PI.imp (pi_range1 hg hm ha hs) fun σ H R ⟨F, ok, k⟩ => ⟨F, ok, fun ds vs F2 H2 hp g o r => by
    obtain ⟨j, rfl, h1, h2⟩ := hP ds hp
    cases r with
    | cons r rr =>
      cases rr
      exact ⟨j, by rw [r.int_inv], h1, h2, k _ _ F2 H2 ⟨j, hp, rfl⟩ g o jok_rng⟩⟩
theorem dss_forW {iter : Expr} {body : List Stmt} {P : List PyData → Prop} (I : List PyData → Nat → Env' → Prop) (hi : WI X ex ρ tg iter P ρ1) (l : OwnLike ρ1 ρ) (h0 : ∀ ds, P ds → I ds 0 ρ1)
    (hs : ∀ (ds : List PyData) (i : Nat) (x : PyData) (ρ' : Env'), P ds → ds[i]? = some x → I ds i ρ' → ∃ ρ2 is, DG X ρ' tg x ρ2 is ∧ DSs X ex F0 H0 ρ2 body { A with N := I ds (i + 1), B := fun _ => False, C := I ds (i + 1) })
    (k : ∀ ds ρ', P ds → I ds ds.length ρ' → DSs X ex F0 H0 ρ' sts A) (hp : PassesOwn (model X.prog X.w) X.A X.env X.xe := by exact PassesOwn.never) (hc : X.calm = true := by rfl) (hse : ∀ x, foldedSetIterable iter X.env x = pure x := by intro _; rfl) : DSs X ex F0 H0 ρ (.For tg iter body [] pos :: sts) A := by
  refine dss_seq (N1 := fun ρ' => ∃ ds, P ds ∧ I ds ds.length ρ') ?_ fun ρ' ⟨ds, h1, h2⟩ => k ds ρ' h1 h2
  refine PS.imp (ps_for hp hc hi (g := fun v σ H Q => ∃ q : Env' × PyData × Env' × List Nat, PG X tg (tDG q.1 q.2.1 q.2.2.1 q.2.2.2) ∧ tDG q.1 q.2.1 q.2.2.1 q.2.2.2 v σ H Q) (tb := fun D σ H => ∃ q : Env' × Aims, DSs X ex F0 H0 q.1 body q.2 ∧ tS ex F0 H0 q.1 q.2 D σ H)
    (PG.any fun q h => h) (PSs.any fun q h => h) hse) fun D σ H ⟨F, a, n, r, b, c⟩ => ⟨F, a.ok, fun ds J F1 H1 hP g1 o1 hJ => ?_⟩
  refine ⟨fun i m σ' H' => m = ds.length - i ∧ i ≤ ds.length ∧ ∃ ρ' F', I ds i ρ' ∧ At ex F0 H0 ρ' σ' F' H' ∧ Same F1 F', ⟨ds.length, by simp, Nat.zero_le _, ρ1, F1, h0 ds hP, a.like g1 o1 l, Same.refl _⟩, ?_⟩
  rintro i m σ' H' ⟨rfl, hle, ρ', F', hI, a', sF⟩
  obtain ⟨j1, j2⟩ := hJ i F' H' sF a'.ok.s
  by_cases hlt : i < ds.length
  · right
    have hd' : ds[i]? = some ds[i] := List.getElem?_eq_getElem hlt
    obtain ⟨go, yl⟩ := j1 _ hd'
    refine ⟨go, fun σ2 H2 => ∃ ρ2 F2, I ds (i + 1) ρ2 ∧ At ex F0 H0 ρ2 σ2 F2 H2 ∧ Same F1 F2, fun σ2 H2 ⟨ρ2, F2, q1, q2, q3⟩ => ⟨ds.length - (i + 1), by omega, rfl, hlt, ρ2, F2, q1, q2, q3⟩, fun x H2 hy => ?_⟩
    obtain ⟨F2, g2, rx⟩ := yl x H2 hy
    obtain ⟨ρ2, is, ⟨hG, hr⟩, hB⟩ := hs ds i _ ρ' hP hd' hI
    have a2 := a'.grow g2
    exact ⟨(ρ', ds[i], ρ2, is), hG, F2, a2.ok, rx, fun σ3 ok3 _ => ⟨(ρ2, _), hB, F2, ⟨a2.g, ok3, fun i p w q => a2.new i p w (hr i p w q)⟩, fun ρ4 σ4 F4 H4 h4 s4 a4 => ⟨ρ4, F4, h4, a4, sF.trans (g2.f.trans s4)⟩, r,
      fun ρ4 σ4 F4 H4 h4 s4 a4 => h4.elim, fun ρ4 σ4 F4 H4 h4 s4 a4 => ⟨ρ4, F4, h4, a4, sF.trans (g2.f.trans s4)⟩⟩⟩
  · left
    have hi' : i = ds.length := by omega
    subst hi'
    exact ⟨j2 (by simp), n _ _ F' H' ⟨ds, hP, hI⟩ (g1.f.trans sF) a'⟩
end

/-! ## a comprehension whose items are drawn -/
theorem growX_minus {ex : List Addr} {F2 H2 F3 H3 F4 H4 : Hp} {D : Addr} {o : HO} (g3 : GrowX ex F2 H2 F3 (fun a => if a = D then none else H3 a)) (g4 : GrowX ex F3 H3 F4 H4) (hD : F3 D = none) (ho : H3 D = some o) (h2 : H2 D = none) (hnt : plB o = true) :
    GrowX ex F2 H2 F4 (fun a => if a = D then none else H4 a) := by
  have hD4 : F4 D = none := g4.n D hD ⟨o, ho, hnt⟩
  refine ⟨g3.f.trans g4.f, fun c u hc => ?_, fun c u hx hc hi => ?_, fun c hc => ?_, fun c h1 h3 => ?_, fun c h3 => ?_, fun c h3 => let ⟨o', h', p'⟩ := g4.m D ⟨o, ho, hnt⟩; (g4.t c ((g3.t c h3).unhide ho (plB_nt hnt))).hide h' (plB_nt p')⟩
  · by_cases h : c = D
    · subst h; rw [hD4] at hc; cases hc
    · simp only [h, if_false]; exact g4.s c u hc
  · have := g3.h c u hx hc hi
    by_cases h : c = D
    · subst h; rw [h2] at hc; cases hc
    · simp only [h, if_false] at this ⊢; exact g4.h c u hx this hi
  · have := g3.k c hc
    by_cases h : c = D
    · subst h; exact (hc h2).elim
    · simp only [h, if_false] at this ⊢; exact g4.k c this
  · have e := g3.n c h1 h3
    have := g3.m c h3
    by_cases h : c = D
    · subst h; exact (h3.ne h2).elim
    · exact g4.n c e (by obtain ⟨o, q1, q2⟩ := this; exact ⟨o, by simpa [h] using q1, q2⟩)
  · have := g3.m c h3
    by_cases h : c = D
    · subst h; exact (h3.ne h2).elim
    · obtain ⟨o, q1, q2⟩ := g4.m c (by obtain ⟨o, q1, q2⟩ := this; exact ⟨o, by simpa [h] using q1, q2⟩)
      exact ⟨o, by simpa [h] using q1, q2⟩
/-- each item stands in P to its source -/
inductive All2 {α β : Type} (P : α → β → Prop) : List α → List β → Prop
  | nil : All2 P [] []
  | cons {x : α} {y : β} {xs : List α} {ys : List β} : P x y → All2 P xs ys → All2 P (x :: xs) (y :: ys)
theorem All2.snoc {α β : Type} {P : α → β → Prop} {x : α} {y : β} : ∀ {xs : List α} {ys : List β}, All2 P xs ys → P x y → All2 P (xs ++ [x]) (ys ++ [y])
  | _, _, .nil, h => .cons h .nil
  | _, _, .cons a t, h => .cons a (t.snoc h)
theorem All2.len {α β : Type} {P : α → β → Prop} : ∀ {xs : List α} {ys : List β}, All2 P xs ys → xs.length = ys.length
  | _, _, .nil => rfl
  | _, _, .cons a t => by simp [t.len]
section
variable {X : Cx} {ρ : Env'} {α : Type} {xs : List α} {enc : α → PyData} {elt tg iter : Expr} {scope : Scope} {pos : Pos} {own : List (Str × Nat)} {p : Addr}
theorem lcK_read (jd : Nat) (n cost : Int) (g g2 : α → Int → Env') (Pf : α → PyData → Prop) (is : List Nat)
    (hjd : ρ[jd]? = some (.own p (.deck n)))
    (hg2 : ∀ x m, (g2 x m)[jd]? = some (.own p (.deck (m + cost))))
    (hcost : 0 ≤ cost) (his : ∀ i ∈ is, i ∈ own.map (·.2)) (hl : xs.length ≤ sizeLine) :
    ∀ σ H Q, tW [p] ρ (fun d => ∃ ds, d = .list ds ∧ All2 Pf xs ds) (ρ.set jd (.own p (.deck (n + cost * xs.length)))) σ H Q →
      tLc (tDI ρ (xs.map enc)) (fun v σ H Q => ∃ x : α × Int, x.1 ∈ xs ∧ tDG (wipeE (ρ.set jd (.own p (.deck x.2))) (own.map (·.2))) (enc x.1) (g x.1 x.2) is v σ H Q) tYes (fun σ H Q => ∃ x : α × Int, (x.1 ∈ xs ∧ n ≤ x.2 ∧ x.2 + cost ≤ n + cost * xs.length) ∧ tW [p] (g x.1 x.2) (Pf x.1) (g2 x.1 x.2) σ H Q) (own.map (·.2)) σ H Q := by
  refine fun σ H Q ⟨F, ok1, k⟩ => ⟨F, ok1, fun J F2 H2 g2' hJ => ?_⟩
  intro D hD
  have hlr : jd < ρ.length := (List.getElem?_eq_some_iff.mp hjd).1
  refine ⟨fun i m H3 => m = xs.length - i ∧ i ≤ xs.length ∧ ∃ F3, GrowX [p] F2 H2 F3 (fun a => if a = D then none else H3 a) ∧ Same F3 H3 ∧ F3 D = none ∧ Ok F3 H3 (ρ.set jd (.own p (.deck (n + cost * i)))) σ ∧ ∃ vs ds, H3 D = some (.lst vs) ∧ RpA F3 vs ds ∧ All2 Pf (xs.take i) ds,
    ⟨xs.length, by simp, Nat.zero_le _, F2, ?_, ?_, ?_, ?_, [], [], upd_same, .nil, by simp; exact .nil⟩, ?_⟩
  · have e : (fun a => if a = D then none else upd H2 D (.lst []) a) = H2 := by
      funext a
      by_cases ha : a = D
      · subst ha; rw [if_pos rfl, hD]
      · rw [if_neg ha, upd_ne ha]
    rw [e]; exact GrowX.refl g2'.s
  · exact g2'.s.trans (Same.upd_new hD)
  · exact same_none g2'.s hD
  · have o2 := (ok1.grow g2').grow (Grow.skip (o := .lst []) g2'.s hD)
    have e : ρ.set jd (.own p (.deck (n + cost * ((0 : Nat) : Int)))) = ρ := by
      have : n + cost * ((0 : Nat) : Int) = n := by simp
      rw [this]
      refine List.ext_getElem? fun j => ?_
      by_cases hj : jd = j
      · subst hj; rw [List.getElem?_set_self hlr, hjd]
      · rw [List.getElem?_set_ne hj]
    rw [e]; exact o2
  rintro i m H3 ⟨rfl, hle, F3, g3, s3, hD3, ok3, vs, ds, hvs, rvs, al⟩
  by_cases hlt : i < xs.length
  · right
    have hd : (xs.map enc)[i]? = some (enc xs[i]) := by rw [List.getElem?_map, List.getElem?_eq_getElem hlt]; rfl
    have hx : xs[i] ∈ xs := List.getElem_mem hlt
    obtain ⟨h1, -⟩ := hJ i F3 H3 g3.f s3
    obtain ⟨go, yl⟩ := h1 _ hd
    refine ⟨go, fun H' => ∃ m', m' < xs.length - i ∧ (m' = xs.length - (i + 1) ∧ i + 1 ≤ xs.length ∧ ∃ F4, GrowX [p] F2 H2 F4 (fun a => if a = D then none else H' a) ∧ Same F4 H' ∧ F4 D = none ∧ Ok F4 H' (ρ.set jd (.own p (.deck (n + cost * (i + 1 : Nat))))) σ ∧ ∃ vs ds, H' D = some (.lst vs) ∧ RpA F4 vs ds ∧ All2 Pf (xs.take (i + 1)) ds), fun H' h => h, fun x H4 hy => ?_⟩
    obtain ⟨F4, g4, rx⟩ := yl x H4 hy
    have ok4 := ok3.grow g4
    have hm1 : n ≤ n + cost * (i : Int) := by
      have := Int.mul_nonneg hcost (Int.natCast_nonneg i)
      omega
    have hm2 : n + cost * (i : Int) + cost ≤ n + cost * xs.length := by
      have h : cost * ((i : Int) + 1) ≤ cost * (xs.length : Int) := Int.mul_le_mul_of_nonneg_left (by omega) hcost
      rw [Int.mul_add, Int.mul_one] at h
      omega
    refine ⟨(xs[i], n + cost * i), hx, F4, ok4.wipe _, rx, fun σ2 okx hw => ⟨?_, ?_⟩⟩
    · rw [hw _ his]
      exact wipe_twice σ _
    dsimp only [tYes]
    rw [if_pos rfl]
    refine ⟨(xs[i], n + cost * i), ⟨hx, hm1, hm2⟩, F4, okx, fun d y F6 H6 hPd g6 ok6 ry => ?_⟩
    have g46 : GrowX [p] F3 H3 F6 H6 := g4.up.trans g6
    have hpD : D ≠ p := fun z => by
      subst z
      obtain ⟨_, _, ho, h3, _⟩ := (ok1.grow g2').own hjd
      rw [hD] at h3; cases h3
    have hD6 : H6 D = some (.lst vs) := g46.h D _ (fun z => hpD (List.mem_singleton.mp z)) hvs rfl
    have hF6 : F6 D = none := g46.n D hD3 (NN.lst hvs)
    have tk : xs.take (i + 1) = xs.take i ++ [xs[i]] := by rw [List.take_append_getElem hlt]
    refine ⟨vs, hD6, ?_, ?_⟩
    · have h1 := al.len
      rw [rvs.len, ← h1, List.length_take]
      omega
    · have hdk := (ok6.own (hg2 _ _)).2.2
      have hset : (ρ.set jd (.own p (.deck (n + cost * (i : Int)))))[jd]? = some (.own p (.deck (n + cost * (i : Int)))) := List.getElem?_set_self hlr
      have ok7 := ok3.deck hset g46 (.deck (n + cost * (i + 1 : Nat))) (by
        obtain ⟨ho, q1, aa, bb, cc, q2, q3, q4, q5, q6, q7⟩ := hdk
        refine ⟨ho, q1, aa, bb, cc, q2, q3, q4, q5, q6, ?_⟩
        have : cost * ((i + 1 : Nat) : Int) = cost * i + cost := by rw [Int.natCast_add, Int.mul_add]; simp
        rw [this]; omega)
      rw [List.set_set] at ok7
      have sN : Same F6 (upd H6 D (.lst (vs ++ [y]))) := fun c u hc => by
        have hcD : c ≠ D := fun z => by subst z; rw [hF6] at hc; cases hc
        rw [upd_ne hcD]
        exact g46.s c u hc
      refine ⟨_, by omega, rfl, hlt, F6, ?_, sN, hF6, ?_, vs ++ [y], ds ++ [d], upd_same, (rvs.mono g46.f).append (.cons ry .nil), ?_⟩
      · have e : (fun a => if a = D then none else upd H6 D (.lst (vs ++ [y])) a) = fun a => if a = D then none else H6 a := by
          funext a
          by_cases ha : a = D
          · rw [if_pos ha, if_pos ha]
          · rw [if_neg ha, if_neg ha, upd_ne ha]
        rw [e]
        exact growX_minus g3 g46 hD3 hvs hD rfl
      · refine ⟨sN, ok7.len, fun j e hj => ?_, ok7.ne⟩
        obtain ⟨oo, e1, e2⟩ := ok7.at_ j e hj
        refine ⟨oo, e1, ?_⟩
        cases e with
        | no => trivial
        | dat d => exact e2
        | val v => exact e2
        | fx q u => exact e2
        | st q w => exact e2
        | own q w =>
          obtain ⟨x1, x2, hh, x3, x4⟩ := e2
          have hqD : q ≠ D := fun z => by
            subst z
            -- an own thing of before is not the new list
            have : ∃ w0, ρ[j]? = some (.own q w0) := by
              by_cases hjj : jd = j
              · subst hjj
                rw [List.getElem?_set_self hlr] at hj; cases hj
                exact ⟨_, hjd⟩
              · rw [List.getElem?_set_ne hjj] at hj; exact ⟨w, hj⟩
            obtain ⟨w0, hw0⟩ := this
            obtain ⟨_, _, ho, h3, _⟩ := (ok1.grow g2').own hw0
            rw [hD] at h3; cases h3
          exact ⟨x1, x2, hh, by rw [upd_ne hqD]; exact x3, x4⟩
      · rw [tk]; exact al.snoc hPd
  · left
    have hi' : i = xs.length := by omega
    subst hi'
    obtain ⟨-, h2⟩ := hJ xs.length F3 H3 g3.f s3
    refine ⟨h2 (by simp), ?_⟩
    rw [List.take_length] at al
    have hF : Same F3 (upd F3 D (.lst vs)) := Same.upd_new hD3
    have sH : Same (upd F3 D (.lst vs)) H3 := fun c u hc => by
      by_cases h : c = D
      · subst h; rw [upd_same] at hc; rw [hvs]; exact hc
      · rw [upd_ne h] at hc; exact s3 c u hc
    refine k (.list ds) (.ref D) (upd F3 D (.lst vs)) H3 ⟨ds, rfl, al⟩ (g2'.up.trans ⟨g3.f.trans hF, sH, fun c u hx hc hi => ?_, fun c hc => ?_, fun c h1 h2 => ?_, fun c h2 => ?_, fun c h2 => ((g3.t c h2).unhide hvs rfl).updF hD3 (tbl_nt hvs rfl)⟩) ?_ (.lst upd_same (rvs.mono hF))
    · have := g3.h c u hx hc hi
      by_cases h : c = D
      · subst h; rw [hD] at hc; cases hc
      · simpa [h] using this
    · by_cases h : c = D
      · subst h; rw [hvs]; simp
      · have := g3.k c hc
        simpa [h] using this
    · by_cases h : c = D
      · subst h; exact (h2.ne hD).elim
      · rw [upd_ne h]; exact g3.n c h1 h2
    · by_cases h : c = D
      · subst h; exact NN.lst hvs
      · obtain ⟨o, q1, q2⟩ := g3.m c h2
        exact ⟨o, by simpa [h] using q1, q2⟩
    · refine ⟨sH, ok3.len, fun j e hj => ?_, ok3.ne⟩
      obtain ⟨oo, e1, e2⟩ := ok3.at_ j e hj
      refine ⟨oo, e1, ?_⟩
      cases e with
      | no => trivial
      | dat d => obtain ⟨v, x1, x2⟩ := e2; exact ⟨v, x1, x2.mono hF⟩
      | val v => exact e2
      | fx q u => exact ⟨e2.1, hF _ _ e2.2⟩
      | st q w => exact ⟨e2.1, let ⟨u, hu, hw⟩ := e2.2; ⟨u, hF _ _ hu, w.mono hF hw⟩⟩
      | own q w =>
        obtain ⟨x1, x2, hh, x3, x4⟩ := e2
        have hqD : q ≠ D := fun z => by
          subst z
          have : ∃ w0, ρ[j]? = some (.own q w0) := by
            by_cases hjj : jd = j
            · subst hjj
              rw [List.getElem?_set_self hlr] at hj; cases hj
              exact ⟨_, hjd⟩
            · rw [List.getElem?_set_ne hjj] at hj; exact ⟨w, hj⟩
          obtain ⟨w0, hw0⟩ := this
          obtain ⟨_, _, ho, h3, _⟩ := (ok1.grow g2').own hw0
          rw [hD] at h3; cases h3
        exact ⟨x1, by rw [upd_ne hqD]; exact x2, hh, x3, w.mono hF x4⟩
theorem we_lcK (jd : Nat) (n cost : Int) (g g2 : α → Int → Env') (Pf : α → PyData → Prop) (is : List Nat) (hc : X.calm = true) (hN : X.N.Nodup) (ok : BlkOk X.N X.env.scope scope own) (hi : DI X ρ tg iter (xs.map enc))
    (hjd : ρ[jd]? = some (.own p (.deck n)))
    (hg : ∀ x ∈ xs, ∀ m, Blk X scope fun Y => DG Y (wipeE (ρ.set jd (.own p (.deck m))) (own.map (·.2))) tg (enc x) (g x m) is)
    (he : ∀ x ∈ xs, ∀ m, n ≤ m → m + cost ≤ n + cost * xs.length → Blk X scope fun Y => WE Y [p] (g x m) elt (Pf x) (g2 x m))
    (hg2 : ∀ x m, (g2 x m)[jd]? = some (.own p (.deck (m + cost))))
    (hcost : 0 ≤ cost) (his : ∀ i ∈ is, i ∈ own.map (·.2)) (hl : xs.length ≤ sizeLine) (hs : ∀ x, foldedSetIterable iter X.env x = pure x := by intro _; rfl) :
    WE X [p] ρ (.ListComp elt [⟨tg, iter, [], 0⟩] scope pos) (fun d => ∃ ds, d = .list ds ∧ All2 Pf xs ds) (ρ.set jd (.own p (.deck (n + cost * xs.length)))) :=
  PE.imp (pe_lc hc hN hi ok (fun s H C cl fp => PG.any fun x hx => (hg x.1 hx x.2 s H C cl fp).1) (fun s H C cl fp => pts_nil) (fun s H C cl fp => PE.any fun x hx => he x.1 hx.1 x.2 hx.2.1 hx.2.2 s H C cl fp) hs) (lcK_read jd n cost g g2 Pf is hjd hg2 hcost his hl)
end

/-! ## isinstance -/
def tyD : PyData → String
  | .none => "NoneType"
  | .bool _ => "bool"
  | .int _ => "int"
  | .str _ => "str"
  | .list _ => "list"
  | .tuple _ => "tuple"
  | .dict _ => "dict"
theorem Rp.ty {K : PySem.W.Frag} {F H : Hp} {v : V} {d : PyData} (h : Rp F v d) (e : Same F H) : TyX K H v (.type (tyD d)) := by
  cases h with
  | non => exact .base .non
  | bl b => exact .base (.bl b)
  | int i => exact .base (.int i)
  | str s => exact .base (.str s)
  | lst h _ => exact .base (.lst (e _ _ h))
  | tup h _ => exact .base (.tup (e _ _ h))
section
variable {X : Cx} {ρ : Env'} {e : Expr} {d : PyData} {p q pos : Pos} {T : String} {x : Str}
theorem de_isi {b : Bool} (he : DE X ρ e d) (hm : X.mg "isinstance" = none) (hmT : X.mg x = none) (hvT : bootBuiltins x = some (.type T)) (hb : kitB (tyD d) T = some b) (hg : Gl X "isinstance" := by rfl) (hgT : Gl X x := by rfl) (hnT : x ≠ "__name__" := by decide) (hdT : (x == ("__debug__" : Str)) = false := by decide)
    (hs : starEach [e, .Name x q] X.env = (false, eval e X.env) :: starEach [.Name x q] X.env := by rfl) (hpl : (backTo pos (starEach [.Name x q] X.env)).any (·.1) = false := by rfl) (hs2 : starEach [.Name x q] X.env = (false, eval (.Name x q) X.env) :: starEach [] X.env := by rfl) :
    DE X ρ (.Call (.Name "isinstance" p) [e, .Name x q] [] pos) (.bool b) :=
  PE.imp (pe_callB call_isi hg hm (by decide +kernel) (pa_cons he (pa_cons (pe_bltn (v := .ty T) hgT hmT hvT rfl hnT hdT) pa_nil hs2) hs) (by decide) (by decide) hs hpl) fun σ H Q ⟨F, ok, k⟩ => ⟨F, ok, fun v F2 H2 g r =>
    ⟨v, .ty T, .type (tyD d), .type T, b, rfl, .ty T, r.ty g.s, kit_ty hb, k _ F2 H2 g (.bl b)⟩⟩
end
/-! ## a <= b <= c -/
theorem de_chainI {X : Cx} {ρ : Env'} {a b c : Expr} {i j k : Int} {pos : Pos} {op op' : CmpOp} {f g : Int → Int → Bool} (ho : OpR X (compareOp op) (rI0 fun i j => .bl (f i j))) (ho' : OpR X (compareOp op') (rI0 fun i j => .bl (g i j))) (ha : DE X ρ a (.int i)) (hb : DE X ρ b (.int j)) (hc : DE X ρ c (.int k))
    (hm : lastMarks [op, op'] [b, c] = false := by with_unfolding_all rfl) : DE X ρ (.Compare a [op, op'] [b, c] pos) (.bool (f i j && g j k)) :=
  PE.imp (pe_chain ho ho' ha hb hc hm) fun σ H Q ⟨F, ok, kk⟩ => ⟨F, ok, fun v1 F1 H1 g1 r1 => ⟨F1, ok.grow g1, fun v2 F2 H2 g2 r2 => by
    refine ⟨i, j, (r1.int_inv), r2.int_inv, f i j, rfl, ?_⟩
    cases hf : f i j with
    | true =>
      rw [if_pos rfl]
      refine ⟨F2, (ok.grow g1).grow g2, fun v3 F3 H3 g3 r3 => ⟨j, k, r2.int_inv, r3.int_inv, ?_⟩⟩
      have := kk (.bl (g j k)) F3 H3 (g1.trans (g2.trans g3)) (by rw [hf, Bool.true_and]; exact .bl _)
      exact this
    | false =>
      rw [if_neg Bool.false_ne_true]
      exact kk (.bl false) F2 H2 (g1.trans g2) (by rw [hf, Bool.false_and]; exact .bl _)⟩⟩
end Tw

namespace Tw
open PySem PySem.Spec PyProof.Rows L2
/-! ## the mirror: customs, a turn -/
structure Hand where
  rise : Int
  fall : Int
  cap : Int
  deriving DecidableEq, Repr
structure Custom where
  many : Int
  first : Bool
  hands : List Hand
  deriving DecidableEq, Repr
def haD (h : Hand) : PyData := .tuple [.int h.rise, .int h.fall, .int h.cap]
def tieS (b : Bool) : Str := if b then "first" else "last"
def cuD (c : Custom) : PyData := .tuple [.int c.many, .str (tieS c.first), .tuple (c.hands.map haD)]
def signOf (c : Custom) : Int := if c.first then 1 else -1
def enumI (ws : List Int) : List (Int × Int) := ws.mapIdx fun i w => ((i : Int), w)
def orderOf (c : Custom) (ws : List Int) : List (Int × Int) := sortP ((enumI ws).map fun p => (-p.2, signOf c * p.1))
def takeI {α : Type} (n : Int) (xs : List α) : List α := xs.take (if n < 0 then (n + xs.length).toNat else min n.toNat xs.length)
def hadOf (c : Custom) (ws : List Int) : List Int := sortI ((takeI c.many (orderOf c ws)).map fun p => signOf c * p.2)
def handAt (hands : List Hand) (i : Int) : Hand := hands.getD i.toNat ⟨0, 0, 0⟩
def stepOf (had : List Int) (hands : List Hand) (i : Int) (w : Int) : Int :=
  if i ∈ had then max 0 (w - (handAt hands i).fall) else min (handAt hands i).cap (w + (handAt hands i).rise)
def afterBy (had : List Int) (hands : List Hand) (ws : List Int) : List Int := (enumI ws).map fun p => stepOf had hands p.1 p.2
/-- by counting who goes ahead -/
def goesAhead (first : Bool) (p q : Int × Int) : Bool := decide (q.2 > p.2) || (decide (q.2 = p.2) && (if first then decide (q.1 < p.1) else decide (q.1 > p.1)))
def aheadOf (c : Custom) (ws : List Int) (p : Int × Int) : Nat := ((enumI ws).filter (goesAhead c.first p)).length
def had (c : Custom) (ws : List Int) : List Int := ((enumI ws).filter fun p => decide ((aheadOf c ws p : Int) < c.many)).map (·.1)
/-- a custom, wishes, as the document says -/
structure WfC (c : Custom) : Prop where
  two : 2 ≤ c.hands.length
  four : c.hands.length ≤ 4
  many1 : 1 ≤ c.many
  many2 : c.many ≤ (c.hands.length : Int) - 1
  steps : ∀ h ∈ c.hands, 0 ≤ h.rise ∧ h.rise ≤ 15 ∧ 0 ≤ h.fall ∧ h.fall ≤ 15 ∧ 0 ≤ h.cap ∧ h.cap ≤ 15
structure WfW (c : Custom) (ws : List Int) : Prop where
  len : ws.length = c.hands.length
  bound : ∀ (i : Nat) (w : Int), ws[i]? = some w → 0 ≤ w ∧ w ≤ (handAt c.hands i).cap
/-! ## the mathematics of a turn -/
theorem enumI_len (ws : List Int) : (enumI ws).length = ws.length := by simp [enumI]
theorem enumI_get (ws : List Int) (i : Nat) : (enumI ws)[i]? = ws[i]?.map fun w => ((i : Int), w) := by simp [enumI, List.getElem?_mapIdx]
theorem enumI_mem {ws : List Int} {p : Int × Int} : p ∈ enumI ws ↔ ∃ i : Nat, p.1 = i ∧ ws[i]? = some p.2 := by
  rw [List.mem_iff_getElem?]
  constructor
  · rintro ⟨i, h⟩
    rw [enumI_get] at h
    obtain ⟨w, h1, h2⟩ := Option.map_eq_some_iff.mp h
    subst h2
    exact ⟨i, rfl, h1⟩
  · rintro ⟨i, h1, h2⟩
    exact ⟨i, by rw [enumI_get, h2]; exact congrArg some (Prod.ext h1.symm rfl)⟩
theorem enumI_fst (ws : List Int) : (enumI ws).map (·.1) = (List.range ws.length).map fun (i : Nat) => (i : Int) := by
  refine List.ext_getElem? fun i => ?_
  rw [List.getElem?_map, enumI_get, List.getElem?_map]
  by_cases h : i < ws.length
  · rw [List.getElem?_eq_getElem h, List.getElem?_range h]; rfl
  · have h1 : ws[i]? = none := List.getElem?_eq_none_iff.mpr (by omega)
    have h2 : (List.range ws.length)[i]? = none := List.getElem?_eq_none_iff.mpr (by simp; omega)
    rw [h1, h2]; rfl
theorem enumI_snd (ws : List Int) : (enumI ws).map (·.2) = ws := by
  refine List.ext_getElem? fun i => ?_
  rw [List.getElem?_map, enumI_get, Option.map_map]
  cases ws[i]? <;> rfl
theorem castRange_sorted (n : Nat) : ((List.range n).map fun (i : Nat) => (i : Int)).Pairwise (· < ·) := by
  rw [List.pairwise_map]
  exact List.pairwise_lt_range.imp fun h => by omega
theorem had_sorted (c : Custom) (ws : List Int) : (had c ws).Pairwise (· < ·) := by
  unfold had
  have h : (((enumI ws).filter fun p => decide ((aheadOf c ws p : Int) < c.many)).map (·.1)).Sublist ((enumI ws).map (·.1)) := List.Sublist.map _ List.filter_sublist
  rw [enumI_fst] at h
  exact (castRange_sorted _).sublist h
theorem nodup_of_lt {l : List Int} (h : l.Pairwise (· < ·)) : l.Nodup := h.imp fun q e => by omega
theorem take_sorted {α : Type} {lt : α → α → Bool} (hir : ∀ x, lt x x = false) : ∀ {L : List α} (m : Nat), L.Pairwise (fun a b => lt a b = true ∧ lt b a = false) → ∀ x ∈ L, (x ∈ L.take m ↔ (L.filter (fun y => lt y x)).length < m)
  | [], _, _, x, h => by cases h
  | h :: t, m, hp, x, hx => by
    obtain ⟨h1, h2⟩ := List.pairwise_cons.mp hp
    have hne : ∀ y ∈ t, y ≠ h := fun y hy e => by subst e; have := (h1 y hy).1; rw [hir] at this; cases this
    rcases List.mem_cons.mp hx with e | e
    · subst e
      have hz : (List.filter (fun y => lt y x) (x :: t)) = [] := by
        rw [List.filter_eq_nil_iff]
        intro y hy
        rcases List.mem_cons.mp hy with e | e
        · subst e; simp [hir]
        · simp [(h1 y e).2]
      rw [hz]
      cases m with
      | zero => simp
      | succ m => simp
    · have ih := take_sorted hir (m - 1) h2 x e
      have hlt : lt h x = true := (h1 x e).1
      rw [List.filter_cons_of_pos (by simpa using hlt), List.length_cons]
      cases m with
      | zero => simp
      | succ m =>
        rw [List.take_succ_cons, List.mem_cons]
        simp only [Nat.add_sub_cancel] at ih
        constructor
        · rintro (q | q)
          · exact absurd q (hne x e)
          · exact Nat.succ_lt_succ (ih.mp q)
        · intro q; exact .inr (ih.mpr (Nat.lt_of_succ_lt_succ q))
def ltPr (x y : Int × Int) : Bool := decide (x.1 < y.1 ∨ (x.1 = y.1 ∧ x.2 < y.2))
theorem signOf_sq (c : Custom) (i : Int) : signOf c * (signOf c * i) = i := by unfold signOf; split <;> omega
theorem signOf_inj (c : Custom) {i j : Int} (h : signOf c * i = signOf c * j) : i = j := by
  have := congrArg (signOf c * ·) h
  simpa [signOf_sq] using this
theorem enumI_nodup (ws : List Int) : (enumI ws).Nodup := by
  have h : ((enumI ws).map (·.1)).Nodup := by rw [enumI_fst]; exact nodup_of_lt (castRange_sorted _)
  exact List.Pairwise.imp (fun {a b} q e => q (by rw [e])) (List.pairwise_map.mp h)
theorem enumI_inj {ws : List Int} {p q : Int × Int} (hp : p ∈ enumI ws) (hq : q ∈ enumI ws) (h : p.1 = q.1) : p = q := by
  obtain ⟨i, h1, h2⟩ := enumI_mem.mp hp
  obtain ⟨j, h3, h4⟩ := enumI_mem.mp hq
  have : i = j := by omega
  subst this
  rw [h2] at h4
  exact Prod.ext h (Option.some.inj h4)
theorem hadOf_eq (c : Custom) (ws : List Int) (hm : 0 ≤ c.many) : hadOf c ws = had c ws := by
  unfold hadOf
  symm
  let key : Int × Int → Int × Int := fun p => (-p.2, signOf c * p.1)
  have hkinj : ∀ p q, key p = key q → p = q := fun p q h => by
    have h1 : -p.2 = -q.2 := congrArg Prod.fst h
    have h2 : signOf c * p.1 = signOf c * q.1 := congrArg Prod.snd h
    exact Prod.ext (signOf_inj c h2) (by omega)
  have hperm : (orderOf c ws).Perm ((enumI ws).map key) := sortP_perm _
  have hnd : (orderOf c ws).Nodup := hperm.nodup_iff.mpr (by
    rw [List.nodup_iff_pairwise_ne, List.pairwise_map]
    exact (enumI_nodup ws).imp fun h e => h (hkinj _ _ e))
  have hstr : (orderOf c ws).Pairwise (fun a b => ltPr a b = true ∧ ltPr b a = false) := by
    have h1 := sortP_sorted ((enumI ws).map key)
    have h2 : (orderOf c ws).Pairwise (fun a b => leP a b = true ∧ a ≠ b) := h1.and hnd
    refine h2.imp fun {a b} ⟨h3, h4⟩ => ?_
    rw [leP_iff] at h3
    have h5 : ¬ (a.1 = b.1 ∧ a.2 = b.2) := fun z => h4 (Prod.ext z.1 z.2)
    constructor
    · simp only [ltPr, decide_eq_true_eq]; omega
    · simp only [ltPr, decide_eq_false_iff_not]; omega
  have htk : takeI c.many (orderOf c ws) = (orderOf c ws).take c.many.toNat := by
    unfold takeI
    rw [if_neg (by omega)]
    refine List.take_eq_take_iff.mpr ?_
    omega
  rw [htk]
  refine sortI_of ?_ ((had_sorted c ws).imp fun h => by omega)
  have hnd1 : (had c ws).Nodup := nodup_of_lt (had_sorted c ws)
  have hnd2 : (((orderOf c ws).take c.many.toNat).map fun p => signOf c * p.2).Nodup := by
    have h1 : ((orderOf c ws).map fun p => signOf c * p.2).Perm ((enumI ws).map (·.1)) := by
      have h2 := hperm.map fun p => signOf c * p.2
      rw [List.map_map] at h2
      have h3 : ((fun p : Int × Int => signOf c * p.2) ∘ key) = fun p => p.1 := by
        funext p; exact signOf_sq c p.1
      rw [h3] at h2
      exact h2
    have h4 : ((orderOf c ws).map fun p => signOf c * p.2).Nodup := h1.nodup_iff.mpr (by rw [enumI_fst]; exact nodup_of_lt (castRange_sorted _))
    exact h4.sublist ((List.take_sublist _ _).map _)
  rw [List.perm_ext_iff_of_nodup hnd1 hnd2]
  intro i
  have hcount : ∀ p, ((orderOf c ws).filter (fun y => ltPr y (key p))).length = aheadOf c ws p := fun p => by
    rw [(hperm.filter _).length_eq, List.filter_map, List.length_map]
    unfold aheadOf
    congr 1
    refine List.filter_congr fun q _ => ?_
    show ltPr (key q) (key p) = goesAhead c.first p q
    unfold ltPr goesAhead key signOf
    cases c.first
    · simp only [if_neg Bool.false_ne_true]
      rw [Bool.eq_iff_iff]
      simp only [decide_eq_true_eq, Bool.or_eq_true, Bool.and_eq_true]
      omega
    · simp only [if_true]
      rw [Bool.eq_iff_iff]
      simp only [decide_eq_true_eq, Bool.or_eq_true, Bool.and_eq_true]
      omega
  have hmem : ∀ p ∈ enumI ws, (key p ∈ (orderOf c ws).take c.many.toNat ↔ (aheadOf c ws p : Int) < c.many) := fun p hp => by
    have hin : key p ∈ orderOf c ws := hperm.mem_iff.mpr (List.mem_map.mpr ⟨p, hp, rfl⟩)
    rw [take_sorted (lt := ltPr) (fun x => by simp [ltPr]) c.many.toNat hstr (key p) hin, hcount p]
    omega
  constructor
  · intro hi
    unfold had at hi
    obtain ⟨p, hp, rfl⟩ := List.mem_map.mp hi
    obtain ⟨hp1, hp2⟩ := List.mem_filter.mp hp
    exact List.mem_map.mpr ⟨key p, (hmem p hp1).mpr (by simpa using hp2), signOf_sq c p.1⟩
  · intro hi
    obtain ⟨x, hx, rfl⟩ := List.mem_map.mp hi
    obtain ⟨p, hp, rfl⟩ := List.mem_map.mp (hperm.mem_iff.mp (List.mem_of_mem_take hx))
    show signOf c * (signOf c * p.1) ∈ had c ws
    rw [signOf_sq]
    exact List.mem_map.mpr ⟨p, List.mem_filter.mpr ⟨hp, by simpa using (hmem p hp).mp hx⟩, rfl⟩
/-! ## turn by turn -/
def after (c : Custom) (ws : List Int) : List Int := afterBy (had c ws) c.hands ws
def oneD (c : Custom) (ws : List Int) : PyData := .tuple [wiD (had c ws), wiD (after c ws)]
def wAt (c : Custom) (ws : List Int) : Nat → List Int
  | 0 => ws
  | k + 1 => after c (wAt c ws k)
def hadAt (c : Custom) (ws : List Int) (k : Nat) : List Int := had c (wAt c ws k)
def rowN (c : Custom) (ws : List Int) (n : Nat) : List (List Int) := (List.range n).map (hadAt c ws)
theorem rowN_len (c : Custom) (ws : List Int) (n : Nat) : (rowN c ws n).length = n := by simp [rowN]
theorem rowN_succ (c : Custom) (ws : List Int) (n : Nat) : rowN c ws (n + 1) = rowN c ws n ++ [hadAt c ws n] := by simp [rowN, List.range_succ]
theorem after_len (c : Custom) (ws : List Int) : (after c ws).length = ws.length := by simp [after, afterBy, enumI_len]
theorem after_get (c : Custom) (ws : List Int) (i : Nat) : (after c ws)[i]? = ws[i]?.map fun w => stepOf (had c ws) c.hands (i : Int) w := by
  unfold after afterBy
  rw [List.getElem?_map, enumI_get, Option.map_map]; rfl
theorem handAt_mem {hands : List Hand} {i : Nat} (h : i < hands.length) : handAt hands (i : Int) ∈ hands := by
  unfold handAt
  rw [Int.toNat_natCast, List.getD_eq_getElem?_getD, List.getElem?_eq_getElem h]
  exact List.getElem_mem h
theorem wf_after {c : Custom} {ws : List Int} (hc : WfC c) (hw : WfW c ws) : WfW c (after c ws) := by
  refine ⟨by rw [after_len, hw.len], fun i w h => ?_⟩
  rw [after_get] at h
  obtain ⟨v, h1, rfl⟩ := Option.map_eq_some_iff.mp h
  have hb := hw.bound i v h1
  have hi : i < c.hands.length := by rw [← hw.len]; exact (List.getElem?_eq_some_iff.mp h1).1
  have hs := hc.steps _ (handAt_mem hi)
  unfold stepOf
  split <;> omega
theorem wf_at {c : Custom} {ws : List Int} (hc : WfC c) (hw : WfW c ws) : ∀ k, WfW c (wAt c ws k)
  | 0 => hw
  | k + 1 => wf_after hc (wf_at hc hw k)
theorem wAt_len {c : Custom} {ws : List Int} : ∀ k, (wAt c ws k).length = ws.length
  | 0 => rfl
  | k + 1 => by rw [wAt, after_len, wAt_len k]
theorem wAt_add (c : Custom) (ws : List Int) (i : Nat) : ∀ j, wAt c ws (i + j) = wAt c (wAt c ws i) j
  | 0 => rfl
  | j + 1 => by show after c (wAt c ws (i + j)) = after c _; rw [wAt_add c ws i j]
/-! ## small things that walks ask -/
theorem tieS_first (b : Bool) : decide (tieS b = Str.ofString "first") = b := by cases b <;> decide
theorem enumD_ints (ws : List Int) : enumD (ws.map .int) = (enumI ws).map fun p => .tuple [.int p.1, .int p.2] := by
  unfold enumD enumI
  refine List.ext_getElem? fun i => ?_
  simp only [List.getElem?_mapIdx, List.getElem?_map, Option.map_map]
  rfl
theorem enumD_int_get {ws : List Int} {i : Nat} {x : PyData} (h : (enumD (ws.map PyData.int))[i]? = some x) : ∃ w, ws[i]? = some w ∧ x = .tuple [.int (i : Int), .int w] := by
  obtain ⟨y, hy, rfl⟩ := enumD_get h
  rw [List.getElem?_map] at hy
  obtain ⟨w, hw, rfl⟩ := Option.map_eq_some_iff.mp hy
  exact ⟨w, hw, rfl⟩
theorem enumI_take_succ {β : Type} (f : Int × Int → β) {ws : List Int} {i : Nat} {w : Int} (h : ws[i]? = some w) : ((enumI ws).take (i + 1)).map f = ((enumI ws).take i).map f ++ [f ((i : Int), w)] := by
  have h2 : (enumI ws)[i]? = some ((i : Int), w) := by rw [enumI_get, h]; rfl
  obtain ⟨h3, h4⟩ := List.getElem?_eq_some_iff.mp h2
  rw [← List.take_append_getElem h3, List.map_append, h4]; rfl
theorem take_map_succ {α β : Type} (f : α → β) {xs : List α} {i : Nat} {x : α} (h : xs[i]? = some x) : (xs.take (i + 1)).map f = (xs.take i).map f ++ [f x] := by
  obtain ⟨h3, h4⟩ := List.getElem?_eq_some_iff.mp h
  rw [← List.take_append_getElem h3, List.map_append, h4]; rfl
theorem cutD_take {α : Type} (f : α → PyData) (xs : List α) (n : Int) : cutD (xs.map f) none (some n) = (takeI n xs).map f := by
  unfold cutD takeI HT.sIx
  simp [List.map_take]
theorem takeI_len {α : Type} (n : Int) (xs : List α) : (takeI n xs).length ≤ xs.length := by unfold takeI; simp; omega
theorem signOf_mul (c : Custom) (j : Int) : CMul (signOf c) j := .inl (by unfold signOf; split <;> decide)
theorem atI_hand {hs : List Hand} {i : Nat} (h : i < hs.length) : atI (hs.map haD) (i : Int) = some (haD (handAt hs i)) := by
  refine atI_nat ?_
  unfold handAt
  rw [List.getElem?_map, List.getElem?_eq_getElem h, Int.toNat_natCast, List.getD_eq_getElem?_getD, List.getElem?_eq_getElem h]; rfl
theorem atI_int {ws : List Int} {i : Nat} {w : Int} (h : ws[i]? = some w) : atI (ws.map PyData.int) (i : Int) = some (.int w) := atI_nat (by rw [List.getElem?_map, h]; rfl)
theorem filter_tt {α : Type} (xs : List α) : xs.filter (fun _ => true) = xs := List.filter_eq_self.mpr fun _ _ => rfl
/-! ## promises -/
def prOne (ds : List PyData) (d : PyData) : Prop := ∃ c ws, ds = [cuD c, wiD ws] ∧ WfC c ∧ WfW c ws ∧ d = oneD c ws
def runD (c : Custom) (ws : List Int) (n : Nat) : PyData := .tuple [.list ((rowN c ws n).map wiD), wiD (wAt c ws n)]
def prRun (ds : List PyData) (d : PyData) : Prop := ∃ c ws n, ds = [cuD c, wiD ws, .int n] ∧ WfC c ∧ WfW c ws ∧ 0 ≤ n ∧ n ≤ 1000000 ∧ d = runD c ws n.toNat
/-- a whole number from one to another -/
def isFrom (d : PyData) (lo hi : Int) : Bool := match d with
  | .int i => decide (lo ≤ i) && decide (i ≤ hi)
  | _ => false
def prIsFrom (ds : List PyData) (d : PyData) : Prop := ∃ t lo hi, ds = [t, .int lo, .int hi] ∧ d = .bool (isFrom t lo hi)
def areW (c : Custom) (d : PyData) : Bool := match d with
  | .tuple ds => decide (ds.length = c.hands.length) && ((ds.zip c.hands).all fun p => isFrom p.1 0 p.2.cap)
  | _ => false
def prAre (ds : List PyData) (d : PyData) : Prop := ∃ c t, ds = [cuD c, t] ∧ c.hands.length ≤ 1000 ∧ d = .bool (areW c t)
theorem zipD_hands (ds : List PyData) (hs : List Hand) : zipD ds (hs.map haD) = (ds.zip hs).map fun p => .tuple [p.1, haD p.2] := by
  unfold zipD
  rw [List.zipWith_map_right, List.zip, List.map_zipWith]
/-! the deck and what is drawn from it -/
def spDeck : Sp := fun vs H Q _ => ∃ cell turn : Int, vs = [.int cell, .int turn] ∧ ∀ (p : Addr) (a b : Int), 0 ≤ a → 0 ≤ b → b < 2147483579 → H p = none → Q (.ref p) (upd H p (.lst [.int a, .int b, .int turn]))
def prePick (ds : List PyData) : Prop := ∃ lim : Int, ds = [.int lim] ∧ 1 ≤ lim ∧ lim ≤ 1000000000000000001
def prPick (ds : List PyData) (d : PyData) : Prop := ∃ lim r : Int, ds = [.int lim] ∧ d = .int r ∧ 0 ≤ r ∧ r < lim
def IntIn (lo hi : Int) (d : PyData) : Prop := ∃ i, d = .int i ∧ lo ≤ i ∧ i < hi
def preLwi (ds : List PyData) : Prop := ∃ c, ds = [cuD c] ∧ WfC c
def prLwi (ds : List PyData) (d : PyData) : Prop := ∃ c, ds = [cuD c] ∧ WfC c ∧ ∃ es, d = .tuple es ∧ All2 (fun (h : Hand) d => IntIn 0 (h.cap + 1) d) c.hands es
theorem prLwi_w {ds : List PyData} {d : PyData} (h : prLwi ds d) : ∃ c ws, ds = [cuD c] ∧ d = wiD ws ∧ WfW c ws := by
  obtain ⟨c, rfl, hc, es, rfl, al⟩ := h
  have key : ∀ (hs : List Hand) (es : List PyData), All2 (fun (h : Hand) d => IntIn 0 (h.cap + 1) d) hs es → ∃ ws : List Int, es = ws.map PyData.int ∧ ws.length = hs.length ∧ ∀ (i : Nat) w, ws[i]? = some w → 0 ≤ w ∧ w ≤ (handAt hs i).cap := by
    intro hs es al
    induction al with
    | nil => exact ⟨[], rfl, rfl, fun i w h => by simp at h⟩
    | @cons x y xs ys h _ ih =>
      obtain ⟨i, rfl, h1, h2⟩ := h
      obtain ⟨ws, rfl, hl, hb⟩ := ih
      refine ⟨i :: ws, rfl, by simp [hl], fun j w hj => ?_⟩
      cases j with
      | zero => simp at hj; subst hj; exact ⟨h1, by show i ≤ x.cap; omega⟩
      | succ j =>
        have := hb j w (by simpa using hj)
        refine ⟨this.1, ?_⟩
        have e : handAt (x :: xs) ((j + 1 : Nat) : Int) = handAt xs (j : Int) := by
          unfold handAt
          rw [Int.toNat_natCast, Int.toNat_natCast]; rfl
        rw [e]; exact this.2
  obtain ⟨ws, rfl, hl, hb⟩ := key _ _ al
  exact ⟨c, ws, rfl, rfl, hl, hb⟩
theorem OwnLike_deck {ρ : Env'} {p : Addr} (i : Nat) {w : Ow} {w0 : Ow} (h : ρ[i]? = some (.own p w0) := by rfl) : OwnLike (ρ.set i (.own p w)) ρ := fun j q w' hj => by
  by_cases hij : i = j
  · subst hij
    have hl : i < ρ.length := by
      have := (List.getElem?_eq_some_iff.mp hj).1
      simpa using this
    rw [List.getElem?_set_self hl] at hj; cases hj
    exact ⟨_, h⟩
  · rw [List.getElem?_set_ne hij] at hj; exact ⟨w', hj⟩
theorem OwnLike.trans {ρ1 ρ2 ρ3 : Env'} (a : OwnLike ρ1 ρ2) (b : OwnLike ρ2 ρ3) : OwnLike ρ1 ρ3 := fun i p w h => let ⟨w', h'⟩ := a i p w h; b i p w' h'
theorem deck_mono {n m : Int} (h : n ≤ m) : ∀ F o, (Ow.deck n).φ F o → (Ow.deck m).φ F o := fun F o ⟨a, b, c, h1, h2, h3, h4, h5, h6⟩ => ⟨a, b, c, h1, h2, h3, h4, h5, by omega⟩
section
variable {X : Cx} {ρ ρ1 : Env'} {p : Addr} {k : Nat} {e : Expr} {dk : Str} {m n lim : Int} {q pd pos : Pos}
/-- a number is drawn -/
theorem we_pick (i : Nat) (G : Cal X.prog X.w X.K X.mg X.base k "_law_pick" 2 (spK 1 prePick prPick)) (hr : Room k X.A) (he : DE X ρ e (.int lim)) (h1 : 1 ≤ lim) (h2 : lim ≤ 1000000000000000001) (hi : ρ[i]? = some (.own p (.deck n))) (hn : n + 1 ≤ 1000000000)
    (hN : X.N[i]? = some dk := by rfl) (hv : Vis X.env.scope dk := by first | exact Or.inl rfl | exact Or.inr (Or.inl rfl) | exact Or.inr (Or.inr rfl)) (hd : (dk == ("__debug__" : Str)) = false := by decide) (hcd : (dk == ("__classdict__" : Str)) = false := by decide) (hg : Gl X "_law_pick" := by rfl)
    (he1 : starEach (.Name dk pd :: [e]) X.env = (false, eval (.Name dk pd) X.env) :: starEach [e] X.env := by rfl) (hs : starEach [e] X.env = (false, eval e X.env) :: starEach [] X.env := by rfl) (hpl : (backTo pos (starEach [e] X.env)).any (·.1) = false := by rfl) :
    WE X [p] ρ (.Call (.Name "_law_pick" q) (.Name dk pd :: [e]) [] pos) (IntIn 0 lim) (ρ.set i (.own p (.deck (n + 1)))) :=
  we_imp (we_call i G hr (wa_d (PA1 := fun ds => ds = [.int lim]) (da_cons he da_nil hs) rfl) (fun ds h => ⟨lim, h, h1, h2⟩) hi hi hn hN hv hd hcd hg (by decide) he1 hpl) fun d ⟨ds, e1, l, r, e2, e3, e4, e5⟩ => by
    subst e1
    have : l = lim := by cases e2; rfl
    subst this
    exact ⟨r, e3, e4, e5⟩
end
/-- an item of a list whose items are all of P -/
theorem v_ixAll {K : PySem.W.Frag} {P : PyData → Prop} {ds : List PyData} {d2 : PyData} {n : Nat} (hl : ds.length = n) (h : ∀ d ∈ ds, P d) (h2 : IntIn 0 n d2) : ∃ d, V2 (rIxL K) (.list ds) d2 d ∧ P d := by
  obtain ⟨i, rfl, h3, h4⟩ := h2
  have hi : i.toNat < ds.length := by omega
  refine ⟨ds[i.toNat], ?_, h _ (List.getElem_mem hi)⟩
  have hc : (i.toNat : Int) = i := by omega
  have e := atI_nat (List.getElem?_eq_getElem hi)
  rw [hc] at e
  exact v_ixL e
def prHad (ds : List PyData) (d : PyData) : Prop := ∃ c ws, ds = [cuD c, wiD ws] ∧ ws.length ≤ 1000 ∧ d = wiD (had c ws)
theorem had_take_yes (c : Custom) {ws : List Int} {i : Nat} {w : Int} (h : ws[i]? = some w) (ha : decide (((aheadOf c ws ((i : Int), w) : Nat) : Int) < c.many) = true) :
    (((enumI ws).take (i + 1)).filter fun q => decide ((aheadOf c ws q : Int) < c.many)).map (·.1) = (((enumI ws).take i).filter fun q => decide ((aheadOf c ws q : Int) < c.many)).map (·.1) ++ [(i : Int)] := by
  have h2 : (enumI ws)[i]? = some ((i : Int), w) := by rw [enumI_get, h]; rfl
  obtain ⟨h3, h4⟩ := List.getElem?_eq_some_iff.mp h2
  rw [← List.take_append_getElem h3, List.filter_append, List.map_append, h4, List.filter_cons_of_pos (by exact ha)]; rfl
theorem had_take_no (c : Custom) {ws : List Int} {i : Nat} {w : Int} (h : ws[i]? = some w) (ha : decide (((aheadOf c ws ((i : Int), w) : Nat) : Int) < c.many) = false) :
    (((enumI ws).take (i + 1)).filter fun q => decide ((aheadOf c ws q : Int) < c.many)).map (·.1) = (((enumI ws).take i).filter fun q => decide ((aheadOf c ws q : Int) < c.many)).map (·.1) := by
  have h2 : (enumI ws)[i]? = some ((i : Int), w) := by rw [enumI_get, h]; rfl
  obtain ⟨h3, h4⟩ := List.getElem?_eq_some_iff.mp h2
  rw [← List.take_append_getElem h3, List.filter_append, List.map_append, h4, List.filter_cons_of_neg (by rw [ha]; decide)]; simp
theorem count_take_succ (g : Int × Int → Bool) {ws : List Int} {j : Nat} {v : Int} (h : ws[j]? = some v) :
    ((((enumI ws).take (j + 1)).filter g).length : Int) = ((((enumI ws).take j).filter g).length : Int) + (if g ((j : Int), v) = true then 1 else 0) := by
  have h2 : (enumI ws)[j]? = some ((j : Int), v) := by rw [enumI_get, h]; rfl
  obtain ⟨h3, h4⟩ := List.getElem?_eq_some_iff.mp h2
  rw [← List.take_append_getElem h3, List.filter_append, List.length_append, h4]
  cases hg : g ((j : Int), v) with
  | true => rw [List.filter_cons_of_pos (by exact hg)]; simp
  | false => rw [List.filter_cons_of_neg (by rw [hg]; decide)]; simp
/-- the middle one of nought, z and the cap -/
theorem sort3 (z : Int) {cap : Int} (hc : 0 ≤ cap) : atI ((sortI [0, z, cap]).map PyData.int) 1 = some (.int (max 0 (min z cap))) := by
  have key : ∀ ms : List Int, ms.Perm [0, z, cap] → ms.Pairwise (· ≤ ·) → ms[1]? = some (max 0 (min z cap)) → atI ((sortI [0, z, cap]).map PyData.int) 1 = some (.int (max 0 (min z cap))) := fun ms h1 h2 h3 => by
    rw [← sortI_of h1 h2]
    exact atI_int (i := 1) h3
  by_cases h0 : z ≤ 0
  · refine key [z, 0, cap] (List.Perm.swap _ _ _) (by simp; omega) ?_
    show some 0 = _
    congr 1; omega
  · by_cases h1 : z ≤ cap
    · refine key [0, z, cap] (List.Perm.refl _) (by simp; omega) ?_
      show some z = _
      congr 1; omega
    · refine key [0, cap, z] (.cons 0 (List.Perm.swap _ _ _)) (by simp; omega) ?_
      show some cap = _
      congr 1; omega
def okHand (h : Hand) : Prop := 0 ≤ h.rise ∧ h.rise ≤ 15 ∧ 0 ≤ h.fall ∧ h.fall ≤ 15 ∧ 0 ≤ h.cap ∧ h.cap ≤ 15
def preCus (ds : List PyData) : Prop := ∃ size top : Int, ds = [.int size, .int top] ∧ 2 ≤ size ∧ size ≤ 4 ∧ 0 ≤ top ∧ top ≤ 15
def prCus (ds : List PyData) (d : PyData) : Prop := ∃ (size top : Int) (c : Custom), ds = [.int size, .int top] ∧ d = cuD c ∧ WfC c ∧ ∀ h ∈ c.hands, h.cap ≤ top
theorem wi_imp {X : Cx} {ex : List Addr} {ρ ρ1 : Env'} {tg iter : Expr} {P P' : List PyData → Prop} (h : WI X ex ρ tg iter P ρ1) (i : ∀ ds, P ds → P' ds) : WI X ex ρ tg iter P' ρ1 :=
  PI.imp h fun σ H R ⟨F, ok, k⟩ => ⟨F, ok, fun ds J F2 H2 hp => k ds J F2 H2 (i ds hp)⟩
/-- the built-in names are still theirs -/
structure Bn (mg : Str → Option Value) : Prop where
  sorted : mg "sorted" = none
  enumerate : mg "enumerate" = none
  tuple : mg "tuple" = none
  max : mg "max" = none
  min : mg "min" = none
  range : mg "range" = none
  len : mg "len" = none
  zip : mg "zip" = none
  all : mg "all" = none
  any : mg "any" = none
  isinstance : mg "isinstance" = none
  int : mg "int" = none
  bool : mg "bool" = none
  str : mg "str" = none
  list : mg "list" = none
  sum : mg "sum" = none
  divmod : mg "divmod" = none
  dict : mg "dict" = none
end Tw

namespace Tw
open PySem PySem.Spec PyProof.Rows L2
/-! ## the law's own call -/
/-- the abstract heap at the law's call: the script, where it is not a thing of the module's own -/
def scrH (K : PySem.W.Frag) (a : Addr) (o : Obj) (xs : List V) : Hp := fun b => if b = a ∧ (K.lookup a).isNone = true then some (.frz o (.lst xs)) else none
section
variable {P : Program} {w : World} {K : PySem.W.Frag} {mg mb : Str → Option Value} {fa a : Addr} {st : Stmt} {fd : FuncData} {N : List Str} {s1 : Shared} {vs : List Value} {ns : List Int} {k : Nat} {x : Str}
theorem law_run (KX : K.In s1.heap) (hns : s1.heap.Ns mainGlobals mg) (hb : s1.heap.Ns builtinsNs mb) (hbb : ∀ y : Str, y ≠ "__name__" → mb y = bootBuiltins y) (hlim : s1.heap.NoLimit) (hg : s1.gens = #[])
    (ha : s1.heap.get? a = some { cls := .type "list", data := .seq vs.toArray }) (hi : IntsAre vs ns) (hl : ns.length ≤ sizeLine) (hr : Room (k + 1) callerA)
    (F : Fun K "law" "law" st fa fd) (S : FnScope N [x] (defScope st)) (hbind : Binds K fd [x] [])
    (body : ∀ (base : Heap) (cdv : Value) (s : Shared) (H : Hp) (E : XK), Room k (Bod P w K mg base N "law" st fa cdv callerA [] s H E).A → SqL K H a (ns.map V.int) →
      ∃ t, PSs (Bod P w K mg base N "law" st fa cdv callerA [] s H E) (defBody st) t ∧ t { nx := fun _ _ => False, rt := fun v _ => v = .bl true } (L2.start N [.ref a]) H) :
    codeAny (model P w) callerA (.call (.ref fa) ⟨[.ref a], []⟩) (fun r s' => r = .ok (.ret (.bool true)) ∧ OldK s1.heap s'.heap ∧ s'.os = s1.os ∧ AllBare s'.gens) s1 := by
  have rv := vals_ints hi
  have lenV := hi.length
  generalize hH : scrH K a { cls := .type "list", data := .seq vs.toArray } (ns.map V.int) = H
  have hKa : ∀ o, K.lookup a = some o → o = { cls := .type "list", data := .seq vs.toArray } := fun o h => by
    have h2 := KX a o h
    rw [ha] at h2
    exact (Option.some.inj h2).symm
  have hcase : ∀ b, H b = none ∨ (b = a ∧ K.lookup a = none ∧ H b = some (.frz { cls := .type "list", data := .seq vs.toArray } (.lst (ns.map V.int)))) := fun b => by
    subst hH
    by_cases q : b = a ∧ (K.lookup a).isNone = true
    · exact .inr ⟨q.1, Option.isNone_iff_eq_none.mp q.2, if_pos q⟩
    · exact .inl (if_neg q)
  have hS : SqL K H a (ns.map V.int) := by
    cases q : K.lookup a with
    | none => exact .inl (.inr ⟨{ cls := .type "list", data := .seq vs.toArray }, by subst hH; exact if_pos ⟨rfl, by rw [q]; rfl⟩⟩)
    | some o =>
      have := hKa o q
      subst this
      exact .inr ⟨_, vs.toArray, _, q, rfl, rfl, rfl, by rw [List.size_toArray, lenV]; exact hl, by simpa using rv⟩
  have hok : HOk P w H s1.heap := fun b u q => by
    rcases hcase b with z | ⟨z1, z2, z3⟩
    · rw [z] at q; cases q
    · rw [z3] at q
      cases q
      subst z1
      exact ⟨ha, by rw [List.length_map]; exact hl, vs, _, rv, ha⟩
  have hb1 : ∀ {b : Addr} {o : Obj}, s1.heap.get? b = some o → (b = a → K.lookup a = none → False) → (hidT s1.heap H).get? b = some o := fun {b o} e n => hidT_get e (by
    rcases hcase b with z | ⟨z1, z2, _⟩
    · exact z
    · exact (n z1 z2).elim)
  have hNs : ∀ {b : Addr} {m : Str → Option Value}, s1.heap.Ns b m → (hidT s1.heap H).Ns b m := fun {b m} ⟨o, es, ep, e, d, r⟩ => ⟨o, es, ep, hb1 e (fun z _ => by
    subst z
    rw [ha] at e
    cases e
    have d' : Data.seq vs.toArray _ = Data.dict es ep := d
    cases d'), d, r⟩
  have hKb : K.In (hidT s1.heap H) := fun b o e => hb1 (KX b o e) fun z n => by subst z; rw [n] at e; cases e
  have hM : Mod K mg (hidT s1.heap H) := ⟨hKb, hNs hns, ⟨mb, hNs hb, hbb⟩, let ⟨mc, h1, h2⟩ := hlim; ⟨mc, hNs h1, h2⟩⟩
  have e0 : Env0 P w K mg (hidT s1.heap H) callerA [] s1 H := ⟨rfl, hM, fun b o e => of_hidT e, Nat.le_of_eq (hidT_size _ _), trivial, fun b hb => absurd (show b ∈ ([] : List Addr) from hb) (by simp), hok, .of_eq hg⟩
  refine codeAny_mono (R := CR CX0 [] P w H s1 (fun v _ => v = .bl true) (fun _ _ _ => False)) ?_ fun r s' h => ?_
  · obtain ⟨oc, od, kV, doc, pm, an, cdv, ct, osl, rfl, lk, hcd⟩ := F.ex
    have hkind : ∀ y ∈ [x].zip [Value.ref a], (defScope st).names.lookup y.1 = some .local ∨ ((defScope st).names.lookup y.1 = some .cell ∧ ((cellsFrom (s1.heap.objs.size + 1) (defScope st).names []).lookup y.1).isSome = true) := fun ⟨n, v⟩ hy => by
      rcases S.par n (List.of_mem_zip hy).1 with q | q
      · exact .inl q
      · exact .inr ⟨q, PySem.W.cellsFrom_some _ _ _ (.inl q)⟩
    refine codeAny_call_function hr.depth (KX _ _ lk) rfl S.co S.gen rfl (PySem.W.codeRec_of KX hcd) (hbind s1 [.ref a] KX rfl _ _ _ _ ?_)
    refine wpAny_newFunctionEnv_cells S.kind hkind fun env he s2 X1 => ?_
    subst he
    refine ⟨hlim.keeps X1.toInCall.keep, codeAny_func ?_⟩
    obtain ⟨t, ht, hq⟩ := body (hidT s1.heap H) cdv s1 H (fun _ _ _ => False) (hr.deeper _) hS
    have I : Inv (cxOf CX0 P w K mg (hidT s1.heap H) N "law" (defScope st) fa cdv callerA [] s1 H (fun _ _ _ => False)) [] (L2.start N [V.ref a]) H s2 := inv_start S hr.hd e0 (us := [Value.ref a]) rfl (.cons rfl .nil) X1
    refine wpAny_mono (ht.nox.run [] s2 (L2.start N [V.ref a]) H _ I hq) (fun fl s' hs => ?_) fun e s' hs => hs
    cases fl with
    | ret u =>
      obtain ⟨v, σ', H', J, rv', q⟩ := hs
      exact ⟨v, H', J.os, J.bare, J.base, J.hok, rv', q⟩
    | next =>
      obtain ⟨σ', H', J, q⟩ := hs
      exact q.elim
    | brk =>
      obtain ⟨_, _, _, q⟩ := hs
      exact False.elim q
    | cont =>
      obtain ⟨_, _, _, q⟩ := hs
      exact False.elim q
  · cases r with
    | error e => exact False.elim (show False from h)
    | ok fl =>
      cases fl with
      | next => exact False.elim h
      | brk => exact False.elim h
      | cont => exact False.elim h
      | ret u =>
        obtain ⟨v, H', os, bare, un, hok', rv', q⟩ := h
        have q' : v = .bl true := q
        subst q'
        obtain rfl : u = Value.bool true := rv'
        refine ⟨rfl, OldK.of_keep fun b o e => ?_, os, bare⟩
        rcases hcase b with z | ⟨z1, z2, z3⟩
        · exact un.keep b o e z (by intro z; exact absurd (show b ∈ ([] : List Addr) from z) (by simp)) (by simp)
        · have z4 := un.frzs b _ _ z3
          obtain ⟨e1, _⟩ := hok b _ z3
          obtain ⟨e2, _⟩ := hok' b _ z4
          rw [e] at e1; cases e1
          exact e2
end
/-! ## str of data -/
section
variable {X : Cx}
def rStrD (K : PySem.W.Frag) : List V → Hp → VK → Prop := fun xs H Q => ∃ v d, xs = [v] ∧ Dp K H v d ∧ isDisplay d = true ∧ d.showable = true ∧ d.hasDict = false ∧ d.depth ≤ 60 ∧ d.shown.length ≤ sizeLine ∧ Q (.str d.shown) H
theorem call_strD (hg : X.A.guards = some []) (hu : X.A.units + 64 < cLine) : CallR X (.type "str") (rStrD X.K) := by
  intro pins s σ H xs us Q I r h
  obtain ⟨v, d, rfl, hd, h1, h2, h3, h4, h5, q⟩ := h
  obtain ⟨u, rfl, rv⟩ := vals1 r
  obtain ⟨as, r1⟩ := Dp.reads I d v u hd rv
  obtain ⟨a, rfl⟩ := isRef_of_reads r1 h1
  exact str_of_reads r1 h2 (PyData.noDict_hsm h3) hg (by omega) (fun _ _ e => e) (fun h' u tk hk => ⟨.str d.shown, H, I.kept hk, ⟨u, rfl⟩, q⟩) h5
theorem v_strD {K : PySem.W.Frag} {d : PyData} (h1 : isDisplay d = true) (h2 : d.showable = true) (h3 : d.hasDict = false) (h4 : d.depth ≤ 60) (h5 : d.shown.length ≤ sizeLine) : VN (rStrD K) [d] (.str d.shown) := VN1 fun F H v e r Q k =>
  ⟨v, d, rfl, r.dp e, h1, h2, h3, h4, h5, k _ F H (GrowX.refl e) (.str _)⟩
theorem v_maxL {K : PySem.W.Frag} {ns : List Int} {m : Int} (hm : m ∈ ns) (hx : ∀ y ∈ ns, y ≤ m) : VN (rMax K) [.list (ns.map .int)] (.int m) := VN1 fun F H v e r Q k => by
  obtain ⟨a, xs, rfl, ha, rx⟩ := r.lst_inv
  have := rx.ints; subst this
  refine ⟨a, ns, rfl, SqL.of (e _ _ ha), List.length_pos_of_mem hm, fun m' h1 h2 => ?_⟩
  have : m' = m := Int.le_antisymm (hx _ h1) (h2 _ hm)
  subst this
  exact k _ F H (GrowX.refl e) (.int _)
theorem v_minL {K : PySem.W.Frag} {ns : List Int} {m : Int} (hm : m ∈ ns) (hx : ∀ y ∈ ns, m ≤ y) : VN (rMin K) [.list (ns.map .int)] (.int m) := VN1 fun F H v e r Q k => by
  obtain ⟨a, xs, rfl, ha, rx⟩ := r.lst_inv
  have := rx.ints; subst this
  refine ⟨a, ns, rfl, SqL.of (e _ _ ha), List.length_pos_of_mem hm, fun m' h1 h2 => ?_⟩
  have : m' = m := Int.le_antisymm (h2 _ hm) (hx _ h1)
  subst this
  exact k _ F H (GrowX.refl e) (.int _)
theorem v_isnotB {a b : Bool} : V2 (fun x y H Q => ∃ a b, x = .bl a ∧ y = .bl b ∧ Q (.bl (!decide (a = b))) H) (.bool a) (.bool b) (.bool (!decide (a = b))) := fun F H v1 v2 s r1 r2 Q k =>
  ⟨a, b, r1.bl_inv, r2.bl_inv, k _ F H (GrowX.refl s) (.bl _)⟩
end
/-! ## for cell in [0] + script[:8] -/
section
variable {X : Cx} {F0 H0 : Hp} {ρ : Env'} {sts body : List Stmt} {A : Aims} {tg iter : Expr} {pos : Pos}
/-- a loop whose source is told by the heap at the entry -/
theorem dss_forS {ds : List PyData} (I : Nat → Env' → Prop) (Sc : Hp → Prop) (hSc : ∀ F H σ, At [] F0 H0 ρ σ F H → Sc H) (hi : PI X tg iter (fun σ H R => Sc H ∧ tDI ρ ds σ H R)) (h0 : I 0 ρ)
    (hs : ∀ (i : Nat) (x : PyData) (ρ' : Env'), ds[i]? = some x → I i ρ' → ∃ ρ2 is, DG X ρ' tg x ρ2 is ∧ DSs X [] F0 H0 ρ2 body { A with N := I (i + 1), B := I ds.length, C := I (i + 1) })
    (k : ∀ ρ', I ds.length ρ' → DSs X [] F0 H0 ρ' sts A) (hp : PassesOwn (model X.prog X.w) X.A X.env X.xe := by exact PassesOwn.never) (hc : X.calm = true := by rfl) (hse : ∀ x, foldedSetIterable iter X.env x = pure x := by intro _; rfl) : DSs X [] F0 H0 ρ (.For tg iter body [] pos :: sts) A := by
  refine dss_seq (N1 := I ds.length) ?_ k
  refine PS.imp (ps_for hp hc hi (g := fun v σ H Q => ∃ q : Env' × PyData × Env' × List Nat, PG X tg (tDG q.1 q.2.1 q.2.2.1 q.2.2.2) ∧ tDG q.1 q.2.1 q.2.2.1 q.2.2.2 v σ H Q) (tb := fun D σ H => ∃ q : Env' × Aims, DSs X [] F0 H0 q.1 body q.2 ∧ tS [] F0 H0 q.1 q.2 D σ H)
    (PG.any fun q h => h) (PSs.any fun q h => h) hse) fun D σ H ⟨F, a, n, r, b, c⟩ => ⟨hSc F H σ a, F, a.ok, fun J F1 H1 g1 hJ => ?_⟩
  refine ⟨fun i m σ' H' => m = ds.length - i ∧ i ≤ ds.length ∧ ∃ ρ' F', I i ρ' ∧ At [] F0 H0 ρ' σ' F' H' ∧ Same F1 F', ⟨ds.length, by simp, Nat.zero_le _, ρ, F1, h0, a.grow g1, Same.refl _⟩, ?_⟩
  rintro i m σ' H' ⟨rfl, hle, ρ', F', hI, a', sF⟩
  obtain ⟨j1, j2⟩ := hJ i F' H' sF a'.ok.s
  by_cases hlt : i < ds.length
  · right
    have hd' : ds[i]? = some ds[i] := List.getElem?_eq_getElem hlt
    obtain ⟨go, yl⟩ := j1 _ hd'
    refine ⟨go, fun σ2 H2 => ∃ ρ2 F2, I (i + 1) ρ2 ∧ At [] F0 H0 ρ2 σ2 F2 H2 ∧ Same F1 F2, fun σ2 H2 ⟨ρ2, F2, q1, q2, q3⟩ => ⟨ds.length - (i + 1), by omega, rfl, hlt, ρ2, F2, q1, q2, q3⟩, fun x H2 hy => ?_⟩
    obtain ⟨F2, g2, rx⟩ := yl x H2 hy
    obtain ⟨ρ2, is, ⟨hG, hr⟩, hB⟩ := hs i _ ρ' hd' hI
    have a2 := a'.grow g2
    refine ⟨(ρ', ds[i], ρ2, is), hG, F2, a2.ok, rx, fun σ3 ok3 _ => ⟨(ρ2, _), hB, F2, ⟨a2.g, ok3, fun i p w q => a2.new i p w (hr i p w q)⟩, fun ρ4 σ4 F4 H4 h4 s4 a4 => ⟨ρ4, F4, h4, a4, sF.trans (g2.f.trans s4)⟩, r,
      fun ρ4 σ4 F4 H4 h4 s4 a4 => n ρ4 σ4 F4 H4 h4 (g1.f.trans (sF.trans (g2.f.trans s4))) a4, fun ρ4 σ4 F4 H4 h4 s4 a4 => ⟨ρ4, F4, h4, a4, sF.trans (g2.f.trans s4)⟩⟩⟩
  · left
    have hi' : i = ds.length := by omega
    subst hi'
    exact ⟨j2 (by simp), n _ _ F' H' hI (g1.f.trans sF) a'⟩
theorem sqL_same {K : PySem.W.Frag} {H H' : Hp} {a : Addr} {xs : List V} (h : SqL K H a xs) (e : ∀ c o, H c = some o → ntB o = true → H' c = some o) : SqL K H' a xs := by
  rcases h with (h | ⟨o, h⟩) | h
  · exact .inl (.inl (e _ _ h rfl))
  · exact .inl (.inr ⟨o, e _ _ h rfl⟩)
  · exact .inr h
theorem jok_lst {K : PySem.W.Frag} {F : Hp} {a : Addr} {xs : List V} {ds : List PyData} (h1 : F a = some (.lst xs)) (r1 : RpA F xs ds) : JOk (Itl K a) F ds := fun i F1 H' e1 e2 => ⟨fun d hd => by
    obtain ⟨x, hx, rx⟩ := r1.get hd
    refine ⟨⟨xs, x, SqL.of (e2 _ _ (e1 _ _ h1)), hx⟩, fun y H'' ⟨q1, q2⟩ => ?_⟩
    subst q1
    have := q2 xs (SqL.of (e2 _ _ (e1 _ _ h1)))
    rw [hx] at this; cases this
    exact ⟨F1, GrowX.refl e2, rx.mono e1⟩, fun hn => ⟨xs, SqL.of (e2 _ _ (e1 _ _ h1)), by rw [r1.len]; exact List.getElem?_eq_none_iff.mp hn⟩⟩
/-- [0] + script[:m] -/
theorem pi_script {a : Addr} {ns : List Int} {sc : Str} {m : Int} {k1 k2 : Nat} {p1 p2 p3 p4 p5 p6 p7 : Pos} (hr : ρ[0]? = some (.val (.ref a))) (hm : 0 ≤ m) (hl : ns.length ≤ 1000) (h0 : X.N[0]? = some sc := by rfl) (hv : Vis X.env.scope sc := by first | exact Or.inl rfl | exact Or.inr (Or.inl rfl) | exact Or.inr (Or.inr rfl))
    (hd : (sc == ("__debug__" : Str)) = false := by decide) (hcd : (sc == ("__classdict__" : Str)) = false := by decide) :
    PI X tg (.BinOp (.List [.Constant (.int 0) k1 p1] p2) .Add (.Subscript (.Name sc p3) (.Slice none (some (.Constant (.int m) k2 p4)) none p5) p6) p7) (fun σ H R => SqL X.K H a (ns.map V.int) ∧ tDI ρ ((0 :: ns.take m.toNat).map .int) σ H R) := by
  refine PI.imp (pi_list (pe_op op_cat (pe_lst (pa_cons pe_int pa_nil)) (pe_slice sl_list (pe_var h0 hv hd hcd) po_none (po_some (pe_int))))) fun σ H R ⟨hS, F, ok, k⟩ => ?_
  obtain ⟨o, h1, h2⟩ := ok.at_ 0 _ hr
  have h2' : o = some (.ref a) := h2
  subst h2'
  refine ⟨Nat.le_of_ble_eq_true rfl, fun p hp => ?_⟩
  have s1 : Same H (upd H p (HO.lst [V.int 0])) := Same.upd_new hp
  refine ⟨V.ref a, h1, m, rfl, a, ns.map V.int, rfl, sqL_same hS fun _ _ h _ => s1 _ _ h, fun q hq => ?_⟩
  have hpq : p ≠ q := fun z => by subst z; rw [upd_same] at hq; cases hq
  have hq0 : H q = none := by
    rw [upd_ne (Ne.symm hpq)] at hq; exact hq
  have hcut : cutV (ns.map V.int) none (some m) = (ns.take m.toNat).map V.int := by
    unfold cutV HT.sIx
    show List.take ((if m < 0 then (m + ((ns.map V.int).length : Int)).toNat else min m.toNat (ns.map V.int).length) - 0) (List.drop 0 (ns.map V.int)) = _
    rw [if_neg (by omega)]
    simp only [List.drop_zero, Nat.sub_zero, List.length_map, ← List.map_take]
    congr 1
    refine List.take_eq_take_iff.mpr ?_
    omega
  rw [hcut]
  have hlen : [V.int 0].length + ((ns.take m.toNat).map V.int).length ≤ sizeLine := by
    rw [List.length_map, List.length_take]
    refine Nat.le_trans (show 1 + min m.toNat ns.length ≤ 1001 by omega) (by decide)
  refine ⟨p, q, [V.int 0], _, rfl, rfl, by rw [upd_ne hpq]; exact upd_same, upd_same, hlen, fun r hr' => ?_⟩
  have s2 : Same H (upd (upd H p (HO.lst [V.int 0])) q (HO.lst ((ns.take m.toNat).map V.int))) := s1.trans (Same.upd_new hq)
  have hr0 : H r = none := by
    cases z : H r with
    | none => rfl
    | some u => rw [s2 _ _ z] at hr'; cases hr'
  have g : Grow F H (upd F r (.lst ((V.int 0) :: (ns.take m.toNat).map V.int))) (upd (upd (upd H p (HO.lst [V.int 0])) q (HO.lst ((ns.take m.toNat).map V.int))) r (.lst ((V.int 0) :: (ns.take m.toNat).map V.int))) :=
    ((Grow.skip ok.s hp).trans (Grow.skip (ok.s.trans s1) hq)).trans (Grow.new (ok.s.trans s2) hr')
  exact ⟨r, rfl, ⟨_, SqL.of upd_same⟩, k _ _ _ g (jok_lst upd_same (RpA.of_ints (0 :: ns.take m.toNat)))⟩
end
/-! ## a deck of the law's own -/
section
variable {X : Cx} {ex : List Addr} {F0 H0 : Hp} {ρ : Env'} {st : Stmt} {sts : List Stmt} {A : Aims} {e1 e2 : Expr} {pos q : Pos} {k : Nat} {cell turn : Int}
theorem dn_deck (G : Cal X.prog X.w X.K X.mg X.base k "_law_deck" 2 spDeck) (hr : Room k X.A) (ha : DA X ρ [e1, e2] [.int cell, .int turn]) (ht : 0 ≤ turn) (hg : Gl X "_law_deck" := by rfl)
    (he : starEach [e1, e2] X.env = (false, eval e1 X.env) :: starEach [e2] X.env := by rfl) (hpl : (backTo pos (starEach [e2] X.env)).any (·.1) = false := by rfl) : DN X ρ (.Call (.Name "_law_deck" q) [e1, e2] [] pos) (.deck turn) := by
  obtain ⟨f, fd, ps, h1, h2, h3, _, h4⟩ := G
  exact PE.imp (pe_call h4 hr hg h1 h2 h3 .nil pass0 ha (by decide) he hpl) fun σ H Q ⟨F, ok, k⟩ => ⟨F, ok, fun vs F2 H2 g r => by
    cases r with
    | cons r1 r => cases r with
      | cons r2 r =>
        cases r
        refine ⟨cell, turn, by rw [r1.int_inv, r2.int_inv]; rfl, fun p a b ha hb hb2 hp => ?_⟩
        have hp1 : H p = none := by
          cases z : H p with
          | none => rfl
          | some u => exact absurd hp (g.k p (by rw [z]; simp))
        exact k p _ F2 _ (g.trans (Grow.skip g.s hp)) hp1 (same_none g.s hp) upd_same ⟨a, b, turn, rfl, ha, hb, hb2, ht, Int.le_refl _⟩⟩
/-- the one own thing is a deck: from here on only it may change -/
theorem dss_mineT (i : Nat) {p : Addr} {w : Ow} (hi : ρ[i]? = some (.own p w)) (h1 : ∀ (j : Nat) (q : Addr) (w' : Ow), ρ[j]? = some (.own q w') → q = p) (h : ∀ F1 H1, (∀ P, TabF F0 H0 P → TabF F1 H1 P) → DSs X [p] F1 H1 ρ sts A) : DSs X ex F0 H0 ρ sts A := by
  refine PSs.imp (PSs.any (ι := Hp × Hp) (c := fun z => ∀ P, TabF F0 H0 P → TabF z.1 z.2 P) (t := fun z => tS [p] z.1 z.2 ρ A) fun z hz => h z.1 z.2 hz) fun D σ H ⟨F, a, n, r, b, c⟩ => ⟨(F, H), a.g.t, F, ⟨GrowX.refl a.ok.s, a.ok, fun j q w' hj => .inr (by rw [h1 j q w' hj]; exact List.mem_singleton.mpr rfl)⟩, ?_⟩
  have hp := a.new i p w hi
  have back : ∀ {ρ' σ' F' H'}, At [p] F H ρ' σ' F' H' → At ex F0 H0 ρ' σ' F' H' := fun {ρ' σ' F' H'} a' => by
    refine ⟨⟨a.g.f.trans a'.g.f, a'.g.s, fun c o hx hc hi => ?_, fun c hc => a'.g.k c (a.g.k c hc), fun c q1 q2 => a'.g.n c (a.g.n c q1 q2) (a.g.m c q2), fun c q => a'.g.m c (a.g.m c q), fun c q => a'.g.t c (a.g.t c q)⟩, a'.ok, fun j q w' hj => ?_⟩
    · refine a'.g.h c o (fun z => ?_) (a.g.h c o hx hc hi) hi
      have := List.mem_singleton.mp z
      subst this
      rcases hp with hp | hp
      · rw [hp] at hc; cases hc
      · exact hx hp
    · rcases a'.new j q w' hj with z | z
      · refine .inl ?_
        cases y : H0 q with
        | none => rfl
        | some u => exact absurd z (a.g.k q (by rw [y]; simp))
      · rw [List.mem_singleton.mp z]; exact hp
  exact ⟨fun ρ' σ' F' H' q s1 a' => n ρ' σ' F' H' q s1 (back a'), ⟨fun d v ρ' σ' F' H' q a' rv => r.1 d v ρ' σ' F' H' q (back a') rv, r.2⟩, fun ρ' σ' F' H' q s1 a' => b ρ' σ' F' H' q s1 (back a'), fun ρ' σ' F' H' q s1 a' => c ρ' σ' F' H' q s1 (back a')⟩
theorem dss_mine (i : Nat) {p : Addr} {w : Ow} (hi : ρ[i]? = some (.own p w)) (h1 : ∀ (j : Nat) (q : Addr) (w' : Ow), ρ[j]? = some (.own q w') → q = p) (h : ∀ F1 H1, DSs X [p] F1 H1 ρ sts A) : DSs X ex F0 H0 ρ sts A := dss_mineT i hi h1 fun F1 H1 _ => h F1 H1
end
/-! ## a law's body and its end -/
def owns : Env' → List Addr
  | [] => []
  | .own p _ :: ρ => p :: owns ρ
  | _ :: ρ => owns ρ
theorem owns_mem {ρ : Env'} {j : Nat} {q : Addr} {w : Ow} (h : ρ[j]? = some (.own q w)) : q ∈ owns ρ := by
  induction ρ generalizing j with
  | nil => simp at h
  | cons e ρ ih =>
    cases j with
    | zero =>
      have : e = .own q w := by simpa using h
      subst this
      exact List.mem_cons_self ..
    | succ j =>
      have := ih (j := j) (by simpa using h)
      cases e with
      | own p v => exact List.mem_cons_of_mem _ this
      | no => exact this
      | dat d => exact this
      | val v => exact this
      | fx q u => exact this
      | st q w => exact this
theorem owns_one {ρ : Env'} {p : Addr} (h : owns ρ = [p]) : ∀ (j : Nat) (q : Addr) (w : Ow), ρ[j]? = some (.own q w) → q = p := fun j q w hj => by
  have := owns_mem hj
  rw [h] at this
  exact List.mem_singleton.mp this
theorem owns_no (a : V) : ∀ n : Nat, owns (.val a :: List.replicate n .no) = []
  | 0 => rfl
  | n + 1 => owns_no a n
theorem law_fin {X : Cx} {H : Hp} {a : Addr} {N : List Str} {sts : List Stmt} (n : Nat) (body : DSs X [] (fun _ => none) H (.val (.ref a) :: List.replicate n .no) sts { N := fun _ => False, R := fun d _ => d = .bool true }) (hN : N.length = n + 1) :
    ∃ t, PSs X sts t ∧ t { nx := fun _ _ => False, rt := fun v _ => v = .bl true } (L2.start N [.ref a]) H := by
  refine ⟨_, body, fun _ => none, ⟨GrowX.refl (fun b u q => by cases q), ⟨(fun b u q => by cases q), ?_, fun j e hj => ?_, fun j k p q w w' hj => ?_⟩, fun j q w hj => ?_⟩, fun _ _ _ _ z => z.elim, ⟨fun d v ρ' σ' F' H' h _ rv => ?_, fun _ _ h => h.elim⟩, fun _ _ _ _ z => z.elim, fun _ _ _ _ z => z.elim⟩
  · simp [L2.start, hN]
  · cases j with
    | zero =>
      have : e = .val (.ref a) := by simpa using hj.symm
      subst this
      exact ⟨some (.ref a), by simp [L2.start], rfl⟩
    | succ j =>
      have hj' : (List.replicate n Ent.no)[j]? = some e := by simpa using hj
      rw [List.getElem?_replicate] at hj'
      by_cases hlt : j < n
      · rw [if_pos hlt] at hj'
        cases hj'
        refine ⟨none, ?_, trivial⟩
        simp [L2.start, hN, hlt]
      · rw [if_neg hlt] at hj'; cases hj'
  · have := owns_mem hj
    rw [owns_no] at this
    cases this
  · have := owns_mem hj
    rw [owns_no] at this
    cases this
  · have h' : d = .bool true := h
    subst h'
    exact rv.bl_inv
theorem dt_eq {X : Cx} {ρ : Env'} {e : Expr} {x y : Bool} (h : DT X ρ e x) (e1 : x = y) : DT X ρ e y := e1 ▸ h
section
variable {ρ : Env'}
theorem Ok.tell {F H : Hp} {σ : L2.St} {p : Addr} {o : HO} (h : Ok F H ρ σ) (hF : F p = none) (hp : H p = some o) (hne : ∀ (j : Nat) (q : Addr) (w : Ow), ρ[j]? = some (.own q w) → q ≠ p) : Ok (upd F p o) H ρ σ := by
  have sF : Same F (upd F p o) := Same.upd_new hF
  refine ⟨fun b u q => ?_, h.len, fun j en hj => ?_, h.ne⟩
  · by_cases hb : b = p
    · subst hb; rw [upd_same] at q; rw [hp]; exact q
    · rw [upd_ne hb] at q; exact h.s b u q
  · obtain ⟨oo, x1, x2⟩ := h.at_ j en hj
    refine ⟨oo, x1, ?_⟩
    cases en with
    | no => trivial
    | dat d => obtain ⟨v, y1, y2⟩ := x2; exact ⟨v, y1, y2.mono sF⟩
    | val v => exact x2
    | fx q u => exact ⟨x2.1, sF _ _ x2.2⟩
    | st q w => exact ⟨x2.1, let ⟨u, hu, hw⟩ := x2.2; ⟨u, sF _ _ hu, w.mono sF hw⟩⟩
    | own q w =>
      obtain ⟨y1, y2, ho, y3, y4⟩ := x2
      exact ⟨y1, by rw [upd_ne (hne j q w hj)]; exact y2, ho, y3, w.mono sF y4⟩
theorem Ok.aside {F H : Hp} {σ : L2.St} {p : Addr} {o : HO} (h : Ok F H ρ σ) (hF : F p = none) (hne : ∀ (j : Nat) (q : Addr) (w : Ow), ρ[j]? = some (.own q w) → q ≠ p) : Ok F (upd H p o) ρ σ := by
  refine ⟨fun b u q => ?_, h.len, fun j en hj => ?_, h.ne⟩
  · have hb : b ≠ p := fun z => by subst z; rw [hF] at q; cases q
    rw [upd_ne hb]; exact h.s b u q
  · obtain ⟨oo, x1, x2⟩ := h.at_ j en hj
    refine ⟨oo, x1, ?_⟩
    cases en with
    | no => trivial
    | dat d => exact x2
    | val v => exact x2
    | fx q u => exact x2
    | st q w => exact x2
    | own q w =>
      obtain ⟨y1, y2, ho, y3, y4⟩ := x2
      exact ⟨y1, y2, ho, by rw [upd_ne (hne j q w hj)]; exact y3, y4⟩
theorem Grow.tellNew {F H F2 H2 : Hp} {p : Addr} {o : HO} (g : Grow F H F2 H2) (h0 : H p = none) (h1 : F2 p = none) (h2 : H2 p = some o) (hn : ntB o = true := by rfl) : Grow F H (upd F2 p o) H2 := by
  have s1 : Same F2 (upd F2 p o) := Same.upd_new h1
  refine ⟨g.f.trans s1, fun b u q => ?_, g.h, g.k, fun b q1 q2 => ?_, g.m, fun b q => (g.t b q).updF h1 (tbl_nt h2 hn)⟩
  · by_cases hb : b = p
    · subst hb; rw [upd_same] at q; rw [h2]; exact q
    · rw [upd_ne hb] at q; exact g.s b u q
  · have hb : b ≠ p := fun z => by subst z; exact q2.ne h0
    rw [upd_ne hb]; exact g.n b q1 q2
/-- a tuple that stands may be told -/
theorem Grow.tellT {F H F2 H2 : Hp} {p : Addr} {xs : List V} (g : Grow F H F2 H2) (h2 : H2 p = some (.tup xs)) : Grow F H (upd F2 p (.tup xs)) H2 := by
  have s1 : Same F2 (upd F2 p (.tup xs)) := fun b u q => by
    by_cases hb : b = p
    · subst hb
      have := g.s _ _ q
      rw [h2] at this; cases this
      exact upd_same
    · rw [upd_ne hb]; exact q
  refine ⟨g.f.trans s1, fun b u q => ?_, g.h, g.k, fun b q1 q2 => ?_, g.m, fun b q => (g.t b q).to s1 (by have hb : b ≠ p := (fun z => by obtain ⟨ps, q3⟩ := (g.t b q).is; subst z; rw [h2] at q3; cases q3); rw [upd_ne hb]; exact (g.t b q).1) rfl⟩
  · by_cases hb : b = p
    · subst hb; rw [upd_same] at q; rw [h2]; exact q
    · rw [upd_ne hb] at q; exact g.s b u q
  · have hb : b ≠ p := fun z => by
      subst z
      obtain ⟨o, h3, h4⟩ := g.m b q2
      rw [h2] at h3; cases h3
      cases h4
    rw [upd_ne hb]; exact g.n b q1 q2
end
end Tw

namespace Tw
open PySem PySem.Spec PyProof.Rows L2
/-! ## data that can be compared -/
def Lay (n : Nat) (d : PyData) : Prop := d.canLay0 = true ∧ d.depth ≤ n
theorem Lay.mono {n m : Nat} {d : PyData} (h : Lay n d) (e : n ≤ m) : Lay m d := ⟨h.1, Nat.le_trans h.2 e⟩
theorem layAll {n : Nat} : ∀ {ds : List PyData}, (∀ d ∈ ds, Lay n d) → PyData.canLayAll0 ds = true ∧ PyData.depthAll ds ≤ n
  | [], _ => ⟨by simp [PyData.canLayAll0], by simp [PyData.depthAll]⟩
  | d :: ds, h => by
    obtain ⟨h1, h2⟩ := h d (List.mem_cons_self ..)
    obtain ⟨h3, h4⟩ := layAll (fun e he => h e (List.mem_cons_of_mem _ he))
    exact ⟨by simp [PyData.canLayAll0, h1, h3], by simp [PyData.depthAll]; omega⟩
theorem Lay.list {n : Nat} {ds : List PyData} (h : ∀ d ∈ ds, Lay n d) : Lay (n + 1) (.list ds) := by
  obtain ⟨h1, h2⟩ := layAll h
  exact ⟨by simp [PyData.canLay0, h1], by simp [PyData.depth]; omega⟩
theorem Lay.tup {n : Nat} {ds : List PyData} (h : ∀ d ∈ ds, Lay n d) : Lay (n + 1) (.tuple ds) := by
  obtain ⟨h1, h2⟩ := layAll h
  exact ⟨by simp [PyData.canLay0, h1], by simp [PyData.depth]; omega⟩
theorem Lay.int (i : Int) {n : Nat} : Lay n (.int i) := ⟨by simp [PyData.canLay0], by simp [PyData.depth]⟩
theorem Lay.bl (i : Bool) {n : Nat} : Lay n (.bool i) := ⟨by simp [PyData.canLay0], by simp [PyData.depth]⟩
theorem Lay.non {n : Nat} : Lay n .none := ⟨by simp [PyData.canLay0], by simp [PyData.depth]⟩
theorem Lay.shaped {n : Nat} {d : PyData} (h : Lay n d) (hn : n ≤ 64 := by decide) : SeqAt.shaped d = true := by
  unfold SeqAt.shaped
  rw [h.1, decide_eq_true (Nat.le_trans h.2 hn)]; rfl
theorem Lay.eqv {n : Nat} {d : PyData} (h : Lay n d) : PyData.eqv d d = true := PySem.SeqAt.eqv_refl d h.1
theorem lay_ints (ws : List Int) : ∀ d ∈ ws.map PyData.int, Lay 0 d := fun d hd => by
  obtain ⟨i, _, rfl⟩ := List.mem_map.mp hd
  exact .int i
theorem lay_wi (ws : List Int) : Lay 1 (wiD ws) := .tup (lay_ints ws)
theorem lay_cons {n : Nat} {d : PyData} {ds : List PyData} (h : Lay n d) (t : ∀ e ∈ ds, Lay n e) : ∀ e ∈ d :: ds, Lay n e := fun e he => by
  rcases List.mem_cons.mp he with q | q
  · rw [q]; exact h
  · exact t e q
theorem lay_nil {n : Nat} : ∀ e ∈ ([] : List PyData), Lay n e := fun e he => by cases he
theorem lay_one (c : Custom) (ws : List Int) : Lay 2 (oneD c ws) := .tup (lay_cons (lay_wi _) (lay_cons (lay_wi _) lay_nil))
theorem lay_rows (rs : List (List Int)) : Lay 2 (.list (rs.map wiD)) := .list fun d hd => by
  obtain ⟨i, _, rfl⟩ := List.mem_map.mp hd
  exact lay_wi i
theorem lay_run (c : Custom) (ws : List Int) (n : Nat) : Lay 3 (runD c ws n) := .tup (lay_cons (lay_rows _) (lay_cons ((lay_wi _).mono (by decide)) lay_nil))
/-! ## d != d -/
theorem v_neL {K : PySem.W.Frag} {n : Nat} {d : PyData} (h : Lay n d) (hn : n ≤ 64 := by decide) : V2 (rNeD K) d d (.bool false) := by
  have := v_neD (K := K) (h.shaped hn) (h.shaped hn)
  rw [h.eqv] at this
  exact this
/-! ## a tuple of small numbers as text -/
theorem shown_small {i : Int} (h0 : 0 ≤ i) (h1 : i ≤ 15) : (PyData.int i).shown.length ≤ 2 := by
  have key : ∀ n : Fin 16, (Str.ofString (toString ((n.val : Nat) : Int))).length ≤ 2 := by decide +kernel
  have := key ⟨i.toNat, by omega⟩
  have e : ((i.toNat : Nat) : Int) = i := by omega
  rw [PyData.shown.eq_3, ← e]
  exact this
theorem shown_ints : ∀ ws : List Int, PyData.shownAll (ws.map PyData.int) = ws.map fun i => (PyData.int i).shown
  | [] => by simp [PyData.shownAll]
  | w :: ws => by simp [PyData.shownAll, shown_ints ws]
theorem str_wi {K : PySem.W.Frag} {ws : List Int} (h : ∀ w ∈ ws, 0 ≤ w ∧ w ≤ 15) (hl : ws.length ≤ 4) : VN (rStrD K) [wiD ws] (.str (wiD ws).shown) := by
  have hs : ∀ (ws : List Int), (∀ w ∈ ws, 0 ≤ w ∧ w ≤ 15) → PyData.showableAll (ws.map PyData.int) = true := fun ws h => by
    induction ws with
    | nil => simp [PyData.showableAll]
    | cons w ws ih =>
      obtain ⟨h1, h2⟩ := h w (List.mem_cons_self ..)
      have : w.natAbs.log2 < 1920 := Nat.lt_of_le_of_lt (Nat.log2_le_self _) (by omega)
      simp [PyData.showableAll, PyData.showable, ih fun w hw => h w (List.mem_cons_of_mem _ hw), this]
  have hd : ∀ (ws : List Int), PyData.hasDictAll (ws.map PyData.int) = false := fun ws => by
    induction ws with
    | nil => simp [PyData.hasDictAll]
    | cons w ws ih => simp [PyData.hasDictAll, PyData.hasDict, ih]
  refine v_strD rfl (by simp [wiD, PyData.showable, hs ws h]) (by simp [wiD, PyData.hasDict, hd]) (Nat.le_trans (lay_wi ws).2 (by decide)) ?_
  show (PyData.shown (.tuple (ws.map PyData.int))).length ≤ sizeLine
  rw [PyData.shown.eq_6, shown_ints]
  refine Nat.le_trans (tupleText_len_le _) (Nat.le_trans (m := 40) ?_ (by decide))
  have key : ∀ ws : List Int, (∀ w ∈ ws, 0 ≤ w ∧ w ≤ 15) → ((ws.map fun i => (PyData.int i).shown).map (·.length)).sum ≤ 2 * ws.length := fun ws => by
    induction ws with
    | nil => intro _; simp
    | cons w ws ih =>
      intro h
      have h1 := shown_small (h w (List.mem_cons_self ..)).1 (h w (List.mem_cons_self ..)).2
      have h2 := ih fun w hw => h w (List.mem_cons_of_mem _ hw)
      simp only [List.map_cons, List.sum_cons, List.length_cons]
      omega
  have h1 := key ws h
  rw [List.length_map]
  omega
/-! ## who has it wishes most -/
theorem had_mem {c : Custom} {ws : List Int} {i : Int} : i ∈ had c ws ↔ ∃ (k : Nat) (w : Int), i = k ∧ ws[k]? = some w ∧ (aheadOf c ws ((k : Int), w) : Int) < c.many := by
  unfold had
  rw [List.mem_map]
  constructor
  · rintro ⟨p, hp, rfl⟩
    obtain ⟨h1, h2⟩ := List.mem_filter.mp hp
    obtain ⟨k, h3, h4⟩ := enumI_mem.mp h1
    have : p = ((k : Int), p.2) := Prod.ext h3 rfl
    refine ⟨k, p.2, h3, h4, ?_⟩
    rw [← this]; simpa using h2
  · rintro ⟨k, w, rfl, h1, h2⟩
    exact ⟨((k : Int), w), List.mem_filter.mpr ⟨enumI_mem.mpr ⟨k, rfl, h1⟩, by simpa using h2⟩, rfl⟩
theorem had_bound {c : Custom} {ws : List Int} {i : Int} (h : i ∈ had c ws) : 0 ≤ i ∧ i < ws.length := by
  obtain ⟨k, w, rfl, h1, _⟩ := had_mem.mp h
  have := (List.getElem?_eq_some_iff.mp h1).1
  omega
theorem had_len {c : Custom} {ws : List Int} (h1 : 0 ≤ c.many) (h2 : c.many ≤ ws.length) : ((had c ws).length : Int) = c.many := by
  rw [← hadOf_eq c ws h1]
  unfold hadOf
  rw [show (sortI _).length = _ from List.length_mergeSort _, List.length_map]
  unfold takeI
  rw [if_neg (by omega), List.length_take]
  have : (orderOf c ws).length = ws.length := by rw [orderOf, (sortP_perm _).length_eq, List.length_map, enumI_len]
  rw [this]
  omega
theorem ahead_le {c : Custom} {ws : List Int} {p q : Int × Int} (h : q.2 < p.2) : aheadOf c ws p ≤ aheadOf c ws q := by
  unfold aheadOf
  have key : ∀ l : List (Int × Int), (l.filter (goesAhead c.first p)).length ≤ (l.filter (goesAhead c.first q)).length := fun l => by
    induction l with
    | nil => simp
    | cons x l ih =>
      simp only [List.filter_cons]
      have hx : goesAhead c.first p x = true → goesAhead c.first q x = true := fun hx => by
        unfold goesAhead at hx ⊢
        simp only [Bool.or_eq_true, decide_eq_true_eq, Bool.and_eq_true] at hx ⊢
        rcases hx with hx | hx
        · left; omega
        · left; have := hx.1; omega
      by_cases h1 : goesAhead c.first p x = true
      · rw [if_pos h1, if_pos (hx h1), List.length_cons, List.length_cons]; omega
      · rw [if_neg h1]
        split
        · rw [List.length_cons]; omega
        · exact ih
  exact key _
theorem had_most {c : Custom} {ws : List Int} {i j : Nat} {v w : Int} (hi : (i : Int) ∉ had c ws) (hj : (j : Int) ∈ had c ws) (h1 : ws[i]? = some v) (h2 : ws[j]? = some w) : v ≤ w := by
  obtain ⟨k, w', e, h3, h4⟩ := had_mem.mp hj
  have : k = j := by omega
  subst this
  rw [h2] at h3; cases h3
  refine Int.not_lt.mp fun hlt => hi (had_mem.mpr ⟨i, v, rfl, h1, ?_⟩)
  have := ahead_le (c := c) (ws := ws) (p := ((i : Int), v)) (q := ((k : Int), w)) hlt
  omega
theorem exists_max : ∀ {l : List Int}, l ≠ [] → ∃ m ∈ l, ∀ y ∈ l, y ≤ m
  | [x], _ => ⟨x, List.mem_singleton.mpr rfl, fun y hy => by rw [List.mem_singleton.mp hy]; exact Int.le_refl _⟩
  | x :: y :: l, _ => by
    obtain ⟨m, h1, h2⟩ := exists_max (l := y :: l) (by simp)
    by_cases h : m ≤ x
    · exact ⟨x, List.mem_cons_self .., fun z hz => by
        rcases List.mem_cons.mp hz with q | q
        · omega
        · have := h2 z q; omega⟩
    · exact ⟨m, List.mem_cons_of_mem _ h1, fun z hz => by
        rcases List.mem_cons.mp hz with q | q
        · omega
        · exact h2 z q⟩
theorem exists_min {l : List Int} (h : l ≠ []) : ∃ m ∈ l, ∀ y ∈ l, m ≤ y := by
  obtain ⟨m, h1, h2⟩ := exists_max (l := l.map (- ·)) (by simpa using h)
  obtain ⟨n, h3, h4⟩ := List.mem_map.mp h1
  exact ⟨n, h3, fun y hy => by have := h2 (-y) (List.mem_map.mpr ⟨y, hy, rfl⟩); omega⟩
/-- there is one who lacks -/
theorem some_lacks {c : Custom} {ws : List Int} (h1 : 0 ≤ c.many) (h2 : c.many < ws.length) : ∃ i : Nat, i < ws.length ∧ (i : Int) ∉ had c ws := by
  refine Classical.byContradiction fun hn => ?_
  have hall : ∀ i : Nat, i < ws.length → (i : Int) ∈ had c ws := fun i hi => Classical.byContradiction fun h => hn ⟨i, hi, h⟩
  have hnd : ((List.range ws.length).map fun (i : Nat) => (i : Int)).Nodup := nodup_of_lt (castRange_sorted _)
  have hsub : ((List.range ws.length).map fun (i : Nat) => (i : Int)).length ≤ (had c ws).length := hnd.length_le_of_subset (fun x hx => by
    obtain ⟨i, hi, rfl⟩ := List.mem_map.mp hx
    exact hall i (List.mem_range.mp hi))
  rw [List.length_map, List.length_range] at hsub
  have := had_len (c := c) (ws := ws) h1 (by omega)
  omega
theorem areW_after {c : Custom} {ws : List Int} (hc : WfC c) (hw : WfW c ws) : areW c (wiD ws) = true := by
  unfold areW wiD
  simp only [List.length_map, hw.len, decide_true, Bool.true_and]
  rw [List.all_eq_true]
  intro p hp
  obtain ⟨i, hi⟩ := List.mem_iff_getElem?.mp hp
  rw [List.getElem?_zip_eq_some, List.getElem?_map] at hi
  obtain ⟨h1, h2⟩ := hi
  obtain ⟨w, h3, h4⟩ := Option.map_eq_some_iff.mp h1
  have hb := hw.bound i w h3
  have hh : handAt c.hands (i : Int) = p.2 := by
    unfold handAt
    rw [Int.toNat_natCast, List.getD_eq_getElem?_getD, h2]; rfl
  rw [hh] at hb
  rw [← h4]
  unfold isFrom
  simp only [Bool.and_eq_true, decide_eq_true_eq]
  exact hb
theorem wf_small {c : Custom} {ws : List Int} (hc : WfC c) (hw : WfW c ws) : ∀ w ∈ ws, 0 ≤ w ∧ w ≤ 15 := fun w h => by
  obtain ⟨i, hi⟩ := List.mem_iff_getElem?.mp h
  have hb := hw.bound i w hi
  have hl : i < c.hands.length := by rw [← hw.len]; exact (List.getElem?_eq_some_iff.mp hi).1
  have hs := hc.steps _ (handAt_mem hl)
  omega
end Tw

namespace Tw
open PySem PySem.Spec PyProof.Rows L2
/-! ## an own dict whose keys are tuples of whole numbers -/
def Ow.dct (kvs : List (List Key × V)) : Ow := ⟨fun _ o => o = .dT kvs, fun _ h => h, fun h => by rw [h]; rfl⟩
def wKey (ws : List Int) : List Key := ws.map Sum.inl
theorem wKey_kV (ws : List Int) : (wKey ws).map kV = ws.map V.int := by
  unfold wKey
  rw [List.map_map]; rfl
theorem wKey_inj {a b : List Int} (h : wKey a = wKey b) : a = b := by
  unfold wKey at h
  induction a generalizing b with
  | nil => cases b with
    | nil => rfl
    | cons y b => simp at h
  | cons x a ih => cases b with
    | nil => simp at h
    | cons y b =>
      simp only [List.map_cons, List.cons.injEq] at h
      rw [ih h.2, Sum.inl.inj h.1]
section
variable {X : Cx} {ex : List Addr} {F0 H0 : Hp} {ρ : Env'} {sts : List Stmt} {A : Aims} {e k : Expr} {ws : List Int} {d : PyData} {x : Str} {kvs : List (List Key × V)} {p : Addr} {px pos tp : Pos}
theorem Rp.key {F H : Hp} {v : V} (h : Rp F v (wiD ws)) (e : Same F H) : ∃ b, v = .ref b ∧ H b = some (.tup ((wKey ws).map kV)) := by
  obtain ⟨a, xs, rfl, h1, h2⟩ := h.tup_inv
  have := h2.ints
  subst this
  exact ⟨a, rfl, by rw [wKey_kV]; exact e _ _ h1⟩
/-- x = {} -/
theorem dss_newD (i : Nat) {pos' lp : Pos} (hN : X.N.Nodup) (h : ∀ p, DSs X ex F0 H0 (ρ.set i (.own p (.dct []))) sts A) (hi : X.N[i]? = some x := by rfl) (hx : Loc X.env.scope x := by first | exact Or.inl rfl | exact Or.inr rfl) (hs : swapsWith (.Dict [] [] lp) (some (.Name x pos')) pos.line X.env = pure false := by rfl)
    (hf : X.fn x = true ∨ X.env.scope.names.lookup x = some .local := by first | exact .inl rfl | exact .inr rfl) : DSs X ex F0 H0 ρ (.Assign [.Name x pos'] (.Dict [] [] lp) pos :: sts) A :=
  dss_own i hN (PE.imp pe_dnewT fun σ H Q ⟨F, ok, k⟩ => fun p hp => k p _ F _ (Grow.skip ok.s hp) hp (same_none ok.s hp) upd_same rfl) h hi hx hs hf
/-- key not in x -/
theorem dt_notinD (i : Nat) (hi : ρ[i]? = some (.own p (.dct kvs))) (hu : X.A.units + 1 < cLine) (hk : DE X ρ k (wiD ws)) (hxN : X.N[i]? = some x := by rfl) (hv : Vis X.env.scope x := by first | exact Or.inl rfl | exact Or.inr (Or.inl rfl) | exact Or.inr (Or.inr rfl)) (hd : (x == ("__debug__" : Str)) = false := by decide) (hcd : (x == ("__classdict__" : Str)) = false := by decide)
    (hm : behindInMarks .NotIn (.Name x px) = false := by first | exact nobehind _ (by decide) (by decide) | rfl) : DT X ρ (.Compare k [.NotIn] [.Name x px] pos) (!(valV kvs (wKey ws)).isSome) :=
  PT.imp (pt_cmp (pc_dnotin hu hk (pe_var hxN hv hd hcd)) hm) fun σ H Q ⟨F, ok, kk⟩ => ⟨F, ok, fun v F2 H2 g r => by
    obtain ⟨h1, h2, ho, h3, h4⟩ := (ok.grow g).own hi
    have h4' : ho = .dT kvs := h4
    subst h4'
    obtain ⟨b, rfl, hb⟩ := r.key g.s
    exact ⟨.ref p, h1, p, _, rfl, DGet.t h3 hb, _, rfl, kk F2 H2 g⟩⟩
/-- x[key] -/
theorem de_getD (i : Nat) {n : Int} (hi : ρ[i]? = some (.own p (.dct kvs))) (hu : X.A.units + 1 < cLine) (hk : DE X ρ k (wiD ws)) (hval : valV kvs (wKey ws) = some (.int n)) (hs : NoSl k := by exact fun _ _ => rfl) (hxN : X.N[i]? = some x := by rfl) (hv : Vis X.env.scope x := by first | exact Or.inl rfl | exact Or.inr (Or.inl rfl) | exact Or.inr (Or.inr rfl)) (hd : (x == ("__debug__" : Str)) = false := by decide) (hcd : (x == ("__classdict__" : Str)) = false := by decide) : DE X ρ (.Subscript (.Name x px) k pos) (.int n) :=
  PE.imp (pe_dget hu (pe_var hxN hv hd hcd) hk hs) fun σ H Q ⟨F, ok, kk⟩ => by
    obtain ⟨h1, h2, ho, h3, h4⟩ := ok.own hi
    refine ⟨.ref p, h1, F, ok, fun v F2 H2 g r => ?_⟩
    obtain ⟨_, _, ho2, h3', h4'⟩ := (ok.grow g).own hi
    have h4'' : ho2 = .dT kvs := h4'
    subst h4''
    obtain ⟨b, rfl, hb⟩ := r.key g.s
    exact ⟨p, .int n, rfl, by have := DGet.t (k := wKey ws) h3' hb; rw [hval] at this; exact this, kk (.int n) F2 H2 g (.int n)⟩
/-- x[key] = e, a new key -/
theorem dss_putD (i : Nat) {n : Int} (hi : ρ[i]? = some (.own p (.dct kvs))) (hu : X.A.units + 1 < cLine) (he : DE X ρ e (.int n)) (hk : DE X ρ k (wiD ws)) (hl : kvs.length < sizeLine) (h : DSs X ex F0 H0 (ρ.set i (.own p (.dct (putK kvs (wKey ws) (.int n))))) sts A)
    (hxN : X.N[i]? = some x := by rfl) (hv : Vis X.env.scope x := by first | exact Or.inl rfl | exact Or.inr (Or.inl rfl) | exact Or.inr (Or.inr rfl)) (hd : (x == ("__debug__" : Str)) = false := by decide) (hcd : (x == ("__classdict__" : Str)) = false := by decide)
    (hs : swapsWith e (some (.Subscript (.Name x px) k tp)) pos.line X.env = pure false := by rfl) : DSs X ex F0 H0 ρ (.Assign [.Subscript (.Name x px) k tp] e pos :: sts) A := by
  refine dss_seq (N1 := fun ρ' => ρ' = ρ.set i (.own p (.dct (putK kvs (wKey ws) (.int n))))) ?_ fun _ h' => h' ▸ h
  refine PS.imp (ps_dput hu (pe_var hxN hv hd hcd) hk he hs) fun D σ H ⟨F, a, nn, r, b, c⟩ => ⟨F, a.ok, fun v F2 H2 g rv => ?_⟩
  obtain rfl := rv.int_inv
  have a2 := a.grow g
  obtain ⟨h1, _⟩ := a2.ok.own hi
  refine ⟨.ref p, h1, F2, a2.ok, fun y F3 H3 g3 ry => ?_⟩
  have a3 := a2.grow g3
  obtain ⟨_, _, ho, h3, h4⟩ := a3.ok.own hi
  have h4' : ho = .dT kvs := h4
  subst h4'
  obtain ⟨q, rfl, hq⟩ := ry.key g3.s
  exact ⟨p, _, rfl, DPut.t h3 hq hl, nn _ _ F3 _ rfl (g.f.trans g3.f) (a3.write hi rfl)⟩
end
/-! ## the first time that wishes come again -/
structure Round (c : Custom) (ws : List Int) (i n : Nat) : Prop where
  dist : ∀ j k, j < k → k < n → wAt c ws j ≠ wAt c ws k
  lt : i < n
  again : wAt c ws i = wAt c ws n
theorem Round.inj {c : Custom} {ws : List Int} {i n i' n' : Nat} (h : Round c ws i n) (h' : Round c ws i' n') : i = i' ∧ n = n' := by
  have key : ∀ {i n i' n'}, Round c ws i n → Round c ws i' n' → ¬ n < n' := fun {i n i' n'} h h' z => h'.dist i n h.lt z h.again
  have hn : n = n' := by
    have h1 := key h h'
    have h2 := key h' h
    omega
  subst hn
  refine ⟨?_, rfl⟩
  have e := h.again.trans h'.again.symm
  rcases Nat.lt_trichotomy i i' with q | q | q
  · exact (h.dist i i' q h'.lt e).elim
  · exact q
  · exact (h.dist i' i q h.lt e.symm).elim
def dctN (c : Custom) (ws : List Int) (n : Nat) : List (List Key × V) := (List.range n).map fun k => (wKey (wAt c ws k), V.int (k : Int))
theorem dctN_len (c : Custom) (ws : List Int) (n : Nat) : (dctN c ws n).length = n := by simp [dctN]
theorem dctN_none {c : Custom} {ws : List Int} {n : Nat} {v : List Int} (h : ∀ k, k < n → wAt c ws k ≠ v) : valV (dctN c ws n) (wKey v) = none := by
  unfold valV
  rw [Option.map_eq_none_iff, List.find?_eq_none]
  intro x hx
  obtain ⟨k, hk, rfl⟩ := List.mem_map.mp hx
  simp only [decide_eq_true_eq]
  exact fun z => h k (List.mem_range.mp hk) (wKey_inj z)
theorem dctN_some {c : Custom} {ws : List Int} {n i : Nat} (hi : i < n) (hd : ∀ j k, j < k → k < n → wAt c ws j ≠ wAt c ws k) : valV (dctN c ws n) (wKey (wAt c ws i)) = some (.int (i : Int)) := by
  unfold valV dctN
  have key : ((List.range n).map fun k => (wKey (wAt c ws k), V.int (k : Int))).find? (fun kv => decide (kv.1 = wKey (wAt c ws i))) = some (wKey (wAt c ws i), V.int (i : Int)) := by
    rw [List.find?_map, Option.map_eq_some_iff]
    refine ⟨i, ?_, rfl⟩
    rw [List.find?_range_eq_some]
    refine ⟨by simp, List.mem_range.mpr hi, fun j hj => ?_⟩
    simp only [Function.comp_apply, Bool.not_eq_true', decide_eq_false_iff_not]
    exact fun z => hd j i hj hi (wKey_inj z)
  rw [key]; rfl
theorem dctN_put {c : Custom} {ws : List Int} {n : Nat} (hd : ∀ k, k < n → wAt c ws k ≠ wAt c ws n) : putK (dctN c ws n) (wKey (wAt c ws n)) (.int (n : Int)) = dctN c ws (n + 1) := by
  unfold putK
  rw [if_neg]
  · unfold dctN
    rw [List.range_succ, List.map_append]; rfl
  · rw [List.any_eq_true]
    rintro ⟨x, hx, h⟩
    obtain ⟨k, hk, rfl⟩ := List.mem_map.mp hx
    exact hd k (List.mem_range.mp hk) (wKey_inj (by simpa using h))
/-! all wishes of a custom: no more than 65536 -/
def allW : Nat → List (List Int)
  | 0 => [[]]
  | n + 1 => (List.range 16).flatMap fun (i : Nat) => (allW n).map fun ws => (i : Int) :: ws
theorem allW_len : ∀ n, (allW n).length = 16 ^ n
  | 0 => rfl
  | n + 1 => by
    unfold allW
    rw [List.length_flatMap]
    simp only [List.length_map, allW_len n]
    simp [List.map_const', Nat.pow_succ, Nat.mul_comm]
    omega
theorem allW_mem : ∀ {ws : List Int}, (∀ w ∈ ws, 0 ≤ w ∧ w ≤ 15) → ws ∈ allW ws.length
  | [], _ => by simp [allW]
  | w :: ws, h => by
    have h1 := h w (List.mem_cons_self ..)
    show _ ∈ (List.range 16).flatMap fun (i : Nat) => (allW ws.length).map fun ws => (i : Int) :: ws
    rw [List.mem_flatMap]
    exact ⟨w.toNat, List.mem_range.mpr (by omega), List.mem_map.mpr ⟨ws, allW_mem fun x hx => h x (List.mem_cons_of_mem _ hx), by rw [show ((w.toNat : Nat) : Int) = w by omega]⟩⟩
theorem distinct_bound {c : Custom} {ws : List Int} {n : Nat} (hc : WfC c) (hw : WfW c ws) (hd : ∀ j k, j < k → k < n → wAt c ws j ≠ wAt c ws k) : n ≤ 65536 := by
  have hnd : ((List.range n).map fun k => wAt c ws k).Nodup := by
    rw [List.nodup_iff_pairwise_ne, List.pairwise_map]
    refine List.Pairwise.imp_of_mem (fun {a b} ha hb hab => hd a b hab (List.mem_range.mp hb)) (List.pairwise_lt_range (n := n))
  have h1 := hnd.length_le_of_subset (l₂ := allW ws.length) (fun x hx => by
    obtain ⟨k, _, rfl⟩ := List.mem_map.mp hx
    have hk := wf_at hc hw k
    have := allW_mem (wf_small hc hk)
    rwa [wAt_len] at this)
  rw [List.length_map, List.length_range, allW_len] at h1
  have h4 : ws.length ≤ 4 := by rw [hw.len]; exact hc.four
  exact Nat.le_trans h1 (Nat.le_trans (Nat.pow_le_pow_right (by decide) h4) (by decide))
theorem v_repT {K : PySem.W.Frag} {ds : List PyData} {k : Int} (h1 : ds ≠ []) (h2 : 2 ≤ k) (h3 : k ≤ 1000) (h4 : ds.length ≤ 1000) : V2 (rRepT K) (.tuple ds) (.int k) (.tuple (List.replicate k.toNat ds).flatten) := fun F H v1 v2 e r1 r2 Q kk => by
  obtain ⟨a, xs, rfl, ha, rx⟩ := r1.tup_inv
  refine ⟨a, k, xs, rfl, r2.int_inv, SqT.of (e _ _ ha), fun z => ?_, h2, h3, by rw [rx.len]; exact h4, fun p hp => kk _ _ _ (Grow.new e hp) (.tup upd_same ((rx.rep k.toNat).mono (Same.upd_new (same_none e hp))))⟩
  have := rx.len
  rw [z] at this
  exact h1 (List.length_eq_zero_iff.mp this.symm)
/-- (n,) * k -/
theorem rep_int (n : Int) (k : Nat) : (List.replicate k [PyData.int n]).flatten = (List.replicate k n).map PyData.int := by
  induction k with
  | zero => rfl
  | succ k ih => rw [List.replicate_succ, List.flatten_cons, ih, List.replicate_succ]; rfl
theorem round_ex {c : Custom} {ws : List Int} (hc : WfC c) (hw : WfW c ws) : ∃ i n, Round c ws i n := by
  have key : ∀ n, (∃ i m, m ≤ n ∧ Round c ws i m) ∨ ∀ j k, j < k → k ≤ n → wAt c ws j ≠ wAt c ws k := fun n => by
    induction n with
    | zero => exact .inr fun j k h1 h2 => by omega
    | succ n ih =>
      rcases ih with ⟨i, m, h1, h2⟩ | h
      · exact .inl ⟨i, m, by omega, h2⟩
      · by_cases he : ∃ i, i ≤ n ∧ wAt c ws i = wAt c ws (n + 1)
        · obtain ⟨i, h1, h2⟩ := he
          exact .inl ⟨i, n + 1, Nat.le_refl _, ⟨fun j k h3 h4 => h j k h3 (by omega), by omega, h2⟩⟩
        · refine .inr fun j k h1 h2 => ?_
          by_cases hk : k = n + 1
          · subst hk
            exact fun z => he ⟨j, by omega, z⟩
          · exact h j k h1 (by omega)
  rcases key 65536 with ⟨i, m, _, h⟩ | h
  · exact ⟨i, m, h⟩
  · have := distinct_bound hc hw (n := 65537) fun j k h1 h2 => h j k h1 (by omega)
    omega
theorem dctN_is {c : Custom} {ws : List Int} {n : Nat} {v : List Int} (h : (valV (dctN c ws n) (wKey v)).isSome = true) : ∃ k, k < n ∧ wAt c ws k = v := by
  refine Classical.byContradiction fun hn => ?_
  rw [dctN_none fun k h1 h2 => hn ⟨k, h1, h2⟩] at h
  cases h
theorem Round.le {c : Custom} {ws : List Int} {i n : Nat} (h : Round c ws i n) (hc : WfC c) (hw : WfW c ws) : n ≤ 65536 := distinct_bound hc hw h.dist
theorem rep_one {α : Type} (d : α) (k : Nat) : (List.replicate k [d]).flatten = List.replicate k d := by
  induction k with
  | zero => rfl
  | succ k ih => rw [List.replicate_succ, List.flatten_cons, ih, List.replicate_succ]; rfl
/-- [d] * k -/
theorem v_rep1 {d : PyData} {k : Int} (h2 : 0 ≤ k) (h3 : k ≤ 1000000) : V2 rRep (.list [d]) (.int k) (.list (List.replicate k.toNat d)) := fun F H v1 v2 e r1 r2 Q kk => by
  obtain ⟨a, xs, rfl, ha, rx⟩ := r1.lst_inv
  have hl := rx.len
  refine ⟨a, k, xs, rfl, r2.int_inv, e _ _ ha, by omega, by omega, ?_, fun p hp => kk _ _ _ (Grow.new e hp) ?_⟩
  · rw [hl]
    show 1 * _ ≤ _
    exact Nat.le_trans (show 1 * k.toNat ≤ 1000000 by omega) (by decide)
  · refine .lst upd_same ?_
    rw [← rep_one d k.toNat]
    exact (rx.rep k.toNat).mono (Same.upd_new (same_none e hp))
/-! ## sum(t), t a tuple of whole numbers -/
def rSumT (K : PySem.W.Frag) : List V → Hp → VK → Prop := fun vs H Q => ∃ (a : Addr) (ns : List Int), vs = [V.ref a] ∧ SqT K H a (ns.map V.int) ∧ Q (.int ns.sum) H
theorem cr_sumT {X : Cx} (hc : X.calm = true) : CallR X (.builtin "sum") (rSumT X.K) := by
  intro pins s σ H vs us Q I r h
  obtain ⟨a, ns, rfl, hs, q⟩ := h
  obtain ⟨its, rv, hl, _⟩ := I.tuple hs
  rw [Vals.ref1 r]
  have hi : IntsAre its ns := rv.ints
  obtain ⟨xs, e⟩ := hi.allInts.items
  have hn : numsOf (intItems xs).toList = ns := by rw [← e]; exact hi.numsOf
  rw [nums_intItems] at hn
  rw [e] at hl
  have hl2 : s.heap.IsTuple a (intItems xs) := by
    obtain ⟨o, h1, h2, n, h3⟩ := hl
    exact ⟨o, h1, h2, n, h3⟩
  refine PySem.W.ktm_sumG (I.ok.hd hc) hl2 fun h' tk t' hk => ⟨.int ns.sum, H, I.kept hk, ⟨t', ?_⟩, q⟩
  rw [preSum_eq, List.take_of_length_le (by simp), hn]
theorem v_sumT {K : PySem.W.Frag} {ns : List Int} : VN (rSumT K) [.tuple (ns.map .int)] (.int ns.sum) := VN1 fun F H v e r Q k => by
  obtain ⟨a, xs, rfl, ha, rx⟩ := r.tup_inv
  have := rx.ints; subst this
  exact ⟨a, ns, rfl, SqT.of (e _ _ ha), k _ F H (GrowX.refl e) (.int _)⟩
end Tw

namespace Tw
open PySem PySem.Spec PyProof.Rows L2
/-! ## for key, value in d.items(), d's keys tuples -/
/-- the pairs of the locked dict at d, each a new tuple -/
def Itit (d : Addr) (o : Obj) (kvs : List (List Key × V)) : It :=
  ⟨fun i H => H d = some (.frz o (.dT kvs)) ∧ i < kvs.length, fun i H x H' => ∃ T k v q, kvs[i]? = some (k, v) ∧ x = .ref T ∧ H T = none ∧ H q = some (.tup (k.map kV)) ∧ H' = upd H T (.tup [.ref q, v]), fun i H => H d = some (.frz o (.dT kvs)) ∧ kvs.length ≤ i⟩
section
variable {X : Cx} {pins : List (Addr × Obj)} {σ : L2.St} {H : Hp} {s : Shared} {d : Addr} {o : Obj} {kvs : List (List Key × V)}
/-- what stands at the locked dict, entry by entry -/
theorem frz_entries (I : Inv X pins σ H s) (h : H d = some (.frz o (.dT kvs))) : (d == sysModules) = false ∧ s.heap.get? d = some o ∧ o.ExactDict ∧ ∃ (es : Array DictEntry) (ep : Nat), o.data = .dict es ep ∧ es.size = kvs.length ∧
    ∀ (i : Nat) (k : List Key) (v : V), kvs[i]? = some (k, v) → ∃ (en : DictEntry) (q : Addr), es[i]? = some en ∧ en.key = .ref q ∧ H q = some (.tup (k.map kV)) ∧ RelV v en.val := by
  obtain ⟨hd, z, hs, xs, pr, o', es, ep, ho, hx, hdt, he, _⟩ := I.hok d _ h
  rw [hd] at ho
  cases ho
  have l1 : es.size = xs.length := by rw [← Array.length_toList, he, List.length_map]
  have l2 : kvs.length = xs.length := Paired.length pr
  refine ⟨hs, hd, hx, es, ep, hdt, by omega, fun i k v e => ?_⟩
  obtain ⟨b, hb, e1, e2, e3⟩ := paired_get pr e
  have q : es[i]? = some (entryOfKey (tupleKind (mixKind X.prog X.w)) b) := by rw [← Array.getElem?_toList, he, List.getElem?_map, hb]; rfl
  exact ⟨_, b.2.1, q, rfl, e2, e3⟩
end
theorem turn_itemsT {P : Program} {w : World} {K : PySem.W.Frag} {d : Addr} {o : Obj} {es : Array DictEntry} {ep : Nat} {kvs : List (List Key × V)} {elts : List Expr} {kk : Nat} {tpos : Pos} (it : Addr) (hod : o.data = .dict es ep) :
    Turn P w K (.Tuple elts kk tpos) (Itit d o kvs) [it] it (fun i h => ∃ ok ov, IsItemIter h it d i kvs.length ep ok ov) where
  mem := List.mem_singleton.mpr rfl
  obj := fun i h st b hb => by
    rw [List.mem_singleton.mp hb]
    obtain ⟨ok, ov, e⟩ := st
    exact ⟨_, e, fun v z => nomatch z⟩
  keep := fun i h h' st k => let ⟨ok, ov, e⟩ := st; ⟨ok, ov, k it (List.mem_singleton.mpr rfl) _ e⟩
  item := by
    intro X hP hw hK hc i pins s σ H E I hf st hg
    subst hP hw hK
    obtain ⟨hd, hi⟩ := hg
    obtain ⟨hs, hgd, hx, es', ep', hdt, hsz, ent⟩ := frz_entries I hd
    obtain ⟨rfl, rfl⟩ := dict_ep hod hdt
    obtain ⟨⟨k, v⟩, hkv⟩ : ∃ p, kvs[i]? = some p := ⟨kvs[i], List.getElem?_eq_getElem hi⟩
    obtain ⟨en, q, hen, hkey, hq, rv⟩ := ent i k v hkv
    obtain ⟨ok, ov, he⟩ := st
    rw [← hsz] at he
    have hlt : it < s.heap.objs.size := Heap.lt_size he
    have hie : i < es'.size := by omega
    have hen' : es'[i] = en := Option.some.inj ((Array.getElem?_eq_getElem hie).symm.trans hen)
    refine DT.nextI he ⟨o, hgd, hx, hdt⟩ hie fun h' ho hT hz hk => ?_
    rw [hen'] at ho hT
    rw [hkey] at ho hT
    refine ⟨_, rfl, wpAny_letOwnedTupleGo_items (s := { s with heap := h' }) ho fun h'' he' sb => ?_⟩
    have hT2 : h''.get? s.heap.objs.size = some { cls := .type "tuple", data := .seq #[.ref q, en.val] } := (sb.2 _ (Nat.ne_of_gt hlt)).trans hT
    have new : ObjOk X.prog X.w (upd H s.heap.objs.size (.tup [.ref q, v])) h'' s.heap.objs.size (.tup [.ref q, v]) :=
      ⟨by show 2 ≤ sizeLine; decide, [.ref q, en.val], .cons rfl (.cons rv .nil), ⟨_, hT2, rfl, _, rfl⟩⟩
    have I1 : Inv X pins σ (upd H s.heap.objs.size (.tup [.ref q, v])) { s with heap := h'' } :=
      I.turnedNew (t' := s.toks) (ch := [it]) (fun b ob hb e => by
        have hb' : b ≠ it := fun z => hb (List.mem_singleton.mpr z)
        exact (sb.2 b hb').trans (hk b ob hb' e)) hf (Nat.le_refl _) new
    refine ⟨.ref s.heap.objs.size, _, I1, rfl, ⟨_, k, v, q, hkv, rfl, I.hok.fresh (Nat.le_refl _), hq, rfl⟩, ⟨.ref q, en.val, ?_⟩, fun b hb => ?_⟩
    · rw [← hsz]; exact he'
    · have e := List.mem_singleton.mp hb
      rw [e, upd_ne (Nat.ne_of_lt hlt)]
      exact (hf it (List.mem_singleton.mpr rfl)).1
  done := by
    intro X hP hw hK hc i pins s σ H E I hf st hg
    subst hP hw hK
    obtain ⟨hd, hi⟩ := hg
    obtain ⟨f0, f1, f2, f3, f4, f5⟩ := hf it (List.mem_singleton.mpr rfl)
    obtain ⟨hs, hgd, hx, es', ep', hdt, hsz, ent⟩ := frz_entries I hd
    obtain ⟨rfl, rfl⟩ := dict_ep hod hdt
    obtain ⟨ok, ov, he⟩ := st
    rw [← hsz] at he
    exact DT.endI (I.ok.hd hc) he ⟨o, hgd, hx, hdt⟩ (by omega) fun h' eb => ⟨rfl, I.turned (t' := s.toks) (fun b ob hb e => eb b ob hb e) f0 f1 f3 f4 f5⟩
  self := fun A i s Q E st h => let ⟨_, _, e⟩ := st; PySem.W.kcp_self e h
section
variable {X : Cx} {e : Expr} {td : TE} {apos cpos : Pos}
def iItemsT (td : TE) : TI := fun σ H R => td σ H fun x H1 => ∃ d o kvs, x = .ref d ∧ H1 d = some (.frz o (.dT kvs)) ∧ R (Itit d o kvs) H1
theorem pi_itemsT {elts : List Expr} {kk : Nat} {tpos : Pos} (he : PE X e td) (hbase : attributeBase e "items" X.env (eval e X.env) = eval e X.env := by rfl) (hline : (apos.endLine == cpos.line) = true := by rfl) :
    PI X (.Tuple elts kk tpos) (.Call (.Attribute e "items" apos) [] [] cpos) (iItemsT td) := by
  refine ⟨fun pins s σ H R I h => ?_⟩
  refine wpAny_Call_method (T := "dict") (id := "dict.items") hbase rfl hline F.plainAttrs_dict F.slot_dict_items F.type_dict_items (thn (he.run pins s σ H _ I h) fun u s1 ⟨x, H1, I1, rx, d, o, kvs, ex, hd, q⟩ => ?_)
  subst ex
  obtain rfl : u = Value.ref d := rx
  obtain ⟨hs, hgd, hx, es, ep, hdt, hsz, ent⟩ := frz_entries I1 hd
  have raw : DT.Raw s1.heap d es ep := ⟨o, hgd, hx, hdt⟩
  refine ⟨raw.typeIs, ?_, ?_⟩
  · intro b e
    injection e with e
    subst e
    exact ⟨o, hgd, hx.2.1⟩
  have I2 : Inv X pins σ H1 { s1 with heap := s1.heap.push { cls := .type "dict_items", data := .fields #[.ref d] } } := I1.kept (t' := s1.toks) fun b ob q => Heap.get?_push_of_some _ q
  have fin : wpAny (model X.prog X.w) X.A (pyIter (.ref s1.heap.objs.size)) (PIE X pins σ (.Tuple elts kk tpos) R) X.xe { s1 with heap := s1.heap.push { cls := .type "dict_items", data := .fields #[.ref d] } } := by
    refine DT.iterI (d := d) ⟨_, Heap.get?_push_size _ rfl, rfl, rfl⟩ (raw.push _) (pi_one (tk := s1.toks) I2 _ (turn_itemsT _ hdt) ⟨.none, .none, ?_⟩ q)
    rw [← hsz]
    exact Heap.get?_push_size _ rfl
  show wpAny _ _ (callWith cpos (.builtin "dict.items") [.ref d] [] []) _ X.xe s1
  exact method_meetsIn F.slot_dict_items F.entry_dict_items rfl (PySem.evalArgs_none ⟨rfl, raw.typeIs, F.args_dict_items_1 _, _, DT.meetsItems (es := es) (ep := ep) hs, ⟨raw, fin⟩⟩)
end
theorem dctN_get {c : Custom} {ws : List Int} {n i : Nat} {kv : List Key × V} (h : (dctN c ws n)[i]? = some kv) : i < n ∧ kv = (wKey (wAt c ws i), .int (i : Int)) := by
  unfold dctN at h
  rw [List.getElem?_map] at h
  obtain ⟨j, h1, h2⟩ := Option.map_eq_some_iff.mp h
  obtain ⟨h3, h4⟩ := List.getElem?_eq_some_iff.mp h1
  simp at h3 h4
  subst h4
  exact ⟨h3, h2.symm⟩
/-- the pairs: wishes, when they first came -/
def itemsD (c : Custom) (ws : List Int) (n : Nat) : List PyData := (List.range n).map fun k => .tuple [wiD (wAt c ws k), .int (k : Int)]
theorem itemsD_get {c : Custom} {ws : List Int} {n i : Nat} {d : PyData} (h : (itemsD c ws n)[i]? = some d) : i < n ∧ d = .tuple [wiD (wAt c ws i), .int (i : Int)] := by
  unfold itemsD at h
  rw [List.getElem?_map] at h
  obtain ⟨j, h1, h2⟩ := Option.map_eq_some_iff.mp h
  obtain ⟨h3, h4⟩ := List.getElem?_eq_some_iff.mp h1
  simp at h3 h4
  subst h4
  exact ⟨h3, h2.symm⟩
theorem jok_items {c : Custom} {ws : List Int} {n : Nat} {F : Hp} {d : Addr} {od : Obj} (hF : F d = some (.frz od (.dT (dctN c ws n)))) : JOk (Itit d od (dctN c ws n)) F (itemsD c ws n) := fun i F1 H e1 e2 => ⟨fun dd hd => by
    obtain ⟨hi, rfl⟩ := itemsD_get hd
    refine ⟨⟨e2 _ _ (e1 _ _ hF), by rw [dctN_len]; exact hi⟩, fun x H' ⟨T, k, v, q, hkv, hx, hT, hq, hH⟩ => ?_⟩
    subst hx hH
    obtain ⟨_, e⟩ := dctN_get hkv
    cases e
    rw [wKey_kV] at hq
    have hqT : q ≠ T := fun z => by subst z; rw [hq] at hT; cases hT
    have g1 : Grow F1 H (upd F1 q (.tup ((wAt c ws i).map V.int))) H := Grow.tellT (GrowX.refl e2) hq
    have g2 : Grow F1 H (upd (upd F1 q (.tup ((wAt c ws i).map V.int))) T (.tup [.ref q, .int (i : Int)])) (upd H T (.tup [.ref q, .int (i : Int)])) := g1.trans (Grow.new g1.s hT)
    exact ⟨_, g2, .tup upd_same (.cons (.tup (by rw [upd_ne hqT]; exact upd_same) (RpA.of_ints _)) (.cons (.int _) .nil))⟩, fun hn => ⟨e2 _ _ (e1 _ _ hF), by
    have := List.getElem?_eq_none_iff.mp hn
    rw [dctN_len]
    simpa [itemsD] using this⟩⟩
theorem di_items {X : Cx} {ρ : Env'} {x : Str} {px apos cpos tpos : Pos} {elts : List Expr} {kk : Nat} (i : Nat) {c : Custom} {ws : List Int} {n : Nat} {d : Addr} {od : Obj} (hi : ρ[i]? = some (.fx d (.frz od (.dT (dctN c ws n)))))
    (hxN : X.N[i]? = some x := by rfl) (hv : Vis X.env.scope x := by first | exact Or.inl rfl | exact Or.inr (Or.inl rfl) | exact Or.inr (Or.inr rfl)) (hd : (x == ("__debug__" : Str)) = false := by decide) (hcd : (x == ("__classdict__" : Str)) = false := by decide)
    (hbase : attributeBase (.Name x px) "items" X.env (eval (.Name x px) X.env) = eval (.Name x px) X.env := by rfl) (hline : (apos.endLine == cpos.line) = true := by rfl) :
    DI X ρ (.Tuple elts kk tpos) (.Call (.Attribute (.Name x px) "items" apos) [] [] cpos) (itemsD c ws n) :=
  PI.imp (pi_itemsT (pe_var hxN hv hd hcd) hbase hline) fun σ H R ⟨F, ok, k⟩ => by
    obtain ⟨o, h1, h2, h3⟩ := ok.at_ i _ hi
    subst h2
    exact ⟨.ref d, h1, d, od, _, rfl, ok.s _ _ h3, k _ F H (GrowX.refl ok.s) (jok_items h3)⟩
/-! ## while a dict is locked -/
mutual
theorem Rp.drop {F : Hp} {d : Addr} {o : Obj} {u : HO} (hF : F d = some (.frz o u)) : ∀ {v : V} {x : PyData}, Rp F v x → Rp (fun b => if b = d then none else F b) v x
  | _, _, .non => .non
  | _, _, .bl b => .bl b
  | _, _, .int i => .int i
  | _, _, .str x => .str x
  | _, _, .lst (a := a) h r => .lst (by
      have hb : a ≠ d := fun z => by subst z; rw [hF] at h; cases h
      show (if a = d then none else F a) = _
      rw [if_neg hb]; exact h) (RpA.drop' hF r)
  | _, _, .tup (a := a) h r => .tup (by
      have hb : a ≠ d := fun z => by subst z; rw [hF] at h; cases h
      show (if a = d then none else F a) = _
      rw [if_neg hb]; exact h) (RpA.drop' hF r)
theorem RpA.drop' {F : Hp} {d : Addr} {o : Obj} {u : HO} (hF : F d = some (.frz o u)) : ∀ {vs : List V} {xs : List PyData}, RpA F vs xs → RpA (fun b => if b = d then none else F b) vs xs
  | _, _, .nil => .nil
  | _, _, .cons r t => .cons (Rp.drop hF r) (RpA.drop' hF t)
end
/-- an entry that tells neither of own things nor of standing ones -/
def plainE : Ent → Bool
  | .own _ _ => false
  | .fx _ _ => false
  | .st _ _ => false
  | _ => true
theorem TabF.untell {F H : Hp} {P d : Addr} {o : HO} (t : TabF F H P) (hd : F d = some o) (hc : ∀ c q, o ≠ LamX.CodeO c q) : TabF (fun b => if b = d then none else F b) H P := by
  obtain ⟨z1, ps, z2, z3, z4⟩ := t
  refine ⟨?_, ps, z2, z3, fun pos cv e => ?_⟩
  · by_cases hb : P = d
    · simp [hb]
    · simp only [hb, if_false]; exact z1
  obtain ⟨c, e1, e2⟩ := z4 pos cv e
  refine ⟨c, e1, ?_⟩
  have hcp : c ≠ d := fun z => by
    subst z
    rw [hd] at e2
    exact hc _ _ (Option.some.inj e2)
  simp only [hcp, if_false]
  exact e2
theorem dss_lockD {X : Cx} {F0 H0 : Hp} {ρ : Env'} {st : Stmt} {sts : List Stmt} {A : Aims} (i : Nat) {d : Addr} {kvs : List (List Key × V)} (N1 : Env' → Prop) (hi : ρ[i]? = some (.own d (.dct kvs)))
    (h : ∀ od, DS X [] F0 H0 (ρ.set i (.fx d (.frz od (.dT kvs)))) st { N := fun ρ' => ρ'[i]? = some (.fx d (.frz od (.dT kvs))) ∧ (ρ'.set i .no).all plainE = true ∧ N1 (ρ'.set i .no), R := fun _ _ => False })
    (k : ∀ ρ', N1 ρ' → DSs X [] F0 H0 ρ' sts A) : DSs X [] F0 H0 ρ (st :: sts) A := by
  refine dss_seq (N1 := N1) ?_ k
  refine PS.imp (ps_lock (PS.any (ι := Obj) (c := fun _ => True) (t := fun od => tS [] F0 H0 (ρ.set i (.fx d (.frz od (.dT kvs)))) { N := fun ρ' => ρ'[i]? = some (.fx d (.frz od (.dT kvs))) ∧ (ρ'.set i .no).all plainE = true ∧ N1 (ρ'.set i .no), R := fun _ _ => False }) fun od _ => h od)) fun D σ H ⟨F, a, n, r, b, c⟩ => ?_
  obtain ⟨h1, h2, ho, h3, h4⟩ := a.ok.own hi
  have h4' : ho = .dT kvs := h4
  subst h4'
  have hH0 : H0 d = none := by
    rcases a.new i d _ hi with q | q
    · exact q
    · cases q
  have hl : i < ρ.length := (List.getElem?_eq_some_iff.mp hi).1
  refine ⟨d, _, h3, trivial, fun od => ⟨od, trivial, upd F d (.frz od (.dT kvs)), ?_, ?_, ⟨fun _ _ _ _ _ _ z => z.elim, fun _ _ z => z.elim⟩, fun _ _ _ _ z => z.elim, fun _ _ _ _ z => z.elim⟩⟩
  · -- the lock is on
    have s1 : Same F (upd F d (.frz od (.dT kvs))) := Same.upd_new h2
    have sH : Same (upd F d (.frz od (.dT kvs))) (upd H d (.frz od (.dT kvs))) := Same.upd2 a.ok.s
    refine ⟨⟨a.g.f.trans s1, sH, fun b u hb q qi => ?_, fun b q => ?_, fun b q1 q2 => ?_, fun b q => (a.g.m b q).upd rfl, fun b q => (a.g.t b q).upd2 h2 (tbl_nt h3 rfl)⟩, ⟨sH, by simp [a.ok.len], fun j e hj => ?_, fun j l p q w w' hj hk hjk => ?_⟩, fun j p w hj => ?_⟩
    · have hbd : b ≠ d := fun z => by subst z; rw [hH0] at q; cases q
      rw [upd_ne hbd]; exact a.g.h b u hb q qi
    · by_cases hbd : b = d
      · subst hbd; rw [upd_same]; simp
      · rw [upd_ne hbd]; exact a.g.k b q
    · have hbd : b ≠ d := fun z => by subst z; exact q2.ne hH0
      rw [upd_ne hbd]; exact a.g.n b q1 q2
    · by_cases hij : i = j
      · subst hij
        rw [List.getElem?_set_self hl] at hj; cases hj
        exact ⟨_, h1, rfl, upd_same⟩
      · rw [List.getElem?_set_ne hij] at hj
        obtain ⟨oo, e1, e2⟩ := a.ok.at_ j e hj
        refine ⟨oo, e1, ?_⟩
        cases e with
        | no => trivial
        | dat x => obtain ⟨v, x1, x2⟩ := e2; exact ⟨v, x1, x2.mono s1⟩
        | val v => exact e2
        | fx q u => exact ⟨e2.1, s1 _ _ e2.2⟩
        | st q w => exact ⟨e2.1, let ⟨u, hu, hw⟩ := e2.2; ⟨u, s1 _ _ hu, w.mono s1 hw⟩⟩
        | own q w =>
          obtain ⟨x1, x2, hh, x3, x4⟩ := e2
          have hq : q ≠ d := a.ok.ne j i q d _ _ hj hi (Ne.symm hij)
          exact ⟨x1, by rw [upd_ne hq]; exact x2, hh, by rw [upd_ne hq]; exact x3, w.mono s1 x4⟩
    · have f : ∀ {j : Nat} {q : Addr} {w : Ow}, (ρ.set i (.fx d (.frz od (.dT kvs))))[j]? = some (.own q w) → ρ[j]? = some (.own q w) := fun {j q w} hj => by
        by_cases hij : i = j
        · subst hij
          rw [List.getElem?_set_self hl] at hj; cases hj
        · rw [List.getElem?_set_ne hij] at hj; exact hj
      exact a.ok.ne j l p q _ _ (f hj) (f hk) hjk
    · by_cases hij : i = j
      · subst hij
        rw [List.getElem?_set_self hl] at hj; cases hj
      · rw [List.getElem?_set_ne hij] at hj; exact a.new j p w hj
  · -- the lock is off
    intro ρ' σ' F' H' ⟨hi', hpl, hN⟩ s1 a'
    obtain ⟨oo, e1, e2, e3⟩ := a'.ok.at_ i _ hi'
    have hHd : H' d = some (.frz od (.dT kvs)) := a'.ok.s _ _ e3
    refine ⟨hHd, n (ρ'.set i .no) σ' (fun b => if b = d then none else F' b) (upd H' d (.dT kvs)) hN (fun b u q => ?_) ?_⟩
    · have hbd : b ≠ d := fun z => by subst z; rw [h2] at q; cases q
      show (if b = d then none else F' b) = some u
      rw [if_neg hbd]
      exact s1 b u (by rw [upd_ne hbd]; exact q)
    · have sH : Same (fun b => if b = d then none else F' b) (upd H' d (.dT kvs)) := fun b u q => by
        by_cases hbd : b = d
        · have q' : (if b = d then none else F' b) = some u := q
          rw [if_pos hbd] at q'; cases q'
        · have q' : (if b = d then none else F' b) = some u := q
          rw [if_neg hbd] at q'; have q := q'; rw [upd_ne hbd]; exact a'.ok.s b u q
      have hpe : ∀ (j : Nat) (e : Ent), (ρ'.set i .no)[j]? = some e → plainE e = true := fun j e hj => List.all_eq_true.mp hpl e (List.mem_of_getElem? hj)
      refine ⟨⟨fun b u q => ?_, sH, fun b u hb q qi => ?_, fun b q => ?_, fun b q1 q2 => ?_, fun b q => (a'.g.m b q).upd rfl, fun b q => ((a'.g.t b q).untell e3 (fun _ _ z => by cases z)).upd (tbl_nt hHd rfl)⟩, ⟨sH, by simp [a'.ok.len], fun j e hj => ?_, fun j l p q w w' hj hk hjk => by have := hpe j _ hj; cases this⟩, fun j p w hj => by have := hpe j _ hj; cases this⟩
      · have hbd : b ≠ d := fun z => by
          subst z
          have := a.g.f _ _ q
          rw [h2] at this; cases this
        show (if b = d then none else F' b) = some u
        rw [if_neg hbd]; exact a'.g.f b u q
      · have hbd : b ≠ d := fun z => by subst z; rw [hH0] at q; cases q
        rw [upd_ne hbd]; exact a'.g.h b u hb q qi
      · by_cases hbd : b = d
        · subst hbd; rw [upd_same]; simp
        · rw [upd_ne hbd]; exact a'.g.k b q
      · by_cases hbd : b = d
        · show (if b = d then none else F' b) = none
          rw [if_pos hbd]
        · show (if b = d then none else F' b) = none
          rw [if_neg hbd]; exact a'.g.n b q1 q2
      · have hp := hpe j e hj
        have hli : i < ρ'.length := (List.getElem?_eq_some_iff.mp hi').1
        by_cases hij : i = j
        · subst hij
          rw [List.getElem?_set_self hli] at hj; cases hj
          exact ⟨oo, e1, trivial⟩
        · rw [List.getElem?_set_ne hij] at hj
          obtain ⟨o2, x1, x2⟩ := a'.ok.at_ j e hj
          refine ⟨o2, x1, ?_⟩
          cases e with
          | no => trivial
          | dat x => obtain ⟨v, y1, y2⟩ := x2; exact ⟨v, y1, y2.drop e3⟩
          | val v => exact x2
          | fx q u => cases hp
          | st q w => cases hp
          | own q w => cases hp
end Tw

namespace Tw
open PySem PySem.Spec PyProof.Rows L2
/-! ## xs.count(x) over data -/
def rCountD (K : PySem.W.Frag) : V → List V → Hp → VK → Prop := fun x xs H Q => ∃ v ds d, xs = [v] ∧ Dp K H x (.list ds) ∧ Dp K H v d ∧ PyData.plainAll ds = true ∧ d.plain = true ∧ d.depth ≤ 60 ∧ Q (.int ((ds.countP fun y => PyData.eqv y d : Nat) : Int)) H
theorem mt_countD {X : Cx} (hu : X.A.units + 64 < cLine) : MtR X "list.count" (rCountD X.K) := by
  intro pins s σ H x xs v us Q I rx rxs h
  obtain ⟨y, ds, d, rfl, hx, hy, h1, h2, h3, q⟩ := h
  obtain ⟨u, rfl, ru⟩ := rxs.one
  obtain ⟨as, r1⟩ := Dp.reads I (.list ds) x v hx rx
  obtain ⟨bs, r2⟩ := Dp.reads I d y u hy ru
  cases r1 with
  | list ha hc hd rs => exact PySem.SeqAt.count_list_data ⟨_, ha, hc, _, hd⟩ rs r2 h1 h2 (by omega) ⟨.int _, H, I.tok _, ⟨_, rfl⟩, q⟩
theorem plain_ints : ∀ ws : List Int, PyData.plainAll (ws.map PyData.int) = true
  | [] => by simp [PyData.plainAll]
  | w :: ws => by simp [PyData.plainAll, PyData.plain, plain_ints ws]
theorem plain_wi (ws : List Int) : (wiD ws).plain = true := by simp [wiD, PyData.plain, plain_ints]
theorem plain_rows : ∀ rs : List (List Int), PyData.plainAll (rs.map wiD) = true
  | [] => by simp [PyData.plainAll]
  | r :: rs => by simp [PyData.plainAll, plain_wi, plain_rows rs]
theorem eqv_ints : ∀ a b : List Int, PyData.eqvAll (a.map PyData.int) (b.map PyData.int) = decide (a = b)
  | [], [] => by simp [PyData.eqvAll]
  | [], _ :: _ => by simp [PyData.eqvAll]
  | _ :: _, [] => by simp [PyData.eqvAll]
  | x :: a, y :: b => by
    simp only [List.map_cons, PyData.eqvAll, PyData.eqv, eqv_ints a b]
    by_cases h : x = y <;> by_cases h2 : a = b <;> simp [h, h2]
theorem eqv_wi (a b : List Int) : PyData.eqv (wiD a) (wiD b) = decide (a = b) := by
  unfold wiD
  rw [PyData.eqv, eqv_ints]
section
variable {X : Cx} {ρ : Env'} {o e : Expr} {apos cpos : Pos}
/-- rows.count(row) -/
theorem de_countW {rs : List (List Int)} {h : List Int} (hu : X.A.units + 64 < cLine) (ho : DE X ρ o (.list (rs.map wiD))) (ha : DE X ρ e (wiD h)) (hbase : attributeBase o "count" X.env (eval o X.env) = eval o X.env := by rfl)
    (hfew : ((backTo cpos (starEach [e] X.env)).all (fun x => !x.1) && (backToKw cpos (keywordEach [] X.env)).all (fun x => x.1.isSome) && decide (([e] : List Expr).length + ([] : List Keyword).length + (if ([] : List Keyword).isEmpty then 0 else 1) < 30)) = true := by rfl)
    (hline : (apos.endLine == cpos.line) = true := by rfl) (hst : starEach [e] X.env = (false, eval e X.env) :: starEach [] X.env := by rfl) (hpl : (backTo cpos (starEach [] X.env)).any (·.1) = false := by rfl) :
    DE X ρ (.Call (.Attribute o "count" apos) [e] [] cpos) (.int ((rs.count h : Nat) : Int)) :=
  PE.imp (pe_bm PySem.F.plainAttrs_list PySem.F.slot_list_count PySem.F.type_list_count (mt_countD hu) ho (da_cons ha da_nil hst) hbase hfew hline hst hpl) fun σ H Q ⟨F, ok, k⟩ => ⟨F, ok, fun v F1 H1 g1 r1 => by
    obtain ⟨a, xs, rfl, h1, r1'⟩ := r1.lst_inv
    refine ⟨.inl ⟨rfl, xs, SqL.of (g1.s _ _ h1)⟩, F1, ok.grow g1, fun vs F2 H2 g2 r2 => ?_⟩
    cases r2 with
    | cons r2 rr =>
      cases rr
      refine ⟨_, rs.map wiD, wiD h, rfl, (r1.mono g2.f).dp g2.s, r2.dp g2.s, plain_rows rs, plain_wi h, Nat.le_trans (lay_wi h).2 (by decide), ?_⟩
      have e : ((rs.map wiD).countP fun y => PyData.eqv y (wiD h)) = rs.count h := by
        rw [List.countP_map, List.count]
        refine List.countP_congr fun r _ => ?_
        simp only [Function.comp_apply, eqv_wi]
        by_cases hh : r = h <;> simp [hh]
      rw [e]
      exact k _ F2 H2 (g1.trans g2) (.int _)⟩
end
end Tw

/-! Tw: [::-1] of a tuple -/
namespace Tw
open PySem PySem.Spec PyProof.Rows L2
theorem sliceApplied_back {prog : Program} {w : World} {A : Around} {E : Value → Shared → Prop} {s : Shared} {sl : Addr} {u : Tok} {n : Nat} {Q : Int × Int × Nat → Shared → Prop}
    (hs : s.heap.IsSliceOf sl .none .none (.int (-1) u)) (h : Q ((n : Int) - 1, -1, n) s) : wpAny (model prog w) A (Builtin.Slice.sliceApplied (.ref sl) (pure ↑n)) Q E s := by
  obtain ⟨o, h1, h2, h3⟩ := hs
  unfold Builtin.Slice.sliceApplied Builtin.Slice.sliceFields
  have hf : ∀ (i : Nat) (v : Value) {Q' : Value → Shared → Prop}, (#[Value.none, Value.none, Value.int (-1) u])[i]? = some v → Q' v s → wpAny (model prog w) A (field (.ref sl) i) Q' E s := fun i v Q' e q => by
    exact wpAny_field h1 h3 e q
  refine wpAny_bind (wpAny_bind (hf 0 _ rfl (wpAny_bind (hf 1 _ rfl (wpAny_bind (hf 2 _ rfl (wpAny_pure ?_)))))))
  refine wpAny_bind (HT.slicePart_ (IsPart.int (-1) u) ?_)
  refine wpAny_bind (HT.slicePart_ IsPart.none (wpAny_bind (HT.slicePart_ IsPart.none (wpAny_bind (wpAny_pure ?_)))))
  refine wpAny_pure ?_
  have e1 : Builtin.Slice.slicePlaces ((n : Int) - 1) (-1) (-1) = n := by
    unfold Builtin.Slice.slicePlaces
    by_cases hn : n = 0
    · subst hn; rfl
    · rw [if_neg (by decide), if_pos (by omega)]
      have : (((n : Int) - 1 - -1 - 1) / - -1 + 1).toNat = n := by
        rw [show (- -1 : Int) = 1 from rfl, Int.ediv_one]; omega
      exact this
  show Q ((n : Int) - 1, -1, Builtin.Slice.slicePlaces ((n : Int) - 1) (-1) (-1)) s
  rw [e1]; exact h
theorem back_items (items : Array Value) : (List.filterMap (fun (k : Nat) => items[(((items.size : Nat) : Int) - 1 + (k : Int) * -1).toNat]?) (List.range items.size)).toArray = items.toList.reverse.toArray := by
  congr 1
  have h1 : List.filterMap (fun (k : Nat) => items[(((items.size : Nat) : Int) - 1 + (k : Int) * -1).toNat]?) (List.range items.size) = List.filterMap (fun (k : Nat) => (items.toList.reverse)[k]?) (List.range items.size) := by
    have cg : ∀ (l : List Nat) (f g : Nat → Option Value), (∀ k ∈ l, f k = g k) → l.filterMap f = l.filterMap g := fun l f g hh => by
      induction l with
      | nil => rfl
      | cons k l ih => simp only [List.filterMap_cons, hh k (List.mem_cons_self ..), ih fun j hj => hh j (List.mem_cons_of_mem _ hj)]
    refine cg _ _ _ fun k hk => ?_
    have hk' := List.mem_range.mp hk
    have e : (((items.size : Nat) : Int) - 1 + (k : Int) * -1).toNat = items.size - 1 - k := by omega
    rw [e, List.getElem?_reverse (by simpa using hk')]
    simp
  rw [h1]
  have := PySem.W.krv_all items.toList.reverse.toArray
  simpa using this
def spBack (t sl : Addr) (items : Array Value) (u : Tok) : PySem.Spec := fun A R s => PyProof.Rows.IsTup s.heap t items ∧ s.heap.IsSliceOf sl .none .none (.int (-1) u) ∧ items.size ≤ sizeLine ∧
  R (.ok (.ret (.ref s.heap.objs.size))) { heap := s.heap.push { cls := .type "tuple", data := .seq items.toList.reverse.toArray }, gens := s.gens, drawn := s.drawn, toks := s.toks, os := s.os }
theorem meets_back (t sl : Addr) (items : Array Value) (u : Tok) : Meets (Builtin.«tuple.__getitem__» { pos := [.ref t, .ref sl] }) (spBack t sl items u) := by
  rintro prog w A R s ⟨ht, hs, hsz, h⟩
  obtain ⟨o, ho, hc, n, hd⟩ := id ht
  obtain ⟨os, hos, hcs, hds⟩ := id hs
  have ha : slotArgs "__getitem__" 1 { pos := [.ref t, .ref sl] } = pure (.ref t, [.ref sl]) := rfl
  unfold Builtin.«tuple.__getitem__»
  rw [ha]
  refine wpAny_bind (wpAny_pure ?_)
  refine wpAny_bind (wpAny_tupleItemsOf ho hd ?_)
  refine wpAny_bind (wpAny_typeOf (T := "slice") ⟨os, hos, hcs⟩ ?_)
  refine wpAny_bind (sliceApplied_back hs ?_)
  have hb : (((items.size : Int) - 1 == 0) && ((-1 : Int) == 1) && (items.size == items.size)) = false := by
    rw [show ((-1 : Int) == 1) = false from rfl]; simp
  show wpAny (model prog w) A.in1 (if (((items.size : Int) - 1 == 0) && ((-1 : Int) == 1) && (items.size == items.size)) = true then _ else _) _ _ s
  rw [hb, if_neg (by decide), back_items]
  refine wpAny_bind ?_
  unfold Builtin.Tuple.tupleExact
  refine wpAny_newObj_type ?_ ?_
  · exact wpAny_pure h
  · show items.toList.reverse.toArray.size ≤ sizeLine
    simpa using hsz
theorem getItem_tuple_back {prog : Program} {w : World} {A : Around} {E : Value → Shared → Prop} {s : Shared} {t sl : Addr} {items : Array Value} {u : Tok} {Q : Value → Shared → Prop}
    (ht : PyProof.Rows.IsTup s.heap t items) (hs : s.heap.IsSliceOf sl .none .none (.int (-1) u)) (hsz : items.size ≤ sizeLine)
    (h : Q (.ref s.heap.objs.size) { heap := s.heap.push { cls := .type "tuple", data := .seq items.toList.reverse.toArray }, gens := s.gens, drawn := s.drawn, toks := s.toks, os := s.os }) :
    wpAny (model prog w) A (getItem (.ref t) (.ref sl)) Q E s := by
  obtain ⟨o, ho, hc, n, hd⟩ := id ht
  exact getItem_meets (T := "tuple") ⟨o, ho, hc⟩ (by decide) PySem.F.slot_tuple_getitem PySem.F.entry_tuple_getitem (PySem.F.args_tuple_getitem_2 _ _) (meets_back t sl items u) ⟨ht, hs, hsz, h⟩
def tRevT (K : PySem.W.Frag) (te : TE) : TE := fun σ H Q => te σ H fun x H1 => ∃ a xs, x = .ref a ∧ SqT K H1 a xs ∧ ∀ p, H1 p = none → Q (.ref p) (upd H1 p (.tup xs.reverse))
theorem pe_revT {X : Cx} {x : Str} {px : Pos} {te : TE} {k : Nat} {p1 p2 p3 pos : Pos} (he : PE X (.Name x px) te) :
    PE X (.Subscript (.Name x px) (.Slice none none (some (.UnaryOp .USub (.Constant (.int 1) k p1) p2)) p3) pos) (tRevT X.K te) := ⟨fun pins s σ H Q I q => by
  rw [eval_Subscript]
  refine wpAny_bind (wpAny_mono (he.run pins s σ H _ I q) (fun v s1 h1 => ?_) fun _ _ h => h)
  obtain ⟨x1, H1, I1, r1, a, xs, rfl, hs, q1⟩ := h1
  refine wpAny_bind (wpAny_holding ?_)
  rw [eval]
  refine wpAny_bind (wpAny_pure ?_)
  refine wpAny_bind (wpAny_holding (wpAny_pure ?_))
  refine wpAny_bind (wpAny_holding ?_)
  show wpAny (model X.prog X.w) X.A (eval (.UnaryOp .USub (.Constant (.int 1) k p1) p2) X.env) _ _ s1
  refine wpAny_mono ((pe_un un_neg pe_int).run pins s1 σ H1 (fun v' H' => v' = .int (-1) ∧ H' = H1) I1 ⟨1, rfl, rfl, rfl⟩) (fun v2 s2 h2 => ?_) fun _ _ h => h
  obtain ⟨x2, H2, I2, r2, rfl, rfl⟩ := h2
  obtain ⟨u, rfl⟩ := r2
  unfold newFields
  refine wpAny_newObj_type ?_ ?_
  · have I3 := I2.kept (h' := s2.heap.push { cls := Value.type "slice", data := Data.fields #[Value.none, Value.none, Value.int (-1) u] }) (t' := s2.toks) (fun b o hb => Heap.get?_push_of_some _ hb)
    obtain ⟨its, rv, ht, hlen⟩ := I3.tuple hs
    cases r1
    refine wpAny_bind (wpAny_standAt ?_)
    have hsz : its.toArray.size ≤ sizeLine := by
      have := rv.length
      simpa [← this] using hlen
    have hsl : Heap.IsSliceOf (s2.heap.push { cls := Value.type "slice", data := Data.fields #[Value.none, Value.none, Value.int (-1) u] }) s2.heap.objs.size .none .none (.int (-1) u) := ⟨_, Heap.get?_push_size _ rfl, rfl, rfl⟩
    obtain ⟨o, ho, hc, n, hd⟩ := id ht
    refine subscriptTail_ops (T := "tuple") (id := "tuple.__getitem__") (ops := [.ref a, .ref s2.heap.objs.size]) ⟨o, ho, hc⟩ rfl ?_ rfl (fun r => rfl)
    refine getItem_tuple_back ht hsl hsz ?_
    have hfr := I3.fresh
    have e : its.toArray.toList.reverse.toArray = its.reverse.toArray := by simp
    rw [e]
    have I4 := I3.laid (a := (s2.heap.push { cls := Value.type "slice", data := Data.fields #[Value.none, Value.none, Value.int (-1) u] }).objs.size) (o := .tup xs.reverse)
      (h' := (s2.heap.push { cls := Value.type "slice", data := Data.fields #[Value.none, Value.none, Value.int (-1) u] }).push { cls := Value.type "tuple", data := Data.seq its.reverse.toArray }) (t' := s2.toks)
      (fun b o hb => Heap.get?_push_of_some _ hb) (Nat.le_refl _) ⟨by simpa using hlen, its.reverse, rv.reverse, _, Heap.get?_push_size _ rfl, rfl, _, rfl⟩
    exact ⟨.ref _, _, I4, rfl, q1 _ hfr⟩
  · exact Nat.le_trans (show 3 ≤ 10 by decide) (by decide)⟩
end Tw

/-! Tw: things of any kind -/
namespace Tw
open PySem PySem.Spec PyProof.Rows L2
theorem wp_rule {M : Model} {A : Around} {E : Value → Shared → Prop} {s : Shared} {t : String} {Q : Unit → Shared → Prop} (q : Q () s) : wpAny M A (rule t) Q E s := by
  intro Γ p hΓ
  unfold rule
  first
  | exact q
  | (simp [Sem.wp]; exact q)
/-! ## t * 1 -/
theorem tuple_mul1 (l : Addr) (items : Array Value) (n : Nat) (dd : Option Addr) (sl : Array (Option Value)) (u : Tok) :
    Meets (Builtin.«tuple.__mul__» { pos := [.ref l, .int 1 u] }) fun _ R s => s.heap.get? l = some { cls := .type "tuple", dict := dd, data := .seq items n, slots := sl } ∧ R (.ok (.ret (.ref l))) s := by
  rintro prog w A R s ⟨h1, q⟩
  change wpAny _ _ (asIndex (.int 1 u) >>= _) _ _ _
  refine wpAny_bind ?_
  change wpAny _ _ (pure (1 : Int)) _ _ _
  refine wpAny_pure ?_
  change wpAny _ _ (Builtin.Tuple.tupleItemsOf (.ref l) >>= _) _ _ _
  refine wpAny_bind (wpAny_tupleItemsOf h1 rfl ?_)
  have hb : (items.isEmpty || (1 : Int) == 1) = true := by simp
  dsimp only
  rw [if_pos hb]
  refine wpAny_bind ?_
  unfold Builtin.Tuple.tupleIsExact
  refine wpAny_bind (wpAny_typeOf (T := "tuple") ⟨_, h1, rfl⟩ (wpAny_pure ?_))
  rw [if_pos (by rfl)]
  exact wpAny_bind (wp_rule (wpAny_pure q))
def rRep1 (K : PySem.W.Frag) : R2 := fun x y H Q => ∃ l xs, x = .ref l ∧ y = .int 1 ∧ SqT K H l xs ∧ Q (.ref l) H
theorem op_rep1 {X : Cx} : OpR X (binaryOp .Mult) (rRep1 X.K) := by
  intro pins s σ H x y v u Q I rx ry ⟨l, xs, hx, hy, hs, q⟩
  subst hx; subst hy
  obtain rfl : v = Value.ref l := rx
  obtain ⟨t, rfl⟩ := ry
  obtain ⟨its, rv, ⟨o, ho, hc, n, hd⟩, hlen⟩ := I.tuple hs
  obtain ⟨cls, dd, data, sl⟩ := o
  subst hc; subst hd
  refine wpAny_binaryOp_repeat_ref (T := "tuple") (U := "int") (id := "tuple.__mul__") (idr := "int.__rmul__") rfl ⟨_, ho, rfl⟩ (fun _ => rfl) noFill_tuple_mul rfl PySem.F.slot_int_rmul repeat_tuple rfl ?_
  refine call_meets (T := "int") PySem.F.slot_int_rmul rfl PySem.F.entry_int_rmul (PySem.F.args_int_rmul_2 _ _) (int_rmul_tuple 1 t l _ n dd sl) ⟨ho, rfl, ⟨_, ho, rfl⟩, ?_⟩
  exact call_meets (T := "tuple") PySem.F.slot_tuple_mul ⟨_, ho, rfl⟩ PySem.F.entry_tuple_mul (PySem.F.args_tuple_mul_2 _ _) (tuple_mul1 l _ n dd sl t) ⟨ho, ⟨.ref l, H, I, rfl, q⟩⟩
theorem v_rep1T {K : PySem.W.Frag} {ds : List PyData} : V2 (rRep1 K) (.tuple ds) (.int 1) (.tuple ds) := fun F H v1 v2 e r1 r2 Q k => by
  obtain ⟨a, xs, rfl, ha, rx⟩ := r1.tup_inv
  exact ⟨a, xs, rfl, r2.int_inv, SqT.of (e _ _ ha), k _ F H (GrowX.refl e) (.tup ha rx)⟩
/-! ## True + 1, True - 1 -/
def rBI (g : Int → Int → Int) : R2 := fun x y H Q => ∃ (b : Bool) (i : Int), x = .bl b ∧ y = .int i ∧ Q (.int (g (if b then 1 else 0) i)) H
theorem op_addB {X : Cx} : OpR X (binaryOp .Add) (rBI (· + ·)) := by
  intro pins s σ H x y v u Q I rx ry ⟨b, i, hx, hy, q⟩
  subst hx; subst hy
  obtain rfl : v = Value.bool b := rx
  obtain ⟨t, rfl⟩ := ry
  exact IntBool.add_bool_int ⟨.int _, H, I.tok _, ⟨_, rfl⟩, q⟩
theorem op_subB {X : Cx} : OpR X (binaryOp .Sub) (rBI (· - ·)) := by
  intro pins s σ H x y v u Q I rx ry ⟨b, i, hx, hy, q⟩
  subst hx; subst hy
  obtain rfl : v = Value.bool b := rx
  obtain ⟨t, rfl⟩ := ry
  exact IntBool.sub_bool_int ⟨.int _, H, I.tok _, ⟨_, rfl⟩, q⟩
theorem v_BI {g : Int → Int → Int} {b : Bool} {i : Int} : V2 (rBI g) (.bool b) (.int i) (.int (g (if b then 1 else 0) i)) := fun F H v1 v2 e r1 r2 Q k => ⟨b, i, r1.bl_inv, r2.int_inv, k _ F H (GrowX.refl e) (.int _)⟩
/-! ## tuple + tuple, list -/
theorem v_catT {K : PySem.W.Frag} {ds es : List PyData} (h : ds.length + es.length ≤ 1000000) : V2 (rCatA K) (.tuple ds) (.tuple es) (.tuple (ds ++ es)) := fun F H v1 v2 e r1 r2 Q k => by
  obtain ⟨a, xs, rfl, ha, rx⟩ := r1.tup_inv
  obtain ⟨b, ys, rfl, hb, ry⟩ := r2.tup_inv
  refine ⟨a, b, xs, ys, rfl, rfl, SqT.of (e _ _ ha), SqT.of (e _ _ hb), by rw [rx.len, ry.len]; exact Nat.le_trans h (by decide), fun hx => ?_, fun _ hy => ?_, fun _ _ p hp => k _ _ _ (Grow.new e hp) (.tup upd_same ((rx.append ry).mono (Same.upd_new (same_none e hp))))⟩
  · subst hx
    cases rx
    exact k _ F H (GrowX.refl e) (.tup hb ry)
  · subst hy
    cases ry
    rw [List.append_nil] at k
    exact k _ F H (GrowX.refl e) (.tup ha rx)
/-! ## tuple(t), list(l) -/
theorem v_tupT {K : PySem.W.Frag} {ds : List PyData} : VN (fun xs H Q => ∃ p ys, xs = [.ref p] ∧ ((SqL K H p ys ∧ ∀ l, H l = none → Q (.ref l) (upd H l (.tup ys))) ∨ (SqT K H p ys ∧ Q (.ref p) H))) [.tuple ds] (.tuple ds) := VN1 fun F H v e r Q k => by
  obtain ⟨a, xs, rfl, ha, rx⟩ := r.tup_inv
  exact ⟨a, xs, rfl, .inr ⟨SqT.of (e _ _ ha), k _ F H (GrowX.refl e) (.tup ha rx)⟩⟩
theorem v_listL {K : PySem.W.Frag} {ds : List PyData} : VN (fun xs H Q => ∃ p ys, xs = [.ref p] ∧ (SqL K H p ys ∨ SqT K H p ys) ∧ ∀ l, H l = none → Q (.ref l) (upd H l (.lst ys))) [.list ds] (.list ds) := VN1 fun F H v e r Q k => by
  obtain ⟨a, xs, rfl, ha, rx⟩ := r.lst_inv
  exact ⟨a, xs, rfl, .inl (SqL.of (e _ _ ha)), fun l hl => k _ _ _ (Grow.new e hl) (.lst upd_same (rx.mono (Same.upd_new (same_none e hl))))⟩
/-! ## x[::-1] -/
section
variable {X : Cx} {ρ : Env'} {e : Expr} {ds : List PyData} {k : Nat} {p1 p2 p3 pos px : Pos} {x : Str}
theorem de_revT (he : DE X ρ (.Name x px) (.tuple ds)) : DE X ρ (.Subscript (.Name x px) (.Slice none none (some (.UnaryOp .USub (.Constant (.int 1) k p1) p2)) p3) pos) (.tuple ds.reverse) :=
  PE.imp (pe_revT he) fun σ H Q ⟨F, ok, kk⟩ => ⟨F, ok, fun v F2 H2 g r => by
    obtain ⟨a, xs, rfl, ha, rx⟩ := r.tup_inv
    exact ⟨a, xs, rfl, SqT.of (g.s _ _ ha), fun p hp => kk _ _ _ (g.trans (Grow.new g.s hp)) (.tup upd_same (rx.reverse.mono (Same.upd_new (same_none g.s hp))))⟩⟩
theorem de_revL (he : DE X ρ e (.list ds)) : DE X ρ (.Subscript e (.Slice none none (some (.UnaryOp .USub (.Constant (.int 1) k p1) p2)) p3) pos) (.list ds.reverse) :=
  PE.imp (pe_revL he) fun σ H Q ⟨F, ok, kk⟩ => ⟨F, ok, fun v F2 H2 g r => by
    obtain ⟨a, xs, rfl, ha, rx⟩ := r.lst_inv
    exact ⟨a, xs, rfl, SqL.of (g.s _ _ ha), fun p hp => kk _ _ _ (g.trans (Grow.new g.s hp)) (.lst upd_same (rx.reverse.mono (Same.upd_new (same_none g.s hp))))⟩⟩
end
/-! ## isinstance(x, (tuple, list)) -/
theorem kitAny_two {K : PySem.W.Frag} {t a b : Value} {x y : Bool} (h1 : PySem.W.kitOne K t a = some x) (h2 : PySem.W.kitOne K t b = some y) : PySem.W.kitAny K t [a, b] = some (x || y) := by
  rw [PySem.W.kitAny, PySem.W.kitAny, PySem.W.kitAny, h1]
  cases x <;> cases y <;> simp [h2]
theorem de_isi2 {X : Cx} {ρ : Env'} {e : Expr} {d : PyData} {p q q2 tp pos : Pos} {kk : Nat} {b1 b2 : Bool} (he : DE X ρ e d) (hm : X.mg "isinstance" = none) (hmT : X.mg "tuple" = none) (hmL : X.mg "list" = none) (h1 : kitB (tyD d) "tuple" = some b1) (h2 : kitB (tyD d) "list" = some b2)
    (hg : Gl X "isinstance" := by rfl) (hgT : Gl X "tuple" := by rfl) (hgL : Gl X "list" := by rfl)
    (hs : starEach [e, .Tuple [.Name "tuple" q, .Name "list" q2] kk tp] X.env = (false, eval e X.env) :: starEach [.Tuple [.Name "tuple" q, .Name "list" q2] kk tp] X.env := by rfl) (hpl : (backTo pos (starEach [.Tuple [.Name "tuple" q, .Name "list" q2] kk tp] X.env)).any (·.1) = false := by rfl)
    (hs2 : starEach [.Tuple [.Name "tuple" q, .Name "list" q2] kk tp] X.env = (false, eval (.Tuple [.Name "tuple" q, .Name "list" q2] kk tp) X.env) :: starEach [] X.env := by rfl) :
    DE X ρ (.Call (.Name "isinstance" p) [e, .Tuple [.Name "tuple" q, .Name "list" q2] kk tp] [] pos) (.bool (b1 || b2)) :=
  PE.imp (pe_callB call_isiT hg hm (by decide +kernel) (pa_cons he (pa_cons (pe_tup (pa_cons (pe_bltn (v := .ty "tuple") hgT hmT (by decide +kernel) rfl (by decide) (by decide)) (pa_cons (pe_bltn (v := .ty "list") hgL hmL (by decide +kernel) rfl (by decide) (by decide)) pa_nil))) pa_nil hs2) hs) (by decide) (by decide) hs hpl) fun σ H Q ⟨F, ok, k⟩ => ⟨F, ok, fun v F2 H2 g r =>
    ⟨by decide, fun pp hp => ⟨v, pp, [.ty "tuple", .ty "list"], .type (tyD d), [.type "tuple", .type "list"], (b1 || b2), rfl, upd_same, .cons (.ty _) (.cons (.ty _) .nil), (r.mono (Same.upd_new (same_none g.s hp))).ty (Same.upd2 g.s), kitAny_two (kit_ty h1) (kit_ty h2), k _ _ _ (g.trans (Grow.skip g.s hp)) (.bl _)⟩⟩⟩
/-! ## str of any thing -/
def strD : PyData → Str
  | .str x => x
  | d => d.shown
def rStrA (K : PySem.W.Frag) : List V → Hp → VK → Prop := fun xs H Q => ∃ v d, xs = [v] ∧ Dp K H v d ∧ d.showable = true ∧ d.hasDict = false ∧ d.depth ≤ 60 ∧ d.shown.length ≤ sizeLine ∧ Q (.str (strD d)) H
theorem call_strA {X : Cx} (hg : X.A.guards = some []) (hu : X.A.units + 64 < cLine) : CallR X (.type "str") (rStrA X.K) := by
  intro pins s σ H xs us Q I r h
  obtain ⟨v, d, rfl, hd, h2, h3, h4, h5, q⟩ := h
  cases d with
  | list ds => exact call_strD hg hu pins s σ H _ us Q I r ⟨v, _, rfl, hd, rfl, h2, h3, h4, h5, q⟩
  | tuple ds => exact call_strD hg hu pins s σ H _ us Q I r ⟨v, _, rfl, hd, rfl, h2, h3, h4, h5, q⟩
  | dict ds => rw [PyData.hasDict] at h3; cases h3
  | none =>
    obtain ⟨u, rfl, rv⟩ := vals1 r
    cases hd
    obtain rfl : u = Value.none := rv
    exact P.str_of_none ⟨.str _, H, I.tok _, ⟨_, rfl⟩, q⟩
  | bool b =>
    obtain ⟨u, rfl, rv⟩ := vals1 r
    cases hd
    obtain rfl : u = Value.bool b := rv
    refine P.str_of_bool ⟨.str _, H, I.tok _, ⟨_, rfl⟩, ?_⟩
    have : strD (.bool b) = if b = true then Str.ofString "True" else Str.ofString "False" := PyData.shown.eq_2 b
    rw [← this]; exact q
  | int i =>
    obtain ⟨u, rfl, rv⟩ := vals1 r
    cases hd
    obtain ⟨t, rfl⟩ := rv
    have hs : i.natAbs.log2 < 1920 := by simpa [PyData.showable] using h2
    refine P.str_of_int hs ⟨.str _, H, I.tok _, ⟨_, rfl⟩, ?_⟩
    have : strD (.int i) = Str.ofString (toString i) := PyData.shown.eq_3 i
    rw [← this]; exact q
  | str x =>
    obtain ⟨u, rfl, rv⟩ := vals1 r
    cases hd
    obtain ⟨t, rfl⟩ := rv
    exact P.str_of_str ⟨.str _, H, I, ⟨_, rfl⟩, q⟩
theorem v_strA {K : PySem.W.Frag} {d : PyData} (h2 : d.showable = true) (h3 : d.hasDict = false) (h4 : d.depth ≤ 60) (h5 : d.shown.length ≤ sizeLine) : VN (rStrA K) [d] (.str (strD d)) := VN1 fun F H v e r Q k =>
  ⟨v, d, rfl, r.dp e, h2, h3, h4, h5, k _ F H (GrowX.refl e) (.str _)⟩
/-! ## own lists -/
section
variable {X : Cx} {ex : List Addr} {F0 H0 : Hp} {ρ ρ1 : Env'} {sts : List Stmt} {A : Aims} {e ix c a b : Expr} {es : List Expr} {P : PyData → Prop} {pos px tp : Pos} {p : Addr} {ds : List PyData} {d : PyData} {x : Str} {jj : Int}
theorem de_ixOwn (i : Nat) (hj : DE X ρ ix (.int jj)) (h : atI ds jj = some d) (hi : ρ[i]? = some (.own p (.lst ds)) := by rfl) (hs : PlainIx ix := by exact fun _ _ => rfl)
    (hxN : X.N[i]? = some x := by rfl) (hv : Vis X.env.scope x := by first | exact Or.inl rfl | exact Or.inr (Or.inl rfl) | exact Or.inr (Or.inr rfl)) (hd : (x == ("__debug__" : Str)) = false := by decide) (hcd : (x == ("__classdict__" : Str)) = false := by decide) :
    DE X ρ (.Subscript (.Name x px) ix pos) d :=
  PE.imp (pe_ix ix_list (pe_var hxN hv hd hcd) hj hs) fun σ H Q ⟨F, ok, k⟩ => by
    obtain ⟨_, e1, _⟩ := ok.lstIs hi
    refine ⟨_, e1, F, ok, fun v F2 H2 g r => ?_⟩
    obtain ⟨xs, _, _, hH, rx⟩ := (ok.grow g).lstIs hi
    obtain ⟨j, h1, h2⟩ := atI_of rx.len h
    obtain ⟨w, h3, h4⟩ := rx.get h1
    exact ⟨p, xs, jj, w, rfl, r.int_inv, SqL.of hH, h2 w h3, k w F2 H2 g h4⟩
theorem dss_setiW (i : Nat) {j : Nat} (he : WE X ex ρ e P ρ1) (l : OwnLike ρ1 ρ) (hj : DE X ρ1 ix (.int jj)) (hjj : ixN ds.length jj = some j) (k : ∀ d, P d → DSs X ex F0 H0 (ρ1.set i (.own p (.lst (ds.set j d)))) sts A)
    (hi : ρ1[i]? = some (.own p (.lst ds)) := by rfl)
    (hxN : X.N[i]? = some x := by rfl) (hv : Vis X.env.scope x := by first | exact Or.inl rfl | exact Or.inr (Or.inl rfl) | exact Or.inr (Or.inr rfl)) (hd : (x == ("__debug__" : Str)) = false := by decide) (hcd : (x == ("__classdict__" : Str)) = false := by decide)
    (hs : swapsWithSole [.Subscript (.Name x px) ix tp] e pos.line X.env = pure false := by rfl) (hw : swappedStores [.Subscript (.Name x px) ix tp] e X.env = pure none := by rfl) (hh1 : (assignEach [.Subscript (.Name x px) ix tp] X.env).map (·.2) = [assign (.Subscript (.Name x px) ix tp) X.env] := by rfl)
    (ha : ∀ v, assign (.Subscript (.Name x px) ix tp) X.env v = (do
      let ov ← holding [v] (eval (.Name x px) X.env)
      let iv ← holding [v, ov] (eval ix X.env)
      standAt tp
      holding [v, ov, iv] (setItem ov iv v)
      release [v, ov, iv] []) := by intro _; rfl) : DSs X ex F0 H0 ρ (.Assign [.Subscript (.Name x px) ix tp] e pos :: sts) A :=
  dss_seq (N1 := fun ρ' => ∃ d, P d ∧ ρ' = ρ1.set i (.own p (.lst (ds.set j d)))) (PS.imp (ps_asg he (pg_sub (pe_var hxN hv hd hcd) hj set_list ha) hs hw hh1) fun D σ H ⟨F, a, n, r, b, c⟩ => ⟨F, a.ok, fun d v F2 H2 hP g o rv => by
    have a2 := a.like g o l
    obtain ⟨xs, h1, h2, h3, h4⟩ := a2.ok.lstIs hi
    refine ⟨_, h1, F2, a2.ok, fun v' F3 H3 g3 r3 => ?_⟩
    have a3 := a2.grow g3
    obtain ⟨xs', q1, q2, q3, q4⟩ := a3.ok.lstIs hi
    exact ⟨p, xs', jj, j, rfl, r3.int_inv, q3, by rw [q4.len]; exact hjj, n _ _ F3 _ ⟨d, hP, rfl⟩ (g.f.trans g3.f) (a3.write hi ⟨_, rfl, q4.set j (rv.mono g3.f)⟩)⟩⟩) fun _ ⟨d, hP, h⟩ => h ▸ k d hP
/-! ## a test from which the deck is drawn -/
def tWT (ex : List Addr) (ρ ρ' : Env') : TT := fun σ H Q => ∃ F, Ok F H ρ σ ∧ ∀ b F2 H2, GrowX ex F H F2 H2 → Ok F2 H2 ρ' σ → Q b H2
theorem wt_gt {lim : Int} {kk : Nat} {p2 : Pos} (ha : WE X ex ρ a (IntIn 0 lim) ρ1) : PT X (.Compare a [.Gt] [.Constant (.int 0) kk p2] pos) (tWT ex ρ ρ1) :=
  PT.imp (pt_cmpR op_gt ha (pe_int) (nomark _)) fun σ H Q ⟨F, ok, k⟩ => ⟨F, ok, fun d v F2 H2 hP g o r => by
    obtain ⟨i, rfl, _⟩ := hP
    exact ⟨i, 0, r.int_inv, rfl, _, rfl, k _ F2 H2 g o⟩⟩
theorem wt_and (ha : DT X ρ a true) (hb : PW X (.BoolOp .And (b :: es) pos) (tWT ex ρ ρ1)) : PW X (.BoolOp .And (a :: b :: es) pos) (tWT ex ρ ρ1) :=
  PW.imp (pw_and ha hb) fun σ H Q ⟨F, ok, k⟩ => ⟨F, ok, fun F2 H2 g => iteT ⟨F2, ok.grow g, fun b F3 H3 g3 o3 => k b F3 H3 (GrowX.trans g.up g3) o3⟩⟩
theorem dss_ifxW {s1 : List Stmt} (hc : PT X c (tWT ex ρ ρ1)) (l : OwnLike ρ1 ρ) (h1 : DSs X ex F0 H0 ρ1 s1 { A with N := fun _ => False }) (k : DSs X ex F0 H0 ρ1 sts A) : DSs X ex F0 H0 ρ (.If c s1 [] pos :: sts) A := by
  refine dss_seq (N1 := fun ρ' => ρ' = ρ1) ?_ fun _ h => h ▸ k
  refine PS.imp (ps_if hc (PSs.imp h1 fun D σ H h => h) pss_nil) fun D σ H ⟨F, a, n, r, b, cc⟩ => ⟨F, a.ok, fun x F2 H2 g o => ?_⟩
  cases x with
  | true => exact iteT ⟨F2, a.like g o l, fun _ _ _ _ q => q.elim, r, fun ρ2 σ2 F3 H3 h2 s2 => b ρ2 σ2 F3 H3 h2 (g.f.trans s2), fun ρ2 σ2 F3 H3 h2 s2 => cc ρ2 σ2 F3 H3 h2 (g.f.trans s2)⟩
  | false => exact iteF (n _ _ F2 H2 rfl g.f (a.like g o l))
/-- list(x), a new list that may change -/
theorem dn_list {p1 p2 : Pos} {d : PyData} (hd : d = .list ds ∨ d = .tuple ds) (he : DE X ρ e d) (hm : X.mg "list" = none) (hg : Gl X "list" := by rfl) (hs : starEach [e] X.env = (false, eval e X.env) :: starEach [] X.env := by rfl) (hpl : (backTo p2 (starEach [] X.env)).any (·.1) = false := by rfl) :
    DN X ρ (.Call (.Name "list" p1) [e] [] p2) (.lst ds) :=
  PE.imp (pe_callTy call_list_of hg hm (by decide +kernel) (pa_cons he pa_nil hs) (by decide) (by decide) hs hpl) fun σ H Q ⟨F, ok, kk⟩ => ⟨F, ok, fun v F2 H2 g r => by
    have fin : ∀ (xs : List V), RpA F2 xs ds → ∀ p, H2 p = none → Q (.ref p) (upd H2 p (.lst xs)) := fun xs rx p hp => by
      have hp0 : H p = none := by
        cases z : H p with
        | none => rfl
        | some u => exact absurd hp (g.k p (by rw [z]; simp))
      exact kk p (.lst xs) F2 (upd H2 p (.lst xs)) (g.trans (Grow.skip g.s hp)) hp0 (same_none g.s hp) upd_same ⟨xs, rfl, rx⟩
    rcases hd with rfl | rfl
    · obtain ⟨a, xs, rfl, ha, rx⟩ := r.lst_inv
      exact ⟨a, xs, rfl, .inl (SqL.of (g.s _ _ ha)), fin xs rx⟩
    · obtain ⟨a, xs, rfl, ha, rx⟩ := r.tup_inv
      exact ⟨a, xs, rfl, .inr (SqT.of (g.s _ _ ha)), fin xs rx⟩⟩
/-- a whole number of the module -/
theorem de_gint {i : Int} (hm : ∃ t, X.mg x = some (.int i t)) (hg : Gl X x := by rfl) (hdb : (x == ("__debug__" : Str)) = false := by decide) : DE X ρ (.Name x pos) (.int i) := by
  obtain ⟨t, hm⟩ := hm
  exact PE.imp (pe_glob (v := .int i) (hd := hdb) hg hm ⟨_, rfl⟩) fun σ H Q ⟨F, ok, k⟩ => k _ F H (GrowX.refl ok.s) (.int i)
/-- s in T, T a tuple of texts of the module -/
theorem de_inG {s : Str} {py : Pos} {C : Addr} {ts : List Str} (he : DE X ρ e (.str s)) (hm : X.mg x = some (.ref C)) (hs : ∀ H, SqT X.K H C (ts.map V.str)) (hg : Gl X x := by rfl) (hdb : (x == ("__debug__" : Str)) = false := by decide) : DE X ρ (.Compare e [.In] [.Name x py] pos) (.bool (inV (.str s) (ts.map V.str))) :=
  PE.imp (pe_cmpR op_in_seq he (pe_glob (v := .ref C) (hd := hdb) hg hm rfl) (by rfl)) fun σ H Q ⟨F, ok, k⟩ => ⟨F, ok, fun v F2 H2 g r => by
    have := r.str_inv
    subst this
    exact ⟨C, _, rfl, .inr (hs H2), rfl, by simp [flatV], k _ F2 H2 g (.bl _)⟩⟩
end
theorem dt_chainI {X : Cx} {ρ : Env'} {a b c : Expr} {i j k : Int} {pos : Pos} {op op' : CmpOp} {f g : Int → Int → Bool} (ho : OpR X (compareOp op) (rI0 fun i j => .bl (f i j))) (ho' : OpR X (compareOp op') (rI0 fun i j => .bl (g i j))) (ha : DE X ρ a (.int i)) (hb : DE X ρ b (.int j)) (hc : DE X ρ c (.int k)) (hm : lastMarks [op, op'] [b, c] = false := by with_unfolding_all rfl) :
    DT X ρ (.Compare a [op, op'] [b, c] pos) (f i j && g j k) :=
  PT.imp (pt_chain ho ho' ha hb hc hm) fun σ H Q ⟨F, ok, kk⟩ => ⟨F, ok, fun v1 F1 H1 g1 r1 => ⟨F1, ok.grow g1, fun v2 F2 H2 g2 r2 => by
    refine ⟨i, j, (r1.int_inv), r2.int_inv, f i j, rfl, ?_⟩
    cases hf : f i j with
    | true =>
      rw [if_pos rfl]
      refine ⟨F2, (ok.grow g1).grow g2, fun v3 F3 H3 g3 r3 => ⟨j, k, r2.int_inv, r3.int_inv, g j k, rfl, ?_⟩⟩
      have := kk F3 H3 (g1.trans (g2.trans g3))
      rw [hf, Bool.true_and] at this
      exact this
    | false =>
      rw [if_neg Bool.false_ne_true]
      have := kk F2 H2 (g1.trans g2)
      rw [hf, Bool.false_and] at this
      exact ⟨false, rfl, this⟩⟩⟩
def rStrF (K : PySem.W.Frag) : List V → Hp → VK → Prop := fun xs H Q => ∃ v d, xs = [v] ∧ Dp K H v d ∧ d.showable = true ∧ flatD d = true ∧ Q (.str (strD d)) H
theorem call_strF {X : Cx} : CallR X (.type "str") (rStrF X.K) := by
  intro pins s σ H xs us Q I r h
  obtain ⟨v, d, rfl, hd, h2, h3, q⟩ := h
  cases d with
  | list ds => cases h3
  | tuple ds => cases h3
  | dict ds => cases h3
  | none =>
    obtain ⟨u, rfl, rv⟩ := vals1 r
    cases hd
    obtain rfl : u = Value.none := rv
    exact P.str_of_none ⟨.str _, H, I.tok _, ⟨_, rfl⟩, q⟩
  | bool b =>
    obtain ⟨u, rfl, rv⟩ := vals1 r
    cases hd
    obtain rfl : u = Value.bool b := rv
    refine P.str_of_bool ⟨.str _, H, I.tok _, ⟨_, rfl⟩, ?_⟩
    have : strD (.bool b) = if b = true then Str.ofString "True" else Str.ofString "False" := PyData.shown.eq_2 b
    rw [← this]; exact q
  | int i =>
    obtain ⟨u, rfl, rv⟩ := vals1 r
    cases hd
    obtain ⟨t, rfl⟩ := rv
    have hs : i.natAbs.log2 < 1920 := by simpa [PyData.showable] using h2
    refine P.str_of_int hs ⟨.str _, H, I.tok _, ⟨_, rfl⟩, ?_⟩
    have : strD (.int i) = Str.ofString (toString i) := PyData.shown.eq_3 i
    rw [← this]; exact q
  | str x =>
    obtain ⟨u, rfl, rv⟩ := vals1 r
    cases hd
    obtain ⟨t, rfl⟩ := rv
    exact P.str_of_str ⟨.str _, H, I, ⟨_, rfl⟩, q⟩
theorem v_strF {K : PySem.W.Frag} {d : PyData} (h2 : d.showable = true) (h3 : flatD d = true) : VN (rStrF K) [d] (.str (strD d)) := VN1 fun F H v e r Q k =>
  ⟨v, d, rfl, r.dp e, h2, h3, k _ F H (GrowX.refl e) (.str _)⟩
end Tw

/-! Tw: comprehensions of two fors -/
namespace Tw
open PySem PySem.Spec PyProof.Rows L2
/-- nothing in the slots may change -/
def NoOwn (ρ : Env') : Prop := ∀ (j : Nat) (p : Addr) (w : Ow), ρ[j]? ≠ some (.own p w)
theorem Ok.stay {F H F' H' : Hp} {ρ : Env'} {σ : L2.St} (h : Ok F H ρ σ) (hn : NoOwn ρ) (e : Same F F') (s : Same F' H') : Ok F' H' ρ σ := by
  refine ⟨s, h.len, fun j en hj => ?_, fun i j p q w w' hi => (hn i p w hi).elim⟩
  obtain ⟨o, h1, h2⟩ := h.at_ j en hj
  refine ⟨o, h1, ?_⟩
  cases en with
  | no => trivial
  | dat d => obtain ⟨v, x, r⟩ := h2; exact ⟨v, x, r.mono e⟩
  | val v => exact h2
  | fx p u => exact ⟨h2.1, e _ _ h2.2⟩
  | st p w => exact ⟨h2.1, let ⟨u, hu, hw⟩ := h2.2; ⟨u, e _ _ hu, w.mono e hw⟩⟩
  | own p w => exact (hn j p w hj).elim
/-- the new list at D holds ds -/
def Acc (D : Addr) (F2 H2 : Hp) (ds : List PyData) (F H : Hp) : Prop := Grow F2 H2 F (fun a => if a = D then none else H a) ∧ Same F H ∧ F D = none ∧ ∃ vs, H D = some (.lst vs) ∧ RpA F vs ds
section
variable {D : Addr} {F2 H2 F H F' H' : Hp} {ds : List PyData} {v : V} {d : PyData}
theorem Acc.new (e : Same F2 H2) (hD : H2 D = none) : Acc D F2 H2 [] F2 (upd H2 D (.lst [])) := by
  refine ⟨?_, e.trans (Same.upd_new hD), same_none e hD, [], upd_same, .nil⟩
  have h : (fun a => if a = D then none else upd H2 D (.lst []) a) = H2 := by
    funext a
    by_cases ha : a = D
    · subst ha; rw [if_pos rfl, hD]
    · rw [if_neg ha, upd_ne ha]
  rw [h]; exact GrowX.refl e
theorem Acc.grow (a : Acc D F2 H2 ds F H) (hD : H2 D = none) (g : Grow F H F' H') : Acc D F2 H2 ds F' H' := by
  obtain ⟨g3, s3, hD3, vs, hvs, rvs⟩ := a
  exact ⟨grow_minus g3 g hD3 hvs hD rfl, g.s, g.n D hD3 (NN.lst hvs), vs, g.same D _ hvs rfl, rvs.mono g.f⟩
theorem Acc.add {vs : List V} (a : Acc D F2 H2 ds F H) (hvs : H D = some (.lst vs)) (r : Rp F v d) : Acc D F2 H2 (ds ++ [d]) F (upd H D (.lst (vs ++ [v]))) := by
  obtain ⟨g3, s3, hD3, vs', hvs', rvs⟩ := a
  rw [hvs] at hvs'; cases hvs'
  refine ⟨?_, fun c u hc => ?_, hD3, vs ++ [v], upd_same, rvs.append (.cons r .nil)⟩
  · have e : (fun a => if a = D then none else upd H D (.lst (vs ++ [v])) a) = fun a => if a = D then none else H a := by
      funext a
      by_cases ha : a = D
      · rw [if_pos ha, if_pos ha]
      · rw [if_neg ha, if_neg ha, upd_ne ha]
    rw [e]; exact g3
  · have hcD : c ≠ D := fun z => by subst z; rw [hD3] at hc; cases hc
    rw [upd_ne hcD]
    exact s3 c u hc
theorem Acc.tell (a : Acc D F2 H2 ds F H) (hD : H2 D = none) (g2 : Same F2 H2) : ∃ F', Grow F2 H2 F' H ∧ Rp F' (.ref D) (.list ds) := by
  obtain ⟨g3, s3, hD3, vs, hvs, rvs⟩ := a
  have hF : Same F (upd F D (.lst vs)) := Same.upd_new hD3
  refine ⟨upd F D (.lst vs), ⟨g3.f.trans hF, fun c u hc => ?_, fun c u _ hc hi => ?_, fun c hc => ?_, fun c h1 h2 => ?_, fun c h2 => ?_, fun c h2 => ((g3.t c h2).unhide hvs rfl).updF hD3 (tbl_nt hvs rfl)⟩, .lst upd_same (rvs.mono hF)⟩
  · by_cases h : c = D
    · subst h; rw [upd_same] at hc; rw [hvs]; exact hc
    · rw [upd_ne h] at hc; exact s3 c u hc
  · have := g3.same c u hc hi
    by_cases h : c = D
    · subst h; rw [hD] at hc; cases hc
    · simpa [h] using this
  · by_cases h : c = D
    · subst h; rw [hvs]; simp
    · have := g3.k c hc
      simpa [h] using this
  · by_cases h : c = D
    · subst h; exact (h2.ne hD).elim
    · rw [upd_ne h]; exact g3.n c h1 h2
  · by_cases h : c = D
    · subst h; exact NN.lst hvs
    · obtain ⟨o, q1, q2⟩ := g3.m c h2
      exact ⟨o, by simpa [h] using q1, q2⟩
end
section
variable {X : Cx} {ρ : Env'} {α β : Type} {xs : List α} {ys : α → List β} {enc : α → PyData} {enc1 : β → PyData} {elt tg iter tg1 iter1 : Expr} {scope : Scope} {pos : Pos} {own : List (Str × Nat)}
def allF (xs : List α) (ys : α → List β) (f : α → β → PyData) : List PyData := xs.flatMap fun x => (ys x).map (f x)
theorem lc2_read (g : α → Env') (g2 : α → β → Env') (f : α → β → PyData) (is is1 vsl vs1 : List Nat) (his : ∀ i ∈ is, i ∈ vsl) (his1 : ∀ i ∈ is1, i ∈ vs1) (h0 : NoOwn ρ) (h1 : ∀ x ∈ xs, NoOwn (g x)) (hl : (allF xs ys f).length ≤ sizeLine) :
    ∀ σ H Q, tD ρ (.list (allF xs ys f)) σ H Q → tLc2 (tDI ρ (xs.map enc)) (fun v σ H Q => ∃ x, x ∈ xs ∧ tDG (wipeE ρ vsl) (enc x) (g x) is v σ H Q) tYes (fun σ H R => ∃ x, x ∈ xs ∧ tDI (g x) ((ys x).map enc1) σ H R) (fun v σ H Q => ∃ z : α × β, (z.1 ∈ xs ∧ z.2 ∈ ys z.1) ∧ tDG (wipeE (g z.1) vs1) (enc1 z.2) (g2 z.1 z.2) is1 v σ H Q) tYes (fun σ H Q => ∃ z : α × β, (z.1 ∈ xs ∧ z.2 ∈ ys z.1) ∧ tD (g2 z.1 z.2) (f z.1 z.2) σ H Q) vsl vs1 σ H Q := by
  refine fun σ H Q ⟨F, ok1, k⟩ => ⟨F, ok1, fun J F2 H2 g2' hJ => ?_⟩
  intro D hD
  have okρ : ∀ {F3 H3 : Hp}, Same F2 F3 → Same F3 H3 → Ok F3 H3 ρ σ := fun {F3 H3} e s => (ok1.grow g2').stay h0 e s
  refine ⟨fun i m H3 => m = xs.length - i ∧ i ≤ xs.length ∧ ∃ F3, Acc D F2 H2 (allF (xs.take i) ys f) F3 H3, ⟨xs.length, by simp, Nat.zero_le _, F2, by simpa [allF] using Acc.new g2'.s hD⟩, ?_⟩
  rintro i m H3 ⟨rfl, hle, F3, a3⟩
  by_cases hlt : i < xs.length
  · right
    have hd : (xs.map enc)[i]? = some (enc xs[i]) := by rw [List.getElem?_map, List.getElem?_eq_getElem hlt]; rfl
    have hx : xs[i] ∈ xs := List.getElem_mem hlt
    obtain ⟨go, yl⟩ := (hJ i F3 H3 a3.1.f a3.2.1).1 _ hd
    have tk : xs.take (i + 1) = xs.take i ++ [xs[i]] := by rw [List.take_append_getElem hlt]
    have hall : allF (xs.take (i + 1)) ys f = allF (xs.take i) ys f ++ (ys xs[i]).map (f xs[i]) := by
      rw [tk]; unfold allF; rw [List.flatMap_append]; simp
    refine ⟨go, fun H' => ∃ F4, Acc D F2 H2 (allF (xs.take (i + 1)) ys f) F4 H', fun H' ⟨F4, a4⟩ => ⟨_, by omega, rfl, hlt, F4, a4⟩, fun x H4 hy => ?_⟩
    obtain ⟨F4, g4, rx⟩ := yl x H4 hy
    have a4 := a3.grow hD g4
    have ok4 : Ok F4 H4 ρ σ := okρ a4.1.f a4.2.1
    refine ⟨xs[i], hx, F4, ok4.wipe _, rx, fun σ2 okx hw => ⟨?_, ?_⟩⟩
    · rw [hw _ his]
      exact wipe_twice σ _
    dsimp only [tYes]
    rw [if_pos rfl]
    refine ⟨xs[i], hx, F4, okx, fun J1 F5 H5 g5 hJ1 => ?_⟩
    have a5 := a4.grow hD g5
    refine ⟨fun j k H6 => k = (ys xs[i]).length - j ∧ j ≤ (ys xs[i]).length ∧ ∃ F6, Same F5 F6 ∧ Acc D F2 H2 (allF (xs.take i) ys f ++ ((ys xs[i]).take j).map (f xs[i])) F6 H6, ⟨_, rfl, Nat.zero_le _, F5, Same.refl _, by simpa using a5⟩, ?_⟩
    rintro j k H6 ⟨rfl, hje, F6, s56, a6⟩
    by_cases hjl : j < (ys xs[i]).length
    · right
      have hd1 : ((ys xs[i]).map enc1)[j]? = some (enc1 (ys xs[i])[j]) := by rw [List.getElem?_map, List.getElem?_eq_getElem hjl]; rfl
      have hy1 : (ys xs[i])[j] ∈ ys xs[i] := List.getElem_mem hjl
      obtain ⟨go1, yl1⟩ := (hJ1 j F6 H6 s56 a6.2.1).1 _ hd1
      refine ⟨go1, fun H' => ∃ F7, Same F5 F7 ∧ Acc D F2 H2 (allF (xs.take i) ys f ++ ((ys xs[i]).take (j + 1)).map (f xs[i])) F7 H', fun H' ⟨F7, s7, a7⟩ => ⟨_, by omega, rfl, hjl, F7, s7, a7⟩, fun x1 H7 hy7 => ?_⟩
      obtain ⟨F7, g7, rx7⟩ := yl1 x1 H7 hy7
      have a7 := a6.grow hD g7
      have ok7 : Ok F7 H7 (g xs[i]) σ2 := okx.stay (h1 _ hx) (g5.f.trans (s56.trans g7.f)) a7.2.1
      refine ⟨(xs[i], (ys xs[i])[j]), ⟨hx, hy1⟩, F7, ok7.wipe _, rx7, fun σ3 oky hw3 => ⟨?_, ?_⟩⟩
      · rw [hw3 _ his1]
        exact wipe_twice σ2 _
      dsimp only [tYes]
      rw [if_pos rfl]
      refine ⟨(xs[i], (ys xs[i])[j]), ⟨hx, hy1⟩, F7, oky, fun v F8 H8 g8 r8 => ?_⟩
      have a8 := a7.grow hD g8
      obtain ⟨_, _, _, vs, hvs, rvs⟩ := id a8
      have tk1 : (ys xs[i]).take (j + 1) = (ys xs[i]).take j ++ [(ys xs[i])[j]] := by rw [List.take_append_getElem hjl]
      refine ⟨vs, hvs, ?_, F8, s56.trans (g7.f.trans g8.f), ?_⟩
      · rw [rvs.len]
        have e1 : xs = xs.take i ++ (xs[i] :: xs.drop (i + 1)) := by
          rw [← List.drop_eq_getElem_cons hlt, List.take_append_drop]
        have e2 : (allF xs ys f).length = (allF (xs.take i) ys f).length + ((ys xs[i]).length + (allF (xs.drop (i + 1)) ys f).length) := by
          have e3 : allF xs ys f = allF (xs.take i) ys f ++ ((ys xs[i]).map (f xs[i]) ++ allF (xs.drop (i + 1)) ys f) := by
            have e4 : allF (xs.take i ++ (xs[i] :: xs.drop (i + 1))) ys f = allF (xs.take i) ys f ++ ((ys xs[i]).map (f xs[i]) ++ allF (xs.drop (i + 1)) ys f) := by
              unfold allF; rw [List.flatMap_append, List.flatMap_cons]
            rw [← e1] at e4; exact e4
          rw [e3, List.length_append, List.length_append, List.length_map]
        rw [List.length_append, List.length_map, List.length_take]
        omega
      · rw [tk1, List.map_append, ← List.append_assoc]
        exact a8.add hvs r8
    · left
      have hj' : j = (ys xs[i]).length := by omega
      subst hj'
      obtain ⟨-, h2⟩ := hJ1 (ys xs[i]).length F6 H6 s56 a6.2.1
      refine ⟨h2 (by simp), F6, ?_⟩
      rw [hall]
      rw [List.take_length] at a6
      exact a6
  · left
    have hi' : i = xs.length := by omega
    subst hi'
    obtain ⟨-, h2⟩ := hJ xs.length F3 H3 a3.1.f a3.2.1
    refine ⟨h2 (by simp), ?_⟩
    rw [List.take_length] at a3
    obtain ⟨F', gF, rF⟩ := a3.tell hD g2'.s
    exact k (.ref D) F' H3 (g2'.trans gF) rF
/-- y = [e for .. in .. for .. in ..], on one line -/
theorem ps_lc2D (i : Nat) {y : Str} {py spos : Pos} (g : α → Env') (g2 : α → β → Env') (f : α → β → PyData) (is is1 vs1 : List Nat) (hc : X.calm = true) (hN : X.N.Nodup) (ok : BlkOk X.N X.env.scope scope own) (hv : ∀ i ∈ vs1, i ∈ own.map (·.2)) (hi : DI X ρ tg iter (xs.map enc))
    (hg : ∀ x ∈ xs, Blk X scope fun Y => DG Y (wipeE ρ (own.map (·.2))) tg (enc x) (g x) is)
    (hi1 : ∀ x ∈ xs, Blk X scope fun Y => DI Y (g x) tg1 iter1 ((ys x).map enc1))
    (hg1 : ∀ x ∈ xs, ∀ y ∈ ys x, Blk X scope fun Y => DG Y (wipeE (g x) vs1) tg1 (enc1 y) (g2 x y) is1)
    (he : ∀ x ∈ xs, ∀ y ∈ ys x, Blk X scope fun Y => DE Y (g2 x y) elt (f x y))
    (his : ∀ i ∈ is, i ∈ own.map (·.2)) (his1 : ∀ i ∈ is1, i ∈ vs1) (h0 : NoOwn ρ) (h1 : ∀ x ∈ xs, NoOwn (g x)) (hl : (allF xs ys f).length ≤ sizeLine) (hy : X.N[i]? = some y) (hk : X.env.scope.kind = .function) (hyl : X.env.scope.names.lookup y = some .local) (hln : (py.line == pos.line) = true)
    (ha : (scope.names.any fun (n, k) => n == y && (k == .local || k == .cell)) = false) (hs : ∀ x, foldedSetIterable iter X.env x = pure x := by intro _; rfl) (hs1 : ∀ env x, foldedSetIterable iter1 env x = pure x := by intro _ _; rfl) :
    PS X (.Assign [.Name y py] (.ListComp elt [⟨tg, iter, [], 0⟩, ⟨tg1, iter1, [], 0⟩] scope pos) spos) (tAsg (tD ρ (.list (allF xs ys f))) (gName i)) :=
  PS.imp (ps_setLc2 hc hN hy hyl (sw_true hk hyl hln ha) hi ok hv (te := fun σ H Q => ∃ z : α × β, (z.1 ∈ xs ∧ z.2 ∈ ys z.1) ∧ tD (g2 z.1 z.2) (f z.1 z.2) σ H Q) (fun s H C cl fp => PG.any fun x hx => (hg x hx s H C cl fp).1) (fun s H C cl fp => pts_nil) (fun s H C cl fp => PI.any fun x hx => hi1 x hx s H C cl fp) (fun s H C cl fp => PG.any fun z hz => (hg1 z.1 hz.1 z.2 hz.2 s H C cl fp).1) (fun s H C cl fp => pts_nil) (fun s H C cl fp => PE.any fun z hz => he z.1 hz.1 z.2 hz.2 s H C cl fp) hs hs1) fun D σ H h => show tLc2 _ _ _ _ _ _ _ _ _ σ H _ from lc2_read g g2 f is is1 (own.map (·.2)) vs1 his his1 h0 h1 hl σ H _ h
end
end Tw

/-! Tw: x = [.. for .. for ..]; x *= e -/
namespace Tw
open PySem PySem.Spec PyProof.Rows L2
theorem dss_setLc2 {X : Cx} {ex : List Addr} {F0 H0 : Hp} {ρ : Env'} {sts : List Stmt} {A : Aims} {α β : Type} {xs : List α} {ys : α → List β} {enc : α → PyData} {enc1 : β → PyData} {elt tg iter tg1 iter1 : Expr} {scope : Scope} {pos : Pos} {own : List (Str × Nat)} {d : PyData}
    (i : Nat) {y : Str} {py spos : Pos} (g : α → Env') (g2 : α → β → Env') (f : α → β → PyData) (is is1 vs1 : List Nat) (hc : X.calm = true) (hN : X.N.Nodup) (ok : BlkOk X.N X.env.scope scope own) (hv : ∀ i ∈ vs1, i ∈ own.map (·.2)) (hi : DI X ρ tg iter (xs.map enc))
    (hg : ∀ x ∈ xs, Blk X scope fun Y => DG Y (wipeE ρ (own.map (·.2))) tg (enc x) (g x) is)
    (hi1 : ∀ x ∈ xs, Blk X scope fun Y => DI Y (g x) tg1 iter1 ((ys x).map enc1))
    (hg1 : ∀ x ∈ xs, ∀ y ∈ ys x, Blk X scope fun Y => DG Y (wipeE (g x) vs1) tg1 (enc1 y) (g2 x y) is1)
    (he : ∀ x ∈ xs, ∀ y ∈ ys x, Blk X scope fun Y => DE Y (g2 x y) elt (f x y))
    (his : ∀ i ∈ is, i ∈ own.map (·.2)) (his1 : ∀ i ∈ is1, i ∈ vs1) (h0 : NoOwn ρ) (h1 : ∀ x ∈ xs, NoOwn (g x)) (hl : (allF xs ys f).length ≤ sizeLine) (hd : PyData.list (allF xs ys f) = d) (k : DSs X ex F0 H0 (ρ.set i (.dat d)) sts A)
    (hy : X.N[i]? = some y := by rfl) (hk : X.env.scope.kind = .function := by rfl) (hyl : X.env.scope.names.lookup y = some .local := by rfl) (hln : (py.line == pos.line) = true := by rfl)
    (ha : (scope.names.any fun (n, k) => n == y && (k == .local || k == .cell)) = false := by rfl) (hs : ∀ x, foldedSetIterable iter X.env x = pure x := by intro _; rfl) (hs1 : ∀ env x, foldedSetIterable iter1 env x = pure x := by intro _ _; rfl) :
    DSs X ex F0 H0 ρ (.Assign [.Name y py] (.ListComp elt [⟨tg, iter, [], 0⟩, ⟨tg1, iter1, [], 0⟩] scope pos) spos :: sts) A := by
  subst hd
  refine dss_seq (N1 := fun ρ' => ρ' = ρ.set i (.dat (.list (allF xs ys f)))) ?_ fun _ h => h ▸ k
  exact PS.imp (ps_lc2D i g g2 f is is1 vs1 hc hN ok hv hi hg hi1 hg1 he his his1 h0 h1 hl hy hk hyl hln ha hs hs1) fun D σ H ⟨F, a, n, r, b, c⟩ => ⟨F, a.ok, fun v F2 H2 g rv => n _ _ F2 H2 rfl g.f ((a.grow g).setD rv)⟩
section
variable {X : Cx} {ex : List Addr} {F0 H0 : Hp} {ρ : Env'} {sts : List Stmt} {A : Aims} {e : Expr} {i j : Int} {pos pos' : Pos} {x : Str}
theorem ip_mul : PIp X .Mult (rI CMul fun i j => .int (i * j)) := fun pins s σ H x y v u Q I r1 r2 h => iop_mul pins s σ H x y v u Q I r1 r2 h
/-- x *= e, whole numbers -/
theorem dss_mulI (k : Nat) (hN : X.N.Nodup) (he : DE X ρ e (.int j)) (hρ : ρ[k]? = some (.dat (.int i))) (hm : CMul i j) (h : DSs X ex F0 H0 (ρ.set k (.dat (.int (i * j)))) sts A) (hi : X.N[k]? = some x := by rfl) (hx : Loc X.env.scope x := by first | exact Or.inl rfl | exact Or.inr rfl)
    (hf : X.fn x = true ∨ X.env.scope.names.lookup x = some .local := by first | exact .inl rfl | exact .inr rfl) : DSs X ex F0 H0 ρ (.AugAssign (.Name x pos') .Mult e pos :: sts) A := by
  refine dss_seq (N1 := fun ρ' => ρ' = ρ.set k (.dat (.int (i * j)))) ?_ fun _ h' => h' ▸ h
  refine PS.imp (ps_aug hN hi hx he ip_mul hf) fun D σ H ⟨F, a, n, r, b, c⟩ => ?_
  obtain ⟨v, h1, h2⟩ := a.ok.dat hρ
  obtain rfl := h2.int_inv
  refine ⟨_, h1, F, a.ok, fun v F2 H2 g rv => ?_⟩
  obtain rfl := rv.int_inv
  exact ⟨i, j, rfl, rfl, hm, n _ _ F2 H2 rfl g.f ((a.grow g).setD (.int _))⟩
end
end Tw

/-! Tw: while an exception is handled: the ends of iterators, unpacking, zip -/
namespace Tw
open PySem PySem.Spec PyProof.Rows L2 HotX
section
variable {prog : Program} {w : World} {A : Around} {E : Value → Shared → Prop} {s : Shared} {x1 : Addr}
theorem hot_keep {h h' : Heap} (hot : HotAt A x1 h) (k : ∀ o, h.get? x1 = some o → h'.get? x1 = some o) : HotAt A x1 h' := by
  obtain ⟨hh, o, vs, h1, h2, h3⟩ := hot
  exact ⟨hh, o, vs, k o h1, h2, h3⟩
/-- StopIteration is raised -/
theorem stop_hot {α : Type} {Q : α → Shared → Prop} (hot : HotAt A x1 s.heap) (hE : ∀ h' e, (∀ b o, s.heap.get? b = some o → h'.get? b = some o) → (∃ o, h'.get? e = some o ∧ o.cls = .type "StopIteration") → E (.ref e) { s with heap := h' }) :
    wpAny (model prog w) A (newExc (.type "StopIteration") [] >>= fun e => (raiseNew e : Sem α)) Q E s := by
  obtain ⟨hh, o1, vs1, h1, d1, c1⟩ := hot
  refine wpAny_bind ?_
  simp only [newExc, newTuple]
  refine wpAny_bind (wpAny_newObj_type ?_ (by size_fits))
  refine wpAny_bind (m := firstArgMember _ _) (wpAny_of_eq (a := Value.none) (by first | rfl | (simp only [firstArgMember]; rfl)) ?_)
  refine wpAny_newObj_type ?_ (by size_fits)
  have hk : ∀ {o o' : Obj} {b : Addr} {u : Obj}, s.heap.get? b = some u → ((s.heap.push o).push o').get? b = some u := fun e => Heap.get?_push_of_some _ (Heap.get?_push_of_some _ e)
  refine raiseNew_hot ⟨hh, o1, vs1, hk h1, d1, c1⟩ (Nat.ne_of_lt (Heap.lt_size (Heap.get?_push_of_some _ h1))) (Heap.get?_push_size _ rfl) rfl (by first | (simp; done) | (simp; omega) | (simp only [Array.size_append]; simp; omega)) ?_
  refine hE _ _ (fun b o e => ?_) ⟨_, Heap.get?_update_self _ (Heap.get?_push_size _ rfl) rfl, rfl⟩
  rw [Heap.get?_update_other _ _ (Nat.ne_of_gt (Heap.lt_size (Heap.get?_push_of_some _ e)))]
  exact hk e
theorem nextOf_list_end_hot {it l : Addr} {i : Nat} {items : Array Value} {Q : Value → Shared → Prop} (hot : HotAt A x1 s.heap) (hne : x1 ≠ it) (hit : s.heap.IsListIter it l i) (hl : s.heap.IsList l items) (hx : items[i]? = none)
    (hE : ∀ h' e, Heap.ExtBut it s.heap h' → (∃ o, h'.get? e = some o ∧ o.cls = .type "StopIteration") → E (.ref e) { s with heap := h' }) : wpAny (model prog w) A (Builtin.SmallTypes.nextOf (.ref it)) Q E s := by
  obtain ⟨o, ho, hc, hd⟩ := id hit
  obtain ⟨ol, hol, _, nl, hdl⟩ := hl
  unfold Builtin.SmallTypes.nextOf
  refine wpAny_bind (wpAny_callSpecial?_slot (name := Str.ofString "__next__") hit.typeIs slot_listiter_next (wpAny_call_entry slot_listiter_next hit.typeIs entry_listiter_next ?_ (args_listiter_next _)))
  show wpAny _ _ (field (.ref it) 0 >>= _) _ _ s
  refine wpAny_bind (wpAny_field ho hd (x := .ref l) rfl ?_)
  show wpAny _ _ (if (Value.ref l == Value.none) = true then _ else _) _ _ s
  rw [if_neg (by exact Bool.false_ne_true)]
  show wpAny _ _ (field (.ref it) 1 >>= _) _ _ s
  refine wpAny_bind (wpAny_field ho hd (x := .int i 0) rfl ?_)
  show wpAny _ _ (seqItems? (.ref l) >>= _) _ _ s
  refine wpAny_bind (wpAny_seqItems hol hdl ?_)
  simp only [Int.toNat_natCast, hx]
  refine wpAny_bind (wpAny_rule (wpAny_bind (wpAny_setField ho hd (by simp) ?_)))
  exact stop_hot (hot_keep hot fun u hu => (Heap.SameBut.update ..).extBut _ u hne hu) fun h' e k q => hE h' e (fun b u hb hu => k b u ((Heap.SameBut.update ..).extBut _ u hb hu)) q
theorem next_tuple_end_hot {it t : Addr} {i : Nat} {items : Array Value} {Q : Option Value → Shared → Prop} (hot : HotAt A x1 s.heap) (hne : x1 ≠ it) (hit : IsTupIter s.heap it t i) (ht : IsTup s.heap t items) (hx : items[i]? = none)
    (hQ : ∀ h', Heap.ExtBut it s.heap h' → Q none { s with heap := h' }) : wpAny (model prog w) A (pyNext (.ref it)) Q E s := by
  obtain ⟨o, ho, hc, hd⟩ := id hit
  obtain ⟨ol, hol, _, nl, hdl⟩ := ht
  unfold pyNext
  refine wpAny_bind (wpAny_attempt (wpAny_callSpecial?_slot (name := Str.ofString "__next__") hit.typeIs slot_tupleiter_next (wpAny_call_entry slot_tupleiter_next hit.typeIs entry_tupleiter_next ?_ (args_tupleiter_next _))))
  show wpAny _ _ (field (.ref it) 0 >>= _) _ _ s
  refine wpAny_bind (wpAny_field ho hd (x := .ref t) rfl ?_)
  show wpAny _ _ (if (Value.ref t == Value.none) = true then _ else _) _ _ s
  rw [if_neg (by exact Bool.false_ne_true)]
  show wpAny _ _ (field (.ref it) 1 >>= _) _ _ s
  refine wpAny_bind (wpAny_field ho hd (x := .int i 0) rfl ?_)
  show wpAny _ _ (seqItems? (.ref t) >>= _) _ _ s
  refine wpAny_bind (wpAny_seqItems hol hdl ?_)
  simp only [Int.toNat_natCast, hx]
  refine wpAny_bind (wpAny_rule (wpAny_bind (wpAny_setField ho hd (by simp) ?_)))
  refine stop_hot (hot_keep hot fun u hu => (Heap.SameBut.update ..).extBut _ u hne hu) fun h' e k q => ?_
  obtain ⟨oe, he, hce⟩ := q
  refine wpAny_bind (wpAny_isInstance (T := "StopIteration") (b := true) ⟨oe, he, hce⟩ isSubtype_stop ?_)
  exact wpAny_pure (hQ _ fun b u hb hu => k b u ((Heap.SameBut.update ..).extBut _ u hb hu))
theorem unpack_hot {t : Addr} {items : Array Value} {targets : List (Bool × (Value → Sem Unit))} {Q : Unit → Shared → Prop} (hot : HotAt A x1 s.heap) (ht : IsTup s.heap t items) (hn : targets.length = items.size) (hstar : targets.findIdx? (·.1) = none)
    (h : ∀ h', Heap.ExtBut s.heap.objs.size s.heap h' → wpAny (model prog w) A (assignInOrder (targets.map (·.2)) items.toList) Q E { s with heap := h' }) : wpAny (model prog w) A (unpack (.ref t) targets) Q E s := by
  have hlt : t ≠ s.heap.objs.size := by obtain ⟨o, ho, _⟩ := ht; exact Nat.ne_of_lt (Heap.lt_size ho)
  have hx1 : x1 ≠ s.heap.objs.size := by obtain ⟨_, o, _, ho, _⟩ := hot; exact Nat.ne_of_lt (Heap.lt_size ho)
  unfold unpack
  rw [hn, hstar]
  refine wpAny_bind (wpAny_holding ?_)
  unfold unpackItems
  refine wpAny_bind ?_
  unfold notIterableAtAll
  refine wpAny_bind (wpAny_specialOf ht.typeIs slot_tuple_iter.lookup (wpAny_pure ?_))
  simp only [Bool.false_eq_true, if_false]
  refine wpAny_bind (wpAny_holding (iter_tuple ht ?_))
  refine wpAny_bind (wpAny_holding (draw_tuple hlt items.size 0 _ _ ⟨_, Heap.get?_push_size _ rfl, rfl, rfl⟩ (ht.push _) (by omega) fun ha hia hsa => ?_))
  have hall : List.take items.size (List.drop 0 items.toList) = items.toList := by rw [List.drop_zero]; exact List.take_of_length_le (by simp)
  rw [hall, if_neg (by simp)]
  have kp : ∀ b o, b ≠ s.heap.objs.size → s.heap.get? b = some o → ha.get? b = some o := fun b o hb e => hsa.extBut b o hb (Heap.get?_push_of_some _ e)
  refine wpAny_bind (wpAny_holding (next_tuple_end_hot (hot_keep hot fun u hu => kp _ u hx1 hu) hx1 hia ((ht.push _).extBut hsa.extBut hlt) (by simp) fun hb heb => ?_))
  simp only [Option.isSome_none, Bool.false_eq_true, if_false]
  exact wpAny_pure (h hb fun b o hne e => heb b o hne (kp b o hne e))
theorem assign_tuple_hot {env : Env} {elts : List Expr} {kk : Nat} {pos : Pos} {t : Addr} {items : Array Value} {Q : Unit → Shared → Prop} (hot : HotAt A x1 s.heap) (ht : IsTup s.heap t items) (hn : (assignEach elts env).length = items.size) (hstar : (assignEach elts env).findIdx? (·.1) = none)
    (h : ∀ h', Heap.ExtBut s.heap.objs.size s.heap h' → wpAny (model prog w) A (assignInOrder ((assignEach elts env).map (·.2)) items.toList) Q E { s with heap := h' }) : wpAny (model prog w) A (assign (.Tuple elts kk pos) env (.ref t)) Q E s := by
  rw [assign_Tuple]
  exact wpAny_bind (wpAny_standAt (unpack_hot hot ht hn hstar h))
/-! ## zip's end -/
theorem zip_end_hot {z TI TO i1 i2 l1 l2 : Addr} {k1 k2 : Nat} {xs ys : Array Value} {a b : Value} {Q : Fin → Shared → Prop} (hot : HotAt A x1 s.heap) (n1 : x1 ≠ z) (n2 : x1 ≠ TO) (n3 : x1 ≠ i1) (n4 : x1 ≠ i2) (D : ZipApart z TI TO i1 i2 l1 l2)
    (hz : IsZip s.heap z TI TO .none) (hTI : IsPair s.heap TI (.ref i1) (.ref i2)) (hTO : IsPair s.heap TO a b) (h1 : s.heap.IsListIter i1 l1 k1) (h2 : s.heap.IsListIter i2 l2 k2) (hl1 : s.heap.IsList l1 xs) (hl2 : s.heap.IsList l2 ys) (hend : xs[k1]? = none ∨ ys[k2]? = none)
    (hE : ∀ h' e, (∀ c o, c ≠ z → c ≠ TO → c ≠ i1 → c ≠ i2 → s.heap.get? c = some o → h'.get? c = some o) → (∃ o, h'.get? e = some o ∧ o.cls = .type "StopIteration") → E (.ref e) { s with heap := h' }) : wpAny (model prog w) A (Builtin.«zip.__next__» ⟨[.ref z], []⟩) Q E s := by
  show wpAny _ _ (field (.ref z) 2 >>= _) _ _ _
  refine wpAny_bind (wpAny_field hz rfl (x := .bool false) rfl ?_)
  show wpAny _ _ (field (.ref z) 3 >>= _) _ _ _
  refine wpAny_bind (wpAny_field hz rfl (x := .ref TI) rfl (wpAny_bind (wpAny_seqItems hTI rfl ?_)))
  show wpAny _ _ (Builtin.SmallTypes.ownedTupleIsFree (.ref z) >>= _) _ _ _
  refine wpAny_bind ?_
  unfold Builtin.SmallTypes.ownedTupleIsFree
  refine wpAny_bind (wpAny_field hz rfl (x := .none) rfl (wpAny_pure ?_))
  simp only [if_true]
  refine wpAny_bind (wpAny_rule (wpAny_bind (wpAny_field hz rfl (x := .ref TO) rfl ?_)))
  refine wpAny_bind (wpAny_setField_rec hz (by simp) fun ha hza hsa => ?_)
  replace hza : IsZip ha z TI TO .ellipsis := hza
  refine wpAny_bind ?_
  simp only [List.zipIdx_cons, List.zipIdx_nil, List.forIn_cons, List.forIn_nil]
  refine wpAny_bind (wpAny_bind (wpAny_onRaise ?_))
  show wpAny _ _ (Builtin.SmallTypes.nextOf (.ref i1) >>= _) _ _ _
  have hota : HotAt A x1 ha := hot_keep hot fun u hu => hsa.extBut _ _ n1 hu
  cases hx : xs[k1]? with
  | none =>
    refine wpAny_bind (nextOf_list_end_hot hota n3 (h1.extBut hsa.extBut D.i1z) (hl1.extBut hsa.extBut D.l1z) hx fun hb e hsb q => ?_)
    obtain ⟨oe, hoe, hce⟩ := q
    have hzb : IsZip hb z TI TO .ellipsis := hsb _ _ D.i1z.symm hza
    have hez : e ≠ z := fun x => by subst x; rw [hzb] at hoe; cases hoe; simp at hce
    exact wpAny_setField_rec hzb (by simp) fun hc _ hsc => hE hc e (fun c o c1 _ c3 _ x => hsc.extBut _ _ c1 (hsb _ _ c3 (hsa.extBut _ _ c1 x))) ⟨oe, hsc.extBut _ _ hez hoe, hce⟩
  | some x =>
    have hy : ys[k2]? = none := by rcases hend with h | h; rw [hx] at h; cases h; exact h
    refine wpAny_bind (wpAny_nextOf_list_item (h1.extBut hsa.extBut D.i1z) (hl1.extBut hsa.extBut D.l1z) hx fun hb h1b hsb => wpAny_pure ?_)
    have hTOb : IsPair hb TO a b := hsb.extBut _ _ D.TOi1 (hsa.extBut _ _ D.TOz hTO)
    refine wpAny_bind (wpAny_seqItems hTOb rfl (wpAny_bind (wpAny_updateSeq_pair hTOb fun hc hTOc hsc => ?_)))
    refine wpAny_bind (wpAny_letGo (wpAny_pure (wpAny_bind (wpAny_bind (wpAny_onRaise ?_)))))
    show wpAny _ _ (Builtin.SmallTypes.nextOf (.ref i2) >>= _) _ _ _
    have hotc : HotAt A x1 hc := hot_keep hota fun u hu => hsc.extBut _ _ n2 (hsb.extBut _ _ n3 hu)
    refine wpAny_bind (nextOf_list_end_hot hotc n4 (((h2.extBut hsa.extBut D.i2z).extBut hsb.extBut D.i12.symm).extBut hsc.extBut D.TOi2.symm) (((hl2.extBut hsa.extBut D.l2z).extBut hsb.extBut D.l2i1).extBut hsc.extBut D.l2TO) hy fun hd e hsd q => ?_)
    obtain ⟨oe, hoe, hce⟩ := q
    have hzd : IsZip hd z TI TO .ellipsis := hsd _ _ D.i2z.symm (hsc.extBut _ _ D.TOz.symm (hsb.extBut _ _ D.i1z.symm hza))
    have hez : e ≠ z := fun x => by subst x; rw [hzd] at hoe; cases hoe; simp at hce
    exact wpAny_setField_rec hzd (by simp) fun he _ hse => hE he e (fun c o c1 c2 c3 c4 x => hse.extBut _ _ c1 (hsd _ _ c4 (hsc.extBut _ _ c2 (hsb.extBut _ _ c3 (hsa.extBut _ _ c1 x))))) ⟨oe, hse.extBut _ _ hez hoe, hce⟩
theorem pyNext_zip_end_hot {z TI TO i1 i2 l1 l2 : Addr} {k1 k2 : Nat} {xs ys : Array Value} {a b : Value} {Q : Option Value → Shared → Prop} (hot : HotAt A x1 s.heap) (n1 : x1 ≠ z) (n2 : x1 ≠ TO) (n3 : x1 ≠ i1) (n4 : x1 ≠ i2) (D : ZipApart z TI TO i1 i2 l1 l2)
    (hz : IsZip s.heap z TI TO .none) (hTI : IsPair s.heap TI (.ref i1) (.ref i2)) (hTO : IsPair s.heap TO a b) (h1 : s.heap.IsListIter i1 l1 k1) (h2 : s.heap.IsListIter i2 l2 k2) (hl1 : s.heap.IsList l1 xs) (hl2 : s.heap.IsList l2 ys) (hend : xs[k1]? = none ∨ ys[k2]? = none)
    (hQ : ∀ h', (∀ c o, c ≠ z → c ≠ TO → c ≠ i1 → c ≠ i2 → s.heap.get? c = some o → h'.get? c = some o) → Q none { s with heap := h' }) : wpAny (model prog w) A (pyNext (.ref z)) Q E s := by
  have hT : s.TypeIs (.ref z) "zip" := ⟨_, hz, rfl⟩
  unfold pyNext
  refine wpAny_bind (wpAny_attempt (wpAny_callSpecial?_slot (name := Str.ofString "__next__") hT F.slot_zip_next (wpAny_call_entry F.slot_zip_next hT F.entry_zip_next (zip_end_hot hot n1 n2 n3 n4 D hz hTI hTO h1 h2 hl1 hl2 hend fun h' e hk q => ?_) (F.args_zip_next_1 _))))
  obtain ⟨o, ho, hc⟩ := q
  exact wpAny_bind (wpAny_isInstance (T := "StopIteration") (b := true) ⟨o, ho, hc⟩ isSubtype_stop (wpAny_pure (hQ _ hk)))
end
end Tw

/-! Tw: list comprehensions over a zip while an exception is handled -/
namespace Tw
open PySem PySem.Spec PyProof.Rows L2 HotX
/-- the handled exception's object is x1's, wherever X runs -/
def HotI (X : Cx) (x1 : Addr) : Prop := ∀ (pins : List (Addr × Obj)) (σ : L2.St) (H : Hp) (s : Shared), Inv X pins σ H s → HotAt X.A x1 s.heap
/-- X's own pin is the handled exception, its context None -/
structure HotX1 (X : Cx) (x1 : Addr) (oe : Obj) : Prop where
  hd : X.A.handled = some (.ref x1)
  vs : ∃ vs : Array Value, oe.data = .fields vs ∧ vs[2]? = some .none
  pin : (x1, oe) ∈ X.pn
theorem HotX1.hot {X : Cx} {x1 : Addr} {oe : Obj} (h : HotX1 X x1 oe) : HotI X x1 := fun pins σ H s I => by
  obtain ⟨vs, h1, h2⟩ := h.vs
  exact ⟨h.hd, oe, vs, (I.pin _ (List.mem_append_left _ h.pin)).1, h1, h2⟩
section
variable {X : Cx} {x1 : Addr} {oe : Obj}
theorem pg_tupH {es : List Expr} {k : Nat} {pos : Pos} {t : TGs} {n : Nat} (hot : HotI X x1) (h : PGs X es t) (hn : (assignEach es X.env).length = n := by rfl) (hst : (assignEach es X.env).findIdx? (·.1) = none := by rfl) : PG X (.Tuple es k pos) (gTup X.K n t) := by
  refine ⟨fun pins s σ H v u Q I r hw => ?_⟩
  obtain ⟨a, xs, rfl, hq, hl, hw⟩ := hw
  cases r
  obtain ⟨its, rv, ht, hz⟩ := I.tuple hq
  refine assign_tuple_hot (hot _ _ _ _ I) ht (by simp [hn, ← hl, rv.length]) hst fun h' hx => ?_
  exact h.run pins _ σ H xs _ Q (I.kept (t' := s.toks) fun b o e => hx b o (Nat.ne_of_lt (Heap.lt_size e)) e) (by simpa using rv) hw
/-- what is walked, while x1 is handled -/
structure TurnX (P : Program) (w : World) (K : PySem.W.Frag) (tg : Expr) (J : It) (fp : List Addr) (it : Addr) (tn : Nat → Heap → Prop) (x1 : Addr) : Prop where
  obj : ∀ i h, tn i h → ∀ b ∈ fp, ∃ o, h.get? b = some o ∧ ∀ v, o.data ≠ .cell v
  keep : ∀ i h h', tn i h → (∀ b ∈ fp, ∀ o, h.get? b = some o → h'.get? b = some o) → tn i h'
  item : ∀ (X : Cx), X.prog = P → X.w = w → X.K = K → ∀ (i : Nat) (pins : List (Addr × Obj)) (s : Shared) (σ : L2.St) (H : Hp) (E : Value → Shared → Prop), Inv X pins σ H s → (∀ b ∈ fp, FpOk X pins H b) → tn i s.heap → J.go i H →
    wpAny (model P w) X.A (pyNext (.ref it)) (fun r s1 => ∃ u, r = some u ∧ wpAny (model P w) X.A (letOwnedTupleGo tg (.ref it) u) (fun _ s2 => ∃ x H', Inv X pins σ H' s2 ∧ RelV x u ∧ J.yld i H x H' ∧ tn (i + 1) s2.heap ∧ ∀ b ∈ fp, H' b = none) E s1) E s
  done : ∀ (X : Cx), X.prog = P → X.w = w → X.K = K → (∀ b ∈ fp, x1 ≠ b) → ∀ (i : Nat) (pins : List (Addr × Obj)) (s : Shared) (σ : L2.St) (H : Hp) (E : Value → Shared → Prop), HotAt X.A x1 s.heap → Inv X pins σ H s → (∀ b ∈ fp, FpOk X pins H b) → tn i s.heap → J.stop i H →
    wpAny (model P w) X.A (pyNext (.ref it)) (fun r s1 => r = none ∧ Inv X pins σ H s1) E s
  self : ∀ (A : Around) (i : Nat) (s : Shared) (Q : Value → Shared → Prop) (E : Value → Shared → Prop), tn i s.heap → Q (.ref it) s → wpAny (model P w) A (pyIter (.ref it)) Q E s
theorem turn_zipX {P : Program} {w : World} {K : PySem.W.Frag} {elts : List Expr} {kk : Nat} {tpos : Pos} {a b z TI TO i1 i2 : Addr} (D : ZipApart z TI TO i1 i2 a b) :
    TurnX P w K (.Tuple elts kk tpos) (Itz K a b) [z, TI, TO, i1, i2] z (fun i h => IsZip h z TI TO .none ∧ IsPair h TI (.ref i1) (.ref i2) ∧ (∃ x y, IsPair h TO x y) ∧ h.IsListIter i1 a i ∧ h.IsListIter i2 b i) x1 where
  obj := (turn_zip (P := P) (w := w) (K := K) (elts := elts) (kk := kk) (tpos := tpos) D).obj
  keep := (turn_zip (P := P) (w := w) (K := K) (elts := elts) (kk := kk) (tpos := tpos) D).keep
  self := (turn_zip (P := P) (w := w) (K := K) (elts := elts) (kk := kk) (tpos := tpos) D).self
  item := by
    intro X hP hw hK i pins s σ H E I hf st hg
    subst hP hw hK
    obtain ⟨hz, hTI, ⟨x0, y0, hTO⟩, h1, h2⟩ := st
    obtain ⟨xs, ys, x, y, hqx, hqy, hx, hy⟩ := hg
    obtain ⟨ia, ra, pa, _⟩ := I.list hqx
    obtain ⟨ib, rb, pb, _⟩ := I.list hqy
    obtain ⟨u, hu, ru⟩ := ra.get hx
    obtain ⟨v, hv, rv⟩ := rb.get hy
    have hzl : z < s.heap.objs.size := Heap.lt_size hz
    have five : ∀ {c : Addr}, c ∉ [z, TI, TO, i1, i2] → c ≠ z ∧ c ≠ TO ∧ c ≠ i1 ∧ c ≠ i2 := fun {c} hc => ⟨fun e => hc (by simp [e]), fun e => hc (by simp [e]), fun e => hc (by simp [e]), fun e => hc (by simp [e])⟩
    refine wpAny_pyNext_zip_item D hz hTI hTO h1 h2 pa.isList pb.isList (x := u) (y := v) (by simpa using hu) (by simpa using hv) fun ha zA TOa h1a h2a hT hsz hk => ?_
    refine ⟨_, rfl, wpAny_letOwnedTupleGo_zip (s := { s with heap := ha }) zA fun hb zB sb => ?_⟩
    have hTb : hb.get? s.heap.objs.size = some { cls := .type "tuple", data := .seq #[u, v] } := (sb.2 _ (Nat.ne_of_gt hzl)).trans hT
    have new : ObjOk X.prog X.w (upd H s.heap.objs.size (.tup [x, y])) hb s.heap.objs.size (.tup [x, y]) := ⟨by show 2 ≤ sizeLine; decide, [u, v], .cons ru (.cons rv .nil), ⟨_, hTb, rfl, _, rfl⟩⟩
    have Ib : Inv X pins σ (upd H s.heap.objs.size (.tup [x, y])) { s with heap := hb } :=
      I.turnedNew (t' := s.toks) (ch := [z, TI, TO, i1, i2]) (fun c o hc q => by
        obtain ⟨n1, n2, n3, n4⟩ := five hc
        exact (sb.2 c n1).trans (hk c o n1 n2 n3 n4 q)) hf (Nat.le_refl _) new
    refine ⟨.ref s.heap.objs.size, _, Ib, rfl, ⟨_, x, y, rfl, I.hok.fresh (Nat.le_refl _), rfl, fun l hl => by rw [I.list_inj hl hqx]; exact hx, fun l hl => by rw [I.list_inj hl hqy]; exact hy⟩,
      ⟨zB, (sb.2 _ D.TIz).trans (hk _ _ D.TIz D.TITO D.TIi1 D.TIi2 hTI), ⟨u, v, (sb.2 _ D.TOz).trans TOa⟩, h1a.at fun o q => (sb.2 _ D.i1z).trans q, h2a.at fun o q => (sb.2 _ D.i2z).trans q⟩, fun c hc => ?_⟩
    have hlt : c < s.heap.objs.size := by
      obtain ⟨o, ho, _⟩ := (turn_zip (P := X.prog) (w := X.w) (K := X.K) (elts := elts) (kk := kk) (tpos := tpos) D).obj i s.heap ⟨hz, hTI, ⟨x0, y0, hTO⟩, h1, h2⟩ c hc
      exact Heap.lt_size ho
    rw [upd_ne (Nat.ne_of_lt hlt)]
    exact (hf c hc).1
  done := by
    intro X hP hw hK hne i pins s σ H E hot I hf st hg
    subst hP hw hK
    obtain ⟨hz, hTI, ⟨x0, y0, hTO⟩, h1, h2⟩ := st
    obtain ⟨xs, ys, hqx, hqy, hend⟩ := hg
    obtain ⟨ia, ra, pa, _⟩ := I.list hqx
    obtain ⟨ib, rb, pb, _⟩ := I.list hqy
    have la := ra.length
    have lb := rb.length
    refine pyNext_zip_end_hot hot (hne _ (by simp)) (hne _ (by simp)) (hne _ (by simp)) (hne _ (by simp)) D hz hTI hTO h1 h2 pa.isList pb.isList ?_ fun h' hk => ⟨rfl, ?_⟩
    · rcases hend with q | q
      · left; simp; omega
      · right; simp; omega
    · refine I.turnedL (t' := s.toks) (ch := [z, TI, TO, i1, i2]) (fun c o hb q => ?_) hf
      exact hk c o (fun e => hb (by simp [e])) (fun e => hb (by simp [e])) (fun e => hb (by simp [e])) (fun e => hb (by simp [e])) q
structure PIX (X : Cx) (x1 : Addr) (tg iter : Expr) (wi : TI) : Prop where
  run : ∀ (pins : List (Addr × Obj)) (s : Shared) (σ : L2.St) (H : Hp) (R : It → Hp → Prop), Inv X pins σ H s → wi σ H R →
    wpAny (model X.prog X.w) X.A (eval iter X.env) (fun v s1 => wpAny (model X.prog X.w) X.A (pyIter v) (fun itv s2 => ∃ (it : Addr) (fp : List Addr) (tn : Nat → Heap → Prop) (J : It) (H' : Hp), itv = .ref it ∧ Inv X pins σ H' s2 ∧ TurnX X.prog X.w X.K tg J fp it tn x1 ∧ tn 0 s2.heap ∧ (∀ b ∈ fp, FpOk X pins H' b) ∧ R J H') X.xe s1) X.xe s
theorem pi_zipX {e e2 : Expr} {ta : TA} {p pos tpos : Pos} {elts : List Expr} {kk : Nat} (hg : Gl X "zip") (hm : X.mg "zip" = none) (ha : PA X [e, e2] ta) (hs : starEach [e, e2] X.env = (false, eval e X.env) :: starEach [e2] X.env := by rfl) (hpl : (backTo pos (starEach [e2] X.env)).any (·.1) = false := by rfl) :
    PIX X x1 (.Tuple elts kk tpos) (.Call (.Name "zip" p) [e, e2] [] pos) (iZip X.K ta) := by
  refine ⟨fun pins s σ H R I h => ?_⟩
  refine Call_ (ld_blt I hg hm PyProof.Rows.boot_zip (PyProof.Rows.callWith_type1 (thn (ha.run pos pins s σ H _ I h) fun us sa ⟨vs, Ha, Ia, ra, qa⟩ => ?_) hs hpl))
  obtain ⟨a, b, xs, ys, rfl, hqx, hqy, q⟩ := qa
  cases ra with
  | cons r rr => cases rr with
    | cons r' rr =>
      cases rr; cases r; cases r'
      obtain ⟨ia, rv, pa, _⟩ := Ia.list hqx
      obtain ⟨ib, rv2, pb, _⟩ := Ia.list hqy
      refine call_zip_2 pa.isList pb.isList fun h' hz hTI hTO h1 h2 hsz hk => wpAny_pyIter_zip hz ?_
      generalize hn : sa.heap.objs.size = n at *
      have ge : ∀ c ∈ [n + 4, n + 2, n + 3, n, n + 1], sa.heap.objs.size ≤ c := fun c hc => by
        simp only [List.mem_cons, List.not_mem_nil, or_false] at hc
        omega
      refine ⟨n + 4, [n + 4, n + 2, n + 3, n, n + 1], _, _, Ha, rfl, Ia.kept (t' := sa.toks) hk, turn_zipX (PySem.W.ktu_apart n a b (by rw [← hn]; exact pa.lt) (by rw [← hn]; exact pb.lt)), ⟨hz, hTI, ⟨_, _, hTO⟩, h1, h2⟩, fun c hc => Ia.fpOk (ge c hc) (Ia.hok.fresh (ge c hc)), q⟩
end
/-- a context of the block, hot -/
abbrev BlkH (X : Cx) (x1 : Addr) (scope : Scope) (P : Cx → Prop) : Prop := ∀ (s : Shared) (H : Hp) (C : Addr) (cl : List (Str × Addr)) (fp : List Addr), HotI (X.blk s H scope (compEnvC scope cl C X.env) fp) x1 → P (X.blk s H scope (compEnvC scope cl C X.env) fp)
section
variable {X : Cx} {x1 : Addr} {oe : Obj} {elt tg iter : Expr} {ifs : List Expr} {scope : Scope} {own : List (Str × Nat)} {pos pos' : Pos} {wi : TI} {g : TG} {tt : TT} {te : TE}
theorem lch_core {pins : List (Addr × Obj)} {s : Shared} {σ : L2.St} {H : Hp} {Q : VK} {use : Option (Value → Sem Unit)} {Qf : Value → Shared → Prop} (hx : HotX1 X x1 oe) (hN : X.N.Nodup) (I : Inv X pins σ H s) (hi : PIX X x1 tg iter wi) (ok : BlkOk X.N X.env.scope scope own)
    (hg : BlkH X x1 scope fun Y => PG Y tg g) (ht : BlkH X x1 scope fun Y => PTs Y ifs tt) (he : BlkH X x1 scope fun Y => PE Y elt te) (hs : ∀ x, foldedSetIterable iter X.env x = pure x) (h : tLc wi g tt te (own.map (·.2)) σ H Q)
    (hEnd : ∀ D C s' m H', Inv X pins σ H' s' → Q (.ref D) H' → s'.heap.Ns C m → FpOk X pins H' C → compPost (model X.prog X.w) X.A X.xe use Qf (.ref D) C (.ok .next) s') :
    wpAny (model X.prog X.w) X.A (comprehension (.ListComp elt [⟨tg, iter, ifs, 0⟩] scope pos) scope X.env pos' (newList []) false (eval iter X.env) use) Qf X.xe s := by
  have caught : ∀ n ∈ scope.names, n.2 = .free → ∃ c, X.env.cells.lookup n.1 = some c := fun n hn e => (ok.free n hn e).elim (fun k => I.ok.has _ (.inl k)) fun k => I.ok.has _ (.inr k)
  refine wpAny_comprehension_free (use := use) rfl hs (closure_ok caught) ok.kind (fun n hn e => by rw [ok.uniq n hn, e]) (thn (hi.run pins s σ H _ I h) fun xv sa hxx => thn hxx fun iv sb hb => ?_)
  obtain ⟨it, fp, tn, J, Hb, e, Ib, T, stb, fb, turns⟩ := hb
  subst e
  refine wpAny_newObj_type (newEnv_comp ?_) (by show 0 ≤ sizeLine; decide)
  generalize hD : sb.heap.objs.size = D
  have nD : Hb D = none := Ib.hok.fresh (Nat.le_of_eq hD)
  obtain ⟨W, ⟨m0, w0⟩, turn⟩ := turns D nD
  generalize hsc : ({ sb with heap := sb.heap.push { cls := .type "list", data := .seq ([] : List Value).toArray } } : Shared) = sc
  have hc3 : sc.heap = sb.heap.push { cls := .type "list", data := .seq ([] : List Value).toArray } := by rw [← hsc]
  have Ic : Inv X pins σ (upd Hb D (.lst [])) sc := by
    rw [← hsc]
    refine Ib.laid (t' := sb.toks) (fun a o q => Heap.get?_push_of_some _ q) (Nat.le_of_eq hD) ⟨Nat.zero_le _, [], 0, .nil, ?_⟩
    rw [← hD]; exact Heap.get?_push_size _ rfl
  have fc : ∀ a ∈ fp, FpOk X pins (upd Hb D (.lst [])) a ∧ a < sc.heap.objs.size := fun a ha => by
    obtain ⟨o, ho, _⟩ := T.obj _ _ stb a ha
    have lt := Heap.lt_size ho
    refine ⟨⟨?_, (fb a ha).2⟩, by rw [hc3, Heap.size_push]; exact Nat.lt_succ_of_lt lt⟩
    rw [upd_ne (by rw [← hD]; exact Nat.ne_of_lt lt)]
    exact (fb a ha).1
  have stc : tn 0 sc.heap := T.keep _ _ _ stb fun a _ o q => by rw [hc3]; exact Heap.get?_push_of_some _ q
  have Id := block_start Ic ok hN fc
  generalize hH : upd Hb D (.lst []) = Hc at Ic Id fc w0
  generalize hcl : cellsFrom (sc.heap.objs.size + 1) scope.names (cloFrom X.env.cells scope.names []) = cl at Id
  -- the handled exception in the block
  have x1fp : ∀ b ∈ fp, x1 ≠ b := fun b hb => (fc b hb).1.2.2.2.2.2 (x1, oe) (List.mem_append_left _ hx.pin)
  have hot : HotI (X.blk sc Hc scope (compEnvC scope cl sc.heap.objs.size X.env) fp) x1 := fun pins' σ' H' s' I' => by
    obtain ⟨vs, v1, v2⟩ := hx.vs
    obtain ⟨p1, p2, p3, p4, _⟩ := Ic.pin (x1, oe) (List.mem_append_left _ hx.pin)
    refine ⟨hx.hd, oe, vs, I'.base.keep x1 oe p1 p2 (fun hm => ?_) (fun hm => x1fp x1 hm rfl), v1, v2⟩
    exact (List.mem_cons.mp (Ic.stkSub x1 hm)).elim p3 p4
  have pg := hg sc Hc sc.heap.objs.size cl fp hot
  have pt := ht sc Hc sc.heap.objs.size cl fp hot
  have pe := he sc Hc sc.heap.objs.size cl fp hot
  show codeAny _ _ (.compStart (.ListComp elt [⟨tg, iter, ifs, 0⟩] scope pos) 0 (.ref it) (.ref D) (compEnvC scope cl sc.heap.objs.size X.env)) (compPost (model X.prog X.w) X.A X.xe use Qf (.ref D) sc.heap.objs.size) { sc with heap := pushCells (sc.heap.push { cls := .type "dict", data := .dict #[] }) scope.names }
  generalize hce : compEnvC scope cl sc.heap.objs.size X.env = ce at Id pg pt pe hot ⊢
  have cL : ce.locals = sc.heap.objs.size := by subst hce; rfl
  generalize hsd : ({ sc with heap := pushCells (sc.heap.push { cls := .type "dict", data := .dict #[] }) scope.names } : Shared) = sd at Id ⊢
  have std : tn 0 sd.heap := T.keep _ _ _ stc fun a _ o q => by rw [← hsd]; exact pushCells_keeps _ _ _ _ (Heap.get?_push_of_some _ q)
  have stands : ∀ {σ' : L2.St} {H' : Hp} {s' : Shared}, Inv (X.blk sc Hc scope ce fp) [] σ' H' s' → (∀ a ∈ fp, H' a = none) → ∀ a ∈ fp, FpOk (X.blk sc Hc scope ce fp) [] H' a := fun {σ' H' s'} J' hn a ha => by
    have z1 := J'.ok.exf a ha
    exact ⟨hn a ha, z1.1, J'.ok.exfs a ha, .inl ha, fun x c q => z1.2 x c q, fun p hp => absurd (show p ∈ ([] : List (Addr × Obj)) ++ [] from hp) (by simp)⟩
  have loop : codeAny (model X.prog X.w) X.A (.compLoop (.ListComp elt [⟨tg, iter, ifs, 0⟩] scope pos) 0 (.ref it) (.ref D) ce) (compPost (model X.prog X.w) X.A X.xe use Qf (.ref D) sc.heap.objs.size) sd := by
    refine compLoop_any (fun n s' => ∃ i H', Inv (X.blk sc Hc scope ce fp) [] (wipe σ (own.map (·.2))) H' s' ∧ tn i s'.heap ∧ (∀ a ∈ fp, H' a = none) ∧ W i n H') ?_ m0 ⟨0, Hc, Id, std, fun a ha => (fc a ha).1.1, w0⟩
    rintro n s5 ⟨i, H5, I5, st5, n5, w5⟩
    rcases turn i n H5 w5 with ⟨stop, qq⟩ | ⟨go, Nx, hNx, step⟩
    · refine thnF (T.done (X.blk sc Hc scope ce fp) rfl rfl rfl x1fp i [] s5 _ H5 (fun _ _ => False) (hot _ _ _ _ I5) I5 (stands I5 n5) st5 stop) fun r s6 ⟨hr, I6⟩ => ?_
      subst hr
      have I7 : Inv X pins σ H5 s6 := Ic.call' (ch := fp) I6.os I6.base I6.hok I6.bare fun a ha => let ⟨⟨_, b1, b2, b3, b4, b5⟩, _⟩ := fc a ha; ⟨b3, b1, b4, b5⟩
      have nC : H5 ce.locals = none := I6.free
      obtain ⟨m, hn, _⟩ := I6.loc
      have hn : s6.heap.Ns ce.locals m := hn
      rw [cL] at hn nC
      exact hEnd D sc.heap.objs.size s6 m H5 I7 qq hn (Ic.fpOk (Nat.le_refl _) nC)
    · refine thnF (T.item (X.blk sc Hc scope ce fp) rfl rfl rfl i [] s5 _ H5 (fun _ _ => False) I5 (stands I5 n5) st5 go) fun r s6 ⟨u, hr, h6⟩ => ?_
      subst hr
      refine thnF h6 fun _ s7 ⟨x, H7, I7, r7, y7, st7, n7⟩ => ?_
      refine thnF (pg.run _ s7 _ H7 x u _ (I7.pinned (stands I7 n7) (T.obj _ _ st7)) r7 (step x H7 y7)) fun _ s8 ⟨σ8, H8, I8, hw8, q8⟩ => ?_
      refine thnF (pt.run _ s8 σ8 H8 _ I8 q8) fun bb s9 ⟨H9, I9, q9⟩ => ?_
      have fin : ∀ {s' : Shared} {H' : Hp}, Inv (X.blk sc Hc scope ce fp) ([] ++ pinsAt fp s7.heap) σ8 H' s' → Nx H' → ∃ m, m < n ∧ ∃ i H', Inv (X.blk sc Hc scope ce fp) [] (wipe σ (own.map (·.2))) H' s' ∧ tn i s'.heap ∧ (∀ a ∈ fp, H' a = none) ∧ W i m H' := fun {s' H'} I' nx => by
        obtain ⟨m', hm, w'⟩ := hNx H' nx
        have pinned : ∀ a ∈ fp, ∀ o, s7.heap.get? a = some o → s'.heap.get? a = some o ∧ H' a = none := fun a ha o q =>
          let z := I'.pin (a, o) (List.mem_append_right _ (List.mem_append_right _ (mem_pinsAt ha q)))
          ⟨z.1, z.2.1⟩
        refine ⟨m', hm, i + 1, H', (I'.unpinned (pins := [])).weak (by rw [← hw8, wipe_length]) (fun j v q => ?_), T.keep _ _ _ st7 fun a ha o q => (pinned a ha o q).1, fun a ha => ?_, w'⟩
        · rw [← hw8] at q; exact (wipe_some q).1
        · obtain ⟨o, q, _⟩ := T.obj _ _ st7 a ha
          exact (pinned a ha o q).2
      cases bb with
      | false =>
        simp only [Bool.false_eq_true, if_false] at q9 ⊢
        exact fin I9 q9
      | true =>
        simp only [if_true] at q9 ⊢
        refine thnF (pe.run _ s9 σ8 H9 _ I9 q9) fun zv s10 ⟨yv, H10, I10, r10, acc, hD10, hz10, nx⟩ => ?_
        exact app_ok (X := X.blk sc Hc scope ce fp) I10 hD10 hz10 r10 fun s11 I11 => fin I11 nx
  exact codeAny_compStart_list loop (T.self X.A 0 _ _ _ std loop)
theorem pe_lcH (hx : HotX1 X x1 oe) (hN : X.N.Nodup) (hi : PIX X x1 tg iter wi) (ok : BlkOk X.N X.env.scope scope own) (hg : BlkH X x1 scope fun Y => PG Y tg g) (ht : BlkH X x1 scope fun Y => PTs Y ifs tt) (he : BlkH X x1 scope fun Y => PE Y elt te)
    (hs : ∀ x, foldedSetIterable iter X.env x = pure x := by intro _; rfl) : PE X (.ListComp elt [⟨tg, iter, ifs, 0⟩] scope pos) (tLc wi g tt te (own.map (·.2))) := by
  refine ⟨fun pins s σ H Q I h => ?_⟩
  rw [eval_ListComp]
  refine lch_core hx hN I hi ok hg ht he hs h fun D C s' m H' I' q hn f => ⟨m, hn, fun h'' sb => ?_⟩
  obtain ⟨g0, g1, g2, g3, g4, g5⟩ := f
  exact ⟨.ref D, H', I'.turned (t' := s'.toks) (fun b o hb e => (sb.2 b hb).trans e) g0 g1 g3 g4 g5, rfl, q⟩
end
end Tw

/-! Tw: try with several clauses, each with a name -/
namespace Tw
open PySem PySem.Spec PyProof.Rows L2
abbrev Cl := Value × Nat × (Addr → Value → Option Addr → TS)
/-- the ends of a clause's suite: its name is gone -/
def endsAs (D : Ends) (i : Nat) : Ends := { nx := fun τ G => D.nx (τ.set i none) G, rt := D.rt, bk := fun τ G => D.bk (τ.set i none) G, ct := fun τ G => D.ct (τ.set i none) G }
/-- what the clauses ask of an exception of the body -/
def wAll (K : PySem.W.Frag) (Wout : WX) (D : Ends) : List Cl → WX
  | [] => Wout
  | (c, i, ts) :: r => fun cls d σ H => ∃ b, PySem.W.exmOne K cls c = some b ∧ (b = true → ∀ a, H a = none → ts a cls d (endsAs D i) (σ.set i (some (.ref a))) H) ∧ (b = false → wAll K Wout D r cls d σ H)
inductive ClsOk (X : Cx) : List ExceptHandler → List Cl → Prop
  | nil : ClsOk X [] []
  | cons {x n : Str} {c : Value} {i : Nat} {ts : Addr → Value → Option Addr → TS} {st : Stmt} {suite : List Stmt} {np pos' : Pos} {hds : List ExceptHandler} {l : List Cl} (hc : Names X x c) (hi : X.N[i]? = some n) (hn : X.env.kindOf n = some .local)
      (hsu : ∀ (a : Addr) (oe : Obj) (cls : Value) (d : Option Addr) (pn : List (Addr × Obj)), L2N.Zn cls d oe → (∃ vs, oe.data = .fields vs) → PSs (X.suite a ((a, oe) :: pn)) (st :: suite) (ts a cls d)) (r : ClsOk X hds l) :
      ClsOk X (.ExceptHandler (some (.Name x np)) (some n) (st :: suite) pos' :: hds) ((c, i, ts) :: l)
section
variable {X : Cx} {body : List Stmt} {h₀ : ExceptHandler} {hds : List ExceptHandler} {l : List Cl} {pos : Pos} {tb : WX → TS} {Wout : WX}
theorem ps_tryAll (hst : X.stack = X.env :: X.outer) (hfm : X.env.frame = some X.env.locals) (hN : X.N.Nodup) (tk : L2N.Takes X Wout)
    (hb : ∀ (W : WX) (pn : List (Addr × Obj)) (xe : Value → Shared → Prop), L2N.Takes (X.tr pn xe) W → PassesOwn (model X.prog X.w) X.A X.env xe → PSs (X.tr pn xe) body (tb W)) (hh : ClsOk X (h₀ :: hds) l) :
    PS X (.Try body (h₀ :: hds) [] [] pos) (fun D σ H => tb (wAll X.K Wout D l) D σ H) := by
  refine ⟨fun pins s σ H D I h => ?_⟩
  have okX := I.ok
  have frX : X.A.frames = some (X.env :: X.outer) := by rw [okX.frames, hst]
  refine wpAny_Try_except (wpAny_mono ((hb (wAll X.K Wout D l) (X.pn ++ pins) (fun e sa => wpAny (model X.prog X.w) X.A (noteFrame e X.env) (fun _ sb => wpAny (model X.prog X.w) X.A (setFlight e none) (fun _ sc =>
    wpAny (model X.prog X.w) X.A (handleBy e X.env (h₀ :: hds)) (SP X pins D) X.xe sc) X.xe sb) X.xe sa) (fun u s' xx => ?_) PassesOwn.looking).run [] s σ H D (I.toTry _) h) (fun fl sa hsp => ?_) (fun e sa q => q))
  · obtain ⟨a, B, sI, pins', τ, G, cls, d, rfl, Ja, nb, up, sky, na, os, ag, w⟩ := xx
    have Jb : Inv X pins τ G sI := Ja.ofTry okX
    have skyB : Sky B (X.env :: X.outer) a (L2N.Zn cls d) X.env.locals s'.heap := by rw [← hst]; exact sky
    show wpAny (model X.prog X.w) X.A (noteFrame (.ref a) X.env) _ _ _
    refine L2N.Sky.land L2N.Zn.steady frX hfm skyB fun hA flA upA => ?_
    have JA : Inv X pins τ G { s' with heap := hA } := Jb.landed nb flA.1 (up.trans upA) os ag
    obtain ⟨oA, vA, eA, zA, dA⟩ := flA.there
    have nfr : a ∉ frs (X.env :: X.outer) := fun hm => by
      obtain ⟨_, o', e', hnf⟩ := flA.2.2.1.mem hm
      rw [eA] at e'; cases e'
      exact hnf _ dA
    have nL : a ≠ X.env.locals := fun z => nfr (List.mem_filterMap.mpr ⟨X.env, List.mem_cons_self, by rw [hfm, z]⟩)
    have nF : a ∉ X.fs := fun hm => let ⟨e, he, q⟩ := List.mem_filterMap.mp hm; nfr (List.mem_filterMap.mpr ⟨e, List.mem_cons_of_mem _ he, q⟩)
    have SA := JA.suite eA dA na nL nF
    have go : ∀ {hs' : List ExceptHandler} {l' : List Cl}, ClsOk X hs' l' → wAll X.K Wout D l' cls d τ G → wpAny (model X.prog X.w) X.A (handleBy (.ref a) X.env hs') (SP X pins D) X.xe { s' with heap := hA } := by
      intro hs' l' hk
      induction hk with
      | nil =>
        intro w
        refine wpAny_handleBy_nil ?_
        obtain ⟨_, _, _, oe, vs, T, oT, ts', he, hz, hd, h1, hr⟩ := id flA
        unfold PySem.passOn
        refine wpAny_bind (wpAny_field he hd h1 ?_)
        rw [if_neg (by simp)]
        have last : wpAny (model X.prog X.w) X.A (setFlight (.ref a) X.env.frame) (fun _ sz => wpAny (model X.prog X.w) X.A (throw (.ref a) : Sem Flow) (SP X pins D) X.xe sz) X.xe { s' with heap := hA } := by
          rw [hfm]
          exact HandSPX.setFlight_upZ flA fun hB heldB upB => wpAny_throw (tk _ _ ⟨a, B, sI, pins, τ, G, cls, d, rfl, Jb, nb, (up.trans upA).trans upB, .inr (.inr (by rw [hst]; exact heldB)), na, os, ag, w⟩)
        first
          | exact wpAny_bind (wpAny_pure (wpAny_bind last))
          | exact wpAny_bind last
      | @cons x n c i ts st suite np pos' hs2 l2 hc hi hn hsu r ih =>
        intro w
        obtain ⟨b, hb1, yes, no⟩ := w
        refine wpAny_handleBy_cons (codeAny_handlers_test ?_) (by intro q; cases q)
        have lookT : PySem.W.Looks (model X.prog X.w) hA (typeOf (.ref a)) cls := fun A Q E s k q => wpAny_typeOf_ref (k _ _ eA) (by rw [zA.1]; exact q)
        have lookM := PySem.W.exm_one (M := model X.prog X.w) JA.kIn lookT hb1
        have named : ∀ {Q : Value → Shared → Prop} {E : Value → Shared → Prop}, Q c { s' with heap := hA } → wpAny (model X.prog X.w) (X.A.mark (some (.ref a))) (eval (.Name x np) X.env) Q E { s' with heap := hA } := fun {Q E} q => by
          obtain ⟨hg, hdbg, hm | ⟨hm, hv, hnn⟩⟩ := hc
          · exact ld_glob (X := X.suite a ((a, oA) :: (X.pn ++ pins))) SA hg hm q hdbg
          · exact ld_blt (X := X.suite a ((a, oA) :: (X.pn ++ pins))) SA hg hm hv q hnn hdbg
        refine named (lookM.here ?_)
        cases b with
        | false => exact ih (no rfl)
        | true =>
          refine codeAny_handlers_suite_as (HandSPX.lands_againZ flA fun hB flB upB => ?_)
          have JB : Inv X pins τ G { s' with heap := hB } := Jb.landed nb flB.1 ((up.trans upA).trans upB) os ag
          obtain ⟨oB, vB, eB, zB, dB⟩ := flB.there
          have SB := JB.suite eB dB na nL nF
          refine store_ok (X := X.suite a ((a, oB) :: (X.pn ++ pins))) (v := .ref a) SB hN hi (.inl hn) rfl (fun sC SC => ?_) (.inr hn)
          refine wpAny_mono ((hsu a oB cls d (X.pn ++ pins) zB ⟨_, dB⟩).run [] sC _ G _ SC (yes rfl a na)) (fun fl sD hsp => ?_) (fun _ _ z => z.elim)
          have leave : ∀ {τ' : L2.St} {G' : Hp} {Q : Shared → Prop}, Inv (X.suite a ((a, oB) :: (X.pn ++ pins))) [] τ' G' sD → (∀ sE, Inv X pins (τ'.set i none) G' sE → Q sE) →
              wpAny (model X.prog X.w) X.A (do bindName X.env n .none; unbindBehindTheSuite X.env n pos') (fun _ sE => Q sE) X.xe sD := fun {τ' G' Q} S q => gone_ok (S.unsuite okX) hN hi hn q
          cases fl with
          | next => obtain ⟨τ', G', S, q⟩ := hsp; exact leave S fun sE J => ⟨_, _, J, q⟩
          | brk => obtain ⟨τ', G', S, q⟩ := hsp; exact leave S fun sE J => ⟨_, _, J, q⟩
          | cont => obtain ⟨τ', G', S, q⟩ := hsp; exact leave S fun sE J => ⟨_, _, J, q⟩
          | ret u => obtain ⟨v', τ', G', S, rv, q⟩ := hsp; exact leave S fun sE J => ⟨_, _, _, J, rv, q⟩
    exact go hh w
  · cases fl with
    | next => obtain ⟨τ, G, J, q⟩ := hsp; exact wpAny_execs_nil ⟨τ, G, J.ofTry okX, q⟩
    | brk => obtain ⟨τ, G, J, q⟩ := hsp; exact ⟨τ, G, J.ofTry okX, q⟩
    | cont => obtain ⟨τ, G, J, q⟩ := hsp; exact ⟨τ, G, J.ofTry okX, q⟩
    | ret u => obtain ⟨v, τ, G, J, rv, q⟩ := hsp; exact ⟨v, τ, G, J.ofTry okX, rv, q⟩
end
end Tw

/-! Tw: a caught exception asked for its classes -/
namespace Tw
open PySem PySem.Spec PyProof.Rows L2 HotX
/-- what an own class of exceptions must say -/
structure ExQ (K : PySem.W.Frag) (D : Addr) : Prop where
  cl : (PySem.W.clsIn K D).isSome = true
  ga : PySem.W.findIn K (.ref D) "__getattribute__" = some (some (.builtin "BaseException.__getattribute__"))
  gt : ∃ g, PySem.W.findIn K (.ref D) "__getattr__" = some g
  su : PySem.W.subIn K (.ref D) (.type "BaseException") = some true
  ca : PySem.W.findIn K (.ref D) "__class__" = some (some (.builtin "object.__class__"))
  sp : PySem.W.specialIn K (.builtin "object.__class__") "__get__" = some (some (.builtin "getset_descriptor.__get__"))
  tk : PySem.W.takesIn K (.builtin "object.__class__") = some true
  mr : PySem.W.mroIn K D (.type "object") = some true
/-- isinstance(e, c), e the exception pinned at a, its dict known -/
def rIsP (K : PySem.W.Frag) (D a : Addr) : List V → Hp → VK → Prop := fun xs H Q => ∃ (c : V) (cv : Value) (b : Bool), xs = [.ref a, c] ∧ (∀ u, RelV c u → u = cv) ∧ PySem.W.kitOne K (.ref D) cv = some b ∧ Q (.bl b) H
theorem call_isP {X : Cx} {a D : Addr} {oe : Obj} (hp : (a, oe) ∈ X.pn) (C : ExQ X.K D) (hc : oe.cls = .ref D) (hd : ∀ dx, oe.dict = some dx → dx ∉ X.ex ∧ ∃ o, X.s_0.heap.get? dx = some o) (hf : ∃ vs, oe.data = .fields vs) : CallR X (.builtin "isinstance") (rIsP X.K D a) := by
  intro pins s σ H xs us Q I r h
  obtain ⟨c, cv, b, rfl, hcv, e, q⟩ := h
  cases r with
  | cons rx rr => cases rr with
    | cons rt rr =>
      cases rr; cases rx
      have ec := hcv _ rt
      subst ec
      obtain ⟨hget, _⟩ := I.pin (a, oe) (List.mem_append.mpr (.inl hp))
      obtain ⟨vs, hv⟩ := hf
      obtain ⟨g, hg⟩ := C.gt
      have no : PySem.W.notCls oe = true := by unfold PySem.W.notCls; rw [hv] <;> rfl
      have J : ∃ od, PySem.W.InstAt s.heap a oe D od := by
        cases ho : oe.dict with
        | none => exact ⟨none, hget, hc, no, by rw [ho]; trivial⟩
        | some dx =>
          obtain ⟨hxe, o0, ho0⟩ := hd dx ho
          obtain ⟨o, hoo⟩ := I.base.there dx o0 ho0 hxe
          exact ⟨some o, hget, hc, no, by rw [ho]; exact hoo⟩
      obtain ⟨od, J⟩ := J
      exact PySem.W.kia_one (PySem.W.kitx_exc (od := od) C.cl C.ga hg C.su C.ca C.sp C.tk C.mr) I.kIn J e (fun z => nomatch z) fun tk => ⟨.bl b, H, I.kept (t' := tk) fun _ _ z => z, rfl, q⟩
section
variable {X : Cx} {ρ : Env'} {a D : Addr} {oe : Obj} {x y : Str} {px qx p pos : Pos}
/-- a class of the module, by its name -/
theorem pe_cls {C : Addr} (hg : Gl X y) (hm : X.mg y = some (.ref C)) (hdb : (y == ("__debug__" : Str)) = false) : PE X (.Name y qx) (tC (.ref C)) := pe_glob (v := .ref C) (hd := hdb) hg hm rfl
theorem de_isX {b : Bool} (i : Nat) (hp : (a, oe) ∈ X.pn) (C : ExQ X.K D) (hc : oe.cls = .ref D) (hd : ∀ dx, oe.dict = some dx → dx ∉ X.ex ∧ ∃ o, X.s_0.heap.get? dx = some o) (hf : ∃ vs, oe.data = .fields vs) (hρ : ρ[i]? = some (.val (.ref a))) (hm : X.mg "isinstance" = none)
    (hcl : (∃ C', X.mg y = some (.ref C') ∧ PySem.W.kitOne X.K (.ref D) (.ref C') = some b) ∨ (∃ T, X.mg y = none ∧ bootBuiltins y = some (.type T) ∧ y ≠ "__name__" ∧ PySem.W.kitOne X.K (.ref D) (.type T) = some b)) (hgy : Gl X y := by rfl) (hdy : (y == ("__debug__" : Str)) = false := by decide)
    (hxN : X.N[i]? = some x := by rfl) (hv : Vis X.env.scope x := by first | exact Or.inl rfl | exact Or.inr (Or.inl rfl) | exact Or.inr (Or.inr rfl)) (hdx : (x == ("__debug__" : Str)) = false := by decide) (hcd : (x == ("__classdict__" : Str)) = false := by decide) (hg : Gl X "isinstance" := by rfl)
    (hs : starEach [.Name x px, .Name y qx] X.env = (false, eval (.Name x px) X.env) :: starEach [.Name y qx] X.env := by rfl) (hpl : (backTo pos (starEach [.Name y qx] X.env)).any (·.1) = false := by rfl) (hs2 : starEach [.Name y qx] X.env = (false, eval (.Name y qx) X.env) :: starEach [] X.env := by rfl) :
    DE X ρ (.Call (.Name "isinstance" p) [.Name x px, .Name y qx] [] pos) (.bool b) := by
  have go : ∀ {c : V} {cv : Value}, PE X (.Name y qx) (tC c) → (∀ u, RelV c u → u = cv) → PySem.W.kitOne X.K (.ref D) cv = some b → DE X ρ (.Call (.Name "isinstance" p) [.Name x px, .Name y qx] [] pos) (.bool b) := fun {c cv} hc' hr hk =>
    PE.imp (pe_callB (call_isP hp C hc hd hf) hg hm (by decide +kernel) (pa_cons (pe_var hxN hv hdx hcd) (pa_cons hc' pa_nil hs2) hs) (by decide) (by decide) hs hpl) fun σ H Q ⟨F, ok, k⟩ => by
      obtain ⟨o, h1, h2⟩ := ok.at_ i _ hρ
      have h2' : o = some (.ref a) := h2
      subst h2'
      exact ⟨.ref a, h1, c, cv, b, rfl, hr, hk, k _ F H (GrowX.refl ok.s) (.bl b)⟩
  rcases hcl with ⟨C', h1, h2⟩ | ⟨T, h1, h2, h3, h4⟩
  · exact go (pe_cls hgy h1 hdy) (fun u r => r) h2
  · exact go (pe_bltn (v := .ty T) hgy h1 h2 rfl h3 hdy) (fun u r => r) h4
end
/-! ## comprehensions, hot, on data -/
section
variable {X : Cx} {ρ : Env'} {x1 : Addr} {oe : Obj}
theorem PIX.imp {tg iter : Expr} {wi wi' : TI} (h : PIX X x1 tg iter wi) (i : ∀ σ H R, wi' σ H R → wi σ H R) : PIX X x1 tg iter wi' := ⟨fun pins s σ H R I q => h.run pins s σ H R I (i σ H R q)⟩
theorem di_zipH {e e2 : Expr} {p pos tpos : Pos} {elts : List Expr} {kk : Nat} {ds es : List PyData} (ha : DA X ρ [e, e2] [.list ds, .list es]) (hm : X.mg "zip" = none) (hg : Gl X "zip" := by rfl) (hs : starEach [e, e2] X.env = (false, eval e X.env) :: starEach [e2] X.env := by rfl) (hpl : (backTo pos (starEach [e2] X.env)).any (·.1) = false := by rfl) :
    PIX X x1 (.Tuple elts kk tpos) (.Call (.Name "zip" p) [e, e2] [] pos) (tDI ρ (zipD ds es)) :=
  PIX.imp (pi_zipX hg hm ha hs hpl) fun σ H R ⟨F, ok, k⟩ => ⟨F, ok, fun vs F2 H2 g r => by
    cases r with
    | cons r rr => cases rr with
      | cons r' rr =>
        cases rr
        obtain ⟨a, xs, rfl, h1, r1⟩ := r.lst_inv
        obtain ⟨b, ys, rfl, h2, r2⟩ := r'.lst_inv
        refine ⟨a, b, xs, ys, rfl, SqL.of (g.s _ _ h1), SqL.of (g.s _ _ h2), k _ F2 H2 g fun i F1 H' e1 e2 => ⟨fun d hd => ?_, fun hn => ?_⟩⟩
        · obtain ⟨x, y, h3, h4, rfl⟩ := zipD_get hd
          obtain ⟨v, hx, rx⟩ := r1.get h3
          obtain ⟨u, hy, ry⟩ := r2.get h4
          have q1 : SqL X.K H' a xs := SqL.of (e2 _ _ (e1 _ _ h1))
          have q2 : SqL X.K H' b ys := SqL.of (e2 _ _ (e1 _ _ h2))
          refine ⟨⟨xs, ys, v, u, q1, q2, hx, hy⟩, fun _ H'' ⟨T, z1, z2, w1, w2, w3, w4, w5⟩ => ?_⟩
          have e3 := w4 xs q1
          have e4 := w5 ys q2
          rw [hx] at e3; cases e3
          rw [hy] at e4; cases e4
          subst w1 w3
          exact pair_new e2 w2 (rx.mono e1) (ry.mono e1)
        · exact ⟨xs, ys, SqL.of (e2 _ _ (e1 _ _ h1)), SqL.of (e2 _ _ (e1 _ _ h2)), by rw [r1.len, r2.len]; exact zipD_none hn⟩⟩
theorem dg_tupH {es : List Expr} {ds : List PyData} {ρ1 : Env'} {is : List Nat} {pos : Pos} {k : Nat} (hot : HotI X x1) (h : DGs X ρ es ds ρ1 is) (hn : (assignEach es X.env).length = ds.length := by rfl) (hst : (assignEach es X.env).findIdx? (·.1) = none := by rfl) : DG X ρ (.Tuple es k pos) (.tuple ds) ρ1 is :=
  ⟨PG.imp (pg_tupH hot h.1 hn hst) fun v σ H Q ⟨F, ok, r, k⟩ => by
    obtain ⟨a, xs, rfl, h1, r1⟩ := r.tup_inv
    exact ⟨a, xs, rfl, SqT.of (ok.s _ _ h1), r1.len, F, ok, r1, k⟩, h.2⟩
theorem de_lcH {α : Type} {xs : List α} {enc : α → PyData} {elt tg iter : Expr} {ifs : List Expr} {scope : Scope} {pos : Pos} {own : List (Str × Nat)} (g : α → Env') (b : α → Bool) (f : α → PyData) (is : List Nat) (hx : HotX1 X x1 oe) (hN : X.N.Nodup) (ok : BlkOk X.N X.env.scope scope own) (hi : PIX X x1 tg iter (tDI ρ (xs.map enc)))
    (hg : ∀ x ∈ xs, BlkH X x1 scope fun Y => DG Y (wipeE ρ (own.map (·.2))) tg (enc x) (g x) is) (ht : ∀ x ∈ xs, BlkH X x1 scope fun Y => DTs Y (g x) ifs (b x)) (he : ∀ x ∈ xs, b x = true → BlkH X x1 scope fun Y => DE Y (g x) elt (f x))
    (his : ∀ i ∈ is, i ∈ own.map (·.2)) (hl : xs.length ≤ sizeLine) (hs : ∀ x, foldedSetIterable iter X.env x = pure x := by intro _; rfl) :
    DE X ρ (.ListComp elt [⟨tg, iter, ifs, 0⟩] scope pos) (.list ((xs.filter b).map f)) :=
  PE.imp (pe_lcH hx hN hi ok (fun s H C cl fp hot => PG.any fun x hx => (hg x hx s H C cl fp hot).1) (fun s H C cl fp hot => PTs.any fun x hx => ht x hx s H C cl fp hot) (fun s H C cl fp hot => PE.any fun x hx => he x hx.1 hx.2 s H C cl fp hot) hs) (lc_read g b f is (own.map (·.2)) his hl)
theorem RpA.strs {F : Hp} : ∀ {ys : List Str} {xs : List V}, RpA F xs (ys.map .str) → xs = ys.map V.str
  | [], _, h => by cases h; rfl
  | y :: ys, _, h => by
    cases h with
    | cons r rr => rw [RpA.strs rr, r.str_inv]; rfl
theorem de_join {o e : Expr} {a : Str} {ys : List Str} {apos pos : Pos} (ho : DE X ρ o (.str a)) (he : DE X ρ e (.list (ys.map .str))) (hz : (ys.map (·.length)).sum + ys.length * a.length ≤ 16777216) (hs : starEach [e] X.env = [(false, eval e X.env)] := by rfl) (hbase : attributeBase o "join" X.env (eval o X.env) = eval o X.env := by rfl) (hline : (apos.endLine == pos.line) = true := by rfl) :
    DE X ρ (.Call (.Attribute o "join" apos) [e] [] pos) (.str (Txt.join a ys)) :=
  PE.imp (pe_join ho he hs hbase hline) fun σ H Q ⟨F, ok, k⟩ => ⟨F, ok, fun v F2 H2 g r => ⟨⟨a, r.str_inv⟩, F2, ok.grow g, fun u F3 H3 g3 r3 => by
    obtain ⟨p, xs, rfl, h1, r1⟩ := r3.lst_inv
    have hxs := r1.strs
    subst hxs
    exact ⟨a, p, ys, (r.mono g3.f).str_inv, rfl, .inl (SqL.of (g3.s _ _ h1)), hz, k _ F3 H3 (g.trans g3) (.str _)⟩⟩⟩
end
end Tw

/-! Tw: a lambda without parameters, handed to a def that calls it; its exceptions' context is None -/
namespace Tw
open PySem PySem.Spec PyProof.Rows L2
theorem codeO_plain (c : Addr) (q : Str) : plB (LamX.CodeO c q) = true := rfl
section
variable {X : Cx} {pins : List (Addr × Obj)} {σ : L2.St} {F H : Hp} {s : Shared}
/-- the table P grows by one code object at c' -/
theorem grow_table {P c' : Addr} {ps more : Array Value} {pos : Pos} (hs : Same F H) (t : TabF F H P) (hP : H P = some (.tbl ps)) (hc : H c' = none) (e : (ps ++ more).toList = ps.toList ++ [rawInt pos.line, rawInt pos.col, .ref c']) :
    Grow F H (upd F c' (LamX.CodeO c' tnQ)) (upd (upd H P (.tbl (ps ++ more))) c' (LamX.CodeO c' tnQ)) := by
  have nPc : P ≠ c' := ne_of_none hP hc
  have fc : F c' = none := same_none hs hc
  have fP := t.1
  have s1 : Same F (upd F c' (LamX.CodeO c' tnQ)) := Same.upd_new fc
  refine ⟨s1, fun b u q => ?_, fun b u _ q hn => ?_, fun b q => ?_, fun b q1 q2 => ?_, fun b q => ?_, fun b tb => ?_⟩
  · by_cases h1 : b = c'
    · subst h1; rw [upd_same] at q ⊢; exact q
    · rw [upd_ne h1] at q ⊢
      have h2 : b ≠ P := fun z => by subst z; rw [fP] at q; cases q
      rw [upd_ne h2]; exact hs b u q
  · have h1 : b ≠ c' := ne_of_none q hc
    have h2 : b ≠ P := fun z => by subst z; rw [hP] at q; cases q; cases hn
    rw [upd_ne h1, upd_ne h2]; exact q
  · by_cases h1 : b = c'
    · subst h1; rw [upd_same]; simp
    · rw [upd_ne h1]
      by_cases h2 : b = P
      · subst h2; rw [upd_same]; simp
      · rw [upd_ne h2]; exact q
  · have h1 : b ≠ c' := fun z => by subst z; exact q2.ne hc
    rw [upd_ne h1]; exact q1
  · have h1 : b ≠ c' := fun z => by subst z; exact q.ne hc
    obtain ⟨u, z1, z2⟩ := q
    have h2 : b ≠ P := fun z => by subst z; rw [hP] at z1; cases z1; cases z2
    exact ⟨u, by rw [upd_ne h1, upd_ne h2]; exact z1, z2⟩
  · by_cases h2 : b = P
    · subst h2
      obtain ⟨_, ps', y1, y2, y3⟩ := tb
      rw [hP] at y1; cases y1
      refine ⟨by rw [upd_ne nPc]; exact fP, _, by rw [upd_ne nPc, upd_same], by rw [e]; exact PySem.TriplesOk_snoc _ _ _ _ y2, fun p' cv hcv => ?_⟩
      rw [e] at hcv
      rcases LamX.among_app _ y2 hcv with z | z
      · obtain ⟨c0, e1, e2⟩ := y3 p' cv z
        exact ⟨c0, e1, s1 _ _ e2⟩
      · exact ⟨c', z, upd_same⟩
    · obtain ⟨ps', y1⟩ := tb.is
      have h1 : b ≠ c' := ne_of_none y1 hc
      exact tb.to s1 (by rw [upd_ne h1]; exact tb.1) (by rw [upd_ne h1, upd_ne h2])
/-- a lambda is made -/
theorem lam_new {c P : Addr} {params : Arguments} {body : Expr} {scope : Scope} {pos : Pos} {E : Value → Shared → Prop} {Q : Value → Shared → Prop} (I : Inv X pins σ H s) (TB : LamX.TabB X.base X.mg c P) (hcd : X.env.code = .ref c) (hq : X.env.qual ++ "<lambda>" = tnQ) (hs : Same F H) (t : TabF F H P)
    (hdf : defaultsOf params X.env = ([], [])) (hfr : ∀ y ∈ scope.names, y.2 = .free → ∃ c, X.env.cells.lookup y.1 = some c)
    (h : ∀ (f c' : Addr) (pm ctv : Value) (F1 H1 : Hp) (s' : Shared), Inv X pins σ H1 s' → Grow F H F1 H1 → F1 c' = some (LamX.CodeO c' tnQ) → s'.heap.get? f = some (PySem.W.kla_obj "<lambda>" tnQ params body scope (cloFrom X.env.cells scope.names []) pm c' ctv) → H1 f = none → f ∉ frs X.stack → Q (.ref f) s') :
    wpAny (model X.prog X.w) X.A (eval (.Lambda params body scope pos) X.env) Q E s := by
  obtain ⟨fP, ps, hP, ht, ha⟩ := id t
  refine PySem.W.kla_eval hdf ?_
  rw [hq]
  have bP : s.heap.BuiltinsAt X.mg P := TB.bm.keeps I.bk
  have oP : s.heap.get? P = some { cls := .none, data := .fields ps } := I.hok P _ hP
  have away : ∀ b, s.heap.objs.size ≤ b → b ∉ frs X.stack := fun b hb z => by
    rcases List.mem_cons.mp (I.stkSub _ z) with e | e
    · subst e; exact Nat.lt_irrefl _ (Nat.lt_of_lt_of_le I.lt hb)
    · exact I.nofs hb e
  cases hc : codeAmong pos ps.toList with
  | some cv =>
    obtain ⟨c', rfl, hco⟩ := ha pos cv hc
    refine PySem.W.kla_makeFunctionHit (closure_ok hfr) I.ok.glob (I.mod.glob.keeps I.bk) hcd (TB.code.keeps I.bk) oP ht hc bP fun ctv h' tk hx hz => ?_
    exact h _ c' _ ctv F H _ (I.kept fun b o e => Heap.get?_push_of_some _ (hx b o e)) (GrowX.refl hs) hco (Heap.get?_push_size _ rfl) (I.hok.fresh hz) (away _ hz)
  | none =>
    refine PySem.W.kla_makeFunction (closure_ok hfr) I.ok.glob (I.mod.glob.keeps I.bk) hcd (TB.code.keeps I.bk) oP ht hc TB.gP bP fun c' ctv h' tk hx hge hlt hrec htb => ?_
    obtain ⟨c2, oc, vs, t2, e2, hoc, hd, hv⟩ := hrec
    cases e2
    have hz : s.heap.objs.size ≤ h'.objs.size := Nat.le_trans hge (Nat.le_of_lt hlt)
    have nC : H c' = none := I.hok.fresh hge
    have I1 := LamX.inv_table (t' := tk) (more := #[rawInt pos.line, rawInt pos.col, .ref c']) (q := tnQ) (h' := h'.push (PySem.W.kla_obj "<lambda>" tnQ params body scope (cloFrom X.env.cells scope.names []) ((X.mg "__name__").getD .none) c' ctv)) I hP
      (fun b o hb e => Heap.get?_push_of_some _ (hx b o hb e)) (Heap.get?_push_of_some _ htb) hge ⟨oc, vs, t2, Heap.get?_push_of_some _ hoc, hd, hv⟩
    refine h _ c' _ ctv _ _ _ I1 (grow_table (pos := pos) hs t hP nC (by simp)) upd_same (Heap.get?_push_size _ rfl) ?_ (away _ hz)
    have n1 : h'.objs.size ≠ c' := Nat.ne_of_gt hlt
    have n2 : h'.objs.size ≠ P := Nat.ne_of_gt (Nat.lt_of_lt_of_le (Heap.lt_size oP) hz)
    rw [upd_ne n1, upd_ne n2]
    exact I.hok.fresh hz
end
/-- the context of the lambda's body -/
abbrev lamN (X : Cx) (A : Around) (outer : List Env) (s : Shared) (H : Hp) (E : XK) (scope : Scope) (f c' : Addr) : Cx :=
  (LamX.lamCx X A outer s H E scope f c').wish fun e s' => wpAny (model X.prog X.w) (A.deeper (LamX.lamEnv X scope s.heap.objs.size f c')) (leaving (LamX.lamEnv X scope s.heap.objs.size f c') e) (fun _ s2 => L2N.CX X.prog X.w outer H s E e s2) (fun e2 s2 => L2N.CX X.prog X.w outer H s E e2 s2) s'
theorem takes_lam {X : Cx} {A : Around} {outer : List Env} {s : Shared} {H : Hp} {E : XK} {scope : Scope} {f c' : Addr} : L2N.Takes (lamN X A outer s H E scope f c') (fun cls d _ H' => E cls d H') :=
  L2N.takes_of (X := lamN X A outer s H E scope f c') rfl rfl rfl rfl
/-- what the body of a lambda may come to -/
inductive Res where
  | ok (d : PyData)
  | ex (C : Addr) (m : Option Int)
/-- what is raised: its class, its dict, which stands still -/
def ExIs (C : Addr) (m : Option Int) (cls : Value) (d : Option Addr) (H : Hp) : Prop := cls = .ref C ∧ match m with
  | none => d = none
  | some n => ∃ dx, d = some dx ∧ H dx = some (.xd [("most", .int n)])
def tRes (ρ : Env') (r : Res) (E : XK) : TE := fun σ H Q => ∃ F, Ok F H ρ σ ∧ match r with
  | .ok d => ∀ v F2 H2, Grow F H F2 H2 → Rp F2 v d → Q v H2
  | .ex C m => ∀ cls d F2 H2, Grow F H F2 H2 → ExIs C m cls d F2 → E cls d H2
section
variable {X : Cx} {pins : List (Addr × Obj)} {σ : L2.St} {F H : Hp} {s : Shared}
/-- door(), in the def that got the lambda -/
theorem pe_door {CXg : CXT} {Eg : XK} {Ng : List Str} {qg : Str} {sg : Scope} {g f c' : Addr} {cdg pm ctv : Value} {params : Arguments} {body : Expr} {scope : Scope} {k i : Nat} {a : Str} {pn : List (Addr × Obj)} {xe : Value → Shared → Prop} {W : WX} {tb : XK → TE} {p1 p2 : Pos}
    (I : Inv X pins σ H s) (L : LamX.LamS X.env.scope scope) (hq : X.env.qual ++ "<lambda>" = tnQ) (hf : s.heap.get? f = some (PySem.W.kla_obj "<lambda>" tnQ params body scope (cloFrom X.env.cells scope.names []) pm c' ctv)) (hfn : H f = none) (hfr : f ∉ frs X.stack)
    (hbind : ∀ (q : Str) (cl : List (Str × Addr)) (pm cv ctv : Value), bindArgs (PySem.W.kla_fn "<lambda>" q params body scope cl pm cv ctv) ⟨[], []⟩ = pure [])
    (tk : L2N.Takes ((cxOf CXg X.prog X.w X.K X.mg X.base Ng qg sg g cdg X.A X.stack s H Eg).tr pn xe) W) (hr : Room (k + 1) (X.A.deeper (envOfC qg sg s.heap.objs.size g cdg)))
    (hbody : ∀ (A : Around) (outer : List Env) (s : Shared) (H : Hp) (E : XK), Room k (A.deeper (LamX.lamEnv X scope s.heap.objs.size f c')) → PE (lamN X A outer s H E scope f c') body (tb E))
    (hN : Ng[i]? = some a) (hv : Vis sg a) (hd : (a == ("__debug__" : Str)) = false := by decide) (hcd : (a == ("__classdict__" : Str)) = false := by decide) :
    PE ((cxOf CXg X.prog X.w X.K X.mg X.base Ng qg sg g cdg X.A X.stack s H Eg).tr pn xe) (.Call (.Name a p1) [] [] p2)
      (fun σZ HZ Q => σZ[i]? = some (some (.ref f)) ∧ HZ c' = some (LamX.CodeO c' tnQ) ∧ tb (fun cls d H' => W cls d σZ H') σ HZ Q) := by
  refine ⟨fun pz sz σZ HZ Q IZ ⟨h1, h2, h3⟩ => ?_⟩
  refine wpAny_Call_Name_kw (thn ((pe_var (pos := p1) (i := i) hN hv hd hcd).run pz sz σZ HZ (fun v H1 => v = .ref f ∧ H1 = HZ) IZ ⟨.ref f, h1, rfl, rfl⟩) fun u s1 ⟨v, H1, I1, r1, ev, eH⟩ => ?_)
  subst ev eH
  obtain rfl : u = Value.ref f := r1
  have un : Un (frs X.stack) [] H H1 s.heap s1.heap := I1.base
  have o1 := I1.base.keep f _ hf hfn hfr (fun z => nomatch (show f ∈ ([] : List Addr) from z))
  refine PySem.W.callWith_F0 ⟨_, _, _, _, o1⟩ ?_
  obtain ⟨⟨oc, vs, t, hoc, hdc, hvc⟩, _, _⟩ := I1.hok c' _ h2
  have go : codeAny (model X.prog X.w) (X.A.deeper (envOfC qg sg s.heap.objs.size g cdg)) (.call (.ref f) ⟨[], []⟩) (CR (L2N.CX X.prog X.w) (envOfC qg sg s.heap.objs.size g cdg :: X.stack) X.prog X.w H1 s1 Q (fun cls d H' => W cls d σZ H')) s1 := by
    refine PySem.W.kla_callFunE hr.depth o1 rfl L.co L.gen rfl ⟨c', oc, vs, t, rfl, hoc, hdc, hvc⟩ ?_
    rw [hbind]
    refine wpAny_pure (wpAny_newFunctionEnv (fun y hy => (L.own y hy).2) (fun y hy => absurd hy (by simp)) (fun h₁ hns hsb => ⟨I1.nolimit.fresh _ hsb, ?_⟩) L.kind)
    have kp : ∀ b o, s1.heap.get? b = some o → h₁.get? b = some o := fun b o e => hsb.extBut b o (Nat.ne_of_lt (Heap.lt_size e)) (Heap.get?_push_of_some _ e)
    have J := LamX.lam_start2 (E := fun cls d H' => W cls d σZ H') (f := f) (c' := c') (tk := s1.toks + ([] : List (Str × Value)).length) I L I1.env0 hr.hd un hns kp
    rw [← hq]
    refine PySem.W.kla_codeExpr (wpAny_mono ((hbody _ _ s1 H1 _ (hr.deeper _)).run [] _ _ H1 Q (J.wish _) h3) (fun v s' ⟨w', H', J', rv, q⟩ => ⟨w', H', J'.os, J'.bare, J'.base, J'.hok, rv, q⟩) fun e s' z => z)
  refine wpAny_call (codeAny_mono go fun r s' z => ?_)
  cases r with
  | error e => exact tk e s' (L2N.XE.of_call I1 (fun _ _ _ y => y) z)
  | ok fl =>
    cases fl with
    | ret u => exact I1.after z
    | next => exact False.elim z
    | brk => exact False.elim z
    | cont => exact False.elim z
end
end Tw

/-! Tw: expressions read over a base: what stood there is still told -/
namespace Tw
open PySem PySem.Spec PyProof.Rows L2
def tDB (ex : List Addr) (F0 H0 : Hp) (ρ : Env') (d : PyData) : TE := fun σ H Q => ∃ F, GrowX ex F0 H0 F H ∧ Ok F H ρ σ ∧ ∀ v F2 H2, Grow F H F2 H2 → Rp F2 v d → Q v H2
def tDTB (ex : List Addr) (F0 H0 : Hp) (ρ : Env') (b : Bool) : TT := fun σ H Q => ∃ F, GrowX ex F0 H0 F H ∧ Ok F H ρ σ ∧ ∀ F2 H2, Grow F H F2 H2 → Q b H2
def tDAB (ex : List Addr) (F0 H0 : Hp) (ρ : Env') (ds : List PyData) : TA := fun σ H Q => ∃ F, GrowX ex F0 H0 F H ∧ Ok F H ρ σ ∧ ∀ vs F2 H2, Grow F H F2 H2 → RpA F2 vs ds → Q vs H2
abbrev DEB (X : Cx) (ex : List Addr) (F0 H0 : Hp) (ρ : Env') (e : Expr) (d : PyData) : Prop := PE X e (tDB ex F0 H0 ρ d)
abbrev DTB (X : Cx) (ex : List Addr) (F0 H0 : Hp) (ρ : Env') (e : Expr) (b : Bool) : Prop := PT X e (tDTB ex F0 H0 ρ b)
abbrev DWB (X : Cx) (ex : List Addr) (F0 H0 : Hp) (ρ : Env') (e : Expr) (b : Bool) : Prop := PW X e (tDTB ex F0 H0 ρ b)
abbrev DAB (X : Cx) (ex : List Addr) (F0 H0 : Hp) (ρ : Env') (es : List Expr) (ds : List PyData) : Prop := PA X es (tDAB ex F0 H0 ρ ds)
section
variable {X : Cx} {ex : List Addr} {F0 H0 : Hp} {ρ : Env'} {a b c e : Expr} {es : List Expr} {d d1 d2 : PyData} {ds : List PyData} {sts : List Stmt} {A : Aims} {pos : Pos}
theorem deb_of (h : DE X ρ e d) : DEB X ex F0 H0 ρ e d := PE.imp h fun σ H Q ⟨F, _, ok, k⟩ => ⟨F, ok, k⟩
theorem dtb_of {x : Bool} (h : DT X ρ e x) : DTB X ex F0 H0 ρ e x := PT.imp h fun σ H Q ⟨F, _, ok, k⟩ => ⟨F, ok, k⟩
theorem deb_is (h : DEB X ex F0 H0 ρ e d1) (q : d1 = d2) : DEB X ex F0 H0 ρ e d2 := q ▸ h
theorem dtb_is {x y : Bool} (h : DTB X ex F0 H0 ρ e x) (q : x = y) : DTB X ex F0 H0 ρ e y := q ▸ h
theorem deb_op {op : Operator} {r : R2} (ho : OpR X (binaryOp op) r) (ha : DEB X ex F0 H0 ρ a d1) (hb : DEB X ex F0 H0 ρ b d2) (hr : V2 r d1 d2 d) : DEB X ex F0 H0 ρ (.BinOp a op b pos) d :=
  PE.imp (pe_op ho ha hb) fun σ H Q ⟨F, g0, ok, k⟩ => ⟨F, g0, ok, fun v1 F1 H1 g1 r1 => ⟨F1, g0.trans g1.up, ok.grow g1, fun v2 F2 H2 g2 r2 => hr F2 H2 v1 v2 g2.s (r1.mono g2.f) r2 Q fun v F3 H3 g3 r3 => k v F3 H3 (g1.trans (g2.trans g3)) r3⟩⟩
theorem dab_nil : DAB X ex F0 H0 ρ [] [] := PA.imp pa_nil fun σ H Q ⟨F, _, ok, k⟩ => k _ F H (GrowX.refl ok.s) .nil
theorem dab_cons (ha : DEB X ex F0 H0 ρ e d) (hr : DAB X ex F0 H0 ρ es ds) (hs : starEach (e :: es) X.env = (false, eval e X.env) :: starEach es X.env := by rfl) : DAB X ex F0 H0 ρ (e :: es) (d :: ds) :=
  PA.imp (pa_cons ha hr hs) fun σ H Q ⟨F, g0, ok, k⟩ => ⟨F, g0, ok, fun v F2 H2 g r => ⟨F2, g0.trans g.up, ok.grow g, fun vs F3 H3 g3 r3 => k _ F3 H3 (g.trans g3) (.cons (r.mono g3.f) r3)⟩⟩
theorem deb_callB {x : Str} {p : Pos} {id : String} {r : List V → Hp → VK → Prop} (hc : CallR X (.builtin id) r) (hm : X.mg x = none) (hv : bootBuiltins x = some (.builtin id)) (ha : DAB X ex F0 H0 ρ (e :: es) ds) (hr : VN r ds d) (hg : Gl X x := by rfl) (hn : x ≠ "__name__" := by decide) (hdb : (x == ("__debug__" : Str)) = false := by decide)
    (he : starEach (e :: es) X.env = (false, eval e X.env) :: starEach es X.env := by rfl) (hpl : (backTo pos (starEach es X.env)).any (·.1) = false := by rfl) : DEB X ex F0 H0 ρ (.Call (.Name x p) (e :: es) [] pos) d :=
  PE.imp (pe_callB hc hg hm hv ha hn hdb he hpl) fun σ H Q ⟨F, g0, ok, k⟩ => ⟨F, g0, ok, fun vs F2 H2 g r => hr F2 H2 vs g.s r Q fun v F3 H3 g3 r3 => k v F3 H3 (g.trans g3) r3⟩
theorem deb_callTy {x : Str} {p : Pos} {id : String} {r : List V → Hp → VK → Prop} (hc : CallR X (.type id) r) (hm : X.mg x = none) (hv : bootBuiltins x = some (.type id)) (ha : DAB X ex F0 H0 ρ (e :: es) ds) (hr : VN r ds d) (hg : Gl X x := by rfl) (hn : x ≠ "__name__" := by decide) (hdb : (x == ("__debug__" : Str)) = false := by decide)
    (he : starEach (e :: es) X.env = (false, eval e X.env) :: starEach es X.env := by rfl) (hpl : (backTo pos (starEach es X.env)).any (·.1) = false := by rfl) : DEB X ex F0 H0 ρ (.Call (.Name x p) (e :: es) [] pos) d :=
  PE.imp (pe_callTy hc hg hm hv ha hn hdb he hpl) fun σ H Q ⟨F, g0, ok, k⟩ => ⟨F, g0, ok, fun vs F2 H2 g r => hr F2 H2 vs g.s r Q fun v F3 H3 g3 r3 => k v F3 H3 (g.trans g3) r3⟩
theorem dtb_cmp {op : CmpOp} {r : R2} {x : Bool} (ho : OpR X (compareOp op) r) (ha : DEB X ex F0 H0 ρ a d1) (hb : DEB X ex F0 H0 ρ b d2) (hr : V2 r d1 d2 (.bool x)) (hm : behindInMarks op b = false := by first | exact nomark _ | rfl | with_unfolding_all rfl) : DTB X ex F0 H0 ρ (.Compare a [op] [b] pos) x :=
  PT.imp (pt_cmpR ho ha hb hm) fun σ H Q ⟨F, g0, ok, k⟩ => ⟨F, g0, ok, fun v1 F1 H1 g1 r1 => ⟨F1, g0.trans g1.up, ok.grow g1, fun v2 F2 H2 g2 r2 => hr F2 H2 v1 v2 g2.s (r1.mono g2.f) r2 _ fun v F3 H3 g3 r3 => ⟨x, r3.bl_inv, k F3 H3 (g1.trans (g2.trans g3))⟩⟩⟩
theorem dtb_w {x : Bool} (h : DWB X ex F0 H0 ρ e x) : DTB X ex F0 H0 ρ e x := PW.pt h
theorem dwb_or1 {x : Bool} {p2 : Pos} (h : DTB X ex F0 H0 ρ a x) : DWB X ex F0 H0 ρ (.BoolOp .Or [a] p2) x := pw_or1 h
theorem dwb_or {x y : Bool} (ha : DTB X ex F0 H0 ρ a x) (hb : x = false → DWB X ex F0 H0 ρ (.BoolOp .Or (b :: es) pos) y) : DWB X ex F0 H0 ρ (.BoolOp .Or (a :: b :: es) pos) (x || y) :=
  PW.imp (pw_or ha (PW.any (ι := Unit) (c := fun _ => x = false) (t := fun _ => tDTB ex F0 H0 ρ y) fun _ hx => hb hx)) fun σ H Q ⟨F, g0, ok, k⟩ => ⟨F, g0, ok, fun F2 H2 g => by
    cases x with
    | true => exact iteT (by simpa using k F2 H2 g)
    | false => exact iteF ⟨(), rfl, F2, g0.trans g.up, ok.grow g, fun F3 H3 g3 => by simpa using k F3 H3 (g.trans g3)⟩⟩
/-- an if whose body leaves, its test read over the base -/
theorem dss_ifxB {x : Bool} {s1 : List Stmt} (hc : DTB X ex F0 H0 ρ c x) (h1 : x = true → DSs X ex F0 H0 ρ s1 { A with N := fun _ => False }) (k : x = false → DSs X ex F0 H0 ρ sts A) : DSs X ex F0 H0 ρ (.If c s1 [] pos :: sts) A := by
  refine dss_seq (N1 := fun ρ' => ρ' = ρ ∧ x = false) ?_ fun _ ⟨h, h'⟩ => h ▸ k h'
  refine PS.imp (ps_if hc (PSs.any (ι := Unit) (c := fun _ => x = true) (t := fun _ => tS ex F0 H0 ρ { A with N := fun _ => False }) fun _ q => h1 q) pss_nil) fun D σ H ⟨F, a, n, r, b, c⟩ => ⟨F, a.g, a.ok, fun F2 H2 g => ?_⟩
  cases x with
  | true => exact iteT ⟨(), rfl, F2, a.grow g, fun _ _ _ _ h => h.elim, r, fun ρ2 σ2 F3 H3 h2 s2 => b ρ2 σ2 F3 H3 h2 (g.f.trans s2), fun ρ2 σ2 F3 H3 h2 s2 => c ρ2 σ2 F3 H3 h2 (g.f.trans s2)⟩
  | false => exact iteF (n _ _ F2 H2 ⟨rfl, rfl⟩ g.f (a.grow g))
theorem dss_setB (i : Nat) {x : Str} {pos' : Pos} (hN : X.N.Nodup) (he : DEB X ex F0 H0 ρ e d) (k : DSs X ex F0 H0 (ρ.set i (.dat d)) sts A) (hi : X.N[i]? = some x := by rfl) (hx : Loc X.env.scope x := by first | exact Or.inl rfl | exact Or.inr rfl) (hs : swapsWith e (some (.Name x pos')) pos.line X.env = pure false := by rfl)
    (hf : X.fn x = true ∨ X.env.scope.names.lookup x = some .local := by first | exact .inl rfl | exact .inr rfl) (hw : swappedStores [.Name x pos'] e X.env = pure none := by rfl) : DSs X ex F0 H0 ρ (.Assign [.Name x pos'] e pos :: sts) A :=
  dss_seq (N1 := fun ρ' => ρ' = ρ.set i (.dat d)) (PS.imp (ps_set (i := i) hN hi hx he hs hf) fun D σ H ⟨F, a, n, r, b, c⟩ => ⟨F, a.g, a.ok, fun v F2 H2 g rv => n _ _ F2 H2 rfl g.f ((a.grow g).setD rv)⟩) fun _ h => h ▸ k
theorem dss_retB (he : DEB X ex F0 H0 ρ e d) (h : A.R d ρ) : DSs X ex F0 H0 ρ (.Return (some e) pos :: sts) A :=
  dss_seq (N1 := fun _ => False) (PS.imp (ps_ret he) fun D σ H ⟨F, a, n, r, b, c⟩ => ⟨F, a.g, a.ok, fun v F2 H2 g rv => r.1 d v ρ σ F2 H2 h (a.grow g) rv⟩) fun _ h => h.elim
end
/-- e.most, e the caught exception in slot i -/
theorem deb_most {X : Cx} {ex : List Addr} {F0 H0 : Hp} {ρ : Env'} {a dx C : Addr} {oe : Obj} {cls : Value} {d : Option Addr} {pn : List (Addr × Obj)} {n : Int} {x : Str} {px pos : Pos} (i : Nat) (T : XfC X.K C) (hno : PySem.W.findIn X.K (.ref C) "most" = some none) (hz : Zc cls d oe) (hf : ∃ vs, oe.data = .fields vs)
    (hc : cls = .ref C) (hd : d = some dx) (hF : F0 dx = some (.xd [("most", .int n)])) (hρ : ρ[i]? = some (.val (.ref a))) (hxN : X.N[i]? = some x := by rfl) (hv : Vis X.env.scope x := by first | exact Or.inl rfl | exact Or.inr (Or.inl rfl) | exact Or.inr (Or.inr rfl)) (hdx : (x == ("__debug__" : Str)) = false := by decide) (hcd : (x == ("__classdict__" : Str)) = false := by decide)
    (hb : attributeBase (.Name x px) "most" X.env (eval (.Name x px) X.env) = eval (.Name x px) X.env := by rfl) : DEB (X.suite a ((a, oe) :: pn)) ex F0 H0 ρ (.Attribute (.Name x px) "most" pos) (.int n) :=
  PE.imp (pe_xf T hno hz hf (pe_var (X := X.suite a ((a, oe) :: pn)) hxN hv hdx hcd) hb) fun σ H Q ⟨F, g0, ok, k⟩ => by
    obtain ⟨o, h1, h2⟩ := ok.at_ i _ hρ
    have h2' : o = some (.ref a) := h2
    subst h2'
    exact ⟨.ref a, h1, rfl, hc, dx, _, .int n, hd, ok.s _ _ (g0.f _ _ hF), rfl, k _ F H (GrowX.refl ok.s) (.int n)⟩
end Tw

/-! Tw: own exceptions are made and raised; defs that raise -/
namespace Tw
open PySem PySem.Spec PyProof.Rows L2
/-- e makes an exception -/
def tMkX (ρ : Env') (C : Addr) (m : Option Int) : L2.St → Hp → XK → Prop := fun σ H Q => ∃ F, Ok F H ρ σ ∧ ∀ cls d F2 H2, Grow F H F2 H2 → ExIs C m cls d F2 → Q cls d H2
abbrev DMk (X : Cx) (ρ : Env') (e : Expr) (C : Addr) (m : Option Int) : Prop := L2N.PMk X e (tMkX ρ C m)
theorem PMk.imp {X : Cx} {e : Expr} {t t' : L2.St → Hp → XK → Prop} (h : L2N.PMk X e t) (i : ∀ σ H Q, t' σ H Q → t σ H Q) : L2N.PMk X e t' := fun pins s σ H Q I q => h pins s σ H Q I (i _ _ _ q)
/-- e raises: it never gives a value -/
def tX (ρ : Env') (W : WX) (C : Addr) (m : Option Int) : TE := fun σ H _ => ∃ F, Ok F H ρ σ ∧ ∀ cls d F2 H2, Grow F H F2 H2 → ExIs C m cls d F2 → W cls d σ H2
abbrev DX (X : Cx) (ρ : Env') (W : WX) (e : Expr) (C : Addr) (m : Option Int) : Prop := PE X e (tX ρ W C m)
/-- a def that raises on what Pre says -/
def spX (C : Addr) (m : Option Int) (Pre : List PyData → Prop) : Sp := fun vs H _ E => ∃ F ds, Same F H ∧ RpA F vs ds ∧ Pre ds ∧ ∀ cls d F2 H2, Grow F H F2 H2 → ExIs C m cls d F2 → E cls d H2
/-- the same as a def of the module -/
def CalX (P : Program) (w : World) (K : PySem.W.Frag) (mg : Str → Option Value) (base : Heap) (k : Nat) (x : Str) (n : Nat) (sp : Sp) : Prop :=
  ∃ f fd ps, mg x = some (.ref f) ∧ PySem.W.keepIn K (.ref f) = true ∧ Binds K fd ps [] ∧ ps.length = n ∧ FnOk P w K mg base (L2N.CX P w) k f fd ps sp
theorem calX_mk {P : Program} {w : World} {K : PySem.W.Frag} {mg : Str → Option Value} {base : Heap} {x qual : Str} {st : Stmt} {f : Addr} {fd : FuncData} {ps : List Str} {k : Nat} {sp : Sp} (F : Fun K x qual st f fd) (hm : mg x = some (.ref f)) (hb : Binds K fd ps []) (h : FnOk P w K mg base (L2N.CX P w) k f fd ps sp) : CalX P w K mg base k x ps.length sp :=
  ⟨f, fd, ps, hm, F.kp, hb, rfl, h⟩
section
variable {X : Cx} {ex : List Addr} {F0 H0 : Hp} {ρ : Env'} {W : WX} {C : Addr} {m : Option Int} {e : Expr} {es : List Expr} {ds : List PyData} {sts : List Stmt} {A : Aims} {pos p : Pos} {x : Str} {k n : Nat} {Pre : List PyData → Prop}
theorem dx_call (G : CalX X.prog X.w X.K X.mg X.base k x n (spX C m Pre)) (tk : L2N.Takes X W) (hr : Room k X.A) (ha : DA X ρ (e :: es) ds) (hP : Pre ds) (hg : Gl X x := by rfl) (hdb : (x == ("__debug__" : Str)) = false := by decide)
    (he : starEach (e :: es) X.env = (false, eval e X.env) :: starEach es X.env := by rfl) (hpl : (backTo pos (starEach es X.env)).any (·.1) = false := by rfl) : DX X ρ W (.Call (.Name x p) (e :: es) [] pos) C m := by
  obtain ⟨f, fd, ps, h1, h2, h3, _, h4⟩ := G
  exact PE.imp (pe_callS (E := L2.WE W) h4 hr hg h1 h2 h3 (fun σ => L2N.passAt tk σ) ha hdb he hpl) fun σ H Q ⟨F, ok, k⟩ => ⟨F, ok, fun vs F2 H2 g r => ⟨F2, ds, g.s, r, hP, fun cls d F3 H3 g3 hx => k cls d F3 H3 (g.trans g3) hx⟩⟩
/-- for over what is raised -/
theorem dss_forX {tg iter : Expr} {body : List Stmt} (hx : DX X ρ W iter C m) (hW : ∀ cls d σ F H, At ex F0 H0 ρ σ F H → ExIs C m cls d F → W cls d σ H) (hp : PassesOwn (model X.prog X.w) X.A X.env X.xe) (hc : X.calm = true := by rfl) (hse : ∀ x, foldedSetIterable iter X.env x = pure x := by intro _; rfl) :
    DSs X ex F0 H0 ρ (.For tg iter body [] pos :: sts) A :=
  dss_seq (N1 := fun _ => False) (PS.imp (ps_for hp hc (pi_list hx) (g := fun _ _ _ _ => False) (tb := fun _ _ _ => False) ⟨fun _ _ _ _ _ _ _ _ _ z => z.elim⟩ ⟨fun _ _ _ _ _ _ z => z.elim⟩ hse) fun D σ H ⟨F, a, _⟩ => ⟨F, a.ok, fun cls d F2 H2 g h => hW cls d σ F2 H2 (a.grow g) h⟩) fun _ h => h.elim
theorem dss_raise (tk : L2N.Takes X W) (mk : DMk X ρ e C m) (hW : ∀ cls d σ F H, At ex F0 H0 ρ σ F H → ExIs C m cls d F → W cls d σ H) (hc : X.calm = true := by rfl) : DSs X ex F0 H0 ρ (.Raise (some e) none pos :: sts) A :=
  dss_seq (N1 := fun _ => False) (PS.imp (L2N.ps_raise hc tk mk) fun D σ H ⟨F, a, _⟩ => ⟨F, a.ok, fun cls d F2 H2 g h => hW cls d σ F2 H2 (a.grow g) h⟩) fun _ h => h.elim
/-- a class without an __init__ -/
theorem dmk_own {msg : Str} {j : Nat} {p2 : Pos} {bmB : List Value} {Bs newId initId : String} (Fb : ExcBaseFacts Bs newId initId bmB) (q : PySem.W.excIn X.K C bmB newId = true) (gC : X.mg x = some (.ref C)) (kC : PySem.W.keepIn X.K (.ref C) = true) (r : Raises X (.ref C)) (hg : Gl X x := by rfl)
    (hdb : (x == ("__debug__" : Str)) = false := by decide) : DMk X ρ (.Call (.Name x p) [.Constant (.str msg) j p2] [] pos) C none :=
  PMk.imp (L2N.pmk_own Fb q gC kC r hg hdb) fun σ H Q ⟨F, ok, k⟩ => k _ _ F H (GrowX.refl ok.s) ⟨rfl, rfl⟩
end
/-- the context of the body of a def that may raise -/
abbrev BodX (P : Program) (w : World) (K : PySem.W.Frag) (mg : Str → Option Value) (base : Heap) (N : List Str) (qual : Str) (st : Stmt) (f : Addr) (cdv : Value) (A : Around) (outer : List Env) (s : Shared) (H : Hp) (E : XK) : Cx :=
  cxOf (L2N.CX P w) P w K mg base N qual (defScope st) f cdv A outer s H E
section
variable {P : Program} {w : World} {K : PySem.W.Frag} {mg : Str → Option Value} {base : Heap}
theorem takes_bod {N : List Str} {qual : Str} {st : Stmt} {f : Addr} {cdv : Value} {A : Around} {outer : List Env} {s : Shared} {H : Hp} {E : XK} : L2N.Takes (BodX P w K mg base N qual st f cdv A outer s H E) (fun cls d _ H' => E cls d H') :=
  L2N.takes_of (X := BodX P w K mg base N qual st f cdv A outer s H E) rfl rfl rfl rfl
/-- a def raises by its body -/
theorem fn_okX {x qual : Str} {st : Stmt} {f : Addr} {fd : FuncData} {N ps : List Str} {k : Nat} {C : Addr} {m : Option Int} {Pre : List PyData → Prop} (F : Fun K x qual st f fd) (S : FnScope N ps (defScope st))
    (hlen : ∀ ds, Pre ds → ds.length = ps.length)
    (hb : ∀ ds, Pre ds → ∀ (f : Addr) (cdv : Value) (A : Around) (outer : List Env) (s : Shared) (H : Hp) (E : XK) (F0 H0 : Hp), Room k (BodX P w K mg base N qual st f cdv A outer s H E).A → (∀ cls d σ ρ F2 H2, At [] F0 H0 ρ σ F2 H2 → ExIs C m cls d F2 → E cls d H2) →
      DSs (BodX P w K mg base N qual st f cdv A outer s H E) [] F0 H0 (entry ds N.length) (defBody st) { N := fun _ => False, R := fun _ _ => False }) :
    FnOk P w K mg base (L2N.CX P w) (k + 1) f fd ps (spX C m Pre) := by
  have hps : ps.length ≤ N.length := by
    have := S.pre
    rw [← this]
    simp
    omega
  obtain ⟨oc, od, kV, doc, pm, an, cdv, ct, osl, rfl, lk, hcd⟩ := F.ex
  refine fn_of lk hcd S (fun vs H Q E h => ?_) (fun A outer s H vs Q E hr h => ?_)
  · obtain ⟨F, ds, e, r, hP, _⟩ := h
    rw [r.len]; exact hlen ds hP
  · obtain ⟨F0, ds, e, r, hP, kk⟩ := h
    refine ⟨_, hb ds hP f cdv A outer s H E F0 H hr (fun cls d σ ρ F2 H2 a h => kk cls d F2 H2 a.g h), F0, ⟨GrowX.refl e, ok_entry e r (by rw [hlen ds hP]; exact hps), fun i p w q => ?_⟩, fun _ _ _ _ z => z.elim, ⟨fun _ _ _ _ _ _ z => z.elim, fun _ _ z => z.elim⟩, fun _ _ _ _ z => z.elim, fun _ _ _ _ z => z.elim⟩
    exfalso
    unfold entry at q
    by_cases h : i < ds.length
    · rw [List.getElem?_append_left (by simpa using h), List.getElem?_map] at q
      obtain ⟨d, h1, h2⟩ := Option.map_eq_some_iff.mp q
      cases h2
    · rw [List.getElem?_append_right (by simp; omega)] at q
      obtain ⟨_, h2⟩ := List.getElem?_eq_some_iff.mp q
      simp at h2
end
/-! ## a class with an __init__ that says its base's -/
/-- what the module must say of the base CW, itself without an __init__ -/
structure WinC (K : PySem.W.Frag) (CW : Addr) : Prop where
  rd : PySem.W.readsIn K CW (.type "type") = true
  ga : PySem.W.specialIn K (.ref CW) "__getattribute__" = some (some (.builtin "type.__getattribute__"))
  at_ : PySem.W.findCls K (.ref CW) (.type "type") "__init__" = some (.val (.builtin "ValueError.__init__"))
section
variable {X : Cx} {e : Expr} {es : List Expr} {ta : TA} {p1 p2 pos : Pos} {CW : Addr} {x : Str}
theorem pe_winit {pl : Sem Bool} (hg : Gl X x) (hm : X.mg x = some (.ref CW)) (T : WinC X.K CW) (ha : PA X (e :: es) ta) (hdb : (x == ("__debug__" : Str)) = false := by decide)
    (hc : eval (.Call (.Attribute (.Name x p1) "__init__" p2) (e :: es) [] pos) X.env = (do
      let ov ← eval (.Name x p1) X.env
      standAt p2.atName
      let (f, first) ← holding [ov] (getMethod ov "__init__" pl)
      callWith pos f first (backTo pos (starEach (e :: es) X.env)) (backToKw pos (keywordEach [] X.env))) := by rfl)
    (he : starEach (e :: es) X.env = (false, eval e X.env) :: starEach es X.env := by rfl) (hpl : (backTo pos (starEach es X.env)).any (·.1) = false := by rfl) :
    PE X (.Call (.Attribute (.Name x p1) "__init__" p2) (e :: es) [] pos) (tVeI X.K ta) := by
  refine ⟨fun pins s σ H Q I h => ?_⟩
  refine PySem.W.methodCall_KW (ld_glob I hg hm ?_ hdb) hc
  refine PySem.W.method_cls I.kIn T.ga (PySem.W.cls_value I.kIn T.rd T.at_ (by decide +kernel) ?_)
  show wpAny _ _ (callWith pos (Value.builtin "ValueError.__init__") [] (backTo pos (starEach (e :: es) X.env)) []) _ _ _
  refine PyProof.Rows.callWith_method1 (thn (ha.run pos pins _ σ H _ (I.tok _) h) fun us s1 ⟨vs, H1, I1, r1, a, C, ws, ev, hl, T, ea, q⟩ => ?_) he hpl
  subst ev
  cases r1 with
  | @cons _ u0 _ ur ra rw' =>
    obtain rfl : u0 = Value.ref a := ra
    exact oinit_ok T I1 ea (by rw [← Paired.length rw', sizeLine_eq]; omega) fun s' J => ⟨.non, H1, J, rfl, q⟩
end
/-- what C's __init__ does: its dict is made, with most -/
def spMk (C : Addr) : Sp := fun vs H Q _ => ∃ (a : Addr) (n : Int), vs = [.ref a, .int n] ∧ H a = some (exo a C none) ∧ ∀ dx, H dx = none → dx ≠ a → Q .non (upd (upd H dx (exd dx [("most", .int n)])) a (exo a C (some dx)))
section
variable {X : Cx} {ρ : Env'} {e : Expr} {p pos : Pos} {C fI : Addr} {k : Nat} {fd : FuncData} {x : Str} {n : Int}
theorem dmk_oex (T : OexC X.K C) (iC : PySem.W.findIn X.K (.ref C) "__init__" = some (some (.ref fI))) (tI : PySem.W.typeIn X.K (.ref fI) = some (.type "function")) (F1 : FnOk X.prog X.w X.K X.mg X.base CX0 k fI fd ["self", "most"] (spMk C)) (hr : Room (k + 1) X.A) (hb : Binds X.K fd ["self", "most"] []) (hm : X.mg x = some (.ref C)) (ha : DE X ρ e (.int n)) (hg : Gl X x := by rfl)
    (hdb : (x == ("__debug__" : Str)) = false := by decide) (he : starEach [e] X.env = [(false, eval e X.env)] := by rfl) : DMk X ρ (.Call (.Name x p) [e] [] pos) C (some n) := by
  intro pins s σ H Q I ⟨F, ok, kk⟩
  obtain ⟨nm, q, N, bs, bm, sn, sub, ab, col, dd, k0, k1, k2, k3, k5, hC, hbm⟩ := T.cls
  refine wpAny_Call_Name_kw (ld_glob I hg hm ?_ hdb)
  have hpa : PA X [e] (tCons (tD ρ (.int n)) tNil) := pa_cons ha pa_nil he
  refine PySem.W.callWith_K (h₀ := X.base) I.ok.mod.kin T.kC (thn (hpa.run pos pins s σ H (fun vs H1 => vs = [V.int n] ∧ ∃ F1, Grow F H F1 H1) I ⟨F, ok, fun v F2 H2 g r => ⟨by rw [r.int_inv], F2, g⟩⟩) fun us s1 ⟨vs, H1, I1, r1, ev, F1', g1⟩ => ⟨I1.kIn, ?_⟩) he rfl
  subst ev
  show wpAny _ _ (call (.ref C) us) _ _ _
  obtain ⟨hp, g, dr, tk, os⟩ := s1
  have up1 : hp.objs.size ≤ hp.objs.size + 1 := Nat.le_succ _
  have fresh : H1 (hp.objs.size + 1) = none := I1.hok.fresh up1
  generalize ea : hp.objs.size + 1 = a at up1 fresh
  have kp : ∀ b o, hp.get? b = some o → ((hp.push (PySem.W.kdv_tup us)).push (PySem.HandSPX.excO C hp.objs.size)).get? b = some o := fun b o z => Heap.get?_push_of_some _ (Heap.get?_push_of_some _ z)
  have at_a : ((hp.push (PySem.W.kdv_tup us)).push (PySem.HandSPX.excO C hp.objs.size)).get? a = some (PySem.HandSPX.excO C hp.objs.size) := by subst ea; heap_get
  have I2 : Inv X pins σ (upd H1 a (exo a C none)) ⟨(hp.push (PySem.W.kdv_tup us)).push (PySem.HandSPX.excO C hp.objs.size), g, dr, tk, os⟩ :=
    I1.laid (t' := tk) (a := a) (o := exo a C none) (h' := (hp.push (PySem.W.kdv_tup us)).push (PySem.HandSPX.excO C hp.objs.size)) kp up1 (exo_ok at_a)
  have rv : Vals [V.ref a, V.int n] (Value.ref a :: us) := .cons rfl r1
  have bd := hb _ (Value.ref a :: us) I2.kIn (by rw [List.append_nil]; exact rv.length.symm)
  rw [List.append_nil] at bd
  have small : us.length ≤ sizeLine := by rw [← Paired.length r1]; exact Nat.le_trans (Nat.le_of_eq rfl) (by decide : 1 ≤ sizeLine)
  subst ea
  refine wpAny_call (PySem.HandSPX.call_own PySem.F.excBase_ValueError (fun Y => PySem.HandSPX.refsVE_contains Y bm hbm) (I1.kIn _ _ hC) (PySem.W.looks_findIn I1.kIn iC) (fun self => PySem.W.bind_fn I1.kIn self tI) small
    (codeAny_mono (F1.run _ X.stack _ _ ⟨Value.ref (hp.objs.size + 1) :: us, []⟩ (Value.ref (hp.objs.size + 1) :: us) [V.ref (hp.objs.size + 1), V.int n] (fun v H2 => v = .non ∧ ∃ dx, H1 dx = none ∧ dx ≠ hp.objs.size + 1 ∧ H2 = upd (upd (upd H1 (hp.objs.size + 1) (exo (hp.objs.size + 1) C none)) dx (exd dx [("most", .int n)])) (hp.objs.size + 1) (exo (hp.objs.size + 1) C (some dx))) E0 (hr.make C us []) (I2.env0.make C us []) bd rv
      ⟨_, n, rfl, upd_same, fun dx h1 h2 => ⟨rfl, dx, by rw [upd_ne h2] at h1; exact h1, h2, rfl⟩⟩) fun r s' z => ?_))
  cases r with
  | error er => exact (show False from z).elim
  | ok fl =>
    cases fl with
    | ret u =>
      obtain ⟨v, H2, os2, bare2, un2, hok2, rv2, ev, dx, h1, h2, eH⟩ := z
      subst ev
      subst eH
      obtain ⟨hp2, g2, d2, t2, os'⟩ := s'
      have dd1 : (upd (upd (upd H1 (hp.objs.size + 1) (exo (hp.objs.size + 1) C none)) dx (exd dx [("most", .int n)])) (hp.objs.size + 1) (exo (hp.objs.size + 1) C (some dx))) dx = some (exd dx [("most", .int n)]) := by rw [upd_ne h2, upd_same]
      obtain ⟨t0, G, J, kG, ge, hoe, na⟩ := mk_end0 (d2 := d2) (t2 := t2) I1 up1 kp un2 hok2 os2 bare2 upd_same dd1 h1
      have eq : upd (del (upd (upd (upd H1 (hp.objs.size + 1) (exo (hp.objs.size + 1) C none)) dx (exd dx [("most", .int n)])) (hp.objs.size + 1) (exo (hp.objs.size + 1) C (some dx))) (hp.objs.size + 1)) dx (.xd [("most", .int n)]) = upd H1 dx (.xd [("most", .int n)]) := by
        funext b
        by_cases hb : b = dx
        · subst hb; rw [upd_same, upd_same]
        · rw [upd_ne hb, upd_ne hb]
          by_cases hb2 : b = hp.objs.size + 1
          · subst hb2; rw [del_same, fresh]
          · rw [del_ne hb2, upd_ne hb2, upd_ne hb, upd_ne hb2]
      rw [eq] at J na
      exact ⟨rv2, hp.objs.size + 1, _, _, ⟨G, g2, d2, t2, os'⟩, _, .ref C, some dx, rfl, J, kG, ge, hoe, ⟨rfl, rfl, fun vs hv => by cases hv; rfl⟩, rfl, rfl, na, rfl, bare2, raises_own T.exC T.tyC,
        kk _ _ _ _ (g1.trans (Grow.new g1.s h1)) ⟨rfl, dx, rfl, upd_same⟩⟩
    | next => exact False.elim z
    | brk => exact False.elim z
    | cont => exact False.elim z
end
end Tw

/-! Tw: the law's run with a table of codes; isinstance over a base -/
namespace Tw
open PySem PySem.Spec PyProof.Rows L2
theorem law_finT {X : Cx} {H : Hp} {a : Addr} {N : List Str} {sts : List Stmt} (n : Nat) (body : DSs X [] (fun _ => none) H (.val (.ref a) :: List.replicate n .no) sts { N := fun _ => False, R := fun d _ => d = .bool true }) (hN : N.length = n + 1) :
    ∃ t, PSs X sts t ∧ t { nx := fun _ _ => V.non = .bl true, rt := fun v _ => v = .bl true } (L2.start N [.ref a]) H := by
  refine ⟨_, body, fun _ => none, ⟨GrowX.refl (fun b u q => by cases q), ⟨(fun b u q => by cases q), ?_, fun j e hj => ?_, fun j k p q w w' hj => ?_⟩, fun j q w hj => ?_⟩, fun _ _ _ _ z => z.elim, ⟨fun d v ρ' σ' F' H' h _ rv => ?_, fun _ _ h => h.elim⟩, fun _ _ _ _ z => z.elim, fun _ _ _ _ z => z.elim⟩
  · simp [L2.start, hN]
  · cases j with
    | zero =>
      have : e = .val (.ref a) := by simpa using hj.symm
      subst this
      exact ⟨some (.ref a), by simp [L2.start], rfl⟩
    | succ j =>
      have hj' : (List.replicate n Ent.no)[j]? = some e := by simpa using hj
      rw [List.getElem?_replicate] at hj'
      by_cases hlt : j < n
      · rw [if_pos hlt] at hj'
        cases hj'
        refine ⟨none, ?_, trivial⟩
        simp [L2.start, hN, hlt]
      · rw [if_neg hlt] at hj'; cases hj'
  · have := owns_mem hj
    rw [owns_no] at this
    cases this
  · have := owns_mem hj
    rw [owns_no] at this
    cases this
  · have h' : d = .bool true := h
    subst h'
    exact rv.bl_inv
/-- an empty table -/
theorem tab0 {H : Hp} {T : Addr} (h : H T = some (.tbl #[])) : TabF (fun _ => none) H T := ⟨rfl, #[], h, True.intro, fun pos cv e => by
  have z : codeAmong pos [] = some cv := e
  simp [codeAmong] at z⟩
section
variable {P : Program} {w : World} {K : PySem.W.Frag} {mg mb : Str → Option Value} {fa a c T : Addr} {st : Stmt} {fd : FuncData} {N : List Str} {s1 : Shared} {vs : List Value} {ns : List Int} {k : Nat} {x : Str}
theorem law_runT (KX : K.In s1.heap) (hns : s1.heap.Ns mainGlobals mg) (hb : s1.heap.Ns builtinsNs mb) (hbb : ∀ y : Str, y ≠ "__name__" → mb y = bootBuiltins y) (hlim : s1.heap.NoLimit) (hg : s1.gens = #[])
    (hT : s1.heap.get? T = some { cls := .none, data := .fields #[] }) (nT : K.lookup T = none) (hC : PySem.W.CodeHd s1.heap c T)
    (hbm : ∃ (bm : Addr) (ob : Obj), mg "__builtins__" = some (.ref bm) ∧ bm ≠ builtinsNs ∧ s1.heap.get? bm = some ob ∧ ob.cls = .type "module" ∧ ob.dict = some builtinsNs ∧ ob.data = .plain)
    (ha : s1.heap.get? a = some { cls := .type "list", data := .seq vs.toArray }) (hi : IntsAre vs ns) (hl : ns.length ≤ sizeLine) (hr : Room (k + 1) callerA)
    (F : Fun K "law" "law" st fa fd) (S : FnScope N [x] (defScope st)) (hba : ∀ (kV doc pm : Value) (an : Option Addr) (cdv ct : Value) (u : Value), bindArgs (PySem.W.fnOf "law" "law" (defArgs st) (defBody st) (defScope st) .none kV doc pm an cdv ct) ⟨[u], []⟩ = pure [(x, u)])
    (body : ∀ (base : Heap) (cdv : Value) (A : Around) (outer : List Env) (s : Shared) (H : Hp) (E : XK), LamX.TabB base mg c T → fd.code = cdv → Room k (Bod P w K mg base N "law" st fa cdv A outer s H E).A → H T = some (.tbl #[]) → SqL K H a (ns.map V.int) →
      ∃ t, PSs (Bod P w K mg base N "law" st fa cdv A outer s H E) (defBody st) t ∧ t { nx := fun _ _ => V.non = .bl true, rt := fun v _ => v = .bl true } (L2.start N [.ref a]) H) :
    codeAny (model P w) callerA (.call (.ref fa) ⟨[.ref a], []⟩) (fun r s' => r = .ok (.ret (.bool true)) ∧ OldK s1.heap s'.heap ∧ s'.os = s1.os ∧ AllBare s'.gens) s1 := by
  obtain ⟨oc, od, kV, doc, pm, an, cdv, ct, osl, rfl, lk, hcd⟩ := F.ex
  refine LamX.law_callTs (cs := [(c, T)]) (CX := CX0) (x := x) (fd := PySem.W.fnOf "law" "law" (defArgs st) (defBody st) (defScope st) .none kV doc pm an cdv ct) (k := k + 1) (sp := fun us H Q _ => us = [.ref a] ∧ H T = some (.tbl #[]) ∧ SqL K H a (ns.map V.int) ∧ Q = fun v _ => v = .bl true) KX hns hb hbb hlim hg ?_ ?_ ?_ hbm ha hi hl hr (fun base hK hN hTB => ?_) (fun s u => ?_) (fun H hH hS => ⟨rfl, hH _ (List.mem_singleton.mpr rfl), hS, rfl⟩) (fun _ _ _ z => z.elim)
  · intro p hp; rw [List.mem_singleton.mp hp]; exact hT
  · intro p hp; rw [List.mem_singleton.mp hp]; exact nT
  · intro p hp; rw [List.mem_singleton.mp hp]; exact hC
  · refine fn_of lk hcd S (fun us H Q E h => by rw [h.1]; rfl) (fun A outer s H us Q E hr2 h => ?_)
    obtain ⟨rfl, h2, h3, rfl⟩ := h
    obtain ⟨t, h4, h5⟩ := body base cdv A outer s H E (hTB _ (List.mem_singleton.mpr rfl)) rfl hr2 h2 h3
    exact ⟨_, h4.nox, h5⟩
  · exact .of_eq (hba _ _ _ _ _ _ u)
end
section
variable {X : Cx} {ex : List Addr} {F0 H0 : Hp} {ρ : Env'} {e : Expr} {d : PyData} {x : Str} {T : String} {p q pos : Pos}
theorem deb_isi {b : Bool} (he : DEB X ex F0 H0 ρ e d) (hm : X.mg "isinstance" = none) (hmT : X.mg x = none) (hvT : bootBuiltins x = some (.type T)) (hb : kitB (tyD d) T = some b) (hg : Gl X "isinstance" := by rfl) (hgT : Gl X x := by rfl) (hnT : x ≠ "__name__" := by decide) (hdT : (x == ("__debug__" : Str)) = false := by decide)
    (hs : starEach [e, .Name x q] X.env = (false, eval e X.env) :: starEach [.Name x q] X.env := by rfl) (hpl : (backTo pos (starEach [.Name x q] X.env)).any (·.1) = false := by rfl) (hs2 : starEach [.Name x q] X.env = (false, eval (.Name x q) X.env) :: starEach [] X.env := by rfl) :
    DEB X ex F0 H0 ρ (.Call (.Name "isinstance" p) [e, .Name x q] [] pos) (.bool b) :=
  PE.imp (pe_callB call_isi hg hm (by decide +kernel) (pa_cons he (pa_cons (pe_bltn (v := .ty T) hgT hmT hvT rfl hnT hdT) pa_nil hs2) hs) (by decide) (by decide) hs hpl) fun σ H Q ⟨F, g0, ok, k⟩ => ⟨F, g0, ok, fun v F2 H2 g r =>
    ⟨v, .ty T, .type (tyD d), .type T, b, rfl, .ty T, r.ty g.s, kit_ty hb, k _ F2 H2 g (.bl b)⟩⟩
end
/-! ## classes of exceptions, asked of the module's heap -/
def oexB (K : PySem.W.Frag) (C : Addr) : Bool := (match K.lookup C with
  | some ⟨.type "type", _, .cls cd, sl⟩ => (match cd.mro, sl.toList with
    | .ref D :: tl, [_, _, _, _, some (.builtin n), _] => D == C && (n == "ValueError.__new__" && (!cd.hasDel && (cd.hasDict && PySem.HandSPX.refsVE tl)))
    | _, _ => false)
  | _ => false) && (decide (PySem.W.findIn K (.ref C) "__setattr__" = some (some (.builtin "object.__setattr__"))) && (decide (PySem.W.subIn K (.ref C) (.type "BaseException") = some true) && (decide (PySem.W.typeIn K (.ref C) = some (.type "type")) && PySem.W.keepIn K (.ref C))))
theorem oexB_ok {K : PySem.W.Frag} {C : Addr} (h : oexB K C = true) : OexC K C := by
  unfold oexB at h
  simp only [Bool.and_eq_true, decide_eq_true_eq] at h
  obtain ⟨h1, h2, h3, h4, h5⟩ := h
  refine ⟨?_, h2, h3, h4, h5⟩
  split at h1
  · rename_i od cd sl look
    split at h1
    · rename_i D tl a0 a1 a2 a3 n a5 hm hs
      simp only [Bool.and_eq_true, beq_iff_eq, Bool.not_eq_true'] at h1
      obtain ⟨e1, e2, e3, e4, e5⟩ := h1
      obtain ⟨nm, bs, mro, ns, qn, hd, sn, sub, ab, col, del⟩ := cd
      dsimp only at hm e3 e4
      subst e1 e2 hm e3 e4
      obtain ⟨l⟩ := sl
      dsimp only at hs
      subst hs
      exact ⟨nm, qn, ns, bs, tl, sn, sub, ab, col, od, a0, a1, a2, a3, a5, look, e5⟩
    · cases h1
  · cases h1
def exqB (K : PySem.W.Frag) (D : Addr) : Bool := (PySem.W.clsIn K D).isSome && (decide (PySem.W.findIn K (.ref D) "__getattribute__" = some (some (.builtin "BaseException.__getattribute__"))) && ((PySem.W.findIn K (.ref D) "__getattr__").isSome && (decide (PySem.W.subIn K (.ref D) (.type "BaseException") = some true) &&
  (decide (PySem.W.findIn K (.ref D) "__class__" = some (some (.builtin "object.__class__"))) && (decide (PySem.W.specialIn K (.builtin "object.__class__") "__get__" = some (some (.builtin "getset_descriptor.__get__"))) && (decide (PySem.W.takesIn K (.builtin "object.__class__") = some true) && decide (PySem.W.mroIn K D (.type "object") = some true)))))))
theorem exqB_ok {K : PySem.W.Frag} {D : Addr} (h : exqB K D = true) : ExQ K D := by
  unfold exqB at h
  simp only [Bool.and_eq_true, decide_eq_true_eq] at h
  obtain ⟨a1, a2, a3, a4, a5, a6, a7, a8⟩ := h
  exact ⟨a1, a2, Option.isSome_iff_exists.mp a3, a4, a5, a6, a7, a8⟩
def winB (K : PySem.W.Frag) (CW : Addr) : Bool := PySem.W.readsIn K CW (.type "type") && (decide (PySem.W.specialIn K (.ref CW) "__getattribute__" = some (some (.builtin "type.__getattribute__"))) && (match PySem.W.findCls K (.ref CW) (.type "type") "__init__" with
  | some (.val v) => decide (v = .builtin "ValueError.__init__")
  | _ => false))
theorem winB_ok {K : PySem.W.Frag} {CW : Addr} (h : winB K CW = true) : WinC K CW := by
  unfold winB at h
  simp only [Bool.and_eq_true, decide_eq_true_eq] at h
  obtain ⟨a1, a2, a3⟩ := h
  refine ⟨a1, a2, ?_⟩
  split at a3
  · rename_i v e
    rw [e, of_decide_eq_true a3]
  · cases a3
/-! ## the head's hook: facts, a Bool more, empty tables of codes -/
abbrev frY (g : Addr → Option Obj) : PySem.W.Frag := He.frT g (He5.asA g 4)
structure SayY (fa : List He.Fa) (fn : List He.DefD) (tf : List He.Defn) (ex : PySem.W.Frag → Bool) (h : Heap) (K : PySem.W.Frag) : Prop where
  d : He.SaysD fa fn K
  more : ex K = true
  tb : ∀ p ∈ tf, PySem.W.codeHdIn K (He.cT K p).1 (He.cT K p).2 = true ∧ K.lookup (He.cT K p).2 = none ∧ h.get? (He.cT K p).2 = some { cls := .none, data := .fields #[] }
def obY (fa : List He.Fa) (fn : List He.DefD) (tf : List He.Defn) (ex : PySem.W.Frag → Bool) (g : Addr → Option Obj) : He.AlD × Bool := (He.obsD fa fn (frY g), ex (frY g) && He.tabsB g tf (frY g))
theorem sayY_of {fa : List He.Fa} {fn : List He.DefD} {tf : List He.Defn} {ex : PySem.W.Frag → Bool} {h : Heap} (e : obY fa fn tf ex h.get? = (He.valD fn, true)) : SayY fa fn tf ex h (frY h.get?) := by
  obtain ⟨e1, e2⟩ := Prod.ext_iff.mp e
  have e2' : (ex (frY h.get?) && He.tabsB h.get? tf (frY h.get?)) = true := e2
  rw [Bool.and_eq_true] at e2'
  refine ⟨e1, e2'.1, fun p hp => ?_⟩
  have hp2 := List.all_eq_true.mp e2'.2 p hp
  rw [Bool.and_eq_true] at hp2
  obtain ⟨h3, h4⟩ := hp2
  cases q : h.get? (He.cT (frY h.get?) p).2 with
  | none => rw [q] at h4; cases h4
  | some o =>
    rw [q] at h4
    have h5 : He.emptyTab o = true := h4
    exact ⟨h3, He.frT_none q h5, congrArg some (He.emptyTab_eq h5)⟩
def hookY (fa : List He.Fa) (fn : List He.DefD) (tf : List He.Defn) (ex : PySem.W.Frag → Bool) : PySem.W.Hook where
  α := He.AlD × Bool
  obs := fun s => obY fa fn tf ex s.heap.get?
  val := fun _ => (He.valD fn, true)
  says := fun _ h => ∃ K : PySem.W.Frag, K.In h ∧ SayY fa fn tf ex h K
  of := fun _ _ e => ⟨_, He.frT_in, sayY_of e⟩
  keeps := fun _ _ _ ⟨K, k1, c⟩ st => ⟨K, fun a o q => st a o (k1 a o q), c.d, c.more, fun p hp => let ⟨x1, x2, x3⟩ := c.tb p hp; ⟨x1, x2, st _ _ x3⟩⟩
theorem code_is {K : PySem.W.Frag} {st : Stmt} {x : Str} {f : Addr} {fd : FuncData} (F : Fun K x x st f fd) (hga : He.ga K x = f) : fd.code = .ref (He.cT K (x, none)).1 := by
  obtain ⟨oc, od, kV, doc, pm, an, cd, ct, osl, rfl, lk, hcd⟩ := F.ex
  obtain ⟨c0, rfl⟩ := He.codeIn_ref hcd
  have e : He.fAd K (x, none) = f := hga
  rw [show (He.cT K (x, none)).1 = c0 from He.codeOf_eq (p := (x, none)) (by rw [e]; exact lk) rfl]
end Tw

namespace Tw
open PySem PySem.Spec PyProof.Rows L2
def topS (i : Nat) : Stmt := PySem.Challenge.pw_tirewish_k04_whole_nobody_lacks_longer.main.body.getD i (.Pass ⟨0, 0, 0, 0⟩)
abbrev S_one_turn : Stmt := topS 1
abbrev S_walked : Stmt := topS 3
abbrev S_TooMany___init__ : Stmt := inClass (topS 12) 0
abbrev S_caps : Stmt := topS 14
abbrev S_all_wishes : Stmt := topS 15
abbrev S_longest : Stmt := topS 18
abbrev S_lacks : Stmt := topS 19
abbrev S_starving : Stmt := topS 20
abbrev S__law_deck : Stmt := topS 22
abbrev S__law_pick : Stmt := topS 23
abbrev S__law_name_of : Stmt := topS 24
abbrev S__law_try : Stmt := topS 25
abbrev S__law_custom : Stmt := topS 26
abbrev S__law_wishes : Stmt := topS 27
abbrev S__law_had : Stmt := topS 28
abbrev S__law_after : Stmt := topS 29
abbrev S__law_all : Stmt := topS 30
abbrev S__law_small : Stmt := topS 31
abbrev S__law_line : Stmt := topS 32
abbrev S__law_lacks : Stmt := topS 33
abbrev S__law_starving : Stmt := topS 34
abbrev S_law : Stmt := topS 35
/-! ## one_turn -/
def nOne : List Str := ["custom", "wishes", "many", "ties", "hands", "sign", "hand", "wish", "order", "had", "after", "rise", "fall", "cap"]
theorem scOne : FnScope nOne ["custom", "wishes"] (defScope S_one_turn) := ⟨rfl, rfl, rfl, by decide +kernel, rfl, by decide +kernel, by decide +kernel⟩
section
variable {P : Program} {w : World} {K : PySem.W.Frag} {mg : Str → Option Value} {base : Heap}
theorem ok_one_turn {f : Addr} {fd : FuncData} (F : Fun K "one_turn" "one_turn" S_one_turn f fd) (B : Bn mg) : FnOk P w K mg base CX0 1 f fd ["custom", "wishes"] (spP prOne) := by
  refine fn_ok F scOne (fun ds d h => ?_) (fun ds d h f cdv A outer s H E F0 H0 hr => ?_)
  · obtain ⟨c, ws, rfl, _⟩ := h; rfl
  · obtain ⟨c, ws, rfl, hc, hw, rfl⟩ := h
    have nd := scOne.nd
    have hl : ws.length ≤ c.hands.length := Nat.le_of_eq hw.len
    have h64 : ws.length < 64 := by have := hc.four; omega
    have hm0 : 0 ≤ c.many := by have := hc.many1; omega
    -- many, ties, hands = custom
    refine dss_asg (de_var 0) (dg_tup (dgs_cons (dg_name 2 nd) (dgs_cons (dg_name 3 nd) (dgs_cons (dg_name 4 nd) dgs_nil)))) ?_
    -- sign = 1 if ties == 'first' else -1
    refine dss_set 5 nd (de_is (d2 := .int (signOf c)) (de_if (dt_cmp op_eq (de_var 3) de_str v_eqS) (fun _ => de_int) (fun _ => de_un un_neg de_int v_neg)) ?_) ?_
    · unfold signOf
      rw [tieS_first]
      cases c.first <;> rfl
    -- order = sorted([(-wish, sign * hand) for hand, wish in enumerate(wishes)])
    refine dss_set 8 nd (d := .list ((orderOf c ws).map pairD)) (de_callB cr_sortedPO B.sorted (by decide +kernel) (da_cons (de_is (d2 := .list (((enumI ws).map fun p => (-p.2, signOf c * p.1)).map pairD)) (de_lc (xs := enumI ws) (enc := fun p => .tuple [.int p.1, .int p.2]) (own := [("hand", 6), ("wish", 7)]) _ (fun _ => true) (fun p => pairD (-p.2, signOf c * p.1)) [6, 7] rfl nd (blkOk_by (N := nOne) (sc := defScope S_one_turn) (by decide +kernel))
      (by rw [← enumD_ints]; exact di_enumT (da_cons (de_var 1) da_nil) B.enumerate)
      (fun p _ _ _ _ _ _ => dg_tup (dgs_cons (dg_name 6 nd) (dgs_cons (dg_name 7 nd) dgs_nil)))
      (fun _ _ _ _ _ _ _ => pts_none)
      (fun p _ _ _ _ _ _ _ => de_tup (da_cons (de_un un_neg (de_var 7) v_neg) (da_cons (de_op op_mul (de_var 5) (de_var 6) (v_mul (signOf_mul c _))) da_nil)))
      (by decide) (by rw [enumI_len]; exact small64 h64)) (by rw [filter_tt, List.map_map]; rfl)) da_nil) v_sortP) ?_
    -- had = tuple(sorted([sign * hand for wish, hand in order[:many]]))
    refine dss_set 9 nd (d := wiD (hadOf c ws)) (de_callTy call_tuple_of B.tuple (by decide +kernel) (da_cons (de_callB cr_sorted B.sorted (by decide +kernel) (da_cons (de_is (de_lc (xs := takeI c.many (orderOf c ws)) (enc := pairD) (own := [("wish", 7), ("hand", 6)]) _ (fun _ => true) (fun p => .int (signOf c * p.2)) [7, 6] rfl nd (blkOk_by (N := nOne) (sc := defScope S_one_turn) (by decide +kernel))
      (by rw [← cutD_take]; exact di_list (de_sl sl_list (de_var 8) do_none (do_some (de_var 2)) v_slL))
      (fun p _ _ _ _ _ _ => dg_tup (dgs_cons (dg_name 7 nd) (dgs_cons (dg_name 6 nd) dgs_nil)))
      (fun _ _ _ _ _ _ _ => pts_none)
      (fun p _ _ _ _ _ _ _ => de_op op_mul (de_var 5) (de_var 6) (v_mul (signOf_mul c _)))
      (by decide) ?_) (by rw [filter_tt, List.map_map]; rfl)) da_nil) (v_sortI (ns := (takeI c.many (orderOf c ws)).map fun p => signOf c * p.2) ?_)) da_nil) v_tupL) ?_
    · refine Nat.le_trans (takeI_len _ _) (small64 ?_)
      rw [orderOf, (sortP_perm _).length_eq, List.length_map, enumI_len]; exact h64
    · rw [List.length_map]
      refine Nat.lt_of_le_of_lt (takeI_len _ _) ?_
      rw [orderOf, (sortP_perm _).length_eq, List.length_map, enumI_len]; exact h64
    rw [hadOf_eq c ws hm0]
    -- after = []
    refine dss_newl 10 nd fun p => ?_
    -- for hand, wish in enumerate(wishes)
    let I : Nat → Env' → Prop := fun i ρ => ρ = [.dat (cuD c), .dat (wiD ws), .dat (.int c.many), .dat (.str (tieS c.first)), .dat (.tuple (c.hands.map haD)), .dat (.int (signOf c)), .no, .no, .dat (.list ((orderOf c ws).map pairD)), .dat (wiD (had c ws)),
      .own p (.lst (((enumI ws).take i).map fun q => .int (stepOf (had c ws) c.hands q.1 q.2))), .no, .no, .no]
    refine dss_for I (di_enumT (da_cons (de_var 1) da_nil) B.enumerate) rfl (fun i x ρ' hx hI => ?_) (fun ρ' hI => ?_)
    · subst hI
      obtain ⟨wq, hw, rfl⟩ := enumD_int_get hx
      have hi : i < ws.length := (List.getElem?_eq_some_iff.mp hw).1
      refine ⟨_, _, dg_tup (dgs_cons (dg_name 6 nd) (dgs_cons (dg_name 7 nd) dgs_nil)), ?_⟩
      -- rise, fall, cap = hands[hand]
      refine dss_asg (de_ix ix_tup (de_var 4) (de_var 6) (v_ixT (atI_hand (Nat.lt_of_lt_of_le hi hl)))) (dg_tup (dgs_cons (dg_name 11 nd) (dgs_cons (dg_name 12 nd) (dgs_cons (dg_name 13 nd) dgs_nil)))) ?_
      refine dss_app 10 (d := .int (stepOf (had c ws) c.hands i wq)) (da_cons (de_is (de_if (dt_cmp op_in_seq (de_var 6) (de_var 9) v_inI) (fun _ => de_callB (call_max2 rfl) B.max (by decide +kernel) (da_cons de_int (da_cons (de_op op_sub (de_var 7) (de_var 12) v_sub) da_nil)) v_max2)
        (fun _ => de_callB (call_min2 rfl) B.min (by decide +kernel) (da_cons (de_var 13) (da_cons (de_op op_add (de_var 7) (de_var 11) v_add) da_nil)) v_min2)) ?_) da_nil) ?_ ?_
      · unfold stepOf
        by_cases hm : (i : Int) ∈ had c ws
        · rw [if_pos (decide_eq_true hm), if_pos hm]
        · rw [decide_eq_false hm, if_neg (by decide), if_neg hm]
      · rw [List.length_map, List.length_take, enumI_len]
        exact Nat.lt_of_le_of_lt (Nat.min_le_right _ _) (Nat.lt_of_lt_of_le h64 (by decide))
      · refine dss_nilF [6, 7, 11, 12, 13] ?_
        have e := enumI_take_succ (fun q : Int × Int => PyData.int (stepOf (had c ws) c.hands q.1 q.2)) hw
        show _ = _
        rw [e]; rfl
    · subst hI
      refine dss_freeze 10 (dss_ret (de_is (de_tup (da_cons (de_var 9) (da_cons (de_callTy call_tuple_of B.tuple (by decide +kernel) (da_cons (de_var 10) da_nil) v_tupL) da_nil))) ?_) rfl)
      have hn : (enumD (ws.map PyData.int)).length = (enumI ws).length := by rw [enumD_ints, List.length_map]
      rw [hn, List.take_length]
      unfold oneD wiD after afterBy
      rw [List.map_map]; rfl
end

/-! ## walked -/
def spWalk : Sp := fun vs H Q _ => ∃ F c ws, Same F H ∧ RpA F vs [cuD c, wiD ws] ∧ WfC c ∧ WfW c ws ∧
  ∀ i n p dd t xs F2 H2, Round c ws i n → Grow F H F2 H2 → H p = none → F2 p = none → H2 p = some (.lst xs) → RpA F2 xs ((rowN c ws n).map wiD) → H dd = none → F2 dd = none → H2 dd = some (.dT (dctN c ws n)) →
    H t = none → F2 t = none → H2 t = some (.tup [.ref p, .ref dd, .int (i : Int)]) → Q (.ref t) H2
def nWalk : List Str := ["custom", "wishes", "known", "row", "had"]
theorem scWalk : FnScope nWalk ["custom", "wishes"] (defScope S_walked) := ⟨rfl, rfl, rfl, by decide +kernel, rfl, by decide +kernel, by decide +kernel⟩
section
variable {P : Program} {w : World} {K : PySem.W.Frag} {mg : Str → Option Value} {base : Heap}
theorem ok_walked {f : Addr} {fd : FuncData} (F : Fun K "walked" "walked" S_walked f fd) (B : Bn mg) (G1 : Cal P w K mg base 1 "one_turn" 2 (spP prOne)) : FnOk P w K mg base CX0 2 f fd ["custom", "wishes"] spWalk := by
  refine F.ok scWalk (fun vs H Q E h => ?_) (fun cdv A outer s H vs Q E hr h => ?_)
  · obtain ⟨F, c, ws, _, r, _⟩ := h; exact r.len
  · obtain ⟨F0, c, ws, e, r, hc, hw, kk⟩ := h
    have nd := scWalk.nd
    have hu : (Bod P w K mg base nWalk "walked" S_walked f cdv A outer s H E).A.units + 1 < cLine := by have := hr.un; show (A.deeper _).units + 1 < _; omega
    have body : DSs (Bod P w K mg base nWalk "walked" S_walked f cdv A outer s H E) [] F0 H (entry [cuD c, wiD ws] nWalk.length) (defBody S_walked) { N := fun _ => False, R := fun _ _ => False, RR := Q } := by
      refine dss_newD 2 nd fun dd => ?_
      refine dss_newl 3 nd fun p => ?_
      let W : Nat → Env' → Prop := fun m ρ => ∃ k, m = 65537 - k ∧ (∀ j l, j < l → l < k → wAt c ws j ≠ wAt c ws l) ∧ ρ = [.dat (cuD c), .dat (wiD (wAt c ws k)), .own dd (.dct (dctN c ws k)), .own p (.lst ((rowN c ws k).map wiD)), .no]
      refine dss_while W (fun ρ => ∃ i n, Round c ws i n ∧ ρ = [.dat (cuD c), .dat (wiD (wAt c ws n)), .own dd (.dct (dctN c ws n)), .own p (.lst ((rowN c ws n).map wiD)), .no]) 65537 ⟨0, rfl, fun j l _ h => by omega, rfl⟩ (fun m ρ' hW => ?_) (fun ρ' hI => ?_)
      · obtain ⟨k, rfl, hd, rfl⟩ := hW
        refine ⟨_, dt_notinD 2 rfl hu (de_var 1), fun hx => ?_, fun hx => ?_⟩
        · have hnone : valV (dctN c ws k) (wKey (wAt c ws k)) = none := by
            cases z : valV (dctN c ws k) (wKey (wAt c ws k)) with
            | none => rfl
            | some v => rw [z] at hx; cases hx
          have hdk : ∀ j, j < k → wAt c ws j ≠ wAt c ws k := fun j hj z => by
            have := dctN_some hj hd
            rw [z, hnone] at this; cases this
          have hd1 : ∀ j l, j < l → l < k + 1 → wAt c ws j ≠ wAt c ws l := fun j l h1 h2 => by
            by_cases hl : l = k
            · subst hl; exact hdk j h1
            · exact hd j l h1 (by omega)
          have hb := distinct_bound hc hw hd1
          refine dss_putD 2 (n := (k : Int)) rfl hu (de_is (de_peek 3 rfl (de_callB call_len_seq B.len (by decide +kernel) (da_cons (de_var 3) da_nil) v_lenL)) (by rw [List.length_map, rowN_len])) (de_var 1) (by rw [dctN_len]; exact Nat.lt_of_lt_of_le (show k < 65536 by omega) (by decide)) ?_
          rw [dctN_put hdk]
          refine dss_asg (de_call (d := oneD c (wAt c ws k)) G1 hr (da_cons (de_var 0) (da_cons (de_var 1) da_nil)) ⟨c, wAt c ws k, rfl, hc, wf_at hc hw k, rfl⟩) (dg_tup (dgs_cons (dg_name 4 nd) (dgs_cons (dg_name 1 nd) dgs_nil))) ?_
          refine dss_app 3 (da_cons (de_var 4) da_nil) ?_ ?_
          · rw [List.length_map, rowN_len]
            exact Nat.lt_of_lt_of_le (show k < 65536 by omega) (by decide)
          refine dss_nilF [4] ⟨65537 - (k + 1), by omega, k + 1, rfl, hd1, ?_⟩
          rw [rowN_succ, List.map_append]
          rfl
        · have hsome : (valV (dctN c ws k) (wKey (wAt c ws k))).isSome = true := by
            cases z : (valV (dctN c ws k) (wKey (wAt c ws k))).isSome with
            | true => rfl
            | false => rw [z] at hx; cases hx
          obtain ⟨i, hi, he⟩ := dctN_is hsome
          exact ⟨i, k, ⟨hd, hi, he⟩, rfl⟩
      · obtain ⟨i, n, hR, rfl⟩ := hI
        have hget : valV (dctN c ws n) (wKey (wAt c ws n)) = some (.int (i : Int)) := by rw [← hR.again]; exact dctN_some hR.lt hR.dist
        refine dss_retRaw (pe_tup (pa_cons (pv 3) (pa_cons (pv 2) (pa_cons (de_getD 2 (n := (i : Int)) (ρ := [.dat (cuD c), .dat (wiD (wAt c ws n)), .own dd (.dct (dctN c ws n)), .own p (.lst ((rowN c ws n).map wiD)), .no]) rfl hu (de_var 1) hget) pa_nil)))) (fun σ F H1 a => ?_) (fun σ H Q Q' m h => ?_)
        · obtain ⟨xs, h1, h2, h3, h4⟩ := a.ok.lstIs (i := 3) rfl
          obtain ⟨g1, g2, ho, g3, g4⟩ := a.ok.own (i := 2) rfl
          have g4' : ho = .dT (dctN c ws n) := g4
          subst g4'
          refine ⟨_, h1, _, g1, F, a.ok, fun v F2 H2 g r => ?_⟩
          obtain rfl := r.int_inv
          refine ⟨by show 3 ≤ sizeLine; decide, fun t ht => ?_⟩
          have a2 := a.grow g
          have fr : ∀ {b : Addr} {j : Nat} {w : Ow}, [Ent.dat (cuD c), .dat (wiD (wAt c ws n)), .own dd (.dct (dctN c ws n)), .own p (.lst ((rowN c ws n).map wiD)), .no][j]? = some (.own b w) → H b = none := fun {b j w} hj => by
            rcases a.new j b w hj with q | q
            · exact q
            · cases q
          have hp0 : H p = none := fr (j := 3) rfl
          have hd0 : H dd = none := fr (j := 2) rfl
          have ht0 : H t = none := by
            cases q : H t with
            | none => rfl
            | some u => exact absurd ht (a2.g.k t (by rw [q]; simp))
          have h3' := g.same _ _ h3 rfl
          have g3' := g.same _ _ g3 rfl
          have hpt : p ≠ t := fun z => by subst z; rw [h3'] at ht; cases ht
          have hdt : dd ≠ t := fun z => by subst z; rw [g3'] at ht; cases ht
          exact kk i n p dd t xs F2 (upd H2 t _) hR (a2.g.trans (Grow.skip g.s ht)) hp0 (g.n p h2 (NN.lst h3)) (by rw [upd_ne hpt]; exact h3') (h4.mono g.f) hd0 (g.n dd g2 ⟨_, g3, rfl⟩) (by rw [upd_ne hdt]; exact g3') ht0 (same_none g.s ht) upd_same
        · obtain ⟨_, h1, _, h2, F, ok, h3⟩ := h
          exact ⟨_, h1, _, h2, F, ok, fun v F2 H2 g r => ⟨(h3 v F2 H2 g r).1, fun t ht => m _ _ ((h3 v F2 H2 g r).2 t ht)⟩⟩
    refine ⟨_, body, F0, ⟨GrowX.refl e, ok_entry e r (Nat.le_of_ble_eq_true rfl), fun i p w q => ?_⟩, fun ρ' σ' F' H' hn => hn.elim, ⟨fun d v ρ' σ' F' H' h => h.elim, fun v H' h => h⟩, fun ρ' σ' F' H' hn => hn.elim, fun ρ' σ' F' H' hn => hn.elim⟩
    have := owns_mem q
    cases this
end

/-! ## row, known, first = walked(custom, wishes) -/
section
variable {X : Cx} {ex : List Addr} {F0 H0 : Hp} {ρ : Env'} {sts : List Stmt} {A : Aims} {e : Expr} {es : List Expr} {k : Nat}
theorem dss_walk (ir ik iff : Nat) {xr xk xf : Str} {c : Custom} {ws : List Int} {p1 p2 p3 p4 p5 p6 p7 : Pos} {kt : Nat} (hN : X.N.Nodup)
    (G : Cal X.prog X.w X.K X.mg X.base k "walked" 2 spWalk) (hr : Room k X.A) (ha : DA X ρ (e :: es) [cuD c, wiD ws]) (hc : WfC c) (hw : WfW c ws)
    (kk : ∀ (i n : Nat) (dd : Addr), Round c ws i n → DSs X ex F0 H0 (((ρ.set ir (.dat (.list ((rowN c ws n).map wiD)))).set ik (.own dd (.dct (dctN c ws n)))).set iff (.dat (.int (i : Int)))) sts A)
    (hir : X.N[ir]? = some xr := by rfl) (hik : X.N[ik]? = some xk := by rfl) (hif : X.N[iff]? = some xf := by rfl)
    (hxr : Loc X.env.scope xr := by first | exact Or.inl rfl | exact Or.inr rfl) (hxk : Loc X.env.scope xk := by first | exact Or.inl rfl | exact Or.inr rfl) (hxf : Loc X.env.scope xf := by first | exact Or.inl rfl | exact Or.inr rfl)
    (hfr : X.fn xr = true ∨ X.env.scope.names.lookup xr = some .local := by first | exact .inl rfl | exact .inr rfl) (hfk : X.fn xk = true ∨ X.env.scope.names.lookup xk = some .local := by first | exact .inl rfl | exact .inr rfl) (hff : X.fn xf = true ∨ X.env.scope.names.lookup xf = some .local := by first | exact .inl rfl | exact .inr rfl)
    (hcalm : X.calm = true := by rfl)
    (hn : (assignEach [Expr.Name xr p1, .Name xk p2, .Name xf p3] X.env).length = 3 := by rfl) (hst : (assignEach [Expr.Name xr p1, .Name xk p2, .Name xf p3] X.env).findIdx? (·.1) = none := by rfl)
    (hs1 : (assignEach [Expr.Name xr p1, .Name xk p2, .Name xf p3] X.env).map (·.2) = assign (Expr.Name xr p1) X.env :: (assignEach [Expr.Name xk p2, .Name xf p3] X.env).map (·.2) := by rfl)
    (hs2 : (assignEach [Expr.Name xk p2, .Name xf p3] X.env).map (·.2) = assign (Expr.Name xk p2) X.env :: (assignEach [Expr.Name xf p3] X.env).map (·.2) := by rfl)
    (hs3 : (assignEach [Expr.Name xf p3] X.env).map (·.2) = assign (Expr.Name xf p3) X.env :: (assignEach [] X.env).map (·.2) := by rfl)
    (hs : swapsWithSole [.Tuple [Expr.Name xr p1, .Name xk p2, .Name xf p3] kt p4] (.Call (.Name "walked" p5) (e :: es) [] p6) p7.line X.env = pure false := by rfl) (hw2 : swappedStores [.Tuple [Expr.Name xr p1, .Name xk p2, .Name xf p3] kt p4] (.Call (.Name "walked" p5) (e :: es) [] p6) X.env = pure none := by rfl)
    (hh1 : (assignEach [.Tuple [Expr.Name xr p1, .Name xk p2, .Name xf p3] kt p4] X.env).map (·.2) = [assign (.Tuple [Expr.Name xr p1, .Name xk p2, .Name xf p3] kt p4) X.env] := by rfl)
    (hg : Gl X "walked" := by rfl) (he : starEach (e :: es) X.env = (false, eval e X.env) :: starEach es X.env := by rfl) (hpl : (backTo p6 (starEach es X.env)).any (·.1) = false := by rfl)
    (hrk : ir ≠ ik := by decide) (hkf : iff ≠ ik := by decide) (hlk : ik < ρ.length := by exact Nat.le_of_ble_eq_true rfl) :
    DSs X ex F0 H0 ρ (.Assign [.Tuple [.Name xr p1, .Name xk p2, .Name xf p3] kt p4] (.Call (.Name "walked" p5) (e :: es) [] p6) p7 :: sts) A := by
  obtain ⟨f, fd, ps, h1, h2, h3, _, h4⟩ := G
  refine dss_seq (N1 := fun ρ' => ∃ i n dd, Round c ws i n ∧ ρ' = ((ρ.set ir (.dat (.list ((rowN c ws n).map wiD)))).set ik (.own dd (.dct (dctN c ws n)))).set iff (.dat (.int (i : Int)))) ?_ fun ρ' ⟨i, n, dd, hR, h'⟩ => h' ▸ kk i n dd hR
  refine PS.imp (ps_asg (pe_call h4 hr hg h1 h2 h3 .nil pass0 ha (by decide) he hpl) (pg_tup hcalm (pgs_cons (pg_name hN hir hxr hfr) (pgs_cons (pg_name hN hik hxk hfk) (pgs_cons (pg_name hN hif hxf hff) pgs_nil hs3) hs2) hs1) hn hst) hs hw2 hh1) fun D σ H ⟨F, a, nn, rr, bb, cc⟩ => ?_
  refine ⟨F, a.ok, fun vs F1 H1 g1 r1 => ?_⟩
  show spWalk (vs ++ []) H1 _ E0
  rw [List.append_nil]
  refine ⟨F1, c, ws, g1.s, r1, hc, hw, fun i n p dd t xs F2 H2 hR g2 p0 q1 q2 q3 d0 q7 q8 t0 q4 q5 => ?_⟩
  have hH0 : ∀ {b : Addr}, H1 b = none → H b = none := fun {b} h => by
    cases z : H b with
    | none => rfl
    | some u => exact absurd h (g1.k b (by rw [z]; simp))
  have hH00 : ∀ {b : Addr}, H b = none → H0 b = none := fun {b} h => by
    cases z : H0 b with
    | none => rfl
    | some u => exact absurd h (a.g.k b (by rw [z]; simp))
  have hne : ∀ {b : Addr}, H b = none → ∀ (j : Nat) (q : Addr) (w : Ow), ρ[j]? = some (.own q w) → q ≠ b := fun {b} hb j q w hj z => by
    subst z
    obtain ⟨_, _, ho, y, _⟩ := a.ok.own hj
    rw [hb] at y; cases y
  have hpd : dd ≠ p := fun z => by subst z; rw [q2] at q8; cases q8
  refine ⟨t, _, rfl, SqT.of q5, rfl, _, _, rfl, _, _, rfl, _, _, rfl, rfl, ?_⟩
  have g12 : Grow F H F2 H2 := g1.trans g2
  have g3 : Grow F H (upd F2 p (.lst xs)) H2 := g12.tellNew (hH0 p0) q1 q2
  have ok2 : Ok (upd F2 p (.lst xs)) H2 ρ σ := (a.ok.grow g3)
  have s1 : Same F2 (upd F2 p (.lst xs)) := Same.upd_new q1
  have ok3 := ok2.setD (i := ir) (.lst upd_same (q3.mono s1))
  have hd3 : (upd F2 p (.lst xs)) dd = none := by rw [upd_ne hpd]; exact q7
  have hneS : ∀ (j : Nat) (q : Addr) (w : Ow), (ρ.set ir (.dat (.list ((rowN c ws n).map wiD))))[j]? = some (.own q w) → q ≠ dd := fun j q w hj => by
    by_cases hij : ir = j
    · subst hij
      have hl : ir < ρ.length := by
        have := (List.getElem?_eq_some_iff.mp hj).1
        simpa using this
      rw [List.getElem?_set_self hl] at hj; cases hj
    · rw [List.getElem?_set_ne hij] at hj
      exact hne (hH0 d0) j q w hj
  have ok4 := ok3.set (i := ik) (e := .own dd (.dct (dctN c ws n))) (v := .ref dd) ⟨rfl, hd3, _, q8, rfl⟩ (fun p' w z j q w' hj _ => by cases z; exact (hneS j q w' hj).symm)
  have ok5 := ok4.setD (i := iff) (d := .int (i : Int)) (.int _)
  refine nn _ _ _ _ ⟨i, n, dd, hR, rfl⟩ g3.f ⟨a.g.trans g3.up, ok5, fun j q w hj => ?_⟩
  by_cases h5 : iff = j
  · subst h5
    have hl := (List.getElem?_eq_some_iff.mp hj).1
    rw [List.getElem?_set_self (by simpa using hl)] at hj; cases hj
  rw [List.getElem?_set_ne h5] at hj
  by_cases h6 : ik = j
  · subst h6
    have hl := (List.getElem?_eq_some_iff.mp hj).1
    rw [List.getElem?_set_self (by simpa using hl)] at hj
    cases hj
    exact .inl (hH00 (hH0 d0))
  rw [List.getElem?_set_ne h6] at hj
  by_cases h7 : ir = j
  · subst h7
    have hl := (List.getElem?_eq_some_iff.mp hj).1
    rw [List.getElem?_set_self (by simpa using hl)] at hj; cases hj
  rw [List.getElem?_set_ne h7] at hj
  exact a.new j q w hj
end

theorem cutD_drop {α : Type} (f : α → PyData) (xs : List α) (n : Nat) (h : n ≤ xs.length) : cutD (xs.map f) (some (n : Int)) none = (xs.drop n).map f := by
  unfold cutD HT.sIx
  show List.take ((xs.map f).length - (if (n : Int) < 0 then ((n : Int) + ((xs.map f).length : Int)).toNat else min ((n : Int)).toNat (xs.map f).length)) (List.drop (if (n : Int) < 0 then ((n : Int) + ((xs.map f).length : Int)).toNat else min ((n : Int)).toNat (xs.map f).length) (xs.map f)) = _
  rw [if_neg (by omega), List.length_map, Int.toNat_natCast, Nat.min_eq_left h, List.map_drop]
  exact List.take_of_length_le (by rw [List.length_drop, List.length_map]; exact Nat.le_refl _)

/-! ## caps -/
def capsD (c : Custom) : PyData := .tuple ((c.hands.map fun h => h.cap).map .int)
def prCaps (ds : List PyData) (d : PyData) : Prop := ∃ c, ds = [cuD c] ∧ c.hands.length ≤ 1000 ∧ d = capsD c
def nCaps : List Str := ["custom", "hand"]
theorem scCaps : FnScope nCaps ["custom"] (defScope S_caps) := ⟨rfl, rfl, rfl, by decide +kernel, rfl, by decide +kernel, by decide +kernel⟩
section
variable {P : Program} {w : World} {K : PySem.W.Frag} {mg : Str → Option Value} {base : Heap}
theorem ok_caps {f : Addr} {fd : FuncData} (F : Fun K "caps" "caps" S_caps f fd) (B : Bn mg) : FnOk P w K mg base CX0 1 f fd ["custom"] (spP prCaps) := by
  refine fn_ok F scCaps (fun ds d h => ?_) (fun ds d h f cdv A outer s H E F0 H0 hr => ?_)
  · obtain ⟨c, rfl, _⟩ := h; rfl
  · obtain ⟨c, rfl, hl, rfl⟩ := h
    have nd := scCaps.nd
    exact dss_ret (de_callTy call_tuple_of B.tuple (by decide +kernel) (da_cons (de_is (d2 := .list ((c.hands.map fun h => h.cap).map .int)) (de_lc (xs := c.hands) (enc := haD) (own := [("hand", 1)]) _ (fun _ => true) (fun h => .int h.cap) [1] rfl nd (blkOk_by (N := nCaps) (sc := defScope S_caps) (by decide +kernel))
      (di_tup (de_ix ix_tup (de_var 0) de_int (v_ixT (by rfl))))
      (fun h _ _ _ _ _ _ => dg_name 1 nd)
      (fun _ _ _ _ _ _ _ => pts_none)
      (fun h _ _ _ _ _ _ _ => de_ix ix_tup (de_var 1) de_int (v_ixT (by rfl)))
      (by decide) (Nat.le_trans hl (by decide))) (by rw [filter_tt, List.map_map]; rfl)) da_nil) v_tupL) rfl
end

/-! ## all_wishes -/
def capsI (c : Custom) : List Int := c.hands.map fun h => h.cap
def allStep (acc : List (List Int)) (c : Int) : List (List Int) := acc.flatMap fun w => (List.range (c + 1).toNat).map fun (i : Nat) => w ++ [(i : Int)]
def allWs (cs : List Int) : List (List Int) := cs.foldl allStep [[]]
def sizeI (cs : List Int) : Int := cs.foldl (fun s c => s * (c + 1)) 1
def CapsOk (cs : List Int) : Prop := cs.length ≤ 4 ∧ ∀ c ∈ cs, 0 ≤ c ∧ c ≤ 15
theorem capsOk_of {c : Custom} (h : WfC c) : CapsOk (capsI c) := ⟨by unfold capsI; rw [List.length_map]; exact h.four, fun x hx => by
  obtain ⟨a, ha, rfl⟩ := List.mem_map.mp hx
  exact (h.steps a ha).2.2.2.2⟩
def inCaps : List Int → List Int → Prop
  | [], [] => True
  | c :: cs, x :: t => (0 ≤ x ∧ x ≤ c) ∧ inCaps cs t
  | _, _ => False
theorem inCaps_len : ∀ {cs t : List Int}, inCaps cs t → t.length = cs.length
  | [], [], _ => rfl
  | _ :: _, _ :: _, h => by simp [inCaps_len h.2]
  | [], _ :: _, h => h.elim
  | _ :: _, [], h => h.elim
theorem mem_step {acc : List (List Int)} {c : Int} {w : List Int} : w ∈ allStep acc c ↔ ∃ a ∈ acc, ∃ x : Int, (0 ≤ x ∧ x ≤ c) ∧ w = a ++ [x] := by
  unfold allStep
  simp only [List.mem_flatMap, List.mem_map, List.mem_range]
  constructor
  · rintro ⟨a, ha, i, hi, rfl⟩
    exact ⟨a, ha, i, ⟨by omega, by omega⟩, rfl⟩
  · rintro ⟨a, ha, x, hx, rfl⟩
    exact ⟨a, ha, x.toNat, by omega, by rw [Int.toNat_of_nonneg hx.1]⟩
theorem mem_fold (cs : List Int) : ∀ (acc : List (List Int)) (w : List Int), w ∈ cs.foldl allStep acc ↔ ∃ a ∈ acc, ∃ t, inCaps cs t ∧ w = a ++ t := by
  induction cs with
  | nil =>
    intro acc w
    constructor
    · intro h; exact ⟨w, h, [], trivial, by simp⟩
    · rintro ⟨a, ha, t, ht, rfl⟩
      cases t with
      | nil => simpa using ha
      | cons _ _ => exact ht.elim
  | cons c cs ih =>
    intro acc w
    rw [List.foldl_cons, ih]
    constructor
    · rintro ⟨a, ha, t, ht, rfl⟩
      obtain ⟨b, hb, x, hx, rfl⟩ := mem_step.mp ha
      exact ⟨b, hb, x :: t, ⟨hx, ht⟩, by simp⟩
    · rintro ⟨a, ha, t, ht, rfl⟩
      cases t with
      | nil => exact ht.elim
      | cons x t => exact ⟨a ++ [x], mem_step.mpr ⟨a, ha, x, ht.1, rfl⟩, t, ht.2, by simp⟩
theorem mem_allWs {cs w : List Int} : w ∈ allWs cs ↔ inCaps cs w := by
  unfold allWs
  rw [mem_fold]
  constructor
  · rintro ⟨a, ha, t, ht, rfl⟩
    rw [List.mem_singleton.mp ha]; exact ht
  · intro h; exact ⟨[], by simp, w, h, rfl⟩
theorem inCaps_wf : ∀ (hs : List Hand) (ws : List Int), inCaps (hs.map fun h => h.cap) ws ↔ ws.length = hs.length ∧ ∀ (i : Nat) (w : Int), ws[i]? = some w → 0 ≤ w ∧ w ≤ (handAt hs i).cap
  | [], [] => by simp [inCaps]
  | [], _ :: _ => by simp [inCaps]
  | _ :: _, [] => by simp [inCaps]
  | h :: hs, x :: ws => by
    show (_ ∧ _) ↔ _
    rw [inCaps_wf hs ws]
    constructor
    · rintro ⟨h1, h2, h3⟩
      refine ⟨by simp [h2], fun i w hi => ?_⟩
      cases i with
      | zero => cases hi; exact h1
      | succ i =>
        have := h3 i w (by simpa using hi)
        simpa [handAt] using this
    · rintro ⟨h1, h2⟩
      refine ⟨h2 0 x rfl, by simpa using h1, fun i w hi => ?_⟩
      have := h2 (i + 1) w (by simpa using hi)
      simpa [handAt] using this
theorem mem_wf {c : Custom} {ws : List Int} : ws ∈ allWs (capsI c) ↔ WfW c ws := by
  rw [mem_allWs]
  show inCaps (c.hands.map fun h => h.cap) ws ↔ _
  rw [inCaps_wf]
  exact ⟨fun ⟨a, b⟩ => ⟨a, b⟩, fun h => ⟨h.len, h.bound⟩⟩
theorem allStep_len (acc : List (List Int)) (c : Int) (h : 0 ≤ c) : ((allStep acc c).length : Int) = acc.length * (c + 1) := by
  unfold allStep
  rw [List.length_flatMap]
  simp only [List.length_map, List.length_range]
  rw [List.map_const', List.sum_replicate_nat]
  have : ((c + 1).toNat : Int) = c + 1 := by omega
  push_cast
  rw [this]
theorem allStep_le (acc : List (List Int)) (c : Int) (h : 0 ≤ c) (h2 : c ≤ 15) : (allStep acc c).length ≤ acc.length * 16 := by
  have := allStep_len acc c h
  have h3 : (acc.length : Int) * (c + 1) ≤ acc.length * 16 := Int.mul_le_mul_of_nonneg_left (by omega) (by omega)
  omega
theorem fold_all (cs : List Int) : ∀ acc, (∀ c ∈ cs, 0 ≤ c ∧ c ≤ 15) → ((cs.foldl allStep acc).length : Int) = cs.foldl (fun s c => s * (c + 1)) (acc.length : Int) ∧ (cs.foldl allStep acc).length ≤ acc.length * 16 ^ cs.length := by
  induction cs with
  | nil => intro acc _; simp
  | cons c cs ih =>
    intro acc h
    have hc := h c (by simp)
    obtain ⟨h1, h2⟩ := ih (allStep acc c) (fun x hx => h x (by simp [hx]))
    refine ⟨by rw [List.foldl_cons, List.foldl_cons, h1, allStep_len acc c hc.1], ?_⟩
    rw [List.foldl_cons]
    have h3 := allStep_le acc c hc.1 hc.2
    refine Nat.le_trans h2 (Nat.le_trans (Nat.mul_le_mul_right _ h3) ?_)
    rw [List.length_cons, Nat.pow_succ, Nat.mul_assoc, Nat.mul_comm 16]
    exact Nat.le_refl _
theorem allWs_len {cs : List Int} (h : CapsOk cs) : ((allWs cs).length : Int) = sizeI cs := (fold_all cs [[]] h.2).1
theorem take_capsOk {cs : List Int} (h : CapsOk cs) (i : Nat) : CapsOk (cs.take i) := ⟨by rw [List.length_take]; have := h.1; omega, fun c hc => h.2 c (List.mem_of_mem_take hc)⟩
theorem allWs_bound {cs : List Int} (h : CapsOk cs) : (allWs cs).length ≤ 65536 := by
  have := (fold_all cs [[]] h.2).2
  refine Nat.le_trans this ?_
  rw [List.length_singleton, Nat.one_mul]
  exact Nat.le_trans (Nat.pow_le_pow_right (by decide) h.1) (by decide)
theorem allWs_each {cs : List Int} (h : CapsOk cs) (i : Nat) : ∀ v ∈ allWs (cs.take i), v.length ≤ 4 := fun v hv => by
  have h1 := inCaps_len (mem_allWs.mp hv)
  have h2 := (take_capsOk h i).1
  omega
theorem sizeI_bound {cs : List Int} (h : CapsOk cs) : 0 ≤ sizeI cs ∧ sizeI cs ≤ 65536 := by
  have h1 := allWs_len h
  have h2 := allWs_bound h
  omega
theorem foldl_take {α β : Type} (f : β → α → β) (b : β) {xs : List α} {i : Nat} {x : α} (h : xs[i]? = some x) : (xs.take (i + 1)).foldl f b = f ((xs.take i).foldl f b) x := by
  have e : xs.take (i + 1) = xs.take i ++ [x] := by
    have := take_map_succ (fun x : α => x) h
    simpa using this
  rw [e, List.foldl_append]; rfl
def prAll (ds : List PyData) (d : PyData) : Prop := ∃ c most, ds = [cuD c, .int most] ∧ WfC c ∧ sizeI (capsI c) ≤ most ∧ d = .list ((allWs (capsI c)).map wiD)
theorem capsD_eq (c : Custom) : capsD c = .tuple ((capsI c).map .int) := rfl
def nAll : List Str := ["custom", "most", "size", "cap", "found", "wishes", "wish"]
theorem scAll : FnScope nAll ["custom", "most"] (defScope S_all_wishes) := ⟨rfl, rfl, rfl, by decide +kernel, rfl, by decide +kernel, by decide +kernel⟩
theorem noOwn_of (ρ : Env') (h : ρ.all (fun e => match e with | .own _ _ => false | _ => true) = true) : NoOwn ρ := fun j p w hj => by
  have := List.all_eq_true.mp h _ (List.mem_of_getElem? hj)
  exact absurd this (by simp)
section
variable {P : Program} {w : World} {K : PySem.W.Frag} {mg : Str → Option Value} {base : Heap}
theorem ok_all_wishes {f : Addr} {fd : FuncData} (F : Fun K "all_wishes" "all_wishes" S_all_wishes f fd) (B : Bn mg) (G1 : Cal P w K mg base 1 "caps" 1 (spP prCaps)) : FnOk P w K mg base CX0 2 f fd ["custom", "most"] (spP prAll) := by
  refine fn_ok F scAll (fun ds d h => ?_) (fun ds d h f cdv A outer s H E F0 H0 hr => ?_)
  · obtain ⟨c, most, rfl, _⟩ := h; rfl
  · obtain ⟨c, most, rfl, hc, hm, rfl⟩ := h
    have nd := scAll.nd
    have co := capsOk_of hc
    have h4 := hc.four
    have hcl : (capsI c).length ≤ 4 := co.1
    refine dss_set 2 nd de_int ?_
    let I : Nat → Env' → Prop := fun i ρ => ρ = [.dat (cuD c), .dat (.int most), .dat (.int (sizeI ((capsI c).take i))), .no, .no, .no, .no]
    refine dss_for I (di_tup (ds := (capsI c).map .int) (de_call (d := capsD c) G1 hr (da_cons (de_var 0) da_nil) ⟨c, rfl, by omega, rfl⟩)) rfl (fun i x ρ' hx hI => ?_) (fun ρ' hI => ?_)
    · subst hI
      rw [List.getElem?_map] at hx
      obtain ⟨cap, hcap, rfl⟩ := Option.map_eq_some_iff.mp hx
      refine ⟨_, _, dg_name 3 nd, ?_⟩
      have hb := sizeI_bound (take_capsOk co i)
      refine dss_mulI 2 nd (j := cap + 1) (i := sizeI ((capsI c).take i)) (de_op op_add (de_var 3) de_int v_add) rfl (.inl ⟨by omega, by omega⟩) (dss_nilF [3] ?_)
      have e : sizeI ((capsI c).take (i + 1)) = sizeI ((capsI c).take i) * (cap + 1) := foldl_take _ _ hcap
      show _ = _
      rw [e]; rfl
    · have hI' : ρ' = _ := hI
      rw [List.length_map, List.take_length] at hI'
      subst hI'
      refine dss_ifx (x := false) (dt_is (dt_cmp op_gt (de_var 2) (de_var 1) v_gt) (by
        rw [decide_eq_false_iff_not]; omega)) (fun h => by cases h) (fun _ => ?_)
      refine dss_set 4 nd (d := .list ((allWs []).map wiD)) (de_lst (da_cons (de_tup da_nil) da_nil)) ?_
      let J : Nat → Env' → Prop := fun i ρ => ρ = [.dat (cuD c), .dat (.int most), .dat (.int (sizeI (capsI c))), .no, .dat (.list ((allWs ((capsI c).take i)).map wiD)), .no, .no]
      refine dss_for J (di_tup (ds := (capsI c).map .int) (de_call (d := capsD c) G1 hr (da_cons (de_var 0) da_nil) ⟨c, rfl, by omega, rfl⟩)) rfl (fun i x ρ' hx hI => ?_) (fun ρ' hI => ?_)
      · subst hI
        rw [List.getElem?_map] at hx
        obtain ⟨cap, hcap, rfl⟩ := Option.map_eq_some_iff.mp hx
        have hcm := co.2 cap (List.mem_of_getElem? hcap)
        refine ⟨_, _, dg_name 3 nd, ?_⟩
        have e : allWs ((capsI c).take (i + 1)) = allStep (allWs ((capsI c).take i)) cap := foldl_take _ _ hcap
        have hb1 := allWs_bound (take_capsOk co (i + 1))
        have hb0 := allWs_bound (take_capsOk co i)
        have hd : allF (allWs ((capsI c).take i)) (fun _ => List.range (cap + 1).toNat) (fun w (j : Nat) => wiD (w ++ [(j : Int)])) = (allWs ((capsI c).take (i + 1))).map wiD := by
          rw [e]; unfold allF allStep; rw [List.map_flatMap]
          simp only [List.map_map]; rfl
        have hlen : ∀ v ∈ allWs ((capsI c).take i), v.length ≤ 4 := fun v hv => allWs_each co i v hv
        generalize hW : allWs ((capsI c).take i) = W at hd hlen hb0 ⊢
        refine dss_setLc2 4 (xs := W) (ys := fun _ => List.range (cap + 1).toNat) (enc := wiD) (enc1 := fun (j : Nat) => .int (j : Int)) (own := [("wishes", 5), ("wish", 6)]) _ _ (fun w (j : Nat) => wiD (w ++ [(j : Int)])) [5] [6] [6] rfl nd (blkOk_by (N := nAll) (sc := defScope S_all_wishes) (by decide +kernel)) (by decide)
          (di_list (de_var 4))
          (fun v _ _ _ _ _ _ => dg_name 5 nd)
          (fun v _ _ _ _ _ _ => by
            rw [show (List.range (cap + 1).toNat).map (fun (j : Nat) => PyData.int (j : Int)) = rngD 0 (cap + 1).toNat by simp [rngD]]
            exact di_range1 (da_cons (de_op op_add (de_var 3) de_int v_add) da_nil) B.range ⟨by omega, by omega⟩)
          (fun v _ j _ _ _ _ _ _ => dg_name 6 nd)
          (fun v hv j _ _ _ _ _ _ => de_is (de_op op_catA (de_var 5) (de_tup (da_cons (de_var 6) da_nil)) (v_catT (by
            have := hlen v hv
            rw [List.length_map, List.length_singleton]; omega))) (by unfold wiD; rw [List.map_append]; rfl))
          (by decide) (by decide) (noOwn_of _ rfl) (fun v _ => noOwn_of _ rfl) (by rw [hd, List.length_map]; exact Nat.le_trans hb1 (by decide)) (congrArg PyData.list hd) (dss_nilF [3] rfl)
      · have hJ' : ρ' = _ := hI
        rw [List.length_map, List.take_length] at hJ'
        subst hJ'
        exact dss_ret (de_var 4) rfl
end

/-! ## starving -/
open Classical in
noncomputable def rnd (c : Custom) (ws : List Int) : Nat × Nat := if h : ∃ p : Nat × Nat, Round c ws p.1 p.2 then h.choose else (0, 0)
theorem rnd_of {c : Custom} {ws : List Int} {i n : Nat} (h : Round c ws i n) : rnd c ws = (i, n) := by
  have hx : ∃ p : Nat × Nat, Round c ws p.1 p.2 := ⟨(i, n), h⟩
  unfold rnd
  rw [dif_pos hx]
  obtain ⟨h1, h2⟩ := Round.inj hx.choose_spec h
  exact Prod.ext h1 h2
/-- a hand has in the round -/
def hasR (rs : List (List Int)) (i : Nat) (hand : Int) : Bool := ((rs.drop i).map fun h => decide (hand ∈ h)).any id
noncomputable def hasH (c : Custom) (ws : List Int) (hand : Int) : Bool := hasR (rowN c ws (rnd c ws).2) (rnd c ws).1 hand
noncomputable def stOne (c : Custom) (ws : List Int) : Option (List Int × Nat) := ((List.range c.hands.length).find? fun (h : Nat) => !hasH c ws (h : Int)).map fun h => (ws, h)
noncomputable def firstSt (c : Custom) : Option (List Int × Nat) := (allWs (capsI c)).findSome? (stOne c)
def stD : Option (List Int × Nat) → PyData
  | none => .none
  | some (ws, h) => .tuple [wiD ws, .int (h : Int)]
def prSt (ds : List PyData) (d : PyData) : Prop := ∃ c, ds = [cuD c] ∧ WfC c ∧ sizeI (capsI c) ≤ 2000 ∧ d = stD (firstSt c)
def nSt : List Str := ["custom", "wishes", "row", "known", "first", "hand", "had"]
theorem scSt : FnScope nSt ["custom"] (defScope S_starving) := ⟨rfl, rfl, rfl, by decide +kernel, rfl, by decide +kernel, by decide +kernel⟩
theorem find_range_none {p : Nat → Bool} {k : Nat} (h : (List.range k).find? p = none) (hk : p k = false) : (List.range (k + 1)).find? p = none := by
  rw [List.range_succ, List.find?_append, h]
  simp [hk]
theorem find_range_some {p : Nat → Bool} {k m : Nat} (h : (List.range k).find? p = none) (hk : p k = true) (hm : k < m) : (List.range m).find? p = some k := by
  rw [List.find?_eq_none] at h
  have e : List.range m = List.range k ++ (List.range' k (m - k)) := by
    rw [List.range_eq_range', List.range_eq_range', show m = k + (m - k) by omega, ← List.range'_append]
    simp
  rw [e, List.find?_append, List.find?_eq_none.mpr h]
  rw [show m - k = (m - k - 1) + 1 by omega, List.range'_succ]
  simp [hk]
section
variable {P : Program} {w : World} {K : PySem.W.Frag} {mg : Str → Option Value} {base : Heap}
theorem ok_starving {f : Addr} {fd : FuncData} (F : Fun K "starving" "starving" S_starving f fd) (B : Bn mg) (hM : ∃ t, mg "MOST" = some (.int 2000 t)) (G0 : Cal P w K mg base 2 "all_wishes" 2 (spP prAll)) (G1 : Cal P w K mg base 2 "walked" 2 spWalk) : FnOk P w K mg base CX0 3 f fd ["custom"] (spP prSt) := by
  refine fn_ok F scSt (fun ds d h => ?_) (fun ds d h f cdv A outer s H E F0 H0 hr => ?_)
  · obtain ⟨c, rfl, _⟩ := h; rfl
  · obtain ⟨c, rfl, hc, hsz, rfl⟩ := h
    have nd := scSt.nd
    have h4 := hc.four
    generalize hW : allWs (capsI c) = W
    let I : Nat → Env' → Prop := fun i ρ => (W.take i).findSome? (stOne c) = none ∧ ρ = [.dat (cuD c), .no, .no, .no, .no, .no, .no]
    refine dss_for I (di_list (ds := W.map wiD) (de_call (d := .list ((allWs (capsI c)).map wiD)) G0 hr (da_cons (de_var 0) (da_cons (de_gint hM) da_nil)) ⟨c, 2000, rfl, hc, hsz, rfl⟩ |> fun h => de_is h (by rw [hW]))) ⟨rfl, rfl⟩ (fun i x ρ' hx hI => ?_) (fun ρ' hI => ?_)
    · obtain ⟨hno, rfl⟩ := hI
      rw [List.getElem?_map] at hx
      obtain ⟨ws, hws, rfl⟩ := Option.map_eq_some_iff.mp hx
      have hw : WfW c ws := mem_wf.mp (by rw [hW]; exact List.mem_of_getElem? hws)
      refine ⟨_, _, dg_name 1 nd, ?_⟩
      refine dss_walk 2 3 4 nd G1 hr (da_cons (de_var 0) (da_cons (de_var 1) da_nil)) hc hw fun i' n dd hR => ?_
      have hle := hR.le hc hw
      have hrn := rnd_of hR
      generalize hrs : rowN c ws n = rs
      have hrl : rs.length = n := by rw [← hrs, rowN_len]
      have hhas : ∀ h : Nat, hasH c ws (h : Int) = hasR rs i' (h : Int) := fun h => by
        unfold hasH; rw [hrn, hrs]
      let J : Nat → Env' → Prop := fun k ρ => (List.range k).find? (fun (h : Nat) => !hasH c ws (h : Int)) = none ∧ ρ = [.dat (cuD c), .dat (wiD ws), .dat (.list (rs.map wiD)), .own dd (.dct (dctN c ws n)), .dat (.int (i' : Int)), .no, .no]
      have take1 : W.take (i + 1) = W.take i ++ [ws] := by
        have := take_map_succ (fun x : List Int => x) hws
        simpa using this
      refine dss_for J (di_range1 (da_cons (de_callB call_len_seq B.len (by decide +kernel) (da_cons (de_ix ix_tup (de_var 0) de_int (v_ixT (by rfl))) da_nil) v_lenT) da_nil) B.range ⟨by omega, by rw [List.length_map]; omega⟩) ⟨rfl, rfl⟩ (fun k x ρ' hx hJ => ?_) (fun ρ' hJ => ?_)
      · obtain ⟨hnk, rfl⟩ := hJ
        obtain ⟨hk, rfl⟩ := rngD_get hx
        rw [List.length_map, Int.toNat_natCast] at hk
        rw [Int.zero_add]
        refine ⟨_, _, dg_name 5 nd, ?_⟩
        have hdl : (rs.drop i').length ≤ n := by rw [List.length_drop]; omega
        refine dss_ifx (x := !hasR rs i' (k : Int)) (dt_not (dt_val (de_callB (cr_any rfl) B.any (by decide +kernel) (da_cons (de_is (d2 := .list (((rs.drop i').map fun h => decide ((k : Int) ∈ h)).map .bool)) (de_lc (xs := rs.drop i') (enc := wiD) (own := [("had", 6)]) _ (fun _ => true) (fun h => .bool (decide ((k : Int) ∈ h))) [6] rfl nd (blkOk_by (N := nSt) (sc := defScope S_starving) (by decide +kernel))
          (di_list (de_is (de_sl sl_list (de_var 2) (do_some (de_var 4)) do_none v_slL) (congrArg PyData.list (cutD_drop wiD _ i' (by have := hR.lt; omega)))))
          (fun h _ _ _ _ _ _ => dg_name 6 nd)
          (fun _ _ _ _ _ _ _ => pts_none)
          (fun h _ _ _ _ _ _ _ => de_cmp op_in_seq (de_var 5) (de_var 6) v_inI)
          (by decide) (Nat.le_trans hdl (Nat.le_trans hle (by decide)))) (by rw [filter_tt, List.map_map]; rfl)) da_nil) v_any))) (fun hx => ?_) (fun hx => ?_)
        · refine dss_ret (de_tup (da_cons (de_var 1) (da_cons (de_var 5) da_nil))) ?_
          have e1 : stOne c ws = some (ws, k) := by
            unfold stOne
            rw [find_range_some hnk (by show (!hasH c ws (k : Int)) = true; rw [hhas]; exact hx) hk]
            rfl
          have e2 : firstSt c = some (ws, k) := by
            unfold firstSt
            rw [hW]
            have hsp : W = W.take i ++ ws :: W.drop (i + 1) := by
              have h1 : W = W.take (i + 1) ++ W.drop (i + 1) := (List.take_append_drop _ _).symm
              rw [take1, List.append_assoc] at h1
              exact h1
            rw [hsp, List.findSome?_append, hno]
            simp [e1]
          rw [e2]; rfl
        · refine dss_nilF [5, 6] ⟨find_range_none hnk ?_, rfl⟩
          show (!hasH c ws (k : Int)) = false
          rw [hhas]; exact hx
      · obtain ⟨hnk, rfl⟩ := hJ
        have hl2 : (rngD 0 (((c.hands.map haD).length : Int)).toNat).length = c.hands.length := by simp [rngD]
        rw [hl2] at hnk
        refine dss_nilF [1, 2, 3, 4, 5, 6] ⟨?_, rfl⟩
        rw [take1, List.findSome?_append, hno]
        simp [stOne, hnk]
    · obtain ⟨hno, rfl⟩ := hI
      rw [List.length_map, List.take_length] at hno
      refine dss_ret de_non ?_
      unfold firstSt
      rw [hW, hno]; rfl
end

/-! ## longest, lacks -/
def longStep (hand : Int) (s : Int × Int) (h : List Int) : Int × Int := let here := if hand ∈ h then 0 else s.2 + 1; (max s.1 here, here)
def longI (rs : List (List Int)) (hand : Int) : Int := (rs.foldl (longStep hand) (0, 0)).1
def prLong (ds : List PyData) (d : PyData) : Prop := ∃ rs hand, ds = [.list (rs.map wiD), .int hand] ∧ d = .int (longI rs hand)
def nLong : List Str := ["row", "hand", "found", "here", "had"]
theorem scLong : FnScope nLong ["row", "hand"] (defScope S_longest) := ⟨rfl, rfl, rfl, by decide +kernel, rfl, by decide +kernel, by decide +kernel⟩
theorem v_cat {ds es : List PyData} (h : ds.length + es.length ≤ 1000000) : V2 rCat (.list ds) (.list es) (.list (ds ++ es)) := fun F H v1 v2 e r1 r2 Q k => by
  obtain ⟨a, xs, rfl, ha, rx⟩ := r1.lst_inv
  obtain ⟨b, ys, rfl, hb, ry⟩ := r2.lst_inv
  refine ⟨a, b, xs, ys, rfl, rfl, e _ _ ha, e _ _ hb, by rw [rx.len, ry.len]; exact Nat.le_trans h (by decide), fun p hp => k _ _ _ (Grow.new e hp) (.lst upd_same ((rx.append ry).mono (Same.upd_new (same_none e hp))))⟩
section
variable {P : Program} {w : World} {K : PySem.W.Frag} {mg : Str → Option Value} {base : Heap}
theorem ok_longest {f : Addr} {fd : FuncData} (F : Fun K "longest" "longest" S_longest f fd) (B : Bn mg) : FnOk P w K mg base CX0 1 f fd ["row", "hand"] (spP prLong) := by
  refine fn_ok F scLong (fun ds d h => ?_) (fun ds d h f cdv A outer s H E F0 H0 hr => ?_)
  · obtain ⟨rs, hand, rfl, _⟩ := h; rfl
  · obtain ⟨rs, hand, rfl, rfl⟩ := h
    have nd := scLong.nd
    refine dss_set 2 nd de_int ?_
    refine dss_set 3 nd de_int ?_
    let I : Nat → Env' → Prop := fun i ρ => ρ = [.dat (.list (rs.map wiD)), .dat (.int hand), .dat (.int ((rs.take i).foldl (longStep hand) (0, 0)).1), .dat (.int ((rs.take i).foldl (longStep hand) (0, 0)).2), .no]
    refine dss_for I (di_list (de_var 0)) rfl (fun i x ρ' hx hI => ?_) (fun ρ' hI => ?_)
    · subst hI
      rw [List.getElem?_map] at hx
      obtain ⟨h, hh, rfl⟩ := Option.map_eq_some_iff.mp hx
      refine ⟨_, _, dg_name 4 nd, ?_⟩
      have e : rs.take (i + 1) = rs.take i ++ [h] := by
        have := take_map_succ (fun x : List Int => x) hh
        simpa using this
      generalize hs : (rs.take i).foldl (longStep hand) (0, 0) = st
      refine dss_set 3 nd (d := .int (if hand ∈ h then 0 else st.2 + 1)) (de_is (de_if (dt_cmp op_in_seq (de_var 1) (de_var 4) v_inI) (fun _ => de_int) (fun _ => de_op op_add (de_var 3) de_int v_add)) ?_) ?_
      · by_cases hm : hand ∈ h
        · rw [if_pos (decide_eq_true hm), if_pos hm]
        · rw [decide_eq_false hm, if_neg (by decide), if_neg hm]
      refine dss_set 2 nd (de_callB (call_max2 rfl) B.max (by decide +kernel) (da_cons (de_var 2) (da_cons (de_var 3) da_nil)) v_max2) (dss_nilF [4] ?_)
      show _ = _
      rw [e, List.foldl_append, hs]; rfl
    · have hI' : ρ' = _ := hI
      rw [List.length_map, List.take_length] at hI'
      subst hI'
      exact dss_ret (de_var 2) rfl
end
/-- what lacks tells of a hand -/
def lackD (rs : List (List Int)) (i : Nat) (hand : Int) : PyData := if ((rs.drop i).map fun h => decide (hand ∈ h)).any id = true then .int (longI (rs ++ rs.drop i) hand) else .none
def lacksD (c : Custom) (ws : List Int) (i n : Nat) : PyData := .list ((List.range c.hands.length).map fun (h : Nat) => lackD (rowN c ws n) i (h : Int))
def prLacks (ds : List PyData) (d : PyData) : Prop := ∃ c ws i n, ds = [cuD c, wiD ws] ∧ WfC c ∧ WfW c ws ∧ Round c ws i n ∧ d = lacksD c ws i n
def nLacks : List Str := ["custom", "wishes", "row", "known", "first", "found", "hand", "had"]
theorem scLacks : FnScope nLacks ["custom", "wishes"] (defScope S_lacks) := ⟨rfl, rfl, rfl, by decide +kernel, rfl, by decide +kernel, by decide +kernel⟩
section
variable {P : Program} {w : World} {K : PySem.W.Frag} {mg : Str → Option Value} {base : Heap}
theorem ok_lacks {f : Addr} {fd : FuncData} (F : Fun K "lacks" "lacks" S_lacks f fd) (B : Bn mg) (G1 : Cal P w K mg base 2 "walked" 2 spWalk) (G2 : Cal P w K mg base 1 "longest" 2 (spP prLong)) : FnOk P w K mg base CX0 3 f fd ["custom", "wishes"] (spP prLacks) := by
  refine fn_ok F scLacks (fun ds d h => ?_) (fun ds d h f cdv A outer s H E F0 H0 hr => ?_)
  · obtain ⟨c, ws, i, n, rfl, _⟩ := h; rfl
  · obtain ⟨c, ws, i, n, rfl, hc, hw, hR, rfl⟩ := h
    have nd := scLacks.nd
    have hr1 := hr.mono (show 1 ≤ 2 by decide)
    refine dss_walk 2 3 4 nd G1 hr (da_cons (de_var 0) (da_cons (de_var 1) da_nil)) hc hw fun i' n' dd hR' => ?_
    obtain ⟨rfl, rfl⟩ := hR.inj hR'
    have hle := hR.le hc hw
    have h4 := hc.four
    refine dss_newl 5 nd fun p => ?_
    generalize hrs : rowN c ws n = rs
    have hrl : rs.length = n := by rw [← hrs, rowN_len]
    let I : Nat → Env' → Prop := fun k ρ => ρ = [.dat (cuD c), .dat (wiD ws), .dat (.list (rs.map wiD)), .own dd (.dct (dctN c ws n)), .dat (.int (i : Int)), .own p (.lst ((List.range k).map fun (h : Nat) => lackD rs i (h : Int))), .no, .no]
    have hrow : ∀ {ρ : Env'} {p1 p2 p3 p4 : Pos} , ρ[2]? = some (.dat (.list (rs.map wiD))) → ρ[4]? = some (.dat (.int (i : Int))) → DE (Bod P w K mg base nLacks "lacks" S_lacks f cdv A outer s H E) ρ (.Subscript (.Name "row" p1) (.Slice (some (.Name "first" p2)) none none p3) p4) (.list ((rs.drop i).map wiD)) := fun {ρ p1 p2 p3 p4} h2 h4 =>
      de_is (de_sl sl_list (de_var 2 (h := h2)) (do_some (de_var 4 (h := h4))) do_none v_slL) (congrArg PyData.list (cutD_drop wiD _ i (by have := hR.lt; omega)))
    refine dss_for I (di_range1 (da_cons (de_callB call_len_seq B.len (by decide +kernel) (da_cons (de_ix ix_tup (de_var 0) de_int (v_ixT (by rfl))) da_nil) v_lenT) da_nil) B.range ⟨by omega, by rw [List.length_map]; omega⟩) rfl (fun k x ρ' hx hI => ?_) (fun ρ' hI => ?_)
    · subst hI
      obtain ⟨hk, rfl⟩ := rngD_get hx
      rw [List.length_map, Int.toNat_natCast] at hk
      rw [Int.zero_add]
      refine ⟨_, _, dg_name 6 nd, ?_⟩
      have hdl : (rs.drop i).length ≤ n := by rw [List.length_drop]; omega
      have step : ∀ d, d = lackD rs i (k : Int) → (wipeE (((([.dat (cuD c), .dat (wiD ws), .dat (.list (rs.map wiD)), .own dd (.dct (dctN c ws n)), .dat (.int (i : Int)), .own p (.lst ((List.range k).map fun (h : Nat) => lackD rs i (h : Int))), .no, .no] : Env').set 6 (.dat (.int (k : Int)))).set 5 (.own p (.lst (((List.range k).map fun (h : Nat) => lackD rs i (h : Int)) ++ [d]))))) [6]) = [.dat (cuD c), .dat (wiD ws), .dat (.list (rs.map wiD)), .own dd (.dct (dctN c ws n)), .dat (.int (i : Int)), .own p (.lst ((List.range (k + 1)).map fun (h : Nat) => lackD rs i (h : Int))), .no, .no] := fun d hd => by
        rw [hd, List.range_succ, List.map_append]; rfl
      have hlen5 : ((List.range k).map fun (h : Nat) => lackD rs i (h : Int)).length < sizeLine := by
        rw [List.length_map, List.length_range]
        exact Nat.lt_of_lt_of_le (show k < 64 by omega) (by decide)
      refine dss_one (ds_if (x := ((rs.drop i).map fun h => decide ((k : Int) ∈ h)).any id) (dt_val (de_callB (cr_any rfl) B.any (by decide +kernel) (da_cons (de_is (d2 := .list (((rs.drop i).map fun h => decide ((k : Int) ∈ h)).map .bool)) (de_lc (xs := rs.drop i) (enc := wiD) (own := [("had", 7)]) _ (fun _ => true) (fun h => .bool (decide ((k : Int) ∈ h))) [7] rfl nd (blkOk_by (N := nLacks) (sc := defScope S_lacks) (by decide +kernel))
        (di_list (hrow rfl rfl))
        (fun h _ _ _ _ _ _ => dg_name 7 nd)
        (fun _ _ _ _ _ _ _ => pts_none)
        (fun h _ _ _ _ _ _ _ => de_cmp op_in_seq (de_var 6) (de_var 7) v_inI)
        (by decide) (Nat.le_trans hdl (Nat.le_trans hle (by decide)))) (by rw [filter_tt, List.map_map]; rfl)) da_nil) v_any)) (fun hx => ?_) (fun hx => ?_))
      · refine dss_app 5 (d := .int (longI (rs ++ rs.drop i) (k : Int))) (da_cons (de_call (ds := [.list ((rs ++ rs.drop i).map wiD), .int (k : Int)]) G2 hr1 (da_cons (de_is (de_op op_cat (de_var 2) (hrow rfl rfl) (v_cat (by rw [List.length_map, List.length_map]; omega))) (by rw [List.map_append])) (da_cons (de_var 6) da_nil)) ⟨_, _, rfl, rfl⟩) da_nil) hlen5 (dss_nilF [6] (step _ ?_))
        unfold lackD
        rw [if_pos hx]
      · refine dss_app 5 (d := .none) (da_cons de_non da_nil) hlen5 (dss_nilF [6] (step _ ?_))
        unfold lackD
        rw [if_neg (by rw [hx]; decide)]
    · have hl2 : (rngD 0 (((c.hands.map haD).length : Int)).toNat).length = c.hands.length := by simp [rngD]
      have hI' : ρ' = _ := hI
      rw [hl2] at hI'
      subst hI'
      refine dss_freeze 5 (dss_ret (de_var 5) ?_)
      unfold lacksD
      rw [hrs]
end

/-! ## _law_name_of -/
def titlesN : List Str := ["NoCustom", "NoHand", "NoTurns", "NoWish", "NoWishes", "TooMany", "Unlike", "+"]
def nameT (bs : List Bool) : Str := Txt.join "" (((titlesN.zip bs).filter fun p => p.2).map fun p => p.1)
theorem v_catN {ds es : List PyData} (h : ds.length + es.length ≤ 1000000) : V2 rCat (.list ds) (.list es) (.list (ds ++ es)) := fun F H v1 v2 e r1 r2 Q k => by
  obtain ⟨a, xs, rfl, ha, rx⟩ := r1.lst_inv
  obtain ⟨b, ys, rfl, hb, ry⟩ := r2.lst_inv
  refine ⟨a, b, xs, ys, rfl, rfl, e _ _ ha, e _ _ hb, by rw [rx.len, ry.len]; exact Nat.le_trans h (by decide), fun p hp => k _ _ _ (Grow.new e hp) (.lst upd_same ((rx.append ry).mono (Same.upd_new (same_none e hp))))⟩
/-- an exception's class D and what isinstance says of it -/
structure NmC (K : PySem.W.Frag) (mg : Str → Option Value) (D : Addr) (b0 b1 b2 b3 b4 b5 b6 : Bool) : Prop where
  ex : ExQ K D
  k0 : ∃ C, mg "NoCustom" = some (.ref C) ∧ PySem.W.kitOne K (.ref D) (.ref C) = some b0
  k1 : ∃ C, mg "NoHand" = some (.ref C) ∧ PySem.W.kitOne K (.ref D) (.ref C) = some b1
  k2 : ∃ C, mg "NoTurns" = some (.ref C) ∧ PySem.W.kitOne K (.ref D) (.ref C) = some b2
  k3 : ∃ C, mg "NoWish" = some (.ref C) ∧ PySem.W.kitOne K (.ref D) (.ref C) = some b3
  k4 : ∃ C, mg "NoWishes" = some (.ref C) ∧ PySem.W.kitOne K (.ref D) (.ref C) = some b4
  k5 : ∃ C, mg "TooMany" = some (.ref C) ∧ PySem.W.kitOne K (.ref D) (.ref C) = some b5
  k6 : ∃ C, mg "Unlike" = some (.ref C) ∧ PySem.W.kitOne K (.ref D) (.ref C) = some b6
  k7 : mg "ValueError" = none ∧ PySem.W.kitOne K (.ref D) (.type "ValueError") = some true
def nNm : List Str := ["e", "kinds", "titles", "title", "kind"]
theorem scNm : FnScope nNm ["e"] (defScope S__law_name_of) := ⟨rfl, rfl, rfl, by decide +kernel, rfl, by decide +kernel, by decide +kernel⟩
theorem join_small (bs : List Bool) : ((((titlesN.zip bs).filter fun p => p.2).map fun p => p.1).map (·.length)).sum + (((titlesN.zip bs).filter fun p => p.2).map fun p => p.1).length * (Str.ofString "").length ≤ 16777216 := by
  have h : ∀ xs : List (Str × Bool), ((((xs.filter fun p => p.2).map fun p => p.1).map (·.length)).sum) ≤ (xs.map fun p => p.1.length).sum := by
    intro xs
    induction xs with
    | nil => simp
    | cons x xs ih =>
      simp only [List.map_map] at ih ⊢
      cases hx : x.2 with
      | true =>
        rw [List.filter_cons, if_pos hx, List.map_cons, List.map_cons, List.sum_cons, List.sum_cons]
        exact Nat.add_le_add_left ih _
      | false =>
        rw [List.filter_cons, if_neg (by simp [hx]), List.map_cons, List.sum_cons]
        exact Nat.le_trans ih (Nat.le_add_left _ _)
  have h2 : ∀ (ts : List Str) (bs : List Bool), ((ts.zip bs).map fun p => p.1.length).sum ≤ (ts.map (·.length)).sum := by
    intro ts
    induction ts with
    | nil => intro bs; simp
    | cons t ts ih =>
      intro bs
      cases bs with
      | nil => simp
      | cons b bs => simp; have := ih bs; omega
  have h3 := h (titlesN.zip bs)
  have h4 := h2 titlesN bs
  have h5 : (titlesN.map (·.length)).sum ≤ 100 := by decide +kernel
  have h6 : (Str.ofString "").length = 0 := by decide +kernel
  rw [h6]
  omega
section
variable {P : Program} {w : World} {K : PySem.W.Frag} {mg : Str → Option Value} {base : Heap}
abbrev HotB (P : Program) (w : World) (K : PySem.W.Frag) (mg : Str → Option Value) (base : Heap) (f : Addr) (cdv : Value) (A : Around) (outer : List Env) (s : Shared) (H : Hp) (E : XK) (p : Addr × Obj) : Cx := (L2H.cxH CX0 P w K mg base nNm "_law_name_of" (defScope S__law_name_of) f cdv A outer s H E p).nox
theorem body_name_of {D : Addr} {b0 b1 b2 b3 b4 b5 b6 : Bool} (B : Bn mg) (NC : NmC K mg D b0 b1 b2 b3 b4 b5 b6) (f : Addr) (cdv : Value) (A : Around) (outer : List Env) (s : Shared) (H : Hp) (E : XK) (p : Addr × Obj) (hot : L2H.Hot1 A p) (hc : p.2.cls = .ref D) (hd : ∀ dx, p.2.dict = some dx → ∃ o, s.heap.get? dx = some o) (F0 H0 : Hp) :
    DSs (HotB P w K mg base f cdv A outer s H E p) [] F0 H0 [.val (.ref p.1), .no, .no, .no, .no] (defBody S__law_name_of) { N := fun _ => False, R := fun d _ => d = .str (nameT [b0, b1, b2, b3, b4, b5, b6, true]) } := by
  have nd := scNm.nd
  obtain ⟨hh, vs, hv, hv2⟩ := hot
  have hx : HotX1 (HotB P w K mg base f cdv A outer s H E p) p.1 p.2 := ⟨hh, ⟨vs, hv, hv2⟩, List.mem_singleton.mpr rfl⟩
  have hf : ∃ vs, p.2.data = .fields vs := ⟨vs, hv⟩
  have hp : (p.1, p.2) ∈ (HotB P w K mg base f cdv A outer s H E p).pn := List.mem_singleton.mpr rfl
  have hd : ∀ dx, p.2.dict = some dx → dx ∉ (HotB P w K mg base f cdv A outer s H E p).ex ∧ ∃ o, (HotB P w K mg base f cdv A outer s H E p).s_0.heap.get? dx = some o := fun dx z => ⟨by show dx ∉ []; simp, hd dx z⟩
  refine dss_set 1 nd (d := .list ([b0, b1, b2, b3].map .bool)) (de_lst (da_cons (de_isX 0 hp NC.ex hc hd hf rfl B.isinstance (.inl NC.k0)) (da_cons (de_isX 0 hp NC.ex hc hd hf rfl B.isinstance (.inl NC.k1)) (da_cons (de_isX 0 hp NC.ex hc hd hf rfl B.isinstance (.inl NC.k2)) (da_cons (de_isX 0 hp NC.ex hc hd hf rfl B.isinstance (.inl NC.k3)) da_nil))))) ?_
  refine dss_set 1 nd (d := .list ([b0, b1, b2, b3, b4, b5, b6, true].map .bool)) (de_op op_cat (de_var 1) (de_lst (da_cons (de_isX 0 hp NC.ex hc hd hf rfl B.isinstance (.inl NC.k4)) (da_cons (de_isX 0 hp NC.ex hc hd hf rfl B.isinstance (.inl NC.k5)) (da_cons (de_isX 0 hp NC.ex hc hd hf rfl B.isinstance (.inl NC.k6)) (da_cons (de_isX 0 hp NC.ex hc hd hf rfl B.isinstance (.inr ⟨"ValueError", NC.k7.1, by decide +kernel, by decide, NC.k7.2⟩)) da_nil))))) (v_catN (ds := [b0, b1, b2, b3].map .bool) (es := [b4, b5, b6, true].map .bool) (Nat.le_of_ble_eq_true rfl))) ?_
  refine dss_set 2 nd (d := .list (titlesN.map .str)) (de_lst (da_cons de_str (da_cons de_str (da_cons de_str (da_cons de_str (da_cons de_str (da_cons de_str (da_cons de_str (da_cons de_str da_nil))))))))) ?_
  generalize hbs : [b0, b1, b2, b3, b4, b5, b6, true] = bs
  have hbl : bs.length = 8 := by rw [← hbs]; rfl
  refine dss_ret (de_join (ys := ((titlesN.zip bs).filter fun p => p.2).map fun p => p.1) de_str (de_is (de_lcH (x1 := p.1) (oe := p.2) (xs := titlesN.zip bs) (enc := fun q => .tuple [.str q.1, .bool q.2]) (own := [("title", 3), ("kind", 4)]) _ (fun q => q.2) (fun q => .str q.1) [3, 4] hx nd (blkOk_by (N := nNm) (sc := defScope S__law_name_of) (by decide +kernel))
    (by
      have e : (titlesN.zip bs).map (fun q : Str × Bool => PyData.tuple [.str q.1, .bool q.2]) = zipD (titlesN.map .str) (bs.map .bool) := by unfold zipD; rw [List.zipWith_map, List.zip, List.map_zipWith]
      rw [e]
      exact di_zipH (da_cons (de_var 2) (da_cons (de_var 1) da_nil)) B.zip)
    (fun q _ _ _ _ _ _ hot => dg_tupH hot (dgs_cons (dg_name 3 nd) (dgs_cons (dg_name 4 nd) dgs_nil)))
    (fun q _ _ _ _ _ _ _ => pts_1 (dt_val (de_var 4)))
    (fun q _ _ _ _ _ _ _ _ => de_var 3)
    (by decide) (small64 (by rw [List.length_zip, hbl]; decide))) (by rw [List.map_map]; rfl)) (join_small bs)) rfl
end
section
variable {P : Program} {w : World} {K : PySem.W.Frag} {mg : Str → Option Value} {base : Heap}
/-- the call, the caught exception pinned at p -/
theorem run_name_of {D : Addr} {b0 b1 b2 b3 b4 b5 b6 : Bool} {f : Addr} {fd : FuncData} {k : Nat} (Fn : Fun K "_law_name_of" "_law_name_of" S__law_name_of f fd) (B : Bn mg) (NC : NmC K mg D b0 b1 b2 b3 b4 b5 b6) {A : Around} {outer : List Env} {s : Shared} {H F0 : Hp} {Q : VK} {E : XK} {p : Addr × Obj} {args : Args}
    (hr : L2H.RoomH (k + 1) A) (hot : L2H.Hot1 A p) (hpin : L2H.PinOk outer H s p) (hc : p.2.cls = .ref D) (hd : ∀ dx, p.2.dict = some dx → ∃ o, s.heap.get? dx = some o) (e0 : Env0 P w K mg base A outer s H) (hb : BindsTo s fd args ((["e"] : List Str).zip [Value.ref p.1])) (e : Same F0 H)
    (hQ : ∀ v F2 H2, Grow F0 H F2 H2 → Rp F2 v (.str (nameT [b0, b1, b2, b3, b4, b5, b6, true])) → Q v H2) : codeAny (model P w) A (.call (.ref f) args) (CR CX0 outer P w H s Q E) s := by
  obtain ⟨oc, od, kV, doc, pm, an, cdv, ct, osl, rfl, lk, hcd⟩ := Fn.ex
  have KX : K.In s.heap := e0.mod.kin.keeps fun b o q => (e0.bs b o q).1
  have lim : s.heap.NoLimit := e0.mod.nolimit.keeps fun b o q => (e0.bs b o q).1
  have S := scNm
  have hk : ∀ y ∈ (["e"] : List Str).zip [Value.ref p.1], (defScope S__law_name_of).names.lookup y.1 = some .local ∨ ((defScope S__law_name_of).names.lookup y.1 = some .cell ∧ ((cellsFrom (s.heap.objs.size + 1) (defScope S__law_name_of).names []).lookup y.1).isSome = true) := fun ⟨n, v⟩ hy => by
    rcases S.par n (List.of_mem_zip hy).1 with q | q
    · exact .inl q
    · exact .inr ⟨q, PySem.W.cellsFrom_some _ _ _ (.inl q)⟩
  refine codeAny_call_function hr.depth (KX _ _ lk) rfl S.co S.gen rfl (PySem.W.codeRec_of KX hcd) (hb _ _ _ _ ?_)
  refine wpAny_newFunctionEnv_cells S.kind hk fun env he s1 x => ?_
  subst he
  refine ⟨lim.keeps x.toInCall.keep, codeAny_func ?_⟩
  have body := (body_name_of (P := P) (w := w) (base := base) B NC f cdv A outer s H E p hot hc hd F0 H).nox
  have I : Inv (L2H.cxH CX0 P w K mg base nNm "_law_name_of" (defScope S__law_name_of) f cdv A outer s H E p) [] (L2.start nNm [.ref p.1]) H s1 := L2H.inv_startH (vs := [.ref p.1]) (us := [.ref p.1]) S hpin e0 rfl (.cons rfl .nil) x
  refine wpAny_mono (body.run [] s1 (L2.start nNm [.ref p.1]) H { nx := fun _ _ => False, rt := Q } I ⟨F0, ⟨GrowX.refl e, ⟨e, rfl, fun j en hj => ?_, fun j l p q w w' hj => ?_⟩, fun j q w hj => ?_⟩, fun _ _ _ _ z => z.elim, ⟨fun d v ρ' σ' F' H' h a rv => ?_, fun _ _ h => h.elim⟩, fun _ _ _ _ z => z.elim, fun _ _ _ _ z => z.elim⟩) (fun fl s' hs => ?_) fun _ _ z => z
  · rcases j with _ | _ | _ | _ | _ | j
    · cases hj; exact ⟨some (.ref p.1), rfl, rfl⟩
    · cases hj; exact ⟨none, rfl, trivial⟩
    · cases hj; exact ⟨none, rfl, trivial⟩
    · cases hj; exact ⟨none, rfl, trivial⟩
    · cases hj; exact ⟨none, rfl, trivial⟩
    · simp at hj
  · rcases j with _ | _ | _ | _ | _ | j <;> simp at hj
  · rcases j with _ | _ | _ | _ | _ | j <;> simp at hj
  · have h' : d = _ := h
    subst h'
    exact hQ v F' H' a.g rv
  · cases fl with
    | ret u =>
      obtain ⟨v, σ', H', J, rv, q⟩ := hs
      exact ⟨v, H', J.os, J.bare, J.base, J.hok, rv, q⟩
    | next => obtain ⟨σ', H', J, q⟩ := hs; exact q.elim
    | brk => obtain ⟨_, _, _, q⟩ := hs; exact q.elim
    | cont => obtain ⟨_, _, _, q⟩ := hs; exact q.elim
end
/-- _law_name_of(e) in an except suite -/
theorem deb_name_of {X : Cx} {ex : List Addr} {F0 H0 : Hp} {ρ : Env'} {a D : Addr} {oe : Obj} {b0 b1 b2 b3 b4 b5 b6 : Bool} {f : Addr} {fd : FuncData} {k : Nat} {x : Str} {p q pos : Pos} (i : Nat) (hx : HotX1 X a oe) (hc : oe.cls = .ref D) (hd : ∀ dx, oe.dict = some dx → ∃ u, F0 dx = some u) (Fn : Fun X.K "_law_name_of" "_law_name_of" S__law_name_of f fd) (hm : X.mg "_law_name_of" = some (.ref f)) (hb : Binds X.K fd ["e"] []) (B : Bn X.mg) (NC : NmC X.K X.mg D b0 b1 b2 b3 b4 b5 b6)
    (hr : L2H.RoomH (k + 1) X.A) (hρ : ρ[i]? = some (.val (.ref a))) (hxN : X.N[i]? = some x := by rfl) (hv : Vis X.env.scope x := by first | exact Or.inl rfl | exact Or.inr (Or.inl rfl) | exact Or.inr (Or.inr rfl)) (hdx : (x == ("__debug__" : Str)) = false := by decide) (hcd : (x == ("__classdict__" : Str)) = false := by decide) (hg : Gl X "_law_name_of" := by rfl)
    (he : starEach [.Name x q] X.env = (false, eval (.Name x q) X.env) :: starEach [] X.env := by rfl) (hpl : (backTo pos (starEach [] X.env)).any (·.1) = false := by rfl) : DEB X ex F0 H0 ρ (.Call (.Name "_law_name_of" p) [.Name x q] [] pos) (.str (nameT [b0, b1, b2, b3, b4, b5, b6, true])) := by
  refine ⟨fun pins s σ H Q I ⟨F, g0, ok, kk⟩ => ?_⟩
  obtain ⟨o, h1, h2⟩ := ok.at_ i _ hρ
  have h2' : o = some (.ref a) := h2
  subst h2'
  refine wpAny_Call_Name_kw (ld_glob I hg hm ?_ (by decide))
  have ha : PA X [.Name x q] (tCons (tVar i) tNil) := pa_cons (pe_var hxN hv hdx hcd) pa_nil he
  refine PySem.W.callWith_K (h₀ := X.base) I.ok.mod.kin Fn.kp (thn (ha.run pos pins s σ H (fun vs H1 => vs = [V.ref a] ∧ H1 = H) I ⟨.ref a, h1, rfl, rfl⟩) fun us s1 ⟨vs, H1, I1, r, ev, eH⟩ => ⟨I1.kIn, ?_⟩) he hpl
  subst ev eH
  cases r with
  | cons ru rn =>
    cases rn; cases ru
    obtain ⟨vs, hv1, hv2⟩ := hx.vs
    have hot : L2H.Hot1 X.A (a, oe) := ⟨hx.hd, vs, hv1, hv2⟩
    have P1 := I1.pin (a, oe) (List.mem_append_left _ hx.pin)
    have hpin : L2H.PinOk X.stack H1 s1 (a, oe) := ⟨P1.1, P1.2.1, fun hm => (List.mem_cons.mp (I1.stkSub a hm)).elim P1.2.2.1 P1.2.2.2.1, P1.2.2.2.2⟩
    have hdd : ∀ dx, oe.dict = some dx → ∃ o, s1.heap.get? dx = some o := fun dx z => by
      obtain ⟨u, hu⟩ := hd dx z
      exact objOk_get (I1.hok dx u (ok.s _ _ (g0.f _ _ hu)))
    have b := hb s1 [.ref a] I1.kIn rfl
    refine wpAny_call (codeAny_mono (run_name_of (P := X.prog) (w := X.w) (base := X.base) (F0 := F) (Q := Q) (E := E0) Fn B NC hr hot hpin hc hdd I1.env0 b ok.s fun v F2 H2 g r => kk v F2 H2 g r) fun r s' hq => ?_)
    cases r with
    | error e => exact (show False from hq).elim
    | ok fl =>
      cases fl with
      | ret u => exact I1.after hq
      | next => exact False.elim hq
      | brk => exact False.elim hq
      | cont => exact False.elim hq

/-! ## _law_try -/
def nTry : List Str := ["door", "found", "e"]
theorem scTry : FnScope nTry ["door"] (defScope S__law_try) := ⟨rfl, rfl, rfl, by decide +kernel, rfl, by decide +kernel, by decide +kernel⟩
def strI (n : Int) : Str := strD (.int n)
def tryD (bs : List Bool) : Res → PyData
  | .ok d => .list [d]
  | .ex _ none => .str (nameT bs)
  | .ex _ (some n) => .str (nameT bs ++ strI n)
/-- what the clauses must know of the class that is raised -/
structure TryC (K : PySem.W.Frag) (mg : Str → Option Value) (C CT CW : Addr) (m : Option Int) (b0 b1 b2 b3 b4 b5 b6 : Bool) : Prop where
  nc : NmC K mg C b0 b1 b2 b3 b4 b5 b6
  x1 : PySem.W.exmOne K (.ref C) (.ref CT) = some m.isSome
  x2 : PySem.W.exmOne K (.ref C) (.ref CW) = some true
  xf : ∀ n, m = some n → XfC K C ∧ PySem.W.findIn K (.ref C) "most" = some none ∧ (PyData.int n).showable = true ∧ (nameT [b0, b1, b2, b3, b4, b5, b6, true]).length + (strI n).length ≤ sizeLine
theorem Ok.any {F H : Hp} {ρ : Env'} {σ : L2.St} {i : Nat} (h : Ok F H ρ σ) (e : ρ[i]? = some .no) (o : Option V) : Ok F H ρ (σ.set i o) := by
  refine ⟨h.s, by simp [h.len], fun j en hj => ?_, h.ne⟩
  by_cases hij : i = j
  · subst hij
    rw [e] at hj; cases hj
    have hl : i < σ.length := by rw [h.len]; exact (List.getElem?_eq_some_iff.mp e).1
    exact ⟨o, List.getElem?_set_self hl, trivial⟩
  · obtain ⟨o2, h1, h2⟩ := h.at_ j en hj
    exact ⟨o2, by rw [List.getElem?_set_ne hij]; exact h1, h2⟩
theorem Ok.setV {F H : Hp} {ρ : Env'} {σ : L2.St} {i : Nat} {v : V} (h : Ok F H ρ σ) : Ok F H (ρ.set i (.val v)) (σ.set i (some v)) := h.set rfl fun _ _ z => nomatch z
theorem v_addS {a b : Str} (h : a.length + b.length ≤ sizeLine) : V2 (fun x y H Q => ∃ i j, x = V.str i ∧ y = V.str j ∧ i.length + j.length ≤ sizeLine ∧ Q (.str (i ++ j)) H) (.str a) (.str b) (.str (a ++ b)) := fun F H v1 v2 e r1 r2 Q k =>
  ⟨a, b, r1.str_inv, r2.str_inv, h, k _ F H (GrowX.refl e) (.str _)⟩
theorem takesN0 {X : Cx} : L2N.Takes X (fun _ _ _ _ => False) := fun _ _ ⟨_, _, _, _, _, _, _, _, _, _, _, _, _, _, _, _, w⟩ => w.elim
section
variable {X : Cx} {ex : List Addr} {F0 H0 : Hp} {ρ : Env'} {c P CT CW : Addr} {r : Res} {f fN : Addr} {fd fdN : FuncData} {params : Arguments} {body : Expr} {scope : Scope} {k : Nat} {b0 b1 b2 b3 b4 b5 b6 : Bool} {p lpos pos : Pos}
theorem roomHot {k : Nat} {A : Around} {v : Option Value} (h : Room k A) : L2H.RoomH k (A.mark v) := ⟨h.dp, h.un⟩
theorem deb_try (Fn : Fun X.K "_law_try" "_law_try" S__law_try f fd) (hm : X.mg "_law_try" = some (.ref f)) (hb : Binds X.K fd ["door"] [])
    (FnN : Fun X.K "_law_name_of" "_law_name_of" S__law_name_of fN fdN) (hmN : X.mg "_law_name_of" = some (.ref fN)) (hbN : Binds X.K fdN ["e"] []) (B : Bn X.mg) (hCT : X.mg "TooMany" = some (.ref CT)) (hCW : X.mg "WishError" = some (.ref CW))
    (TB : LamX.TabB X.base X.mg c P) (hcd : X.env.code = .ref c) (hq : X.env.qual ++ "<lambda>" = tnQ) (hT : TabF F0 H0 P) (hr : Room (k + 3) X.A) (L : LamX.LamS X.env.scope scope) (hdf : defaultsOf params X.env = ([], []))
    (hbind : ∀ (q : Str) (cl : List (Str × Addr)) (pm cv ctv : Value), bindArgs (PySem.W.kla_fn "<lambda>" q params body scope cl pm cv ctv) ⟨[], []⟩ = pure [])
    (hC : ∀ C m, r = .ex C m → TryC X.K X.mg C CT CW m b0 b1 b2 b3 b4 b5 b6)
    (hbody : ∀ (A : Around) (outer : List Env) (s : Shared) (H : Hp) (E : XK) (f c' : Addr), Room (k + 1) (A.deeper (LamX.lamEnv X scope s.heap.objs.size f c')) → PE (lamN X A outer s H E scope f c') body (tRes ρ r E)) (hgl : Gl X "_law_try" := by rfl) :
    DEB X ex F0 H0 ρ (.Call (.Name "_law_try" p) [.Lambda params body scope lpos] [] pos) (tryD [b0, b1, b2, b3, b4, b5, b6, true] r) := by
  refine ⟨fun pins s σ H Q I ⟨F, g0, ok, kk⟩ => ?_⟩
  refine wpAny_Call_Name_kw (ld_glob I hgl hm ?_ (by decide))
  refine PySem.W.callWith_K (h₀ := X.base) I.ok.mod.kin Fn.kp ?_ (by rfl) (by rfl)
  show wpAny _ _ (spliced ((false, eval (.Lambda params body scope lpos) X.env) :: backTo pos (starEach [] X.env))) _ _ s
  refine Calls.spliced_cons (lam_new I TB hcd hq ok.s (g0.t P hT) hdf (L.has I.ok) fun fl c' pm ctv F1 H1 s' I1 g1 hF1 hfl hfn hfr => ?_)
  refine Calls.spliced_nil ⟨I1.kIn, ?_⟩
  obtain ⟨oc, od, kV, doc, pm', an, cdv, ct, osl, rfl, lk, hcdv⟩ := Fn.ex
  have ok1 := ok.grow g1
  have nd := scTry.nd
  have rc : codeAny (model X.prog X.w) X.A (.call (.ref f) ⟨[.ref fl], []⟩) (CR CX0 X.stack X.prog X.w H1 s' Q E0) s' := by
    refine LamX.run_ofS (N := nTry) (ps := ["door"]) (us := [.ref fl]) (vs := [.ref fl]) lk hcdv scTry hr I1.env0 (hb s' [.ref fl] I1.kIn rfl) (.cons rfl .nil) rfl fun hr' => ?_
    generalize hZ : cxOf CX0 X.prog X.w X.K X.mg X.base nTry "_law_try" (defScope S__law_try) f cdv X.A X.stack s' H1 E0 = Z0
    have key : DSs Z0.nox [] F1 H1 [.val (.ref fl), .no, .no] (defBody S__law_try) { N := fun _ => False, R := fun d _ => d = tryD [b0, b1, b2, b3, b4, b5, b6, true] r } := by
      subst hZ
      refine dss_set 1 nd de_non ?_
      refine dss_seq (N1 := fun ρ' => ρ' = [.val (.ref fl), .dat (tryD [b0, b1, b2, b3, b4, b5, b6, true] r), .no]) ?_ fun _ h => h ▸ dss_ret (de_var 1) rfl
      have hroom := hr'
      have hxs : ∀ (a : Addr) (oe : Obj) (cls : Value) (d : Option Addr) (pn : List (Addr × Obj)), L2N.Zn cls d oe → (∃ vs, oe.data = .fields vs) → HotX1 (Cx.suite (cxOf CX0 X.prog X.w X.K X.mg X.base nTry "_law_try" (defScope S__law_try) f cdv X.A X.stack s' H1 E0).nox a ((a, oe) :: pn)) a oe :=
        fun a oe cls d pn z ⟨vs, hv⟩ => ⟨rfl, ⟨vs, hv, z.2.2 vs hv⟩, List.mem_cons_self⟩
      have act : ∀ (W : WX) (pn : List (Addr × Obj)) (xe : Value → Shared → Prop) (p1 p2 : Pos), L2N.Takes ((cxOf CX0 X.prog X.w X.K X.mg X.base nTry "_law_try" (defScope S__law_try) f cdv X.A X.stack s' H1 E0).tr pn xe) W →
          PE ((cxOf CX0 X.prog X.w X.K X.mg X.base nTry "_law_try" (defScope S__law_try) f cdv X.A X.stack s' H1 E0).tr pn xe) (.Call (.Name "door" p1) [] [] p2) (fun σZ HZ Q => σZ[0]? = some (some (.ref fl)) ∧ HZ c' = some (LamX.CodeO c' tnQ) ∧ tRes ρ r (fun cls d H' => W cls d σZ H') σ HZ Q) := fun W pn xe p1 p2 tk =>
        pe_door (i := 0) I1 L hq hfl hfn hfr hbind tk (k := k + 1) hroom (fun A outer s H E hr2 => hbody A outer s H E fl c' hr2) rfl (Or.inl rfl)
      refine PS.imp (ps_tryAll (X := (cxOf CX0 X.prog X.w X.K X.mg X.base nTry "_law_try" (defScope S__law_try) f cdv X.A X.stack s' H1 E0).nox) (tb := fun W => tAsg (tLst (tCons (fun σZ HZ Q => σZ[0]? = some (some (.ref fl)) ∧ HZ c' = some (LamX.CodeO c' tnQ) ∧ tRes ρ r (fun cls d H' => W cls d σZ H') σ HZ Q) tNil)) (gName 1))
        (l := [(.ref CT, 2, fun a cls d D σ H => ∃ i : Hp × Hp × Addr × Addr × Int, (cls = .ref i.2.2.1 ∧ r = .ex i.2.2.1 (some i.2.2.2.2) ∧ d = some i.2.2.2.1 ∧ i.1 i.2.2.2.1 = some (.xd [("most", .int i.2.2.2.2)])) ∧ tS [] i.1 i.2.1 [.val (.ref fl), .dat .none, .val (.ref a)] { N := fun ρ' => ρ' = [.val (.ref fl), .dat (tryD [b0, b1, b2, b3, b4, b5, b6, true] r), .val (.ref a)], R := fun _ _ => False } D σ H),
          (.ref CW, 2, fun a cls d D σ H => ∃ i : Hp × Hp × Addr, (cls = .ref i.2.2 ∧ r = .ex i.2.2 none ∧ d = none) ∧ tS [] i.1 i.2.1 [.val (.ref fl), .dat .none, .val (.ref a)] { N := fun ρ' => ρ' = [.val (.ref fl), .dat (tryD [b0, b1, b2, b3, b4, b5, b6, true] r), .val (.ref a)], R := fun _ _ => False } D σ H)])
        rfl rfl nd takesN0 (fun W pn xe tk _ => pss_one (ps_set (i := 1) nd rfl (Or.inl rfl) (pe_lst (pa_cons (act W pn xe _ _ tk) pa_nil))))
        (.cons ⟨rfl, by decide, .inl hCT⟩ rfl rfl (fun a oe cls d pn z hf => PSs.any fun i hi => ?_) (.cons ⟨rfl, by decide, .inl hCW⟩ rfl rfl (fun a oe cls d pn z hf => PSs.any fun i hi => ?_) .nil))) fun D σZ HZ ⟨FZ, aZ, n, _⟩ => ?_
      · obtain ⟨h1, h2, h3, h4⟩ := hi
        have TC := hC _ _ h2
        obtain ⟨x1, x2, x3, x4⟩ := TC.xf _ rfl
        rw [h2]
        refine dss_setB 1 nd (deb_op op_add_str (deb_name_of 2 (hxs a oe cls d pn z hf) (z.1.trans h1) (fun dx q => ?_) FnN hmN hbN B TC.nc (roomHot hroom) rfl) (deb_callTy call_strF B.str (by decide +kernel) (dab_cons (deb_most 2 x1 x2 ⟨z.1, z.2.1⟩ hf h1 h3 h4 rfl) dab_nil) (v_strF x3 rfl)) (v_addS ?_)) (dss_nil rfl)
        · rw [z.2.1, h3] at q
          cases q
          exact ⟨_, h4⟩
        · exact x4
      · obtain ⟨h1, h2, h3⟩ := hi
        have TC := hC _ _ h2
        rw [h2]
        refine dss_setB 1 nd (deb_name_of 2 (hxs a oe cls d pn z hf) (z.1.trans h1) (fun dx q => ?_) FnN hmN hbN B TC.nc (roomHot hroom) rfl) (dss_nil rfl)
        rw [z.2.1, h3] at q
        cases q
      · -- the reading
        have okZ := aZ.ok
        obtain ⟨o0, e1, e2⟩ := okZ.at_ 0 _ rfl
        have e2' : o0 = some (.ref fl) := e2
        subst e2'
        have hno : ([.val (.ref fl), .dat .none, .no] : Env')[2]? = some .no := rfl
        refine ⟨e1, okZ.s _ _ (aZ.g.f _ _ hF1), FZ, ok1.grow aZ.g, ?_⟩
        have fin : ∀ {F2 H2 : Hp} (a : Addr), Grow FZ HZ F2 H2 → At [] F2 H2 [.val (.ref fl), .dat .none, .val (.ref a)] (σZ.set 2 (some (.ref a))) F2 H2 := fun {F2 H2} a g =>
          ⟨GrowX.refl g.s, (okZ.grow g).setV (i := 2), fun j q w hj => by rcases j with _ | _ | _ | j <;> simp at hj⟩
        have out : ∀ {F2 H2 : Hp} {a : Addr} {ρ' : Env'} {σ' : L2.St} {F' H' : Hp}, Grow FZ HZ F2 H2 → ρ' = [.val (.ref fl), .dat (tryD [b0, b1, b2, b3, b4, b5, b6, true] r), .val (.ref a)] → Same F2 F' → At [] F2 H2 ρ' σ' F' H' → D.nx (σ'.set 2 none) H' := fun {F2 H2 a ρ' σ' F' H'} g h s1 a' => by
          subst h
          have o3 := Ok.any (i := 2) (a'.ok.forget (i := 2)) rfl none
          exact n _ _ F' H' rfl (g.f.trans s1) ⟨aZ.g.trans (g.trans a'.g), o3, fun j q w hj => by rcases j with _ | _ | _ | j <;> simp at hj⟩
        cases r with
        | ok d =>
          intro v F2 H2 g rv
          refine ⟨by show 1 ≤ sizeLine; decide, fun q hq' => ?_⟩
          have g2 := g.trans (Grow.new (o := .lst [v]) g.s hq')
          refine n _ _ _ _ rfl g2.f ⟨aZ.g.trans g2, (okZ.grow g2).setD (i := 1) (d := .list [d]) (.lst upd_same (.cons (rv.mono (Same.upd_new (same_none g.s hq'))) .nil)), fun j q w hj => by rcases j with _ | _ | _ | j <;> simp at hj⟩
        | ex C m =>
          intro cls d F2 H2 g ⟨hc1, hc2⟩
          have TC := hC C m rfl
          subst hc1
          cases m with
          | none =>
            have hc2' : d = none := hc2
            refine ⟨false, TC.x1, fun z => (nomatch z), fun _ => ⟨true, TC.x2, fun _ a ha => ⟨(F2, H2, C), ⟨rfl, rfl, hc2'⟩, F2, fin a g, fun ρ' σ' F' H' h s1 a' => out g h s1 a', ⟨fun _ _ _ _ _ _ z => z.elim, fun _ _ z => z.elim⟩, fun _ _ _ _ z => z.elim, fun _ _ _ _ z => z.elim⟩, fun z => (nomatch z)⟩⟩
          | some n' =>
            obtain ⟨dx, hd1, hd2⟩ := hc2
            exact ⟨true, TC.x1, fun _ a ha => ⟨(F2, H2, C, dx, n'), ⟨rfl, rfl, hd1, hd2⟩, F2, fin a g, fun ρ' σ' F' H' h s1 a' => out g h s1 a', ⟨fun _ _ _ _ _ _ z => z.elim, fun _ _ z => z.elim⟩, fun _ _ _ _ z => z.elim, fun _ _ _ _ z => z.elim⟩, fun z => (nomatch z)⟩
    subst hZ
    exact ⟨_, key.nox, F1, ⟨GrowX.refl ok1.s, ⟨ok1.s, rfl, fun j en hj => by
      rcases j with _ | _ | _ | j
      · cases hj; exact ⟨_, rfl, rfl⟩
      · cases hj; exact ⟨none, rfl, trivial⟩
      · cases hj; exact ⟨none, rfl, trivial⟩
      · simp at hj, fun i j q q' w w' hj => by rcases i with _ | _ | _ | i <;> simp at hj⟩, fun j q w hj => by rcases j with _ | _ | _ | j <;> simp at hj⟩,
      fun _ _ _ _ z => z.elim, ⟨fun d v ρ' σ' F' H' h a rv => by
        have h' : d = _ := h
        subst h'
        exact kk v F' H' (g1.trans a.g) rv, fun _ _ z => z.elim⟩, fun _ _ _ _ z => z.elim, fun _ _ _ _ z => z.elim⟩
  refine wpAny_call (codeAny_mono rc fun r s' hq => ?_)
  cases r with
  | error e => exact (show False from hq).elim
  | ok fl =>
    cases fl with
    | ret u => exact I1.after hq
    | next => exact False.elim hq
    | brk => exact False.elim hq
    | cont => exact False.elim hq
end

/-! ## TooMany is raised -/
/-- the class TooMany over WishError -/
structure TmC (K : PySem.W.Frag) (mg : Str → Option Value) (CT CW fI : Addr) : Prop where
  ox : OexC K CT
  gT : mg "TooMany" = some (.ref CT)
  gW : mg "WishError" = some (.ref CW)
  win : WinC K CW
  iC : PySem.W.findIn K (.ref CT) "__init__" = some (some (.ref fI))
  tI : PySem.W.typeIn K (.ref fI) = some (.type "function")
  no : PySem.W.findIn K (.ref CT) "most" = some none
def nTm : List Str := ["self", "most"]
theorem scTm : FnScope nTm ["self", "most"] (defScope S_TooMany___init__) := ⟨rfl, rfl, rfl, by decide +kernel, rfl, by decide +kernel, by decide +kernel⟩
theorem owns_bod {P : Program} {w : World} {K : PySem.W.Frag} {mg : Str → Option Value} {base : Heap} {N : List Str} {qual : Str} {st : Stmt} {f : Addr} {cdv : Value} {A : Around} {outer : List Env} {s : Shared} {H : Hp} {E : XK} :
    PassesOwn (model P w) (BodX P w K mg base N qual st f cdv A outer s H E).A (BodX P w K mg base N qual st f cdv A outer s H E).env (BodX P w K mg base N qual st f cdv A outer s H E).xe := PassesOwn.leaving
section
variable {P : Program} {w : World} {K : PySem.W.Frag} {mg : Str → Option Value} {base : Heap} {CT CW fI : Addr} {fdI : FuncData}
theorem ok_tm (F : Fun K "__init__" "TooMany.__init__" S_TooMany___init__ fI fdI) (T : TmC K mg CT CW fI) : FnOk P w K mg base CX0 1 fI fdI ["self", "most"] (spMk CT) := by
  refine F.ok scTm (fun vs H Q E h => ?_) fun cdv A outer s H vs Q E hr h => ?_
  · obtain ⟨a, n, hv, _⟩ := h; rw [hv]; rfl
  · obtain ⟨a, n, hv, he, hk⟩ := h
    subst hv
    refine ⟨_, pss_cons (ps_expr (pe_winit rfl T.gW T.win (pa_cons (pe_var (i := 0) rfl (Or.inl rfl)) (pa_cons pe_str pa_nil))) rfl) (pss_one (ps_ost (pe_var (i := 0) rfl (Or.inl rfl)) (pe_var (i := 1) rfl (Or.inl rfl)) rfl)), ?_⟩
    exact ⟨.ref a, rfl, a, CT, [.str "too many"], rfl, by decide, T.ox, he, .int n, rfl, .ref a, rfl, a, CT, rfl, T.ox, T.no, .inl ⟨he, fun dx h1 h2 => hk dx h1 h2⟩⟩
def preAllX (ds : List PyData) (most : Int) : Prop := ∃ c, ds = [cuD c, .int most] ∧ WfC c ∧ most < sizeI (capsI c)
theorem ok_all_wishesX {f : Addr} {fd : FuncData} (F : Fun K "all_wishes" "all_wishes" S_all_wishes f fd) (B : Bn mg) (G1 : Cal P w K mg base 1 "caps" 1 (spP prCaps)) (T : TmC K mg CT CW fI) (bI : Binds K fdI ["self", "most"] []) (GI : FnOk P w K mg base CX0 1 fI fdI ["self", "most"] (spMk CT)) (most : Int) :
    FnOk P w K mg base (L2N.CX P w) 3 f fd ["custom", "most"] (spX CT (some most) (fun ds => preAllX ds most)) := by
  refine fn_okX F scAll (fun ds h => ?_) (fun ds h f cdv A outer s H E F0 H0 hr hE => ?_)
  · obtain ⟨c, rfl, _⟩ := h; rfl
  · obtain ⟨c, rfl, hc, hm⟩ := h
    have nd := scAll.nd
    have co := capsOk_of hc
    have h4 := hc.four
    have hcl : (capsI c).length ≤ 4 := co.1
    have hr1 : Room 1 (BodX P w K mg base nAll "all_wishes" S_all_wishes f cdv A outer s H E).A := hr.mono (by decide)
    refine dss_set 2 nd de_int ?_
    let I : Nat → Env' → Prop := fun i ρ => ρ = [.dat (cuD c), .dat (.int most), .dat (.int (sizeI ((capsI c).take i))), .no, .no, .no, .no]
    refine dss_for I (di_tup (ds := (capsI c).map .int) (de_call (d := capsD c) G1 hr1 (da_cons (de_var 0) da_nil) ⟨c, rfl, by omega, rfl⟩)) rfl (fun i x ρ' hx hI => ?_) (fun ρ' hI => ?_) owns_bod
    · subst hI
      rw [List.getElem?_map] at hx
      obtain ⟨cap, hcap, rfl⟩ := Option.map_eq_some_iff.mp hx
      refine ⟨_, _, dg_name 3 nd, ?_⟩
      have hb := sizeI_bound (take_capsOk co i)
      refine dss_mulI 2 nd (j := cap + 1) (i := sizeI ((capsI c).take i)) (de_op op_add (de_var 3) de_int v_add) rfl (.inl ⟨by omega, by omega⟩) (dss_nilF [3] ?_)
      have e : sizeI ((capsI c).take (i + 1)) = sizeI ((capsI c).take i) * (cap + 1) := foldl_take _ _ hcap
      show _ = _
      rw [e]; rfl
    · have hI' : ρ' = _ := hI
      rw [List.length_map, List.take_length] at hI'
      subst hI'
      refine dss_ifx (x := true) (dt_is (dt_cmp op_gt (de_var 2) (de_var 1) v_gt) (by
        rw [decide_eq_true_iff]; omega)) (fun _ => ?_) (fun h => by cases h)
      exact dss_raise takes_bod (dmk_oex T.ox T.iC T.tI GI hr bI T.gT (de_var 1)) (fun cls d σ F2 H2 a h => hE cls d σ _ F2 H2 a h)
end

/-! ## starving of too many wishes -/
section
variable {P : Program} {w : World} {K : PySem.W.Frag} {mg : Str → Option Value} {base : Heap} {CT : Addr}
theorem ok_starvingX {f : Addr} {fd : FuncData} (F : Fun K "starving" "starving" S_starving f fd) (B : Bn mg) (hM : ∃ t, mg "MOST" = some (.int 2000 t)) (G0 : CalX P w K mg base 3 "all_wishes" 2 (spX CT (some 2000) (fun ds => preAllX ds 2000))) :
    FnOk P w K mg base (L2N.CX P w) 4 f fd ["custom"] (spX CT (some 2000) (fun ds => ∃ c, ds = [cuD c] ∧ WfC c ∧ 2000 < sizeI (capsI c))) := by
  refine fn_okX F scSt (fun ds h => ?_) (fun ds h f cdv A outer s H E F0 H0 hr hE => ?_)
  · obtain ⟨c, rfl, _⟩ := h; rfl
  · obtain ⟨c, rfl, hc, hsz⟩ := h
    exact dss_forX (dx_call G0 takes_bod hr (da_cons (de_var 0) (da_cons (de_gint hM) da_nil)) ⟨c, rfl, hc, hsz⟩) (fun cls d σ F2 H2 a h => hE cls d σ _ F2 H2 a h) owns_bod
end

/-! ## _law_deck -/
def nDeck : List Str := ["cell", "turn"]
theorem scDeck : FnScope nDeck ["cell", "turn"] (defScope S__law_deck) := ⟨rfl, rfl, rfl, by decide +kernel, rfl, by decide +kernel, by decide +kernel⟩
section
variable {P : Program} {w : World} {K : PySem.W.Frag} {mg : Str → Option Value} {base : Heap}
theorem ok__law_deck {f : Addr} {fd : FuncData} (F : Fun K "_law_deck" "_law_deck" S__law_deck f fd) : FnOk P w K mg base CX0 1 f fd ["cell", "turn"] spDeck := by
  refine F.ok scDeck (fun vs H Q E h => ?_) (fun cdv A outer s H vs Q E hr h => ?_)
  · obtain ⟨cell, turn, rfl, _⟩ := h; rfl
  · obtain ⟨cell, turn, rfl, k⟩ := h
    refine ⟨_, pss_cons (ps_if (pt_cmpR op_ge (pv 0) (pe_op op_pow pe_int pe_int) (nomark _)) (pss_one (ps_ret (pe_lst (pa_cons (pe_op op_sub (pv 0) (pe_op op_pow pe_int pe_int)) (pa_cons (pe_op op_mod (pv 0) pe_int) (pa_cons (pv 1) pa_nil)))))) pss_nil)
      (pss_one (ps_ret (pe_lst (pa_cons pe_int (pa_cons (pe_op op_mod (pv 0) pe_int) (pa_cons (pv 1) pa_nil)))))), ?_⟩
    refine ⟨_, rfl, _, _, rfl, rfl, ⟨by decide, by decide, by decide⟩, _, _, rfl, rfl, _, rfl, ?_⟩
    have hm0 : 0 ≤ cell % 2147483579 := Int.emod_nonneg _ (by decide)
    have hm1 : cell % 2147483579 < 2147483579 := Int.emod_lt_of_pos _ (by decide)
    refine ite2 (fun hc => ?_) (fun hc => ?_)
    · have hc' : (10 : Int) ^ (18 : Int).toNat ≤ cell := of_decide_eq_true hc
      refine ⟨_, rfl, _, _, rfl, rfl, ⟨by decide, by decide, by decide⟩, _, _, rfl, rfl, _, rfl, _, _, rfl, rfl, (by show (0 : Int) < 2147483579; decide), _, rfl, by show 3 ≤ sizeLine; decide, fun p hp => ?_⟩
      exact k p _ _ (by omega) hm0 hm1 hp
    · refine ⟨_, rfl, _, _, rfl, rfl, (by show (0 : Int) < 2147483579; decide), _, rfl, by show 3 ≤ sizeLine; decide, fun p hp => ?_⟩
      exact k p _ _ (by decide) hm0 hm1 hp
end

/-! ## _law_pick -/
def nPick : List Str := ["deck", "limit", "found", "number"]
theorem scPick : FnScope nPick ["deck", "limit"] (defScope S__law_pick) := ⟨rfl, rfl, rfl, by decide +kernel, rfl, by decide +kernel, by decide +kernel⟩
section
variable {P : Program} {w : World} {K : PySem.W.Frag} {mg : Str → Option Value} {base : Heap}
theorem ok__law_pick {f : Addr} {fd : FuncData} (F : Fun K "_law_pick" "_law_pick" S__law_pick f fd) : FnOk P w K mg base CX0 1 f fd ["deck", "limit"] (spK 1 prePick prPick) := by
  refine fn_okK F scPick (fun ds h => ?_) (fun p n ds h hn f cdv A outer s H E F0 H0 hr => ?_)
  · obtain ⟨lim, rfl, _⟩ := h; rfl
  · obtain ⟨lim, rfl, h1, h2⟩ := h
    have nd := scPick.nd
    have hlim : ∀ z, CDivW z lim := fun z => by
      refine wide_div (b := 64) (by omega) ?_ (by decide) (by decide)
      have : (1000000000000000001 : Nat) < 2 ^ 64 := by decide
      omega
    refine dss_open 0 fun a b c ha hb hb2 hc hcn => ?_
    -- if deck[0] > 1
    refine dss_ifx (dt_cmp op_gt (de_peek 0 rfl (de_ix ix_list (de_var 0) de_int (v_ixL (by rfl)))) de_int v_gt) (fun _ => ?_) (fun _ => ?_)
    · refine dss_set 2 nd (de_op op_mod (de_peek 0 rfl (de_ix ix_list (de_var 0) de_int (v_ixL (by rfl)))) (de_var 1) (v_mod (by omega))) ?_
      refine dss_seti 0 (j := 0) (de_op op_fdivW (de_peek 0 rfl (de_ix ix_list (de_var 0) de_int (v_ixL (by rfl)))) (de_var 1) (v_fdivW (hlim _))) de_int rfl ?_
      exact dss_ret (de_var 2) ⟨⟨lim, _, rfl, rfl, Int.emod_nonneg _ (by omega), Int.emod_lt_of_pos _ (by omega)⟩, _, rfl, deck_of (Int.ediv_nonneg ha (by omega)) hb hb2 hc (by omega)⟩
    · -- deck[2] = deck[2] + 1
      refine dss_seti 0 (j := 2) (de_op op_add (de_peek 0 rfl (de_ix ix_list (de_var 0) de_int (v_ixL (by rfl)))) de_int v_add) de_int rfl ?_
      have hc9 : c + 1 ≤ 1000000000 := by omega
      refine dss_set 3 nd (de_op op_mod (de_op op_pow (de_op op_add (de_peek 0 rfl (de_ix ix_list (de_var 0) de_int (v_ixL (by rfl)))) (de_op op_mul de_int (de_peek 0 rfl (de_ix ix_list (de_var 0) de_int (v_ixL (by rfl)))) (v_mul (.inl (by decide)))) v_add) de_int (v_pow ?_)) de_int (v_mod (by decide))) ?_
      · refine ⟨by decide, by decide, ?_⟩
        have : (2:Nat) ^ 64 = 18446744073709551616 := by decide
        omega
      generalize hnum : (b + 15485867 * (c + 1)) ^ (5 : Int).toNat % 2147483647 = num
      have hn0 : 0 ≤ num := by rw [← hnum]; exact Int.emod_nonneg _ (by decide)
      have hn1 : num < 2147483647 := by rw [← hnum]; exact Int.emod_lt_of_pos _ (by decide)
      refine dss_set 2 nd (de_op op_fdiv (de_op op_mod (de_op op_pow (de_op op_add (de_var 3) (de_op op_mul de_int (de_peek 0 rfl (de_ix ix_list (de_var 0) de_int (v_ixL (by rfl)))) (v_mul (.inl (by decide)))) v_add) de_int (v_pow ?_)) de_int (v_mod (by decide))) de_int (v_fdiv ⟨by decide, by decide⟩)) ?_
      · refine ⟨by decide, by decide, ?_⟩
        have : (2:Nat) ^ 64 = 18446744073709551616 := by decide
        omega
      generalize hfo : (num + 7919 * (c + 1)) ^ (3 : Int).toNat % 2147483629 / 32 = fo
      have hf0 : 0 ≤ fo := by rw [← hfo]; exact Int.ediv_nonneg (Int.emod_nonneg _ (by decide)) (by decide)
      have hf1 : fo < 2147483629 := by
        have : (num + 7919 * (c + 1)) ^ (3 : Int).toNat % 2147483629 < 2147483629 := Int.emod_lt_of_pos _ (by decide)
        omega
      have fin : ∀ z : Int, prPick [.int lim] (.int (z % lim)) := fun z => ⟨lim, _, rfl, rfl, Int.emod_nonneg _ (by omega), Int.emod_lt_of_pos _ (by omega)⟩
      refine dss_ifx (dt_cmp op_gt (de_var 1) de_int v_gt) (fun _ => ?_) (fun _ => ?_)
      · exact dss_ret (de_op op_mod (de_op op_add (de_op op_mul (de_var 2) de_int (v_mul (.inl (by omega)))) (de_var 3) v_add) (de_var 1) (v_mod (by omega))) ⟨fin _, _, rfl, deck_of ha hb hb2 (by omega) (by omega)⟩
      · exact dss_ret (de_op op_mod (de_var 2) (de_var 1) (v_mod (by omega))) ⟨fin _, _, rfl, deck_of ha hb hb2 (by omega) (by omega)⟩
end

/-! ## _law_custom -/
def nCus : List Str := ["deck", "size", "top", "hands", "k", "steps", "rise", "fall"]
theorem scCus : FnScope nCus ["deck", "size", "top"] (defScope S__law_custom) := ⟨rfl, rfl, rfl, by decide +kernel, rfl, by decide +kernel, by decide +kernel⟩
section
variable {P : Program} {w : World} {K : PySem.W.Frag} {mg : Str → Option Value} {base : Heap}
theorem ok__law_custom {f : Addr} {fd : FuncData} (F : Fun K "_law_custom" "_law_custom" S__law_custom f fd) (B : Bn mg) (G1 : Cal P w K mg base 1 "_law_pick" 2 (spK 1 prePick prPick)) : FnOk P w K mg base CX0 2 f fd ["deck", "size", "top"] (spK 40 preCus prCus) := by
  refine fn_okK F scCus (fun ds h => ?_) (fun p n ds h hn f cdv A outer s H E F0 H0 hr => ?_)
  · obtain ⟨size, top, rfl, _⟩ := h; rfl
  · obtain ⟨size, top, rfl, hs2, hs4, ht0, ht1⟩ := h
    have nd := scCus.nd
    refine dss_newl 3 nd fun q => ?_
    let I : List PyData → Nat → Env' → Prop := fun ds i ρ => ∃ hs : List Hand, hs.length = i ∧ (∀ h ∈ hs, okHand h ∧ h.cap ≤ top) ∧ ρ = [.own p (.deck (n + 1 + 8 * (i : Int))), .dat (.int size), .dat (.int top), .own q (.lst (hs.map haD)), .no, .no, .no, .no]
    let ρ1 : Env' := [.own p (.deck n), .dat (.int size), .dat (.int top), .own q (.lst []), .no, .no, .no, .no]
    let ρ2 : Env' := [.own p (.deck (n + 1)), .dat (.int size), .dat (.int top), .own q (.lst []), .no, .no, .no, .no]
    refine dss_forW (P := fun ds => ∃ j : Int, 2 ≤ j ∧ j ≤ size ∧ ds = rngD 0 j.toNat) I
      (wi_imp (wi_range1 (ρ := ρ1) (ρ1 := ρ2) (PA1 := fun ds => ∃ j : Int, ds = [.int j] ∧ 2 ≤ j ∧ j ≤ size) (wa_imp (wa_cons (we_op (ρ := ρ1) (P := fun d => ∃ j : Int, d = .int j ∧ 2 ≤ j ∧ j ≤ size) op_add (we_d (P := fun d => d = .int 2) de_int rfl) (fun d1 h => we_pick (n := n) (p := p) (lim := size - 1) 0 G1 hr (de_op op_sub (de_var 1) de_int v_sub) (by omega) (by omega) rfl (by omega)) (fun d1 d2 h1 ⟨r, h2, h3, h4⟩ => ⟨.int (2 + r), by rw [h1, h2]; exact v_add, 2 + r, rfl, by omega, by omega⟩)) wa_nil)
        (fun ds ⟨d, ds', e1, ⟨j, e2, e3, e4⟩, e5⟩ => ⟨j, by rw [e1, e2, e5], e3, e4⟩)) (fun ds ⟨j, e1, e2, e3⟩ => ⟨j, e1, by omega, by omega⟩) B.range) (fun ds ⟨j, ⟨j', e1, e2, e3⟩, e4⟩ => ⟨j, by cases e1; exact e2, by cases e1; exact e3, e4⟩))
      (show OwnLike (ρ1.set 0 (.own p (.deck (n + 1)))) ρ1 from OwnLike_deck 0) (fun ds _ => ⟨[], rfl, (fun h hh => by cases hh), (by show ρ2 = _; simp [ρ2])⟩) (fun ds i x ρ' hP hx hI => ?_) (fun ds ρ' hP hI => ?_)
    · obtain ⟨j, hj1, hj2, rfl⟩ := hP
      obtain ⟨hs, hl, hok, rfl⟩ := hI
      obtain ⟨hi, rfl⟩ := rngD_get hx
      have hi4 : i < 4 := by omega
      refine ⟨_, _, dg_name 4 nd, ?_⟩
      -- steps = [_law_pick(deck, 3), _law_pick(deck, 16), 1]
      refine dss_setW 5 nd (P := fun d => ∃ ds, d = .list ds ∧ ds.length = 3 ∧ ∀ d ∈ ds, IntIn 0 16 d) (we_lst (wa_cons (we_pick 0 G1 hr de_int (by decide) (by decide) rfl (by omega)) (wa_cons (we_pick 0 G1 hr de_int (by decide) (by decide) rfl (by omega)) (wa_d (PA1 := fun ds => ds = [.int 1]) (da_cons de_int da_nil) rfl))) (fun ds ⟨d1, ds1, e1, ⟨i1, a1, a2, a3⟩, d2, ds2, e2, ⟨i2, b1, b2, b3⟩, e3⟩ => by
          subst e1 e2 e3 a1 b1
          refine ⟨Nat.le_of_ble_eq_true rfl, _, rfl, rfl, fun d hd => ?_⟩
          simp only [List.mem_cons, List.not_mem_nil, or_false] at hd
          rcases hd with rfl | rfl | rfl
          · exact ⟨i1, rfl, a2, by omega⟩
          · exact ⟨i2, rfl, b2, by omega⟩
          · exact ⟨1, rfl, by decide, by decide⟩)) ((OwnLike_deck 0).trans (OwnLike_deck 0)) (fun d hd => ?_)
      obtain ⟨sd, rfl, hsl, hsall⟩ := hd
      -- rise, fall = (steps[_law_pick(deck, 3)], [_law_pick(deck, 5), _law_pick(deck, 16)][_law_pick(deck, 2)])
      refine dss_parW 6 7 nd (PA1 := fun ds => ∃ a b : Int, ds = [.int a, .int b] ∧ 0 ≤ a ∧ a ≤ 15 ∧ 0 ≤ b ∧ b ≤ 15) (wa_imp (wa_cons (we_ix (P := IntIn 0 16) ix_list (we_d (P := fun d => d = .list sd) (de_var 5) rfl) (fun _ _ => we_pick 0 G1 hr de_int (by decide) (by decide) rfl (by omega)) (fun d1 d2 h1 h2 => by rw [h1]; exact v_ixAll hsl hsall h2))
          (wa_cons (we_ix (P := IntIn 0 16) ix_list (we_lst (P := fun d => ∃ ds, d = .list ds ∧ ds.length = 2 ∧ ∀ d ∈ ds, IntIn 0 16 d) (wa_cons (we_pick 0 G1 hr de_int (by decide) (by decide) rfl (by omega)) (wa_cons (we_pick 0 G1 hr de_int (by decide) (by decide) rfl (by omega)) wa_nil)) (fun ds ⟨d1, ds1, e1, ⟨i1, a1, a2, a3⟩, d2, ds2, e2, ⟨i2, b1, b2, b3⟩, e3⟩ => by
              subst e1 e2 e3 a1 b1
              refine ⟨Nat.le_of_ble_eq_true rfl, _, rfl, rfl, fun d hd => ?_⟩
              simp only [List.mem_cons, List.not_mem_nil, or_false] at hd
              rcases hd with rfl | rfl
              · exact ⟨i1, rfl, a2, by omega⟩
              · exact ⟨i2, rfl, b2, by omega⟩)) (fun _ _ => we_pick 0 G1 hr de_int (by decide) (by decide) rfl (by omega)) (fun d1 d2 ⟨ds, h1, h2, h3⟩ h4 => by rw [h1]; exact v_ixAll h2 h3 h4)) wa_nil))
          (fun ds ⟨d1, ds1, e1, ⟨i1, a1, a2, a3⟩, d2, ds2, e2, ⟨i2, b1, b2, b3⟩, e3⟩ => ⟨i1, i2, by rw [e1, e2, e3, a1, b1], a2, by omega, b2, by omega⟩)) ((OwnLike_deck 0).trans ((OwnLike_deck 0).trans ((OwnLike_deck 0).trans (OwnLike_deck 0)))) (fun d1 d2 h => ?_) (fun ds ⟨a, b, e, _⟩ => by rw [e]; rfl)
      obtain ⟨ra, fb, e, hr0, hr1, hf0, hf1⟩ := h
      cases e
      -- hands.append((rise, fall, [top, _law_pick(deck, top + 1)][_law_pick(deck, 2)]))
      refine dss_appW 3 (P := fun d => ∃ h : Hand, d = haD h ∧ okHand h ∧ h.cap ≤ top) (PA1 := fun ds => ∃ h : Hand, ds = [haD h] ∧ okHand h ∧ h.cap ≤ top) (wa_imp (wa_cons (we_tup (P := fun d => ∃ h : Hand, d = haD h ∧ okHand h ∧ h.cap ≤ top) (wa_cons (we_d (P := fun d => d = .int ra) (de_var 6) rfl) (wa_cons (we_d (P := fun d => d = .int fb) (de_var 7) rfl) (wa_cons (we_ix (P := IntIn 0 (top + 1)) ix_list (we_lst (P := fun d => ∃ ds, d = .list ds ∧ ds.length = 2 ∧ ∀ d ∈ ds, IntIn 0 (top + 1) d) (wa_cons (we_d (P := fun d => d = .int top) (de_var 2) rfl) (wa_cons (we_pick (lim := top + 1) 0 G1 hr (de_op op_add (de_var 2) de_int v_add) (by omega) (by omega) rfl (by omega)) wa_nil)) (fun ds ⟨d1, ds1, e1, a1, d2, ds2, e2, ⟨i2, b1, b2, b3⟩, e3⟩ => by
              subst e1 e2 e3 a1 b1
              refine ⟨Nat.le_of_ble_eq_true rfl, _, rfl, rfl, fun d hd => ?_⟩
              simp only [List.mem_cons, List.not_mem_nil, or_false] at hd
              rcases hd with rfl | rfl
              · exact ⟨top, rfl, by omega, by omega⟩
              · exact ⟨i2, rfl, b2, by omega⟩)) (fun _ _ => we_pick 0 G1 hr de_int (by decide) (by decide) rfl (by omega)) (fun d1 d2 ⟨ds, h1, h2, h3⟩ h4 => by rw [h1]; exact v_ixAll h2 h3 h4)) wa_nil)))
          (fun ds ⟨d1, ds1, e1, a1, d2, ds2, e2, a2, d3, ds3, e3, ⟨i3, b1, b2, b3⟩, e4⟩ => by
            subst e1 e2 e3 e4 a1 a2 b1
            exact ⟨Nat.le_of_ble_eq_true rfl, ⟨ra, fb, i3⟩, rfl, ⟨hr0, hr1, hf0, hf1, b2, show i3 ≤ 15 by omega⟩, show i3 ≤ top by omega⟩)) wa_nil) (fun ds ⟨d, ds', e1, ⟨h, e2, e3⟩, e4⟩ => ⟨h, by rw [e1, e2, e4], e3⟩))
        ((OwnLike_deck 0).trans (OwnLike_deck 0)) (fun ds ⟨h, e1, e2⟩ => ⟨haD h, e1, h, rfl, e2⟩) ?_ (fun d ⟨h, e1, e2⟩ => ?_)
      · rw [List.length_map, hl]
        exact Nat.lt_of_lt_of_le hi4 (by decide)
      · subst e1
        refine dss_nilF [4, 5, 6, 7] ?_
        refine ⟨hs ++ [h], by simp [hl], fun h' hh' => ?_, ?_⟩
        · rcases List.mem_append.mp hh' with q | q
          · exact hok h' q
          · rw [List.mem_singleton.mp q]; exact e2
        · have e : n + 1 + 8 * ((i + 1 : Nat) : Int) = n + 1 + 8 * (i : Int) + 1 + 1 + 1 + 1 + 1 + 1 + 1 + 1 := by omega
          rw [e, List.map_append]; rfl
    · obtain ⟨j, hj1, hj2, rfl⟩ := hP
      obtain ⟨hs, hl, hok, rfl⟩ := hI
      have hjl : (rngD 0 j.toNat).length = j.toNat := by simp [rngD]
      rw [hjl] at hl ⊢
      have hlj : (hs.length : Int) = j := by omega
      refine dss_freezeX 3 0 ?_
      refine dss_retW (P := prCus [.int size, .int top]) (we_tup (wa_cons (we_op (P := IntIn 1 (hs.length : Int)) op_add (we_d (P := fun d => d = .int 1) de_int rfl) (fun _ _ => we_pick (lim := ((hs.map haD).length : Int) - 1) 0 G1 hr (de_op op_sub (de_callB call_len_seq B.len (by decide +kernel) (da_cons (de_var 3) da_nil) v_lenL) de_int v_sub) (by rw [List.length_map]; omega) (by rw [List.length_map]; omega) rfl (by omega)) (fun d1 d2 h1 ⟨r, h2, h3, h4⟩ => ⟨.int (1 + r), by rw [h1, h2]; exact v_add, 1 + r, rfl, by omega, by rw [List.length_map] at h4; omega⟩))
        (wa_cons (we_ix (P := fun d => ∃ b, d = .str (tieS b)) ix_list (we_d (P := fun d => d = .list [.str "first", .str "last"]) (de_lst (da_cons de_str (da_cons de_str da_nil))) rfl) (fun _ _ => we_pick 0 G1 hr de_int (by decide) (by decide) rfl (by omega)) (fun d1 d2 h1 h2 => by
            rw [h1]
            refine v_ixAll (P := fun d => ∃ b, d = .str (tieS b)) (n := 2) rfl (fun d hd => ?_) h2
            simp only [List.mem_cons, List.not_mem_nil, or_false] at hd
            rcases hd with rfl | rfl
            · exact ⟨true, rfl⟩
            · exact ⟨false, rfl⟩)) (wa_d (PA1 := fun ds => ds = [.tuple (hs.map haD)]) (da_cons (de_callTy call_tuple_of B.tuple (by decide +kernel) (da_cons (de_var 3) da_nil) v_tupL) da_nil) rfl))) (fun ds ⟨d1, ds1, e1, ⟨m, a1, a2, a3⟩, d2, ds2, e2, ⟨b, b1⟩, e3⟩ => by
          subst e1 e2 e3 a1 b1
          refine ⟨Nat.le_of_ble_eq_true rfl, size, top, ⟨m, b, hs⟩, rfl, rfl, ⟨?_, ?_, a2, ?_, fun h hh => (hok h hh).1⟩, fun h hh => (hok h hh).2⟩
          · show 2 ≤ hs.length; omega
          · show hs.length ≤ 4; omega
          · show m ≤ (hs.length : Int) - 1; omega)) ((OwnLike_deck 0).trans (OwnLike_deck 0)) (fun d hd => ⟨hd, _, rfl, deck_mono (by omega)⟩)
end

/-! ## _law_wishes -/
def nLwi : List Str := ["deck", "custom", "hand"]
theorem scLwi : FnScope nLwi ["deck", "custom"] (defScope S__law_wishes) := ⟨rfl, rfl, rfl, by decide +kernel, rfl, by decide +kernel, by decide +kernel⟩
section
variable {P : Program} {w : World} {K : PySem.W.Frag} {mg : Str → Option Value} {base : Heap}
theorem ok__law_wishes {f : Addr} {fd : FuncData} (F : Fun K "_law_wishes" "_law_wishes" S__law_wishes f fd) (B : Bn mg) (G1 : Cal P w K mg base 1 "_law_pick" 2 (spK 1 prePick prPick)) : FnOk P w K mg base CX0 2 f fd ["deck", "custom"] (spK 4 preLwi prLwi) := by
  refine fn_okK F scLwi (fun ds h => ?_) (fun p n ds h hn f cdv A outer s H E F0 H0 hr => ?_)
  · obtain ⟨c, rfl, _⟩ := h; rfl
  · obtain ⟨c, rfl, hc⟩ := h
    have nd := scLwi.nd
    have h4 : (c.hands.length : Int) ≤ 4 := by have := hc.four; omega
    refine dss_retW (we_callTy (PA1 := fun ds => ∃ es, ds = [.list es] ∧ All2 (fun (h : Hand) d => IntIn 0 (h.cap + 1) d) c.hands es) call_tuple_of (fun ds ⟨es, h, _⟩ => ⟨.tuple es, by rw [h]; exact v_tupL, ?_⟩) B.tuple (by decide +kernel) (wa_imp (wa_cons (we_lcK (xs := c.hands) (enc := haD) (own := [("hand", 2)]) 0 n 1 (fun h m => [.own p (.deck m), .dat (cuD c), .dat (haD h)]) (fun h m => [.own p (.deck (m + 1)), .dat (cuD c), .dat (haD h)]) (fun h d => IntIn 0 (h.cap + 1) d) [2] rfl nd (blkOk_by (N := nLwi) (sc := defScope S__law_wishes) (by decide +kernel))
      (di_tup (de_ix ix_tup (de_var 1) de_int (v_ixT (by rfl)))) rfl
      (fun h _ m _ _ _ _ _ => dg_name 2 nd)
      (fun h hh m hm1 hm2 _ _ _ _ _ => we_pick 0 G1 hr (de_op op_add (de_ix ix_tup (de_var 2) de_int (v_ixT (by rfl))) de_int v_add) (by have := hc.steps h hh; omega) (by have := hc.steps h hh; omega) rfl (by omega))
      (fun h m => rfl) (by decide) (by decide) (Nat.le_trans hc.four (by decide))) wa_nil) (fun ds ⟨d, ds', e1, ⟨es, e2, al⟩, e3⟩ => ⟨es, by rw [e1, e2, e3], al⟩))) (OwnLike_deck 0) (fun d hd => ⟨hd, _, rfl, deck_mono (by omega)⟩)
    · exact ⟨c, rfl, hc, es, rfl, by assumption⟩
end

/-! ## _law_had -/
def nHad : List Str := ["custom", "wishes", "found", "hand", "wish", "ahead", "other", "more", "before"]
theorem scHad : FnScope nHad ["custom", "wishes"] (defScope S__law_had) := ⟨rfl, rfl, rfl, by decide +kernel, rfl, by decide +kernel, by decide +kernel⟩
section
variable {P : Program} {w : World} {K : PySem.W.Frag} {mg : Str → Option Value} {base : Heap}
theorem ok__law_had {f : Addr} {fd : FuncData} (F : Fun K "_law_had" "_law_had" S__law_had f fd) (B : Bn mg) : FnOk P w K mg base CX0 1 f fd ["custom", "wishes"] (spP prHad) := by
  refine fn_ok F scHad (fun ds d h => ?_) (fun ds d h f cdv A outer s H E F0 H0 hr => ?_)
  · obtain ⟨c, ws, rfl, _⟩ := h; rfl
  · obtain ⟨c, ws, rfl, hl, rfl⟩ := h
    have nd := scHad.nd
    have hlen : (enumD (ws.map PyData.int)).length = (enumI ws).length := by rw [enumD_ints, List.length_map]
    refine dss_newl 2 nd fun p => ?_
    let I : Nat → Env' → Prop := fun i ρ => ρ = [.dat (cuD c), .dat (wiD ws), .own p (.lst (((((enumI ws).take i).filter fun q => decide ((aheadOf c ws q : Int) < c.many)).map (·.1)).map PyData.int)), .no, .no, .no, .no, .no, .no]
    refine dss_for I (di_enumT (da_cons (de_var 1) da_nil) B.enumerate) rfl (fun i x ρ' hx hI => ?_) (fun ρ' hI => ?_)
    · subst hI
      obtain ⟨wq, hw, rfl⟩ := enumD_int_get hx
      refine ⟨_, _, dg_tup (dgs_cons (dg_name 3 nd) (dgs_cons (dg_name 4 nd) dgs_nil)), ?_⟩
      refine dss_set 5 nd de_int ?_
      let J : Nat → Env' → Prop := fun j ρ => ρ = [.dat (cuD c), .dat (wiD ws), .own p (.lst (((((enumI ws).take i).filter fun q => decide ((aheadOf c ws q : Int) < c.many)).map (·.1)).map PyData.int)), .dat (.int (i : Int)), .dat (.int wq),
        .dat (.int ((((enumI ws).take j).filter (goesAhead c.first ((i : Int), wq))).length : Int)), .no, .no, .no]
      refine dss_for J (di_enumT (da_cons (de_var 1) da_nil) B.enumerate) rfl (fun j x ρ' hx' hJ => ?_) (fun ρ' hJ => ?_)
      · subst hJ
        obtain ⟨vq, hv, rfl⟩ := enumD_int_get hx'
        refine ⟨_, _, dg_tup (dgs_cons (dg_name 6 nd) (dgs_cons (dg_name 7 nd) dgs_nil)), ?_⟩
        -- before
        refine dss_set 8 nd (de_is (d2 := .bool (if c.first then decide ((j : Int) < (i : Int)) else decide ((j : Int) > (i : Int)))) (de_if (dt_cmp op_eq (de_ix ix_tup (de_var 0) de_int (v_ixT (by rfl))) de_str v_eqS) (fun _ => de_cmp op_lt (de_var 6) (de_var 3) v_lt) (fun _ => de_cmp op_gt (de_var 6) (de_var 3) v_gt)) ?_) ?_
        · rw [tieS_first]
          cases c.first <;> rfl
        refine dss_set 5 nd (de_op op_add (de_var 5) (de_callTy call_int1 B.int (by decide +kernel) (da_cons (de_or (de_cmp op_gt (de_var 7) (de_var 4) v_gt) (fun _ => de_one (de_and (de_cmp op_eq (de_var 7) (de_var 4) v_eqI) (fun _ => de_one (de_var 8))))) da_nil) v_intB) v_add) ?_
        refine dss_nilF [6, 7, 8] ?_
        have e := count_take_succ (goesAhead c.first ((i : Int), wq)) hv
        show _ = _
        rw [e]; rfl
      · have hJ' : ρ' = _ := hJ
        rw [hlen, List.take_length] at hJ'
        subst hJ'
        refine dss_one (ds_if (x := decide (((aheadOf c ws ((i : Int), wq) : Nat) : Int) < c.many)) (dt_cmp op_lt (de_var 5) (de_ix ix_tup (de_var 0) de_int (v_ixT (by rfl))) v_lt) (fun h => ?_) (fun h => ?_))
        · refine dss_app 2 (da_cons (de_var 3) da_nil) ?_ ?_
          · rw [List.length_map, List.length_map]
            refine Nat.lt_of_le_of_lt (List.length_filter_le _ _) ?_
            rw [List.length_take, enumI_len]
            exact Nat.lt_of_le_of_lt (Nat.min_le_right _ _) (Nat.lt_of_le_of_lt hl (by decide))
          · refine dss_nilF [3, 4, 5] ?_
            have e := had_take_yes c hw h
            show _ = _
            rw [e, List.map_append]; rfl
        · refine dss_nilF [3, 4, 5] ?_
          have e := had_take_no c hw h
          show _ = _
          rw [e]; rfl
    · have hI' : ρ' = _ := hI
      rw [hlen, List.take_length] at hI'
      subst hI'
      exact dss_freeze 2 (dss_ret (de_callTy call_tuple_of B.tuple (by decide +kernel) (da_cons (de_var 2) da_nil) v_tupL) rfl)
end

/-! ## _law_after -/
def nAfter : List Str := ["custom", "wishes", "had", "found", "hand", "rise", "fall", "cap", "wish"]
theorem scAfter : FnScope nAfter ["custom", "wishes"] (defScope S__law_after) := ⟨rfl, rfl, rfl, by decide +kernel, rfl, by decide +kernel, by decide +kernel⟩
section
variable {P : Program} {w : World} {K : PySem.W.Frag} {mg : Str → Option Value} {base : Heap}
theorem ok__law_after {f : Addr} {fd : FuncData} (F : Fun K "_law_after" "_law_after" S__law_after f fd) (B : Bn mg) (G1 : Cal P w K mg base 1 "_law_had" 2 (spP prHad)) : FnOk P w K mg base CX0 2 f fd ["custom", "wishes"] (spP prOne) := by
  refine fn_ok F scAfter (fun ds d h => ?_) (fun ds d h f cdv A outer s H E F0 H0 hr => ?_)
  · obtain ⟨c, ws, rfl, _⟩ := h; rfl
  · obtain ⟨c, ws, rfl, hc, hw, rfl⟩ := h
    have nd := scAfter.nd
    have h4 := hc.four
    have hlw := hw.len
    refine dss_set 2 nd (de_call (ds := [cuD c, wiD ws]) (d := wiD (had c ws)) G1 hr (da_cons (de_var 0) (da_cons (de_var 1) da_nil)) ⟨c, ws, rfl, by omega, rfl⟩) ?_
    refine dss_newl 3 nd fun p => ?_
    let I : Nat → Env' → Prop := fun i ρ => ρ = [.dat (cuD c), .dat (wiD ws), .dat (wiD (had c ws)), .own p (.lst (((after c ws).take i).map PyData.int)), .no, .no, .no, .no, .no]
    have hlen : (enumD (c.hands.map haD)).length = (after c ws).length := by rw [after_len, hlw]; simp [enumD]
    refine dss_for I (di_enumT (da_cons (de_ix ix_tup (de_var 0) de_int (v_ixT (by rfl))) da_nil) B.enumerate) rfl (fun i x ρ' hx hI => ?_) (fun ρ' hI => ?_)
    · subst hI
      obtain ⟨y, hy, rfl⟩ := enumD_get hx
      rw [List.getElem?_map] at hy
      obtain ⟨h, hh, rfl⟩ := Option.map_eq_some_iff.mp hy
      have hi : i < c.hands.length := (List.getElem?_eq_some_iff.mp hh).1
      have hwi : ws[i]? = some ws[i] := List.getElem?_eq_getElem (by omega)
      generalize ws[i]'(by omega) = wq at hwi
      have hha : handAt c.hands (i : Int) = h := by
        unfold handAt
        rw [Int.toNat_natCast, List.getD_eq_getElem?_getD, hh]; rfl
      refine ⟨_, _, dg_tup (dgs_cons (dg_name 4 nd) (dgs_cons (dg_tup (dgs_cons (dg_name 5 nd) (dgs_cons (dg_name 6 nd) (dgs_cons (dg_name 7 nd) dgs_nil)))) dgs_nil)), ?_⟩
      refine dss_set 8 nd (de_is (d2 := .int (if (i : Int) ∈ had c ws then wq - h.fall else wq + h.rise)) (de_if (dt_cmp op_in_seq (de_var 4) (de_var 2) v_inI) (fun _ => de_op op_sub (de_ix ix_tup (de_var 1) (de_var 4) (v_ixT (atI_int hwi))) (de_var 6) v_sub) (fun _ => de_op op_add (de_ix ix_tup (de_var 1) (de_var 4) (v_ixT (atI_int hwi))) (de_var 5) v_add)) ?_) ?_
      · by_cases hm : (i : Int) ∈ had c ws
        · rw [if_pos (decide_eq_true hm), if_pos hm]
        · rw [decide_eq_false hm, if_neg (by decide), if_neg hm]
      generalize hz : (if (i : Int) ∈ had c ws then wq - h.fall else wq + h.rise) = z
      have hst := hc.steps h (List.mem_of_getElem? hh)
      have hbd := hw.bound i wq hwi
      rw [hha] at hbd
      have hval : max 0 (min z h.cap) = stepOf (had c ws) c.hands i wq := by
        unfold stepOf
        rw [hha, ← hz]
        split <;> omega
      refine dss_app 3 (d := .int (stepOf (had c ws) c.hands i wq)) (da_cons (de_ix ix_list (de_callB cr_sorted B.sorted (by decide +kernel) (da_cons (de_lst (da_cons de_int (da_cons (de_var 8) (da_cons (de_var 7) da_nil)))) da_nil) (v_sortI (ns := [0, z, h.cap]) (by show (3 : Nat) < 64; decide))) de_int (v_ixL ?_)) da_nil) ?_ ?_
      · rw [← hval]; exact sort3 z hst.2.2.2.2.1
      · rw [List.length_map, List.length_take, after_len]
        exact Nat.lt_of_le_of_lt (Nat.min_le_right _ _) (Nat.lt_of_le_of_lt (show ws.length ≤ 4 by omega) (by decide))
      · refine dss_nilF [4, 5, 6, 7, 8] ?_
        have e := take_map_succ PyData.int (show (after c ws)[i]? = some (stepOf (had c ws) c.hands i wq) by rw [after_get, hwi]; rfl)
        show _ = _
        rw [e]; rfl
    · have hI' : ρ' = _ := hI
      rw [hlen, List.take_length] at hI'
      subst hI'
      exact dss_freeze 3 (dss_ret (de_tup (da_cons (de_var 2) (da_cons (de_callTy call_tuple_of B.tuple (by decide +kernel) (da_cons (de_var 3) da_nil) v_tupL) da_nil))) rfl)
end

/-! ## _law_small, _law_all -/
def SmallT (top : Int) (c : Custom) : Prop := (∀ h ∈ c.hands, h.cap ≤ top) ∧ (c.hands.length = 4 → ∀ h ∈ c.hands, h.cap ≤ top / 2)
def prSmT (top : Int) (_ : List PyData) (d : PyData) : Prop := ∃ c, d = cuD c ∧ WfC c ∧ SmallT top c
def lessT (top : Int) (n : Nat) (h : Hand) : Hand := ⟨h.rise, h.fall, min h.cap (if n < 4 then top else top / 2)⟩
def nSm : List Str := ["deck", "top", "custom", "less", "hands", "rise", "fall", "cap"]
theorem scSm : FnScope nSm ["deck", "top"] (defScope S__law_small) := ⟨rfl, rfl, rfl, by decide +kernel, rfl, by decide +kernel, by decide +kernel⟩
theorem v_catL4 {ds es : List PyData} (h : ds.length + es.length ≤ 1000000) : V2 rCat (.list ds) (.list es) (.list (ds ++ es)) := fun F H v1 v2 e r1 r2 Q k => by
  obtain ⟨a, xs, rfl, ha, rx⟩ := r1.lst_inv
  obtain ⟨b, ys, rfl, hb, ry⟩ := r2.lst_inv
  refine ⟨a, b, xs, ys, rfl, rfl, e _ _ ha, e _ _ hb, by rw [rx.len, ry.len]; exact Nat.le_trans h (by decide), fun p hp => k _ _ _ (Grow.new e hp) (.lst upd_same ((rx.append ry).mono (Same.upd_new (same_none e hp))))⟩
section
variable {P : Program} {w : World} {K : PySem.W.Frag} {mg : Str → Option Value} {base : Heap}
theorem ok__law_smallT (top : Int) (ht : 2 ≤ top ∧ top ≤ 15) {f : Addr} {fd : FuncData} (F : Fun K "_law_small" "_law_small" S__law_small f fd) (B : Bn mg) (G1 : Cal P w K mg base 2 "_law_custom" 3 (spK 40 preCus prCus)) : FnOk P w K mg base CX0 3 f fd ["deck", "top"] (spK 40 (fun ds => ds = [.int top]) (prSmT top)) := by
  refine fn_okK F scSm (fun ds h => ?_) (fun p n ds h hn f cdv A outer s H E F0 H0 hr => ?_)
  · rw [h]; rfl
  · subst h
    have nd := scSm.nd
    refine dss_setW 2 nd (P := fun d => ∃ c, d = cuD c ∧ WfC c ∧ ∀ h ∈ c.hands, h.cap ≤ top) (we_imp (we_call (n := n) 0 G1 hr (wa_d (PA1 := fun ds => ds = [.int 4, .int top]) (da_cons de_int (da_cons (de_var 1) da_nil)) rfl) (fun ds h => ⟨4, top, h, by decide, by decide, by omega, by omega⟩) rfl rfl (by omega)) (fun d ⟨ds, e, size, top', c, h1, h2, h3, h4⟩ => ⟨c, h2, h3, by
      rw [e] at h1
      have : top' = top := by
        have h5 := (List.cons.inj (List.cons.inj h1).2).1
        injection h5 with h5
        exact h5.symm
      rw [this] at h4; exact h4⟩)) (OwnLike_deck 0) (fun d hd => ?_)
    obtain ⟨c, rfl, hc, h3⟩ := hd
    have h4 := hc.four
    change DSs _ _ _ _ [.own p (.deck (n + 40)), .dat (.int top), .dat (cuD c), .no, .no, .no, .no, .no] _ _
    refine dss_set 3 nd (d := .int (if c.hands.length < 4 then top else top / 2)) (de_is (de_if (dt_cmp op_lt (de_callB call_len_seq B.len (by decide +kernel) (da_cons (de_ix ix_tup (de_var 2) de_int (v_ixT (by rfl))) da_nil) v_lenT) de_int v_lt) (fun _ => de_var 1) (fun _ => de_op op_fdiv (de_var 1) de_int (v_fdiv ⟨by decide, by decide⟩))) ?_) ?_
    · rw [List.length_map]
      by_cases hl : c.hands.length < 4
      · rw [if_pos hl, decide_eq_true (show (c.hands.length : Int) < 4 by omega), if_pos rfl]
      · rw [if_neg hl, decide_eq_false (show ¬ (c.hands.length : Int) < 4 by omega), if_neg (by decide)]
    refine dss_newl 4 nd fun q => ?_
    let I : Nat → Env' → Prop := fun i ρ => ρ = [.own p (.deck (n + 40)), .dat (.int top), .dat (cuD c), .dat (.int (if c.hands.length < 4 then top else top / 2)), .own q (.lst (((c.hands.take i).map (lessT top c.hands.length)).map haD)), .no, .no, .no]
    refine dss_for I (di_tup (de_ix ix_tup (de_var 2) de_int (v_ixT (by rfl)))) rfl (fun i x ρ' hx hI => ?_) (fun ρ' hI => ?_)
    · subst hI
      rw [List.getElem?_map] at hx
      obtain ⟨h, hh, rfl⟩ := Option.map_eq_some_iff.mp hx
      refine ⟨_, _, dg_tup (dgs_cons (dg_name 5 nd) (dgs_cons (dg_name 6 nd) (dgs_cons (dg_name 7 nd) dgs_nil))), ?_⟩
      refine dss_app 4 (d := haD (lessT top c.hands.length h)) (da_cons (de_is (de_tup (da_cons (de_var 5) (da_cons (de_var 6) (da_cons (de_callB (call_min2 rfl) B.min (by decide +kernel) (da_cons (de_var 7) (da_cons (de_var 3) da_nil)) v_min2) da_nil)))) rfl) da_nil) ?_ ?_
      · rw [List.length_map, List.length_map, List.length_take]
        exact Nat.lt_of_le_of_lt (Nat.min_le_right _ _) (Nat.lt_of_le_of_lt h4 (by decide))
      · refine dss_nilF [5, 6, 7] ?_
        show _ = _
        rw [take_map_succ (lessT top c.hands.length) hh, List.map_append]; rfl
    · have hI' : ρ' = _ := hI
      rw [List.length_map, List.take_length] at hI'
      subst hI'
      refine dss_freezeX 4 0 ?_
      refine dss_ret (d := cuD ⟨c.many, c.first, c.hands.map (lessT top c.hands.length)⟩) (de_is (de_op op_catA (de_sl sl_tupA (de_var 2) do_none (do_some de_int) v_slT) (de_tup (da_cons (de_callTy call_tuple_of B.tuple (by decide +kernel) (da_cons (de_var 4) da_nil) v_tupL) da_nil)) (v_catT (by show 2 + 1 ≤ _; decide))) rfl) ⟨⟨_, rfl, ⟨?_, ?_, hc.many1, ?_, fun k hk => ?_⟩, fun k hk => ?_, fun hl k hk => ?_⟩, _, rfl, deck_mono (by omega)⟩
      · show 2 ≤ (c.hands.map _).length
        rw [List.length_map]; exact hc.two
      · show (c.hands.map _).length ≤ 4
        rw [List.length_map]; exact h4
      · show c.many ≤ ((c.hands.map _).length : Int) - 1
        rw [List.length_map]; exact hc.many2
      · obtain ⟨h, hh, rfl⟩ := List.mem_map.mp hk
        have s := hc.steps h hh
        have h3' := h3 h hh
        refine ⟨s.1, s.2.1, s.2.2.1, s.2.2.2.1, ?_, ?_⟩
        · show 0 ≤ min h.cap (if c.hands.length < 4 then top else top / 2)
          have := s.2.2.2.2.1
          split <;> omega
        · show min h.cap _ ≤ 15
          have := s.2.2.2.2.2
          omega
      · obtain ⟨h, hh, rfl⟩ := List.mem_map.mp hk
        show min h.cap (if c.hands.length < 4 then top else top / 2) ≤ top
        have := h3 h hh
        omega
      · obtain ⟨h, hh, rfl⟩ := List.mem_map.mp hk
        have hl' : (c.hands.map (lessT top c.hands.length)).length = 4 := hl
        rw [List.length_map] at hl'
        show min h.cap (if c.hands.length < 4 then top else top / 2) ≤ top / 2
        rw [hl', if_neg (by decide)]
        omega
end

def prLAll (ds : List PyData) (d : PyData) : Prop := ∃ c, ds = [cuD c] ∧ WfC c ∧ d = .list ((allWs (capsI c)).map wiD)
def nLall : List Str := ["custom", "found", "rise", "fall", "cap", "row", "wishes", "wish"]
theorem scLall : FnScope nLall ["custom"] (defScope S__law_all) := ⟨rfl, rfl, rfl, by decide +kernel, rfl, by decide +kernel, by decide +kernel⟩
section
variable {P : Program} {w : World} {K : PySem.W.Frag} {mg : Str → Option Value} {base : Heap}
theorem ok__law_all {f : Addr} {fd : FuncData} (F : Fun K "_law_all" "_law_all" S__law_all f fd) (B : Bn mg) : FnOk P w K mg base CX0 1 f fd ["custom"] (spP prLAll) := by
  refine fn_ok F scLall (fun ds d h => ?_) (fun ds d h f cdv A outer s H E F0 H0 hr => ?_)
  · obtain ⟨c, rfl, _⟩ := h; rfl
  · obtain ⟨c, rfl, hc, rfl⟩ := h
    have nd := scLall.nd
    have co := capsOk_of hc
    refine dss_set 1 nd (d := .list ((allWs []).map wiD)) (de_lst (da_cons (de_tup da_nil) da_nil)) ?_
    let I : Nat → Env' → Prop := fun i ρ => ρ = [.dat (cuD c), .dat (.list ((allWs ((capsI c).take i)).map wiD)), .no, .no, .no, .no, .no, .no]
    refine dss_for I (di_tup (de_ix ix_tup (de_var 0) de_int (v_ixT (by rfl)))) rfl (fun i x ρ' hx hI => ?_) (fun ρ' hI => ?_)
    · subst hI
      rw [List.getElem?_map] at hx
      obtain ⟨h, hh, rfl⟩ := Option.map_eq_some_iff.mp hx
      have hcap : (capsI c)[i]? = some h.cap := by unfold capsI; rw [List.getElem?_map, hh]; rfl
      have hcm := co.2 h.cap (List.mem_of_getElem? hcap)
      have e : allWs ((capsI c).take (i + 1)) = allStep (allWs ((capsI c).take i)) h.cap := foldl_take _ _ hcap
      have hb1 := allWs_bound (take_capsOk co (i + 1))
      have hb0 := allWs_bound (take_capsOk co i)
      have hlen : ∀ v ∈ allWs ((capsI c).take i), v.length ≤ 4 := fun v hv => allWs_each co i v hv
      generalize hW : allWs ((capsI c).take i) = W at e hlen hb0 ⊢
      refine ⟨_, _, dg_tup (dgs_cons (dg_name 2 nd) (dgs_cons (dg_name 3 nd) (dgs_cons (dg_name 4 nd) dgs_nil))), ?_⟩
      change DSs _ _ _ _ [.dat (cuD c), .dat (.list (W.map wiD)), .dat (.int h.rise), .dat (.int h.fall), .dat (.int h.cap), .no, .no, .no] _ _
      refine dss_set 5 nd (d := .list ((allStep (W.take 0) h.cap).map wiD)) (de_lst da_nil) ?_
      let J : Nat → Env' → Prop := fun k ρ => ρ = [.dat (cuD c), .dat (.list (W.map wiD)), .dat (.int h.rise), .dat (.int h.fall), .dat (.int h.cap), .dat (.list ((allStep (W.take k) h.cap).map wiD)), .no, .no]
      refine dss_for J (di_list (de_var 1)) rfl (fun k x ρ' hx hJ => ?_) (fun ρ' hJ => ?_)
      · subst hJ
        rw [List.getElem?_map] at hx
        obtain ⟨v, hv, rfl⟩ := Option.map_eq_some_iff.mp hx
        have hvl := hlen v (List.mem_of_getElem? hv)
        refine ⟨_, _, dg_name 6 nd, ?_⟩
        change DSs _ _ _ _ [.dat (cuD c), .dat (.list (W.map wiD)), .dat (.int h.rise), .dat (.int h.fall), .dat (.int h.cap), .dat (.list ((allStep (W.take k) h.cap).map wiD)), .dat (wiD v), .no] _ _
        have take1 : W.take (k + 1) = W.take k ++ [v] := by
          have := take_map_succ (fun x : List Int => x) hv
          simpa using this
        have estep : allStep (W.take (k + 1)) h.cap = allStep (W.take k) h.cap ++ (List.range (h.cap + 1).toNat).map (fun (j : Nat) => v ++ [(j : Int)]) := by
          rw [take1]; unfold allStep; rw [List.flatMap_append]; simp
        have hsz : (allStep (W.take k) h.cap).length ≤ 65536 * 16 := by
          refine Nat.le_trans (allStep_le _ _ hcm.1 hcm.2) (Nat.mul_le_mul_right _ ?_)
          rw [List.length_take]; omega
        have hsz2 : (allStep (W.take k) h.cap).length ≤ 65536 := by
          have h1 : (allStep W h.cap).length = (allStep (W.take k) h.cap).length + (allStep (W.drop k) h.cap).length := by
            conv => lhs; rw [← List.take_append_drop k W]
            unfold allStep
            rw [List.flatMap_append, List.length_append]
          rw [← e] at h1
          omega
        refine dss_set 5 nd (d := .list ((allStep (W.take (k + 1)) h.cap).map wiD)) (de_is (de_op op_cat (de_var 5) (de_lc (xs := List.range (h.cap + 1).toNat) (enc := fun (j : Nat) => .int (j : Int)) (own := [("wish", 7)]) _ (fun _ => true) (fun (j : Nat) => wiD (v ++ [(j : Int)])) [7] rfl nd (blkOk_by (N := nLall) (sc := defScope S__law_all) (by decide +kernel))
            (by
              rw [show (List.range (h.cap + 1).toNat).map (fun (j : Nat) => PyData.int (j : Int)) = rngD 0 (h.cap + 1).toNat by simp [rngD]]
              exact di_range1 (da_cons (de_op op_add (de_var 4) de_int v_add) da_nil) B.range ⟨by omega, by omega⟩)
            (fun j _ _ _ _ _ _ => dg_name 7 nd)
            (fun _ _ _ _ _ _ _ => pts_none)
            (fun j _ _ _ _ _ _ _ => de_is (de_op op_catA (de_var 6) (de_tup (da_cons (de_var 7) da_nil)) (v_catT (by
              rw [List.length_map, List.length_singleton]; omega))) (by unfold wiD; rw [List.map_append]; rfl))
            (by decide) (small64 (by rw [List.length_range]; omega))) (v_catL4 (by
              rw [List.length_map, List.length_map, filter_tt, List.length_range]; omega))) (by rw [estep, List.map_append, filter_tt, List.map_map]; rfl)) (dss_nilF [6, 7] rfl)
      · have hJ' : ρ' = _ := hJ
        rw [List.length_map, List.take_length] at hJ'
        subst hJ'
        refine dss_set 1 nd (de_var 5) (dss_nilF [2, 3, 4, 5] ?_)
        show _ = _
        rw [e]; rfl
    · have hI' : ρ' = _ := hI
      rw [List.length_map, show (capsI c).take c.hands.length = capsI c by unfold capsI; rw [← List.length_map (f := fun h : Hand => h.cap), List.take_length]] at hI'
      subst hI'
      exact dss_ret (de_var 1) rfl
end

/-! ## _law_line, _law_lacks, _law_starving -/
theorem long_snd {hand : Int} : ∀ (D : List (List Int)) (b b' h : Int), (D.foldl (longStep hand) (b, h)).2 = (D.foldl (longStep hand) (b', h)).2
  | [], _, _, _ => rfl
  | x :: D, b, b', h => by
    rw [List.foldl_cons, List.foldl_cons]
    exact long_snd D _ _ _
theorem long_end {hand : Int} : ∀ (D : List (List Int)), (∃ x ∈ D, hand ∈ x) → ∀ b h b' h' : Int, (D.foldl (longStep hand) (b, h)).2 = (D.foldl (longStep hand) (b', h')).2
  | [], hx, _, _, _, _ => by obtain ⟨x, hx, _⟩ := hx; cases hx
  | x :: D, hx, b, h, b', h' => by
    rw [List.foldl_cons, List.foldl_cons]
    by_cases hm : hand ∈ x
    · have e1 : longStep hand (b, h) x = (max b 0, 0) := by unfold longStep; simp [hm]
      have e2 : longStep hand (b', h') x = (max b' 0, 0) := by unfold longStep; simp [hm]
      rw [e1, e2]
      exact long_snd D _ _ _
    · obtain ⟨y, hy, hy2⟩ := hx
      rcases List.mem_cons.mp hy with rfl | hy
      · exact absurd hy2 hm
      · exact long_end D ⟨y, hy, hy2⟩ _ _ _ _
theorem long_max {hand : Int} : ∀ (D : List (List Int)) (b h : Int), 0 ≤ b → 0 ≤ h → (D.foldl (longStep hand) (b, h)).1 = max b (D.foldl (longStep hand) (0, h)).1
  | [], b, h, hb, _ => by show b = max b 0; omega
  | x :: D, b, h, hb, hh => by
    rw [List.foldl_cons, List.foldl_cons]
    by_cases hm : hand ∈ x
    · have e1 : longStep hand (b, h) x = (max b 0, 0) := by unfold longStep; simp [hm]
      have e2 : longStep hand (0, h) x = (0, 0) := by unfold longStep; simp [hm]
      rw [e1, e2, show max b 0 = b by omega]
      exact long_max D b 0 hb (by omega)
    · have e1 : longStep hand (b, h) x = (max b (h + 1), h + 1) := by unfold longStep; simp [hm]
      have e2 : longStep hand (0, h) x = (h + 1, h + 1) := by
        unfold longStep; simp [hm]; omega
      rw [e1, e2, long_max D (max b (h + 1)) (h + 1) (by omega) (by omega), long_max D (h + 1) (h + 1) (by omega) (by omega)]
      omega
theorem long_nn {hand : Int} : ∀ (D : List (List Int)) (b h : Int), 0 ≤ b → 0 ≤ h → 0 ≤ (D.foldl (longStep hand) (b, h)).1 ∧ 0 ≤ (D.foldl (longStep hand) (b, h)).2
  | [], b, h, hb, hh => ⟨hb, hh⟩
  | x :: D, b, h, hb, hh => by
    rw [List.foldl_cons]
    have : 0 ≤ (longStep hand (b, h) x).1 ∧ 0 ≤ (longStep hand (b, h) x).2 := by
      unfold longStep
      by_cases hm : hand ∈ x <;> simp [hm] <;> omega
    exact long_nn D _ _ this.1 this.2
/-- a third round brings nothing longer -/
theorem long_more {rs : List (List Int)} {i : Nat} {hand : Int} (h : ∃ x ∈ rs.drop i, hand ∈ x) : longI (rs ++ rs.drop i ++ rs.drop i) hand = longI (rs ++ rs.drop i) hand := by
  unfold longI
  rw [List.foldl_append, List.foldl_append]
  generalize hD : rs.drop i = D at h ⊢
  have hs : rs = rs.take i ++ D := by rw [← hD]; exact (List.take_append_drop i rs).symm
  have n0 := long_nn (hand := hand) rs 0 0 (by omega) (by omega)
  have e0 : (rs.foldl (longStep hand) (0, 0)).2 = (D.foldl (longStep hand) (0, 0)).2 := by
    conv => lhs; rw [hs]
    rw [List.foldl_append]
    exact long_end D h _ _ _ _
  generalize hS : rs.foldl (longStep hand) (0, 0) = S0 at n0 e0 ⊢
  obtain ⟨b0, h0⟩ := S0
  have n1 := long_nn (hand := hand) D b0 h0 n0.1 n0.2
  have e1 : (D.foldl (longStep hand) (b0, h0)).2 = h0 := by
    have : h0 = (D.foldl (longStep hand) (0, 0)).2 := e0
    rw [this]
    exact long_end D h _ _ _ _
  have m1 := long_max (hand := hand) D b0 h0 n0.1 n0.2
  generalize hS1 : D.foldl (longStep hand) (b0, h0) = S1 at n1 e1 m1 ⊢
  obtain ⟨b1, h1⟩ := S1
  have e1' : h1 = h0 := e1
  subst e1'
  have m2 := long_max (hand := hand) D b1 h1 n1.1 n1.2
  rw [m2]
  have m1' : b1 = max b0 (D.foldl (longStep hand) (0, h1)).1 := m1
  show max b1 _ = b1
  omega
def prLine (ds : List PyData) (d : PyData) : Prop := ∃ c ws i n, ds = [cuD c, wiD ws] ∧ WfC c ∧ WfW c ws ∧ Round c ws i n ∧ d = .tuple [.list ((rowN c ws n).map wiD), .int (i : Int)]
def nLine : List Str := ["custom", "wishes", "known", "row", "had"]
theorem scLine : FnScope nLine ["custom", "wishes"] (defScope S__law_line) := ⟨rfl, rfl, rfl, by decide +kernel, rfl, by decide +kernel, by decide +kernel⟩
section
variable {P : Program} {w : World} {K : PySem.W.Frag} {mg : Str → Option Value} {base : Heap}
theorem ok__law_line {f : Addr} {fd : FuncData} (F : Fun K "_law_line" "_law_line" S__law_line f fd) (B : Bn mg) (G1 : Cal P w K mg base 2 "_law_after" 2 (spP prOne)) : FnOk P w K mg base CX0 3 f fd ["custom", "wishes"] (spP prLine) := by
  refine fn_ok F scLine (fun ds d h => ?_) (fun ds d h f cdv A outer s H E F0 H0 hr => ?_)
  · obtain ⟨c, ws, i, n, rfl, _⟩ := h; rfl
  · obtain ⟨c, ws, i, n, rfl, hc, hw, hR, rfl⟩ := h
    have nd := scLine.nd
    have hu : (Bod P w K mg base nLine "_law_line" S__law_line f cdv A outer s H E).A.units + 1 < cLine := by have := hr.un; omega
    refine dss_newD 2 nd fun dd => ?_
    refine dss_newl 3 nd fun p => ?_
    let st : Nat → Env' := fun k => [.dat (cuD c), .dat (wiD (wAt c ws k)), .own dd (.dct (dctN c ws k)), .own p (.lst ((rowN c ws k).map wiD)), .no]
    let W : Nat → Env' → Prop := fun m ρ => ∃ k, m = 65537 - k ∧ (∀ j l, j < l → l < k → wAt c ws j ≠ wAt c ws l) ∧ ρ = st k
    refine dss_while W (fun ρ => ρ = st n) 65537 ⟨0, rfl, fun j l _ h => by omega, rfl⟩ (fun m ρ' hW => ?_) (fun ρ' hI => ?_)
    · obtain ⟨k, rfl, hd, rfl⟩ := hW
      refine ⟨_, dt_notinD 2 rfl hu (de_var 1), fun hx => ?_, fun hx => ?_⟩
      · have hnone : valV (dctN c ws k) (wKey (wAt c ws k)) = none := by
          cases z : valV (dctN c ws k) (wKey (wAt c ws k)) with
          | none => rfl
          | some v => rw [z] at hx; cases hx
        have hdk : ∀ j, j < k → wAt c ws j ≠ wAt c ws k := fun j hj z => by
          have := dctN_some hj hd
          rw [z, hnone] at this; cases this
        have hd1 : ∀ j l, j < l → l < k + 1 → wAt c ws j ≠ wAt c ws l := fun j l h1 h2 => by
          by_cases hl : l = k
          · subst hl; exact hdk j h1
          · exact hd j l h1 (by omega)
        have hb := distinct_bound hc hw hd1
        refine dss_putD 2 (n := (k : Int)) rfl hu (de_is (de_peek 3 rfl (de_callB call_len_seq B.len (by decide +kernel) (da_cons (de_var 3) da_nil) v_lenL)) (by rw [List.length_map, rowN_len])) (de_var 1) (by rw [dctN_len]; exact Nat.lt_of_lt_of_le (show k < 65536 by omega) (by decide)) ?_
        rw [dctN_put hdk]
        refine dss_asg (de_call (d := oneD c (wAt c ws k)) G1 hr (da_cons (de_var 0) (da_cons (de_var 1) da_nil)) ⟨c, wAt c ws k, rfl, hc, wf_at hc hw k, rfl⟩) (dg_tup (dgs_cons (dg_name 4 nd) (dgs_cons (dg_name 1 nd) dgs_nil))) ?_
        refine dss_app 3 (da_cons (de_var 4) da_nil) ?_ ?_
        · rw [List.length_map, rowN_len]
          exact Nat.lt_of_lt_of_le (show k < 65536 by omega) (by decide)
        refine dss_nilF [4] ⟨65537 - (k + 1), by omega, k + 1, rfl, hd1, ?_⟩
        show _ = [_, _, _, _, _]
        rw [rowN_succ, List.map_append]
        rfl
      · have hsome : (valV (dctN c ws k) (wKey (wAt c ws k))).isSome = true := by
          cases z : (valV (dctN c ws k) (wKey (wAt c ws k))).isSome with
          | true => rfl
          | false => rw [z] at hx; cases hx
        obtain ⟨i', hi, he⟩ := dctN_is hsome
        obtain ⟨_, rfl⟩ := hR.inj ⟨hd, hi, he⟩
        rfl
    · have hI' : ρ' = [.dat (cuD c), .dat (wiD (wAt c ws n)), .own dd (.dct (dctN c ws n)), .own p (.lst ((rowN c ws n).map wiD)), .no] := hI
      subst hI'
      have hget : valV (dctN c ws n) (wKey (wAt c ws n)) = some (.int (i : Int)) := by rw [← hR.again]; exact dctN_some hR.lt hR.dist
      refine dss_freeze 3 ?_
      exact dss_ret (de_tup (da_cons (de_var 3) (da_cons (de_getD 2 (n := (i : Int)) rfl hu (de_var 1) hget) da_nil))) rfl
def nLlk : List Str := ["custom", "wishes", "row", "first", "every", "found", "hand", "best", "here", "had", "has"]
theorem scLlk : FnScope nLlk ["custom", "wishes"] (defScope S__law_lacks) := ⟨rfl, rfl, rfl, by decide +kernel, rfl, by decide +kernel, by decide +kernel⟩
theorem ok__law_lacks {f : Addr} {fd : FuncData} (F : Fun K "_law_lacks" "_law_lacks" S__law_lacks f fd) (B : Bn mg) (G1 : Cal P w K mg base 3 "_law_line" 2 (spP prLine)) : FnOk P w K mg base CX0 4 f fd ["custom", "wishes"] (spP prLacks) := by
  refine fn_ok F scLlk (fun ds d h => ?_) (fun ds d h f cdv A outer s H E F0 H0 hr => ?_)
  · obtain ⟨c, ws, i, n, rfl, _⟩ := h; rfl
  · obtain ⟨c, ws, i, n, rfl, hc, hw, hR, rfl⟩ := h
    have nd := scLlk.nd
    have hun : (Bod P w K mg base nLlk "_law_lacks" S__law_lacks f cdv A outer s H E).A.units + 64 < cLine := by have := hr.un; omega
    have hle := hR.le hc hw
    have hlt := hR.lt
    have h4 := hc.four
    have hwl := hw.len
    unfold lacksD
    generalize hrs : rowN c ws n = rs
    have hrl : rs.length = n := by rw [← hrs, rowN_len]
    refine dss_asg (de_call (d := .tuple [.list (rs.map wiD), .int (i : Int)]) G1 hr (da_cons (de_var 0) (da_cons (de_var 1) da_nil)) ⟨c, ws, i, n, rfl, hc, hw, hR, by rw [hrs]⟩) (dg_tup (dgs_cons (dg_name 2 nd) (dgs_cons (dg_name 3 nd) dgs_nil))) ?_
    change DSs _ _ _ _ [.dat (cuD c), .dat (wiD ws), .dat (.list (rs.map wiD)), .dat (.int (i : Int)), .no, .no, .no, .no, .no, .no, .no] _ _
    have hrow : ∀ {ρ : Env'} {p1 p2 p3 p4 : Pos} , ρ[2]? = some (.dat (.list (rs.map wiD))) → ρ[3]? = some (.dat (.int (i : Int))) → DE (Bod P w K mg base nLlk "_law_lacks" S__law_lacks f cdv A outer s H E) ρ (.Subscript (.Name "row" p1) (.Slice (some (.Name "first" p2)) none none p3) p4) (.list ((rs.drop i).map wiD)) := fun {ρ p1 p2 p3 p4} h2 h4 =>
      de_is (de_sl sl_list (de_var 2 (h := h2)) (do_some (de_var 3 (h := h4))) do_none v_slL) (congrArg PyData.list (cutD_drop wiD _ i (by omega)))
    have hdl : (rs.drop i).length ≤ n := by rw [List.length_drop]; omega
    generalize hev : rs ++ rs.drop i ++ rs.drop i = ev
    refine dss_set 4 nd (d := .list (ev.map wiD)) (de_is (de_op op_cat (de_op op_cat (de_var 2) (hrow rfl rfl) (v_cat (by rw [List.length_map, List.length_map]; omega))) (hrow rfl rfl) (v_cat (by rw [List.length_append, List.length_map, List.length_map]; omega))) (by rw [← hev, List.map_append, List.map_append])) ?_
    refine dss_newl 5 nd fun p => ?_
    let I : Nat → Env' → Prop := fun k ρ => ρ = [.dat (cuD c), .dat (wiD ws), .dat (.list (rs.map wiD)), .dat (.int (i : Int)), .dat (.list (ev.map wiD)), .own p (.lst ((List.range k).map fun (h : Nat) => lackD rs i (h : Int))), .no, .no, .no, .no, .no]
    refine dss_for I (di_range1 (da_cons (de_callB call_len_seq B.len (by decide +kernel) (da_cons (de_var 1) da_nil) v_lenT) da_nil) B.range ⟨by omega, by rw [List.length_map]; omega⟩) rfl (fun k x ρ' hx hI => ?_) (fun ρ' hI => ?_)
    · subst hI
      obtain ⟨hk, rfl⟩ := rngD_get hx
      rw [List.length_map, Int.toNat_natCast] at hk
      rw [Int.zero_add]
      refine ⟨_, _, dg_name 6 nd, ?_⟩
      change DSs _ _ _ _ [.dat (cuD c), .dat (wiD ws), .dat (.list (rs.map wiD)), .dat (.int (i : Int)), .dat (.list (ev.map wiD)), .own p (.lst ((List.range k).map fun (h : Nat) => lackD rs i (h : Int))), .dat (.int (k : Int)), .no, .no, .no, .no] _ _
      refine dss_asg (de_tup (da_cons de_int (da_cons de_int da_nil))) (dg_tup (dgs_cons (dg_name 7 nd) (dgs_cons (dg_name 8 nd) dgs_nil))) ?_
      let J : Nat → Env' → Prop := fun j ρ => ρ = [.dat (cuD c), .dat (wiD ws), .dat (.list (rs.map wiD)), .dat (.int (i : Int)), .dat (.list (ev.map wiD)), .own p (.lst ((List.range k).map fun (h : Nat) => lackD rs i (h : Int))), .dat (.int (k : Int)), .dat (.int ((ev.take j).foldl (longStep (k : Int)) (0, 0)).1), .dat (.int ((ev.take j).foldl (longStep (k : Int)) (0, 0)).2), .no, .no]
      refine dss_for J (di_list (de_var 4)) rfl (fun j x ρ' hx hJ => ?_) (fun ρ' hJ => ?_)
      · subst hJ
        rw [List.getElem?_map] at hx
        obtain ⟨h, hh, rfl⟩ := Option.map_eq_some_iff.mp hx
        refine ⟨_, _, dg_name 9 nd, ?_⟩
        have e : ev.take (j + 1) = ev.take j ++ [h] := by
          have := take_map_succ (fun x : List Int => x) hh
          simpa using this
        generalize hs : (ev.take j).foldl (longStep (k : Int)) (0, 0) = st
        change DSs _ _ _ _ [.dat (cuD c), .dat (wiD ws), .dat (.list (rs.map wiD)), .dat (.int (i : Int)), .dat (.list (ev.map wiD)), .own p (.lst ((List.range k).map fun (h : Nat) => lackD rs i (h : Int))), .dat (.int (k : Int)), .dat (.int st.1), .dat (.int st.2), .dat (wiD h), .no] _ _
        refine dss_set 8 nd (d := .int (if (k : Int) ∈ h then 0 else st.2 + 1)) (de_is (de_if (dt_cmp op_in_seq (de_var 6) (de_var 9) v_inI) (fun _ => de_int) (fun _ => de_op op_add (de_var 8) de_int v_add)) ?_) ?_
        · by_cases hm : (k : Int) ∈ h
          · rw [if_pos (decide_eq_true hm), if_pos hm]
          · rw [decide_eq_false hm, if_neg (by decide), if_neg hm]
        refine dss_set 7 nd (de_callB (call_max2 rfl) B.max (by decide +kernel) (da_cons (de_var 7) (da_cons (de_var 8) da_nil)) v_max2) (dss_nilF [9] ?_)
        show _ = _
        rw [e, List.foldl_append, hs]; rfl
      · have hJ' : ρ' = _ := hJ
        rw [List.length_map, List.take_length] at hJ'
        subst hJ'
        have hlE : (ev.foldl (longStep (k : Int)) (0, 0)).1 = longI ev (k : Int) := rfl
        rw [hlE]
        generalize (ev.foldl (longStep (k : Int)) (0, 0)).2 = st2
        change DSs _ _ _ _ [.dat (cuD c), .dat (wiD ws), .dat (.list (rs.map wiD)), .dat (.int (i : Int)), .dat (.list (ev.map wiD)), .own p (.lst ((List.range k).map fun (h : Nat) => lackD rs i (h : Int))), .dat (.int (k : Int)), .dat (.int (longI ev (k : Int))), .dat (.int st2), .no, .no] _ _
        obtain ⟨anyB, hany⟩ : ∃ b, ((rs.drop i).map fun h => decide ((k : Int) ∈ h)).any id = b := ⟨_, rfl⟩
        have hne : (!PyData.eqv (.list (((rs.drop i).filter fun h => decide ((k : Int) ∈ h)).map wiD)) (.list [])) = anyB := by
          rw [← hany]
          generalize rs.drop i = D
          induction D with
          | nil => rfl
          | cons x D ih =>
            by_cases hm : (k : Int) ∈ x
            · rw [List.filter_cons_of_pos (by simpa using hm)]
              simp [hm]
              rfl
            · rw [List.filter_cons_of_neg (by simpa using hm), ih]
              simp [hm]
        refine dss_set 10 nd (d := .bool anyB) (de_is (de_cmp (op_neD hun) (de_lc (xs := rs.drop i) (enc := wiD) (own := [("had", 9)]) _ (fun h => decide ((k : Int) ∈ h)) (fun h => wiD h) [9] rfl nd (blkOk_by (N := nLlk) (sc := defScope S__law_lacks) (by decide +kernel))
          (di_list (hrow rfl rfl))
          (fun h _ _ _ _ _ _ => dg_name 9 nd)
          (fun h _ _ _ _ _ _ => pts_1 (dt_cmp op_in_seq (de_var 6) (de_var 9) v_inI))
          (fun h _ _ _ _ _ _ _ => de_var 9)
          (by decide) (Nat.le_trans hdl (Nat.le_trans hle (by decide)))) (de_lst da_nil) (v_neD ((lay_rows _).shaped (by decide)) ((Lay.list (n := 0) (ds := []) (fun d hd => by cases hd)).shaped (by decide)))) (by rw [hne])) ?_
        have hlen5 : ((List.range k).map fun (h : Nat) => lackD rs i (h : Int)).length < sizeLine := by
          rw [List.length_map, List.length_range]
          exact Nat.lt_of_lt_of_le (show k < 64 by omega) (by decide)
        refine dss_app 5 (d := lackD rs i (k : Int)) (da_cons (de_is (de_if (dt_val (de_var 10)) (fun _ => de_var 7) (fun _ => de_non)) ?_) da_nil) hlen5 (dss_nilF [6, 7, 8, 9, 10] ?_)
        · unfold lackD
          rw [hany]
          cases anyB with
          | true =>
            have hex : ∃ x ∈ rs.drop i, (k : Int) ∈ x := by
              rw [List.any_map, List.any_eq_true] at hany
              obtain ⟨x, h1, h2⟩ := hany
              exact ⟨x, h1, by simpa using h2⟩
            rw [if_pos rfl, if_pos rfl, ← hev, long_more hex]
          | false => rw [if_neg (by decide), if_neg (by decide)]
        · show _ = _
          rw [List.range_succ, List.map_append]; rfl
    · have hl2 : (rngD 0 (((ws.map PyData.int).length : Int)).toNat).length = c.hands.length := by simp [rngD, hwl]
      have hI' : ρ' = _ := hI
      rw [hl2] at hI'
      subst hI'
      exact dss_freeze 5 (dss_ret (de_var 5) rfl)
end

/-! ## _law_starving -/
/-- l.index(None) -/
theorem de_indexN {X : Cx} {ρ : Env'} {o e : Expr} {apos pos : Pos} {ds : List PyData} {j : Nat} (ho : DE X ρ o (.list ds)) (he : DE X ρ e .none) (hf : ds.all flatD = true) (hj : ds[j]? = some .none) (hn : ∀ m, m < j → ds[m]? ≠ some .none)
    (hbase : attributeBase o "index" X.env (eval o X.env) = eval o X.env := by rfl)
    (hfew : ((backTo pos (starEach [e] X.env)).all (fun x => !x.1) && (backToKw pos (keywordEach [] X.env)).all (fun x => x.1.isSome) && decide (([e] : List Expr).length + ([] : List Keyword).length + (if ([] : List Keyword).isEmpty then 0 else 1) < 30)) = true := by rfl)
    (hline : (apos.endLine == pos.line) = true := by rfl) (hst : starEach [e] X.env = (false, eval e X.env) :: starEach [] X.env := by rfl) (hpl : (backTo pos (starEach [] X.env)).any (·.1) = false := by rfl) :
    DE X ρ (.Call (.Attribute o "index" apos) [e] [] pos) (.int (j : Int)) :=
  PE.imp (pe_bm PySem.F.plainAttrs_list PySem.F.slot_list_index PySem.F.type_list_index mt_index ho (pa_cons he pa_nil hst) hbase hfew hline hst hpl) fun σ H Q ⟨F, ok, k⟩ => ⟨F, ok, fun v F2 H2 g r => by
    obtain ⟨a, xs, rfl, h1, r1⟩ := r.lst_inv
    obtain ⟨e1, e2⟩ := r1.vDs hf
    subst e1
    refine ⟨.inl ⟨rfl, _, SqL.of (g.s _ _ h1)⟩, F2, ok.grow g, fun u F3 H3 g3 r3 => ?_⟩
    obtain rfl := r3.non_inv
    refine ⟨a, _, .non, j, .non, rfl, rfl, SqL.of (g3.s _ _ (g3.f _ _ h1)), rfl, e2, by rw [List.getElem?_map, hj]; rfl, rfl, fun m z' hm hz => ?_, k _ F3 H3 (g.trans g3) (.int _)⟩
    rw [List.getElem?_map] at hz
    obtain ⟨d, hd, rfl⟩ := Option.map_eq_some_iff.mp hz
    have hdf : flatD d = true := List.all_eq_true.mp hf d (List.mem_of_getElem? hd)
    have hdn : d ≠ .none := fun z => hn m hm (by rw [hd, z])
    cases d with
    | none => exact absurd rfl hdn
    | bool b => rfl
    | int i => rfl
    | str s => rfl
    | list _ => cases hdf
    | tuple _ => cases hdf
    | dict _ => cases hdf⟩
theorem inD_none (ds : List PyData) (hf : ds.all flatD = true) : inD .none ds = ds.any isNoneD := by
  unfold inD inV
  rw [List.any_map]
  induction ds with
  | nil => rfl
  | cons d ds ih =>
    have h' : flatD d = true ∧ ds.all flatD = true := by rw [List.all_cons] at hf; exact Bool.and_eq_true_iff.mp hf
    rw [List.any_cons, List.any_cons, ih h'.2]
    congr 1
    cases d with
    | none => rfl
    | bool b => rfl
    | int i => rfl
    | str s => rfl
    | list _ => cases h'.1
    | tuple _ => cases h'.1
    | dict _ => cases h'.1
theorem lackD_flat (rs : List (List Int)) (i m : Nat) : ((List.range m).map fun (h : Nat) => lackD rs i (h : Int)).all flatD = true := by
  rw [List.all_eq_true]
  intro d hd
  obtain ⟨h, _, rfl⟩ := List.mem_map.mp hd
  unfold lackD
  split <;> rfl
theorem lackD_none {rs : List (List Int)} {i : Nat} {h : Int} : isNoneD (lackD rs i h) = !hasR rs i h := by
  unfold lackD hasR
  cases hb : ((rs.drop i).map fun x => decide (h ∈ x)).any id with
  | true => rw [if_pos rfl]; rfl
  | false => rw [if_neg (by decide)]; rfl
theorem isNone_eq {d : PyData} : isNoneD d = true ↔ d = .none := by cases d <;> simp [isNoneD]
theorem any_range_find {m : Nat} {p : Nat → Bool} : ((List.range m).any p = true → ∃ j, (List.range m).find? p = some j ∧ j < m ∧ p j = true ∧ ∀ k, k < j → p k = false) ∧ ((List.range m).any p = false → (List.range m).find? p = none) := by
  induction m with
  | zero => exact ⟨fun h => by simp at h, fun _ => rfl⟩
  | succ m ih =>
    rw [List.range_succ, List.any_append, List.find?_append]
    constructor
    · intro h
      cases ha : (List.range m).any p with
      | true =>
        obtain ⟨j, h1, h2, h3, h4⟩ := ih.1 ha
        exact ⟨j, by rw [h1]; rfl, by omega, h3, h4⟩
      | false =>
        rw [ha] at h
        have hp : p m = true := by simpa using h
        refine ⟨m, by rw [ih.2 ha]; simp [hp], by omega, hp, fun k hk => ?_⟩
        have := List.any_eq_false.mp ha k (List.mem_range.mpr hk)
        simpa using this
    · intro h
      rw [Bool.or_eq_false_iff] at h
      rw [ih.2 h.1]
      have : p m = false := by simpa using h.2
      simp [this]
def prLSt (ds : List PyData) (d : PyData) : Prop := ∃ c, ds = [cuD c] ∧ WfC c ∧ d = stD (firstSt c)
def nLst : List Str := ["custom", "wishes", "told"]
theorem scLst : FnScope nLst ["custom"] (defScope S__law_starving) := ⟨rfl, rfl, rfl, by decide +kernel, rfl, by decide +kernel, by decide +kernel⟩
section
variable {P : Program} {w : World} {K : PySem.W.Frag} {mg : Str → Option Value} {base : Heap}
theorem ok__law_starving {f : Addr} {fd : FuncData} (F : Fun K "_law_starving" "_law_starving" S__law_starving f fd) (B : Bn mg) (G0 : Cal P w K mg base 1 "_law_all" 1 (spP prLAll)) (G1 : Cal P w K mg base 4 "_law_lacks" 2 (spP prLacks)) : FnOk P w K mg base CX0 5 f fd ["custom"] (spP prLSt) := by
  refine fn_ok F scLst (fun ds d h => ?_) (fun ds d h f cdv A outer s H E F0 H0 hr => ?_)
  · obtain ⟨c, rfl, _⟩ := h; rfl
  · obtain ⟨c, rfl, hc, rfl⟩ := h
    have nd := scLst.nd
    have hr1 := hr.mono (show 1 ≤ 4 by decide)
    generalize hW : allWs (capsI c) = W
    let I : Nat → Env' → Prop := fun i ρ => (W.take i).findSome? (stOne c) = none ∧ ρ = [.dat (cuD c), .no, .no]
    refine dss_for I (di_list (ds := W.map wiD) (de_call (d := .list ((allWs (capsI c)).map wiD)) G0 hr1 (da_cons (de_var 0) da_nil) ⟨c, rfl, hc, rfl⟩ |> fun h => de_is h (by rw [hW]))) ⟨rfl, rfl⟩ (fun i x ρ' hx hI => ?_) (fun ρ' hI => ?_)
    · obtain ⟨hno, rfl⟩ := hI
      rw [List.getElem?_map] at hx
      obtain ⟨ws, hws, rfl⟩ := Option.map_eq_some_iff.mp hx
      have hw : WfW c ws := mem_wf.mp (by rw [hW]; exact List.mem_of_getElem? hws)
      obtain ⟨i', n, hR⟩ := round_ex hc hw
      have hrn := rnd_of hR
      have take1 : W.take (i + 1) = W.take i ++ [ws] := by
        have := take_map_succ (fun x : List Int => x) hws
        simpa using this
      refine ⟨_, _, dg_name 1 nd, ?_⟩
      generalize hrs : rowN c ws n = rs
      have hhas : ∀ h : Nat, hasH c ws (h : Int) = hasR rs i' (h : Int) := fun h => by
        unfold hasH; rw [hrn, hrs]
      generalize hls : ((List.range c.hands.length).map fun (h : Nat) => lackD rs i' (h : Int)) = ls
      have hfl : ls.all flatD = true := by rw [← hls]; exact lackD_flat rs i' _
      have hany : ls.any isNoneD = (List.range c.hands.length).any fun (h : Nat) => !hasH c ws (h : Int) := by
        rw [← hls, List.any_map]
        congr 1
        funext h
        show isNoneD (lackD rs i' (h : Int)) = _
        rw [lackD_none, hhas]
      refine dss_set 2 nd (d := .list ls) (de_call G1 hr (da_cons (de_var 0) (da_cons (de_var 1) da_nil)) ⟨c, ws, i', n, rfl, hc, hw, hR, by unfold lacksD; rw [hrs, hls]⟩) ?_
      refine dss_ifx (x := ls.any isNoneD) (dt_is (dt_cmp op_in_seq de_non (de_var 2) (v_inL rfl hfl)) (by rw [if_neg (by decide), inD_none ls hfl])) (fun hx => ?_) (fun hx => ?_)
      · rw [hany] at hx
        obtain ⟨j, h1, h2, h3, h4⟩ := any_range_find.1 hx
        have hat : ∀ m, m < c.hands.length → ls[m]? = some (lackD rs i' (m : Int)) := fun m hm => by
          rw [← hls, List.getElem?_map, List.getElem?_range hm]; rfl
        refine dss_ret (de_tup (da_cons (de_var 1) (da_cons (de_indexN (j := j) (de_var 2) de_non hfl ?_ (fun m hm => ?_)) da_nil))) ?_
        · rw [hat j h2]
          congr 1
          refine isNone_eq.mp ?_
          rw [lackD_none, ← hhas]; exact h3
        · rw [hat m (by omega)]
          intro z
          have := isNone_eq.mpr (Option.some.inj z)
          rw [lackD_none, ← hhas, h4 m hm] at this
          cases this
        · have e1 : stOne c ws = some (ws, j) := by
            unfold stOne
            rw [h1]; rfl
          have e2 : firstSt c = some (ws, j) := by
            unfold firstSt
            rw [hW]
            have hsp : W = W.take i ++ ws :: W.drop (i + 1) := by
              have h1 : W = W.take (i + 1) ++ W.drop (i + 1) := (List.take_append_drop _ _).symm
              rw [take1, List.append_assoc] at h1
              exact h1
            rw [hsp, List.findSome?_append, hno]
            simp [e1]
          rw [e2]; rfl
      · rw [hany] at hx
        refine dss_nilF [1, 2] ⟨?_, rfl⟩
        rw [take1, List.findSome?_append, hno]
        have := any_range_find.2 hx
        simp only [stOne, Option.none_or, List.findSome?_cons, List.findSome?_nil]
        rw [this]; rfl
    · obtain ⟨hno, rfl⟩ := hI
      rw [List.length_map, List.take_length] at hno
      refine dss_ret de_non ?_
      unfold firstSt
      rw [hW, hno]; rfl
end

/-! ## law (k04) -/
theorem haD_inj {h k : Hand} (e : haD h = haD k) : h = k := by
  cases h; cases k
  unfold haD at e
  simp only [PyData.tuple.injEq, List.cons.injEq, PyData.int.injEq, and_true] at e
  obtain ⟨rfl, rfl, rfl⟩ := e
  rfl
theorem map_inj {α β : Type} {f : α → β} (hf : ∀ x y, f x = f y → x = y) : ∀ {xs ys : List α}, xs.map f = ys.map f → xs = ys
  | [], [], _ => rfl
  | [], _ :: _, h => by simp at h
  | _ :: _, [], h => by simp at h
  | x :: xs, y :: ys, h => by
    simp only [List.map_cons, List.cons.injEq] at h
    rw [hf _ _ h.1, map_inj hf h.2]
theorem cuD_inj {c d : Custom} (e : cuD c = cuD d) : c = d := by
  cases c with | mk m f hs => cases d with | mk m' f' hs' =>
  unfold cuD at e
  simp only [PyData.tuple.injEq, List.cons.injEq, PyData.int.injEq, PyData.str.injEq, and_true] at e
  obtain ⟨h1, h2, h3⟩ := e
  have h4 : hs = hs' := map_inj (fun _ _ => haD_inj) h3
  have h5 : f = f' := by
    have := tieS_first f
    rw [h2, tieS_first] at this
    exact this.symm
  subst h1 h4 h5
  rfl
theorem size_le {m : Int} (hm : 0 ≤ m) : ∀ (cs : List Int) (s : Int), 0 ≤ s → (∀ c ∈ cs, 0 ≤ c ∧ c ≤ m) → cs.foldl (fun s c => s * (c + 1)) s ≤ s * (m + 1) ^ cs.length
  | [], s, _, _ => by simp
  | c :: cs, s, hs, h => by
    have hc := h c (by simp)
    have h1 : 0 ≤ s * (c + 1) := Int.mul_nonneg hs (by omega)
    have h2 := size_le hm cs (s * (c + 1)) h1 fun x hx => h x (by simp [hx])
    have h3 : s * (c + 1) ≤ s * (m + 1) := Int.mul_le_mul_of_nonneg_left (by omega) hs
    have h4 : 0 ≤ (m + 1) ^ cs.length := Int.pow_nonneg (by omega)
    rw [List.foldl_cons, List.length_cons, Int.pow_succ]
    refine Int.le_trans h2 ?_
    rw [Int.mul_comm ((m + 1) ^ cs.length), ← Int.mul_assoc]
    exact Int.mul_le_mul_of_nonneg_right h3 h4
theorem small5 {c : Custom} (hc : WfC c) (hs : SmallT 5 c) : sizeI (capsI c) ≤ 2000 := by
  have h2 := hc.two
  have h4 := hc.four
  have hl : (capsI c).length = c.hands.length := by unfold capsI; rw [List.length_map]
  have hb : ∀ {m : Int}, (∀ h ∈ c.hands, h.cap ≤ m) → ∀ x ∈ capsI c, 0 ≤ x ∧ x ≤ m := fun {m} hm x hx => by
    obtain ⟨h, hh, rfl⟩ := List.mem_map.mp hx
    exact ⟨(hc.steps h hh).2.2.2.2.1, hm h hh⟩
  unfold sizeI
  by_cases h : c.hands.length = 4
  · have := size_le (by decide) (capsI c) 1 (by decide) (hb (m := 2) (hs.2 h))
    rw [hl, h] at this
    have e : (1 : Int) * (2 + 1) ^ 4 = 81 := by decide
    omega
  · have := size_le (by decide) (capsI c) 1 (by decide) (hb (m := 5) hs.1)
    rw [hl] at this
    have e : (1 : Int) * (5 + 1) ^ c.hands.length ≤ 216 := by
      rcases (show c.hands.length = 2 ∨ c.hands.length = 3 by omega) with z | z <;> rw [z] <;> decide
    omega
theorem lay_st (o : Option (List Int × Nat)) : Lay 2 (stD o) := by
  cases o with
  | none => exact Lay.mono (n := 0) Lay.non (by decide)
  | some p => exact .tup (lay_cons (lay_wi _) (lay_cons (.int _) lay_nil))
theorem lay_lacks (c : Custom) (ws : List Int) (i n : Nat) : Lay 1 (lacksD c ws i n) := .list fun d hd => by
  obtain ⟨h, _, rfl⟩ := List.mem_map.mp hd
  unfold lackD
  split
  · exact .int _
  · exact .non
/-- the two defs of the law that try -/
structure TryF (K : PySem.W.Frag) (mg : Str → Option Value) (CT CW : Addr) : Prop where
  t : ∃ f fd, mg "_law_try" = some (.ref f) ∧ Fun K "_law_try" "_law_try" S__law_try f fd ∧ Binds K fd ["door"] []
  n : ∃ f fd, mg "_law_name_of" = some (.ref f) ∧ Fun K "_law_name_of" "_law_name_of" S__law_name_of f fd ∧ Binds K fd ["e"] []
  gT : mg "TooMany" = some (.ref CT)
  gW : mg "WishError" = some (.ref CW)
def wideC : Custom := ⟨1, true, [⟨1, 1, 12⟩, ⟨1, 1, 12⟩, ⟨1, 1, 11⟩]⟩
def justC : Custom := ⟨1, false, [⟨1, 2, 9⟩, ⟨2, 1, 9⟩, ⟨1, 1, 1⟩, ⟨1, 1, 9⟩]⟩
theorem wf_wide : WfC wideC := ⟨by decide, by decide, by decide, by decide, by decide⟩
theorem wf_just : WfC justC := ⟨by decide, by decide, by decide, by decide, by decide⟩
def nLaw : List Str := ["script", "cell", "deck", "custom", "k", "wishes", "told", "wide", "just"]
theorem scLaw : FnScope nLaw ["script"] (defScope S_law) := ⟨rfl, rfl, rfl, by decide +kernel, rfl, by decide +kernel, by decide +kernel⟩
section
variable {P : Program} {w : World} {K : PySem.W.Frag} {mg : Str → Option Value} {base : Heap}
theorem law_body {fa a c T CT CW : Addr} {ns : List Int} (hl : ns.length ≤ 63) (B : Bn mg) (TF : TryF K mg CT CW) (TC : TryC K mg CT CT CW (some 2000) false false false false false true false)
    (Gs : Cal P w K mg base 3 "starving" 1 (spP prSt)) (GsX : CalX P w K mg base 4 "starving" 1 (spX CT (some 2000) (fun ds => ∃ c, ds = [cuD c] ∧ WfC c ∧ 2000 < sizeI (capsI c)))) (Gl : Cal P w K mg base 3 "lacks" 2 (spP prLacks))
    (G4 : Cal P w K mg base 1 "_law_deck" 2 spDeck) (G6 : Cal P w K mg base 3 "_law_small" 2 (spK 40 (fun ds => ds = [.int 5]) (prSmT 5))) (G7 : Cal P w K mg base 2 "_law_wishes" 2 (spK 4 preLwi prLwi)) (Gst : Cal P w K mg base 5 "_law_starving" 1 (spP prLSt)) (Gll : Cal P w K mg base 4 "_law_lacks" 2 (spP prLacks))
    (A : Around) (outer : List Env) (s : Shared) (H : Hp) (E : XK) (TB : LamX.TabB base mg c T) (hr : Room 6 (Bod P w K mg base nLaw "law" S_law fa (.ref c) A outer s H E).A) (hT : H T = some (.tbl #[])) (hS : SqL K H a (ns.map V.int)) :
    ∃ t, PSs (Bod P w K mg base nLaw "law" S_law fa (.ref c) A outer s H E) (defBody S_law) t ∧ t { nx := fun _ _ => V.non = .bl true, rt := fun v _ => v = .bl true } (L2.start nLaw [.ref a]) H := by
  have nd := scLaw.nd
  have hr1 := hr.mono (show 1 ≤ 6 by decide)
  have hr2 := hr.mono (show 2 ≤ 6 by decide)
  have hr3 := hr.mono (show 3 ≤ 6 by decide)
  have hr4 := hr.mono (show 4 ≤ 6 by decide)
  have hr5 := hr.mono (show 5 ≤ 6 by decide)
  have hun : (Bod P w K mg base nLaw "law" S_law fa (.ref c) A outer s H E).A.units + 64 < cLine := by have := hr.un; omega
  obtain ⟨ft, fdt, mt, Ft, bt⟩ := TF.t
  obtain ⟨fn, fdn, mn, Fn, bn⟩ := TF.n
  let ρ0 : Env' := [.val (.ref a), .no, .no, .no, .no, .no, .no, .no, .no]
  have body : DSs (Bod P w K mg base nLaw "law" S_law fa (.ref c) A outer s H E) [] (fun _ => none) H ρ0 (defBody S_law) { N := fun _ => False, R := fun d _ => d = .bool true } := by
    refine dss_forS (fun _ ρ => ρ = ρ0) (fun H => SqL K H a (ns.map V.int)) (fun F H' σ at_ => sqL_same hS at_.g.same) (pi_script rfl (by decide) (by omega)) rfl (fun i x ρ' hx hI => ?_) (fun ρ' hI => ?_)
    · subst hI
      rw [List.getElem?_map] at hx
      obtain ⟨cell, _, rfl⟩ := Option.map_eq_some_iff.mp hx
      refine ⟨_, _, dg_name 1 nd, ?_⟩
      refine dss_own 2 nd (dn_deck G4 hr1 (da_cons (de_var 1) (da_cons de_int da_nil)) (by decide)) fun p => ?_
      refine dss_mine 2 (p := p) rfl (owns_one rfl) fun F1 H1 => ?_
      let ρ2 : Env' := [.val (.ref a), .dat (.int cell), .own p (.deck 4), .no, .no, .no, .no, .no, .no]
      change DSs _ _ _ _ ρ2 _ _
      refine dss_setW 3 nd (P := prSmT 5 [.int 5]) (we_imp (we_call (ρ := ρ2) (n := 4) (p := p) 2 G6 hr3 (wa_d (PA1 := fun ds => ds = [.int 5]) (da_cons de_int da_nil) rfl) (fun ds h => h) rfl rfl (by decide)) (fun d ⟨ds, _, h⟩ => h)) (OwnLike_deck 2) (fun d hd => ?_)
      obtain ⟨cu, rfl, hc, hsm⟩ := hd
      have hsz := small5 hc hsm
      change DSs _ _ _ _ [.val (.ref a), .dat (.int cell), .own p (.deck 44), .dat (cuD cu), .no, .no, .no, .no, .no] _ _
      refine dss_ifx (x := false) (dt_cmp (op_neD hun) (de_call (d := stD (firstSt cu)) Gs hr3 (da_cons (de_var 3) da_nil) ⟨cu, rfl, hc, hsz, rfl⟩) (de_call (d := stD (firstSt cu)) Gst hr5 (da_cons (de_var 3) da_nil) ⟨cu, rfl, hc, rfl⟩) (v_neL (lay_st _))) (fun h => by cases h) (fun _ => ?_)
      let I : Nat → Env' → Prop := fun k ρ => ρ = [.val (.ref a), .dat (.int cell), .own p (.deck (44 + 4 * (k : Int))), .dat (cuD cu), .no, .no, .no, .no, .no]
      refine dss_for I (di_range1 (da_cons de_int da_nil) B.range ⟨by decide, by decide⟩) rfl (fun k x ρ' hx hI => ?_) (fun ρ' hI => ?_)
      · obtain ⟨hk3, rfl⟩ := rngD_get hx
        have hk : k < 3 := hk3
        have hI' : ρ' = _ := hI
        subst hI'
        refine ⟨_, _, dg_name 4 nd, ?_⟩
        refine dss_setW 5 nd (P := fun d => ∃ ws, d = wiD ws ∧ WfW cu ws) (we_imp (we_call (n := 44 + 4 * (k : Int)) 2 G7 hr2 (wa_d (PA1 := fun ds => ds = [cuD cu]) (da_cons (de_var 3) da_nil) rfl) (fun ds h => ⟨cu, h, hc⟩) rfl rfl (by omega)) (fun d ⟨ds, e, h⟩ => ?_)) (OwnLike_deck 2) (fun d hd => ?_)
        · subst e
          obtain ⟨c', ws, h1, h2, h3⟩ := prLwi_w h
          have : cu = c' := cuD_inj (List.cons.inj h1).1
          subst this
          exact ⟨ws, h2, h3⟩
        obtain ⟨ws, rfl, hw⟩ := hd
        obtain ⟨i', n, hR⟩ := round_ex hc hw
        have hlay := lay_lacks cu ws i' n
        have hty : tyD (lacksD cu ws i' n) = "list" := rfl
        obtain ⟨L, hL⟩ : ∃ L, lacksD cu ws i' n = .list L := ⟨_, rfl⟩
        refine dss_set 6 nd (d := .list L) (de_call Gl hr3 (da_cons (de_var 3) (da_cons (de_var 5) da_nil)) ⟨cu, ws, i', n, rfl, hc, hw, hR, hL.symm⟩) ?_
        rw [hL] at hlay
        refine dss_ifx (x := false) (dt_w (dw_or (x := false) (y := false) (dt_cmp (op_neD hun) (de_var 6) (de_call (d := .list L) Gll hr4 (da_cons (de_var 3) (da_cons (de_var 5) da_nil)) ⟨cu, ws, i', n, rfl, hc, hw, hR, hL.symm⟩) (v_neL hlay))
          (fun _ => dw_or1 (dt_is (dt_not (dt_val (de_isi (T := "list") (d := .list L) (b := true) (de_var 6) B.isinstance B.list (by decide +kernel) (show kitB "list" "list" = some true by decide +kernel)))) rfl)))) (fun h => by cases h) (fun _ => ?_)
        refine dss_nilF [4, 5, 6] ?_
        show _ = [_, _, _, _, _, _, _, _, _]
        rw [show (44 + 4 * ((k + 1 : Nat) : Int)) = 44 + 4 * (k : Int) + 4 by omega]
        rfl
      · have hI' : ρ' = _ := hI
        subst hI'
        exact dss_nilF [1, 2, 3] rfl
    · subst hI
      refine dss_set 7 nd (d := cuD wideC) (de_tup (da_cons de_int (da_cons de_str (da_cons (de_tup (da_cons (de_tup (da_cons de_int (da_cons de_int (da_cons de_int da_nil)))) (da_cons (de_tup (da_cons de_int (da_cons de_int (da_cons de_int da_nil)))) (da_cons (de_tup (da_cons de_int (da_cons de_int (da_cons de_int da_nil)))) da_nil)))) da_nil)))) ?_
      refine dss_ifxB (x := false) (dtb_is (dtb_cmp op_ne (deb_try (k := 3) (r := .ex CT (some 2000)) Ft mt bt Fn mn bn B TF.gT TF.gW TB rfl rfl (tab0 hT) hr (LamX.lamS_by (sc := defScope S_law) (by decide +kernel)) rfl (fun _ _ _ _ _ => rfl) (fun C m h => by cases h; exact TC) (fun A outer s H E f c' hr' => PE.imp (dx_call GsX takes_lam hr' (da_cons (de_var 7) da_nil) ⟨wideC, rfl, wf_wide, by decide +kernel⟩) fun σ H Q q => q))
        (deb_of de_str) v_neS) (by decide +kernel)) (fun h => by cases h) (fun _ => ?_)
      refine dss_set 8 nd (d := cuD justC) (de_tup (da_cons de_int (da_cons de_str (da_cons (de_tup (da_cons (de_tup (da_cons de_int (da_cons de_int (da_cons de_int da_nil)))) (da_cons (de_tup (da_cons de_int (da_cons de_int (da_cons de_int da_nil)))) (da_cons (de_tup (da_cons de_int (da_cons de_int (da_cons de_int da_nil)))) (da_cons (de_tup (da_cons de_int (da_cons de_int (da_cons de_int da_nil)))) da_nil))))) da_nil)))) ?_
      obtain ⟨sj, hsj⟩ : ∃ sj, stD (firstSt justC) = sj := ⟨_, rfl⟩
      exact dss_retB (deb_isi (T := "list") (b := true) (deb_try (k := 3) (r := .ok sj) (b0 := false) (b1 := false) (b2 := false) (b3 := false) (b4 := false) (b5 := false) (b6 := false) Ft mt bt Fn mn bn B TF.gT TF.gW TB rfl rfl (tab0 hT) hr (LamX.lamS_by (sc := defScope S_law) (by decide +kernel)) rfl (fun _ _ _ _ _ => rfl) (fun C m h => by cases h) (fun A outer s H E f c' hr' => PE.imp (de_call (d := sj) Gs (hr'.mono (by decide)) (da_cons (de_var 8) da_nil) ⟨justC, rfl, wf_just, by decide +kernel, hsj.symm⟩) fun σ H Q q => q))
        B.isinstance B.list (by decide +kernel) (show kitB "list" "list" = some true by decide +kernel)) rfl
  exact law_finT 8 body rfl
end

/-! ## what the head must say of the classes -/
def excN : List Str := ["NoCustom", "NoHand", "NoTurns", "NoWish", "NoWishes", "TooMany", "Unlike"]
/-- the class x as an exception that _law_try catches: bs, what isinstance says by excN -/
def tcB (K : PySem.W.Frag) (x : Str) (isT : Bool) (bs : List Bool) : Bool := exqB K (He.ga K x) && ((excN.zip bs).all (fun p => decide (PySem.W.kitOne K (.ref (He.ga K x)) (.ref (He.ga K p.1)) = some p.2)) && (decide (PySem.W.kitOne K (.ref (He.ga K x)) (.type "ValueError") = some true) &&
  (decide (PySem.W.exmOne K (.ref (He.ga K x)) (.ref (He.ga K "TooMany")) = some isT) && decide (PySem.W.exmOne K (.ref (He.ga K x)) (.ref (He.ga K "WishError")) = some true))))
theorem tcB_ok {K : PySem.W.Frag} {mg : Str → Option Value} {x : Str} {m : Option Int} {b0 b1 b2 b3 b4 b5 b6 : Bool} (h : tcB K x m.isSome [b0, b1, b2, b3, b4, b5, b6] = true) (hg : ∀ y ∈ excN, mg y = some (.ref (He.ga K y))) (hv : mg "ValueError" = none)
    (hx : ∀ n, m = some n → XfC K (He.ga K x) ∧ PySem.W.findIn K (.ref (He.ga K x)) "most" = some none ∧ (PyData.int n).showable = true ∧ (nameT [b0, b1, b2, b3, b4, b5, b6, true]).length + (strI n).length ≤ sizeLine) :
    TryC K mg (He.ga K x) (He.ga K "TooMany") (He.ga K "WishError") m b0 b1 b2 b3 b4 b5 b6 := by
  unfold tcB at h
  simp only [Bool.and_eq_true, decide_eq_true_eq] at h
  obtain ⟨h1, h2, h3, h4, h5⟩ := h
  have key : ∀ p ∈ excN.zip [b0, b1, b2, b3, b4, b5, b6], PySem.W.kitOne K (.ref (He.ga K x)) (.ref (He.ga K p.1)) = some p.2 := fun p hp => of_decide_eq_true (List.all_eq_true.mp h2 p hp)
  have at_ : ∀ (y : Str) (b : Bool), (y, b) ∈ excN.zip [b0, b1, b2, b3, b4, b5, b6] → y ∈ excN → ∃ C, mg y = some (.ref C) ∧ PySem.W.kitOne K (.ref (He.ga K x)) (.ref C) = some b := fun y b hp hy => ⟨_, hg y hy, key (y, b) hp⟩
  exact ⟨⟨exqB_ok h1, at_ _ _ (by simp [excN]) (by simp [excN]), at_ _ _ (by simp [excN]) (by simp [excN]), at_ _ _ (by simp [excN]) (by simp [excN]), at_ _ _ (by simp [excN]) (by simp [excN]), at_ _ _ (by simp [excN]) (by simp [excN]), at_ _ _ (by simp [excN]) (by simp [excN]), at_ _ _ (by simp [excN]) (by simp [excN]), hv, h3⟩, h4, h5, hx⟩
def tmB (K : PySem.W.Frag) : Bool := oexB K (He.ga K "TooMany") && (winB K (He.ga K "WishError") && (He.eqO (PySem.W.findIn K (.ref (He.ga K "TooMany")) "__init__") (some (some (.ref (He.ma K (He.ga K "TooMany") "__init__")))) && (PySem.W.isFn K (.ref (He.ma K (He.ga K "TooMany") "__init__")) &&
  (He.eqO (PySem.W.findIn K (.ref (He.ga K "TooMany")) "most") (some none) && xfB K (He.ga K "TooMany")))))
theorem tmB_ok {K : PySem.W.Frag} {mg : Str → Option Value} (h : tmB K = true) (g1 : mg "TooMany" = some (.ref (He.ga K "TooMany"))) (g2 : mg "WishError" = some (.ref (He.ga K "WishError"))) :
    TmC K mg (He.ga K "TooMany") (He.ga K "WishError") (He.ma K (He.ga K "TooMany") "__init__") ∧ XfC K (He.ga K "TooMany") := by
  unfold tmB at h
  simp only [Bool.and_eq_true] at h
  obtain ⟨h1, h2, h3, h4, h5, h6⟩ := h
  have e4 : PySem.W.typeIn K (.ref (He.ma K (He.ga K "TooMany") "__init__")) = some (.type "function") := by
    have := h4
    unfold PySem.W.isFn at this
    exact eq_of_beq this
  exact ⟨⟨oexB_ok h1, g1, g2, winB_ok h2, He.eqO_ok h3, e4, He.eqO_ok h5⟩, xfB_ok h6⟩

def dd_one_turn : He.DefD := ⟨("one_turn", none), "one_turn", "one_turn", defArgs S_one_turn, defBody S_one_turn, defScope S_one_turn, [], []⟩
def dd_walked : He.DefD := ⟨("walked", none), "walked", "walked", defArgs S_walked, defBody S_walked, defScope S_walked, [], []⟩
def dd_caps : He.DefD := ⟨("caps", none), "caps", "caps", defArgs S_caps, defBody S_caps, defScope S_caps, [], []⟩
def dd_all_wishes : He.DefD := ⟨("all_wishes", none), "all_wishes", "all_wishes", defArgs S_all_wishes, defBody S_all_wishes, defScope S_all_wishes, [], []⟩
def dd_longest : He.DefD := ⟨("longest", none), "longest", "longest", defArgs S_longest, defBody S_longest, defScope S_longest, [], []⟩
def dd_lacks : He.DefD := ⟨("lacks", none), "lacks", "lacks", defArgs S_lacks, defBody S_lacks, defScope S_lacks, [], []⟩
def dd_starving : He.DefD := ⟨("starving", none), "starving", "starving", defArgs S_starving, defBody S_starving, defScope S_starving, [], []⟩
def dd__law_deck : He.DefD := ⟨("_law_deck", none), "_law_deck", "_law_deck", defArgs S__law_deck, defBody S__law_deck, defScope S__law_deck, [], []⟩
def dd__law_pick : He.DefD := ⟨("_law_pick", none), "_law_pick", "_law_pick", defArgs S__law_pick, defBody S__law_pick, defScope S__law_pick, [], []⟩
def dd__law_name_of : He.DefD := ⟨("_law_name_of", none), "_law_name_of", "_law_name_of", defArgs S__law_name_of, defBody S__law_name_of, defScope S__law_name_of, [], []⟩
def dd__law_try : He.DefD := ⟨("_law_try", none), "_law_try", "_law_try", defArgs S__law_try, defBody S__law_try, defScope S__law_try, [], []⟩
def dd__law_custom : He.DefD := ⟨("_law_custom", none), "_law_custom", "_law_custom", defArgs S__law_custom, defBody S__law_custom, defScope S__law_custom, [], []⟩
def dd__law_wishes : He.DefD := ⟨("_law_wishes", none), "_law_wishes", "_law_wishes", defArgs S__law_wishes, defBody S__law_wishes, defScope S__law_wishes, [], []⟩
def dd__law_had : He.DefD := ⟨("_law_had", none), "_law_had", "_law_had", defArgs S__law_had, defBody S__law_had, defScope S__law_had, [], []⟩
def dd__law_after : He.DefD := ⟨("_law_after", none), "_law_after", "_law_after", defArgs S__law_after, defBody S__law_after, defScope S__law_after, [], []⟩
def dd__law_all : He.DefD := ⟨("_law_all", none), "_law_all", "_law_all", defArgs S__law_all, defBody S__law_all, defScope S__law_all, [], []⟩
def dd__law_small : He.DefD := ⟨("_law_small", none), "_law_small", "_law_small", defArgs S__law_small, defBody S__law_small, defScope S__law_small, [], []⟩
def dd__law_line : He.DefD := ⟨("_law_line", none), "_law_line", "_law_line", defArgs S__law_line, defBody S__law_line, defScope S__law_line, [], []⟩
def dd__law_lacks : He.DefD := ⟨("_law_lacks", none), "_law_lacks", "_law_lacks", defArgs S__law_lacks, defBody S__law_lacks, defScope S__law_lacks, [], []⟩
def dd__law_starving : He.DefD := ⟨("_law_starving", none), "_law_starving", "_law_starving", defArgs S__law_starving, defBody S__law_starving, defScope S__law_starving, [], []⟩
def dd_law : He.DefD := ⟨("law", none), "law", "law", defArgs S_law, defBody S_law, defScope S_law, [], []⟩
def dd_TooMany___init__ : He.DefD := ⟨("TooMany", some "__init__"), "__init__", "TooMany.__init__", defArgs S_TooMany___init__, defBody S_TooMany___init__, defScope S_TooMany___init__, [], []⟩
def fnL : List He.DefD := [dd_one_turn, dd_walked, dd_caps, dd_all_wishes, dd_longest, dd_lacks, dd_starving, dd__law_deck, dd__law_pick, dd__law_name_of, dd__law_try, dd__law_custom, dd__law_wishes, dd__law_had, dd__law_after, dd__law_all, dd__law_small, dd__law_line, dd__law_lacks, dd__law_starving, dd_law, dd_TooMany___init__]
def faL : List He.Fa := [.glo "one_turn", .glo "walked", .glo "caps", .glo "all_wishes", .glo "longest", .glo "lacks", .glo "starving", .glo "_law_deck", .glo "_law_pick", .glo "_law_name_of", .glo "_law_try", .glo "_law_custom", .glo "_law_wishes", .glo "_law_had", .glo "_law_after", .glo "_law_all", .glo "_law_small", .glo "_law_line", .glo "_law_lacks", .glo "_law_starving", .glo "law", .free "sorted", .free "enumerate", .free "tuple", .free "max", .free "min", .free "range", .free "len", .free "zip", .free "all", .free "any", .free "isinstance", .free "int", .free "bool", .free "str", .free "list", .free "sum", .free "divmod", .free "dict", .int "MOST" 2000, .glo "WishError", .glo "NoCustom", .glo "NoHand", .glo "NoTurns", .glo "NoWish", .glo "NoWishes", .glo "TooMany", .glo "Unlike", .free "ValueError"]
abbrev RwR : PySem.W.OpenRow := PySem.W.OpenLaw.row PySem.Challenge.rw_tirewish_k04_whole_nobody_lacks_longer
def exL (K : PySem.W.Frag) : Bool := (tcB K "TooMany" true [false, false, false, false, false, true, false]) && (tmB K)
def tfL : List He.Defn := [("law", none)]
abbrev hkL : PySem.W.Hook := hookY faL fnL tfL exL
def obL (s : PySem.W.SharedT) : He.AlD × Bool := obY faL fnL tfL exL (HandSHeadRun.getT s)
theorem obL_eq (s : PySem.W.SharedT) : obL s = hkL.obs s.abs := by
  have e : HandSHeadRun.getT s = s.abs.heap.get? := funext (HandSHeadRun.getT_eq s)
  unfold obL
  rw [e]
  rfl
def looseL : List PySem.Str := ["one_turn", "walked", "caps", "all_wishes", "longest", "lacks", "starving", "_law_deck", "_law_pick", "_law_name_of", "_law_try", "_law_custom", "_law_wishes", "_law_had", "_law_after", "_law_all", "_law_small", "_law_line", "_law_lacks", "_law_starving", "MOST", "WishError", "Unlike", "NoCustom", "NoWishes", "NoTurns", "NoHand", "NoWish", "TooMany"]
def lawAt : Nat := 35
theorem runL (w : World) : HandSHeadRun.RunEq RwR (PySem.W.view RwR.prog [35]) hkL obL 8000 looseL w := by
  intro os
  kernel_rfl
section
variable {P : Program} {w : World} {K : PySem.W.Frag} {h : Heap} {mg : Str → Option Value}
theorem fn_one_turn (X : K.In h) (G : h.Ns mainGlobals mg) (c : He.SaysD faL fnL K) : ∃ f fd, mg "one_turn" = some (.ref f) ∧ Fun K "one_turn" "one_turn" S_one_turn f fd ∧ Binds K fd ["custom", "wishes"] [] := by
  obtain ⟨fd, F⟩ := c.def_ 0 (d := dd_one_turn) rfl
  have F2 : Fun K "one_turn" "one_turn" S_one_turn _ fd := He5.fun_of F
  exact ⟨_, fd, He.glo_ok X G (c.fact 0 (f := .glo "one_turn") rfl), F2, F2.binds (ps := ["custom", "wishes"]) (fun _ _ _ _ _ _ us hl => match us, hl with | [_, _], _ => rfl)⟩
theorem fn_walked (X : K.In h) (G : h.Ns mainGlobals mg) (c : He.SaysD faL fnL K) : ∃ f fd, mg "walked" = some (.ref f) ∧ Fun K "walked" "walked" S_walked f fd ∧ Binds K fd ["custom", "wishes"] [] := by
  obtain ⟨fd, F⟩ := c.def_ 1 (d := dd_walked) rfl
  have F2 : Fun K "walked" "walked" S_walked _ fd := He5.fun_of F
  exact ⟨_, fd, He.glo_ok X G (c.fact 1 (f := .glo "walked") rfl), F2, F2.binds (ps := ["custom", "wishes"]) (fun _ _ _ _ _ _ us hl => match us, hl with | [_, _], _ => rfl)⟩
theorem fn_caps (X : K.In h) (G : h.Ns mainGlobals mg) (c : He.SaysD faL fnL K) : ∃ f fd, mg "caps" = some (.ref f) ∧ Fun K "caps" "caps" S_caps f fd ∧ Binds K fd ["custom"] [] := by
  obtain ⟨fd, F⟩ := c.def_ 2 (d := dd_caps) rfl
  have F2 : Fun K "caps" "caps" S_caps _ fd := He5.fun_of F
  exact ⟨_, fd, He.glo_ok X G (c.fact 2 (f := .glo "caps") rfl), F2, F2.binds (ps := ["custom"]) (fun _ _ _ _ _ _ us hl => match us, hl with | [_], _ => rfl)⟩
theorem fn_all_wishes (X : K.In h) (G : h.Ns mainGlobals mg) (c : He.SaysD faL fnL K) : ∃ f fd, mg "all_wishes" = some (.ref f) ∧ Fun K "all_wishes" "all_wishes" S_all_wishes f fd ∧ Binds K fd ["custom", "most"] [] := by
  obtain ⟨fd, F⟩ := c.def_ 3 (d := dd_all_wishes) rfl
  have F2 : Fun K "all_wishes" "all_wishes" S_all_wishes _ fd := He5.fun_of F
  exact ⟨_, fd, He.glo_ok X G (c.fact 3 (f := .glo "all_wishes") rfl), F2, F2.binds (ps := ["custom", "most"]) (fun _ _ _ _ _ _ us hl => match us, hl with | [_, _], _ => rfl)⟩
theorem fn_longest (X : K.In h) (G : h.Ns mainGlobals mg) (c : He.SaysD faL fnL K) : ∃ f fd, mg "longest" = some (.ref f) ∧ Fun K "longest" "longest" S_longest f fd ∧ Binds K fd ["row", "hand"] [] := by
  obtain ⟨fd, F⟩ := c.def_ 4 (d := dd_longest) rfl
  have F2 : Fun K "longest" "longest" S_longest _ fd := He5.fun_of F
  exact ⟨_, fd, He.glo_ok X G (c.fact 4 (f := .glo "longest") rfl), F2, F2.binds (ps := ["row", "hand"]) (fun _ _ _ _ _ _ us hl => match us, hl with | [_, _], _ => rfl)⟩
theorem fn_lacks (X : K.In h) (G : h.Ns mainGlobals mg) (c : He.SaysD faL fnL K) : ∃ f fd, mg "lacks" = some (.ref f) ∧ Fun K "lacks" "lacks" S_lacks f fd ∧ Binds K fd ["custom", "wishes"] [] := by
  obtain ⟨fd, F⟩ := c.def_ 5 (d := dd_lacks) rfl
  have F2 : Fun K "lacks" "lacks" S_lacks _ fd := He5.fun_of F
  exact ⟨_, fd, He.glo_ok X G (c.fact 5 (f := .glo "lacks") rfl), F2, F2.binds (ps := ["custom", "wishes"]) (fun _ _ _ _ _ _ us hl => match us, hl with | [_, _], _ => rfl)⟩
theorem fn_starving (X : K.In h) (G : h.Ns mainGlobals mg) (c : He.SaysD faL fnL K) : ∃ f fd, mg "starving" = some (.ref f) ∧ Fun K "starving" "starving" S_starving f fd ∧ Binds K fd ["custom"] [] := by
  obtain ⟨fd, F⟩ := c.def_ 6 (d := dd_starving) rfl
  have F2 : Fun K "starving" "starving" S_starving _ fd := He5.fun_of F
  exact ⟨_, fd, He.glo_ok X G (c.fact 6 (f := .glo "starving") rfl), F2, F2.binds (ps := ["custom"]) (fun _ _ _ _ _ _ us hl => match us, hl with | [_], _ => rfl)⟩
theorem fn__law_deck (X : K.In h) (G : h.Ns mainGlobals mg) (c : He.SaysD faL fnL K) : ∃ f fd, mg "_law_deck" = some (.ref f) ∧ Fun K "_law_deck" "_law_deck" S__law_deck f fd ∧ Binds K fd ["cell", "turn"] [] := by
  obtain ⟨fd, F⟩ := c.def_ 7 (d := dd__law_deck) rfl
  have F2 : Fun K "_law_deck" "_law_deck" S__law_deck _ fd := He5.fun_of F
  exact ⟨_, fd, He.glo_ok X G (c.fact 7 (f := .glo "_law_deck") rfl), F2, F2.binds (ps := ["cell", "turn"]) (fun _ _ _ _ _ _ us hl => match us, hl with | [_, _], _ => rfl)⟩
theorem fn__law_pick (X : K.In h) (G : h.Ns mainGlobals mg) (c : He.SaysD faL fnL K) : ∃ f fd, mg "_law_pick" = some (.ref f) ∧ Fun K "_law_pick" "_law_pick" S__law_pick f fd ∧ Binds K fd ["deck", "limit"] [] := by
  obtain ⟨fd, F⟩ := c.def_ 8 (d := dd__law_pick) rfl
  have F2 : Fun K "_law_pick" "_law_pick" S__law_pick _ fd := He5.fun_of F
  exact ⟨_, fd, He.glo_ok X G (c.fact 8 (f := .glo "_law_pick") rfl), F2, F2.binds (ps := ["deck", "limit"]) (fun _ _ _ _ _ _ us hl => match us, hl with | [_, _], _ => rfl)⟩
theorem fn__law_name_of (X : K.In h) (G : h.Ns mainGlobals mg) (c : He.SaysD faL fnL K) : ∃ f fd, mg "_law_name_of" = some (.ref f) ∧ Fun K "_law_name_of" "_law_name_of" S__law_name_of f fd ∧ Binds K fd ["e"] [] := by
  obtain ⟨fd, F⟩ := c.def_ 9 (d := dd__law_name_of) rfl
  have F2 : Fun K "_law_name_of" "_law_name_of" S__law_name_of _ fd := He5.fun_of F
  exact ⟨_, fd, He.glo_ok X G (c.fact 9 (f := .glo "_law_name_of") rfl), F2, F2.binds (ps := ["e"]) (fun _ _ _ _ _ _ us hl => match us, hl with | [_], _ => rfl)⟩
theorem fn__law_try (X : K.In h) (G : h.Ns mainGlobals mg) (c : He.SaysD faL fnL K) : ∃ f fd, mg "_law_try" = some (.ref f) ∧ Fun K "_law_try" "_law_try" S__law_try f fd ∧ Binds K fd ["door"] [] := by
  obtain ⟨fd, F⟩ := c.def_ 10 (d := dd__law_try) rfl
  have F2 : Fun K "_law_try" "_law_try" S__law_try _ fd := He5.fun_of F
  exact ⟨_, fd, He.glo_ok X G (c.fact 10 (f := .glo "_law_try") rfl), F2, F2.binds (ps := ["door"]) (fun _ _ _ _ _ _ us hl => match us, hl with | [_], _ => rfl)⟩
theorem fn__law_custom (X : K.In h) (G : h.Ns mainGlobals mg) (c : He.SaysD faL fnL K) : ∃ f fd, mg "_law_custom" = some (.ref f) ∧ Fun K "_law_custom" "_law_custom" S__law_custom f fd ∧ Binds K fd ["deck", "size", "top"] [] := by
  obtain ⟨fd, F⟩ := c.def_ 11 (d := dd__law_custom) rfl
  have F2 : Fun K "_law_custom" "_law_custom" S__law_custom _ fd := He5.fun_of F
  exact ⟨_, fd, He.glo_ok X G (c.fact 11 (f := .glo "_law_custom") rfl), F2, F2.binds (ps := ["deck", "size", "top"]) (fun _ _ _ _ _ _ us hl => match us, hl with | [_, _, _], _ => rfl)⟩
theorem fn__law_wishes (X : K.In h) (G : h.Ns mainGlobals mg) (c : He.SaysD faL fnL K) : ∃ f fd, mg "_law_wishes" = some (.ref f) ∧ Fun K "_law_wishes" "_law_wishes" S__law_wishes f fd ∧ Binds K fd ["deck", "custom"] [] := by
  obtain ⟨fd, F⟩ := c.def_ 12 (d := dd__law_wishes) rfl
  have F2 : Fun K "_law_wishes" "_law_wishes" S__law_wishes _ fd := He5.fun_of F
  exact ⟨_, fd, He.glo_ok X G (c.fact 12 (f := .glo "_law_wishes") rfl), F2, F2.binds (ps := ["deck", "custom"]) (fun _ _ _ _ _ _ us hl => match us, hl with | [_, _], _ => rfl)⟩
theorem fn__law_had (X : K.In h) (G : h.Ns mainGlobals mg) (c : He.SaysD faL fnL K) : ∃ f fd, mg "_law_had" = some (.ref f) ∧ Fun K "_law_had" "_law_had" S__law_had f fd ∧ Binds K fd ["custom", "wishes"] [] := by
  obtain ⟨fd, F⟩ := c.def_ 13 (d := dd__law_had) rfl
  have F2 : Fun K "_law_had" "_law_had" S__law_had _ fd := He5.fun_of F
  exact ⟨_, fd, He.glo_ok X G (c.fact 13 (f := .glo "_law_had") rfl), F2, F2.binds (ps := ["custom", "wishes"]) (fun _ _ _ _ _ _ us hl => match us, hl with | [_, _], _ => rfl)⟩
theorem fn__law_after (X : K.In h) (G : h.Ns mainGlobals mg) (c : He.SaysD faL fnL K) : ∃ f fd, mg "_law_after" = some (.ref f) ∧ Fun K "_law_after" "_law_after" S__law_after f fd ∧ Binds K fd ["custom", "wishes"] [] := by
  obtain ⟨fd, F⟩ := c.def_ 14 (d := dd__law_after) rfl
  have F2 : Fun K "_law_after" "_law_after" S__law_after _ fd := He5.fun_of F
  exact ⟨_, fd, He.glo_ok X G (c.fact 14 (f := .glo "_law_after") rfl), F2, F2.binds (ps := ["custom", "wishes"]) (fun _ _ _ _ _ _ us hl => match us, hl with | [_, _], _ => rfl)⟩
theorem fn__law_all (X : K.In h) (G : h.Ns mainGlobals mg) (c : He.SaysD faL fnL K) : ∃ f fd, mg "_law_all" = some (.ref f) ∧ Fun K "_law_all" "_law_all" S__law_all f fd ∧ Binds K fd ["custom"] [] := by
  obtain ⟨fd, F⟩ := c.def_ 15 (d := dd__law_all) rfl
  have F2 : Fun K "_law_all" "_law_all" S__law_all _ fd := He5.fun_of F
  exact ⟨_, fd, He.glo_ok X G (c.fact 15 (f := .glo "_law_all") rfl), F2, F2.binds (ps := ["custom"]) (fun _ _ _ _ _ _ us hl => match us, hl with | [_], _ => rfl)⟩
theorem fn__law_small (X : K.In h) (G : h.Ns mainGlobals mg) (c : He.SaysD faL fnL K) : ∃ f fd, mg "_law_small" = some (.ref f) ∧ Fun K "_law_small" "_law_small" S__law_small f fd ∧ Binds K fd ["deck", "top"] [] := by
  obtain ⟨fd, F⟩ := c.def_ 16 (d := dd__law_small) rfl
  have F2 : Fun K "_law_small" "_law_small" S__law_small _ fd := He5.fun_of F
  exact ⟨_, fd, He.glo_ok X G (c.fact 16 (f := .glo "_law_small") rfl), F2, F2.binds (ps := ["deck", "top"]) (fun _ _ _ _ _ _ us hl => match us, hl with | [_, _], _ => rfl)⟩
theorem fn__law_line (X : K.In h) (G : h.Ns mainGlobals mg) (c : He.SaysD faL fnL K) : ∃ f fd, mg "_law_line" = some (.ref f) ∧ Fun K "_law_line" "_law_line" S__law_line f fd ∧ Binds K fd ["custom", "wishes"] [] := by
  obtain ⟨fd, F⟩ := c.def_ 17 (d := dd__law_line) rfl
  have F2 : Fun K "_law_line" "_law_line" S__law_line _ fd := He5.fun_of F
  exact ⟨_, fd, He.glo_ok X G (c.fact 17 (f := .glo "_law_line") rfl), F2, F2.binds (ps := ["custom", "wishes"]) (fun _ _ _ _ _ _ us hl => match us, hl with | [_, _], _ => rfl)⟩
theorem fn__law_lacks (X : K.In h) (G : h.Ns mainGlobals mg) (c : He.SaysD faL fnL K) : ∃ f fd, mg "_law_lacks" = some (.ref f) ∧ Fun K "_law_lacks" "_law_lacks" S__law_lacks f fd ∧ Binds K fd ["custom", "wishes"] [] := by
  obtain ⟨fd, F⟩ := c.def_ 18 (d := dd__law_lacks) rfl
  have F2 : Fun K "_law_lacks" "_law_lacks" S__law_lacks _ fd := He5.fun_of F
  exact ⟨_, fd, He.glo_ok X G (c.fact 18 (f := .glo "_law_lacks") rfl), F2, F2.binds (ps := ["custom", "wishes"]) (fun _ _ _ _ _ _ us hl => match us, hl with | [_, _], _ => rfl)⟩
theorem fn__law_starving (X : K.In h) (G : h.Ns mainGlobals mg) (c : He.SaysD faL fnL K) : ∃ f fd, mg "_law_starving" = some (.ref f) ∧ Fun K "_law_starving" "_law_starving" S__law_starving f fd ∧ Binds K fd ["custom"] [] := by
  obtain ⟨fd, F⟩ := c.def_ 19 (d := dd__law_starving) rfl
  have F2 : Fun K "_law_starving" "_law_starving" S__law_starving _ fd := He5.fun_of F
  exact ⟨_, fd, He.glo_ok X G (c.fact 19 (f := .glo "_law_starving") rfl), F2, F2.binds (ps := ["custom"]) (fun _ _ _ _ _ _ us hl => match us, hl with | [_], _ => rfl)⟩
theorem fn_law (X : K.In h) (G : h.Ns mainGlobals mg) (c : He.SaysD faL fnL K) : ∃ f fd, mg "law" = some (.ref f) ∧ Fun K "law" "law" S_law f fd ∧ Binds K fd ["script"] [] := by
  obtain ⟨fd, F⟩ := c.def_ 20 (d := dd_law) rfl
  have F2 : Fun K "law" "law" S_law _ fd := He5.fun_of F
  exact ⟨_, fd, He.glo_ok X G (c.fact 20 (f := .glo "law") rfl), F2, F2.binds (ps := ["script"]) (fun _ _ _ _ _ _ us hl => match us, hl with | [_], _ => rfl)⟩
theorem bn_of (X : K.In h) (G : h.Ns mainGlobals mg) (c : He.SaysD faL fnL K) : Bn mg := ⟨He.free_ok X G (c.fact 21 (f := .free "sorted") rfl), He.free_ok X G (c.fact 22 (f := .free "enumerate") rfl), He.free_ok X G (c.fact 23 (f := .free "tuple") rfl), He.free_ok X G (c.fact 24 (f := .free "max") rfl), He.free_ok X G (c.fact 25 (f := .free "min") rfl), He.free_ok X G (c.fact 26 (f := .free "range") rfl), He.free_ok X G (c.fact 27 (f := .free "len") rfl), He.free_ok X G (c.fact 28 (f := .free "zip") rfl), He.free_ok X G (c.fact 29 (f := .free "all") rfl), He.free_ok X G (c.fact 30 (f := .free "any") rfl), He.free_ok X G (c.fact 31 (f := .free "isinstance") rfl), He.free_ok X G (c.fact 32 (f := .free "int") rfl), He.free_ok X G (c.fact 33 (f := .free "bool") rfl), He.free_ok X G (c.fact 34 (f := .free "str") rfl), He.free_ok X G (c.fact 35 (f := .free "list") rfl), He.free_ok X G (c.fact 36 (f := .free "sum") rfl), He.free_ok X G (c.fact 37 (f := .free "divmod") rfl), He.free_ok X G (c.fact 38 (f := .free "dict") rfl)⟩
theorem mo_MOST (X : K.In h) (G : h.Ns mainGlobals mg) (c : He.SaysD faL fnL K) : ∃ t, mg "MOST" = some (.int 2000 t) := He.int_ok X G (c.fact 39 (f := .int "MOST" 2000) rfl)
theorem ex_glo (X : K.In h) (G : h.Ns mainGlobals mg) (c : He.SaysD faL fnL K) : ∀ y ∈ excN, mg y = some (.ref (He.ga K y)) := by
  intro y hy
  rcases List.mem_cons.mp hy with rfl | hy
  · exact He.glo_ok X G (c.fact 41 (f := .glo "NoCustom") rfl)
  rcases List.mem_cons.mp hy with rfl | hy
  · exact He.glo_ok X G (c.fact 42 (f := .glo "NoHand") rfl)
  rcases List.mem_cons.mp hy with rfl | hy
  · exact He.glo_ok X G (c.fact 43 (f := .glo "NoTurns") rfl)
  rcases List.mem_cons.mp hy with rfl | hy
  · exact He.glo_ok X G (c.fact 44 (f := .glo "NoWish") rfl)
  rcases List.mem_cons.mp hy with rfl | hy
  · exact He.glo_ok X G (c.fact 45 (f := .glo "NoWishes") rfl)
  rcases List.mem_cons.mp hy with rfl | hy
  · exact He.glo_ok X G (c.fact 46 (f := .glo "TooMany") rfl)
  rcases List.mem_cons.mp hy with rfl | hy
  · exact He.glo_ok X G (c.fact 47 (f := .glo "Unlike") rfl)
  cases hy
theorem we_glo (X : K.In h) (G : h.Ns mainGlobals mg) (c : He.SaysD faL fnL K) : mg "WishError" = some (.ref (He.ga K "WishError")) := He.glo_ok X G (c.fact 40 (f := .glo "WishError") rfl)
theorem ve_free (X : K.In h) (G : h.Ns mainGlobals mg) (c : He.SaysD faL fnL K) : mg "ValueError" = none := He.free_ok X G (c.fact 48 (f := .free "ValueError") rfl)
theorem fn_TooMany (c : He.SaysD faL fnL K) : ∃ fd, Fun K "__init__" "TooMany.__init__" S_TooMany___init__ (He.ma K (He.ga K "TooMany") "__init__") fd ∧ Binds K fd ["self", "most"] [] := by
  obtain ⟨fd, F⟩ := c.def_ 21 (d := dd_TooMany___init__) rfl
  have F2 : Fun K "__init__" "TooMany.__init__" S_TooMany___init__ (He.ma K (He.ga K "TooMany") "__init__") fd := He5.fun_of F
  exact ⟨fd, F2, F2.binds (ps := ["self", "most"]) (fun _ _ _ _ _ _ us hl => match us, hl with | [_, _], _ => rfl)⟩
end

theorem law_all {P : Program} {w : World} {K : PySem.W.Frag} {mg mb : Str → Option Value} {fa a : Addr} {s1 : Shared} {vs : List Value} {ns : List Int} (KX : K.In s1.heap) (hns : s1.heap.Ns mainGlobals mg) (hb : s1.heap.Ns builtinsNs mb) (hbb : ∀ y : Str, y ≠ "__name__" → mb y = bootBuiltins y) (hlim : s1.heap.NoLimit) (hg : s1.gens = #[])
    (ha : s1.heap.get? a = some { cls := .type "list", data := .seq vs.toArray }) (hi : IntsAre vs ns) (hl : ns.length ≤ 63) (hbm : ∃ (bm : Addr) (ob : Obj), mg "__builtins__" = some (.ref bm) ∧ bm ≠ builtinsNs ∧ s1.heap.get? bm = some ob ∧ ob.cls = .type "module" ∧ ob.dict = some builtinsNs ∧ ob.data = .plain) (X : SayY faL fnL tfL exL s1.heap K) (hmg : mg "law" = some (.ref fa)) :
    codeAny (model P w) callerA (.call (.ref fa) ⟨[.ref a], []⟩) (fun r s' => r = .ok (.ret (.bool true)) ∧ OldK s1.heap s'.heap ∧ s'.os = s1.os ∧ AllBare s'.gens) s1 := by
  have c := X.d
  have B := bn_of KX hns c
  obtain ⟨f1, fd1, m1, F1, b1⟩ := fn_one_turn KX hns c
  obtain ⟨f2, fd2, m2, F2, b2⟩ := fn_walked KX hns c
  obtain ⟨f3, fd3, m3, F3, b3⟩ := fn_caps KX hns c
  obtain ⟨f4, fd4, m4, F4, b4⟩ := fn_all_wishes KX hns c
  obtain ⟨f5, fd5, m5, F5, b5⟩ := fn_longest KX hns c
  obtain ⟨f6, fd6, m6, F6, b6⟩ := fn_lacks KX hns c
  obtain ⟨f7, fd7, m7, F7, b7⟩ := fn_starving KX hns c
  obtain ⟨f8, fd8, m8, F8, b8⟩ := fn__law_deck KX hns c
  obtain ⟨f9, fd9, m9, F9, b9⟩ := fn__law_pick KX hns c
  obtain ⟨f10, fd10, m10, F10, b10⟩ := fn__law_name_of KX hns c
  obtain ⟨f11, fd11, m11, F11, b11⟩ := fn__law_try KX hns c
  obtain ⟨f12, fd12, m12, F12, b12⟩ := fn__law_custom KX hns c
  obtain ⟨f13, fd13, m13, F13, b13⟩ := fn__law_wishes KX hns c
  obtain ⟨f14, fd14, m14, F14, b14⟩ := fn__law_had KX hns c
  obtain ⟨f15, fd15, m15, F15, b15⟩ := fn__law_after KX hns c
  obtain ⟨f16, fd16, m16, F16, b16⟩ := fn__law_all KX hns c
  obtain ⟨f17, fd17, m17, F17, b17⟩ := fn__law_small KX hns c
  obtain ⟨f18, fd18, m18, F18, b18⟩ := fn__law_line KX hns c
  obtain ⟨f19, fd19, m19, F19, b19⟩ := fn__law_lacks KX hns c
  obtain ⟨f20, fd20, m20, F20, b20⟩ := fn__law_starving KX hns c
  obtain ⟨f21, fd21, m21, F21, b21⟩ := fn_law KX hns c
  have e : f21 = fa := by
    have z := m21.symm.trans hmg
    cases z; rfl
  subst e
  have hroom : Room (6 + 1) callerA := ⟨rfl, by decide, by decide⟩
  obtain ⟨tb1, tb2, tb3⟩ := X.tb ("law", none) (List.mem_singleton.mpr rfl)
  have hga : He.ga K "law" = f21 := by
    have z := He.glo_ok KX hns (c.fact 20 (f := .glo "law") rfl)
    rw [hmg] at z
    cases z; rfl
  have hcode := code_is F21 hga
  have EG := ex_glo KX hns c
  refine law_runT (c := (He.cT K ("law", none)).1) (T := (He.cT K ("law", none)).2) (k := 6) KX hns hb hbb hlim hg tb3 tb2 (PySem.W.codeHd_of_K KX tb1) hbm ha hi (Nat.le_trans hl (by decide)) hroom F21 scLaw (fun _ _ _ _ _ _ _ => rfl) fun base cdv A outer s H E hTB hcdv hr hT hS => ?_
  obtain rfl : cdv = _ := hcdv.symm.trans hcode
  have M20 := mo_MOST KX hns c
  have G1 : Cal P w K mg base 1 "one_turn" 2 (spP prOne) := cal_mk F1 m1 b1 (ok_one_turn F1 B)
  have G2 : Cal P w K mg base 2 "walked" 2 (spWalk) := cal_mk F2 m2 b2 (ok_walked F2 B G1)
  have G3 : Cal P w K mg base 1 "caps" 1 (spP prCaps) := cal_mk F3 m3 b3 (ok_caps F3 B)
  have G4 : Cal P w K mg base 2 "all_wishes" 2 (spP prAll) := cal_mk F4 m4 b4 (ok_all_wishes F4 B G3)
  have G5 : Cal P w K mg base 1 "longest" 2 (spP prLong) := cal_mk F5 m5 b5 (ok_longest F5 B)
  have G6 : Cal P w K mg base 3 "lacks" 2 (spP prLacks) := cal_mk F6 m6 b6 (ok_lacks F6 B G2 G5)
  have G7 : Cal P w K mg base 3 "starving" 1 (spP prSt) := cal_mk F7 m7 b7 (ok_starving F7 B M20 G4 G2)
  have G8 : Cal P w K mg base 1 "_law_deck" 2 (spDeck) := cal_mk F8 m8 b8 (ok__law_deck F8 )
  have G9 : Cal P w K mg base 1 "_law_pick" 2 (spK 1 prePick prPick) := cal_mk F9 m9 b9 (ok__law_pick F9 )
  have G12 : Cal P w K mg base 2 "_law_custom" 3 (spK 40 preCus prCus) := cal_mk F12 m12 b12 (ok__law_custom F12 B G9)
  have G13 : Cal P w K mg base 2 "_law_wishes" 2 (spK 4 preLwi prLwi) := cal_mk F13 m13 b13 (ok__law_wishes F13 B G9)
  have G14 : Cal P w K mg base 1 "_law_had" 2 (spP prHad) := cal_mk F14 m14 b14 (ok__law_had F14 B)
  have G15 : Cal P w K mg base 2 "_law_after" 2 (spP prOne) := cal_mk F15 m15 b15 (ok__law_after F15 B G14)
  have G16 : Cal P w K mg base 1 "_law_all" 1 (spP prLAll) := cal_mk F16 m16 b16 (ok__law_all F16 B)
  have G17 : Cal P w K mg base 3 "_law_small" 2 (spK 40 (fun ds => ds = [.int 5]) (prSmT 5)) := cal_mk F17 m17 b17 (ok__law_smallT 5 (by decide) F17 B G12)
  have G18 : Cal P w K mg base 3 "_law_line" 2 (spP prLine) := cal_mk F18 m18 b18 (ok__law_line F18 B G15)
  have G19 : Cal P w K mg base 4 "_law_lacks" 2 (spP prLacks) := cal_mk F19 m19 b19 (ok__law_lacks F19 B G18)
  have G20 : Cal P w K mg base 5 "_law_starving" 1 (spP prLSt) := cal_mk F20 m20 b20 (ok__law_starving F20 B G16 G19)
  have hex := X.more
  unfold exL at hex
  rw [Bool.and_eq_true] at hex
  obtain ⟨TM, XF⟩ := tmB_ok hex.2 (EG _ (by simp [excN])) (we_glo KX hns c)
  obtain ⟨fdT, FT, bT⟩ := fn_TooMany c
  have GT := ok_tm (P := P) (w := w) (mg := mg) (base := base) FT TM
  have TC : TryC K mg (He.ga K "TooMany") (He.ga K "TooMany") (He.ga K "WishError") (some 2000) false false false false false true false := tcB_ok hex.1 EG (ve_free KX hns c) fun n hn => ⟨XF, TM.no, by cases hn; decide +kernel, by cases hn; decide +kernel⟩
  have GAX : CalX P w K mg base 3 "all_wishes" 2 (spX (He.ga K "TooMany") (some 2000) (fun ds => preAllX ds 2000)) := calX_mk F4 m4 b4 (ok_all_wishesX F4 B G3 TM bT GT 2000)
  have GSX : CalX P w K mg base 4 "starving" 1 (spX (He.ga K "TooMany") (some 2000) (fun ds => ∃ c, ds = [cuD c] ∧ WfC c ∧ 2000 < sizeI (capsI c))) := calX_mk F7 m7 b7 (ok_starvingX F7 B M20 GAX)
  exact law_body hl B ⟨⟨f11, fd11, m11, F11, b11⟩, ⟨f10, fd10, m10, F10, b10⟩, EG _ (by simp [excN]), we_glo KX hns c⟩ TC G7 GSX G6 G8 G17 G13 G20 G19 A outer s H E hTB hr hT hS
end Tw
open PySem PySem.W PySem.Calls PyProof.Rows
theorem PySem.Challenge.cw_tirewish_k04_whole_nobody_lacks_longer_holds : PySem.Challenge.rw_tirewish_k04_whole_nobody_lacks_longer.Holds := by
  w_on; o_law
  refine HandSHeadRun.head_any (r := OpenLaw.row PySem.Challenge.rw_tirewish_k04_whole_nobody_lacks_longer) (q := view (OpenLaw.row PySem.Challenge.rw_tirewish_k04_whole_nobody_lacks_longer).prog [Tw.lawAt]) (H := Tw.hkL) (ob := Tw.obL) (M := 8000) (loose := Tw.looseL) (d := HandSHeadRun.topDef (OpenLaw.row PySem.Challenge.rw_tirewish_k04_whole_nobody_lacks_longer).prog Tw.lawAt) (kwd := []) Tw.obL_eq
    (by kernel_rfl) (fun s => by kernel_rfl) Tw.runL (by kernel_rfl) (by kernel_rfl) (by kernel_rfl) (by rfl) (by first | assumption | decide +kernel) (by decide +kernel) ⟨rfl, rfl, rfl, rfl, rfl, by decide +kernel⟩ ?hw ?hc
  case hw => w_witness2
  case hc =>
    refine Att.attach_call (l := PySem.Challenge.rw_tirewish_k04_whole_nobody_lacks_longer) (n := 63) rfl (by kernel_rfl) fun w s₀ s₁ mg mb fa o pm cd doc a vs ns G Y ho hd hcd hmg0 hobj hints hlen hg => ?_
    obtain ⟨K, KX, X⟩ := Y
    have hmg : mg ("law" : PySem.Str) = some (.ref fa) := by
      have e : (HandSHeadRun.topDef (OpenLaw.row PySem.Challenge.rw_tirewish_k04_whole_nobody_lacks_longer).prog Tw.lawAt).name = ("law" : PySem.Str) := by kernel_rfl
      rw [← e]
      exact hmg0
    exact Tw.law_all KX G.T.g G.T.b G.T.builtins G.T.nolimit hg hobj hints hlen (hbm := G.T.bmain) (X := X) hmg

