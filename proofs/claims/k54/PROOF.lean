import PyProof.Rows.All
import HandS.ForMost
import HandS.Evl
import HandS.Walk
import HandS.Gcd
import HandS.IsInst
import HandS.SortInts
import HandS.Conv
import HandS.SetFor
import HandS.Strs
import HandS.TupAny
import HandS.DictTup
import HandS.Deep
import KE.SortData
import KE.KMathGC
import KE.KDictWalk
import KE.GoesEnum
import PySem.Challenge.RW_everynext_k54_whole_counts_by_all_charts
set_option Elab.async false
set_option linter.all false
set_option maxRecDepth 100000
set_option maxHeartbeats 4000000
/-! K54A: data on a known part of the heap; what evaluates to data. -/
namespace K54
open PySem PySem.Spec PyProof.Rows L2 Evl

/-! ### the known part Hb of a heap H; behind a step the known part is Hn of H' -/
structure Gr (Hb H Hn H' : Hp) : Prop where
  base : Ex Hb Hn
  new : Ex Hn H'
  all : Ex H H'
  sep : ∀ b o, H b = some o → Hb b = none → Hn b = none
theorem Gr.refl {Hb H : Hp} (e : Ex Hb H) : Gr Hb H Hb H := ⟨Ex.refl _, e, Ex.refl _, fun _ _ _ h => h⟩
theorem Gr.trans {Hb H Hn H1 Hm H2 : Hp} (a : Gr Hb H Hn H1) (b : Gr Hn H1 Hm H2) : Gr Hb H Hm H2 :=
  ⟨a.base.trans b.base, b.new, a.all.trans b.all, fun c o h1 h2 => b.sep c o (a.all c o h1) (a.sep c o h1 h2)⟩
/-- nothing known is new -/
theorem Gr.keep {Hb H H' : Hp} (e : Ex Hb H) (a : Ex H H') : Gr Hb H Hb H' := ⟨Ex.refl _, e.trans a, a, fun _ _ _ h => h⟩
theorem Gr.more {Hb H Hn H' H2 : Hp} (g : Gr Hb H Hn H') (a : Ex H' H2) : Gr Hb H Hn H2 := ⟨g.base, g.new.trans a, g.all.trans a, g.sep⟩
/-- a new object becomes known -/
theorem Gr.lay {Hb H Hn H' : Hp} {p : Addr} {o : HO} (g : Gr Hb H Hn H') (hp : H' p = none) : Gr Hb H (upd Hn p o) (upd H' p o) := by
  have hn : Hn p = none := fresh_back g.new hp
  refine ⟨g.base.trans (Ex.new hn), fun b u e => ?_, g.all.trans (Ex.new hp), fun b u h1 h2 => ?_⟩
  · by_cases hb : b = p
    · subst hb
      rw [upd_same] at e ⊢
      exact e
    · rw [upd_ne hb] at e ⊢
      exact g.new b u e
  · have hb : b ≠ p := ne_of_none (g.all b u h1) hp
    rw [upd_ne hb]
    exact g.sep b u h1 h2
/-- an object that stands, new and unknown, becomes known -/
theorem Gr.own {Hb H Hn H' : Hp} {p : Addr} {o : HO} (g : Gr Hb H Hn H') (hp : H p = none) (hn : Hn p = none) (h : H' p = some o) : Gr Hb H (upd Hn p o) H' := by
  refine ⟨g.base.trans (Ex.new hn), fun b u e => ?_, g.all, fun b u h1 h2 => ?_⟩
  · by_cases hb : b = p
    · subst hb
      rw [upd_same] at e
      rw [h]
      exact e
    · rw [upd_ne hb] at e
      exact g.new b u e
  · have hb : b ≠ p := ne_of_none h1 hp
    rw [upd_ne hb]
    exact g.sep b u h1 h2
/-- an unknown object is written -/
theorem Gr.mut {Hb H Hn H' : Hp} {p : Addr} {o : HO} (g : Gr Hb H Hn H') (hp : H p = none) (hn : Hn p = none) : Gr Hb H Hn (upd H' p o) :=
  ⟨g.base, g.new.mut hn, g.all.mut hp, g.sep⟩

/-! ### data -/
section
variable {K : PySem.W.Frag} {H H' : Hp}
mutual
theorem dp_mono (e : Ex H H') : ∀ (d : PyData) (v : V), Dp K H v d → Dp K H' v d
  | .none, _, h => by cases h; exact .non
  | .bool _, _, h => by cases h; exact .bl _
  | .int _, _, h => by cases h; exact .int _
  | .str _, _, h => by cases h; exact .str _
  | .list ds, _, h => by
    cases h with
    | lst a b => exact .lst (ex_l e a) (dpAll_mono e ds _ b)
  | .tuple ds, _, h => by
    cases h with
    | tup a b => exact .tup (ex_t e a) (dpAll_mono e ds _ b)
  | .dict _, _, h => nomatch h
theorem dpAll_mono (e : Ex H H') : ∀ (ds : List PyData) (vs : List V), DpAll K H vs ds → DpAll K H' vs ds
  | [], _, h => by cases h; exact .nil
  | d :: ds, _, h => by
    cases h with
    | cons a b => exact .cons (dp_mono e d _ a) (dpAll_mono e ds _ b)
end
theorem _root_.L2.Dp.up {v : V} {d : PyData} (h : Dp K H v d) (e : Ex H H') : Dp K H' v d := dp_mono e d v h
theorem _root_.L2.DpAll.up {vs : List V} {ds : List PyData} (h : DpAll K H vs ds) (e : Ex H H') : DpAll K H' vs ds := dpAll_mono e ds vs h
theorem _root_.L2.DpAll.length {vs : List V} : ∀ {ds : List PyData}, DpAll K H vs ds → vs.length = ds.length := by
  induction vs with
  | nil => intro ds h; cases h; rfl
  | cons v vs ih => intro ds h; cases h with
    | cons a b => rw [List.length_cons, List.length_cons, ih b]
theorem dpAll_get : ∀ {vs : List V} {ds : List PyData} {i : Nat} {v : V}, DpAll K H vs ds → vs[i]? = some v → ∃ d, ds[i]? = some d ∧ Dp K H v d
  | _, _, i, v, .nil, h => by simp at h
  | _, _, 0, v, .cons a _, h => by
    simp only [List.getElem?_cons_zero, Option.some.injEq] at h
    subst h
    exact ⟨_, rfl, a⟩
  | _, _, i + 1, v, .cons _ b, h => by
    simp only [List.getElem?_cons_succ] at h
    obtain ⟨d, h1, h2⟩ := dpAll_get b h
    exact ⟨d, by simpa using h1, h2⟩
theorem dpAll_get' : ∀ {vs : List V} {ds : List PyData} {i : Nat} {d : PyData}, DpAll K H vs ds → ds[i]? = some d → ∃ v, vs[i]? = some v ∧ Dp K H v d
  | _, _, i, d, .nil, h => by simp at h
  | _, _, 0, d, .cons a _, h => by
    simp only [List.getElem?_cons_zero, Option.some.injEq] at h
    subst h
    exact ⟨_, rfl, a⟩
  | _, _, i + 1, d, .cons _ b, h => by
    simp only [List.getElem?_cons_succ] at h
    obtain ⟨v, h1, h2⟩ := dpAll_get' b h
    exact ⟨v, by simpa using h1, h2⟩
theorem dpAll_append : ∀ {vs ws : List V} {ds es : List PyData}, DpAll K H vs ds → DpAll K H ws es → DpAll K H (vs ++ ws) (ds ++ es)
  | _, _, _, _, .nil, b => b
  | _, _, _, _, .cons a r, b => .cons a (dpAll_append r b)
theorem _root_.L2.DpAll.one {v : V} {d : PyData} (h : Dp K H v d) : DpAll K H [v] [d] := .cons h .nil
theorem dp_int {v : V} {n : Int} (h : Dp K H v (.int n)) : v = .int n := by cases h; rfl
theorem dp_list {v : V} {ds : List PyData} (h : Dp K H v (.list ds)) : ∃ a xs, v = .ref a ∧ SqL K H a xs ∧ DpAll K H xs ds := by
  cases h with
  | lst a b => exact ⟨_, _, rfl, a, b⟩
theorem dp_tuple {v : V} {ds : List PyData} (h : Dp K H v (.tuple ds)) : ∃ a xs, v = .ref a ∧ SqT K H a xs ∧ DpAll K H xs ds := by
  cases h with
  | tup a b => exact ⟨_, _, rfl, a, b⟩
/-- ints as data -/
abbrev dI (n : Int) : PyData := .int n
abbrev dIs (ns : List Int) : List PyData := ns.map PyData.int
theorem dpAll_ints : ∀ {ns : List Int} {xs : List V}, DpAll K H xs (dIs ns) → xs = ns.map V.int
  | [], _, h => by
    have h' : DpAll K H _ [] := h
    cases h'
    rfl
  | n :: ns, _, h => by
    have h' : DpAll K H _ (.int n :: dIs ns) := h
    cases h' with
    | cons a b =>
      rw [dp_int a, dpAll_ints b]
      rfl
theorem ints_dpAll : ∀ (ns : List Int), DpAll K H (ns.map V.int) (dIs ns)
  | [] => .nil
  | n :: ns => .cons (.int n) (ints_dpAll ns)
theorem dp_listI {v : V} {ns : List Int} (h : Dp K H v (.list (dIs ns))) : ∃ a, v = .ref a ∧ SqL K H a (ns.map V.int) := by
  obtain ⟨a, xs, e, s, r⟩ := dp_list h
  rw [dpAll_ints r] at s
  exact ⟨a, e, s⟩
theorem dp_tupI {v : V} {ns : List Int} (h : Dp K H v (.tuple (dIs ns))) : ∃ a, v = .ref a ∧ SqT K H a (ns.map V.int) := by
  obtain ⟨a, xs, e, s, r⟩ := dp_tuple h
  rw [dpAll_ints r] at s
  exact ⟨a, e, s⟩
theorem listI_dp {a : Addr} {ns : List Int} (h : SqL K H a (ns.map V.int)) : Dp K H (.ref a) (.list (dIs ns)) := .lst h (ints_dpAll ns)
theorem tupI_dp {a : Addr} {ns : List Int} (h : SqT K H a (ns.map V.int)) : Dp K H (.ref a) (.tuple (dIs ns)) := .tup h (ints_dpAll ns)
end

/-! ### what evaluates to data -/
def EvD (K : PySem.W.Frag) (te : TE) (σ : L2.St) (Hb : Hp) (d : PyData) : Prop := ∀ H, Ex Hb H → ∀ Q : VK, (∀ v Hn H', Gr Hb H Hn H' → Dp K Hn v d → Q v H') → te σ H Q
/-- .. to a new list that nothing known holds -/
def EvF (K : PySem.W.Frag) (te : TE) (σ : L2.St) (Hb : Hp) (ds : List PyData) : Prop := ∀ H, Ex Hb H → ∀ Q : VK, (∀ p xs Hn H', Gr Hb H Hn H' → H p = none → Hn p = none → H' p = some (.lst xs) → DpAll K Hn xs ds → Q (.ref p) H') → te σ H Q
def EvAD (K : PySem.W.Frag) (ta : TA) (σ : L2.St) (Hb : Hp) (ds : List PyData) : Prop := ∀ H, Ex Hb H → ∀ Q : List V → Hp → Prop, (∀ vs Hn H', Gr Hb H Hn H' → DpAll K Hn vs ds → Q vs H') → ta σ H Q
/-- a def's promise: data in, data out -/
def RetD (K : PySem.W.Frag) (d : PyData) (Hb H : Hp) (Q : VK) : Prop := ∀ v Hn H', Gr Hb H Hn H' → Dp K Hn v d → Q v H'
def RetF (K : PySem.W.Frag) (ds : List PyData) (Hb H : Hp) (Q : VK) : Prop := ∀ p xs Hn H', Gr Hb H Hn H' → H p = none → Hn p = none → H' p = some (.lst xs) → DpAll K Hn xs ds → Q (.ref p) H'
def spD (K : PySem.W.Frag) (n : Nat) (pre : List PyData → Prop) (F : List PyData → PyData) : Sp := fun vs H Q _ => ∃ Hb ds, vs.length = n ∧ Ex Hb H ∧ DpAll K Hb vs ds ∧ pre ds ∧ RetD K (F ds) Hb H Q
def spF (K : PySem.W.Frag) (n : Nat) (pre : List PyData → Prop) (F : List PyData → List PyData) : Sp := fun vs H Q _ => ∃ Hb ds, vs.length = n ∧ Ex Hb H ∧ DpAll K Hb vs ds ∧ pre ds ∧ RetF K (F ds) Hb H Q
/-- .. ints in, one int out -/
def spI (n : Nat) (pre : List Int → Prop) (F : List Int → Int) : Sp := fun vs H Q _ => ∃ ns : List Int, vs = ns.map V.int ∧ ns.length = n ∧ pre ns ∧ ∀ H', Ex H H' → Q (.int (F ns)) H'
section
variable {K : PySem.W.Frag} {σ : L2.St} {Hb H H' : Hp} {ta tb te tx : TE} {t u : TT} {x y z v : V} {r : R2} {d : PyData}

theorem EvD.mono (e : Ex Hb H') (h : EvD K te σ Hb d) : EvD K te σ H' d := fun H eH Q q => by
  refine h H (e.trans eH) Q fun v Hn H2 g hd => ?_
  -- the known part with what was known already
  have base' : Ex H' fun b => if (H' b).isSome then H' b else Hn b := fun b o h1 => by
    show (if (H' b).isSome then H' b else Hn b) = some o
    rw [h1]
    rfl
  have up : Ex Hn fun b => if (H' b).isSome then H' b else Hn b := fun b o h1 => by
    show (if (H' b).isSome then H' b else Hn b) = some o
    cases h2 : H' b with
    | none => exact h1
    | some o2 =>
      have h3 : H b = some o2 := eH b o2 h2
      have h4 : H2 b = some o2 := g.all b o2 h3
      have h5 : H2 b = some o := g.new b o h1
      rw [h4] at h5
      exact h5
  refine q v (fun b => if (H' b).isSome then H' b else Hn b) H2 ⟨base', fun b o h1 => ?_, g.all, fun b o h1 h2 => ?_⟩ (hd.up up)
  · cases h2 : H' b with
    | none =>
      rw [h2] at h1
      exact g.new b o h1
    | some o2 =>
      rw [h2] at h1
      have h3 : H' b = some o := by rw [h2]; exact h1
      exact g.all b o (eH b o h3)
  · show (if (H' b).isSome then H' b else Hn b) = none
    rw [h2]
    show Hn b = none
    refine g.sep b o h1 ?_
    exact fresh_back e h2
theorem EvF.mono {ds : List PyData} (e : Ex Hb H') (h : EvF K te σ Hb ds) : EvF K te σ H' ds := fun H eH Q q => by
  refine h H (e.trans eH) Q fun p xs Hn H2 g hp hn hH hd => ?_
  have base' : Ex H' fun b => if (H' b).isSome then H' b else Hn b := fun b o h1 => by
    show (if (H' b).isSome then H' b else Hn b) = some o
    rw [h1]
    rfl
  have up : Ex Hn fun b => if (H' b).isSome then H' b else Hn b := fun b o h1 => by
    show (if (H' b).isSome then H' b else Hn b) = some o
    cases h2 : H' b with
    | none => exact h1
    | some o2 =>
      have h3 : H b = some o2 := eH b o2 h2
      have h4 : H2 b = some o2 := g.all b o2 h3
      have h5 : H2 b = some o := g.new b o h1
      rw [h4] at h5
      exact h5
  refine q p xs (fun b => if (H' b).isSome then H' b else Hn b) H2 ⟨base', fun b o h1 => ?_, g.all, fun b o h1 h2 => ?_⟩ hp ?_ hH (hd.up up)
  · cases h2 : H' b with
    | none =>
      rw [h2] at h1
      exact g.new b o h1
    | some o2 =>
      rw [h2] at h1
      have h3 : H' b = some o := by rw [h2]; exact h1
      exact g.all b o (eH b o h3)
  · show (if (H' b).isSome then H' b else Hn b) = none
    rw [h2]
    show Hn b = none
    exact g.sep b o h1 (fresh_back e h2)
  · show (if (H' p).isSome then H' p else Hn p) = none
    rw [fresh_back eH hp]
    exact hn
/-- an int -/
theorem ed_int {n : Int} (h : Ev te σ Hb (.int n)) : EvD K te σ Hb (.int n) := fun H e Q q => h H e Q fun H2 e2 => q _ _ H2 (Gr.keep e e2) (.int n)
theorem ev_int {n : Int} (h : EvD K te σ Hb (.int n)) : Ev te σ Hb (.int n) := fun H e Q q => h H e Q fun v Hn H2 g hd => by
  rw [dp_int hd]
  exact q H2 g.all
theorem ed_var {i : Nat} (h : σ[i]? = some (some v)) (hd : Dp K Hb v d) : EvD K (tVar i) σ Hb d := fun H e Q q => ⟨v, h, q v Hb H (Gr.refl e) hd⟩
theorem EvF.toD {ds : List PyData} (h : EvF K te σ Hb ds) : EvD K te σ Hb (.list ds) := fun H e Q q => h H e Q fun p xs Hn H2 g hp hn hH hd =>
  q _ _ H2 (g.own hp hn hH) (.lst (sq_of upd_same) (hd.up (Ex.new hn)))
/-- a list of ints, new, by Evl -/
theorem ef_ints {ns : List Int} (h : EvL te σ Hb (ns.map V.int)) : EvF K te σ Hb (dIs ns) := fun H e Q q => h H e Q fun p H2 hp e2 h2 => q p _ Hb H2 (Gr.keep e e2) hp (fresh_back e hp) h2 (ints_dpAll ns)
theorem ea_d : EvAD K tNil σ Hb [] := fun H e Q q => q [] Hb H (Gr.refl e) .nil
theorem ea_dcons {tr : TA} {ds : List PyData} (h : EvD K ta σ Hb d) (hr : ∀ Hn, Ex Hb Hn → EvAD K tr σ Hn ds) : EvAD K (tCons ta tr) σ Hb (d :: ds) := fun H e Q q =>
  h H e _ fun v Hn H2 g hd => hr Hn g.base H2 g.new _ fun vs Hm H3 g2 hds => q _ Hm H3 (g.trans g2) (.cons (hd.up g2.base) hds)
theorem ea_ints {ta : TA} {ns : List Int} (h : EvA ta σ Hb (ns.map V.int)) : EvAD K ta σ Hb (dIs ns) := fun H e Q q => h H e Q fun H2 e2 => q _ Hb H2 (Gr.keep e e2) (ints_dpAll ns)
/-- calls -/
theorem ed_call {n : Nat} {pre : List PyData → Prop} {F : List PyData → PyData} {E : XK} {ta : TA} {ds : List PyData} (h : EvAD K ta σ Hb ds) (hp : pre ds) (hl : ds.length = n) : EvD K (tCall (spD K n pre F) [] E ta) σ Hb (F ds) := fun H e Q q =>
  h H e _ fun vs Hn H2 g hds => by
    show spD K n pre F (vs ++ []) H2 Q E
    rw [List.append_nil]
    exact ⟨Hn, ds, by rw [hds.length, hl], g.new, hds, hp, fun v Hm H3 g2 hd => q v Hm H3 (g.trans g2) hd⟩
theorem ef_call {n : Nat} {pre : List PyData → Prop} {F : List PyData → List PyData} {E : XK} {ta : TA} {ds : List PyData} (h : EvAD K ta σ Hb ds) (hp : pre ds) (hl : ds.length = n) : EvF K (tCall (spF K n pre F) [] E ta) σ Hb (F ds) := fun H e Q q =>
  h H e _ fun vs Hn H2 g hds => by
    show spF K n pre F (vs ++ []) H2 Q E
    rw [List.append_nil]
    exact ⟨Hn, ds, by rw [hds.length, hl], g.new, hds, hp, fun p xs Hm H3 g2 h1 h2 h3 hd => q p xs Hm H3 (g.trans g2) (fresh_back g.all h1) h2 h3 hd⟩
theorem ei_call {n : Nat} {pre : List Int → Prop} {F : List Int → Int} {E : XK} {ta : TA} {ns : List Int} (h : EvA ta σ Hb (ns.map V.int)) (hp : pre ns) (hl : ns.length = n) : Ev (tCall (spI n pre F) [] E ta) σ Hb (.int (F ns)) := fun H e Q q =>
  h H e _ fun H2 e2 => by
    show spI n pre F (ns.map V.int ++ []) H2 Q E
    rw [List.append_nil]
    exact ⟨ns, rfl, hl, hp, fun H3 e3 => q H3 (e2.trans e3)⟩
end
end K54
/-! K54B1: rules for calls that the layer lacks: comb, factorial, keywords alone, xs[i] += e, tuple.count, sum of a tuple. -/
namespace K54
open PySem PySem.Spec PyProof.Rows L2 Evl

section
variable {X : Cx}
/-! ### math -/
def rComb : List V → Hp → VK → Prop := fun vs H Q => ∃ a b : Int, vs = [.int a, .int b] ∧ (0 ≤ a ∧ a ≤ 1000 ∧ 0 ≤ b ∧ b ≤ 1000) ∧ Q (.int (PySem.W.mcComb a b)) H
theorem cr_comb : CallR X (.builtin "math.comb") rComb := by
  intro pins s σ H vs us Q I r h
  obtain ⟨a, b, rfl, ⟨h1, h2, h3, h4⟩, q⟩ := h
  obtain ⟨t, u, rfl⟩ := Vals.int2 r
  exact PySem.W.mc_comb h1 h3 (by omega) (.inl (by omega)) fun _ => ⟨.int _, H, I.tok _, ⟨_, rfl⟩, q⟩
def fac (n : Int) : Int := ((Builtin.Math.factorialNat n.toNat : Nat) : Int)
def rFact : List V → Hp → VK → Prop := fun vs H Q => ∃ a : Int, vs = [.int a] ∧ (0 ≤ a ∧ a ≤ 1000) ∧ Q (.int (fac a)) H
theorem cr_fact : CallR X (.builtin "math.factorial") rFact := by
  intro pins s σ H vs us Q I r h
  obtain ⟨a, rfl, ⟨h1, h2⟩, q⟩ := h
  cases r with
  | cons r0 rr =>
    cases rr
    obtain ⟨t, rfl⟩ := r0
    exact PySem.W.mc_factorial h1 (by omega) fun _ => ⟨.int _, H, I.tok _, ⟨_, rfl⟩, q⟩

/-! ### f(k = e, ..) -/
variable {CX : CXT} {k : Nat} {f : Addr} {fd : FuncData} {ps ks : List Str} {sp : Sp} {E : XK} {x : Str} {p pos : Pos} {kws : List Keyword} {tk : TA} {g : List Value → List Value → List Value} {gV : List V → List V → List V}
theorem pe_kw (F : FnOk X.prog X.w X.K X.mg X.base CX k f fd ps sp) (hr : Room k X.A) (hg : Gl X x) (hm : X.mg x = some (.ref f)) (hk : PySem.W.keepIn X.K (.ref f) = true)
    (hb : KBinds X.K fd ps ks g gV) (hx : Passes CX X E) (hkw : PK X kws tk)
    (hall : (backToKw pos (keywordEach kws X.env)).all (·.1.isSome) = true := by rfl)
    (hks : (backToKw pos (keywordEach kws X.env)).filterMap (·.1) = ks := by rfl)
    (hdb : (x == ("__debug__" : Str)) = false := by decide)
    (hpl : ((backTo pos (starEach [] X.env)).any (·.1) || (backToKw pos (keywordEach kws X.env)).any (·.1.isNone)) = false := by rfl) :
    PE X (.Call (.Name x p) [] kws pos) (tCallK sp gV E tNil tk) := by
  constructor
  intro pins s σ H Q I h
  refine wpAny_Call_Name_kw (ld_glob I hg hm ?_ hdb)
  refine PySem.W.callWith_KW0 (h₀ := X.base) I.ok.mod.kin hk hall ?_ hpl
  refine thn (hkw.run pos pins s σ H _ I h) ?_
  rintro ws s2 ⟨zs, H2, I2, rz, q2⟩
  refine ⟨I2.kIn, ?_⟩
  rw [hks]
  exact run_fnk (us := []) (vs := []) F hr hb hx I2 .nil rz q2

/-! ### the old item of xs[i] op= e -/
theorem pget_list : PGet X (rIxL X.K) := by
  intro pins s σ H o i ov iv Q I ro ri h
  obtain ⟨q0, xs, j, z, rfl, rfl, hq, he, q⟩ := h
  cases ro
  obtain ⟨t, rfl⟩ := ri
  obtain ⟨its, r, pl, hz⟩ := I.list hq
  obtain ⟨n, e1, e2, e3, e4, e5⟩ := atI_get he
  obtain ⟨w, ew, rw'⟩ := r.get e2
  have hl := r.length
  have hn := line63
  by_cases h0 : 0 ≤ j
  · have hj : j.toNat = n := by
      rw [seqIndex_of h0 e5] at e1
      exact Option.some.inj e1
    exact wpAny_getItem_list pl.isList h0 (by omega) (by rw [hj]; simpa using ew) ⟨z, H, I, rw', q⟩
  · have hj : (j + (its.toArray.size : Int)).toNat = n := by
      rw [seqIndex_neg (by omega) e4] at e1
      rw [List.size_toArray, ← hl]
      exact Option.some.inj e1
    exact wpAny_getItem_list_neg pl.isList (by omega) (by rw [List.size_toArray] <;> omega) (by omega) (by rw [hj]; simpa using ew) ⟨z, H, I, rw', q⟩

/-! ### t.count(k), a tuple of ints -/
def rCntT (K : PySem.W.Frag) : V → List V → Hp → VK → Prop := fun x xs H Q => ∃ (q : Addr) (ns : List Int) (k : Int), x = .ref q ∧ xs = [.int k] ∧ SqT K H q (ns.map V.int) ∧ Q (.int (ns.count k : Nat)) H
theorem mt_tcount : MtR X "tuple.count" (rCntT X.K) := by
  intro pins s σ H x xs v us Q I rx rxs h
  obtain ⟨a, ns, k, rfl, rfl, hs, q⟩ := h
  cases rx
  obtain ⟨u, rfl, ru⟩ := rxs.one
  obtain ⟨t, rfl⟩ := ru
  obtain ⟨its, rv, ⟨⟨cls, dd, data, sl⟩, ho, hc, n, hd⟩, hz⟩ := I.tuple hs
  simp only at hc hd
  subst hc
  subst hd
  have hi := ints_of_vals rv
  refine call_meets PySem.F.slot_tuple_count ⟨_, ho, rfl⟩ PySem.F.entry_tuple_count (PySem.F.args_tuple_count_2 _ _)
    (SeqAt.tuple_countAt a its.toArray n dd sl (.int k t) (eqk k)) ⟨ho, ?_, ?_⟩
  · intro y hy
    exact (eqk_gives hi y (by simpa using hy)).at _ _
  · have ec : its.toArray.toList.countP (eqk k) = ns.count k := eqk_count hi
    refine ⟨.int (ns.count k : Nat), H, I.tok _, ⟨s.toks, ?_⟩, q⟩
    exact congrArg (fun m : Nat => Value.int (m : Int) s.toks) ec

/-! ### sum(t), a tuple of ints -/
def rSumT (K : PySem.W.Frag) : List V → Hp → VK → Prop := fun vs H Q => ∃ (a : Addr) (ns : List Int), vs = [V.ref a] ∧ SqT K H a (ns.map V.int) ∧ Q (.int ns.sum) H
theorem preSum_list' (ns : List Int) : ∀ n, n ≤ ns.length → preSum (fun i => ns.getD i 0) n = (ns.take n).sum
  | 0, _ => by simp [preSum]
  | n + 1, h => by
    have h2 : n < ns.length := h
    have ih := preSum_list' ns n (Nat.le_of_lt h2)
    have e : ns.getD n 0 = ns[n] := by
      rw [List.getD_eq_getElem?_getD, List.getElem?_eq_getElem h2]
      rfl
    rw [sum_take (List.getElem?_eq_getElem h2), ← ih, ← e]
    rfl
theorem cr_sumT (hc : X.calm = true) : CallR X (.builtin "sum") (rSumT X.K) := by
  intro pins s σ H vs us Q I r h
  obtain ⟨a, ns, rfl, hs, q⟩ := h
  obtain ⟨its, rv, ht, hz⟩ := I.tuple hs
  rw [Vals.ref1 r]
  have hh := I.ok.hd hc
  have hi := ints_of_vals rv
  have hla : a < s.heap.objs.size := ht.lt
  have hlen : its.toArray.size = ns.length := by
    rw [List.size_toArray, ← rv.length, List.length_map]
  refine call_sum_walkG (wpAny_pyIter_tuple (items := its.toArray) ht ?_)
  refine ⟨_, _, _, _, _, _, fun i => ns.getD i 0, rfl, Walks.tuple (A := X.A.in1) hh s.heap.objs.size a (Nat.ne_of_lt hla) its.toArray, ⟨⟨_, Heap.get?_push_size _ rfl, rfl, rfl⟩, ?_⟩, ?_, ?_, ?_⟩
  · exact Heap.IsTuple.at (h := s.heap) ht fun o e => Heap.get?_push_of_some _ e
  · intro b hb
    show b < (s.heap.push _).objs.size
    rw [Heap.size_push]
    rcases List.mem_cons.mp hb with e | hb
    · rw [e]
      exact Nat.lt_succ_self _
    · rw [List.mem_singleton.mp hb]
      exact Nat.lt_succ_of_lt hla
  · intro i v hv
    obtain ⟨t, e⟩ := PyProof.Rows.IntsAre.int_at hi i v (by rw [← Array.getElem?_toList] at hv; exact hv)
    exact ⟨t, e⟩
  · intro h' tk t' hk
    have hk2 : ∀ b o, s.heap.get? b = some o → h'.get? b = some o := fun b o e => by
      refine hk b o (fun hb => ?_) (Heap.get?_push_of_some _ e)
      rw [List.mem_singleton.mp hb] at e
      exact absurd (Heap.lt_size e) (Nat.lt_irrefl _)
    refine ⟨.int ns.sum, H, I.kept (t' := tk) hk2, ⟨t', ?_⟩, q⟩
    rw [hlen, preSum_list' ns ns.length (Nat.le_refl _), List.take_length]
end
end K54
/-! K54B2: set(xs) of a list or a tuple of ints, its length, its sorted list. -/
namespace K54
open PySem PySem.Spec PyProof.Rows L2 Evl

/-- the set that set() begins with -/
abbrev set0 (w : World) : Obj := { cls := .type "set", dict := none, data := .set #[] 0 (.fresh 0 0 (!w.params.followText "set-order")) }
section
variable {P : Program} {w : World} {A : Around} {E : Value → Shared → Prop} {s : Shared}
theorem set_of_ints {l : Addr} {its : Array Value} {Q : Value → Shared → Prop} (ns : List Int)
    (noneHandled : A.handled = none) (isl : s.heap.IsList l its) (allI : IntsAre its.toList ns) (few : ns.length + 1 < scanBound)
    (go : ∀ (h2 : Heap) (tk n : Nat), SetR w h2 s.heap.objs.size (fun j => decide (j ∈ ns)) n → n ≤ ns.length →
      (∀ b o, s.heap.get? b = some o → h2.get? b = some o) → Q (.ref s.heap.objs.size) { s with heap := h2, toks := tk }) :
    wpAny (model P w) A (call (.type "set") [.ref l]) Q E s := by
  have len : its.size = ns.length := by
    rw [← IntsAre.length allI, Array.length_toList]
  obtain ⟨c, tl, mro⟩ := F.called_set.mro
  have made := F.called_set.made
  have subs := F.called_set.sub
  refine wpAny_call (codeAny_of_tree ?_)
  change wpAny _ _ (callAny (.type "set") _) _ _ _
  refine wpAny_pure ⟨Code.quiet_builtin _ (by decide +kernel), codeAny_builtin F.entry_type_call ?_⟩
  rw [Around.under_plain (weight_type_call_type "set" [.ref l] []) rfl]
  have a1 := F.called_set.notType
  have a2 := F.called_set.canCreate
  have a3 := F.typeCall_set_1 (.ref l)
  repeat (any_goals (first | assumption | wp_step))
  refine codeAny_mono (code_set_led1 (.ref l) (E := E) (Q₁ := fun ob s1 => ob = .ref s.heap.objs.size ∧ s1 = { s with heap := s.heap.push (set0 w) }) ⟨rfl, rfl⟩) ?_
  intro r s1 hr
  cases r with
  | error e => exact hr
  | ok fl =>
    cases fl with
    | ret ob =>
      obtain ⟨rfl, rfl⟩ := hr
      have at0 : (s.heap.push (set0 w)).get? s.heap.objs.size = some (set0 w) := Heap.get?_push_size _ rfl
      have ty0 : Shared.TypeIs { s with heap := s.heap.push (set0 w) } (.ref s.heap.objs.size) "set" := ⟨_, at0, rfl⟩
      have i1 := F.called_set.init.lookup
      have i2 := F.called_set.init.bind (.ref s.heap.objs.size)
      repeat (any_goals (first | assumption | wp_step))
      refine codeAny_mono (codeAny_call_builtin (R := wants (fun r s2 => r = .none ∧ ∃ h2 tk n, s2 = { s with heap := h2, toks := tk } ∧ SetR w h2 s.heap.objs.size (fun j => decide (j ∈ ns)) n ∧ n ≤ ns.length ∧
          ∀ b o, s.heap.get? b = some o → h2.get? b = some o) E) F.called_set.init.plain F.entry_set_init (check_set_init_1 ty0 ?_)) ?_
      · obtain ⟨ob, hob, hc, m, hd⟩ := isl
        obtain ⟨cl, di, da, sl⟩ := ob
        simp only at hc hd
        subst hc
        subst hd
        have old : (s.heap.push (set0 w)).get? l = some { cls := .type "list", dict := di, data := .seq its m, slots := sl } := Heap.get?_push_of_some _ hob
        have s1 := F.sub_list_set
        have s2 := F.sub_list_frozenset
        have s3 : (Value.type "list" == Value.type "dict") = false := by decide
        have isl1 : (s.heap.push (set0 w)).IsList l its := ⟨_, old, rfl, m, rfl⟩
        unfold Builtin.«set.__init__» noKeywords Builtin.Frozenset.updateFrom
        generalize hPI : pyIter = PI
        wp_walk
        subst hPI
        refine wpAny_pyIter_list isl1 ?_
        refine wpAny_bind (wpAny_runValue ?_)
        have lt0 : l < s.heap.objs.size := Heap.lt_size hob
        have nh : A.in1.in1.in1.handled = none := by simp [noneHandled]
        have sz : (s.heap.push (set0 w)).objs.size = s.heap.objs.size + 1 := Heap.size_push ..
        have ne1 : l ≠ (s.heap.push (set0 w)).objs.size := by
          rw [sz]
          exact Nat.ne_of_lt (Nat.lt_succ_of_lt lt0)
        have out1 : s.heap.objs.size ∉ [(s.heap.push (set0 w)).objs.size, l] := by
          rw [sz]
          intro hm
          rcases List.mem_cons.mp hm with e | e
          · exact absurd e (Nat.ne_of_lt (Nat.lt_succ_self _))
          · exact absurd (List.mem_singleton.mp e) (Nat.ne_of_gt lt0)
        have val : ∀ (i : Nat) (v : Value), its[i]? = some v → ∃ k t, ns[i]? = some k ∧ v = .int k t := by
          intro i v hv
          have hi : i < ns.length := by
            rw [← len]
            exact (Array.getElem?_eq_some_iff.mp hv).1
          obtain ⟨t, e⟩ := IntsAre.int_at allI i v (by rw [Array.getElem?_toList]; exact hv)
          refine ⟨ns[i], t, List.getElem?_eq_getElem hi, ?_⟩
          rw [e, List.getD_eq_getElem?_getD, List.getElem?_eq_getElem hi]
          rfl
        refine set_update_ints ((Walks.list nh _ l ne1 its).toS) s.heap.objs.size out1 ns len few val (its.size - 0) 0 _ (by omega) (Nat.zero_le _)
          ⟨⟨_, Heap.get?_push_size _ rfl, rfl, rfl⟩, isl1.push _⟩ ?first ?last
        case first =>
          exact ⟨0, Nat.le_refl 0, setR_new_at (Heap.get?_push_of_some _ at0)⟩
        case last =>
          intro s2 n hm hn hS
          obtain ⟨h2, g2, d2, tk2, os2⟩ := s2
          obtain rfl : g2 = s.gens := hm.gens
          obtain rfl : d2 = s.drawn := hm.drawn
          obtain rfl : os2 = s.os := hm.os
          change wpAny _ _ _ _ _ _
          refine wpAny_pure ?_
          change wpAny _ _ (ret Value.none) _ _ _
          rw [len] at hn
          refine wpAny_pure ⟨rfl, h2, tk2, n, rfl, hS, hn, ?_⟩
          intro b o e
          have b0 : b < s.heap.objs.size := Heap.lt_size e
          refine hm.heap b o ?_ (Heap.get?_push_of_some _ (Heap.get?_push_of_some _ e))
          intro hb
          rcases List.mem_cons.mp hb with z | z
          · exact absurd z (Nat.ne_of_lt b0)
          · rw [List.mem_singleton.mp z, sz] at b0
            exact Nat.lt_irrefl _ (Nat.lt_trans (Nat.lt_succ_self _) b0)
      · intro r2 s2 hr2
        cases r2 with
        | error e => exact hr2
        | ok fl2 =>
          cases fl2 with
          | ret r =>
            obtain ⟨rfl, h2, tk, n, rfl, hS, hn, hk⟩ := hr2
            repeat (any_goals (first | assumption | wp_step))
            exact go _ _ _ hS hn hk
          | _ => exact hr2.elim
    | _ => exact hr.elim
end
section
variable {X : Cx}
/-- set(xs), a list or a tuple of ints -/
def rSetI (K : PySem.W.Frag) (w : World) : List V → Hp → VK → Prop := fun vs H Q => ∃ (a : Addr) (ns : List Int), vs = [V.ref a] ∧ (SqL K H a (ns.map V.int) ∨ SqT K H a (ns.map V.int)) ∧ ns.length ≤ 1000 ∧
  ∀ (n : Nat) (p : Addr), n ≤ ns.length → H p = none → Q (.ref p) (upd H p (SetO w p (fun j => decide (j ∈ ns)) n))
theorem cr_setI (hc : X.calm = true) : CallR X (.type "set") (rSetI X.K X.w) := by
  intro pins s σ H vs us Q I r h
  obtain ⟨a, ns, rfl, hs, hl, q⟩ := h
  rw [Vals.ref1 r]
  have hh := I.ok.hd hc
  have fin : ∀ (h2 : Heap) (tk n : Nat), SetR X.w h2 s.heap.objs.size (fun j => decide (j ∈ ns)) n → n ≤ ns.length →
      (∀ b o, s.heap.get? b = some o → h2.get? b = some o) → EP X pins σ Q (.ref s.heap.objs.size) { s with heap := h2, toks := tk } := by
    intro h2 tk n R hn hk
    exact ⟨.ref s.heap.objs.size, _, I.laid (t' := tk) hk (Nat.le_refl _) (setO_new R), rfl, q n _ hn (I.hok.fresh (Nat.le_refl _))⟩
  rcases hs with hs | hs
  · obtain ⟨its, rv, pl, hz⟩ := I.list hs
    exact set_of_ints ns hh pl.isList (ints_of_vals rv) (by unfold scanBound; omega) fin
  · obtain ⟨its, rv, pt, hz⟩ := I.tuple hs
    exact call_set_tupI ns hh (show s.heap.IsTuple a its.toArray from pt) (ints_of_vals rv) (by unfold scanBound; omega) fin
/-- len(set) -/
def rLenSet (w : World) : List V → Hp → VK → Prop := fun vs H Q => ∃ (a : Addr) (S : Int → Bool) (n : Nat), vs = [V.ref a] ∧ H a = some (SetO w a S n) ∧ n < 100000 ∧
  ((∃ ns : List Int, ns.Nodup ∧ (∀ k, k ∈ ns ↔ S k = true) ∧ ns.length = n) → Q (.int n) H)
theorem cr_lenSet : CallR X (.builtin "len") (rLenSet X.w) := by
  intro pins s σ H vs us Q I r h
  obtain ⟨a, S, n, rfl, ha, hn0, q⟩ := h
  rw [Vals.ref1 r]
  obtain ⟨o, es, ep, t, ho, hex, hd, g, nd, hm, hb, hf, hn, hr, hl⟩ := setO_get I ha
  refine call_len_set ho hex hd hf (by omega) ⟨.int n, H, I.tok _, ⟨_, by rw [hn]⟩, q ⟨es.toList.map keyOf, nd, fun k => (hm k).symm, ?_⟩⟩
  rw [List.length_map, Array.length_toList]
  exact hn
end
end K54
/-! K54B3: sorted of a list of data; sorted(d.items()) of a dict of ints, keys ints or tuples of ints. -/
namespace K54
open PySem PySem.Spec PyProof.Rows L2 Evl
open PySem.W (EachIs)

abbrev dle (ds : List PyData) : List PyData := ds.mergeSort (PySem.W.dataLe false fun d => d)
theorem each_of {α β γ : Type} {F : α → β → Prop} {R : α → γ → Prop} : ∀ {as : List α} {bs : List β} {cs : List γ}, Paired F as bs → as.length = cs.length → (∀ (j : Nat) a b c, as[j]? = some a → bs[j]? = some b → cs[j]? = some c → F a b → R a c) → EachIs R as cs
  | _, _, [], .nil, _, _ => .nil
  | _, _, c :: cs, .nil, h, _ => by simp at h
  | _, _, [], .cons _ _, h, _ => by simp at h
  | a :: as, b :: bs, c :: cs, .cons f r, h, g => .cons (g 0 a b c rfl rfl rfl f) (each_of r (by simpa using h) fun j x y z h1 h2 h3 => g (j + 1) x y z (by simpa using h1) (by simpa using h2) (by simpa using h3))
section
variable {X : Cx} {pins : List (Addr × Obj)} {σ : L2.St} {H : Hp} {s : Shared}
theorem each_dp (I : Inv X pins σ H s) : ∀ {xs : List V} {its : List Value} {ds : List PyData}, Vals xs its → DpAll X.K H xs ds →
    EachIs (fun v d => ∃ x, RelV x v ∧ Dp X.K H x d) its ds
  | _, _, _, .nil, h => by
    cases h
    exact .nil
  | _, _, _, .cons r t, h => by
    cases h with
    | cons a b => exact .cons ⟨_, r, a⟩ (each_dp I t b)
theorem each_back : ∀ {its : List Value} {ds : List PyData}, EachIs (fun v d => ∃ x, RelV x v ∧ Dp X.K H x d) its ds → ∃ ys, Vals ys its ∧ DpAll X.K H ys ds
  | _, _, .nil => ⟨[], .nil, .nil⟩
  | _, _, .cons ⟨x, r, a⟩ t => by
    obtain ⟨ys, h1, h2⟩ := each_back t
    exact ⟨x :: ys, .cons r h1, .cons a h2⟩
end
section
variable {X : Cx}
/-- sorted(xs), a list of data that can be compared -/
def rSortD (K : PySem.W.Frag) : List V → Hp → VK → Prop := fun vs H Q => ∃ (a : Addr) (xs : List V) (ds : List PyData), vs = [V.ref a] ∧ SqL K H a xs ∧ DpAll K H xs ds ∧ PySem.W.AllAlike ds ∧ PySem.W.Sortable ds ∧ (∀ d ∈ ds, d.depth ≤ 50) ∧
  ∀ (p : Addr) (ys : List V), H p = none → DpAll K H ys (dle ds) → Q (.ref p) (upd H p (.lst ys))
theorem cr_sortD (hu : X.A.units + 64 < cLine) : CallR X (.builtin "sorted") (rSortD X.K) := by
  intro pins s σ H vs us Q I r h
  obtain ⟨a, xs, ds, rfl, hs, hd, al, so, dp, q⟩ := h
  rw [Vals.ref1 r]
  obtain ⟨its, rv, pl, hz⟩ := I.list hs
  have e1 := each_dp I rv hd
  have er : EachIs (fun v d => ∃ as, Reads s.heap v ((fun d => d) d) as) its ds := e1.mono fun v d ⟨x, rx, dx⟩ => Dp.reads I d x v dx rx
  have hl : xs.length = ds.length := hd.length
  refine PySem.W.sorted_data (enc := fun d => d) pl.isList e1 er (by simpa using al) (by simpa using so) (by omega) (fun b hb => by have := dp b hb; omega) ?_
  intro out ho eo
  obtain ⟨ys, rys, dys⟩ := each_back eo
  obtain ⟨c, hat⟩ := sortedAll_at s.heap its (List.toArray out)
  have hn : H (s.heap.objs.size + 1) = none := I.hok.fresh (Nat.le_succ _)
  have hyl : ys.length ≤ sizeLine := by rw [rys.length, ho]; omega
  exact ⟨.ref _, upd H (s.heap.objs.size + 1) (.lst ys), I.laid (t' := s.toks) (fun b o e => sortedAll_old e) (Nat.le_succ _) ⟨hyl, out, c, rys, hat⟩, rfl, q _ ys hn dys⟩

/-! ### sorted(d.items()) -/
theorem sort_items {pins : List (Addr × Obj)} {σ : L2.St} {H : Hp} {s : Shared} {Q : VK} {β : Type} {p a : Addr} {es : Array DictEntry} {ep : Nat} (hc : X.calm = true) (hu : X.A.units + 64 < cLine) (I : Inv X pins σ H s)
    (hv : s.heap.IsItemsView p a) (hm : DT.Raw s.heap a es ep) (bs : List β) (kv : β → V) (kd : β → PyData) (n : β → Int) (hbs : es.size = bs.length) (hz : bs.length ≤ sizeLine)
    (hk : ∀ (j : Nat) b e, bs[j]? = some b → es[j]? = some e → RelV (kv b) e.key ∧ Reads s.heap e.key (kd b) [] ∧ (kd b).depth ≤ 50 ∧ ∃ t, e.val = .int (n b) t)
    (al : PySem.W.AllAlike (bs.map fun b => .tuple [kd b, .int (n b)]))
    (q : ∀ (H' : Hp) (l : Addr) (ts : List Addr), Ex H H' → H l = none → H' l = some (.lst (ts.map V.ref)) →
      EachIs (fun t b => H t = none ∧ H' t = some (.tup [kv b, .int (n b)])) ts (bs.mergeSort (PySem.W.dataLe false fun b => .tuple [kd b, .int (n b)])) → Q (.ref l) H') :
    wpAny (model X.prog X.w) X.A (call (.builtin "sorted") [.ref p]) (EP X pins σ Q) X.xe s := by
  have hh := I.ok.hd hc
  refine DT.sortedI (es := es) (ep := ep) hh hv hm (by omega) ?_
  intro h1 tk as hkeep hlt hl hG
  have hla : as.length = bs.length := by omega
  have nd : as.Nodup := List.Pairwise.imp (fun h => Nat.ne_of_lt h) hG.rise
  have hob : (h1.push { cls := .type "list", data := .seq (as.map Value.ref).toArray }).get? h1.objs.size = some (seqObj "list" (as.map Value.ref).toArray 0) := Heap.get?_push_size _ rfl
  have k1 : ∀ b o, h1.get? b = some o → (h1.push { cls := .type "list", data := .seq (as.map Value.ref).toArray }).get? b = some o := fun b o e => Heap.get?_push_of_some _ e
  have ne1 : ∀ b o, h1.get? b = some o → b ≠ h1.objs.size := fun b o e => Nat.ne_of_lt (Heap.lt_size e)
  generalize h1.push { cls := .type "list", data := .seq (as.map Value.ref).toArray } = h2 at hob k1 ⊢
  have pr : ∀ (j : Nat) (t : Addr), as[j]? = some t → ∃ b e, bs[j]? = some b ∧ es[j]? = some e ∧ h1.get? t = some { cls := .type "tuple", data := .seq #[e.key, e.val] } := by
    intro j t hj
    obtain ⟨e, he, hg⟩ := hG.pairs j t hj
    have hlt2 : j < bs.length := by rw [← hla]; exact (List.getElem?_eq_some_iff.mp hj).1
    exact ⟨bs[j], e, List.getElem?_eq_getElem hlt2, he, hg⟩
  have eR : EachIs (fun (v : Value) (b : β) => ∃ (j : Nat) (t : Addr), v = .ref t ∧ as[j]? = some t ∧ bs[j]? = some b) (as.map Value.ref) bs := by
    have z : ∀ {ts : List Addr} {cs : List β} (i : Nat), ts.length = cs.length → (∀ (j : Nat) t, ts[j]? = some t → as[i + j]? = some t) → (∀ (j : Nat) b, cs[j]? = some b → bs[i + j]? = some b) →
        EachIs (fun (v : Value) (b : β) => ∃ (j : Nat) (t : Addr), v = .ref t ∧ as[j]? = some t ∧ bs[j]? = some b) (ts.map Value.ref) cs := by
      intro ts
      induction ts with
      | nil =>
        intro cs i h _ _
        cases cs with
        | nil => exact .nil
        | cons c cs => simp at h
      | cons t ts ih =>
        intro cs i h f g
        cases cs with
        | nil => simp at h
        | cons c cs =>
          refine .cons ⟨i, t, rfl, f 0 t rfl, g 0 c rfl⟩ (ih (i + 1) (by simpa using h) (fun j u hj => ?_) fun j u hj => ?_)
          · have := f (j + 1) u (by simpa using hj)
            rw [Nat.add_assoc, Nat.add_comm 1 j]
            exact this
          · have := g (j + 1) u (by simpa using hj)
            rw [Nat.add_assoc, Nat.add_comm 1 j]
            exact this
    exact z 0 hla (fun j t h => by rw [Nat.zero_add]; exact h) (fun j b h => by rw [Nat.zero_add]; exact h)
  have eD : EachIs (fun (v : Value) (b : β) => ∃ rs, Reads h2 v (PyData.tuple [kd b, .int (n b)]) rs ∧ h1.objs.size ∉ rs) (as.map Value.ref) bs := by
    refine eR.mono fun v b ⟨j, t, ev, h3, h4⟩ => ?_
    subst ev
    obtain ⟨b', e, h5, h6, h7⟩ := pr j t h3
    have eb : b' = b := Option.some.inj (h5.symm.trans h4)
    subst eb
    obtain ⟨_, rk, _, u, ev⟩ := hk j b' e h4 h6
    have rk2 : Reads h2 e.key (kd b') [] := PyProof.Rows.Reads.keeps (fun b o x => k1 b o (hkeep b o x)) rk
    refine ⟨[] ++ ([] ++ []), Reads.tuple (k1 _ _ h7) rfl rfl (.cons rk2 (.cons ?_ .nil)), by simp⟩
    rw [ev]
    exact .int _ _
  have dep : ∀ b, b ∈ bs → X.A.in1.units + 1 + (PyData.tuple [kd b, .int (n b)]).depth < cLine := by
    intro b hb
    obtain ⟨j, hj⟩ := List.mem_iff_getElem?.mp hb
    have hjl : j < es.size := by rw [hbs]; exact (List.getElem?_eq_some_iff.mp hj).1
    obtain ⟨_, _, h3, _⟩ := hk j b es[j] hj (Array.getElem?_eq_getElem hjl)
    have e4 : (PyData.tuple [kd b, .int (n b)]).depth ≤ 52 := by
      simp only [PyData.depth, PyData.depthAll]
      omega
    show X.A.units + 1 + 1 + _ < cLine
    omega
  refine PySem.W.list_sort_data (s := { s with heap := h2, toks := tk }) (enc := fun b => PyData.tuple [kd b, .int (n b)]) hob eR eD al (.inl fun d hd => ?_) hz dep ?_
  · obtain ⟨b, _, rfl⟩ := List.mem_map.mp hd
    exact ⟨_, _, rfl⟩
  · intro out ho eo
    show EP X pins σ Q (.ref h1.objs.size) { s with heap := sortedHeap h2 h1.objs.size (as.map Value.ref) (List.toArray out), toks := tk }
    have kF : ∀ b o, b ≠ h1.objs.size → h2.get? b = some o → (sortedHeap h2 h1.objs.size (as.map Value.ref) (List.toArray out)).get? b = some o := fun b o hb e => (sortedHeap_old hb (Heap.lt_size e)).trans e
    have kS : ∀ b o, s.heap.get? b = some o → (sortedHeap h2 h1.objs.size (as.map Value.ref) (List.toArray out)).get? b = some o := fun b o e => kF b o (ne1 _ _ (hkeep b o e)) (k1 b o (hkeep b o e))
    obtain ⟨c, hat⟩ := sortedHeap_at (vs := as.map Value.ref) (out := List.toArray out) hob
    -- the addresses in their new order
    have back : ∀ {vs : List Value} {cs : List β}, EachIs (fun (v : Value) (b : β) => ∃ (j : Nat) (t : Addr), v = .ref t ∧ as[j]? = some t ∧ bs[j]? = some b) vs cs →
        ∃ ts : List Addr, vs = ts.map Value.ref ∧ EachIs (fun (t : Addr) (b : β) => ∃ j : Nat, as[j]? = some t ∧ bs[j]? = some b) ts cs := by
      intro vs cs e
      induction e with
      | nil => exact ⟨[], rfl, .nil⟩
      | cons r _ ih =>
        obtain ⟨j, t, rfl, h3, h4⟩ := r
        obtain ⟨ts, rfl, e2⟩ := ih
        exact ⟨t :: ts, rfl, .cons ⟨j, h3, h4⟩ e2⟩
    obtain ⟨ts, eout, ets⟩ := back eo
    have I1 : Inv X pins σ H { s with heap := sortedHeap h2 h1.objs.size (as.map Value.ref) (List.toArray out), toks := tk } := I.kept (t' := tk) kS
    have hl0 : H h1.objs.size = none := I.hok.fresh (Nat.le_of_lt hlt)
    have rv : Vals (ts.map V.ref) out := by
      rw [eout]
      clear eout ets ho eo hat
      induction ts with
      | nil => exact .nil
      | cons t ts ih => exact .cons rfl ih
    have hlen : (ts.map V.ref).length ≤ sizeLine := by
      rw [rv.length, ho]
      exact hz
    have I2 : Inv X pins σ (upd H h1.objs.size (.lst (ts.map V.ref))) { s with heap := sortedHeap h2 h1.objs.size (as.map Value.ref) (List.toArray out), toks := tk } :=
      I1.take (h' := sortedHeap h2 h1.objs.size (as.map Value.ref) (List.toArray out)) (t' := tk) (fun b ob _ e => e) (I.fpOk (Nat.le_of_lt hlt) hl0) ⟨hlen, out, c, rv, hat⟩
    obtain ⟨H2, I3, g, qt⟩ := DX.takeT (P := fun t vs => ∃ (j : Nat) (b : β), as[j]? = some t ∧ bs[j]? = some b ∧ vs = [kv b, .int (n b)]) I as _ I2 nd fun t ht => by
      obtain ⟨j, hj⟩ := List.mem_iff_getElem?.mp ht
      obtain ⟨b, e, h5, h6, h7⟩ := pr j t hj
      obtain ⟨rk, _, _, u, ev⟩ := hk j b e h5 h6
      have hsz : s.heap.objs.size ≤ t := Nat.le_of_lt (hG.above t ht)
      refine ⟨hsz, ?_, [kv b, .int (n b)], ⟨j, b, hj, h5, rfl⟩, fun H3 => ⟨?_, [e.key, e.val], .cons rk (.cons ⟨u, ev⟩ .nil), ⟨_, kF _ _ (ne1 _ _ h7) (k1 _ _ h7), rfl, 0, rfl⟩⟩⟩
      · rw [upd_ne (ne1 _ _ h7)]
        exact I.hok.fresh hsz
      · rw [sizeLine_eq]
        show 2 ≤ 16777216
        omega
    have gr : Ex H H2 := fun b o e => g b o (by rw [upd_ne (ne_of_none e hl0)]; exact e)
    refine ⟨.ref h1.objs.size, H2, I3, rfl, q H2 h1.objs.size ts gr hl0 (g _ _ upd_same) (ets.mono fun t b ⟨i, h3, h4⟩ => ?_)⟩
    have hmem := List.mem_of_getElem? h3
    obtain ⟨vs, ⟨j, b', h5, h6, ev⟩, hH⟩ := qt t hmem
    have eij : i = j := (List.getElem?_inj (List.getElem?_eq_some_iff.mp h3).1 nd).mp (h3.trans h5.symm)
    subst eij
    have eb : b' = b := Option.some.inj (h6.symm.trans h4)
    subst eb
    rw [ev] at hH
    exact ⟨I.hok.fresh (Nat.le_of_lt (hG.above t hmem)), hH⟩
end
end K54
/-! K54B4: d.items() and its sorted list, by values; enumerate of a tuple. -/
namespace K54
open PySem PySem.Spec PyProof.Rows L2 Evl
open PySem.W (EachIs)

section
variable {X : Cx}
def rItemsK : V → List V → Hp → VK → Prop := fun x xs H Q => ∃ (a : Addr) (kvs : List (Key × V)), x = .ref a ∧ xs = [] ∧ H a = some (.dK kvs) ∧ ∀ p, H p = none → Q (.ref p) (upd H p (DX.itemsO p a))
theorem mt_itemsK : MtR X "dict.items" rItemsK := by
  intro pins s σ H x xs v us Q I rx rxs h
  obtain ⟨a, kvs, rfl, rfl, ha, q⟩ := h
  cases rx
  cases rxs
  obtain ⟨z, hd, vs, rel, o, es, ep, ho, hx, hdat, _⟩ := (show ObjOk X.prog X.w H s.heap a (.dK kvs) from I.hok a _ ha)
  refine DT.callItems (es := es) (ep := ep) hd ⟨o, ho, hx, hdat⟩ ?_
  exact ⟨.ref s.heap.objs.size, _, I.laid (o := DX.itemsO s.heap.objs.size a) (t' := s.toks) (fun b u e => Heap.get?_push_of_some _ e) (Nat.le_refl _) (DX.itemsO_ok (Heap.get?_push_size _ rfl)), rfl, q _ (I.hok.fresh (Nat.le_refl _))⟩

/-- int keys, int values -/
abbrev entI (e : Int × Int) : Key × V := (Sum.inl e.1, V.int e.2)
/-- keys tuples of ints, int values -/
abbrev entL (e : List Int × Int) : List Key × V := (e.1.map Sum.inl, V.int e.2)
abbrev datI (e : Int × Int) : PyData := .tuple [.int e.1, .int e.2]
abbrev datL (e : List Int × Int) : PyData := .tuple [.tuple (dIs e.1), .int e.2]
/-- sorted(d.items()) -/
def rSortItK : List V → Hp → VK → Prop := fun vs H Q => ∃ (p a : Addr) (kvs : List (Int × Int)), vs = [.ref p] ∧ H p = some (DX.itemsO p a) ∧ H a = some (.dK (kvs.map entI)) ∧
  ∀ (H' : Hp) (l : Addr) (ts : List Addr), Ex H H' → H l = none → H' l = some (.lst (ts.map V.ref)) →
    EachIs (fun t e => H t = none ∧ H' t = some (.tup [.int e.1, .int e.2])) ts (kvs.mergeSort (PySem.W.dataLe false datI)) → Q (.ref l) H'
theorem alike_datI (bs : List (Int × Int)) : PySem.W.AllAlike (bs.map datI) := by
  refine PySem.W.AllAlike.of fun b b' => ?_
  simp [PySem.W.alike, PySem.W.alikeAll]
theorem alike_datL (bs : List (List Int × Int)) : PySem.W.AllAlike (bs.map datL) := by
  refine PySem.W.AllAlike.of fun b b' => ?_
  simp [PySem.W.alike, PySem.W.alikeAll, PySem.W.alike_ints]
theorem cr_sortItK (hc : X.calm = true) (hu : X.A.units + 64 < cLine) : CallR X (.builtin "sorted") rSortItK := by
  intro pins s σ H vs us Q I r h
  obtain ⟨p, a, kvs, rfl, hp, ha, q⟩ := h
  rw [Vals.ref1 r]
  have view : s.heap.IsItemsView p a := (show ObjOk X.prog X.w H s.heap p (DX.itemsO p a) from I.hok p _ hp).1
  obtain ⟨z, hd, ws, rel, dd⟩ := (show ObjOk X.prog X.w H s.heap a (.dK (kvs.map entI)) from I.hok a _ ha)
  obtain ⟨es, ep, raw, hsz, hat⟩ := dd.raw
  have hwl : (kvs.map entI).length = ws.length := Paired.length rel
  rw [List.length_map] at hwl z
  refine sort_items hc hu I view raw kvs (fun e => V.int e.1) (fun e => .int e.1) (fun e => e.2) (by omega) z ?_ (alike_datI kvs) q
  intro j b e hb he
  have hj : j < es.size := by
    rw [hsz, ← hwl]
    exact (List.getElem?_eq_some_iff.mp hb).1
  obtain ⟨u, hu1, hu2⟩ := kv_get rel (i := j) (k := Sum.inl b.1) (v := V.int b.2) (by rw [List.getElem?_map, hb]; rfl)
  obtain ⟨hk, hval⟩ := hat j hj _ _ hu1
  have ee : es[j] = e := by
    rw [Array.getElem?_eq_getElem hj] at he
    exact Option.some.inj he
  rw [ee] at hk hval
  have rk := relV_key (k := Sum.inl b.1) hk
  obtain ⟨t, et⟩ := (show ∃ t, e.key = Value.int b.1 t from rk)
  obtain ⟨t2, et2⟩ := (show ∃ t, u = Value.int b.2 t from hu2)
  refine ⟨⟨t, et⟩, ?_, by simp [PyData.depth], t2, hval.trans et2⟩
  rw [et]
  exact .int _ _
def rSortItT : List V → Hp → VK → Prop := fun vs H Q => ∃ (p a : Addr) (kvs : List (List Int × Int)), vs = [.ref p] ∧ H p = some (DX.itemsO p a) ∧ H a = some (.dT (kvs.map entL)) ∧
  ∀ (H' : Hp) (l : Addr) (ts : List Addr) (ps : List ((List Int × Int) × Addr)), Ex H H' → H l = none → H' l = some (.lst (ts.map V.ref)) → (ps.map (·.1)).Perm kvs →
    EachIs (fun t e => H t = none ∧ H e.2 = some (.tup (e.1.1.map V.int)) ∧ H' t = some (.tup [.ref e.2, .int e.1.2])) ts ps → Q (.ref l) H'
theorem kV_inl (ns : List Int) : (ns.map Sum.inl).map kV = ns.map V.int := by
  rw [List.map_map]
  rfl
theorem cr_sortItT (hc : X.calm = true) (hu : X.A.units + 64 < cLine) : CallR X (.builtin "sorted") rSortItT := by
  intro pins s σ H vs us Q I r h
  obtain ⟨p, a, kvs, rfl, hp, ha, q⟩ := h
  rw [Vals.ref1 r]
  have view : s.heap.IsItemsView p a := (show ObjOk X.prog X.w H s.heap p (DX.itemsO p a) from I.hok p _ hp).1
  obtain ⟨z, hd, xs, rel, dd⟩ := dt_of I.hok ha
  obtain ⟨es, ep, raw, hsz, hat⟩ := dd.raw
  have hwl : (kvs.map entL).length = xs.length := Paired.length rel
  rw [List.length_map] at hwl z
  -- each entry with its key's address
  have fst : (kvs.zip (xs.map fun x => x.2.1)).map (·.1) = kvs := List.map_fst_zip (by rw [List.length_map]; omega)
  have hzl : (kvs.zip (xs.map fun x => x.2.1)).length = kvs.length := by
    rw [List.length_zip, List.length_map]
    omega
  have info : ∀ (j : Nat) (b : (List Int × Int) × Addr), (kvs.zip (xs.map fun x => x.2.1))[j]? = some b → kvs[j]? = some b.1 ∧ ∃ x, xs[j]? = some x ∧ x.2.1 = b.2 ∧ H b.2 = some (.tup (b.1.1.map V.int)) ∧ RelV (V.int b.1.2) x.2.2 := by
    intro j b hb
    obtain ⟨h1, h2⟩ := List.getElem?_zip_eq_some.mp hb
    rw [List.getElem?_map] at h2
    obtain ⟨x, hx, ex⟩ := Option.map_eq_some_iff.mp h2
    obtain ⟨e0, he0, r1, r2, r3⟩ := DX.pget rel hx
    rw [List.getElem?_map, h1] at he0
    have e1 : entL b.1 = e0 := Option.some.inj he0
    subst e1
    rw [kV_inl, ex] at r2
    exact ⟨h1, x, hx, ex, r2, r3⟩
  refine sort_items hc hu I view raw (kvs.zip (xs.map fun x => x.2.1)) (fun e => V.ref e.2) (fun e => .tuple (dIs e.1.1)) (fun e => e.1.2) (by omega) (by omega) ?_ ?_ ?_
  · intro j b e hb he
    obtain ⟨h1, x, hx, ex, hH, hv⟩ := info j b hb
    have hj : j < es.size := by
      rw [hsz]
      exact (List.getElem?_eq_some_iff.mp hx).1
    obtain ⟨y, hy, hky, hvy, _⟩ := hat j hj
    have exy : y = x := Option.some.inj (hy.symm.trans hx)
    subst exy
    have ee : es[j] = e := by
      rw [Array.getElem?_eq_getElem hj] at he
      exact Option.some.inj he
    rw [ee] at hky hvy
    obtain ⟨t2, et2⟩ := (show ∃ t, y.2.2 = Value.int b.1.2 t from hv)
    obtain ⟨_, its, rv, o, ho, hoc, m, hod⟩ := (show ObjOk X.prog X.w H s.heap b.2 (.tup (b.1.1.map V.int)) from I.hok _ _ hH)
    refine ⟨show e.key = Value.ref b.2 by rw [hky, ex], ?_, ?_, t2, hvy.trans et2⟩
    · rw [hky, ex]
      refine Reads.tuple ho hoc hod ?_
      have rd : ∀ {ns : List Int} {us : List Value}, Vals (ns.map V.int) us → ReadsAll s.heap us (dIs ns) [] := by
        intro ns
        induction ns with
        | nil =>
          intro us r
          cases r
          exact .nil
        | cons n ns ih =>
          intro us r
          cases r with
          | cons r1 r2 =>
            obtain ⟨t, rfl⟩ := r1
            exact ReadsAll.cons (as := []) (bs := []) (.int n t) (ih r2)
      simpa using rd rv
    · simp [PyData.depth, PySem.W.depth_ints]
  · have := alike_datL ((kvs.zip (xs.map fun x => x.2.1)).map (·.1))
    rw [List.map_map] at this
    exact this
  · intro H' l ts e1 e2 e3 e4
    have pm := List.mergeSort_perm (kvs.zip (xs.map fun x => x.2.1)) (PySem.W.dataLe false fun b => .tuple [.tuple (dIs b.1.1), .int b.1.2])
    refine q H' l ts _ e1 e2 e3 (by
      have := pm.map (·.1)
      rw [fst] at this
      exact this) ?_
    refine (PySem.W.each_mem e4).mono fun t b ⟨⟨h1, h2⟩, hb⟩ => ?_
    obtain ⟨j, hj⟩ := List.mem_iff_getElem?.mp (pm.mem_iff.mp hb)
    obtain ⟨_, _, _, _, hH, _⟩ := info j b hj
    exact ⟨h1, hH, h2⟩
end
end K54
/-! K54B5: for k, x in enumerate(t), a tuple. -/
namespace K54
open PySem PySem.Spec PyProof.Rows L2 Evl

/-- the iterator of a tuple, the enumerate object over it -/
abbrev tIt (t : Addr) : Obj := { cls := .type "tuple_iterator", data := .fields #[.ref t, .int 0 0] }
abbrev eOb (i : Addr) : Obj := { cls := .type "enumerate", data := .fields #[.none, .bool false, .ref i, rawInt 0, .none, .none] }
theorem enum_tuple_meets (t : Addr) (items : Array Value) :
    Meets (Builtin.«enumerate.__new__» ⟨[.type "enumerate", .ref t], []⟩) (fun _ R s => s.heap.IsTuple t items ∧
      R (.ok (.ret (.ref (s.heap.push (tIt t)).objs.size))) { s with heap := (s.heap.push (tIt t)).push (eOb s.heap.objs.size) }) := by
  refine .of_wp fun prog w A R s h => ?_
  obtain ⟨hp, g, d, tk, os⟩ := s
  obtain ⟨h1, h⟩ := h
  have sub := sub_enumerate
  have step : ∀ {A' : Around} {E : Value → Shared → Prop} {Q : Value → Shared → Prop}, Q (.ref hp.objs.size) ⟨hp.push (tIt t), g, d, tk, os⟩ → wpAny (model prog w) A' (pyIter (.ref t)) Q E ⟨hp, g, d, tk, os⟩ :=
    fun q => wpAny_pyIter_tuple (s := ⟨hp, g, d, tk, os⟩) h1 q
  wp_walk using step
  refine wpAny_stack_any fun st => wpAny_pure ?_
  split
  · rename_i c _ _ _ _ _
    cases (c == Value.type "enumerate") <;> (wp_walk using step; exact ⟨_, rfl, h⟩)
  · wp_walk using step
    exact ⟨_, rfl, h⟩
section
variable {prog : Program} {w : World} {A : Around} {E : Value → Shared → Prop} {s : Shared}
theorem enum_tuple {t : Addr} {items : Array Value} {Q : Value → Shared → Prop} (ht : s.heap.IsTuple t items)
    (h : ∀ h2, IsEnum h2 (s.heap.objs.size + 1) s.heap.objs.size 0 .none → h2.IsTupleIter s.heap.objs.size t 0 → h2.IsTuple t items →
      (∀ b o, s.heap.get? b = some o → h2.get? b = some o) → Q (.ref (s.heap.objs.size + 1)) { s with heap := h2 }) :
    wpAny (model prog w) A (call (.type "enumerate") [.ref t]) Q E s := by
  refine callType_new F.called_enumerate (by decide) (F.typeCall_enumerate_1 _) (F.newCall_enumerate_1 _) (fun obj => F.args_object_init_2 obj _) F.entry_enumerate_new
    (enum_tuple_meets t items) ⟨ht, ?_⟩
  have sz : (s.heap.push (tIt t)).objs.size = s.heap.objs.size + 1 := Heap.size_push ..
  show _ ∧ _
  rw [sz]
  have kp : ∀ b o, s.heap.get? b = some o → ((s.heap.push (tIt t)).push (eOb s.heap.objs.size)).get? b = some o := fun b o x => Heap.get?_push_of_some _ (Heap.get?_push_of_some _ x)
  have he : IsEnum ((s.heap.push (tIt t)).push (eOb s.heap.objs.size)) (s.heap.objs.size + 1) s.heap.objs.size 0 .none := by
    have q := Heap.get?_push_size (s.heap.push (tIt t)) (o := eOb s.heap.objs.size) rfl
    rw [sz] at q
    exact q
  refine ⟨⟨_, he, rfl⟩, h _ he ⟨_, Heap.get?_push_of_some _ (Heap.get?_push_size _ rfl), rfl, rfl⟩ (ht.at fun o e => kp t o e) kp⟩
end
/-- the tuple at a as it stands, each item in a new pair -/
def IteT (K : PySem.W.Frag) (a : Addr) : It :=
  ⟨fun i H => ∃ (xs : List V) (x : V), SqT K H a xs ∧ xs[i]? = some x, fun i H v H' => ∃ T x, v = .ref T ∧ H T = none ∧ H' = upd H T (.tup [.int (i : Nat), x]) ∧ ∀ xs, SqT K H a xs → xs[i]? = some x,
    fun i H => ∃ xs : List V, SqT K H a xs ∧ xs.length = i⟩
theorem tup_inj {X : Cx} {pins : List (Addr × Obj)} {σ : L2.St} {H : Hp} {s : Shared} {a : Addr} {xs ys : List V} (I : Inv X pins σ H s) (h1 : SqT X.K H a xs) (h2 : SqT X.K H a ys) : xs = ys := I.tuple_inj h1 h2
theorem turn_enumT {P : Program} {w : World} {K : PySem.W.Frag} {elts : List Expr} {kk : Nat} {tpos : Pos} (a e it : Addr) (items : Array Value) (ha : a ≠ it) (hae : a ≠ e) (hei : e ≠ it) :
    Turn P w K (.Tuple elts kk tpos) (IteT K a) [e, it] e (fun i h => (∃ old, IsEnum h e it ((i : Nat) : Int) old) ∧ h.IsTupleIter it a i) where
  mem := List.mem_cons_self
  obj := by
    intro i h ⟨⟨old, he⟩, hit⟩ b hb
    rcases List.mem_cons.mp hb with z | z
    · rw [z]
      exact ⟨_, he, fun v q => nomatch q⟩
    · rw [List.mem_singleton.mp z]
      obtain ⟨o, ho, hc, hd⟩ := hit
      exact ⟨o, ho, fun v q => by rw [hd] at q; cases q⟩
  keep := by
    intro i h h' ⟨⟨old, he⟩, hit⟩ k
    exact ⟨⟨old, k e List.mem_cons_self _ he⟩, hit.at fun o q => k it (List.mem_cons_of_mem _ List.mem_cons_self) o q⟩
  item := by
    intro X hP hw hK hc i pins s σ H E I hf st hg
    subst hP
    subst hw
    subst hK
    obtain ⟨⟨old, he⟩, hit⟩ := st
    obtain ⟨xs, x, hq, hx⟩ := hg
    obtain ⟨its, rv, pt, hz⟩ := I.tuple hq
    obtain ⟨u, hu, ru⟩ := rv.get hx
    have hel : e < s.heap.objs.size := Heap.lt_size he
    have hil : it < s.heap.objs.size := by
      obtain ⟨_, q, _⟩ := hit
      exact Heap.lt_size q
    have hi : i < its.toArray.size := by
      rw [List.size_toArray]
      exact (List.getElem?_eq_some_iff.mp hu).1
    have ef : e ∉ [it, a] := by
      intro hm
      rcases List.mem_cons.mp hm with z | z
      · exact hei z
      · exact hae (List.mem_singleton.mp z).symm
    refine wpAny_pyNext_enum_itemD (Draws.tuple (A := X.A.in1) (I.ok.hd hc) it a ha its.toArray) he ⟨hit, pt⟩ hi hei ef ?_
    intro v h' tk hv ho hst hT hsz hk
    have ev : v = u := by
      rw [List.getElem?_toArray] at hv
      exact Option.some.inj (hv.symm.trans hu)
    subst ev
    refine ⟨_, rfl, wpAny_letOwnedTupleGo_enum (s := { s with heap := h', toks := tk + 1 }) ho ?_⟩
    intro h2 he2 sb
    have hT2 : h2.get? s.heap.objs.size = some { cls := .type "tuple", data := .seq #[.int i tk, v] } := (sb.2 _ (Nat.ne_of_gt hel)).trans hT
    have new : ObjOk X.prog X.w (upd H s.heap.objs.size (.tup [.int (i : Nat), x])) h2 s.heap.objs.size (.tup [.int (i : Nat), x]) := by
      refine ⟨by show 2 ≤ sizeLine; decide, [.int i tk, v], .cons ⟨_, rfl⟩ (.cons ru .nil), ⟨_, hT2, rfl, _, rfl⟩⟩
    have I1 : Inv X pins σ (upd H s.heap.objs.size (.tup [.int (i : Nat), x])) { s with heap := h2, toks := tk + 1 } := by
      refine I.turnedNew (ch := [e, it]) (fun b ob hb q => ?_) hf (Nat.le_refl _) new
      have b1 : b ≠ e := fun z => hb (by rw [z]; exact List.mem_cons_self)
      have b2 : b ≠ it := fun z => hb (by rw [z]; exact List.mem_cons_of_mem _ List.mem_cons_self)
      exact (sb.2 b b1).trans (hk b ob b1 b2 q)
    refine ⟨.ref s.heap.objs.size, _, I1, rfl, ⟨_, x, rfl, I.hok.fresh (Nat.le_refl _), rfl, fun ys hy => ?_⟩, ⟨⟨v, ?_⟩, hst.1.at fun o q => (sb.2 it (Ne.symm hei)).trans q⟩, fun b hb => ?_⟩
    · rw [tup_inj I hy hq]
      exact hx
    · have e1 : ((i + 1 : Nat) : Int) = (i : Int) + 1 := by omega
      rw [e1]
      exact he2
    · have hb' : b < s.heap.objs.size := by
        rcases List.mem_cons.mp hb with z | z
        · rw [z]
          exact hel
        · rw [List.mem_singleton.mp z]
          exact hil
      rw [upd_ne (Nat.ne_of_lt hb')]
      exact (hf b hb).1
  done := by
    intro X hP hw hK hc i pins s σ H E I hf st hg
    subst hP
    subst hw
    subst hK
    obtain ⟨⟨old, he⟩, hit⟩ := st
    obtain ⟨xs, hq, hx⟩ := hg
    obtain ⟨its, rv, pt, hz⟩ := I.tuple hq
    obtain ⟨f0, f1, f2, f3, f4, f5⟩ := hf it (List.mem_cons_of_mem _ List.mem_cons_self)
    have hl : its.toArray.size = i := by
      rw [List.size_toArray, ← rv.length, hx]
    subst hl
    exact wpAny_pyNext_enum_endD (Draws.tuple (A := X.A.in1) (I.ok.hd hc) it a ha its.toArray) he ⟨hit, pt⟩ fun h' eb => ⟨rfl, I.turned (t' := s.toks) (fun b o hb q => eb b o hb q) f0 f1 f3 f4 f5⟩
  self := by
    intro A i s Q E ⟨⟨_, he⟩, _⟩ h
    exact wpAny_pyIter_enum he h
def iEnumT (K : PySem.W.Frag) (ta : TA) : TI := fun σ H R => ta σ H fun vs H1 => ∃ a xs, vs = [.ref a] ∧ SqT K H1 a xs ∧ R (IteT K a) H1
theorem pi_enumT {X : Cx} {e : Expr} {ta : TA} {p pos tpos : Pos} {elts : List Expr} {kk : Nat} (hg : Gl X "enumerate") (hm : X.mg "enumerate" = none) (ha : PA X [e] ta)
    (hs : starEach [e] X.env = [(false, eval e X.env)] := by rfl) : PI X (.Tuple elts kk tpos) (.Call (.Name "enumerate" p) [e] [] pos) (iEnumT X.K ta) := by
  constructor
  intro pins s σ H R I h
  refine Call_ (ld_blt I hg hm boot_enumerate (PyProof.Rows.callWith_type1 (thn (ha.run pos pins s σ H _ I h) ?_) hs rfl))
  rintro us s1 ⟨vs, H1, I1, r1, a, xs, rfl, hq, q⟩
  rw [Vals.ref1 r1]
  obtain ⟨its, rv, pt, hz⟩ := I1.tuple hq
  have hal : a < s1.heap.objs.size := pt.lt
  refine enum_tuple (items := its.toArray) pt fun h' he hit _ hk => wpAny_pyIter_enum he ?_
  have I2 : Inv X pins σ H1 { s1 with heap := h' } := I1.kept (t' := s1.toks) hk
  refine ⟨s1.heap.objs.size + 1, [s1.heap.objs.size + 1, s1.heap.objs.size], _, _, H1, rfl, I2,
    turn_enumT a (s1.heap.objs.size + 1) s1.heap.objs.size its.toArray (Nat.ne_of_lt hal) (Nat.ne_of_lt (Nat.lt_succ_of_lt hal)) (Nat.succ_ne_self _), ⟨⟨.none, he⟩, hit⟩, fun b hb => ?_, q⟩
  have hle : s1.heap.objs.size ≤ b := by
    rcases List.mem_cons.mp hb with z | z
    · rw [z]
      exact Nat.le_add_right _ _
    · rw [List.mem_singleton.mp z]
      exact Nat.le_refl _
  exact I1.fpOk hle (I1.hok.fresh hle)
theorem walk_enumT {K : PySem.W.Frag} {a : Addr} {xs : List V} : Walk (IteT K a) xs.length (fun H => SqT K H a xs) (YPair (fun i => some (.int (i : Nat))) (fun i => xs[i]?)) := by
  refine ⟨fun i _ hi q => ⟨xs, xs[i], q, by simp [hi]⟩, fun _ q => ⟨xs, q, rfl⟩, fun i H v H' _ q y => ?_⟩
  obtain ⟨T, x, h1, h2, h3, h4⟩ := y
  exact ⟨T, .int (i : Nat), x, h1, h2, h3, rfl, h4 xs q⟩
end K54
/-! K54B6: defs that call repr: no repr is under way around them (A.guards = some []), carried from the law's call on. -/
namespace K54
open PySem PySem.Spec PyProof.Rows L2 Evl

theorem deeper_guards {A : Around} {env : Env} (h : A.guards = some []) : (A.deeper env).guards = some [] := by
  first
    | exact h
    | simpa [Around.deeper] using h
section
variable {X : Cx}
/-- repr(xs) of a list of data -/
def rRepr (K : PySem.W.Frag) : List V → Hp → VK → Prop := fun vs H Q => ∃ (a : Addr) (ds : List PyData), vs = [V.ref a] ∧ Dp K H (.ref a) (.list ds) ∧ (PyData.list ds).showable = true ∧ (PyData.list ds).hasDict = false ∧ (PyData.list ds).depth ≤ 50 ∧ (PyData.list ds).shown.length ≤ sizeLine ∧
  Q (.str (PyData.list ds).shown) H
theorem cr_repr (hg : X.A.guards = some []) (hu : X.A.units + 64 < cLine) : CallR X (.builtin "repr") (rRepr X.K) := by
  intro pins s σ H vs us Q I r h
  obtain ⟨a, ds, rfl, hd, h1, h2, h3, h4, q⟩ := h
  rw [Vals.ref1 r]
  obtain ⟨as, rd⟩ := Dp.reads I (.list ds) (.ref a) (.ref a) hd rfl
  refine repr_of_reads' rd h1 (fun z => ?_) hg (by omega) (fun b o e => e) ?_ h4
  · rw [h2] at z
    cases z
  · intro h' u tk hk
    exact ⟨.str _, H, I.kept hk, ⟨u, rfl⟩, q⟩
end

/-- what FnOk says, where no repr is under way -/
structure FnG (P : Program) (w : World) (K : PySem.W.Frag) (mg : Str → Option Value) (base : Heap) (k : Nat) (f : Addr) (fd : FuncData) (ps : List Str) (sp : Sp) : Prop where
  len : ∀ vs H Q E, sp vs H Q E → vs.length = ps.length
  run : ∀ (A : Around) (outer : List Env) (s : Shared) (H : Hp) (args : Args) (us : List Value) (vs : List V) (Q : VK) (E : XK), A.guards = some [] → Room k A → Env0 P w K mg base A outer s H →
    BindsTo s fd args (ps.zip us) → Vals vs us → sp vs H Q E → codeAny (model P w) A (.call (.ref f) args) (CR CX0 outer P w H s Q E) s
section
variable {P : Program} {w : World} {K : PySem.W.Frag} {mg : Str → Option Value} {base : Heap} {k : Nat} {f : Addr} {fd : FuncData} {ps : List Str} {sp : Sp}
theorem Fun_okG {x qual : Str} {st : Stmt} {N : List Str} (F : Fun K x qual st f fd) (S : FnScope N ps (defScope st)) (len : ∀ vs H Q E, sp vs H Q E → vs.length = ps.length)
    (body : ∀ (cdv : Value) (A : Around) (outer : List Env) (s : Shared) (H : Hp) (vs : List V) (Q : VK) (E : XK), (A.deeper (envOfC qual (defScope st) s.heap.objs.size f cdv)).guards = some [] →
      Room k (A.deeper (envOfC qual (defScope st) s.heap.objs.size f cdv)) → sp vs H Q E →
      ∃ t, PSs (cxOf CX0 P w K mg base N qual (defScope st) f cdv A outer s H E).nox (defBody st) t ∧ t { nx := fun _ H' => Q .non H', rt := Q } (start N vs) H) : FnG P w K mg base (k + 1) f fd ps sp := by
  obtain ⟨oc, od, kV, doc, pm, an, cdv, ct, osl, rfl, lk, code⟩ := F.ex
  constructor
  · exact len
  intro A outer s H args us vs Q E hg room e0 bnd rv hsp
  have lenV := len _ _ _ _ hsp
  have kept : ∀ b o, base.get? b = some o → s.heap.get? b = some o := fun b o e => (e0.bs b o e).1
  have kin : K.In s.heap := e0.mod.kin.keeps kept
  have kinds : ∀ y ∈ ps.zip us, (defScope st).names.lookup y.1 = some .local ∨ ((defScope st).names.lookup y.1 = some .cell ∧ ((cellsFrom (s.heap.objs.size + 1) (defScope st).names []).lookup y.1).isSome = true) := by
    rintro ⟨n, v⟩ hy
    rcases S.par n (List.of_mem_zip hy).1 with z | z
    · exact .inl z
    · exact .inr ⟨z, PySem.W.cellsFrom_some _ _ _ (.inl z)⟩
  refine codeAny_call_function room.depth (kin _ _ lk) rfl S.co S.gen rfl (PySem.W.codeRec_of kin code) (bnd _ _ _ _ ?_)
  refine wpAny_newFunctionEnv_cells S.kind kinds ?_
  rintro env he s1 x
  subst he
  refine ⟨(e0.mod.nolimit.keeps kept).keeps x.toInCall.keep, codeAny_func ?_⟩
  obtain ⟨t, ht, hq⟩ := body cdv A outer s H vs Q E (deeper_guards hg) (room.deeper _) hsp
  have I0 := inv_start (CX := CX0) (P := P) (w := w) (K := K) (mg := mg) (base := base) (E := E) (outer := outer) S room.hd e0 lenV rv x
  refine wpAny_mono (ht.nox.run [] s1 (start N vs) H _ I0 hq) ?_ ?_
  · intro fl s2 hs
    cases fl with
    | ret u =>
      obtain ⟨v, σ2, H2, J, r2, q2⟩ := hs
      exact ⟨v, H2, J.os, J.bare, J.base, J.hok, r2, q2⟩
    | next =>
      obtain ⟨σ2, H2, J, q2⟩ := hs
      exact ⟨.non, H2, J.os, J.bare, J.base, J.hok, rfl, q2⟩
    | brk =>
      obtain ⟨_, _, _, z⟩ := hs
      exact z.elim
    | cont =>
      obtain ⟨_, _, _, z⟩ := hs
      exact z.elim
  · intro e s2 hs
    exact hs
end
section
variable {X : Cx} {k : Nat} {f : Addr} {fd : FuncData} {ps : List Str} {sp : Sp} {x : Str} {p pos : Pos} {e : Expr} {es : List Expr} {t : TA}
theorem pe_callG (F : FnG X.prog X.w X.K X.mg X.base k f fd ps sp) (guards : X.A.guards = some []) (room : Room k X.A) (hg : Gl X x) (hm : X.mg x = some (.ref f)) (hk : PySem.W.keepIn X.K (.ref f) = true) (hb : Binds X.K fd ps [])
    (ha : PA X (e :: es) t) (hdb : (x == ("__debug__" : Str)) = false := by decide) (he : starEach (e :: es) X.env = (false, eval e X.env) :: starEach es X.env := by rfl) (hpl : (backTo pos (starEach es X.env)).any (·.1) = false := by rfl) :
    PE X (.Call (.Name x p) (e :: es) [] pos) (tCall sp [] E0 t) := by
  constructor
  intro pins s σ H Q I h
  refine wpAny_Call_Name_kw (ld_glob I hg hm ?_ hdb)
  refine PySem.W.callWith_K (h₀ := X.base) I.ok.mod.kin hk (thn (ha.run pos pins s σ H _ I h) ?_) he hpl
  rintro us s1 ⟨vs, H1, I1, r, q⟩
  refine ⟨I1.kIn, ?_⟩
  have q' : sp vs H1 Q E0 := by
    have z : sp (vs ++ []) H1 Q E0 := q
    rw [List.append_nil] at z
    exact z
  have hl : us.length = ps.length := by
    rw [← r.length]
    exact F.len _ _ _ _ q'
  have bnd := hb s1 us I1.kIn (by rw [List.append_nil]; exact hl)
  rw [List.append_nil] at bnd
  refine wpAny_call (codeAny_mono (F.run X.A X.stack s1 H1 ⟨us, []⟩ us vs Q E0 guards room I1.env0 bnd r q') ?_)
  intro r2 s2 hq
  cases r2 with
  | error e => exact False.elim hq
  | ok fl =>
    cases fl with
    | ret u => exact I1.after hq
    | next => exact False.elim hq
    | brk => exact False.elim hq
    | cont => exact False.elim hq
end
end K54
/-! K54C: evaluation to what a predicate says; comprehensions over lists, tuples, ranges; operators on data. -/
namespace K54
open PySem PySem.Spec PyProof.Rows L2 Evl

/-- a predicate of a value that new objects don't disturb -/
def Mon {α : Type} (P : Hp → V → α → Prop) : Prop := ∀ H H' v a, Ex H H' → P H v a → P H' v a
def EvP {α : Type} (P : Hp → V → α → Prop) (te : TE) (σ : L2.St) (Hb : Hp) (a : α) : Prop := ∀ H, Ex Hb H → ∀ Q : VK, (∀ v Hn H', Gr Hb H Hn H' → P Hn v a → Q v H') → te σ H Q
/-- a new list, unknown, of such -/
def EvFP {α : Type} (P : Hp → V → α → Prop) (te : TE) (σ : L2.St) (Hb : Hp) (as : List α) : Prop := ∀ H, Ex Hb H → ∀ Q : VK, (∀ p xs Hn H', Gr Hb H Hn H' → H p = none → Hn p = none → H' p = some (.lst xs) → Paired (P Hn) xs as → Q (.ref p) H') → te σ H Q
def LstP {α : Type} (K : PySem.W.Frag) (P : Hp → V → α → Prop) : Hp → V → List α → Prop := fun H v as => ∃ a xs, v = .ref a ∧ SqL K H a xs ∧ Paired (P H) xs as
def TupP {α : Type} (K : PySem.W.Frag) (P : Hp → V → α → Prop) : Hp → V → List α → Prop := fun H v as => ∃ a xs, v = .ref a ∧ SqT K H a xs ∧ Paired (P H) xs as
/-- a datum; through an embedding -/
def DatP {α : Type} (K : PySem.W.Frag) (f : α → PyData) : Hp → V → α → Prop := fun H v a => Dp K H v (f a)
/-- an int -/
def IntP : Hp → V → Int → Prop := fun _ v n => v = .int n
/-- a tuple of ints that is no object of the module -/
def TiP : Hp → V → List Int → Prop := fun H v ns => ∃ a, v = .ref a ∧ H a = some (.tup (ns.map V.int))
section
variable {α β : Type} {K : PySem.W.Frag} {P : Hp → V → α → Prop} {R : Hp → V → β → Prop} {H H' : Hp}
theorem mon_dat {f : α → PyData} : Mon (DatP K f) := fun _ _ _ _ e h => Dp.up h e
theorem mon_int : Mon IntP := fun _ _ _ _ _ h => h
theorem mon_ti : Mon TiP := fun _ _ _ _ e ⟨a, h1, h2⟩ => ⟨a, h1, e _ _ h2⟩
theorem paired_up (m : Mon P) (e : Ex H H') : ∀ {xs : List V} {as : List α}, Paired (P H) xs as → Paired (P H') xs as
  | _, _, .nil => .nil
  | _, _, .cons a r => .cons (m _ _ _ _ e a) (paired_up m e r)
theorem mon_lst (m : Mon P) : Mon (LstP K P) := fun _ _ _ _ e ⟨a, xs, h1, h2, h3⟩ => ⟨a, xs, h1, ex_l e h2, paired_up m e h3⟩
theorem mon_tup (m : Mon P) : Mon (TupP K P) := fun _ _ _ _ e ⟨a, xs, h1, h2, h3⟩ => ⟨a, xs, h1, ex_t e h2, paired_up m e h3⟩
theorem paired_at {F : V → α → Prop} : ∀ {xs : List V} {as : List α} {i : Nat} {x : V}, Paired F xs as → xs[i]? = some x → ∃ a, as[i]? = some a ∧ F x a
  | _, _, i, x, .nil, h => by simp at h
  | _, _, 0, x, .cons a _, h => by
    simp only [List.getElem?_cons_zero, Option.some.injEq] at h
    subst h
    exact ⟨_, rfl, a⟩
  | _, _, i + 1, x, .cons _ b, h => by
    simp only [List.getElem?_cons_succ] at h
    obtain ⟨d, h1, h2⟩ := paired_at b h
    exact ⟨d, by simpa using h1, h2⟩
theorem paired_app {F : V → α → Prop} : ∀ {xs ys : List V} {as bs : List α}, Paired F xs as → Paired F ys bs → Paired F (xs ++ ys) (as ++ bs)
  | _, _, _, _, .nil, b => b
  | _, _, _, _, .cons a r, b => .cons a (paired_app r b)
theorem paired_int : ∀ {xs : List V} {ns : List Int}, Paired (IntP H) xs ns → xs = ns.map V.int
  | _, _, .nil => rfl
  | _, _, .cons a r => by
    rw [show _ = V.int _ from a, paired_int r]
    rfl
theorem int_paired : ∀ ns : List Int, Paired (IntP H) (ns.map V.int) ns
  | [] => .nil
  | n :: ns => .cons rfl (int_paired ns)
theorem paired_dat {f : α → PyData} : ∀ {xs : List V} {as : List α}, Paired (DatP K f H) xs as → DpAll K H xs (as.map f)
  | _, _, .nil => .nil
  | _, _, .cons a r => .cons a (paired_dat r)
theorem dat_paired {f : α → PyData} : ∀ {xs : List V} {as : List α}, DpAll K H xs (as.map f) → Paired (DatP K f H) xs as
  | _, [], h => by
    have h' : DpAll K H _ [] := h
    cases h'
    exact .nil
  | _, a :: as, h => by
    have h' : DpAll K H _ (f a :: as.map f) := h
    cases h' with
    | cons a b => exact .cons a (dat_paired b)
theorem lst_dat {f : α → PyData} {v : V} {as : List α} (h : LstP K (DatP K f) H v as) : Dp K H v (.list (as.map f)) := by
  obtain ⟨a, xs, rfl, s, r⟩ := h
  exact .lst s (paired_dat r)
theorem dat_lst {f : α → PyData} {v : V} {as : List α} (h : Dp K H v (.list (as.map f))) : LstP K (DatP K f) H v as := by
  obtain ⟨a, xs, e, s, r⟩ := dp_list h
  exact ⟨a, xs, e, s, dat_paired r⟩
theorem ti_dat {v : V} {ns : List Int} (h : TiP H v ns) : DatP K (fun ns => .tuple (dIs ns)) H v ns := by
  obtain ⟨a, rfl, h2⟩ := h
  exact tupI_dp (st_of h2)
theorem int_dat {v : V} {n : Int} (h : IntP H v n) : DatP K PyData.int H v n := by
  rw [show v = V.int n from h]
  exact .int n
theorem paired_imp {F G : V → α → Prop} (h : ∀ v a, F v a → G v a) : ∀ {xs : List V} {as : List α}, Paired F xs as → Paired G xs as
  | _, _, .nil => .nil
  | _, _, .cons a r => .cons (h _ _ a) (paired_imp h r)
theorem lst_imp {v : V} {as : List α} {P' : Hp → V → α → Prop} (h : ∀ v a, P H v a → P' H v a) (x : LstP K P H v as) : LstP K P' H v as := by
  obtain ⟨a, xs, e, s, r⟩ := x
  exact ⟨a, xs, e, s, paired_imp h r⟩
end
section
variable {α β γ : Type} {K : PySem.W.Frag} {P : Hp → V → α → Prop} {R : Hp → V → β → Prop} {σ : L2.St} {Hb H H' : Hp} {ta tb te tl : TE} {t u : TT} {x y z v : V} {r : R2}

/-- the known part with what was known already -/
abbrev join (H' Hn : Hp) : Hp := fun b => if (H' b).isSome then H' b else Hn b
theorem join_none {H' Hn : Hp} {b : Addr} (h : H' b = none) : join H' Hn b = Hn b := by
  show (if (H' b).isSome then H' b else Hn b) = Hn b
  rw [h]
  rfl
theorem join_some {H' Hn : Hp} {b : Addr} {o : HO} (h : H' b = some o) : join H' Hn b = some o := by
  show (if (H' b).isSome then H' b else Hn b) = some o
  rw [h]
  rfl
theorem Gr.wide {H1 H2 Hn : Hp} (g : Gr Hb H1 Hn H2) (e : Ex Hb H') (e1 : Ex H' H1) : Gr H' H1 (join H' Hn) H2 ∧ Ex Hn (join H' Hn) := by
  have up : Ex Hn (join H' Hn) := fun b o h1 => by
    cases h2 : H' b with
    | none => rw [join_none h2]; exact h1
    | some o2 =>
      rw [join_some h2]
      have h4 : H2 b = some o2 := g.all b o2 (e1 b o2 h2)
      rw [g.new b o h1] at h4
      exact h4.symm
  refine ⟨⟨fun b o h1 => join_some h1, fun b o h1 => ?_, g.all, fun b o h1 h2 => ?_⟩, up⟩
  · cases h2 : H' b with
    | none =>
      rw [join_none h2] at h1
      exact g.new b o h1
    | some o2 =>
      rw [join_some h2] at h1
      cases h1
      exact g.all b o (e1 b o h2)
  · rw [join_none h2]
    exact g.sep b o h1 (fresh_back e h2)
theorem EvP.mono (m : Mon P) {a : α} (e : Ex Hb H') (h : EvP P te σ Hb a) : EvP P te σ H' a := fun H1 e1 Q q => by
  refine h H1 (e.trans e1) Q fun v Hn H2 g hp => ?_
  obtain ⟨g2, up⟩ := g.wide e e1
  exact q v _ H2 g2 (m _ _ _ _ up hp)
theorem EvFP.mono (m : Mon P) {as : List α} (e : Ex Hb H') (h : EvFP P te σ Hb as) : EvFP P te σ H' as := fun H1 e1 Q q => by
  refine h H1 (e.trans e1) Q fun p xs Hn H2 g hp hn hH hd => ?_
  obtain ⟨g2, up⟩ := g.wide e e1
  exact q p xs _ H2 g2 hp (by rw [join_none (fresh_back e1 hp)]; exact hn) hH (paired_up m up hd)
theorem EvP.imp {P' : Hp → V → β → Prop} {a : α} {b : β} (hi : ∀ H v, P H v a → P' H v b) (h : EvP P te σ Hb a) : EvP P' te σ Hb b := fun H1 e1 Q q => h H1 e1 Q fun v Hn H2 g hp => q v Hn H2 g (hi _ _ hp)
theorem EvFP.lst {as : List α} (m : Mon P) (h : EvFP P te σ Hb as) : EvP (LstP K P) te σ Hb as := fun H e Q q => h H e Q fun p xs Hn H2 g hp hn hH hd =>
  q _ _ H2 (g.own hp hn hH) ⟨p, xs, rfl, sq_of upd_same, paired_up m (Ex.new hn) hd⟩
theorem ep_var {i : Nat} {a : α} (h : σ[i]? = some (some v)) (hp : P Hb v a) : EvP P (tVar i) σ Hb a := fun H e Q q => ⟨v, h, q v Hb H (Gr.refl e) hp⟩
theorem ep_int {n : Int} (h : Ev te σ Hb (.int n)) : EvP IntP te σ Hb n := fun H e Q q => h H e Q fun H2 e2 => q _ Hb H2 (Gr.keep e e2) rfl
theorem ep_ev {n : Int} (h : EvP IntP te σ Hb n) : Ev te σ Hb (.int n) := fun H e Q q => h H e Q fun v Hn H2 g hd => by
  rw [show v = V.int n from hd]
  exact q H2 g.all
theorem ef_evl {ns : List Int} (h : EvL te σ Hb (ns.map V.int)) : EvFP IntP te σ Hb ns := fun H e Q q => h H e Q fun p H2 hp e2 h2 => q p _ Hb H2 (Gr.keep e e2) hp (fresh_back e hp) h2 (int_paired ns)
theorem ef_to_l {ns : List Int} (h : EvFP IntP te σ Hb ns) : EvL te σ Hb (ns.map V.int) := fun H e Q q => h H e Q fun p xs Hn H2 g hp hn hH hd => by
  rw [paired_int hd] at hH
  exact q p H2 hp g.all hH
theorem evd_p {d : PyData} (h : EvD K te σ Hb d) : EvP (DatP K fun d => d) te σ Hb d := h
theorem p_evd {f : α → PyData} {a : α} (h : EvP (DatP K f) te σ Hb a) : EvD K te σ Hb (f a) := h
theorem evd_f {f : α → PyData} {a : α} (h : EvD K te σ Hb (f a)) : EvP (DatP K f) te σ Hb a := h
/-- an operator -/
theorem ep_op {a b : Type} {Pa : Hp → V → a → Prop} {Pb : Hp → V → b → Prop} {a0 : a} {b0 : b} {c0 : β} (ma : Mon Pa) (mb : Mon Pb) (ha : EvP Pa ta σ Hb a0) (hb : EvP Pb tb σ Hb b0)
    (hr : ∀ x y Hn, Pa Hn x a0 → Pb Hn y b0 → ∀ H, Ex Hn H → ∀ Q : VK, (∀ v Hm H', Gr Hn H Hm H' → R Hm v c0 → Q v H') → r x y H Q) : EvP R (tOp r ta tb) σ Hb c0 := fun H e Q q =>
  ha H e _ fun x Hn H1 g1 px => (hb.mono mb g1.base) H1 g1.new _ fun y Hm H2 g2 py => hr x y Hm (ma _ _ _ _ g2.base px) py H2 g2.new Q fun v Hl H3 g3 pv => q v Hl H3 (g1.trans (g2.trans g3)) pv
/-- .. that answers by a scalar -/
theorem ev_opP {a b : Type} {Pa : Hp → V → a → Prop} {Pb : Hp → V → b → Prop} {a0 : a} {b0 : b} (ma : Mon Pa) (mb : Mon Pb) (ha : EvP Pa ta σ Hb a0) (hb : EvP Pb tb σ Hb b0)
    (hr : ∀ x y Hn, Pa Hn x a0 → Pb Hn y b0 → ∀ H, Ex Hn H → ∀ Q : VK, (∀ H', Ex H H' → Q z H') → r x y H Q) : Ev (tOp r ta tb) σ Hb z := fun H e Q q =>
  ha H e _ fun x Hn H1 g1 px => (hb.mono mb g1.base) H1 g1.new _ fun y Hm H2 g2 py => hr x y Hm (ma _ _ _ _ g2.base px) py H2 g2.new Q fun H3 e3 => q H3 ((g1.all.trans g2.all).trans e3)
/-- a built-in of one argument -/
theorem ep_cb1 {c0 : β} {a0 : α} {rc : List V → Hp → VK → Prop} (ha : EvP P ta σ Hb a0) (hr : ∀ x Hn, P Hn x a0 → ∀ H, Ex Hn H → ∀ Q : VK, (∀ v Hm H', Gr Hn H Hm H' → R Hm v c0 → Q v H') → rc [x] H Q) :
    EvP R (tCB rc (tCons ta tNil)) σ Hb c0 := fun H e Q q => ha H e _ fun x Hn H1 g1 px => hr x Hn px H1 g1.new Q fun v Hm H2 g2 pv => q v Hm H2 (g1.trans g2) pv
theorem ev_cb1 {a0 : α} {rc : List V → Hp → VK → Prop} (ha : EvP P ta σ Hb a0) (hr : ∀ x Hn, P Hn x a0 → ∀ H, Ex Hn H → ∀ Q : VK, (∀ H', Ex H H' → Q z H') → rc [x] H Q) :
    Ev (tCB rc (tCons ta tNil)) σ Hb z := fun H e Q q => ha H e _ fun x Hn H1 g1 px => hr x Hn px H1 g1.new Q fun H2 e2 => q H2 (g1.all.trans e2)
theorem ef_cb1 {bs : List β} {a0 : α} {rc : List V → Hp → VK → Prop} (ha : EvP P ta σ Hb a0)
    (hr : ∀ x Hn, P Hn x a0 → ∀ H, Ex Hn H → ∀ Q : VK, (∀ p xs Hm H', Gr Hn H Hm H' → H p = none → Hm p = none → H' p = some (.lst xs) → Paired (R Hm) xs bs → Q (.ref p) H') → rc [x] H Q) :
    EvFP R (tCB rc (tCons ta tNil)) σ Hb bs := fun H e Q q => ha H e _ fun x Hn H1 g1 px => hr x Hn px H1 g1.new Q fun p xs Hm H2 g2 h1 h2 h3 pv => q p xs Hm H2 (g1.trans g2) (fresh_back g1.all h1) h2 h3 pv

/-! ### comprehensions -/
/-- the list at D so far -/
structure Cp {β : Type} (R : Hp → V → β → Prop) (Hb H1 : Hp) (D : Addr) (bs : List β) (H' : Hp) : Prop where
  ex : ∃ Hn acc, Gr Hb H1 Hn H' ∧ Hn D = none ∧ H' D = some (.lst acc) ∧ Paired (R Hn) acc bs
theorem cp_first {D : Addr} {H1 : Hp} (e : Ex Hb H1) (hD : H1 D = none) : Cp R Hb H1 D [] (upd H1 D (.lst [])) :=
  ⟨Hb, [], Gr.keep e (Ex.new hD), fresh_back e hD, upd_same, .nil⟩
theorem cp_turn {D : Addr} {H1 H' : Hp} {bs : List β} {σ2 : L2.St} {b : Bool} {c : β} (mR : Mon R) (hD : H1 D = none) (p : Cp R Hb H1 D bs H') (hz : bs.length < 50000)
    (ht : ∀ Hn, Ex Hb Hn → Ex Hn H' → EvT t σ2 Hn b) (he : b = true → ∀ Hn, Ex Hb Hn → Ex Hn H' → EvP R te σ2 Hn c) :
    t σ2 H' fun b' H3 => if b' = true then te σ2 H3 fun y H4 => ∃ acc, H4 D = some (.lst acc) ∧ acc.length < sizeLine ∧ Cp R Hb H1 D (bs ++ if b then [c] else []) (upd H4 D (.lst (acc ++ [y]))) else Cp R Hb H1 D (bs ++ if b then [c] else []) H3 := by
  obtain ⟨Hn, acc, g, nD, aD, pa⟩ := p.ex
  refine ht Hn g.base g.new H' g.new _ fun H3 e3 => ?_
  cases hb : b with
  | false =>
    show Cp R Hb H1 D (bs ++ []) H3
    rw [List.append_nil]
    exact ⟨Hn, acc, g.more e3, nD, e3 D _ aD, pa⟩
  | true =>
    show te σ2 H3 fun y H4 => ∃ acc, H4 D = some (.lst acc) ∧ acc.length < sizeLine ∧ Cp R Hb H1 D (bs ++ [c]) (upd H4 D (.lst (acc ++ [y])))
    refine he hb Hn g.base g.new H3 (g.new.trans e3) _ fun y Hm H4 g4 py => ?_
    have gg : Gr Hb H1 Hm H4 := (g.more e3).trans g4
    have mD : Hm D = none := g4.sep D _ (e3 D _ aD) nD
    have hl : acc.length = bs.length := Paired.length pa
    exact ⟨acc, g4.all D _ (e3 D _ aD), sz_lt (by omega), ⟨Hm, acc ++ [y], gg.mut hD mD, mD, upd_same, paired_app (paired_up mR g4.base pa) (.cons py .nil)⟩⟩
theorem cp_last {D : Addr} {H1 H' : Hp} {bs : List β} {Q : VK} (hD : H1 D = none) (p : Cp R Hb H1 D bs H')
    (q : ∀ p xs Hn H', Gr Hb H1 Hn H' → H1 p = none → Hn p = none → H' p = some (.lst xs) → Paired (R Hn) xs bs → Q (.ref p) H') : Q (.ref D) H' := by
  obtain ⟨Hn, acc, g, nD, aD, pa⟩ := p.ex
  exact q D acc Hn H' g hD nD aD pa
theorem take_filter {f : α → Bool} {g : α → β} {as : List α} {i : Nat} {a : α} (h : as[i]? = some a) : ((as.take (i + 1)).filter f).map g = ((as.take i).filter f).map g ++ if f a then [g a] else [] := by
  rw [List.take_add_one, h, Option.toList_some, List.filter_append, List.map_append]
  congr 1
  cases hf : f a with
  | true => simp [hf]
  | false => simp [hf]
/-- [te for j in a list if t] -/
theorem ep_lcL {j : Nat} {vs : List Nat} {as : List α} (f : α → Bool) (g : α → β) (mP : Mon P) (mR : Mon R) (h : EvP (LstP K P) tl σ Hb as) (hz : as.length ≤ 40000) (hw : ∀ x, wipe ((wipe σ vs).set j (some x)) vs = wipe σ vs)
    (ht : ∀ x a H1, Ex Hb H1 → a ∈ as → P H1 x a → EvT t ((wipe σ vs).set j (some x)) H1 (f a)) (he : ∀ x a H1, Ex Hb H1 → a ∈ as → P H1 x a → f a = true → EvP R te ((wipe σ vs).set j (some x)) H1 (g a)) :
    EvFP R (tLc (iList K tl) (gName j) t te vs) σ Hb ((as.filter f).map g) := fun H0 e Q q => h H0 e _ fun v Hb1 H1 g1 hv => by
  obtain ⟨a, xs, rfl, hx, pa⟩ := hv
  have lx : xs.length = as.length := Paired.length pa
  refine ⟨a, rfl, ⟨xs, ex_l g1.new hx⟩, fun D hD => ?_⟩
  refine lc_list (xs := xs) (fun i H' => Cp R Hb1 H1 D (((as.take i).filter f).map g) H') (cp_first g1.new hD) (fun i H' _ p => ?_) (fun i x H' hi p => ?_) (fun H' p => ?_)
  · obtain ⟨Hn, acc, gg, _⟩ := p.ex
    exact ex_l (gg.base.trans gg.new) hx
  · obtain ⟨c, hc, pc⟩ := paired_at pa hi
    have hm := List.mem_of_getElem? hc
    refine ⟨hw x, ?_⟩
    show t ((wipe σ vs).set j (some x)) H' fun b H3 => if b = true then te ((wipe σ vs).set j (some x)) H3 fun y H4 => ∃ acc, H4 D = some (.lst acc) ∧ acc.length < sizeLine ∧ Cp R Hb1 H1 D (((as.take (i + 1)).filter f).map g) (upd H4 D (.lst (acc ++ [y]))) else Cp R Hb1 H1 D (((as.take (i + 1)).filter f).map g) H3
    rw [take_filter hc]
    refine cp_turn mR hD p ?_ (fun Hn e1 _ => ht x c Hn (g1.base.trans e1) hm (mP _ _ _ _ e1 pc)) (fun hf Hn e1 _ => he x c Hn (g1.base.trans e1) hm (mP _ _ _ _ e1 pc) hf)
    have h1 := List.length_filter_le f (as.take i)
    rw [List.length_map]
    rw [List.length_take] at h1
    omega
  · have p' : Cp R Hb1 H1 D ((as.filter f).map g) H' := by
      rw [lx, List.take_length] at p
      exact p
    exact cp_last hD p' fun p0 ys Hn H2 gg h1 h2 h3 h4 => q p0 ys Hn H2 (g1.trans gg) (fresh_back g1.all h1) h2 h3 h4
/-- .. in a tuple -/
theorem ep_lcT {j : Nat} {vs : List Nat} {as : List α} (f : α → Bool) (g : α → β) (mP : Mon P) (mR : Mon R) (h : EvP (TupP K P) tl σ Hb as) (hz : as.length ≤ 40000) (hw : ∀ x, wipe ((wipe σ vs).set j (some x)) vs = wipe σ vs)
    (ht : ∀ x a H1, Ex Hb H1 → a ∈ as → P H1 x a → EvT t ((wipe σ vs).set j (some x)) H1 (f a)) (he : ∀ x a H1, Ex Hb H1 → a ∈ as → P H1 x a → f a = true → EvP R te ((wipe σ vs).set j (some x)) H1 (g a)) :
    EvFP R (tLc (iTup K tl) (gName j) t te vs) σ Hb ((as.filter f).map g) := fun H0 e Q q => h H0 e _ fun v Hb1 H1 g1 hv => by
  obtain ⟨a, xs, rfl, hx, pa⟩ := hv
  have lx : xs.length = as.length := Paired.length pa
  refine ⟨a, rfl, ⟨xs, ex_t g1.new hx⟩, fun D hD => ?_⟩
  refine lc_tup (xs := xs) (fun i H' => Cp R Hb1 H1 D (((as.take i).filter f).map g) H') (cp_first g1.new hD) (fun i H' _ p => ?_) (fun i x H' hi p => ?_) (fun H' p => ?_)
  · obtain ⟨Hn, acc, gg, _⟩ := p.ex
    exact ex_t (gg.base.trans gg.new) hx
  · obtain ⟨c, hc, pc⟩ := paired_at pa hi
    have hm := List.mem_of_getElem? hc
    refine ⟨hw x, ?_⟩
    show t ((wipe σ vs).set j (some x)) H' fun b H3 => if b = true then te ((wipe σ vs).set j (some x)) H3 fun y H4 => ∃ acc, H4 D = some (.lst acc) ∧ acc.length < sizeLine ∧ Cp R Hb1 H1 D (((as.take (i + 1)).filter f).map g) (upd H4 D (.lst (acc ++ [y]))) else Cp R Hb1 H1 D (((as.take (i + 1)).filter f).map g) H3
    rw [take_filter hc]
    refine cp_turn mR hD p ?_ (fun Hn e1 _ => ht x c Hn (g1.base.trans e1) hm (mP _ _ _ _ e1 pc)) (fun hf Hn e1 _ => he x c Hn (g1.base.trans e1) hm (mP _ _ _ _ e1 pc) hf)
    have h1 := List.length_filter_le f (as.take i)
    rw [List.length_map]
    rw [List.length_take] at h1
    omega
  · have p' : Cp R Hb1 H1 D ((as.filter f).map g) H' := by
      rw [lx, List.take_length] at p
      exact p
    exact cp_last hD p' fun p0 ys Hn H2 gg h1 h2 h3 h4 => q p0 ys Hn H2 (g1.trans gg) (fresh_back g1.all h1) h2 h3 h4
/-- .. in a range: the items lo, lo + 1, .. -/
theorem cp_range {j : Nat} {vs : List Nat} {lo : Int} {n : Nat} {D : Addr} {H1 : Hp} {Q : VK} (f : Nat → Bool) (g : Nat → β) (mR : Mon R) (e : Ex Hb H1) (hD : H1 D = none) (hz : n ≤ 40000) (hw : ∀ x, wipe ((wipe σ vs).set j (some x)) vs = wipe σ vs)
    (ht : ∀ (i : Nat) H2, Ex Hb H2 → i < n → EvT t ((wipe σ vs).set j (some (.int (lo + (i : Int))))) H2 (f i)) (he : ∀ (i : Nat) H2, Ex Hb H2 → i < n → f i = true → EvP R te ((wipe σ vs).set j (some (.int (lo + (i : Int))))) H2 (g i))
    (q : ∀ p xs Hn H', Gr Hb H1 Hn H' → H1 p = none → Hn p = none → H' p = some (.lst xs) → Paired (R Hn) xs (((List.range n).filter f).map g) → Q (.ref p) H') :
    ∃ W : Nat → Nat → Hp → Prop, (∃ m, W 0 m (upd H1 D (.lst []))) ∧ ∀ i m H, W i m H →
      ((Itr lo n).stop i H ∧ Q (.ref D) H) ∨ ((Itr lo n).go i H ∧ ∃ Nx : Hp → Prop, (∀ H', Nx H' → ∃ m', m' < m ∧ W (i + 1) m' H') ∧ ∀ x H', (Itr lo n).yld i H x H' → gName j x (wipe σ vs) H' fun σ2 H2 => wipe σ2 vs = wipe σ vs ∧ t σ2 H2 fun b H3 =>
        if b = true then te σ2 H3 fun y H4 => ∃ acc, H4 D = some (.lst acc) ∧ acc.length < sizeLine ∧ Nx (upd H4 D (.lst (acc ++ [y]))) else Nx H3) := by
  refine lc_range (lo := lo) (n := n) (fun i H' => Cp R Hb H1 D ((((List.range n).take i).filter f).map g) H') (cp_first e hD) (fun i H' hi p => ?_) (fun H' p => ?_)
  · have hc : (List.range n)[i]? = some i := by
      rw [List.getElem?_range hi]
    refine ⟨hw _, ?_⟩
    show t ((wipe σ vs).set j (some (.int (lo + (i : Int))))) H' fun b H3 => if b = true then te ((wipe σ vs).set j (some (.int (lo + (i : Int))))) H3 fun y H4 => ∃ acc, H4 D = some (.lst acc) ∧ acc.length < sizeLine ∧ Cp R Hb H1 D ((((List.range n).take (i + 1)).filter f).map g) (upd H4 D (.lst (acc ++ [y]))) else Cp R Hb H1 D ((((List.range n).take (i + 1)).filter f).map g) H3
    rw [take_filter hc]
    refine cp_turn mR hD p ?_ (fun Hn e1 _ => ht i Hn e1 hi) (fun hf Hn e1 _ => he i Hn e1 hi hf)
    have h1 := List.length_filter_le f ((List.range n).take i)
    rw [List.length_map]
    rw [List.length_take, List.length_range] at h1
    omega
  · have p' : Cp R Hb H1 D (((List.range n).filter f).map g) H' := by
      have h1 : (List.range n).take n = List.range n := by
        rw [List.take_of_length_le]
        rw [List.length_range]
        exact Nat.le_refl _
      rw [h1] at p
      exact p
    exact cp_last hD p' q
theorem ep_lcR1 {ta : TA} {j : Nat} {vs : List Nat} {n : Int} (f : Nat → Bool) (g : Nat → β) (mR : Mon R) (h : EvA ta σ Hb [.int n]) (hz : 0 ≤ n ∧ n ≤ 40000) (hw : ∀ x, wipe ((wipe σ vs).set j (some x)) vs = wipe σ vs)
    (ht : ∀ (i : Nat) H2, Ex Hb H2 → (i : Int) < n → EvT t ((wipe σ vs).set j (some (.int (i : Int)))) H2 (f i)) (he : ∀ (i : Nat) H2, Ex Hb H2 → (i : Int) < n → f i = true → EvP R te ((wipe σ vs).set j (some (.int (i : Int)))) H2 (g i)) :
    EvFP R (tLc (iRng1 ta) (gName j) t te vs) σ Hb (((List.range n.toNat).filter f).map g) := fun H0 e Q q => h H0 e _ fun H1 e1 => ⟨n, rfl, by omega, by omega, fun D hD => by
  refine cp_range (lo := 0) (n := n.toNat) f g mR (e.trans e1) hD (by omega) hw (fun i H2 e2 hi => ?_) (fun i H2 e2 hi hf => ?_) fun p xs Hn H' gg h1 h2 h3 h4 => ?_
  · rw [Int.zero_add]
    exact ht i H2 e2 (by omega)
  · rw [Int.zero_add]
    exact he i H2 e2 (by omega) hf
  · exact q p xs Hn H' ((Gr.keep e e1).trans gg) (fresh_back e1 h1) h2 h3 h4⟩
theorem ep_lcR2 {ta : TA} {j : Nat} {vs : List Nat} {lo n : Int} (f : Nat → Bool) (g : Nat → β) (mR : Mon R) (h : EvA ta σ Hb [.int lo, .int n]) (hz : -1000 ≤ lo ∧ lo ≤ 40000 ∧ -1000 ≤ n ∧ n ≤ 39000) (hw : ∀ x, wipe ((wipe σ vs).set j (some x)) vs = wipe σ vs)
    (ht : ∀ (i : Nat) H2, Ex Hb H2 → lo + (i : Int) < n → EvT t ((wipe σ vs).set j (some (.int (lo + (i : Int))))) H2 (f i)) (he : ∀ (i : Nat) H2, Ex Hb H2 → lo + (i : Int) < n → f i = true → EvP R te ((wipe σ vs).set j (some (.int (lo + (i : Int))))) H2 (g i)) :
    EvFP R (tLc (iRng2 ta) (gName j) t te vs) σ Hb (((List.range (n - lo).toNat).filter f).map g) := fun H0 e Q q => h H0 e _ fun H1 e1 => ⟨lo, n, rfl, ⟨by omega, by omega, by omega, by omega⟩, fun D hD => by
  refine cp_range (lo := lo) (n := (n - lo).toNat) f g mR (e.trans e1) hD (by omega) hw (fun i H2 e2 hi => ht i H2 e2 (by omega)) (fun i H2 e2 hi hf => he i H2 e2 (by omega) hf) fun p xs Hn H' gg h1 h2 h3 h4 => ?_
  exact q p xs Hn H' ((Gr.keep e e1).trans gg) (fresh_back e1 h1) h2 h3 h4⟩
theorem et_yes : EvT tYes σ Hb true := fun H _ Q q => q H (Ex.refl H)
theorem filter_all (as : List α) : as.filter (fun _ => true) = as := by
  rw [List.filter_eq_self]
  intro a _
  rfl
end
end K54
/-! K54D: the text by places; a def that keeps a promise; checks of parameters. -/
namespace K54
open PySem PySem.Spec PyProof.Rows L2 Evl

abbrev topS (i : Nat) : Stmt := PySem.Challenge.pw_everynext_k54_whole_counts_by_all_charts.main.body.getD i (.Pass ⟨0, 0, 0, 0⟩)
/-- the def st stands by the name x -/
structure At (K : PySem.W.Frag) (mg : Str → Option Value) (x : Str) (st : Stmt) : Prop where
  ex : ∃ f fd, Fun K x x st f fd ∧ mg x = some (.ref f)
/-- the built-ins are what they are -/
structure Tx (mg : Str → Option Value) : Prop where
  range : mg "range" = none
  len : mg "len" = none
  set : mg "set" = none
  sorted : mg "sorted" = none
  enumerate : mg "enumerate" = none
  isinstance : mg "isinstance" = none
  sum : mg "sum" = none
  all : mg "all" = none
  max : mg "max" = none
  min : mg "min" = none
  repr : mg "repr" = none
  int : mg "int" = none
  bool : mg "bool" = none
  tuple : mg "tuple" = none
  list : mg "list" = none
  comb : mg "comb" = some (.builtin "math.comb")
  factorial : mg "factorial" = some (.builtin "math.factorial")
  gcd : mg "gcd" = some (.builtin "math.gcd")
  most : ∃ t, mg "MOST_PLACES" = some (.int 10 t)
/-- the def by the name x keeps the promise sp, by level k -/
structure Df (P : Program) (w : World) (K : PySem.W.Frag) (mg : Str → Option Value) (base : Heap) (x : Str) (k : Nat) (ps : List Str) (sp : Sp) : Prop where
  ex : ∃ f fd, FnOk P w K mg base CX0 k f fd ps sp ∧ mg x = some (.ref f) ∧ PySem.W.keepIn K (.ref f) = true ∧ Binds K fd ps [] ∧ ∃ oc od osl, K.lookup f = some ⟨oc, od, .func fd, osl⟩
section
variable {P : Program} {w : World} {K : PySem.W.Frag} {mg : Str → Option Value} {base : Heap} {x : Str} {k j : Nat} {ps : List Str} {sp : Sp}
theorem Df.mono (D : Df P w K mg base x j ps sp) (h : j ≤ k) : Df P w K mg base x k ps sp := by
  obtain ⟨f, fd, a, b⟩ := D.ex
  exact ⟨f, fd, a.mono h, b⟩
theorem df_of {st : Stmt} {N : List Str} (T : At K mg x st) (S : FnScope N ps (defScope st))
    (hb : ∀ (kV doc pm : Value) (an : Option Addr) (cdv ct : Value) (us : List Value), us.length = ps.length → bindArgs (PySem.W.fnOf x x (defArgs st) (defBody st) (defScope st) .none kV doc pm an cdv ct) ⟨us, []⟩ = pure (ps.zip us))
    (len : ∀ vs H Q E, sp vs H Q E → vs.length = ps.length)
    (body : ∀ (f : Addr) (cdv : Value) (A : Around) (outer : List Env) (s : Shared) (H : Hp) (vs : List V) (Q : VK) (E : XK), Room k (A.deeper (envOfC x (defScope st) s.heap.objs.size f cdv)) → sp vs H Q E →
      ∃ t, PSs (cxOf CX0 P w K mg base N x (defScope st) f cdv A outer s H E).nox (defBody st) t ∧ t { nx := fun _ H' => Q .non H', rt := Q } (start N vs) H) : Df P w K mg base x (k + 1) ps sp := by
  obtain ⟨f, fd, F, hm⟩ := T.ex
  exact ⟨f, fd, F.ok S len fun cdv A outer s H vs Q E hr h => body f cdv A outer s H vs Q E hr h, hm, F.kp, F.binds hb, by
    obtain ⟨oc, od, kV, doc, pm, an, cdv, ct, osl, e, lk, code⟩ := F.ex
    subst e
    exact ⟨oc, od, osl, lk⟩⟩
end
section
variable {X : Cx} {k : Nat} {ps : List Str} {sp : Sp} {x : Str} {p pos : Pos} {e : Expr} {es : List Expr} {t : TA}
theorem pe_df (D : Df X.prog X.w X.K X.mg X.base x k ps sp) (hr : Room k X.A) (ha : PA X (e :: es) t) (hg : Gl X x := by rfl) (hdb : (x == ("__debug__" : Str)) = false := by decide)
    (he : starEach (e :: es) X.env = (false, eval e X.env) :: starEach es X.env := by rfl) (hpl : (backTo pos (starEach es X.env)).any (·.1) = false := by rfl) :
    PE X (.Call (.Name x p) (e :: es) [] pos) (tCall sp [] E0 t) := by
  obtain ⟨f, fd, F, hm, hk, hb, _⟩ := D.ex
  exact pe_call F hr hg hm hk hb .nil pass0 ha hdb he hpl
end

/-! ### promises of one, two, three ints -/
def sp1 (pre : Int → Prop) (f : Int → Int) : Sp := fun vs H Q _ => ∃ a, vs = [V.int a] ∧ pre a ∧ ∀ H', Ex H H' → Q (.int (f a)) H'
def sp2 (pre : Int → Int → Prop) (f : Int → Int → Int) : Sp := fun vs H Q _ => ∃ a b, vs = [V.int a, V.int b] ∧ pre a b ∧ ∀ H', Ex H H' → Q (.int (f a b)) H'
def sp3 (pre : Int → Int → Int → Prop) (f : Int → Int → Int → Int) : Sp := fun vs H Q _ => ∃ a b c, vs = [V.int a, V.int b, V.int c] ∧ pre a b c ∧ ∀ H', Ex H H' → Q (.int (f a b c)) H'
/-- a new list of ints -/
def sp1L (pre : Int → Prop) (f : Int → List Int) : Sp := fun vs H Q _ => ∃ a, vs = [V.int a] ∧ pre a ∧ ∀ p H', H p = none → Ex H H' → H' p = some (.lst ((f a).map V.int)) → Q (.ref p) H'
def sp2L (pre : Int → Int → Prop) (f : Int → Int → List Int) : Sp := fun vs H Q _ => ∃ a b, vs = [V.int a, V.int b] ∧ pre a b ∧ ∀ p H', H p = none → Ex H H' → H' p = some (.lst ((f a b).map V.int)) → Q (.ref p) H'
/-- a check that finds nothing -/
def sp1N (pre : Int → Prop) : Sp := fun vs H Q _ => ∃ a, vs = [V.int a] ∧ pre a ∧ ∀ H', Ex H H' → Q .non H'
/-- an answer yes or no -/
def sp1B (pre : Int → Prop) (f : Int → Bool) : Sp := fun vs H Q _ => ∃ a, vs = [V.int a] ∧ pre a ∧ ∀ H', Ex H H' → Q (.bl (f a)) H'
def sp2B (pre : Int → Int → Prop) (f : Int → Int → Bool) : Sp := fun vs H Q _ => ∃ a b, vs = [V.int a, V.int b] ∧ pre a b ∧ ∀ H', Ex H H' → Q (.bl (f a b)) H'
def sp3B (pre : Int → Int → Int → Prop) (f : Int → Int → Int → Bool) : Sp := fun vs H Q _ => ∃ a b c, vs = [V.int a, V.int b, V.int c] ∧ pre a b c ∧ ∀ H', Ex H H' → Q (.bl (f a b c)) H'
section
variable {σ : L2.St} {H : Hp} {ta tb tc : TE}
theorem ev_c1 {pre : Int → Prop} {f : Int → Int} {a : Int} (h : Ev ta σ H (.int a)) (hp : pre a) : Ev (tCall (sp1 pre f) [] E0 (tCons ta tNil)) σ H (.int (f a)) := fun H1 e Q q =>
  h H1 e _ fun H2 e2 => ⟨a, rfl, hp, fun H3 e3 => q H3 (e2.trans e3)⟩
theorem ev_c2 {pre : Int → Int → Prop} {f : Int → Int → Int} {a b : Int} (h : Ev ta σ H (.int a)) (h2 : Ev tb σ H (.int b)) (hp : pre a b) : Ev (tCall (sp2 pre f) [] E0 (tCons ta (tCons tb tNil))) σ H (.int (f a b)) := fun H1 e Q q =>
  h H1 e _ fun H2 e2 => h2 H2 (e.trans e2) _ fun H3 e3 => ⟨a, b, rfl, hp, fun H4 e4 => q H4 ((e2.trans e3).trans e4)⟩
theorem ev_c3 {pre : Int → Int → Int → Prop} {f : Int → Int → Int → Int} {a b c : Int} (h : Ev ta σ H (.int a)) (h2 : Ev tb σ H (.int b)) (h3 : Ev tc σ H (.int c)) (hp : pre a b c) :
    Ev (tCall (sp3 pre f) [] E0 (tCons ta (tCons tb (tCons tc tNil)))) σ H (.int (f a b c)) := fun H1 e Q q =>
  h H1 e _ fun H2 e2 => h2 H2 (e.trans e2) _ fun H3 e3 => h3 H3 ((e.trans e2).trans e3) _ fun H4 e4 => ⟨a, b, c, rfl, hp, fun H5 e5 => q H5 (((e2.trans e3).trans e4).trans e5)⟩
theorem ev_b1 {pre : Int → Prop} {f : Int → Bool} {a : Int} (h : Ev ta σ H (.int a)) (hp : pre a) : Ev (tCall (sp1B pre f) [] E0 (tCons ta tNil)) σ H (.bl (f a)) := fun H1 e Q q =>
  h H1 e _ fun H2 e2 => ⟨a, rfl, hp, fun H3 e3 => q H3 (e2.trans e3)⟩
theorem ev_b2 {pre : Int → Int → Prop} {f : Int → Int → Bool} {a b : Int} (h : Ev ta σ H (.int a)) (h2 : Ev tb σ H (.int b)) (hp : pre a b) : Ev (tCall (sp2B pre f) [] E0 (tCons ta (tCons tb tNil))) σ H (.bl (f a b)) := fun H1 e Q q =>
  h H1 e _ fun H2 e2 => h2 H2 (e.trans e2) _ fun H3 e3 => ⟨a, b, rfl, hp, fun H4 e4 => q H4 ((e2.trans e3).trans e4)⟩
theorem ev_b3 {pre : Int → Int → Int → Prop} {f : Int → Int → Int → Bool} {a b c : Int} (h : Ev ta σ H (.int a)) (h2 : Ev tb σ H (.int b)) (h3 : Ev tc σ H (.int c)) (hp : pre a b c) :
    Ev (tCall (sp3B pre f) [] E0 (tCons ta (tCons tb (tCons tc tNil)))) σ H (.bl (f a b c)) := fun H1 e Q q =>
  h H1 e _ fun H2 e2 => h2 H2 (e.trans e2) _ fun H3 e3 => h3 H3 ((e.trans e2).trans e3) _ fun H4 e4 => ⟨a, b, c, rfl, hp, fun H5 e5 => q H5 (((e2.trans e3).trans e4).trans e5)⟩
theorem ev_n1 {pre : Int → Prop} {a : Int} (h : Ev ta σ H (.int a)) (hp : pre a) : Ev (tCall (sp1N pre) [] E0 (tCons ta tNil)) σ H .non := fun H1 e Q q =>
  h H1 e _ fun H2 e2 => ⟨a, rfl, hp, fun H3 e3 => q H3 (e2.trans e3)⟩
theorem el_c1 {pre : Int → Prop} {f : Int → List Int} {a : Int} (h : Ev ta σ H (.int a)) (hp : pre a) : EvL (tCall (sp1L pre f) [] E0 (tCons ta tNil)) σ H ((f a).map V.int) := fun H1 e Q q =>
  h H1 e _ fun H2 e2 => ⟨a, rfl, hp, fun p H3 hn e3 hH => q p H3 (fresh_back e2 hn) (e2.trans e3) hH⟩
theorem el_c2 {pre : Int → Int → Prop} {f : Int → Int → List Int} {a b : Int} (h : Ev ta σ H (.int a)) (h2 : Ev tb σ H (.int b)) (hp : pre a b) : EvL (tCall (sp2L pre f) [] E0 (tCons ta (tCons tb tNil))) σ H ((f a b).map V.int) := fun H1 e Q q =>
  h H1 e _ fun H2 e2 => h2 H2 (e.trans e2) _ fun H3 e3 => ⟨a, b, rfl, hp, fun p H4 hn e4 hH => q p H4 (fresh_back (e2.trans e3) hn) ((e2.trans e3).trans e4) hH⟩
/-! ### ints -/
theorem ev_add {a b : Int} (h : Ev ta σ H (.int a)) (h2 : Ev tb σ H (.int b)) : Ev (tOp (rI0 fun i j => .int (i + j)) ta tb) σ H (.int (a + b)) := ev_op h h2 rv_I0
theorem ev_sub {a b : Int} (h : Ev ta σ H (.int a)) (h2 : Ev tb σ H (.int b)) : Ev (tOp (rI0 fun i j => .int (i - j)) ta tb) σ H (.int (a - b)) := ev_op h h2 rv_I0
theorem ev_mul {a b : Int} (h : Ev ta σ H (.int a)) (h2 : Ev tb σ H (.int b)) (hc : CMul a b) : Ev (tOp (rI CMul fun i j => .int (i * j)) ta tb) σ H (.int (a * b)) := ev_op h h2 (rv_I hc)
theorem ev_mod {a b : Int} (h : Ev ta σ H (.int a)) (h2 : Ev tb σ H (.int b)) (hc : 0 < b) : Ev (tOp (rI (fun _ j => 0 < j) fun i j => .int (i % j)) ta tb) σ H (.int (a % b)) := ev_op h h2 (rv_I (C := fun _ j => 0 < j) hc)
theorem ev_fdiv {a b : Int} (h : Ev ta σ H (.int a)) (h2 : Ev tb σ H (.int b)) (hc : CDiv a b) : Ev (tOp (rI CDiv fun i j => .int (i / j)) ta tb) σ H (.int (a / b)) := ev_op h h2 (rv_I hc)
theorem ev_lt {a b : Int} (h : Ev ta σ H (.int a)) (h2 : Ev tb σ H (.int b)) : Ev (tOp (rI0 fun i j => .bl (decide (i < j))) ta tb) σ H (.bl (decide (a < b))) := ev_op h h2 rv_I0
theorem ev_le {a b : Int} (h : Ev ta σ H (.int a)) (h2 : Ev tb σ H (.int b)) : Ev (tOp (rI0 fun i j => .bl (decide (i ≤ j))) ta tb) σ H (.bl (decide (a ≤ b))) := ev_op h h2 rv_I0
theorem ev_gt {a b : Int} (h : Ev ta σ H (.int a)) (h2 : Ev tb σ H (.int b)) : Ev (tOp (rI0 fun i j => .bl (decide (j < i))) ta tb) σ H (.bl (decide (b < a))) := ev_op h h2 rv_I0
theorem ev_ge {a b : Int} (h : Ev ta σ H (.int a)) (h2 : Ev tb σ H (.int b)) : Ev (tOp (rI0 fun i j => .bl (decide (j ≤ i))) ta tb) σ H (.bl (decide (b ≤ a))) := ev_op h h2 rv_I0
theorem decV (a b : Int) : decide (V.int a = V.int b) = decide (a = b) := by
  by_cases h : a = b
  · rw [h]
    simp
  · simp [h]
theorem ev_eq {a b : Int} (h : Ev ta σ H (.int a)) (h2 : Ev tb σ H (.int b)) : Ev (tOp rEq ta tb) σ H (.bl (decide (a = b))) := by
  have q := ev_op (r := rEq) h h2 (rv_eq rfl)
  rw [decV] at q
  exact q
theorem ev_ne {a b : Int} (h : Ev ta σ H (.int a)) (h2 : Ev tb σ H (.int b)) : Ev (tOp rNe ta tb) σ H (.bl (!decide (a = b))) := by
  have q := ev_op (r := rNe) h h2 (rv_ne rfl)
  rw [decV] at q
  exact q
theorem ev_neg {a : Int} (h : Ev ta σ H (.int a)) : Ev (tUn (rU fun i => .int (-i)) ta) σ H (.int (-a)) := ev_un h ru_neg
theorem ev_comb {a b : Int} (h : Ev ta σ H (.int a)) (h2 : Ev tb σ H (.int b)) (hc : 0 ≤ a ∧ a ≤ 1000 ∧ 0 ≤ b ∧ b ≤ 1000) : Ev (tCB rComb (tCons ta (tCons tb tNil))) σ H (.int (PySem.W.mcComb a b)) := fun H1 e Q q =>
  h H1 e _ fun H2 e2 => h2 H2 (e.trans e2) _ fun H3 e3 => ⟨a, b, rfl, hc, q H3 (e2.trans e3)⟩
theorem ev_fact {a : Int} (h : Ev ta σ H (.int a)) (hc : 0 ≤ a ∧ a ≤ 1000) : Ev (tCB rFact (tCons ta tNil)) σ H (.int (fac a)) := fun H1 e Q q =>
  h H1 e _ fun H2 e2 => ⟨a, rfl, hc, q H2 e2⟩
end
end K54
/-! K54F1: is_integer .. check_many, times_itself, forests_on, ring_ways. -/
namespace K54
open PySem PySem.Spec PyProof.Rows L2 Evl

section
variable {K : PySem.W.Frag} {σ : L2.St} {H : Hp} {ta tb : TE}
theorem ev_isi {c : String} {b : Bool} {a : Int} (h : Ev ta σ H (.int a)) (hk : kitB "int" c = some b) : Ev (tCB (rIsi K) (tCons ta (tCons (tC (.ty c)) tNil))) σ H (.bl b) := fun H1 e Q q =>
  h H1 e _ fun H2 e2 => ⟨.int a, .ty c, .type "int", .type c, b, rfl, .ty c, .base (.int a), kit_ty hk, q H2 e2⟩
theorem ev_chain {r r' : R2} {ta tb tc : TE} {x y z : V} {b c : Bool} (h1 : Ev ta σ H x) (h2 : Ev tb σ H y) (h3 : Ev tc σ H z) (hr : RV r x y H (.bl b)) (hr' : RV r' y z H (.bl c)) : Ev (tChain r r' ta tb tc) σ H (.bl (b && c)) := fun H1 e Q q =>
  h1 H1 e _ fun H2 e2 => h2 H2 (e.trans e2) _ fun H3 e3 => hr H3 ((e.trans e2).trans e3) _ fun H4 e4 => ⟨b, rfl, by
    cases b with
    | true =>
      show tc σ H4 fun w' H5 => r' y w' H5 Q
      exact h3 H4 (((e.trans e2).trans e3).trans e4) _ fun H5 e5 => hr' H5 ((((e.trans e2).trans e3).trans e4).trans e5) Q fun H6 e6 => q H6 ((((e2.trans e3).trans e4).trans e5).trans e6)
    | false =>
      show Q (.bl false) H4
      exact q H4 ((e2.trans e3).trans e4)⟩
end

abbrev sIsInteger : Stmt := topS 7
abbrev sIsFrom : Stmt := topS 8
abbrev sIsBetween : Stmt := topS 9
abbrev sCheckNumber : Stmt := topS 10
abbrev sCheckCount : Stmt := topS 11
abbrev sCheckMany : Stmt := topS 13
abbrev sTimes : Stmt := topS 14
abbrev sForests : Stmt := topS 15
abbrev sRingWays : Stmt := topS 17
theorem scIsInteger : FnScope ["value"] ["value"] (defScope sIsInteger) := ⟨rfl, rfl, rfl, by decide +kernel, rfl, by decide +kernel, by decide +kernel⟩
theorem scIsFrom : FnScope ["low", "value"] ["low", "value"] (defScope sIsFrom) := ⟨rfl, rfl, rfl, by decide +kernel, rfl, by decide +kernel, by decide +kernel⟩
theorem scIsBetween : FnScope ["low", "value", "high"] ["low", "value", "high"] (defScope sIsBetween) := ⟨rfl, rfl, rfl, by decide +kernel, rfl, by decide +kernel, by decide +kernel⟩
theorem scCheckNumber : FnScope ["value"] ["value"] (defScope sCheckNumber) := ⟨rfl, rfl, rfl, by decide +kernel, rfl, by decide +kernel, by decide +kernel⟩
theorem scCheckCount : FnScope ["value"] ["value"] (defScope sCheckCount) := ⟨rfl, rfl, rfl, by decide +kernel, rfl, by decide +kernel, by decide +kernel⟩
theorem scCheckMany : FnScope ["value"] ["value"] (defScope sCheckMany) := ⟨rfl, rfl, rfl, by decide +kernel, rfl, by decide +kernel, by decide +kernel⟩
theorem scTimes : FnScope ["base", "times", "found", "turn"] ["base", "times"] (defScope sTimes) := ⟨rfl, rfl, rfl, by decide +kernel, rfl, by decide +kernel, by decide +kernel⟩
theorem scForests : FnScope ["many", "roots"] ["many", "roots"] (defScope sForests) := ⟨rfl, rfl, rfl, by decide +kernel, rfl, by decide +kernel, by decide +kernel⟩
theorem scRingWays : FnScope ["many", "places"] ["many", "places"] (defScope sRingWays) := ⟨rfl, rfl, rfl, by decide +kernel, rfl, by decide +kernel, by decide +kernel⟩

/-! ### the mathematics -/
def ti (b : Int) : Nat → Int
  | 0 => 1
  | n + 1 => ti b n * b
theorem ti_pos {b : Int} (h : 0 ≤ b) : ∀ n, 0 ≤ ti b n
  | 0 => by
    show (0 : Int) ≤ 1
    decide
  | n + 1 => Int.mul_nonneg (ti_pos h n) h
def tiZ (b n : Int) : Int := ti b n.toNat
def forests (m r : Int) : Int := if r < m then r * tiZ m (m - r - 1) else 1
def ringWays (m p : Int) : Int := PySem.W.mcComb m p * forests m p

section
variable {P : Program} {w : World} {K : PySem.W.Frag} {mg : Str → Option Value} {base : Heap}
theorem d_is_integer (T : At K mg "is_integer" sIsInteger) (B : Tx mg) : Df P w K mg base "is_integer" 1 ["value"] (sp1B (fun _ => True) fun _ => true) := by
  refine df_of T scIsInteger (fun _ _ _ _ _ _ us hl => match us, hl with | [_], _ => rfl) (fun vs H Q E h => ?_) (fun f cdv A outer s H vs Q E hr h => ?_)
  · obtain ⟨a, rfl, _⟩ := h
    rfl
  · obtain ⟨a, rfl, _, q⟩ := h
    refine ⟨_, pss_one (ps_ret (pe_and (pe_callB call_isi (by rfl) B.isinstance boot_isinstance (pa_cons (pv 0) (pa_cons (pe_bltn (v := .ty "int") (by rfl) B.int boot_int rfl) pa_nil)))
      (pe_one (pe_not (pe_callB call_isi (by rfl) B.isinstance boot_isinstance (pa_cons (pv 0) (pa_cons (pe_bltn (v := .ty "bool") (by rfl) B.bool boot_bool rfl) pa_nil))))))), ?_⟩
    refine s_ret (v := .bl (true && !false)) (ev_andV (ev_isi (a := a) (ev_var rfl) (by decide +kernel)) fun _ => ev_notV (ev_isi (a := a) (ev_var rfl) (by decide +kernel))) q
theorem d_is_from (T : At K mg "is_from" sIsFrom) (B : Tx mg) (D1 : Df P w K mg base "is_integer" 1 ["value"] (sp1B (fun _ => True) fun _ => true)) :
    Df P w K mg base "is_from" 2 ["low", "value"] (sp2B (fun _ _ => True) fun a b => decide (a ≤ b)) := by
  refine df_of T scIsFrom (fun _ _ _ _ _ _ us hl => match us, hl with | [_, _], _ => rfl) (fun vs H Q E h => ?_) (fun f cdv A outer s H vs Q E hr h => ?_)
  · obtain ⟨a, b, rfl, _⟩ := h
    rfl
  · obtain ⟨a, b, rfl, _, q⟩ := h
    refine ⟨_, pss_one (ps_ret (pe_and (pe_df D1 hr (pa_cons (pv 1) pa_nil)) (pe_one (pe_cmpR op_ge (pv 1) (pv 0) (nomark _))))), ?_⟩
    refine s_ret (v := .bl (true && decide (a ≤ b))) (ev_andV (ev_b1 (a := b) (ev_var rfl) trivial) fun _ => ev_ge (ev_var rfl) (ev_var rfl)) ?_
    rw [Bool.true_and]
    exact q
theorem d_is_between (T : At K mg "is_between" sIsBetween) (B : Tx mg) (D1 : Df P w K mg base "is_integer" 1 ["value"] (sp1B (fun _ => True) fun _ => true)) :
    Df P w K mg base "is_between" 2 ["low", "value", "high"] (sp3B (fun _ _ _ => True) fun a b c => decide (a ≤ b) && decide (b ≤ c)) := by
  refine df_of T scIsBetween (fun _ _ _ _ _ _ us hl => match us, hl with | [_, _, _], _ => rfl) (fun vs H Q E h => ?_) (fun f cdv A outer s H vs Q E hr h => ?_)
  · obtain ⟨a, b, c, rfl, _⟩ := h
    rfl
  · obtain ⟨a, b, c, rfl, _, q⟩ := h
    refine ⟨_, pss_one (ps_ret (pe_and (pe_df D1 hr (pa_cons (pv 1) pa_nil)) (pe_one (pe_chain op_le op_le (pv 0) (pv 1) (pv 2))))), ?_⟩
    refine s_ret (v := .bl (true && (decide (a ≤ b) && decide (b ≤ c)))) (ev_andV (ev_b1 (a := b) (ev_var rfl) trivial) fun _ => ev_chain (x := .int a) (y := .int b) (z := .int c) (ev_var rfl) (ev_var rfl) (ev_var rfl) rv_I0 rv_I0) ?_
    rw [Bool.true_and]
    exact q
theorem d_check_number (T : At K mg "check_number" sCheckNumber) (B : Tx mg) (D1 : Df P w K mg base "is_from" 2 ["low", "value"] (sp2B (fun _ _ => True) fun a b => decide (a ≤ b))) :
    Df P w K mg base "check_number" 3 ["value"] (sp1N fun a => 0 ≤ a) := by
  refine df_of T scCheckNumber (fun _ _ _ _ _ _ us hl => match us, hl with | [_], _ => rfl) (fun vs H Q E h => ?_) (fun f cdv A outer s H vs Q E hr h => ?_)
  · obtain ⟨a, rfl, _⟩ := h
    rfl
  · obtain ⟨a, rfl, ha, q⟩ := h
    refine ⟨_, pss_one (ps_if (pt_not (pt_val (pe_df D1 hr (pa_cons pe_int (pa_cons (pv 0) pa_nil))))) (pss_one ps_never) pss_nil), ?_⟩
    refine s_if (b := !decide (0 ≤ a)) (et_not (et_B (ev_b2 (a := 0) (b := a) ev_c (ev_var rfl) trivial))) (fun hb => ?_) (fun _ H1 e1 => q H1 e1)
    rw [decide_eq_true ha] at hb
    cases hb
theorem d_check_count (T : At K mg "check_count" sCheckCount) (B : Tx mg) (D1 : Df P w K mg base "is_from" 2 ["low", "value"] (sp2B (fun _ _ => True) fun a b => decide (a ≤ b))) :
    Df P w K mg base "check_count" 3 ["value"] (sp1N fun a => 1 ≤ a) := by
  refine df_of T scCheckCount (fun _ _ _ _ _ _ us hl => match us, hl with | [_], _ => rfl) (fun vs H Q E h => ?_) (fun f cdv A outer s H vs Q E hr h => ?_)
  · obtain ⟨a, rfl, _⟩ := h
    rfl
  · obtain ⟨a, rfl, ha, q⟩ := h
    refine ⟨_, pss_one (ps_if (pt_not (pt_val (pe_df D1 hr (pa_cons pe_int (pa_cons (pv 0) pa_nil))))) (pss_one ps_never) pss_nil), ?_⟩
    refine s_if (b := !decide (1 ≤ a)) (et_not (et_B (ev_b2 (a := 1) (b := a) ev_c (ev_var rfl) trivial))) (fun hb => ?_) (fun _ H1 e1 => q H1 e1)
    rw [decide_eq_true ha] at hb
    cases hb
theorem d_check_many (T : At K mg "check_many" sCheckMany) (B : Tx mg) (D1 : Df P w K mg base "is_between" 2 ["low", "value", "high"] (sp3B (fun _ _ _ => True) fun a b c => decide (a ≤ b) && decide (b ≤ c))) :
    Df P w K mg base "check_many" 3 ["value"] (sp1N fun a => 1 ≤ a ∧ a ≤ 10) := by
  refine df_of T scCheckMany (fun _ _ _ _ _ _ us hl => match us, hl with | [_], _ => rfl) (fun vs H Q E h => ?_) (fun f cdv A outer s H vs Q E hr h => ?_)
  · obtain ⟨a, rfl, _⟩ := h
    rfl
  · obtain ⟨a, rfl, ⟨h1, h2⟩, q⟩ := h
    obtain ⟨t10, m10⟩ := B.most
    refine ⟨_, pss_one (ps_if (pt_not (pt_val (pe_df D1 hr (pa_cons pe_int (pa_cons (pv 0) (pa_cons (pe_glob (v := .int 10) (by rfl) m10 ⟨_, rfl⟩) pa_nil)))))) (pss_one ps_never) pss_nil), ?_⟩
    refine s_if (b := !(decide (1 ≤ a) && decide (a ≤ 10))) (et_not (et_B (ev_b3 (a := 1) (b := a) (c := 10) ev_c (ev_var rfl) ev_c trivial))) (fun hb => ?_) (fun _ H1 e1 => q H1 e1)
    rw [decide_eq_true h1, decide_eq_true h2] at hb
    cases hb
theorem d_times (T : At K mg "times_itself" sTimes) (B : Tx mg) : Df P w K mg base "times_itself" 1 ["base", "times"] (sp2 (fun b n => 0 ≤ b ∧ b ≤ 1000 ∧ 0 ≤ n ∧ n ≤ 1000) tiZ) := by
  refine df_of T scTimes (fun _ _ _ _ _ _ us hl => match us, hl with | [_, _], _ => rfl) (fun vs H Q E h => ?_) (fun f cdv A outer s H vs Q E hr h => ?_)
  · obtain ⟨a, b, rfl, _⟩ := h
    rfl
  · obtain ⟨b, n, rfl, ⟨h1, h2, h3, h4⟩, q⟩ := h
    refine ⟨_, pss_cons (ps_set (i := 2) scTimes.nd rfl (.inl rfl) pe_int)
      (pss_cons (ps_for PassesOwn.never rfl (pi_range1 (by rfl) B.range (pa_cons (pv 1) pa_nil)) (pg_name (i := 3) scTimes.nd rfl (.inl rfl)) (pss_one (ps_aug (i := 2) scTimes.nd rfl (.inl rfl) (pv 0) iop_mul)))
      (pss_one (ps_ret (pv 2)))), ?_⟩
    refine q_asg ev_c fun H1 e1 => ?_
    refine q_forR1 (n := n) (ea_cons (ev_var rfl) ea_nil) ⟨h3, by omega⟩ (fun i σ' H' => ∃ y, σ' = [some (.int b), some (.int n), some (.int (ti b i)), y] ∧ Ex H H') (fun H2 e2 => ⟨_, rfl, e1.trans e2⟩) (fun i σ' H' hi hp => ?_) (fun σ' H' hp => ?_)
    · obtain ⟨y, rfl, e⟩ := hp
      refine ⟨.int (ti b i), rfl, ?_⟩
      refine ⟨.int b, rfl, ?_⟩
      exact ⟨ti b i, b, rfl, rfl, .inr ⟨by omega, by omega⟩, ⟨_, rfl, e⟩⟩
    · obtain ⟨y, rfl, e⟩ := hp
      exact s_ret (v := .int (tiZ b n)) (ev_var rfl) fun H2 e2 => q H2 (e.trans e2)
theorem d_forests (T : At K mg "forests_on" sForests) (B : Tx mg) (D1 : Df P w K mg base "times_itself" 1 ["base", "times"] (sp2 (fun b n => 0 ≤ b ∧ b ≤ 1000 ∧ 0 ≤ n ∧ n ≤ 1000) tiZ)) :
    Df P w K mg base "forests_on" 2 ["many", "roots"] (sp2 (fun m r => 0 ≤ m ∧ m ≤ 1000 ∧ 0 ≤ r ∧ r ≤ 1000) forests) := by
  refine df_of T scForests (fun _ _ _ _ _ _ us hl => match us, hl with | [_, _], _ => rfl) (fun vs H Q E h => ?_) (fun f cdv A outer s H vs Q E hr h => ?_)
  · obtain ⟨a, b, rfl, _⟩ := h
    rfl
  · obtain ⟨m, r, rfl, ⟨h1, h2, h3, h4⟩, q⟩ := h
    refine ⟨_, pss_one (ps_ret (pe_ifExp (pt_cmpR op_lt (pv 1) (pv 0) (nomark _)) (pe_op op_mul (pv 1) (pe_df D1 hr (pa_cons (pv 0) (pa_cons (pe_op op_sub (pe_op op_sub (pv 0) (pv 1)) pe_int) pa_nil)))) pe_int)), ?_⟩
    refine s_ret (v := .int (forests m r)) (ev_if (b := decide (r < m)) (et_test (ev_lt (ev_var rfl) (ev_var rfl))) (fun hb => ?_) (fun hb => ?_)) q
    · have hlt := of_decide_eq_true hb
      unfold forests
      rw [if_pos hlt]
      exact ev_mul (ev_var rfl) (ev_c2 (ev_var rfl) (ev_sub (ev_sub (ev_var rfl) (ev_var rfl)) ev_c) ⟨h1, h2, by omega, by omega⟩) (.inl ⟨by omega, by omega⟩)
    · have hnl := of_decide_eq_false hb
      unfold forests
      rw [if_neg hnl]
      exact ev_c
theorem d_ring_ways (T : At K mg "ring_ways" sRingWays) (B : Tx mg) (D1 : Df P w K mg base "forests_on" 2 ["many", "roots"] (sp2 (fun m r => 0 ≤ m ∧ m ≤ 1000 ∧ 0 ≤ r ∧ r ≤ 1000) forests)) :
    Df P w K mg base "ring_ways" 3 ["many", "places"] (sp2 (fun m r => 0 ≤ m ∧ m ≤ 10 ∧ 0 ≤ r ∧ r ≤ 10) ringWays) := by
  refine df_of T scRingWays (fun _ _ _ _ _ _ us hl => match us, hl with | [_, _], _ => rfl) (fun vs H Q E h => ?_) (fun f cdv A outer s H vs Q E hr h => ?_)
  · obtain ⟨a, b, rfl, _⟩ := h
    rfl
  · obtain ⟨m, r, rfl, ⟨h1, h2, h3, h4⟩, q⟩ := h
    refine ⟨_, pss_one (ps_ret (pe_op op_mul (pe_callBfun cr_comb (by rfl) B.comb (pa_cons (pv 0) (pa_cons (pv 1) pa_nil))) (pe_df D1 hr (pa_cons (pv 0) (pa_cons (pv 1) pa_nil))))), ?_⟩
    refine s_ret (v := .int (ringWays m r)) (ev_mul (ev_comb (ev_var rfl) (ev_var rfl) ⟨h1, by omega, h3, by omega⟩) (ev_c2 (ev_var rfl) (ev_var rfl) ⟨h1, by omega, h3, by omega⟩) (.inl ?_)) q
    have z : ∀ a : Nat, a < 11 → ∀ b : Nat, b < 11 → -(2 ^ 64) < PySem.W.mcComb (a : Int) (b : Int) ∧ PySem.W.mcComb (a : Int) (b : Int) < 2 ^ 64 := by decide +kernel
    have := z m.toNat (by omega) r.toNat (by omega)
    rw [Int.toNat_of_nonneg h1, Int.toNat_of_nonneg h3] at this
    exact this
end
end K54
/-! K54E: more of what evaluates to what: lists, comprehensions without a test, loops over enumerate. -/
namespace K54
open PySem PySem.Spec PyProof.Rows L2 Evl

/-- a list of ints that is no object of the module -/
def LiP : Hp → V → List Int → Prop := fun H v ns => ∃ a, v = .ref a ∧ H a = some (.lst (ns.map V.int))
theorem mon_li : Mon LiP := fun _ _ _ _ e ⟨a, h1, h2⟩ => ⟨a, h1, e _ _ h2⟩
theorem li_dat {K : PySem.W.Frag} {H : Hp} {v : V} {ns : List Int} (h : LiP H v ns) : DatP K (fun ns => .list (dIs ns)) H v ns := by
  obtain ⟨a, rfl, h2⟩ := h
  exact listI_dp (sq_of h2)
section
variable {α β : Type} {K : PySem.W.Frag} {P : Hp → V → α → Prop} {R : Hp → V → β → Prop} {σ : L2.St} {Hb H H' : Hp} {ta tb te tl : TE} {t u : TT} {x y z v : V} {r : R2}
theorem ef_li {ns : List Int} (h : EvFP IntP te σ Hb ns) : EvP LiP te σ Hb ns := fun H e Q q => h H e Q fun p xs Hn H2 g hp hn hH hd => by
  rw [paired_int hd] at hH
  exact q _ _ H2 (g.own hp hn hH) ⟨p, rfl, upd_same⟩
theorem el_cat {xs ys : List V} (h1 : EvL ta σ H xs) (h2 : EvL tb σ H ys) (hl : xs.length + ys.length ≤ 100000) : EvL (tOp rCat ta tb) σ H (xs ++ ys) := fun H1 e Q q =>
  h1 H1 e _ fun p H2 hp e2 hA => h2 H2 (e.trans e2) _ fun o H3 ho e3 hB => ⟨p, o, xs, ys, rfl, rfl, e3 p _ hA, hB, sz_of hl, fun l hn => q l _ (fresh_back (e2.trans e3) hn) ((e2.trans e3).trans (Ex.new hn)) upd_same⟩
/-- the left one, the right one a list that stands -/
theorem el_catV {xs ys : List V} {a : Addr} (h1 : EvL ta σ H xs) (h2 : Ev tb σ H (.ref a)) (ha : H a = some (.lst ys)) (hl : xs.length + ys.length ≤ 100000) : EvL (tOp rCat ta tb) σ H (xs ++ ys) := fun H1 e Q q =>
  h1 H1 e _ fun p H2 hp e2 hA => h2 H2 (e.trans e2) _ fun H3 e3 => ⟨p, a, xs, ys, rfl, rfl, e3 p _ hA, ((e.trans e2).trans e3) a _ ha, sz_of hl, fun l hn => q l _ (fresh_back (e2.trans e3) hn) ((e2.trans e3).trans (Ex.new hn)) upd_same⟩
theorem el_vcatV {xs ys : List V} {a b : Addr} (h1 : Ev ta σ H (.ref a)) (h2 : Ev tb σ H (.ref b)) (ha : H a = some (.lst xs)) (hb : H b = some (.lst ys)) (hl : xs.length + ys.length ≤ 100000) : EvL (tOp rCat ta tb) σ H (xs ++ ys) := fun H1 e Q q =>
  h1 H1 e _ fun H2 e2 => h2 H2 (e.trans e2) _ fun H3 e3 => ⟨a, b, xs, ys, rfl, rfl, ((e.trans e2).trans e3) a _ ha, ((e.trans e2).trans e3) b _ hb, sz_of hl, fun l hn => q l _ (fresh_back (e2.trans e3) hn) ((e2.trans e3).trans (Ex.new hn)) upd_same⟩
theorem el_rep {xs : List V} {k : Int} (h1 : EvL ta σ H xs) (h2 : Ev tb σ H (.int k)) (hk : 0 ≤ k ∧ k ≤ 1000) (hl : xs.length ≤ 100) : EvL (tOp rRep ta tb) σ H (List.replicate k.toNat xs).flatten := fun H1 e Q q =>
  h1 H1 e _ fun p H2 hp e2 hA => h2 H2 (e.trans e2) _ fun H3 e3 => ⟨p, k, xs, rfl, rfl, e3 p _ hA, by omega, by omega, sz_of (by
    have h1 : k.toNat ≤ 1000 := by omega
    have h2 : xs.length * k.toNat ≤ 100 * 1000 := Nat.mul_le_mul hl h1
    omega), fun l hn => q l _ (fresh_back (e2.trans e3) hn) ((e2.trans e3).trans (Ex.new hn)) upd_same⟩
theorem flat_rep (n : Nat) (x : V) : (List.replicate n [x]).flatten = List.replicate n x := by
  induction n with
  | zero => rfl
  | succ n ih =>
    rw [List.replicate_succ, List.flatten_cons, ih]
    rfl
theorem ep_mR1 {ta : TA} {j : Nat} {vs : List Nat} {n : Int} (g : Nat → β) (mR : Mon R) (h : EvA ta σ Hb [.int n]) (hz : 0 ≤ n ∧ n ≤ 40000) (hw : ∀ x, wipe ((wipe σ vs).set j (some x)) vs = wipe σ vs)
    (he : ∀ (i : Nat) H2, Ex Hb H2 → (i : Int) < n → EvP R te ((wipe σ vs).set j (some (.int (i : Int)))) H2 (g i)) :
    EvFP R (tLc (iRng1 ta) (gName j) tYes te vs) σ Hb ((List.range n.toNat).map g) := by
  have q := ep_lcR1 (te := te) (t := tYes) (j := j) (vs := vs) (fun _ => true) g mR h hz hw (fun _ _ _ _ => et_yes) (fun i H2 e hi _ => he i H2 e hi)
  rw [filter_all] at q
  exact q
theorem ep_mR2 {ta : TA} {j : Nat} {vs : List Nat} {lo n : Int} (g : Nat → β) (mR : Mon R) (h : EvA ta σ Hb [.int lo, .int n]) (hz : -1000 ≤ lo ∧ lo ≤ 40000 ∧ -1000 ≤ n ∧ n ≤ 39000) (hw : ∀ x, wipe ((wipe σ vs).set j (some x)) vs = wipe σ vs)
    (he : ∀ (i : Nat) H2, Ex Hb H2 → lo + (i : Int) < n → EvP R te ((wipe σ vs).set j (some (.int (lo + (i : Int))))) H2 (g i)) :
    EvFP R (tLc (iRng2 ta) (gName j) tYes te vs) σ Hb ((List.range (n - lo).toNat).map g) := by
  have q := ep_lcR2 (te := te) (t := tYes) (j := j) (vs := vs) (fun _ => true) g mR h hz hw (fun _ _ _ _ => et_yes) (fun i H2 e hi _ => he i H2 e hi)
  rw [filter_all] at q
  exact q
theorem ep_mL {j : Nat} {vs : List Nat} {as : List α} (g : α → β) (mP : Mon P) (mR : Mon R) (h : EvP (LstP K P) tl σ Hb as) (hz : as.length ≤ 40000) (hw : ∀ x, wipe ((wipe σ vs).set j (some x)) vs = wipe σ vs)
    (he : ∀ x a H1, Ex Hb H1 → a ∈ as → P H1 x a → EvP R te ((wipe σ vs).set j (some x)) H1 (g a)) : EvFP R (tLc (iList K tl) (gName j) tYes te vs) σ Hb (as.map g) := by
  have q := ep_lcL (te := te) (t := tYes) (j := j) (vs := vs) (fun _ => true) g mP mR h hz hw (fun _ _ _ _ _ _ => et_yes) (fun x a H1 e m p _ => he x a H1 e m p)
  rw [filter_all] at q
  exact q
theorem ep_mT {j : Nat} {vs : List Nat} {as : List α} (g : α → β) (mP : Mon P) (mR : Mon R) (h : EvP (TupP K P) tl σ Hb as) (hz : as.length ≤ 40000) (hw : ∀ x, wipe ((wipe σ vs).set j (some x)) vs = wipe σ vs)
    (he : ∀ x a H1, Ex Hb H1 → a ∈ as → P H1 x a → EvP R te ((wipe σ vs).set j (some x)) H1 (g a)) : EvFP R (tLc (iTup K tl) (gName j) tYes te vs) σ Hb (as.map g) := by
  have q := ep_lcT (te := te) (t := tYes) (j := j) (vs := vs) (fun _ => true) g mP mR h hz hw (fun _ _ _ _ _ _ => et_yes) (fun x a H1 e m p _ => he x a H1 e m p)
  rw [filter_all] at q
  exact q
/-- a list of ints that stands -/
theorem ep_lst {a : Addr} {ns : List Int} (h : Ev te σ Hb (.ref a)) (ha : SqL K Hb a (ns.map V.int)) : EvP (LstP K IntP) te σ Hb ns := fun H e Q q => h H e Q fun H2 e2 => q _ Hb H2 (Gr.keep e e2) ⟨a, _, rfl, ha, int_paired ns⟩
theorem ep_tup {a : Addr} {ns : List Int} (h : Ev te σ Hb (.ref a)) (ha : SqT K Hb a (ns.map V.int)) : EvP (TupP K IntP) te σ Hb ns := fun H e Q q => h H e Q fun H2 e2 => q _ Hb H2 (Gr.keep e e2) ⟨a, _, rfl, ha, int_paired ns⟩
theorem ep_lst0 {ns : List Int} (h : EvL te σ Hb (ns.map V.int)) : EvP (LstP K IntP) te σ Hb ns := (ef_evl h).lst mon_int
/-- xs[i] -/
theorem ev_ixL {a : Addr} {xs : List V} {i : Int} (h : Ev ta σ H (.ref a)) (h2 : Ev tb σ H (.int i)) (ha : SqL K H a xs) (hi : atI xs i = some v) : Ev (tOp (rIxL K) ta tb) σ H v := ev_op h h2 (rv_ixL ha hi)
theorem ev_ixT {a : Addr} {xs : List V} {i : Int} (h : Ev ta σ H (.ref a)) (h2 : Ev tb σ H (.int i)) (ha : SqT K H a xs) (hi : atI xs i = some v) : Ev (tOp (rIxT K) ta tb) σ H v := ev_op h h2 (rv_ixT ha hi)
theorem at_map {ns : List Int} {i : Nat} {n : Int} (h : ns[i]? = some n) : atI (ns.map V.int) (i : Int) = some (.int n) := atI_nat (by rw [List.getElem?_map, h]; rfl)
theorem getD_some {ns : List Int} {i : Nat} (h : i < ns.length) : ns[i]? = some (ns.getD i 0) := by
  rw [List.getD_eq_getElem?_getD, List.getElem?_eq_getElem h]
  rfl
end
section
variable {K : PySem.W.Frag} {σ : L2.St} {H : Hp} {D : Ends} {tz tu : TS} {ta : TA} {tl tb : TE}
/-- two names from a new pair -/
theorem g_pair {i j : Nat} {T : Addr} {x y : V} {H1 : Hp} {Q : L2.St → Hp → Prop} (h : Q ((σ.set i (some x)).set j (some y)) (upd H1 T (.tup [x, y]))) :
    gTup K 2 (gCons (gName i) (gCons (gName j) gNil)) (.ref T) σ (upd H1 T (.tup [x, y])) Q :=
  ⟨T, [x, y], rfl, st_of upd_same, rfl, x, [y], rfl, y, [], rfl, rfl, h⟩
/-- for i, x in enumerate(list that stands) -/
theorem s_forEn {i j : Nat} {a : Addr} {xs : List V} (h : Ev tl σ H (.ref a)) (hx : SqL K H a xs) (Pv : Nat → L2.St → Hp → Prop) (h0 : ∀ H1, Ex H H1 → Pv 0 σ H1) (hG : ∀ k σ' H', k ≤ xs.length → Pv k σ' H' → SqL K H' a xs)
    (hs : ∀ (k : Nat) x T σ' H', xs[k]? = some x → Pv k σ' H' → H' T = none → tu { D with nx := Pv (k + 1), ct := Pv (k + 1), bk := D.nx } ((σ'.set i (some (.int (k : Int)))).set j (some x)) (upd H' T (.tup [.int (k : Int), x]))) (hd : ∀ σ' H', Pv xs.length σ' H' → D.nx σ' H') :
    tFor (iEnum K (tCons tl tNil)) (gTup K 2 (gCons (gName i) (gCons (gName j) gNil))) tu D σ H := by
  refine h H (Ex.refl H) _ fun H1 e1 => ⟨a, xs, rfl, ex_l e1 hx, ?_⟩
  refine for_it (D := D) walk_enum Pv (h0 H1 e1) hG (fun k v σ' H' H2 hk p y => ?_) hd
  obtain ⟨T, x1, x2, rfl, nT, rfl, e2, e3⟩ := y
  cases e2
  exact g_pair (hs k x2 T σ' H' e3 p nT)
/-- .. of a new list -/
theorem s_forEnN {i j : Nat} {xs : List V} (h : EvL tl σ H xs) (Pv : Addr → Nat → L2.St → Hp → Prop) (h0 : ∀ a H1, H a = none → Ex H H1 → H1 a = some (.lst xs) → Pv a 0 σ H1) (hG : ∀ a k σ' H', k ≤ xs.length → Pv a k σ' H' → SqL K H' a xs)
    (hs : ∀ a (k : Nat) x T σ' H', xs[k]? = some x → Pv a k σ' H' → H' T = none → tu { D with nx := Pv a (k + 1), ct := Pv a (k + 1), bk := D.nx } ((σ'.set i (some (.int (k : Int)))).set j (some x)) (upd H' T (.tup [.int (k : Int), x]))) (hd : ∀ a σ' H', Pv a xs.length σ' H' → D.nx σ' H') :
    tFor (iEnum K (tCons tl tNil)) (gTup K 2 (gCons (gName i) (gCons (gName j) gNil))) tu D σ H := by
  refine h H (Ex.refl H) _ fun a H1 hn e1 ha => ⟨a, xs, rfl, sq_of ha, ?_⟩
  refine for_it (D := D) walk_enum (Pv a) (h0 a H1 hn e1 ha) (hG a) (fun k v σ' H' H2 hk p y => ?_) (hd a)
  obtain ⟨T, x1, x2, rfl, nT, rfl, e2, e3⟩ := y
  cases e2
  exact g_pair (hs a k x2 T σ' H' e3 p nT)
theorem q_forEn {i j : Nat} {a : Addr} {xs : List V} (h : Ev tl σ H (.ref a)) (hx : SqL K H a xs) (Pv : Nat → L2.St → Hp → Prop) (h0 : ∀ H1, Ex H H1 → Pv 0 σ H1) (hG : ∀ k σ' H', k ≤ xs.length → Pv k σ' H' → SqL K H' a xs)
    (hs : ∀ (k : Nat) x T σ' H', xs[k]? = some x → Pv k σ' H' → H' T = none → tu { D with nx := Pv (k + 1), ct := Pv (k + 1), bk := tz D } ((σ'.set i (some (.int (k : Int)))).set j (some x)) (upd H' T (.tup [.int (k : Int), x]))) (hd : ∀ σ' H', Pv xs.length σ' H' → tz D σ' H') :
    tSeq (tFor (iEnum K (tCons tl tNil)) (gTup K 2 (gCons (gName i) (gCons (gName j) gNil))) tu) tz D σ H := s_forEn (D := { D with nx := tz D }) h hx Pv h0 hG hs hd
theorem q_forEnN {i j : Nat} {xs : List V} (h : EvL tl σ H xs) (Pv : Addr → Nat → L2.St → Hp → Prop) (h0 : ∀ a H1, H a = none → Ex H H1 → H1 a = some (.lst xs) → Pv a 0 σ H1) (hG : ∀ a k σ' H', k ≤ xs.length → Pv a k σ' H' → SqL K H' a xs)
    (hs : ∀ a (k : Nat) x T σ' H', xs[k]? = some x → Pv a k σ' H' → H' T = none → tu { D with nx := Pv a (k + 1), ct := Pv a (k + 1), bk := tz D } ((σ'.set i (some (.int (k : Int)))).set j (some x)) (upd H' T (.tup [.int (k : Int), x]))) (hd : ∀ a σ' H', Pv a xs.length σ' H' → tz D σ' H') :
    tSeq (tFor (iEnum K (tCons tl tNil)) (gTup K 2 (gCons (gName i) (gCons (gName j) gNil))) tu) tz D σ H := s_forEnN (D := { D with nx := tz D }) h Pv h0 hG hs hd
/-- xs[i] += e on a list of ints -/
theorem s_addAt {l : Addr} {ns : List Int} {j : Nat} {n : Int} {to ti te : TE} (ho : Ev to σ H (.ref l)) (hi : Ev ti σ H (.int (j : Int))) (hl : H l = some (.lst (ns.map V.int))) (hj : j < ns.length) (he : Ev te σ H (.int n))
    (k : ∀ H1, Ex H H1 → D.nx σ (upd H1 l (.lst ((ns.set j (ns.getD j 0 + n)).map V.int)))) : tAugS to ti te (rIxL K) (ipI fun i j => i + j) rSetL D σ H := by
  refine ho H (Ex.refl H) _ fun H1 e1 => hi H1 e1 _ fun H2 e2 => ?_
  have e12 := e1.trans e2
  refine ⟨l, ns.map V.int, (j : Int), .int (ns.getD j 0), rfl, rfl, sq_of (e12 l _ hl), at_map (getD_some hj), ?_⟩
  refine he H2 e12 _ fun H3 e3 => ?_
  have e13 := e12.trans e3
  refine ⟨ns.getD j 0, n, rfl, rfl, ?_⟩
  refine ⟨l, ns.map V.int, (j : Int), j, rfl, rfl, e13 l _ hl, ixN_nat (by rw [List.length_map]; exact hj), ?_⟩
  have q := k H3 e13
  rw [List.map_set] at q
  exact q
end
end K54
/-! K54F2: ring_place_counts, onto_ways, reached_counts, rows_in_rings, piece_counts. -/
namespace K54
open PySem PySem.Spec PyProof.Rows L2 Evl

abbrev sRingPlace : Stmt := topS 18
abbrev sOnto : Stmt := topS 19
abbrev sReached : Stmt := topS 20
abbrev sRows : Stmt := topS 21
abbrev sPieces : Stmt := topS 22
theorem scRingPlace : FnScope ["many", "places"] ["many"] (defScope sRingPlace) := ⟨rfl, rfl, rfl, by decide +kernel, rfl, by decide +kernel, by decide +kernel⟩
theorem scOnto : FnScope ["places", "old", "new", "found", "less", "ways"] ["places", "old", "new"] (defScope sOnto) := ⟨rfl, rfl, rfl, by decide +kernel, rfl, by decide +kernel, by decide +kernel⟩
theorem scReached : FnScope ["many", "places"] ["many"] (defScope sReached) := ⟨rfl, rfl, rfl, by decide +kernel, rfl, by decide +kernel, by decide +kernel⟩
theorem scRows : FnScope ["places", "found", "here", "longer", "rings", "count"] ["places"] (defScope sRows) := ⟨rfl, rfl, rfl, by decide +kernel, rfl, by decide +kernel, by decide +kernel⟩
theorem scPieces : FnScope ["many", "found", "places", "rings", "count"] ["many"] (defScope sPieces) := ⟨rfl, rfl, rfl, by decide +kernel, rfl, by decide +kernel, by decide +kernel⟩

/-! ### the mathematics -/
abbrev Pm : Int → Prop := fun m => 1 ≤ m ∧ m ≤ 5
def ringPlaceCounts (m : Int) : List Int := 0 :: (List.range (m + 1 - 1).toNat).map fun (i : Nat) => ringWays m (1 + (i : Int)) * fac (1 + (i : Int))
theorem ringWays_small : ∀ a : Nat, a < 6 → ∀ b : Nat, b < 6 → -(2 ^ 64) < ringWays (a : Int) (b : Int) ∧ ringWays (a : Int) (b : Int) < 2 ^ 64 := by decide +kernel
theorem ringWays_lt {m p : Int} (h1 : 0 ≤ m) (h2 : m ≤ 5) (h3 : 0 ≤ p) (h4 : p ≤ 5) : -(2 ^ 64) < ringWays m p ∧ ringWays m p < 2 ^ 64 := by
  have z := ringWays_small m.toNat (by omega) p.toNat (by omega)
  rw [Int.toNat_of_nonneg h1, Int.toNat_of_nonneg h3] at z
  exact z
theorem comb_small : ∀ a : Nat, a < 11 → ∀ b : Nat, b < 11 → -(2 ^ 64) < PySem.W.mcComb (a : Int) (b : Int) ∧ PySem.W.mcComb (a : Int) (b : Int) < 2 ^ 64 := by decide +kernel
theorem comb_lt {m p : Int} (h1 : 0 ≤ m) (h2 : m ≤ 10) (h3 : 0 ≤ p) (h4 : p ≤ 10) : -(2 ^ 64) < PySem.W.mcComb m p ∧ PySem.W.mcComb m p < 2 ^ 64 := by
  have z := comb_small m.toNat (by omega) p.toNat (by omega)
  rw [Int.toNat_of_nonneg h1, Int.toNat_of_nonneg h3] at z
  exact z
def ontoW (p o n : Int) (i : Nat) : Int := PySem.W.mcComb n i * tiZ (o + n - i) p
def ontoS (p o n : Int) : Nat → Int
  | 0 => 0
  | i + 1 => ontoS p o n i + if (i : Int) % 2 = 1 then -(ontoW p o n i) else ontoW p o n i
def onto (p o n : Int) : Int := ontoS p o n (n + 1).toNat
def reachedCounts (m : Int) : List Int := (List.range (m + 1).toNat).map fun (i : Nat) => PySem.W.mcComb m i * onto m 0 i
/-- L with w * f[0], w * f[1], .. added at the first j places -/
def addIn (w : Int) (f : List Int) (L : List Int) : Nat → List Int
  | 0 => L
  | j + 1 => (addIn w f L j).set j ((addIn w f L j).getD j 0 + w * f.getD j 0)
theorem addIn_length (w : Int) (f L : List Int) : ∀ j, (addIn w f L j).length = L.length
  | 0 => rfl
  | j + 1 => by
    show ((addIn w f L j).set j _).length = L.length
    rw [List.length_set, addIn_length w f L j]
def rir : Nat → List Int
  | 0 => [1]
  | i + 1 => addIn i (rir i) (0 :: rir i) (rir i).length
theorem rir_length : ∀ i, (rir i).length = i + 1
  | 0 => rfl
  | i + 1 => by
    show (addIn i (rir i) (0 :: rir i) (rir i).length).length = i + 2
    rw [addIn_length, List.length_cons, rir_length i]
def pcS (m : Int) : Nat → List Int
  | 0 => List.replicate (m + 1).toNat 0
  | i + 1 => addIn (ringWays m (1 + (i : Int))) (rir (1 + i)) (pcS m i) (rir (1 + i)).length
theorem pcS_length (m : Int) : ∀ i, (pcS m i).length = (m + 1).toNat
  | 0 => List.length_replicate
  | i + 1 => by
    show (addIn _ _ (pcS m i) _).length = _
    rw [addIn_length, pcS_length m i]
def pieceCounts (m : Int) : List Int := pcS m (m + 1 - 1).toNat

section
variable {P : Program} {w : World} {K : PySem.W.Frag} {mg : Str → Option Value} {base : Heap}
abbrev DCheck (P : Program) (w : World) (K : PySem.W.Frag) (mg : Str → Option Value) (base : Heap) : Prop := Df P w K mg base "check_many" 3 ["value"] (sp1N fun a => 1 ≤ a ∧ a ≤ 10)
abbrev DTimes (P : Program) (w : World) (K : PySem.W.Frag) (mg : Str → Option Value) (base : Heap) : Prop := Df P w K mg base "times_itself" 1 ["base", "times"] (sp2 (fun b n => 0 ≤ b ∧ b ≤ 1000 ∧ 0 ≤ n ∧ n ≤ 1000) tiZ)
abbrev DWays (P : Program) (w : World) (K : PySem.W.Frag) (mg : Str → Option Value) (base : Heap) : Prop := Df P w K mg base "ring_ways" 3 ["many", "places"] (sp2 (fun m r => 0 ≤ m ∧ m ≤ 10 ∧ 0 ≤ r ∧ r ≤ 10) ringWays)
theorem d_ring_place (T : At K mg "ring_place_counts" sRingPlace) (B : Tx mg) (DC : DCheck P w K mg base) (DW : DWays P w K mg base) :
    Df P w K mg base "ring_place_counts" 4 ["many"] (sp1L Pm ringPlaceCounts) := by
  refine df_of T scRingPlace (fun _ _ _ _ _ _ us hl => match us, hl with | [_], _ => rfl) (fun vs H Q E h => ?_) (fun f cdv A outer s H vs Q E hr h => ?_)
  · obtain ⟨a, rfl, _⟩ := h
    rfl
  · obtain ⟨m, rfl, ⟨h1, h2⟩, q⟩ := h
    refine ⟨_, pss_cons (ps_expr (pe_df DC hr (pa_cons (pv 0) pa_nil)))
      (pss_one (ps_ret (pe_op op_cat (pe_lst (pa_cons pe_int pa_nil)) (pe_lc (own := [("places", 1)]) (g := gName 1) (tt := tYes) (by rfl) scRingPlace.nd
        (pi_range2 (by rfl) B.range (pa_cons pe_int (pa_cons (pe_op op_add (pv 0) pe_int) pa_nil))) (blkOk_by (N := ["many", "places"]) (sc := defScope sRingPlace) (by decide +kernel))
        (fun _ _ _ _ _ => pg_name (i := 1) scRingPlace.nd rfl (Or.inl rfl)) (fun _ _ _ _ _ => pts_nil)
        (fun _ _ _ _ _ => pe_op op_mul (pe_df DW hr (pa_cons (pv 0) (pa_cons (pv 1) pa_nil))) (pe_callBfun cr_fact (by rfl) B.factorial (pa_cons (pv 1) pa_nil))))))), ?_⟩
    refine q_drop (ev_n1 (a := m) (ev_var rfl) ⟨h1, by omega⟩) fun H1 e1 => ?_
    refine s_retL (xs := (ringPlaceCounts m).map V.int) (el_cat (xs := [.int 0]) (el_lst (ea_cons ev_c ea_nil) (by show 1 ≤ _; omega)) (ef_to_l (ep_mR2 (lo := 1) (n := m + 1) _ mon_int (ea_cons ev_c (ea_cons (ev_add (ev_var rfl) ev_c) ea_nil)) ⟨by omega, by omega, by omega, by omega⟩ (fun _ => rfl) fun i H2 e2 hi => ?_)) ?_) fun p H2 hp e2 hH => q p H2 (fresh_back e1 hp) (e1.trans e2) hH
    · have hw := ringWays_lt (m := m) (p := 1 + (i : Int)) (by omega) (by omega) (by omega) (by omega)
      exact ep_int (ev_mul (ev_c2 (ev_var rfl) (ev_var rfl) ⟨by omega, by omega, by omega, by omega⟩) (ev_fact (ev_var rfl) ⟨by omega, by omega⟩) (.inl hw))
    · rw [List.length_map, List.length_map, List.length_range]
      show 1 + _ ≤ _
      omega
theorem d_onto (T : At K mg "onto_ways" sOnto) (B : Tx mg) (DT : DTimes P w K mg base) :
    Df P w K mg base "onto_ways" 2 ["places", "old", "new"] (sp3 (fun p o n => 0 ≤ p ∧ p ≤ 10 ∧ 0 ≤ o ∧ o ≤ 10 ∧ 0 ≤ n ∧ n ≤ 10) onto) := by
  refine df_of T scOnto (fun _ _ _ _ _ _ us hl => match us, hl with | [_, _, _], _ => rfl) (fun vs H Q E h => ?_) (fun f cdv A outer s H vs Q E hr h => ?_)
  · obtain ⟨a, b, c, rfl, _⟩ := h
    rfl
  · obtain ⟨p, o, n, rfl, ⟨h1, h2, h3, h4, h5, h6⟩, q⟩ := h
    refine ⟨_, pss_cons (ps_set (i := 3) scOnto.nd rfl (.inl rfl) pe_int)
      (pss_cons (ps_for PassesOwn.never rfl (pi_range1 (by rfl) B.range (pa_cons (pe_op op_add (pv 2) pe_int) pa_nil)) (pg_name (i := 4) scOnto.nd rfl (.inl rfl))
        (pss_cons (ps_set (i := 5) scOnto.nd rfl (.inl rfl) (pe_op op_mul (pe_callBfun cr_comb (by rfl) B.comb (pa_cons (pv 2) (pa_cons (pv 4) pa_nil))) (pe_df DT hr (pa_cons (pe_op op_sub (pe_op op_add (pv 1) (pv 2)) (pv 4)) (pa_cons (pv 0) pa_nil)))))
          (pss_one (ps_aug (i := 3) scOnto.nd rfl (.inl rfl) (pe_ifExp (pt_cmpR op_eq (pe_op op_mod (pv 4) pe_int) pe_int (nomark _)) (pe_un un_neg (pv 5)) (pv 5)) ip_add))))
      (pss_one (ps_ret (pv 3)))), ?_⟩
    refine q_asg ev_c fun H1 e1 => ?_
    refine q_forR1 (n := n + 1) (ea_cons (ev_add (ev_var rfl) ev_c) ea_nil) ⟨by omega, by omega⟩ (fun i σ' H' => ∃ y z, σ' = [some (.int p), some (.int o), some (.int n), some (.int (ontoS p o n i)), y, z] ∧ Ex H H') (fun H2 e2 => ⟨_, _, rfl, e1.trans e2⟩) (fun i σ' H' hi hp => ?_) (fun σ' H' hp => ?_)
    · obtain ⟨y, z, rfl, e⟩ := hp
      have hc := comb_lt (m := n) (p := (i : Int)) h5 h6 (by omega) (by omega)
      refine q_asg (v := .int (ontoW p o n i)) (ev_mul (ev_comb (ev_var rfl) (ev_var rfl) ⟨by omega, by omega, by omega, by omega⟩) (ev_c2 (ev_sub (ev_add (ev_var rfl) (ev_var rfl)) (ev_var rfl)) (ev_var rfl) ⟨by omega, by omega, by omega, by omega⟩) (.inl hc)) fun H2 e2 => ?_
      refine s_aug (a := ontoS p o n i) (b := if (i : Int) % 2 = 1 then -(ontoW p o n i) else ontoW p o n i) rfl (ev_if (b := decide ((i : Int) % 2 = 1)) (et_test (ev_eq (ev_mod (ev_var rfl) ev_c (by decide)) ev_c)) (fun hb => ?_) (fun hb => ?_)) fun H3 e3 => ⟨_, _, rfl, (e.trans e2).trans e3⟩
      · rw [if_pos (of_decide_eq_true hb)]
        exact ev_neg (ev_var rfl)
      · rw [if_neg (of_decide_eq_false hb)]
        exact ev_var rfl
    · obtain ⟨y, z, rfl, e⟩ := hp
      exact s_ret (v := .int (onto p o n)) (ev_var rfl) fun H2 e2 => q H2 (e.trans e2)
theorem d_reached (T : At K mg "reached_counts" sReached) (B : Tx mg) (DC : DCheck P w K mg base) (DO : Df P w K mg base "onto_ways" 2 ["places", "old", "new"] (sp3 (fun p o n => 0 ≤ p ∧ p ≤ 10 ∧ 0 ≤ o ∧ o ≤ 10 ∧ 0 ≤ n ∧ n ≤ 10) onto)) :
    Df P w K mg base "reached_counts" 4 ["many"] (sp1L Pm reachedCounts) := by
  refine df_of T scReached (fun _ _ _ _ _ _ us hl => match us, hl with | [_], _ => rfl) (fun vs H Q E h => ?_) (fun f cdv A outer s H vs Q E hr h => ?_)
  · obtain ⟨a, rfl, _⟩ := h
    rfl
  · obtain ⟨m, rfl, ⟨h1, h2⟩, q⟩ := h
    refine ⟨_, pss_cons (ps_expr (pe_df DC hr (pa_cons (pv 0) pa_nil)))
      (pss_one (ps_ret (pe_lc (own := [("places", 1)]) (g := gName 1) (tt := tYes) (by rfl) scReached.nd
        (pi_range1 (by rfl) B.range (pa_cons (pe_op op_add (pv 0) pe_int) pa_nil)) (blkOk_by (N := ["many", "places"]) (sc := defScope sReached) (by decide +kernel))
        (fun _ _ _ _ _ => pg_name (i := 1) scReached.nd rfl (Or.inl rfl)) (fun _ _ _ _ _ => pts_nil)
        (fun _ _ _ _ _ => pe_op op_mul (pe_callBfun cr_comb (by rfl) B.comb (pa_cons (pv 0) (pa_cons (pv 1) pa_nil))) (pe_df DO (hr.mono (by decide)) (pa_cons (pv 0) (pa_cons pe_int (pa_cons (pv 1) pa_nil)))))))), ?_⟩
    refine q_drop (ev_n1 (a := m) (ev_var rfl) ⟨h1, by omega⟩) fun H1 e1 => ?_
    refine s_retL (xs := (reachedCounts m).map V.int) (ef_to_l (ep_mR1 (n := m + 1) _ mon_int (ea_cons (ev_add (ev_var rfl) ev_c) ea_nil) ⟨by omega, by omega⟩ (fun _ => rfl) fun i H2 e2 hi => ?_)) fun p H2 hp e2 hH => q p H2 (fresh_back e1 hp) (e1.trans e2) hH
    exact ep_int (ev_mul (ev_comb (ev_var rfl) (ev_var rfl) ⟨by omega, by omega, by omega, by omega⟩) (ev_c3 (ev_var rfl) ev_c (ev_var rfl) ⟨by omega, by omega, by omega, by omega, by omega, by omega⟩) (.inl (comb_lt (by omega) (by omega) (by omega) (by omega))))
theorem d_rows (T : At K mg "rows_in_rings" sRows) (B : Tx mg) : Df P w K mg base "rows_in_rings" 1 ["places"] (sp1L (fun p => 0 ≤ p ∧ p ≤ 10) fun p => rir p.toNat) := by
  refine df_of T scRows (fun _ _ _ _ _ _ us hl => match us, hl with | [_], _ => rfl) (fun vs H Q E h => ?_) (fun f cdv A outer s H vs Q E hr h => ?_)
  · obtain ⟨a, rfl, _⟩ := h
    rfl
  · obtain ⟨n, rfl, ⟨h1, h2⟩, q⟩ := h
    refine ⟨_, pss_cons (ps_set (i := 1) scRows.nd rfl (.inl rfl) (pe_lst (pa_cons pe_int pa_nil)))
      (pss_cons (ps_for PassesOwn.never rfl (pi_range1 (by rfl) B.range (pa_cons (pv 0) pa_nil)) (pg_name (i := 2) scRows.nd rfl (.inl rfl))
        (pss_cons (ps_set (i := 3) scRows.nd rfl (.inl rfl) (pe_op op_cat (pe_lst (pa_cons pe_int pa_nil)) (pv 1)))
        (pss_cons (ps_for PassesOwn.never rfl (pi_enum (by rfl) B.enumerate (pa_cons (pv 1) pa_nil)) (pg_tup rfl (pgs_cons (pg_name (i := 4) scRows.nd rfl (.inl rfl)) (pgs_cons (pg_name (i := 5) scRows.nd rfl (.inl rfl)) pgs_nil)))
          (pss_one (ps_augS (pv 3) (pv 4) pget_list (pe_op op_mul (pv 2) (pv 5)) ip_add set_list)))
        (pss_one (ps_set (i := 1) scRows.nd rfl (.inl rfl) (pv 3))))))
      (pss_one (ps_ret (pv 1)))), ?_⟩
    refine q_asgL (xs := (rir 0).map V.int) (el_lst (ea_cons ev_c ea_nil) (by show 1 ≤ _; omega)) fun a H1 na e1 ha => ?_
    refine q_forR1 (n := n) (ea_cons (ev_var rfl) ea_nil) ⟨h1, by omega⟩ (fun i σ' H' => ∃ b y2 y3 y4 y5, σ' = [some (.int n), some (.ref b), y2, y3, y4, y5] ∧ Ex H H' ∧ H b = none ∧ H' b = some (.lst ((rir i).map V.int))) (fun H2 e2 => ⟨a, _, _, _, _, rfl, e1.trans e2, na, e2 a _ ha⟩) (fun i σ' H' hi hp => ?_) (fun σ' H' hp => ?_)
    · obtain ⟨b, y2, y3, y4, y5, rfl, e, nb, hb⟩ := hp
      have lr := rir_length i
      refine q_asgL (xs := (0 :: rir i).map V.int) (el_catV (a := b) (xs := [.int 0]) (ys := (rir i).map V.int) (el_lst (ea_cons ev_c ea_nil) (by show 1 ≤ _; omega)) (ev_var rfl) hb (by rw [List.length_map, lr]; show 1 + _ ≤ _; omega)) fun l H2 nl e2 hl => ?_
      have nlb : b ≠ l := ne_of_none hb nl
      refine q_forEn (i := 4) (j := 5) (a := b) (xs := (rir i).map V.int) (ev_var rfl) (sq_of (e2 b _ hb)) (fun k σ'' H'' => ∃ z4 z5, σ'' = [some (.int n), some (.ref b), some (.int (i : Int)), some (.ref l), z4, z5] ∧ Ex H H'' ∧ H'' b = some (.lst ((rir i).map V.int)) ∧ H'' l = some (.lst ((addIn i (rir i) (0 :: rir i) k).map V.int)))
        (fun H3 e3 => ⟨_, _, rfl, (e.trans e2).trans e3, (e2.trans e3) b _ hb, e3 l _ hl⟩) (fun k σ'' H'' hk hp2 => ?_) (fun k x T σ'' H'' hx hp2 nT => ?_) (fun σ'' H'' hp2 => ?_)
      · obtain ⟨z4, z5, _, _, hb2, _⟩ := hp2
        exact sq_of hb2
      · obtain ⟨z4, z5, rfl, e3, hb2, hl2⟩ := hp2
        have hkl : k < (rir i).length := by
          have := (List.getElem?_eq_some_iff.mp hx).1
          rw [List.length_map] at this
          exact this
        have ex : x = .int ((rir i).getD k 0) := by
          rw [List.getElem?_map, getD_some hkl] at hx
          exact (Option.some.inj hx).symm
        subst ex
        have eT : Ex H'' (upd H'' T (.tup [.int (k : Int), .int ((rir i).getD k 0)])) := Ex.new nT
        have nTl : l ≠ T := ne_of_none hl2 nT
        refine s_addAt (l := l) (ns := addIn i (rir i) (0 :: rir i) k) (j := k) (n := (i : Int) * (rir i).getD k 0) (ev_var rfl) (ev_var rfl) (eT l _ hl2) (by rw [addIn_length, List.length_cons]; omega) (ev_mul (ev_var rfl) (ev_var rfl) (.inl ⟨by omega, by omega⟩)) fun H4 e4 => ?_
        have e5 : Ex H H4 := (e3.trans eT).trans e4
        refine ⟨_, _, rfl, e5.mut (fresh_back (e) nl), ?_, ?_⟩
        · rw [upd_ne nlb]
          exact e4 b _ (eT b _ hb2)
        · exact upd_same
      · obtain ⟨z4, z5, rfl, e3, hb2, hl2⟩ := hp2
        rw [List.length_map] at hl2
        exact s_asg (v := .ref l) (ev_var rfl) fun H4 e4 => ⟨l, _, _, _, _, rfl, e3.trans e4, fresh_back e nl, e4 l _ hl2⟩
    · obtain ⟨b, y2, y3, y4, y5, rfl, e, nb, hb⟩ := hp
      exact s_ret (v := .ref b) (ev_var rfl) fun H2 e2 => q b H2 nb (e.trans e2) (e2 b _ hb)
theorem d_pieces (T : At K mg "piece_counts" sPieces) (B : Tx mg) (DC : DCheck P w K mg base) (DW : DWays P w K mg base) (DR : Df P w K mg base "rows_in_rings" 1 ["places"] (sp1L (fun p => 0 ≤ p ∧ p ≤ 10) fun p => rir p.toNat)) :
    Df P w K mg base "piece_counts" 4 ["many"] (sp1L Pm pieceCounts) := by
  refine df_of T scPieces (fun _ _ _ _ _ _ us hl => match us, hl with | [_], _ => rfl) (fun vs H Q E h => ?_) (fun f cdv A outer s H vs Q E hr h => ?_)
  · obtain ⟨a, rfl, _⟩ := h
    rfl
  · obtain ⟨m, rfl, ⟨h1, h2⟩, q⟩ := h
    refine ⟨_, pss_cons (ps_expr (pe_df DC hr (pa_cons (pv 0) pa_nil)))
      (pss_cons (ps_set (i := 1) scPieces.nd rfl (.inl rfl) (pe_op op_rep (pe_lst (pa_cons pe_int pa_nil)) (pe_op op_add (pv 0) pe_int)))
      (pss_cons (ps_for PassesOwn.never rfl (pi_range2 (by rfl) B.range (pa_cons pe_int (pa_cons (pe_op op_add (pv 0) pe_int) pa_nil))) (pg_name (i := 2) scPieces.nd rfl (.inl rfl))
        (pss_one (ps_for PassesOwn.never rfl (pi_enum (by rfl) B.enumerate (pa_cons (pe_df DR (hr.mono (by decide)) (pa_cons (pv 2) pa_nil)) pa_nil)) (pg_tup rfl (pgs_cons (pg_name (i := 3) scPieces.nd rfl (.inl rfl)) (pgs_cons (pg_name (i := 4) scPieces.nd rfl (.inl rfl)) pgs_nil)))
          (pss_one (ps_augS (pv 1) (pv 3) pget_list (pe_op op_mul (pe_df DW hr (pa_cons (pv 0) (pa_cons (pv 2) pa_nil))) (pv 4)) ip_add set_list)))))
      (pss_one (ps_ret (pv 1))))), ?_⟩
    refine q_drop (ev_n1 (a := m) (ev_var rfl) ⟨h1, by omega⟩) fun H1 e1 => ?_
    refine q_asgL (el_rep (xs := [.int 0]) (k := m + 1) (el_lst (ea_cons ev_c ea_nil) (by show 1 ≤ _; omega)) (ev_add (ev_var rfl) ev_c) ⟨by omega, by omega⟩ (by show 1 ≤ _; omega)) fun a H2 na e2 ha => ?_
    rw [flat_rep] at ha
    have ha' : H2 a = some (.lst ((pcS m 0).map V.int)) := by
      rw [ha]
      show some (HO.lst _) = some (HO.lst ((List.replicate _ 0).map V.int))
      rw [List.map_replicate]
    have na' : H a = none := fresh_back e1 na
    refine q_forR2 (lo := 1) (n := m + 1) (ea_cons ev_c (ea_cons (ev_add (ev_var rfl) ev_c) ea_nil)) ⟨by omega, by omega, by omega, by omega⟩ (fun i σ' H' => ∃ y2 y3 y4, σ' = [some (.int m), some (.ref a), y2, y3, y4] ∧ Ex H H' ∧ H' a = some (.lst ((pcS m i).map V.int))) (fun H3 e3 => ⟨_, _, _, rfl, (e1.trans e2).trans e3, e3 a _ ha'⟩) (fun i σ' H' hi hp => ?_) (fun σ' H' hp => ?_)
    · obtain ⟨y2, y3, y4, rfl, e, hb⟩ := hp
      have lr := rir_length (1 + i)
      have lp := pcS_length m i
      refine s_forEnN (i := 3) (j := 4) (xs := (rir (1 + i)).map V.int) ?_ (fun r k σ'' H'' => ∃ z3 z4, σ'' = [some (.int m), some (.ref a), some (.int (1 + (i : Int))), z3, z4] ∧ Ex H H'' ∧ H'' r = some (.lst ((rir (1 + i)).map V.int)) ∧ r ≠ a ∧ H'' a = some (.lst ((addIn (ringWays m (1 + (i : Int))) (rir (1 + i)) (pcS m i) k).map V.int)))
        (fun r H3 nr e3 hr => ⟨_, _, rfl, e.trans e3, hr, (ne_of_none hb nr).symm, e3 a _ hb⟩) (fun r k σ'' H'' hk hp2 => ?_) (fun r k x T σ'' H'' hx hp2 nT => ?_) (fun r σ'' H'' hp2 => ?_)
      · have z := el_c1 (pre := fun p => 0 ≤ p ∧ p ≤ 10) (f := fun p => rir p.toNat) (a := 1 + (i : Int)) (ta := tVar 2) (σ := [some (.int m), some (.ref a), some (.int (1 + (i : Int))), y3, y4]) (H := H') (ev_var rfl) ⟨by omega, by omega⟩
        have e0 : (1 + (i : Int)).toNat = 1 + i := by omega
        rw [e0] at z
        exact z
      · obtain ⟨z3, z4, _, _, hr2, _, _⟩ := hp2
        exact sq_of hr2
      · obtain ⟨z3, z4, rfl, e3, hr2, nra, ha2⟩ := hp2
        have hkl : k < (rir (1 + i)).length := by
          have := (List.getElem?_eq_some_iff.mp hx).1
          rw [List.length_map] at this
          exact this
        have ex : x = .int ((rir (1 + i)).getD k 0) := by
          rw [List.getElem?_map, getD_some hkl] at hx
          exact (Option.some.inj hx).symm
        subst ex
        have eT : Ex H'' (upd H'' T (.tup [.int (k : Int), .int ((rir (1 + i)).getD k 0)])) := Ex.new nT
        refine s_addAt (l := a) (ns := addIn (ringWays m (1 + (i : Int))) (rir (1 + i)) (pcS m i) k) (j := k) (n := ringWays m (1 + (i : Int)) * (rir (1 + i)).getD k 0) (ev_var rfl) (ev_var rfl) (eT a _ ha2) (by rw [addIn_length, lp]; omega)
          (ev_mul (ev_c2 (ev_var rfl) (ev_var rfl) ⟨by omega, by omega, by omega, by omega⟩) (ev_var rfl) (.inl (ringWays_lt (by omega) (by omega) (by omega) (by omega)))) fun H4 e4 => ?_
        have e5 : Ex H H4 := (e3.trans eT).trans e4
        refine ⟨_, _, rfl, e5.mut na', ?_, nra, upd_same⟩
        rw [upd_ne nra]
        exact e4 r _ (eT r _ hr2)
      · obtain ⟨z3, z4, rfl, e3, hr2, nra, ha2⟩ := hp2
        rw [List.length_map] at ha2
        exact ⟨_, _, _, rfl, e3, ha2⟩
    · obtain ⟨y2, y3, y4, rfl, e, hb⟩ := hp
      exact s_ret (v := .ref a) (ev_var rfl) fun H3 e3 => q a H3 na' (e.trans e3) (e3 a _ hb)
end
end K54
/-! K54F3: low_forests, low_charts, height_counts, falling, depth_totals, rows_dividing, returning_count. -/
namespace K54
open PySem PySem.Spec PyProof.Rows L2 Evl

abbrev sLow : Stmt := topS 23
abbrev sLowCharts : Stmt := topS 24
abbrev sHeights : Stmt := topS 25
abbrev sFalling : Stmt := topS 30
abbrev sDepths : Stmt := topS 31
abbrev sDividing : Stmt := topS 32
abbrev sReturning : Stmt := topS 33
theorem scLow : FnScope ["roots", "others", "height", "found", "first", "ways"] ["roots", "others", "height"] (defScope sLow) := ⟨rfl, rfl, rfl, by decide +kernel, rfl, by decide +kernel, by decide +kernel⟩
theorem scLowCharts : FnScope ["many", "height", "found", "places"] ["many", "height"] (defScope sLowCharts) := ⟨rfl, rfl, rfl, by decide +kernel, rfl, by decide +kernel, by decide +kernel⟩
theorem scHeights : FnScope ["many", "sums", "height", "k"] ["many"] (defScope sHeights) := ⟨rfl, rfl, rfl, by decide +kernel, rfl, by decide +kernel, by decide +kernel⟩
theorem scFalling : FnScope ["many", "factors", "found", "less"] ["many", "factors"] (defScope sFalling) := ⟨rfl, rfl, rfl, by decide +kernel, rfl, by decide +kernel, by decide +kernel⟩
theorem scDepths : FnScope ["many", "found", "depth", "ways", "size"] ["many"] (defScope sDepths) := ⟨rfl, rfl, rfl, by decide +kernel, rfl, by decide +kernel, by decide +kernel⟩
theorem scDividing : FnScope ["most", "count", "found", "places", "ways", "length"] ["most", "count"] (defScope sDividing) := ⟨rfl, rfl, rfl, by decide +kernel, rfl, by decide +kernel, by decide +kernel⟩
theorem scReturning : FnScope ["many", "number", "count", "rows", "found", "places"] ["many", "number", "count"] (defScope sReturning) := ⟨rfl, rfl, rfl, by decide +kernel, rfl, by decide +kernel, by decide +kernel⟩

/-! ### the mathematics -/
def sumS (g : Nat → Int) : Nat → Int
  | 0 => 0
  | i + 1 => sumS g i + g i
def lowW (r o : Int) (i : Nat) : Int := PySem.W.mcComb o (1 + (i : Int)) * tiZ r (1 + (i : Int))
def lowF : Nat → Int → Int → Int
  | 0, _, o => if o = 0 then 1 else 0
  | h + 1, r, o => if o = 0 then 1 else sumS (fun i => lowW r o i * lowF h (1 + (i : Int)) (o - (1 + (i : Int)))) (o + 1 - 1).toNat
theorem lowW_small : ∀ r : Nat, r < 6 → ∀ o : Nat, o < 6 → ∀ i : Nat, i < 6 → -(2 ^ 64) < lowW r o i ∧ lowW r o i < 2 ^ 64 := by decide +kernel
theorem lowF_small : ∀ r : Nat, r < 6 → ∀ o : Nat, o < 6 → ∀ h : Nat, h < 6 → -(2 ^ 64) < lowF h r o ∧ lowF h r o < 2 ^ 64 := by decide +kernel
theorem lowF_lt {h : Nat} {r o : Int} (h1 : 0 ≤ r) (h2 : r ≤ 5) (h3 : 0 ≤ o) (h4 : o ≤ 5) (h5 : h ≤ 5) : -(2 ^ 64) < lowF h r o ∧ lowF h r o < 2 ^ 64 := by
  have z := lowF_small r.toNat (by omega) o.toNat (by omega) h (by omega)
  rw [Int.toNat_of_nonneg h1, Int.toNat_of_nonneg h3] at z
  exact z
def lowChartsF (m h : Int) : Int := sumS (fun i => PySem.W.mcComb m (1 + (i : Int)) * fac (1 + (i : Int)) * lowF h.toNat (1 + (i : Int)) (m - (1 + (i : Int)))) (m + 1 - 1).toNat
def heightSums (m : Int) : List Int := 0 :: (List.range m.toNat).map fun (i : Nat) => lowChartsF m i
def heightCounts (m : Int) : List Int := (List.range m.toNat).map fun (k : Nat) => (heightSums m).getD (k + 1) 0 - (heightSums m).getD k 0
def fall (m : Int) : Nat → Int
  | 0 => 1
  | i + 1 => fall m i * (m - i)
def fallZ (m n : Int) : Int := fall m n.toNat
theorem fall_small : ∀ m : Nat, m < 6 → ∀ n : Nat, n < 6 → -(2 ^ 64) < fallZ m n ∧ fallZ m n < 2 ^ 64 := by decide +kernel
def depthWays (m : Int) (d : Nat) : List Int := (List.range (m + 1 - ((d : Int) + 1)).toNat).map fun (i : Nat) => fallZ m ((d : Int) + 1 + (i : Int)) * tiZ m (m - ((d : Int) + 1 + (i : Int)))
def depthTotals (m : Int) : List Int := (List.range m.toNat).map fun (d : Nat) => (depthWays m d).sum
def rdW (c : Int) (f : List Int) (i j : Nat) : Int := if c % (1 + (j : Int)) = 0 then PySem.W.mcComb (1 + (i : Int) - 1) (1 + (j : Int) - 1) * fac (1 + (j : Int) - 1) * f.getD (i - j) 0 else 0
def rdS (c : Int) : Nat → List Int
  | 0 => [1]
  | i + 1 => rdS c i ++ [sumS (rdW c (rdS c i) i) (1 + (i : Int) + 1 - 1).toNat]
theorem rdS_length (c : Int) : ∀ i, (rdS c i).length = i + 1
  | 0 => rfl
  | i + 1 => by
    show (rdS c i ++ [_]).length = _
    rw [List.length_append, rdS_length c i]
    rfl
def rowsDividing (m c : Int) : List Int := rdS c (m + 1 - 1).toNat
def minZ (a b : Int) : Int := if b < a then b else a
def returning (m n c : Int) : Int := sumS (fun i => PySem.W.mcComb m (1 + (i : Int)) * (rowsDividing m c).getD (1 + i) 0 * lowF (minZ n m).toNat (1 + (i : Int)) (m - (1 + (i : Int)))) (m + 1 - 1).toNat

section
variable {P : Program} {w : World} {K : PySem.W.Frag} {mg : Str → Option Value} {base : Heap}
theorem ev_intB {σ : L2.St} {H : Hp} {ta : TE} {b : Bool} (h : Ev ta σ H (.bl b)) : Ev (tCB (fun xs H Q => (∃ i, xs = [.int i] ∧ Q (.int i) H) ∨ ∃ k, xs = [.bl k] ∧ Q (.int (if k then 1 else 0)) H) (tCons ta tNil)) σ H (.int (if b then 1 else 0)) := fun H1 e Q q =>
  h H1 e _ fun H2 e2 => .inr ⟨b, rfl, q H2 e2⟩
theorem d_low (T : At K mg "low_forests" sLow) (B : Tx mg) (DT : DTimes P w K mg base) : ∀ h : Nat,
    Df P w K mg base "low_forests" (h + 2) ["roots", "others", "height"] (sp3 (fun r o t => 0 ≤ r ∧ r ≤ 5 ∧ 0 ≤ o ∧ o ≤ 5 ∧ 0 ≤ t ∧ t ≤ h) fun r o t => lowF t.toNat r o) := by
  intro h
  induction h with
  | zero =>
    refine df_of T scLow (fun _ _ _ _ _ _ us hl => match us, hl with | [_, _, _], _ => rfl) (fun vs H Q E h => ?_) (fun f cdv A outer s H vs Q E hr h => ?_)
    · obtain ⟨a, b, c, rfl, _⟩ := h
      rfl
    · obtain ⟨r, o, t, rfl, ⟨h1, h2, h3, h4, h5, h6⟩, q⟩ := h
      have et : t = 0 := by omega
      subst et
      refine ⟨_, pss_cons (ps_if (PW.pt (pw_or (pt_cmpR op_eq (pv 1) pe_int (nomark _)) (pw_or1 (pt_cmpR op_eq (pv 2) pe_int (nomark _)))))
        (pss_one (ps_ret (pe_callTy call_int1 (by rfl) B.int boot_int (pa_cons (pe_cmpR op_eq (pv 1) pe_int (nomark _)) pa_nil)))) pss_nil)
        (pss_cons ps_never (pss_cons ps_never (pss_one ps_never))), ?_⟩
      refine q_when (b := decide (o = 0) || decide ((0 : Int) = 0)) (et_or (et_test (ev_eq (ev_var rfl) ev_c)) fun _ => et_test (ev_eq (ev_var rfl) ev_c)) (fun _ H1 e1 => ?_) (fun hb => ?_)
      · refine s_ret (v := .int (lowF 0 r o)) ?_ fun H2 e2 => q H2 (e1.trans e2)
        have z := ev_intB (σ := start ["roots", "others", "height", "found", "first", "ways"] [.int r, .int o, .int 0]) (H := H1) (ev_eq (a := o) (b := 0) (ta := tVar 1) (tb := tC (.int 0)) (ev_var rfl) ev_c)
        have e0 : lowF 0 r o = if decide (o = 0) = true then 1 else 0 := by
          show (if o = 0 then (1 : Int) else 0) = _
          simp
        rw [e0]
        exact z
      · simp at hb
  | succ h ih =>
    refine df_of T scLow (fun _ _ _ _ _ _ us hl => match us, hl with | [_, _, _], _ => rfl) (fun vs H Q E h => ?_) (fun f cdv A outer s H vs Q E hr h => ?_)
    · obtain ⟨a, b, c, rfl, _⟩ := h
      rfl
    · obtain ⟨r, o, t, rfl, ⟨h1, h2, h3, h4, h5, h6⟩, q⟩ := h
      refine ⟨_, pss_cons (ps_if (PW.pt (pw_or (pt_cmpR op_eq (pv 1) pe_int (nomark _)) (pw_or1 (pt_cmpR op_eq (pv 2) pe_int (nomark _)))))
        (pss_one (ps_ret (pe_callTy call_int1 (by rfl) B.int boot_int (pa_cons (pe_cmpR op_eq (pv 1) pe_int (nomark _)) pa_nil)))) pss_nil)
        (pss_cons (ps_set (i := 3) scLow.nd rfl (.inl rfl) pe_int)
        (pss_cons (ps_for PassesOwn.never rfl (pi_range2 (by rfl) B.range (pa_cons pe_int (pa_cons (pe_op op_add (pv 1) pe_int) pa_nil))) (pg_name (i := 4) scLow.nd rfl (.inl rfl))
          (pss_cons (ps_set (i := 5) scLow.nd rfl (.inl rfl) (pe_op op_mul (pe_callBfun cr_comb (by rfl) B.comb (pa_cons (pv 1) (pa_cons (pv 4) pa_nil))) (pe_df DT (hr.mono (by omega)) (pa_cons (pv 0) (pa_cons (pv 4) pa_nil)))))
          (pss_one (ps_aug (i := 3) scLow.nd rfl (.inl rfl) (pe_op op_mul (pv 5) (pe_df ih hr (pa_cons (pv 4) (pa_cons (pe_op op_sub (pv 1) (pv 4)) (pa_cons (pe_op op_sub (pv 2) pe_int) pa_nil))))) ip_add))))
        (pss_one (ps_ret (pv 3))))), ?_⟩
      refine q_when (b := decide (o = 0) || decide (t = 0)) (et_or (et_test (ev_eq (ev_var rfl) ev_c)) fun _ => et_test (ev_eq (ev_var rfl) ev_c)) (fun hb H1 e1 => ?_) (fun hb H1 e1 => ?_)
      · refine s_ret (v := .int (lowF t.toNat r o)) ?_ fun H2 e2 => q H2 (e1.trans e2)
        have z := ev_intB (σ := start ["roots", "others", "height", "found", "first", "ways"] [.int r, .int o, .int t]) (H := H1) (ev_eq (a := o) (b := 0) (ta := tVar 1) (tb := tC (.int 0)) (ev_var rfl) ev_c)
        have e0 : lowF t.toNat r o = if decide (o = 0) = true then 1 else 0 := by
          by_cases ho : o = 0
          · subst ho
            cases hn : t.toNat with
            | zero => rfl
            | succ n => rfl
          · have ht : t = 0 := by
              simp [ho] at hb
              exact hb
            subst ht
            show (if o = 0 then (1 : Int) else 0) = _
            simp
        rw [e0]
        exact z
      · have ho : o ≠ 0 := fun z => by simp [z] at hb
        have ht : t ≠ 0 := fun z => by simp [z] at hb
        obtain ⟨n, hn⟩ : ∃ n, t.toNat = n + 1 := ⟨t.toNat - 1, by omega⟩
        have hn2 : (t - 1).toNat = n := by omega
        refine q_asg ev_c fun H2 e2 => ?_
        refine q_forR2 (lo := 1) (n := o + 1) (ea_cons ev_c (ea_cons (ev_add (ev_var rfl) ev_c) ea_nil)) ⟨by omega, by omega, by omega, by omega⟩
          (fun i σ' H' => ∃ y z, σ' = [some (.int r), some (.int o), some (.int t), some (.int (sumS (fun i => lowW r o i * lowF n (1 + (i : Int)) (o - (1 + (i : Int)))) i)), y, z] ∧ Ex H H') (fun H3 e3 => ⟨_, _, rfl, (e1.trans e2).trans e3⟩) (fun i σ' H' hi hp => ?_) (fun σ' H' hp => ?_)
        · obtain ⟨y, z, rfl, e⟩ := hp
          have hw := lowW_small r.toNat (by omega) o.toNat (by omega) i (by omega)
          rw [Int.toNat_of_nonneg h1, Int.toNat_of_nonneg h3] at hw
          refine q_asg (v := .int (lowW r o i)) (ev_mul (ev_comb (ev_var rfl) (ev_var rfl) ⟨by omega, by omega, by omega, by omega⟩) (ev_c2 (ev_var rfl) (ev_var rfl) ⟨by omega, by omega, by omega, by omega⟩) (.inl (comb_lt (by omega) (by omega) (by omega) (by omega)))) fun H3 e3 => ?_
          refine s_aug (a := sumS _ i) (b := lowW r o i * lowF n (1 + (i : Int)) (o - (1 + (i : Int)))) rfl ?_ fun H4 e4 => ⟨_, _, rfl, (e.trans e3).trans e4⟩
          have c3 := ev_c3 (σ := [some (.int r), some (.int o), some (.int t), some (.int (sumS (fun i => lowW r o i * lowF n (1 + (i : Int)) (o - (1 + (i : Int)))) i)), some (.int (1 + (i : Int))), some (.int (lowW r o i))]) (H := H3)
            (pre := fun r o t => 0 ≤ r ∧ r ≤ 5 ∧ 0 ≤ o ∧ o ≤ 5 ∧ 0 ≤ t ∧ t ≤ (h : Int)) (f := fun r o t => lowF t.toNat r o) (a := 1 + (i : Int)) (b := o - (1 + (i : Int))) (c := t - 1) (ta := tVar 4) (tb := tOp (rI0 fun i j => .int (i - j)) (tVar 1) (tVar 4)) (tc := tOp (rI0 fun i j => .int (i - j)) (tVar 2) (tC (.int 1)))
            (ev_var rfl) (ev_sub (ev_var rfl) (ev_var rfl)) (ev_sub (ev_var rfl) ev_c) ⟨by omega, by omega, by omega, by omega, by omega, by omega⟩
          rw [hn2] at c3
          exact ev_mul (ev_var rfl) c3 (.inl hw)
        · obtain ⟨y, z, rfl, e⟩ := hp
          refine s_ret (v := .int (lowF t.toNat r o)) ?_ fun H3 e3 => q H3 (e.trans e3)
          have e0 : lowF t.toNat r o = sumS (fun i => lowW r o i * lowF n (1 + (i : Int)) (o - (1 + (i : Int)))) (o + 1 - 1).toNat := by
            rw [hn]
            show (if o = 0 then (1 : Int) else _) = _
            rw [if_neg ho]
          rw [e0]
          exact ev_var rfl
abbrev DLow (P : Program) (w : World) (K : PySem.W.Frag) (mg : Str → Option Value) (base : Heap) : Prop := Df P w K mg base "low_forests" 7 ["roots", "others", "height"] (sp3 (fun r o t => 0 ≤ r ∧ r ≤ 5 ∧ 0 ≤ o ∧ o ≤ 5 ∧ 0 ≤ t ∧ t ≤ 5) fun r o t => lowF t.toNat r o)
theorem d_low_charts (T : At K mg "low_charts" sLowCharts) (B : Tx mg) (DL : DLow P w K mg base) :
    Df P w K mg base "low_charts" 8 ["many", "height"] (sp2 (fun m h => 1 ≤ m ∧ m ≤ 5 ∧ 0 ≤ h ∧ h ≤ 5) lowChartsF) := by
  refine df_of T scLowCharts (fun _ _ _ _ _ _ us hl => match us, hl with | [_, _], _ => rfl) (fun vs H Q E h => ?_) (fun f cdv A outer s H vs Q E hr h => ?_)
  · obtain ⟨a, b, rfl, _⟩ := h
    rfl
  · obtain ⟨m, h, rfl, ⟨h1, h2, h3, h4⟩, q⟩ := h
    refine ⟨_, pss_cons (ps_set (i := 2) scLowCharts.nd rfl (.inl rfl) pe_int)
      (pss_cons (ps_for PassesOwn.never rfl (pi_range2 (by rfl) B.range (pa_cons pe_int (pa_cons (pe_op op_add (pv 0) pe_int) pa_nil))) (pg_name (i := 3) scLowCharts.nd rfl (.inl rfl))
        (pss_one (ps_aug (i := 2) scLowCharts.nd rfl (.inl rfl) (pe_op op_mul (pe_op op_mul (pe_callBfun cr_comb (by rfl) B.comb (pa_cons (pv 0) (pa_cons (pv 3) pa_nil))) (pe_callBfun cr_fact (by rfl) B.factorial (pa_cons (pv 3) pa_nil)))
          (pe_df DL hr (pa_cons (pv 3) (pa_cons (pe_op op_sub (pv 0) (pv 3)) (pa_cons (pv 1) pa_nil))))) ip_add)))
      (pss_one (ps_ret (pv 2)))), ?_⟩
    refine q_asg ev_c fun H1 e1 => ?_
    refine q_forR2 (lo := 1) (n := m + 1) (ea_cons ev_c (ea_cons (ev_add (ev_var rfl) ev_c) ea_nil)) ⟨by omega, by omega, by omega, by omega⟩
      (fun i σ' H' => ∃ y, σ' = [some (.int m), some (.int h), some (.int (sumS (fun i => PySem.W.mcComb m (1 + (i : Int)) * fac (1 + (i : Int)) * lowF h.toNat (1 + (i : Int)) (m - (1 + (i : Int)))) i)), y] ∧ Ex H H') (fun H3 e3 => ⟨_, rfl, e1.trans e3⟩) (fun i σ' H' hi hp => ?_) (fun σ' H' hp => ?_)
    · obtain ⟨y, rfl, e⟩ := hp
      refine s_aug (a := sumS _ i) (b := PySem.W.mcComb m (1 + (i : Int)) * fac (1 + (i : Int)) * lowF h.toNat (1 + (i : Int)) (m - (1 + (i : Int)))) rfl ?_ fun H4 e4 => ⟨_, rfl, e.trans e4⟩
      exact ev_mul (ev_mul (ev_comb (ev_var rfl) (ev_var rfl) ⟨by omega, by omega, by omega, by omega⟩) (ev_fact (ev_var rfl) ⟨by omega, by omega⟩) (.inl (comb_lt (by omega) (by omega) (by omega) (by omega))))
        (ev_c3 (ev_var rfl) (ev_sub (ev_var rfl) (ev_var rfl)) (ev_var rfl) ⟨by omega, by omega, by omega, by omega, by omega, by omega⟩) (.inr (lowF_lt (by omega) (by omega) (by omega) (by omega) (by omega)))
    · obtain ⟨y, rfl, e⟩ := hp
      exact s_ret (v := .int (lowChartsF m h)) (ev_var rfl) fun H3 e3 => q H3 (e.trans e3)
theorem d_heights (T : At K mg "height_counts" sHeights) (B : Tx mg) (DC : DCheck P w K mg base) (DL : Df P w K mg base "low_charts" 8 ["many", "height"] (sp2 (fun m h => 1 ≤ m ∧ m ≤ 5 ∧ 0 ≤ h ∧ h ≤ 5) lowChartsF)) :
    Df P w K mg base "height_counts" 9 ["many"] (sp1L Pm heightCounts) := by
  refine df_of T scHeights (fun _ _ _ _ _ _ us hl => match us, hl with | [_], _ => rfl) (fun vs H Q E h => ?_) (fun f cdv A outer s H vs Q E hr h => ?_)
  · obtain ⟨a, rfl, _⟩ := h
    rfl
  · obtain ⟨m, rfl, ⟨h1, h2⟩, q⟩ := h
    refine ⟨_, pss_cons (ps_expr (pe_df DC (hr.mono (by decide)) (pa_cons (pv 0) pa_nil)))
      (pss_cons (ps_set (i := 1) scHeights.nd rfl (.inr rfl) (pe_op op_cat (pe_lst (pa_cons pe_int pa_nil)) (pe_lc (own := [("height", 2)]) (g := gName 2) (tt := tYes) (by rfl) scHeights.nd
        (pi_range1 (by rfl) B.range (pa_cons (pv 0) pa_nil)) (blkOk_by (N := ["many", "sums", "height", "k"]) (sc := defScope sHeights) (by decide +kernel))
        (fun _ _ _ _ _ => pg_name (i := 2) scHeights.nd rfl (Or.inl rfl)) (fun _ _ _ _ _ => pts_nil)
        (fun _ _ _ _ _ => pe_df DL hr (pa_cons (pv 0) (pa_cons (pv 2) pa_nil))))))
      (pss_one (ps_ret (pe_lc (own := [("k", 3)]) (g := gName 3) (tt := tYes) (by rfl) scHeights.nd
        (pi_range1 (by rfl) B.range (pa_cons (pv 0) pa_nil)) (blkOk_by (N := ["many", "sums", "height", "k"]) (sc := defScope sHeights) (by decide +kernel))
        (fun _ _ _ _ _ => pg_name (i := 3) scHeights.nd rfl (Or.inl rfl)) (fun _ _ _ _ _ => pts_nil)
        (fun _ _ _ _ _ => pe_op op_sub (pe_ix (r := rIxL K) ix_list (pv 1) (pe_op op_add (pv 3) pe_int) (fun _ _ => rfl)) (pe_ix (r := rIxL K) ix_list (pv 1) (pv 3) (fun _ _ => rfl))))))), ?_⟩
    refine q_drop (ev_n1 (a := m) (ev_var rfl) ⟨h1, by omega⟩) fun H1 e1 => ?_
    refine q_asgL (xs := (heightSums m).map V.int) (el_cat (xs := [.int 0]) (el_lst (ea_cons ev_c ea_nil) (by show 1 ≤ _; omega)) (ef_to_l (ep_mR1 (n := m) _ mon_int (ea_cons (ev_var rfl) ea_nil) ⟨by omega, by omega⟩ (fun _ => rfl) fun i H2 e2 hi => ?_)) ?_) fun a H2 na e2 ha => ?_
    · exact ep_int (ev_c2 (ev_var rfl) (ev_var rfl) ⟨by omega, by omega, by omega, by omega⟩)
    · rw [List.length_map, List.length_map, List.length_range]
      show 1 + _ ≤ _
      omega
    · have hlen : (heightSums m).length = m.toNat + 1 := by
        show (List.map _ _).length + 1 = _
        rw [List.length_map, List.length_range]
      refine s_retL (xs := (heightCounts m).map V.int) (ef_to_l (ep_mR1 (n := m) _ mon_int (ea_cons (ev_var rfl) ea_nil) ⟨by omega, by omega⟩ (fun _ => rfl) fun i H3 e3 hi => ?_)) fun p H4 hp e4 hH => q p H4 (fresh_back (e1.trans e2) hp) ((e1.trans e2).trans e4) hH
      refine ep_int (ev_sub (ev_ixL (v := .int ((heightSums m).getD (i + 1) 0)) (ev_var rfl) (ev_add (ev_var rfl) ev_c) (sq_of (e3 a _ ha)) ?_) (ev_ixL (v := .int ((heightSums m).getD i 0)) (ev_var rfl) (ev_var rfl) (sq_of (e3 a _ ha)) ?_))
      · have z := at_map (ns := heightSums m) (getD_some (ns := heightSums m) (i := i + 1) (by omega))
        exact z
      · exact at_map (getD_some (by omega))
theorem d_falling (T : At K mg "falling" sFalling) (B : Tx mg) : Df P w K mg base "falling" 1 ["many", "factors"] (sp2 (fun m n => 0 ≤ m ∧ m ≤ 1000 ∧ 0 ≤ n ∧ n ≤ 1000) fallZ) := by
  refine df_of T scFalling (fun _ _ _ _ _ _ us hl => match us, hl with | [_, _], _ => rfl) (fun vs H Q E h => ?_) (fun f cdv A outer s H vs Q E hr h => ?_)
  · obtain ⟨a, b, rfl, _⟩ := h
    rfl
  · obtain ⟨m, n, rfl, ⟨h1, h2, h3, h4⟩, q⟩ := h
    refine ⟨_, pss_cons (ps_set (i := 2) scFalling.nd rfl (.inl rfl) pe_int)
      (pss_cons (ps_for PassesOwn.never rfl (pi_range1 (by rfl) B.range (pa_cons (pv 1) pa_nil)) (pg_name (i := 3) scFalling.nd rfl (.inl rfl)) (pss_one (ps_aug (i := 2) scFalling.nd rfl (.inl rfl) (pe_op op_sub (pv 0) (pv 3)) iop_mul)))
      (pss_one (ps_ret (pv 2)))), ?_⟩
    refine q_asg ev_c fun H1 e1 => ?_
    refine q_forR1 (n := n) (ea_cons (ev_var rfl) ea_nil) ⟨h3, by omega⟩ (fun i σ' H' => ∃ y, σ' = [some (.int m), some (.int n), some (.int (fall m i)), y] ∧ Ex H H') (fun H2 e2 => ⟨_, rfl, e1.trans e2⟩) (fun i σ' H' hi hp => ?_) (fun σ' H' hp => ?_)
    · obtain ⟨y, rfl, e⟩ := hp
      refine ⟨.int (fall m i), rfl, ?_⟩
      refine ev_sub (a := m) (b := (i : Int)) (ev_var rfl) (ev_var rfl) H' (Ex.refl H') _ fun H2 e2 => ?_
      exact ⟨fall m i, m - i, rfl, rfl, .inr ⟨by omega, by omega⟩, ⟨_, rfl, e.trans e2⟩⟩
    · obtain ⟨y, rfl, e⟩ := hp
      exact s_ret (v := .int (fallZ m n)) (ev_var rfl) fun H2 e2 => q H2 (e.trans e2)
end
end K54
/-! K54F4: depth_totals, rows_dividing, returning_count, check_lengths, ring_length_count. -/
namespace K54
open PySem PySem.Spec PyProof.Rows L2 Evl

abbrev sCheckLengths : Stmt := topS 28
abbrev sRingLength : Stmt := topS 29
theorem scCheckLengths : FnScope ["value", "length", "k"] ["value"] (defScope sCheckLengths) := ⟨rfl, rfl, rfl, by decide +kernel, rfl, by decide +kernel, by decide +kernel⟩
theorem scRingLength : FnScope ["many", "lengths", "places", "ways", "k", "length"] ["many", "lengths"] (defScope sRingLength) := ⟨rfl, rfl, rfl, by decide +kernel, rfl, by decide +kernel, by decide +kernel⟩

section
variable {K : PySem.W.Frag} {σ : L2.St} {H : Hp} {ta tb te : TE}
theorem ev_sumL {a : Addr} {ns : List Int} (h : Ev ta σ H (.ref a)) (ha : SqL K H a (ns.map V.int)) : Ev (tCB (rSum K) (tCons ta tNil)) σ H (.int ns.sum) := fun H1 e Q q =>
  h H1 e _ fun H2 e2 => ⟨a, ns, rfl, ex_l (e.trans e2) ha, q H2 e2⟩
theorem ev_sumT {a : Addr} {ns : List Int} (h : Ev ta σ H (.ref a)) (ha : SqT K H a (ns.map V.int)) : Ev (tCB (rSumT K) (tCons ta tNil)) σ H (.int ns.sum) := fun H1 e Q q =>
  h H1 e _ fun H2 e2 => ⟨a, ns, rfl, ex_t (e.trans e2) ha, q H2 e2⟩
theorem ev_min2 {a b : Int} (h : Ev ta σ H (.int a)) (h2 : Ev tb σ H (.int b)) : Ev (tCB (fun xs H Q => ∃ i j, xs = [V.int i, V.int j] ∧ Q (.int (if j < i then j else i)) H) (tCons ta (tCons tb tNil))) σ H (.int (if b < a then b else a)) := fun H1 e Q q =>
  h H1 e _ fun H2 e2 => h2 H2 (e.trans e2) _ fun H3 e3 => ⟨a, b, rfl, q H3 (e2.trans e3)⟩
theorem ty_tup {a : Addr} {xs : List V} (h : SqT K H a xs) : TyX K H (.ref a) (.type "tuple") := by
  rcases h with (h | ⟨o, h⟩) | ⟨o, its, n, hk, hc, _⟩
  · exact .base (.tup h)
  · exact .fTuple h
  · exact .kTuple hk hc
theorem ev_isiT {c : String} {b : Bool} {a : Addr} {xs : List V} (h : Ev ta σ H (.ref a)) (ha : SqT K H a xs) (hk : kitB "tuple" c = some b) : Ev (tCB (rIsi K) (tCons ta (tCons (tC (.ty c)) tNil))) σ H (.bl b) := fun H1 e Q q =>
  h H1 e _ fun H2 e2 => ⟨.ref a, .ty c, .type "tuple", .type c, b, rfl, .ty c, ty_tup (ex_t (e.trans e2) ha), kit_ty hk, q H2 e2⟩
/-- a comparison of data -/
theorem ev_eqD {x : PyData} {y : PyData} (h : EvD K ta σ H x) (h2 : EvD K tb σ H y) (sx : SeqAt.shaped x = true) (sy : SeqAt.shaped y = true) : Ev (tOp (rEqD K) ta tb) σ H (.bl (PyData.eqv x y)) := fun H1 e Q q =>
  h H1 e _ fun v Hn H2 g1 d1 => (h2.mono g1.base) H2 g1.new _ fun u Hm H3 g2 d2 => ⟨x, y, d1.up (g2.base.trans g2.new), d2.up g2.new, sx, sy, q H3 (g1.all.trans g2.all)⟩
theorem ev_neD {x : PyData} {y : PyData} (h : EvD K ta σ H x) (h2 : EvD K tb σ H y) (sx : SeqAt.shaped x = true) (sy : SeqAt.shaped y = true) : Ev (tOp (rNeD K) ta tb) σ H (.bl (!PyData.eqv x y)) := fun H1 e Q q =>
  h H1 e _ fun v Hn H2 g1 d1 => (h2.mono g1.base) H2 g1.new _ fun u Hm H3 g2 d2 => ⟨x, y, d1.up (g2.base.trans g2.new), d2.up g2.new, sx, sy, q H3 (g1.all.trans g2.all)⟩
theorem ed_tup0 : EvD K (tTup tNil) σ H (.tuple []) := fun H1 e Q q => ⟨Nat.zero_le _, fun p hp => q (.ref p) _ _ ((Gr.refl e).lay (o := .tup []) hp) (.tup (st_of upd_same) .nil)⟩
theorem ev_all {bs : List Bool} (h : EvFP (fun (_ : Hp) (v : V) (b : Bool) => v = .bl b) ta σ H bs) : Ev (tCB (rAll K) (tCons ta tNil)) σ H (.bl (bs.all id)) := fun H1 e Q q =>
  h H1 e _ fun p xs Hn H2 g _ _ hH hd => by
    have ex : xs = bs.map V.bl := by
      clear hH q h
      induction hd with
      | nil => rfl
      | cons a _ ih =>
        rw [ih, a]
        rfl
    subst ex
    exact ⟨p, bs, rfl, sq_of hH, q H2 g.all⟩
theorem ev_lenT {a : Addr} {xs : List V} (h : Ev ta σ H (.ref a)) (ha : SqT K H a xs) : Ev (tCB (fun xs H Q => ∃ p ys, xs = [V.ref p] ∧ (SqL K H p ys ∨ SqT K H p ys) ∧ Q (.int ys.length) H) (tCons ta tNil)) σ H (.int (xs.length : Int)) := fun H1 e Q q =>
  h H1 e _ fun H2 e2 => ⟨a, xs, rfl, .inr (ex_t (e.trans e2) ha), q H2 e2⟩
end
theorem mon_bl : Mon fun (_ : Hp) (v : V) (b : Bool) => v = .bl b := fun _ _ _ _ _ h => h

/-! ### the mathematics -/
/-- lengths -/
def lensOk (ns : List Int) : Prop := ns ≠ [] ∧ ns.length ≤ 10 ∧ (∀ n ∈ ns, 1 ≤ n ∧ n ≤ 1000) ∧ ∀ k : Nat, k + 1 < ns.length → ns.getD k 0 ≤ ns.getD (k + 1) 0
def rlD (ns : List Int) (k : Nat) : Int := ns.getD k 0 * (((ns.take k).count (ns.getD k 0) : Nat) + 1)
def rlS (ns : List Int) : Nat → Int
  | 0 => fac ns.sum
  | k + 1 => rlS ns k / rlD ns k
def ringLength (m : Int) (ns : List Int) : Int := if m < ns.sum then 0 else rlS ns ns.length * ringWays m ns.sum
theorem sum_ge : ∀ {ns : List Int}, (∀ n ∈ ns, 1 ≤ n ∧ n ≤ 1000) → 0 ≤ ns.sum
  | [], _ => by simp
  | n :: ns, h => by
    have h1 := h n List.mem_cons_self
    have h2 := sum_ge (ns := ns) fun x hx => h x (List.mem_cons_of_mem _ hx)
    rw [List.sum_cons]
    omega

section
variable {P : Program} {w : World} {K : PySem.W.Frag} {mg : Str → Option Value} {base : Heap}
theorem d_depths (T : At K mg "depth_totals" sDepths) (B : Tx mg) (DC : DCheck P w K mg base) (DT : DTimes P w K mg base) (DF : Df P w K mg base "falling" 1 ["many", "factors"] (sp2 (fun m n => 0 ≤ m ∧ m ≤ 1000 ∧ 0 ≤ n ∧ n ≤ 1000) fallZ)) :
    Df P w K mg base "depth_totals" 4 ["many"] (sp1L Pm depthTotals) := by
  refine df_of T scDepths (fun _ _ _ _ _ _ us hl => match us, hl with | [_], _ => rfl) (fun vs H Q E h => ?_) (fun f cdv A outer s H vs Q E hr h => ?_)
  · obtain ⟨a, rfl, _⟩ := h
    rfl
  · obtain ⟨m, rfl, ⟨h1, h2⟩, q⟩ := h
    refine ⟨_, pss_cons (ps_expr (pe_df DC hr (pa_cons (pv 0) pa_nil)))
      (pss_cons (ps_set (i := 1) scDepths.nd rfl (.inl rfl) (pe_lst pa_nil))
      (pss_cons (ps_for PassesOwn.never rfl (pi_range1 (by rfl) B.range (pa_cons (pv 0) pa_nil)) (pg_name (i := 2) scDepths.nd rfl (.inl rfl))
        (pss_cons (ps_setLc (i := 3) (own := [("size", 4)]) (g := gName 4) (tt := tYes) (by rfl) scDepths.nd rfl rfl (sw_true rfl rfl rfl (by decide +kernel))
          (pi_range2 (by rfl) B.range (pa_cons (pe_op op_add (pv 2) pe_int) (pa_cons (pe_op op_add (pv 0) pe_int) pa_nil))) (blkOk_by (N := ["many", "found", "depth", "ways", "size"]) (sc := defScope sDepths) (by decide +kernel))
          (fun _ _ _ _ _ => pg_name (i := 4) scDepths.nd rfl (Or.inl rfl)) (fun _ _ _ _ _ => pts_nil)
          (fun _ _ _ _ _ => pe_op op_mul (pe_df DF (hr.mono (by decide)) (pa_cons (pv 0) (pa_cons (pv 4) pa_nil))) (pe_df DT (hr.mono (by decide)) (pa_cons (pv 0) (pa_cons (pe_op op_sub (pv 0) (pv 4)) pa_nil)))))
        (pss_one (ps_expr (pe_bm PySem.F.plainAttrs_list PySem.F.slot_list_append PySem.F.type_list_append mt_append (pv 1) (pa_cons (pe_callB (cr_sum rfl) (by rfl) B.sum boot_sum (pa_cons (pv 3) pa_nil)) pa_nil))))))
      (pss_one (ps_ret (pv 1))))), ?_⟩
    refine q_drop (ev_n1 (a := m) (ev_var rfl) ⟨h1, by omega⟩) fun H1 e1 => ?_
    refine q_asgL (el_lst ea_nil (Nat.zero_le _)) fun a H2 na e2 ha => ?_
    have na' : H a = none := fresh_back e1 na
    refine q_forR1 (n := m) (ea_cons (ev_var rfl) ea_nil) ⟨by omega, by omega⟩ (fun i σ' H' => ∃ y2 y3 y4, σ' = [some (.int m), some (.ref a), y2, y3, y4] ∧ Ex H H' ∧ H' a = some (.lst (((List.range i).map fun (d : Nat) => (depthWays m d).sum).map V.int)))
      (fun H3 e3 => ⟨_, _, _, rfl, (e1.trans e2).trans e3, e3 a _ ha⟩) (fun i σ' H' hi hp => ?_) (fun σ' H' hp => ?_)
    · obtain ⟨y2, y3, y4, rfl, e, hb⟩ := hp
      refine q_asgL (xs := (depthWays m i).map V.int) (ef_to_l (ep_mR2 (lo := (i : Int) + 1) (n := m + 1) _ mon_int (ea_cons (ev_add (ev_var rfl) ev_c) (ea_cons (ev_add (ev_var rfl) ev_c) ea_nil)) ⟨by omega, by omega, by omega, by omega⟩ (fun _ => rfl) fun j H3 e3 hj => ?_)) fun b H3 nb e3 hb2 => ?_
      · have hf := fall_small m.toNat (by omega) ((i : Int) + 1 + (j : Int)).toNat (by omega)
        rw [Int.toNat_of_nonneg (by omega), Int.toNat_of_nonneg (by omega)] at hf
        exact ep_int (ev_mul (ev_c2 (ev_var rfl) (ev_var rfl) ⟨by omega, by omega, by omega, by omega⟩) (ev_c2 (ev_var rfl) (ev_sub (ev_var rfl) (ev_var rfl)) ⟨by omega, by omega, by omega, by omega⟩) (.inl hf))
      · refine s_app (l := a) (xs := ((List.range i).map fun (d : Nat) => (depthWays m d).sum).map V.int) (v := .int (depthWays m i).sum) (e3 a _ hb) (ev_var rfl) (ev_sumL (ev_var rfl) (sq_of hb2)) (by rw [List.length_map, List.length_map, List.length_range]; omega) fun H4 e4 => ⟨_, _, _, rfl, ((e.trans e3).trans e4).mut na', ?_⟩
        rw [upd_same, List.range_succ, List.map_append, List.map_append]
        rfl
    · obtain ⟨y2, y3, y4, rfl, e, hb⟩ := hp
      exact s_ret (v := .ref a) (ev_var rfl) fun H3 e3 => q a H3 na' (e.trans e3) (e3 a _ hb)
theorem d_dividing (T : At K mg "rows_dividing" sDividing) (B : Tx mg) : Df P w K mg base "rows_dividing" 1 ["most", "count"] (sp2L (fun m _ => 1 ≤ m ∧ m ≤ 5) rowsDividing) := by
  refine df_of T scDividing (fun _ _ _ _ _ _ us hl => match us, hl with | [_, _], _ => rfl) (fun vs H Q E h => ?_) (fun f cdv A outer s H vs Q E hr h => ?_)
  · obtain ⟨a, b, rfl, _⟩ := h
    rfl
  · obtain ⟨m, c, rfl, ⟨h1, h2⟩, q⟩ := h
    refine ⟨_, pss_cons (ps_set (i := 2) scDividing.nd rfl (.inl rfl) (pe_lst (pa_cons pe_int pa_nil)))
      (pss_cons (ps_for PassesOwn.never rfl (pi_range2 (by rfl) B.range (pa_cons pe_int (pa_cons (pe_op op_add (pv 0) pe_int) pa_nil))) (pg_name (i := 3) scDividing.nd rfl (.inl rfl))
        (pss_cons (ps_set (i := 4) scDividing.nd rfl (.inl rfl) pe_int)
        (pss_cons (ps_for PassesOwn.never rfl (pi_range2 (by rfl) B.range (pa_cons pe_int (pa_cons (pe_op op_add (pv 3) pe_int) pa_nil))) (pg_name (i := 5) scDividing.nd rfl (.inl rfl))
          (pss_one (ps_if (pt_cmpR op_eq (pe_op op_mod (pv 1) (pv 5)) pe_int (nomark _))
            (pss_one (ps_aug (i := 4) scDividing.nd rfl (.inl rfl) (pe_op op_mul (pe_op op_mul (pe_callBfun cr_comb (by rfl) B.comb (pa_cons (pe_op op_sub (pv 3) pe_int) (pa_cons (pe_op op_sub (pv 5) pe_int) pa_nil))) (pe_callBfun cr_fact (by rfl) B.factorial (pa_cons (pe_op op_sub (pv 5) pe_int) pa_nil)))
              (pe_ix ix_list (pv 2) (pe_op op_sub (pv 3) (pv 5)) (fun _ _ => rfl))) ip_add)) pss_nil)))
        (pss_one (ps_expr (pe_bm PySem.F.plainAttrs_list PySem.F.slot_list_append PySem.F.type_list_append mt_append (pv 2) (pa_cons (pv 4) pa_nil)))))))
      (pss_one (ps_ret (pv 2)))), ?_⟩
    refine q_asgL (xs := (rdS c 0).map V.int) (el_lst (ea_cons ev_c ea_nil) (by show 1 ≤ _; omega)) fun a H2 na e2 ha => ?_
    refine q_forR2 (lo := 1) (n := m + 1) (ea_cons ev_c (ea_cons (ev_add (ev_var rfl) ev_c) ea_nil)) ⟨by omega, by omega, by omega, by omega⟩ (fun i σ' H' => ∃ y3 y4 y5, σ' = [some (.int m), some (.int c), some (.ref a), y3, y4, y5] ∧ Ex H H' ∧ H' a = some (.lst ((rdS c i).map V.int)))
      (fun H3 e3 => ⟨_, _, _, rfl, e2.trans e3, e3 a _ ha⟩) (fun i σ' H' hi hp => ?_) (fun σ' H' hp => ?_)
    · obtain ⟨y3, y4, y5, rfl, e, hb⟩ := hp
      have lr := rdS_length c i
      refine q_asg ev_c fun H3 e3 => ?_
      refine q_forR2 (lo := 1) (n := 1 + (i : Int) + 1) (ea_cons ev_c (ea_cons (ev_add (ev_var rfl) ev_c) ea_nil)) ⟨by omega, by omega, by omega, by omega⟩ (fun j σ'' H'' => ∃ z5, σ'' = [some (.int m), some (.int c), some (.ref a), some (.int (1 + (i : Int))), some (.int (sumS (rdW c (rdS c i) i) j)), z5] ∧ Ex H H'' ∧ H'' a = some (.lst ((rdS c i).map V.int)))
        (fun H4 e4 => ⟨_, rfl, (e.trans e3).trans e4, (e3.trans e4) a _ hb⟩) (fun j σ'' H'' hj hp2 => ?_) (fun σ'' H'' hp2 => ?_)
      · obtain ⟨z5, rfl, e4, hb2⟩ := hp2
        refine s_when (b := decide (c % (1 + (j : Int)) = 0)) (et_test (ev_eq (ev_mod (ev_var rfl) (ev_var rfl) (by omega)) ev_c)) (fun hb H5 e5 => ?_) (fun hb H5 e5 => ?_)
        · have hd := of_decide_eq_true hb
          have hw : rdW c (rdS c i) i j = PySem.W.mcComb (1 + (i : Int) - 1) (1 + (j : Int) - 1) * fac (1 + (j : Int) - 1) * (rdS c i).getD (i - j) 0 := by
            unfold rdW
            rw [if_pos hd]
          have ez : (1 + (i : Int)) - (1 + (j : Int)) = ((i - j : Nat) : Int) := by omega
          have smallF : -(2 ^ 64) < PySem.W.mcComb (1 + (i : Int) - 1) (1 + (j : Int) - 1) * fac (1 + (j : Int) - 1) ∧ PySem.W.mcComb (1 + (i : Int) - 1) (1 + (j : Int) - 1) * fac (1 + (j : Int) - 1) < 2 ^ 64 := by
            have z : ∀ a : Nat, a < 6 → ∀ b : Nat, b < 6 → -(2 ^ 64) < PySem.W.mcComb (a : Int) b * fac b ∧ PySem.W.mcComb (a : Int) b * fac b < 2 ^ 64 := by decide +kernel
            have z1 := z i (by omega) j (by omega)
            have u1 : (1 + (i : Int) - 1) = (i : Int) := by omega
            have u2 : (1 + (j : Int) - 1) = (j : Int) := by omega
            rw [u1, u2]
            exact z1
          refine s_aug (a := sumS (rdW c (rdS c i) i) j) (b := rdW c (rdS c i) i j) rfl ?_ fun H6 e6 => ⟨_, rfl, (e4.trans e5).trans e6, (e5.trans e6) a _ hb2⟩
          rw [hw]
          refine ev_mul (ev_mul (ev_comb (ev_sub (ev_var rfl) ev_c) (ev_sub (ev_var rfl) ev_c) ⟨by omega, by omega, by omega, by omega⟩) (ev_fact (ev_sub (ev_var rfl) ev_c) ⟨by omega, by omega⟩) (.inl (comb_lt (by omega) (by omega) (by omega) (by omega))))
            (ev_ixL (v := .int ((rdS c i).getD (i - j) 0)) (ev_var rfl) (ev_sub (ev_var rfl) (ev_var rfl)) (sq_of (e5 a _ hb2)) ?_) (.inl smallF)
          rw [ez]
          exact at_map (getD_some (by omega))
        · have hd := of_decide_eq_false hb
          have hw : rdW c (rdS c i) i j = 0 := by
            unfold rdW
            rw [if_neg hd]
          refine ⟨some (.int (1 + (j : Int))), ?_, e4.trans e5, e5 a _ hb2⟩
          · show _ = [some (V.int m), some (.int c), some (.ref a), some (.int (1 + (i : Int))), some (.int (sumS (rdW c (rdS c i) i) j + rdW c (rdS c i) i j)), _]
            rw [hw, Int.add_zero]
            rfl
      · obtain ⟨z5, rfl, e4, hb2⟩ := hp2
        refine s_app (l := a) (xs := (rdS c i).map V.int) (v := .int (sumS (rdW c (rdS c i) i) (1 + (i : Int) + 1 - 1).toNat)) hb2 (ev_var rfl) (ev_var rfl) (by rw [List.length_map]; omega) fun H5 e5 => ⟨_, _, _, rfl, (e4.trans e5).mut na, ?_⟩
        rw [upd_same]
        show _ = some (HO.lst ((rdS c i ++ [_]).map V.int))
        rw [List.map_append]
        rfl
    · obtain ⟨y3, y4, y5, rfl, e, hb⟩ := hp
      exact s_ret (v := .ref a) (ev_var rfl) fun H3 e3 => q a H3 na (e.trans e3) (e3 a _ hb)
end
end K54
/-! K54B7: t[:k].count(x), t a tuple of ints; a loop over enumerate(tuple). -/
namespace K54
open PySem PySem.Spec PyProof.Rows L2 Evl

/-- a tuple of ints just cut: nothing hangs on it -/
def cutO (p : Addr) (ns : List Int) : HO := .ext fun h => ∃ its : List Value, Vals (ns.map V.int) its ∧ h.get? p = some { cls := .type "tuple", data := .seq its.toArray }
section
variable {X : Cx}
/-- t[:k], less than the whole -/
def rSlC (K : PySem.W.Frag) : V → Option Int → Option Int → Hp → VK → Prop := fun x lo hi H Q => ∃ (a : Addr) (ns : List Int) (k : Nat), x = .ref a ∧ lo = none ∧ hi = some (k : Int) ∧ SqT K H a (ns.map V.int) ∧ k < ns.length ∧
  ∀ p, H p = none → Q (.ref p) (upd H p (cutO p (ns.take k)))
theorem sl_cut : SlR X (rSlC X.K) := by
  intro pins s σ H x v vl vu lo hi sl Q I rx hs pl pu h
  obtain ⟨a, ns, k, rfl, rfl, rfl, ht, hk, q⟩ := h
  cases rx
  obtain ⟨its, r, it, hz⟩ := I.tuple ht
  have len : its.toArray.size = ns.length := by
    rw [List.size_toArray, ← r.length, List.length_map]
  refine ⟨"tuple", _, PyProof.Rows.slot_tuple_getitem.lookup, it.typeIs, ?_⟩
  have e1 : HT.sIx its.toArray.size its.toArray.size (some (k : Int)) = k := by
    rw [HT.sIx_nat, len]
    omega
  refine HT.getItem_tuple_cut it hs pl pu ?_ ?_ (by rw [len]; rw [List.length_map] at hz; exact hz)
  · rw [e1, len]
    rintro ⟨_, z⟩
    omega
  · rw [e1, HT.sIx_none, List.drop_zero, Nat.sub_zero]
    have r2 : Vals ((ns.take k).map V.int) (its.take k) := by
      rw [List.map_take]
      exact r.take k
    have new : (s.heap.push { cls := .type "tuple", data := .seq (its.take k).toArray }).get? s.heap.objs.size = some { cls := .type "tuple", data := .seq (its.take k).toArray } := Heap.get?_push_size _ rfl
    refine ⟨.ref s.heap.objs.size, _, I.laid (t' := s.toks) (o := cutO s.heap.objs.size (ns.take k)) (fun b ob z => Heap.get?_push_of_some _ z) (Nat.le_refl _) ?_, rfl, q _ (I.hok.fresh (Nat.le_refl _))⟩
    refine ⟨⟨its.take k, r2, new⟩, ⟨_, new⟩, fun h1 h2 z kp => ?_⟩
    obtain ⟨us, z1, z2⟩ := z
    exact ⟨us, z1, kp _ z2⟩
def tCnt (to te : TE) : TE := fun σ H Q => to σ H fun x H1 => (∃ p ns, x = .ref p ∧ H1 p = some (cutO p ns)) ∧ te σ H1 fun y H2 => ∃ (p : Addr) (ns : List Int) (k : Int), x = .ref p ∧ y = .int k ∧ H2 p = some (cutO p ns) ∧ Q (.int (ns.count k : Nat)) H2
theorem pe_cnt {o e : Expr} {to te : TE} {apos cpos : Pos} (ho : PE X o to) (he : PE X e te)
    (hbase : attributeBase o "count" X.env (eval o X.env) = eval o X.env := by rfl)
    (hfew : ((backTo cpos (starEach [e] X.env)).all (fun x => !x.1) && (backToKw cpos (keywordEach [] X.env)).all (fun x => x.1.isSome) && decide (([e] : List Expr).length + ([] : List Keyword).length + (if ([] : List Keyword).isEmpty then 0 else 1) < 30)) = true := by rfl)
    (hline : (apos.endLine == cpos.line) = true := by rfl) (hs : starEach [e] X.env = (false, eval e X.env) :: starEach [] X.env := by rfl) :
    PE X (.Call (.Attribute o "count" apos) [e] [] cpos) (tCnt to te) := by
  constructor
  intro pins s σ H Q I h
  refine wpAny_Call_method_late hbase hfew hline rfl (thn (ho.run pins s σ H _ I h) ?_)
  rintro v s1 ⟨x, H1, I1, r1, ⟨p, ns, rfl, hp⟩, q1⟩
  cases r1
  obtain ⟨⟨its, rv, hob⟩, _, _⟩ := (show ObjOk X.prog X.w H1 s1.heap p (cutO p ns) from I1.hok p _ hp)
  refine ⟨"tuple", "tuple.count", PySem.F.plainAttrs_tuple, PySem.F.slot_tuple_count, PySem.F.type_tuple_count, ⟨_, hob, rfl⟩, ?_, ?_⟩
  · intro a ea
    cases ea
    exact ⟨_, hob, rfl⟩
  have hA := (pa_cons he pa_nil hs).run cpos pins s1 σ H1 _ I1 (show tCons te tNil σ H1 (fun ys H2 => ∃ y, ys = [y] ∧ ∃ (p' : Addr) (ns : List Int) (k : Int), V.ref p = .ref p' ∧ y = .int k ∧ H2 p' = some (cutO p' ns) ∧ Q (.int (ns.count k : Nat)) H2) from
    (by
      have mono : ∀ (Q1 Q2 : VK), (∀ y H2, Q1 y H2 → Q2 y H2) → te σ H1 Q1 → tCons te tNil σ H1 (fun ys H2 => ∃ y, ys = [y] ∧ Q1 y H2) := by
        intro Q1 Q2 _ hq
        show te σ H1 fun x H2 => ∃ y, [x] = [y] ∧ Q1 y H2
        have e : (fun (x : V) (H2 : Hp) => ∃ y, [x] = [y] ∧ Q1 y H2) = Q1 := by
          funext x H2
          apply propext
          constructor
          · rintro ⟨y, e, z⟩
            cases e
            exact z
          · intro z
            exact ⟨x, rfl, z⟩
        rw [e]
        exact hq
      exact mono _ _ (fun _ _ z => z) q1))
  rw [hs] at hA ⊢
  refine Calls.callWith_builtin rfl (Calls.evalArgs_plain (thn hA ?_))
  rintro us s2 ⟨vs, H2, I2, r2, y, rfl, p', ns', k, ep, rfl, hp2, q2⟩
  cases ep
  obtain ⟨u, rfl, ru⟩ := r2.one
  obtain ⟨t, rfl⟩ := ru
  obtain ⟨⟨its2, rv2, hob2⟩, _, _⟩ := (show ObjOk X.prog X.w H2 s2.heap p (cutO p ns') from I2.hok p _ hp2)
  have hi := ints_of_vals rv2
  refine call_meets PySem.F.slot_tuple_count ⟨_, hob2, rfl⟩ PySem.F.entry_tuple_count (PySem.F.args_tuple_count_2 _ _)
    (SeqAt.tuple_countAt p its2.toArray 0 none #[] (.int k t) (eqk k)) ⟨hob2, ?_, ?_⟩
  · intro y hy
    exact (eqk_gives hi y (by simpa using hy)).at _ _
  · have ec : its2.toArray.toList.countP (eqk k) = ns'.count k := eqk_count hi
    refine ⟨.int (ns'.count k : Nat), H2, I2.tok _, ⟨s2.toks, ?_⟩, q2⟩
    exact congrArg (fun m : Nat => Value.int (m : Int) s2.toks) ec
end
section
variable {K : PySem.W.Frag} {σ : L2.St} {H : Hp} {ta tb te tl : TE} {D : Ends} {tu tz : TS}
theorem ev_cnt {a : Addr} {ns : List Int} {k : Nat} {n : Int} (h : Ev ta σ H (.ref a)) (hb : Ev tb σ H (.int (k : Int))) (he : Ev te σ H (.int n)) (hs : SqT K H a (ns.map V.int)) (hk : k < ns.length) :
    Ev (tCnt (tSl (rSlC K) ta tNoPart (tPart tb)) te) σ H (.int ((ns.take k).count n : Nat)) := fun H1 e Q q =>
  h H1 e _ fun H2 e2 => hb H2 (e.trans e2) _ fun H3 e3 => ⟨(k : Int), rfl, a, ns, k, rfl, rfl, rfl, ex_t ((e.trans e2).trans e3) hs, hk, fun p hp =>
    ⟨⟨p, ns.take k, rfl, upd_same⟩, he _ (((e.trans e2).trans e3).trans (Ex.new hp)) _ fun H4 e4 => ⟨p, ns.take k, n, rfl, rfl, e4 p _ upd_same, q H4 (((e2.trans e3).trans (Ex.new hp)).trans e4)⟩⟩⟩
/-- for i, x in enumerate(tuple that stands) -/
theorem s_forEnT {i j : Nat} {a : Addr} {xs : List V} (h : Ev tl σ H (.ref a)) (hx : SqT K H a xs) (Pv : Nat → L2.St → Hp → Prop) (h0 : ∀ H1, Ex H H1 → Pv 0 σ H1) (hG : ∀ k σ' H', k ≤ xs.length → Pv k σ' H' → SqT K H' a xs)
    (hs : ∀ (k : Nat) x T σ' H', xs[k]? = some x → Pv k σ' H' → H' T = none → tu { D with nx := Pv (k + 1), ct := Pv (k + 1), bk := D.nx } ((σ'.set i (some (.int (k : Int)))).set j (some x)) (upd H' T (.tup [.int (k : Int), x]))) (hd : ∀ σ' H', Pv xs.length σ' H' → D.nx σ' H') :
    tFor (iEnumT K (tCons tl tNil)) (gTup K 2 (gCons (gName i) (gCons (gName j) gNil))) tu D σ H := by
  refine h H (Ex.refl H) _ fun H1 e1 => ⟨a, xs, rfl, ex_t e1 hx, ?_⟩
  refine for_it (D := D) walk_enumT Pv (h0 H1 e1) hG (fun k v σ' H' H2 hk p y => ?_) hd
  obtain ⟨T, x1, x2, rfl, nT, rfl, e2, e3⟩ := y
  cases e2
  exact g_pair (hs k x2 T σ' H' e3 p nT)
theorem q_forEnT {i j : Nat} {a : Addr} {xs : List V} (h : Ev tl σ H (.ref a)) (hx : SqT K H a xs) (Pv : Nat → L2.St → Hp → Prop) (h0 : ∀ H1, Ex H H1 → Pv 0 σ H1) (hG : ∀ k σ' H', k ≤ xs.length → Pv k σ' H' → SqT K H' a xs)
    (hs : ∀ (k : Nat) x T σ' H', xs[k]? = some x → Pv k σ' H' → H' T = none → tu { D with nx := Pv (k + 1), ct := Pv (k + 1), bk := tz D } ((σ'.set i (some (.int (k : Int)))).set j (some x)) (upd H' T (.tup [.int (k : Int), x]))) (hd : ∀ σ' H', Pv xs.length σ' H' → tz D σ' H') :
    tSeq (tFor (iEnumT K (tCons tl tNil)) (gTup K 2 (gCons (gName i) (gCons (gName j) gNil))) tu) tz D σ H := s_forEnT (D := { D with nx := tz D }) h hx Pv h0 hG hs hd
end
end K54
/-! K54F5: returning_count, check_lengths, ring_length_count. -/
namespace K54
open PySem PySem.Spec PyProof.Rows L2 Evl

/-- a tuple of lengths -/
def spLens (K : PySem.W.Frag) : Sp := fun vs H Q _ => ∃ (a : Addr) (ns : List Int), vs = [V.ref a] ∧ SqT K H a (ns.map V.int) ∧ lensOk ns ∧ ∀ H', Ex H H' → Q .non H'
def spRingLength (K : PySem.W.Frag) : Sp := fun vs H Q _ => ∃ (m : Int) (a : Addr) (ns : List Int), vs = [V.int m, V.ref a] ∧ Pm m ∧ SqT K H a (ns.map V.int) ∧ lensOk ns ∧ ∀ H', Ex H H' → Q (.int (ringLength m ns)) H'
theorem ev_nL {K : PySem.W.Frag} {σ : L2.St} {H : Hp} {ta : TE} {a : Addr} {ns : List Int} (h : Ev ta σ H (.ref a)) (hs : SqT K H a (ns.map V.int)) (hp : lensOk ns) : Ev (tCall (spLens K) [] E0 (tCons ta tNil)) σ H .non := fun H1 e Q q =>
  h H1 e _ fun H2 e2 => ⟨a, ns, rfl, ex_t (e.trans e2) hs, hp, fun H3 e3 => q H3 (e2.trans e3)⟩
theorem sum_mem_le : ∀ {ns : List Int}, (∀ n ∈ ns, 1 ≤ n ∧ n ≤ 1000) → ∀ n ∈ ns, n ≤ ns.sum
  | [], _, n, h => absurd h List.not_mem_nil
  | x :: ns, hs, n, h => by
    have h1 := hs x List.mem_cons_self
    have h2 : ∀ y ∈ ns, 1 ≤ y ∧ y ≤ 1000 := fun y hy => hs y (List.mem_cons_of_mem _ hy)
    have h3 := sum_ge h2
    rw [List.sum_cons]
    rcases List.mem_cons.mp h with e | h
    · omega
    · have := sum_mem_le h2 n h
      omega
theorem getD_mem {ns : List Int} {k : Nat} (h : k < ns.length) : ns.getD k 0 ∈ ns := List.mem_of_getElem? (getD_some h)

section
variable {P : Program} {w : World} {K : PySem.W.Frag} {mg : Str → Option Value} {base : Heap}
theorem d_returning (T : At K mg "returning_count" sReturning) (B : Tx mg) (DC : DCheck P w K mg base) (DN : Df P w K mg base "check_number" 3 ["value"] (sp1N fun a => 0 ≤ a)) (DK : Df P w K mg base "check_count" 3 ["value"] (sp1N fun a => 1 ≤ a))
    (DD : Df P w K mg base "rows_dividing" 1 ["most", "count"] (sp2L (fun m _ => 1 ≤ m ∧ m ≤ 5) rowsDividing)) (DL : DLow P w K mg base) :
    Df P w K mg base "returning_count" 8 ["many", "number", "count"] (sp3 (fun m n c => Pm m ∧ 0 ≤ n ∧ 1 ≤ c) returning) := by
  refine df_of T scReturning (fun _ _ _ _ _ _ us hl => match us, hl with | [_, _, _], _ => rfl) (fun vs H Q E h => ?_) (fun f cdv A outer s H vs Q E hr h => ?_)
  · obtain ⟨a, b, c, rfl, _⟩ := h
    rfl
  · obtain ⟨m, n, c, rfl, ⟨⟨h1, h2⟩, h3, h4⟩, q⟩ := h
    refine ⟨_, pss_cons (ps_expr (pe_df DC (hr.mono (by decide)) (pa_cons (pv 0) pa_nil)))
      (pss_cons (ps_expr (pe_df DN (hr.mono (by decide)) (pa_cons (pv 1) pa_nil)))
      (pss_cons (ps_expr (pe_df DK (hr.mono (by decide)) (pa_cons (pv 2) pa_nil)))
      (pss_cons (ps_par (i := 3) (j := 4) (by rfl) scReturning.nd rfl rfl (by decide) rfl rfl (pa_cons (pe_df DD (hr.mono (by decide)) (pa_cons (pv 0) (pa_cons (pv 2) pa_nil))) (pa_cons pe_int pa_nil)) (by rfl))
      (pss_cons (ps_for PassesOwn.never rfl (pi_range2 (by rfl) B.range (pa_cons pe_int (pa_cons (pe_op op_add (pv 0) pe_int) pa_nil))) (pg_name (i := 5) scReturning.nd rfl (.inl rfl))
        (pss_one (ps_aug (i := 4) scReturning.nd rfl (.inl rfl) (pe_op op_mul (pe_op op_mul (pe_callBfun cr_comb (by rfl) B.comb (pa_cons (pv 0) (pa_cons (pv 5) pa_nil))) (pe_ix ix_list (pv 3) (pv 5) (fun _ _ => rfl)))
          (pe_df DL hr (pa_cons (pv 5) (pa_cons (pe_op op_sub (pv 0) (pv 5)) (pa_cons (pe_callB (call_min2 rfl) (by rfl) B.min boot_min (pa_cons (pv 1) (pa_cons (pv 0) pa_nil))) pa_nil))))) ip_add)))
      (pss_one (ps_ret (pv 4))))))), ?_⟩
    refine q_drop (ev_n1 (a := m) (ev_var rfl) ⟨h1, by omega⟩) fun H1 e1 => ?_
    refine q_drop (ev_n1 (a := n) (ev_var rfl) h3) fun H2 e2 => ?_
    refine q_drop (ev_n1 (a := c) (ev_var rfl) h4) fun H3 e3 => ?_
    refine el_c2 (a := m) (b := c) (f := rowsDividing) (ev_var rfl) (ev_var rfl) ⟨h1, h2⟩ H3 (Ex.refl H3) _ fun a H4 na e4 ha => ?_
    refine ⟨.ref a, .int 0, rfl, ?_⟩
    have ee := ((e1.trans e2).trans e3).trans e4
    have lr : (rowsDividing m c).length = m.toNat + 1 := by
      unfold rowsDividing
      rw [rdS_length]
      omega
    refine q_forR2 (lo := 1) (n := m + 1) (ea_cons ev_c (ea_cons (ev_add (ev_var rfl) ev_c) ea_nil)) ⟨by omega, by omega, by omega, by omega⟩
      (fun i σ' H' => ∃ y, σ' = [some (.int m), some (.int n), some (.int c), some (.ref a), some (.int (sumS (fun i => PySem.W.mcComb m (1 + (i : Int)) * (rowsDividing m c).getD (1 + i) 0 * lowF (minZ n m).toNat (1 + (i : Int)) (m - (1 + (i : Int)))) i)), y] ∧ Ex H H' ∧ H' a = some (.lst ((rowsDividing m c).map V.int)))
      (fun H5 e5 => ⟨_, rfl, ee.trans e5, e5 a _ ha⟩) (fun i σ' H' hi hp => ?_) (fun σ' H' hp => ?_)
    · obtain ⟨y, rfl, e, hb⟩ := hp
      refine s_aug (a := sumS _ i) (b := PySem.W.mcComb m (1 + (i : Int)) * (rowsDividing m c).getD (1 + i) 0 * lowF (minZ n m).toNat (1 + (i : Int)) (m - (1 + (i : Int)))) rfl ?_ fun H5 e5 => ⟨_, rfl, e.trans e5, e5 a _ hb⟩
      have hmin : 0 ≤ minZ n m ∧ minZ n m ≤ 5 := by
        unfold minZ
        split <;> omega
      have e0 : (1 + (i : Int)) = ((1 + i : Nat) : Int) := by omega
      refine ev_mul (ev_mul (ev_comb (ev_var rfl) (ev_var rfl) ⟨by omega, by omega, by omega, by omega⟩) (ev_ixL (v := .int ((rowsDividing m c).getD (1 + i) 0)) (i := 1 + (i : Int)) (ev_var rfl) (ev_var rfl) (sq_of hb) ?_) (.inl (comb_lt (by omega) (by omega) (by omega) (by omega))))
        (ev_c3 (f := fun r o t => lowF t.toNat r o) (ev_var rfl) (ev_sub (ev_var rfl) (ev_var rfl)) (ev_min2 (ev_var rfl) (ev_var rfl)) ⟨by omega, by omega, by omega, by omega, hmin⟩) (.inr (lowF_lt (by omega) (by omega) (by omega) (by omega) (by have := hmin; omega)))
      rw [e0]
      exact at_map (getD_some (by omega))
    · obtain ⟨y, rfl, e, hb⟩ := hp
      exact s_ret (v := .int (returning m n c)) (ev_var rfl) fun H5 e5 => q H5 (e.trans e5)
theorem d_check_lengths (T : At K mg "check_lengths" sCheckLengths) (B : Tx mg) (DF : Df P w K mg base "is_from" 2 ["low", "value"] (sp2B (fun _ _ => True) fun a b => decide (a ≤ b))) :
    Df P w K mg base "check_lengths" 3 ["value"] (spLens K) := by
  refine df_of T scCheckLengths (fun _ _ _ _ _ _ us hl => match us, hl with | [_], _ => rfl) (fun vs H Q E h => ?_) (fun f cdv A outer s H vs Q E hr h => ?_)
  · obtain ⟨a, ns, rfl, _⟩ := h
    rfl
  · obtain ⟨a, ns, rfl, ht, ⟨n0, n1, n2, n3⟩, q⟩ := h
    refine ⟨_, pss_cons (ps_if (PW.pt (pw_or (pt_not (pt_val (pe_callB call_isi (by rfl) B.isinstance boot_isinstance (pa_cons (pv 0) (pa_cons (pe_bltn (v := .ty "tuple") (by rfl) B.tuple boot_tuple rfl) pa_nil)))))
        (pw_or (pt_cmpR (op_eqD hr.units) (pv 0) (pe_tup pa_nil) (nomark _))
        (pw_or1 (pt_not (pt_val (pe_callB (cr_all rfl) (by rfl) B.all boot_all (pa_cons (pe_lc (own := [("length", 1)]) (g := gName 1) (tt := tYes) (by rfl) scCheckLengths.nd
          (pi_tup (pv 0)) (blkOk_by (N := ["value", "length", "k"]) (sc := defScope sCheckLengths) (by decide +kernel))
          (fun _ _ _ _ _ => pg_name (i := 1) scCheckLengths.nd rfl (Or.inl rfl)) (fun _ _ _ _ _ => pts_nil)
          (fun _ _ _ _ _ => pe_df DF hr (pa_cons pe_int (pa_cons (pv 1) pa_nil)))) pa_nil)))))))) (pss_one ps_never) pss_nil)
      (pss_one (ps_if (pt_not (pt_val (pe_callB (cr_all rfl) (by rfl) B.all boot_all (pa_cons (pe_lc (own := [("k", 2)]) (g := gName 2) (tt := tYes) (by rfl) scCheckLengths.nd
          (pi_range1 (by rfl) B.range (pa_cons (pe_op op_sub (pe_callB call_len_seq (by rfl) B.len PySem.boot_len (pa_cons (pv 0) pa_nil)) pe_int) pa_nil)) (blkOk_by (N := ["value", "length", "k"]) (sc := defScope sCheckLengths) (by decide +kernel))
          (fun _ _ _ _ _ => pg_name (i := 2) scCheckLengths.nd rfl (Or.inl rfl)) (fun _ _ _ _ _ => pts_nil)
          (fun _ _ _ _ _ => pe_cmpR op_le (pe_ix (r := rIxT K) ix_tup (pv 0) (pv 2) (fun _ _ => rfl)) (pe_ix (r := rIxT K) ix_tup (pv 0) (pe_op op_add (pv 2) pe_int) (fun _ _ => rfl)) (nomark _))) pa_nil)))) (pss_one ps_never) pss_nil)), ?_⟩
    have pos : 0 < ns.length := List.length_pos_iff.mpr n0
    have ev1 : ∀ {b : Bool} {te : TE} {σ : L2.St} {H : Hp}, Ev te σ H (.bl b) → EvP (fun (_ : Hp) (v : V) (b : Bool) => v = .bl b) te σ H b := fun h H1 e Q q => h H1 e Q fun H2 e2 => q _ _ H2 (Gr.keep e e2) rfl
    have sh : SeqAt.shaped (PyData.tuple (dIs ns)) = true := by
      have cl : ∀ l : List Int, PyData.canLayAll0 (dIs l) = true := by
        intro l
        induction l with
        | nil => rfl
        | cons x r ih =>
          show PyData.canLayAll0 (.int x :: dIs r) = true
          rw [PyData.canLayAll0, ih]
          rfl
      unfold SeqAt.shaped
      rw [show (PyData.tuple (dIs ns)).canLay0 = true by rw [PyData.canLay0]; exact cl ns]
      simp [PyData.depth, PySem.W.depth_ints]
    have eqf : PyData.eqv (.tuple (dIs ns)) (.tuple []) = false := by
      cases ns with
      | nil => exact absurd rfl n0
      | cons x r => simp [PyData.eqv, PyData.eqvAll]
    have ed : ∀ {H1 : Hp}, Ex H H1 → EvD K (tVar 0) (start ["value", "length", "k"] [.ref a]) H1 (.tuple (dIs ns)) := fun e => ed_var rfl (tupI_dp (ex_t e ht))
    refine q_when (b := (!true) || (PyData.eqv (.tuple (dIs ns)) (.tuple []) || !((ns.map fun n => decide (1 ≤ n)).all id))) (et_or (et_not (et_B (ev_isiT (a := a) (ev_var rfl) ht (by decide +kernel)))) fun _ => et_or (et_test (ev_eqD (ed (Ex.refl H)) ed_tup0 sh (by decide +kernel))) fun _ => et_not (et_B (ev_all (ep_mT (fun n => decide (1 ≤ n)) mon_int mon_bl (ep_tup (ev_var rfl) ht) (by omega) (fun _ => rfl) fun x n H1 e1 hn hx => ?_)))) (fun hb => ?_) (fun hb H1 e1 => ?_)
    · rw [show x = V.int n from hx]
      exact ev1 (ev_b2 (a := 1) (b := n) ev_c (ev_var rfl) trivial)
    · rw [eqf] at hb
      have : (ns.map fun n => decide (1 ≤ n)).all id = true := by
        rw [List.all_map, List.all_eq_true]
        intro n hn
        exact decide_eq_true (n2 n hn).1
      rw [this] at hb
      cases hb
    · have ht1 := ex_t e1 ht
      refine s_when (b := !(((List.range ((ns.length : Int) - 1).toNat).map fun (k : Nat) => decide (ns.getD k 0 ≤ ns.getD (k + 1) 0)).all id)) (et_not (et_B (ev_all (ep_mR1 (n := (ns.length : Int) - 1) (fun (k : Nat) => decide (ns.getD k 0 ≤ ns.getD (k + 1) 0)) mon_bl (ea_cons (ev_sub ?_ ev_c) ea_nil) ⟨by omega, by omega⟩ (fun _ => rfl) fun k H2 e2 hk => ?_)))) (fun hb => ?_) (fun hb H2 e2 => q H2 (e1.trans e2))
      · have z := ev_lenT (σ := start ["value", "length", "k"] [.ref a]) (ta := tVar 0) (ev_var rfl) ht1
        rw [List.length_map] at z
        exact z
      · refine ev1 (ev_le (ev_ixT (v := .int (ns.getD k 0)) (ev_var rfl) (ev_var rfl) (ex_t e2 ht1) (at_map (getD_some (by omega)))) (ev_ixT (v := .int (ns.getD (k + 1) 0)) (ev_var rfl) (ev_add (ev_var rfl) ev_c) (ex_t e2 ht1) ?_))
        exact at_map (ns := ns) (getD_some (i := k + 1) (by omega))
      · have : ((List.range ((ns.length : Int) - 1).toNat).map fun (k : Nat) => decide (ns.getD k 0 ≤ ns.getD (k + 1) 0)).all id = true := by
          rw [List.all_map, List.all_eq_true]
          intro k hk
          have := List.mem_range.mp hk
          exact decide_eq_true (n3 k (by omega))
        rw [this] at hb
        cases hb
theorem d_ring_length (T : At K mg "ring_length_count" sRingLength) (B : Tx mg) (DC : DCheck P w K mg base) (DW : DWays P w K mg base) (DL : Df P w K mg base "check_lengths" 3 ["value"] (spLens K)) :
    Df P w K mg base "ring_length_count" 4 ["many", "lengths"] (spRingLength K) := by
  refine df_of T scRingLength (fun _ _ _ _ _ _ us hl => match us, hl with | [_, _], _ => rfl) (fun vs H Q E h => ?_) (fun f cdv A outer s H vs Q E hr h => ?_)
  · obtain ⟨m, a, ns, rfl, _⟩ := h
    rfl
  · obtain ⟨m, a, ns, rfl, ⟨h1, h2⟩, ht, ok, q⟩ := h
    obtain ⟨n0, n1, n2, n3⟩ := id ok
    refine ⟨_, pss_cons (ps_expr (pe_df DC hr (pa_cons (pv 0) pa_nil)))
      (pss_cons (ps_expr (pe_df DL hr (pa_cons (pv 1) pa_nil)))
      (pss_cons (ps_set (i := 2) scRingLength.nd rfl (.inl rfl) (pe_callB (cr_sumT rfl) (by rfl) B.sum boot_sum (pa_cons (pv 1) pa_nil)))
      (pss_cons (ps_if (pt_cmpR op_gt (pv 2) (pv 0) (nomark _)) (pss_one (ps_ret pe_int)) pss_nil)
      (pss_cons (ps_set (i := 3) scRingLength.nd rfl (.inl rfl) (pe_callBfun cr_fact (by rfl) B.factorial (pa_cons (pv 2) pa_nil)))
      (pss_cons (ps_for PassesOwn.never rfl (pi_enumT (by rfl) B.enumerate (pa_cons (pv 1) pa_nil)) (pg_tup rfl (pgs_cons (pg_name (i := 4) scRingLength.nd rfl (.inl rfl)) (pgs_cons (pg_name (i := 5) scRingLength.nd rfl (.inl rfl)) pgs_nil)))
        (pss_one (ps_aug (i := 3) scRingLength.nd rfl (.inl rfl) (pe_op op_mul (pv 5) (pe_op op_add (pe_cnt (pe_slice sl_cut (pv 1) po_none (po_some (pv 4))) (pv 5)) pe_int)) iop_fdiv)))
      (pss_one (ps_ret (pe_op op_mul (pv 3) (pe_df DW hr (pa_cons (pv 0) (pa_cons (pv 2) pa_nil))))))))))), ?_⟩
    refine q_drop (ev_n1 (a := m) (ev_var rfl) ⟨h1, by omega⟩) fun H1 e1 => ?_
    refine q_drop (ev_nL (a := a) (ev_var rfl) (ex_t e1 ht) ok) fun H2 e2 => ?_
    have ht2 := ex_t (e1.trans e2) ht
    refine q_asg (ev_sumT (a := a) (ev_var rfl) ht2) fun H3 e3 => ?_
    have e03 := (e1.trans e2).trans e3
    refine q_when (b := decide (m < ns.sum)) (et_test (ev_gt (ev_var rfl) (ev_var rfl))) (fun hb H4 e4 => ?_) (fun hb H4 e4 => ?_)
    · refine s_ret (v := .int (ringLength m ns)) ?_ fun H5 e5 => q H5 ((e03.trans e4).trans e5)
      unfold ringLength
      rw [if_pos (of_decide_eq_true hb)]
      exact ev_c
    · have hle : ¬ m < ns.sum := of_decide_eq_false hb
      have hs0 := sum_ge n2
      refine q_asg (v := .int (rlS ns 0)) (ev_fact (ev_var rfl) ⟨by omega, by omega⟩) fun H5 e5 => ?_
      have e05 := (e03.trans e4).trans e5
      refine q_forEnT (i := 4) (j := 5) (a := a) (ev_var rfl) (ex_t e05 ht) (fun k σ' H' => ∃ y4 y5, σ' = [some (.int m), some (.ref a), some (.int ns.sum), some (.int (rlS ns k)), y4, y5] ∧ Ex H H') (fun H6 e6 => ⟨_, _, rfl, e05.trans e6⟩) (fun k σ' H' hk hp => ?_) (fun k x T σ' H' hx hp nT => ?_) (fun σ' H' hp => ?_)
      · obtain ⟨y4, y5, _, e⟩ := hp
        exact ex_t e ht
      · obtain ⟨y4, y5, rfl, e⟩ := hp
        have hkl : k < ns.length := by
          have := (List.getElem?_eq_some_iff.mp hx).1
          rw [List.length_map] at this
          exact this
        have ex : x = .int (ns.getD k 0) := by
          rw [List.getElem?_map, getD_some hkl] at hx
          exact (Option.some.inj hx).symm
        subst ex
        have eT : Ex H' (upd H' T (.tup [.int (k : Int), .int (ns.getD k 0)])) := Ex.new nT
        have hm := getD_mem hkl
        have b1 := n2 _ hm
        have b2 := sum_mem_le n2 _ hm
        have b3 : (ns.take k).count (ns.getD k 0) ≤ 10 := Nat.le_trans List.count_le_length (by rw [List.length_take]; omega)
        have hd : CDiv (rlS ns k) (rlD ns k) := by
          have u1 : (1 : Int) ≤ (((ns.take k).count (ns.getD k 0) : Nat) : Int) + 1 := by omega
          have u2 : (((ns.take k).count (ns.getD k 0) : Nat) : Int) + 1 ≤ 11 := by omega
          unfold rlD
          constructor
          · exact Int.mul_pos (by omega) (by omega)
          · have := Int.mul_le_mul b1.2 u2 (by omega) (by omega)
            omega
        refine ⟨.int (rlS ns k), rfl, ?_⟩
        refine ev_mul (a := ns.getD k 0) (b := (((ns.take k).count (ns.getD k 0) : Nat) : Int) + 1) (ev_var rfl) (ev_add (ev_cnt (a := a) (ns := ns) (k := k) (n := ns.getD k 0) (ev_var rfl) (ev_var rfl) (ev_var rfl) (ex_t (e.trans eT) ht) hkl) ev_c) (.inl ⟨by omega, by omega⟩) _ (Ex.refl _) _ fun H6 e6 => ?_
        exact ⟨rlS ns k, rlD ns k, rfl, rfl, hd, ⟨_, _, rfl, (e.trans eT).trans e6⟩⟩
      · obtain ⟨y4, y5, rfl, e⟩ := hp
        rw [List.length_map]
        refine s_ret (v := .int (ringLength m ns)) ?_ fun H6 e6 => q H6 (e.trans e6)
        unfold ringLength
        rw [if_neg hle]
        exact ev_mul (ev_var rfl) (ev_c2 (ev_var rfl) (ev_var rfl) ⟨by omega, by omega, by omega, by omega⟩) (.inr (ringWays_lt (by omega) (by omega) (by omega) (by omega)))
end
end K54
/-! K54F6: rows_by_period, period_counts: tables by ints. -/
namespace K54
open PySem PySem.Spec PyProof.Rows L2 Evl

abbrev sByPeriod : Stmt := topS 26
abbrev sPeriods : Stmt := topS 27
theorem scByPeriod : FnScope ["most", "found", "places", "here", "length", "ways", "period", "count", "longer"] ["most"] (defScope sByPeriod) := ⟨rfl, rfl, rfl, by decide +kernel, rfl, by decide +kernel, by decide +kernel⟩
theorem scPeriods : FnScope ["many", "found", "places", "here", "period", "count"] ["many"] (defScope sPeriods) := ⟨rfl, rfl, rfl, by decide +kernel, rfl, by decide +kernel, by decide +kernel⟩
theorem un1 {k : Nat} {A : Around} (r : Room k A) : A.units + 1 < cLine := by have := r.units; omega

/-! ### tables of counts -/
section
variable {κ : Type} [DecidableEq κ]
def hasA (kvs : List (κ × Int)) (k : κ) : Bool := kvs.any fun e => decide (e.1 = k)
def putA (kvs : List (κ × Int)) (k : κ) (v : Int) : List (κ × Int) := if hasA kvs k = true then kvs.map fun e => if e.1 = k then (e.1, v) else e else kvs ++ [(k, v)]
def getA (kvs : List (κ × Int)) (k : κ) : Int := ((kvs.find? fun e => decide (e.1 = k)).map (·.2)).getD 0
def addA (kvs : List (κ × Int)) (k : κ) (n : Int) : List (κ × Int) := putA kvs k (getA kvs k + n)
theorem addA_len (kvs : List (κ × Int)) (k : κ) (n : Int) : (addA kvs k n).length ≤ kvs.length + 1 := by
  unfold addA putA
  split
  · rw [List.length_map]; omega
  · rw [List.length_append]; exact Nat.le_refl _
variable {ι : Type} [DecidableEq ι] {f : κ → ι}
theorem putK_A (hf : ∀ a b, f a = f b → a = b) (kvs : List (κ × Int)) (k : κ) (v : Int) : putK (kvs.map fun e => (f e.1, V.int e.2)) (f k) (.int v) = (putA kvs k v).map fun e => (f e.1, V.int e.2) := by
  have q : ∀ e : κ × Int, decide (f e.1 = f k) = decide (e.1 = k) := fun e => by
    by_cases h : e.1 = k
    · rw [h]; simp
    · rw [decide_eq_false h, decide_eq_false fun z => h (hf _ _ z)]
  have a : ((kvs.map fun e => (f e.1, V.int e.2)).any fun kv => decide (kv.1 = f k)) = hasA kvs k := by
    unfold hasA
    rw [List.any_map]
    exact congrArg (fun g => List.any kvs g) (funext q)
  unfold putK putA
  rw [a]
  split
  · rw [List.map_map, List.map_map]
    refine List.map_congr_left fun e _ => ?_
    show (if f e.1 = f k then (f e.1, V.int v) else (f e.1, V.int e.2)) = _
    by_cases h : e.1 = k
    · rw [if_pos (by rw [h])]
      show _ = (fun e : κ × Int => (f e.1, V.int e.2)) (if e.1 = k then (e.1, v) else e)
      rw [if_pos h]
    · rw [if_neg fun z => h (hf _ _ z)]
      show _ = (fun e : κ × Int => (f e.1, V.int e.2)) (if e.1 = k then (e.1, v) else e)
      rw [if_neg h]
  · rw [List.map_append]
    rfl
theorem valV_A (hf : ∀ a b, f a = f b → a = b) (kvs : List (κ × Int)) (k : κ) : (valV (kvs.map fun e => (f e.1, V.int e.2)) (f k)).getD (.int 0) = .int (getA kvs k) := by
  unfold getA
  induction kvs with
  | nil => rfl
  | cons e r ih =>
    rw [List.map_cons, List.find?_cons]
    by_cases h : e.1 = k
    · rw [valV_pos (by rw [h]), decide_eq_true h]
      rfl
    · rw [valV_neg fun z => h (hf _ _ z), decide_eq_false h]
      exact ih
end
theorem inl_inj : ∀ a b : Int, (Sum.inl a : Key) = Sum.inl b → a = b := fun a b h => by injection h
theorem inls_inj : ∀ a b : List Int, (a.map Sum.inl : List Key) = b.map Sum.inl → a = b
  | [], [], _ => rfl
  | [], _ :: _, h => nomatch h
  | _ :: _, [], h => nomatch h
  | x :: a, y :: b, h => by
    rw [List.map_cons, List.map_cons] at h
    injection h with h1 h2
    rw [inl_inj x y h1, inls_inj a b h2]

/-! ### what the defs count -/
def rpWays (i j : Nat) : Int := PySem.W.mcComb (1 + (i : Int) - 1) (1 + (j : Int) - 1) * fac (1 + (j : Int) - 1)
theorem rpWays_small : ∀ i : Nat, i < 6 → ∀ j : Nat, j < 6 → -(2 ^ 64) < rpWays i j ∧ rpWays i j < 2 ^ 64 := by decide +kernel
def rpStep (w n : Int) (acc : List (Int × Int)) (e : Int × Int) : List (Int × Int) := addA acc (e.1 * n / ((Nat.gcd e.1.natAbs n.natAbs : Nat) : Int)) (w * e.2)
def rpHere (rows : List (List (Int × Int))) (i : Nat) : Nat → List (Int × Int)
  | 0 => []
  | j + 1 => (rows.getD (i - j) []).foldl (rpStep (rpWays i j) (1 + (j : Int))) (rpHere rows i j)
def rpS : Nat → List (List (Int × Int))
  | 0 => [[(1, 1)]]
  | i + 1 => rpS i ++ [rpHere (rpS i) i (1 + (i : Int) + 1 - 1).toNat]
theorem rpS_length : ∀ i, (rpS i).length = i + 1
  | 0 => rfl
  | i + 1 => by
    show (rpS i ++ [_]).length = _
    rw [List.length_append, rpS_length i]
    rfl
theorem rpFold_len (w n : Int) : ∀ (l acc : List (Int × Int)), (l.foldl (rpStep w n) acc).length ≤ acc.length + l.length
  | [], acc => Nat.le_refl _
  | e :: l, acc => by
    have h1 := rpFold_len w n l (rpStep w n acc e)
    have h2 := addA_len acc (e.1 * n / ((Nat.gcd e.1.natAbs n.natAbs : Nat) : Int)) (w * e.2)
    rw [List.foldl_cons, List.length_cons]
    have h3 : (rpStep w n acc e).length ≤ acc.length + 1 := h2
    omega
theorem rpRow_small : ∀ i : Nat, i < 6 → ∀ k : Nat, k < 7 → ((rpS i).getD k []).length ≤ 20 := by decide +kernel
theorem rpHere_len (i : Nat) (hi : i < 6) : ∀ j, (rpHere (rpS i) i j).length ≤ 20 * j
  | 0 => Nat.le_refl _
  | j + 1 => by
    have h1 := rpFold_len (rpWays i j) (1 + (j : Int)) ((rpS i).getD (i - j) []) (rpHere (rpS i) i j)
    have h2 := rpHere_len i hi j
    have h3 := rpRow_small i hi (i - j) (by omega)
    show ((List.getD (rpS i) (i - j) []).foldl (rpStep (rpWays i j) (1 + (j : Int))) (rpHere (rpS i) i j)).length ≤ _
    omega
def pdStep (ways : Int) (acc : List (Int × Int)) (e : Int × Int) : List (Int × Int) := addA acc e.1 (e.2 * ways)
def pdS (m : Int) : Nat → List (Int × Int)
  | 0 => []
  | i + 1 => if i = 0 then [] else ((rpS m.toNat).getD i []).foldl (pdStep (ringWays m i)) (pdS m i)
def periodCounts (m : Int) : List (Int × Int) := pdS m (m.toNat + 1)

/-! ### heaps -/
/-- a list at a of new dicts -/
def RowsAt (B H' : Hp) (a : Addr) (rows : List (List (Int × Int))) : Prop := ∃ ds : List Addr, H' a = some (.lst (ds.map V.ref)) ∧ Paired (fun d r => B d = none ∧ H' d = some (.dK (r.map entI))) ds rows
theorem paired_get {α β : Type} {F : α → β → Prop} : ∀ {xs : List α} {as : List β} {i : Nat} {b : β}, Paired F xs as → as[i]? = some b → ∃ x, xs[i]? = some x ∧ F x b
  | _, _, i, x, .nil, h => by simp at h
  | _, _, 0, x, .cons a _, h => by
    simp only [List.getElem?_cons_zero, Option.some.injEq] at h
    subst h
    exact ⟨_, rfl, a⟩
  | _, _, i + 1, x, .cons _ b, h => by
    simp only [List.getElem?_cons_succ] at h
    obtain ⟨d, h1, h2⟩ := paired_get b h
    exact ⟨d, by simpa using h1, h2⟩
theorem paired_all {α β : Type} {F G : α → β → Prop} (h : ∀ a b, F a b → G a b) : ∀ {xs : List α} {ys : List β}, Paired F xs ys → Paired G xs ys
  | _, _, .nil => .nil
  | _, _, .cons a r => .cons (h _ _ a) (paired_all h r)
theorem paired_snoc {α β : Type} {F : α → β → Prop} {x : α} {y : β} : ∀ {xs : List α} {ys : List β}, Paired F xs ys → F x y → Paired F (xs ++ [x]) (ys ++ [y])
  | _, _, .nil, h => .cons h .nil
  | _, _, .cons a r, h => .cons a (paired_snoc r h)
theorem RowsAt.up {B H H' : Hp} {a : Addr} {rows : List (List (Int × Int))} (r : RowsAt B H a rows) (e : Ex H H') : RowsAt B H' a rows := by
  obtain ⟨ds, h1, h2⟩ := r
  exact ⟨ds, e a _ h1, paired_all (fun d r ⟨x, y⟩ => ⟨x, e d _ y⟩) h2⟩
/-- a thing that stood, locked, and again as it was -/
theorem ex_lock {H H' : Hp} {d : Addr} {x : HO} (e : Ex H H') : Ex (upd H d x) (upd H' d x) := fun b o h => by
  by_cases hb : b = d
  · rw [hb, upd_same] at h ⊢
    exact h
  · rw [upd_ne hb] at h ⊢
    exact e b o h
theorem ex_unlock {H H' : Hp} {d : Addr} {x u : HO} (e : Ex (upd H d x) H') (h : H d = some u) : Ex H (upd H' d u) := fun b o hb => by
  by_cases z : b = d
  · rw [z] at hb ⊢
    rw [upd_same, ← h]
    exact hb
  · rw [upd_ne z]
    exact e b o (by rw [upd_ne z]; exact hb)
def spRows : Sp := fun vs H Q _ => ∃ m, vs = [V.int m] ∧ Pm m ∧ ∀ a H', H a = none → Ex H H' → RowsAt H H' a (rpS m.toNat) → Q (.ref a) H'
/-- a new list of pairs -/
def spPeriods (K : PySem.W.Frag) : Sp := fun vs H Q _ => ∃ m, vs = [V.int m] ∧ Pm m ∧ RetF K (dle ((periodCounts m).map datI)) H H Q
section
variable {K : PySem.W.Frag} {σ : L2.St} {H : Hp} {ta tb tk te : TE} {D : Ends} {tz : TS}
/-- d.get(k, 0) -/
theorem ev_getK {a : Addr} {kvs : List (Int × Int)} {k : Int} (h : Ev ta σ H (.ref a)) (hk : Ev tk σ H (.int k)) (ha : H a = some (.dK (kvs.map entI))) : Ev (tDGet2 ta tk (tC (.int 0))) σ H (.int (getA kvs k)) := fun H1 e Q q =>
  h H1 e _ fun H2 e2 => ⟨a, rfl, .inl ⟨_, .inl ((e.trans e2) a _ ha)⟩, hk H2 (e.trans e2) _ fun H3 e3 => ⟨_, DGet.k (k := Sum.inl k) (((e.trans e2).trans e3) a _ ha), by
    rw [valV_A inl_inj]
    exact q H3 (e2.trans e3)⟩⟩
/-- d[k] = n -/
theorem s_putK {a : Addr} {kvs : List (Int × Int)} {k n : Int} (hv : Ev te σ H (.int n)) (h : Ev ta σ H (.ref a)) (hk : Ev tk σ H (.int k)) (ha : H a = some (.dK (kvs.map entI))) (hl : kvs.length ≤ 10000)
    (q : ∀ H1, Ex H H1 → D.nx σ (upd H1 a (.dK ((putA kvs k n).map entI)))) : sDPut ta tk te D σ H :=
  hv H (Ex.refl H) _ fun H1 e1 => h H1 e1 _ fun H2 e2 => hk H2 (e1.trans e2) _ fun H3 e3 => ⟨a, _, rfl, DPut.k (k := Sum.inl k) (((e1.trans e2).trans e3) a _ ha) (by rw [List.length_map]; exact sz_lt (by omega)), by
    rw [putK_A inl_inj]
    exact q H3 ((e1.trans e2).trans e3)⟩
theorem ev_gcd {a b : Int} (h : Ev ta σ H (.int a)) (h2 : Ev tb σ H (.int b)) : Ev (tCB rGcd (tCons ta (tCons tb tNil))) σ H (.int ((Nat.gcd a.natAbs b.natAbs : Nat) : Int)) := fun H1 e Q q =>
  h H1 e _ fun H2 e2 => h2 H2 (e.trans e2) _ fun H3 e3 => ⟨a, b, rfl, q H3 (e2.trans e3)⟩
/-- for k, v in a locked dict's items -/
theorem s_items {i j : Nat} {d : Addr} {od : Obj} {kvs : List (Int × Int)} {tu : TS} (h : Ev ta σ H (.ref d)) (hd : H d = some (.frz od (.dK (kvs.map entI)))) (Pv : Nat → L2.St → Hp → Prop) (h0 : ∀ H1, Ex H H1 → Pv 0 σ H1) (hG : ∀ k σ' H', k ≤ kvs.length → Pv k σ' H' → H' d = some (.frz od (.dK (kvs.map entI))))
    (hs : ∀ (k : Nat) (e : Int × Int) T σ' H', kvs[k]? = some e → Pv k σ' H' → H' T = none → tu { D with nx := Pv (k + 1), ct := Pv (k + 1), bk := D.nx } ((σ'.set i (some (.int e.1))).set j (some (.int e.2))) (upd H' T (.tup [.int e.1, .int e.2]))) (hq : ∀ σ' H', Pv kvs.length σ' H' → D.nx σ' H') :
    tFor (iItems ta) (gTup K 2 (gCons (gName i) (gCons (gName j) gNil))) tu D σ H := by
  refine h H (Ex.refl H) _ fun H1 e1 => ⟨d, od, _, rfl, e1 d _ hd, ?_⟩
  have w := walk_items (d := d) (o := od) (kvs := kvs.map entI)
  rw [List.length_map] at w
  refine for_it (D := D) w Pv (h0 H1 e1) hG (fun k v σ' H' H2 hk p y => ?_) hq
  obtain ⟨T, x1, x2, rfl, nT, rfl, e2, e3⟩ := y
  have hg : kvs[k]? = some kvs[k] := List.getElem?_eq_getElem hk
  have e2' : ((kvs.map entI)[k]?).map (fun kv => kV kv.1) = some x1 := e2
  have e3' : ((kvs.map entI)[k]?).map Prod.snd = some x2 := e3
  rw [List.getElem?_map, hg] at e2' e3'
  cases e2'
  cases e3'
  exact g_pair (hs k kvs[k] T σ' H' hg p nT)
end
theorem foldl_take {α β : Type} (f : β → α → β) (b : β) {l : List α} {i : Nat} {a : α} (h : l[i]? = some a) : (l.take (i + 1)).foldl f b = f ((l.take i).foldl f b) a := by
  rw [List.take_add_one, h, Option.toList_some, List.foldl_append]
  rfl
theorem getD_get {α : Type} {l : List α} {i : Nat} {x : α} (h : i < l.length) : l[i]? = some (l.getD i x) := by
  rw [List.getD_eq_getElem?_getD, List.getElem?_eq_getElem h]
  rfl

section
variable {P : Program} {w : World} {K : PySem.W.Frag} {mg : Str → Option Value} {base : Heap}
theorem d_byPeriod (T : At K mg "rows_by_period" sByPeriod) (B : Tx mg) : Df P w K mg base "rows_by_period" 1 ["most"] spRows := by
  refine df_of T scByPeriod (fun _ _ _ _ _ _ us hl => match us, hl with | [_], _ => rfl) (fun vs H Q E h => ?_) (fun f cdv A outer s H vs Q E hr h => ?_)
  · obtain ⟨a, rfl, _⟩ := h
    rfl
  · obtain ⟨m, rfl, ⟨h1, h2⟩, q⟩ := h
    refine ⟨_, pss_cons (ps_set (i := 1) scByPeriod.nd rfl (.inl rfl) (pe_lst (pa_cons (pe_disp (pps_cons pe_int pe_int pps_nil) rfl rfl (by decide) (by decide)) pa_nil)))
      (pss_cons (ps_for PassesOwn.never rfl (pi_range2 (by rfl) B.range (pa_cons pe_int (pa_cons (pe_op op_add (pv 0) pe_int) pa_nil))) (pg_name (i := 2) scByPeriod.nd rfl (.inl rfl))
        (pss_cons (ps_set (i := 3) scByPeriod.nd rfl (.inl rfl) pe_dnewK)
        (pss_cons (ps_for PassesOwn.never rfl (pi_range2 (by rfl) B.range (pa_cons pe_int (pa_cons (pe_op op_add (pv 2) pe_int) pa_nil))) (pg_name (i := 4) scByPeriod.nd rfl (.inl rfl))
          (pss_cons (ps_set (i := 5) scByPeriod.nd rfl (.inl rfl) (pe_op op_mul (pe_callBfun cr_comb (by rfl) B.comb (pa_cons (pe_op op_sub (pv 2) pe_int) (pa_cons (pe_op op_sub (pv 4) pe_int) pa_nil))) (pe_callBfun cr_fact (by rfl) B.factorial (pa_cons (pe_op op_sub (pv 4) pe_int) pa_nil))))
          (pss_one (ps_lock (ps_for PassesOwn.never rfl (pi_items (pe_ix ix_list (pv 1) (pe_op op_sub (pv 2) (pv 4)) (fun _ _ => rfl))) (pg_tup rfl (pgs_cons (pg_name (i := 6) scByPeriod.nd rfl (.inl rfl)) (pgs_cons (pg_name (i := 7) scByPeriod.nd rfl (.inl rfl)) pgs_nil)))
            (pss_cons (ps_set (i := 8) scByPeriod.nd rfl (.inl rfl) (pe_op op_fdiv (pe_op op_mul (pv 6) (pv 4)) (pe_callBfun cr_gcd (by rfl) B.gcd (pa_cons (pv 6) (pa_cons (pv 4) pa_nil)))))
            (pss_one (ps_dput (un1 hr) (pv 3) (pv 8) (pe_op op_add (pe_dget2 (un1 hr) (pv 3) (pv 8) pe_int ⟨rfl, rfl, rfl, rfl⟩) (pe_op op_mul (pv 5) (pv 7))) rfl))))))))
        (pss_one (ps_expr (pe_bm PySem.F.plainAttrs_list PySem.F.slot_list_append PySem.F.type_list_append mt_append (pv 1) (pa_cons (pv 3) pa_nil)))))))
      (pss_one (ps_ret (pv 1)))), ?_⟩
    refine fun d0 hd0 => ⟨upd_same, [(Sum.inl 1, .int 1)], rfl, by decide, sz_of (Nat.le_succ_of_le (Nat.zero_le 99998) |> fun _ => by show 1 ≤ 100000; omega), fun a ha => ?_⟩
    have hd1 : upd (upd H d0 (.dK [])) d0 (.dK (mergeK [] [(Sum.inl 1, .int 1)])) = upd H d0 (.dK ([((1 : Int), (1 : Int))].map entI)) := by
      funext b
      by_cases hb : b = d0
      · rw [hb, upd_same, upd_same]
        rfl
      · rw [upd_ne hb, upd_ne hb, upd_ne hb]
    rw [hd1] at ha ⊢
    have na : H a = none := fresh_back (Ex.new hd0) ha
    have e0 : Ex H (upd (upd H d0 (.dK ([((1 : Int), (1 : Int))].map entI))) a (.lst [.ref d0])) := (Ex.new hd0).trans (Ex.new ha)
    have r0 : RowsAt H (upd (upd H d0 (.dK ([((1 : Int), (1 : Int))].map entI))) a (.lst [.ref d0])) a (rpS 0) := by
      refine ⟨[d0], upd_same, .cons ⟨hd0, ?_⟩ .nil⟩
      rw [upd_ne (ne_of_none (h := upd_same) ha), upd_same]
    refine q_forR2 (lo := 1) (n := m + 1) (ea_cons ev_c (ea_cons (ev_add (ev_var rfl) ev_c) ea_nil)) ⟨by omega, by omega, by omega, by omega⟩
      (fun i σ' H' => ∃ y2 y3 y4 y5 y6 y7 y8, σ' = [some (.int m), some (.ref a), y2, y3, y4, y5, y6, y7, y8] ∧ Ex H H' ∧ RowsAt H H' a (rpS i))
      (fun H3 e3 => ⟨_, _, _, _, _, _, _, rfl, e0.trans e3, r0.up e3⟩) (fun i σ' H' hi hp => ?_) (fun σ' H' hp => ?_)
    · obtain ⟨y2, y3, y4, y5, y6, y7, y8, rfl, e, rw'⟩ := hp
      have hi5 : i < 5 := by omega
      refine fun h hh => ?_
      have nh : H h = none := fresh_back e hh
      refine q_forR2 (lo := 1) (n := 1 + (i : Int) + 1) (ea_cons ev_c (ea_cons (ev_add (ev_var rfl) ev_c) ea_nil)) ⟨by omega, by omega, by omega, by omega⟩
        (fun j σ'' H'' => ∃ z4 z5 z6 z7 z8, σ'' = [some (.int m), some (.ref a), some (.int (1 + (i : Int))), some (.ref h), z4, z5, z6, z7, z8] ∧ Ex H' H'' ∧ H'' h = some (.dK ((rpHere (rpS i) i j).map entI)))
        (fun H3 e3 => ⟨_, _, _, _, _, rfl, (Ex.new hh).trans e3, e3 h _ upd_same⟩) (fun j σ'' H'' hj hp => ?_) (fun σ'' H'' hp => ?_)
      · obtain ⟨z4, z5, z6, z7, z8, rfl, e4, hh4⟩ := hp
        refine q_asg (v := .int (rpWays i j)) (ev_mul (ev_comb (ev_sub (ev_var rfl) ev_c) (ev_sub (ev_var rfl) ev_c) ⟨by omega, by omega, by omega, by omega⟩) (ev_fact (ev_sub (ev_var rfl) ev_c) ⟨by omega, by omega⟩) (.inl ?_)) fun H5 e5 => ?_
        · have u1 : (1 + (i : Int) - 1) = (i : Int) := by omega
          have u2 : (1 + (j : Int) - 1) = (j : Int) := by omega
          rw [u1, u2]
          exact comb_lt (by omega) (by omega) (by omega) (by omega)
        · have e05 := e4.trans e5
          obtain ⟨ds, h3, h4⟩ := rw'
          have lr := rpS_length i
          have hjr : (rpS i)[i - j]? = some ((rpS i).getD (i - j) []) := getD_get (by omega)
          generalize hrow : (rpS i).getD (i - j) [] = row at hjr
          obtain ⟨d, hd, _, hd2⟩ := paired_get h4 hjr
          have had : a ≠ d := ne_of h3 hd2 (by intro z; cases z)
          have hhd : h ≠ d := (ne_of_none hd2 hh).symm
          have rl : row.length ≤ 20 := by
            rw [← hrow]
            exact rpRow_small i (by omega) (i - j) (by omega)
          have al := rpHere_len i (by omega) j
          refine ⟨d, .dK (row.map entI), e05 d _ hd2, trivial, fun od => ?_⟩
          have el0 : Ex (upd H' d (.frz od (.dK (row.map entI)))) (upd H5 d (.frz od (.dK (row.map entI)))) := ex_lock e05
          refine s_items (d := d) (od := od) (kvs := row) (ev_ixL (v := .ref d) (i := ((i - j : Nat) : Int)) (xs := ds.map V.ref) (ev_var rfl) (ev_is (ev_sub (a := 1 + (i : Int)) (b := 1 + (j : Int)) (ev_var rfl) (ev_var rfl)) (by congr 1; omega)) (sq_of ?_) ?_) upd_same
            (fun t σ3 H6 => ∃ u6 u7 u8, σ3 = [some (.int m), some (.ref a), some (.int (1 + (i : Int))), some (.ref h), some (.int (1 + (j : Int))), some (.int (rpWays i j)), u6, u7, u8] ∧ Ex (upd H' d (.frz od (.dK (row.map entI)))) H6 ∧ H6 h = some (.dK (((row.take t).foldl (rpStep (rpWays i j) (1 + (j : Int))) (rpHere (rpS i) i j)).map entI)))
            (fun H6 e6 => ⟨_, _, _, rfl, el0.trans e6, e6 h _ (by rw [upd_ne hhd]; exact e5 h _ hh4)⟩) (fun t σ3 H6 ht hp => ?_) (fun t en T σ3 H6 hen hp nT => ?_) (fun σ3 H6 hp => ?_)
          · rw [upd_ne had]
            exact e05 a _ h3
          · exact atI_nat (by rw [List.getElem?_map, hd]; rfl)
          · obtain ⟨u6, u7, u8, _, e6, _⟩ := hp
            exact e6 d _ upd_same
          · obtain ⟨u6, u7, u8, rfl, e6, hh6⟩ := hp
            have eT : Ex H6 (upd H6 T (.tup [.int en.1, .int en.2])) := Ex.new nT
            have gp : 0 < Nat.gcd en.1.natAbs (1 + (j : Int)).natAbs := Nat.gcd_pos_of_pos_right _ (by omega)
            have gl : Nat.gcd en.1.natAbs (1 + (j : Int)).natAbs ≤ (1 + (j : Int)).natAbs := Nat.gcd_le_right _ (by omega)
            have ln := rpFold_len (rpWays i j) (1 + (j : Int)) (row.take t) (rpHere (rpS i) i j)
            have lt := List.length_take_le' t row
            refine q_asg (v := .int (en.1 * (1 + (j : Int)) / ((Nat.gcd en.1.natAbs (1 + (j : Int)).natAbs : Nat) : Int))) (ev_fdiv (ev_mul (ev_var rfl) (ev_var rfl) (.inr ⟨by omega, by omega⟩)) (ev_gcd (ev_var rfl) (ev_var rfl)) ⟨by omega, by omega⟩) fun H7 e7 => ?_
            have hh7 := (eT.trans e7) h _ hh6
            refine s_putK (a := h) (n := _) (ev_add (ev_getK (ev_var rfl) (ev_var rfl) hh7) (ev_mul (a := rpWays i j) (b := en.2) (ev_var rfl) (ev_var rfl) (.inl (rpWays_small i (by omega) j (by omega))))) (ev_var rfl) (ev_var rfl) hh7 (by omega) fun H8 e8 => ⟨_, _, _, rfl, ?_, ?_⟩
            · exact (((e6.trans eT).trans e7).trans e8).mut (by rw [upd_ne hhd]; exact hh)
            · rw [upd_same, foldl_take _ _ hen]
              rfl
          · obtain ⟨u6, u7, u8, rfl, e6, hh6⟩ := hp
            refine ⟨e6 d _ upd_same, _, _, _, _, _, rfl, ex_unlock e6 hd2, ?_⟩
            rw [upd_ne hhd, hh6, List.take_of_length_le (Nat.le_refl _)]
            show _ = some (HO.dK ((((rpS i).getD (i - j) []).foldl (rpStep (rpWays i j) (1 + (j : Int))) (rpHere (rpS i) i j)).map entI))
            rw [hrow]
      · obtain ⟨z4, z5, z6, z7, z8, rfl, e4, hh4⟩ := hp
        obtain ⟨ds, h3, h4⟩ := rw'
        have lr := rpS_length i
        have ld : ds.length = (rpS i).length := Paired.length h4
        refine s_app (l := a) (xs := ds.map V.ref) (v := .ref h) (e4 a _ h3) (ev_var rfl) (ev_var rfl) (by rw [List.length_map]; omega) fun H5 e5 => ⟨_, _, _, _, _, _, _, rfl, ((e.trans e4).trans e5).mut na, ?_⟩
        refine ⟨ds ++ [h], by rw [upd_same, List.map_append]; rfl, paired_snoc (paired_all (fun d r z => ⟨z.1, by
          rw [upd_ne (ne_of z.2 h3 (by intro z; cases z))]
          exact (e4.trans e5) d _ z.2⟩) h4) ⟨nh, ?_⟩⟩
        · have h7 : h ≠ a := (ne_of_none h3 hh).symm
          rw [upd_ne h7]
          exact e5 h _ hh4
    · obtain ⟨y2, y3, y4, y5, y6, y7, y8, rfl, e, rw'⟩ := hp
      have em : (m + 1 - 1).toNat = m.toNat := by omega
      rw [em] at rw'
      exact s_ret (v := .ref a) (ev_var rfl) fun H3 e3 => q a H3 na (e.trans e3) (rw'.up e3)
end
end K54
/-! K54F7: period_counts. -/
namespace K54
open PySem PySem.Spec PyProof.Rows L2 Evl

/-- a new pair of ints -/
def PairP : Hp → V → (Int × Int) → Prop := fun H v e => ∃ t, v = .ref t ∧ H t = some (.tup [.int e.1, .int e.2])
theorem mon_pair : Mon PairP := fun _ _ _ _ e ⟨t, h1, h2⟩ => ⟨t, h1, e _ _ h2⟩
/-- without the one at f -/
def offH (H : Hp) (f : Addr) : Hp := fun b => if b = f then none else H b
theorem offH_same {H : Hp} {f : Addr} : offH H f f = none := if_pos rfl
theorem offH_ne {H : Hp} {f b : Addr} (h : b ≠ f) : offH H f b = H b := if_neg h
theorem ex_off {H : Hp} {f : Addr} : Ex (offH H f) H := fun b o h => by
  by_cases hb : b = f
  · rw [hb, offH_same] at h
    cases h
  · rw [offH_ne hb] at h
    exact h
theorem off_ex {H H' : Hp} {f : Addr} (e : Ex H H') (h : H f = none) : Ex H (offH H' f) := fun b o hb => by
  rw [offH_ne (ne_of_none hb h)]
  exact e b o hb
section
variable {K : PySem.W.Frag} {σ : L2.St} {H : Hp}
theorem ep_pair {ta tb : TE} {a b : Int} (h : Ev ta σ H (.int a)) (h2 : Ev tb σ H (.int b)) : EvP PairP (tTup (tCons ta (tCons tb tNil))) σ H (a, b) := fun H1 e Q q =>
  h H1 e _ fun H2 e2 => h2 H2 (e.trans e2) _ fun H3 e3 => ⟨by show 2 ≤ sizeLine; decide, fun p hp => q (.ref p) _ _ ((Gr.keep e (e2.trans e3)).lay (o := .tup [.int a, .int b]) hp) ⟨p, rfl, upd_same⟩⟩
/-- [(k, v) for k, v in d.items()], d locked -/
theorem lc_itemsP {ta te : TE} {i j : Nat} {vs : List Nat} {f : Addr} {od : Obj} {kvs : List (Int × Int)} {Q : VK} (h : Ev ta σ H (.ref f)) (hf : H f = some (.frz od (.dK (kvs.map entI)))) (hz : kvs.length ≤ 40000)
    (hw : ∀ x y, wipe (((wipe σ vs).set i (some x)).set j (some y)) vs = wipe σ vs)
    (he : ∀ (e : Int × Int) H1, Ex H H1 → EvP PairP te (((wipe σ vs).set i (some (.int e.1))).set j (some (.int e.2))) H1 e)
    (q : ∀ p acc H', H p = none → Ex H H' → H' p = some (.lst acc) → Paired (PairP H') acc kvs → Q (.ref p) H') :
    tLc (iItems ta) (gTup K 2 (gCons (gName i) (gCons (gName j) gNil))) tYes te vs σ H Q := by
  refine h H (Ex.refl H) _ fun H1 e1 => ⟨f, od, _, rfl, e1 f _ hf, fun D hD => ?_⟩
  have w := walk_items (d := f) (o := od) (kvs := kvs.map entI)
  rw [List.length_map] at w
  refine lc_it w (fun k H' => Cp PairP H H1 D (kvs.take k) H') (cp_first e1 hD) (fun k H' _ p => ?_) (fun k v H' H2 hk p y => ?_) (fun H' p => ?_)
  · obtain ⟨Hn, acc, g, _⟩ := p.ex
    exact g.new f _ (g.base f _ hf)
  · obtain ⟨T, x1, x2, rfl, nT, rfl, e2, e3⟩ := y
    have hg : kvs[k]? = some kvs[k] := List.getElem?_eq_getElem hk
    have e2' : ((kvs.map entI)[k]?).map (fun kv => kV kv.1) = some x1 := e2
    have e3' : ((kvs.map entI)[k]?).map Prod.snd = some x2 := e3
    rw [List.getElem?_map, hg] at e2' e3'
    cases e2'
    cases e3'
    have p2 : Cp PairP H H1 D (kvs.take k) (upd H' T (.tup [.int kvs[k].1, .int kvs[k].2])) := by
      obtain ⟨Hn, acc, g, nD, aD, pa⟩ := p.ex
      exact ⟨Hn, acc, g.more (Ex.new nT), nD, (Ex.new nT) D _ aD, pa⟩
    refine g_pair ⟨hw _ _, ?_⟩
    have z := cp_turn (b := true) (c := kvs[k]) (t := tYes) (te := te) mon_pair hD p2 (by have := List.length_take_le' k kvs; omega) (fun _ _ _ => et_yes) (fun _ Hn a _ => he kvs[k] Hn a)
    rw [List.take_add_one, hg, Option.toList_some]
    exact z
  · rw [List.take_of_length_le (Nat.le_refl _)] at p
    obtain ⟨Hn, acc, g, nD, aD, pa⟩ := p.ex
    exact q D acc H' (fresh_back e1 hD) (e1.trans g.all) aD (paired_up mon_pair g.new pa)
end
theorem pdFold_len (w : Int) : ∀ (l acc : List (Int × Int)), (l.foldl (pdStep w) acc).length ≤ acc.length + l.length
  | [], acc => Nat.le_refl _
  | e :: l, acc => by
    have h1 := pdFold_len w l (pdStep w acc e)
    have h2 := addA_len acc e.1 (e.2 * w)
    rw [List.foldl_cons, List.length_cons]
    have h3 : (pdStep w acc e).length ≤ acc.length + 1 := h2
    omega
theorem pdS_len (m : Int) (hm : m ≤ 5) : ∀ i : Nat, i < 7 → (pdS m i).length ≤ 20 * i
  | 0, _ => Nat.le_refl _
  | i + 1, hi => by
    have h2 := pdS_len m hm i (by omega)
    have h3 := rpRow_small m.toNat (by omega) i (by omega)
    have h1 := pdFold_len (ringWays m i) ((rpS m.toNat).getD i []) (pdS m i)
    show (if i = 0 then [] else ((rpS m.toNat).getD i []).foldl (pdStep (ringWays m i)) (pdS m i)).length ≤ _
    split
    · exact Nat.zero_le _
    · omega
section
variable {P : Program} {w : World} {K : PySem.W.Frag} {mg : Str → Option Value} {base : Heap}
theorem d_periods (T : At K mg "period_counts" sPeriods) (B : Tx mg) (DC : DCheck P w K mg base) (DW : DWays P w K mg base) (DR : Df P w K mg base "rows_by_period" 1 ["most"] spRows) :
    Df P w K mg base "period_counts" 4 ["many"] (spPeriods K) := by
  refine df_of T scPeriods (fun _ _ _ _ _ _ us hl => match us, hl with | [_], _ => rfl) (fun vs H Q E h => ?_) (fun f cdv A outer s H vs Q E hr h => ?_)
  · obtain ⟨a, rfl, _⟩ := h
    rfl
  · obtain ⟨m, rfl, ⟨h1, h2⟩, q⟩ := h
    refine ⟨_, pss_cons (ps_expr (pe_df DC hr (pa_cons (pv 0) pa_nil)))
      (pss_cons (ps_set (i := 1) scPeriods.nd rfl (.inl rfl) pe_dnewK)
      (pss_cons (ps_for PassesOwn.never rfl (pi_enum (by rfl) B.enumerate (pa_cons (pe_df DR (hr.mono (by decide)) (pa_cons (pv 0) pa_nil)) pa_nil)) (pg_tup rfl (pgs_cons (pg_name (i := 2) scPeriods.nd rfl (.inl rfl)) (pgs_cons (pg_name (i := 3) scPeriods.nd rfl (.inl rfl)) pgs_nil)))
        (pss_one (ps_if (pt_cmpR op_gt (pv 2) pe_int (nomark _)) (pss_one (ps_lock (ps_for PassesOwn.never rfl (pi_items (pv 3)) (pg_tup rfl (pgs_cons (pg_name (i := 4) scPeriods.nd rfl (.inl rfl)) (pgs_cons (pg_name (i := 5) scPeriods.nd rfl (.inl rfl)) pgs_nil)))
          (pss_one (ps_dput (un1 hr) (pv 1) (pv 4) (pe_op op_add (pe_dget2 (un1 hr) (pv 1) (pv 4) pe_int ⟨rfl, rfl, rfl, rfl⟩) (pe_op op_mul (pv 5) (pe_df DW hr (pa_cons (pv 0) (pa_cons (pv 2) pa_nil))))) rfl))))) pss_nil)))
      (pss_one (ps_ret (pe_callB (cr_sortD hr.units) (by rfl) B.sorted boot_sorted (pa_cons (pe_lock (pe_lc (own := [("period", 4), ("count", 5)]) (g := gTup K 2 (gCons (gName 4) (gCons (gName 5) gNil))) (tt := tYes) (by rfl) scPeriods.nd
          (pi_items (pv 1)) (blkOk_by (N := ["many", "found", "places", "here", "period", "count"]) (sc := defScope sPeriods) (by decide +kernel))
          (fun _ _ _ _ _ => pg_tup rfl (pgs_cons (pg_name (i := 4) scPeriods.nd rfl (Or.inl rfl)) (pgs_cons (pg_name (i := 5) scPeriods.nd rfl (Or.inl rfl)) pgs_nil))) (fun _ _ _ _ _ => pts_nil)
          (fun _ _ _ _ _ => pe_tup (pa_cons (pv 4) (pa_cons (pv 5) pa_nil))))) pa_nil)))))), ?_⟩
    refine q_drop (ev_n1 (a := m) (ev_var rfl) ⟨h1, by omega⟩) fun Hc ec => ?_
    refine fun fd hfd => ?_
    refine (ev_var rfl : Ev (tVar 0) _ (upd Hc fd (.dK [])) (.int m)) _ (Ex.refl _) _ fun H1 e1 => ⟨m, rfl, ⟨h1, h2⟩, fun a H2 na e2 ra => ?_⟩
    obtain ⟨ds, ha, hds⟩ := ra
    have hf1 : H1 fd = some (.dK []) := e1 fd _ upd_same
    have hf2 : H2 fd = some (.dK []) := e2 fd _ hf1
    have naf : a ≠ fd := (ne_of_none hf1 na).symm
    have eB : Ex Hc (offH H2 fd) := off_ex (((Ex.new hfd).trans e1).trans e2) hfd
    have nB : offH H2 fd fd = none := offH_same
    have hB : Paired (fun d r => offH H2 fd d = some (.dK (r.map entI))) ds (rpS m.toNat) := paired_all (fun d r z => by
      rw [offH_ne (ne_of_none hf1 z.1).symm]
      exact z.2) hds
    have aB : offH H2 fd a = some (.lst (ds.map V.ref)) := by
      rw [offH_ne naf]
      exact ha
    have eB2 : Ex (offH H2 fd) H2 := ex_off
    generalize offH H2 fd = B2 at eB nB hB aB eB2
    have lds : ds.length = m.toNat + 1 := by
      rw [Paired.length hB, rpS_length]
    refine ⟨a, ds.map V.ref, rfl, sq_of ha, for_it (walk_enum (xs := ds.map V.ref)) (fun k σ' H' => ∃ y2 y3 y4 y5, σ' = [some (.int m), some (.ref fd), y2, y3, y4, y5] ∧ Ex B2 H' ∧ H' fd = some (.dK ((pdS m k).map entI)))
      ⟨_, _, _, _, rfl, eB2, hf2⟩ (fun k σ' H' _ hp => ?_) (fun k v σ' H' H3 hk hp y => ?_) (fun σ' H' hp => ?_)⟩
    · obtain ⟨_, _, _, _, _, e, _⟩ := hp
      exact sq_of (e a _ aB)
    · obtain ⟨y2, y3, y4, y5, rfl, e, hf⟩ := hp
      obtain ⟨T, x1, x2, rfl, nT, rfl, ex1, ex2⟩ := y
      cases ex1
      rw [List.length_map] at hk
      have ex2' : (ds.map V.ref)[k]? = some x2 := ex2
      have hdk : ds[k]? = some ds[k] := List.getElem?_eq_getElem hk
      rw [List.getElem?_map, hdk] at ex2'
      cases ex2'
      have eT : Ex H' (upd H' T (.tup [.int (k : Int), .ref ds[k]])) := Ex.new nT
      refine g_pair ?_
      obtain ⟨row, hrow, hd2⟩ := (show ∃ row, (rpS m.toNat)[k]? = some row ∧ B2 ds[k] = some (.dK (row.map entI)) from by
        have lr := rpS_length m.toNat
        have z : (rpS m.toNat)[k]? = some ((rpS m.toNat).getD k []) := getD_get (by omega)
        obtain ⟨d', hd', hb'⟩ := paired_get hB z
        rw [hdk] at hd'
        cases hd'
        exact ⟨_, z, hb'⟩)
      generalize ds[k] = d at hd2 eT
      have hhd : fd ≠ d := (ne_of_none hd2 nB).symm
      have erow : (rpS m.toNat).getD k [] = row := by
        rw [List.getD_eq_getElem?_getD, hrow]
        rfl
      refine s_when (b := decide ((0 : Int) < (k : Int))) (et_test (ev_gt (ev_var rfl) ev_c)) (fun hb H5 e5 => ?_) (fun hb H5 e5 => ⟨_, _, _, _, rfl, (e.trans eT).trans e5, ?_⟩)
      · have hk0 : k ≠ 0 := by
          have := of_decide_eq_true hb
          omega
        have e05 := (e.trans eT).trans e5
        have hf5 := (eT.trans e5) fd _ hf
        refine ⟨d, .dK (row.map entI), e05 d _ hd2, trivial, fun od => ?_⟩
        have el0 : Ex (upd B2 d (.frz od (.dK (row.map entI)))) (upd H5 d (.frz od (.dK (row.map entI)))) := ex_lock e05
        refine s_items (d := d) (od := od) (kvs := row) (ev_var rfl) upd_same
          (fun t σ3 H6 => ∃ u4 u5, σ3 = [some (.int m), some (.ref fd), some (.int (k : Int)), some (.ref d), u4, u5] ∧ Ex (upd B2 d (.frz od (.dK (row.map entI)))) H6 ∧ H6 fd = some (.dK (((row.take t).foldl (pdStep (ringWays m k)) (pdS m k)).map entI)))
          (fun H6 e6 => ⟨_, _, rfl, el0.trans e6, e6 fd _ (by rw [upd_ne hhd]; exact hf5)⟩) (fun t σ3 H6 ht hp => ?_) (fun t en T σ3 H6 hen hp nT => ?_) (fun σ3 H6 hp => ?_)
        · obtain ⟨u4, u5, _, e6, _⟩ := hp
          exact e6 d _ upd_same
        · obtain ⟨u4, u5, rfl, e6, hh6⟩ := hp
          have eT : Ex H6 (upd H6 T (.tup [.int en.1, .int en.2])) := Ex.new nT
          have ln := pdFold_len (ringWays m k) (row.take t) (pdS m k)
          have lt := List.length_take_le' t row
          have l1 := pdS_len m h2 k (by omega)
          have l2 := rpRow_small m.toNat (by omega) k (by omega)
          rw [erow] at l2
          have hh7 := eT fd _ hh6
          refine s_putK (a := fd) (ev_add (ev_getK (ev_var rfl) (ev_var rfl) hh7) (ev_mul (a := en.2) (b := ringWays m k) (ev_var rfl) (ev_c2 (ev_var rfl) (ev_var rfl) ⟨by omega, by omega, by omega, by omega⟩) (.inr (ringWays_lt (by omega) (by omega) (by omega) (by omega))))) (ev_var rfl) (ev_var rfl) hh7 (by omega) fun H8 e8 => ⟨_, _, rfl, ?_, ?_⟩
          · exact ((e6.trans eT).trans e8).mut (by rw [upd_ne hhd]; exact nB)
          · rw [upd_same, foldl_take _ _ hen]
            rfl
        · obtain ⟨u4, u5, rfl, e6, hh6⟩ := hp
          refine ⟨e6 d _ upd_same, _, _, _, _, rfl, ex_unlock e6 hd2, ?_⟩
          rw [upd_ne hhd, hh6, List.take_of_length_le (Nat.le_refl _)]
          show _ = some (HO.dK ((if k = 0 then [] else ((rpS m.toNat).getD k []).foldl (pdStep (ringWays m k)) (pdS m k)).map entI))
          rw [if_neg hk0, erow]
      · have hk0 : k = 0 := by
          have := of_decide_eq_false hb
          omega
        subst hk0
        exact (eT.trans e5) fd _ hf
    · obtain ⟨y2, y3, y4, y5, rfl, e, hf⟩ := hp
      rw [List.length_map, lds] at hf
      have l1 := pdS_len m h2 (m.toNat + 1) (by omega)
      refine ⟨fd, .dK ((periodCounts m).map entI), hf, trivial, fun od => ?_⟩
      refine lc_itemsP (f := fd) (od := od) (kvs := periodCounts m) (ev_var rfl) upd_same (by unfold periodCounts; omega) (fun _ _ => rfl) (fun e H1 _ => ep_pair (ev_var rfl) (ev_var rfl)) fun p acc H6 hp e6 hp6 pa => ?_
      have hf6 : H6 fd = some (.frz od (.dK ((periodCounts m).map entI))) := e6 fd _ upd_same
      refine ⟨hf6, ?_⟩
      have eZ : Ex H' (upd H6 fd (.dK ((periodCounts m).map entI))) := ex_unlock e6 hf
      have eH : Ex H (upd H6 fd (.dK ((periodCounts m).map entI))) := ((ec.trans eB).trans e).trans eZ
      have pf : p ≠ fd := ne_of hp6 hf6 (by intro z; cases z)
      have dpa : ∀ {xs : List V} {es : List (Int × Int)}, Paired (PairP H6) xs es → DpAll K (upd H6 fd (.dK ((periodCounts m).map entI))) xs (es.map datI) := by
        intro xs es pr
        induction pr with
        | nil => exact .nil
        | cons x _ ih =>
          obtain ⟨t, rfl, ht⟩ := x
          refine .cons (.tup (xs := [.int _, .int _]) (st_of ?_) (.cons (.int _) (.cons (.int _) .nil))) ih
          rw [upd_ne (ne_of ht hf6 (by intro z; cases z))]
          exact ht
      refine ⟨p, acc, (periodCounts m).map datI, rfl, sq_of (by rw [upd_ne pf]; exact hp6), dpa pa, alike_datI _, .inl fun d hd => ?_, fun d hd => ?_, fun p2 ys np2 dys => ?_⟩
      · obtain ⟨b, _, rfl⟩ := List.mem_map.mp hd
        exact ⟨_, _, rfl⟩
      · obtain ⟨b, _, rfl⟩ := List.mem_map.mp hd
        simp only [PyData.depth, PyData.depthAll]
        omega
      · exact q p2 ys _ _ ⟨eH, Ex.new np2, eH.trans (Ex.new np2), fun b o x y => by rw [x] at y; cases y⟩ (fresh_back eH np2) np2 upd_same dys
end
end K54
/-! K54G1: the law's source of numbers. -/
namespace K54
open PySem PySem.Spec PyProof.Rows L2 Evl

abbrev sSource : Stmt := topS 35
abbrev sDraw : Stmt := topS 36
theorem scSource : FnScope ["_law_cell", "_law_digits"] ["_law_cell"] (defScope sSource) := ⟨rfl, rfl, rfl, by decide +kernel, rfl, by decide +kernel, by decide +kernel⟩
theorem scDraw : FnScope ["_law_source_here", "_law_many", "_law_rest", "_law_found", "_law_turn", "_law_mixed"] ["_law_source_here", "_law_many"] (defScope sDraw) := ⟨rfl, rfl, rfl, by decide +kernel, rfl, by decide +kernel, by decide +kernel⟩
section
variable {K : PySem.W.Frag} {σ : L2.St} {H : Hp} {ta tb : TE}
theorem ev_int1 {a : Int} (h : Ev ta σ H (.int a)) : Ev (tCB (fun xs H Q => (∃ i, xs = [.int i] ∧ Q (.int i) H) ∨ ∃ k, xs = [.bl k] ∧ Q (.int (if k then 1 else 0)) H) (tCons ta tNil)) σ H (.int a) := fun H1 e Q q =>
  h H1 e _ fun H2 e2 => .inl ⟨a, rfl, q H2 e2⟩
theorem ev_pow {a b : Int} (h : Ev ta σ H (.int a)) (h2 : Ev tb σ H (.int b)) (hc : CPow a b) : Ev (tOp (rI CPow fun i j => .int (i ^ j.toNat)) ta tb) σ H (.int (a ^ b.toNat)) := ev_op h h2 (rv_I hc)
end
/-- the source's list: digits, a cell, a turn -/
def SrcAt (H : Hp) (S : Addr) (d c t : Int) : Prop := H S = some (.lst [.int d, .int c, .int t])
def spSource : Sp := fun vs H Q _ => ∃ c, vs = [V.int c] ∧ ∀ p H' d k, H p = none → Ex H H' → SrcAt H' p d k 0 → 0 ≤ k → k < 2305843009213693951 → Q (.ref p) H'
def spDraw : Sp := fun vs H Q _ => ∃ (S : Addr) (d c t m : Int), vs = [V.ref S, .int m] ∧ SrcAt H S d c t ∧ (0 ≤ c ∧ c < 2305843009213693951 ∧ 0 ≤ t ∧ t ≤ 1000) ∧ (1 ≤ m ∧ m ≤ 1000) ∧
  ∀ r d' t' H', 0 ≤ r → r < m → t ≤ t' → t' ≤ t + 1 → Ex (offH H S) H' → SrcAt H' S d' c t' → Q (.int r) H'
section
variable {P : Program} {w : World} {K : PySem.W.Frag} {mg : Str → Option Value} {base : Heap}
theorem d_source (T : At K mg "_law_source" sSource) (B : Tx mg) : Df P w K mg base "_law_source" 1 ["_law_cell"] spSource := by
  refine df_of T scSource (fun _ _ _ _ _ _ us hl => match us, hl with | [_], _ => rfl) (fun vs H Q E h => ?_) (fun f cdv A outer s H vs Q E hr h => ?_)
  · obtain ⟨a, rfl, _⟩ := h
    rfl
  · obtain ⟨c, rfl, q⟩ := h
    refine ⟨_, pss_cons (ps_set (i := 1) scSource.nd rfl (.inl rfl) (pe_ifExp (pt_cmpR op_ge (pv 0) (pe_op op_pow pe_int pe_int) (nomark _)) (pe_op op_sub (pv 0) (pe_op op_pow pe_int pe_int)) pe_int))
      (pss_one (ps_ret (pe_lst (pa_cons (pv 1) (pa_cons (pe_op op_mod (pe_callTy call_int1 (by rfl) B.int (by decide +kernel) (pa_cons (pv 0) pa_nil)) pe_int) (pa_cons pe_int pa_nil)))))), ?_⟩
    have cp : CPow 10 18 := ⟨by decide, by decide, by decide⟩
    refine q_asg (v := .int (if (10 : Int) ^ (18 : Int).toNat ≤ c then c - (10 : Int) ^ (18 : Int).toNat else 0)) (ev_if (b := decide ((10 : Int) ^ (18 : Int).toNat ≤ c)) (et_test (ev_ge (ev_var rfl) (ev_pow ev_c ev_c cp))) (fun hb => ?_) (fun hb => ?_)) fun H1 e1 => ?_
    · rw [if_pos (of_decide_eq_true hb)]
      exact ev_sub (ev_var rfl) (ev_pow ev_c ev_c cp)
    · rw [if_neg (of_decide_eq_false hb)]
      exact ev_c
    · refine s_retL (el_lst (ea_cons (ev_var rfl) (ea_cons (ev_mod (ev_int1 (ev_var rfl)) ev_c (by decide)) (ea_cons ev_c ea_nil))) (by show 3 ≤ _; omega)) fun p H2 hp e2 h2 => q p H2 _ _ (fresh_back e1 hp) (e1.trans e2) h2 (Int.emod_nonneg _ (by decide)) (Int.emod_lt_of_pos _ (by decide))
theorem mixB {x M D : Int} (hM : 0 < M) (hD : 0 < D) (hb : M ≤ 2 ^ 62) : 0 ≤ x % M / D ∧ x % M / D < 2 ^ 62 := by
  have h1 := Int.emod_nonneg x (Int.ne_of_gt hM)
  have h2 := Int.emod_lt_of_pos x hM
  have h3 := Int.ediv_nonneg (b := D) h1 (Int.le_of_lt hD)
  have h4 := Int.ediv_le_self D h1
  omega
theorem d_draw (T : At K mg "_law_draw" sDraw) (B : Tx mg) : Df P w K mg base "_law_draw" 1 ["_law_source_here", "_law_many"] spDraw := by
  refine df_of T scDraw (fun _ _ _ _ _ _ us hl => match us, hl with | [_, _], _ => rfl) (fun vs H Q E h => ?_) (fun f cdv A outer s H vs Q E hr h => ?_)
  · obtain ⟨S, d, c, t, m, rfl, _⟩ := h
    rfl
  · obtain ⟨S, d, c, t, m, rfl, hS, ⟨c0, c1, t0, t1⟩, ⟨m0, m1⟩, q⟩ := h
    have hS' : H S = some (.lst [.int d, .int c, .int t]) := hS
    refine ⟨_, pss_cons (ps_if (PW.pt (pw_and (pt_cmpR op_gt (pe_ix ix_list (pv 0) pe_int (fun _ _ => rfl)) pe_int (nomark _)) (pw_and1 (pt_cmpR op_gt (pv 1) pe_int (nomark _)))))
        (pss_cons (ps_set (i := 2) scDraw.nd rfl (.inl rfl) (pe_op op_fdiv (pe_ix ix_list (pv 0) pe_int (fun _ _ => rfl)) (pv 1)))
        (pss_cons (ps_set (i := 3) scDraw.nd rfl (.inl rfl) (pe_op op_sub (pe_ix ix_list (pv 0) pe_int (fun _ _ => rfl)) (pe_op op_mul (pv 2) (pv 1))))
        (pss_cons (ps_asg (pv 2) (pg_sub (pv 0) pe_int set_list))
        (pss_one (ps_ret (pv 3)))))) pss_nil)
      (pss_cons (ps_asg (pe_op op_add (pe_ix ix_list (pv 0) pe_int (fun _ _ => rfl)) pe_int) (pg_sub (pv 0) pe_int set_list))
      (pss_cons (ps_set (i := 4) scDraw.nd rfl (.inl rfl) (pe_ix ix_list (pv 0) pe_int (fun _ _ => rfl)))
      (pss_cons (ps_set (i := 5) scDraw.nd rfl (.inl rfl) (pe_op op_mod (pe_callTy call_int1 (by rfl) B.int (by decide +kernel) (pa_cons
        (pe_op op_add (pe_op op_add (pe_op op_mul (pe_ix ix_list (pv 0) pe_int (fun _ _ => rfl)) (pe_op op_add (pe_op op_mul pe_int (pv 4)) pe_int)) (pe_op op_mul (pe_op op_mul pe_int (pv 4)) (pv 4))) pe_int) pa_nil)) pe_int))
      (pss_cons (ps_set (i := 5) scDraw.nd rfl (.inl rfl) (pe_op op_fdiv (pe_op op_mod (pe_callTy call_int1 (by rfl) B.int (by decide +kernel) (pa_cons
        (pe_op op_add (pe_op op_add (pe_op op_mul (pv 5) (pv 5)) (pe_op op_mul pe_int (pv 5))) (pv 4)) pa_nil)) pe_int) pe_int))
      (pss_cons (ps_set (i := 5) scDraw.nd rfl (.inl rfl) (pe_op op_fdiv (pe_op op_mod (pe_callTy call_int1 (by rfl) B.int (by decide +kernel) (pa_cons
        (pe_op op_add (pe_op op_mul (pv 5) (pv 5)) (pe_op op_mul pe_int (pv 4))) pa_nil)) pe_int) pe_int))
      (pss_one (ps_ret (pe_op op_mod (pe_callTy call_int1 (by rfl) B.int (by decide +kernel) (pa_cons (pv 5) pa_nil)) (pv 1))))))))), ?_⟩
    refine q_when (b := decide ((0 : Int) < d) && decide ((1 : Int) < m)) (et_and (et_test (ev_gt (ev_ixL (v := .int d) (ev_var rfl) ev_c (sq_of hS') rfl) ev_c)) fun _ => et_test (ev_gt (ev_var rfl) ev_c)) (fun hb H1 e1 => ?_) (fun hb H1 e1 => ?_)
    · have hS1 := e1 S _ hS'
      refine q_asg (v := .int (d / m)) (ev_fdiv (ev_ixL (v := .int d) (ev_var rfl) ev_c (sq_of hS1) rfl) (ev_var rfl) ⟨by omega, by omega⟩) fun H2 e2 => ?_
      refine q_asg (v := .int (d - d / m * m)) (ev_sub (ev_ixL (v := .int d) (ev_var rfl) ev_c (sq_of (e2 S _ hS1)) rfl) (ev_mul (ev_var rfl) (ev_var rfl) (.inr ⟨by omega, by omega⟩))) fun H3 e3 => ?_
      have e13 := (e1.trans e2).trans e3
      refine q_setL (l := S) (j := 0) (e13 S _ hS') (v := .int (d / m)) (ev_var rfl) (ev_var rfl) ev_c (by show 0 < 3; omega) fun H4 e4 => ?_
      refine s_ret (v := .int (d - d / m * m)) (ev_var rfl) fun H5 e5 => ?_
      have hm : d - d / m * m = d % m := by
        have := Int.emod_add_mul_ediv d m
        rw [Int.mul_comm m (d / m)] at this
        omega
      rw [hm]
      exact q _ (d / m) t H5 (Int.emod_nonneg _ (by omega)) (Int.emod_lt_of_pos _ (by omega)) (by omega) (by omega) (((ex_off.trans e13).trans e4).mut offH_same |>.trans e5) (e5 S _ upd_same)
    · refine q_setL (l := S) (j := 2) (e1 S _ hS') (v := .int (t + 1)) (ev_add (ev_ixL (v := .int t) (ev_var rfl) ev_c (sq_of (e1 S _ hS')) rfl) ev_c) (ev_var rfl) ev_c (by show 2 < 3; omega) fun H2 e2 => ?_
      have eB : Ex (offH H S) (upd H2 S (.lst [.int d, .int c, .int (t + 1)])) := ((ex_off.trans e1).trans e2).mut offH_same
      have hS2 : (upd H2 S (.lst [.int d, .int c, .int (t + 1)])) S = some (.lst [.int d, .int c, .int (t + 1)]) := upd_same
      show tSeq _ _ _ _ (upd H2 S (.lst [.int d, .int c, .int (t + 1)]))
      generalize upd H2 S (.lst [.int d, .int c, .int (t + 1)]) = H2 at eB hS2
      refine q_asg (v := .int (t + 1)) (ev_ixL (v := .int (t + 1)) (ev_var rfl) ev_c (sq_of hS2) rfl) fun H3 e3 => ?_
      refine q_asg (ev_mod (ev_int1 (ev_add (ev_add (ev_mul (ev_ixL (v := .int c) (ev_var rfl) ev_c (sq_of (e3 S _ hS2)) rfl) (ev_add (ev_mul ev_c (ev_var rfl) (.inl ⟨by decide, by decide⟩)) ev_c) (.inl ⟨by omega, by omega⟩)) (ev_mul (ev_mul ev_c (ev_var rfl) (.inl ⟨by decide, by decide⟩)) (ev_var rfl) (.inr ⟨by omega, by omega⟩))) ev_c)) ev_c (by decide)) fun H4 e4 => ?_
      generalize hx : (c * (2 * (t + 1) + 31) + 7919 * (t + 1) * (t + 1) + 17) % 2305843009213693951 = x
      have x0 : 0 ≤ x := by rw [← hx]; exact Int.emod_nonneg _ (by decide)
      have x1 : x < 2305843009213693951 := by rw [← hx]; exact Int.emod_lt_of_pos _ (by decide)
      refine q_asg (ev_fdiv (ev_mod (ev_int1 (ev_add (ev_add (ev_mul (ev_var rfl) (ev_var rfl) (.inl ⟨by omega, by omega⟩)) (ev_mul ev_c (ev_var rfl) (.inl ⟨by decide, by decide⟩))) (ev_var rfl))) ev_c (by decide)) ev_c ⟨by decide, by decide⟩) fun H5 e5 => ?_
      generalize hy : (x * x + 104729 * x + (t + 1)) % 2305843009213693951 / 1021 = y
      have yb : 0 ≤ y ∧ y < 2 ^ 62 := by
        rw [← hy]
        exact mixB (by decide) (by decide) (by decide)
      refine q_asg (ev_fdiv (ev_mod (ev_int1 (ev_add (ev_mul (ev_var rfl) (ev_var rfl) (.inl ⟨by omega, by omega⟩)) (ev_mul ev_c (ev_var rfl) (.inl ⟨by decide, by decide⟩)))) ev_c (by decide)) ev_c ⟨by decide, by decide⟩) fun H6 e6 => ?_
      refine s_ret (ev_mod (ev_int1 (ev_var rfl)) (ev_var rfl) (by omega)) fun H7 e7 => ?_
      have e27 := (((e3.trans e4).trans e5).trans e6).trans e7
      exact q _ d (t + 1) H7 (Int.emod_nonneg _ (by omega)) (Int.emod_lt_of_pos _ (by omega)) (by omega) (by omega) (eB.trans e27) (e27 S _ hS2)
end
end K54
/-! K54G2: _law_on_rings, _law_charts, _law_step, _law_list. -/
namespace K54
open PySem PySem.Spec PyProof.Rows L2 Evl

abbrev sOn : Stmt := topS 37
abbrev sCharts : Stmt := topS 39
abbrev sStep : Stmt := topS 42
abbrev sList : Stmt := topS 44
theorem scOn : FnScope ["_law_chart", "_law_there", "_law_turn", "_law_x"] ["_law_chart"] (defScope sOn) := ⟨rfl, rfl, rfl, by decide +kernel, rfl, by decide +kernel, by decide +kernel⟩
theorem scCharts : FnScope ["_law_many", "_law_charts_here", "_law_turn", "_law_longer", "_law_chart", "_law_x"] ["_law_many"] (defScope sCharts) := ⟨rfl, rfl, rfl, by decide +kernel, rfl, by decide +kernel, by decide +kernel⟩
theorem scStep : FnScope ["_law_chart", "_law_number", "_law_found", "_law_turn", "_law_x"] ["_law_chart", "_law_number"] (defScope sStep) := ⟨rfl, rfl, rfl, by decide +kernel, rfl, by decide +kernel, by decide +kernel⟩
theorem scList : FnScope ["_law_values", "_law_size", "_law_k"] ["_law_values", "_law_size"] (defScope sList) := ⟨rfl, rfl, rfl, by decide +kernel, rfl, by decide +kernel, by decide +kernel⟩

/-! ### what they compute -/
def upto (n : Nat) : List Int := (List.range n).map fun (i : Nat) => (i : Int)
/-- the members below 5, rising -/
def asc (l : List Int) : List Int := (upto 5).filter fun k => decide (k ∈ l)
def atC (c : List Int) (x : Int) : Int := c.getD x.toNat 0
def onR (c : List Int) : List Int := c.foldl (fun there _ => asc (there.map (atC c))) (asc c)
def chartsS (m : Nat) : Nat → List (List Int)
  | 0 => [[]]
  | i + 1 => (chartsS m i).flatMap fun c => (List.range m).map fun (x : Nat) => c ++ [(x : Int)]
def charts (m : Int) : List (List Int) := chartsS m.toNat m.toNat
def stepF (c : List Int) : Nat → List Int
  | 0 => upto c.length
  | k + 1 => (stepF c k).map (atC c)
def listF (ns : List Int) (size : Int) : List Int := (List.range size.toNat).map fun (k : Nat) => ((ns.count (k : Int) : Nat) : Int)
/-- a chart of m places -/
def ChOk (m : Int) (c : List Int) : Prop := (c.length : Int) = m ∧ ∀ x ∈ c, 0 ≤ x ∧ x < m
theorem mem_upto {n : Nat} {k : Int} : k ∈ upto n ↔ 0 ≤ k ∧ k < n := by
  unfold upto
  rw [List.mem_map]
  constructor
  · rintro ⟨i, hi, rfl⟩
    have := List.mem_range.mp hi
    omega
  · rintro ⟨h1, h2⟩
    exact ⟨k.toNat, List.mem_range.mpr (by omega), by omega⟩
theorem upto_sorted (n : Nat) : (upto n).Pairwise (· < ·) := by
  unfold upto
  refine List.Pairwise.map _ (fun a b h => ?_) List.pairwise_lt_range
  omega
theorem mem_asc {l : List Int} {k : Int} : k ∈ asc l ↔ (0 ≤ k ∧ k < 5) ∧ k ∈ l := by
  unfold asc
  rw [List.mem_filter, mem_upto, decide_eq_true_iff]
  rfl
theorem asc_sorted (l : List Int) : (asc l).Pairwise (· < ·) := (upto_sorted 5).filter _
theorem sorted_uniq : ∀ {a b : List Int}, a.Pairwise (· < ·) → b.Pairwise (· < ·) → (∀ k, k ∈ a ↔ k ∈ b) → a = b
  | [], [], _, _, _ => rfl
  | [], y :: b, _, _, h => absurd ((h y).mpr List.mem_cons_self) List.not_mem_nil
  | x :: a, [], _, _, h => absurd ((h x).mp List.mem_cons_self) List.not_mem_nil
  | x :: a, y :: b, ha, hb, h => by
    obtain ⟨ha1, ha2⟩ := List.pairwise_cons.mp ha
    obtain ⟨hb1, hb2⟩ := List.pairwise_cons.mp hb
    have e : x = y := by
      rcases List.mem_cons.mp ((h x).mp List.mem_cons_self) with z | z
      · exact z
      · rcases List.mem_cons.mp ((h y).mpr List.mem_cons_self) with u | u
        · exact u.symm
        · have := hb1 x z
          have := ha1 y u
          omega
    subst e
    rw [sorted_uniq ha2 hb2 fun k => ?_]
    constructor
    · intro hk
      rcases List.mem_cons.mp ((h k).mp (List.mem_cons_of_mem _ hk)) with z | z
      · have := ha1 k hk
        omega
      · exact z
    · intro hk
      rcases List.mem_cons.mp ((h k).mpr (List.mem_cons_of_mem _ hk)) with z | z
      · have := hb1 k hk
        omega
      · exact z
theorem asc_of {ns l : List Int} (h1 : ns.Pairwise (· < ·)) (h2 : ∀ k, k ∈ ns ↔ decide (k ∈ l) = true) (hb : ∀ x ∈ l, 0 ≤ x ∧ x < 5) : ns = asc l := by
  refine sorted_uniq h1 (asc_sorted l) fun k => ?_
  rw [h2 k, mem_asc, decide_eq_true_iff]
  exact ⟨fun h => ⟨hb k h, h⟩, fun h => h.2⟩
theorem atC_mem {m : Int} {c : List Int} (h : ChOk m c) {x : Int} (h0 : 0 ≤ x) (h1 : x < m) : atC c x ∈ c := getD_mem (by have := h.1; omega)
theorem atC_ok {m : Int} {c : List Int} (h : ChOk m c) {x : Int} (h0 : 0 ≤ x) (h1 : x < m) : 0 ≤ atC c x ∧ atC c x < m := h.2 _ (atC_mem h h0 h1)
theorem asc_ok {m : Int} {l : List Int} (h : ∀ x ∈ l, 0 ≤ x ∧ x < m) : ∀ x ∈ asc l, 0 ≤ x ∧ x < m := fun x hx => h x (mem_asc.mp hx).2
theorem asc_len (l : List Int) : (asc l).length ≤ 5 := by
  have h := List.length_filter_le (fun k => decide (k ∈ l)) (upto 5)
  exact h
theorem foldl_inv {α β : Type} {f : β → α → β} (p : β → Prop) (hs : ∀ b a, p b → p (f b a)) : ∀ (l : List α) (b : β), p b → p (l.foldl f b)
  | [], _, h => h
  | a :: l, b, h => foldl_inv p hs l (f b a) (hs b a h)
def OnP (m : Int) (l : List Int) : Prop := (∀ x ∈ l, 0 ≤ x ∧ x < m) ∧ l.length ≤ 5
theorem onp_step {m : Int} {c : List Int} (h : ChOk m c) {l : List Int} (hl : OnP m l) : OnP m (asc (l.map (atC c))) := by
  refine ⟨asc_ok fun x hx => ?_, asc_len _⟩
  obtain ⟨y, hy, rfl⟩ := List.mem_map.mp hx
  have := hl.1 y hy
  exact atC_ok h this.1 this.2
theorem onp_asc {m : Int} {c : List Int} (h : ChOk m c) : OnP m (asc c) := ⟨asc_ok h.2, asc_len _⟩
theorem onR_ok {m : Int} {c : List Int} (h : ChOk m c) : OnP m (onR c) := foldl_inv (OnP m) (fun _ _ hb => onp_step h hb) c _ (onp_asc h)
theorem charts_len : ∀ m : Nat, m < 6 → ∀ i : Nat, i < 6 → (chartsS m i).length ≤ 3125 := by decide +kernel
theorem flat_len {α β : Type} {g : α → List β} {n : Nat} (h : ∀ a, (g a).length ≤ n) : ∀ l : List α, (l.flatMap g).length ≤ l.length * n
  | [] => by simp
  | a :: l => by
    have h1 := flat_len h l
    have h2 := h a
    rw [List.flatMap_cons, List.length_append, List.length_cons, Nat.add_mul]
    omega
theorem charts_ok (m : Nat) : ∀ (i : Nat), ∀ c ∈ chartsS m i, c.length = i ∧ ∀ x ∈ c, 0 ≤ x ∧ x < (m : Int)
  | 0, c, h => by
    rw [List.mem_singleton.mp h]
    exact ⟨rfl, fun x hx => absurd hx List.not_mem_nil⟩
  | i + 1, c, h => by
    obtain ⟨c', h1, h2⟩ := List.mem_flatMap.mp h
    obtain ⟨x, h3, rfl⟩ := List.mem_map.mp h2
    obtain ⟨h4, h5⟩ := charts_ok m i c' h1
    refine ⟨by rw [List.length_append, h4]; rfl, fun y hy => ?_⟩
    rcases List.mem_append.mp hy with z | z
    · exact h5 y z
    · rw [List.mem_singleton.mp z]
      have := List.mem_range.mp h3
      omega
theorem chart_ok {m : Int} (hm : Pm m) {c : List Int} (h : c ∈ charts m) : ChOk m c := by
  obtain ⟨h1, h2⟩ := charts_ok m.toNat m.toNat c h
  obtain ⟨m1, m2⟩ := hm
  refine ⟨by omega, fun x hx => ?_⟩
  have := h2 x hx
  omega
theorem stepF_ok {m : Int} {c : List Int} (h : ChOk m c) : ∀ k, (stepF c k).length = c.length ∧ ∀ x ∈ stepF c k, 0 ≤ x ∧ x < m
  | 0 => by
    refine ⟨by show ((List.range c.length).map _).length = _; rw [List.length_map, List.length_range], fun x hx => ?_⟩
    have := mem_upto.mp hx
    have := h.1
    omega
  | k + 1 => by
    obtain ⟨h1, h2⟩ := stepF_ok h k
    refine ⟨by show ((stepF c k).map _).length = _; rw [List.length_map, h1], fun x hx => ?_⟩
    obtain ⟨y, hy, rfl⟩ := List.mem_map.mp hx
    have := h2 y hy
    exact atC_ok h this.1 this.2

/-! ### evaluation -/
section
variable {α β : Type} {K : PySem.W.Frag} {w : World} {P : Hp → V → α → Prop} {σ : L2.St} {H : Hp} {ta tb te : TE} {D : Ends} {tz : TS}
theorem at_mapI {ns : List Int} {i : Int} (h0 : 0 ≤ i) (h1 : i < ns.length) : atI (ns.map V.int) i = some (.int (ns.getD i.toNat 0)) := by
  have e : i = ((i.toNat : Nat) : Int) := by omega
  have q := at_map (ns := ns) (getD_some (i := i.toNat) (by omega))
  rw [← e] at q
  exact q
/-- c[x], a chart -/
theorem ev_at {m : Int} {c : List Int} {a : Addr} {x : Int} (h : Ev ta σ H (.ref a)) (h2 : Ev tb σ H (.int x)) (hc : SqT K H a (c.map V.int)) (ok : ChOk m c) (h0 : 0 ≤ x) (h1 : x < m) : Ev (tOp (rIxT K) ta tb) σ H (.int (atC c x)) :=
  ev_ixT h h2 hc (at_mapI h0 (by have := ok.1; omega))
/-- sorted(set(t)) -/
theorem el_ssT {a : Addr} {ns : List Int} (h : Ev ta σ H (.ref a)) (hs : SqT K H a (ns.map V.int)) (hl : ns.length ≤ 20) (hb : ∀ x ∈ ns, 0 ≤ x ∧ x < 5) : EvL (tCB (rSortedSet w) (tCons (tCB (rSetI K w) (tCons ta tNil)) tNil)) σ H ((asc ns).map V.int) := fun H1 e Q q =>
  h H1 e _ fun H2 e2 => ⟨a, ns, rfl, .inr (ex_t (e.trans e2) hs), by omega, fun n p hn hp => ⟨p, _, n, rfl, upd_same, by omega, fun ms p2 h1 h2 _ hp2 => by
    rw [asc_of h1 h2 hb]
    exact q p2 _ (fresh_back (e2.trans (Ex.new hp)) hp2) ((e2.trans (Ex.new hp)).trans (Ex.new hp2)) upd_same⟩⟩
theorem el_ssL {ns : List Int} (h : EvL ta σ H (ns.map V.int)) (hl : ns.length ≤ 20) (hb : ∀ x ∈ ns, 0 ≤ x ∧ x < 5) : EvL (tCB (rSortedSet w) (tCons (tCB (rSetI K w) (tCons ta tNil)) tNil)) σ H ((asc ns).map V.int) := fun H1 e Q q =>
  h H1 e _ fun l H2 hn e2 hH => ⟨l, ns, rfl, .inl (sq_of hH), by omega, fun n p hn hp => ⟨p, _, n, rfl, upd_same, by omega, fun ms p2 h1 h2 _ hp2 => by
    rw [asc_of h1 h2 hb]
    exact q p2 _ (fresh_back (e2.trans (Ex.new hp)) hp2) ((e2.trans (Ex.new hp)).trans (Ex.new hp2)) upd_same⟩⟩
/-- tuple(range(n)) -/
theorem eu_upto {n : Nat} (h : Ev ta σ H (.int (n : Int))) (hn : n ≤ 1000) : EvU (tTupRg (tRg1 ta)) σ H ((upto n).map V.int) := fun H1 e Q q =>
  h H1 e _ fun H2 e2 => ⟨_, rfl, RgOk.of_le (by omega) (by omega) (by omega) (by omega), fun t ht => by
    have rg : rgV 0 (n : Int) = (upto n).map V.int := by
      unfold rgV upto
      rw [List.map_map, Int.sub_zero, Int.toNat_natCast]
      refine List.map_congr_left fun i _ => ?_
      show V.int (0 + (i : Int)) = V.int (i : Int)
      rw [Int.zero_add]
    rw [rg]
    exact q t _ (fresh_back e2 ht) (e2.trans (Ex.new ht)) upd_same⟩
/-- tuple(a new list) -/
theorem eu_tupOf {xs : List V} (h : EvL te σ H xs) : EvU (tThen te (kTup K)) σ H xs := fun H1 e Q q =>
  h H1 e _ fun p H2 np e2 hp => .inl ⟨p, xs, rfl, sq_of hp, fun t ht => q t _ (fresh_back e2 ht) (e2.trans (Ex.new ht)) upd_same⟩
/-- an assignment of a new list of such -/
theorem s_asgF {i : Nat} {as : List α} (m : Mon P) (h : EvFP P te σ H as) (k : ∀ p xs H1, H p = none → Ex H H1 → H1 p = some (.lst xs) → Paired (P H1) xs as → D.nx (σ.set i (some (.ref p))) H1) : tAsg te (gName i) D σ H :=
  h H (Ex.refl H) _ fun p xs Hn H1 g hp hn hH hd => k p xs H1 hp g.all hH (paired_up m g.new hd)
theorem q_asgF {i : Nat} {as : List α} (m : Mon P) (h : EvFP P te σ H as) (k : ∀ p xs H1, H p = none → Ex H H1 → H1 p = some (.lst xs) → Paired (P H1) xs as → tz D (σ.set i (some (.ref p))) H1) : tSeq (tAsg te (gName i)) tz D σ H := s_asgF (D := { D with nx := tz D }) m h k
/-- xs + [..] -/
theorem ef_cat {as bs : List α} {l : Addr} {xs : List V} (m : Mon P) (h1 : Ev ta σ H (.ref l)) (hl : H l = some (.lst xs)) (hx : Paired (P H) xs as) (h2 : EvFP P tb σ H bs) (hz : as.length + bs.length ≤ 100000) : EvFP P (tOp rCat ta tb) σ H (as ++ bs) := fun H0 e Q q =>
  h1 H0 e _ fun H1 e1 => h2 H1 (e.trans e1) _ fun p ys Hn H2 g hp hn hH hd => by
    have lx : xs.length = as.length := Paired.length hx
    have ly : ys.length = bs.length := Paired.length hd
    refine ⟨l, p, xs, ys, rfl, rfl, g.all l _ ((e.trans e1) l _ hl), hH, sz_of (by omega), fun r hr => ?_⟩
    exact q r (xs ++ ys) Hn _ (((Gr.keep e e1).trans g).more (Ex.new hr)) (fresh_back (e1.trans g.all) hr) (fresh_back g.new hr) upd_same (paired_app (paired_up m g.base hx) hd)
/-- a list of such that stands -/
theorem ep_ls {as : List α} {a : Addr} {xs : List V} (h : Ev te σ H (.ref a)) (ha : SqL K H a xs) (hx : Paired (P H) xs as) : EvP (LstP K P) te σ H as := fun H1 e Q q => h H1 e Q fun H2 e2 => q _ H H2 (Gr.keep e e2) ⟨a, xs, rfl, ha, hx⟩
/-- a tuple grows by an int -/
theorem ep_catA {a : Addr} {ns : List Int} {n : Int} (h1 : Ev ta σ H (.ref a)) (hs : H a = some (.tup (ns.map V.int))) (h2 : Ev tb σ H (.int n)) (hz : ns.length ≤ 1000) : EvP TiP (tOp (rCatA K) ta (tTup (tCons tb tNil))) σ H (ns ++ [n]) := fun H0 e Q q =>
  h1 H0 e _ fun H1 e1 => h2 H1 (e.trans e1) _ fun H2 e2 => ⟨by show 1 ≤ sizeLine; decide, fun p hp => by
    have e12 := e1.trans e2
    have eb : Ex H2 (upd H2 p (.tup [.int n])) := Ex.new hp
    refine ⟨a, p, ns.map V.int, [.int n], rfl, rfl, st_of (eb a _ ((e.trans e12) a _ hs)), st_of upd_same, ?_, fun z => ?_, fun _ z => (nomatch z), fun _ _ r hr => ?_⟩
    · rw [List.length_map]
      exact sz_of (by show ns.length + 1 ≤ _; omega)
    · have zn : ns = [] := List.map_eq_nil_iff.mp z
      refine q _ _ _ ((Gr.keep e e12).lay (o := .tup [.int n]) hp) ⟨p, rfl, ?_⟩
      rw [zn]
      exact upd_same
    · refine q _ _ _ (((Gr.keep e e12).more eb).lay (o := .tup (ns.map V.int ++ [.int n])) hr) ⟨r, rfl, ?_⟩
      rw [upd_same, List.map_append]
      rfl⟩
end

/-! ### the defs -/
def spOn (K : PySem.W.Frag) : Sp := fun vs H Q _ => ∃ (a : Addr) (m : Int) (c : List Int), vs = [V.ref a] ∧ SqT K H a (c.map V.int) ∧ Pm m ∧ ChOk m c ∧ ∀ p H', H p = none → Ex H H' → H' p = some (.lst ((onR c).map V.int)) → Q (.ref p) H'
def spCharts : Sp := fun vs H Q _ => ∃ m, vs = [V.int m] ∧ Pm m ∧ ∀ p xs H', H p = none → Ex H H' → H' p = some (.lst xs) → Paired (TiP H') xs (charts m) → Q (.ref p) H'
def spStep (K : PySem.W.Frag) : Sp := fun vs H Q _ => ∃ (a : Addr) (m n : Int) (c : List Int), vs = [V.ref a, .int n] ∧ SqT K H a (c.map V.int) ∧ Pm m ∧ ChOk m c ∧ 0 ≤ n ∧ n ≤ 1000 ∧ ∀ p H', H p = none → Ex H H' → H' p = some (.tup ((stepF c n.toNat).map V.int)) → Q (.ref p) H'
def spList (K : PySem.W.Frag) : Sp := fun vs H Q _ => ∃ (a : Addr) (ns : List Int) (n : Int), vs = [V.ref a, .int n] ∧ SqL K H a (ns.map V.int) ∧ 0 ≤ n ∧ n ≤ 1000 ∧ ∀ p H', H p = none → Ex H H' → H' p = some (.lst ((listF ns n).map V.int)) → Q (.ref p) H'
section
variable {P : Program} {w : World} {K : PySem.W.Frag} {mg : Str → Option Value} {base : Heap}
theorem d_on (T : At K mg "_law_on_rings" sOn) (B : Tx mg) : Df P w K mg base "_law_on_rings" 1 ["_law_chart"] (spOn K) := by
  refine df_of T scOn (fun _ _ _ _ _ _ us hl => match us, hl with | [_], _ => rfl) (fun vs H Q E h => ?_) (fun f cdv A outer s H vs Q E hr h => ?_)
  · obtain ⟨a, m, c, rfl, _⟩ := h
    rfl
  · obtain ⟨a, m, c, rfl, hs, ⟨m1, m2⟩, ok, q⟩ := h
    refine ⟨_, pss_cons (ps_set (i := 1) scOn.nd rfl (.inl rfl) (pe_callB (cr_sortedSet rfl) (by rfl) B.sorted boot_sorted (pa_cons (pe_callTy (cr_setI rfl) (by rfl) B.set (by decide +kernel) (pa_cons (pv 0) pa_nil)) pa_nil)))
      (pss_cons (ps_for PassesOwn.never rfl (pi_tup (pv 0)) (pg_name (i := 2) scOn.nd rfl (.inl rfl))
        (pss_one (ps_set (i := 1) scOn.nd rfl (.inl rfl) (pe_callB (cr_sortedSet rfl) (by rfl) B.sorted boot_sorted (pa_cons (pe_callTy (cr_setI rfl) (by rfl) B.set (by decide +kernel) (pa_cons
          (pe_lc (own := [("_law_x", 3)]) (g := gName 3) (tt := tYes) (by rfl) scOn.nd (pi_list (pv 1)) (blkOk_by (N := ["_law_chart", "_law_there", "_law_turn", "_law_x"]) (sc := defScope sOn) (by decide +kernel))
            (fun _ _ _ _ _ => pg_name (i := 3) scOn.nd rfl (Or.inl rfl)) (fun _ _ _ _ _ => pts_nil) (fun _ _ _ _ _ => pe_ix (r := rIxT K) ix_tup (pv 0) (pv 3) (fun _ _ => rfl))) pa_nil)) pa_nil)))))
      (pss_one (ps_ret (pv 1)))), ?_⟩
    have b5 : ∀ {l : List Int}, (∀ x ∈ l, 0 ≤ x ∧ x < m) → ∀ x ∈ l, 0 ≤ x ∧ x < 5 := fun h x hx => by
      have := h x hx
      omega
    have hl := ok.1
    refine q_asgL (el_ssT (a := a) (ev_var rfl) hs (by omega) (b5 ok.2)) fun p H1 np e1 hp => ?_
    refine q_forT (a := a) (xs := c.map V.int) (ev_var rfl) (ex_t e1 hs) (fun i σ' H' => ∃ y l, σ' = [some (.ref a), some (.ref l), y, none] ∧ H l = none ∧ Ex H H' ∧ H' l = some (.lst (((c.take i).foldl (fun there _ => asc (there.map (atC c))) (asc c)).map V.int)))
      (fun H2 e2 => ⟨_, p, rfl, np, e1.trans e2, e2 p _ hp⟩) (fun i σ' H' _ hp => ?_) (fun i x σ' H' hi hp => ?_) (fun σ' H' hp => ?_)
    · obtain ⟨y, l, _, _, e, _⟩ := hp
      exact ex_t e hs
    · obtain ⟨y, l, rfl, nl, e, hl2⟩ := hp
      rw [List.getElem?_map] at hi
      obtain ⟨n, hn, ex⟩ := Option.map_eq_some_iff.mp hi
      have hb := foldl_inv (f := fun there _ => asc (there.map (atC c))) (OnP m) (fun _ _ hb => onp_step ok hb) (c.take i) _ (onp_asc ok)
      generalize hcur : (c.take i).foldl (fun there _ => asc (there.map (atC c))) (asc c) = cur at hl2 hb
      refine s_asgL (xs := (asc (cur.map (atC c))).map V.int) (el_ssL (ef_to_l (ep_mL (P := IntP) (as := cur) (atC c) mon_int mon_int (ep_lst (a := l) (ev_var rfl) (sq_of hl2)) (by have := hb.2; omega) (fun _ => rfl) fun x2 b H2 e2 hb2 hx2 => ?_)) (by rw [List.length_map]; have := hb.2; omega) (b5 fun x2 hx2 => ?_)) fun p2 H2 np2 e2 hp2 => ⟨_, p2, rfl, fresh_back e np2, e.trans e2, ?_⟩
      · rw [show x2 = V.int b from hx2]
        have := hb.1 b hb2
        exact ep_int (ev_at (ev_var rfl) (ev_var rfl) (ex_t (e.trans e2) hs) ok this.1 this.2)
      · obtain ⟨z, hz, rfl⟩ := List.mem_map.mp hx2
        have := hb.1 z hz
        exact atC_ok ok this.1 this.2
      · rw [foldl_take _ _ hn, hcur]
        exact hp2
    · obtain ⟨y, l, rfl, nl, e, hl2⟩ := hp
      rw [List.length_map, List.take_of_length_le (Nat.le_refl _)] at hl2
      exact s_ret (v := .ref l) (ev_var rfl) fun H3 e3 => q l H3 nl (e.trans e3) (e3 l _ hl2)
theorem d_charts (T : At K mg "_law_charts" sCharts) (B : Tx mg) : Df P w K mg base "_law_charts" 1 ["_law_many"] spCharts := by
  refine df_of T scCharts (fun _ _ _ _ _ _ us hl => match us, hl with | [_], _ => rfl) (fun vs H Q E h => ?_) (fun f cdv A outer s H vs Q E hr h => ?_)
  · obtain ⟨m, rfl, _⟩ := h
    rfl
  · obtain ⟨m, rfl, ⟨m1, m2⟩, q⟩ := h
    refine ⟨_, pss_cons (ps_set (i := 1) scCharts.nd rfl (.inl rfl) (pe_lst (pa_cons (pe_tup pa_nil) pa_nil)))
      (pss_cons (ps_for PassesOwn.never rfl (pi_range1 (by rfl) B.range (pa_cons (pv 0) pa_nil)) (pg_name (i := 2) scCharts.nd rfl (.inl rfl))
        (pss_cons (ps_set (i := 3) scCharts.nd rfl (.inl rfl) (pe_lst pa_nil))
        (pss_cons (ps_for PassesOwn.never rfl (pi_list (pv 1)) (pg_name (i := 4) scCharts.nd rfl (.inr rfl))
          (pss_one (ps_set (i := 3) scCharts.nd rfl (.inl rfl) (pe_op op_cat (pv 3) (pe_lc (own := [("_law_x", 5)]) (g := gName 5) (tt := tYes) (by rfl) scCharts.nd (pi_range1 (by rfl) B.range (pa_cons (pv 0) pa_nil))
            (blkOk_by (N := ["_law_many", "_law_charts_here", "_law_turn", "_law_longer", "_law_chart", "_law_x"]) (sc := defScope sCharts) (by decide +kernel))
            (fun _ _ _ _ _ => pg_name (i := 5) scCharts.nd rfl (Or.inl rfl)) (fun _ _ _ _ _ => pts_nil) (fun _ _ _ _ _ => pe_op (r := rCatA K) op_catA (pv 4) (pe_tup (pa_cons (pv 5) pa_nil))))))))
        (pss_one (ps_set (i := 1) scCharts.nd rfl (.inl rfl) (pv 3))))))
      (pss_one (ps_ret (pv 1)))), ?_⟩
    refine ⟨Nat.zero_le _, fun t ht => ⟨by show 1 ≤ sizeLine; decide, fun p hp => ?_⟩⟩
    have np : H p = none := fresh_back (Ex.new ht) hp
    have e0 : Ex H (upd (upd H t (.tup [])) p (.lst [.ref t])) := (Ex.new ht).trans (Ex.new hp)
    have p0 : Paired (TiP (upd (upd H t (.tup [])) p (.lst [.ref t]))) [V.ref t] (chartsS m.toNat 0) := .cons ⟨t, rfl, (Ex.new hp) t _ upd_same⟩ .nil
    have l0 : upd (upd H t (.tup [])) p (.lst [.ref t]) p = some (.lst [.ref t]) := upd_same
    refine q_forR1 (n := m) (ea_cons (ev_var rfl) ea_nil) ⟨by omega, by omega⟩ (fun i σ' H' => ∃ y2 y3 y4 l xs, σ' = [some (.int m), some (.ref l), y2, y3, y4, none] ∧ Ex H H' ∧ H l = none ∧ H' l = some (.lst xs) ∧ Paired (TiP H') xs (chartsS m.toNat i))
      (fun H3 e3 => ⟨_, _, _, p, [.ref t], rfl, e0.trans e3, np, e3 p _ l0, paired_up mon_ti e3 p0⟩) (fun i σ' H' hi hp => ?_) (fun σ' H' hp => ?_)
    · obtain ⟨y2, y3, y4, l, xs, rfl, e, nl, hl, px⟩ := hp
      have lx : xs.length = (chartsS m.toNat i).length := Paired.length px
      have lc := charts_len m.toNat (by omega) i (by omega)
      refine q_asgL (xs := []) (el_lst ea_nil (Nat.zero_le _)) fun g0 H4 ng e4 hg => ?_
      refine q_forL (a := l) (xs := xs) (ev_var rfl) (sq_of (e4 l _ hl)) (fun k σ' H5 => ∃ z4 g ys, σ' = [some (.int m), some (.ref l), some (.int (i : Int)), some (.ref g), z4, none] ∧ Ex H' H5 ∧ H' g = none ∧ H5 g = some (.lst ys) ∧ Paired (TiP H5) ys (((chartsS m.toNat i).take k).flatMap fun c => (List.range m.toNat).map fun (x : Nat) => c ++ [(x : Int)]))
        (fun H5 e5 => ⟨_, g0, [], rfl, e4.trans e5, ng, e5 g0 _ hg, .nil⟩) (fun k σ' H5 _ hp => ?_) (fun k x σ' H5 hk hp => ?_) (fun σ' H5 hp => ?_)
      · obtain ⟨_, _, _, _, e5, _⟩ := hp
        exact sq_of (e5 l _ hl)
      · obtain ⟨z4, g, ys, rfl, e5, ng5, hg5, py⟩ := hp
        obtain ⟨c, hc, a, rfl, ha⟩ := paired_at px hk
        have ca : H5 a = some (.tup (c.map V.int)) := e5 a _ ha
        have cl := (charts_ok m.toNat i c (List.mem_of_getElem? hc)).1
        have len1 := flat_len (g := fun c : List Int => (List.range m.toNat).map fun (x : Nat) => c ++ [(x : Int)]) (n := 5) (fun c => by rw [List.length_map, List.length_range]; omega) ((chartsS m.toNat i).take k)
        have lt := List.length_take_le' k (chartsS m.toNat i)
        refine s_asgF (as := ((chartsS m.toNat i).take (k + 1)).flatMap fun c => (List.range m.toNat).map fun (x : Nat) => c ++ [(x : Int)]) mon_ti ?_ fun g2 ys2 H6 ng6 e6 hg6 py2 => ⟨_, g2, ys2, rfl, e5.trans e6, fresh_back e5 ng6, hg6, py2⟩
        have split : ((chartsS m.toNat i).take (k + 1)).flatMap (fun c => (List.range m.toNat).map fun (x : Nat) => c ++ [(x : Int)]) = (((chartsS m.toNat i).take k).flatMap fun c => (List.range m.toNat).map fun (x : Nat) => c ++ [(x : Int)]) ++ (List.range m.toNat).map fun (x : Nat) => c ++ [(x : Int)] := by
          rw [List.take_add_one, hc, Option.toList_some, List.flatMap_append]
          congr 1
          simp
        rw [split]
        refine ef_cat mon_ti (l := g) (ev_var rfl) hg5 py (ep_mR1 (n := m) (fun (x : Nat) => c ++ [(x : Int)]) mon_ti (ea_cons (ev_var rfl) ea_nil) ⟨by omega, by omega⟩ (fun _ => rfl) fun j H6 e6 hj => ep_catA (ev_var rfl) (e6 a _ ca) (ev_var rfl) (by omega)) ?_
        rw [List.length_map, List.length_range]
        omega
      · obtain ⟨z4, g, ys, rfl, e5, ng5, hg5, py⟩ := hp
        rw [lx, List.take_of_length_le (Nat.le_refl _)] at py
        exact s_asg (v := .ref g) (ev_var rfl) fun H6 e6 => ⟨_, _, _, g, ys, rfl, (e.trans e5).trans e6, fresh_back e ng5, e6 g _ hg5, paired_up mon_ti e6 py⟩
    · obtain ⟨y2, y3, y4, l, xs, rfl, e, nl, hl, px⟩ := hp
      exact s_ret (v := .ref l) (ev_var rfl) fun H3 e3 => q l xs H3 nl (e.trans e3) (e3 l _ hl) (paired_up mon_ti e3 px)
theorem d_step (T : At K mg "_law_step" sStep) (B : Tx mg) : Df P w K mg base "_law_step" 1 ["_law_chart", "_law_number"] (spStep K) := by
  refine df_of T scStep (fun _ _ _ _ _ _ us hl => match us, hl with | [_, _], _ => rfl) (fun vs H Q E h => ?_) (fun f cdv A outer s H vs Q E hr h => ?_)
  · obtain ⟨a, m, n, c, rfl, _⟩ := h
    rfl
  · obtain ⟨a, m, n, c, rfl, hs, ⟨m1, m2⟩, ok, n0, n1, q⟩ := h
    refine ⟨_, pss_cons (ps_set (i := 2) scStep.nd rfl (.inl rfl) (pe_tupRg rfl (by rfl) B.tuple (prg_1 (by rfl) B.range (pe_callB call_len_seq (by rfl) B.len PySem.boot_len (pa_cons (pv 0) pa_nil)))))
      (pss_cons (ps_for PassesOwn.never rfl (pi_range1 (by rfl) B.range (pa_cons (pv 1) pa_nil)) (pg_name (i := 3) scStep.nd rfl (.inl rfl))
        (pss_one (ps_set (i := 2) scStep.nd rfl (.inl rfl) (pe_tupleOf (by rfl) B.tuple (pe_lc (own := [("_law_x", 4)]) (g := gName 4) (tt := tYes) (by rfl) scStep.nd (pi_tup (pv 2))
          (blkOk_by (N := ["_law_chart", "_law_number", "_law_found", "_law_turn", "_law_x"]) (sc := defScope sStep) (by decide +kernel))
          (fun _ _ _ _ _ => pg_name (i := 4) scStep.nd rfl (Or.inl rfl)) (fun _ _ _ _ _ => pts_nil) (fun _ _ _ _ _ => pe_ix (r := rIxT K) ix_tup (pv 0) (pv 4) (fun _ _ => rfl)))))))
      (pss_one (ps_ret (pv 2)))), ?_⟩
    have hl := ok.1
    refine q_asgU (xs := (stepF c 0).map V.int) (eu_upto (n := c.length) (by have z := ev_lenT (a := a) (ta := tVar 0) (σ := start ["_law_chart", "_law_number", "_law_found", "_law_turn", "_law_x"] [.ref a, .int n]) (ev_var rfl) hs; rw [List.length_map] at z; exact z) (by omega)) fun t H1 nt e0 ht => ?_
    refine q_forR1 (n := n) (ea_cons (ev_var rfl) ea_nil) ⟨by omega, by omega⟩ (fun i σ' H' => ∃ y3 t, σ' = [some (.ref a), some (.int n), some (.ref t), y3, none] ∧ Ex H H' ∧ H t = none ∧ H' t = some (.tup ((stepF c i).map V.int)))
      (fun H3 e3 => ⟨_, t, rfl, e0.trans e3, nt, e3 t _ ht⟩) (fun i σ' H' hi hp => ?_) (fun σ' H' hp => ?_)
    · obtain ⟨y3, t, rfl, e, nt, ht⟩ := hp
      obtain ⟨sl, sb⟩ := stepF_ok ok i
      refine s_asgU (xs := (stepF c (i + 1)).map V.int) (eu_tupOf (ef_to_l (ep_mT (P := IntP) (as := stepF c i) (atC c) mon_int mon_int (ep_tup (a := t) (ev_var rfl) (st_of ht)) (by omega) (fun _ => rfl) fun x2 b H2 e2 hb2 hx2 => ?_))) fun t2 H4 nt2 e4 ht2 => ⟨_, t2, rfl, e.trans e4, fresh_back e nt2, ht2⟩
      rw [show x2 = V.int b from hx2]
      have := sb b hb2
      exact ep_int (ev_at (ev_var rfl) (ev_var rfl) (ex_t (e.trans e2) hs) ok this.1 this.2)
    · obtain ⟨y3, t, rfl, e, nt, ht⟩ := hp
      exact s_ret (v := .ref t) (ev_var rfl) fun H3 e3 => q t H3 nt (e.trans e3) (e3 t _ ht)
theorem ty_lst {H : Hp} {a : Addr} {xs : List V} (h : SqL K H a xs) : tyV K "list" (.ref a) H := .inl ⟨rfl, _, h⟩
theorem d_list (T : At K mg "_law_list" sList) (B : Tx mg) : Df P w K mg base "_law_list" 1 ["_law_values", "_law_size"] (spList K) := by
  refine df_of T scList (fun _ _ _ _ _ _ us hl => match us, hl with | [_, _], _ => rfl) (fun vs H Q E h => ?_) (fun f cdv A outer s H vs Q E hr h => ?_)
  · obtain ⟨a, ns, n, rfl, _⟩ := h
    rfl
  · obtain ⟨a, ns, n, rfl, hs, n0, n1, q⟩ := h
    refine ⟨_, pss_one (ps_ret (pe_lc (own := [("_law_k", 2)]) (g := gName 2) (tt := tYes) (te := tBM K "list" (rCntI K) (tVar 0) (tCons (tVar 2) tNil)) (by rfl) scList.nd (pi_range1 (by rfl) B.range (pa_cons (pv 1) pa_nil))
          (blkOk_by (N := ["_law_values", "_law_size", "_law_k"]) (sc := defScope sList) (by decide +kernel))
          (fun _ _ _ _ _ => pg_name (i := 2) scList.nd rfl (Or.inl rfl)) (fun _ _ _ _ _ => pts_nil) (fun _ _ _ _ _ => pe_bm (r := rCntI K) PySem.F.plainAttrs_list PySem.F.slot_list_count PySem.F.type_list_count mt_lcount (pv 0) (pa_cons (pv 2) pa_nil)))), ?_⟩
    refine s_retL (xs := (listF ns n).map V.int) (ef_to_l (ep_mR1 (n := n) (fun (k : Nat) => ((ns.count (k : Int) : Nat) : Int)) mon_int (ea_cons (ev_var rfl) ea_nil) ⟨by omega, by omega⟩ (fun _ => rfl) fun j H1 e1 hj => ep_int fun H2 e2 Q2 q2 => ?_)) fun p H1 np e1 hp => q p H1 np e1 hp
    have hs2 := ex_l (e1.trans e2) hs
    exact ⟨.ref a, rfl, ty_lst hs2, .int (j : Int), rfl, a, ns, (j : Int), rfl, rfl, hs2, q2 H2 (Ex.refl H2)⟩
end
end K54
/-! K54M1: the loops of the law's own defs end, at all charts. -/
namespace K54
open PySem PySem.Spec PyProof.Rows L2 Evl

abbrev sRings : Stmt := topS 38
abbrev sLDepths : Stmt := topS 40
abbrev sLPeriod : Stmt := topS 41
theorem scRings : FnScope ["_law_chart", "_law_found", "_law_seen", "_law_x", "_law_ring"] ["_law_chart"] (defScope sRings) := ⟨rfl, rfl, rfl, by decide +kernel, rfl, by decide +kernel, by decide +kernel⟩
theorem scLDepths : FnScope ["_law_chart", "_law_there", "_law_found", "_law_x", "_law_steps"] ["_law_chart"] (defScope sLDepths) := ⟨rfl, rfl, rfl, by decide +kernel, rfl, by decide +kernel, by decide +kernel⟩
theorem scLPeriod : FnScope ["_law_rings_here", "_law_found", "_law_ring"] ["_law_rings_here"] (defScope sLPeriod) := ⟨rfl, rfl, rfl, by decide +kernel, rfl, by decide +kernel, by decide +kernel⟩

/-! ### what they compute -/
/-- the first k from k0 on, within n -/
def firstK (f : Nat → Bool) : Nat → Nat → Nat
  | 0, k => k
  | n + 1, k => if f k = true then k else firstK f n (k + 1)
theorem firstK_spec (f : Nat → Bool) : ∀ (n k : Nat), (∃ j, k ≤ j ∧ j < k + n ∧ f j = true) → f (firstK f n k) = true ∧ k ≤ firstK f n k ∧ firstK f n k < k + n ∧ ∀ j, k ≤ j → j < firstK f n k → f j = false
  | 0, k, h => by
    obtain ⟨j, h1, h2, _⟩ := h
    omega
  | n + 1, k, h => by
    unfold firstK
    by_cases z : f k = true
    · rw [if_pos z]
      exact ⟨z, Nat.le_refl _, by omega, fun j h1 h2 => by omega⟩
    · rw [if_neg z]
      obtain ⟨j, h1, h2, h3⟩ := h
      have hj : k + 1 ≤ j := by
        rcases Nat.eq_or_lt_of_le h1 with e | e
        · rw [e] at z
          exact absurd h3 z
        · exact e
      obtain ⟨a, b, c, d⟩ := firstK_spec f n (k + 1) ⟨j, hj, by omega, h3⟩
      refine ⟨a, by omega, by omega, fun i h4 h5 => ?_⟩
      rcases Nat.eq_or_lt_of_le h4 with e | e
      · rw [← e]
        cases hf : f k with
        | true => exact absurd hf z
        | false => rfl
      · exact d i e h5
def iterC (c : List Int) (x : Int) : Nat → Int
  | 0 => x
  | k + 1 => atC c (iterC c x k)
theorem iterC_ok {m : Int} {c : List Int} (h : ChOk m c) {x : Int} (h0 : 0 ≤ x) (h1 : x < m) : ∀ k, 0 ≤ iterC c x k ∧ iterC c x k < m
  | 0 => ⟨h0, h1⟩
  | k + 1 => by
    have := iterC_ok h h0 h1 k
    exact atC_ok h this.1 this.2
def ringAt (c : List Int) (x : Int) (k : Nat) : List Int := (List.range (k + 1)).map (iterC c x)
def perC (c : List Int) (x : Int) : Nat := firstK (fun k => decide (iterC c x (k + 1) = x)) 6 0
def ringF (c : List Int) (x : Int) : List Int := ringAt c x (perC c x)
def ringsStep (c : List Int) (acc : List (List Int) × List Int) (x : Int) : List (List Int) × List Int := if x ∈ acc.2 then acc else (acc.1 ++ [ringF c x], acc.2 ++ ringF c x)
def ringsF (c : List Int) : List (List Int) := ((onR c).foldl (ringsStep c) ([], [])).1
def depC (c on : List Int) (x : Int) : Nat := firstK (fun k => decide (iterC c x k ∈ on)) 6 0
def depthsF (c : List Int) : List Int := (upto c.length).map fun x => (depC c (onR c) x : Int)
def allDiv (rs : List (List Int)) (n : Int) : Bool := rs.all fun r => decide (n / (r.length : Int) * (r.length : Int) = n)
def periodF (rs : List (List Int)) : Nat := firstK (fun k => allDiv rs (k : Int)) 60 1
/-- what the defs need of a chart so that their loops end -/
def goodC (c : List Int) : Bool :=
  ((onR c).all fun x => (List.range 6).any fun k => decide (iterC c x (k + 1) = x)) &&
  ((upto c.length).all fun x => (List.range 6).any fun k => decide (iterC c x k ∈ onR c)) &&
  ((List.range 59).any fun k => allDiv (ringsF c) ((k + 1 : Nat) : Int))
theorem good_0 : (((chartsS 5 5).drop (125 * 0)).take 125).all goodC = true := by decide +kernel
theorem good_1 : (((chartsS 5 5).drop (125 * 1)).take 125).all goodC = true := by decide +kernel
theorem good_2 : (((chartsS 5 5).drop (125 * 2)).take 125).all goodC = true := by decide +kernel
theorem good_3 : (((chartsS 5 5).drop (125 * 3)).take 125).all goodC = true := by decide +kernel
theorem good_4 : (((chartsS 5 5).drop (125 * 4)).take 125).all goodC = true := by decide +kernel
theorem good_5 : (((chartsS 5 5).drop (125 * 5)).take 125).all goodC = true := by decide +kernel
theorem good_6 : (((chartsS 5 5).drop (125 * 6)).take 125).all goodC = true := by decide +kernel
theorem good_7 : (((chartsS 5 5).drop (125 * 7)).take 125).all goodC = true := by decide +kernel
theorem good_8 : (((chartsS 5 5).drop (125 * 8)).take 125).all goodC = true := by decide +kernel
theorem good_9 : (((chartsS 5 5).drop (125 * 9)).take 125).all goodC = true := by decide +kernel
theorem good_10 : (((chartsS 5 5).drop (125 * 10)).take 125).all goodC = true := by decide +kernel
theorem good_11 : (((chartsS 5 5).drop (125 * 11)).take 125).all goodC = true := by decide +kernel
theorem good_12 : (((chartsS 5 5).drop (125 * 12)).take 125).all goodC = true := by decide +kernel
theorem good_13 : (((chartsS 5 5).drop (125 * 13)).take 125).all goodC = true := by decide +kernel
theorem good_14 : (((chartsS 5 5).drop (125 * 14)).take 125).all goodC = true := by decide +kernel
theorem good_15 : (((chartsS 5 5).drop (125 * 15)).take 125).all goodC = true := by decide +kernel
theorem good_16 : (((chartsS 5 5).drop (125 * 16)).take 125).all goodC = true := by decide +kernel
theorem good_17 : (((chartsS 5 5).drop (125 * 17)).take 125).all goodC = true := by decide +kernel
theorem good_18 : (((chartsS 5 5).drop (125 * 18)).take 125).all goodC = true := by decide +kernel
theorem good_19 : (((chartsS 5 5).drop (125 * 19)).take 125).all goodC = true := by decide +kernel
theorem good_20 : (((chartsS 5 5).drop (125 * 20)).take 125).all goodC = true := by decide +kernel
theorem good_21 : (((chartsS 5 5).drop (125 * 21)).take 125).all goodC = true := by decide +kernel
theorem good_22 : (((chartsS 5 5).drop (125 * 22)).take 125).all goodC = true := by decide +kernel
theorem good_23 : (((chartsS 5 5).drop (125 * 23)).take 125).all goodC = true := by decide +kernel
theorem good_24 : (((chartsS 5 5).drop (125 * 24)).take 125).all goodC = true := by decide +kernel
theorem good_small : ∀ m : Nat, m < 5 → (chartsS m m).all goodC = true := by decide +kernel
theorem chunk_all {α : Type} {l : List α} {p : α → Bool} {n s : Nat} (hs : 0 < s) (hl : l.length ≤ n * s) (h : ∀ k, k < n → ((l.drop (s * k)).take s).all p = true) : ∀ c ∈ l, p c = true := by
  intro c hc
  obtain ⟨i, hi, rfl⟩ := List.mem_iff_getElem.mp hc
  have e := Nat.div_add_mod i s
  have hm := Nat.mod_lt i hs
  have hk : i / s < n := Nat.div_lt_of_lt_mul (by rw [Nat.mul_comm]; omega)
  refine List.all_eq_true.mp (h (i / s) hk) _ (List.mem_iff_getElem?.mpr ⟨i % s, ?_⟩)
  rw [List.getElem?_take, if_pos hm, List.getElem?_drop, e, List.getElem?_eq_getElem hi]
theorem good_five : ∀ k, k < 25 → (((chartsS 5 5).drop (125 * k)).take 125).all goodC = true
  | 0, _ => good_0
  | 1, _ => good_1
  | 2, _ => good_2
  | 3, _ => good_3
  | 4, _ => good_4
  | 5, _ => good_5
  | 6, _ => good_6
  | 7, _ => good_7
  | 8, _ => good_8
  | 9, _ => good_9
  | 10, _ => good_10
  | 11, _ => good_11
  | 12, _ => good_12
  | 13, _ => good_13
  | 14, _ => good_14
  | 15, _ => good_15
  | 16, _ => good_16
  | 17, _ => good_17
  | 18, _ => good_18
  | 19, _ => good_19
  | 20, _ => good_20
  | 21, _ => good_21
  | 22, _ => good_22
  | 23, _ => good_23
  | 24, _ => good_24
  | n + 25, h => absurd h (by omega)
theorem good_chart {m : Int} (hm : Pm m) {c : List Int} (h : c ∈ charts m) : goodC c = true := by
  obtain ⟨h1, h2⟩ := hm
  by_cases e : m.toNat < 5
  · exact List.all_eq_true.mp (good_small m.toNat e) c h
  · have e5 : m.toNat = 5 := by omega
    unfold charts at h
    rw [e5] at h
    exact chunk_all (by decide) (charts_len 5 (by decide) 5 (by decide)) good_five c h
end K54
/-! K54G3: _law_rings, _law_depths, _law_period. -/
namespace K54
open PySem PySem.Spec PyProof.Rows L2 Evl

theorem firstK_le (f : Nat → Bool) : ∀ (n k : Nat), firstK f n k ≤ k + n
  | 0, k => Nat.le_refl _
  | n + 1, k => by
    unfold firstK
    split
    · omega
    · have := firstK_le f n (k + 1)
      omega
theorem good_parts {c : List Int} (h : goodC c = true) : (∀ x ∈ onR c, ∃ k, k < 6 ∧ iterC c x (k + 1) = x) ∧ (∀ x ∈ upto c.length, ∃ k, k < 6 ∧ iterC c x k ∈ onR c) ∧ ∃ k, k < 59 ∧ allDiv (ringsF c) ((k + 1 : Nat) : Int) = true := by
  unfold goodC at h
  obtain ⟨h12, h3⟩ := Bool.and_eq_true_iff.mp h
  obtain ⟨h1, h2⟩ := Bool.and_eq_true_iff.mp h12
  refine ⟨fun x hx => ?_, fun x hx => ?_, ?_⟩
  · obtain ⟨k, hk, e⟩ := List.any_eq_true.mp (List.all_eq_true.mp h1 x hx)
    exact ⟨k, List.mem_range.mp hk, of_decide_eq_true e⟩
  · obtain ⟨k, hk, e⟩ := List.any_eq_true.mp (List.all_eq_true.mp h2 x hx)
    exact ⟨k, List.mem_range.mp hk, of_decide_eq_true e⟩
  · obtain ⟨k, hk, e⟩ := List.any_eq_true.mp h3
    exact ⟨k, List.mem_range.mp hk, e⟩
theorem perC_spec {c : List Int} (h : goodC c = true) {x : Int} (hx : x ∈ onR c) : iterC c x (perC c x + 1) = x ∧ perC c x < 6 ∧ ∀ j, j < perC c x → iterC c x (j + 1) ≠ x := by
  obtain ⟨k, hk, e⟩ := (good_parts h).1 x hx
  obtain ⟨a, _, b, d⟩ := firstK_spec (fun k => decide (iterC c x (k + 1) = x)) 6 0 ⟨k, Nat.zero_le _, by omega, decide_eq_true e⟩
  exact ⟨of_decide_eq_true a, by unfold perC; omega, fun j hj => of_decide_eq_false (d j (Nat.zero_le _) hj)⟩
theorem depC_spec {c : List Int} (h : goodC c = true) {x : Int} (hx : x ∈ upto c.length) : iterC c x (depC c (onR c) x) ∈ onR c ∧ depC c (onR c) x < 6 ∧ ∀ j, j < depC c (onR c) x → ¬ iterC c x j ∈ onR c := by
  obtain ⟨k, hk, e⟩ := (good_parts h).2.1 x hx
  obtain ⟨a, _, b, d⟩ := firstK_spec (fun k => decide (iterC c x k ∈ onR c)) 6 0 ⟨k, Nat.zero_le _, by omega, decide_eq_true e⟩
  exact ⟨of_decide_eq_true a, by unfold depC; omega, fun j hj => of_decide_eq_false (d j (Nat.zero_le _) hj)⟩
theorem period_spec {c : List Int} (h : goodC c = true) : allDiv (ringsF c) (periodF (ringsF c) : Int) = true ∧ 1 ≤ periodF (ringsF c) ∧ periodF (ringsF c) < 61 ∧ ∀ j, 1 ≤ j → j < periodF (ringsF c) → allDiv (ringsF c) (j : Int) = false := by
  obtain ⟨k, hk, e⟩ := (good_parts h).2.2
  obtain ⟨a, b, d, e⟩ := firstK_spec (fun k => allDiv (ringsF c) (k : Int)) 60 1 ⟨k + 1, by omega, by omega, e⟩
  exact ⟨a, b, by unfold periodF; omega, e⟩
theorem ringAt_len (c : List Int) (x : Int) (k : Nat) : (ringAt c x k).length = k + 1 := by
  unfold ringAt
  rw [List.length_map, List.length_range]
theorem ringAt_succ (c : List Int) (x : Int) (k : Nat) : ringAt c x (k + 1) = ringAt c x k ++ [iterC c x (k + 1)] := by
  unfold ringAt
  rw [List.range_succ, List.map_append]
  rfl
theorem ringAt_last (c : List Int) (x : Int) (k : Nat) : (ringAt c x k).getD k 0 = iterC c x k := by
  unfold ringAt
  rw [List.getD_eq_getElem?_getD, List.getElem?_map, List.getElem?_range (by omega)]
  rfl
theorem perC_le (c : List Int) (x : Int) : perC c x ≤ 6 := by
  have := firstK_le (fun k => decide (iterC c x (k + 1) = x)) 6 0
  unfold perC
  omega
theorem ringF_len (c : List Int) (x : Int) : 1 ≤ (ringF c x).length ∧ (ringF c x).length ≤ 7 := by
  have := perC_le c x
  unfold ringF
  rw [ringAt_len]
  omega
def RgP (acc : List (List Int) × List Int) : Prop := ∀ r ∈ acc.1, 1 ≤ r.length ∧ r.length ≤ 7
theorem rgp_step {c : List Int} (acc : List (List Int) × List Int) (x : Int) (h : RgP acc) : RgP (ringsStep c acc x) := by
  unfold ringsStep
  split
  · exact h
  · intro r hr
    rcases List.mem_append.mp hr with z | z
    · exact h r z
    · rw [List.mem_singleton.mp z]
      exact ringF_len c x
theorem rings_len (c : List Int) : ∀ r ∈ ringsF c, 1 ≤ r.length ∧ r.length ≤ 7 := foldl_inv RgP (fun acc x h => rgp_step acc x h) (onR c) ([], []) fun r hr => absurd hr List.not_mem_nil
theorem ringsFold_len (c : List Int) : ∀ (l : List Int) (acc : List (List Int) × List Int), (l.foldl (ringsStep c) acc).1.length ≤ acc.1.length + l.length ∧ (l.foldl (ringsStep c) acc).2.length ≤ acc.2.length + 7 * l.length
  | [], acc => ⟨Nat.le_refl _, Nat.le_refl _⟩
  | x :: l, acc => by
    obtain ⟨h1, h2⟩ := ringsFold_len c l (ringsStep c acc x)
    have h3 : (ringsStep c acc x).1.length ≤ acc.1.length + 1 ∧ (ringsStep c acc x).2.length ≤ acc.2.length + 7 := by
      have := ringF_len c x
      unfold ringsStep
      split
      · omega
      · rw [List.length_append, List.length_append]
        simp only [List.length_cons, List.length_nil]
        omega
    rw [List.foldl_cons, List.length_cons]
    omega
section
variable {K : PySem.W.Frag} {σ : L2.St} {H : Hp} {ta tb te : TE}
theorem inV_int (n : Int) (ns : List Int) : inV (.int n) (ns.map V.int) = decide (n ∈ ns) := by
  unfold inV
  rw [List.any_map]
  induction ns with
  | nil => rfl
  | cons x ns ih =>
    rw [List.any_cons, ih]
    show ((x == n) || _) = _
    by_cases e : x = n
    · subst e
      simp
    · have e' : ¬ n = x := fun z => e z.symm
      simp [e, e', List.mem_cons]
theorem flat_ints (ns : List Int) : (ns.map V.int).all flatV = true := by
  rw [List.all_map, List.all_eq_true]
  intro x _
  rfl
/-- n not in ns -/
theorem ev_nin {a : Addr} {n : Int} {ns : List Int} (h : Ev ta σ H (.int n)) (h2 : Ev tb σ H (.ref a)) (ha : SqL K H a (ns.map V.int)) : Ev (tOp (rIn K true) ta tb) σ H (.bl (!decide (n ∈ ns))) := by
  have q := ev_op h h2 (rv_niL (x := .int n) ha rfl (flat_ints ns))
  rw [inV_int] at q
  exact q
/-- tuple(a list that stands) -/
theorem eu_tupOfV {a : Addr} {xs : List V} (h : Ev te σ H (.ref a)) (ha : SqL K H a xs) : EvU (tThen te (kTup K)) σ H xs := fun H1 e Q q =>
  h H1 e _ fun H2 e2 => .inl ⟨a, xs, rfl, ex_l (e.trans e2) ha, fun t ht => q t _ (fresh_back e2 ht) (e2.trans (Ex.new ht)) upd_same⟩
abbrev rLenQ (K : PySem.W.Frag) : List V → Hp → VK → Prop := fun xs H Q => ∃ p ys, xs = [V.ref p] ∧ (SqL K H p ys ∨ SqT K H p ys) ∧ Q (.int ys.length) H
theorem ev_lenL {a : Addr} {xs : List V} (h : Ev ta σ H (.ref a)) (ha : SqL K H a xs) : Ev (tCB (rLenQ K) (tCons ta tNil)) σ H (.int (xs.length : Int)) := fun H1 e Q q =>
  h H1 e _ fun H2 e2 => ⟨a, xs, rfl, .inl (ex_l (e.trans e2) ha), q H2 e2⟩
theorem ev_lenI {a : Addr} {ns : List Int} (h : Ev ta σ H (.ref a)) (ha : SqL K H a (ns.map V.int)) : Ev (tCB (rLenQ K) (tCons ta tNil)) σ H (.int (ns.length : Int)) := by
  have q := ev_lenL h ha
  rw [List.length_map] at q
  exact q
theorem ev_lenTI {a : Addr} {ns : List Int} (h : Ev ta σ H (.ref a)) (ha : SqT K H a (ns.map V.int)) : Ev (tCB (rLenQ K) (tCons ta tNil)) σ H (.int (ns.length : Int)) := by
  have q := ev_lenT h ha
  rw [List.length_map] at q
  exact q
end
theorem ex_upd {B H : Hp} {a : Addr} {o : HO} (e : Ex B H) (h : B a = none) : Ex B (upd H a o) := e.mut h
/-- a tuple of ints, new -/
def TiF (B : Hp) : Hp → V → List Int → Prop := fun H v ns => ∃ a, v = .ref a ∧ B a = none ∧ H a = some (.tup (ns.map V.int))
theorem mon_tif {B : Hp} : Mon (TiF B) := fun _ _ _ _ e ⟨a, h1, h0, h2⟩ => ⟨a, h1, h0, e _ _ h2⟩
def spRings (K : PySem.W.Frag) : Sp := fun vs H Q _ => ∃ (a : Addr) (m : Int) (c : List Int), vs = [V.ref a] ∧ SqT K H a (c.map V.int) ∧ Pm m ∧ c ∈ charts m ∧ ∀ p xs H', H p = none → Ex H H' → H' p = some (.lst xs) → Paired (TiF H H') xs (ringsF c) → Q (.ref p) H'
def spLDepths (K : PySem.W.Frag) : Sp := fun vs H Q _ => ∃ (a : Addr) (m : Int) (c : List Int), vs = [V.ref a] ∧ SqT K H a (c.map V.int) ∧ Pm m ∧ c ∈ charts m ∧ ∀ p H', H p = none → Ex H H' → H' p = some (.lst ((depthsF c).map V.int)) → Q (.ref p) H'
def spLPeriod (K : PySem.W.Frag) : Sp := fun vs H Q _ => ∃ (a : Addr) (m : Int) (c : List Int) (xs : List V), vs = [V.ref a] ∧ SqL K H a xs ∧ Paired (TiP H) xs (ringsF c) ∧ Pm m ∧ c ∈ charts m ∧ ∀ H', Ex H H' → Q (.int (periodF (ringsF c))) H'
section
variable {K : PySem.W.Frag} {σ : L2.St} {H : Hp} {ta : TE}
theorem el_on {a : Addr} {m : Int} {c : List Int} (h : Ev ta σ H (.ref a)) (hs : SqT K H a (c.map V.int)) (hm : Pm m) (ok : ChOk m c) : EvL (tCall (spOn K) [] E0 (tCons ta tNil)) σ H ((onR c).map V.int) := fun H1 e Q q =>
  h H1 e _ fun H2 e2 => ⟨a, m, c, rfl, ex_t (e.trans e2) hs, hm, ok, fun p H3 hp e3 h3 => q p H3 (fresh_back e2 hp) (e2.trans e3) h3⟩
end
section
variable {P : Program} {w : World} {K : PySem.W.Frag} {mg : Str → Option Value} {base : Heap}
abbrev DOn (P : Program) (w : World) (K : PySem.W.Frag) (mg : Str → Option Value) (base : Heap) : Prop := Df P w K mg base "_law_on_rings" 1 ["_law_chart"] (spOn K)
theorem d_rings (T : At K mg "_law_rings" sRings) (B : Tx mg) (DO : DOn P w K mg base) : Df P w K mg base "_law_rings" 2 ["_law_chart"] (spRings K) := by
  refine df_of T scRings (fun _ _ _ _ _ _ us hl => match us, hl with | [_], _ => rfl) (fun vs H Q E h => ?_) (fun f cdv A outer s H vs Q E hr h => ?_)
  · obtain ⟨a, m, c, rfl, _⟩ := h
    rfl
  · obtain ⟨a, m, c, rfl, hs, hm, hc, q⟩ := h
    have ok := chart_ok hm hc
    have gd := good_chart hm hc
    refine ⟨_, pss_cons (ps_par (i := 1) (j := 2) (by rfl) scRings.nd rfl rfl (by decide) rfl rfl (pa_cons (pe_lst pa_nil) (pa_cons (pe_lst pa_nil) pa_nil)) (by rfl))
      (pss_cons (ps_for PassesOwn.never rfl (pi_list (pe_df DO hr (pa_cons (pv 0) pa_nil))) (pg_name (i := 3) scRings.nd rfl (.inl rfl))
        (pss_one (ps_if (pt_cmpR op_notIn_seq (pv 3) (pv 2) (by with_unfolding_all rfl))
          (pss_cons (ps_set (i := 4) scRings.nd rfl (.inl rfl) (pe_lst (pa_cons (pv 3) pa_nil)))
          (pss_cons (ps_while PassesOwn.never (pt_cmpR op_ne (pe_ix ix_tup (pv 0) (pe_ix ix_list (pv 4) (pe_op op_sub (pe_callB call_len_seq (by rfl) B.len PySem.boot_len (pa_cons (pv 4) pa_nil)) pe_int) (fun _ _ => rfl)) (fun _ _ => rfl)) (pv 3) (nomark _))
            (pss_one (ps_expr (pe_bm PySem.F.plainAttrs_list PySem.F.slot_list_append PySem.F.type_list_append mt_append (pv 4) (pa_cons (pe_ix ix_tup (pv 0) (pe_ix ix_list (pv 4) (pe_op op_sub (pe_callB call_len_seq (by rfl) B.len PySem.boot_len (pa_cons (pv 4) pa_nil)) pe_int) (fun _ _ => rfl)) (fun _ _ => rfl)) pa_nil)))))
          (pss_cons (ps_expr (pe_bm PySem.F.plainAttrs_list PySem.F.slot_list_append PySem.F.type_list_append mt_append (pv 1) (pa_cons (pe_tupleOf (by rfl) B.tuple (pv 4)) pa_nil)))
          (pss_one (ps_set (i := 2) scRings.nd rfl (.inl rfl) (pe_op op_cat (pv 2) (pv 4))))))) pss_nil)))
      (pss_one (ps_ret (pv 1)))), ?_⟩
    refine ⟨Nat.zero_le _, fun fl hfl => ⟨Nat.zero_le _, fun sl hsl => ⟨.ref fl, .ref sl, rfl, ?_⟩⟩⟩
    have e0 : Ex H (upd (upd H fl (.lst [])) sl (.lst [])) := (Ex.new hfl).trans (Ex.new hsl)
    have hf0 : upd (upd H fl (.lst [])) sl (.lst []) fl = some (.lst []) := (Ex.new hsl) fl _ upd_same
    have hs0 : upd (upd H fl (.lst [])) sl (.lst []) sl = some (.lst []) := upd_same
    have onok := onR_ok ok
    refine q_forNL (xs := (onR c).map V.int) (el_on (m := m) (ev_var rfl) (ex_t e0 hs) hm ok)
      (fun p i σ' H' => ∃ y3 y4 s ts, σ' = [some (.ref a), some (.ref fl), some (.ref s), y3, y4] ∧ Ex H H' ∧ s ≠ fl ∧ H s = none ∧ H p = none ∧ p ≠ fl ∧ H' p = some (.lst ((onR c).map V.int)) ∧ H' fl = some (.lst ts) ∧ Paired (TiF H H') ts (((onR c).take i).foldl (ringsStep c) ([], [])).1 ∧ H' s = some (.lst ((((onR c).take i).foldl (ringsStep c) ([], [])).2.map V.int)))
      (fun p H1 np e1 hp => ⟨_, _, sl, [], rfl, e0.trans e1, ?_, fresh_back (Ex.new hfl) hsl, fresh_back e0 np, ?_, hp, e1 fl _ hf0, .nil, e1 sl _ hs0⟩) (fun p i σ' H' _ hp => ?_) (fun p i x σ' H' hi hp => ?_) (fun p σ' H' hp => ?_)
    · exact (ne_of_none (h := upd_same) hsl).symm
    · exact (ne_of_none hf0 np).symm
    · obtain ⟨_, _, _, _, _, _, _, _, _, _, h, _⟩ := hp
      exact sq_of h
    · obtain ⟨y3, y4, s, ts, rfl, e, nsf, ns, np, npf, hp, hf, pts, hsn⟩ := hp
      rw [List.getElem?_map] at hi
      obtain ⟨n, hn, ex⟩ := Option.map_eq_some_iff.mp hi
      subst ex
      have hmem := List.mem_of_getElem? hn
      have hnb := onok.1 n hmem
      have bl := ringsFold_len c ((onR c).take i) ([], [])
      have lt := List.length_take_le' i (onR c)
      have ll := onok.2
      have step : ((onR c).take (i + 1)).foldl (ringsStep c) ([], []) = ringsStep c (((onR c).take i).foldl (ringsStep c) ([], [])) n := foldl_take _ _ hn
      rw [step]
      generalize hacc : ((onR c).take i).foldl (ringsStep c) ([], []) = acc at pts hsn bl
      have bl1 : acc.1.length ≤ 5 ∧ acc.2.length ≤ 35 := by
        simp only [List.length_nil] at bl
        omega
      have lts : ts.length = acc.1.length := Paired.length pts
      refine s_when (b := !decide (n ∈ acc.2)) (et_test (ev_nin (ev_var rfl) (ev_var rfl) (sq_of hsn))) (fun hb H1 e1 => ?_) (fun hb H1 e1 => ?_)
      · have hnot : ¬ n ∈ acc.2 := by
          intro z
          rw [decide_eq_true z] at hb
          cases hb
        obtain ⟨pc1, pc2, pc3⟩ := perC_spec gd hmem
        refine q_asgL (xs := (ringAt c n 0).map V.int) (el_lst (ea_cons (ev_var rfl) ea_nil) (by show 1 ≤ _; omega)) fun r H2 nr e2 hr2 => ?_
        have rfl' : r ≠ fl := (ne_of_none (e1 fl _ hf) nr).symm
        have rs' : r ≠ s := (ne_of_none (e1 s _ hsn) nr).symm
        have e12 := e1.trans e2
        have erB : Ex H1 (offH H2 r) := off_ex e2 nr
        have nrB : offH H2 r r = none := offH_same
        have eBr : Ex (offH H2 r) H2 := ex_off
        generalize offH H2 r = B2 at erB nrB eBr
        have eB := e1.trans erB
        refine q_while (fun k' σ' H3 => ∃ k, k' + k = perC c n ∧ σ' = [some (.ref a), some (.ref fl), some (.ref s), some (.int n), some (.ref r)] ∧ Ex B2 H3 ∧ H3 r = some (.lst ((ringAt c n k).map V.int))) (perC c n)
          ⟨0, rfl, rfl, eBr, hr2⟩ fun k' σ' H3 hw => ?_
        obtain ⟨k, hk, rfl, e3, hr3⟩ := hw
        have itb := iterC_ok ok hnb.1 hnb.2 k
        have ehs : SqT K H3 a (c.map V.int) := ex_t ((e.trans eB).trans e3) hs
        have lastev : ∀ {H4 : Hp}, Ex H3 H4 → Ev (tOp (rIxT K) (tVar 0) (tOp (rIxL K) (tVar 4) (tOp (rI0 fun i j => .int (i - j)) (tCB (rLenQ K) (tCons (tVar 4) tNil)) (tC (.int 1))))) [some (.ref a), some (.ref fl), some (.ref s), some (.int n), some (.ref r)] H4 (.int (iterC c n (k + 1))) := by
          intro H4 e4
          refine ev_at (m := m) (ev_var rfl) (ev_ixL (v := .int (iterC c n k)) (i := (k : Int)) (ev_var rfl) (ev_is (ev_sub (ev_lenI (a := r) (ev_var rfl) (sq_of (e4 r _ hr3))) ev_c) ?_) (sq_of (e4 r _ hr3)) ?_) (ex_t e4 ehs) ok itb.1 itb.2
          · rw [ringAt_len]
            congr 1
            omega
          · rw [← ringAt_last c n k]
            exact at_map (getD_some (by rw [ringAt_len]; omega))
        refine ⟨!decide (iterC c n (k + 1) = n), et_test (ev_ne (lastev (Ex.refl _)) (ev_var rfl)), fun hb3 H4 e4 => ?_, fun hb3 H4 e4 => ?_⟩
        · have hne : ¬ iterC c n (k + 1) = n := by
            intro z
            rw [decide_eq_true z] at hb3
            cases hb3
          have hkp : k ≠ perC c n := fun z => hne (by rw [z]; exact pc1)
          refine ⟨fun σ' H3 => ∃ k', k' + (k + 1) = perC c n ∧ σ' = [some (.ref a), some (.ref fl), some (.ref s), some (.int n), some (.ref r)] ∧ Ex B2 H3 ∧ H3 r = some (.lst ((ringAt c n (k + 1)).map V.int)), fun σ2 H5 ⟨k2, h1, h2⟩ => ⟨k2, by omega, k + 1, h1, h2⟩, ?_⟩
          refine s_app (l := r) (xs := (ringAt c n k).map V.int) (v := .int (iterC c n (k + 1))) (e4 r _ hr3) (ev_var rfl) (lastev e4) (by rw [List.length_map, ringAt_len]; omega) fun H5 e5 => ⟨perC c n - (k + 1), by omega, rfl, ((e3.trans e4).trans e5).mut nrB, ?_⟩
          rw [upd_same, ringAt_succ, List.map_append]
          rfl
        · have heq : iterC c n (k + 1) = n := by
            cases hz : decide (iterC c n (k + 1) = n) with
            | true => exact of_decide_eq_true hz
            | false =>
              rw [hz] at hb3
              cases hb3
          have hkp : k = perC c n := by
            rcases Nat.lt_or_ge k (perC c n) with z | z
            · exact absurd heq (pc3 k z)
            · omega
          have hr4 := e4 r _ hr3
          rw [hkp] at hr4
          have e34 := e3.trans e4
          refine q_appU (l := fl) (xs := ts) ((erB.trans e34) fl _ (e1 fl _ hf)) (ev_var rfl) (eu_tupOfV (a := r) (ev_var rfl) (sq_of hr4)) (by omega) fun t H5 nt e5 ht => ?_
          have t_f : t ≠ fl := (ne_of_none ((erB.trans e34) fl _ (e1 fl _ hf)) nt).symm
          have hs5 : upd H5 fl (.lst (ts ++ [.ref t])) s = some (.lst (acc.2.map V.int)) := by
            rw [upd_ne nsf]
            exact e5 s _ ((erB.trans e34) s _ (e1 s _ hsn))
          have hr5 : upd H5 fl (.lst (ts ++ [.ref t])) r = some (.lst ((ringF c n).map V.int)) := by
            rw [upd_ne rfl']
            exact e5 r _ hr4
          have rl := ringF_len c n
          refine s_asgL (xs := (acc.2 ++ ringF c n).map V.int) ?_ fun s2 H6 ns2 e6 hs6 => ?_
          · rw [List.map_append]
            exact el_vcatV (a := s) (b := r) (ev_var rfl) (ev_var rfl) hs5 hr5 (by rw [List.length_map, List.length_map]; omega)
          · have ebig : Ex H' H5 := (eB.trans e34).trans e5
            have e5f : Ex H (upd H5 fl (.lst (ts ++ [.ref t]))) := (e.trans ebig).mut hfl
            have res : ringsStep c acc n = (acc.1 ++ [ringF c n], acc.2 ++ ringF c n) := by
              unfold ringsStep
              rw [if_neg hnot]
            rw [res]
            have tiup : ∀ {v : V} {ns : List Int}, TiF H H' v ns → TiF H H6 v ns := fun ⟨b, h1, h0, h2⟩ => ⟨b, h1, h0, e6 b _ (by
              rw [upd_ne (ne_of h2 hf (by intro z; cases z))]
              exact ebig b _ h2)⟩
            refine ⟨_, _, s2, ts ++ [.ref t], rfl, e5f.trans e6, ?_, fresh_back e5f ns2, np, npf, e6 p _ (by rw [upd_ne npf]; exact ebig p _ hp), e6 fl _ upd_same, ?_, hs6⟩
            · exact (ne_of_none (h := upd_same) ns2).symm
            · exact paired_snoc (paired_all (fun _ _ z => tiup z) pts) ⟨t, rfl, fresh_back (e.trans (eB.trans e34)) nt, e6 t _ (by rw [upd_ne t_f]; exact ht)⟩
      · have hin : n ∈ acc.2 := by
          cases hz : decide (n ∈ acc.2) with
          | true => exact of_decide_eq_true hz
          | false =>
            rw [hz] at hb
            cases hb
        have res : ringsStep c acc n = acc := by
          unfold ringsStep
          rw [if_pos hin]
        rw [res]
        exact ⟨_, _, s, ts, rfl, e.trans e1, nsf, ns, np, npf, e1 p _ hp, e1 fl _ hf, paired_up mon_tif e1 pts, e1 s _ hsn⟩
    · obtain ⟨y3, y4, s, ts, rfl, e, nsf, ns, np, npf, hp, hf, pts, hsn⟩ := hp
      rw [List.length_map, List.take_of_length_le (Nat.le_refl _)] at pts
      exact s_ret (v := .ref fl) (ev_var rfl) fun H3 e3 => q fl ts H3 hfl (e.trans e3) (e3 fl _ hf) (paired_up mon_tif e3 pts)
end
end K54
/-! K54G4: _law_depths, _law_period. -/
namespace K54
open PySem PySem.Spec PyProof.Rows L2 Evl

theorem upto_succ (n : Nat) : upto (n + 1) = upto n ++ [(n : Int)] := by
  unfold upto
  rw [List.range_succ, List.map_append]
  rfl
theorem bne_true {p : Prop} [Decidable p] (h : (!decide p) = true) : ¬ p := by
  intro z
  rw [decide_eq_true z] at h
  cases h
theorem bne_false {p : Prop} [Decidable p] (h : (!decide p) = false) : p := by
  cases hz : decide p with
  | true => exact of_decide_eq_true hz
  | false =>
    rw [hz] at h
    cases h
abbrev dT (ns : List Int) : PyData := .tuple (dIs ns)
theorem canLay_ints : ∀ l : List Int, PyData.canLayAll0 (dIs l) = true
  | [] => rfl
  | x :: r => by
    show PyData.canLayAll0 (.int x :: dIs r) = true
    rw [PyData.canLayAll0, canLay_ints r]
    rfl
theorem canLay_tups : ∀ l : List (List Int), PyData.canLayAll0 (l.map dT) = true
  | [] => rfl
  | x :: r => by
    show PyData.canLayAll0 (dT x :: r.map dT) = true
    rw [PyData.canLayAll0, canLay_tups r, show PyData.canLay0 (dT x) = true by rw [PyData.canLay0]; exact canLay_ints x]
    rfl
theorem depth_tups : ∀ l : List (List Int), PyData.depthAll (l.map dT) ≤ 2
  | [] => by
    show PyData.depthAll [] ≤ 2
    simp [PyData.depthAll]
  | x :: r => by
    have h := depth_tups r
    show PyData.depthAll (dT x :: r.map dT) ≤ 2
    simp only [PyData.depthAll, PyData.depth, PySem.W.depth_ints]
    have := PySem.W.depth_ints x
    first
      | omega
      | (simp; omega)
theorem shaped_tups (l : List (List Int)) : SeqAt.shaped (PyData.list (l.map dT)) = true := by
  have h := depth_tups l
  unfold SeqAt.shaped
  rw [show (PyData.list (l.map dT)).canLay0 = true by rw [PyData.canLay0]; exact canLay_tups l]
  have d : (PyData.list (l.map dT)).depth ≤ 64 := by
    simp only [PyData.depth]
    omega
  rw [Bool.true_and]
  exact decide_eq_true d
section
variable {K : PySem.W.Frag} {σ : L2.St} {H : Hp} {ta tb te : TE}
theorem EvFP.tupsD {rs : List (List Int)} (h : EvFP TiP te σ H rs) : EvD K te σ H (.list (rs.map dT)) := fun H1 e Q q =>
  (EvFP.lst (K := K) mon_ti h) H1 e Q fun v Hn H2 g hp => q v Hn H2 g (lst_dat (f := dT) (lst_imp (fun _ _ z => ti_dat z) hp))
theorem ed_lst0 : EvD K (tLst tNil) σ H (.list []) := fun H1 e Q q => ⟨Nat.zero_le _, fun p hp => q (.ref p) _ _ ((Gr.refl e).lay (o := .lst []) hp) (.lst (sq_of upd_same) .nil)⟩
end
section
variable {P : Program} {w : World} {K : PySem.W.Frag} {mg : Str → Option Value} {base : Heap}
theorem d_ldepths (T : At K mg "_law_depths" sLDepths) (B : Tx mg) (DO : DOn P w K mg base) : Df P w K mg base "_law_depths" 2 ["_law_chart"] (spLDepths K) := by
  refine df_of T scLDepths (fun _ _ _ _ _ _ us hl => match us, hl with | [_], _ => rfl) (fun vs H Q E h => ?_) (fun f cdv A outer s H vs Q E hr h => ?_)
  · obtain ⟨a, m, c, rfl, _⟩ := h
    rfl
  · obtain ⟨a, m, c, rfl, hs, hm, hc, q⟩ := h
    have ok := chart_ok hm hc
    have gd := good_chart hm hc
    obtain ⟨m1, m2⟩ := id hm
    have hl := ok.1
    refine ⟨_, pss_cons (ps_par (i := 1) (j := 2) (by rfl) scLDepths.nd rfl rfl (by decide) rfl rfl (pa_cons (pe_df DO hr (pa_cons (pv 0) pa_nil)) (pa_cons (pe_lst pa_nil) pa_nil)) (by rfl))
      (pss_cons (ps_for PassesOwn.never rfl (pi_range1 (by rfl) B.range (pa_cons (pe_callB call_len_seq (by rfl) B.len PySem.boot_len (pa_cons (pv 0) pa_nil)) pa_nil)) (pg_name (i := 3) scLDepths.nd rfl (.inl rfl))
        (pss_cons (ps_set (i := 4) scLDepths.nd rfl (.inl rfl) pe_int)
        (pss_cons (ps_while PassesOwn.never (pt_cmpR op_notIn_seq (pv 3) (pv 1) (by with_unfolding_all rfl))
          (pss_cons (ps_set (i := 3) scLDepths.nd rfl (.inl rfl) (pe_ix ix_tup (pv 0) (pv 3) (fun _ _ => rfl)))
          (pss_one (ps_set (i := 4) scLDepths.nd rfl (.inl rfl) (pe_op op_add (pv 4) pe_int)))))
        (pss_one (ps_expr (pe_bm PySem.F.plainAttrs_list PySem.F.slot_list_append PySem.F.type_list_append mt_append (pv 2) (pa_cons (pv 4) pa_nil)))))))
      (pss_one (ps_ret (pv 2)))), ?_⟩
    refine (el_on (m := m) (ev_var rfl) hs hm ok) H (Ex.refl H) _ fun t H1 nt e1 ht => ⟨Nat.zero_le _, fun fl hfl => ⟨.ref t, .ref fl, rfl, ?_⟩⟩
    have nf : H fl = none := fresh_back e1 hfl
    have e0 : Ex H (upd H1 fl (.lst [])) := e1.trans (Ex.new hfl)
    have ht0 : upd H1 fl (.lst []) t = some (.lst ((onR c).map V.int)) := (Ex.new hfl) t _ ht
    have ntf : t ≠ fl := ne_of_none ht hfl
    have hl' : Ev (tCB (rLenQ K) (tCons (tVar 0) tNil)) (((start ["_law_chart", "_law_there", "_law_found", "_law_x", "_law_steps"] [.ref a]).set 1 (some (.ref t))).set 2 (some (.ref fl))) (upd H1 fl (.lst [])) (.int (c.length : Int)) := ev_lenTI (a := a) (ev_var rfl) (ex_t e0 hs)
    refine q_forR1 (n := c.length) (ea_cons hl' ea_nil) ⟨by omega, by omega⟩ (fun i σ' H' => ∃ y3 y4, σ' = [some (.ref a), some (.ref t), some (.ref fl), y3, y4] ∧ Ex H H' ∧ H' t = some (.lst ((onR c).map V.int)) ∧ H' fl = some (.lst (((upto i).map fun x => (depC c (onR c) x : Int)).map V.int)))
      (fun H3 e3 => ⟨_, _, rfl, e0.trans e3, e3 t _ ht0, e3 fl _ upd_same⟩) (fun i σ' H' hi hp => ?_) (fun σ' H' hp => ?_)
    · obtain ⟨y3, y4, rfl, e, ht', hf⟩ := hp
      refine q_asg ev_c fun H2 e2 => ?_
      have hx : ((i : Nat) : Int) ∈ upto c.length := mem_upto.mpr ⟨by omega, by omega⟩
      obtain ⟨dc1, dc2, dc3⟩ := depC_spec gd hx
      refine q_while (fun k' σ' H3 => ∃ k : Nat, k' + k = depC c (onR c) (i : Int) ∧ σ' = [some (.ref a), some (.ref t), some (.ref fl), some (.int (iterC c (i : Int) k)), some (.int (k : Int))] ∧ Ex H' H3) (depC c (onR c) (i : Int))
        ⟨0, rfl, rfl, e2⟩ fun k' σ' H3 hw => ?_
      obtain ⟨k, hk, rfl, e3⟩ := hw
      have itb := iterC_ok ok (x := (i : Int)) (by omega) (by omega) k
      refine ⟨!decide (iterC c (i : Int) k ∈ onR c), et_test (ev_nin (a := t) (ev_var rfl) (ev_var rfl) (sq_of (e3 t _ ht'))), fun hb3 H4 e4 => ?_, fun hb3 H4 e4 => ?_⟩
      · have hne := bne_true hb3
        have hkp : k ≠ depC c (onR c) (i : Int) := fun z => hne (by rw [z]; exact dc1)
        refine ⟨fun σ' H3 => ∃ k', k' + (k + 1) = depC c (onR c) (i : Int) ∧ σ' = [some (.ref a), some (.ref t), some (.ref fl), some (.int (iterC c (i : Int) (k + 1))), some (.int ((k + 1 : Nat) : Int))] ∧ Ex H' H3, fun σ2 H5 ⟨k2, h1, h2⟩ => ⟨k2, by omega, k + 1, h1, h2⟩, ?_⟩
        refine q_asg (v := .int (iterC c (i : Int) (k + 1))) (ev_at (a := a) (m := m) (ev_var rfl) (ev_var rfl) (ex_t ((e.trans e3).trans e4) hs) ok itb.1 itb.2) fun H5 e5 => ?_
        exact s_asg (ev_add (a := (k : Int)) (b := 1) (ev_var rfl) ev_c) fun H6 e6 => ⟨depC c (onR c) (i : Int) - (k + 1), by omega, rfl, ((e3.trans e4).trans e5).trans e6⟩
      · have hin := bne_false hb3
        have hkp : k = depC c (onR c) (i : Int) := by
          rcases Nat.lt_or_ge k (depC c (onR c) (i : Int)) with z | z
          · exact absurd hin (dc3 k z)
          · omega
        have e34 := e3.trans e4
        refine s_app (l := fl) (xs := ((upto i).map fun x => (depC c (onR c) x : Int)).map V.int) (v := .int (k : Int)) (e34 fl _ hf) (ev_var rfl) (ev_var rfl) (by rw [List.length_map, List.length_map]; unfold upto; rw [List.length_map, List.length_range]; omega) fun H5 e5 => ⟨_, _, rfl, ((e.trans e34).trans e5).mut nf, ?_, ?_⟩
        · rw [upd_ne ntf]
          exact (e34.trans e5) t _ ht'
        · rw [upd_same, upto_succ, List.map_append, List.map_append, hkp]
          rfl
    · obtain ⟨y3, y4, rfl, e, ht', hf⟩ := hp
      exact s_ret (v := .ref fl) (ev_var rfl) fun H3 e3 => q fl H3 nf (e.trans e3) (e3 fl _ hf)
theorem d_lperiod (T : At K mg "_law_period" sLPeriod) (B : Tx mg) : Df P w K mg base "_law_period" 1 ["_law_rings_here"] (spLPeriod K) := by
  refine df_of T scLPeriod (fun _ _ _ _ _ _ us hl => match us, hl with | [_], _ => rfl) (fun vs H Q E h => ?_) (fun f cdv A outer s H vs Q E hr h => ?_)
  · obtain ⟨a, m, c, xs, rfl, _⟩ := h
    rfl
  · obtain ⟨a, m, c, xs, rfl, hs, hx, hm, hc, q⟩ := h
    have gd := good_chart hm hc
    obtain ⟨p1, p2, p3, p4⟩ := period_spec gd
    have rl := rings_len c
    refine ⟨_, pss_cons (ps_set (i := 1) scLPeriod.nd rfl (.inr rfl) pe_int)
      (pss_cons (ps_while PassesOwn.never (pt_cmpR (op_neD hr.units) (pe_lc (own := [("_law_ring", 2)]) (g := gName 2)
          (tt := tTest (tOp rNe (tOp (rI CMul fun i j => .int (i * j)) (tOp (rI CDiv fun i j => .int (i / j)) (tVar 1) (tCB (rLenQ K) (tCons (tVar 2) tNil))) (tCB (rLenQ K) (tCons (tVar 2) tNil))) (tVar 1))) (te := tVar 2) (by rfl) scLPeriod.nd
          (pi_list (pv 0)) (blkOk_by (N := ["_law_rings_here", "_law_found", "_law_ring"]) (sc := defScope sLPeriod) (by decide +kernel))
          (fun _ _ _ _ _ => pg_name (i := 2) scLPeriod.nd rfl (Or.inl rfl))
          (fun _ _ _ _ _ => pts_one (pt_cmpR op_ne (pe_op op_mul (pe_op op_fdiv (pv 1) (pe_callB (r := rLenQ K) call_len_seq (by rfl) B.len PySem.boot_len (pa_cons (pv 2) pa_nil))) (pe_callB (r := rLenQ K) call_len_seq (by rfl) B.len PySem.boot_len (pa_cons (pv 2) pa_nil))) (pv 1) (nomark _)))
          (fun _ _ _ _ _ => pv 2)) (pe_lst pa_nil) (nomark _))
        (pss_one (ps_set (i := 1) scLPeriod.nd rfl (.inr rfl) (pe_op op_add (pv 1) pe_int))))
      (pss_one (ps_ret (pv 1)))), ?_⟩
    refine q_asg ev_c fun H1 e1 => ?_
    refine q_while (fun k' σ' H3 => ∃ k : Nat, 1 ≤ k ∧ k' + k = periodF (ringsF c) ∧ σ' = [some (.ref a), some (.int (k : Int)), none] ∧ Ex H H3) (periodF (ringsF c) - 1)
      ⟨1, Nat.le_refl _, by omega, rfl, e1⟩ fun k' σ' H3 hw => ?_
    obtain ⟨k, k1, hk, rfl, e3⟩ := hw
    have hflt : ∀ rs : List (List Int), (!PyData.eqv (.list ((rs.filter fun r => !decide ((k : Int) / (r.length : Int) * (r.length : Int) = (k : Int))).map dT)) (.list [])) = !allDiv rs (k : Int) := by
      intro rs
      unfold allDiv
      induction rs with
      | nil => simp [PyData.eqv, PyData.eqvAll]
      | cons r rs ih =>
        rw [List.filter_cons, List.all_cons]
        by_cases z : (k : Int) / (r.length : Int) * (r.length : Int) = (k : Int)
        · rw [decide_eq_true z]
          exact ih
        · rw [decide_eq_false z]
          simp [PyData.eqv, PyData.eqvAll]
    refine ⟨!allDiv (ringsF c) (k : Int), ?_, fun hb3 H4 e4 => ?_, fun hb3 H4 e4 => ?_⟩
    · rw [← hflt]
      refine et_test (ev_neD (EvFP.tupsD ?_) ed_lst0 (shaped_tups _) (by decide +kernel))
      have fl := ep_lcL (K := K) (tl := tVar 0) (t := tTest (tOp rNe (tOp (rI CMul fun i j => .int (i * j)) (tOp (rI CDiv fun i j => .int (i / j)) (tVar 1) (tCB (rLenQ K) (tCons (tVar 2) tNil))) (tCB (rLenQ K) (tCons (tVar 2) tNil))) (tVar 1))) (te := tVar 2) (j := 2) (vs := [2]) (σ := [some (.ref a), some (.int (k : Int)), none]) (Hb := H3) (P := TiP) (R := TiP)
        (as := ringsF c) (fun r => !decide ((k : Int) / (r.length : Int) * (r.length : Int) = (k : Int))) (fun r => r) mon_ti mon_ti (ep_ls (a := a) (ev_var rfl) (ex_l e3 hs) (paired_up mon_ti e3 hx))
        (by
          have := (ringsFold_len c (onR c) ([], [])).1
          have l2 := (onR_ok (chart_ok hm hc)).2
          simp only [List.length_nil] at this
          unfold ringsF
          omega) (fun _ => rfl) (fun x r H1 e hr2 hp => ?_) (fun x r H1 e hr2 hp _ => ep_var rfl hp)
      · rw [List.map_id'] at fl
        exact fl
      · obtain ⟨b, rfl, hb⟩ := hp
        have hlr := rl r hr2
        have lv : Ev (tCB (rLenQ K) (tCons (tVar 2) tNil)) [some (V.ref a), some (V.int (k : Int)), some (V.ref b)] H1 (.int (r.length : Int)) := ev_lenTI (ev_var rfl) (st_of hb)
        exact et_test (ev_ne (ev_mul (ev_fdiv (ev_var rfl) lv ⟨by omega, by omega⟩) lv (.inr ⟨by omega, by omega⟩)) (ev_var rfl))
    · have hkp : k ≠ periodF (ringsF c) := fun z => by
        rw [z, p1] at hb3
        cases hb3
      refine ⟨fun σ' H3 => ∃ k', k' + (k + 1) = periodF (ringsF c) ∧ σ' = [some (.ref a), some (.int ((k + 1 : Nat) : Int)), none] ∧ Ex H H3, fun σ2 H5 ⟨k2, h1, h2⟩ => ⟨k2, by omega, k + 1, by omega, h1, h2⟩, ?_⟩
      exact s_asg (ev_add (a := (k : Int)) (b := 1) (ev_var rfl) ev_c) fun H6 e6 => ⟨periodF (ringsF c) - (k + 1), by omega, rfl, (e3.trans e4).trans e6⟩
    · have hkp : k = periodF (ringsF c) := by
        rcases Nat.lt_or_ge k (periodF (ringsF c)) with z | z
        · have := p4 k k1 z
          rw [this] at hb3
          cases hb3
        · omega
      rw [← hkp] at q
      exact s_ret (v := .int (k : Int)) (ev_var rfl) fun H5 e5 => q H5 ((e3.trans e4).trans e5)
end
end K54
/-! K54G5: _law_tally. -/
namespace K54
open PySem PySem.Spec PyProof.Rows L2 Evl
open PySem.W (EachIs)

abbrev sTally : Stmt := topS 43
theorem scTally : FnScope ["_law_values", "_law_found", "_law_value"] ["_law_values"] (defScope sTally) := ⟨rfl, rfl, rfl, by decide +kernel, rfl, by decide +kernel, by decide +kernel⟩
def tallyF {κ : Type} [DecidableEq κ] (l : List κ) : List (κ × Int) := l.foldl (fun acc k => addA acc k 1) []
theorem tallyFold_len {κ : Type} [DecidableEq κ] : ∀ (l : List κ) (acc : List (κ × Int)), (l.foldl (fun acc k => addA acc k 1) acc).length ≤ acc.length + l.length
  | [], acc => Nat.le_refl _
  | k :: l, acc => by
    have h1 := tallyFold_len l (addA acc k 1)
    have h2 := addA_len acc k 1
    rw [List.foldl_cons, List.length_cons]
    omega
/-- a new pair of a key's tuple and an int -/
def PairT : Hp → V → (List Int × Int) → Prop := fun H v e => ∃ t b, v = .ref t ∧ H t = some (.tup [.ref b, .int e.2]) ∧ H b = some (.tup (e.1.map V.int))
theorem mon_pairT : Mon PairT := fun _ _ _ _ e ⟨t, b, h1, h2, h3⟩ => ⟨t, b, h1, e _ _ h2, e _ _ h3⟩
theorem each_pairs {α : Type} {R : Addr → α → Prop} {F : V → α → Prop} (h : ∀ t a, R t a → F (.ref t) a) : ∀ {ts : List Addr} {as : List α}, EachIs R ts as → Paired F (ts.map V.ref) as
  | _, _, .nil => .nil
  | _, _, .cons r s => .cons (h _ _ r) (each_pairs h s)
def spTallyI (K : PySem.W.Frag) : Sp := fun vs H Q _ => ∃ (a : Addr) (ns : List Int), vs = [V.ref a] ∧ SqL K H a (ns.map V.int) ∧ ns.length ≤ 5000 ∧
  ∀ p xs H', H p = none → Ex H H' → H' p = some (.lst xs) → Paired (PairP H') xs ((tallyF ns).mergeSort (PySem.W.dataLe false datI)) → Q (.ref p) H'
def spTallyT (K : PySem.W.Frag) : Sp := fun vs H Q _ => ∃ (a : Addr) (xs : List V) (ls : List (List Int)), vs = [V.ref a] ∧ SqL K H a xs ∧ Paired (TiP H) xs ls ∧ ls.length ≤ 5000 ∧
  ∀ p ys es H', H p = none → Ex H H' → H' p = some (.lst ys) → es.Perm (tallyF ls) → Paired (PairT H') ys es → Q (.ref p) H'
section
variable {K : PySem.W.Frag} {σ : L2.St} {H : Hp} {ta tb tk te : TE} {D : Ends} {tz : TS}
theorem ev_getT {a b : Addr} {kvs : List (List Int × Int)} {k : List Int} (h : Ev ta σ H (.ref a)) (hk : Ev tk σ H (.ref b)) (ha : H a = some (.dT (kvs.map entL))) (hb : H b = some (.tup (k.map V.int))) : Ev (tDGet2 ta tk (tC (.int 0))) σ H (.int (getA kvs k)) := fun H1 e Q q =>
  h H1 e _ fun H2 e2 => ⟨a, rfl, .inr ⟨_, .inl ((e.trans e2) a _ ha)⟩, hk H2 (e.trans e2) _ fun H3 e3 => ⟨_, DGet.t (k := k.map Sum.inl) (((e.trans e2).trans e3) a _ ha) (by rw [kV_inl]; exact ((e.trans e2).trans e3) b _ hb), by
    rw [valV_A inls_inj]
    exact q H3 (e2.trans e3)⟩⟩
theorem s_putT {a b : Addr} {kvs : List (List Int × Int)} {k : List Int} {n : Int} (hv : Ev te σ H (.int n)) (h : Ev ta σ H (.ref a)) (hk : Ev tk σ H (.ref b)) (ha : H a = some (.dT (kvs.map entL))) (hb : H b = some (.tup (k.map V.int))) (hl : kvs.length ≤ 10000)
    (q : ∀ H1, Ex H H1 → D.nx σ (upd H1 a (.dT ((putA kvs k n).map entL)))) : sDPut ta tk te D σ H :=
  hv H (Ex.refl H) _ fun H1 e1 => h H1 e1 _ fun H2 e2 => hk H2 (e1.trans e2) _ fun H3 e3 => ⟨a, _, rfl, DPut.t (k := k.map Sum.inl) (((e1.trans e2).trans e3) a _ ha) (by rw [kV_inl]; exact ((e1.trans e2).trans e3) b _ hb) (by rw [List.length_map]; exact sz_lt (by omega)), by
    rw [putK_A inls_inj]
    exact q H3 ((e1.trans e2).trans e3)⟩
end
section
variable {P : Program} {w : World} {K : PySem.W.Frag} {mg : Str → Option Value} {base : Heap}
theorem d_tallyI (T : At K mg "_law_tally" sTally) (B : Tx mg) : Df P w K mg base "_law_tally" 1 ["_law_values"] (spTallyI K) := by
  refine df_of T scTally (fun _ _ _ _ _ _ us hl => match us, hl with | [_], _ => rfl) (fun vs H Q E h => ?_) (fun f cdv A outer s H vs Q E hr h => ?_)
  · obtain ⟨a, ns, rfl, _⟩ := h
    rfl
  · obtain ⟨a, ns, rfl, hs, hl, q⟩ := h
    refine ⟨_, pss_cons (ps_set (i := 1) scTally.nd rfl (.inl rfl) pe_dnewK)
      (pss_cons (ps_for PassesOwn.never rfl (pi_list (pv 0)) (pg_name (i := 2) scTally.nd rfl (.inl rfl))
        (pss_one (ps_dput (un1 hr) (pv 1) (pv 2) (pe_op op_add (pe_dget2 (un1 hr) (pv 1) (pv 2) pe_int ⟨rfl, rfl, rfl, rfl⟩) pe_int) rfl)))
      (pss_one (ps_ret (pe_callB (cr_sortItK rfl hr.units) (by rfl) B.sorted boot_sorted (pa_cons (pe_bm0 PySem.F.plainAttrs_dict PySem.F.slot_dict_items PySem.F.type_dict_items mt_itemsK (pv 1)) pa_nil))))), ?_⟩
    refine fun fd hfd => ?_
    refine q_forL (a := a) (xs := ns.map V.int) (ev_var rfl) (ex_l (Ex.new hfd) hs) (fun i σ' H' => ∃ y2, σ' = [some (.ref a), some (.ref fd), y2] ∧ Ex H H' ∧ H' fd = some (.dK (((ns.take i).foldl (fun acc k => addA acc k 1) []).map entI)))
      (fun H1 e1 => ⟨_, rfl, (Ex.new hfd).trans e1, e1 fd _ upd_same⟩) (fun i σ' H' _ hp => ?_) (fun i x σ' H' hi hp => ?_) (fun σ' H' hp => ?_)
    · obtain ⟨_, _, e, _⟩ := hp
      exact ex_l e hs
    · obtain ⟨y2, rfl, e, hf⟩ := hp
      rw [List.getElem?_map] at hi
      obtain ⟨n, hn, ex⟩ := Option.map_eq_some_iff.mp hi
      subst ex
      have ln := tallyFold_len (ns.take i) []
      have lt := List.length_take_le' i ns
      rw [List.length_nil] at ln
      refine s_putK (a := fd) (ev_add (ev_getK (ev_var rfl) (ev_var rfl) hf) ev_c) (ev_var rfl) (ev_var rfl) hf (by omega) fun H1 e1 => ⟨_, rfl, (e.trans e1).mut hfd, ?_⟩
      rw [upd_same, foldl_take _ _ hn]
      rfl
    · obtain ⟨y2, rfl, e, hf⟩ := hp
      rw [List.length_map, List.take_of_length_le (Nat.le_refl _)] at hf
      refine ⟨.ref fd, rfl, .inr (.inr (.inl ⟨rfl, .inl ⟨_, hf⟩⟩)), fd, _, rfl, rfl, hf, fun v hv => ⟨v, fd, tallyF ns, rfl, upd_same, (Ex.new hv) fd _ hf, fun H2 l ts e2 nl hl2 ea => ?_⟩⟩
      have e3 := (e.trans (Ex.new hv)).trans e2
      exact q l _ H2 (fresh_back (e.trans (Ex.new hv)) nl) e3 hl2 (each_pairs (fun t b z => ⟨t, rfl, z.2⟩) ea)
theorem d_tallyT (T : At K mg "_law_tally" sTally) (B : Tx mg) : Df P w K mg base "_law_tally" 1 ["_law_values"] (spTallyT K) := by
  refine df_of T scTally (fun _ _ _ _ _ _ us hl => match us, hl with | [_], _ => rfl) (fun vs H Q E h => ?_) (fun f cdv A outer s H vs Q E hr h => ?_)
  · obtain ⟨a, xs, ls, rfl, _⟩ := h
    rfl
  · obtain ⟨a, xs, ls, rfl, hs, hx, hl, q⟩ := h
    refine ⟨_, pss_cons (ps_set (i := 1) scTally.nd rfl (.inl rfl) pe_dnewT)
      (pss_cons (ps_for PassesOwn.never rfl (pi_list (pv 0)) (pg_name (i := 2) scTally.nd rfl (.inl rfl))
        (pss_one (ps_dput (un1 hr) (pv 1) (pv 2) (pe_op op_add (pe_dget2 (un1 hr) (pv 1) (pv 2) pe_int ⟨rfl, rfl, rfl, rfl⟩) pe_int) rfl)))
      (pss_one (ps_ret (pe_callB (cr_sortItT rfl hr.units) (by rfl) B.sorted boot_sorted (pa_cons (pe_bm0 PySem.F.plainAttrs_dict PySem.F.slot_dict_items PySem.F.type_dict_items DX.mt_itemsT (pv 1)) pa_nil))))), ?_⟩
    refine fun fd hfd => ?_
    have lx : xs.length = ls.length := Paired.length hx
    refine q_forL (a := a) (xs := xs) (ev_var rfl) (ex_l (Ex.new hfd) hs) (fun i σ' H' => ∃ y2, σ' = [some (.ref a), some (.ref fd), y2] ∧ Ex H H' ∧ H' fd = some (.dT (((ls.take i).foldl (fun acc k => addA acc k 1) []).map entL)))
      (fun H1 e1 => ⟨_, rfl, (Ex.new hfd).trans e1, e1 fd _ upd_same⟩) (fun i σ' H' _ hp => ?_) (fun i x σ' H' hi hp => ?_) (fun σ' H' hp => ?_)
    · obtain ⟨_, _, e, _⟩ := hp
      exact ex_l e hs
    · obtain ⟨y2, rfl, e, hf⟩ := hp
      obtain ⟨n, hn, b, rfl, hb⟩ := paired_at hx hi
      have ln := tallyFold_len (ls.take i) []
      have lt := List.length_take_le' i ls
      rw [List.length_nil] at ln
      refine s_putT (a := fd) (b := b) (k := n) (ev_add (ev_getT (ev_var rfl) (ev_var rfl) hf (e b _ hb)) ev_c) (ev_var rfl) (ev_var rfl) hf (e b _ hb) (by omega) fun H1 e1 => ⟨_, rfl, (e.trans e1).mut hfd, ?_⟩
      rw [upd_same, foldl_take _ _ hn]
      rfl
    · obtain ⟨y2, rfl, e, hf⟩ := hp
      rw [lx, List.take_of_length_le (Nat.le_refl _)] at hf
      refine ⟨.ref fd, rfl, .inr (.inr (.inl ⟨rfl, .inr ⟨_, hf⟩⟩)), fd, _, rfl, rfl, hf, fun v hv => ⟨v, fd, tallyF ls, rfl, upd_same, (Ex.new hv) fd _ hf, fun H2 l ts ps e2 nl hl2 pm ea => ?_⟩⟩
      have e3 := (e.trans (Ex.new hv)).trans e2
      refine q l _ (ps.map (·.1)) H2 (fresh_back (e.trans (Ex.new hv)) nl) e3 hl2 pm ?_
      have z : ∀ {ts : List Addr} {ps : List ((List Int × Int) × Addr)}, EachIs (fun t e => (upd H' v (DX.itemsO v fd)) t = none ∧ (upd H' v (DX.itemsO v fd)) e.2 = some (.tup (e.1.1.map V.int)) ∧ H2 t = some (.tup [.ref e.2, .int e.1.2])) ts ps → Paired (PairT H2) (ts.map V.ref) (ps.map (·.1)) := by
        intro ts ps ea
        induction ea with
        | nil => exact .nil
        | cons r _ ih => exact .cons ⟨_, _, rfl, r.2.2, e2 _ _ r.2.1⟩ ih
      exact z ea
end
end K54
/-! K54G6: keyword calls, defs under no repr, data lists, repr, sorted ints, max, len(set). -/
namespace K54
open PySem PySem.Spec PyProof.Rows L2 Evl

/-! ### sorted ints, max, distinct ones -/
def ins (n : Int) : List Int → List Int
  | [] => [n]
  | x :: l => if n ≤ x then n :: x :: l else x :: ins n l
def isort : List Int → List Int
  | [] => []
  | x :: l => ins x (isort l)
def maxF (ns : List Int) : Int := ns.foldl (fun a b => if a < b then b else a) 0
theorem ins_perm (n : Int) : ∀ l : List Int, (ins n l).Perm (n :: l)
  | [] => .refl _
  | x :: l => by
    unfold ins
    split
    · exact .refl _
    · exact ((ins_perm n l).cons x).trans (.swap n x l)
theorem isort_perm : ∀ l : List Int, (isort l).Perm l
  | [] => .refl _
  | x :: l => (ins_perm x (isort l)).trans ((isort_perm l).cons x)
theorem ins_sorted (n : Int) : ∀ {l : List Int}, l.Pairwise (· ≤ ·) → (ins n l).Pairwise (· ≤ ·)
  | [], _ => List.pairwise_singleton _ _
  | x :: l, h => by
    obtain ⟨h1, h2⟩ := List.pairwise_cons.mp h
    unfold ins
    split
    · refine List.pairwise_cons.mpr ⟨fun y hy => ?_, h⟩
      rcases List.mem_cons.mp hy with e | hy
      · omega
      · have := h1 y hy
        omega
    · refine List.pairwise_cons.mpr ⟨fun y hy => ?_, ins_sorted n h2⟩
      rcases List.mem_cons.mp ((ins_perm n l).mem_iff.mp hy) with e | hy
      · omega
      · exact h1 y hy
theorem isort_sorted : ∀ l : List Int, (isort l).Pairwise (· ≤ ·)
  | [] => .nil
  | x :: l => ins_sorted x (isort_sorted l)
theorem isort_of {a b : List Int} (h : a.Perm b) (hs : a.Pairwise (· ≤ ·)) : a = isort b :=
  List.Perm.eq_of_pairwise (le := fun x y : Int => x ≤ y) (fun x y _ _ h1 h2 => by omega) hs (isort_sorted b) (h.trans (isort_perm b).symm)
theorem isort_len (l : List Int) : (isort l).length = l.length := (isort_perm l).length_eq
theorem maxF_ge : ∀ (ns : List Int) (a : Int), a ≤ ns.foldl (fun a b => if a < b then b else a) a ∧ (∀ y ∈ ns, y ≤ ns.foldl (fun a b => if a < b then b else a) a) ∧ (ns.foldl (fun a b => if a < b then b else a) a = a ∨ ns.foldl (fun a b => if a < b then b else a) a ∈ ns)
  | [], a => ⟨Int.le_refl _, fun y hy => absurd hy List.not_mem_nil, .inl rfl⟩
  | x :: ns, a => by
    obtain ⟨h1, h2, h3⟩ := maxF_ge ns (if a < x then x else a)
    rw [List.foldl_cons]
    have ha : a ≤ (if a < x then x else a) ∧ x ≤ (if a < x then x else a) := by
      split <;> omega
    refine ⟨by omega, fun y hy => ?_, ?_⟩
    · rcases List.mem_cons.mp hy with e | hy
      · omega
      · exact h2 y hy
    · rcases h3 with e | e
      · rw [e]
        split
        · exact .inr List.mem_cons_self
        · exact .inl rfl
      · exact .inr (List.mem_cons_of_mem _ e)
theorem maxF_of {ns : List Int} {m : Int} (h0 : ∀ y ∈ ns, 0 ≤ y) (h1 : m ∈ ns) (h2 : ∀ y ∈ ns, y ≤ m) : m = maxF ns := by
  obtain ⟨a, b, c⟩ := maxF_ge ns 0
  have hm := b m h1
  have h00 := h0 m h1
  unfold maxF
  rcases c with e | e
  · omega
  · have := h2 _ e
    omega
theorem asc_count {ns c : List Int} (nd : ns.Nodup) (h : ∀ k, k ∈ ns ↔ decide (k ∈ c) = true) (hb : ∀ x ∈ c, 0 ≤ x ∧ x < 5) : ns.length = (asc c).length := by
  have nd2 : (asc c).Nodup := (asc_sorted c).imp fun h => Int.ne_of_lt h
  refine List.Perm.length_eq ((List.perm_ext_iff_of_nodup nd nd2).mpr fun k => ?_)
  rw [h k, mem_asc, decide_eq_true_iff]
  exact ⟨fun z => ⟨hb k z, z⟩, fun z => z.2⟩
section
variable {K : PySem.W.Frag} {w : World} {σ : L2.St} {H : Hp} {ta tb te : TE} {D : Ends} {tz : TS}
theorem ev_sumN {ns : List Int} (h : EvL ta σ H (ns.map V.int)) : Ev (tCB (rSum K) (tCons ta tNil)) σ H (.int ns.sum) := fun H1 e Q q =>
  h H1 e _ fun p H2 np e2 hp => ⟨p, ns, rfl, sq_of hp, q H2 e2⟩
theorem el_sortI {ns : List Int} (h : EvL ta σ H (ns.map V.int)) : EvL (tCB (rSortedI K) (tCons ta tNil)) σ H ((isort ns).map V.int) := fun H1 e Q q =>
  h H1 e _ fun p H2 np e2 hp => ⟨p, ns, rfl, sq_of hp, fun ns' r pm so hr => by
    rw [isort_of pm so]
    exact q r _ (fresh_back e2 hr) (e2.trans (Ex.new hr)) upd_same⟩
theorem ev_setlen {a : Addr} {c : List Int} (h : Ev ta σ H (.ref a)) (hs : SqT K H a (c.map V.int)) (hl : c.length ≤ 20) (hb : ∀ x ∈ c, 0 ≤ x ∧ x < 5) : Ev (tCB (rLenSet w) (tCons (tCB (rSetI K w) (tCons ta tNil)) tNil)) σ H (.int ((asc c).length : Nat)) := fun H1 e Q q =>
  h H1 e _ fun H2 e2 => ⟨a, c, rfl, .inr (ex_t (e.trans e2) hs), by omega, fun n p hn hp => ⟨p, _, n, rfl, upd_same, by omega, fun ⟨ns, nd, hm, hl2⟩ => by
    rw [← hl2, asc_count nd hm hb]
    exact q _ (e2.trans (Ex.new hp))⟩⟩
theorem ev_max {a : Addr} {ns : List Int} (h : Ev ta σ H (.ref a)) (hs : SqL K H a (ns.map V.int)) (h0 : 0 < ns.length) (hp : ∀ y ∈ ns, 0 ≤ y) : Ev (tCB (rMax K) (tCons ta tNil)) σ H (.int (maxF ns)) := fun H1 e Q q =>
  h H1 e _ fun H2 e2 => ⟨a, ns, rfl, ex_l (e.trans e2) hs, h0, fun m hm hle => by
    rw [maxF_of hp hm hle]
    exact q H2 e2⟩

/-! ### lists of data -/
theorem ef_lst {t : TA} {ds : List PyData} (h : EvAD K t σ H ds) (hl : ds.length ≤ 100000) : EvF K (tLst t) σ H ds := fun H1 e Q q =>
  h H1 e _ fun vs Hn H2 g hd => ⟨sz_of (by rw [hd.length]; exact hl), fun p hp => q p vs Hn _ (g.more (Ex.new hp)) (fresh_back g.all hp) (fresh_back g.new hp) upd_same hd⟩
theorem ea_2 {d1 d2 : PyData} (h1 : EvD K ta σ H d1) (h2 : EvD K tb σ H d2) : EvAD K (tCons ta (tCons tb tNil)) σ H [d1, d2] := ea_dcons h1 fun _ e => ea_dcons (h2.mono e) fun _ _ => ea_d
theorem ea_1 {d1 : PyData} (h1 : EvD K ta σ H d1) : EvAD K (tCons ta tNil) σ H [d1] := ea_dcons h1 fun _ _ => ea_d
theorem ea_4 {tc td : TE} {d1 d2 d3 d4 : PyData} (h1 : EvD K ta σ H d1) (h2 : EvD K tb σ H d2) (h3 : EvD K tc σ H d3) (h4 : EvD K td σ H d4) : EvAD K (tCons ta (tCons tb (tCons tc (tCons td tNil)))) σ H [d1, d2, d3, d4] :=
  ea_dcons h1 fun _ e => ea_dcons (h2.mono e) fun _ e2 => ea_dcons (h3.mono (e.trans e2)) fun _ e3 => ea_dcons (h4.mono ((e.trans e2).trans e3)) fun _ _ => ea_d
theorem ef_catD {ds es : List PyData} {l : Addr} {xs : List V} (h1 : Ev ta σ H (.ref l)) (hl : H l = some (.lst xs)) (hx : DpAll K H xs ds) (h2 : EvF K tb σ H es) (hz : ds.length + es.length ≤ 100000) : EvF K (tOp rCat ta tb) σ H (ds ++ es) := fun H0 e Q q =>
  h1 H0 e _ fun H1 e1 => h2 H1 (e.trans e1) _ fun p ys Hn H2 g hp hn hH hd =>
    ⟨l, p, xs, ys, rfl, rfl, g.all l _ ((e.trans e1) l _ hl), hH, sz_of (by rw [hx.length, hd.length]; exact hz), fun r hr =>
      q r (xs ++ ys) Hn _ (((Gr.keep e e1).trans g).more (Ex.new hr)) (fresh_back (e1.trans g.all) hr) (fresh_back g.new hr) upd_same (dpAll_append (hx.up g.base) hd)⟩
theorem s_asgD {i : Nat} {ds : List PyData} (h : EvF K te σ H ds) (k : ∀ p xs H1, H p = none → Ex H H1 → H1 p = some (.lst xs) → DpAll K H1 xs ds → D.nx (σ.set i (some (.ref p))) H1) : tAsg te (gName i) D σ H :=
  h H (Ex.refl H) _ fun p xs Hn H1 g hp hn hH hd => k p xs H1 hp g.all hH (hd.up g.new)
theorem q_asgD {i : Nat} {ds : List PyData} (h : EvF K te σ H ds) (k : ∀ p xs H1, H p = none → Ex H H1 → H1 p = some (.lst xs) → DpAll K H1 xs ds → tz D (σ.set i (some (.ref p))) H1) : tSeq (tAsg te (gName i)) tz D σ H := s_asgD (D := { D with nx := tz D }) h k
theorem el_d {ns : List Int} (h : EvL te σ H (ns.map V.int)) : EvD K te σ H (.list (dIs ns)) := (ef_ints h).toD
theorem ev_neS {a : Str} (h : Ev ta σ H (.str a)) (h2 : Ev tb σ H (.str a)) : Ev (tOp rNe ta tb) σ H (.bl false) := by
  have q := ev_op (r := rNe) h h2 (rv_ne rfl)
  have e : decide (V.str a = V.str a) = true := decide_eq_true rfl
  rw [e] at q
  exact q
theorem ev_eqS {a : Str} (h : Ev ta σ H (.str a)) (h2 : Ev tb σ H (.str a)) : Ev (tOp rEq ta tb) σ H (.bl true) := by
  have q := ev_op (r := rEq) h h2 (rv_eq rfl)
  have e : decide (V.str a = V.str a) = true := decide_eq_true rfl
  rw [e] at q
  exact q
end

/-! ### keywords -/
def pr1 {α : Type} (l : List α) : List α := l
def pr2 {α : Type} : List α → List α
  | [a, b] => [b, a]
  | _ => []
def pr3 {α : Type} : List α → List α
  | [c, m, n] => [m, n, c]
  | _ => []
def gOf (π : {α : Type} → List α → List α) {α : Type} : List α → List α → List α
  | [], ws => π ws
  | _ :: _, _ => []
structure DfK (P : Program) (w : World) (K : PySem.W.Frag) (mg : Str → Option Value) (base : Heap) (x : Str) (k : Nat) (ps ks : List Str) (π : {α : Type} → List α → List α) (sp : Sp) : Prop where
  ex : ∃ f fd, FnOk P w K mg base CX0 k f fd ps sp ∧ mg x = some (.ref f) ∧ PySem.W.keepIn K (.ref f) = true ∧ KBinds K fd ps ks (gOf π) (gOf π)
section
variable {P : Program} {w : World} {K : PySem.W.Frag} {mg : Str → Option Value} {base : Heap} {x : Str} {k : Nat} {ps ks : List Str} {sp : Sp} {π : {α : Type} → List α → List α}
theorem dfk_of {st : Stmt} (T : At K mg x st) (D : Df P w K mg base x k ps sp) (hp : 0 < ps.length)
    (hb : ∀ (kV doc pm : Value) (an : Option Addr) (cdv ct : Value) (ws : List Value), (π ws).length = ps.length → bindArgs (PySem.W.fnOf x x (defArgs st) (defBody st) (defScope st) .none kV doc pm an cdv ct) ⟨[], ks.zip ws⟩ = pure (ps.zip (π ws)))
    (hr : ∀ {zs : List V} {ws : List Value}, Vals zs ws → Vals (π zs) (π ws)) : DfK P w K mg base x k ps ks π sp := by
  obtain ⟨f, fd, F, hm⟩ := T.ex
  obtain ⟨f2, fd2, G, hm2, hk, _, oc2, od2, osl2, lk2⟩ := D.ex
  rw [hm] at hm2
  cases hm2
  obtain ⟨oc, od, kV, doc, pm, an, cdv, ct, osl, rfl, lk, code⟩ := F.ex
  rw [lk] at lk2
  cases lk2
  refine ⟨f, _, G, hm, hk, ⟨fun s us ws _ hl => ?_, fun {vs us zs ws} r1 r2 => ?_⟩⟩
  · cases us with
    | nil => exact BindsTo.of_eq (hb kV doc pm an cdv ct ws hl)
    | cons u us =>
      have hl' : ([] : List Value).length = ps.length := hl
      rw [List.length_nil] at hl'
      omega
  · cases r1 with
    | nil => exact hr r2
    | cons _ _ => exact .nil
theorem vals_pr1 {zs : List V} {ws : List Value} (h : Vals zs ws) : Vals (pr1 zs) (pr1 ws) := h
theorem vals_pr2 {zs : List V} {ws : List Value} (h : Vals zs ws) : Vals (pr2 zs) (pr2 ws) := by
  cases h with
  | nil => exact .nil
  | cons a h =>
    cases h with
    | nil => exact .nil
    | cons b h =>
      cases h with
      | nil => exact .cons b (.cons a .nil)
      | cons _ _ => exact .nil
theorem vals_pr3 {zs : List V} {ws : List Value} (h : Vals zs ws) : Vals (pr3 zs) (pr3 ws) := by
  cases h with
  | nil => exact .nil
  | cons a h =>
    cases h with
    | nil => exact .nil
    | cons b h =>
      cases h with
      | nil => exact .nil
      | cons c h =>
        cases h with
        | nil => exact .cons b (.cons c (.cons a .nil))
        | cons _ _ => exact .nil
end
section
variable {X : Cx} {k : Nat} {ps ks : List Str} {sp : Sp} {x : Str} {p pos : Pos} {kws : List Keyword} {tk : TA} {π : {α : Type} → List α → List α}
theorem pe_dfk (D : DfK X.prog X.w X.K X.mg X.base x k ps ks π sp) (hr : Room k X.A) (hkw : PK X kws tk) (hg : Gl X x := by rfl)
    (hall : (backToKw pos (keywordEach kws X.env)).all (·.1.isSome) = true := by rfl)
    (hks : (backToKw pos (keywordEach kws X.env)).filterMap (·.1) = ks := by rfl)
    (hdb : (x == ("__debug__" : Str)) = false := by decide)
    (hpl : ((backTo pos (starEach [] X.env)).any (·.1) || (backToKw pos (keywordEach kws X.env)).any (·.1.isNone)) = false := by rfl) :
    PE X (.Call (.Name x p) [] kws pos) (tCallK sp (gOf π) E0 tNil tk) := by
  obtain ⟨f, fd, F, hm, hk, hb⟩ := D.ex
  exact pe_kw F hr hg hm hk hb pass0 hkw hall hks hdb hpl
end

/-! ### defs under no repr -/
structure DfG (P : Program) (w : World) (K : PySem.W.Frag) (mg : Str → Option Value) (base : Heap) (x : Str) (k : Nat) (ps : List Str) (sp : Sp) : Prop where
  ex : ∃ f fd, FnG P w K mg base k f fd ps sp ∧ mg x = some (.ref f) ∧ PySem.W.keepIn K (.ref f) = true ∧ Binds K fd ps []
section
variable {P : Program} {w : World} {K : PySem.W.Frag} {mg : Str → Option Value} {base : Heap} {x : Str} {k j : Nat} {ps : List Str} {sp : Sp}
theorem dfg_of {st : Stmt} {N : List Str} (T : At K mg x st) (S : FnScope N ps (defScope st))
    (hb : ∀ (kV doc pm : Value) (an : Option Addr) (cdv ct : Value) (us : List Value), us.length = ps.length → bindArgs (PySem.W.fnOf x x (defArgs st) (defBody st) (defScope st) .none kV doc pm an cdv ct) ⟨us, []⟩ = pure (ps.zip us))
    (len : ∀ vs H Q E, sp vs H Q E → vs.length = ps.length)
    (body : ∀ (f : Addr) (cdv : Value) (A : Around) (outer : List Env) (s : Shared) (H : Hp) (vs : List V) (Q : VK) (E : XK), (A.deeper (envOfC x (defScope st) s.heap.objs.size f cdv)).guards = some [] → Room k (A.deeper (envOfC x (defScope st) s.heap.objs.size f cdv)) → sp vs H Q E →
      ∃ t, PSs (cxOf CX0 P w K mg base N x (defScope st) f cdv A outer s H E).nox (defBody st) t ∧ t { nx := fun _ H' => Q .non H', rt := Q } (start N vs) H) : DfG P w K mg base x (k + 1) ps sp := by
  obtain ⟨f, fd, F, hm⟩ := T.ex
  exact ⟨f, fd, Fun_okG F S len fun cdv A outer s H vs Q E hg hr h => body f cdv A outer s H vs Q E hg hr h, hm, F.kp, F.binds hb⟩
end
section
variable {X : Cx} {k : Nat} {ps : List Str} {sp : Sp} {x : Str} {p pos : Pos} {e : Expr} {es : List Expr} {t : TA}
theorem pe_dfg (D : DfG X.prog X.w X.K X.mg X.base x k ps sp) (guards : X.A.guards = some []) (hr : Room k X.A) (ha : PA X (e :: es) t) (hg : Gl X x := by rfl) (hdb : (x == ("__debug__" : Str)) = false := by decide)
    (he : starEach (e :: es) X.env = (false, eval e X.env) :: starEach es X.env := by rfl) (hpl : (backTo pos (starEach es X.env)).any (·.1) = false := by rfl) :
    PE X (.Call (.Name x p) (e :: es) [] pos) (tCall sp [] E0 t) := by
  obtain ⟨f, fd, F, hm, hk, hb⟩ := D.ex
  exact pe_callG F guards hr hg hm hk hb ha hdb he hpl
end
section
variable {P : Program} {w : World} {K : PySem.W.Frag} {mg : Str → Option Value} {base : Heap} {k : Nat} {sp : Sp}
theorem kw_many {x : Str} {st : Stmt} (T : At K mg x st) (D : Df P w K mg base x k ["many"] sp)
    (hb : ∀ (kV doc pm : Value) (an : Option Addr) (cdv ct : Value) (ws : List Value), ws.length = 1 → bindArgs (PySem.W.fnOf x x (defArgs st) (defBody st) (defScope st) .none kV doc pm an cdv ct) ⟨[], (["many"] : List Str).zip ws⟩ = pure ((["many"] : List Str).zip ws)) : DfK P w K mg base x k ["many"] ["many"] pr1 sp := dfk_of T D (by decide) hb vals_pr1
theorem kw_ringPlace (T : At K mg "ring_place_counts" sRingPlace) (D : Df P w K mg base "ring_place_counts" k ["many"] sp) : DfK P w K mg base "ring_place_counts" k ["many"] ["many"] pr1 sp := kw_many T D fun _ _ _ _ _ _ ws hl => match ws, hl with | [_], _ => rfl
theorem kw_ringLength (T : At K mg "ring_length_count" sRingLength) (D : Df P w K mg base "ring_length_count" k ["many", "lengths"] sp) : DfK P w K mg base "ring_length_count" k ["many", "lengths"] ["lengths", "many"] pr2 sp :=
  dfk_of T D (by decide) (fun _ _ _ _ _ _ ws hl => match ws, hl with | [_, _], _ => rfl) vals_pr2
theorem kw_returning (T : At K mg "returning_count" sReturning) (D : Df P w K mg base "returning_count" k ["many", "number", "count"] sp) : DfK P w K mg base "returning_count" k ["many", "number", "count"] ["count", "many", "number"] pr3 sp :=
  dfk_of T D (by decide) (fun _ _ _ _ _ _ ws hl => match ws, hl with | [_, _, _], _ => rfl) vals_pr3
end
end K54
/-! K54P0: the plain law, said. -/
namespace K54
open PySem PySem.Spec PyProof.Rows L2 Evl

/-! ### data fit for repr -/
mutual
def okI : PyData → Bool
  | .int i => decide (0 ≤ i ∧ i < 10 ^ 10)
  | .list xs => okIAll xs
  | .tuple xs => okIAll xs
  | _ => false
def okIAll : List PyData → Bool
  | [] => true
  | x :: xs => okI x && okIAll xs
end
mutual
theorem okI_lay : ∀ d : PyData, okI d = true → d.canLay0 = true
  | .none, h => by simp [okI] at h
  | .bool _, h => by simp [okI] at h
  | .str _, h => by simp [okI] at h
  | .dict _, h => by simp [okI] at h
  | .int _, _ => by simp [PyData.canLay0]
  | .list xs, h => by
    rw [PyData.canLay0]
    exact okIAll_lay xs (by simpa [okI] using h)
  | .tuple xs, h => by
    rw [PyData.canLay0]
    exact okIAll_lay xs (by simpa [okI] using h)
theorem okIAll_lay : ∀ xs : List PyData, okIAll xs = true → PyData.canLayAll0 xs = true
  | [], _ => by simp [PyData.canLayAll0]
  | x :: xs, h => by
    rw [okIAll, Bool.and_eq_true] at h
    rw [PyData.canLayAll0, okI_lay x h.1, okIAll_lay xs h.2]
    rfl
end
mutual
theorem okI_short : ∀ d : PyData, okI d = true → d.intsShort 10 = true
  | .none, h => by simp [okI] at h
  | .bool _, h => by simp [okI] at h
  | .str _, h => by simp [okI] at h
  | .dict _, h => by simp [okI] at h
  | .int i, h => by
    rw [PyData.intsShort]
    have h' : 0 ≤ i ∧ i < 10 ^ 10 := by simpa [okI] using h
    refine decide_eq_true ?_
    rw [PyData.shown]
    exact toString_length_le h'.1 (by decide) h'.2
  | .list xs, h => by
    rw [PyData.intsShort]
    exact okIAll_short xs (by simpa [okI] using h)
  | .tuple xs, h => by
    rw [PyData.intsShort]
    exact okIAll_short xs (by simpa [okI] using h)
theorem okIAll_short : ∀ xs : List PyData, okIAll xs = true → PyData.intsShortAll 10 xs = true
  | [], _ => by simp [PyData.intsShortAll]
  | x :: xs, h => by
    rw [okIAll, Bool.and_eq_true] at h
    rw [PyData.intsShortAll, okI_short x h.1, okIAll_short xs h.2]
    rfl
end
mutual
theorem okI_show : ∀ d : PyData, okI d = true → d.showable = true
  | .none, h => by simp [okI] at h
  | .bool _, h => by simp [okI] at h
  | .str _, h => by simp [okI] at h
  | .dict _, h => by simp [okI] at h
  | .int i, h => by
    rw [PyData.showable]
    have h' : 0 ≤ i ∧ i < 10 ^ 10 := by simpa [okI] using h
    refine decide_eq_true ?_
    have hb : i.natAbs < 2 ^ 64 := by omega
    rcases Nat.eq_zero_or_pos i.natAbs with z | z
    · rw [z]
      decide
    · have := (Nat.log2_lt (by omega)).mpr hb
      omega
  | .list xs, h => by
    rw [PyData.showable]
    exact okIAll_show xs (by simpa [okI] using h)
  | .tuple xs, h => by
    rw [PyData.showable]
    exact okIAll_show xs (by simpa [okI] using h)
theorem okIAll_show : ∀ xs : List PyData, okIAll xs = true → PyData.showableAll xs = true
  | [], _ => by simp [PyData.showableAll]
  | x :: xs, h => by
    rw [okIAll, Bool.and_eq_true] at h
    rw [PyData.showableAll, okI_show x h.1, okIAll_show xs h.2]
    rfl
end
/-- fit for repr -/
structure Shw (ds : List PyData) : Prop where
  s : (PyData.list ds).showable = true
  d : (PyData.list ds).hasDict = false
  p : (PyData.list ds).depth ≤ 50
  l : (PyData.list ds).shown.length ≤ sizeLine
def shwB (ds : List PyData) : Bool := okI (.list ds) && (decide ((PyData.list ds).depth ≤ 50) && decide ((PyData.list ds).weight ≤ 5000))
theorem shw_of {ds : List PyData} (h : shwB ds = true) : Shw ds := by
  unfold shwB at h
  obtain ⟨h1, h2⟩ := Bool.and_eq_true_iff.mp h
  obtain ⟨h2, h3⟩ := Bool.and_eq_true_iff.mp h2
  have w := of_decide_eq_true h3
  refine ⟨okI_show _ h1, PyData.hasDict_of_canLay _ (okI_lay _ h1), of_decide_eq_true h2, ?_⟩
  have q := PyData.shown_le 10 (by decide) _ (PyData.leavesShort_of_canLay0 10 _ (okI_lay _ h1) (okI_short _ h1))
  refine Nat.le_trans q (sz_of ?_ |> fun z => z)
  omega
theorem shw_two {a : Int} (h : 0 ≤ a ∧ a < 10 ^ 10) : Shw [.int a, .int a] := by
  refine shw_of ?_
  have o : okI (.int a) = true := by
    rw [okI]
    exact decide_eq_true h
  unfold shwB
  rw [okI, okIAll, okIAll, okIAll, o]
  have hl : (if a = 0 then 0 else a.natAbs.log2 + 1) ≤ 65 := by
    split
    · omega
    · have hb : a.natAbs < 2 ^ 64 := by omega
      have := (Nat.log2_lt (by omega)).mpr hb
      omega
  simp [PyData.depth, PyData.depthAll, PyData.weight, PyData.weightAll]
  omega
def lensOf (rs : List (List Int)) : List Int := rs.map fun r => (r.length : Int)
def onSum (c : List Int) : Int := (lensOf (ringsF c)).sum
def lensF (c : List Int) : List Int := isort (lensOf (ringsF c))
def insP (n : Int × Int) : List (Int × Int) → List (Int × Int)
  | [] => [n]
  | x :: l => if n.1 ≤ x.1 then n :: x :: l else x :: insP n l
def isortP : List (Int × Int) → List (Int × Int)
  | [] => []
  | x :: l => insP x (isortP l)
def perTab (m : Int) : List (Int × Int) := isortP (periodCounts m)
def perCs (m : Int) : List Int := (charts m).map fun c => (periodF (ringsF c) : Int)
/-- what the law tells, as data -/
def told (m : Int) : List PyData := [.list (dIs (ringPlaceCounts m)), .list (dIs (reachedCounts m)), .list (dIs (pieceCounts m)), .list (dIs (heightCounts m)), .list (dIs (depthTotals m)), .list ((perTab m).map datI)]
structure Plain (m : Int) : Prop where
  f1 : listF ((charts m).map onSum) (m + 1) = ringPlaceCounts m
  f2 : listF ((charts m).map fun c => ((asc c).length : Int)) (m + 1) = reachedCounts m
  f3 : listF ((charts m).map fun c => ((ringsF c).length : Int)) (m + 1) = pieceCounts m
  f4 : listF ((charts m).map fun c => maxF (depthsF c)) m = heightCounts m
  f5 : listF ((charts m).flatMap depthsF) m = depthTotals m
  f6 : ((tallyF (perCs m)).mergeSort (PySem.W.dataLe false datI)).map datI = (perTab m).map datI
  f6d : dle ((periodCounts m).map datI) = (perTab m).map datI
  f7 : ∀ e ∈ tallyF ((charts m).map lensF), lensOk e.1 ∧ ringLength m e.1 = e.2
  f8 : ∀ n k : Int, 0 ≤ n → n ≤ m → 1 ≤ k → k ≤ 6 → returning m n k = (((charts m).filter fun c => decide (stepF c (n + k).toNat = stepF c n.toNat)).length : Int)
  f9 : ∀ L : List Int, lensOk L → L.length ≤ 3 → (∀ x ∈ L, 1 ≤ x ∧ x ≤ m) → ringLength m L = (((charts m).filter fun c => decide (lensF c = L)).length : Int)
  shw : Shw (told m)
  len : ∀ d ∈ told m, ∀ ds, d = .list ds → ds.length ≤ 100
  small : ∀ e ∈ tallyF ((charts m).map lensF), 0 ≤ e.2 ∧ e.2 < 10 ^ 10
  small8 : ∀ n k : Int, 0 ≤ n → n ≤ m → 1 ≤ k → k ≤ 6 → 0 ≤ returning m n k ∧ returning m n k < 10 ^ 10
end K54
/-! K54G7: _law_lists_right. -/
namespace K54
open PySem PySem.Spec PyProof.Rows L2 Evl

abbrev sLists : Stmt := topS 45
abbrev NLists : List Str := ["_law_many", "_law_charts_here", "_law_rings_here", "_law_one", "_law_on", "_law_depths_here", "_law_whole", "_law_due", "_law_told", "_law_again", "_law_lengths", "_law_count", "_law_chart", "_law_ring"]
theorem scLists : FnScope ["_law_many", "_law_charts_here", "_law_rings_here", "_law_one", "_law_on", "_law_depths_here", "_law_whole", "_law_due", "_law_told", "_law_again", "_law_lengths", "_law_count", "_law_chart", "_law_ring"] ["_law_many", "_law_charts_here"] (defScope sLists) := ⟨rfl, rfl, rfl, by decide +kernel, rfl, by decide +kernel, by decide +kernel⟩

/-! ### data, on the whole heap -/
def EvW (K : PySem.W.Frag) (te : TE) (σ : L2.St) (H : Hp) (d : PyData) : Prop := ∀ H1, Ex H H1 → ∀ Q : VK, (∀ v H2, Ex H1 H2 → Dp K H2 v d → Q v H2) → te σ H1 Q
/-- a new list of data -/
def EvN (K : PySem.W.Frag) (te : TE) (σ : L2.St) (H : Hp) (ds : List PyData) : Prop := ∀ H1, Ex H H1 → ∀ Q : VK, (∀ p xs H2, H1 p = none → Ex H1 H2 → H2 p = some (.lst xs) → DpAll K H2 xs ds → Q (.ref p) H2) → te σ H1 Q
/-- new lists (against B), each of its data -/
def Fr (K : PySem.W.Frag) (B H : Hp) (v : V) (ds : List PyData) : Prop := ∃ p ys, v = .ref p ∧ B p = none ∧ H p = some (.lst ys) ∧ DpAll K H ys ds
def EvFA (K : PySem.W.Frag) (ta : TA) (σ : L2.St) (H : Hp) (dss : List (List PyData)) : Prop := ∀ H1, Ex H H1 → ∀ Q : List V → Hp → Prop, (∀ vs H2, Ex H1 H2 → Paired (Fr K H H2) vs dss → Q vs H2) → ta σ H1 Q
section
variable {α : Type} {K : PySem.W.Frag} {σ : L2.St} {H H' : Hp} {ta tb te : TE} {D : Ends} {tz : TS} {ds es : List PyData} {d : PyData}
theorem ew_of (h : EvD K te σ H d) : EvW K te σ H d := fun H1 e Q q => h H1 e Q fun v Hn H2 g hd => q v H2 g.all (hd.up g.new)
theorem EvN.w (h : EvN K te σ H ds) : EvW K te σ H (.list ds) := fun H1 e Q q => h H1 e Q fun p xs H2 _ e2 hp hd => q _ H2 e2 (.lst (sq_of hp) hd)
theorem en_l {ns : List Int} (h : EvL te σ H (ns.map V.int)) : EvN K te σ H (dIs ns) := fun H1 e Q q => h H1 e Q fun p H2 np e2 hp => q p _ H2 np e2 hp (ints_dpAll ns)
theorem ew_var {i : Nat} {v : V} (h : σ[i]? = some (some v)) (hd : Dp K H v d) : EvW K (tVar i) σ H d := fun H1 e Q q => ⟨v, h, q v H1 (Ex.refl H1) (hd.up e)⟩
theorem en_l2 {d1 d2 : PyData} (h1 : EvW K ta σ H d1) (h2 : EvW K tb σ H d2) : EvN K (tLst (tCons ta (tCons tb tNil))) σ H [d1, d2] := fun H1 e Q q =>
  h1 H1 e _ fun v1 H2 e2 hd1 => h2 H2 (e.trans e2) _ fun v2 H3 e3 hd2 => ⟨by show 2 ≤ sizeLine; decide, fun p hp => q p _ _ (fresh_back (e2.trans e3) hp) ((e2.trans e3).trans (Ex.new hp)) upd_same (.cons (hd1.up (e3.trans (Ex.new hp))) (.cons (hd2.up (Ex.new hp)) .nil))⟩
theorem en_cat {l : Addr} {xs : List V} (h1 : Ev ta σ H (.ref l)) (hl : H l = some (.lst xs)) (hx : DpAll K H xs ds) (h2 : EvN K tb σ H es) (hz : ds.length + es.length ≤ 100000) : EvN K (tOp rCat ta tb) σ H (ds ++ es) := fun H0 e Q q =>
  h1 H0 e _ fun H1 e1 => h2 H1 (e.trans e1) _ fun p ys H2 np e2 hp hd =>
    ⟨l, p, xs, ys, rfl, rfl, ((e.trans e1).trans e2) l _ hl, hp, sz_of (by rw [hx.length, hd.length]; exact hz), fun r hr =>
      q r _ _ (fresh_back (e1.trans e2) hr) ((e1.trans e2).trans (Ex.new hr)) upd_same (dpAll_append (hx.up (((e.trans e1).trans e2).trans (Ex.new hr))) (hd.up (Ex.new hr)))⟩
theorem q_asgN {i : Nat} (h : EvN K te σ H ds) (k : ∀ p xs H1, H p = none → Ex H H1 → H1 p = some (.lst xs) → DpAll K H1 xs ds → tz D (σ.set i (some (.ref p))) H1) : tSeq (tAsg te (gName i)) tz D σ H := h H (Ex.refl H) _ k
theorem ev_reprW (h : EvW K te σ H (.list ds)) (s : Shw ds) : Ev (tCB (rRepr K) (tCons te tNil)) σ H (.str (PyData.list ds).shown) := fun H1 e Q q =>
  h H1 e _ fun v H2 e2 hd => by
    obtain ⟨a, xs, rfl, _⟩ := dp_list hd
    exact ⟨a, ds, rfl, hd, s.s, s.d, s.p, s.l, q H2 e2⟩
theorem Fr.up {B : Hp} {v : V} (e : Ex H H') (h : Fr K B H v ds) : Fr K B H' v ds := by
  obtain ⟨p, ys, h1, h2, h3, h4⟩ := h
  exact ⟨p, ys, h1, h2, e p _ h3, h4.up e⟩
theorem frs_dp {B : Hp} : ∀ {vs : List V} {dss : List (List PyData)}, Paired (Fr K B H) vs dss → DpAll K H vs (dss.map PyData.list)
  | _, _, .nil => .nil
  | _, _, .cons ⟨p, ys, h1, h2, h3, h4⟩ r => .cons (by rw [h1]; exact .lst (sq_of h3) h4) (frs_dp r)
theorem fa_nil : EvFA K tNil σ H [] := fun H1 e Q q => q [] H1 (Ex.refl H1) .nil
theorem fa_cons {tr : TA} {dss : List (List PyData)} (h : EvN K ta σ H ds) (hr : EvFA K tr σ H dss) : EvFA K (tCons ta tr) σ H (ds :: dss) := fun H1 e Q q =>
  h H1 e _ fun p xs H2 np e2 hp hd => hr H2 (e.trans e2) _ fun vs H3 e3 hv => q _ H3 (e2.trans e3) (.cons ⟨p, xs, rfl, fresh_back e np, e3 p _ hp, hd.up e3⟩ hv)
theorem q_told {i : Nat} {t : TA} {dss : List (List PyData)} (h : EvFA K t σ H dss) (hl : dss.length ≤ 1000) (k : ∀ p vs H1, H p = none → Ex H H1 → H1 p = some (.lst vs) → Paired (Fr K H H1) vs dss → tz D (σ.set i (some (.ref p))) H1) : tSeq (tAsg (tLst t) (gName i)) tz D σ H :=
  h H (Ex.refl H) _ fun vs H1 e1 hv => ⟨sz_of (by rw [Paired.length hv]; omega), fun p hp => k p vs _ (fresh_back e1 hp) (e1.trans (Ex.new hp)) upd_same (paired_all (fun _ _ z => Fr.up (Ex.new hp) z) hv)⟩
theorem paired_appG {α β : Type} {F : α → β → Prop} : ∀ {xs ys : List α} {as bs : List β}, Paired F xs as → Paired F ys bs → Paired F (xs ++ ys) (as ++ bs)
  | _, _, _, _, .nil, b => b
  | _, _, _, _, .cons a r, b => .cons a (paired_appG r b)
theorem q_told2 {B : Hp} {i : Nat} {t : TA} {l : Addr} {xs : List V} {dss ess : List (List PyData)} (eB : Ex B H) (h1 : Ev ta σ H (.ref l)) (hl : H l = some (.lst xs)) (hx : Paired (Fr K B H) xs dss) (h : EvFA K t σ H ess) (hz : dss.length + ess.length ≤ 1000)
    (k : ∀ p vs H1, H p = none → Ex H H1 → H1 p = some (.lst vs) → Paired (Fr K B H1) vs (dss ++ ess) → (∀ v ∈ vs, v ≠ .ref p) → tz D (σ.set i (some (.ref p))) H1) : tSeq (tAsg (tOp rCat ta (tLst t)) (gName i)) tz D σ H :=
  h1 H (Ex.refl H) _ fun H1 e1 => h H1 e1 _ fun vs H2 e2 hv => ⟨sz_of (by rw [Paired.length hv]; omega), fun p hp => by
    have e3 : Ex H2 (upd H2 p (.lst vs)) := Ex.new hp
    have e12 := e1.trans e2
    refine ⟨l, p, xs, vs, rfl, rfl, (e12.trans e3) l _ hl, upd_same, sz_of (by rw [Paired.length hv, Paired.length hx]; omega), fun r hr => ?_⟩
    have e4 := (e12.trans e3).trans (Ex.new (o := .lst (xs ++ vs)) hr)
    have all : Paired (Fr K B (upd (upd H2 p (.lst vs)) r (.lst (xs ++ vs)))) (xs ++ vs) (dss ++ ess) := by
      refine paired_appG (paired_all (fun _ _ z => Fr.up e4 z) hx) (paired_all (fun _ _ z => ?_) hv)
      obtain ⟨p', ys, h1, h2, h3, h4⟩ := Fr.up (e3.trans (Ex.new (o := .lst (xs ++ vs)) hr)) z
      exact ⟨p', ys, h1, fresh_back eB h2, h3, h4⟩
    refine k r _ _ (fresh_back (e12.trans e3) hr) e4 upd_same all fun v hv2 hev => ?_
    -- r is newer than each
    have old : ∀ v ∈ xs ++ vs, ∃ p' ys, v = .ref p' ∧ (upd H2 p (.lst vs)) p' = some (.lst ys) := by
      intro v hv2
      rcases List.mem_append.mp hv2 with z | z
      · obtain ⟨i, hi⟩ := List.mem_iff_getElem?.mp z
        obtain ⟨_, _, p', ys, h1, _, h3, _⟩ := paired_at hx hi
        exact ⟨p', ys, h1, (e12.trans e3) p' _ h3⟩
      · obtain ⟨i, hi⟩ := List.mem_iff_getElem?.mp z
        obtain ⟨_, _, p', ys, h1, _, h3, _⟩ := paired_at hv hi
        exact ⟨p', ys, h1, e3 p' _ h3⟩
    obtain ⟨p', ys, h1, h2⟩ := old v hv2
    rw [h1] at hev
    cases hev
    rw [hr] at h2
    cases h2⟩
/-! ### parts of the law's own expressions -/
theorem ep_u {ns : List Int} (h : EvU te σ H (ns.map V.int)) : EvP TiP te σ H ns := fun H1 e Q q => h H1 e Q fun p H2 np e2 hp => q _ _ H2 ((Gr.keep e e2).own np (fresh_back e np) hp) ⟨p, rfl, upd_same⟩
theorem ep_lnew {ns : List Int} (h : EvL te σ H (ns.map V.int)) : EvP LiP te σ H ns := fun H1 e Q q => h H1 e Q fun p H2 np e2 hp => q _ _ H2 ((Gr.keep e e2).own np (fresh_back e np) hp) ⟨p, rfl, upd_same⟩
/-- what stands at H3, without what H held beyond Hb -/
def newH (Hb H H3 : Hp) : Hp := fun b => if (H b).isSome && !(Hb b).isSome then none else H3 b
theorem newH_of {Hb H H3 : Hp} {b : Addr} (h : H b = none) : newH Hb H H3 b = H3 b := by
  unfold newH
  rw [h]
  rfl
theorem Gr.fresh {Hb H H3 : Hp} (e : Ex Hb H) (a : Ex H H3) : Gr Hb H (newH Hb H H3) H3 := by
  refine ⟨fun b o h => ?_, fun b o h => ?_, a, fun b o h1 h2 => ?_⟩
  · unfold newH
    rw [h]
    simp only [Option.isSome_some, Bool.not_true, Bool.and_false]
    exact (e.trans a) b o h
  · unfold newH at h
    split at h
    · cases h
    · exact h
  · unfold newH
    rw [h1, h2]
    rfl
theorem ep_rings {m : Int} {c : List Int} (h : EvP TiP ta σ H c) (hm : Pm m) (hc : c ∈ charts m) : EvP (LstP K TiP) (tCall (spRings K) [] E0 (tCons ta tNil)) σ H (ringsF c) := fun H1 e Q q =>
  h H1 e _ fun v Hn H2 g ⟨a, ev, ha⟩ => by
    subst ev
    refine ⟨a, m, c, rfl, st_of (g.new a _ ha), hm, hc, fun p xs H3 np e3 hp px => ?_⟩
    refine q (.ref p) _ H3 (g.trans (Gr.fresh g.new e3)) ⟨p, xs, rfl, sq_of (by rw [newH_of np]; exact hp), ?_⟩
    exact paired_all (fun v ns ⟨b, h1, h0, h2⟩ => ⟨b, h1, by rw [newH_of h0]; exact h2⟩) px
theorem ep_ldepths {m : Int} {c : List Int} (h : EvP TiP ta σ H c) (hm : Pm m) (hc : c ∈ charts m) : EvP LiP (tCall (spLDepths K) [] E0 (tCons ta tNil)) σ H (depthsF c) := fun H1 e Q q =>
  h H1 e _ fun v Hn H2 g ⟨a, ev, ha⟩ => by
    subst ev
    refine ⟨a, m, c, rfl, st_of (g.new a _ ha), hm, hc, fun p H3 np e3 hp => ?_⟩
    exact q (.ref p) _ H3 (g.trans (Gr.fresh g.new e3)) ⟨p, rfl, by rw [newH_of np]; exact hp⟩
theorem ev_lperiod {m : Int} {c : List Int} {rs : List (List Int)} (h : EvP (LstP K TiP) ta σ H rs) (hr : rs = ringsF c) (hm : Pm m) (hc : c ∈ charts m) : Ev (tCall (spLPeriod K) [] E0 (tCons ta tNil)) σ H (.int (periodF rs)) := fun H1 e Q q =>
  h H1 e _ fun v Hn H2 g ⟨a, xs, ev, ha, hx⟩ => by
    subst ev
    subst hr
    exact ⟨a, m, c, xs, rfl, ex_l g.new ha, paired_up mon_ti g.new hx, hm, hc, fun H3 e3 => q H3 (g.all.trans e3)⟩
theorem el_list2 {a : Addr} {ns : List Int} {n : Int} (h : Ev ta σ H (.ref a)) (hs : H a = some (.lst (ns.map V.int))) (h2 : Ev tb σ H (.int n)) (hn : 0 ≤ n ∧ n ≤ 1000) : EvL (tCall (spList K) [] E0 (tCons ta (tCons tb tNil))) σ H ((listF ns n).map V.int) := fun H1 e Q q =>
  h H1 e _ fun H2 e2 => h2 H2 (e.trans e2) _ fun H3 e3 => ⟨a, ns, n, rfl, sq_of (((e.trans e2).trans e3) a _ hs), hn.1, hn.2, fun p H4 np e4 hp => q p H4 (fresh_back (e2.trans e3) np) ((e2.trans e3).trans e4) hp⟩
theorem el_listN {ns : List Int} {n : Int} (h : EvL ta σ H (ns.map V.int)) (h2 : Ev tb σ H (.int n)) (hn : 0 ≤ n ∧ n ≤ 1000) : EvL (tCall (spList K) [] E0 (tCons ta (tCons tb tNil))) σ H ((listF ns n).map V.int) := fun H1 e Q q =>
  h H1 e _ fun a H2 na e2 ha => h2 H2 (e.trans e2) _ fun H3 e3 => ⟨a, ns, n, rfl, sq_of (e3 a _ ha), hn.1, hn.2, fun p H4 np e4 hp => q p H4 (fresh_back (e2.trans e3) np) ((e2.trans e3).trans e4) hp⟩
theorem pairs_dp : ∀ {xs : List V} {es : List (Int × Int)}, Paired (PairP H) xs es → DpAll K H xs (es.map datI)
  | _, _, .nil => .nil
  | _, _, .cons ⟨t, h1, h2⟩ r => .cons (by rw [h1]; exact .tup (xs := [.int _, .int _]) (st_of h2) (.cons (.int _) (.cons (.int _) .nil))) (pairs_dp r)
theorem en_tallyI {ns : List Int} (h : EvL ta σ H (ns.map V.int)) (hl : ns.length ≤ 5000) : EvN K (tCall (spTallyI K) [] E0 (tCons ta tNil)) σ H (((tallyF ns).mergeSort (PySem.W.dataLe false datI)).map datI) := fun H1 e Q q =>
  h H1 e _ fun a H2 na e2 ha => ⟨a, ns, rfl, sq_of ha, hl, fun p xs H3 np e3 hp px => q p xs H3 (fresh_back e2 np) (e2.trans e3) hp (pairs_dp px)⟩
theorem en_periods {m : Int} (h : Ev ta σ H (.int m)) (hm : Pm m) : EvN K (tCall (spPeriods K) [] E0 (tCons ta tNil)) σ H (dle ((periodCounts m).map datI)) := fun H1 e Q q =>
  h H1 e _ fun H2 e2 => ⟨m, rfl, hm, fun p xs Hn H3 g h1 h2 h3 hd => q p xs H3 (fresh_back e2 h1) (e2.trans g.all) h3 (hd.up g.new)⟩
theorem en_periodsK {m : Int} (h : Ev ta σ H (.int m)) (hm : Pm m) : EvN K (tCallK (spPeriods K) (gOf pr1) E0 tNil (tCons ta tNil)) σ H (dle ((periodCounts m).map datI)) := fun H1 e Q q =>
  h H1 e _ fun H2 e2 => ⟨m, rfl, hm, fun p xs Hn H3 g h1 h2 h3 hd => q p xs H3 (fresh_back e2 h1) (e2.trans g.all) h3 (hd.up g.new)⟩
theorem el_k1 {pre : Int → Prop} {f : Int → List Int} {a : Int} (h : Ev ta σ H (.int a)) (hp : pre a) : EvL (tCallK (sp1L pre f) (gOf pr1) E0 tNil (tCons ta tNil)) σ H ((f a).map V.int) := fun H1 e Q q =>
  h H1 e _ fun H2 e2 => ⟨a, rfl, hp, fun p H3 hn e3 hH => q p H3 (fresh_back e2 hn) (e2.trans e3) hH⟩
theorem ev_rl {m : Int} {a : Addr} {ns : List Int} (h : Ev ta σ H (.int m)) (h2 : Ev tb σ H (.ref a)) (hm : Pm m) (hs : H a = some (.tup (ns.map V.int))) (ok : lensOk ns) : Ev (tCall (spRingLength K) [] E0 (tCons ta (tCons tb tNil))) σ H (.int (ringLength m ns)) := fun H1 e Q q =>
  h H1 e _ fun H2 e2 => h2 H2 (e.trans e2) _ fun H3 e3 => ⟨m, a, ns, rfl, hm, st_of (((e.trans e2).trans e3) a _ hs), ok, fun H4 e4 => q H4 ((e2.trans e3).trans e4)⟩
theorem ev_rlK {m : Int} {a : Addr} {ns : List Int} (h : Ev ta σ H (.int m)) (h2 : Ev tb σ H (.ref a)) (hm : Pm m) (hs : H a = some (.tup (ns.map V.int))) (ok : lensOk ns) : Ev (tCallK (spRingLength K) (gOf pr2) E0 tNil (tCons tb (tCons ta tNil))) σ H (.int (ringLength m ns)) := fun H1 e Q q =>
  h2 H1 e _ fun H2 e2 => h H2 (e.trans e2) _ fun H3 e3 => ⟨m, a, ns, rfl, hm, st_of (((e.trans e2).trans e3) a _ hs), ok, fun H4 e4 => q H4 ((e2.trans e3).trans e4)⟩
theorem en_ints2 {a b : Int} (h : Ev ta σ H (.int a)) (h2 : Ev tb σ H (.int b)) : EvN K (tLst (tCons ta (tCons tb tNil))) σ H [.int a, .int b] := en_l2 (ew_of (ed_int h)) (ew_of (ed_int h2))
/-- [len(ring) for ring in one] -/
abbrev teLens (K : PySem.W.Frag) (i j : Nat) : TE := tLc (iList K (tVar i)) (gName j) tYes (tCB (rLenQ K) (tCons (tVar j) tNil)) [j]
theorem el_lens {i j : Nat} {v : V} {rs : List (List Int)} (h : σ[i]? = some (some v)) (hp : LstP K TiP H v rs) (hz : rs.length ≤ 40000) (hj : j < σ.length) : EvL (teLens K i j) σ H ((lensOf rs).map V.int) := by
  have wp : ∀ x, wipe ((wipe σ [j]).set j (some x)) [j] = wipe σ [j] := fun x => by
    show ((σ.set j none).set j (some x)).set j none = σ.set j none
    rw [List.set_set, List.set_set]
  refine ef_to_l (ep_mL (P := TiP) (R := IntP) (as := rs) (fun r => (r.length : Int)) mon_ti mon_int (ep_var h hp) hz wp fun y r H2 e2 hr py => ?_)
  obtain ⟨b, rfl, hb⟩ := py
  refine ep_int (ev_lenTI (ev_var ?_) (st_of hb))
  show ((σ.set j none).set j (some (V.ref b)))[j]? = _
  rw [List.getElem?_set_self (by rw [List.length_set]; exact hj)]
end
theorem rings_few {m : Int} (hm : Pm m) {c : List Int} (hc : c ∈ charts m) : (ringsF c).length ≤ 5 := by
  have := (ringsFold_len c (onR c) ([], [])).1
  have l2 := (onR_ok (chart_ok hm hc)).2
  simp only [List.length_nil] at this
  unfold ringsF
  omega
theorem charts_few {m : Int} (hm : Pm m) : (charts m).length ≤ 3125 := charts_len m.toNat (by have := hm.2; omega) m.toNat (by have := hm.2; omega)
theorem depths_len (c : List Int) : (depthsF c).length = c.length := by
  unfold depthsF upto
  rw [List.length_map, List.length_map, List.length_range]
end K54
/-! K54G8: _law_lists_right. -/
namespace K54
open PySem PySem.Spec PyProof.Rows L2 Evl

abbrev scIn1 : Scope := { kind := .function, names := [(".0", .local), ("_law_one", .local), ("sum", .globalImplicit)], isGenerator := false, isCoroutine := false }
abbrev scIn2 : Scope := { kind := .function, names := [(".0", .local), ("_law_one", .local), ("tuple", .globalImplicit), ("sorted", .globalImplicit)], isGenerator := false, isCoroutine := false }
def spLists : Sp := fun vs H Q _ => ∃ (m : Int) (C : Addr) (xs : List V), vs = [V.int m, .ref C] ∧ Pm m ∧ H C = some (.lst xs) ∧ Paired (TiP H) xs (charts m) ∧ ∀ H', Ex H H' → Q (.bl true) H'
/-- the defs that the law's lists call -/
structure Pg (P : Program) (w : World) (K : PySem.W.Frag) (mg : Str → Option Value) (base : Heap) : Prop where
  place : Df P w K mg base "ring_place_counts" 4 ["many"] (sp1L Pm ringPlaceCounts)
  reach : Df P w K mg base "reached_counts" 4 ["many"] (sp1L Pm reachedCounts)
  piece : Df P w K mg base "piece_counts" 4 ["many"] (sp1L Pm pieceCounts)
  height : Df P w K mg base "height_counts" 9 ["many"] (sp1L Pm heightCounts)
  depth : Df P w K mg base "depth_totals" 4 ["many"] (sp1L Pm depthTotals)
  period : Df P w K mg base "period_counts" 4 ["many"] (spPeriods K)
  kplace : DfK P w K mg base "ring_place_counts" 4 ["many"] ["many"] pr1 (sp1L Pm ringPlaceCounts)
  kreach : DfK P w K mg base "reached_counts" 4 ["many"] ["many"] pr1 (sp1L Pm reachedCounts)
  kpiece : DfK P w K mg base "piece_counts" 4 ["many"] ["many"] pr1 (sp1L Pm pieceCounts)
  kheight : DfK P w K mg base "height_counts" 9 ["many"] ["many"] pr1 (sp1L Pm heightCounts)
  kdepth : DfK P w K mg base "depth_totals" 4 ["many"] ["many"] pr1 (sp1L Pm depthTotals)
  kperiod : DfK P w K mg base "period_counts" 4 ["many"] ["many"] pr1 (spPeriods K)
  len : Df P w K mg base "ring_length_count" 4 ["many", "lengths"] (spRingLength K)
  klen : DfK P w K mg base "ring_length_count" 4 ["many", "lengths"] ["lengths", "many"] pr2 (spRingLength K)
  rings : Df P w K mg base "_law_rings" 2 ["_law_chart"] (spRings K)
  depths : Df P w K mg base "_law_depths" 2 ["_law_chart"] (spLDepths K)
  lper : Df P w K mg base "_law_period" 1 ["_law_rings_here"] (spLPeriod K)
  list : Df P w K mg base "_law_list" 1 ["_law_values", "_law_size"] (spList K)
  tallyI : Df P w K mg base "_law_tally" 1 ["_law_values"] (spTallyI K)
  tallyT : Df P w K mg base "_law_tally" 1 ["_law_values"] (spTallyT K)
theorem DfK.mono {P : Program} {w : World} {K : PySem.W.Frag} {mg : Str → Option Value} {base : Heap} {x : Str} {k j : Nat} {ps ks : List Str} {π : {α : Type} → List α → List α} {sp : Sp} (D : DfK P w K mg base x j ps ks π sp) (h : j ≤ k) : DfK P w K mg base x k ps ks π sp := by
  obtain ⟨f, fd, a, b⟩ := D.ex
  exact ⟨f, fd, a.mono h, b⟩
theorem q_forCallL {K : PySem.W.Frag} {sp : Sp} {te : TE} {g : TG} {tu tz : TS} {D : Ends} {σ : L2.St} {H : Hp} (h : te σ H fun v H1 => sp [v] H1 (fun x H2 => ∃ a, x = V.ref a ∧ (∃ xs, SqL K H2 a xs) ∧ ∃ W : Nat → Nat → L2.St → Hp → Prop, (∃ m, W 0 m σ H2) ∧ ∀ i m σ H, W i m σ H →
    ((Itl K a).stop i H ∧ tz D σ H) ∨ ((Itl K a).go i H ∧ ∃ N : L2.St → Hp → Prop, (∀ σ' H', N σ' H' → ∃ m', m' < m ∧ W (i + 1) m' σ' H') ∧ ∀ x H', (Itl K a).yld i H x H' → g x σ H' fun σ2 H2 => tu { D with nx := N, ct := N, bk := tz D } σ2 H2)) E0) :
    tSeq (tFor (iList K (tCall sp [] E0 (tCons te tNil))) g tu) tz D σ H := h
theorem flat_lenM {α β : Type} {g : α → List β} {n : Nat} : ∀ {l : List α}, (∀ a ∈ l, (g a).length ≤ n) → (l.flatMap g).length ≤ l.length * n
  | [], _ => by simp
  | a :: l, h => by
    have h1 := flat_lenM (l := l) fun x hx => h x (List.mem_cons_of_mem _ hx)
    have h2 := h a List.mem_cons_self
    rw [List.flatMap_cons, List.length_append, List.length_cons, Nat.add_mul]
    omega
section
variable {P : Program} {w : World} {K : PySem.W.Frag} {mg : Str → Option Value} {base : Heap}
theorem d_lists (T : At K mg "_law_lists_right" sLists) (B : Tx mg) (G : Pg P w K mg base) (PL : ∀ m, Pm m → Plain m) : DfG P w K mg base "_law_lists_right" 10 ["_law_many", "_law_charts_here"] spLists := by
  refine dfg_of T scLists (fun _ _ _ _ _ _ us hl => match us, hl with | [_, _], _ => rfl) (fun vs H Q E h => ?_) (fun f cdv A outer s H vs Q E hgd hr h => ?_)
  · obtain ⟨m, C, xs, rfl, _⟩ := h
    rfl
  · obtain ⟨m, C, xs, rfl, hm, hC, hx, q⟩ := h
    refine ⟨_, pss_cons (ps_setLc (i := 2) (own := [("_law_chart", 12)]) (g := gName 12) (tt := tYes) (by rfl) scLists.nd rfl rfl (sw_true rfl rfl rfl (by decide +kernel)) (pi_list (pv 1)) (blkOk_by (N := NLists) (sc := defScope sLists) (by decide +kernel))
        (fun _ _ _ _ _ => pg_name (i := 12) scLists.nd rfl (Or.inl rfl)) (fun _ _ _ _ _ => pts_nil) (fun _ _ _ _ _ => pe_df G.rings (hr.mono (by decide)) (pa_cons (pv 12) pa_nil)))
      (pss_cons (ps_setLc (i := 4) (own := [("_law_one", 3)]) (g := gName 3) (tt := tYes) (te := tCB (rSum K) (tCons (teLens K 3 13) tNil)) (by rfl) scLists.nd rfl rfl (sw_true rfl rfl rfl (by decide +kernel)) (pi_list (pv 2)) (blkOk_by (N := NLists) (sc := defScope sLists) (by decide +kernel))
        (fun _ _ _ _ _ => pg_name (i := 3) scLists.nd rfl (Or.inl rfl)) (fun _ _ _ _ _ => pts_nil)
        (fun _ _ _ _ _ => pe_callB (r := rSum K) (cr_sum rfl) (by rfl) B.sum boot_sum (pa_cons (pe_lc (own := [("_law_ring", 13)]) (g := gName 13) (tt := tYes) (te := tCB (rLenQ K) (tCons (tVar 13) tNil)) (by rfl) scLists.nd (pi_list (pv 3)) (blkOk_by (N := NLists) (sc := scIn1) (by decide +kernel))
          (fun _ _ _ _ _ => pg_name (i := 13) scLists.nd rfl (Or.inl rfl)) (fun _ _ _ _ _ => pts_nil) (fun _ _ _ _ _ => pe_callB (r := rLenQ K) call_len_seq (by rfl) B.len PySem.boot_len (pa_cons (pv 13) pa_nil))) pa_nil)))
      (pss_cons (ps_setLc (i := 5) (own := [("_law_chart", 12)]) (g := gName 12) (tt := tYes) (by rfl) scLists.nd rfl rfl (sw_true rfl rfl rfl (by decide +kernel)) (pi_list (pv 1)) (blkOk_by (N := NLists) (sc := defScope sLists) (by decide +kernel))
        (fun _ _ _ _ _ => pg_name (i := 12) scLists.nd rfl (Or.inl rfl)) (fun _ _ _ _ _ => pts_nil) (fun _ _ _ _ _ => pe_df G.depths (hr.mono (by decide)) (pa_cons (pv 12) pa_nil)))
      (pss_cons (ps_set (i := 6) scLists.nd rfl (.inl rfl) (pe_lst pa_nil))
      (pss_cons (ps_for PassesOwn.never rfl (pi_list (pv 5)) (pg_name (i := 3) scLists.nd rfl (.inl rfl)) (pss_one (ps_set (i := 6) scLists.nd rfl (.inl rfl) (pe_op op_cat (pv 6) (pv 3)))))
      (pss_cons (ps_set (i := 7) scLists.nd rfl (.inl rfl) (pe_lst (pa_cons (pe_df G.list (hr.mono (by decide)) (pa_cons (pv 4) (pa_cons (pe_op op_add (pv 0) pe_int) pa_nil)))
        (pa_cons (pe_df G.list (hr.mono (by decide)) (pa_cons (pe_lc (own := [("_law_chart", 12)]) (g := gName 12) (tt := tYes) (te := tCB (rLenSet w) (tCons (tCB (rSetI K w) (tCons (tVar 12) tNil)) tNil)) (by rfl) scLists.nd (pi_list (pv 1)) (blkOk_by (N := NLists) (sc := defScope sLists) (by decide +kernel))
          (fun _ _ _ _ _ => pg_name (i := 12) scLists.nd rfl (Or.inl rfl)) (fun _ _ _ _ _ => pts_nil) (fun _ _ _ _ _ => pe_callB (r := rLenSet w) cr_lenSet (by rfl) B.len PySem.boot_len (pa_cons (pe_callTy (r := rSetI K w) (cr_setI rfl) (by rfl) B.set (by decide +kernel) (pa_cons (pv 12) pa_nil)) pa_nil)))
          (pa_cons (pe_op op_add (pv 0) pe_int) pa_nil))) pa_nil))))
      (pss_cons (ps_set (i := 7) scLists.nd rfl (.inl rfl) (pe_op op_cat (pv 7) (pe_lst (pa_cons (pe_df G.list (hr.mono (by decide)) (pa_cons (pe_lc (own := [("_law_one", 3)]) (g := gName 3) (tt := tYes) (te := tCB (rLenQ K) (tCons (tVar 3) tNil)) (by rfl) scLists.nd (pi_list (pv 2)) (blkOk_by (N := NLists) (sc := defScope sLists) (by decide +kernel))
          (fun _ _ _ _ _ => pg_name (i := 3) scLists.nd rfl (Or.inl rfl)) (fun _ _ _ _ _ => pts_nil) (fun _ _ _ _ _ => pe_callB (r := rLenQ K) call_len_seq (by rfl) B.len PySem.boot_len (pa_cons (pv 3) pa_nil))) (pa_cons (pe_op op_add (pv 0) pe_int) pa_nil)))
        (pa_cons (pe_df G.list (hr.mono (by decide)) (pa_cons (pe_lc (own := [("_law_one", 3)]) (g := gName 3) (tt := tYes) (te := tCB (rMax K) (tCons (tVar 3) tNil)) (by rfl) scLists.nd (pi_list (pv 5)) (blkOk_by (N := NLists) (sc := defScope sLists) (by decide +kernel))
          (fun _ _ _ _ _ => pg_name (i := 3) scLists.nd rfl (Or.inl rfl)) (fun _ _ _ _ _ => pts_nil) (fun _ _ _ _ _ => pe_callB (r := rMax K) (cr_max rfl) (by rfl) B.max boot_max (pa_cons (pv 3) pa_nil))) (pa_cons (pv 0) pa_nil))) pa_nil)))))
      (pss_cons (ps_set (i := 7) scLists.nd rfl (.inl rfl) (pe_op op_cat (pv 7) (pe_lst (pa_cons (pe_df G.list (hr.mono (by decide)) (pa_cons (pv 6) (pa_cons (pv 0) pa_nil)))
        (pa_cons (pe_df G.tallyI (hr.mono (by decide)) (pa_cons (pe_lc (own := [("_law_one", 3)]) (g := gName 3) (tt := tYes) (by rfl) scLists.nd (pi_list (pv 2)) (blkOk_by (N := NLists) (sc := defScope sLists) (by decide +kernel))
          (fun _ _ _ _ _ => pg_name (i := 3) scLists.nd rfl (Or.inl rfl)) (fun _ _ _ _ _ => pts_nil) (fun _ _ _ _ _ => pe_df G.lper (hr.mono (by decide)) (pa_cons (pv 3) pa_nil))) pa_nil)) pa_nil)))))
      (pss_cons (ps_set (i := 8) scLists.nd rfl (.inl rfl) (pe_lst (pa_cons (pe_df G.place (hr.mono (by decide)) (pa_cons (pv 0) pa_nil)) (pa_cons (pe_df G.reach (hr.mono (by decide)) (pa_cons (pv 0) pa_nil)) (pa_cons (pe_df G.piece (hr.mono (by decide)) (pa_cons (pv 0) pa_nil)) (pa_cons (pe_df G.height hr (pa_cons (pv 0) pa_nil)) pa_nil))))))
      (pss_cons (ps_set (i := 8) scLists.nd rfl (.inl rfl) (pe_op op_cat (pv 8) (pe_lst (pa_cons (pe_df G.depth (hr.mono (by decide)) (pa_cons (pv 0) pa_nil)) (pa_cons (pe_df G.period (hr.mono (by decide)) (pa_cons (pv 0) pa_nil)) pa_nil)))))
      (pss_cons (ps_if (pt_cmpR op_ne (pe_callB (cr_repr hgd hr.units) (by rfl) B.repr (by decide +kernel) (pa_cons (pv 8) pa_nil)) (pe_callB (cr_repr hgd hr.units) (by rfl) B.repr (by decide +kernel) (pa_cons (pv 7) pa_nil)) (nomark _)) (pss_one (ps_ret pe_bl)) pss_nil)
      (pss_cons (ps_for PassesOwn.never rfl (pi_list (pv 8)) (pg_name (i := 3) scLists.nd rfl (.inl rfl)) (pss_one (ps_expr (pe_bm PySem.F.plainAttrs_list PySem.F.slot_list_append PySem.F.type_list_append mt_append (pv 3) (pa_cons pe_non pa_nil)))))
      (pss_cons (ps_set (i := 9) scLists.nd rfl (.inl rfl) (pe_lst (pa_cons (pe_dfk G.kplace (hr.mono (by decide)) (pk_cons (pv 0) pk_nil)) (pa_cons (pe_dfk G.kreach (hr.mono (by decide)) (pk_cons (pv 0) pk_nil)) (pa_cons (pe_dfk G.kpiece (hr.mono (by decide)) (pk_cons (pv 0) pk_nil)) (pa_cons (pe_dfk G.kheight hr (pk_cons (pv 0) pk_nil)) pa_nil))))))
      (pss_cons (ps_if (pt_cmpR op_ne (pe_callB (cr_repr hgd hr.units) (by rfl) B.repr (by decide +kernel) (pa_cons (pe_op op_cat (pv 9) (pe_lst (pa_cons (pe_dfk G.kdepth (hr.mono (by decide)) (pk_cons (pv 0) pk_nil)) (pa_cons (pe_dfk G.kperiod (hr.mono (by decide)) (pk_cons (pv 0) pk_nil)) pa_nil)))) pa_nil)) (pe_callB (cr_repr hgd hr.units) (by rfl) B.repr (by decide +kernel) (pa_cons (pv 7) pa_nil)) (nomark _)) (pss_one (ps_ret pe_bl)) pss_nil)
      (pss_cons (ps_for PassesOwn.never rfl (pi_list (pe_df G.tallyT (hr.mono (by decide)) (pa_cons (pe_lc (own := [("_law_one", 3)]) (g := gName 3) (tt := tYes) (te := tThen (tCB (rSortedI K) (tCons (teLens K 3 13) tNil)) (kTup K)) (by rfl) scLists.nd (pi_list (pv 2)) (blkOk_by (N := NLists) (sc := defScope sLists) (by decide +kernel))
          (fun _ _ _ _ _ => pg_name (i := 3) scLists.nd rfl (Or.inl rfl)) (fun _ _ _ _ _ => pts_nil)
          (fun _ _ _ _ _ => pe_tupleOf (by rfl) B.tuple (pe_callB (r := rSortedI K) cr_sortedI (by rfl) B.sorted boot_sorted (pa_cons (pe_lc (own := [("_law_ring", 13)]) (g := gName 13) (tt := tYes) (te := tCB (rLenQ K) (tCons (tVar 13) tNil)) (by rfl) scLists.nd (pi_list (pv 3)) (blkOk_by (N := NLists) (sc := scIn2) (by decide +kernel))
            (fun _ _ _ _ _ => pg_name (i := 13) scLists.nd rfl (Or.inl rfl)) (fun _ _ _ _ _ => pts_nil) (fun _ _ _ _ _ => pe_callB (r := rLenQ K) call_len_seq (by rfl) B.len PySem.boot_len (pa_cons (pv 13) pa_nil))) pa_nil)))) pa_nil)))
          (pg_tup rfl (pgs_cons (pg_name (i := 10) scLists.nd rfl (.inl rfl)) (pgs_cons (pg_name (i := 11) scLists.nd rfl (.inl rfl)) pgs_nil)))
        (pss_one (ps_if (pt_cmpR op_ne (pe_callB (cr_repr hgd hr.units) (by rfl) B.repr (by decide +kernel) (pa_cons (pe_lst (pa_cons (pe_df G.len (hr.mono (by decide)) (pa_cons (pv 0) (pa_cons (pv 10) pa_nil))) (pa_cons (pe_dfk G.klen (hr.mono (by decide)) (pk_cons (pv 10) (pk_cons (pv 0) pk_nil))) pa_nil))) pa_nil)) (pe_callB (cr_repr hgd hr.units) (by rfl) B.repr (by decide +kernel) (pa_cons (pe_lst (pa_cons (pv 11) (pa_cons (pv 11) pa_nil))) pa_nil)) (nomark _)) (pss_one (ps_ret pe_bl)) pss_nil)))
      (pss_one (ps_ret pe_bl)))))))))))))))), ?_⟩
    have fw := charts_few hm
    obtain ⟨m1, m2⟩ := id hm
    have pl := PL m hm
    have lc : ∀ c ∈ charts m, c.length ≤ 5 := fun c hc => by
      have := (chart_ok hm hc).1
      omega
    refine q_asgF (P := LstP K TiP) (as := (charts m).map ringsF) (mon_lst mon_ti) (ep_mL (K := K) (P := TiP) (R := LstP K TiP) ringsF mon_ti (mon_lst mon_ti) (ep_ls (a := C) (ev_var rfl) (sq_of hC) hx) (by omega) (fun _ => rfl) fun x c H1 e1 hc px => ep_rings (ep_var rfl px) hm hc) fun R rs H1 nR e1 hR pR => ?_
    have few : ∀ rs ∈ (charts m).map ringsF, rs.length ≤ 40000 := fun rs h => by
      obtain ⟨c, hc, rfl⟩ := List.mem_map.mp h
      have := rings_few hm hc
      omega
    have q2 : (charts m).map onSum = ((charts m).map ringsF).map fun rs => (lensOf rs).sum := by
      rw [List.map_map]
      rfl
    refine q_asgL (xs := ((charts m).map onSum).map V.int) (by
      rw [q2]
      exact ef_to_l (ep_mL (K := K) (P := LstP K TiP) (R := IntP) (as := (charts m).map ringsF) (fun rs => (lensOf rs).sum) (mon_lst mon_ti) mon_int (ep_ls (a := R) (ev_var rfl) (sq_of hR) pR) (by rw [List.length_map]; omega) (fun _ => rfl) fun x rs H2 e2 hrs px =>
        ep_int (ev_sumN (el_lens (v := x) rfl px (few rs hrs) (by show 13 < 14; omega))))) fun O H2 nO e2 hO => ?_
    have e02 := e1.trans e2
    refine q_asgF (P := LiP) (as := (charts m).map depthsF) mon_li (ep_mL (K := K) (P := TiP) (R := LiP) depthsF mon_ti mon_li (ep_ls (a := C) (ev_var rfl) (sq_of (e02 C _ hC)) (paired_up mon_ti e02 hx)) (by omega) (fun _ => rfl) fun x c H3 e3 hc px => ep_ldepths (ep_var rfl px) hm hc) fun Dd ds H3 nD e3 hD pD => ?_
    refine q_asgL (xs := []) (el_lst ea_nil (Nat.zero_le _)) fun w0 H4 nw e4 hw => ?_
    refine q_forL (a := Dd) (xs := ds) (ev_var rfl) (sq_of (e4 Dd _ hD)) (fun k σ' H' => ∃ y3 w, σ' = [some (.int m), some (.ref C), some (.ref R), y3, some (.ref O), some (.ref Dd), some (.ref w), none, none, none, none, none, none, none] ∧ Ex H4 H' ∧ H' w = some (.lst ((((charts m).take k).flatMap depthsF).map V.int)))
      (fun H5 e5 => ⟨_, w0, rfl, e5, e5 w0 _ hw⟩) (fun k σ' H' _ hp => ?_) (fun k x σ' H' hk hp => ?_) (fun σ' H5 hp => ?_)
    · obtain ⟨_, _, _, e, _⟩ := hp
      exact sq_of ((e4.trans e) Dd _ hD)
    · obtain ⟨y3, w, rfl, e, hw⟩ := hp
      obtain ⟨ns, hn, b, rfl, hb⟩ := paired_at pD hk
      rw [List.getElem?_map] at hn
      obtain ⟨c, hc, rfl⟩ := Option.map_eq_some_iff.mp hn
      have ln := flat_lenM (g := depthsF) (n := 5) (l := (charts m).take k) (fun c hc => by rw [depths_len]; exact lc c (List.mem_of_mem_take hc))
      have lt := List.length_take_le' k (charts m)
      have lcc := lc c (List.mem_of_getElem? hc)
      refine s_asgL (xs := (((charts m).take (k + 1)).flatMap depthsF).map V.int) (by
        rw [List.take_add_one, hc, Option.toList_some, List.flatMap_append, List.map_append]
        have z : List.flatMap depthsF [c] = depthsF c := by simp
        rw [z]
        exact el_vcatV (a := w) (b := b) (ev_var rfl) (ev_var rfl) hw ((e4.trans e) b _ hb) (by rw [List.length_map, List.length_map, depths_len]; omega)) fun w2 H5 nw2 e5 hw2 => ⟨_, w2, rfl, e.trans e5, hw2⟩
    obtain ⟨y3, wh, rfl, e5, hwh⟩ := hp
    have ld : ds.length = (charts m).length := by
      rw [Paired.length pD, List.length_map]
    rw [ld, List.take_of_length_le (Nat.le_refl _)] at hwh
    have e25 := (e3.trans e4).trans e5
    have e05 := e02.trans e25
    have hR5 := (e2.trans e25) R _ hR
    have pR5 := paired_up (mon_lst mon_ti) (e2.trans e25) pR
    have hD5 := (e4.trans e5) Dd _ hD
    have pD5 := paired_up mon_li (e4.trans e5) pD
    have hx5 := paired_up mon_ti e05 hx
    refine q_asgN (K := K) (en_l2 (ew_of (el_d (el_list2 (a := O) (ns := (charts m).map onSum) (n := m + 1) (ev_var rfl) (e25 O _ hO) (ev_add (ev_var rfl) ev_c) ⟨by omega, by omega⟩)))
      (ew_of (el_d (el_listN (ns := (charts m).map fun c => ((asc c).length : Int)) (n := m + 1) (ef_to_l (ep_mL (K := K) (P := TiP) (R := IntP) (as := charts m) (fun c => ((asc c).length : Int)) mon_ti mon_int (ep_ls (a := C) (ev_var rfl) (sq_of (e05 C _ hC)) hx5) (by omega) (fun _ => rfl) fun x c H6 e6 hc px => ?_)) (ev_add (ev_var rfl) ev_c) ⟨by omega, by omega⟩)))) fun D1 x1 H6 nD1 e6 hD1 dD1 => ?_
    · obtain ⟨a, rfl, ha⟩ := px
      have ok := chart_ok hm hc
      exact ep_int (ev_setlen (a := a) (ev_var rfl) (st_of ha) (by have := lc c hc; omega) fun x hx => by
        have := ok.2 x hx
        omega)
    have q7 : (charts m).map (fun c => ((ringsF c).length : Int)) = ((charts m).map ringsF).map fun rs => (rs.length : Int) := by
      rw [List.map_map]
      rfl
    have q8 : (charts m).map (fun c => maxF (depthsF c)) = ((charts m).map depthsF).map maxF := by
      rw [List.map_map]
      rfl
    refine q_asgN (K := K) (en_cat (l := D1) (ev_var rfl) hD1 dD1 (en_l2 (ew_of (el_d (el_listN (ns := (charts m).map fun c => ((ringsF c).length : Int)) (n := m + 1) (by
        rw [q7]
        exact ef_to_l (ep_mL (K := K) (P := LstP K TiP) (R := IntP) (as := (charts m).map ringsF) (fun rs => (rs.length : Int)) (mon_lst mon_ti) mon_int (ep_ls (a := R) (ev_var rfl) (sq_of (e6 R _ hR5)) (paired_up (mon_lst mon_ti) e6 pR5)) (by rw [List.length_map]; omega) (fun _ => rfl) fun x rs H7 e7 hrs px => by
          obtain ⟨a, xs, rfl, ha, pa⟩ := px
          have z := ev_lenL (K := K) (σ := (wipe [some (.int m), some (.ref C), some (.ref R), y3, some (.ref O), some (.ref Dd), some (.ref wh), some (.ref D1), none, none, none, none, none, none] [3]).set 3 (some (.ref a))) (ta := tVar 3) (ev_var rfl) ha
          rw [Paired.length pa] at z
          exact ep_int z)) (ev_add (ev_var rfl) ev_c) ⟨by omega, by omega⟩)))
      (ew_of (el_d (el_listN (ns := (charts m).map fun c => maxF (depthsF c)) (n := m) (by
        rw [q8]
        exact ef_to_l (ep_mL (K := K) (P := LiP) (R := IntP) (as := (charts m).map depthsF) maxF mon_li mon_int (ep_ls (a := Dd) (ev_var rfl) (sq_of (e6 Dd _ hD5)) (paired_up mon_li e6 pD5)) (by rw [List.length_map]; omega) (fun _ => rfl) fun x ns H7 e7 hns px => by
          obtain ⟨a, rfl, ha⟩ := px
          obtain ⟨c, hc, rfl⟩ := List.mem_map.mp hns
          refine ep_int (ev_max (a := a) (ev_var rfl) (sq_of ha) (by rw [depths_len]; have := (chart_ok hm hc).1; omega) fun y hy => ?_)
          obtain ⟨z, _, rfl⟩ := List.mem_map.mp hy
          omega)) (ev_var rfl) ⟨by omega, by omega⟩)))) (by show 2 + 2 ≤ 100000; omega)) fun D2 x2 H7 nD2 e7 hD2 dD2 => ?_
    have e57 := e6.trans e7
    have q9 : perCs m = ((charts m).map ringsF).map fun rs => (periodF rs : Int) := by
      unfold perCs
      rw [List.map_map]
      rfl
    refine q_asgN (K := K) (en_cat (l := D2) (ev_var rfl) hD2 dD2 (en_l2 (ew_of (el_d (el_list2 (a := wh) (ns := (charts m).flatMap depthsF) (n := m) (ev_var rfl) (e57 wh _ hwh) (ev_var rfl) ⟨by omega, by omega⟩)))
      (en_tallyI (ns := perCs m) (by
        rw [q9]
        exact ef_to_l (ep_mL (K := K) (P := LstP K TiP) (R := IntP) (as := (charts m).map ringsF) (fun rs => (periodF rs : Int)) (mon_lst mon_ti) mon_int (ep_ls (a := R) (ev_var rfl) (sq_of (e57 R _ hR5)) (paired_up (mon_lst mon_ti) e57 pR5)) (by rw [List.length_map]; omega) (fun _ => rfl) fun x rs H8 e8 hrs px => by
          obtain ⟨c, hc, e⟩ := List.mem_map.mp hrs
          exact ep_int (ev_lperiod (ep_var rfl px) e.symm hm hc))) (by unfold perCs; rw [List.length_map]; omega)).w) (by show 4 + 2 ≤ 100000; omega)) fun D3 x3 H8 nD3 e8 hD3 dD3 => ?_
    have due : DpAll K H8 x3 (told m) := by
      have z : told m = ([PyData.list (dIs (listF ((charts m).map onSum) (m + 1))), PyData.list (dIs (listF ((charts m).map fun c => ((asc c).length : Int)) (m + 1)))] ++ [PyData.list (dIs (listF ((charts m).map fun c => ((ringsF c).length : Int)) (m + 1))), PyData.list (dIs (listF ((charts m).map fun c => maxF (depthsF c)) m))]) ++
          [PyData.list (dIs (listF ((charts m).flatMap depthsF) m)), PyData.list (((tallyF (perCs m)).mergeSort (PySem.W.dataLe false datI)).map datI)] := by
        rw [pl.f1, pl.f2, pl.f3, pl.f4, pl.f5, pl.f6]
        rfl
      rw [z]
      exact dD3
    have e08 := (e05.trans e57).trans e8
    have hR8 := (e57.trans e8) R _ hR5
    have pR8 := paired_up (mon_lst mon_ti) (e57.trans e8) pR5
    have duev : ∀ {σ : L2.St} {H : Hp}, σ[7]? = some (some (.ref D3)) → Ex H8 H → EvW K (tVar 7) σ H (.list (told m)) := fun h e => ew_var h (.lst (sq_of (e D3 _ hD3)) (due.up e))
    have et : ([dIs (ringPlaceCounts m), dIs (reachedCounts m), dIs (pieceCounts m), dIs (heightCounts m)] ++ [dIs (depthTotals m), dle ((periodCounts m).map datI)]).map PyData.list = told m := by
      unfold told
      rw [← pl.f6d]
      rfl
    refine q_told (K := K) (dss := [dIs (ringPlaceCounts m), dIs (reachedCounts m), dIs (pieceCounts m), dIs (heightCounts m)]) (fa_cons (en_l (el_c1 (ev_var rfl) hm)) (fa_cons (en_l (el_c1 (ev_var rfl) hm)) (fa_cons (en_l (el_c1 (ev_var rfl) hm)) (fa_cons (en_l (el_c1 (ev_var rfl) hm)) fa_nil)))) (by show 4 ≤ 1000; omega) fun t ts H9 nt e9 ht pt => ?_
    refine q_told2 (K := K) (B := H8) e9 (l := t) (ev_var rfl) ht pt (ess := [dIs (depthTotals m), dle ((periodCounts m).map datI)]) (fa_cons (en_l (el_c1 (ev_var rfl) hm)) (fa_cons (en_periods (ev_var rfl) hm) fa_nil)) (by show 4 + 2 ≤ 1000; omega) fun t2 vs H10 nt2 e10 ht2 pt2 hne => ?_
    have e810 := e9.trans e10
    refine q_when (b := false) (et_test (ev_neS (ev_reprW (ew_var rfl (.lst (sq_of ht2) (et ▸ frs_dp pt2))) pl.shw) (ev_reprW (duev rfl e810) pl.shw))) (fun hb => nomatch hb) (fun _ H11 e11 => ?_)
    have few2 : ∀ v ∈ vs, ∃ p ys, v = .ref p ∧ p ≠ t2 ∧ H8 p = none ∧ H11 p = some (.lst ys) ∧ ys.length ≤ 1000 := by
      intro v hv
      obtain ⟨i, hi⟩ := List.mem_iff_getElem?.mp hv
      obtain ⟨d, hd, p, ys, rfl, h8, h10, dd⟩ := paired_at pt2 hi
      refine ⟨p, ys, rfl, fun z => hne _ hv (by rw [z]), h8, e11 p _ h10, ?_⟩
      have hmem : PyData.list d ∈ told m := by
        rw [← et]
        exact List.mem_map.mpr ⟨d, List.mem_of_getElem? hd, rfl⟩
      have := pl.len _ hmem d rfl
      rw [dd.length]
      omega
    refine q_forL (a := t2) (xs := vs) (ev_var rfl) (sq_of (e11 t2 _ ht2)) (fun k σ' H' => ∃ y3, σ' = [some (.int m), some (.ref C), some (.ref R), y3, some (.ref O), some (.ref Dd), some (.ref wh), some (.ref D3), some (.ref t2), none, none, none, none, none] ∧ Ex H8 H' ∧ H' t2 = some (.lst vs) ∧
        ∀ v ∈ vs, ∃ p ys, v = .ref p ∧ p ≠ t2 ∧ H8 p = none ∧ H' p = some (.lst ys) ∧ ys.length ≤ 1000 + k)
      (fun H12 e12 => ⟨_, rfl, (e810.trans e11).trans e12, (e11.trans e12) t2 _ ht2, fun v hv => ?_⟩) (fun k σ' H' _ hp => ?_) (fun k x σ' H' hk hp => ?_) (fun σ' H12 hp => ?_)
    · obtain ⟨p, ys, h1, h2, h3, h4, h5⟩ := few2 v hv
      exact ⟨p, ys, h1, h2, h3, e12 p _ h4, h5⟩
    · obtain ⟨_, _, _, h, _⟩ := hp
      exact sq_of h
    · obtain ⟨y3, rfl, e, ht', hv⟩ := hp
      obtain ⟨p, ys, rfl, hpt, hp8, hpl, hlen⟩ := hv x (List.mem_of_getElem? hk)
      have lv : vs.length = 6 := by
        rw [Paired.length pt2]
        rfl
      have hk6 : k < 6 := by
        have := (List.getElem?_eq_some_iff.mp hk).1
        omega
      refine s_app (l := p) (xs := ys) (v := .non) hpl (ev_var rfl) ev_c (by omega) fun H'' e'' => ⟨_, rfl, (e.trans e'').mut hp8, ?_, fun v hv2 => ?_⟩
      · rw [upd_ne hpt.symm]
        exact e'' t2 _ ht'
      · obtain ⟨p', ys', h1, h2, h3, h4, h5⟩ := hv v hv2
        by_cases z : p' = p
        · subst z
          refine ⟨p', ys ++ [.non], h1, h2, h3, upd_same, ?_⟩
          rw [List.length_append]
          show ys.length + 1 ≤ _
          omega
        · exact ⟨p', ys', h1, h2, h3, by rw [upd_ne z]; exact e'' p' _ h4, by omega⟩
    obtain ⟨y3, rfl, e12, _, _⟩ := hp
    refine q_told (K := K) (dss := [dIs (ringPlaceCounts m), dIs (reachedCounts m), dIs (pieceCounts m), dIs (heightCounts m)]) (fa_cons (en_l (el_k1 (ev_var rfl) hm)) (fa_cons (en_l (el_k1 (ev_var rfl) hm)) (fa_cons (en_l (el_k1 (ev_var rfl) hm)) (fa_cons (en_l (el_k1 (ev_var rfl) hm)) fa_nil)))) (by show 4 ≤ 1000; omega) fun ag as H13 nag e13 hag pag => ?_
    have et2 : ([dIs (ringPlaceCounts m), dIs (reachedCounts m), dIs (pieceCounts m), dIs (heightCounts m)]).map PyData.list ++ [PyData.list (dIs (depthTotals m)), PyData.list (dle ((periodCounts m).map datI))] = told m := et
    have rv : EvW K (tOp rCat (tVar 9) (tLst (tCons (tCallK (sp1L Pm depthTotals) (gOf pr1) E0 tNil (tCons (tVar 0) tNil)) (tCons (tCallK (spPeriods K) (gOf pr1) E0 tNil (tCons (tVar 0) tNil)) tNil)))) [some (.int m), some (.ref C), some (.ref R), y3, some (.ref O), some (.ref Dd), some (.ref wh), some (.ref D3), some (.ref t2), some (.ref ag), none, none, none, none] H13 (.list (told m)) := by
      rw [← et2]
      exact (en_cat (l := ag) (ev_var rfl) hag (frs_dp pag) (en_l2 (ew_of (el_d (el_k1 (ev_var rfl) hm))) (en_periodsK (ev_var rfl) hm).w) (by show 4 + 2 ≤ 100000; omega)).w
    refine q_when (b := false) (et_test (ev_neS (ev_reprW rv pl.shw) (ev_reprW (duev rfl (e12.trans e13)) pl.shw))) (fun hb => nomatch hb) (fun _ H14 e14 => ?_)
    have e814 := (e12.trans e13).trans e14
    have q15 : (charts m).map lensF = ((charts m).map ringsF).map fun rs => isort (lensOf rs) := by
      rw [List.map_map]
      rfl
    have tl := ep_mL (K := K) (tl := tVar 2) (te := tThen (tCB (rSortedI K) (tCons (teLens K 3 13) tNil)) (kTup K)) (j := 3) (vs := [3]) (σ := [some (.int m), some (.ref C), some (.ref R), y3, some (.ref O), some (.ref Dd), some (.ref wh), some (.ref D3), some (.ref t2), some (.ref ag), none, none, none, none]) (Hb := H14) (P := LstP K TiP) (R := TiP) (as := (charts m).map ringsF) (fun rs => isort (lensOf rs)) (mon_lst mon_ti) mon_ti
      (ep_ls (a := R) (ev_var rfl) (sq_of (e814 R _ hR8)) (paired_up (mon_lst mon_ti) e814 pR8)) (by rw [List.length_map]; omega) (fun _ => rfl) fun x rs H15 e15 hrs px => ep_u (eu_tupOf (el_sortI (el_lens (v := x) rfl px (few rs hrs) (by show 13 < 14; omega))))
    rw [← q15] at tl
    refine q_forCallL (tl H14 (Ex.refl _) _ fun la lx Hn H15 gl h1 h2 hla pla => ?_)
    refine ⟨la, lx, (charts m).map lensF, rfl, sq_of hla, paired_up mon_ti gl.new pla, by rw [List.length_map]; omega, fun p2 ys es H16 np2 e16 hp2 pm py => ?_⟩
    have e1416 := gl.all.trans e16
    refine ⟨p2, rfl, ⟨ys, sq_of hp2⟩, for_it (D := { ({ nx := fun _ H' => Q V.non H', rt := Q } : Ends) with nx := tRet (tC (.bl true)) { nx := fun _ H' => Q V.non H', rt := Q } }) (walk_list (xs := ys)) (fun k σ' H' => ∃ y10 y11, σ' = [some (.int m), some (.ref C), some (.ref R), y3, some (.ref O), some (.ref Dd), some (.ref wh), some (.ref D3), some (.ref t2), some (.ref ag), y10, y11, none, none] ∧ Ex H16 H')
      ⟨_, _, rfl, Ex.refl _⟩ (fun k σ' H' _ hp => ?_) (fun k x σ' H' H'' hk hp y => ?_) (fun σ' H' hp => ?_)⟩
    · obtain ⟨_, _, _, e⟩ := hp
      exact sq_of (e p2 _ hp2)
    · obtain ⟨y10, y11, rfl, e⟩ := hp
      obtain ⟨rfl, hy⟩ := y
      obtain ⟨en, hen, t, b, rfl, htt, hbt⟩ := paired_at py hy
      have mem : en ∈ tallyF ((charts m).map lensF) := pm.mem_iff.mp (List.mem_of_getElem? hen)
      obtain ⟨lok, leq⟩ := pl.f7 en mem
      have sml := pl.small en mem
      refine ⟨t, [.ref b, .int en.2], rfl, st_of (e t _ htt), rfl, .ref b, [.int en.2], rfl, .int en.2, [], rfl, rfl, ?_⟩
      have hb' := e b _ hbt
      refine s_when (b := false) (et_test (ev_neS (a := (PyData.list [.int en.2, .int en.2]).shown) (ev_reprW (en_ints2 ?_ ?_).w (shw_two sml)) (ev_reprW (en_ints2 (ev_var rfl) (ev_var rfl)).w (shw_two sml)))) (fun hb => nomatch hb) (fun _ H17 e17 => ⟨_, _, rfl, e.trans e17⟩)
      · rw [← leq]
        exact ev_rl (a := b) (ns := en.1) (ev_var rfl) (ev_var rfl) hm hb' lok
      · rw [← leq]
        exact ev_rlK (a := b) (ns := en.1) (ev_var rfl) (ev_var rfl) hm hb' lok
    · obtain ⟨y10, y11, rfl, e⟩ := hp
      show Q (V.bl true) H'
      exact q H' (((e08.trans e814).trans e1416).trans e)
end
end K54
/-! K54G9: _law_returning_right. -/
namespace K54
open PySem PySem.Spec PyProof.Rows L2 Evl

abbrev sRet : Stmt := topS 46
abbrev NRet : List Str := ["_law_source_here", "_law_many", "_law_charts_here", "_law_number", "_law_count", "_law_due", "_law_found", "_law_chart"]
theorem scRet : FnScope ["_law_source_here", "_law_many", "_law_charts_here", "_law_number", "_law_count", "_law_due", "_law_found", "_law_chart"] ["_law_source_here", "_law_many", "_law_charts_here"] (defScope sRet) := ⟨rfl, rfl, rfl, by decide +kernel, rfl, by decide +kernel, by decide +kernel⟩
theorem ex_off2 {H H2 H3 : Hp} {S : Addr} (e : Ex (offH H S) H2) (e2 : Ex (offH H2 S) H3) : Ex (offH H S) H3 := fun b o h => by
  have hb : b ≠ S := fun z => by
    rw [z, offH_same] at h
    cases h
  exact e2 b o (by rw [offH_ne hb]; exact e b o h)
theorem eqvAll_ints : ∀ a b : List Int, PyData.eqvAll (dIs a) (dIs b) = decide (a = b)
  | [], [] => by simp [PyData.eqvAll]
  | [], y :: b => by
    show PyData.eqvAll [] (.int y :: dIs b) = _
    simp [PyData.eqvAll]
  | x :: a, [] => by
    show PyData.eqvAll (.int x :: dIs a) [] = _
    simp [PyData.eqvAll]
  | x :: a, y :: b => by
    have h := eqvAll_ints a b
    show PyData.eqvAll (.int x :: dIs a) (.int y :: dIs b) = _
    rw [PyData.eqvAll, h]
    by_cases z : x = y
    · subst z
      simp [PyData.eqv]
    · simp [PyData.eqv, z]
theorem eqv_tup (a b : List Int) : PyData.eqv (dT a) (dT b) = decide (a = b) := by
  show PyData.eqv (.tuple (dIs a)) (.tuple (dIs b)) = _
  rw [PyData.eqv]
  exact eqvAll_ints a b
theorem eqv_lst (a b : List Int) : PyData.eqv (.list (dIs a)) (.list (dIs b)) = decide (a = b) := by
  rw [PyData.eqv]
  exact eqvAll_ints a b
theorem shaped_tup (a : List Int) : SeqAt.shaped (dT a) = true := by
  unfold SeqAt.shaped
  rw [show (dT a).canLay0 = true by rw [PyData.canLay0]; exact canLay_ints a]
  have d : (dT a).depth ≤ 64 := by
    simp only [PyData.depth]
    rw [PySem.W.depth_ints]
    omega
  rw [Bool.true_and]
  exact decide_eq_true d
theorem shaped_lst (a : List Int) : SeqAt.shaped (PyData.list (dIs a)) = true := by
  unfold SeqAt.shaped
  rw [show (PyData.list (dIs a)).canLay0 = true by rw [PyData.canLay0]; exact canLay_ints a]
  have d : (PyData.list (dIs a)).depth ≤ 64 := by
    simp only [PyData.depth]
    rw [PySem.W.depth_ints]
    omega
  rw [Bool.true_and]
  exact decide_eq_true d
section
variable {α : Type} {Pr : Hp → V → α → Prop} {K : PySem.W.Frag} {σ : L2.St} {H : Hp} {ta tb tc te : TE} {D : Ends} {tz tu : TS}
theorem ev_lenF {as : List α} (h : EvFP Pr te σ H as) : Ev (tCB (rLenQ K) (tCons te tNil)) σ H (.int (as.length : Int)) := fun H1 e Q q =>
  h H1 e _ fun p xs Hn H2 g hp hn hH hd => ⟨p, xs, rfl, .inl (sq_of hH), by
    rw [Paired.length hd]
    exact q H2 g.all⟩
theorem ed_step {m n : Int} {c : List Int} (h : EvP TiP ta σ H c) (h2 : ∀ H1, Ex H H1 → Ev tb σ H1 (.int n)) (hm : Pm m) (ok : ChOk m c) (hn : 0 ≤ n ∧ n ≤ 1000) : EvD K (tCall (spStep K) [] E0 (tCons ta (tCons tb tNil))) σ H (dT (stepF c n.toNat)) := fun H1 e Q q =>
  h H1 e _ fun v Hn H2 g ⟨a, ev, ha⟩ => by
    subst ev
    refine h2 H2 (e.trans g.all) H2 (Ex.refl _) _ fun H3 e3 => ⟨a, m, n, c, rfl, st_of (e3 a _ (g.new a _ ha)), hm, ok, hn.1, hn.2, fun p H4 np e4 hp => ?_⟩
    refine q (.ref p) _ H4 (g.trans (Gr.fresh g.new (e3.trans e4))) (tupI_dp (st_of ?_))
    rw [newH_of (fresh_back e3 np)]
    exact hp
theorem ev_k3 {pre : Int → Int → Int → Prop} {f : Int → Int → Int → Int} {a b c : Int} (h : Ev ta σ H (.int a)) (h2 : Ev tb σ H (.int b)) (h3 : Ev tc σ H (.int c)) (hp : pre a b c) :
    Ev (tCallK (sp3 pre f) (gOf pr3) E0 tNil (tCons tc (tCons ta (tCons tb tNil)))) σ H (.int (f a b c)) := fun H1 e Q q =>
  h3 H1 e _ fun H2 e2 => h H2 (e.trans e2) _ fun H3 e3 => h2 H3 ((e.trans e2).trans e3) _ fun H4 e4 => ⟨a, b, c, rfl, hp, fun H5 e5 => q H5 (((e2.trans e3).trans e4).trans e5)⟩
/-- a draw -/
theorem draw_go {S : Addr} {d c t m : Int} {Q : VK} (h : Ev ta σ H (.ref S)) (h2 : ∀ H1, Ex H H1 → Ev tb σ H1 (.int m)) (hS : SrcAt H S d c t) (hc : 0 ≤ c ∧ c < 2305843009213693951) (ht : 0 ≤ t ∧ t ≤ 1000) (hm : 1 ≤ m ∧ m ≤ 1000)
    (q : ∀ r d' t' H', 0 ≤ r → r < m → t ≤ t' → t' ≤ t + 1 → Ex (offH H S) H' → SrcAt H' S d' c t' → Q (.int r) H') : tCall spDraw [] E0 (tCons ta (tCons tb tNil)) σ H Q :=
  h H (Ex.refl H) _ fun H1 e1 => h2 H1 e1 H1 (Ex.refl H1) _ fun H2 e2 => by
    have e12 := e1.trans e2
    refine ⟨S, d, c, t, m, rfl, e12 S _ hS, ⟨hc.1, hc.2, ht.1, ht.2⟩, hm, fun r d' t' H' r0 r1 t0 t1 e hS' => q r d' t' H' r0 r1 t0 t1 (fun b o hb => ?_) hS'⟩
    have hbS : b ≠ S := fun z => by
      rw [z, offH_same] at hb
      cases hb
    exact e b o (by rw [offH_ne hbS]; exact (ex_off.trans e12) b o hb)
end
def spRet : Sp := fun vs H Q _ => ∃ (S C : Addr) (d c t m : Int) (xs : List V), vs = [V.ref S, .int m, .ref C] ∧ SrcAt H S d c t ∧ (0 ≤ c ∧ c < 2305843009213693951) ∧ (0 ≤ t ∧ t ≤ 900) ∧ Pm m ∧ offH H S C = some (.lst xs) ∧ Paired (TiP (offH H S)) xs (charts m) ∧
  ∀ H' d' t', Ex (offH H S) H' → SrcAt H' S d' c t' → t ≤ t' → t' ≤ t + 2 → Q (.bl true) H'
section
variable {P : Program} {w : World} {K : PySem.W.Frag} {mg : Str → Option Value} {base : Heap}
theorem d_ret (T : At K mg "_law_returning_right" sRet) (B : Tx mg) (DD : Df P w K mg base "_law_draw" 1 ["_law_source_here", "_law_many"] spDraw) (DS : Df P w K mg base "_law_step" 1 ["_law_chart", "_law_number"] (spStep K))
    (DR : Df P w K mg base "returning_count" 8 ["many", "number", "count"] (sp3 (fun m n c => Pm m ∧ 0 ≤ n ∧ 1 ≤ c) returning)) (DRK : DfK P w K mg base "returning_count" 8 ["many", "number", "count"] ["count", "many", "number"] pr3 (sp3 (fun m n c => Pm m ∧ 0 ≤ n ∧ 1 ≤ c) returning))
    (PL : ∀ m, Pm m → Plain m) : DfG P w K mg base "_law_returning_right" 9 ["_law_source_here", "_law_many", "_law_charts_here"] spRet := by
  refine dfg_of T scRet (fun _ _ _ _ _ _ us hl => match us, hl with | [_, _, _], _ => rfl) (fun vs H Q E h => ?_) (fun f cdv A outer s H vs Q E hgd hr h => ?_)
  · obtain ⟨S, C, d, c, t, m, xs, rfl, _⟩ := h
    rfl
  · obtain ⟨S, C, d, c, t, m, xs, rfl, hS, hc, ht, hm, hC, hx, q⟩ := h
    refine ⟨_, pss_cons (ps_asg (pe_tup (pa_cons (pe_df DD (hr.mono (by decide)) (pa_cons (pv 0) (pa_cons (pe_op op_add (pv 1) pe_int) pa_nil))) (pa_cons (pe_op op_add pe_int (pe_df DD (hr.mono (by decide)) (pa_cons (pv 0) (pa_cons pe_int pa_nil)))) pa_nil)))
        (pg_tup rfl (pgs_cons (pg_name (i := 3) scRet.nd rfl (.inr rfl)) (pgs_cons (pg_name (i := 4) scRet.nd rfl (.inr rfl)) pgs_nil))))
      (pss_cons (ps_set (i := 5) scRet.nd rfl (.inl rfl) (pe_callB call_len_seq (by rfl) B.len PySem.boot_len (pa_cons (pe_lc (own := [("_law_chart", 7)]) (g := gName 7)
          (tt := tTest (tOp (rEqD K) (tCall (spStep K) [] E0 (tCons (tVar 7) (tCons (tOp (rI0 fun i j => .int (i + j)) (tVar 3) (tVar 4)) tNil))) (tCall (spStep K) [] E0 (tCons (tVar 7) (tCons (tVar 3) tNil))))) (te := tVar 7) (by rfl) scRet.nd (pi_list (pv 2)) (blkOk_by (N := NRet) (sc := defScope sRet) (by decide +kernel))
          (fun _ _ _ _ _ => pg_name (i := 7) scRet.nd rfl (Or.inl rfl))
          (fun _ _ _ _ _ => pts_one (pt_cmpR (r := rEqD K) (op_eqD hr.units) (pe_df DS (hr.mono (by decide)) (pa_cons (pv 7) (pa_cons (pe_op op_add (pv 3) (pv 4)) pa_nil))) (pe_df DS (hr.mono (by decide)) (pa_cons (pv 7) (pa_cons (pv 3) pa_nil))) (nomark _)))
          (fun _ _ _ _ _ => pv 7)) pa_nil)))
      (pss_cons (ps_set (i := 6) scRet.nd rfl (.inl rfl) (pe_lst (pa_cons (pe_df DR hr (pa_cons (pv 1) (pa_cons (pv 3) (pa_cons (pv 4) pa_nil)))) (pa_cons (pe_dfk DRK hr (pk_cons (pv 4) (pk_cons (pv 1) (pk_cons (pv 3) pk_nil)))) pa_nil))))
      (pss_one (ps_ret (pe_cmpR op_eq (pe_callB (cr_repr hgd hr.units) (by rfl) B.repr (by decide +kernel) (pa_cons (pv 6) pa_nil)) (pe_callB (cr_repr hgd hr.units) (by rfl) B.repr (by decide +kernel) (pa_cons (pe_lst (pa_cons (pv 5) (pa_cons (pv 5) pa_nil))) pa_nil)) (nomark _)))))), ?_⟩
    have pl := PL m hm
    have fw := charts_few hm
    obtain ⟨m1, m2⟩ := id hm
    refine draw_go (S := S) (m := m + 1) (ev_var rfl) (fun _ _ => ev_add (ev_var rfl) ev_c) hS hc ⟨ht.1, by omega⟩ ⟨by omega, by omega⟩ fun n d1 t1 H1 n0 n1 t10 t11 e1 hS1 => ?_
    refine draw_go (S := S) (m := 6) (ev_var rfl) (fun _ _ => ev_c) hS1 hc ⟨by omega, by omega⟩ ⟨by omega, by omega⟩ fun k0 d2 t2 H2 k00 k01 t20 t21 e2 hS2 => ?_
    refine rv_I0 (g := fun i j => V.int (i + j)) (i := 1) (j := k0) H2 (Ex.refl H2) _ fun H3 e3 => ⟨by show 2 ≤ sizeLine; decide, fun p hp => g_pair ?_⟩
    have eB := (ex_off2 e1 e2).trans (e3.trans (Ex.new (o := .tup [.int n, .int (1 + k0)]) hp))
    have hS3 : SrcAt (upd H3 p (.tup [.int n, .int (1 + k0)])) S d2 c t2 := (e3.trans (Ex.new hp)) S _ hS2
    show tSeq _ _ _ _ (upd H3 p (.tup [.int n, .int (1 + k0)]))
    generalize upd H3 p (.tup [.int n, .int (1 + k0)]) = H4 at eB hS3
    have tl := ep_lcL (K := K) (tl := tVar 2) (t := tTest (tOp (rEqD K) (tCall (spStep K) [] E0 (tCons (tVar 7) (tCons (tOp (rI0 fun i j => .int (i + j)) (tVar 3) (tVar 4)) tNil))) (tCall (spStep K) [] E0 (tCons (tVar 7) (tCons (tVar 3) tNil))))) (te := tVar 7) (j := 7) (vs := [7])
      (σ := [some (.ref S), some (.int m), some (.ref C), some (.int n), some (.int (1 + k0)), none, none, none]) (Hb := H4) (P := TiP) (R := TiP) (as := charts m) (fun c => decide (stepF c (n + (1 + k0)).toNat = stepF c n.toNat)) (fun c => c) mon_ti mon_ti
      (ep_ls (a := C) (ev_var rfl) (sq_of (eB C _ hC)) (paired_up mon_ti eB hx)) (by omega) (fun _ => rfl) (fun x c H5 e5 hc2 px => ?_) (fun x c H5 e5 hc2 px _ => ep_var rfl px)
    · rw [List.map_id'] at tl
      have f8 := pl.f8 n (1 + k0) n0 (by omega) (by omega) (by omega)
      have s8 := pl.small8 n (1 + k0) n0 (by omega) (by omega) (by omega)
      refine q_asg (v := .int (returning m n (1 + k0))) (by
        rw [f8]
        exact ev_lenF (K := K) tl) fun H5 e5 => ?_
      refine q_asgN (K := K) (en_ints2 (ev_c3 (a := m) (b := n) (c := 1 + k0) (f := returning) (ev_var rfl) (ev_var rfl) (ev_var rfl) ⟨hm, n0, by omega⟩) (ev_k3 (a := m) (b := n) (c := 1 + k0) (f := returning) (ev_var rfl) (ev_var rfl) (ev_var rfl) ⟨hm, n0, by omega⟩)) fun fl xs6 H6 nf e6 hf df => ?_
      refine s_ret (v := .bl true) (ev_eqS (a := (PyData.list [.int (returning m n (1 + k0)), .int (returning m n (1 + k0))]).shown) (ev_reprW (ew_var rfl (.lst (sq_of hf) df)) (shw_two s8)) (ev_reprW (en_ints2 (ev_var rfl) (ev_var rfl)).w (shw_two s8))) fun H7 e7 => ?_
      have e47 := (e5.trans e6).trans e7
      exact q H7 d2 t2 (eB.trans e47) (e47 S _ hS3) (by omega) (by omega)
    · have ok := chart_ok hm hc2
      refine et_is (et_test (ev_eqD (ed_step (m := m) (n := n + (1 + k0)) (ep_var rfl px) (fun _ _ => ev_add (ev_var rfl) (ev_var rfl)) hm ok ⟨by omega, by omega⟩) (ed_step (m := m) (n := n) (ep_var rfl px) (fun _ _ => ev_var rfl) hm ok ⟨by omega, by omega⟩) (shaped_tup _) (shaped_tup _))) ?_
      exact eqv_tup _ _
end
end K54
/-! K54G10: law. -/
namespace K54
open PySem PySem.Spec PyProof.Rows L2 Evl

abbrev sLaw : Stmt := topS 47
abbrev NLaw : List Str := ["_law_script", "_law_source_here", "_law_many", "_law_charts_here", "_law_lengths", "_law_due", "_law_turn", "_law_chart", "_law_ring"]
theorem scLaw : FnScope ["_law_script", "_law_source_here", "_law_many", "_law_charts_here", "_law_lengths", "_law_due", "_law_turn", "_law_chart", "_law_ring"] ["_law_script"] (defScope sLaw) := ⟨rfl, rfl, rfl, by decide +kernel, rfl, by decide +kernel, by decide +kernel⟩
abbrev scIn3 : Scope := { kind := .function, names := [(".0", .local), ("_law_chart", .local), ("sorted", .globalImplicit), ("_law_rings", .globalImplicit), ("list", .globalImplicit), ("_law_lengths", .cell)], isGenerator := false, isCoroutine := false }
def spLaw (K : PySem.W.Frag) : Sp := fun vs H Q _ => ∃ (a : Addr) (ns : List Int), vs = [V.ref a] ∧ SqL K H a (ns.map V.int) ∧ ns.length ≤ 63 ∧ ∀ H', Q (.bl true) H'
theorem sorted_getD : ∀ {ns : List Int}, ns.Pairwise (· ≤ ·) → ∀ k : Nat, k + 1 < ns.length → ns.getD k 0 ≤ ns.getD (k + 1) 0
  | [], _, k, h => absurd h (by simp)
  | [x], _, k, h => absurd h (by simp)
  | x :: y :: ns, hp, 0, _ => (List.pairwise_cons.mp hp).1 y List.mem_cons_self
  | x :: y :: ns, hp, k + 1, h => by
    have := sorted_getD (List.pairwise_cons.mp hp).2 k (by simpa using h)
    simpa using this
section
variable {K : PySem.W.Frag} {σ : L2.St} {H : Hp} {ta tb te : TE} {t : TT} {D : Ends} {tz tu : TS}
theorem q_asgX {i : Nat} (h : te σ H fun v H1 => tz D (σ.set i (some v)) H1) : tSeq (tAsg te (gName i)) tz D σ H := h
theorem q_ifX (h : te σ H fun x H1 => ∃ b, x = V.bl b ∧ if b = true then tu { D with nx := tz D } σ H1 else tz D σ H1) : tSeq (tIfS (tTest te) tu tNext) tz D σ H := h
theorem q_ifT (h : t σ H fun b H1 => if b = true then tu { D with nx := tz D } σ H1 else tz D σ H1) : tSeq (tIfS t tu tNext) tz D σ H := h
theorem if_five {b : Prop} [Decidable b] {i : Nat} {m0 : Int} (h0 : σ = σ.set i (some (.int m0))) (hm : Pm m0) (rest : ∀ m, Pm m → tz D (σ.set i (some (.int m))) H) : if b then tAsg (tC (.int 5)) (gName i) { D with nx := tz D } σ H else tz D σ H := by
  split
  · exact rest 5 ⟨by omega, by omega⟩
  · rw [h0]
    exact rest m0 hm
theorem el_listT {a : Addr} {xs : List V} (h : Ev ta σ H (.ref a)) (hs : SqT K H a xs) : EvL (tCB (rListS K) (tCons ta tNil)) σ H xs := fun H1 e Q q =>
  h H1 e _ fun H2 e2 => ⟨a, xs, rfl, .inr (ex_t (e.trans e2) hs), fun l hl => q l _ (fresh_back e2 hl) (e2.trans (Ex.new hl)) upd_same⟩
theorem el_lens2 {j : Nat} {tl : TE} {rs : List (List Int)} (h : EvP (LstP K TiP) tl σ H rs) (hz : rs.length ≤ 40000) (hj : j < σ.length) : EvL (tLc (iList K tl) (gName j) tYes (tCB (rLenQ K) (tCons (tVar j) tNil)) [j]) σ H ((lensOf rs).map V.int) := by
  have wp : ∀ x, wipe ((wipe σ [j]).set j (some x)) [j] = wipe σ [j] := fun x => by
    show ((σ.set j none).set j (some x)).set j none = σ.set j none
    rw [List.set_set, List.set_set]
  refine ef_to_l (ep_mL (P := TiP) (R := IntP) (as := rs) (fun r => (r.length : Int)) mon_ti mon_int h hz wp fun y r H2 e2 hr py => ?_)
  obtain ⟨b, rfl, hb⟩ := py
  refine ep_int (ev_lenTI (ev_var ?_) (st_of hb))
  show ((σ.set j none).set j (some (V.ref b)))[j]? = _
  rw [List.getElem?_set_self (by rw [List.length_set]; exact hj)]
/-- the calls that touch the source, or make charts -/
theorem src_go {c : Int} {Q : VK} (h : Ev ta σ H (.int c)) (q : ∀ p H' d k, H p = none → Ex H H' → SrcAt H' p d k 0 → 0 ≤ k → k < 2305843009213693951 → Q (.ref p) H') : tCall spSource [] E0 (tCons ta tNil) σ H Q :=
  h H (Ex.refl H) _ fun H1 e1 => ⟨c, rfl, fun p H' d k np e hS k0 k1 => q p H' d k (fresh_back e1 np) (e1.trans e) hS k0 k1⟩
theorem charts_go {m : Int} {Q : VK} (h : Ev ta σ H (.int m)) (hm : Pm m) (q : ∀ p xs H', H p = none → Ex H H' → H' p = some (.lst xs) → Paired (TiP H') xs (charts m) → Q (.ref p) H') : tCall spCharts [] E0 (tCons ta tNil) σ H Q :=
  h H (Ex.refl H) _ fun H1 e1 => ⟨m, rfl, hm, fun p xs H' np e hp hx => q p xs H' (fresh_back e1 np) (e1.trans e) hp hx⟩
theorem lists_go {m : Int} {C : Addr} {xs : List V} {Q : VK} (h : Ev ta σ H (.int m)) (h2 : ∀ H1, Ex H H1 → Ev tb σ H1 (.ref C)) (hm : Pm m) (hC : H C = some (.lst xs)) (hx : Paired (TiP H) xs (charts m)) (q : ∀ H', Ex H H' → Q (.bl true) H') : tCall spLists [] E0 (tCons ta (tCons tb tNil)) σ H Q :=
  h H (Ex.refl H) _ fun H1 e1 => h2 H1 e1 H1 (Ex.refl H1) _ fun H2 e2 => ⟨m, C, xs, rfl, hm, (e1.trans e2) C _ hC, paired_up mon_ti (e1.trans e2) hx, fun H' e => q H' ((e1.trans e2).trans e)⟩
theorem ret_go {tc : TE} {B : Hp} {S C : Addr} {d k t m : Int} {xs : List V} {Q : VK} (h : Ev ta σ H (.ref S)) (h2 : ∀ H1, Ex H H1 → Ev tb σ H1 (.int m)) (h3 : ∀ H1, Ex H H1 → Ev tc σ H1 (.ref C)) (hS : SrcAt H S d k t) (hk : 0 ≤ k ∧ k < 2305843009213693951) (ht : 0 ≤ t ∧ t ≤ 900) (hm : Pm m)
    (eB : Ex B H) (hB : B S = none) (hC : B C = some (.lst xs)) (hx : Paired (TiP B) xs (charts m)) (q : ∀ H' d' t', Ex B H' → SrcAt H' S d' k t' → t ≤ t' → t' ≤ t + 2 → Q (.bl true) H') : tCall spRet [] E0 (tCons ta (tCons tb (tCons tc tNil))) σ H Q :=
  h H (Ex.refl H) _ fun H1 e1 => h2 H1 e1 H1 (Ex.refl H1) _ fun H2 e2 => h3 H2 (e1.trans e2) H2 (Ex.refl H2) _ fun H3 e3 => by
    have e13 := (e1.trans e2).trans e3
    have eo : Ex B (offH H3 S) := off_ex (eB.trans e13) hB
    exact ⟨S, C, d, k, t, m, xs, rfl, e13 S _ hS, hk, ht, hm, eo C _ hC, paired_up mon_ti eo hx, fun H' d' t' e hS' t0 t1 => q H' d' t' (eo.trans e) hS' t0 t1⟩
end
theorem yes_go {σ : L2.St} {H : Hp} {F G : Hp → Prop} (h : F H) : tYes σ H fun b H3 => if b = true then F H3 else G H3 := by
  show if true = true then F H else G H
  rw [if_pos rfl]
  exact h
theorem if_nt {A B : Prop} (h : B) : if (!true) = true then A else B := by
  rw [if_neg (by decide)]
  exact h
theorem DfG.mono {P : Program} {w : World} {K : PySem.W.Frag} {mg : Str → Option Value} {base : Heap} {x : Str} {k j : Nat} {ps : List Str} {sp : Sp} (D : DfG P w K mg base x j ps sp) (h : j ≤ k) : DfG P w K mg base x k ps sp := by
  obtain ⟨f, fd, a, b⟩ := D.ex
  exact ⟨f, fd, ⟨a.len, fun A outer s H args us vs Q E hg hr e0 bn rv hs => a.run A outer s H args us vs Q E hg (hr.mono h) e0 bn rv hs⟩, b⟩
section
variable {P : Program} {w : World} {K : PySem.W.Frag} {mg : Str → Option Value} {base : Heap}
theorem d_law (T : At K mg "law" sLaw) (B : Tx mg) (DSo : Df P w K mg base "_law_source" 1 ["_law_cell"] spSource) (DD : Df P w K mg base "_law_draw" 1 ["_law_source_here", "_law_many"] spDraw) (DC : Df P w K mg base "_law_charts" 1 ["_law_many"] spCharts)
    (DR : Df P w K mg base "_law_rings" 2 ["_law_chart"] (spRings K)) (DL : Df P w K mg base "ring_length_count" 4 ["many", "lengths"] (spRingLength K)) (GL : DfG P w K mg base "_law_lists_right" 10 ["_law_many", "_law_charts_here"] spLists)
    (GR : DfG P w K mg base "_law_returning_right" 10 ["_law_source_here", "_law_many", "_law_charts_here"] spRet) (PL : ∀ m, Pm m → Plain m) : DfG P w K mg base "law" 11 ["_law_script"] (spLaw K) := by
  refine dfg_of T scLaw (fun _ _ _ _ _ _ us hl => match us, hl with | [_], _ => rfl) (fun vs H Q E h => ?_) (fun f cdv A outer s H vs Q E hgd hr h => ?_)
  · obtain ⟨a, ns, rfl, _⟩ := h
    rfl
  · obtain ⟨a, ns, rfl, hs, hl, q⟩ := h
    refine ⟨_, pss_cons (ps_set (i := 1) scLaw.nd rfl (.inr rfl) (pe_df DSo (hr.mono (by decide)) (pa_cons (pe_op op_add (pe_callB (cr_sum rfl) (by rfl) B.sum boot_sum (pa_cons (pv 0) pa_nil)) (pe_op op_mul pe_int (pe_callB call_len_seq (by rfl) B.len PySem.boot_len (pa_cons (pv 0) pa_nil)))) pa_nil)))
      (pss_cons (ps_set (i := 2) scLaw.nd rfl (.inr rfl) (pe_op op_add pe_int (pe_op op_mod (pe_callTy call_int1 (by rfl) B.int (by decide +kernel) (pa_cons (pe_callB call_len_seq (by rfl) B.len PySem.boot_len (pa_cons (pv 0) pa_nil)) pa_nil)) pe_int)))
      (pss_cons (ps_if (pt_cmpR op_eq (pe_df DD (hr.mono (by decide)) (pa_cons (pv 1) (pa_cons pe_int pa_nil))) pe_int (nomark _)) (pss_one (ps_set (i := 2) scLaw.nd rfl (.inr rfl) pe_int)) pss_nil)
      (pss_cons (ps_set (i := 3) scLaw.nd rfl (.inl rfl) (pe_df DC (hr.mono (by decide)) (pa_cons (pv 2) pa_nil)))
      (pss_cons (ps_if (PW.pt (pw_or (pt_not (pt_val (pe_dfg GL hgd hr (pa_cons (pv 2) (pa_cons (pv 3) pa_nil))))) (pw_or1 (pt_not (pt_val (pe_dfg GR hgd hr (pa_cons (pv 1) (pa_cons (pv 2) (pa_cons (pv 3) pa_nil))))))))) (pss_one (ps_ret pe_bl)) pss_nil)
      (pss_cons (ps_set (i := 4) scLaw.nd rfl (.inr rfl) (pe_tupleOf (by rfl) B.tuple (pe_callB (r := rSortedI K) cr_sortedI (by rfl) B.sorted boot_sorted (pa_cons (pe_lc (own := [("_law_turn", 6)]) (g := gName 6) (tt := tYes)
          (te := tOp (rI0 fun i j => .int (i + j)) (tC (.int 1)) (tCall spDraw [] E0 (tCons (tVar 1) (tCons (tVar 2) tNil)))) (by rfl) scLaw.nd (pi_range1 (by rfl) B.range (pa_cons (pe_op op_add pe_int (pe_df DD (hr.mono (by decide)) (pa_cons (pv 1) (pa_cons pe_int pa_nil)))) pa_nil)) (blkOk_by (N := NLaw) (sc := defScope sLaw) (by decide +kernel))
          (fun _ _ _ _ _ => pg_name (i := 6) scLaw.nd rfl (Or.inl rfl)) (fun _ _ _ _ _ => pts_nil) (fun _ _ _ _ _ => pe_op op_add pe_int (pe_df DD (hr.mono (by decide)) (pa_cons (pv 1) (pa_cons (pv 2) pa_nil))))) pa_nil))))
      (pss_cons (ps_set (i := 5) scLaw.nd rfl (.inl rfl) (pe_callB call_len_seq (by rfl) B.len PySem.boot_len (pa_cons (pe_lc (own := [("_law_chart", 7)]) (g := gName 7)
          (tt := tTest (tOp (rEqD K) (tCB (rSortedI K) (tCons (tLc (iList K (tCall (spRings K) [] E0 (tCons (tVar 7) tNil))) (gName 8) tYes (tCB (rLenQ K) (tCons (tVar 8) tNil)) [8]) tNil)) (tCB (rListS K) (tCons (tVar 4) tNil)))) (te := tVar 7) (by rfl) scLaw.nd (pi_list (pv 3)) (blkOk_by (N := NLaw) (sc := defScope sLaw) (by decide +kernel))
          (fun _ _ _ _ _ => pg_name (i := 7) scLaw.nd rfl (Or.inl rfl))
          (fun _ _ _ _ _ => pts_one (pt_cmpR (r := rEqD K) (op_eqD hr.units) (pe_callB (r := rSortedI K) cr_sortedI (by rfl) B.sorted boot_sorted (pa_cons (pe_lc (own := [("_law_ring", 8)]) (g := gName 8) (tt := tYes) (te := tCB (rLenQ K) (tCons (tVar 8) tNil)) (by rfl) scLaw.nd (pi_list (pe_df DR (hr.mono (by decide)) (pa_cons (pv 7) pa_nil))) (blkOk_by (N := NLaw) (sc := scIn3) (by decide +kernel))
            (fun _ _ _ _ _ => pg_name (i := 8) scLaw.nd rfl (Or.inl rfl)) (fun _ _ _ _ _ => pts_nil) (fun _ _ _ _ _ => pe_callB (r := rLenQ K) call_len_seq (by rfl) B.len PySem.boot_len (pa_cons (pv 8) pa_nil))) pa_nil))
            (pe_callTy (r := rListS K) call_list_of (by rfl) B.list (by decide +kernel) (pa_cons (pv 4) pa_nil)) (nomark _)))
          (fun _ _ _ _ _ => pv 7)) pa_nil)))
      (pss_one (ps_ret (pe_and (pe_cmpR op_eq (pe_df DL (hr.mono (by decide)) (pa_cons (pv 2) (pa_cons (pv 4) pa_nil))) (pv 5) (nomark _)) (pe_one (pe_dfg GR hgd hr (pa_cons (pv 1) (pa_cons (pv 2) (pa_cons (pv 3) pa_nil)))))))))))))), ?_⟩
    have hm0 : Pm (1 + (ns.length : Int) % 4) := ⟨by omega, by omega⟩
    refine src_go (c := ns.sum + 3 * (ns.length : Int)) (ev_add (ev_sumL (a := a) (ev_var rfl) hs) (ev_mul ev_c (ev_lenI (a := a) (ev_var rfl) hs) (.inl ⟨by decide, by decide⟩))) fun S H2 d k nS e2 hS k0 k1 => ?_
    refine q_asg (v := .int (1 + (ns.length : Int) % 4)) (ev_add ev_c (ev_mod (ev_int1 (ev_lenI (a := a) (ev_var rfl) (ex_l e2 hs))) ev_c (by decide))) fun H2' e2' => ?_
    replace hS := e2' S _ hS
    refine q_ifX (draw_go (S := S) (m := 12) (ev_var rfl) (fun _ _ => ev_c) hS ⟨k0, k1⟩ ⟨by omega, by omega⟩ ⟨by omega, by omega⟩ fun r d1 t1 H3 r0 r1 t10 t11 e3 hS3 => ?_)
    refine ⟨rfl, decide (V.int r = V.int 0), rfl, ?_⟩
    refine if_five (i := 2) (m0 := 1 + (ns.length : Int) % 4) rfl hm0 fun m hm => ?_
    have pl := PL m hm
    have fw := charts_few hm
    obtain ⟨m1, m2⟩ := id hm
    refine charts_go (m := m) (ev_var rfl) hm fun C xs H5 nC e5 hC hx => ?_
    have hCS : C ≠ S := fun z => by
      rw [z] at nC
      have hz : H3 S = some (.lst [.int d1, .int k, .int t1]) := hS3
      rw [hz] at nC
      cases nC
    replace hS3 := e5 S _ hS3
    have eBC : Ex (offH H5 S) H5 := ex_off
    have bS : offH H5 S S = none := offH_same
    have bC : offH H5 S C = some (.lst xs) := by
      rw [offH_ne hCS]
      exact hC
    have bx : Paired (TiP (offH H5 S)) xs (charts m) := paired_all (fun v c ⟨b, h1, h2⟩ => ⟨b, h1, by
      rw [offH_ne (ne_of h2 hS3 (by intro z; cases z))]
      exact h2⟩) hx
    refine lists_go (C := C) (ev_var rfl) (fun _ _ => ev_var rfl) hm hC hx fun H6 e6 => ⟨true, rfl, ?_⟩
    refine if_nt ?_
    generalize offH H5 S = B at eBC bS bC bx
    refine ret_go (S := S) (C := C) (m := m) (ev_var rfl) (fun _ _ => ev_var rfl) (fun _ _ => ev_var rfl) (e6 S _ hS3) ⟨k0, k1⟩ ⟨by omega, by omega⟩ hm (eBC.trans e6) bS bC bx fun H7 d2 t2 e7 hS7 t20 t21 => ⟨true, rfl, ?_⟩
    refine if_nt ?_
    refine draw_go (S := S) (m := 3) (ev_var rfl) (fun _ _ => ev_c) hS7 ⟨k0, k1⟩ ⟨by omega, by omega⟩ ⟨by omega, by omega⟩ fun r2 d3 t3 H8 r20 r21 t30 t31 e8 hS8 => ?_
    have eB8 : Ex B H8 := (off_ex e7 bS).trans e8
    refine rv_I0 (g := fun i j => V.int (i + j)) (i := 1) (j := r2) H8 (Ex.refl H8) _ fun H9 e9 => ⟨1 + r2, rfl, by omega, by omega, fun Dl nDl => ?_⟩
    have hS9 := e9 S _ hS8
    have eB9 := eB8.trans e9
    have nDB : B Dl = none := fresh_back eB9 nDl
    have hDS : Dl ≠ S := fun z => by
      rw [z, hS9] at nDl
      cases nDl
    refine lc_range (lo := 0) (n := (1 + r2).toNat) (fun i H' => ∃ (acc : List Int) (d t : Int), acc.length = i ∧ (∀ x ∈ acc, 1 ≤ x ∧ x ≤ m) ∧ H' Dl = some (.lst (acc.map V.int)) ∧ Ex B H' ∧ SrcAt H' S d k t ∧ 0 ≤ t ∧ t ≤ 10 + i)
      ⟨[], d3, t3, rfl, fun x hx => absurd hx List.not_mem_nil, upd_same, eB9.trans (Ex.new nDl), (Ex.new nDl) S _ hS9, by omega, by omega⟩ (fun i H' hi hp => ?_) (fun H' hp => ?_)
    · obtain ⟨acc, d4, t4, la, ba, hD, eB', hS', t40, t41⟩ := hp
      refine ⟨rfl, ?_⟩
      refine yes_go ?_
      refine draw_go (S := S) (m := m) (ev_var rfl) (fun _ _ => ev_var rfl) hS' ⟨k0, k1⟩ ⟨by omega, by omega⟩ ⟨by omega, by omega⟩ fun r5 d5 t5 H10 r50 r51 t50 t51 e10 hS10 => ?_
      have hD10 : H10 Dl = some (.lst (acc.map V.int)) := e10 Dl _ (by rw [offH_ne hDS]; exact hD)
      refine rv_I0 (g := fun i j => V.int (i + j)) (i := 1) (j := r5) H10 (Ex.refl H10) _ fun H11 e11 => ⟨acc.map V.int, e11 Dl _ hD10, sz_lt (by rw [List.length_map]; omega), acc ++ [1 + r5], d5, t5, by rw [List.length_append, la]; rfl, fun x hx => ?_, ?_, ?_, ?_, by omega, by omega⟩
      · rcases List.mem_append.mp hx with z | z
        · exact ba x z
        · rw [List.mem_singleton.mp z]
          omega
      · rw [upd_same, List.map_append]
        rfl
      · exact (((off_ex eB' bS).trans e10).trans e11).mut nDB
      · show upd H11 Dl _ S = _
        rw [upd_ne hDS.symm]
        exact e11 S _ hS10
    obtain ⟨acc, d4, t4, la, ba, hD, eB', hS', t40, t41⟩ := hp
    refine ⟨Dl, acc, rfl, sq_of hD, fun L p pm so np => .inl ⟨p, L.map V.int, rfl, sq_of upd_same, fun tq ntq => ?_⟩⟩
    have eT := (Ex.new (o := .lst (L.map V.int)) np).trans (Ex.new (o := .tup (L.map V.int)) ntq)
    have hT : upd (upd H' p (.lst (L.map V.int))) tq (.tup (L.map V.int)) tq = some (.tup (L.map V.int)) := upd_same
    have eBT := eB'.trans eT
    have hST := eT S _ hS'
    show tSeq _ _ _ _ (upd (upd H' p (.lst (L.map V.int))) tq (.tup (L.map V.int)))
    generalize upd (upd H' p (.lst (L.map V.int))) tq (.tup (L.map V.int)) = H12 at hT eBT hST
    have lL : L.length = acc.length := pm.length_eq
    have bL : ∀ x ∈ L, 1 ≤ x ∧ x ≤ m := fun x hx => ba x (pm.mem_iff.mp hx)
    have okL : lensOk L := ⟨fun z => by
      rw [z] at lL
      have : ([] : List Int).length = 0 := rfl
      omega, by omega, fun x hx => by
      have := bL x hx
      omega, sorted_getD so⟩
    have f9 := pl.f9 L okL (by omega) bL
    have tl := ep_lcL (K := K) (tl := tVar 3) (t := tTest (tOp (rEqD K) (tCB (rSortedI K) (tCons (tLc (iList K (tCall (spRings K) [] E0 (tCons (tVar 7) tNil))) (gName 8) tYes (tCB (rLenQ K) (tCons (tVar 8) tNil)) [8]) tNil)) (tCB (rListS K) (tCons (tVar 4) tNil)))) (te := tVar 7) (j := 7) (vs := [7])
      (σ := [some (.ref a), some (.ref S), some (.int m), some (.ref C), some (.ref tq), none, none, none, none]) (Hb := H12) (P := TiP) (R := TiP) (as := charts m) (fun c => decide (lensF c = L)) (fun c => c) mon_ti mon_ti
      (ep_ls (a := C) (ev_var rfl) (sq_of (eBT C _ bC)) (paired_up mon_ti eBT bx)) (by omega) (fun _ => rfl) (fun x c H5 e5 hc2 px => ?_) (fun x c H5 e5 hc2 px _ => ep_var rfl px)
    · rw [List.map_id'] at tl
      refine q_asg (v := .int (ringLength m L)) (by
        rw [f9]
        exact ev_lenF (K := K) tl) fun H13 e13 => ?_
      refine (ev_eq (ev_rl (a := tq) (m := m) (ns := L) (ev_var rfl) (ev_var rfl) hm (e13 tq _ hT) okL) (ev_var rfl)) H13 (Ex.refl _) _ fun H14 e14 => ⟨_, rfl, ?_⟩
      rw [decide_eq_true rfl, if_pos rfl]
      exact ret_go (S := S) (C := C) (m := m) (ev_var rfl) (fun _ _ => ev_var rfl) (fun _ _ => ev_var rfl) ((e13.trans e14) S _ hST) ⟨k0, k1⟩ ⟨by omega, by omega⟩ hm (eBT.trans (e13.trans e14)) bS bC bx fun H15 _ _ _ _ _ _ => q H15
    · refine et_is (et_test (ev_eqD (el_d (el_sortI (el_lens2 (ep_rings (ep_var rfl px) hm hc2) (by have := rings_few hm hc2; omega) (by show 8 < 9; omega)))) (el_d (el_listT (a := tq) (ev_var rfl) (st_of (e5 tq _ hT)))) (shaped_lst _) (shaped_lst _))) ?_
      exact eqv_lst _ _
end
end K54
/-! K54G11: all defs together; the law's call by its attachment (no repr under way). -/
namespace K54
open PySem PySem.Spec PyProof.Rows L2 Evl

/-- every def stands where its text says -/
structure Ats (K : PySem.W.Frag) (mg : Str → Option Value) : Prop where
  a7 : At K mg "is_integer" (topS 7)
  a8 : At K mg "is_from" (topS 8)
  a9 : At K mg "is_between" (topS 9)
  a10 : At K mg "check_number" (topS 10)
  a11 : At K mg "check_count" (topS 11)
  a13 : At K mg "check_many" (topS 13)
  a14 : At K mg "times_itself" (topS 14)
  a15 : At K mg "forests_on" (topS 15)
  a17 : At K mg "ring_ways" (topS 17)
  a18 : At K mg "ring_place_counts" (topS 18)
  a19 : At K mg "onto_ways" (topS 19)
  a20 : At K mg "reached_counts" (topS 20)
  a21 : At K mg "rows_in_rings" (topS 21)
  a22 : At K mg "piece_counts" (topS 22)
  a23 : At K mg "low_forests" (topS 23)
  a24 : At K mg "low_charts" (topS 24)
  a25 : At K mg "height_counts" (topS 25)
  a26 : At K mg "rows_by_period" (topS 26)
  a27 : At K mg "period_counts" (topS 27)
  a28 : At K mg "check_lengths" (topS 28)
  a29 : At K mg "ring_length_count" (topS 29)
  a30 : At K mg "falling" (topS 30)
  a31 : At K mg "depth_totals" (topS 31)
  a32 : At K mg "rows_dividing" (topS 32)
  a33 : At K mg "returning_count" (topS 33)
  a35 : At K mg "_law_source" (topS 35)
  a36 : At K mg "_law_draw" (topS 36)
  a37 : At K mg "_law_on_rings" (topS 37)
  a38 : At K mg "_law_rings" (topS 38)
  a39 : At K mg "_law_charts" (topS 39)
  a40 : At K mg "_law_depths" (topS 40)
  a41 : At K mg "_law_period" (topS 41)
  a42 : At K mg "_law_step" (topS 42)
  a43 : At K mg "_law_tally" (topS 43)
  a44 : At K mg "_law_list" (topS 44)
  a45 : At K mg "_law_lists_right" (topS 45)
  a46 : At K mg "_law_returning_right" (topS 46)
  a47 : At K mg "law" (topS 47)
theorem at_mk {K : PySem.W.Frag} {mg : Str → Option Value} {h : Heap} {x : Str} {st : Stmt} {f : Addr} {od an : Option Addr} {sl : Array (Option Value)} {oc kV dc pm cd ct : Value} (X : K.In h) (G : h.Ns mainGlobals mg)
    (na : PySem.W.nsIn K mainGlobals x = some (some (.ref f))) (lk : K.lookup f = some ⟨oc, od, .func (PySem.W.fnOf x x (defArgs st) (defBody st) (defScope st) .none kV dc pm an cd ct), sl⟩) (cc : PySem.W.codeIn K cd x = true) (kp : PySem.W.keepIn K (.ref f) = true) : At K mg x st :=
  ⟨f, _, fun_mk lk cc kp, PySem.W.mg_of X G na⟩
section
variable {P : Program} {w : World} {K : PySem.W.Frag} {mg : Str → Option Value} {base : Heap}
theorem all_law (A : Ats K mg) (B : Tx mg) (PL : ∀ m, Pm m → Plain m) : DfG P w K mg base "law" 11 ["_law_script"] (spLaw K) := by
  have isI : Df P w K mg base "is_integer" 1 ["value"] (sp1B (fun _ => True) fun _ => true) := d_is_integer A.a7 B
  have isF := d_is_from (P := P) (w := w) (base := base) A.a8 B isI
  have isB := d_is_between (P := P) (w := w) (base := base) A.a9 B isI
  have ckN := d_check_number (P := P) (w := w) (base := base) A.a10 B isF
  have ckC := d_check_count (P := P) (w := w) (base := base) A.a11 B isF
  have ckM : DCheck P w K mg base := d_check_many A.a13 B isB
  have tms : DTimes P w K mg base := d_times A.a14 B
  have fo := d_forests (P := P) (w := w) (base := base) A.a15 B tms
  have ways : DWays P w K mg base := d_ring_ways A.a17 B fo
  have place := d_ring_place (P := P) (w := w) (base := base) A.a18 B ckM ways
  have on := d_onto (P := P) (w := w) (base := base) A.a19 B tms
  have reach := d_reached (P := P) (w := w) (base := base) A.a20 B ckM on
  have rows := d_rows (P := P) (w := w) (base := base) A.a21 B
  have piece := d_pieces (P := P) (w := w) (base := base) A.a22 B ckM ways rows
  have low : DLow P w K mg base := d_low A.a23 B tms 5
  have lowC := d_low_charts (P := P) (w := w) (base := base) A.a24 B low
  have height := d_heights (P := P) (w := w) (base := base) A.a25 B ckM lowC
  have byP := d_byPeriod (P := P) (w := w) (base := base) A.a26 B
  have per := d_periods (P := P) (w := w) (base := base) A.a27 B ckM ways byP
  have ckL := d_check_lengths (P := P) (w := w) (base := base) A.a28 B isF
  have rlen := d_ring_length (P := P) (w := w) (base := base) A.a29 B ckM ways ckL
  have fa := d_falling (P := P) (w := w) (base := base) A.a30 B
  have dep := d_depths (P := P) (w := w) (base := base) A.a31 B ckM tms fa
  have dvd := d_dividing (P := P) (w := w) (base := base) A.a32 B
  have ret := d_returning (P := P) (w := w) (base := base) A.a33 B ckM ckN ckC dvd low
  have src := d_source (P := P) (w := w) (base := base) A.a35 B
  have drw := d_draw (P := P) (w := w) (base := base) A.a36 B
  have onr : DOn P w K mg base := d_on A.a37 B
  have rgs := d_rings (P := P) (w := w) (base := base) A.a38 B onr
  have chs := d_charts (P := P) (w := w) (base := base) A.a39 B
  have lds := d_ldepths (P := P) (w := w) (base := base) A.a40 B onr
  have lpr := d_lperiod (P := P) (w := w) (base := base) A.a41 B
  have stp := d_step (P := P) (w := w) (base := base) A.a42 B
  have tI := d_tallyI (P := P) (w := w) (base := base) A.a43 B
  have tT := d_tallyT (P := P) (w := w) (base := base) A.a43 B
  have lst := d_list (P := P) (w := w) (base := base) A.a44 B
  have G : Pg P w K mg base := {
    place := place, reach := reach, piece := piece, height := height, depth := dep, period := per
    kplace := kw_many A.a18 place fun _ _ _ _ _ _ ws hl => match ws, hl with | [_], _ => rfl
    kreach := kw_many A.a20 reach fun _ _ _ _ _ _ ws hl => match ws, hl with | [_], _ => rfl
    kpiece := kw_many A.a22 piece fun _ _ _ _ _ _ ws hl => match ws, hl with | [_], _ => rfl
    kheight := kw_many A.a25 height fun _ _ _ _ _ _ ws hl => match ws, hl with | [_], _ => rfl
    kdepth := kw_many A.a31 dep fun _ _ _ _ _ _ ws hl => match ws, hl with | [_], _ => rfl
    kperiod := kw_many A.a27 per fun _ _ _ _ _ _ ws hl => match ws, hl with | [_], _ => rfl
    len := rlen, klen := kw_ringLength A.a29 rlen, rings := rgs, depths := lds, lper := lpr, list := lst, tallyI := tI, tallyT := tT }
  have gl := d_lists (P := P) (w := w) (base := base) A.a45 B G PL
  have gr := d_ret (P := P) (w := w) (base := base) A.a46 B drw stp ret (kw_returning A.a33 ret) PL
  exact d_law A.a47 B src drw chs rgs rlen gl (gr.mono (by decide)) PL
end

/-! ### the law's call -/
/-- what is said of the call's end -/
abbrev EndT (s : Shared) : Result → Shared → Prop := fun r z => r = .ok (.ret (.bool true)) ∧ OldK s.heap z.heap ∧ z.os = s.os ∧ AllBare z.gens
section
variable {P : Program} {w : World} {K : PySem.W.Frag} {mg mb : Str → Option Value} {k : Nat} {fa a : Addr} {x nm : Str} {sp : Sp} {s : Shared} {vs : List Value} {ns : List Int}
/-- from a known part that is the script alone, or nothing -/
theorem call_known (kin : K.In s.heap) (nsM : s.heap.Ns mainGlobals mg) (nsB : s.heap.Ns builtinsNs mb) (boot : ∀ y : Str, y ≠ "__name__" → mb y = bootBuiltins y) (lim : s.heap.NoLimit) (gen : s.gens = #[])
    (sc : s.heap.get? a = some { cls := .type "list", data := .seq vs.toArray }) (room : Room k callerA) (grd : callerA.guards = some []) (hfa : mg nm = some (.ref fa))
    (F : ∀ b0 : Heap, K.In b0 → b0.Ns mainGlobals mg → DfG P w K mg b0 nm k [x] sp) {H : Hp} (only : Only H) (hk : HOk P w H s.heap) (hA : ∀ b, H b ≠ none → b = a) (hK : H a ≠ none → K.lookup a = none)
    (hs : sp [.ref a] H (fun v _ => v = .bl true) fun _ _ _ => False) : codeAny (model P w) callerA (.call (.ref fa) ⟨[.ref a], []⟩) (EndT s) s := by
  have keep : ∀ {b : Addr} {o : Obj}, s.heap.get? b = some o → H b = none → (hidT s.heap H).get? b = some o := fun h1 h2 => hidT_get h1 h2
  -- a dict is never the script
  have dictFree : ∀ {b : Addr} {o : Obj} {es : Array DictEntry} {ep : Nat}, s.heap.get? b = some o → o.data = .dict es ep → H b = none := by
    intro b o es ep h1 h2
    apply Classical.byContradiction
    intro h3
    have eb := hA b h3
    rw [eb, sc] at h1
    cases h1
    cases (show Data.seq vs.toArray _ = Data.dict es ep from h2)
  have nsOf : ∀ {b : Addr} {mm : Str → Option Value}, s.heap.Ns b mm → (hidT s.heap H).Ns b mm := by
    rintro b mm ⟨o, es, ep, h1, h2, h3⟩
    exact ⟨o, es, ep, keep h1 (dictFree h1 h2), h2, h3⟩
  have kin0 : K.In (hidT s.heap H) := by
    intro b o hb
    refine keep (kin b o hb) (Classical.byContradiction fun h3 => ?_)
    have eb := hA b h3
    rw [eb] at hb h3
    rw [hK h3] at hb
    cases hb
  have limit : (hidT s.heap H).NoLimit := by
    obtain ⟨mc, h1, h2⟩ := lim
    exact ⟨mc, nsOf h1, h2⟩
  have env : Env0 P w K mg (hidT s.heap H) callerA [] s H :=
    ⟨rfl, ⟨kin0, nsOf nsM, ⟨mb, nsOf nsB, boot⟩, limit⟩, fun b o h1 => of_hidT h1, Nat.le_of_eq (hidT_size _ _), trivial, fun b hb => absurd (show b ∈ ([] : List Addr) from hb) List.not_mem_nil, hk, .of_eq gen⟩
  obtain ⟨f2, fd, G, hm2, _, bnd⟩ := (F _ kin0 (nsOf nsM)).ex
  rw [hfa] at hm2
  cases hm2
  have bto := bnd s [.ref a] kin rfl
  rw [List.append_nil] at bto
  refine codeAny_mono (G.run callerA [] s H ⟨[.ref a], []⟩ [.ref a] [.ref a] _ _ grd room env bto (.cons rfl .nil) hs) ?_
  intro r z hz
  cases r with
  | error e => exact (show False from hz).elim
  | ok fl =>
    cases fl with
    | next => exact (show False from hz).elim
    | brk => exact (show False from hz).elim
    | cont => exact (show False from hz).elim
    | ret u =>
      obtain ⟨v, H2, h1, h2, un, hk2, ru, hv⟩ := hz
      cases (show v = V.bl true from hv)
      cases (show u = Value.bool true from ru)
      refine ⟨rfl, OldK.of_keep ?_, h1, h2⟩
      intro b o hb
      cases hH : H b with
      | none => exact un.keep b o hb hH (fun m => absurd (show b ∈ ([] : List Addr) from m) List.not_mem_nil) (by simp)
      | some ho =>
        rcases only b with e | ⟨ob, ys, e⟩
        · rw [hH] at e
          cases e
        · obtain ⟨c1, _⟩ := hk b _ e
          obtain ⟨c2, _⟩ := hk2 b _ (un.frzs b ob _ e)
          rw [hb] at c1
          cases c1
          exact c2
end
end K54
/-! K54G12: the law's call over the script; the walk. -/
namespace K54
open PySem PySem.Spec PyProof.Rows L2 Evl

section
variable {P : Program} {w : World} {K : PySem.W.Frag} {mg mb : Str → Option Value} {k : Nat} {fa a : Addr} {x nm : Str} {s : Shared} {vs : List Value} {ns : List Int}
/-- the script, alone in the known part -/
def scriptH (a : Addr) (vs : List Value) (ns : List Int) : Hp := fun b => if b = a then some (.frz { cls := .type "list", data := .seq vs.toArray } (.lst (ns.map V.int))) else none
theorem call_script (kin : K.In s.heap) (nsM : s.heap.Ns mainGlobals mg) (nsB : s.heap.Ns builtinsNs mb) (boot : ∀ y : Str, y ≠ "__name__" → mb y = bootBuiltins y) (lim : s.heap.NoLimit) (gen : s.gens = #[])
    (sc : s.heap.get? a = some { cls := .type "list", data := .seq vs.toArray }) (are : IntsAre vs ns) (few : ns.length ≤ 63) (room : Room k callerA) (grd : callerA.guards = some []) (hfa : mg nm = some (.ref fa))
    (F : ∀ b0 : Heap, K.In b0 → b0.Ns mainGlobals mg → DfG P w K mg b0 nm k [x] (spLaw K)) : codeAny (model P w) callerA (.call (.ref fa) ⟨[.ref a], []⟩) (EndT s) s := by
  have rv := vals_ints are
  have lv := are.length
  have small : ns.length ≤ sizeLine := Nat.le_trans few (by decide)
  cases hlk : K.lookup a with
  | some o =>
    have eo := kin a o hlk
    rw [sc] at eo
    cases eo
    have seq : SqL K (fun _ => none) a (ns.map V.int) := by
      refine .inr ⟨_, vs.toArray, _, hlk, rfl, rfl, rfl, ?_, by simpa using rv⟩
      rw [List.size_toArray, lv]
      exact small
    exact call_known (H := fun _ => none) kin nsM nsB boot lim gen sc room grd hfa F (fun _ => .inl rfl) (fun b u z => nomatch (show (none : Option HO) = some u from z)) (fun b z => absurd rfl z) (fun z => absurd rfl z) ⟨a, ns, rfl, seq, few, fun _ => rfl⟩
  | none =>
    have here : scriptH a vs ns a = some (.frz { cls := .type "list", data := .seq vs.toArray } (.lst (ns.map V.int))) := if_pos rfl
    have away : ∀ {b : Addr}, b ≠ a → scriptH a vs ns b = none := fun hb => if_neg hb
    refine call_known (H := scriptH a vs ns) kin nsM nsB boot lim gen sc room grd hfa F (fun b => ?_) (fun b u z => ?_) (fun b z => ?_) (fun _ => hlk) ⟨a, ns, rfl, .inl (.inr ⟨_, here⟩), few, fun _ => rfl⟩
    · by_cases hb : b = a
      · rw [hb]
        exact .inr ⟨_, _, here⟩
      · exact .inl (away hb)
    · by_cases hb : b = a
      · subst hb
        rw [here] at z
        cases z
        exact ⟨sc, by rw [List.length_map]; exact small, vs, _, rv, sc⟩
      · rw [away hb] at z
        cases z
    · apply Classical.byContradiction
      intro hb
      exact z (away hb)
end
theorem walkG {l : PySem.W.OpenLaw} {q : Program} {loose : List Str} {XP : (Str → Option Value) → Heap → Prop} {YP : World → Heap → Prop} {d : DefRec} {K : Params → PySem.W.Frag} (most : l.most = some 63) (plainD : d.params.defaults = []) (named : d.name = "law")
    (hY : ∀ (w : World) (h : Heap), YP w h → (K w.params).In h) (PL : ∀ m, Pm m → Plain m)
    (F : ∀ (w : World) (mg : Str → Option Value) (h : Heap), (K w.params).In h → h.Ns mainGlobals mg → Ats (K w.params) mg ∧ Tx mg) : PySem.W.WalkO q loose XP YP l.row.toRowW d [] (fun f vs => PySem.call f vs) := by
  refine Att.attach_call most plainD ?_
  intro w _ s mg mb fa _ _ _ _ a vs ns G Y _ _ _ hfa sc are few gen
  have kin := hY w _ Y
  obtain ⟨A, B⟩ := F w mg _ kin G.T.g
  rw [named] at hfa
  exact call_script (k := 11) (x := "_law_script") (nm := "law") kin G.T.g G.T.b G.T.builtins G.T.nolimit gen sc are few ⟨rfl, by decide, by decide⟩ rfl hfa fun b0 _ _ => all_law A B PL
theorem most_mk {K : PySem.W.Frag} {mg : Str → Option Value} {h : Heap} {t : Tok} (X : K.In h) (G : h.Ns mainGlobals mg) (na : PySem.W.nsIn K mainGlobals "MOST_PLACES" = some (some (.int 10 t))) : ∃ t, mg "MOST_PLACES" = some (.int 10 t) := ⟨t, PySem.W.mg_of X G na⟩
end K54
/-! K54P1: each chart's counts as one number (printed by gen_sums.py), checked by the kernel. -/
namespace K54
def dg (s i : Nat) : Nat := s / 8 ^ i % 8
def lensD (s : Nat) : List Int := (([5, 6, 7, 8, 9].map (dg s)).filter fun d => !Nat.beq d 0).map fun (d : Nat) => (d : Int)
def depD (m s : Nat) : List Int := ([10, 11, 12, 13, 14].take m).map fun i => (dg s i : Int)
def sumOk (m : Nat) (p : List Int × Nat) : Bool :=
  decide (onSum p.1 = (dg p.2 0 : Int)) && decide ((asc p.1).length = dg p.2 1) && decide ((ringsF p.1).length = dg p.2 2) && decide (maxF (depthsF p.1) = (dg p.2 3 : Int)) && decide (periodF (ringsF p.1) = dg p.2 4) &&
  decide (lensF p.1 = lensD p.2) && decide (depthsF p.1 = depD m p.2) && (List.range 6).all fun k => (List.range 6).all fun n => decide (stepF p.1 (n + (k + 1)) = stepF p.1 n) == decide (dg p.2 (15 + k) ≤ n)
def sums1 : List Nat := [134221897]
def sums2 : List Nat := [1317619559078826569, 150999186, 1024815206099853394, 1317619551562633801]
def sums3 : List Nat := [1317619627798303305, 2635239246872450129, 1317619559095603858, 1317619619225146002, 1317619619225146002, 153096411, 2635239186742907985, 1024815206116630683, 1317619559095603858, 2196032652912370258, 2196032652912370258, 1024815206116630683, 2635239239356257361, 1317619620282110537, 1317619551579411090, 1137123721941626971, 2196032585266635346, 2635239111580980305, 2196032592782828114, 1137123721941626971, 2635239119097173073, 1024815206116630683, 2635239171710522449, 1317619551579411090, 2196032592782828114, 2196032585266635346, 1317619560152568393]
def sums4 : List Nat := [1317620177554117193, 2635240277664601169, 2635240277664601169, 1317619627815080594, 2635239796628264017, 2635240346384077905, 3952860446494561881, 2635239246889227418, 1317620108851417746, 2635240208961901722, 1317620108851417746, 1317619559097701083, 2635239796628264017, 3952859965458224729, 2196032592799605403, 1317619627815080594, 1317620168980959890, 1317620168980959890, 2635240269091443866, 1317619619227243227, 1317620168980959890, 1317620168980959890, 2635240269091443866, 1317619619227243227, 1317620100263580379, 1317620100263580379, 1317620100263580379, 153358628, 2635239788055106714, 2635239788055106714, 1024815206118727908, 1317619619227243227, 2635239736498721873, 3952860386365019737, 2635240286254535761, 2635239186759685274, 2196033133965484699, 2196033133965484699, 2196033133965484699, 1024815206118727908, 1317620108851417746, 2635240208961901722, 1317620108851417746, 1317619559097701083, 3952859364162803289, 1137123721958404260, 2196032592799605403, 2635239186759685274, 2635239736498721873, 2196032652929147547, 3952859845199140441, 1317619627815080594, 3952859424292345433, 2196032652929147547, 1137123721958404260, 2635239246889227418, 2635239667796022426, 1024815206118727908, 2635239667796022426, 1317619559097701083, 2635239805218198609, 2196032652929147547, 2196032592799605403, 1317619627815080594, 2196033202668184146, 2196033202668184146, 3367251130517038170, 2196032652929147547, 2196033202668184146, 2196033202668184146, 3367251130517038170, 2196032652929147547, 2196033133965484699, 2196033133965484699, 2196033133965484699, 1024815206118727908, 3367250649480701018, 3367250649480701018, 1024815206133407908, 2196032652929147547, 2635240338867885137, 2635239789112071249, 3952860438978369113, 2635239239373034650, 2635240270148408401, 1317620170037924425, 2635240270148408401, 1317619620298887826, 2635240201445708954, 1317620101335224978, 1317620101335224978, 1317619551581508315, 3952859957942031961, 2635239789112071249, 2196032585283412635, 1317619620298887826, 2292297576117973595, 2292297576117973595, 2292297576117973595, 1137123721958404260, 3367251062871303258, 2196033135022449234, 2196033135022449234, 2196032585283412635, 3952860311203092057, 2635240211092608081, 2635239661336794193, 2635239111597757594, 9097236063453200484, 2292297027435901531, 3367249973023351898, 3952858740318803545, 2292297095081636443, 3367250100798628954, 9097236063453200484, 3952858868094080601, 2292297095081636443, 2196032653986112082, 2292297027435901531, 2635239249019933777, 1137123721958404260, 2196032585283412635, 3952859221355140697, 2635239111597757594, 2292297095081636443, 2196032653986112082, 3367249973023351898, 2635239180300457041, 2196033142538642002, 3367251070387496026, 2196033142538642002, 2196032592799605403, 2292297576117973595, 2292297576117973595, 2292297576117973595, 1137123721958404260, 2635240218608800849, 3952860318719284825, 2635239668852986961, 2635239119113950362, 2292297034952094299, 9097236063453200484, 3367249980539544666, 3952858747834996313, 2196033133965484699, 2196033133965484699, 2196033133965484699, 1024815206118727908, 3952860371332634201, 2635239721466336337, 2635240271222150225, 2635239171727299738, 2635240201445708954, 1317620101335224978, 1317620101335224978, 1317619551581508315, 1137123721958404260, 3952859341614224985, 2196032585283412635, 2635239171727299738, 2196033142538642002, 3367251070387496026, 2196033142538642002, 2196032592799605403, 3367251062871303258, 2196033135022449234, 2196033135022449234, 2196032585283412635, 2635240210018866257, 2635240210018866257, 1317620109908382281, 1317619560169345682, 2292297034952094299, 2292297027435901531, 2196032593856569938, 2635239188890391633, 3367250529221616730, 1024815206133407908, 3367250529221616730, 2196032592799605403, 9097236063453200484, 3367250033152894042, 2292297027435901531, 3952858800448345689, 3952859777553405529, 2196032585283412635, 2635239668852986961, 1317619560169345682, 2292297034952094299, 3367250033152894042, 2196032593856569938, 2635239180300457041, 2196032661502304850, 2292297095081636443, 2292297034952094299, 2635239256536126545, 3367250108314821722, 2292297095081636443, 9097236063453200484, 3952858875610273369, 2196032592799605403, 1137123721958404260, 3952859228871333465, 2635239119113950362, 2196032661502304850, 2292297095081636443, 3367249980539544666, 2635239187816649809, 2196032652929147547, 3952859409259959897, 1137123721958404260, 2635239239373034650, 2196032652929147547, 2635239721466336337, 3952859822650562137, 1317619620298887826, 1024815206118727908, 2635239652763636890, 2635239652763636890, 1317619551581508315, 2196032652929147547, 2635239790185813073, 2196032585283412635, 1317619620298887826, 3367250048185279578, 9097236063453200484, 2292297034952094299, 3952858815480731225, 1024815206133407908, 3367250514189231194, 3367250514189231194, 2196032585283412635, 2196032592799605403, 3952859762521019993, 2635239661336794193, 1317619560169345682, 3367250048185279578, 2292297027435901531, 2196032593856569938, 2635239187816649809, 2196032661502304850, 3367250100798628954, 2292297034952094299, 2635239247946191953, 3367250108314821722, 2196032653986112082, 2292297027435901531, 2635239247946191953, 2196032592799605403, 2196032585283412635, 2635239669926728785, 1317619560169345682, 2196032661502304850, 2196032653986112082, 2196032593856569938, 1317619628872045129]
def sums5_0 : List Nat := [1317624575600628297, 2635248524001809489, 2635248524001809489, 2635248524001809489, 1317620177570894482, 2635244675711112273, 2635249073757623377, 2635249073757623385, 3952873022158804569, 2635240277681378458, 2635244675711112273, 2635249073757623385, 2635249073757623377, 3952873022158804569, 2635240277681378458, 1317624025861591698, 2635247974262772890, 2635247974262772890, 1317624025861591698, 1317619627817177819, 2635244675711112273, 3952869173868107353, 3952869173868107353, 2196032661519082139, 1317620177570894482, 2635244194674775121, 2635248592721286225, 3952872541122467417, 2635248592721286233, 2635239796645041306, 2635244744430589009, 2635249142477100113, 3952873090878281305, 3952873090878281305, 2635240346400855194, 3952864844541072985, 3952869242587584089, 3952873640634095193, 5270497589035276385, 3952860446511339170, 2635243644935738522, 2635248042982249626, 3952871991383430818, 2635243644935738522, 2635239246891324643, 2635244744430589017, 3952869242587584089, 5270493740744579169, 3367250108331599011, 2635239796645041306, 1317624506897928850, 2635248455299110042, 1317624506897928850, 2635248455299110042, 1317620108853514971, 2635244607008412826, 2635249005054923930, 2635244607008412826, 3952872953456105122, 2635240208963998947, 1317624506897928850, 2635248455299110042, 1317624506897928850, 2635248455299110042, 1317620108853514971, 1317623957144212187, 2635247905545393379, 1317623957144212187, 1317623957144212187, 1317619559097963300, 2635244607008412826, 3952869105165407906, 2635244607008412826, 2196032592801702628, 1317620108853514971, 2635244194674775121, 2635248592721286233, 3952872541122467417, 2635248592721286225, 2635239796645041306, 3952864363504735833, 3952868761551246937, 5270497107998939233, 3952873159597758041, 3952859965475002018, 2196036990846116507, 3367258766985667747, 2196036990846116507, 2196036990846116507, 2196032592801702628, 1317624025861591698, 2635247974262772890, 2635247974262772890, 1317624025861591698, 1317619627817177819, 3952864363504735833, 5270488930381207649, 2292297034968871588, 2196032661519082139, 2635239796645041306, 2635244194674775121, 3952868211795433049, 2196033142555419291, 3952868211795433049, 1317620177570894482, 2635244744430589017, 3952868761551246937, 3367251070404273315, 5270492778671904865, 2635240277681378458, 3952864844541072985, 5270489411417544801, 2196033142555419291, 2292297034968871588, 2635240277681378458, 2635243644935738522, 3952867662056396450, 2196032592801702628, 2635243644935738522, 1317619627817177819, 2635244744430589009, 3952869311307060825, 2196033142555419291, 2196032661519082139, 1317620177570894482]
def sums5_1 : List Nat := [1317624567027470994, 1317624567027470994, 2635248515428652186, 2635248515428652186, 1317620168983057115, 1317624567027470994, 1317624567027470994, 2635248515428652186, 2635248515428652186, 1317620168983057115, 2635244667137954970, 2635244667137954970, 2635249065184466074, 3952873013585647266, 2635240269093541091, 1317624017273754331, 1317624017273754331, 2635247965674935523, 1317624017273754331, 1317619619227505444, 2635244667137954970, 2635244667137954970, 3952869165294950050, 2196032652931244772, 1317620168983057115, 1317624567027470994, 1317624567027470994, 2635248515428652186, 2635248515428652186, 1317620168983057115, 1317624567027470994, 1317624567027470994, 2635248515428652186, 2635248515428652186, 1317620168983057115, 2635244667137954970, 2635244667137954970, 2635249065184466074, 3952873013585647266, 2635240269093541091, 1317624017273754331, 1317624017273754331, 2635247965674935523, 1317624017273754331, 1317619619227505444, 2635244667137954970, 2635244667137954970, 3952869165294950050, 2196032652931244772, 1317620168983057115, 1317624498310091483, 1317624498310091483, 1317624498310091483, 2635248446711272675, 1317620100263842596, 1317624498310091483, 1317624498310091483, 1317624498310091483, 2635248446711272675, 1317620100263842596, 1317624498310091483, 1317624498310091483, 1317624498310091483, 2635248446711272675, 1317620100263842596, 1317623948554539812, 1317623948554539812, 1317623948554539812, 1317623948554539812, 153391469, 2635244598420575459, 2635244598420575459, 2635244598420575459, 1024815206118990125, 1317620100263842596, 2635244186101617818, 2635244186101617818, 3952872532549310114, 2635248584148128922, 2635239788057203939, 2635244186101617818, 2635244186101617818, 3952872532549310114, 2635248584148128922, 2635239788057203939, 2196036982258279140, 2196036982258279140, 2196036982258279140, 2196036982258279140, 1024815206118990125, 1317624017273754331, 1317624017273754331, 2635247965674935523, 1317624017273754331, 1317619619227505444, 3952864354931578530, 3952864354931578530, 1137123721960501485, 2196032652931244772, 2635239788057203939, 2635244186101617818, 2635244186101617818, 2196033133967581924, 3952868203222275746, 1317620168983057115, 2635244186101617818, 2635244186101617818, 2196033133967581924, 3952868203222275746, 1317620168983057115, 3952864835967915682, 3952864835967915682, 2196033133967581924, 1137123721960501485, 2635240269093541091, 2635243636347901155, 2635243636347901155, 1024815206118990125, 2635243636347901155, 1317619619227505444, 2635244735857431706, 2635244735857431706, 2196033133967581924, 2196032652931244772, 1317620168983057115]
def sums5_2 : List Nat := [2635244134545232977, 3952872480992925273, 2635248532591744081, 2635248532591744089, 2635239736515499162, 3952864784411530841, 3952873580504553049, 3952869182458041945, 5270497528905734241, 3952860386381797026, 2635244684301046865, 3952873030748739161, 2635249082347557969, 3952873030748739161, 2635240286271313050, 2635243584806196378, 3952871931253888674, 2635247982852707482, 2635243584806196378, 2635239186761782499, 2635244684301046873, 5270493680615037025, 3952869182458041945, 3367250048202056867, 2635239736515499162, 2196037532011995803, 2196037532011995803, 2196037532011995803, 3367259308151547043, 2196033133967581924, 2196037532011995803, 2196037532011995803, 2196037532011995803, 3367259308151547043, 2196033133967581924, 2196037532011995803, 2196037532011995803, 2196037532011995803, 3367259308151547043, 2196033133967581924, 2196036982258279140, 2196036982258279140, 2196036982258279140, 2196036982258279140, 1024815206118990125, 3367255459860849827, 3367255459860849827, 3367255459860849827, 1024815206135505133, 2196033133967581924, 1317624506897928850, 2635248455299110042, 1317624506897928850, 2635248455299110042, 1317620108853514971, 2635244607008412826, 2635249005054923930, 2635244607008412826, 3952872953456105122, 2635240208963998947, 1317624506897928850, 2635248455299110042, 1317624506897928850, 2635248455299110042, 1317620108853514971, 1317623957144212187, 2635247905545393379, 1317623957144212187, 1317623957144212187, 1317619559097963300, 2635244607008412826, 3952869105165407906, 2635244607008412826, 2196032592801702628, 1317620108853514971, 3952863762209314393, 5270496506703517793, 3952872558302336601, 3952868160255825497, 3952859364179580578, 2292301424425448100, 2292301424425448100, 2292301424425448100, 2292301424425448100, 1137123721960501485, 2196036990846116507, 3367258766985667747, 2196036990846116507, 2196036990846116507, 2196032592801702628, 2635243584806196378, 3952871931253888674, 2635247982852707482, 2635243584806196378, 2635239186761782499, 5270483939629209697, 9097236063469977773, 2292297034968871588, 3367250048202056867, 3952859364179580578, 3952863762209314393, 2292297576134750884, 2196033142555419291, 5270487787919906913, 2635239736515499162, 5270484961831426145, 2292297576134750884, 3367251070404273315, 9097236063469977773, 3952860386381797026, 3952864861720942169, 2292297576134750884, 2196033142555419291, 2292297034968871588, 2635240286271313050, 3952863212470277794, 1137123721960501485, 2196032592801702628, 3952863212470277794, 2635239186761782499, 3952864311965128281, 2292297576134750884, 2196033142555419291, 3367250048202056867, 2635239736515499162]
def sums5_3 : List Nat := [2635244134545232977, 3952872480992925273, 2635248532591744089, 2635248532591744081, 2635239736515499162, 2196037050975658651, 2196037050975658651, 3367258827115209891, 2196037050975658651, 2196032652931244772, 3952864243245651545, 5270496987739854945, 3952868641292162649, 3952873039338673753, 3952859845215917730, 1317624025861591698, 2635247974262772890, 2635247974262772890, 1317624025861591698, 1317619627817177819, 3952864243245651545, 2292297095098413732, 5270488749992581217, 2196032661519082139, 2635239736515499162, 3952863822338856537, 3952872618431878745, 5270496566833059937, 3952868220385367641, 3952859424309122722, 2196037050975658651, 2196037050975658651, 3367258827115209891, 2196037050975658651, 2196032652931244772, 2292301424425448100, 2292301424425448100, 2292301424425448100, 2292301424425448100, 1137123721960501485, 2635243644935738522, 2635248042982249626, 3952871991383430818, 2635243644935738522, 2635239246891324643, 5270483999758751841, 2292297095098413732, 9097236063469977773, 3367250108331599011, 3952859424309122722, 2635244065842533530, 3952872412290225826, 2635244065842533530, 2635248463889044634, 2635239667798119651, 2196036982258279140, 2196036982258279140, 2196036982258279140, 2196036982258279140, 1024815206118990125, 2635244065842533530, 3952872412290225826, 2635244065842533530, 2635248463889044634, 2635239667798119651, 1317623957144212187, 2635247905545393379, 1317623957144212187, 1317623957144212187, 1317619559097963300, 3952864174542952098, 1137123721960501485, 3952864174542952098, 2196032592801702628, 2635239667798119651, 2635244203264709713, 3952872549712402009, 3952872549712402009, 2635248601311220817, 2635239805234975898, 2196037050975658651, 2196037050975658651, 3367258827115209891, 2196037050975658651, 2196032652931244772, 2196036990846116507, 3367258766985667747, 2196036990846116507, 2196036990846116507, 2196032592801702628, 1317624025861591698, 2635247974262772890, 2635247974262772890, 1317624025861591698, 1317619627817177819, 3952864380684605017, 2292297095098413732, 2292297034968871588, 2196032661519082139, 2635239805234975898, 2635244203264709721, 5270492237506025569, 3367250529238394019, 3952868220385367641, 2635239736515499162, 3367254497788175523, 3367254497788175523, 1024815206135505133, 3367254497788175523, 2196032652931244772, 5270484420665546849, 9097236063469977773, 3367250529238394019, 2292297034968871588, 3952859845215917730, 2635243644935738522, 3952867662056396450, 2196032592801702628, 2635243644935738522, 1317619627817177819, 3952864311965128281, 2292297095098413732, 3367250529238394019, 2196032661519082139, 2635239736515499162]
def sums5_4 : List Nat := [2635244134545232977, 2196033202684961435, 3952868091536348761, 3952868091536348761, 1317620177570894482, 3952864784411530841, 2196033202684961435, 5270489291158460513, 2292297095098413732, 2635240277681378458, 2635244684301046873, 3367251130533815459, 3952868641292162649, 5270492598283278433, 2635240277681378458, 2635243584806196378, 2196032652931244772, 3952867541797312162, 2635243584806196378, 1317619627817177819, 2635244684301046865, 2196033202684961435, 3952869191047976537, 2196032661519082139, 1317620177570894482, 3952863822338856537, 2196033202684961435, 2292297576134750884, 5270487848049449057, 2635239796645041306, 3952864921850484313, 2196033202684961435, 2292297576134750884, 2292297095098413732, 2635240346400855194, 5270485021960968289, 3367251130533815459, 2292297576134750884, 9097236063469977773, 3952860446511339170, 3952863272599819938, 2196032652931244772, 1137123721960501485, 3952863272599819938, 2635239246891324643, 3952864372094670425, 2196033202684961435, 2292297576134750884, 3367250108331599011, 2635239796645041306, 2635244065842533530, 2196033133967581924, 2635244065842533530, 3952868022833649314, 1317620108853514971, 3952864715708831394, 2196033133967581924, 3952864715708831394, 1137123721960501485, 2635240208963998947, 2635244065842533530, 2196033133967581924, 2635244065842533530, 3952868022833649314, 1317620108853514971, 2635243516088816867, 1024815206118990125, 2635243516088816867, 2635243516088816867, 1317619559097963300, 2635244615598347418, 2196033133967581924, 2635244615598347418, 2196032592801702628, 1317620108853514971, 2635244203264709721, 3367250649497478307, 5270492117246941281, 3952868160255825497, 2635239796645041306, 5270484540924631137, 3367250649497478307, 9097236063469977773, 2292297095098413732, 3952859965475002018, 3367254377529091235, 1024815206135505133, 3367254377529091235, 3367254377529091235, 2196032592801702628, 2635243584806196378, 2196032652931244772, 3952867541797312162, 2635243584806196378, 1317619627817177819, 3952864372094670425, 3367250649497478307, 2292297034968871588, 2196032661519082139, 2635239796645041306, 2635244203264709713, 2196033202684961435, 2196033142555419291, 3952868228975302233, 1317620177570894482, 3952864853131007577, 2196033202684961435, 3367251070404273315, 2292297095098413732, 2635240277681378458, 3952864853131007577, 3367251130533815459, 2196033142555419291, 2292297034968871588, 2635240277681378458, 2635243653525673114, 2196032652931244772, 2196032592801702628, 2635243653525673114, 1317619627817177819, 2635244753020523601, 2196033202684961435, 2196033142555419291, 2196032661519082139, 1317620177570894482]
def sums5_5 : List Nat := [2196037600714695250, 2196037600714695250, 3367259376854246490, 3367259376854246490, 2196033202684961435, 2196037600714695250, 2196037600714695250, 3367259376854246490, 3367259376854246490, 2196033202684961435, 3367255528563549274, 3367255528563549274, 3367259926610060378, 4538481702749611618, 3367251130533815459, 2196037050975658651, 2196037050975658651, 3367258827115209891, 2196037050975658651, 2196032652931244772, 3367255528563549274, 3367255528563549274, 4538477854458914402, 2196032652945924772, 2196033202684961435, 2196037600714695250, 2196037600714695250, 3367259376854246490, 3367259376854246490, 2196033202684961435, 2196037600714695250, 2196037600714695250, 3367259376854246490, 3367259376854246490, 2196033202684961435, 3367255528563549274, 3367255528563549274, 3367259926610060378, 4538481702749611618, 3367251130533815459, 2196037050975658651, 2196037050975658651, 3367258827115209891, 2196037050975658651, 2196032652931244772, 3367255528563549274, 3367255528563549274, 4538477854458914402, 2196032652945924772, 2196033202684961435, 2196037532011995803, 2196037532011995803, 2196037532011995803, 3367259308151547043, 2196033133967581924, 2196037532011995803, 2196037532011995803, 2196037532011995803, 3367259308151547043, 2196033133967581924, 2196037532011995803, 2196037532011995803, 2196037532011995803, 3367259308151547043, 2196033133967581924, 2196036982258279140, 2196036982258279140, 2196036982258279140, 2196036982258279140, 1024815206118990125, 3367255459860849827, 3367255459860849827, 3367255459860849827, 1024815206135505133, 2196033133967581924, 3367255047527212122, 3367255047527212122, 4538481221713274466, 3367259445573723226, 3367250649497478307, 3367255047527212122, 3367255047527212122, 4538481221713274466, 3367259445573723226, 3367250649497478307, 2196036982272959140, 2196036982272959140, 2196036982272959140, 2196036982272959140, 1024815206135505133, 2196037050975658651, 2196037050975658651, 3367258827115209891, 2196037050975658651, 2196032652931244772, 4538473044095542882, 4538473044095542882, 1152886320670990509, 2196032652945924772, 3367250649497478307, 3367255047527212122, 3367255047527212122, 2196033133982261924, 4538476892386240098, 2196033202684961435, 3367255047527212122, 3367255047527212122, 2196033133982261924, 4538476892386240098, 2196033202684961435, 4538473525131880034, 4538473525131880034, 2196033133982261924, 1152886320670990509, 3367251130533815459, 3367254497788175523, 3367254497788175523, 1024815206135505133, 3367254497788175523, 2196032652931244772, 3367255597283026010, 3367255597283026010, 2196033133982261924, 2196032652945924772, 2196033202684961435]
def sums5_6 : List Nat := [2635249134960907345, 2635244736914396241, 3952873083362088537, 3952873083362088537, 2635240338884662426, 2635248585205093457, 2635244187158582353, 3952872533606274649, 2635248585205093465, 2635239789128848538, 3952869235071391321, 3952864837024880217, 3952873633117902425, 5270497581519083617, 3952860438995146402, 2635248035466056858, 2635243637419545754, 3952871983867238050, 2635243637419545754, 2635239239375131875, 3952869235071391321, 2635244736914396249, 5270493733228386401, 3367250100815406243, 2635239789128848538, 2635249066241430609, 2635244668194919505, 2635249066241430617, 3952873014642611801, 2635240270165185690, 2635248516485616721, 1317624568084435529, 2635248516485616721, 2635248516485616721, 1317620170054701714, 2635249066241430617, 2635244668194919505, 2635249066241430609, 3952873014642611801, 2635240270165185690, 2635247966746580122, 1317624018345398930, 2635247966746580122, 1317624018345398930, 1317619620300985051, 3952869166351914585, 2635244668194919505, 3952869166351914585, 2196032654002889371, 1317620170054701714, 2635248997538731162, 2635244599492220058, 2635244599492220058, 3952872945939912354, 2635240201447806179, 2635248447782917274, 1317624499381736082, 1317624499381736082, 2635248447782917274, 1317620101337322203, 2635248447782917274, 1317624499381736082, 1317624499381736082, 2635248447782917274, 1317620101337322203, 2635247898029200611, 1317623949628019419, 1317623949628019419, 1317623949628019419, 1317619551581770532, 3952869097649215138, 2635244599492220058, 2635244599492220058, 2196032585285509860, 1317620101337322203, 3952868754035054169, 3952864355988543065, 5270497100482746465, 3952873152081565273, 3952859957958809250, 2635248585205093465, 2635244187158582353, 3952872533606274649, 2635248585205093457, 2635239789128848538, 3367258759469474979, 2196036983329923739, 2196036983329923739, 2196036983329923739, 2196032585285509860, 2635247966746580122, 1317624018345398930, 2635247966746580122, 1317624018345398930, 1317619620300985051, 5270488922865014881, 3952864355988543065, 2292297027452678820, 2196032654002889371, 2635239789128848538, 3952868754035054169, 2635244736914396249, 3367251062888080547, 5270492771155712097, 2635240270165185690, 3952868204279240281, 2635244187158582353, 2196033135039226523, 3952868204279240281, 1317620170054701714, 5270489403901352033, 3952864837024880217, 2196033135039226523, 2292297027452678820, 2635240270165185690, 3952867654540203682, 2635243637419545754, 2196032585285509860, 2635243637419545754, 1317619620300985051, 3952869303790868057, 2635244736914396241, 2196033135039226523, 2196032654002889371, 1317620170054701714]
def sums5_7 : List Nat := [2292301974164484699, 2292301974164484699, 2292301974164484699, 3447479676631528547, 2292297576134750884, 2292301974164484699, 2292301974164484699, 2292301974164484699, 3447479676631528547, 2292297576134750884, 2292301974164484699, 2292301974164484699, 2292301974164484699, 3447479676631528547, 2292297576134750884, 2292301424425448100, 2292301424425448100, 2292301424425448100, 2292301424425448100, 1137123721960501485, 3447475828340831331, 3447475828340831331, 3447475828340831331, 1152886320670990509, 2292297576134750884, 3367259858964325466, 3367255460917814362, 3367255460917814362, 4538481635103876706, 3367251062888080547, 3367259309208511578, 2196037533068960338, 2196037533068960338, 3367259309208511578, 2196033135039226523, 3367259309208511578, 2196037533068960338, 2196037533068960338, 3367259309208511578, 2196033135039226523, 3367258759469474979, 2196036983329923739, 2196036983329923739, 2196036983329923739, 2196032585285509860, 4538477786813179490, 3367255460917814362, 3367255460917814362, 2196032585300189860, 2196033135039226523, 3952873505342625369, 3952869107296114265, 3952864709249603161, 5270497453743806561, 3952860311219869346, 3952872955586811481, 2635249007185630289, 2635244609139119185, 3952872955586811481, 2635240211109385370, 3952872405830997593, 2635248457429816401, 2635244059383305297, 2635248457429816409, 2635239661353571482, 3952871856091960994, 2635247907690779802, 2635243509644268698, 2635243509644268698, 2635239111599854819, 5270493605453109345, 3952869107296114265, 2635244609139119193, 3367249973040129187, 2635239661353571482, 9115254860009194084, 9115254860009194084, 9115254860009194084, 9115254860009194084, 9097236063469977773, 3447479127949456483, 2292301425482412635, 2292301425482412635, 2292301425482412635, 2292297027452678820, 4538480545255925346, 3367258769116374106, 3367254371069863002, 3367254371069863002, 3367249973040129187, 5270495882859518049, 3952871934458336857, 3952867536411825753, 3952863138365314649, 3952858740335580834, 8214530536622805101, 9115250463036424804, 3447470341520110691, 4538467429499545186, 5270478918812440673, 9115251011718496868, 3447471431368062051, 4538469000383833698, 8214530536622805101, 5270480489696729185, 9115251011718496868, 2292297577191715419, 3367251072534979674, 9115250463036424804, 3952860389586245209, 9115251011718496868, 2292297577191715419, 3367250522779165786, 3447470341520110691, 3952859839830431321, 9097236063469977773, 2292297027452678820, 3367249973040129187, 5270482767103137889, 3952858740335580834, 9115251011718496868, 2292297577191715419, 3367250522779165786, 4538467429499545186, 3952859290074617433]
def sums5_8 : List Nat := [2292301493128147547, 2292301493128147547, 3447479195595191395, 2292301493128147547, 2292297095098413732, 3367258896891651162, 3367254498845140058, 4538480673031202402, 3367254498845140058, 3367250100815406243, 9115254860009194084, 9115254860009194084, 9115254860009194084, 9115254860009194084, 9097236063469977773, 3952872062233613913, 3952867664187102809, 5270496010634795105, 3952863266140591705, 3952858868110857890, 9115250530682159716, 3447470469295387747, 8214530536622805101, 4538467557274822242, 5270479046587717729, 2292301493128147547, 2292301493128147547, 3447479195595191395, 2292301493128147547, 2292297095098413732, 3367258828172174426, 2196037052032623186, 3367258828172174426, 2196037052032623186, 2196032654002889371, 3447479127949456483, 2292301425482412635, 2292301425482412635, 2292301425482412635, 2292297027452678820, 3952871993514137177, 2635248045112955985, 3952871993514137177, 2635243647066444881, 2635239249036711066, 9115250530682159716, 2292297096155378267, 9115250463036424804, 3367250110462305370, 3952859427513570905, 2292301424425448100, 2292301424425448100, 2292301424425448100, 2292301424425448100, 1137123721960501485, 3367258759469474979, 2196036983329923739, 2196036983329923739, 2196036983329923739, 2196032585285509860, 5270496363895855201, 3952872415494674009, 3952863619401651801, 3952868017448162905, 3952859221371917986, 3952871856091960994, 2635247907690779802, 2635243509644268698, 2635243509644268698, 2635239111599854819, 9097236063469977773, 2292297027452678820, 5270483729175812193, 3367249973040129187, 3952859221371917986, 2292301493128147547, 2292301493128147547, 3447479195595191395, 2292301493128147547, 2292297095098413732, 3367258828172174426, 2196037052032623186, 3367258828172174426, 2196037052032623186, 2196032654002889371, 4538480545255925346, 3367258769116374106, 3367254371069863002, 3367254371069863002, 3367249973040129187, 3952871924794660441, 2635247976393479249, 2635247976393479257, 2635243578346968145, 2635239180317234330, 9115250530682159716, 2292297096155378267, 3447470341520110691, 3367250041742828634, 3952859358794094169, 3447474866268157027, 3447474866268157027, 1152886320670990509, 3447474866268157027, 2292297095098413732, 4538476343704168034, 3367254498845140058, 2196032585300189860, 3367254498845140058, 2196032654002889371, 8214530536622805101, 9115250463036424804, 4538467910535882338, 3447470341520110691, 5270479399848777825, 5270491681307760737, 3952867664187102809, 3367249973040129187, 2635243647066444889, 2635239180317234330, 9115250530682159716, 2292297096155378267, 4538467910535882338, 3367250041742828634, 3952859290074617433]
def sums5_9 : List Nat := [2292297644837450331, 3367251200310256730, 9115251011718496868, 9115250530682159716, 3952860517361522265, 2292297644837450331, 3367250650554442842, 9115251011718496868, 3447470469295387747, 3952859967605708377, 3447471499013796963, 4538469128159110754, 9115251011718496868, 8214530536622805101, 5270480617472006241, 2292297095098413732, 3367250100815406243, 9097236063469977773, 5270482894878414945, 3952858868110857890, 2292297644837450331, 3367250650554442842, 9115251011718496868, 4538467557274822242, 3952859417849894489, 2292297644837450331, 3367251131590779994, 3447471431368062051, 9115250530682159716, 3952860448642045529, 2292297644837450331, 2196033203741925970, 2292297577191715419, 2292297096155378267, 2635240348531561553, 3447471499013796963, 3367251131590779994, 2292297577191715419, 9115250463036424804, 3952860448642045529, 2292297095098413732, 2196032654002889371, 2292297027452678820, 3952863275804268121, 2635239249036711066, 2292297644837450331, 2196033203741925970, 2292297577191715419, 3367250110462305370, 2635239798775747665, 2292297576134750884, 3367251062888080547, 5270484819023763553, 9097236063469977773, 3952860311219869346, 2292297576134750884, 2196033135039226523, 3952864718913279577, 2292297027452678820, 2635240211109385370, 2292297576134750884, 2196033135039226523, 3952863619401651801, 5270487577466509409, 2635239661353571482, 1137123721960501485, 2196032585285509860, 3952863069662615202, 3952863069662615202, 2635239111599854819, 2292297576134750884, 2196033135039226523, 3952864169157465689, 3367249973040129187, 2635239661353571482, 3447471017977459811, 4538468647122773602, 8214530536622805101, 9115250530682159716, 5270480136435669089, 3447471017977459811, 3367250650554442842, 9115250463036424804, 2292297096155378267, 3952859967605708377, 1152886320670990509, 2196032585300189860, 4538471758826579554, 4538471758826579554, 3367249973040129187, 2292297095098413732, 2196032654002889371, 5270487096430172257, 3952863138365314649, 2635239180317234330, 3447471017977459811, 3367250650554442842, 3447470341520110691, 3367250041742828634, 2635239798775747673, 2292297644837450331, 3367251131590779994, 4538469000383833698, 9115250530682159716, 3952860379922568793, 2292297644837450331, 2196033203741925970, 3367251072534979674, 2292297096155378267, 2635240279812084817, 3447471499013796963, 3367251131590779994, 3367250522779165786, 3447470341520110691, 2635240279812084825, 2292297095098413732, 2196032654002889371, 3367249973040129187, 3952863207084791385, 2635239180317234330, 2292297644837450331, 2196033203741925970, 3367250522779165786, 3367250041742828634, 2635239730056270929]
def sums5_10 : List Nat := [2196037540585153106, 3367259316724704346, 2196037540585153106, 3367259316724704346, 2196033142555419291, 3367255468434007130, 3367259866480518234, 3367255468434007130, 4538481642620069474, 3367251070404273315, 2196037540585153106, 3367259316724704346, 2196037540585153106, 3367259316724704346, 2196033142555419291, 2196036990846116507, 3367258766985667747, 2196036990846116507, 2196036990846116507, 2196032592801702628, 3367255468434007130, 4538477794329372258, 3367255468434007130, 2196032592816382628, 2196033142555419291, 2292301974164484699, 2292301974164484699, 2292301974164484699, 3447479676631528547, 2292297576134750884, 2292301974164484699, 2292301974164484699, 2292301974164484699, 3447479676631528547, 2292297576134750884, 2292301974164484699, 2292301974164484699, 2292301974164484699, 3447479676631528547, 2292297576134750884, 2292301424425448100, 2292301424425448100, 2292301424425448100, 2292301424425448100, 1137123721960501485, 3447475828340831331, 3447475828340831331, 3447475828340831331, 1152886320670990509, 2292297576134750884, 2635249014701823057, 3952872963103004249, 2635244616655311953, 3952872963103004249, 2635240218625578138, 3952869114812307033, 3952873512858818137, 3952864716765795929, 5270497461259999329, 3952860318736062114, 2635248464946009169, 3952872413347190361, 2635244066899498065, 2635248464946009177, 2635239668869764250, 2635247915206972570, 3952871863608153762, 2635243517160461466, 2635243517160461466, 2635239119116047587, 3952869114812307033, 5270493612969302113, 2635244616655311961, 3367249980556321955, 2635239668869764250, 2292301432998605403, 3447479135465649251, 2292301432998605403, 2292301432998605403, 2292297034968871588, 9115254860009194084, 9115254860009194084, 9115254860009194084, 9115254860009194084, 9097236063469977773, 3367258776632566874, 4538480552772118114, 3367254378586055770, 3367254378586055770, 3367249980556321955, 3952871941974529625, 5270495890375710817, 3952867543928018521, 3952863145881507417, 3952858747851773602, 9115250470552617572, 8214530536622805101, 3447470349036303459, 4538467437015737954, 5270478926328633441, 2292297584707908187, 9115251011718496868, 3367251080051172442, 9115250470552617572, 3952860397102437977, 3447471438884254819, 9115251011718496868, 4538469007900026466, 8214530536622805101, 5270480497212921953, 2292297584707908187, 9115251011718496868, 3367250530295358554, 3447470349036303459, 3952859847346624089, 2292297034968871588, 9097236063469977773, 3367249980556321955, 5270482774619330657, 3952858747851773602, 2292297584707908187, 9115251011718496868, 3367250530295358554, 4538467437015737954, 3952859297590810201]
def sums5_11 : List Nat := [2196037532011995803, 2196037532011995803, 2196037532011995803, 3367259308151547043, 2196033133967581924, 2196037532011995803, 2196037532011995803, 2196037532011995803, 3367259308151547043, 2196033133967581924, 2196037532011995803, 2196037532011995803, 2196037532011995803, 3367259308151547043, 2196033133967581924, 2196036982258279140, 2196036982258279140, 2196036982258279140, 2196036982258279140, 1024815206118990125, 3367255459860849827, 3367255459860849827, 3367255459860849827, 1024815206135505133, 2196033133967581924, 3952873565472167513, 3952864769379145305, 3952869167425656409, 5270497513873348705, 3952860371349411490, 3952872465960539737, 2635244119512847441, 2635248517559358545, 2635248517559358553, 2635239721483113626, 3952873015716353625, 2635244669268661329, 2635249067315172433, 3952873015716353625, 2635240271238927514, 3952871916221503138, 2635243569773810842, 2635247967820321946, 2635243569773810842, 2635239171729396963, 5270493665582651489, 2635244669268661337, 3952869167425656409, 3367250033169671331, 2635239721483113626, 2635248997538731162, 2635244599492220058, 2635244599492220058, 3952872945939912354, 2635240201447806179, 2635248447782917274, 1317624499381736082, 1317624499381736082, 2635248447782917274, 1317620101337322203, 2635248447782917274, 1317624499381736082, 1317624499381736082, 2635248447782917274, 1317620101337322203, 2635247898029200611, 1317623949628019419, 1317623949628019419, 1317623949628019419, 1317619551581770532, 3952869097649215138, 2635244599492220058, 2635244599492220058, 2196032585285509860, 1317620101337322203, 2292301424425448100, 2292301424425448100, 2292301424425448100, 2292301424425448100, 1137123721960501485, 5270496484154939489, 3952863739660736089, 3952872535753758297, 3952868137707247193, 3952859341631002274, 3367258759469474979, 2196036983329923739, 2196036983329923739, 2196036983329923739, 2196032585285509860, 3952871916221503138, 2635243569773810842, 2635247967820321946, 2635243569773810842, 2635239171729396963, 9097236063469977773, 5270483909564438625, 2292297027452678820, 3367250033169671331, 3952859341631002274, 2292297576134750884, 5270484939282847841, 3367251062888080547, 9097236063469977773, 3952860371349411490, 2292297576134750884, 3952863739660736089, 2196033135039226523, 5270487757855135841, 2635239721483113626, 2292297576134750884, 3952864839172363865, 2196033135039226523, 2292297027452678820, 2635240271238927514, 1137123721960501485, 3952863189921699490, 2196032585285509860, 3952863189921699490, 2635239171729396963, 2292297576134750884, 3952864289416549977, 2196033135039226523, 3367250033169671331, 2635239721483113626]
def sums5_12 : List Nat := [2196037540585153106, 3367259316724704346, 2196037540585153106, 3367259316724704346, 2196033142555419291, 3367255468434007130, 3367259866480518234, 3367255468434007130, 4538481642620069474, 3367251070404273315, 2196037540585153106, 3367259316724704346, 2196037540585153106, 3367259316724704346, 2196033142555419291, 2196036990846116507, 3367258766985667747, 2196036990846116507, 2196036990846116507, 2196032592801702628, 3367255468434007130, 4538477794329372258, 3367255468434007130, 2196032592816382628, 2196033142555419291, 3367259858964325466, 3367255460917814362, 3367255460917814362, 4538481635103876706, 3367251062888080547, 3367259309208511578, 2196037533068960338, 2196037533068960338, 3367259309208511578, 2196033135039226523, 3367259309208511578, 2196037533068960338, 2196037533068960338, 3367259309208511578, 2196033135039226523, 3367258759469474979, 2196036983329923739, 2196036983329923739, 2196036983329923739, 2196032585285509860, 4538477786813179490, 3367255460917814362, 3367255460917814362, 2196032585300189860, 2196033135039226523, 2635249006111888465, 2635249006111888473, 2635244608065377361, 3952872954513069657, 2635240210035643546, 2635249006111888473, 2635249006111888465, 2635244608065377361, 3952872954513069657, 2635240210035643546, 2635248456356074577, 2635248456356074577, 1317624507954893385, 2635248456356074577, 1317620109925159570, 2635247906617037978, 2635247906617037978, 1317623958215856786, 1317623958215856786, 1317619560171442907, 3952869106222372441, 3952869106222372441, 2635244608065377361, 2196032593873347227, 1317620109925159570, 2292301432998605403, 3447479135465649251, 2292301432998605403, 2292301432998605403, 2292297034968871588, 3447479127949456483, 2292301425482412635, 2292301425482412635, 2292301425482412635, 2292297027452678820, 3367258768042632282, 3367258768042632282, 2196036991903081042, 2196036991903081042, 2196032593873347227, 3952871933384595033, 3952871933384595033, 2635247984983413841, 2635243586936902737, 2635239188907168922, 9115250470552617572, 9115250463036424804, 2292297036025836123, 3367250050332763226, 3952859367384028761, 2292297584707908187, 3447471431368062051, 3367251071461237850, 9115250470552617572, 3952860388512503385, 3447471438884254819, 2292297577191715419, 3367251071461237850, 9115250463036424804, 3952860388512503385, 2292297584707908187, 2292297577191715419, 2196033143612383826, 2292297036025836123, 2635240288402019409, 2292297034968871588, 2292297027452678820, 2196032593873347227, 3952863215674725977, 2635239188907168922, 2292297584707908187, 2292297577191715419, 2196033143612383826, 3367250050332763226, 2635239738646205521]
def sums5_13 : List Nat := [3367254927268127834, 4538481101454190178, 3367254927268127834, 3367259325314638938, 3367250529238394019, 2196036982272959140, 2196036982272959140, 2196036982272959140, 2196036982272959140, 1024815206135505133, 3367254927268127834, 4538481101454190178, 3367254927268127834, 3367259325314638938, 3367250529238394019, 2196036990846116507, 3367258766985667747, 2196036990846116507, 2196036990846116507, 2196032592801702628, 4538472863706916450, 1152886320670990509, 4538472863706916450, 2196032592816382628, 3367250529238394019, 9115254860009194084, 9115254860009194084, 9115254860009194084, 9115254860009194084, 9097236063469977773, 4538480605385467490, 3367254431199405146, 3367258829245916250, 3367254431199405146, 3367250033169671331, 3447479127949456483, 2292301425482412635, 2292301425482412635, 2292301425482412635, 2292297027452678820, 5270495942989060193, 3952867596541367897, 3952871994587879001, 3952863198494856793, 3952858800465122978, 8214530536622805101, 3447470401649652835, 9115250463036424804, 4538467489629087330, 5270478978941982817, 3952868573646427737, 5270496920094120033, 3952864175599916633, 3952872971692938841, 3952859777570182818, 3367258759469474979, 2196036983329923739, 2196036983329923739, 2196036983329923739, 2196032585285509860, 2635248464946009177, 3952872413347190361, 2635244066899498065, 2635248464946009169, 2635239668869764250, 2635247906617037978, 2635247906617037978, 1317623958215856786, 1317623958215856786, 1317619560171442907, 5270488682346846305, 2292297027452678820, 3952864175599916633, 2196032593873347227, 2635239668869764250, 2292301432998605403, 3447479135465649251, 2292301432998605403, 2292301432998605403, 2292297034968871588, 4538480605385467490, 3367254431199405146, 3367258829245916250, 3367254431199405146, 3367250033169671331, 3367258768042632282, 3367258768042632282, 2196036991903081042, 2196036991903081042, 2196032593873347227, 3952871924794660441, 2635247976393479257, 2635247976393479249, 2635243578346968145, 2635239180317234330, 9115250470552617572, 3447470401649652835, 2292297036025836123, 3367250041742828634, 3952859358794094169, 3447470897718375523, 8214530536622805101, 4538468466734147170, 9115250470552617572, 5270479956047042657, 1152886320670990509, 4538471879085663842, 2196032585300189860, 4538471879085663842, 3367250033169671331, 3447470897718375523, 9115250463036424804, 3367250530295358554, 2292297036025836123, 3952859847346624089, 2292297034968871588, 5270487216689256545, 2196032593873347227, 3952863198494856793, 2635239180317234330, 3447470897718375523, 3447470401649652835, 3367250530295358554, 3367250041742828634, 2635239738646205529]
def sums5_14 : List Nat := [3367254927268127834, 2196033133982261924, 3367254927268127834, 4538476711997613666, 2196033142555419291, 4538473404872795746, 2196033133982261924, 4538473404872795746, 1152886320670990509, 3367251070404273315, 3367254927268127834, 2196033133982261924, 3367254927268127834, 4538476711997613666, 2196033142555419291, 3367254377529091235, 1024815206135505133, 3367254377529091235, 3367254377529091235, 2196032592801702628, 3367255477023941722, 2196033133982261924, 3367255477023941722, 2196032592816382628, 2196033142555419291, 9115251011718496868, 4538469060513375842, 3447471431368062051, 8214530536622805101, 5270480549826271329, 9115251011718496868, 3367250582908707930, 2292297577191715419, 3447470401649652835, 3952859899959973465, 9115251011718496868, 3367251132664521818, 2292297577191715419, 9115250463036424804, 3952860449715787353, 9097236063469977773, 3367250033169671331, 2292297027452678820, 5270482827232680033, 3952858800465122978, 9115251011718496868, 3367250582908707930, 2292297577191715419, 4538467489629087330, 3952859350204159577, 3952868573646427737, 3367251062888080547, 2635244616655311961, 5270492530637543521, 2635240210035643546, 5270489223512725601, 2196033135039226523, 3952864716765795929, 2292297027452678820, 2635240210035643546, 3952868023890613849, 2196033135039226523, 2635244066899498065, 3952868023890613849, 1317620109925159570, 3952867474151577250, 2196032585285509860, 2635243517160461466, 2635243517160461466, 1317619560171442907, 3952869123402241625, 2196033135039226523, 2635244616655311953, 2196032593873347227, 1317620109925159570, 3447474746009072739, 1152886320670990509, 3447474746009072739, 3447474746009072739, 2292297034968871588, 8214530536622805101, 4538468030794966626, 9115250463036424804, 3447470401649652835, 5270479520107862113, 4538476163315541602, 2196032585300189860, 3367254378586055770, 3367254378586055770, 2196032593873347227, 5270491500919134305, 3367250033169671331, 3952867543928018521, 2635243586936902745, 2635239180317234330, 9115250470552617572, 4538468030794966626, 2292297036025836123, 3367250041742828634, 3952859350204159577, 2292297584707908187, 4538469060513375842, 3367251071461237850, 9115250470552617572, 3952860379922568793, 3447471438884254819, 3367250582908707930, 3367251071461237850, 3447470401649652835, 2635240279812084825, 2292297584707908187, 3367251132664521818, 2196033143612383826, 2292297036025836123, 2635240279812084817, 2292297034968871588, 3367250033169671331, 2196032593873347227, 3952863207084791385, 2635239180317234330, 2292297584707908187, 3367250582908707930, 2196033143612383826, 3367250041742828634, 2635239730056270929]
def sums5_15 : List Nat := [2196037059548815954, 3367258835688367194, 3367258835688367194, 2196037059548815954, 2196032661519082139, 2292301493128147547, 2292301493128147547, 3447479195595191395, 2292301493128147547, 2292297095098413732, 2292301432998605403, 3447479135465649251, 2292301432998605403, 2292301432998605403, 2292297034968871588, 2635248052629148753, 3952872001030329945, 3952872001030329945, 2635243654582637649, 2635239256552903834, 2292297103671571035, 9115250530682159716, 9115250470552617572, 3367250117978498138, 3952859435029763673, 3367254506361332826, 3367258904407843930, 4538480680547395170, 3367254506361332826, 3367250108331599011, 2292301493128147547, 2292301493128147547, 3447479195595191395, 2292301493128147547, 2292297095098413732, 9115254860009194084, 9115254860009194084, 9115254860009194084, 9115254860009194084, 9097236063469977773, 3952867671703295577, 3952872069749806681, 5270496018150987873, 3952863273656784473, 3952858875627050658, 3447470476811580515, 9115250530682159716, 8214530536622805101, 4538467564791015010, 5270479054103910497, 2196036990846116507, 3367258766985667747, 2196036990846116507, 2196036990846116507, 2196032592801702628, 2292301424425448100, 2292301424425448100, 2292301424425448100, 2292301424425448100, 1137123721960501485, 3952872423010866777, 5270496371412047969, 3952863626917844569, 3952868024964355673, 3952859228888110754, 2635247915206972570, 3952871863608153762, 2635243517160461466, 2635243517160461466, 2635239119116047587, 2292297034968871588, 9097236063469977773, 5270483736692004961, 3367249980556321955, 3952859228888110754, 2196037059548815954, 3367258835688367194, 3367258835688367194, 2196037059548815954, 2196032661519082139, 2292301493128147547, 2292301493128147547, 3447479195595191395, 2292301493128147547, 2292297095098413732, 3367258776632566874, 4538480552772118114, 3367254378586055770, 3367254378586055770, 3367249980556321955, 2635247983909672017, 3952871932310853209, 2635247983909672025, 2635243585863160913, 2635239187833427098, 2292297103671571035, 9115250530682159716, 3447470349036303459, 3367250049259021402, 3952859366310286937, 3367254506361332826, 4538476351220360802, 2196032592816382628, 3367254506361332826, 2196032661519082139, 3447474866268157027, 3447474866268157027, 1152886320670990509, 3447474866268157027, 2292297095098413732, 9115250470552617572, 8214530536622805101, 4538467918052075106, 3447470349036303459, 5270479407364970593, 3952867671703295577, 5270491688823953505, 3367249980556321955, 2635243654582637657, 2635239187833427098, 2292297103671571035, 9115250530682159716, 4538467918052075106, 3367250049259021402, 3952859297590810201]
def sums5_16 : List Nat := [2196037050975658651, 2196037050975658651, 3367258827115209891, 2196037050975658651, 2196032652931244772, 3952872603399493209, 3952863807306471001, 5270496551800674401, 3952868205352982105, 3952859409276737186, 2292301424425448100, 2292301424425448100, 2292301424425448100, 2292301424425448100, 1137123721960501485, 2635248035466056858, 2635243637419545754, 3952871983867238050, 2635243637419545754, 2635239239375131875, 2292297095098413732, 5270483977210173537, 9097236063469977773, 3367250100815406243, 3952859409276737186, 2196037050975658651, 2196037050975658651, 3367258827115209891, 2196037050975658651, 2196032652931244772, 3952872465960539737, 2635244119512847441, 2635248517559358553, 2635248517559358545, 2635239721483113626, 5270496965191276641, 3952864220697073241, 3952868618743584345, 3952873016790095449, 3952859822667339426, 2635247966746580122, 1317624018345398930, 2635247966746580122, 1317624018345398930, 1317619620300985051, 2292297095098413732, 3952864220697073241, 5270488719927810145, 2196032654002889371, 2635239721483113626, 2196036982258279140, 2196036982258279140, 2196036982258279140, 2196036982258279140, 1024815206118990125, 3952872397257840290, 2635244050810147994, 2635244050810147994, 2635248448856659098, 2635239652765734115, 3952872397257840290, 2635244050810147994, 2635244050810147994, 2635248448856659098, 2635239652765734115, 2635247898029200611, 1317623949628019419, 1317623949628019419, 1317623949628019419, 1317619551581770532, 1137123721960501485, 3952864151994373794, 3952864151994373794, 2196032585285509860, 2635239652765734115, 2196037050975658651, 2196037050975658651, 3367258827115209891, 2196037050975658651, 2196032652931244772, 3952872534680016473, 2635244188232324177, 3952872534680016473, 2635248586278835281, 2635239790202590362, 3367258759469474979, 2196036983329923739, 2196036983329923739, 2196036983329923739, 2196032585285509860, 2635247966746580122, 1317624018345398930, 2635247966746580122, 1317624018345398930, 1317619620300985051, 2292297095098413732, 3952864358136026713, 2292297027452678820, 2196032654002889371, 2635239790202590362, 3367254497788175523, 3367254497788175523, 1024815206135505133, 3367254497788175523, 2196032652931244772, 5270492222473640033, 2635244188232324185, 3367250514206008483, 3952868205352982105, 2635239721483113626, 9097236063469977773, 5270484390600775777, 3367250514206008483, 2292297027452678820, 3952859822667339426, 3952867654540203682, 2635243637419545754, 2196032585285509860, 2635243637419545754, 1317619620300985051, 2292297095098413732, 3952864289416549977, 3367250514206008483, 2196032654002889371, 2635239721483113626]
def sums5_17 : List Nat := [3367254446231790682, 4538480620417853026, 3367258844278301786, 3367254446231790682, 3367250048202056867, 9115254860009194084, 9115254860009194084, 9115254860009194084, 9115254860009194084, 9097236063469977773, 2292301432998605403, 3447479135465649251, 2292301432998605403, 2292301432998605403, 2292297034968871588, 3952867611573753433, 5270495958021445729, 3952872009620264537, 3952863213527242329, 3952858815497508514, 3447470416682038371, 8214530536622805101, 9115250470552617572, 4538467504661472866, 5270478993974368353, 2196036982272959140, 2196036982272959140, 2196036982272959140, 2196036982272959140, 1024815206135505133, 4538481086421804642, 3367254912235742298, 3367254912235742298, 3367259310282253402, 3367250514206008483, 4538481086421804642, 3367254912235742298, 3367254912235742298, 3367259310282253402, 3367250514206008483, 3367258759469474979, 2196036983329923739, 2196036983329923739, 2196036983329923739, 2196032585285509860, 1152886320670990509, 4538472841158338146, 4538472841158338146, 2196032585300189860, 3367250514206008483, 2196036990846116507, 3367258766985667747, 2196036990846116507, 2196036990846116507, 2196032592801702628, 5270496905061734497, 3952868558614042201, 3952864160567531097, 3952872956660553305, 3952859762537797282, 3952872405830997593, 2635248457429816409, 2635244059383305297, 2635248457429816401, 2635239661353571482, 2635247906617037978, 2635247906617037978, 1317623958215856786, 1317623958215856786, 1317619560171442907, 2292297034968871588, 5270488659798268001, 3952864160567531097, 2196032593873347227, 2635239661353571482, 3367254446231790682, 4538480620417853026, 3367258844278301786, 3367254446231790682, 3367250048202056867, 3447479127949456483, 2292301425482412635, 2292301425482412635, 2292301425482412635, 2292297027452678820, 3367258768042632282, 3367258768042632282, 2196036991903081042, 2196036991903081042, 2196032593873347227, 2635247983909672025, 3952871932310853209, 2635247983909672017, 2635243585863160913, 2635239187833427098, 3447470416682038371, 9115250463036424804, 2292297036025836123, 3367250049259021402, 3952859366310286937, 4538471901634242146, 1152886320670990509, 2196032592816382628, 4538471901634242146, 3367250048202056867, 8214530536622805101, 3447470882685989987, 4538468451701761634, 9115250463036424804, 5270479941014657121, 9115250470552617572, 3447470882685989987, 3367250522779165786, 2292297036025836123, 3952859839830431321, 5270487239237834849, 2292297027452678820, 2196032593873347227, 3952863213527242329, 2635239187833427098, 3447470416682038371, 3447470882685989987, 3367250522779165786, 3367250049259021402, 2635239738646205529]
def sums5_18 : List Nat := [2196037059548815954, 3367258835688367194, 3367258835688367194, 2196037059548815954, 2196032661519082139, 3367258896891651162, 3367254498845140058, 4538480673031202402, 3367254498845140058, 3367250100815406243, 2292301432998605403, 3447479135465649251, 2292301432998605403, 2292301432998605403, 2292297034968871588, 2635248044039214161, 2635248044039214169, 3952871992440395353, 2635243645992703057, 2635239247962969242, 2292297103671571035, 3447470469295387747, 9115250470552617572, 3367250109388563546, 3952859426439829081, 3367254506361332826, 3367258904407843930, 4538480680547395170, 3367254506361332826, 3367250108331599011, 3367258828172174426, 2196037052032623186, 3367258828172174426, 2196037052032623186, 2196032654002889371, 3447479127949456483, 2292301425482412635, 2292301425482412635, 2292301425482412635, 2292297027452678820, 2635248044039214169, 2635248044039214161, 3952871992440395353, 2635243645992703057, 2635239247962969242, 3447470476811580515, 2292297096155378267, 9115250463036424804, 3367250109388563546, 3952859426439829081, 2196036990846116507, 3367258766985667747, 2196036990846116507, 2196036990846116507, 2196032592801702628, 3367258759469474979, 2196036983329923739, 2196036983329923739, 2196036983329923739, 2196032585285509860, 3952872414420932185, 3952872414420932185, 2635244067973239889, 2635248466019750993, 2635239669943506074, 2635247906617037978, 2635247906617037978, 1317623958215856786, 1317623958215856786, 1317619560171442907, 2292297034968871588, 2292297027452678820, 3952864177747400281, 2196032593873347227, 2635239669943506074, 2196037059548815954, 3367258835688367194, 3367258835688367194, 2196037059548815954, 2196032661519082139, 3367258828172174426, 2196037052032623186, 3367258828172174426, 2196037052032623186, 2196032654002889371, 3367258768042632282, 3367258768042632282, 2196036991903081042, 2196036991903081042, 2196032593873347227, 2635247975319737425, 2635247975319737425, 2635247975319737425, 1317624026918556233, 1317619628888822418, 2292297103671571035, 2292297096155378267, 2292297036025836123, 2196032662576046674, 2635239807365682257, 3367254506361332826, 4538476351220360802, 2196032592816382628, 3367254506361332826, 2196032661519082139, 4538476343704168034, 3367254498845140058, 2196032585300189860, 3367254498845140058, 2196032654002889371, 9115250470552617572, 9115250463036424804, 3367250531369100378, 2292297036025836123, 3952859848420365913, 3952867663113360985, 3952867663113360985, 2196032593873347227, 2635243645992703057, 1317619628888822418, 2292297103671571035, 2292297096155378267, 3367250531369100378, 2196032662576046674, 2635239738646205521]
def sums5_19 : List Nat := [3367254446231790682, 2196032652945924772, 4538476230961276514, 3367254446231790682, 2196032661519082139, 9115250530682159716, 4538468098440701538, 8214530536622805101, 3447470469295387747, 5270479587753597025, 3447474746009072739, 1152886320670990509, 3447474746009072739, 3447474746009072739, 2292297034968871588, 3952867611573753433, 3367250100815406243, 5270491568564869217, 2635243654582637657, 2635239247962969242, 2292297103671571035, 4538468098440701538, 9115250470552617572, 3367250109388563546, 3952859417849894489, 4538471961763784290, 2196032652945924772, 1152886320670990509, 4538471961763784290, 3367250108331599011, 9115250530682159716, 3367250582908707930, 3447470882685989987, 2292297096155378267, 3952859899959973465, 8214530536622805101, 4538468511831303778, 3447470882685989987, 9115250463036424804, 5270480001144199265, 5270487299367376993, 2196032654002889371, 2292297027452678820, 3952863273656784473, 2635239247962969242, 3447470476811580515, 3367250582908707930, 3447470882685989987, 3367250109388563546, 2635239798775747673, 3367254377529091235, 1024815206135505133, 3367254377529091235, 3367254377529091235, 2196032592801702628, 9097236063469977773, 3367250514206008483, 5270484270341691489, 2292297027452678820, 3952859762537797282, 5270491981955471457, 3367250514206008483, 2635244067973239897, 3952868024964355673, 2635239661353571482, 3952867474151577250, 2196032585285509860, 2635243517160461466, 2635243517160461466, 1317619560171442907, 2292297034968871588, 3367250514206008483, 3952864169157465689, 2196032593873347227, 2635239661353571482, 3367254446231790682, 2196032652945924772, 4538476230961276514, 3367254446231790682, 2196032661519082139, 9115250530682159716, 3367250651628184666, 9115250463036424804, 2292297096155378267, 3952859968679450201, 4538476163315541602, 2196032585300189860, 3367254378586055770, 3367254378586055770, 2196032593873347227, 3952867542854276697, 2196032654002889371, 3952867542854276697, 2635243585863160913, 1317619628888822418, 2292297103671571035, 3367250651628184666, 2292297036025836123, 2196032662576046674, 2635239798775747665, 3367254514951267418, 2196032652945924772, 2196032592816382628, 3367254514951267418, 2196032661519082139, 9115250530682159716, 3367250582908707930, 4538468451701761634, 2292297096155378267, 3952859831240496729, 9115250470552617572, 4538468511831303778, 3367250522779165786, 2292297036025836123, 3952859831240496729, 3952867680293230169, 2196032654002889371, 2196032593873347227, 2635243654582637649, 1317619628888822418, 2292297103671571035, 3367250582908707930, 3367250522779165786, 2196032662576046674, 2635239730056270929]
def sums5_20 : List Nat := [2196033211258118738, 2292297644837450331, 2292297584707908187, 2292297103671571035, 2635240356047754321, 3367251139106972762, 2292297644837450331, 3447471438884254819, 9115250530682159716, 3952860456158238297, 3367251139106972762, 3447471499013796963, 2292297584707908187, 9115250470552617572, 3952860456158238297, 2196032661519082139, 2292297095098413732, 2292297034968871588, 3952863283320460889, 2635239256552903834, 2196033211258118738, 2292297644837450331, 2292297584707908187, 3367250117978498138, 2635239806291940433, 3367250658070635610, 2292297644837450331, 9115251011718496868, 3447470476811580515, 3952859975121901145, 3367251207826449498, 2292297644837450331, 9115251011718496868, 9115250530682159716, 3952860524877715033, 4538469135675303522, 3447471499013796963, 9115251011718496868, 8214530536622805101, 5270480624988199009, 3367250108331599011, 2292297095098413732, 9097236063469977773, 5270482902394607713, 3952858875627050658, 3367250658070635610, 2292297644837450331, 9115251011718496868, 4538467564791015010, 3952859425366087257, 2196033142555419291, 2292297576134750884, 3952864726429472345, 2292297034968871588, 2635240218625578138, 3367251070404273315, 2292297576134750884, 5270484826539956321, 9097236063469977773, 3952860318736062114, 2196033142555419291, 2292297576134750884, 3952863626917844569, 5270487584982702177, 2635239668869764250, 2196032592801702628, 1137123721960501485, 3952863077178807970, 3952863077178807970, 2635239119116047587, 2196033142555419291, 2292297576134750884, 3952864176673658457, 3367249980556321955, 2635239668869764250, 3367250658070635610, 3447471017977459811, 9115250470552617572, 2292297103671571035, 3952859975121901145, 4538468654638966370, 3447471017977459811, 8214530536622805101, 9115250530682159716, 5270480143951861857, 2196032592816382628, 1152886320670990509, 4538471766342772322, 4538471766342772322, 3367249980556321955, 2196032661519082139, 2292297095098413732, 5270487103946365025, 3952863145881507417, 2635239187833427098, 3367250658070635610, 3447471017977459811, 3447470349036303459, 3367250049259021402, 2635239806291940441, 2196033211258118738, 2292297644837450331, 3367251080051172442, 2292297103671571035, 2635240287328277585, 3367251139106972762, 2292297644837450331, 4538469007900026466, 9115250530682159716, 3952860387438761561, 3367251139106972762, 3447471499013796963, 3367250530295358554, 3447470349036303459, 2635240287328277593, 2196032661519082139, 2292297095098413732, 3367249980556321955, 3952863214600984153, 2635239187833427098, 2196033211258118738, 2292297644837450331, 3367250530295358554, 3367250049259021402, 2635239737572463697]
def sums5_21 : List Nat := [2196033202684961435, 3952864906818098777, 2292297576134750884, 2292297095098413732, 2635240338884662426, 2196033202684961435, 3952863807306471001, 2292297576134750884, 5270487825500870753, 2635239789128848538, 3367251130533815459, 5270485006928582753, 2292297576134750884, 9097236063469977773, 3952860438995146402, 2196032652931244772, 3952863257567434402, 1137123721960501485, 3952863257567434402, 2635239239375131875, 2196033202684961435, 3952864357062284889, 2292297576134750884, 3367250100815406243, 2635239789128848538, 2196033202684961435, 3952864769379145305, 5270489268609882209, 2292297095098413732, 2635240270165185690, 2196033202684961435, 2635244119512847441, 3952868068987770457, 3952868068987770457, 1317620170054701714, 3367251130533815459, 2635244669268661337, 3952868618743584345, 5270492568218507361, 2635240270165185690, 2196032652931244772, 2635243569773810842, 3952867519248733858, 2635243569773810842, 1317619620300985051, 2196033202684961435, 2635244669268661329, 3952869168499398233, 2196032654002889371, 1317620170054701714, 2196033133967581924, 3952864700676445858, 3952864700676445858, 1137123721960501485, 2635240201447806179, 2196033133967581924, 2635244050810147994, 2635244050810147994, 3952868000285071010, 1317620101337322203, 2196033133967581924, 2635244050810147994, 2635244050810147994, 3952868000285071010, 1317620101337322203, 1024815206118990125, 2635243501056431331, 2635243501056431331, 2635243501056431331, 1317619551581770532, 2196033133967581924, 2635244600565961882, 2635244600565961882, 2196032585285509860, 1317620101337322203, 3367250649497478307, 5270484525892245601, 9097236063469977773, 2292297095098413732, 3952859957958809250, 3367250649497478307, 2635244188232324185, 5270492087182170209, 3952868137707247193, 2635239789128848538, 1024815206135505133, 3367254362496705699, 3367254362496705699, 3367254362496705699, 2196032585285509860, 2196032652931244772, 2635243569773810842, 3952867519248733858, 2635243569773810842, 1317619620300985051, 3367250649497478307, 3952864357062284889, 2292297027452678820, 2196032654002889371, 2635239789128848538, 2196033202684961435, 3952864838098622041, 3367251062888080547, 2292297095098413732, 2635240270165185690, 2196033202684961435, 2635244188232324177, 2196033135039226523, 3952868206426723929, 1317620170054701714, 3367251130533815459, 3952864838098622041, 2196033135039226523, 2292297027452678820, 2635240270165185690, 2196032652931244772, 2635243638493287578, 2196032585285509860, 2635243638493287578, 1317619620300985051, 2196033202684961435, 2635244737988138065, 2196033135039226523, 2196032654002889371, 1317620170054701714]
def sums5_22 : List Nat := [3367250597941093466, 9115251011718496868, 2292297584707908187, 3447470416682038371, 3952859914992359001, 4538469075545761378, 9115251011718496868, 3447471438884254819, 8214530536622805101, 5270480564858656865, 3367251147696907354, 9115251011718496868, 2292297584707908187, 9115250470552617572, 3952860464748172889, 3367250048202056867, 9097236063469977773, 2292297034968871588, 5270482842265065569, 3952858815497508514, 3367250597941093466, 9115251011718496868, 2292297584707908187, 4538467504661472866, 3952859365236545113, 2196033133982261924, 4538473389840410210, 4538473389840410210, 1152886320670990509, 3367251062888080547, 2196033133982261924, 3367254912235742298, 3367254912235742298, 4538476689449035362, 2196033135039226523, 2196033133982261924, 3367254912235742298, 3367254912235742298, 4538476689449035362, 2196033135039226523, 1024815206135505133, 3367254362496705699, 3367254362496705699, 3367254362496705699, 2196032585285509860, 2196033133982261924, 3367255461991556186, 3367255461991556186, 2196032585300189860, 2196033135039226523, 2196033142555419291, 5270489208480340065, 3952864709249603161, 2292297034968871588, 2635240210035643546, 3367251070404273315, 3952868558614042201, 2635244609139119193, 5270492508088965217, 2635240210035643546, 2196033142555419291, 3952868008858228313, 2635244059383305297, 3952868008858228313, 1317620109925159570, 2196032592801702628, 3952867459119191714, 2635243509644268698, 2635243509644268698, 1317619560171442907, 2196033142555419291, 3952869108369856089, 2635244609139119185, 2196032593873347227, 1317620109925159570, 4538468053343544930, 8214530536622805101, 9115250470552617572, 3447470416682038371, 5270479542656440417, 1152886320670990509, 3447474730976687203, 3447474730976687203, 3447474730976687203, 2292297027452678820, 2196032592816382628, 4538476148283156066, 3367254371069863002, 3367254371069863002, 2196032593873347227, 3367250048202056867, 5270491485886748769, 3952867536411825753, 2635243586936902745, 2635239187833427098, 4538468053343544930, 9115250463036424804, 2292297036025836123, 3367250049259021402, 3952859365236545113, 3367250597941093466, 3447471431368062051, 3367251071461237850, 3447470416682038371, 2635240287328277593, 4538469075545761378, 2292297577191715419, 3367251071461237850, 9115250463036424804, 3952860387438761561, 3367251147696907354, 2292297577191715419, 2196033143612383826, 2292297036025836123, 2635240287328277585, 3367250048202056867, 2292297027452678820, 2196032593873347227, 3952863214600984153, 2635239187833427098, 3367250597941093466, 2292297577191715419, 2196033143612383826, 3367250049259021402, 2635239737572463697]
def sums5_23 : List Nat := [3367250597941093466, 9115250530682159716, 3447470897718375523, 2292297103671571035, 3952859914992359001, 2196032652945924772, 4538471946731398754, 1152886320670990509, 4538471946731398754, 3367250100815406243, 4538468534379882082, 8214530536622805101, 3447470897718375523, 9115250470552617572, 5270480023692777569, 2196032661519082139, 5270487284334991457, 2292297034968871588, 3952863266140591705, 2635239247962969242, 3367250597941093466, 3447470469295387747, 3447470897718375523, 3367250109388563546, 2635239806291940441, 4538468113473087074, 9115250530682159716, 8214530536622805101, 3447470476811580515, 5270479602785982561, 2196032652945924772, 3367254431199405146, 4538476208412698210, 3367254431199405146, 2196032654002889371, 1152886320670990509, 3447474730976687203, 3447474730976687203, 3447474730976687203, 2292297027452678820, 3367250108331599011, 3952867596541367897, 5270491546016290913, 2635243647066444889, 2635239247962969242, 4538468113473087074, 2292297096155378267, 9115250463036424804, 3367250109388563546, 3952859425366087257, 3367250529238394019, 9097236063469977773, 5270484285374077025, 2292297034968871588, 3952859777570182818, 1024815206135505133, 3367254362496705699, 3367254362496705699, 3367254362496705699, 2196032585285509860, 3367250529238394019, 5270491966923085921, 2635244067973239897, 3952868017448162905, 2635239668869764250, 2196032592801702628, 3952867459119191714, 2635243509644268698, 2635243509644268698, 1317619560171442907, 3367250529238394019, 2292297027452678820, 3952864176673658457, 2196032593873347227, 2635239668869764250, 3367250666660570202, 9115250530682159716, 9115250470552617572, 2292297103671571035, 3952859983711835737, 2196032652945924772, 3367254431199405146, 4538476208412698210, 3367254431199405146, 2196032654002889371, 2196032592816382628, 4538476148283156066, 3367254371069863002, 3367254371069863002, 2196032593873347227, 2196032661519082139, 3952867527821891161, 3952867527821891161, 2635243578346968145, 1317619628888822418, 3367250666660570202, 2292297096155378267, 2292297036025836123, 2196032662576046674, 2635239806291940433, 3367250597941093466, 9115250530682159716, 4538468466734147170, 2292297103671571035, 3952859846272882265, 2196032652945924772, 3367254499918881882, 2196032585300189860, 3367254499918881882, 2196032654002889371, 4538468534379882082, 9115250463036424804, 3367250530295358554, 2292297036025836123, 3952859846272882265, 2196032661519082139, 3952867665260844633, 2196032593873347227, 2635243647066444881, 1317619628888822418, 3367250597941093466, 2292297096155378267, 3367250530295358554, 2196032662576046674, 2635239737572463697]
def sums5_24 : List Nat := [2196033211258118738, 3367251200310256730, 2292297584707908187, 2292297103671571035, 2635240347457819729, 3367251139106972762, 3367250650554442842, 3447471438884254819, 3447470469295387747, 2635240347457819737, 3367251139106972762, 4538469128159110754, 2292297584707908187, 9115250470552617572, 3952860447568303705, 2196032661519082139, 3367250100815406243, 2292297034968871588, 3952863274730526297, 2635239247962969242, 2196033211258118738, 3367250650554442842, 2292297584707908187, 3367250109388563546, 2635239797702005841, 3367250658070635610, 3367251131590779994, 3447471431368062051, 3447470476811580515, 2635240347457819737, 3367251207826449498, 2196033203741925970, 2292297577191715419, 2292297096155378267, 2635240347457819729, 4538469135675303522, 3367251131590779994, 2292297577191715419, 9115250463036424804, 3952860447568303705, 3367250108331599011, 2196032654002889371, 2292297027452678820, 3952863274730526297, 2635239247962969242, 3367250658070635610, 2196033203741925970, 2292297577191715419, 3367250109388563546, 2635239797702005841, 2196033142555419291, 3367251062888080547, 3952864717839537753, 2292297034968871588, 2635240210035643546, 3367251070404273315, 2196033135039226523, 3952864717839537753, 2292297027452678820, 2635240210035643546, 2196033142555419291, 2196033135039226523, 2635244067973239889, 3952868026038097497, 1317620109925159570, 2196032592801702628, 2196032585285509860, 2635243518234203290, 2635243518234203290, 1317619560171442907, 2196033142555419291, 2196033135039226523, 2635244617729053777, 2196032593873347227, 1317620109925159570, 3367250658070635610, 4538468647122773602, 9115250470552617572, 2292297103671571035, 3952859966531966553, 4538468654638966370, 3367250650554442842, 9115250463036424804, 2292297096155378267, 3952859966531966553, 2196032592816382628, 2196032585300189860, 3367254379659797594, 3367254379659797594, 2196032593873347227, 2196032661519082139, 2196032654002889371, 3952867545001760345, 2635243586936902737, 1317619628888822418, 3367250658070635610, 3367250650554442842, 2292297036025836123, 2196032662576046674, 2635239797702005841, 2196033211258118738, 3367251131590779994, 3367251071461237850, 2292297103671571035, 2635240278738342993, 3367251139106972762, 2196033203741925970, 3367251071461237850, 2292297096155378267, 2635240278738342993, 3367251139106972762, 3367251131590779994, 2196033143612383826, 2292297036025836123, 2635240278738342993, 2196032661519082139, 2196032654002889371, 2196032593873347227, 2635243655656379473, 1317619628888822418, 2196033211258118738, 2196033203741925970, 2196033143612383826, 2196032662576046674, 1317620178627859017]
def sums5 : List Nat := sums5_0 ++ (sums5_1 ++ (sums5_2 ++ (sums5_3 ++ (sums5_4 ++ (sums5_5 ++ (sums5_6 ++ (sums5_7 ++ (sums5_8 ++ (sums5_9 ++ (sums5_10 ++ (sums5_11 ++ (sums5_12 ++ (sums5_13 ++ (sums5_14 ++ (sums5_15 ++ (sums5_16 ++ (sums5_17 ++ (sums5_18 ++ (sums5_19 ++ (sums5_20 ++ (sums5_21 ++ (sums5_22 ++ (sums5_23 ++ (sums5_24))))))))))))))))))))))))
theorem sok1 : ((chartsS 1 1).zip sums1).all (sumOk 1) = true := by decide +kernel
theorem slen1 : sums1.length = (chartsS 1 1).length := by decide +kernel
theorem sok2 : ((chartsS 2 2).zip sums2).all (sumOk 2) = true := by decide +kernel
theorem slen2 : sums2.length = (chartsS 2 2).length := by decide +kernel
theorem sok3 : ((chartsS 3 3).zip sums3).all (sumOk 3) = true := by decide +kernel
theorem slen3 : sums3.length = (chartsS 3 3).length := by decide +kernel
theorem sok4 : ((chartsS 4 4).zip sums4).all (sumOk 4) = true := by decide +kernel
theorem slen4 : sums4.length = (chartsS 4 4).length := by decide +kernel
theorem slen5 : sums5.length = (chartsS 5 5).length := by decide +kernel
theorem sok5_0 : ((((chartsS 5 5).zip sums5).drop (125 * 0)).take 125).all (sumOk 5) = true := by decide +kernel
theorem sok5_1 : ((((chartsS 5 5).zip sums5).drop (125 * 1)).take 125).all (sumOk 5) = true := by decide +kernel
theorem sok5_2 : ((((chartsS 5 5).zip sums5).drop (125 * 2)).take 125).all (sumOk 5) = true := by decide +kernel
theorem sok5_3 : ((((chartsS 5 5).zip sums5).drop (125 * 3)).take 125).all (sumOk 5) = true := by decide +kernel
theorem sok5_4 : ((((chartsS 5 5).zip sums5).drop (125 * 4)).take 125).all (sumOk 5) = true := by decide +kernel
theorem sok5_5 : ((((chartsS 5 5).zip sums5).drop (125 * 5)).take 125).all (sumOk 5) = true := by decide +kernel
theorem sok5_6 : ((((chartsS 5 5).zip sums5).drop (125 * 6)).take 125).all (sumOk 5) = true := by decide +kernel
theorem sok5_7 : ((((chartsS 5 5).zip sums5).drop (125 * 7)).take 125).all (sumOk 5) = true := by decide +kernel
theorem sok5_8 : ((((chartsS 5 5).zip sums5).drop (125 * 8)).take 125).all (sumOk 5) = true := by decide +kernel
theorem sok5_9 : ((((chartsS 5 5).zip sums5).drop (125 * 9)).take 125).all (sumOk 5) = true := by decide +kernel
theorem sok5_10 : ((((chartsS 5 5).zip sums5).drop (125 * 10)).take 125).all (sumOk 5) = true := by decide +kernel
theorem sok5_11 : ((((chartsS 5 5).zip sums5).drop (125 * 11)).take 125).all (sumOk 5) = true := by decide +kernel
theorem sok5_12 : ((((chartsS 5 5).zip sums5).drop (125 * 12)).take 125).all (sumOk 5) = true := by decide +kernel
theorem sok5_13 : ((((chartsS 5 5).zip sums5).drop (125 * 13)).take 125).all (sumOk 5) = true := by decide +kernel
theorem sok5_14 : ((((chartsS 5 5).zip sums5).drop (125 * 14)).take 125).all (sumOk 5) = true := by decide +kernel
theorem sok5_15 : ((((chartsS 5 5).zip sums5).drop (125 * 15)).take 125).all (sumOk 5) = true := by decide +kernel
theorem sok5_16 : ((((chartsS 5 5).zip sums5).drop (125 * 16)).take 125).all (sumOk 5) = true := by decide +kernel
theorem sok5_17 : ((((chartsS 5 5).zip sums5).drop (125 * 17)).take 125).all (sumOk 5) = true := by decide +kernel
theorem sok5_18 : ((((chartsS 5 5).zip sums5).drop (125 * 18)).take 125).all (sumOk 5) = true := by decide +kernel
theorem sok5_19 : ((((chartsS 5 5).zip sums5).drop (125 * 19)).take 125).all (sumOk 5) = true := by decide +kernel
theorem sok5_20 : ((((chartsS 5 5).zip sums5).drop (125 * 20)).take 125).all (sumOk 5) = true := by decide +kernel
theorem sok5_21 : ((((chartsS 5 5).zip sums5).drop (125 * 21)).take 125).all (sumOk 5) = true := by decide +kernel
theorem sok5_22 : ((((chartsS 5 5).zip sums5).drop (125 * 22)).take 125).all (sumOk 5) = true := by decide +kernel
theorem sok5_23 : ((((chartsS 5 5).zip sums5).drop (125 * 23)).take 125).all (sumOk 5) = true := by decide +kernel
theorem sok5_24 : ((((chartsS 5 5).zip sums5).drop (125 * 24)).take 125).all (sumOk 5) = true := by decide +kernel
theorem sok5_all : ∀ k, k < 25 → ((((chartsS 5 5).zip sums5).drop (125 * k)).take 125).all (sumOk 5) = true
  | 0, _ => sok5_0
  | 1, _ => sok5_1
  | 2, _ => sok5_2
  | 3, _ => sok5_3
  | 4, _ => sok5_4
  | 5, _ => sok5_5
  | 6, _ => sok5_6
  | 7, _ => sok5_7
  | 8, _ => sok5_8
  | 9, _ => sok5_9
  | 10, _ => sok5_10
  | 11, _ => sok5_11
  | 12, _ => sok5_12
  | 13, _ => sok5_13
  | 14, _ => sok5_14
  | 15, _ => sok5_15
  | 16, _ => sok5_16
  | 17, _ => sok5_17
  | 18, _ => sok5_18
  | 19, _ => sok5_19
  | 20, _ => sok5_20
  | 21, _ => sok5_21
  | 22, _ => sok5_22
  | 23, _ => sok5_23
  | 24, _ => sok5_24
  | n + 25, h => absurd h (by omega)
theorem sok5 : ((chartsS 5 5).zip sums5).all (sumOk 5) = true := by
  refine List.all_eq_true.mpr (chunk_all (s := 125) (n := 25) (by decide) ?_ sok5_all)
  rw [List.length_zip]
  have := charts_len 5 (by decide) 5 (by decide)
  omega
end K54
/-! K54P2: the plain law. -/
namespace K54
open PySem PySem.Spec PyProof.Rows L2 Evl

/-- a sum, its part so far a number at each step -/
def sumF {α : Type} (f : α → Nat) : List α → Nat → Nat
  | [], n => n
  | x :: l, n => match n + f x with
    | 0 => sumF f l 0
    | k + 1 => sumF f l (k + 1)
theorem sumF_eq {α : Type} (f : α → Nat) : ∀ (l : List α) (n : Nat), sumF f l n = n + (l.map f).sum
  | [], n => by simp [sumF]
  | x :: l, n => by
    unfold sumF
    split
    · rename_i h
      rw [sumF_eq f l 0, List.map_cons, List.sum_cons]
      omega
    · rename_i k h
      rw [sumF_eq f l (k + 1), List.map_cons, List.sum_cons]
      omega
def b2n (b : Bool) : Nat := cond b 1 0
theorem count_sumF {α β : Type} [DecidableEq β] (g : α → β) (k : β) : ∀ l : List α, (l.map g).count k = sumF (fun s => b2n (decide (g s = k))) l 0 := by
  intro l
  rw [sumF_eq, Nat.zero_add]
  induction l with
  | nil => rfl
  | cons x l ih =>
    rw [List.map_cons, List.count_cons, List.map_cons, List.sum_cons, ih]
    by_cases h : g x = k
    · rw [decide_eq_true h, h]
      simp [b2n]
      omega
    · rw [decide_eq_false h]
      simp [b2n, h]
theorem filter_sumF {α : Type} (p : α → Bool) : ∀ l : List α, (l.filter p).length = sumF (fun s => b2n (p s)) l 0 := by
  intro l
  rw [sumF_eq, Nat.zero_add]
  induction l with
  | nil => rfl
  | cons x l ih =>
    rw [List.filter_cons, List.map_cons, List.sum_cons]
    cases h : p x with
    | true =>
      rw [if_pos rfl, List.length_cons, ih]
      simp [b2n]
      omega
    | false =>
      rw [if_neg (by decide), ih]
      simp [b2n]
theorem map_zip {α β γ : Type} {f : α → γ} {g : β → γ} : ∀ {l : List α} {t : List β}, l.length = t.length → (∀ p ∈ l.zip t, f p.1 = g p.2) → l.map f = t.map g
  | [], [], _, _ => rfl
  | [], _ :: _, h, _ => by simp at h
  | _ :: _, [], h, _ => by simp at h
  | x :: l, y :: t, h, hp => by
    rw [List.map_cons, List.map_cons, map_zip (l := l) (t := t) (by simpa using h) fun p hp2 => hp p (by rw [List.zip_cons_cons]; exact List.mem_cons_of_mem _ hp2)]
    rw [show f x = g y from hp (x, y) (by rw [List.zip_cons_cons]; exact List.mem_cons_self)]
theorem filter_map_len {α β : Type} {p : α → Bool} {q : β → Bool} {l : List α} {t : List β} (h : l.map p = t.map q) : (l.filter p).length = (t.filter q).length := by
  rw [filter_sumF, filter_sumF, sumF_eq, sumF_eq]
  have e1 : (l.map fun s => b2n (p s)) = (l.map p).map b2n := by rw [List.map_map]; rfl
  have e2 : (t.map fun s => b2n (q s)) = (t.map q).map b2n := by rw [List.map_map]; rfl
  rw [e1, e2, h]

/-- how often -/
abbrev cntD {κ : Type} [DecidableEq κ] (l : List κ) (x : κ) : Nat := l.count x
theorem cntD_le {κ : Type} [DecidableEq κ] (l : List κ) (x : κ) : cntD l x ≤ l.length := List.count_le_length
/-! ### tallies -/
section
variable {κ : Type} [DecidableEq κ]
theorem getA_cons (e : κ × Int) (r : List (κ × Int)) (k : κ) : getA (e :: r) k = if e.1 = k then e.2 else getA r k := by
  unfold getA
  rw [List.find?_cons]
  by_cases h : e.1 = k
  · rw [decide_eq_true h, if_pos h]
    rfl
  · rw [decide_eq_false h, if_neg h]
theorem hasA_mem {kvs : List (κ × Int)} {k : κ} : hasA kvs k = true ↔ k ∈ kvs.map (·.1) := by
  unfold hasA
  rw [List.any_eq_true, List.mem_map]
  constructor
  · rintro ⟨e, h1, h2⟩
    exact ⟨e, h1, of_decide_eq_true h2⟩
  · rintro ⟨e, h1, h2⟩
    exact ⟨e, h1, decide_eq_true h2⟩
/-- what a table of counts holds -/
structure Tl (l : List κ) (kvs : List (κ × Int)) : Prop where
  nd : (kvs.map (·.1)).Nodup
  mem : ∀ k, k ∈ kvs.map (·.1) ↔ k ∈ l
  val : ∀ e ∈ kvs, e.2 = (l.count e.1 : Nat)
theorem getA_of {kvs : List (κ × Int)} {e : κ × Int} (nd : (kvs.map (·.1)).Nodup) (h : e ∈ kvs) : getA kvs e.1 = e.2 := by
  induction kvs with
  | nil => exact absurd h List.not_mem_nil
  | cons x r ih =>
    rw [List.map_cons, List.nodup_cons] at nd
    rw [getA_cons]
    rcases List.mem_cons.mp h with z | z
    · rw [if_pos (by rw [z]), z]
    · have : ¬ x.1 = e.1 := fun q => nd.1 (by rw [q]; exact List.mem_map.mpr ⟨e, z, rfl⟩)
      rw [if_neg this]
      exact ih nd.2 z
theorem getA_no {kvs : List (κ × Int)} {k : κ} (h : ¬ k ∈ kvs.map (·.1)) : getA kvs k = 0 := by
  induction kvs with
  | nil => rfl
  | cons x r ih =>
    rw [List.map_cons, List.mem_cons] at h
    rw [getA_cons, if_neg fun z => h (.inl z.symm)]
    exact ih fun z => h (.inr z)
theorem tl_add {l : List κ} {kvs : List (κ × Int)} (t : Tl l kvs) (k : κ) : Tl (l ++ [k]) (addA kvs k 1) := by
  have cnt : ∀ x, (l ++ [k]).count x = l.count x + if k = x then 1 else 0 := fun x => by
    rw [List.count_append, List.count_singleton]
    congr 1
    by_cases h : k = x
    · simp [h]
    · simp [h]
  unfold addA putA
  by_cases h : hasA kvs k = true
  · rw [if_pos h]
    have hk := hasA_mem.mp h
    have keys : (kvs.map fun e => if e.1 = k then (e.1, getA kvs k + 1) else e).map (·.1) = kvs.map (·.1) := by
      rw [List.map_map]
      refine List.map_congr_left fun e _ => ?_
      show (if e.1 = k then (e.1, getA kvs k + 1) else e).1 = e.1
      split <;> rfl
    refine ⟨by rw [keys]; exact t.nd, fun x => ?_, fun e he => ?_⟩
    · rw [keys, t.mem x, List.mem_append, List.mem_singleton]
      constructor
      · exact .inl
      · rintro (z | z)
        · exact z
        · rw [z]
          exact (t.mem k).mp hk
    · obtain ⟨e0, h0, rfl⟩ := List.mem_map.mp he
      by_cases z : e0.1 = k
      · rw [if_pos z]
        show getA kvs k + 1 = (((l ++ [k]).count e0.1 : Nat) : Int)
        rw [cnt, if_pos z.symm, ← z, getA_of t.nd h0, t.val e0 h0]
        omega
      · rw [if_neg z, cnt, if_neg fun q => z q.symm, t.val e0 h0]
        omega
  · rw [if_neg h]
    have hk : ¬ k ∈ kvs.map (·.1) := fun z => h (hasA_mem.mpr z)
    have hl : ¬ k ∈ l := fun z => hk ((t.mem k).mpr z)
    refine ⟨?_, fun x => ?_, fun e he => ?_⟩
    · rw [List.map_append, List.nodup_append]
      refine ⟨t.nd, by simp, fun a ha b hb => ?_⟩
      have hb' : b = k := by simpa using hb
      rw [hb']
      intro z
      rw [z] at ha
      exact hk ha
    · rw [List.map_append, List.mem_append, List.mem_append, t.mem x]
      simp
    · rcases List.mem_append.mp he with z | z
      · have hne : ¬ k = e.1 := fun q => hk (by rw [q]; exact List.mem_map.mpr ⟨e, z, rfl⟩)
        rw [cnt, if_neg hne, t.val e z]
        omega
      · rw [List.mem_singleton.mp z]
        show getA kvs k + 1 = (((l ++ [k]).count k : Nat) : Int)
        rw [cnt, if_pos rfl, getA_no hk, List.count_eq_zero_of_not_mem hl]
        rfl
theorem tl_fold : ∀ (r l : List κ) (kvs : List (κ × Int)), Tl l kvs → Tl (l ++ r) (r.foldl (fun acc k => addA acc k 1) kvs)
  | [], l, kvs, h => by
    rw [List.append_nil]
    exact h
  | k :: r, l, kvs, h => by
    have z := tl_fold r (l ++ [k]) (addA kvs k 1) (tl_add h k)
    rw [List.append_assoc] at z
    exact z
theorem tally_tl (l : List κ) : Tl l (tallyF l) := by
  have z := tl_fold l [] [] ⟨by simp, fun k => by simp, fun e h => absurd h List.not_mem_nil⟩
  exact z
end
/-! ### sorted pairs -/
abbrev leP (p q : Int × Int) : Prop := p.1 < q.1 ∨ (p.1 = q.1 ∧ p.2 ≤ q.2)
theorem dataLe_P : PySem.W.dataLe false datI = fun p q => decide (leP p q) := PySem.W.dataLe_ii (fun e : Int × Int => e.1) fun e => e.2
theorem sortP_of {a b : List (Int × Int)} (h : a.Perm b) (hs : b.Pairwise leP) : a.mergeSort (PySem.W.dataLe false datI) = b := by
  refine List.Perm.eq_of_pairwise (le := leP) (fun x y _ _ h1 h2 => ?_) ?_ hs ((List.mergeSort_perm a _).trans h)
  · obtain ⟨x1, x2⟩ := x
    obtain ⟨y1, y2⟩ := y
    have e1 : x1 = y1 := by
      rcases h1 with h1 | h1 <;> rcases h2 with h2 | h2 <;> simp at h1 h2 <;> omega
    have e2 : x2 = y2 := by
      rcases h1 with h1 | h1 <;> rcases h2 with h2 | h2 <;> simp at h1 h2 <;> omega
    rw [e1, e2]
  · rw [dataLe_P]
    have z := List.pairwise_mergeSort (le := fun p q : Int × Int => decide (leP p q)) (fun p q r h1 h2 => ?_) (fun p q => ?_) a
    · exact z.imp fun h => of_decide_eq_true h
    · refine decide_eq_true ?_
      have h1 := of_decide_eq_true h1
      have h2 := of_decide_eq_true h2
      unfold leP at *
      omega
    · rw [Bool.or_eq_true, decide_eq_true_iff, decide_eq_true_iff]
      unfold leP
      omega
theorem insP_perm (n : Int × Int) : ∀ l : List (Int × Int), (insP n l).Perm (n :: l)
  | [] => .refl _
  | x :: l => by
    unfold insP
    split
    · exact .refl _
    · exact ((insP_perm n l).cons x).trans (.swap n x l)
theorem isortP_perm : ∀ l : List (Int × Int), (isortP l).Perm l
  | [] => .refl _
  | x :: l => (insP_perm x (isortP l)).trans ((isortP_perm l).cons x)
theorem dle_P (l : List (Int × Int)) : dle (l.map datI) = (l.mergeSort (PySem.W.dataLe false datI)).map datI :=
  (List.map_mergeSort (r := PySem.W.dataLe false datI) (s := PySem.W.dataLe false fun d => d) (f := datI) (l := l) (fun a _ b _ => rfl)).symm

/-! ### from the charts' numbers -/
theorem sumOk_parts {m : Nat} {c : List Int} {s : Nat} (h : sumOk m (c, s) = true) : onSum c = (dg s 0 : Int) ∧ (asc c).length = dg s 1 ∧ (ringsF c).length = dg s 2 ∧ maxF (depthsF c) = (dg s 3 : Int) ∧ periodF (ringsF c) = dg s 4 ∧ lensF c = lensD s ∧ depthsF c = depD m s ∧
    ∀ k, k < 6 → ∀ n, n < 6 → decide (stepF c (n + (k + 1)) = stepF c n) = decide (dg s (15 + k) ≤ n) := by
  unfold sumOk at h
  simp only [Bool.and_eq_true, decide_eq_true_iff] at h
  obtain ⟨⟨⟨⟨⟨⟨⟨h1, h2⟩, h3⟩, h4⟩, h5⟩, h6⟩, h7⟩, h8⟩ := h
  refine ⟨h1, h2, h3, h4, h5, h6, h7, fun k hk n hn => ?_⟩
  have z := List.all_eq_true.mp (List.all_eq_true.mp h8 k (List.mem_range.mpr hk)) n (List.mem_range.mpr hn)
  exact eq_of_beq z
def ptB (m : Int) (T : List Nat) (L : List Int) : Bool := decide (L ≠ []) && decide (L.length ≤ 10) && decide (∀ n ∈ L, 1 ≤ n ∧ n ≤ 1000) && decide (L.Pairwise (· ≤ ·)) && decide (ringLength m L = (sumF (fun s => b2n (decide (lensD s = L))) T 0 : Int))
def upTo (m : Nat) : List Int := (List.range m).map fun (i : Nat) => (i : Int) + 1
def cands (m : Nat) : List (List Int) := ((upTo m).map fun a => [a]) ++ ((upTo m).flatMap fun a => (upTo m).map fun b => [a, b]) ++ (upTo m).flatMap fun a => (upTo m).flatMap fun b => (upTo m).map fun c => [a, b, c]
/-- the kernel's part -/
structure Chk (m : Int) (n : Nat) (T : List Nat) (Pt : List (List Int)) : Prop where
  c1 : ((List.range (m + 1).toNat).map fun (k : Nat) => (sumF (fun s => b2n (decide ((dg s 0 : Int) = (k : Int)))) T 0 : Int)) = ringPlaceCounts m
  c2 : ((List.range (m + 1).toNat).map fun (k : Nat) => (sumF (fun s => b2n (decide ((dg s 1 : Int) = (k : Int)))) T 0 : Int)) = reachedCounts m
  c3 : ((List.range (m + 1).toNat).map fun (k : Nat) => (sumF (fun s => b2n (decide ((dg s 2 : Int) = (k : Int)))) T 0 : Int)) = pieceCounts m
  c4 : ((List.range m.toNat).map fun (k : Nat) => (sumF (fun s => b2n (decide ((dg s 3 : Int) = (k : Int)))) T 0 : Int)) = heightCounts m
  c5 : ((List.range m.toNat).map fun (k : Nat) => (sumF (fun s => (depD n s).count (k : Int)) T 0 : Int)) = depthTotals m
  c6 : ((perTab m).all fun e => decide (0 < e.2) && decide (e.2 = (sumF (fun s => b2n (decide ((dg s 4 : Int) = e.1))) T 0 : Int))) = true
  c6a : (T.all fun s => (perTab m).any fun e => decide ((dg s 4 : Int) = e.1)) = true
  c6b : ((perTab m).map (·.1)).Nodup
  c6c : (perTab m).Pairwise leP
  c7 : (Pt.all (ptB m T)) = true
  c7a : (T.all fun s => Pt.any fun L => decide (lensD s = L)) = true
  c8 : ((List.range (n + 1)).all fun (a : Nat) => (List.range 6).all fun (k : Nat) => decide (returning m (a : Int) ((k : Int) + 1) = (sumF (fun s => b2n (decide (dg s (15 + k) ≤ a))) T 0 : Int))) = true
  c9 : ((cands n).all fun L => !decide (L.Pairwise (· ≤ ·)) || decide (ringLength m L = (sumF (fun s => b2n (decide (lensD s = L))) T 0 : Int))) = true
  cs : shwB (told m) = true
  cl : (decide ((ringPlaceCounts m).length ≤ 100) && decide ((reachedCounts m).length ≤ 100) && decide ((pieceCounts m).length ≤ 100) && decide ((heightCounts m).length ≤ 100) && decide ((depthTotals m).length ≤ 100) && decide ((perTab m).length ≤ 100)) = true
theorem lens_of {L : List Int} (h1 : L ≠ []) (h2 : L.length ≤ 10) (h3 : ∀ n ∈ L, 1 ≤ n ∧ n ≤ 1000) (h4 : L.Pairwise (· ≤ ·)) : lensOk L := ⟨h1, h2, h3, fun k hk => by
  have q := List.pairwise_iff_getElem.mp h4 k (k + 1) (by omega) hk (by omega)
  rw [List.getD_eq_getElem?_getD, List.getD_eq_getElem?_getD, List.getElem?_eq_getElem (by omega), List.getElem?_eq_getElem hk]
  exact q⟩
theorem mem_upTo {n : Nat} {x : Int} (h : 1 ≤ x ∧ x ≤ (n : Int)) : x ∈ upTo n := List.mem_map.mpr ⟨(x - 1).toNat, List.mem_range.mpr (by omega), by omega⟩
theorem mem_cands {n : Nat} : ∀ {L : List Int}, L ≠ [] → L.length ≤ 3 → (∀ x ∈ L, 1 ≤ x ∧ x ≤ (n : Int)) → L ∈ cands n
  | [], h, _, _ => absurd rfl h
  | [a], _, _, h => List.mem_append.mpr (.inl (List.mem_append.mpr (.inl (List.mem_map.mpr ⟨a, mem_upTo (h a (by simp)), rfl⟩))))
  | [a, b], _, _, h => List.mem_append.mpr (.inl (List.mem_append.mpr (.inr (List.mem_flatMap.mpr ⟨a, mem_upTo (h a (by simp)), List.mem_map.mpr ⟨b, mem_upTo (h b (by simp)), rfl⟩⟩))))
  | [a, b, c], _, _, h => List.mem_append.mpr (.inr (List.mem_flatMap.mpr ⟨a, mem_upTo (h a (by simp)), List.mem_flatMap.mpr ⟨b, mem_upTo (h b (by simp)), List.mem_map.mpr ⟨c, mem_upTo (h c (by simp)), rfl⟩⟩⟩))
  | _ :: _ :: _ :: _ :: _, _, h, _ => absurd h (by simp)
theorem sorted_lens {L : List Int} (h : lensOk L) (h3 : L.length ≤ 3) : L.Pairwise (· ≤ ·) := by
  obtain ⟨h0, _, _, hs⟩ := h
  match L, h0, h3, hs with
  | [], h0, _, _ => exact absurd rfl h0
  | [a], _, _, _ => exact List.pairwise_singleton _ _
  | [a, b], _, _, hs =>
    have q : a ≤ b := hs 0 (by simp)
    simp [q]
  | [a, b, c], _, _, hs =>
    have q1 : a ≤ b := hs 0 (by simp)
    have q2 : b ≤ c := hs 1 (by simp)
    simp [q1, q2]
    omega
  | _ :: _ :: _ :: _ :: _, _, h3, _ => exact absurd h3 (by simp)
theorem plain_of {m : Int} {n : Nat} {T : List Nat} {Pt : List (List Int)} (hn : m.toNat = n) (hm : 1 ≤ m ∧ m ≤ 5) (hl : T.length = (chartsS n n).length) (hz : ((chartsS n n).zip T).all (sumOk n) = true) (C : Chk m n T Pt) : Plain m := by
  have hc : charts m = chartsS n n := by
    unfold charts
    rw [hn]
  have mp : ∀ {γ : Type} (f : List Int → γ) (g : Nat → γ), (∀ c s, sumOk n (c, s) = true → f c = g s) → (charts m).map f = T.map g := fun f g h => by
    rw [hc]
    exact map_zip hl.symm fun p hp => h p.1 p.2 (List.all_eq_true.mp hz p hp)
  have few : T.length ≤ 3125 := by
    rw [hl]
    exact charts_len n (by omega) n (by omega)
  have m4 : perCs m = T.map fun s => (dg s 4 : Int) := mp _ _ fun c s h => by rw [(sumOk_parts h).2.2.2.2.1]
  have m5 : (charts m).map lensF = T.map lensD := mp _ _ fun c s h => (sumOk_parts h).2.2.2.2.2.1
  have cntL : ∀ L : List Int, (((charts m).filter fun c => decide (lensF c = L)).length : Int) = (sumF (fun s => b2n (decide (lensD s = L))) T 0 : Nat) := fun L => by
    rw [filter_map_len (t := T) (q := fun s => decide (lensD s = L)) (mp _ _ fun c s h => by rw [(sumOk_parts h).2.2.2.2.2.1]), filter_sumF]
  have cntL2 : ∀ L : List Int, cntD ((charts m).map lensF) L = sumF (fun s => b2n (decide (lensD s = L))) T 0 := fun L => by
    rw [m5]
    exact count_sumF lensD L T
  have f8 : ∀ a k : Int, 0 ≤ a → a ≤ m → 1 ≤ k → k ≤ 6 → returning m a k = (((charts m).filter fun c => decide (stepF c (a + k).toNat = stepF c a.toNat)).length : Int) := fun a k a0 a1 k1 k6 => by
    have z := List.all_eq_true.mp (List.all_eq_true.mp C.c8 a.toNat (List.mem_range.mpr (by omega))) (k - 1).toNat (List.mem_range.mpr (by omega))
    have z := of_decide_eq_true z
    have e1 : ((a.toNat : Nat) : Int) = a := by omega
    have e2 : (((k - 1).toNat : Nat) : Int) + 1 = k := by omega
    rw [e1, e2] at z
    rw [z, filter_map_len (t := T) (q := fun s => decide (dg s (15 + (k - 1).toNat) ≤ a.toNat)) (mp _ _ fun c s h => ?_), filter_sumF]
    have q := (sumOk_parts h).2.2.2.2.2.2.2 (k - 1).toNat (by omega) a.toNat (by omega)
    have e3 : (a + k).toNat = a.toNat + ((k - 1).toNat + 1) := by omega
    rw [e3]
    exact q
  have tl6 := tally_tl (perCs m)
  have cnt4 : ∀ x : Int, (perCs m).count x = sumF (fun s => b2n (decide ((dg s 4 : Int) = x))) T 0 := fun x => by
    rw [m4, count_sumF]
  have tab : ∀ e ∈ perTab m, 0 < e.2 ∧ e.2 = ((perCs m).count e.1 : Nat) := fun e he => by
    have z := List.all_eq_true.mp C.c6 e he
    obtain ⟨z1, z2⟩ := Bool.and_eq_true_iff.mp z
    exact ⟨of_decide_eq_true z1, by rw [cnt4]; exact of_decide_eq_true z2⟩
  have pm : (tallyF (perCs m)).Perm (perTab m) := by
    have nd1 : (tallyF (perCs m)).Nodup := (List.Pairwise.of_map _ (fun a b h z => h (by rw [z])) tl6.nd)
    have nd2 : (perTab m).Nodup := (List.Pairwise.of_map _ (fun a b h z => h (by rw [z])) C.c6b)
    refine (List.perm_ext_iff_of_nodup nd1 nd2).mpr fun e => ?_
    constructor
    · intro he
      have hk := (tl6.mem e.1).mp (List.mem_map.mpr ⟨e, he, rfl⟩)
      rw [m4] at hk
      obtain ⟨s, hs, ek⟩ := List.mem_map.mp hk
      obtain ⟨e', he', ek'⟩ := List.any_eq_true.mp (List.all_eq_true.mp C.c6a s hs)
      have ek' := of_decide_eq_true ek'
      have k1 : e'.1 = e.1 := by rw [← ek', ek]
      have v1 := (tab e' he').2
      have v2 := tl6.val e he
      rw [k1, ← v2] at v1
      have : e' = e := Prod.ext k1 v1
      rw [← this]
      exact he'
    · intro he
      obtain ⟨p, v⟩ := tab e he
      have hk : e.1 ∈ perCs m := List.count_pos_iff.mp (by omega)
      obtain ⟨e', he', k1⟩ := List.mem_map.mp ((tl6.mem e.1).mpr hk)
      have v2 := tl6.val e' he'
      rw [k1, ← v] at v2
      have : e' = e := Prod.ext k1 v2
      rw [← this]
      exact he'
  have tl7 := tally_tl ((charts m).map lensF)
  have h7 : ∀ e ∈ tallyF ((charts m).map lensF), lensOk e.1 ∧ ringLength m e.1 = e.2 := fun e he => by
    have hk := (tl7.mem e.1).mp (List.mem_map.mpr ⟨e, he, rfl⟩)
    have v : e.2 = (cntD ((charts m).map lensF) e.1 : Nat) := tl7.val e he
    rw [m5] at hk
    obtain ⟨s, hs, ek⟩ := List.mem_map.mp hk
    obtain ⟨L, hL, eL⟩ := List.any_eq_true.mp (List.all_eq_true.mp C.c7a s hs)
    have eL := of_decide_eq_true eL
    have p := List.all_eq_true.mp C.c7 L hL
    unfold ptB at p
    simp only [Bool.and_eq_true, decide_eq_true_iff] at p
    obtain ⟨⟨⟨⟨p1, p2⟩, p3⟩, p4⟩, p5⟩ := p
    have e1 : e.1 = L := by rw [← ek, eL]
    rw [v, cntL2, e1]
    exact ⟨lens_of p1 p2 p3 p4, p5⟩
  have sm : ∀ x : List Int, ((cntD ((charts m).map lensF) x : Nat) : Int) < 10 ^ 10 := fun x => by
    have h1 := cntD_le ((charts m).map lensF) x
    rw [m5, List.length_map] at h1
    rw [m5]
    omega
  have cl := C.cl
  simp only [Bool.and_eq_true, decide_eq_true_iff] at cl
  obtain ⟨⟨⟨⟨⟨l1, l2⟩, l3⟩, l4⟩, l5⟩, l6⟩ := cl
  exact {
    f1 := by
      rw [← C.c1, mp onSum (fun s => (dg s 0 : Int)) fun c s h => (sumOk_parts h).1]
      exact List.map_congr_left fun k _ => by rw [count_sumF]
    f2 := by
      rw [← C.c2, mp (fun c => ((asc c).length : Int)) (fun s => (dg s 1 : Int)) fun c s h => by rw [(sumOk_parts h).2.1]]
      exact List.map_congr_left fun k _ => by rw [count_sumF]
    f3 := by
      rw [← C.c3, mp (fun c => ((ringsF c).length : Int)) (fun s => (dg s 2 : Int)) fun c s h => by rw [(sumOk_parts h).2.2.1]]
      exact List.map_congr_left fun k _ => by rw [count_sumF]
    f4 := by
      rw [← C.c4, mp (fun c => maxF (depthsF c)) (fun s => (dg s 3 : Int)) fun c s h => (sumOk_parts h).2.2.2.1]
      exact List.map_congr_left fun k _ => by rw [count_sumF]
    f5 := by
      have q : (charts m).flatMap depthsF = T.flatMap (depD n) := by
        rw [List.flatMap_def, List.flatMap_def, mp depthsF (depD n) fun c s h => (sumOk_parts h).2.2.2.2.2.2.1]
      rw [← C.c5, q]
      refine List.map_congr_left fun k _ => ?_
      rw [List.count_flatMap, sumF_eq, Nat.zero_add]
      rfl
    f6 := by rw [sortP_of pm C.c6c]
    f6d := by rw [dle_P, sortP_of (b := perTab m) (isortP_perm _).symm C.c6c]
    f7 := h7
    f8 := f8
    f9 := fun L ok h3 hx => by
      have p := List.all_eq_true.mp C.c9 L (mem_cands ok.1 h3 fun x hx2 => by have := hx x hx2; omega)
      rw [decide_eq_true (sorted_lens ok h3), Bool.not_true, Bool.false_or] at p
      rw [cntL]
      exact of_decide_eq_true p
    shw := shw_of C.cs
    len := fun d hd ds e => by
      subst e
      simp only [told, List.mem_cons, List.not_mem_nil, or_false, PyData.list.injEq] at hd
      rcases hd with rfl | rfl | rfl | rfl | rfl | rfl <;> (rw [List.length_map]; assumption)
    small := fun e he => by
      have v : e.2 = (cntD ((charts m).map lensF) e.1 : Nat) := tl7.val e he
      have := sm e.1
      omega
    small8 := fun a k a0 a1 k1 k6 => by
      rw [f8 a k a0 a1 k1 k6]
      have h1 : ((charts m).filter fun c => decide (stepF c (a + k).toNat = stepF c a.toNat)).length ≤ (charts m).length := List.length_filter_le _ _
      have h2 : (charts m).length ≤ 3125 := by
        rw [hc, ← hl]
        exact few
      omega }
end K54
/-! K54P3: the plain law at each number of places. -/
namespace K54
open PySem PySem.Spec PyProof.Rows L2 Evl

abbrev pts1 : List (List Int) := [[1]]
theorem chk1 : Chk 1 1 sums1 pts1 where
  c1 := by decide +kernel
  c2 := by decide +kernel
  c3 := by decide +kernel
  c4 := by decide +kernel
  c5 := by decide +kernel
  c6 := by decide +kernel
  c6a := by decide +kernel
  c6b := by decide +kernel
  c6c := by decide +kernel
  c7 := by decide +kernel
  c7a := by decide +kernel
  c8 := by decide +kernel
  c9 := by decide +kernel
  cs := by decide +kernel
  cl := by decide +kernel
abbrev pts2 : List (List Int) := [[1], [1, 1], [2]]
theorem chk2 : Chk 2 2 sums2 pts2 where
  c1 := by decide +kernel
  c2 := by decide +kernel
  c3 := by decide +kernel
  c4 := by decide +kernel
  c5 := by decide +kernel
  c6 := by decide +kernel
  c6a := by decide +kernel
  c6b := by decide +kernel
  c6c := by decide +kernel
  c7 := by decide +kernel
  c7a := by decide +kernel
  c8 := by decide +kernel
  c9 := by decide +kernel
  cs := by decide +kernel
  cl := by decide +kernel
abbrev pts3 : List (List Int) := [[1], [1, 1], [2], [1, 1, 1], [1, 2], [3]]
theorem chk3 : Chk 3 3 sums3 pts3 where
  c1 := by decide +kernel
  c2 := by decide +kernel
  c3 := by decide +kernel
  c4 := by decide +kernel
  c5 := by decide +kernel
  c6 := by decide +kernel
  c6a := by decide +kernel
  c6b := by decide +kernel
  c6c := by decide +kernel
  c7 := by decide +kernel
  c7a := by decide +kernel
  c8 := by decide +kernel
  c9 := by decide +kernel
  cs := by decide +kernel
  cl := by decide +kernel
abbrev pts4 : List (List Int) := [[1], [1, 1], [2], [1, 1, 1], [1, 2], [3], [1, 1, 1, 1], [1, 1, 2], [1, 3], [2, 2], [4]]
theorem chk4 : Chk 4 4 sums4 pts4 where
  c1 := by decide +kernel
  c2 := by decide +kernel
  c3 := by decide +kernel
  c4 := by decide +kernel
  c5 := by decide +kernel
  c6 := by decide +kernel
  c6a := by decide +kernel
  c6b := by decide +kernel
  c6c := by decide +kernel
  c7 := by decide +kernel
  c7a := by decide +kernel
  c8 := by decide +kernel
  c9 := by decide +kernel
  cs := by decide +kernel
  cl := by decide +kernel
abbrev pts5 : List (List Int) := [[1], [1, 1], [2], [1, 1, 1], [1, 2], [3], [1, 1, 1, 1], [1, 1, 2], [1, 3], [2, 2], [4], [1, 1, 1, 1, 1], [1, 1, 1, 2], [1, 1, 3], [1, 2, 2], [1, 4], [2, 3], [5]]
theorem chk5 : Chk 5 5 sums5 pts5 where
  c1 := by decide +kernel
  c2 := by decide +kernel
  c3 := by decide +kernel
  c4 := by decide +kernel
  c5 := by decide +kernel
  c6 := by decide +kernel
  c6a := by decide +kernel
  c6b := by decide +kernel
  c6c := by decide +kernel
  c7 := by decide +kernel
  c7a := by decide +kernel
  c8 := by decide +kernel
  c9 := by decide +kernel
  cs := by decide +kernel
  cl := by decide +kernel
theorem plain1 : Plain 1 := plain_of (n := 1) rfl (by decide) slen1 sok1 chk1
theorem plain2 : Plain 2 := plain_of (n := 2) rfl (by decide) slen2 sok2 chk2
theorem plain3 : Plain 3 := plain_of (n := 3) rfl (by decide) slen3 sok3 chk3
theorem plain4 : Plain 4 := plain_of (n := 4) rfl (by decide) slen4 sok4 chk4
theorem plain5 : Plain 5 := plain_of (n := 5) rfl (by decide) slen5 sok5 chk5
theorem plain_all (m : Int) (hm : Pm m) : Plain m := by
  obtain ⟨h1, h2⟩ := hm
  have h : m = 1 ∨ m = 2 ∨ m = 3 ∨ m = 4 ∨ m = 5 := by omega
  rcases h with rfl | rfl | rfl | rfl | rfl
  · exact plain1
  · exact plain2
  · exact plain3
  · exact plain4
  · exact plain5
end K54
open PySem PySem.W PyProof.Rows
set_option maxHeartbeats 0 in
theorem PySem.Challenge.cw_everynext_k54_whole_counts_by_all_charts_holds : PySem.Challenge.rw_everynext_k54_whole_counts_by_all_charts.Holds := by
  w_on; o_law; k_head; (case hw => w_witness2)
  k_fill
  refine K54.walkG (l := PySem.Challenge.rw_everynext_k54_whole_counts_by_all_charts) rfl rfl rfl (fun w h Y => PySem.W.kIn_of Y) K54.plain_all ?F
  case F =>
    intro w mg h KX G
    refine ⟨⟨?a7, ?a8, ?a9, ?a10, ?a11, ?a13, ?a14, ?a15, ?a17, ?a18, ?a19, ?a20, ?a21, ?a22, ?a23, ?a24, ?a25, ?a26, ?a27, ?a28, ?a29, ?a30, ?a31, ?a32, ?a33, ?a35, ?a36, ?a37, ?a38, ?a39, ?a40, ?a41, ?a42, ?a43, ?a44, ?a45, ?a46, ?a47⟩, ⟨?z_range, ?z_len, ?z_set, ?z_sorted, ?z_enumerate, ?z_isinstance, ?z_sum, ?z_all, ?z_max, ?z_min, ?z_repr, ?z_int, ?z_bool, ?z_tuple, ?z_list, ?z_comb, ?z_factorial, ?z_gcd, ?z_most⟩⟩
    case a7 =>
      refine' K54.at_mk KX G ?a ?l ?c ?k
      (case a => k_is); (case l => k_is); (case c => k_is); (case k => k_is)
    case a8 =>
      refine' K54.at_mk KX G ?a ?l ?c ?k
      (case a => k_is); (case l => k_is); (case c => k_is); (case k => k_is)
    case a9 =>
      refine' K54.at_mk KX G ?a ?l ?c ?k
      (case a => k_is); (case l => k_is); (case c => k_is); (case k => k_is)
    case a10 =>
      refine' K54.at_mk KX G ?a ?l ?c ?k
      (case a => k_is); (case l => k_is); (case c => k_is); (case k => k_is)
    case a11 =>
      refine' K54.at_mk KX G ?a ?l ?c ?k
      (case a => k_is); (case l => k_is); (case c => k_is); (case k => k_is)
    case a13 =>
      refine' K54.at_mk KX G ?a ?l ?c ?k
      (case a => k_is); (case l => k_is); (case c => k_is); (case k => k_is)
    case a14 =>
      refine' K54.at_mk KX G ?a ?l ?c ?k
      (case a => k_is); (case l => k_is); (case c => k_is); (case k => k_is)
    case a15 =>
      refine' K54.at_mk KX G ?a ?l ?c ?k
      (case a => k_is); (case l => k_is); (case c => k_is); (case k => k_is)
    case a17 =>
      refine' K54.at_mk KX G ?a ?l ?c ?k
      (case a => k_is); (case l => k_is); (case c => k_is); (case k => k_is)
    case a18 =>
      refine' K54.at_mk KX G ?a ?l ?c ?k
      (case a => k_is); (case l => k_is); (case c => k_is); (case k => k_is)
    case a19 =>
      refine' K54.at_mk KX G ?a ?l ?c ?k
      (case a => k_is); (case l => k_is); (case c => k_is); (case k => k_is)
    case a20 =>
      refine' K54.at_mk KX G ?a ?l ?c ?k
      (case a => k_is); (case l => k_is); (case c => k_is); (case k => k_is)
    case a21 =>
      refine' K54.at_mk KX G ?a ?l ?c ?k
      (case a => k_is); (case l => k_is); (case c => k_is); (case k => k_is)
    case a22 =>
      refine' K54.at_mk KX G ?a ?l ?c ?k
      (case a => k_is); (case l => k_is); (case c => k_is); (case k => k_is)
    case a23 =>
      refine' K54.at_mk KX G ?a ?l ?c ?k
      (case a => k_is); (case l => k_is); (case c => k_is); (case k => k_is)
    case a24 =>
      refine' K54.at_mk KX G ?a ?l ?c ?k
      (case a => k_is); (case l => k_is); (case c => k_is); (case k => k_is)
    case a25 =>
      refine' K54.at_mk KX G ?a ?l ?c ?k
      (case a => k_is); (case l => k_is); (case c => k_is); (case k => k_is)
    case a26 =>
      refine' K54.at_mk KX G ?a ?l ?c ?k
      (case a => k_is); (case l => k_is); (case c => k_is); (case k => k_is)
    case a27 =>
      refine' K54.at_mk KX G ?a ?l ?c ?k
      (case a => k_is); (case l => k_is); (case c => k_is); (case k => k_is)
    case a28 =>
      refine' K54.at_mk KX G ?a ?l ?c ?k
      (case a => k_is); (case l => k_is); (case c => k_is); (case k => k_is)
    case a29 =>
      refine' K54.at_mk KX G ?a ?l ?c ?k
      (case a => k_is); (case l => k_is); (case c => k_is); (case k => k_is)
    case a30 =>
      refine' K54.at_mk KX G ?a ?l ?c ?k
      (case a => k_is); (case l => k_is); (case c => k_is); (case k => k_is)
    case a31 =>
      refine' K54.at_mk KX G ?a ?l ?c ?k
      (case a => k_is); (case l => k_is); (case c => k_is); (case k => k_is)
    case a32 =>
      refine' K54.at_mk KX G ?a ?l ?c ?k
      (case a => k_is); (case l => k_is); (case c => k_is); (case k => k_is)
    case a33 =>
      refine' K54.at_mk KX G ?a ?l ?c ?k
      (case a => k_is); (case l => k_is); (case c => k_is); (case k => k_is)
    case a35 =>
      refine' K54.at_mk KX G ?a ?l ?c ?k
      (case a => k_is); (case l => k_is); (case c => k_is); (case k => k_is)
    case a36 =>
      refine' K54.at_mk KX G ?a ?l ?c ?k
      (case a => k_is); (case l => k_is); (case c => k_is); (case k => k_is)
    case a37 =>
      refine' K54.at_mk KX G ?a ?l ?c ?k
      (case a => k_is); (case l => k_is); (case c => k_is); (case k => k_is)
    case a38 =>
      refine' K54.at_mk KX G ?a ?l ?c ?k
      (case a => k_is); (case l => k_is); (case c => k_is); (case k => k_is)
    case a39 =>
      refine' K54.at_mk KX G ?a ?l ?c ?k
      (case a => k_is); (case l => k_is); (case c => k_is); (case k => k_is)
    case a40 =>
      refine' K54.at_mk KX G ?a ?l ?c ?k
      (case a => k_is); (case l => k_is); (case c => k_is); (case k => k_is)
    case a41 =>
      refine' K54.at_mk KX G ?a ?l ?c ?k
      (case a => k_is); (case l => k_is); (case c => k_is); (case k => k_is)
    case a42 =>
      refine' K54.at_mk KX G ?a ?l ?c ?k
      (case a => k_is); (case l => k_is); (case c => k_is); (case k => k_is)
    case a43 =>
      refine' K54.at_mk KX G ?a ?l ?c ?k
      (case a => k_is); (case l => k_is); (case c => k_is); (case k => k_is)
    case a44 =>
      refine' K54.at_mk KX G ?a ?l ?c ?k
      (case a => k_is); (case l => k_is); (case c => k_is); (case k => k_is)
    case a45 =>
      refine' K54.at_mk KX G ?a ?l ?c ?k
      (case a => k_is); (case l => k_is); (case c => k_is); (case k => k_is)
    case a46 =>
      refine' K54.at_mk KX G ?a ?l ?c ?k
      (case a => k_is); (case l => k_is); (case c => k_is); (case k => k_is)
    case a47 =>
      refine' K54.at_mk KX G ?a ?l ?c ?k
      (case a => k_is); (case l => k_is); (case c => k_is); (case k => k_is)
    case z_range =>
      refine' PySem.W.mg_none_of KX G ?z
      (case z => k_is)
    case z_len =>
      refine' PySem.W.mg_none_of KX G ?z
      (case z => k_is)
    case z_set =>
      refine' PySem.W.mg_none_of KX G ?z
      (case z => k_is)
    case z_sorted =>
      refine' PySem.W.mg_none_of KX G ?z
      (case z => k_is)
    case z_enumerate =>
      refine' PySem.W.mg_none_of KX G ?z
      (case z => k_is)
    case z_isinstance =>
      refine' PySem.W.mg_none_of KX G ?z
      (case z => k_is)
    case z_sum =>
      refine' PySem.W.mg_none_of KX G ?z
      (case z => k_is)
    case z_all =>
      refine' PySem.W.mg_none_of KX G ?z
      (case z => k_is)
    case z_max =>
      refine' PySem.W.mg_none_of KX G ?z
      (case z => k_is)
    case z_min =>
      refine' PySem.W.mg_none_of KX G ?z
      (case z => k_is)
    case z_repr =>
      refine' PySem.W.mg_none_of KX G ?z
      (case z => k_is)
    case z_int =>
      refine' PySem.W.mg_none_of KX G ?z
      (case z => k_is)
    case z_bool =>
      refine' PySem.W.mg_none_of KX G ?z
      (case z => k_is)
    case z_tuple =>
      refine' PySem.W.mg_none_of KX G ?z
      (case z => k_is)
    case z_list =>
      refine' PySem.W.mg_none_of KX G ?z
      (case z => k_is)
    case z_comb =>
      refine' PySem.W.mg_of KX G ?z
      (case z => k_is)
    case z_factorial =>
      refine' PySem.W.mg_of KX G ?z
      (case z => k_is)
    case z_gcd =>
      refine' PySem.W.mg_of KX G ?z
      (case z => k_is)
    case z_most =>
      refine' K54.most_mk KX G ?z
      (case z => k_is)
