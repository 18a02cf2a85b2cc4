import PyProof.Rows.All
import Wide.All
import OpenK.AllK
import Wide.FinOn
import HandS.ForMost
import HandS.Walk
import HandS.Zip
import HandS.TupAny
import HandS.TupMul
import HandS.TupLe
import HandS.Conv
import HandS.IsInst
import HandS.Deep
import HandS.Style
import HandS.SortInts
import HandS.SetFor
import KE.KeyNested
import KE.KDictKeyed
import HandS.More
import HandS.Strs
import HandS.NoneIn
import KE.SortData
import KE.KDictCopyH
import PySem.Challenge.RW_wovenway_k05_whole_fewest_put_elsewhere
set_option Elab.async false
set_option linter.all false
set_option maxRecDepth 100000
set_option maxHeartbeats 2000000
namespace Wv
open PySem PySem.Spec PyProof.Rows L2
/-! ### a heap without what is hidden -/
open Classical in
noncomputable def hid (O : Addr → Prop) (H : Hp) : Hp := fun a => if O a then none else H a
theorem hid_in {O : Addr → Prop} {H : Hp} {a : Addr} (h : O a) : hid O H a = none := by unfold hid; rw [if_pos h]
theorem hid_out {O : Addr → Prop} {H : Hp} {a : Addr} (h : ¬ O a) : hid O H a = H a := by unfold hid; rw [if_neg h]
theorem of_hid {O : Addr → Prop} {H : Hp} {a : Addr} {o : HO} (h : hid O H a = some o) : ¬ O a ∧ H a = some o := by
  by_cases q : O a
  · rw [hid_in q] at h; cases h
  · rw [hid_out q] at h; exact ⟨q, h⟩
theorem hid_le (O : Addr → Prop) (H : Hp) : Same (hid O H) H := fun _ _ h => (of_hid h).2
/-! ### data -/
theorem same_rd {H H' : Hp} {a : Addr} {u : HO} (e : Same H H') (h : Rd H a u) : Rd H' a u := by
  rcases h with h | ⟨o, h⟩
  · exact .inl (e _ _ h)
  · exact .inr ⟨o, e _ _ h⟩
theorem same_l {K : PySem.W.Frag} {H H' : Hp} {a : Addr} {xs : List V} (e : Same H H') (h : SqL K H a xs) : SqL K H' a xs := by
  rcases h with h | h
  · exact .inl (same_rd e h)
  · exact .inr h
theorem same_t {K : PySem.W.Frag} {H H' : Hp} {a : Addr} {xs : List V} (e : Same H H') (h : SqT K H a xs) : SqT K H' a xs := by
  rcases h with h | h
  · exact .inl (same_rd e h)
  · exact .inr h
mutual
inductive Dq (H : Hp) : V → PyData → Prop
  | non : Dq H .non .none
  | bl (b : Bool) : Dq H (.bl b) (.bool b)
  | int (i : Int) : Dq H (.int i) (.int i)
  | str (x : Str) : Dq H (.str x) (.str x)
  | lst {a : Addr} {xs : List V} {ds : List PyData} : H a = some (.lst xs) → DqAll H xs ds → Dq H (.ref a) (.list ds)
  | tup {a : Addr} {xs : List V} {ds : List PyData} : H a = some (.tup xs) → DqAll H xs ds → Dq H (.ref a) (.tuple ds)
inductive DqAll (H : Hp) : List V → List PyData → Prop
  | nil : DqAll H [] []
  | cons {v : V} {vs : List V} {d : PyData} {ds : List PyData} : Dq H v d → DqAll H vs ds → DqAll H (v :: vs) (d :: ds)
end
mutual
theorem dp_mono {H H' : Hp} (e : Same H H') : ∀ {v : V} {d : PyData}, Dq H v d → Dq H' v d
  | _, _, .non => .non
  | _, _, .bl b => .bl b
  | _, _, .int i => .int i
  | _, _, .str x => .str x
  | _, _, .lst h a => .lst (e _ _ h) (dpAll_mono e a)
  | _, _, .tup h a => .tup (e _ _ h) (dpAll_mono e a)
theorem dpAll_mono {H H' : Hp} (e : Same H H') : ∀ {vs : List V} {ds : List PyData}, DqAll H vs ds → DqAll H' vs ds
  | _, _, .nil => .nil
  | _, _, .cons h t => .cons (dp_mono e h) (dpAll_mono e t)
end
mutual
theorem Dq.dp {K : PySem.W.Frag} {H : Hp} : ∀ {v : V} {d : PyData}, Dq H v d → Dp K H v d
  | _, _, .non => .non
  | _, _, .bl b => .bl b
  | _, _, .int i => .int i
  | _, _, .str x => .str x
  | _, _, .lst h a => .lst (SqL.of h) a.dp
  | _, _, .tup h a => .tup (SqT.of h) a.dp
theorem DqAll.dp {K : PySem.W.Frag} {H : Hp} : ∀ {vs : List V} {ds : List PyData}, DqAll H vs ds → DpAll K H vs ds
  | _, _, .nil => .nil
  | _, _, .cons h t => .cons h.dp t.dp
end
theorem dpAll_len {H : Hp} : ∀ {vs : List V} {ds : List PyData}, DqAll H vs ds → vs.length = ds.length
  | _, _, .nil => rfl
  | _, _, .cons _ t => by rw [List.length_cons, List.length_cons, dpAll_len t]
theorem dpAll_get {H : Hp} : ∀ {vs : List V} {ds : List PyData} {i : Nat} {v : V}, DqAll H vs ds → vs[i]? = some v → ∃ d, ds[i]? = some d ∧ Dq H v d
  | _, _, _, _, .nil, e => by simp at e
  | _, _, 0, _, .cons h _, e => by
    simp at e; subst e; exact ⟨_, rfl, h⟩
  | _, _, i + 1, v, .cons _ t, e => by
    obtain ⟨d, h1, h2⟩ := dpAll_get (i := i) (v := v) t (by simpa using e)
    exact ⟨d, by simpa using h1, h2⟩
theorem dpAll_get' {H : Hp} : ∀ {vs : List V} {ds : List PyData} {i : Nat} {d : PyData}, DqAll H vs ds → ds[i]? = some d → ∃ v, vs[i]? = some v ∧ Dq H v d
  | _, _, _, _, .nil, e => by simp at e
  | _, _, 0, _, .cons h _, e => by
    simp at e; subst e; exact ⟨_, rfl, h⟩
  | _, _, i + 1, v, .cons _ t, e => by
    obtain ⟨d, h1, h2⟩ := dpAll_get' (i := i) (d := v) t (by simpa using e)
    exact ⟨d, by simpa using h1, h2⟩
theorem dpAll_append {H : Hp} : ∀ {vs ws : List V} {ds es : List PyData}, DqAll H vs ds → DqAll H ws es → DqAll H (vs ++ ws) (ds ++ es)
  | _, _, _, _, .nil, q => q
  | _, _, _, _, .cons h t, q => .cons h (dpAll_append t q)
theorem dpAll_drop {H : Hp} : ∀ {vs : List V} {ds : List PyData} (n : Nat), DqAll H vs ds → DqAll H (vs.drop n) (ds.drop n)
  | _, _, 0, h => h
  | _, _, _ + 1, .nil => .nil
  | _, _, n + 1, .cons _ t => dpAll_drop n t
theorem dpAll_take {H : Hp} : ∀ {vs : List V} {ds : List PyData} (n : Nat), DqAll H vs ds → DqAll H (vs.take n) (ds.take n)
  | _, _, 0, _ => .nil
  | _, _, _ + 1, .nil => .nil
  | _, _, n + 1, .cons h t => .cons h (dpAll_take n t)
theorem dpAll_reverse {H : Hp} : ∀ {vs : List V} {ds : List PyData}, DqAll H vs ds → DqAll H vs.reverse ds.reverse
  | _, _, .nil => .nil
  | _, _, .cons h t => by
    rw [List.reverse_cons, List.reverse_cons]
    exact dpAll_append (dpAll_reverse t) (.cons h .nil)
theorem dpAll_set {H : Hp} {v : V} {d : PyData} (q : Dq H v d) : ∀ {vs : List V} {ds : List PyData} (n : Nat), DqAll H vs ds → DqAll H (vs.set n v) (ds.set n d)
  | _, _, _, .nil => .nil
  | _, _, 0, .cons _ t => .cons q t
  | _, _, n + 1, .cons h t => .cons h (dpAll_set q n t)
theorem dpAll_erase {H : Hp} : ∀ {vs : List V} {ds : List PyData} (n : Nat), DqAll H vs ds → DqAll H (vs.eraseIdx n) (ds.eraseIdx n)
  | _, _, _, .nil => .nil
  | _, _, 0, .cons _ t => t
  | _, _, n + 1, .cons h t => .cons h (dpAll_erase n t)
theorem dpAll_ints {H : Hp} : ∀ {vs : List V} {ns : List Int}, DqAll H vs (ns.map .int) → vs = ns.map V.int
  | _, [], h => by cases h; rfl
  | _, n :: ns, h => by
    cases h with
    | cons h t => cases h; rw [dpAll_ints t]; rfl
theorem dpAll_bls {H : Hp} : ∀ {vs : List V} {ns : List Bool}, DqAll H vs (ns.map .bool) → vs = ns.map V.bl
  | _, [], h => by cases h; rfl
  | _, n :: ns, h => by
    cases h with
    | cons h t => cases h; rw [dpAll_bls t]; rfl
theorem ints_dpAll {H : Hp} : ∀ (ns : List Int), DqAll H (ns.map V.int) (ns.map .int)
  | [] => .nil
  | n :: ns => .cons (.int n) (ints_dpAll ns)

/-! ### what an expression gives; what stands at a changeable object -/
inductive Res where
  | d (x : PyData)
  | m (k : Nat)
  | v (x : V)
  | o (x : HO)
  | s (ns : List Int)
structure MO where
  rep : PySem.W.Frag → (Addr → Prop) → Hp → Addr → Prop
  mono : ∀ {K O H O' H' a}, rep K O H a → H' a = H a → Same (hid O H) (hid O' H') → rep K O' H' a
def RepR (K : PySem.W.Frag) (O : Addr → Prop) (A : List Addr) (H : Hp) (v : V) : Res → Prop
  | .d x => Dq (hid O H) v x
  | .m k => ∃ a, A[k]? = some a ∧ v = .ref a
  | .v x => v = x
  | .o x => ∃ a, v = .ref a ∧ hid O H a = some x
  | .s ns => ∃ a, v = .ref a ∧ SqL K (hid O H) a (ns.map V.int)
theorem rp_d {K : PySem.W.Frag} {O : Addr → Prop} {A : List Addr} {H : Hp} {v : V} {x : PyData} (h : Dq (hid O H) v x) : RepR K O A H v (.d x) := h
structure WOk (K : PySem.W.Frag) (O : Addr → Prop) (A : List Addr) (H : Hp) (μ : List MO) : Prop where
  len : A.length = μ.length
  nd : A.Nodup
  inO : ∀ a ∈ A, O a
  dom : ∀ a, O a → H a ≠ none
  obj : ∀ (k : Nat) a mo, A[k]? = some a → μ[k]? = some mo → mo.rep K O H a
structure Le (O : Addr → Prop) (A : List Addr) (H : Hp) (O' : Addr → Prop) (A' : List Addr) (H' : Hp) : Prop where
  keep : Same (hid O H) (hid O' H')
  froz : ∀ a, O a → a ∉ A → H' a = H a ∧ O' a
  new : ∀ a ∈ A', a ∈ A ∨ H a = none
  dom : ∀ a, H a ≠ none → H' a ≠ none
theorem Le.refl (O : Addr → Prop) (A : List Addr) (H : Hp) : Le O A H O A H := ⟨Same.refl _, fun _ h _ => ⟨rfl, h⟩, fun _ h => .inl h, fun _ h => h⟩
theorem Le.trans {O O1 O2 : Addr → Prop} {A A1 A2 : List Addr} {H H1 H2 : Hp} (d : ∀ a, O a → H a ≠ none) (p : Le O A H O1 A1 H1) (q : Le O1 A1 H1 O2 A2 H2) : Le O A H O2 A2 H2 where
  keep := p.keep.trans q.keep
  froz := fun a h1 h2 => by
    obtain ⟨e1, o1⟩ := p.froz a h1 h2
    have n1 : a ∉ A1 := fun z => by
      rcases p.new a z with z | z
      · exact h2 z
      · exact d a h1 z
    obtain ⟨e2, o2⟩ := q.froz a o1 n1
    exact ⟨e2.trans e1, o2⟩
  new := fun a h => by
    rcases q.new a h with h | h
    · exact p.new a h
    · refine .inr ?_
      cases e : H a with
      | none => rfl
      | some o => exact absurd h (p.dom a (by rw [e]; exact fun z => nomatch z))
  dom := fun a h => q.dom a (p.dom a h)
theorem RepR.mono {K : PySem.W.Frag} {O O' : Addr → Prop} {A : List Addr} {H H' : Hp} {v : V} {r : Res} (e : Same (hid O H) (hid O' H')) (h : RepR K O A H v r) : RepR K O' A H' v r := by
  cases r with
  | d x => exact dp_mono e h
  | m k => exact h
  | v x => exact h
  | o x =>
    obtain ⟨a, h1, h2⟩ := h
    exact ⟨a, h1, e _ _ h2⟩
  | s ns =>
    obtain ⟨a, h1, h2⟩ := h
    exact ⟨a, h1, same_l e h2⟩
abbrev DSt := List (Option Res)
structure EnvOk (K : PySem.W.Frag) (O : Addr → Prop) (A : List Addr) (H : Hp) (σ : L2.St) (ds : DSt) (μ : List MO) : Prop where
  len : σ.length = ds.length
  var : ∀ (i : Nat) r, ds[i]? = some (some r) → ∃ v, σ[i]? = some (some v) ∧ RepR K O A H v r
  wok : WOk K O A H μ
theorem EnvOk.mono {K : PySem.W.Frag} {O : Addr → Prop} {A : List Addr} {H H' : Hp} {σ : L2.St} {ds : DSt} {μ μ' : List MO} (h : EnvOk K O A H σ ds μ) (e : Same (hid O H) (hid O H')) (w : WOk K O A H' μ') : EnvOk K O A H' σ ds μ' :=
  ⟨h.len, fun i r q => let ⟨v, a, b⟩ := h.var i r q; ⟨v, a, b.mono e⟩, w⟩
theorem EnvOk.set {K : PySem.W.Frag} {O : Addr → Prop} {A : List Addr} {H : Hp} {σ : L2.St} {ds : DSt} {μ : List MO} (h : EnvOk K O A H σ ds μ) (i : Nat) {v : V} {r : Res} (q : RepR K O A H v r) : EnvOk K O A H (σ.set i (some v)) (ds.set i (some r)) μ := by
  refine ⟨by rw [List.length_set, List.length_set, h.len], fun j s e => ?_, h.wok⟩
  by_cases hj : i = j
  · subst hj
    by_cases hi : i < ds.length
    · rw [List.getElem?_set_self hi] at e
      cases e
      exact ⟨v, List.getElem?_set_self (by rw [h.len]; exact hi), q⟩
    · rw [List.getElem?_eq_none (by simpa using hi)] at e
      cases e
  · rw [List.getElem?_set_ne hj] at e ⊢
    exact h.var j s e
/-- a new object, visible -/
theorem fresh_out {K : PySem.W.Frag} {O : Addr → Prop} {A : List Addr} {H : Hp} {μ : List MO} (w : WOk K O A H μ) {p : Addr} (h : H p = none) : ¬ O p := fun z => w.dom p z h
theorem hid_upd {O : Addr → Prop} {H : Hp} {p : Addr} {o : HO} (n : ¬ O p) : hid O (upd H p o) = upd (hid O H) p o := by
  funext b
  by_cases hb : b = p
  · subst hb; rw [hid_out n, upd_same, upd_same]
  · rw [upd_ne hb]
    by_cases q : O b
    · rw [hid_in q, hid_in q]
    · rw [hid_out q, hid_out q, upd_ne hb]
theorem hid_updIn {O : Addr → Prop} {H : Hp} {p : Addr} {o : HO} (n : O p) : hid O (upd H p o) = hid O H := by
  funext b
  by_cases q : O b
  · rw [hid_in q, hid_in q]
  · rw [hid_out q, hid_out q, upd_ne (fun e => q (by rw [e]; exact n))]
theorem same_upd {H : Hp} {p : Addr} {o : HO} (h : H p = none) : Same H (upd H p o) := fun b x e => by
  rw [upd_ne (ne_of_none e h)]
  exact e
theorem hid_none {O : Addr → Prop} {H : Hp} {p : Addr} (h : H p = none) : hid O H p = none := by
  by_cases q : O p
  · exact hid_in q
  · rw [hid_out q]; exact h
theorem Le.laid {K : PySem.W.Frag} {O : Addr → Prop} {A : List Addr} {H : Hp} {μ : List MO} (w : WOk K O A H μ) {p : Addr} {o : HO} (h : H p = none) : Le O A H O A (upd H p o) := by
  have n := fresh_out w h
  refine ⟨by rw [hid_upd n]; exact same_upd (hid_none h), fun a oa _ => ⟨upd_ne (fun e => w.dom a oa (by rw [e]; exact h)), oa⟩, fun _ h => .inl h, fun a ha => ?_⟩
  rw [upd_ne (fun e => ha (by rw [e]; exact h))]; exact ha
theorem WOk.same {K : PySem.W.Frag} {O : Addr → Prop} {A : List Addr} {H H' : Hp} {μ : List MO} (w : WOk K O A H μ) (e : Same (hid O H) (hid O H')) (k : ∀ a, O a → H' a = H a) : WOk K O A H' μ :=
  ⟨w.len, w.nd, w.inO, fun a h => by rw [k a h]; exact w.dom a h, fun i a mo h1 h2 => mo.mono (w.obj i a mo h1 h2) (k a (w.inO a (List.mem_of_getElem? h1))) e⟩
theorem WOk.laid {K : PySem.W.Frag} {O : Addr → Prop} {A : List Addr} {H : Hp} {μ : List MO} (w : WOk K O A H μ) {p : Addr} {o : HO} (h : H p = none) : WOk K O A (upd H p o) μ :=
  w.same (Le.laid w h).keep fun a oa => upd_ne fun e => w.dom a oa (by rw [e]; exact h)
theorem hid_new {O : Addr → Prop} {H : Hp} {p : Addr} {o : HO} (n : ¬ O p) : hid O (upd H p o) p = some o := by rw [hid_out n, upd_same]
/-! ### readings of data -/
def WE (K : PySem.W.Frag) (te : TE) (ds : DSt) (μ : List MO) (P : Res → List MO → Prop) : Prop :=
  ∀ σ O A H, EnvOk K O A H σ ds μ → ∀ Q : VK, (∀ v r μ' H', Le O A H O A H' → WOk K O A H' μ' → RepR K O A H' v r → P r μ' → Q v H') → te σ H Q
def WT (K : PySem.W.Frag) (tt : TT) (ds : DSt) (μ : List MO) (P : Bool → List MO → Prop) : Prop :=
  ∀ σ O A H, EnvOk K O A H σ ds μ → ∀ Q : Bool → Hp → Prop, (∀ b μ' H', Le O A H O A H' → WOk K O A H' μ' → P b μ' → Q b H') → tt σ H Q
inductive RepAll (K : PySem.W.Frag) (O : Addr → Prop) (A : List Addr) (H : Hp) : List V → List Res → Prop
  | nil : RepAll K O A H [] []
  | cons {v : V} {vs : List V} {r : Res} {rs : List Res} : RepR K O A H v r → RepAll K O A H vs rs → RepAll K O A H (v :: vs) (r :: rs)
theorem RepAll.mono {K : PySem.W.Frag} {O O' : Addr → Prop} {A : List Addr} {H H' : Hp} (e : Same (hid O H) (hid O' H')) : ∀ {vs : List V} {rs : List Res}, RepAll K O A H vs rs → RepAll K O' A H' vs rs
  | _, _, .nil => .nil
  | _, _, .cons h t => .cons (h.mono e) (t.mono e)
theorem RepAll.data {K : PySem.W.Frag} {O : Addr → Prop} {A : List Addr} {H : Hp} : ∀ {vs : List V} {ds : List PyData}, RepAll K O A H vs (ds.map .d) → DqAll (hid O H) vs ds
  | _, [], h => by cases h; exact .nil
  | _, d :: ds, h => by
    cases h with
    | cons h t => exact .cons h t.data
def WA (K : PySem.W.Frag) (ta : TA) (ds : DSt) (μ : List MO) (P : List Res → List MO → Prop) : Prop :=
  ∀ σ O A H, EnvOk K O A H σ ds μ → ∀ Q : List V → Hp → Prop, (∀ vs rs μ' H', Le O A H O A H' → WOk K O A H' μ' → RepAll K O A H' vs rs → P rs μ' → Q vs H') → ta σ H Q
/-- operations on values -/
def WR (K : PySem.W.Frag) (f : R2) (a b : Res) (μ : List MO) (P : Res → List MO → Prop) : Prop :=
  ∀ O A H x y, WOk K O A H μ → RepR K O A H x a → RepR K O A H y b → ∀ Q : VK, (∀ v r μ' H', Le O A H O A H' → WOk K O A H' μ' → RepR K O A H' v r → P r μ' → Q v H') → f x y H Q
def WU (K : PySem.W.Frag) (f : V → Hp → VK → Prop) (a : Res) (μ : List MO) (P : Res → List MO → Prop) : Prop :=
  ∀ O A H x, WOk K O A H μ → RepR K O A H x a → ∀ Q : VK, (∀ v r μ' H', Le O A H O A H' → WOk K O A H' μ' → RepR K O A H' v r → P r μ' → Q v H') → f x H Q
def WC (K : PySem.W.Frag) (f : List V → Hp → VK → Prop) (as : List Res) (μ : List MO) (P : Res → List MO → Prop) : Prop :=
  ∀ O A H xs, WOk K O A H μ → RepAll K O A H xs as → ∀ Q : VK, (∀ v r μ' H', Le O A H O A H' → WOk K O A H' μ' → RepR K O A H' v r → P r μ' → Q v H') → f xs H Q
section
variable {K : PySem.W.Frag} {ds : DSt} {μ : List MO} {P : Res → List MO → Prop} {ta tb te : TE} {a b : Res} {t u : TT}
theorem we_var {i : Nat} {r : Res} (h : ds[i]? = some (some r)) (p : P r μ) : WE K (tVar i) ds μ P := fun σ O A H e Q q => by
  obtain ⟨v, h1, h2⟩ := e.var i r h
  exact ⟨v, h1, q v r μ H (.refl O A H) e.wok h2 p⟩
theorem we_int {i : Int} (p : P (.d (.int i)) μ) : WE K (tC (.int i)) ds μ P := fun σ O A H e Q q => q _ _ μ H (.refl O A H) e.wok (rp_d (Dq.int i)) p
theorem we_bl {i : Bool} (p : P (.d (.bool i)) μ) : WE K (tC (.bl i)) ds μ P := fun σ O A H e Q q => q _ _ μ H (.refl O A H) e.wok (rp_d (Dq.bl i)) p
theorem we_str {i : Str} (p : P (.d (.str i)) μ) : WE K (tC (.str i)) ds μ P := fun σ O A H e Q q => q _ _ μ H (.refl O A H) e.wok (rp_d (Dq.str i)) p
theorem we_non (p : P (.d .none) μ) : WE K (tC .non) ds μ P := fun σ O A H e Q q => q _ _ μ H (.refl O A H) e.wok (rp_d Dq.non) p
theorem we_v {x : V} (p : P (.v x) μ) : WE K (tC x) ds μ P := fun σ O A H e Q q => q x (.v x) μ H (.refl O A H) e.wok rfl p
theorem we_imp {P' : Res → List MO → Prop} (h : WE K te ds μ P) (k : ∀ r μ', P r μ' → P' r μ') : WE K te ds μ P' := fun σ O A H e Q q => h σ O A H e Q fun v r μ' H' l w rp p => q v r μ' H' l w rp (k r μ' p)
theorem we_op {f : R2} (h : WE K ta ds μ fun a μ1 => WE K tb ds μ1 fun b μ2 => WR K f a b μ2 P) : WE K (tOp f ta tb) ds μ P := fun σ O A H e Q q =>
  h σ O A H e _ fun x a μ1 H1 l1 w1 r1 h1 => h1 σ O A H1 (e.mono l1.keep w1) _ fun y b μ2 H2 l2 w2 r2 h2 =>
    h2 O A H2 x y w2 (r1.mono l2.keep) r2 Q fun v r μ3 H3 l3 w3 r3 p => q v r μ3 H3 (.trans e.wok.dom l1 (.trans w1.dom l2 l3)) w3 r3 p
theorem we_un {f : V → Hp → VK → Prop} (h : WE K ta ds μ fun a μ1 => WU K f a μ1 P) : WE K (tUn f ta) ds μ P := fun σ O A H e Q q =>
  h σ O A H e _ fun x a μ1 H1 l1 w1 r1 h1 => h1 O A H1 x w1 r1 Q fun v r μ3 H3 l3 w3 r3 p => q v r μ3 H3 (.trans e.wok.dom l1 l3) w3 r3 p
theorem wa_nil {P : List Res → List MO → Prop} (p : P [] μ) : WA K tNil ds μ P := fun σ O A H e Q q => q [] [] μ H (.refl O A H) e.wok .nil p
theorem wa_cons {P : List Res → List MO → Prop} {tr : TA} (h : WE K ta ds μ fun a μ1 => WA K tr ds μ1 fun as μ2 => P (a :: as) μ2) : WA K (tCons ta tr) ds μ P := fun σ O A H e Q q =>
  h σ O A H e _ fun x a μ1 H1 l1 w1 r1 h1 => h1 σ O A H1 (e.mono l1.keep w1) _ fun ys bs μ2 H2 l2 w2 r2 p => q (x :: ys) (a :: bs) μ2 H2 (.trans e.wok.dom l1 l2) w2 (.cons (r1.mono l2.keep) r2) p
theorem we_cb {f : List V → Hp → VK → Prop} {tr : TA} (h : WA K tr ds μ fun as μ1 => WC K f as μ1 P) : WE K (tCB f tr) ds μ P := fun σ O A H e Q q =>
  h σ O A H e _ fun xs as μ1 H1 l1 w1 r1 h1 => h1 O A H1 xs w1 r1 Q fun v r μ3 H3 l3 w3 r3 p => q v r μ3 H3 (.trans e.wok.dom l1 l3) w3 r3 p
theorem we_tup {tr : TA} (h : WA K tr ds μ fun as μ1 => ∃ xs : List PyData, as = xs.map .d ∧ xs.length ≤ sizeLine ∧ P (.d (.tuple xs)) μ1) : WE K (tTup tr) ds μ P := fun σ O A H e Q q =>
  h σ O A H e _ fun vs as μ1 H1 l1 w1 r1 h1 => by
    obtain ⟨xs, rfl, hl, p⟩ := h1
    have hd := r1.data
    refine ⟨by rw [dpAll_len hd]; exact hl, fun p' hp => ?_⟩
    have n := fresh_out w1 hp
    have l2 : Le O A H1 O A (upd H1 p' (.tup vs)) := Le.laid w1 hp
    exact q _ _ μ1 _ (.trans e.wok.dom l1 l2) (w1.laid hp) (rp_d (Dq.tup (hid_new n) (dpAll_mono l2.keep hd))) p
theorem we_lst {tr : TA} (h : WA K tr ds μ fun as μ1 => ∃ xs : List PyData, as = xs.map .d ∧ xs.length ≤ sizeLine ∧ P (.d (.list xs)) μ1) : WE K (tLst tr) ds μ P := fun σ O A H e Q q =>
  h σ O A H e _ fun vs as μ1 H1 l1 w1 r1 h1 => by
    obtain ⟨xs, rfl, hl, p⟩ := h1
    have hd := r1.data
    refine ⟨by rw [dpAll_len hd]; exact hl, fun p' hp => ?_⟩
    have n := fresh_out w1 hp
    have l2 : Le O A H1 O A (upd H1 p' (.lst vs)) := Le.laid w1 hp
    exact q _ _ μ1 _ (.trans e.wok.dom l1 l2) (w1.laid hp) (rp_d (Dq.lst (hid_new n) (dpAll_mono l2.keep hd))) p
/-! tests -/
theorem wt_test {P : Bool → List MO → Prop} (h : WE K te ds μ fun r μ1 => ∃ b, r = .d (.bool b) ∧ P b μ1) : WT K (tTest te) ds μ P := fun σ O A H e Q q =>
  h σ O A H e _ fun x a μ1 H1 l1 w1 r1 h1 => by
    obtain ⟨b, rfl, p⟩ := h1
    cases r1
    exact ⟨b, rfl, q b μ1 H1 l1 w1 p⟩
theorem wt_B {P : Bool → List MO → Prop} (h : WE K te ds μ fun r μ1 => ∃ b, r = .d (.bool b) ∧ P b μ1) : WT K (tB te) ds μ P := fun σ O A H e Q q =>
  h σ O A H e _ fun x a μ1 H1 l1 w1 r1 h1 => by
    obtain ⟨b, rfl, p⟩ := h1
    cases r1
    exact ⟨b, rfl, q b μ1 H1 l1 w1 p⟩
theorem wt_and {P : Bool → List MO → Prop} (h : WT K t ds μ fun b μ1 => (b = true → WT K u ds μ1 P) ∧ (b = false → P false μ1)) : WT K (tAnd t u) ds μ P := fun σ O A H e Q q =>
  h σ O A H e _ fun b μ1 H1 l1 w1 h1 => by
    cases b with
    | true => exact (h1.1 rfl) σ O A H1 (e.mono l1.keep w1) Q fun b μ2 H2 l2 w2 p => q b μ2 H2 (.trans e.wok.dom l1 l2) w2 p
    | false => exact q false μ1 H1 l1 w1 (h1.2 rfl)
theorem wt_or {P : Bool → List MO → Prop} (h : WT K t ds μ fun b μ1 => (b = true → P true μ1) ∧ (b = false → WT K u ds μ1 P)) : WT K (tOr t u) ds μ P := fun σ O A H e Q q =>
  h σ O A H e _ fun b μ1 H1 l1 w1 h1 => by
    cases b with
    | false => exact (h1.2 rfl) σ O A H1 (e.mono l1.keep w1) Q fun b μ2 H2 l2 w2 p => q b μ2 H2 (.trans e.wok.dom l1 l2) w2 p
    | true => exact q true μ1 H1 l1 w1 (h1.1 rfl)
theorem wt_not {P : Bool → List MO → Prop} (h : WT K t ds μ fun b μ1 => P (!b) μ1) : WT K (tNot t) ds μ P := fun σ O A H e Q q =>
  h σ O A H e _ fun b μ1 H1 l1 w1 p => q (!b) μ1 H1 l1 w1 p
theorem we_andV (h : WE K ta ds μ fun r μ1 => ∃ b, r = .d (.bool b) ∧ (b = true → WE K tb ds μ1 P) ∧ (b = false → P (.d (.bool false)) μ1)) : WE K (tAndV ta tb) ds μ P := fun σ O A H e Q q =>
  h σ O A H e _ fun x a μ1 H1 l1 w1 r1 h1 => by
    obtain ⟨b, rfl, h2, h3⟩ := h1
    cases r1
    refine ⟨b, rfl, ?_⟩
    cases b with
    | true => exact (h2 rfl) σ O A H1 (e.mono l1.keep w1) Q fun v r μ2 H2 l2 w2 rp p => q v r μ2 H2 (.trans e.wok.dom l1 l2) w2 rp p
    | false => exact q _ _ μ1 H1 l1 w1 (rp_d (Dq.bl false)) (h3 rfl)
theorem we_orV (h : WE K ta ds μ fun r μ1 => ∃ b, r = .d (.bool b) ∧ (b = true → P (.d (.bool true)) μ1) ∧ (b = false → WE K tb ds μ1 P)) : WE K (tOrV ta tb) ds μ P := fun σ O A H e Q q =>
  h σ O A H e _ fun x a μ1 H1 l1 w1 r1 h1 => by
    obtain ⟨b, rfl, h2, h3⟩ := h1
    cases r1
    refine ⟨b, rfl, ?_⟩
    cases b with
    | false => exact (h3 rfl) σ O A H1 (e.mono l1.keep w1) Q fun v r μ2 H2 l2 w2 rp p => q v r μ2 H2 (.trans e.wok.dom l1 l2) w2 rp p
    | true => exact q _ _ μ1 H1 l1 w1 (rp_d (Dq.bl true)) (h2 rfl)
theorem we_notV (h : WE K ta ds μ fun r μ1 => ∃ b, r = .d (.bool b) ∧ P (.d (.bool (!b))) μ1) : WE K (tNotV ta) ds μ P := fun σ O A H e Q q =>
  h σ O A H e _ fun x a μ1 H1 l1 w1 r1 h1 => by
    obtain ⟨b, rfl, p⟩ := h1
    cases r1
    exact ⟨b, rfl, q _ _ μ1 H1 l1 w1 (rp_d (Dq.bl (!b))) p⟩
theorem we_if (h : WT K t ds μ fun b μ1 => (b = true → WE K ta ds μ1 P) ∧ (b = false → WE K tb ds μ1 P)) : WE K (tIf t ta tb) ds μ P := fun σ O A H e Q q =>
  h σ O A H e _ fun b μ1 H1 l1 w1 h1 => by
    cases b with
    | true => exact (h1.1 rfl) σ O A H1 (e.mono l1.keep w1) Q fun v r μ2 H2 l2 w2 rp p => q v r μ2 H2 (.trans e.wok.dom l1 l2) w2 rp p
    | false => exact (h1.2 rfl) σ O A H1 (e.mono l1.keep w1) Q fun v r μ2 H2 l2 w2 rp p => q v r μ2 H2 (.trans e.wok.dom l1 l2) w2 rp p
/-! operations on ints -/
theorem wr_i0 {f : Int → Int → Int} {i j : Int} (p : P (.d (.int (f i j))) μ) : WR K (rI0 fun i j => .int (f i j)) (.d (.int i)) (.d (.int j)) μ P := fun O A H x y w hx hy Q q => by
  cases hx; cases hy
  exact ⟨i, j, rfl, rfl, q _ _ μ H (.refl O A H) w (rp_d (Dq.int _)) p⟩
theorem wr_b0 {f : Int → Int → Bool} {i j : Int} (p : P (.d (.bool (f i j))) μ) : WR K (rI0 fun i j => .bl (f i j)) (.d (.int i)) (.d (.int j)) μ P := fun O A H x y w hx hy Q q => by
  cases hx; cases hy
  exact ⟨i, j, rfl, rfl, q _ _ μ H (.refl O A H) w (rp_d (Dq.bl _)) p⟩
theorem wr_i {C : Int → Int → Prop} {f : Int → Int → Int} {i j : Int} (c : C i j) (p : P (.d (.int (f i j))) μ) : WR K (rI C fun i j => .int (f i j)) (.d (.int i)) (.d (.int j)) μ P := fun O A H x y w hx hy Q q => by
  cases hx; cases hy
  exact ⟨i, j, rfl, rfl, c, q _ _ μ H (.refl O A H) w (rp_d (Dq.int _)) p⟩
theorem wu_neg {i : Int} (p : P (.d (.int (-i))) μ) : WU K (rU fun i => .int (-i)) (.d (.int i)) μ P := fun O A H x w hx Q q => by
  cases hx
  exact ⟨i, rfl, q _ _ μ H (.refl O A H) w (rp_d (Dq.int _)) p⟩
theorem wr_eqD {d e : PyData} (s1 : SeqAt.shaped d = true) (s2 : SeqAt.shaped e = true) (p : P (.d (.bool (PyData.eqv d e))) μ) : WR K (rEqD K) (.d d) (.d e) μ P := fun O A H x y w hx hy Q q =>
  ⟨d, e, (dp_mono (hid_le O H) hx).dp, (dp_mono (hid_le O H) hy).dp, s1, s2, q _ _ μ H (.refl O A H) w (rp_d (Dq.bl _)) p⟩
theorem wr_neD {d e : PyData} (s1 : SeqAt.shaped d = true) (s2 : SeqAt.shaped e = true) (p : P (.d (.bool (!PyData.eqv d e))) μ) : WR K (rNeD K) (.d d) (.d e) μ P := fun O A H x y w hx hy Q q =>
  ⟨d, e, (dp_mono (hid_le O H) hx).dp, (dp_mono (hid_le O H) hy).dp, s1, s2, q _ _ μ H (.refl O A H) w (rp_d (Dq.bl _)) p⟩
end
end Wv

set_option Elab.async false
set_option linter.all false
set_option maxRecDepth 100000
set_option maxHeartbeats 2000000
namespace Wv
open PySem PySem.Spec PyProof.Rows L2
/-! ### changeable lists -/
def MO.lst (xs : List PyData) : MO := ⟨fun K O H a => xs.length ≤ sizeLine ∧ ∃ vs, H a = some (.lst vs) ∧ DqAll (hid O H) vs xs, fun h e s => let ⟨z, vs, h1, h2⟩ := h; ⟨z, vs, e.trans h1, dpAll_mono s h2⟩⟩
def MO.ex {ι : Type} (f : ι → MO) : MO := ⟨fun K O H a => ∃ i, (f i).rep K O H a, fun h e s => let ⟨i, h⟩ := h; ⟨i, (f i).mono h e s⟩⟩
def MO.when (c : Prop) (m : MO) : MO := ⟨fun K O H a => c ∧ m.rep K O H a, fun h e s => ⟨h.1, m.mono h.2 e s⟩⟩
def MO.Imp (m m' : MO) : Prop := ∀ K O H a, m.rep K O H a → m'.rep K O H a
theorem MO.Imp.refl (m : MO) : m.Imp m := fun _ _ _ _ h => h
/-- may be read as -/
inductive RdAs (μ : List MO) : Res → PyData → Prop
  | d (x : PyData) : RdAs μ (.d x) x
  | m {k : Nat} {xs : List PyData} : μ[k]? = some (MO.lst xs) → RdAs μ (.m k) (.list xs)
section
variable {K : PySem.W.Frag} {O : Addr → Prop} {A : List Addr} {H : Hp} {μ : List MO}
theorem WOk.at (w : WOk K O A H μ) {k : Nat} {mo : MO} (h : μ[k]? = some mo) : ∃ a, A[k]? = some a ∧ O a ∧ mo.rep K O H a := by
  have hk : k < A.length := by rw [w.len]; exact (List.getElem?_eq_some_iff.mp h).1
  have e : A[k]? = some A[k] := List.getElem?_eq_getElem hk
  exact ⟨A[k], e, w.inO _ (List.mem_of_getElem? e), w.obj k _ mo e h⟩
theorem RdAs.dp {r : Res} {d : PyData} {v : V} (h : RdAs μ r d) (w : WOk K O A H μ) (q : RepR K O A H v r) : Dq H v d := by
  cases h with
  | d x => exact dp_mono (hid_le O H) q
  | m h =>
    obtain ⟨a, e, _, z, vs, h1, h2⟩ := w.at h
    obtain ⟨b, e', rfl⟩ := q
    rw [e] at e'; cases e'
    exact .lst h1 (dpAll_mono (hid_le O H) h2)
theorem nodup_ixA {α : Type} {l : List α} (hN : l.Nodup) {i j : Nat} {x : α} (a : l[i]? = some x) (b : l[j]? = some x) : i = j := by
  obtain ⟨h1, e1⟩ := List.getElem?_eq_some_iff.mp a
  obtain ⟨h2, e2⟩ := List.getElem?_eq_some_iff.mp b
  exact (List.getElem_inj hN).mp (e1.trans e2.symm)
/-- a changeable object written -/
theorem WOk.write (w : WOk K O A H μ) {k : Nat} {a : Addr} {mo : MO} {o : HO} (ha : A[k]? = some a) (new : mo.rep K O (upd H a o) a) : WOk K O A (upd H a o) (μ.set k mo) ∧ Le O A H O A (upd H a o) := by
  have hm : a ∈ A := List.mem_of_getElem? ha
  have ho := w.inO a hm
  have e := hid_updIn (H := H) (o := o) ho
  have hk : k < A.length := (List.getElem?_eq_some_iff.mp ha).1
  refine ⟨⟨by rw [List.length_set]; exact w.len, w.nd, w.inO, fun b hb => ?_, fun j b m h1 h2 => ?_⟩, ⟨by rw [e]; exact Same.refl _, fun b hb nb => ⟨upd_ne fun z => nb (by rw [z]; exact hm), hb⟩, fun _ h => .inl h, fun b hb => ?_⟩⟩
  · by_cases hba : b = a
    · rw [hba, upd_same]; exact fun z => nomatch z
    · rw [upd_ne hba]; exact w.dom b hb
  · by_cases hj : k = j
    · subst hj
      rw [ha] at h1; cases h1
      rw [List.getElem?_set_self (by rw [← w.len]; exact hk)] at h2
      cases h2
      exact new
    · rw [List.getElem?_set_ne hj] at h2
      have nb : b ≠ a := fun z => hj (nodup_ixA w.nd ha (z ▸ h1))
      exact m.mono (w.obj j b m h1 h2) (upd_ne nb) (by rw [e]; exact Same.refl _)
  · by_cases hba : b = a
    · rw [hba, upd_same]; exact fun z => nomatch z
    · rw [upd_ne hba]; exact hb
theorem WOk.weak (w : WOk K O A H μ) {k : Nat} {m m' : MO} (h : μ[k]? = some m) (i : m.Imp m') : WOk K O A H (μ.set k m') := by
  refine ⟨by rw [List.length_set]; exact w.len, w.nd, w.inO, w.dom, fun j b n h1 h2 => ?_⟩
  by_cases hj : k = j
  · subst hj
    rw [List.getElem?_set_self (List.getElem?_eq_some_iff.mp h).1] at h2
    cases h2
    exact i _ _ _ _ (w.obj k b m h1 h)
  · rw [List.getElem?_set_ne hj] at h2
    exact w.obj j b n h1 h2
theorem WOk.open (w : WOk K O A H μ) {k : Nat} {ι : Type} {f : ι → MO} (h : μ[k]? = some (MO.ex f)) : ∃ i, WOk K O A H (μ.set k (f i)) := by
  obtain ⟨a, e, _, i, hi⟩ := w.at h
  refine ⟨i, by rw [List.length_set]; exact w.len, w.nd, w.inO, w.dom, fun j b n h1 h2 => ?_⟩
  by_cases hj : k = j
  · subst hj
    rw [List.getElem?_set_self (List.getElem?_eq_some_iff.mp h).1] at h2
    cases h2
    rw [e] at h1; cases h1
    exact hi
  · rw [List.getElem?_set_ne hj] at h2
    exact w.obj j b n h1 h2
end
/-! ### statements -/
structure DEnds where
  nx : DSt → List MO → Prop
  rt : Res → List MO → Prop
  bk : DSt → List MO → Prop := fun _ _ => False
  ct : DSt → List MO → Prop := fun _ _ => False
  rn : List PyData → List MO → Prop := fun _ _ => False
structure LeN (n : Nat) (O : Addr → Prop) (A : List Addr) (H : Hp) (O' : Addr → Prop) (A' : List Addr) (H' : Hp) : Prop where
  le : Le O A H O' A' H'
  pre : A'.take n = A.take n
theorem LeN.refl (n : Nat) (O : Addr → Prop) (A : List Addr) (H : Hp) : LeN n O A H O A H := ⟨.refl O A H, rfl⟩
theorem LeN.of {n : Nat} {O O' : Addr → Prop} {A : List Addr} {H H' : Hp} (l : Le O A H O' A H') : LeN n O A H O' A H' := ⟨l, rfl⟩
theorem LeN.trans {n : Nat} {O O1 O2 : Addr → Prop} {A A1 A2 : List Addr} {H H1 H2 : Hp} (d : ∀ a, O a → H a ≠ none) (p : LeN n O A H O1 A1 H1) (q : LeN n O1 A1 H1 O2 A2 H2) : LeN n O A H O2 A2 H2 :=
  ⟨.trans d p.le q.le, q.pre.trans p.pre⟩
/-- one more hidden -/
def orA (O : Addr → Prop) (p : Addr) : Addr → Prop := fun b => O b ∨ b = p
theorem none_back {H H' : Hp} (d : ∀ a, H a ≠ none → H' a ≠ none) {p : Addr} (h : H' p = none) : H p = none := by
  cases e : H p with
  | none => rfl
  | some o => exact absurd h (d p (by rw [e]; exact fun z => nomatch z))
structure EndsOk (K : PySem.W.Frag) (n : Nat) (D : DEnds) (E : Ends) (O : Addr → Prop) (A : List Addr) (H : Hp) : Prop where
  nx : ∀ σ' O' A' H' ds' μ', LeN n O A H O' A' H' → EnvOk K O' A' H' σ' ds' μ' → D.nx ds' μ' → E.nx σ' H'
  rt : ∀ v r O' A' H' μ', LeN n O A H O' A' H' → WOk K O' A' H' μ' → RepR K O' A' H' v r → D.rt r μ' → E.rt v H'
  bk : ∀ σ' O' A' H' ds' μ', LeN n O A H O' A' H' → EnvOk K O' A' H' σ' ds' μ' → D.bk ds' μ' → E.bk σ' H'
  ct : ∀ σ' O' A' H' ds' μ', LeN n O A H O' A' H' → EnvOk K O' A' H' σ' ds' μ' → D.ct ds' μ' → E.ct σ' H'
  rn : ∀ p vs xs O' A' H' μ', LeN n O A H O' A' H' → H p = none → WOk K (orA O' p) A' H' μ' → H' p = some (.lst vs) → DqAll (hid (orA O' p) H') vs xs → xs.length ≤ sizeLine → D.rn xs μ' → E.rt (.ref p) H'
theorem EndsOk.mono {K : PySem.W.Frag} {n : Nat} {D : DEnds} {E : Ends} {O O' : Addr → Prop} {A A' : List Addr} {H H' : Hp} (e : EndsOk K n D E O A H) (d : ∀ a, O a → H a ≠ none) (l : LeN n O A H O' A' H') : EndsOk K n D E O' A' H' :=
  ⟨fun σ1 O1 A1 H1 ds1 μ1 q => e.nx σ1 O1 A1 H1 ds1 μ1 (.trans d l q), fun v r O1 A1 H1 μ1 q => e.rt v r O1 A1 H1 μ1 (.trans d l q), fun σ1 O1 A1 H1 ds1 μ1 q => e.bk σ1 O1 A1 H1 ds1 μ1 (.trans d l q), fun σ1 O1 A1 H1 ds1 μ1 q => e.ct σ1 O1 A1 H1 ds1 μ1 (.trans d l q), fun p vs xs O1 A1 H1 μ1 q np => e.rn p vs xs O1 A1 H1 μ1 (.trans d l q) (none_back l.le.dom np)⟩
def SX (K : PySem.W.Frag) (n : Nat) (t : TS) (D : DEnds) (ds : DSt) (μ : List MO) : Prop := ∀ σ O A H (E : Ends), EnvOk K O A H σ ds μ → EndsOk K n D E O A H → t E σ H
/-- a target takes data -/
def WG (K : PySem.W.Frag) (g : TG) (d : PyData) (ds : DSt) (μ : List MO) (P : DSt → Prop) : Prop :=
  ∀ σ O A H v, EnvOk K O A H σ ds μ → Dq (hid O H) v d → ∀ Q : L2.St → Hp → Prop, (∀ σ' ds', EnvOk K O A H σ' ds' μ → P ds' → Q σ' H) → g v σ H Q
def WGs (K : PySem.W.Frag) (g : TGs) (d : List PyData) (ds : DSt) (μ : List MO) (P : DSt → Prop) : Prop :=
  ∀ σ O A H vs, EnvOk K O A H σ ds μ → DqAll (hid O H) vs d → ∀ Q : L2.St → Hp → Prop, (∀ σ' ds', EnvOk K O A H σ' ds' μ → P ds' → Q σ' H) → g vs σ H Q
/-- a new list -/
def WN (K : PySem.W.Frag) (te : TE) (ds : DSt) (μ : List MO) (P : List PyData → List MO → Prop) : Prop :=
  ∀ σ O A H, EnvOk K O A H σ ds μ → ∀ Q : VK, (∀ p vs xs μ' H', Le O A H O A H' → WOk K (orA O p) A H' μ' → H p = none → H' p = some (.lst vs) → DqAll (hid (orA O p) H') vs xs → xs.length ≤ sizeLine → P xs μ' → Q (.ref p) H') → te σ H Q
section
variable {K : PySem.W.Frag} {n : Nat} {ds : DSt} {μ : List MO} {D : DEnds} {t u : TS} {te ta tb : TE} {tt : TT}
theorem sx_seq (h : SX K n t { D with nx := fun ds' μ' => SX K n u D ds' μ' } ds μ) : SX K n (tSeq t u) D ds μ := fun σ O A H E e q =>
  h σ O A H { E with nx := u E } e ⟨fun σ' O' A' H' ds' μ' l e' k => k σ' O' A' H' E e' (q.mono e.wok.dom l), q.rt, q.bk, q.ct, q.rn⟩
theorem sx_next (h : D.nx ds μ) : SX K n tNext D ds μ := fun σ O A H E e q => q.nx σ O A H ds μ (.refl n O A H) e h
theorem sx_break (h : D.bk ds μ) : SX K n tBreak D ds μ := fun σ O A H E e q => q.bk σ O A H ds μ (.refl n O A H) e h
theorem sx_cont (h : D.ct ds μ) : SX K n tCont D ds μ := fun σ O A H E e q => q.ct σ O A H ds μ (.refl n O A H) e h
theorem sx_never (h : False) : SX K n tNever D ds μ := h.elim
theorem sx_ret (h : WE K te ds μ D.rt) : SX K n (tRet te) D ds μ := fun σ O A H E e q =>
  h σ O A H e _ fun v r μ1 H1 l w rp p => q.rt v r O A H1 μ1 (.of l) w rp p
theorem sx_retW (h : WN K te ds μ D.rn) : SX K n (tRet te) D ds μ := fun σ O A H E e q =>
  h σ O A H e _ fun p vs xs μ1 H1 l w np hp hd hz k => q.rn p vs xs O A H1 μ1 (.of l) np w hp hd hz k
theorem sx_retN (h : D.rt (.d .none) μ) : SX K n tRetN D ds μ := fun σ O A H E e q => q.rt .non (.d .none) O A H μ (.refl n O A H) e.wok (rp_d Dq.non) h
theorem sx_drop (h : WE K te ds μ fun _ μ' => D.nx ds μ') : SX K n (tDrop te) D ds μ := fun σ O A H E e q =>
  h σ O A H e _ fun v r μ1 H1 l w rp p => q.nx σ O A H1 ds μ1 (.of l) (e.mono l.keep w) p
theorem sx_if (h : WT K tt ds μ fun b μ' => (b = true → SX K n t D ds μ') ∧ (b = false → SX K n u D ds μ')) : SX K n (tIfS tt t u) D ds μ := fun σ O A H E e q =>
  h σ O A H e _ fun b μ1 H1 l w p => by
    cases b with
    | true => exact p.1 rfl σ O A H1 E (e.mono l.keep w) (q.mono e.wok.dom (.of l))
    | false => exact p.2 rfl σ O A H1 E (e.mono l.keep w) (q.mono e.wok.dom (.of l))
theorem sx_asg {i : Nat} (h : WE K te ds μ fun r μ' => D.nx (ds.set i (some r)) μ') : SX K n (tAsg te (gName i)) D ds μ := fun σ O A H E e q =>
  h σ O A H e _ fun v r μ1 H1 l w rp p => q.nx _ O A H1 _ μ1 (.of l) ((e.mono l.keep w).set i rp) p
theorem sx_asgG {g : TG} (h : WE K te ds μ fun r μ' => ∃ d, r = .d d ∧ WG K g d ds μ' fun ds' => D.nx ds' μ') : SX K n (tAsg te g) D ds μ := fun σ O A H E e q =>
  h σ O A H e _ fun v r μ1 H1 l w rp p => by
    obtain ⟨d, rfl, p⟩ := p
    exact p σ O A H1 v (e.mono l.keep w) rp _ fun σ' ds' e' p' => q.nx σ' O A H1 ds' μ1 (.of l) e' p'
theorem sx_par {ta : TA} {i j : Nat} (h : WA K ta ds μ fun rs μ' => ∃ a b, rs = [a, b] ∧ D.nx ((ds.set i (some a)).set j (some b)) μ') : SX K n (tPar i j ta) D ds μ := fun σ O A H E e q =>
  h σ O A H e _ fun vs rs μ1 H1 l w rp p => by
    obtain ⟨a, b, rfl, p⟩ := p
    cases rp with
    | cons r1 rp =>
      cases rp with
      | cons r2 rp =>
        cases rp
        exact ⟨_, _, rfl, q.nx _ O A H1 _ μ1 (.of l) (((e.mono l.keep w).set i r1).set j r2) p⟩
theorem wg_name {d : PyData} {i : Nat} {P : DSt → Prop} (h : P (ds.set i (some (.d d)))) : WG K (gName i) d ds μ P := fun σ O A H v e r Q q => q _ _ (e.set i (rp_d r)) h
theorem wgs_nil {P : DSt → Prop} (h : P ds) : WGs K gNil [] ds μ P := fun σ O A H vs e r Q q => by
  cases r
  exact ⟨rfl, q _ _ e h⟩
theorem wgs_cons {g : TG} {gs : TGs} {d : PyData} {xs : List PyData} {P : DSt → Prop} (h : WG K g d ds μ fun ds' => WGs K gs xs ds' μ P) : WGs K (gCons g gs) (d :: xs) ds μ P := fun σ O A H vs e r Q q => by
  cases r with
  | cons r1 rr => exact ⟨_, _, rfl, h σ O A H _ e r1 _ fun σ' ds' e' h' => h' σ' O A H _ e' rr Q q⟩
theorem wg_tup {gs : TGs} {k : Nat} {xs : List PyData} {P : DSt → Prop} (hl : xs.length = k) (h : WGs K gs xs ds μ P) : WG K (gTup K k gs) (.tuple xs) ds μ P := fun σ O A H v e r Q q => by
  cases r with
  | tup h1 h2 => exact ⟨_, _, rfl, SqT.of (hid_le O H _ _ h1), by rw [dpAll_len h2]; exact hl, h σ O A H _ e h2 Q q⟩
theorem wg_tupL {gs : TGs} {k : Nat} {xs : List PyData} {P : DSt → Prop} (hl : xs.length = k) (h : WGs K gs xs ds μ P) : WG K (gTup K k gs) (.tuple xs) ds μ P := wg_tup hl h
/-- a new list becomes a changeable object -/
theorem WOk.push {O : Addr → Prop} {A : List Addr} {H : Hp} {p : Addr} {mo : MO} (w : WOk K (orA O p) A H μ) (hp : p ∉ A) (hn : H p ≠ none) (new : mo.rep K (orA O p) H p) : WOk K (orA O p) (A ++ [p]) H (μ ++ [mo]) := by
  refine ⟨by rw [List.length_append, List.length_append, w.len]; rfl, ?_, fun a ha => ?_, w.dom, fun j a m h1 h2 => ?_⟩
  · rw [List.nodup_append]
    exact ⟨w.nd, List.nodup_cons.mpr ⟨by simp, List.nodup_nil⟩, fun a ha b hb => by
      have e : b = p := by simpa using hb
      rw [e]
      exact fun z => hp (z ▸ ha)⟩
  · rcases List.mem_append.mp ha with ha | ha
    · exact w.inO a ha
    · exact .inr (by simpa using ha)
  · by_cases hj : j < A.length
    · rw [List.getElem?_append_left hj] at h1
      rw [List.getElem?_append_left (by rw [← w.len]; exact hj)] at h2
      exact w.obj j a m h1 h2
    · rw [List.getElem?_append_right (by omega)] at h1
      rw [List.getElem?_append_right (by rw [← w.len]; omega), ← w.len] at h2
      have e0 : j - A.length = 0 := by
        have := (List.getElem?_eq_some_iff.mp h1).1
        simp at this
        omega
      rw [e0] at h1 h2
      cases h1; cases h2
      exact new
theorem same_or {O : Addr → Prop} {A A' : List Addr} {H H1 : Hp} {p : Addr} (l : Le O A H O A' H1) (np : H p = none) : Same (hid O H) (hid (orA O p) H1) := fun b o hb => by
  obtain ⟨h1, h2⟩ := of_hid hb
  have nb : b ≠ p := ne_of_none h2 np
  have h3 := l.keep b o hb
  rw [hid_out h1] at h3
  rw [hid_out (fun z => z.elim h1 nb)]
  exact h3
theorem RepR.more {O O' : Addr → Prop} {A : List Addr} {H H' : Hp} {v : V} {r : Res} {B : List Addr} (e : Same (hid O H) (hid O' H')) (h : RepR K O A H v r) : RepR K O' (A ++ B) H' v r := by
  cases r with
  | d x => exact dp_mono e h
  | m k =>
    obtain ⟨a, e1, e2⟩ := h
    exact ⟨a, by rw [List.getElem?_append_left (List.getElem?_eq_some_iff.mp e1).1]; exact e1, e2⟩
  | v x => exact h
  | o x =>
    obtain ⟨a, e1, e2⟩ := h
    exact ⟨a, e1, e _ _ e2⟩
  | s ns =>
    obtain ⟨a, e1, e2⟩ := h
    exact ⟨a, e1, same_l e e2⟩
theorem sx_asgM {i : Nat} (hn : n ≤ μ.length) (h : WN K te ds μ fun xs μ' => ∃ mo, (MO.lst xs).Imp mo ∧ D.nx (ds.set i (some (.m μ.length))) (μ' ++ [mo])) : SX K n (tAsg te (gName i)) D ds μ := fun σ O A H E e q =>
  h σ O A H e _ fun p vs xs μ1 H1 l w np hp hd hz P => by
    obtain ⟨mo, im, k⟩ := P
    have s1 := same_or l np
    have npA : p ∉ A := fun z => e.wok.dom p (e.wok.inO p z) np
    have w2 : WOk K (orA O p) (A ++ [p]) H1 (μ1 ++ [mo]) := w.push npA (by rw [hp]; exact fun z => nomatch z) (im _ _ _ _ ⟨hz, vs, hp, hd⟩)
    have hA : A.length = μ.length := e.wok.len
    refine q.nx _ _ _ H1 _ _ ⟨⟨s1, fun a oa na => ⟨(l.froz a oa na).1, .inl oa⟩, fun a ha => ?_, l.dom⟩, ?_⟩ ⟨?_, fun j r hj => ?_, w2⟩ k
    · rcases List.mem_append.mp ha with ha | ha
      · exact .inl ha
      · exact .inr (by rw [show a = p by simpa using ha]; exact np)
    · rw [List.take_append_of_le_length (by rw [hA]; exact hn)]
    · rw [List.length_set, List.length_set, e.len]
    · by_cases hij : i = j
      · subst hij
        by_cases hi : i < ds.length
        · rw [List.getElem?_set_self hi] at hj
          cases hj
          exact ⟨.ref p, List.getElem?_set_self (by rw [e.len]; exact hi), p, by rw [List.getElem?_append_right (by rw [hA]; exact Nat.le_refl _), hA, Nat.sub_self]; rfl, rfl⟩
        · rw [List.getElem?_eq_none (by simpa using hi)] at hj
          cases hj
      · rw [List.getElem?_set_ne hij] at hj ⊢
        obtain ⟨v, h1, h2⟩ := e.var j r hj
        exact ⟨v, h1, h2.more s1⟩
/-- the last changeable object, a list, becomes data; or is given up -/
def frz (k : Nat) (d : Option Res) : Option Res → Option Res
  | some (.m j) => if j = k then d else some (.m j)
  | x => x
theorem sx_frz {μ0 : List MO} {xs : List PyData} (hn : n ≤ μ0.length) (h : SX K n t D (ds.map (frz μ0.length (some (.d (.list xs))))) μ0) : SX K n t D ds (μ0 ++ [MO.lst xs]) := fun σ O A H E e q => by
  have hw := e.wok
  have hl : A.length = μ0.length + 1 := by have := hw.len; rw [List.length_append] at this; exact this
  have hlt : μ0.length < A.length := by omega
  obtain ⟨p, hp⟩ : ∃ p, A[μ0.length]? = some p := ⟨_, List.getElem?_eq_getElem hlt⟩
  have eA : A = A.dropLast ++ [p] := by
    have ne : A ≠ [] := fun z => by rw [z] at hl; simp at hl
    have q1 := List.dropLast_concat_getLast ne
    have q2 : A.getLast ne = p := by
      have : A[A.length - 1]? = some (A.getLast ne) := by rw [List.getLast_eq_getElem]; exact List.getElem?_eq_getElem _
      rw [show A.length - 1 = μ0.length by omega, hp] at this
      exact (Option.some.inj this).symm
    rw [q2] at q1
    exact q1.symm
  have hA0 : A.dropLast.length = μ0.length := by rw [List.length_dropLast]; omega
  obtain ⟨_, vs, hv, hd⟩ := hw.obj μ0.length p (MO.lst xs) hp (by rw [List.getElem?_append_right (Nat.le_refl _), Nat.sub_self]; rfl)
  have hpO := hw.inO p (List.mem_of_getElem? hp)
  have nd := hw.nd
  have npA : p ∉ A.dropLast := fun z => by
    rw [eA, List.nodup_append] at nd
    exact nd.2.2 p z p (by simp) rfl
  -- what is hidden now
  have s1 : Same (hid O H) (hid (fun b => O b ∧ b ≠ p) H) := fun b o hb => by
    obtain ⟨h1, h2⟩ := of_hid hb
    rw [hid_out (fun z => h1 z.1)]
    exact h2
  have hpd : Dq (hid (fun b => O b ∧ b ≠ p) H) (.ref p) (.list xs) := .lst (by rw [hid_out (fun z => z.2 rfl)]; exact hv) (dpAll_mono s1 hd)
  have w2 : WOk K (fun b => O b ∧ b ≠ p) A.dropLast H μ0 := by
    refine ⟨hA0, ?_, fun a ha => ⟨hw.inO a (by rw [eA]; exact List.mem_append_left _ ha), fun z => npA (z ▸ ha)⟩, fun a ha => hw.dom a ha.1, fun j a m h1 h2 => ?_⟩
    · rw [eA, List.nodup_append] at nd
      exact nd.1
    · have hj : j < A.dropLast.length := (List.getElem?_eq_some_iff.mp h1).1
      refine m.mono (hw.obj j a m ?_ ?_) rfl s1
      · rw [eA, List.getElem?_append_left hj]; exact h1
      · rw [List.getElem?_append_left (by rw [← hA0]; exact hj)]; exact h2
  have ln : LeN n O A H (fun b => O b ∧ b ≠ p) A.dropLast H := ⟨⟨s1, fun a oa na => ⟨rfl, oa, fun z => na (z ▸ List.mem_of_getElem? hp)⟩, fun a ha => .inl (by rw [eA]; exact List.mem_append_left _ ha), fun _ h => h⟩, by
    conv => rhs; rw [eA]
    rw [List.take_append_of_le_length (by rw [hA0]; exact hn)]⟩
  refine h σ _ _ H E ⟨by rw [List.length_map]; exact e.len, fun j r hj => ?_, w2⟩ (q.mono hw.dom ln)
  rw [List.getElem?_map] at hj
  cases hds : ds[j]? with
  | none => rw [hds] at hj; cases hj
  | some x =>
    rw [hds] at hj
    have hj' : frz μ0.length (some (.d (.list xs))) x = some r := Option.some.inj hj
    cases x with
    | none => cases hj'
    | some x =>
      obtain ⟨v, h1, h2⟩ := e.var j x hds
      refine ⟨v, h1, ?_⟩
      cases x with
      | d y => cases hj'; exact dp_mono s1 h2
      | v y => cases hj'; exact h2
      | o y =>
        cases hj'
        obtain ⟨a, e1, e2⟩ := h2
        exact ⟨a, e1, s1 _ _ e2⟩
      | s ns =>
        cases hj'
        obtain ⟨a, e1, e2⟩ := h2
        exact ⟨a, e1, same_l s1 e2⟩
      | m k =>
        obtain ⟨a, e1, rfl⟩ := h2
        have hj' : (if k = μ0.length then some (.d (.list xs)) else some (.m k)) = some r := hj'
        by_cases hk : k = μ0.length
        · rw [if_pos hk] at hj'
          cases hj'
          rw [hk, hp] at e1
          cases e1
          exact hpd
        · rw [if_neg hk] at hj'
          cases hj'
          have hkl := (List.getElem?_eq_some_iff.mp e1).1
          refine ⟨a, ?_, rfl⟩
          rw [eA, List.getElem?_append_left (by omega)] at e1
          exact e1
theorem sx_gone {μ0 : List MO} {mo : MO} (hn : n ≤ μ0.length) (h : SX K n t D (ds.map (frz μ0.length none)) μ0) : SX K n t D ds (μ0 ++ [mo]) := fun σ O A H E e q => by
  have hw := e.wok
  have hl : A.length = μ0.length + 1 := by have := hw.len; rw [List.length_append] at this; exact this
  have hA0 : A.dropLast.length = μ0.length := by rw [List.length_dropLast]; omega
  have ne : A ≠ [] := fun z => by rw [z] at hl; simp at hl
  have eA : A = A.dropLast ++ [A.getLast ne] := (List.dropLast_concat_getLast ne).symm
  have nd := hw.nd
  have w2 : WOk K O A.dropLast H μ0 := by
    refine ⟨hA0, ?_, fun a ha => hw.inO a (by rw [eA]; exact List.mem_append_left _ ha), hw.dom, fun j a m h1 h2 => ?_⟩
    · rw [eA, List.nodup_append] at nd
      exact nd.1
    · have hj : j < A.dropLast.length := (List.getElem?_eq_some_iff.mp h1).1
      refine hw.obj j a m ?_ ?_
      · rw [eA, List.getElem?_append_left hj]; exact h1
      · rw [List.getElem?_append_left (by rw [← hA0]; exact hj)]; exact h2
  have ln : LeN n O A H O A.dropLast H := ⟨⟨Same.refl _, fun a oa na => ⟨rfl, oa⟩, fun a ha => .inl (by rw [eA]; exact List.mem_append_left _ ha), fun _ h => h⟩, by
    conv => rhs; rw [eA]
    rw [List.take_append_of_le_length (by rw [hA0]; exact hn)]⟩
  refine h σ _ _ H E ⟨by rw [List.length_map]; exact e.len, fun j r hj => ?_, w2⟩ (q.mono hw.dom ln)
  rw [List.getElem?_map] at hj
  cases hds : ds[j]? with
  | none => rw [hds] at hj; cases hj
  | some x =>
    rw [hds] at hj
    have hj' : frz μ0.length none x = some r := Option.some.inj hj
    cases x with
    | none => cases hj'
    | some x =>
      obtain ⟨v, h1, h2⟩ := e.var j x hds
      refine ⟨v, h1, ?_⟩
      cases x with
      | d y => cases hj'; exact h2
      | v y => cases hj'; exact h2
      | o y => cases hj'; exact h2
      | s y => cases hj'; exact h2
      | m k =>
        obtain ⟨a, e1, rfl⟩ := h2
        have hj' : (if k = μ0.length then none else some (.m k)) = some r := hj'
        by_cases hk : k = μ0.length
        · rw [if_pos hk] at hj'; cases hj'
        · rw [if_neg hk] at hj'
          cases hj'
          have hkl := (List.getElem?_eq_some_iff.mp e1).1
          refine ⟨a, ?_, rfl⟩
          rw [eA, List.getElem?_append_left (by omega)] at e1
          exact e1
/-- another word of a changeable object -/
theorem sx_weak {k : Nat} {m m' : MO} (hk : μ[k]? = some m) (i : m.Imp m') (h : SX K n t D ds (μ.set k m')) : SX K n t D ds μ := fun σ O A H E e q => h σ O A H E ⟨e.len, e.var, e.wok.weak hk i⟩ q
theorem sx_open {k : Nat} {ι : Type} {f : ι → MO} (hk : μ[k]? = some (MO.ex f)) (h : ∀ i, SX K n t D ds (μ.set k (f i))) : SX K n t D ds μ := fun σ O A H E e q => by
  obtain ⟨i, w⟩ := e.wok.open hk
  exact h i σ O A H E ⟨e.len, e.var, w⟩ q
theorem sx_when {k : Nat} {c : Prop} {m : MO} (hk : μ[k]? = some (MO.when c m)) (h : c → SX K n t D ds (μ.set k m)) : SX K n t D ds μ := fun σ O A H E e q => by
  obtain ⟨a, _, _, hc, _⟩ := e.wok.at hk
  exact h hc σ O A H E ⟨e.len, e.var, e.wok.weak hk (fun _ _ _ _ z => z.2)⟩ q
theorem sx_imp {D' : DEnds} (h : SX K n t D' ds μ) (h1 : ∀ ds μ, D'.nx ds μ → D.nx ds μ) (h2 : ∀ r μ, D'.rt r μ → D.rt r μ) (h3 : ∀ ds μ, D'.bk ds μ → D.bk ds μ) (h4 : ∀ ds μ, D'.ct ds μ → D.ct ds μ) (h5 : ∀ ds μ, D'.rn ds μ → D.rn ds μ) : SX K n t D ds μ := fun σ O A H E e q =>
  h σ O A H E e ⟨fun σ' O' A' H' ds' μ' l e p => q.nx σ' O' A' H' ds' μ' l e (h1 _ _ p), fun v r O' A' H' μ' l w rp p => q.rt v r O' A' H' μ' l w rp (h2 _ _ p), fun σ' O' A' H' ds' μ' l e p => q.bk σ' O' A' H' ds' μ' l e (h3 _ _ p), fun σ' O' A' H' ds' μ' l e p => q.ct σ' O' A' H' ds' μ' l e (h4 _ _ p), fun p vs xs O' A' H' μ' l np w hp hd hz k => q.rn p vs xs O' A' H' μ' l np w hp hd hz (h5 _ _ k)⟩
/-- while -/
theorem sx_while (W : Nat → DSt → List MO → Prop) (h0 : ∃ m, W m ds μ)
    (hs : ∀ m ds' μ', W m ds' μ' → WT K tt ds' μ' fun b μ2 => (b = true → SX K n t { D with nx := fun ds'' μ'' => ∃ m', m' < m ∧ W m' ds'' μ'', ct := fun ds'' μ'' => ∃ m', m' < m ∧ W m' ds'' μ'', bk := D.nx } ds' μ2) ∧ (b = false → D.nx ds' μ2)) : SX K n (tWhile tt t) D ds μ := fun σ O A H E e q => by
  obtain ⟨m0, h0⟩ := h0
  refine ⟨fun m σ' H' => ∃ O' A' ds' μ', LeN n O A H O' A' H' ∧ EnvOk K O' A' H' σ' ds' μ' ∧ W m ds' μ', ⟨m0, O, A, ds, μ, .refl n O A H, e, h0⟩, fun m σ' H' hW => ?_⟩
  obtain ⟨O', A', ds', μ', l, e', hw⟩ := hW
  refine hs m ds' μ' hw σ' O' A' H' e' _ fun b μ2 H2 l2 w2 p => ?_
  have l3 : LeN n O A H O' A' H2 := .trans e.wok.dom l (.of l2)
  have e3 := e'.mono l2.keep w2
  cases b with
  | true =>
    show ∃ N : L2.St → Hp → Prop, _
    refine ⟨fun σ3 H3 => ∃ m', m' < m ∧ ∃ O3 A3 ds3 μ3, LeN n O A H O3 A3 H3 ∧ EnvOk K O3 A3 H3 σ3 ds3 μ3 ∧ W m' ds3 μ3, fun σ3 H3 z => z, ?_⟩
    refine p.1 rfl σ' O' A' H2 _ e3 ⟨fun σ4 O4 A4 H4 ds4 μ4 l4 e4 k => ?_, fun v r O4 A4 H4 μ4 l4 w4 rp k => q.rt v r O4 A4 H4 μ4 (.trans e.wok.dom l3 l4) w4 rp k, fun σ4 O4 A4 H4 ds4 μ4 l4 e4 k => q.nx σ4 O4 A4 H4 ds4 μ4 (.trans e.wok.dom l3 l4) e4 k, fun σ4 O4 A4 H4 ds4 μ4 l4 e4 k => ?_, fun p vs xs O4 A4 H4 μ4 l4 np w hp hd hz k => q.rn p vs xs O4 A4 H4 μ4 (.trans e.wok.dom l3 l4) (none_back l3.le.dom np) w hp hd hz k⟩
    · obtain ⟨m', hm, k⟩ := k
      exact ⟨m', hm, O4, A4, ds4, μ4, .trans e.wok.dom l3 l4, e4, k⟩
    · obtain ⟨m', hm, k⟩ := k
      exact ⟨m', hm, O4, A4, ds4, μ4, .trans e.wok.dom l3 l4, e4, k⟩
  | false => exact q.nx σ' O' A' H2 ds' μ2 l3 e3 (p.2 rfl)
/-! ### what is walked -/
structure Iter (K : PySem.W.Frag) (O : Addr → Prop) (H : Hp) (J : It) (its : List PyData) : Prop where
  ex : ∃ (G : Hp → Prop) (Y : Nat → Hp → V → Hp → Prop), Walk J its.length G Y ∧ ∀ O' H', Same (hid O H) (hid O' H') → (∀ a, O' a → H' a ≠ none) → G H' ∧ ∀ i x H2, i < its.length → Y i H' x H2 → ∃ d, its[i]? = some d ∧ (H2 = H' ∨ ∃ T vs, H' T = none ∧ H2 = upd H' T (.tup vs)) ∧ Dq (hid O' H2) x d
def WI (K : PySem.W.Frag) (wi : TI) (ds : DSt) (μ : List MO) (P : List PyData → List MO → Prop) : Prop :=
  ∀ σ O A H, EnvOk K O A H σ ds μ → ∀ R : It → Hp → Prop, (∀ J its μ' H', Le O A H O A H' → WOk K O A H' μ' → Iter K O H' J its → P its μ' → R J H') → wi σ H R
theorem sx_for {wi : TI} {g : TG} (h : WI K wi ds μ fun its μ1 => ∃ Iv : Nat → DSt → List MO → Prop, Iv 0 ds μ1 ∧
      (∀ (i : Nat) d ds' μ', its[i]? = some d → Iv i ds' μ' → WG K g d ds' μ' fun ds2 => SX K n t { D with nx := Iv (i + 1), ct := Iv (i + 1), bk := D.nx } ds2 μ') ∧ (∀ ds' μ', Iv its.length ds' μ' → D.nx ds' μ')) : SX K n (tFor wi g t) D ds μ := fun σ O A H E e q => by
  refine h σ O A H e _ fun J its μ1 H1 l1 w1 it P => ?_
  obtain ⟨Iv, i0, hs, hd⟩ := P
  obtain ⟨G, Y, wk, hg⟩ := it.ex
  have e1 := e.mono l1.keep w1
  refine for_it wk (fun i σ' H' => ∃ O' A' ds' μ', LeN n O A H1 O' A' H' ∧ EnvOk K O' A' H' σ' ds' μ' ∧ Iv i ds' μ') ⟨O, A, ds, μ1, .refl n O A H1, e1, i0⟩ (fun i σ' H' _ z => ?_) (fun i x σ' H' H2 hi z y => ?_) (fun σ' H' z => ?_)
  · obtain ⟨O', A', ds', μ', l, e', _⟩ := z
    exact (hg O' H' l.le.keep e'.wok.dom).1
  · obtain ⟨O', A', ds', μ', l, e', iv⟩ := z
    obtain ⟨d, hd1, hH, hdp⟩ := (hg O' H' l.le.keep e'.wok.dom).2 i x H2 hi y
    have l2 : Le O' A' H' O' A' H2 ∧ WOk K O' A' H2 μ' := by
      rcases hH with rfl | ⟨T, vs, hT, rfl⟩
      · exact ⟨.refl _ _ _, e'.wok⟩
      · exact ⟨Le.laid e'.wok hT, e'.wok.laid hT⟩
    have l3 : LeN n O A H O' A' H2 := .trans e.wok.dom (.of l1) (.trans w1.dom l (.of l2.1))
    refine hs i d ds' μ' hd1 iv σ' O' A' H2 x (e'.mono l2.1.keep l2.2) hdp _ fun σ3 ds3 e3 k => ?_
    refine k σ3 O' A' H2 _ e3 ⟨fun σ4 O4 A4 H4 ds4 μ4 l4 e4 k => ?_, fun v r O4 A4 H4 μ4 l4 w4 rp k => q.rt v r O4 A4 H4 μ4 (.trans e.wok.dom l3 l4) w4 rp k, fun σ4 O4 A4 H4 ds4 μ4 l4 e4 k => q.nx σ4 O4 A4 H4 ds4 μ4 (.trans e.wok.dom l3 l4) e4 k, fun σ4 O4 A4 H4 ds4 μ4 l4 e4 k => ?_, fun p vs xs O4 A4 H4 μ4 l4 np w hp hd hz k => q.rn p vs xs O4 A4 H4 μ4 (.trans e.wok.dom l3 l4) (none_back l3.le.dom np) w hp hd hz k⟩
    · exact ⟨O4, A4, ds4, μ4, .trans w1.dom l (.trans e'.wok.dom (.of l2.1) l4), e4, k⟩
    · exact ⟨O4, A4, ds4, μ4, .trans w1.dom l (.trans e'.wok.dom (.of l2.1) l4), e4, k⟩
  · obtain ⟨O', A', ds', μ', l, e', iv⟩ := z
    exact q.nx σ' O' A' H' ds' μ' (.trans e.wok.dom (.of l1) l) e' (hd ds' μ' iv)
end
end Wv

set_option Elab.async false
set_option linter.all false
set_option maxRecDepth 100000
set_option maxHeartbeats 2000000
namespace Wv
open PySem PySem.Spec PyProof.Rows L2
section
variable {K : PySem.W.Frag} {n : Nat} {ds : DSt} {μ : List MO} {D : DEnds} {t u : TS} {te ta tb : TE} {tt : TT} {P : Res → List MO → Prop} {O : Addr → Prop} {A : List Addr} {H : Hp}
/-! ### new lists -/
theorem same_unor (O : Addr → Prop) (p : Addr) (H : Hp) : Same (hid (orA O p) H) (hid O H) := fun b o h => by
  obtain ⟨h1, h2⟩ := of_hid h
  rw [hid_out (fun z => h1 (.inl z))]
  exact h2
theorem WOk.unor {p : Addr} (w : WOk K (orA O p) A H μ) (hA : ∀ a ∈ A, O a) : WOk K O A H μ :=
  ⟨w.len, w.nd, hA, fun a h => w.dom a (.inl h), fun k a mo h1 h2 => mo.mono (w.obj k a mo h1 h2) rfl (same_unor O p H)⟩
theorem we_new (h : WN K te ds μ fun xs μ' => P (.d (.list xs)) μ') : WE K te ds μ P := fun σ O A H e Q q =>
  h σ O A H e Q fun p vs xs μ1 H1 l w np hp hd hz k => by
    have no : ¬ O p := fun z => e.wok.dom p z np
    exact q _ _ μ1 H1 l (w.unor e.wok.inO) (rp_d (Dq.lst (by rw [hid_out no]; exact hp) (dpAll_mono (same_unor O p H1) hd))) k
/-- a list laid anew -/
theorem WOk.or_laid (w : WOk K O A H μ) {p : Addr} (h : H p = none) (o : HO) : WOk K (orA O p) A (upd H p o) μ := by
  have s : Same (hid O H) (hid (orA O p) (upd H p o)) := same_or (Le.laid w h) h
  refine ⟨w.len, w.nd, fun a ha => .inl (w.inO a ha), fun a ha => ?_, fun k a mo h1 h2 => mo.mono (w.obj k a mo h1 h2) (upd_ne fun z => w.dom a (w.inO a (List.mem_of_getElem? h1)) (by rw [z]; exact h)) s⟩
  rcases ha with ha | ha
  · rw [upd_ne fun z => w.dom a ha (by rw [z]; exact h)]; exact w.dom a ha
  · rw [ha, upd_same]; exact fun z => nomatch z
/-- from a heap that has grown -/
theorem wn_laid {σ : L2.St} {Q : VK} {Pn : List PyData → List MO → Prop} {H1 : Hp} {μ1 : List MO} {vs : List V} {xs : List PyData} (e : EnvOk K O A H σ ds μ)
    (q : ∀ p vs xs μ' H', Le O A H O A H' → WOk K (orA O p) A H' μ' → H p = none → H' p = some (.lst vs) → DqAll (hid (orA O p) H') vs xs → xs.length ≤ sizeLine → Pn xs μ' → Q (.ref p) H')
    (l : Le O A H O A H1) (w : WOk K O A H1 μ1) (hd : DqAll (hid O H1) vs xs) (hz : xs.length ≤ sizeLine) (k : Pn xs μ1) : ∀ p, H1 p = none → Q (.ref p) (upd H1 p (.lst vs)) := fun p hp =>
  q p vs xs μ1 _ (.trans e.wok.dom l (Le.laid w hp)) (w.or_laid hp _) (none_back l.dom hp) upd_same (dpAll_mono (same_or (Le.laid w hp) hp) hd) hz k
theorem wn_lst {Pn : List PyData → List MO → Prop} {tr : TA} (h : WA K tr ds μ fun as μ1 => ∃ xs : List PyData, as = xs.map .d ∧ xs.length ≤ sizeLine ∧ Pn xs μ1) : WN K (tLst tr) ds μ Pn := fun σ O A H e Q q =>
  h σ O A H e _ fun vs as μ1 H1 l1 w1 r1 h1 => by
    obtain ⟨xs, rfl, hl, p⟩ := h1
    have hd := r1.data
    exact ⟨by rw [dpAll_len hd]; exact hl, wn_laid e q l1 w1 hd hl p⟩
/-! ### targets of comprehensions -/
def wipeD (ds : DSt) : List Nat → DSt
  | [] => ds
  | v :: vs => (wipeD ds vs).set v none
theorem EnvOk.unset {σ : L2.St} (h : EnvOk K O A H σ ds μ) (i : Nat) : EnvOk K O A H (σ.set i none) (ds.set i none) μ := by
  refine ⟨by rw [List.length_set, List.length_set, h.len], fun j s e => ?_, h.wok⟩
  by_cases hj : i = j
  · subst hj
    by_cases hi : i < ds.length
    · rw [List.getElem?_set_self hi] at e
      cases e
    · rw [List.getElem?_eq_none (by simpa using hi)] at e
      cases e
  · rw [List.getElem?_set_ne hj] at e ⊢
    exact h.var j s e
theorem EnvOk.wipe {σ : L2.St} (h : EnvOk K O A H σ ds μ) : ∀ vs : List Nat, EnvOk K O A H (wipe σ vs) (wipeD ds vs) μ
  | [] => h
  | v :: vs => (h.wipe vs).unset v
theorem wipe_get {σ : L2.St} {i : Nat} : ∀ {vs : List Nat}, (wipe σ vs)[i]? = if i ∈ vs then σ[i]?.map fun _ => none else σ[i]?
  | [] => by simp [L2.wipe]
  | v :: vs => by
    show ((L2.wipe σ vs).set v none)[i]? = _
    by_cases hv : v = i
    · subst hv
      rw [if_pos (by simp)]
      by_cases hl : v < σ.length
      · rw [List.getElem?_set_self (by rw [wipe_length]; exact hl), List.getElem?_eq_getElem hl]; rfl
      · rw [List.getElem?_eq_none (by rw [List.length_set, wipe_length]; omega), List.getElem?_eq_none (by omega)]; rfl
    · rw [List.getElem?_set_ne hv, wipe_get (vs := vs)]
      by_cases hm : i ∈ vs
      · rw [if_pos hm, if_pos (List.mem_cons_of_mem _ hm)]
      · rw [if_neg hm, if_neg (fun z => (List.mem_cons.mp z).elim (fun e => hv e.symm) hm)]
theorem wipe_set {σ : L2.St} {vs : List Nat} {j : Nat} {x : Option V} (h : j ∈ vs) : wipe (σ.set j x) vs = wipe σ vs := by
  apply List.ext_getElem?
  intro i
  rw [wipe_get, wipe_get]
  by_cases hm : i ∈ vs
  · rw [if_pos hm, if_pos hm]
    by_cases hi : j = i
    · subst hi
      by_cases hl : j < σ.length
      · rw [List.getElem?_set_self hl, List.getElem?_eq_getElem hl]; rfl
      · rw [List.getElem?_eq_none (by rw [List.length_set]; omega), List.getElem?_eq_none (by omega)]
    · rw [List.getElem?_set_ne hi]
  · rw [if_neg hm, if_neg hm, List.getElem?_set_ne (fun z => hm (by rw [← z]; exact h))]
theorem wipe_wipe {σ : L2.St} {vs : List Nat} : wipe (wipe σ vs) vs = wipe σ vs := by
  apply List.ext_getElem?
  intro i
  rw [wipe_get, wipe_get]
  by_cases hm : i ∈ vs
  · rw [if_pos hm, if_pos hm]
    cases σ[i]? <;> rfl
  · rw [if_neg hm, if_neg hm]
/-- a comprehension's target -/
def WGc (K : PySem.W.Frag) (g : TG) (vs : List Nat) (d : PyData) (ds : DSt) (μ : List MO) (P : DSt → Prop) : Prop :=
  ∀ σ O A H v, EnvOk K O A H σ ds μ → Dq (hid O H) v d → ∀ Q : L2.St → Hp → Prop, (∀ σ' ds', EnvOk K O A H σ' ds' μ → wipe σ' vs = wipe σ vs → P ds' → Q σ' H) → g v σ H Q
def WGcs (K : PySem.W.Frag) (g : TGs) (vs : List Nat) (d : List PyData) (ds : DSt) (μ : List MO) (P : DSt → Prop) : Prop :=
  ∀ σ O A H us, EnvOk K O A H σ ds μ → DqAll (hid O H) us d → ∀ Q : L2.St → Hp → Prop, (∀ σ' ds', EnvOk K O A H σ' ds' μ → wipe σ' vs = wipe σ vs → P ds' → Q σ' H) → g us σ H Q
theorem wgc_name {vs : List Nat} {d : PyData} {i : Nat} {P : DSt → Prop} (hi : i ∈ vs) (h : P (ds.set i (some (.d d)))) : WGc K (gName i) vs d ds μ P := fun σ O A H v e r Q q => q _ _ (e.set i (rp_d r)) (wipe_set hi) h
theorem wgcs_nil {vs : List Nat} {P : DSt → Prop} (h : P ds) : WGcs K gNil vs [] ds μ P := fun σ O A H us e r Q q => by
  cases r
  exact ⟨rfl, q _ _ e rfl h⟩
theorem wgcs_cons {vs : List Nat} {g : TG} {gs : TGs} {d : PyData} {xs : List PyData} {P : DSt → Prop} (h : WGc K g vs d ds μ fun ds' => WGcs K gs vs xs ds' μ P) : WGcs K (gCons g gs) vs (d :: xs) ds μ P := fun σ O A H us e r Q q => by
  cases r with
  | cons r1 rr => exact ⟨_, _, rfl, h σ O A H _ e r1 _ fun σ' ds' e' w' h' => h' σ' O A H _ e' rr Q fun σ2 ds2 e2 w2 p => q σ2 ds2 e2 (w2.trans w') p⟩
theorem wgc_tup {vs : List Nat} {gs : TGs} {k : Nat} {xs : List PyData} {P : DSt → Prop} (hl : xs.length = k) (h : WGcs K gs vs xs ds μ P) : WGc K (gTup K k gs) vs (.tuple xs) ds μ P := fun σ O A H v e r Q q => by
  cases r with
  | tup h1 h2 => exact ⟨_, _, rfl, SqT.of (hid_le O H _ _ h1), by rw [dpAll_len h2]; exact hl, h σ O A H _ e h2 Q q⟩
/-! ### comprehensions -/
theorem wn_lc {wi : TI} {g : TG} {tt : TT} {te : TE} {vs : List Nat} {Pn : List PyData → List MO → Prop}
    (h : WI K wi ds μ fun its μ1 => its.length < sizeLine ∧ ∃ Iv : Nat → List PyData → List MO → Prop, Iv 0 [] μ1 ∧
      (∀ (i : Nat) d acc μ', its[i]? = some d → Iv i acc μ' → WGc K g vs d (wipeD ds vs) μ' fun ds2 => WT K tt ds2 μ' fun b μ2 => (b = true → WE K te ds2 μ2 fun r μ3 => ∃ y, r = .d y ∧ Iv (i + 1) (acc ++ [y]) μ3) ∧ (b = false → Iv (i + 1) acc μ2)) ∧
      (∀ acc μ', Iv its.length acc μ' → Pn acc μ')) : WN K (tLc wi g tt te vs) ds μ Pn := fun σ O A H e Q q => by
  refine h σ O A H e _ fun J its μ1 H1 l1 w1 it P => ?_
  obtain ⟨hz, Iv, i0, hs, hd⟩ := P
  obtain ⟨G, Y, wk, hg⟩ := it.ex
  have e1 := e.mono l1.keep w1
  intro Da hDa
  have nO : ¬ O Da := fresh_out w1 hDa
  have nA : Da ∉ A := fun z => nO (w1.inO _ z)
  -- the world within: the list that grows is hidden too, and nobody's to change
  have s0 : Same (hid O H1) (hid (orA O Da) (upd H1 Da (.lst []))) := same_or (Le.laid (o := .lst []) w1 hDa) hDa
  refine lc_it wk (Qd := fun H' => Q (.ref Da) H') (fun i H' => ∃ acc us μ', i ≤ its.length ∧ acc.length ≤ i ∧ Same (hid O H1) (hid (orA O Da) H') ∧ (∀ a, O a → a ∉ A → H' a = H1 a) ∧ (∀ a, H1 a ≠ none → H' a ≠ none) ∧ WOk K (orA O Da) A H' μ' ∧ H' Da = some (.lst us) ∧ DqAll (hid (orA O Da) H') us acc ∧ Iv i acc μ') ?_ (fun i H' _ z => ?_) (fun i x H' H2 hi z y => ?_) (fun H' z => ?_)
  · exact ⟨[], [], μ1, Nat.zero_le _, Nat.zero_le _, s0, fun a ha _ => upd_ne fun z => nO (by rw [← z]; exact ha), (Le.laid (o := .lst []) w1 hDa).dom, w1.or_laid hDa _, upd_same, .nil, i0⟩
  · obtain ⟨acc, us, μ', _, _, sm, _, _, w, _⟩ := z
    exact (hg _ H' sm w.dom).1
  · obtain ⟨acc, us, μ', hi', hac, sm, fz, dm, w, hD, ha, iv⟩ := z
    obtain ⟨d, hd1, hH, hdp⟩ := (hg _ H' sm w.dom).2 i x H2 hi y
    have l2 : Le (orA O Da) A H' (orA O Da) A H2 ∧ WOk K (orA O Da) A H2 μ' := by
      rcases hH with rfl | ⟨T, us, hT, rfl⟩
      · exact ⟨.refl _ _ _, w⟩
      · exact ⟨Le.laid w hT, w.laid hT⟩
    have e2 : EnvOk K (orA O Da) A H2 σ ds μ' := ⟨e1.len, fun j r hj => let ⟨v, a, b⟩ := e1.var j r hj; ⟨v, a, b.mono (sm.trans l2.1.keep)⟩, l2.2⟩
    refine hs i d acc μ' hd1 iv _ _ A H2 x (e2.wipe vs) hdp _ fun σ3 ds3 e3 wp k => ⟨wp.trans wipe_wipe, ?_⟩
    refine k σ3 _ A H2 e3 _ fun b μ3 H3 l3 w3 p => ?_
    have l23 : Le (orA O Da) A H' (orA O Da) A H3 := .trans w.dom l2.1 l3
    have hD3 : H3 Da = some (.lst us) := by rw [(l23.froz Da (.inr rfl) nA).1]; exact hD
    have ha3 : DqAll (hid (orA O Da) H3) us acc := dpAll_mono l23.keep ha
    cases b with
    | false => exact ⟨acc, us, μ3, hi, by omega, sm.trans l23.keep, fun a oa na => (l23.froz a (.inl oa) na).1.trans (fz a oa na), fun a h => l23.dom a (dm a h), w3, hD3, ha3, p.2 rfl⟩
    | true =>
      refine p.1 rfl σ3 _ A H3 (e3.mono l3.keep w3) _ fun v r μ4 H4 l4 w4 rp p4 => ?_
      obtain ⟨yd, rfl, iv4⟩ := p4
      have l24 : Le (orA O Da) A H' (orA O Da) A H4 := .trans w.dom l23 l4
      have hD4 : H4 Da = some (.lst us) := by rw [(l24.froz Da (.inr rfl) nA).1]; exact hD
      have ha4 := dpAll_mono l4.keep ha3
      have eh : hid (orA O Da) (upd H4 Da (.lst (us ++ [v]))) = hid (orA O Da) H4 := hid_updIn (.inr rfl)
      have hul := dpAll_len ha4
      refine ⟨us, hD4, by omega, acc ++ [yd], us ++ [v], μ4, hi, by rw [List.length_append]; simp; omega, ?_, fun a oa na => ?_, fun a h => ?_, ⟨w4.len, w4.nd, w4.inO, fun a h => ?_, fun j a m h1 h2 => m.mono (w4.obj j a m h1 h2) (upd_ne fun z => nA (z ▸ List.mem_of_getElem? h1)) (by rw [eh]; exact Same.refl _)⟩, upd_same, by rw [eh]; exact dpAll_append ha4 (.cons rp .nil), iv4⟩
      · rw [eh]; exact sm.trans l24.keep
      · rw [upd_ne (fun z => nO (by rw [← z]; exact oa))]
        exact (l24.froz a (.inl oa) na).1.trans (fz a oa na)
      · by_cases z : a = Da
        · rw [z, upd_same]; exact fun z => nomatch z
        · rw [upd_ne z]; exact l24.dom a (dm a h)
      · by_cases z : a = Da
        · rw [z, upd_same]; exact fun z => nomatch z
        · rw [upd_ne z]; exact w4.dom a h
  · obtain ⟨acc, us, μ', _, hac, sm, fz, dm, w, hD, ha, iv⟩ := z
    refine q Da us acc μ' H' (.trans e.wok.dom l1 ⟨sm.trans (same_unor O Da H'), fun a oa na => ⟨fz a oa na, oa⟩, fun _ h => .inl h, dm⟩) w (none_back l1.dom hDa) hD ha (by omega) (hd acc μ' iv)
end
end Wv

set_option Elab.async false
set_option linter.all false
set_option maxRecDepth 100000
set_option maxHeartbeats 2000000
namespace Wv
open PySem PySem.Spec PyProof.Rows L2
section
variable {K : PySem.W.Frag} {n : Nat} {ds : DSt} {μ : List MO} {te ta tb : TE} {O : Addr → Prop} {A : List Addr} {H : Hp} {Pi : List PyData → List MO → Prop}
/-! ### what is walked -/
theorem iter_list {a : Addr} {vs : List V} {xs : List PyData} (h1 : hid O H a = some (.lst vs)) (h2 : DqAll (hid O H) vs xs) : Iter K O H (Itl K a) xs := by
  refine ⟨_, _, by rw [← dpAll_len h2]; exact walk_list (K := K) (a := a) (xs := vs), fun O' H' s dm => ⟨SqL.of (of_hid (s _ _ h1)).2, fun i x H2 hi y => ?_⟩⟩
  obtain ⟨rfl, hx⟩ := y
  obtain ⟨d, hd, hq⟩ := dpAll_get h2 hx
  exact ⟨d, hd, .inl rfl, dp_mono s hq⟩
theorem iter_tup {a : Addr} {vs : List V} {xs : List PyData} (h1 : hid O H a = some (.tup vs)) (h2 : DqAll (hid O H) vs xs) : Iter K O H (Itt K a) xs := by
  refine ⟨_, _, by rw [← dpAll_len h2]; exact walk_tup (K := K) (a := a) (xs := vs), fun O' H' s dm => ⟨SqT.of (of_hid (s _ _ h1)).2, fun i x H2 hi y => ?_⟩⟩
  obtain ⟨rfl, hx⟩ := y
  obtain ⟨d, hd, hq⟩ := dpAll_get h2 hx
  exact ⟨d, hd, .inl rfl, dp_mono s hq⟩
def rngD (lo : Int) (n : Nat) : List PyData := (List.range n).map fun i => .int (lo + (i : Nat))
theorem rngD_len (lo : Int) (n : Nat) : (rngD lo n).length = n := by unfold rngD; rw [List.length_map, List.length_range]
theorem rngD_get {lo : Int} {n i : Nat} (h : i < n) : (rngD lo n)[i]? = some (.int (lo + i)) := by
  unfold rngD
  rw [List.getElem?_map, List.getElem?_range h]; rfl
theorem iter_rng {lo : Int} {n : Nat} : Iter K O H (Itr lo n) (rngD lo n) := by
  refine ⟨_, _, by rw [rngD_len]; exact walk_range (lo := lo) (n := n), fun O' H' s dm => ⟨trivial, fun i x H2 hi y => ?_⟩⟩
  obtain ⟨rfl, rfl⟩ := y
  rw [rngD_len] at hi
  exact ⟨_, rngD_get hi, .inl rfl, Dq.int _⟩
/-- a list or a tuple walked -/
def iSeq (K : PySem.W.Frag) (tl : TE) : TI := fun σ H R => tl σ H fun x H1 => ∃ a, x = .ref a ∧ (((∃ xs, SqL K H1 a xs) ∧ R (Itl K a) H1) ∨ ((∃ xs, SqT K H1 a xs) ∧ R (Itt K a) H1))
theorem pi_seq {X : Cx} {tg : Expr} {l : Expr} {tl : TE} (hl : PE X l tl) : PI X tg l (iSeq X.K tl) := by
  refine ⟨fun pins s σ H R I h => ?_⟩
  refine thn (hl.run pins s σ H _ I h) fun v s1 ⟨x, H1, I1, r1, q1⟩ => ?_
  obtain ⟨a, e, q⟩ := q1
  subst e
  cases r1
  rcases q with ⟨⟨xs, hq⟩, q⟩ | ⟨⟨xs, hq⟩, q⟩
  · obtain ⟨its, rv, p, hz⟩ := I1.list hq
    refine wpAny_pyIter_list p.isList ?_
    refine ⟨s1.heap.objs.size, [s1.heap.objs.size], _, _, H1, rfl, I1.kept (t' := s1.toks) fun b o e => Heap.get?_push_of_some _ e, turn_list a _, ⟨_, Heap.get?_push_size _ rfl, rfl, rfl⟩, fun b hb => ?_, q⟩
    have e : b = s1.heap.objs.size := by simpa using hb
    subst e
    exact I1.fpOk (Nat.le_refl _) (I1.hok.fresh (Nat.le_refl _))
  · obtain ⟨its, rv, p, hz⟩ := I1.tuple hq
    refine wpAny_pyIter_tuple (show s1.heap.IsTuple a its.toArray from p) ?_
    refine ⟨s1.heap.objs.size, [s1.heap.objs.size], _, _, H1, rfl, I1.kept (t' := s1.toks) fun b o e => Heap.get?_push_of_some _ e, turn_tuple a _, ⟨_, Heap.get?_push_size _ rfl, rfl, rfl⟩, fun b hb => ?_, q⟩
    have e : b = s1.heap.objs.size := by simpa using hb
    subst e
    exact I1.fpOk (Nat.le_refl _) (I1.hok.fresh (Nat.le_refl _))
theorem wi_seq (h : WE K te ds μ fun r μ1 => ∃ xs, (r = .d (.list xs) ∨ r = .d (.tuple xs)) ∧ Pi xs μ1) : WI K (iSeq K te) ds μ Pi := fun σ O A H e R q =>
  h σ O A H e _ fun v r μ1 H1 l w rp p => by
    obtain ⟨xs, hr, p⟩ := p
    rcases hr with rfl | rfl
    · cases rp with
      | lst h1 h2 => exact ⟨_, rfl, .inl ⟨⟨_, SqL.of (of_hid h1).2⟩, q _ xs μ1 H1 l w (iter_list h1 h2) p⟩⟩
    · cases rp with
      | tup h1 h2 => exact ⟨_, rfl, .inr ⟨⟨_, SqT.of (of_hid h1).2⟩, q _ xs μ1 H1 l w (iter_tup h1 h2) p⟩⟩
theorem wi_rng1 {tr : TA} (h : WA K tr ds μ fun rs μ1 => ∃ j : Int, rs = [.d (.int j)] ∧ -(2 ^ 62) ≤ j ∧ j < 2 ^ 62 ∧ Pi (rngD 0 j.toNat) μ1) : WI K (iRng1 tr) ds μ Pi := fun σ O A H e R q =>
  h σ O A H e _ fun vs rs μ1 H1 l w rp p => by
    obtain ⟨j, rfl, h1, h2, p⟩ := p
    cases rp with
    | cons r rr =>
      cases rr
      cases r
      exact ⟨j, rfl, h1, h2, q _ _ μ1 H1 l w iter_rng p⟩
theorem wi_rng2 {tr : TA} (h : WA K tr ds μ fun rs μ1 => ∃ i j : Int, rs = [.d (.int i), .d (.int j)] ∧ (-(2 ^ 62) ≤ i ∧ i < 2 ^ 62 ∧ -(2 ^ 62) ≤ j ∧ j < 2 ^ 62) ∧ Pi (rngD i (j - i).toNat) μ1) : WI K (iRng2 tr) ds μ Pi := fun σ O A H e R q =>
  h σ O A H e _ fun vs rs μ1 H1 l w rp p => by
    obtain ⟨i, j, rfl, hb, p⟩ := p
    cases rp with
    | cons r rr =>
      cases rr with
      | cons r' rr =>
        cases rr
        cases r
        cases r'
        exact ⟨i, j, rfl, hb, q _ _ μ1 H1 l w iter_rng p⟩
/-- zip -/
def zipD (xs ys : List PyData) : List PyData := (xs.zip ys).map fun p => .tuple [p.1, p.2]
theorem zipD_len (xs ys : List PyData) : (zipD xs ys).length = min xs.length ys.length := by unfold zipD; rw [List.length_map, List.length_zip]
theorem zipD_get {xs ys : List PyData} {i : Nat} {x y : PyData} (h1 : xs[i]? = some x) (h2 : ys[i]? = some y) : (zipD xs ys)[i]? = some (.tuple [x, y]) := by
  unfold zipD
  rw [List.getElem?_map, (List.getElem?_zip_eq_some (z := (x, y))).mpr ⟨h1, h2⟩]; rfl
theorem iter_pair {J : It} {G : Hp → Prop} {xf yf : Nat → Option V} {its : List PyData} (wk : Walk J its.length G (YPair xf yf)) (hg : ∀ O' H', Same (hid O H) (hid O' H') → G H')
    (hv : ∀ i x y, i < its.length → xf i = some x → yf i = some y → ∃ dx dy, its[i]? = some (.tuple [dx, dy]) ∧ Dq (hid O H) x dx ∧ Dq (hid O H) y dy) : Iter K O H J its := by
  refine ⟨G, _, wk, fun O' H' s dm => ⟨hg O' H' s, fun i x H2 hi y => ?_⟩⟩
  obtain ⟨T, a, b, rfl, hT, rfl, ha, hb⟩ := y
  obtain ⟨dx, dy, h1, h2, h3⟩ := hv i a b hi ha hb
  have nT : ¬ O' T := fun z => dm T z hT
  have s2 : Same (hid O H) (hid O' (upd H' T (.tup [a, b]))) := s.trans (by rw [hid_upd nT]; exact same_upd (hid_none hT))
  exact ⟨_, h1, .inr ⟨T, _, hT, rfl⟩, .tup (hid_new nT) (.cons (dp_mono s2 h2) (.cons (dp_mono s2 h3) .nil))⟩
theorem walk_zipT {K : PySem.W.Frag} {a b : Addr} {xs ys : List V} {n : Nat} (hn : n = min xs.length ys.length) : Walk (RZ.ItzT K a b) n (fun H => SqT K H a xs ∧ SqT K H b ys) (YPair (fun i => xs[i]?) (fun i => ys[i]?)) := by
  subst hn
  refine ⟨fun i _ hi q => ?_, fun _ q => ⟨xs, ys, q.1, q.2, by omega⟩, fun i H v H' _ q y => ?_⟩
  · have h1 : i < xs.length := by omega
    have h2 : i < ys.length := by omega
    exact ⟨xs, ys, xs[i], ys[i], q.1, q.2, by simp [h1], by simp [h2]⟩
  · obtain ⟨T, x, z, h1, h2, h3, h4, h5⟩ := y
    exact ⟨T, x, z, h1, h2, h3, h4 xs q.1, h5 ys q.2⟩
theorem wi_zip {tr : TA} (h : WA K tr ds μ fun rs μ1 => ∃ xs ys : List PyData, (rs = [.d (.list xs), .d (.list ys)] ∨ rs = [.d (.tuple xs), .d (.tuple ys)]) ∧ Pi (zipD xs ys) μ1) : WI K (RZ.iZipA K tr) ds μ Pi := fun σ O A H e R q =>
  h σ O A H e _ fun vs rs μ1 H1 l w rp p => by
    obtain ⟨xs, ys, hr, p⟩ := p
    rcases hr with rfl | rfl
    · cases rp with
      | cons r rr =>
        cases rr with
        | cons r' rr =>
          cases rr
          cases r with
          | lst h1 h2 =>
            cases r' with
            | lst h3 h4 =>
              refine ⟨_, _, _, _, rfl, .inl ⟨SqL.of (of_hid h1).2, SqL.of (of_hid h3).2, q _ _ μ1 H1 l w (iter_pair (walk_zip (K := K) (by rw [zipD_len, dpAll_len h2, dpAll_len h4])) (fun O' H' s => ⟨SqL.of (of_hid (s _ _ h1)).2, SqL.of (of_hid (s _ _ h3)).2⟩) fun i x y hi hx hy => ?_) p⟩⟩
              obtain ⟨dx, e1, d1⟩ := dpAll_get h2 hx
              obtain ⟨dy, e2, d2⟩ := dpAll_get h4 hy
              exact ⟨dx, dy, zipD_get e1 e2, d1, d2⟩
    · cases rp with
      | cons r rr =>
        cases rr with
        | cons r' rr =>
          cases rr
          cases r with
          | tup h1 h2 =>
            cases r' with
            | tup h3 h4 =>
              refine ⟨_, _, _, _, rfl, .inr ⟨SqT.of (of_hid h1).2, SqT.of (of_hid h3).2, q _ _ μ1 H1 l w (iter_pair (walk_zipT (K := K) (by rw [zipD_len, dpAll_len h2, dpAll_len h4])) (fun O' H' s => ⟨SqT.of (of_hid (s _ _ h1)).2, SqT.of (of_hid (s _ _ h3)).2⟩) fun i x y hi hx hy => ?_) p⟩⟩
              obtain ⟨dx, e1, d1⟩ := dpAll_get h2 hx
              obtain ⟨dy, e2, d2⟩ := dpAll_get h4 hy
              exact ⟨dx, dy, zipD_get e1 e2, d1, d2⟩
/-- enumerate(list) -/
def enumD (xs : List PyData) : List PyData := xs.zipIdx.map fun p => .tuple [.int (p.2 : Nat), p.1]
theorem enumD_len (xs : List PyData) : (enumD xs).length = xs.length := by unfold enumD; rw [List.length_map, List.length_zipIdx]
theorem enumD_get {xs : List PyData} {i : Nat} {x : PyData} (h : xs[i]? = some x) : (enumD xs)[i]? = some (.tuple [.int i, x]) := by
  unfold enumD
  rw [List.getElem?_map, List.getElem?_zipIdx, h]
  simp
theorem wi_enum {tr : TA} (h : WA K tr ds μ fun rs μ1 => ∃ xs : List PyData, rs = [.d (.list xs)] ∧ Pi (enumD xs) μ1) : WI K (iEnum K tr) ds μ Pi := fun σ O A H e R q =>
  h σ O A H e _ fun vs rs μ1 H1 l w rp p => by
    obtain ⟨xs, rfl, p⟩ := p
    cases rp with
    | cons r rr =>
      cases rr
      cases r with
      | @lst a vs _ h1 h2 =>
        refine ⟨_, _, rfl, SqL.of (of_hid h1).2, q _ _ μ1 H1 l w (iter_pair (by rw [enumD_len, ← dpAll_len h2]; exact walk_enum (K := K) (a := a) (xs := vs)) (fun O' H' s => SqL.of (of_hid (s _ _ h1)).2) fun i x y hi hx hy => ?_) p⟩
        cases hx
        obtain ⟨dy, e2, d2⟩ := dpAll_get h2 hy
        exact ⟨_, dy, enumD_get e2, Dq.int _, d2⟩
/-! ### defs -/
abbrev Spec := List Res → List MO → (PyData → List MO → Prop) → Prop
def FSp (K : PySem.W.Frag) (S : Spec) : Sp := fun vs H Q _ => ∃ O A rs μ P, WOk K O A H μ ∧ RepAll K O A H vs rs ∧ S rs μ P ∧ ∀ v d μ' H', Le O A H O A H' → WOk K O A H' μ' → Dq (hid O H') v d → P d μ' → Q v H'
/-- what is handed back: data, or a list of the def's own -/
def RetAs (n : Nat) (μ : List MO) (r : Res) (d : PyData) : Prop := r = .d d ∨ ∃ k xs, n ≤ k ∧ r = .m k ∧ μ[k]? = some (MO.lst xs) ∧ d = .list xs
theorem RepAll.length : ∀ {vs : List V} {rs : List Res}, RepAll K O A H vs rs → vs.length = rs.length
  | _, _, .nil => rfl
  | _, _, .cons _ t => by rw [List.length_cons, List.length_cons, t.length]
theorem RepAll.get : ∀ {vs : List V} {rs : List Res} {i : Nat} {r : Res}, RepAll K O A H vs rs → rs[i]? = some r → ∃ v, vs[i]? = some v ∧ RepR K O A H v r
  | _, _, _, _, .nil, e => by simp at e
  | _, _, 0, _, .cons h _, e => by
    simp at e; subst e; exact ⟨_, rfl, h⟩
  | _, _, i + 1, r, .cons _ t, e => by
    obtain ⟨v, h1, h2⟩ := RepAll.get (i := i) (r := r) t (by simpa using e)
    exact ⟨v, by simpa using h1, h2⟩
def startD (N : Nat) (rs : List Res) : DSt := rs.map some ++ List.replicate (N - rs.length) none
theorem env_start {N : List Str} {vs : List V} {rs : List Res} (w : WOk K O A H μ) (r : RepAll K O A H vs rs) : EnvOk K O A H (L2.start N vs) (startD N.length rs) μ := by
  have hl := r.length
  refine ⟨?_, fun i x e => ?_, w⟩
  · unfold L2.start startD
    rw [List.length_append, List.length_append, List.length_map, List.length_map, List.length_replicate, List.length_replicate, hl]
  · unfold startD at e
    unfold L2.start
    by_cases hi : i < rs.length
    · rw [List.getElem?_append_left (by rw [List.length_map]; exact hi), List.getElem?_map] at e
      cases q : rs[i]? with
      | none => rw [q] at e; cases e
      | some y =>
        rw [q] at e
        have e' : y = x := Option.some.inj (Option.some.inj e)
        subst e'
        obtain ⟨v, h1, h2⟩ := r.get q
        exact ⟨v, by rw [List.getElem?_append_left (by rw [List.length_map, hl]; exact hi), List.getElem?_map, h1]; rfl, h2⟩
    · rw [List.getElem?_append_right (by rw [List.length_map]; omega)] at e
      have := List.getElem?_replicate (a := (none : Option Res)) (n := N.length - rs.length) (i := i - (rs.map some).length)
      rw [this] at e
      split at e
      · cases e
      · cases e
/-- back at the caller's -/
theorem LeN.back {O' : Addr → Prop} {A' : List Addr} {H' : Hp} {μ' : List MO} (w : WOk K O A H μ) (l : LeN μ.length O A H O' A' H') (w' : WOk K O' A' H' μ') : Le O A H O A H' ∧ WOk K O A H' (μ'.take μ.length) ∧ Same (hid O' H') (hid O H') := by
  have hA : A'.take A.length = A := by
    have e := l.pre
    rw [← w.len] at e
    rw [e, List.take_length]
  have sub : ∀ a, O a → O' a := fun a oa => by
    by_cases ha : a ∈ A
    · refine w'.inO a ?_
      rw [← hA] at ha
      exact List.mem_of_mem_take ha
    · exact (l.le.froz a oa ha).2
  have s : Same (hid O' H') (hid O H') := fun b o hb => by
    obtain ⟨h1, h2⟩ := of_hid hb
    rw [hid_out fun z => h1 (sub b z)]
    exact h2
  have hle : A.length ≤ A'.length := by
    have := congrArg List.length hA
    rw [List.length_take] at this
    omega
  refine ⟨⟨l.le.keep.trans s, fun a oa na => ⟨(l.le.froz a oa na).1, oa⟩, fun _ h => .inl h, l.le.dom⟩, ⟨?_, w.nd, w.inO, fun a oa => w'.dom a (sub a oa), fun k a mo h1 h2 => ?_⟩, s⟩
  · rw [List.length_take, ← w'.len, ← w.len]
    omega
  · have hk : k < A.length := (List.getElem?_eq_some_iff.mp h1).1
    refine mo.mono (w'.obj k a mo ?_ ?_) rfl s
    · rw [← hA, List.getElem?_take_of_lt hk] at h1
      exact h1
    · rw [List.getElem?_take_of_lt (by rw [← w.len]; exact hk)] at h2
      exact h2
def endsOf (n : Nat) (P : PyData → List MO → Prop) : DEnds := { nx := fun _ μ' => P .none (μ'.take n), rt := fun r μ' => ∃ d, RetAs n μ' r d ∧ P d (μ'.take n), rn := fun xs μ' => P (.list xs) (μ'.take n) }
theorem ends_of {P : PyData → List MO → Prop} {Q : VK} (w : WOk K O A H μ) (q : ∀ v d μ' H', Le O A H O A H' → WOk K O A H' μ' → Dq (hid O H') v d → P d μ' → Q v H') : EndsOk K μ.length (endsOf μ.length P) { nx := fun _ H' => Q .non H', rt := Q } O A H := by
  refine ⟨fun σ' O' A' H' ds' μ' l e p => ?_, fun v r O' A' H' μ' l w' rp p => ?_, fun _ _ _ _ _ _ _ _ z => z.elim, fun _ _ _ _ _ _ _ _ z => z.elim, fun p vs xs O' A' H' μ' l np w' hp hd hz k => ?_⟩
  · obtain ⟨l1, w1, _⟩ := l.back w e.wok
    exact q .non .none _ H' l1 w1 Dq.non p
  · obtain ⟨d, hr, p⟩ := p
    obtain ⟨l1, w1, s1⟩ := l.back w w'
    rcases hr with rfl | ⟨k, xs, hk, rfl, hm, rfl⟩
    · exact q v d _ H' l1 w1 (dp_mono s1 rp) p
    · obtain ⟨a, e1, rfl⟩ := rp
      obtain ⟨a', e2, _, _, vs, hv, hd⟩ := w'.at hm
      rw [e1] at e2; cases e2
      -- the list is not the caller's
      have na : ¬ O a := fun z => by
        have hA : A'.take A.length = A := by
          have e := l.pre
          rw [← w.len] at e
          rw [e, List.take_length]
        have nA : a ∉ A := fun hm2 => by
          rw [← hA] at hm2
          obtain ⟨j, hj⟩ := List.mem_iff_getElem?.mp hm2
          have hj2 : j < A.length := by
            have := (List.getElem?_eq_some_iff.mp hj).1
            rw [List.length_take] at this
            omega
          rw [List.getElem?_take_of_lt hj2] at hj
          have := nodup_ixA w'.nd hj e1
          rw [← w.len] at hk
          omega
        rcases l.le.new a (List.mem_of_getElem? e1) with z2 | z2
        · exact nA z2
        · exact w.dom a z z2
      exact q _ (.list xs) _ H' l1 w1 (.lst (by rw [hid_out na]; exact hv) (dpAll_mono s1 hd)) p
  · have no : ¬ O p := fun z => w.dom p z np
    have l' : LeN μ.length O A H (orA O' p) A' H' := ⟨⟨fun b o hb => by
      obtain ⟨h1, h2⟩ := of_hid hb
      have nb : b ≠ p := ne_of_none h2 np
      obtain ⟨h3, h4⟩ := of_hid (l.le.keep b o hb)
      rw [hid_out fun z => z.elim h3 nb]
      exact h4, fun a oa na => ⟨(l.le.froz a oa na).1, .inl (l.le.froz a oa na).2⟩, l.le.new, l.le.dom⟩, l.pre⟩
    obtain ⟨l1, w1, s1⟩ := l'.back w w'
    exact q _ (.list xs) _ H' l1 w1 (.lst (by rw [hid_out no]; exact hp) (dpAll_mono s1 hd)) k
end
section
variable {Pg : Program} {w : World} {K : PySem.W.Frag} {mg : Str → Option Value} {base : Heap}
/-- THE RULE for a def -/
theorem fn_ok {x qual : Str} {st : Stmt} {f : Addr} {fd : FuncData} {N ps : List Str} {k : Nat} {S : Spec} (F : Fun K x qual st f fd) (Sc : FnScope N ps (defScope st)) (len : ∀ rs μ P, S rs μ P → rs.length = ps.length)
    (body : ∀ (cdv : Value) (A : Around) (outer : List Env) (s : Shared) (H : Hp) (E : XK), Room k (A.deeper (envOfC qual (defScope st) s.heap.objs.size f cdv)) →
      ∃ t, PSs (cxOf CX0 Pg w K mg base N qual (defScope st) f cdv A outer s H E).nox (defBody st) t ∧ ∀ rs μ P, S rs μ P → SX K μ.length t (endsOf μ.length P) (startD N.length rs) μ) : FnOk Pg w K mg base CX0 (k + 1) f fd ps (FSp K S) := by
  refine F.ok Sc (fun vs H Q E h => ?_) (fun cdv A outer s H vs Q E hr h => ?_)
  · obtain ⟨O, A, rs, μ, P, w, ra, hs, _⟩ := h
    rw [ra.length]
    exact len rs μ P hs
  · obtain ⟨O, Ad, rs, μ, P, w, ra, hs, q⟩ := h
    obtain ⟨t, ht, hb⟩ := body cdv A outer s H E hr
    exact ⟨t, ht, hb rs μ P hs _ O Ad H _ (env_start w ra) (ends_of w q)⟩
end
section
variable {K : PySem.W.Frag} {n : Nat} {ds : DSt} {μ : List MO} {te ta tb : TE} {O : Addr → Prop} {A : List Addr} {H : Hp} {P : Res → List MO → Prop} {S : Spec} {tr : TA} {E : XK}
def notM : Res → Prop
  | .m _ => False
  | _ => True
theorem RepAll.none : ∀ {vs : List V} {rs : List Res}, RepAll K O A H vs rs → (∀ r ∈ rs, notM r) → RepAll K O [] H vs rs
  | _, _, .nil, _ => .nil
  | _, _, .cons (r := r) h t, k => .cons (by
    have := k r (by simp)
    cases r with
    | m j => exact this.elim
    | d x => exact h
    | v x => exact h
    | o x => exact h
    | s x => exact h) (t.none fun r hr => k r (List.mem_cons_of_mem _ hr))
/-- a call without changeable objects -/
theorem we_call0 (h : WA K tr ds μ fun as μ1 => (∀ r ∈ as, notM r) ∧ S as [] fun d _ => P (.d d) μ1) : WE K (tCall (FSp K S) [] E tr) ds μ P := fun σ O A H e Q q =>
  h σ O A H e _ fun vs as μ1 H1 l1 w1 r1 p => by
    show FSp K S (vs ++ []) H1 Q E
    rw [List.append_nil]
    refine ⟨O, [], as, [], _, ⟨rfl, List.nodup_nil, fun a h => (by cases h), w1.dom, fun k a mo h => (by simp at h)⟩, r1.none p.1, p.2, fun v d μ' H2 l2 w2 hd k => ?_⟩
    have l3 : Le O A H1 O A H2 := ⟨l2.keep, fun a oa na => l2.froz a oa (by simp), fun _ h => .inl h, l2.dom⟩
    exact q v (.d d) μ1 H2 (.trans e.wok.dom l1 l3) (w1.same l3.keep fun a oa => (l2.froz a oa (by simp)).1) (rp_d hd) k
/-- the changeable object is called 0 by the callee -/
def ren : Res → Res
  | .m _ => .m 0
  | r => r
def onlyM (k : Nat) : Res → Prop
  | .m j => j = k
  | _ => True
theorem RepAll.one {a : Addr} {k : Nat} (ha : A[k]? = some a) : ∀ {vs : List V} {rs : List Res}, RepAll K O A H vs rs → (∀ r ∈ rs, onlyM k r) → RepAll K O [a] H vs (rs.map ren)
  | _, _, .nil, _ => .nil
  | _, _, .cons (r := r) h t, q => .cons (by
    have := q r (by simp)
    cases r with
    | m j =>
      obtain ⟨b, e1, e2⟩ := h
      have : j = k := this
      rw [this, ha] at e1
      cases e1
      exact ⟨a, rfl, e2⟩
    | d x => exact h
    | v x => exact h
    | o x => exact h
    | s x => exact h) (t.one ha fun r hr => q r (List.mem_cons_of_mem _ hr))
theorem we_call1 (h : WA K tr ds μ fun as μ1 => ∃ k mo, μ1[k]? = some mo ∧ (∀ r ∈ as, onlyM k r) ∧ S (as.map ren) [mo] fun d μ' => ∃ mo', μ' = [mo'] ∧ P (.d d) (μ1.set k mo')) : WE K (tCall (FSp K S) [] E tr) ds μ P := fun σ O A H e Q q =>
  h σ O A H e _ fun vs as μ1 H1 l1 w1 r1 p => by
    show FSp K S (vs ++ []) H1 Q E
    rw [List.append_nil]
    obtain ⟨k, mo, hk, ho, hS⟩ := p
    obtain ⟨a, ha, oa, rep⟩ := w1.at hk
    refine ⟨O, [a], as.map ren, [mo], _, ⟨rfl, List.nodup_cons.mpr ⟨by simp, List.nodup_nil⟩, fun b hb => by rw [show b = a by simpa using hb]; exact oa, w1.dom, fun j b m h1 h2 => ?_⟩, r1.one ha ho, hS, fun v d μ' H2 l2 w2 hd p2 => ?_⟩
    · have e0 : j = 0 := by
        have := (List.getElem?_eq_some_iff.mp h1).1
        simp at this
        omega
      subst e0
      cases h1; cases h2
      exact rep
    · obtain ⟨mo', rfl, p2⟩ := p2
      have haA : a ∈ A := List.mem_of_getElem? ha
      have l3 : Le O A H1 O A H2 := ⟨l2.keep, fun b ob nb => l2.froz b ob (by simp; exact fun z => nb (z ▸ haA)), fun _ h => .inl h, l2.dom⟩
      refine q v (.d d) _ H2 (.trans e.wok.dom l1 l3) ⟨by rw [List.length_set]; exact w1.len, w1.nd, w1.inO, w2.dom, fun j b m h1 h2 => ?_⟩ (rp_d hd) p2
      by_cases hj : k = j
      · subst hj
        rw [ha] at h1; cases h1
        rw [List.getElem?_set_self (List.getElem?_eq_some_iff.mp hk).1] at h2
        cases h2
        exact w2.obj 0 a mo' rfl rfl
      · rw [List.getElem?_set_ne hj] at h2
        have nb : b ≠ a := fun z => hj (nodup_ixA w1.nd ha (z ▸ h1))
        have ob := w1.inO b (List.mem_of_getElem? h1)
        exact m.mono (w1.obj j b m h1 h2) (l2.froz b ob (by simp; exact nb)).1 l2.keep
end
end Wv

set_option Elab.async false
set_option linter.all false
set_option maxRecDepth 100000
set_option maxHeartbeats 2000000
namespace Wv
open PySem PySem.Spec PyProof.Rows L2
/-! ### rules of the machine that were lacking -/
section
variable {X : Cx}
def rCatL (K : PySem.W.Frag) : R2 := fun x y H Q => ∃ l b xs zs, x = .ref l ∧ y = .ref b ∧ SqL K H l xs ∧ SqL K H b zs ∧ xs.length + zs.length ≤ sizeLine ∧ ∀ p, H p = none → Q (.ref p) (upd H p (.lst (xs ++ zs)))
theorem op_catL : OpR X (binaryOp .Add) (rCatL X.K) := by
  intro pins s σ H x y v u Q I rx ry h
  obtain ⟨l, b, xs, zs, rfl, rfl, hH, hB, hz, q⟩ := h
  cases rx
  cases ry
  obtain ⟨its, r, p1, z1⟩ := I.list hH
  obtain ⟨its2, r2, p2, z2⟩ := I.list hB
  have ea : its.toArray ++ its2.toArray = (its ++ its2).toArray := by simp
  obtain ⟨⟨cls, dd, data, sl⟩, ho, hc, n, hd⟩ := id p1.isList
  obtain ⟨⟨cls2, dd2, data2, sl2⟩, ho2, hc2, n2, hd2⟩ := id p2.isList
  simp only at hc hd hc2 hd2
  subst hc hd hc2 hd2
  have h1 := r.length
  have h2 := r2.length
  refine concat_meets ⟨_, ho, rfl⟩ ⟨_, ho2, rfl⟩ noFill_list_add seq_list_add PySem.F.slot_list_add PySem.F.entry_list_add (PySem.F.args_list_add_2 _ _) (list_addW l b its.toArray its2.toArray n n2 dd dd2 sl sl2 (by rw [List.size_toArray, List.size_toArray]; omega)) ⟨ho, ho2, ?_⟩
  rw [ea]
  exact ⟨.ref _, _, I.lnew (t' := s.toks) (r.append r2) (by rw [List.length_append]; omega), rfl, q _ I.fresh⟩
/-- t[::-1] of a tuple -/
theorem adjust_rev (n : Nat) : Builtin.Slice.sliceAdjust none none (-1) (n : Int) = ((n : Int) - 1, -1) := by
  unfold Builtin.Slice.sliceAdjust
  have h1 : ((-1 : Int) < 0) := by omega
  simp only [h1, if_true]
theorem places_rev (n : Nat) : Builtin.Slice.slicePlaces ((n : Int) - 1) (-1) (-1) = n := by
  unfold Builtin.Slice.slicePlaces
  have h1 : ¬ ((-1 : Int) > 0) := by omega
  simp only [h1, if_false, Int.neg_neg, Int.ediv_one]
  split <;> omega
theorem sliceApplied_rev {prog : Program} {w : World} {A : Around} {E : Value → Shared → Prop} {s : Shared} {sl : Addr} {n : Nat} {vs : Value} {Q : Int × Int × Nat → Shared → Prop} (hs : s.heap.IsSliceOf sl .none .none vs) (ps : IsPart vs (some (-1)))
    (h : Q ((n : Int) - 1, -1, n) s) : wpAny (model prog w) A (Builtin.Slice.sliceApplied (.ref sl) (pure (n : Int))) Q E s := by
  obtain ⟨os, hos, hcs, hds⟩ := id hs
  cases ps with
  | int i t =>
    unfold Builtin.Slice.sliceApplied Builtin.Slice.sliceFields
    refine wpAny_bind (wpAny_bind (wpAny_field hos hds (x := .none) rfl (wpAny_bind (wpAny_field hos hds (x := .none) rfl (wpAny_bind (wpAny_field hos hds (x := .int (-1) t) rfl (wpAny_pure ?_)))))))
    refine wpAny_bind (HT.slicePart_ (.int _ _) ?_)
    show wpAny _ _ (if ((-1 : Int) == 0) = true then _ else _) _ _ s
    rw [if_neg (by decide)]
    refine wpAny_bind (HT.slicePart_ .none (wpAny_bind (HT.slicePart_ .none (wpAny_bind (wpAny_pure ?_)))))
    show wpAny _ _ (match Builtin.Slice.sliceAdjust none none (-1) (n : Int) with | (lo, hi) => pure (lo, (-1 : Int), Builtin.Slice.slicePlaces lo hi (-1))) _ _ s
    rw [adjust_rev n]
    show wpAny _ _ (pure ((n : Int) - 1, (-1 : Int), Builtin.Slice.slicePlaces ((n : Int) - 1) (-1) (-1))) _ _ s
    rw [places_rev]
    exact wpAny_pure h
theorem pick_rev (xs : Array Value) : ((List.range xs.size).filterMap fun (m : Nat) => xs[(((xs.size : Int) - 1) + (m : Int) * (-1)).toNat]?).toArray = xs.toList.reverse.toArray := by
  have e : (fun (m : Nat) => xs[(((xs.size : Int) - 1) + (m : Int) * (-1)).toNat]?) = (fun m => xs[m]?) ∘ fun m => xs.size - 1 - m := by
    funext m
    have : (((xs.size : Int) - 1) + (m : Int) * (-1)).toNat = xs.size - 1 - m := by omega
    show xs[(((xs.size : Int) - 1) + (m : Int) * (-1)).toNat]? = xs[xs.size - 1 - m]?
    rw [this]
  rw [e, ← List.filterMap_map, PySem.W.krv_range, List.filterMap_reverse, PySem.W.krv_all]
theorem getItem_tuple_rev {prog : Program} {w : World} {A : Around} {E : Value → Shared → Prop} {s : Shared} {t sl : Addr} {items : Array Value} {vs : Value} {Q : Value → Shared → Prop} (ht : IsTup s.heap t items) (hs : s.heap.IsSliceOf sl .none .none vs) (ps : IsPart vs (some (-1)))
    (h : Q (.ref s.heap.objs.size) { s with heap := s.heap.push { cls := .type "tuple", data := .seq items.toList.reverse.toArray } })
    (hsz : items.size ≤ sizeLine) : wpAny (model prog w) A (getItem (.ref t) (.ref sl)) Q E s := by
  have htake : sizeOk (.seq items.toList.reverse.toArray) := by
    show items.toList.reverse.toArray.size ≤ sizeLine
    rw [List.size_toArray, List.length_reverse, Array.length_toList]
    omega
  obtain ⟨os, hos, hcs, hds⟩ := id hs
  have hTs : s.TypeIs (.ref sl) "slice" := ⟨os, hos, hcs⟩
  unfold getItem
  try with_reducible refine wpAny_holding ?_
  first | refine wpAny_bind (wpAny_pure ?_) | skip
  refine wpAny_bind (wpAny_sequenceKey ht.typeIs (by decide) ?_)
  refine wpAny_bind (wpAny_callSpecial?_slot (name := Str.ofString "__getitem__") ht.typeIs PyProof.Rows.slot_tuple_getitem
    (wpAny_call_entry PyProof.Rows.slot_tuple_getitem ht.typeIs entry_tuple_getitem ?_ (args_tuple_getitem _ _)))
  show wpAny _ _ (Builtin.Tuple.tupleItemsOf (.ref t) >>= _) _ _ s
  refine wpAny_bind (tupleItemsOf_ ht ?_)
  refine wpAny_bind (wpAny_typeOf hTs ?_)
  rw [if_pos (by decide)]
  refine wpAny_bind (sliceApplied_rev hs ps ?_)
  have hno : ¬ ((((items.size : Int) - 1) == 0 && (-1 : Int) == 1 && items.size == items.size) = true) := by
    intro q
    rw [Bool.and_eq_true, Bool.and_eq_true] at q
    exact absurd (eq_of_beq q.1.2) (by decide)
  show wpAny _ _ (if (((items.size : Int) - 1) == 0 && (-1 : Int) == 1 && items.size == items.size) = true then _ else _) _ _ s
  rw [if_neg hno, pick_rev]
  first
    | exact wpAny_bind (m := Builtin.Tuple.tupleExact _) (wpAny_newObj_type (wpAny_pure ⟨_, rfl, wpAny_pure h⟩) htake)
    | exact wpAny_bind (m := Builtin.Tuple.tupleExact _) (wpAny_newObj_type (wpAny_bind (wpAny_pure (wpAny_pure ⟨_, rfl, wpAny_pure h⟩))) htake)
    | exact wpAny_bind (wpAny_bind (m := Builtin.Tuple.tupleExact _) (wpAny_newObj_type (wpAny_pure (wpAny_pure ⟨_, rfl, wpAny_pure h⟩)) htake))
    | exact wpAny_bind (wpAny_bind (m := Builtin.Tuple.tupleExact _) (wpAny_newObj_type (wpAny_pure ⟨_, rfl, wpAny_pure h⟩) htake))
/-- e[::-1], a list or a tuple -/
def tRevA (K : PySem.W.Frag) (te : TE) : TE := fun σ H Q => te σ H fun x H1 => ∃ a xs, x = .ref a ∧ ((SqL K H1 a xs ∧ ∀ p, H1 p = none → Q (.ref p) (upd H1 p (.lst xs.reverse))) ∨ (SqT K H1 a xs ∧ ∀ p, H1 p = none → Q (.ref p) (upd H1 p (.tup xs.reverse))))
theorem pe_revA {e : Expr} {te : TE} {k : Nat} {p1 p2 p3 pos : Pos} (he : PE X e te) : PE X (.Subscript e (.Slice none none (some (.UnaryOp .USub (.Constant (.int 1) k p1) p2)) p3) pos) (tRevA X.K te) := by
  refine ⟨fun pins s σ H Q I h => ?_⟩
  refine Subscript_ (thn (he.run pins s σ H _ I h) fun v s1 ⟨x, H1, I1, r1, q1⟩ => ?_)
  obtain ⟨a, xs, ex, hq⟩ := q1
  subst ex
  cases r1
  have hst : PO X (some (.UnaryOp .USub (.Constant (.int 1) k p1) p2)) (tPart (tUn (rU fun i => .int (-i)) (tC (.int 1)))) := po_some (pe_un un_neg pe_int)
  refine wpAny_Slice (thn (po_none.run pins s1 σ H1 (fun o H2 => o = none ∧ H2 = H1) I1 ⟨rfl, rfl⟩) fun vl s2 ⟨l, H2, I2, pl, el, e2⟩ => ?_)
  subst el e2
  refine thn (po_none.run pins s2 σ H2 (fun o H3 => o = none ∧ H3 = H2) I2 ⟨rfl, rfl⟩) fun vu s3 ⟨u, H3, I3, pu, eu, e3⟩ => ?_
  subst eu e3
  refine thn (hst.run pins s3 σ H3 (fun o H4 => o = some (-1) ∧ H4 = H3) I3 ⟨1, rfl, -1, rfl, rfl, rfl⟩) fun vs s4 ⟨o, H4, I4, ps, eo, e4⟩ => ?_
  subst eo e4
  have I5 : Inv X pins σ H4 { s4 with heap := s4.heap.push { cls := .type "slice", data := .fields #[vl, vu, vs] } } := I4.kept (t' := s4.toks) fun b ob q => Heap.get?_push_of_some _ q
  show wpAny (model X.prog X.w) X.A (subscriptTail e (.Slice none none (some (.UnaryOp .USub (.Constant (.int 1) k p1) p2)) p3) (.ref a) (.ref s4.heap.objs.size)) (EP X pins σ Q) X.xe { s4 with heap := s4.heap.push { cls := .type "slice", data := .fields #[vl, vu, vs] } }
  rcases hq with ⟨hx, q⟩ | ⟨hx, q⟩
  · obtain ⟨its, r, ht, hz⟩ := I5.list hx
    have hlen := r.length
    refine tail_any (ops := [.ref a, .ref s4.heap.objs.size]) ht.isList.typeIs (PySem.slot_list_getitem.lookup) ?_ (by with_unfolding_all rfl)
    refine wpAny_getItem_list_slice ht.isList (Heap.IsSliceOf.new _ vl vu vs) pl pu ps (by decide) ?_ (by rw [List.size_toArray]; omega)
    rw [PySem.W.krv_pick]
    refine ⟨.ref _, _, I5.laid (t' := s4.toks) (o := .lst xs.reverse) (fun b ob q => Heap.get?_push_of_some _ q) (Nat.le_refl _) ?_, rfl, q _ (I5.hok.fresh (Nat.le_refl _))⟩
    exact ⟨by rw [List.length_reverse]; exact hz, _, 0, r.reverse, Heap.get?_push_size _ rfl⟩
  · obtain ⟨its, r, ht, hz⟩ := I5.tuple hx
    have hlen := r.length
    cases pl
    cases pu
    refine tail_any (ops := [.ref a, .ref s4.heap.objs.size]) ht.typeIs (PyProof.Rows.slot_tuple_getitem.lookup) ?_ (by with_unfolding_all rfl)
    refine getItem_tuple_rev ht (Heap.IsSliceOf.new _ _ _ vs) ps ?_ (by rw [List.size_toArray]; omega)
    refine ⟨.ref _, _, I5.laid (t' := s4.toks) (o := .tup xs.reverse) (fun b ob q => Heap.get?_push_of_some _ q) (Nat.le_refl _) ?_, rfl, q _ (I5.hok.fresh (Nat.le_refl _))⟩
    exact ⟨by rw [List.length_reverse]; exact hz, _, r.reverse, IsTup.new _ _⟩
end
end Wv

set_option Elab.async false
set_option linter.all false
set_option maxRecDepth 100000
set_option maxHeartbeats 2000000
namespace Wv
open PySem PySem.Spec PyProof.Rows L2
/-! ### zip and enumerate of lists and tuples, mixed: b = true is a tuple -/
def SqN : Bool → String
  | true => "tuple_iterator"
  | false => "list_iterator"
def SIt (b : Bool) (h : Heap) (it l : Addr) (i : Nat) : Prop := if b then h.IsTupleIter it l i else h.IsListIter it l i
def SSq (b : Bool) (h : Heap) (l : Addr) (xs : Array Value) : Prop := if b then h.IsTuple l xs else h.IsList l xs
def SqA (K : PySem.W.Frag) (b : Bool) (H : Hp) (a : Addr) (xs : List V) : Prop := if b then SqT K H a xs else SqL K H a xs
section
variable {b : Bool} {h h' : Heap} {it l z : Addr} {i : Nat} {xs : Array Value}
theorem SIt.obj (x : SIt b h it l i) : ∃ o, h.get? it = some o ∧ o.cls = .type (SqN b) ∧ ∃ vs, o.data = .fields vs := by
  cases b with
  | true => obtain ⟨o, e, c, d⟩ := (show h.IsTupleIter it l i from x); exact ⟨o, e, c, _, d⟩
  | false => obtain ⟨o, e, c, d⟩ := (show h.IsListIter it l i from x); exact ⟨o, e, c, _, d⟩
theorem SIt.at (x : SIt b h it l i) (k : ∀ o, h.get? it = some o → h'.get? it = some o) : SIt b h' it l i := by
  cases b with
  | true => exact Heap.IsTupleIter.at (show h.IsTupleIter it l i from x) k
  | false => exact Heap.IsListIter.at (show h.IsListIter it l i from x) k
theorem SSq.obj (x : SSq b h l xs) : ∃ o, h.get? l = some o := by
  cases b with
  | true => obtain ⟨o, e, _⟩ := (show h.IsTuple l xs from x); exact ⟨o, e⟩
  | false => obtain ⟨o, e, _⟩ := (show h.IsList l xs from x); exact ⟨o, e⟩
theorem SSq.at (x : SSq b h l xs) (k : ∀ o, h.get? l = some o → h'.get? l = some o) : SSq b h' l xs := by
  cases b with
  | true => obtain ⟨o, e, r⟩ := (show h.IsTuple l xs from x); exact (show h'.IsTuple l xs from ⟨o, k o e, r⟩)
  | false => obtain ⟨o, e, r⟩ := (show h.IsList l xs from x); exact (show h'.IsList l xs from ⟨o, k o e, r⟩)
end
section
variable {prog : Program} {w : World} {A : Around} {E : Value → Shared → Prop} {s : Shared}
theorem nextOf_item {b : Bool} {it l : Addr} {i : Nat} {items : Array Value} {x : Value} {Q : Value → Shared → Prop} (hit : SIt b s.heap it l i) (hl : SSq b s.heap l items) (hx : items[i]? = some x)
    (hQ : ∀ h', SIt b h' it l (i + 1) → Heap.SameBut it s.heap h' → Q x { s with heap := h' }) : wpAny (model prog w) A (Builtin.SmallTypes.nextOf (.ref it)) Q E s := by
  cases b with
  | true => exact RZ.nextOf_tuple_item (show s.heap.IsTupleIter it l i from hit) (show s.heap.IsTuple l items from hl) hx hQ
  | false => exact wpAny_nextOf_list_item (show s.heap.IsListIter it l i from hit) (show s.heap.IsList l items from hl) hx hQ
theorem nextOf_end {b : Bool} {it l : Addr} {i : Nat} {items : Array Value} {Q : Value → Shared → Prop} (hh : A.handled = none) (hit : SIt b s.heap it l i) (hl : SSq b s.heap l items) (hx : items[i]? = none)
    (hE : ∀ h' e, Heap.ExtBut it s.heap h' → (∃ o, h'.get? e = some o ∧ o.cls = .type "StopIteration") → E (.ref e) { s with heap := h' }) : wpAny (model prog w) A (Builtin.SmallTypes.nextOf (.ref it)) Q E s := by
  cases b with
  | true => exact RZ.nextOf_tuple_end hh (show s.heap.IsTupleIter it l i from hit) (show s.heap.IsTuple l items from hl) hx hE
  | false => exact wpAny_nextOf_list_end hh (show s.heap.IsListIter it l i from hit) (show s.heap.IsList l items from hl) hx hE
theorem iter_sq {b : Bool} {l : Addr} {items : Array Value} {Q : Value → Shared → Prop} (hl : SSq b s.heap l items)
    (hQ : Q (.ref s.heap.objs.size) { s with heap := s.heap.push { cls := .type (SqN b), data := .fields #[.ref l, .int 0 0] } }) : wpAny (model prog w) A (pyIter (.ref l)) Q E s := by
  cases b with
  | true => exact wpAny_pyIter_tuple (show s.heap.IsTuple l items from hl) hQ
  | false => exact wpAny_pyIter_list (show s.heap.IsList l items from hl) hQ
/-- an item of zip -/
theorem zip_item {b1 b2 : Bool} {z TI TO i1 i2 l1 l2 : Addr} {k1 k2 : Nat} {xs ys : Array Value} {x y a b : Value} {Q : Value → Shared → Prop} (D : ZipApart z TI TO i1 i2 l1 l2)
    (hz : IsZip s.heap z TI TO .none) (hTI : IsPair s.heap TI (.ref i1) (.ref i2)) (hTO : IsPair s.heap TO a b)
    (h1 : SIt b1 s.heap i1 l1 k1) (h2 : SIt b2 s.heap i2 l2 k2) (hl1 : SSq b1 s.heap l1 xs) (hl2 : SSq b2 s.heap l2 ys) (hx : xs[k1]? = some x) (hy : ys[k2]? = some y)
    (hQ : ∀ h', IsZip h' z TI TO (rawInt s.heap.objs.size) → IsPair h' TO x y → SIt b1 h' i1 l1 (k1 + 1) → SIt b2 h' i2 l2 (k2 + 1) → IsPair h' s.heap.objs.size x y → h'.objs.size = s.heap.objs.size + 1 →
      (∀ c o, c ≠ z → c ≠ TO → c ≠ i1 → c ≠ i2 → s.heap.get? c = some o → h'.get? c = some o) → Q (.ref s.heap.objs.size) { s with heap := h' }) :
    wpAny (model prog w) A (Builtin.«zip.__next__» ⟨[.ref z], []⟩) (fun fin s' => ∃ v, fin = .done (.ret v) ∧ Q v s') E s := by
  show wpAny _ _ (field (.ref z) 2 >>= _) _ _ _
  refine wpAny_bind (wpAny_field hz rfl (x := .bool false) rfl ?_)
  show wpAny _ _ (field (.ref z) 3 >>= _) _ _ _
  refine wpAny_bind (wpAny_field hz rfl (x := .ref TI) rfl ?_)
  refine wpAny_bind (wpAny_seqItems hTI rfl ?_)
  show wpAny _ _ (Builtin.SmallTypes.ownedTupleIsFree (.ref z) >>= _) _ _ _
  refine wpAny_bind ?_
  unfold Builtin.SmallTypes.ownedTupleIsFree
  refine wpAny_bind (wpAny_field hz rfl (x := .none) rfl (wpAny_pure ?_))
  simp only [if_true]
  refine wpAny_bind (wpAny_rule ?_)
  refine wpAny_bind (wpAny_field hz rfl (x := .ref TO) rfl ?_)
  refine wpAny_bind (wpAny_setField_rec hz (by simp) fun g1 hz1 s1 => ?_)
  replace hz1 : IsZip g1 z TI TO .ellipsis := hz1
  refine wpAny_bind ?_
  simp only [List.zipIdx_cons, List.zipIdx_nil, List.forIn_cons, List.forIn_nil]
  refine wpAny_bind (wpAny_bind (wpAny_onRaise ?_))
  show wpAny _ _ (Builtin.SmallTypes.nextOf (.ref i1) >>= _) _ _ _
  refine wpAny_bind (nextOf_item (h1.at fun o e => s1.extBut _ _ D.i1z e) (hl1.at fun o e => s1.extBut _ _ D.l1z e) hx fun g2 n1 s2 => wpAny_pure ?_)
  have hTO2 : IsPair g2 TO a b := s2.extBut _ _ D.TOi1 (s1.extBut _ _ D.TOz hTO)
  refine wpAny_bind (wpAny_seqItems hTO2 rfl (wpAny_bind (wpAny_updateSeq_pair hTO2 fun g3 hTO3 s3 => ?_)))
  replace hTO3 : IsPair g3 TO x b := hTO3
  refine wpAny_bind (wpAny_letGo (wpAny_pure (wpAny_bind (wpAny_bind (wpAny_onRaise ?_)))))
  show wpAny _ _ (Builtin.SmallTypes.nextOf (.ref i2) >>= _) _ _ _
  refine wpAny_bind (nextOf_item (h2.at fun o e => s3.extBut _ _ D.TOi2.symm (s2.extBut _ _ D.i12.symm (s1.extBut _ _ D.i2z e))) (hl2.at fun o e => s3.extBut _ _ D.l2TO (s2.extBut _ _ D.l2i1 (s1.extBut _ _ D.l2z e))) hy fun g4 n2 s4 => wpAny_pure ?_)
  have hTO4 : IsPair g4 TO x b := s4.extBut _ _ D.TOi2 hTO3
  refine wpAny_bind (wpAny_seqItems hTO4 rfl (wpAny_bind (wpAny_updateSeq_pair hTO4 fun g5 hTO5 s5 => ?_)))
  replace hTO5 : IsPair g5 TO x y := hTO5
  refine wpAny_bind (wpAny_letGo (wpAny_pure (wpAny_pure (wpAny_bind (wpAny_seqItems hTO5 rfl (wpAny_bind (wpAny_newTuple ?_)))))))
  have sz : g5.objs.size = s.heap.objs.size := by rw [s5.1, s4.1, s3.1, s2.1, s1.1]
  have z5 : IsZip g5 z TI TO .ellipsis := s5.extBut _ _ D.TOz.symm (s4.extBut _ _ D.i2z.symm (s3.extBut _ _ D.TOz.symm (s2.extBut _ _ D.i1z.symm hz1)))
  have k5 : ∀ c o, c ≠ z → c ≠ TO → c ≠ i1 → c ≠ i2 → s.heap.get? c = some o → g5.get? c = some o := fun c o c1 c2 c3 c4 e =>
    s5.extBut _ _ c2 (s4.extBut _ _ c4 (s3.extBut _ _ c2 (s2.extBut _ _ c3 (s1.extBut _ _ c1 e))))
  have m1 : SIt b1 g5 i1 l1 (k1 + 1) := n1.at fun o e => s5.extBut _ _ D.TOi1.symm (s4.extBut _ _ D.i12 (s3.extBut _ _ D.TOi1.symm e))
  have m2 : SIt b2 g5 i2 l2 (k2 + 1) := n2.at fun o e => s5.extBut _ _ D.TOi2.symm e
  have zlt : z < g5.objs.size := Heap.lt_size z5
  show wpAny _ _ (Builtin.SmallTypes.ownedTupleHandOut (.ref z) (.ref g5.objs.size) >>= _) _ _ _
  refine wpAny_bind ?_
  unfold Builtin.SmallTypes.ownedTupleHandOut
  have z6 : IsZip (g5.push { cls := .type "tuple", data := .seq #[x, y] }) z TI TO .ellipsis := Heap.get?_push_of_some _ z5
  refine wpAny_bind (wpAny_setField_rec z6 (by simp) fun g7 z7 s7 => ?_)
  replace z7 : IsZip g7 z TI TO (rawInt g5.objs.size) := z7
  refine wpAny_setField_rec z7 (by simp) fun g8 z8 s8 => ?_
  replace z8 : IsZip g8 z TI TO (rawInt g5.objs.size) := z8
  have up : ∀ c o, c ≠ z → g5.get? c = some o → g8.get? c = some o := fun c o c1 e => s8.extBut _ _ c1 (s7.extBut _ _ c1 (Heap.get?_push_of_some _ e))
  have t8 : IsPair g8 g5.objs.size x y := s8.extBut _ _ (Nat.ne_of_gt zlt) (s7.extBut _ _ (Nat.ne_of_gt zlt) (Heap.get?_push_size _ rfl))
  have sz8 : g8.objs.size = g5.objs.size + 1 := by rw [s8.1, s7.1, Heap.size_push]
  rw [sz] at z8 t8 sz8
  refine wpAny_pure ⟨_, rfl, ?_⟩
  show Q (.ref g5.objs.size) _
  rw [sz]
  exact hQ g8 z8 (up _ _ D.TOz hTO5) (m1.at fun o e => up _ o D.i1z e) (m2.at fun o e => up _ o D.i2z e) t8 sz8 fun c o c1 c2 c3 c4 e => up c o c1 (k5 c o c1 c2 c3 c4 e)
theorem zip_end {b1 b2 : Bool} {z TI TO i1 i2 l1 l2 : Addr} {k1 k2 : Nat} {xs ys : Array Value} {a b : Value} {Q : Fin → Shared → Prop} (hh : A.handled = none) (D : ZipApart z TI TO i1 i2 l1 l2)
    (hz : IsZip s.heap z TI TO .none) (hTI : IsPair s.heap TI (.ref i1) (.ref i2)) (hTO : IsPair s.heap TO a b)
    (h1 : SIt b1 s.heap i1 l1 k1) (h2 : SIt b2 s.heap i2 l2 k2) (hl1 : SSq b1 s.heap l1 xs) (hl2 : SSq b2 s.heap l2 ys) (hend : xs[k1]? = none ∨ ys[k2]? = none)
    (hE : ∀ h' e, (∀ c o, c ≠ z → c ≠ TO → c ≠ i1 → c ≠ i2 → s.heap.get? c = some o → h'.get? c = some o) → (∃ o, h'.get? e = some o ∧ o.cls = .type "StopIteration") → E (.ref e) { s with heap := h' }) :
    wpAny (model prog w) A (Builtin.«zip.__next__» ⟨[.ref z], []⟩) Q E s := by
  show wpAny _ _ (field (.ref z) 2 >>= _) _ _ _
  refine wpAny_bind (wpAny_field hz rfl (x := .bool false) rfl ?_)
  show wpAny _ _ (field (.ref z) 3 >>= _) _ _ _
  refine wpAny_bind (wpAny_field hz rfl (x := .ref TI) rfl ?_)
  refine wpAny_bind (wpAny_seqItems hTI rfl ?_)
  show wpAny _ _ (Builtin.SmallTypes.ownedTupleIsFree (.ref z) >>= _) _ _ _
  refine wpAny_bind ?_
  unfold Builtin.SmallTypes.ownedTupleIsFree
  refine wpAny_bind (wpAny_field hz rfl (x := .none) rfl (wpAny_pure ?_))
  simp only [if_true]
  refine wpAny_bind (wpAny_rule ?_)
  refine wpAny_bind (wpAny_field hz rfl (x := .ref TO) rfl ?_)
  refine wpAny_bind (wpAny_setField_rec hz (by simp) fun g1 hz1 s1 => ?_)
  replace hz1 : IsZip g1 z TI TO .ellipsis := hz1
  refine wpAny_bind ?_
  simp only [List.zipIdx_cons, List.zipIdx_nil, List.forIn_cons, List.forIn_nil]
  refine wpAny_bind (wpAny_bind (wpAny_onRaise ?_))
  show wpAny _ _ (Builtin.SmallTypes.nextOf (.ref i1) >>= _) _ _ _
  cases hx : xs[k1]? with
  | none =>
    refine wpAny_bind (nextOf_end hh (h1.at fun o e => s1.extBut _ _ D.i1z e) (hl1.at fun o e => s1.extBut _ _ D.l1z e) hx fun g2 e s2 he => ?_)
    obtain ⟨oe, hoe, hce⟩ := he
    have z2 : IsZip g2 z TI TO .ellipsis := s2 _ _ D.i1z.symm hz1
    have hez : e ≠ z := fun x => by subst x; rw [z2] at hoe; cases hoe; simp at hce
    exact wpAny_setField_rec z2 (by simp) fun g3 _ s3 => hE g3 e (fun c o c1 _ c3 _ x => s3.extBut _ _ c1 (s2 _ _ c3 (s1.extBut _ _ c1 x))) ⟨oe, s3.extBut _ _ hez hoe, hce⟩
  | some x =>
    have hy : ys[k2]? = none := by
      rcases hend with h | h
      · rw [hx] at h; cases h
      · exact h
    refine wpAny_bind (nextOf_item (h1.at fun o e => s1.extBut _ _ D.i1z e) (hl1.at fun o e => s1.extBut _ _ D.l1z e) hx fun g2 n1 s2 => wpAny_pure ?_)
    have hTO2 : IsPair g2 TO a b := s2.extBut _ _ D.TOi1 (s1.extBut _ _ D.TOz hTO)
    refine wpAny_bind (wpAny_seqItems hTO2 rfl (wpAny_bind (wpAny_updateSeq_pair hTO2 fun g3 hTO3 s3 => ?_)))
    refine wpAny_bind (wpAny_letGo (wpAny_pure (wpAny_bind (wpAny_bind (wpAny_onRaise ?_)))))
    show wpAny _ _ (Builtin.SmallTypes.nextOf (.ref i2) >>= _) _ _ _
    refine wpAny_bind (nextOf_end hh (h2.at fun o e => s3.extBut _ _ D.TOi2.symm (s2.extBut _ _ D.i12.symm (s1.extBut _ _ D.i2z e))) (hl2.at fun o e => s3.extBut _ _ D.l2TO (s2.extBut _ _ D.l2i1 (s1.extBut _ _ D.l2z e))) hy fun g4 e s4 he => ?_)
    obtain ⟨oe, hoe, hce⟩ := he
    have z4 : IsZip g4 z TI TO .ellipsis := s4 _ _ D.i2z.symm (s3.extBut _ _ D.TOz.symm (s2.extBut _ _ D.i1z.symm hz1))
    have hez : e ≠ z := fun x => by subst x; rw [z4] at hoe; cases hoe; simp at hce
    exact wpAny_setField_rec z4 (by simp) fun g5 _ s5 => hE g5 e (fun c o c1 c2 c3 c4 x => s5.extBut _ _ c1 (s4 _ _ c4 (s3.extBut _ _ c2 (s2.extBut _ _ c3 (s1.extBut _ _ c1 x))))) ⟨oe, s5.extBut _ _ hez hoe, hce⟩
end
abbrev zh1 (b1 : Bool) (h : Heap) (l1 : Addr) : Heap := h.push { cls := .type (SqN b1), data := .fields #[.ref l1, .int 0 0] }
abbrev zh2 (b1 b2 : Bool) (h : Heap) (l1 l2 : Addr) : Heap := (zh1 b1 h l1).push { cls := .type (SqN b2), data := .fields #[.ref l2, .int 0 0] }
abbrev zh3 (b1 b2 : Bool) (h : Heap) (l1 l2 : Addr) : Heap := (zh2 b1 b2 h l1 l2).push { cls := .type "tuple", data := .seq #[.ref h.objs.size, .ref (zh1 b1 h l1).objs.size] }
abbrev zh4 (b1 b2 : Bool) (h : Heap) (l1 l2 : Addr) : Heap := (zh3 b1 b2 h l1 l2).push { cls := .type "tuple", data := .seq #[.none, .none] }
abbrev zh5 (b1 b2 : Bool) (h : Heap) (l1 l2 : Addr) : Heap := (zh4 b1 b2 h l1 l2).push { cls := .type "zip", data := .fields #[.none, .bool false, .bool false, .ref (zh2 b1 b2 h l1 l2).objs.size, .ref (zh3 b1 b2 h l1 l2).objs.size] }
theorem SSq.push {b : Bool} {h : Heap} {l : Addr} {xs : Array Value} (x : SSq b h l xs) (o : Obj) : SSq b (h.push o) l xs := x.at fun _ e => Heap.get?_push_of_some _ e
theorem meets_zip_new (b1 b2 : Bool) (l1 l2 : Addr) (xs ys : Array Value) :
    Meets (Builtin.«zip.__new__» ⟨[.type "zip", .ref l1, .ref l2], []⟩) (fun _ R s => SSq b1 s.heap l1 xs ∧ SSq b2 s.heap l2 ys ∧
      R (.ok (.ret (.ref (zh4 b1 b2 s.heap l1 l2).objs.size))) { s with heap := zh5 b1 b2 s.heap l1 l2 }) :=
  .of_wp fun prog w A R s h => by
    obtain ⟨hp, g, d, tk, os⟩ := s; obtain ⟨hl1, hl2, h⟩ := h
    have hsub := sub_zip
    have hL1 : SSq b1 (Shared.heap ⟨hp, g, d, tk, os⟩) l1 xs := hl1
    have hL2 : SSq b2 (Shared.heap ⟨hp.push { cls := .type (SqN b1), data := .fields #[.ref l1, .int 0 0] }, g, d, tk, os⟩) l2 ys := SSq.push hl2 _
    wp_walk using iter_sq hL1, iter_sq hL2
    exact ⟨_, rfl, h⟩
section
variable {prog : Program} {w : World} {A : Around} {E : Value → Shared → Prop} {s : Shared}
theorem call_zipG {b1 b2 : Bool} {l1 l2 : Addr} {xs ys : Array Value} {Q : Value → Shared → Prop} (hl1 : SSq b1 s.heap l1 xs) (hl2 : SSq b2 s.heap l2 ys)
    (h : ∀ h', IsZip h' (s.heap.objs.size + 4) (s.heap.objs.size + 2) (s.heap.objs.size + 3) .none → IsPair h' (s.heap.objs.size + 2) (.ref s.heap.objs.size) (.ref (s.heap.objs.size + 1)) →
      IsPair h' (s.heap.objs.size + 3) .none .none → SIt b1 h' s.heap.objs.size l1 0 → SIt b2 h' (s.heap.objs.size + 1) l2 0 → h'.objs.size = s.heap.objs.size + 5 →
      (∀ c o, s.heap.get? c = some o → h'.get? c = some o) → Q (.ref (s.heap.objs.size + 4)) { s with heap := h' }) :
    wpAny (model prog w) A (call (.type "zip") [.ref l1, .ref l2]) Q E s := by
  refine callType_new F.called_zip (by decide) (F.typeCall_zip_2 _ _) (F.newCall_zip_2 _ _) (fun obj => F.args_object_init_3 obj _ _) F.entry_zip_new
    (meets_zip_new b1 b2 l1 l2 xs ys) ⟨hl1, hl2, ?_⟩
  have z1 : (zh1 b1 s.heap l1).objs.size = s.heap.objs.size + 1 := Heap.size_push ..
  have z2 : (zh2 b1 b2 s.heap l1 l2).objs.size = s.heap.objs.size + 2 := by rw [Heap.size_push, z1]
  have z3 : (zh3 b1 b2 s.heap l1 l2).objs.size = s.heap.objs.size + 3 := by rw [Heap.size_push, z2]
  have z4 : (zh4 b1 b2 s.heap l1 l2).objs.size = s.heap.objs.size + 4 := by rw [Heap.size_push, z3]
  have z5 : (zh5 b1 b2 s.heap l1 l2).objs.size = s.heap.objs.size + 5 := by rw [Heap.size_push, z4]
  have g5 : (zh5 b1 b2 s.heap l1 l2).get? (zh4 b1 b2 s.heap l1 l2).objs.size = some _ := Heap.get?_push_size _ rfl
  have g4 : (zh5 b1 b2 s.heap l1 l2).get? (zh3 b1 b2 s.heap l1 l2).objs.size = some _ := Heap.get?_push_of_some _ (Heap.get?_push_size _ rfl)
  have g3 : (zh5 b1 b2 s.heap l1 l2).get? (zh2 b1 b2 s.heap l1 l2).objs.size = some _ := Heap.get?_push_of_some _ (Heap.get?_push_of_some _ (Heap.get?_push_size _ rfl))
  have g2 : (zh5 b1 b2 s.heap l1 l2).get? (zh1 b1 s.heap l1).objs.size = some _ := Heap.get?_push_of_some _ (Heap.get?_push_of_some _ (Heap.get?_push_of_some _ (Heap.get?_push_size _ rfl)))
  have g1 : (zh5 b1 b2 s.heap l1 l2).get? s.heap.objs.size = some _ := Heap.get?_push_of_some _ (Heap.get?_push_of_some _ (Heap.get?_push_of_some _ (Heap.get?_push_of_some _ (Heap.get?_push_size _ rfl))))
  show _ ∧ _
  rw [z2, z3, z4] at g5
  rw [z1, z2] at g3
  rw [z3] at g4
  rw [z1] at g2
  rw [z4]
  refine ⟨⟨_, g5, rfl⟩, h _ g5 g3 g4 ?_ ?_ z5 fun c o x => Heap.get?_push_of_some _ (Heap.get?_push_of_some _ (Heap.get?_push_of_some _ (Heap.get?_push_of_some _ (Heap.get?_push_of_some _ x))))⟩
  · cases b1 with
    | true => exact (show Heap.IsTupleIter _ _ _ _ from ⟨_, g1, rfl, rfl⟩)
    | false => exact (show Heap.IsListIter _ _ _ _ from ⟨_, g1, rfl, rfl⟩)
  · cases b2 with
    | true => exact (show Heap.IsTupleIter _ _ _ _ from ⟨_, g2, rfl, rfl⟩)
    | false => exact (show Heap.IsListIter _ _ _ _ from ⟨_, g2, rfl, rfl⟩)
theorem pyNext_zipG_item {b1 b2 : Bool} {z TI TO i1 i2 l1 l2 : Addr} {k1 k2 : Nat} {xs ys : Array Value} {x y a b : Value} {Q : Option Value → Shared → Prop} (D : ZipApart z TI TO i1 i2 l1 l2)
    (hz : IsZip s.heap z TI TO .none) (hTI : IsPair s.heap TI (.ref i1) (.ref i2)) (hTO : IsPair s.heap TO a b)
    (h1 : SIt b1 s.heap i1 l1 k1) (h2 : SIt b2 s.heap i2 l2 k2) (hl1 : SSq b1 s.heap l1 xs) (hl2 : SSq b2 s.heap l2 ys) (hx : xs[k1]? = some x) (hy : ys[k2]? = some y)
    (hQ : ∀ h', IsZip h' z TI TO (rawInt s.heap.objs.size) → IsPair h' TO x y → SIt b1 h' i1 l1 (k1 + 1) → SIt b2 h' i2 l2 (k2 + 1) → IsPair h' s.heap.objs.size x y → h'.objs.size = s.heap.objs.size + 1 →
      (∀ c o, c ≠ z → c ≠ TO → c ≠ i1 → c ≠ i2 → s.heap.get? c = some o → h'.get? c = some o) → Q (some (.ref s.heap.objs.size)) { s with heap := h' }) :
    wpAny (model prog w) A (pyNext (.ref z)) Q E s := by
  have hT : s.TypeIs (.ref z) "zip" := ⟨_, hz, rfl⟩
  unfold pyNext
  exact wpAny_bind (wpAny_attempt (wpAny_callSpecial?_slot (name := Str.ofString "__next__") hT F.slot_zip_next (wpAny_call_entry F.slot_zip_next hT F.entry_zip_next
      (zip_item D hz hTI hTO h1 h2 hl1 hl2 hx hy fun h' a1 a2 a3 a4 a5 a6 a7 => wpAny_pure (hQ h' a1 a2 a3 a4 a5 a6 a7)) (F.args_zip_next_1 _))))
theorem pyNext_zipG_end {b1 b2 : Bool} {z TI TO i1 i2 l1 l2 : Addr} {k1 k2 : Nat} {xs ys : Array Value} {a b : Value} {Q : Option Value → Shared → Prop} (hh : A.handled = none) (D : ZipApart z TI TO i1 i2 l1 l2)
    (hz : IsZip s.heap z TI TO .none) (hTI : IsPair s.heap TI (.ref i1) (.ref i2)) (hTO : IsPair s.heap TO a b)
    (h1 : SIt b1 s.heap i1 l1 k1) (h2 : SIt b2 s.heap i2 l2 k2) (hl1 : SSq b1 s.heap l1 xs) (hl2 : SSq b2 s.heap l2 ys) (hend : xs[k1]? = none ∨ ys[k2]? = none)
    (hQ : ∀ h', (∀ c o, c ≠ z → c ≠ TO → c ≠ i1 → c ≠ i2 → s.heap.get? c = some o → h'.get? c = some o) → Q none { s with heap := h' }) : wpAny (model prog w) A (pyNext (.ref z)) Q E s := by
  have hT : s.TypeIs (.ref z) "zip" := ⟨_, hz, rfl⟩
  unfold pyNext
  refine wpAny_bind (wpAny_attempt (wpAny_callSpecial?_slot (name := Str.ofString "__next__") hT F.slot_zip_next (wpAny_call_entry F.slot_zip_next hT F.entry_zip_next (zip_end hh D hz hTI hTO h1 h2 hl1 hl2 hend fun h' e hk he => ?_) (F.args_zip_next_1 _))))
  obtain ⟨o, ho, hc⟩ := he
  exact wpAny_bind (wpAny_isInstance (T := "StopIteration") (b := true) ⟨o, ho, hc⟩ isSubtype_stop (wpAny_pure (hQ _ hk)))
end
theorem SqA.get {X : Cx} {pins : List (Addr × Obj)} {σ : L2.St} {H : Hp} {s : Shared} {a : Addr} {xs : List V} {b : Bool} (I : Inv X pins σ H s) (h : SqA X.K b H a xs) : ∃ its : List Value, Vals xs its ∧ SSq b s.heap a its.toArray := by
  cases b with
  | true => obtain ⟨its, r, p, _⟩ := I.tuple (show SqT X.K H a xs from h); exact ⟨its, r, p⟩
  | false => obtain ⟨its, r, p, _⟩ := I.list (show SqL X.K H a xs from h); exact ⟨its, r, p.isList⟩
theorem SqA.inj {X : Cx} {pins : List (Addr × Obj)} {σ : L2.St} {H : Hp} {s : Shared} {a : Addr} {xs ys : List V} {b : Bool} (I : Inv X pins σ H s) (h : SqA X.K b H a xs) (h' : SqA X.K b H a ys) : xs = ys := by
  cases b with
  | true => exact I.tuple_inj (show SqT X.K H a xs from h) h'
  | false => exact I.list_inj (show SqL X.K H a xs from h) h'
def ItzG (K : PySem.W.Frag) (b1 b2 : Bool) (a b : Addr) : It :=
  ⟨fun i H => ∃ (xs ys : List V) (x y : V), SqA K b1 H a xs ∧ SqA K b2 H b ys ∧ xs[i]? = some x ∧ ys[i]? = some y,
    fun i H v H' => ∃ T x y, v = .ref T ∧ H T = none ∧ H' = upd H T (.tup [x, y]) ∧ (∀ xs, SqA K b1 H a xs → xs[i]? = some x) ∧ ∀ ys, SqA K b2 H b ys → ys[i]? = some y,
    fun i H => ∃ xs ys : List V, SqA K b1 H a xs ∧ SqA K b2 H b ys ∧ (xs.length ≤ i ∨ ys.length ≤ i)⟩
theorem turn_zipG {P : Program} {w : World} {K : PySem.W.Frag} {elts : List Expr} {kk : Nat} {tpos : Pos} {b1 b2 : Bool} {a b z TI TO i1 i2 : Addr} (D : ZipApart z TI TO i1 i2 a b) :
    Turn P w K (.Tuple elts kk tpos) (ItzG K b1 b2 a b) [z, TI, TO, i1, i2] z (fun i h => IsZip h z TI TO .none ∧ IsPair h TI (.ref i1) (.ref i2) ∧ (∃ x y, IsPair h TO x y) ∧ SIt b1 h i1 a i ∧ SIt b2 h i2 b i) where
  mem := by simp
  obj := fun i h st c hc => by
    obtain ⟨hz, hTI, ⟨x, y, hTO⟩, h1, h2⟩ := st
    obtain ⟨o1, e1, _, d1, d1'⟩ := h1.obj
    obtain ⟨o2, e2, _, d2, d2'⟩ := h2.obj
    have e' : c = z ∨ c = TI ∨ c = TO ∨ c = i1 ∨ c = i2 := by simpa using hc
    rcases e' with q | q | q | q | q
    · rw [q]; exact ⟨_, hz, fun v q => nomatch q⟩
    · rw [q]; exact ⟨_, hTI, fun v q => nomatch q⟩
    · rw [q]; exact ⟨_, hTO, fun v q => nomatch q⟩
    · rw [q]; exact ⟨o1, e1, fun v q => by rw [d1'] at q; cases q⟩
    · rw [q]; exact ⟨o2, e2, fun v q => by rw [d2'] at q; cases q⟩
  keep := fun i h h' st k => by
    obtain ⟨hz, hTI, ⟨x, y, hTO⟩, h1, h2⟩ := st
    exact ⟨k z (by simp) _ hz, k TI (by simp) _ hTI, ⟨x, y, k TO (by simp) _ hTO⟩, h1.at fun o q => k i1 (by simp) o q, h2.at fun o q => k i2 (by simp) o q⟩
  item := by
    intro X hP hw hK hc i pins s σ H E I hf st hg
    subst hP hw hK
    obtain ⟨hz, hTI, ⟨x0, y0, hTO⟩, h1, h2⟩ := st
    obtain ⟨xs, ys, x, y, hqx, hqy, hx, hy⟩ := hg
    obtain ⟨its, rv, p⟩ := hqx.get I
    obtain ⟨its2, rv2, p2⟩ := hqy.get I
    obtain ⟨u, hu, ru⟩ := rv.get hx
    obtain ⟨u2, hu2, ru2⟩ := rv2.get hy
    have hzl : z < s.heap.objs.size := Heap.lt_size hz
    refine pyNext_zipG_item D hz hTI hTO h1 h2 p p2 (x := u) (y := u2) (by simpa using hu) (by simpa using hu2) fun h' z' TO' h1' h2' hT hsz hk => ?_
    refine ⟨_, rfl, wpAny_letOwnedTupleGo_zip (s := { s with heap := h' }) z' fun h'' z'' sb => ?_⟩
    have hT2 : h''.get? s.heap.objs.size = some { cls := .type "tuple", data := .seq #[u, u2] } := (sb.2 _ (Nat.ne_of_gt hzl)).trans hT
    have new : ObjOk X.prog X.w (upd H s.heap.objs.size (.tup [x, y])) h'' s.heap.objs.size (.tup [x, y]) :=
      ⟨by show 2 ≤ sizeLine; decide, [u, u2], .cons ru (.cons ru2 .nil), ⟨_, hT2, rfl, _, rfl⟩⟩
    have nm : ∀ c, c ∉ [z, TI, TO, i1, i2] → c ≠ z ∧ c ≠ TO ∧ c ≠ i1 ∧ c ≠ i2 := fun c hb => ⟨fun q => hb (by simp [q]), fun q => hb (by simp [q]), fun q => hb (by simp [q]), fun q => hb (by simp [q])⟩
    have I1 : Inv X pins σ (upd H s.heap.objs.size (.tup [x, y])) { s with heap := h'' } :=
      I.turnedNew (t' := s.toks) (ch := [z, TI, TO, i1, i2]) (fun c o hb q => (sb.2 c (nm c hb).1).trans (hk c o (nm c hb).1 (nm c hb).2.1 (nm c hb).2.2.1 (nm c hb).2.2.2 q)) hf (Nat.le_refl _) new
    refine ⟨.ref s.heap.objs.size, _, I1, rfl, ⟨_, x, y, rfl, I.hok.fresh (Nat.le_refl _), rfl, fun l hl => by rw [hl.inj I hqx]; exact hx, fun l hl => by rw [hl.inj I hqy]; exact hy⟩, ⟨z'', ?_, ⟨u, u2, ?_⟩, ?_, ?_⟩, fun c hcm => ?_⟩
    · exact (sb.2 _ D.TIz).trans (hk _ _ D.TIz D.TITO D.TIi1 D.TIi2 hTI)
    · exact (sb.2 _ D.TOz).trans TO'
    · exact h1'.at fun o q => (sb.2 _ D.i1z).trans q
    · exact h2'.at fun o q => (sb.2 _ D.i2z).trans q
    · have hlt : c < s.heap.objs.size := by
        have e' : c = z ∨ c = TI ∨ c = TO ∨ c = i1 ∨ c = i2 := by simpa using hcm
        rcases e' with q | q | q | q | q
        · rw [q]; exact hzl
        · rw [q]; exact Heap.lt_size hTI
        · rw [q]; exact Heap.lt_size hTO
        · rw [q]; obtain ⟨_, e1, _⟩ := h1.obj; exact Heap.lt_size e1
        · rw [q]; obtain ⟨_, e2, _⟩ := h2.obj; exact Heap.lt_size e2
      rw [upd_ne (Nat.ne_of_lt hlt)]
      exact (hf c hcm).1
  done := by
    intro X hP hw hK hc i pins s σ H E I hf st hg
    subst hP hw hK
    obtain ⟨hz, hTI, ⟨x0, y0, hTO⟩, h1, h2⟩ := st
    obtain ⟨xs, ys, hqx, hqy, hend⟩ := hg
    obtain ⟨its, rv, p⟩ := hqx.get I
    obtain ⟨its2, rv2, p2⟩ := hqy.get I
    have l1 := rv.length
    have l2 := rv2.length
    have he : its.toArray[i]? = none ∨ its2.toArray[i]? = none := by
      rcases hend with q | q
      · exact .inl (by simp; omega)
      · exact .inr (by simp; omega)
    have nm : ∀ c, c ∉ [z, TI, TO, i1, i2] → c ≠ z ∧ c ≠ TO ∧ c ≠ i1 ∧ c ≠ i2 := fun c hb => ⟨fun q => hb (by simp [q]), fun q => hb (by simp [q]), fun q => hb (by simp [q]), fun q => hb (by simp [q])⟩
    exact pyNext_zipG_end (I.ok.hd hc) D hz hTI hTO h1 h2 p p2 he fun h' hk => ⟨rfl, I.turnedL (t' := s.toks) (ch := [z, TI, TO, i1, i2]) (fun c o hb q => hk c o (nm c hb).1 (nm c hb).2.1 (nm c hb).2.2.1 (nm c hb).2.2.2 q) hf⟩
  self := fun A i s Q E st h => wpAny_pyIter_zip st.1 h
def iZipG (K : PySem.W.Frag) (ta : TA) : TI := fun σ H R => ta σ H fun vs H1 => ∃ b1 b2 a b xs ys, vs = [.ref a, .ref b] ∧ SqA K b1 H1 a xs ∧ SqA K b2 H1 b ys ∧ R (ItzG K b1 b2 a b) H1
theorem pi_zipG {X : Cx} {e e2 : Expr} {ta : TA} {p pos tpos : Pos} {elts : List Expr} {kk : Nat} (hg : Gl X "zip") (hm : X.mg "zip" = none) (ha : PA X [e, e2] ta)
    (hs : starEach [e, e2] X.env = (false, eval e X.env) :: starEach [e2] X.env := by rfl) (hpl : (backTo pos (starEach [e2] X.env)).any (·.1) = false := by rfl) :
    PI X (.Tuple elts kk tpos) (.Call (.Name "zip" p) [e, e2] [] pos) (iZipG X.K ta) := by
  refine ⟨fun pins s σ H R I h => ?_⟩
  refine Call_ (ld_blt I hg hm PyProof.Rows.boot_zip (PyProof.Rows.callWith_type1 (thn (ha.run pos pins s σ H _ I h) fun us s1 ⟨vs, H1, I1, r1, q1⟩ => ?_) hs hpl))
  obtain ⟨b1, b2, a, b, xs, ys, ex, hqx, hqy, q⟩ := q1
  subst ex
  cases r1 with
  | cons r rr =>
    cases rr with
    | cons r' rr =>
      cases rr
      cases r
      cases r'
      obtain ⟨its, rv, p1⟩ := hqx.get I1
      obtain ⟨its2, rv2, p2⟩ := hqy.get I1
      obtain ⟨o1, ho1⟩ := p1.obj
      obtain ⟨o2, ho2⟩ := p2.obj
      refine call_zipG p1 p2 fun h' hz hTI hTO h1 h2 hsz hk => wpAny_pyIter_zip hz ?_
      have I2 : Inv X pins σ H1 { s1 with heap := h' } := I1.kept (t' := s1.toks) hk
      refine ⟨s1.heap.objs.size + 4, [s1.heap.objs.size + 4, s1.heap.objs.size + 2, s1.heap.objs.size + 3, s1.heap.objs.size, s1.heap.objs.size + 1], _, _, H1, rfl, I2, turn_zipG (PySem.W.ktu_apart s1.heap.objs.size a b (Heap.lt_size ho1) (Heap.lt_size ho2)), ⟨hz, hTI, ⟨_, _, hTO⟩, h1, h2⟩, fun c hcm => ?_, q⟩
      have hle : s1.heap.objs.size ≤ c := by
        simp only [List.mem_cons, List.not_mem_nil, or_false] at hcm
        rcases hcm with z | z | z | z | z <;> (rw [z]; first | exact Nat.le_refl _ | exact Nat.le_add_right _ _)
      exact I1.fpOk hle (I1.hok.fresh hle)
end Wv

set_option Elab.async false
set_option linter.all false
set_option maxRecDepth 100000
set_option maxHeartbeats 2000000
namespace Wv
open PySem PySem.Spec PyProof.Rows L2
/-! ### enumerate -/
theorem draws_sq {prog : Program} {w : World} {A : Around} (b : Bool) (hh : A.handled = none) (it l : Addr) (hne : l ≠ it) (items : Array Value) :
    Draws prog w A it [it, l] items.size (fun i v => items[i]? = some v) (fun i h => SIt b h it l i ∧ SSq b h l items) where
  live := fun _ _ st => let ⟨o, ho, _⟩ := st.1.obj; ⟨o, ho⟩
  frame := fun _ _ _ st hk => ⟨st.1.at fun o e => hk it (by simp) o e, st.2.at fun o e => hk l (by simp) o e⟩
  item := fun i s Q E hi st hQ => nextOf_item st.1 st.2 (x := items[i]) (by simp [hi]) fun h' a sb => hQ _ h' s.toks (by simp [hi]) ⟨a, st.2.at fun o e => sb.extBut l o hne e⟩ sb
  done := fun s Q E st hE => nextOf_end hh st.1 st.2 (by simp) hE
theorem meets_enum_new (b : Bool) (l : Addr) (items : Array Value) :
    Meets (Builtin.«enumerate.__new__» ⟨[.type "enumerate", .ref l], []⟩) (fun _ R s => SSq b s.heap l items ∧
      R (.ok (.ret (.ref (s.heap.push { cls := .type (SqN b), data := .fields #[.ref l, .int 0 0] }).objs.size)))
        { s with heap := (s.heap.push { cls := .type (SqN b), data := .fields #[.ref l, .int 0 0] }).push { cls := .type "enumerate", data := .fields #[.none, .bool false, .ref s.heap.objs.size, rawInt 0, .none, .none] } }) :=
  .of_wp fun prog w A R s h => by
    obtain ⟨hp, g, d, tk, os⟩ := s
    obtain ⟨hl, h⟩ := h
    have hsub := sub_enumerate
    have hL : SSq b (Shared.heap ⟨hp, g, d, tk, os⟩) l items := hl
    wp_walk
    refine wpAny_stack_any fun st => wpAny_pure ?_
    split
    · rename_i c _ _ _ _ _
      cases (c == Value.type "enumerate") <;> (wp_walk using iter_sq hL; exact ⟨_, rfl, h⟩)
    · wp_walk using iter_sq hL
      exact ⟨_, rfl, h⟩
theorem call_enumG {prog : Program} {w : World} {A : Around} {E : Value → Shared → Prop} {s : Shared} {b : Bool} {l : Addr} {items : Array Value} {Q : Value → Shared → Prop} (hL : SSq b s.heap l items)
    (h : ∀ h', IsEnum h' (s.heap.objs.size + 1) s.heap.objs.size 0 .none → SIt b h' s.heap.objs.size l 0 → (∀ c o, s.heap.get? c = some o → h'.get? c = some o) → Q (.ref (s.heap.objs.size + 1)) { s with heap := h' }) :
    wpAny (model prog w) A (call (.type "enumerate") [.ref l]) Q E s := by
  refine callType_new F.called_enumerate (by decide) (F.typeCall_enumerate_1 _) (F.newCall_enumerate_1 _) (fun obj => F.args_object_init_2 obj _) F.entry_enumerate_new (meets_enum_new b l items) ⟨hL, ?_⟩
  have hz : (s.heap.push { cls := .type (SqN b), data := .fields #[.ref l, .int 0 0] }).objs.size = s.heap.objs.size + 1 := Heap.size_push ..
  show _ ∧ _
  rw [hz]
  have he : IsEnum ((s.heap.push { cls := .type (SqN b), data := .fields #[.ref l, .int 0 0] }).push { cls := .type "enumerate", data := .fields #[.none, .bool false, .ref s.heap.objs.size, rawInt 0, .none, .none] }) (s.heap.objs.size + 1) s.heap.objs.size 0 .none := by
    have q := Heap.get?_push_size (s.heap.push { cls := .type (SqN b), data := .fields #[.ref l, .int 0 0] }) (o := { cls := .type "enumerate", data := .fields #[.none, .bool false, .ref s.heap.objs.size, rawInt 0, .none, .none] }) rfl
    rw [hz] at q
    exact q
  refine ⟨⟨_, he, rfl⟩, h _ he ?_ fun c o x => Heap.get?_push_of_some _ (Heap.get?_push_of_some _ x)⟩
  have g1 := Heap.get?_push_of_some { cls := .type "enumerate", data := .fields #[.none, .bool false, .ref s.heap.objs.size, rawInt 0, .none, .none] } (Heap.get?_push_size s.heap (o := { cls := .type (SqN b), data := .fields #[.ref l, .int 0 0] }) rfl)
  cases b with
  | true => exact (show Heap.IsTupleIter _ _ _ _ from ⟨_, g1, rfl, rfl⟩)
  | false => exact (show Heap.IsListIter _ _ _ _ from ⟨_, g1, rfl, rfl⟩)
def IteG (K : PySem.W.Frag) (b : Bool) (a : Addr) : It :=
  ⟨fun i H => ∃ (xs : List V) (x : V), SqA K b H a xs ∧ xs[i]? = some x, fun i H v H' => ∃ T x, v = .ref T ∧ H T = none ∧ H' = upd H T (.tup [.int (i : Nat), x]) ∧ ∀ xs, SqA K b H a xs → xs[i]? = some x, fun i H => ∃ xs : List V, SqA K b H a xs ∧ xs.length = i⟩
theorem turn_enumG {P : Program} {w : World} {K : PySem.W.Frag} {elts : List Expr} {kk : Nat} {tpos : Pos} {b : Bool} (a e it : Addr) (hae : a ≠ e) (hai : a ≠ it) (hei : e ≠ it) :
    Turn P w K (.Tuple elts kk tpos) (IteG K b a) [e, it] e (fun i h => (∃ old, IsEnum h e it ((i : Nat) : Int) old) ∧ SIt b h it a i) where
  mem := by simp
  obj := fun i h st c hc => by
    obtain ⟨⟨old, he⟩, h1⟩ := st
    obtain ⟨o, ho, _, vs, hd⟩ := h1.obj
    have e' : c = e ∨ c = it := by simpa using hc
    rcases e' with z | z
    · rw [z]; exact ⟨_, he, fun v q => nomatch q⟩
    · rw [z]; exact ⟨o, ho, fun v q => by rw [hd] at q; cases q⟩
  keep := fun i h h' st k => let ⟨⟨old, he⟩, hi⟩ := st; ⟨⟨old, k e (by simp) _ he⟩, hi.at fun o q => k it (by simp) o q⟩
  item := by
    intro X hP hw hK hc i pins s σ H E I hf st hg
    subst hP hw hK
    obtain ⟨⟨old, he⟩, hit⟩ := st
    obtain ⟨xs, x, hq, hx⟩ := hg
    obtain ⟨its, rv, p⟩ := hq.get I
    obtain ⟨u, hu, ru⟩ := rv.get hx
    have hel : e < s.heap.objs.size := Heap.lt_size he
    obtain ⟨oi, hoi, _⟩ := hit.obj
    have hil : it < s.heap.objs.size := Heap.lt_size hoi
    have hil2 : i < its.toArray.size := by
      have := (List.getElem?_eq_some_iff.mp hu).1
      simpa using this
    refine wpAny_pyNext_enum_itemD (draws_sq b (A := X.A.in1) (I.ok.hd hc) it a hai its.toArray) he ⟨hit, p⟩ hil2 hei (by simp; exact ⟨hei, hae.symm⟩) fun y h' tk hy ho hst hT hsz hk => ?_
    have ey : y = u := by
      have : its[i]? = some y := by simpa using hy
      rw [hu] at this
      exact (Option.some.inj this).symm
    subst ey
    refine ⟨_, rfl, wpAny_letOwnedTupleGo_enum (s := { s with heap := h', toks := tk + 1 }) ho fun h'' he' sb => ?_⟩
    have hT2 : h''.get? s.heap.objs.size = some { cls := .type "tuple", data := .seq #[.int i tk, y] } := (sb.2 _ (Nat.ne_of_gt hel)).trans hT
    have new : ObjOk X.prog X.w (upd H s.heap.objs.size (.tup [.int (i : Nat), x])) h'' s.heap.objs.size (.tup [.int (i : Nat), x]) :=
      ⟨by show 2 ≤ sizeLine; decide, [.int i tk, y], .cons ⟨_, rfl⟩ (.cons ru .nil), ⟨_, hT2, rfl, _, rfl⟩⟩
    have I1 : Inv X pins σ (upd H s.heap.objs.size (.tup [.int (i : Nat), x])) { s with heap := h'', toks := tk + 1 } :=
      I.turnedNew (ch := [e, it]) (fun c ob hb q => (sb.2 c (fun z => hb (by simp [z]))).trans (hk c ob (fun z => hb (by simp [z])) (fun z => hb (by simp [z])) q)) hf (Nat.le_refl _) new
    refine ⟨.ref s.heap.objs.size, _, I1, rfl, ⟨_, x, rfl, I.hok.fresh (Nat.le_refl _), rfl, fun ys hy => by rw [hy.inj I hq]; exact hx⟩, ⟨⟨y, ?_⟩, hst.1.at fun o q => (sb.2 it (Ne.symm hei)).trans q⟩, fun c hb => ?_⟩
    · have e1 : ((i + 1 : Nat) : Int) = (i : Int) + 1 := by omega
      rw [e1]
      exact he'
    · have hb' : c < s.heap.objs.size := by
        have e' : c = e ∨ c = it := by simpa using hb
        rcases e' with z | z
        · rw [z]; exact hel
        · rw [z]; exact hil
      rw [upd_ne (Nat.ne_of_lt hb')]
      exact (hf c hb).1
  done := by
    intro X hP hw hK hc i pins s σ H E I hf st hg
    subst hP hw hK
    obtain ⟨⟨old, he⟩, hit⟩ := st
    obtain ⟨xs, hq, hx⟩ := hg
    obtain ⟨its, rv, p⟩ := hq.get I
    obtain ⟨f0, f1, f2, f3, f4, f5⟩ := hf it (by simp)
    have hl := rv.length
    have hn : its.toArray.size = i := by rw [List.size_toArray]; omega
    exact wpAny_pyNext_enum_endD (draws_sq b (A := X.A.in1) (I.ok.hd hc) it a hai its.toArray) he ⟨by rw [hn]; exact hit, p⟩ fun h' eb => ⟨rfl, I.turned (t' := s.toks) (fun c o hb q => eb c o hb q) f0 f1 f3 f4 f5⟩
  self := fun A i s Q E st h => let ⟨⟨_, he⟩, _⟩ := st; wpAny_pyIter_enum he h
def iEnumG (K : PySem.W.Frag) (ta : TA) : TI := fun σ H R => ta σ H fun vs H1 => ∃ b a xs, vs = [.ref a] ∧ SqA K b H1 a xs ∧ R (IteG K b a) H1
theorem pi_enumG {X : Cx} {e : Expr} {ta : TA} {p pos tpos : Pos} {elts : List Expr} {kk : Nat} (hg : Gl X "enumerate") (hm : X.mg "enumerate" = none) (ha : PA X [e] ta) (hs : starEach [e] X.env = [(false, eval e X.env)] := by rfl) :
    PI X (.Tuple elts kk tpos) (.Call (.Name "enumerate" p) [e] [] pos) (iEnumG X.K ta) := by
  refine ⟨fun pins s σ H R I h => ?_⟩
  refine Call_ (ld_blt I hg hm boot_enumerate (PyProof.Rows.callWith_type1 (thn (ha.run pos pins s σ H _ I h) fun us s1 ⟨vs, H1, I1, r1, q1⟩ => ?_) hs rfl))
  obtain ⟨b, a, xs, ex, hq, q⟩ := q1
  subst ex
  cases r1 with
  | cons r rr =>
    cases rr
    cases r
    obtain ⟨its, rv, p'⟩ := hq.get I1
    obtain ⟨oa, hoa⟩ := p'.obj
    have hal : a < s1.heap.objs.size := Heap.lt_size hoa
    refine call_enumG p' fun h' he hit hk => wpAny_pyIter_enum he ?_
    have I2 : Inv X pins σ H1 { s1 with heap := h' } := I1.kept (t' := s1.toks) hk
    refine ⟨s1.heap.objs.size + 1, [s1.heap.objs.size + 1, s1.heap.objs.size], _, _, H1, rfl, I2, turn_enumG a (s1.heap.objs.size + 1) s1.heap.objs.size (Nat.ne_of_lt (Nat.lt_succ_of_lt hal)) (Nat.ne_of_lt hal) (Nat.succ_ne_self _), ⟨⟨.none, he⟩, hit⟩, fun c hb => ?_, q⟩
    have e' : c = s1.heap.objs.size + 1 ∨ c = s1.heap.objs.size := by simpa using hb
    have hle : s1.heap.objs.size ≤ c := by
      rcases e' with z | z
      · rw [z]; exact Nat.le_add_right _ _
      · rw [z]; exact Nat.le_refl _
    exact I1.fpOk hle (I1.hok.fresh hle)
/-! ### sorted of ints, a list or a tuple -/
section
variable {prog : Program} {w : World} {A : Around} {E : Value → Shared → Prop} {s : Shared}
theorem collect_tup {l : Addr} {vs : List Value} {Q : List Value → Shared → Prop} (hl : s.heap.IsTuple l vs.toArray)
    (h : Q vs { s with heap := (s.heap.push (seqObj "list" #[] 0)).update s.heap.objs.size (Obj.mapSeq (· ++ vs.toArray)) }) (hsz : vs.length ≤ sizeLine) : wpAny (model prog w) A (collect (.ref l)) Q E s := by
  obtain ⟨o, ho, hc, n, hd⟩ := id hl
  unfold collect
  refine wpAny_bind (wpAny_runValue (codeAny_builtin entry_proto_collect' ?_))
  show wpAny _ _ (do again (.builtin "list.__iadd__" ⟨[← newList [], .ref l], []⟩)) _ _ s
  refine wpAny_bind (wpAny_newList (wpAny_pure ⟨Code.quiet_builtin _ (by decide +kernel), codeAny_builtin entry_list_iadd' ?_⟩))
  show wpAny _ _ (Builtin.List.listExtendWith (.ref s.heap.objs.size) (.ref l) (.ref s.heap.objs.size)) _ _ { s with heap := s.heap.push (seqObj "list" #[] 0) }
  unfold Builtin.List.listExtendWith
  have ho' : (s.heap.push (seqObj "list" #[] 0)).get? l = some o := Heap.get?_push_of_some _ ho
  refine wpAny_bind (wpAny_typeOf (T := "tuple") ⟨o, ho', hc⟩ ?_)
  have ht : (Value.type "tuple" == Value.type "tuple") = true := by rfl
  rw [if_pos (by rw [ht]; simp)]
  refine wpAny_bind (listItems_at ho' hd (wpAny_bind (listItems_at (xs := #[]) (n := 0) (Heap.get?_push_size _ rfl) rfl ?_)))
  rw [if_neg (by simp)]
  refine wpAny_bind (listUpdate_at (xs := #[]) (n := 0) (Heap.get?_push_size _ rfl) rfl ?_ (Nat.zero_le _) (by show (#[] ++ vs.toArray).size ≤ sizeLine + 1; simp only [Array.size_append, List.size_toArray, List.length_nil]; omega))
  refine wpAny_pure ?_
  show wpAny (model prog w) A (do
      let o ← load s.heap.objs.size
      match o.data with
      | .seq xs _ => pure xs.toList
      | _ => unsupported "internal:collect") Q E { s with heap := (s.heap.push (seqObj "list" #[] 0)).update s.heap.objs.size (Obj.mapSeq (· ++ vs.toArray)) }
  refine wpAny_bind (wpAny_load (get?_update_seq (Heap.get?_push_size _ rfl) _) ?_)
  show wpAny _ _ (pure ((#[] : Array Value) ++ vs.toArray).toList) Q E _
  rw [show ((#[] : Array Value) ++ vs.toArray).toList = vs by simp]
  exact wpAny_pure h
theorem sorted_sq {b : Bool} {l : Addr} {vs : List Value} {ltv : Value → Value → Bool} {Q : Value → Shared → Prop} (O : SrtO.Swo ltv) (hl : SSq b s.heap l vs.toArray) (hz : vs.length ≤ sizeLine)
    (hS : 2 ≤ vs.length → ∀ (h1 : Heap) (a : Addr), h1.get? a = some (seqObj "list" vs.toArray 0) → (∀ b o, s.heap.get? b = some o → b ≠ a ∧ h1.get? b = some o) → SrtO.SortableO prog w A.in1.in1 { s with heap := h1 } a vs ltv)
    (h : ∀ out : List Value, SrtO.Srtd ltv out → SrtO.Stb ltv out vs → Q (.ref (s.heap.objs.size + 1)) { s with heap := sortedAll s.heap vs out.toArray }) :
    wpAny (model prog w) A (call (.builtin "sorted") [.ref l]) Q E s := by
  cases b with
  | false => exact SrtO.sorted_ord O (show s.heap.IsList l vs.toArray from hl) hz hS h
  | true =>
    refine Calls.call_function_entry kind_sorted plain_sorted entry_sorted (args_sorted1 _) ?_
    unfold Builtin.«sorted»
    refine wpAny_bind (m := checkCount "sorted" 1 1 _) (wpAny_pure (wpAny_bind (collect_tup (show s.heap.IsTuple l vs.toArray from hl) (wpAny_bind (wpAny_newList ?_ hz)) hz)))
    have hsz : ((s.heap.push (seqObj "list" #[] 0)).update s.heap.objs.size (Obj.mapSeq (· ++ vs.toArray))).objs.size = s.heap.objs.size + 1 := by
      rw [Heap.size_update, size_push']
    have hoL : (((s.heap.push (seqObj "list" #[] 0)).update s.heap.objs.size (Obj.mapSeq (· ++ vs.toArray))).push (seqObj "list" vs.toArray 0)).get? (s.heap.objs.size + 1) = some (seqObj "list" vs.toArray 0) := by
      rw [← hsz]; exact Heap.get?_push_size _ rfl
    have keep : ∀ b o, s.heap.get? b = some o → b ≠ s.heap.objs.size + 1 ∧ (((s.heap.push (seqObj "list" #[] 0)).update s.heap.objs.size (Obj.mapSeq (· ++ vs.toArray))).push (seqObj "list" vs.toArray 0)).get? b = some o := fun b o q => by
      have hlt : b < s.heap.objs.size := Heap.lt_size q
      refine ⟨Nat.ne_of_lt (Nat.lt_succ_of_lt hlt), Heap.get?_push_of_some _ ?_⟩
      rw [Heap.get?_update_ne _ _ _ _ (Nat.ne_of_lt hlt)]
      exact Heap.get?_push_of_some _ q
    show wpAny _ _ _ _ _ { s with heap := ((s.heap.push (seqObj "list" #[] 0)).update s.heap.objs.size (Obj.mapSeq (· ++ vs.toArray))).push (seqObj "list" vs.toArray 0) }
    rw [hsz]
    refine wpAny_bind (wpAny_holding (wpAny_call_entry slot_list_sort ⟨_, hoL, rfl⟩ entry_list_sort (SrtO.list_sort_ord O hoL hz (fun h2 => hS h2 _ _ hoL keep) fun out hs hb => ⟨_, rfl, ?_⟩) (args_list_sort _)))
    exact wpAny_pure ⟨_, rfl, h out hs hb⟩
end
def rSortG (K : PySem.W.Frag) : List V → Hp → VK → Prop := fun vs H Q => ∃ (b : Bool) (a : Addr) (ns : List Int), vs = [V.ref a] ∧ SqA K b H a (ns.map V.int) ∧
  ∀ (ns' : List Int) (p : Addr), ns'.Perm ns → ns'.Pairwise (· ≤ ·) → H p = none → Q (.ref p) (upd H p (.lst (ns'.map V.int)))
theorem SqA.len {X : Cx} {pins : List (Addr × Obj)} {σ : L2.St} {H : Hp} {s : Shared} {a : Addr} {xs : List V} {b : Bool} (I : Inv X pins σ H s) (h : SqA X.K b H a xs) : xs.length ≤ sizeLine := by
  cases b with
  | true => obtain ⟨its, r, p, z⟩ := I.tuple (show SqT X.K H a xs from h); exact z
  | false => obtain ⟨its, r, p, z⟩ := I.list (show SqL X.K H a xs from h); exact z
theorem cr_sortG {X : Cx} : CallR X (.builtin "sorted") (rSortG X.K) := by
  intro pins s σ H vs us Q I r h
  obtain ⟨b, a, ns, rfl, hs, q⟩ := h
  obtain ⟨its, rv, hl⟩ := hs.get I
  have hz := hs.len I
  rw [Vals.ref1 r]
  have hi := rv.ints
  refine sorted_sq SrtO.swo_int hl (by rw [← rv.length]; exact hz) (fun h2 h1 a' _ _ => SrtO.ints_sortable hi h2) fun out h1 h2 => ?_
  obtain ⟨k1, k2, k3⟩ := SrtO.ints_out hi h1 h2
  obtain ⟨ep, he'⟩ := PyProof.Rows.sortedAll_at s.heap its out.toArray
  have hlen : ((out.map SrtO.iv).map V.int).length ≤ sizeLine := by
    rw [List.length_map, k2.length_eq]
    rw [List.length_map] at hz
    exact hz
  exact ⟨.ref _, upd H (s.heap.objs.size + 1) (.lst ((out.map SrtO.iv).map V.int)), I.laid (t' := s.toks) (fun _ _ => PyProof.Rows.sortedAll_old) (Nat.le_succ _) ⟨hlen, out, ep, vals_of_ints k1, he'⟩, rfl, q _ _ k2 k3 (I.hok.fresh (Nat.le_succ _))⟩
end Wv

set_option Elab.async false
set_option linter.all false
set_option maxRecDepth 100000
set_option maxHeartbeats 2000000
namespace Wv
open PySem PySem.Spec PyProof.Rows L2
/-! ### rules that take each kind -/
section
variable {X : Cx}
def rAddX (K : PySem.W.Frag) : R2 := fun x y H Q => rI0 (fun i j => .int (i + j)) x y H Q ∨ rCatA K x y H Q ∨ rCatL K x y H Q
theorem op_addX : OpR X (binaryOp .Add) (rAddX X.K) := op_add.or (op_catA.or op_catL)
def rInX (K : PySem.W.Frag) : R2 := fun x y H Q => rIn K false x y H Q ∨ rInD K x y H Q
def rNotInX (K : PySem.W.Frag) : R2 := fun x y H Q => rIn K true x y H Q ∨ rNotInD K x y H Q
theorem op_inX (hu : X.A.units + 65 < cLine) : OpR X (compareOp .In) (rInX X.K) := op_in_seq.or (op_inD hu)
theorem op_notInX (hu : X.A.units + 65 < cLine) : OpR X (compareOp .NotIn) (rNotInX X.K) := op_notIn_seq.or (op_notInD hu)
def rSlX (K : PySem.W.Frag) : V → Option Int → Option Int → Hp → VK → Prop := fun x lo hi H Q => rSlL K x lo hi H Q ∨ rSlA K x lo hi H Q
theorem sl_X : SlR X (rSlX X.K) := sl_list.or sl_tupA
def rIsX : R2 := fun x y H Q => (y = .non ∧ Q (.bl (decide (x = .non))) H) ∨ ∃ a b, x = .bl a ∧ y = .bl b ∧ Q (.bl (decide (a = b))) H
def rIsNX : R2 := fun x y H Q => (y = .non ∧ Q (.bl (!decide (x = .non))) H) ∨ ∃ a b, x = .bl a ∧ y = .bl b ∧ Q (.bl (!decide (a = b))) H
theorem op_isX : OpR X (compareOp .Is) rIsX := op_isN.or op_is_bl
theorem op_isNX : OpR X (compareOp .IsNot) rIsNX := op_notN.or op_isnot_bl
def rLenX (K : PySem.W.Frag) : List V → Hp → VK → Prop := fun xs H Q => ∃ p ys, xs = [.ref p] ∧ (SqL K H p ys ∨ SqT K H p ys) ∧ Q (.int ys.length) H
theorem call_lenX : CallR X (.builtin "len") (rLenX X.K) := call_len_seq
def rTupX (K : PySem.W.Frag) : List V → Hp → VK → Prop := fun xs H Q => ∃ p ys, xs = [.ref p] ∧ ((SqL K H p ys ∧ ∀ l, H l = none → Q (.ref l) (upd H l (.tup ys))) ∨ (SqT K H p ys ∧ Q (.ref p) H))
theorem call_tupX : CallR X (.type "tuple") (rTupX X.K) := call_tuple_of
def rLstX (K : PySem.W.Frag) : List V → Hp → VK → Prop := fun xs H Q => ∃ p ys, xs = [.ref p] ∧ (SqL K H p ys ∨ SqT K H p ys) ∧ ∀ l, H l = none → Q (.ref l) (upd H l (.lst ys))
theorem call_lstX : CallR X (.type "list") (rLstX X.K) := call_list_of
def rMax2 : List V → Hp → VK → Prop := fun xs H Q => ∃ i j, xs = [.int i, .int j] ∧ Q (.int (if j > i then j else i)) H
theorem call_max2X (hc : X.calm = true) : CallR X (.builtin "max") rMax2 := call_max2 hc
def rMin2 : List V → Hp → VK → Prop := fun xs H Q => ∃ i j, xs = [.int i, .int j] ∧ Q (.int (if j < i then j else i)) H
theorem call_min2X (hc : X.calm = true) : CallR X (.builtin "min") rMin2 := call_min2 hc
def rInt1 : List V → Hp → VK → Prop := fun xs H Q => (∃ i, xs = [.int i] ∧ Q (.int i) H) ∨ ∃ k, xs = [.bl k] ∧ Q (.int (if k then 1 else 0)) H
theorem call_int1X : CallR X (.type "int") rInt1 := call_int1
def rStr1 : List V → Hp → VK → Prop := fun xs H Q => ∃ i, xs = [.int i] ∧ i.natAbs.log2 < 1920 ∧ Q (.str (toString i)) H
theorem call_str1X : CallR X (.type "str") rStr1 := call_str_int
/-- a < b < c < d -/
def tChain3 (r r' r'' : R2) (ta tb tc td : TE) : TE := fun σ H Q => ta σ H fun x H1 => tb σ H1 fun y H2 => r x y H2 fun z H3 => ∃ k, z = .bl k ∧
  (if k = true then tc σ H3 fun u H4 => r' y u H4 fun z' H5 => ∃ k', z' = .bl k' ∧ (if k' = true then td σ H5 fun v H6 => r'' u v H6 Q else Q (.bl false) H5) else Q (.bl false) H3)
theorem pe_chain3 {a b c d : Expr} {ta tb tc td : TE} {pos : Pos} {op op' op'' : CmpOp} {r r' r'' : R2} (ho : OpR X (compareOp op) r) (ho' : OpR X (compareOp op') r') (ho'' : OpR X (compareOp op'') r'') (ha : PE X a ta) (hb : PE X b tb) (hc : PE X c tc) (hd : PE X d td)
    (hm : lastMarks [op, op', op''] [b, c, d] = false := by with_unfolding_all rfl) : PE X (.Compare a [op, op', op''] [b, c, d] pos) (tChain3 r r' r'' ta tb tc td) := by
  refine ⟨fun pins s σ H Q I h => ?_⟩
  refine Compare_chain (thn (ha.run pins s σ H _ I h) fun v s1 ⟨x, H1, I1, r1, q1⟩ => chain_link (thn (hb.run pins s1 σ H1 _ I1 q1) fun u s2 ⟨y, H2, I2, r2, q2⟩ =>
    thn (ho pins s2 σ H2 x y v u _ I2 r1 r2 q2) fun d' s3 ⟨z, H3, I3, r3, k, e, q3⟩ => ?_)) hm
  subst e
  cases r3
  refine wpAny_truthy_bool ?_
  cases k with
  | false => exact ite_ff ⟨.bl false, H3, I3, rfl, q3⟩
  | true =>
    refine ite_tt (chain_link (thn (hc.run pins s3 σ H3 _ I3 q3) fun w' s4 ⟨z', H4, I4, r4, q4⟩ => thn (ho' pins s4 σ H4 y z' u w' _ I4 r2 r4 q4) fun d2 s5 ⟨z2, H5, I5, r5, k2, e2, q5⟩ => ?_))
    subst e2
    cases r5
    refine wpAny_truthy_bool ?_
    cases k2 with
    | false => exact ite_ff ⟨.bl false, H5, I5, rfl, q5⟩
    | true => exact ite_tt (chain_last (thn (hd.run pins s5 σ H5 _ I5 q5) fun w2 s6 ⟨z3, H6, I6, r6, q6⟩ => ho'' pins s6 σ H6 z' z3 w' w2 Q I6 r4 r6 q6))
end
/-! ### lists to be read -/
inductive RdL (μ : List MO) : Res → List PyData → Prop
  | d (xs : List PyData) : RdL μ (.d (.list xs)) xs
  | m {k : Nat} {xs : List PyData} : μ[k]? = some (MO.lst xs) → RdL μ (.m k) xs
  | s (ns : List Int) : RdL μ (.s ns) (ns.map .int)
/-- lists or tuples to be read -/
inductive RdS (μ : List MO) : Res → List PyData → Prop
  | t (xs : List PyData) : RdS μ (.d (.tuple xs)) xs
  | l {r : Res} {xs : List PyData} : RdL μ r xs → RdS μ r xs
section
variable {K : PySem.W.Frag} {n : Nat} {ds : DSt} {μ : List MO} {te ta tb : TE} {O : Addr → Prop} {A : List Addr} {H : Hp} {P : Res → List MO → Prop} {a b : Res}
theorem RdL.get {r : Res} {xs : List PyData} {v : V} (h : RdL μ r xs) (w : WOk K O A H μ) (q : RepR K O A H v r) : ∃ a vs, v = .ref a ∧ SqL K H a vs ∧ DqAll (hid O H) vs xs := by
  cases h with
  | d xs =>
    cases q with
    | lst h1 h2 => exact ⟨_, _, rfl, SqL.of (of_hid h1).2, h2⟩
  | m h =>
    obtain ⟨a, e, _, _, vs, h1, h2⟩ := w.at h
    obtain ⟨b, e', rfl⟩ := q
    rw [e] at e'; cases e'
    exact ⟨_, _, rfl, SqL.of h1, h2⟩
  | s ns =>
    obtain ⟨a, rfl, h⟩ := q
    exact ⟨a, _, rfl, same_l (hid_le O H) h, ints_dpAll ns⟩
theorem RdS.get {r : Res} {xs : List PyData} {v : V} (h : RdS μ r xs) (w : WOk K O A H μ) (q : RepR K O A H v r) : ∃ b a vs, v = .ref a ∧ SqA K b H a vs ∧ DqAll (hid O H) vs xs := by
  cases h with
  | t xs =>
    cases q with
    | tup h1 h2 => exact ⟨true, _, _, rfl, SqT.of (of_hid h1).2, h2⟩
  | l h =>
    obtain ⟨a, vs, e, h1, h2⟩ := h.get w q
    exact ⟨false, a, vs, e, h1, h2⟩
/-- a new tuple -/
theorem tup_laid {Q : VK} {vs : List V} {xs : List PyData} (q : ∀ v r μ' H', Le O A H O A H' → WOk K O A H' μ' → RepR K O A H' v r → P r μ' → Q v H') (w : WOk K O A H μ) (hd : DqAll (hid O H) vs xs) (p : P (.d (.tuple xs)) μ) :
    ∀ p, H p = none → Q (.ref p) (upd H p (.tup vs)) := fun a ha =>
  q _ _ μ _ (Le.laid w ha) (w.laid ha) (rp_d (Dq.tup (hid_new (fresh_out w ha)) (dpAll_mono (Le.laid w ha).keep hd))) p
theorem wr_addI {i j : Int} (p : P (.d (.int (i + j))) μ) : WR K (rAddX K) (.d (.int i)) (.d (.int j)) μ P := fun O A H x y w hx hy Q q => .inl (wr_i0 (f := fun i j => i + j) p O A H x y w hx hy Q q)
theorem wr_addT {xs ys : List PyData} (hz : xs.length + ys.length ≤ sizeLine) (p : P (.d (.tuple (xs ++ ys))) μ) : WR K (rAddX K) (.d (.tuple xs)) (.d (.tuple ys)) μ P := fun O A H x y w hx hy Q q => .inr (.inl (by
  cases hx with
  | @tup a us _ h1 h2 =>
    cases hy with
    | @tup b vs _ h3 h4 =>
      have l1 := dpAll_len h2
      have l2 := dpAll_len h4
      refine ⟨a, b, us, vs, rfl, rfl, SqT.of (of_hid h1).2, SqT.of (of_hid h3).2, by omega, fun e => ?_, fun _ e => ?_, fun _ _ => tup_laid q w (dpAll_append h2 h4) p⟩
      · subst e
        cases h2
        exact q _ _ μ H (.refl O A H) w (rp_d (Dq.tup h3 h4)) p
      · subst e
        cases h4
        rw [List.append_nil] at p
        exact q _ _ μ H (.refl O A H) w (rp_d (Dq.tup h1 h2)) p))
theorem wn_addL {Pn : List PyData → List MO → Prop} (h : WE K ta ds μ fun a μ1 => WE K tb ds μ1 fun b μ2 => ∃ xs ys, RdL μ2 a xs ∧ RdL μ2 b ys ∧ xs.length + ys.length ≤ sizeLine ∧ Pn (xs ++ ys) μ2) : WN K (tOp (rAddX K) ta tb) ds μ Pn := fun σ O A H e Q q =>
  h σ O A H e _ fun x a μ1 H1 l1 w1 r1 h1 => h1 σ O A H1 (e.mono l1.keep w1) _ fun y b μ2 H2 l2 w2 r2 h2 => by
    obtain ⟨xs, ys, ra, rb, hz, p⟩ := h2
    obtain ⟨a1, us, rfl, s1, d1⟩ := ra.get w2 (r1.mono l2.keep)
    obtain ⟨a2, vs, rfl, s2, d2⟩ := rb.get w2 r2
    have e1 := dpAll_len d1
    have e2 := dpAll_len d2
    refine .inr (.inr ⟨a1, a2, us, vs, rfl, rfl, s1, s2, by omega, wn_laid e q (.trans e.wok.dom l1 l2) w2 (dpAll_append d1 d2) (by rw [List.length_append]; exact hz) p⟩)
theorem wr_ix {xs : List PyData} {i : Int} {d : PyData} (h : RdS μ a xs) (ha : atI xs i = some d) (p : P (.d d) μ) : WR K (rIx K) a (.d (.int i)) μ P := fun O A H x y w hx hy Q q => by
  obtain ⟨bb, ad, vs, rfl, sq, hd⟩ := h.get w hx
  cases hy
  have hv : ∃ v, atI vs i = some v ∧ Dq (hid O H) v d := by
    unfold atI at ha ⊢
    rw [dpAll_len hd]
    cases hk : ixN xs.length i with
    | none => rw [hk] at ha; cases ha
    | some k =>
      rw [hk] at ha
      obtain ⟨v, e1, e2⟩ := dpAll_get' hd (show xs[k]? = some d from ha)
      exact ⟨v, e1, e2⟩
  obtain ⟨v, e1, e2⟩ := hv
  have fin := q v (.d d) μ H (.refl O A H) w (rp_d e2) p
  cases bb with
  | false => exact .inl ⟨ad, vs, i, v, rfl, rfl, sq, e1, fin⟩
  | true => exact .inr (.inl ⟨ad, vs, i, v, rfl, rfl, sq, e1, fin⟩)
theorem atI_of {α : Type} {xs : List α} {i : Nat} {d : α} (h : xs[i]? = some d) : atI xs (i : Int) = some d := atI_nat h
/-! slices -/
def WO (K : PySem.W.Frag) (to : TO) (ds : DSt) (μ : List MO) (P : Option Int → List MO → Prop) : Prop :=
  ∀ σ O A H, EnvOk K O A H σ ds μ → ∀ Q : Option Int → Hp → Prop, (∀ o μ' H', Le O A H O A H' → WOk K O A H' μ' → P o μ' → Q o H') → to σ H Q
theorem wo_none {P : Option Int → List MO → Prop} (h : P none μ) : WO K tNoPart ds μ P := fun σ O A H e Q q => q none μ H (.refl O A H) e.wok h
theorem wo_some {P : Option Int → List MO → Prop} (h : WE K te ds μ fun r μ1 => ∃ i, r = .d (.int i) ∧ P (some i) μ1) : WO K (tPart te) ds μ P := fun σ O A H e Q q =>
  h σ O A H e _ fun v r μ1 H1 l w rp p => by
    obtain ⟨i, rfl, p⟩ := p
    cases rp
    exact ⟨i, rfl, q (some i) μ1 H1 l w p⟩
def cutD (xs : List PyData) (lo hi : Option Int) : List PyData := (xs.drop (HT.sIx xs.length 0 lo)).take (HT.sIx xs.length xs.length hi - HT.sIx xs.length 0 lo)
theorem cut_dq {vs : List V} {xs : List PyData} {H : Hp} (h : DqAll H vs xs) (lo hi : Option Int) : DqAll H (cutV vs lo hi) (cutD xs lo hi) := by
  unfold cutV cutD
  rw [dpAll_len h]
  exact dpAll_take _ (dpAll_drop _ h)
theorem cutD_le (xs : List PyData) (lo hi : Option Int) : (cutD xs lo hi).length ≤ xs.length := by
  unfold cutD
  rw [List.length_take, List.length_drop]
  omega
theorem we_slT {tl th : TO} (h : WE K te ds μ fun a μ1 => WO K tl ds μ1 fun lo μ2 => WO K th ds μ2 fun hi μ3 => ∃ xs, a = .d (.tuple xs) ∧ P (.d (.tuple (cutD xs lo hi))) μ3) : WE K (tSl (rSlX K) te tl th) ds μ P := fun σ O A H e Q q =>
  h σ O A H e _ fun x a μ1 H1 l1 w1 r1 h1 => h1 σ O A H1 (e.mono l1.keep w1) _ fun lo μ2 H2 l2 w2 h2 => h2 σ O A H2 ((e.mono l1.keep w1).mono l2.keep w2) _ fun hi μ3 H3 l3 w3 h3 => by
    obtain ⟨xs, rfl, p⟩ := h3
    have l13 : Le O A H O A H3 := .trans e.wok.dom l1 (.trans w1.dom l2 l3)
    have r3 := r1.mono (l2.keep.trans l3.keep)
    cases r3 with
    | @tup a us _ h1 h2 =>
      have el := dpAll_len h2
      refine .inr ⟨a, us, rfl, SqT.of (of_hid h1).2, fun hw => ?_, fun hw => ?_⟩
      · have ec : cutD xs lo hi = xs := by
          unfold cutD
          rw [← el, hw.1, hw.2, List.drop_zero, Nat.sub_zero, el, List.take_length]
        rw [ec] at p
        exact q _ _ μ3 H3 l13 w3 (rp_d (Dq.tup h1 h2)) p
      · exact tup_laid (fun v r μ' H' l w rp p => q v r μ' H' (.trans e.wok.dom l13 l) w rp p) w3 (cut_dq h2 lo hi) p
theorem wn_slL {tl th : TO} {Pn : List PyData → List MO → Prop} (h : WE K te ds μ fun a μ1 => WO K tl ds μ1 fun lo μ2 => WO K th ds μ2 fun hi μ3 => ∃ xs, RdL μ3 a xs ∧ xs.length ≤ sizeLine ∧ Pn (cutD xs lo hi) μ3) : WN K (tSl (rSlX K) te tl th) ds μ Pn := fun σ O A H e Q q =>
  h σ O A H e _ fun x a μ1 H1 l1 w1 r1 h1 => h1 σ O A H1 (e.mono l1.keep w1) _ fun lo μ2 H2 l2 w2 h2 => h2 σ O A H2 ((e.mono l1.keep w1).mono l2.keep w2) _ fun hi μ3 H3 l3 w3 h3 => by
    obtain ⟨xs, ra, hz, p⟩ := h3
    have l13 : Le O A H O A H3 := .trans e.wok.dom l1 (.trans w1.dom l2 l3)
    obtain ⟨a1, us, rfl, s1, d1⟩ := ra.get w3 (r1.mono (l2.keep.trans l3.keep))
    exact .inl ⟨a1, us, rfl, s1, wn_laid e q l13 w3 (cut_dq d1 lo hi) (Nat.le_trans (cutD_le xs lo hi) hz) p⟩
theorem we_revT (h : WE K te ds μ fun a μ1 => ∃ xs, a = .d (.tuple xs) ∧ P (.d (.tuple xs.reverse)) μ1) : WE K (tRevA K te) ds μ P := fun σ O A H e Q q =>
  h σ O A H e _ fun x a μ1 H1 l1 w1 r1 h1 => by
    obtain ⟨xs, rfl, p⟩ := h1
    cases r1 with
    | @tup a us _ h1 h2 => exact ⟨a, us, rfl, .inr ⟨SqT.of (of_hid h1).2, tup_laid (fun v r μ' H' l w rp p => q v r μ' H' (.trans e.wok.dom l1 l) w rp p) w1 (dpAll_reverse h2) p⟩⟩
theorem wn_revL {Pn : List PyData → List MO → Prop} (h : WE K te ds μ fun a μ1 => ∃ xs, RdL μ1 a xs ∧ xs.length ≤ sizeLine ∧ Pn xs.reverse μ1) : WN K (tRevA K te) ds μ Pn := fun σ O A H e Q q =>
  h σ O A H e _ fun x a μ1 H1 l1 w1 r1 h1 => by
    obtain ⟨xs, ra, hz, p⟩ := h1
    obtain ⟨a1, us, rfl, s1, d1⟩ := ra.get w1 r1
    exact ⟨a1, us, rfl, .inl ⟨s1, wn_laid e q l1 w1 (dpAll_reverse d1) (by rw [List.length_reverse]; exact hz) p⟩⟩
/-! in -/
theorem wr_inL {d : PyData} {xs : List PyData} (h : RdAs μ b (.list xs)) (s1 : SeqAt.shaped d = true) (s2 : SeqAt.shaped (.list xs) = true) (p : P (.d (.bool (xs.any fun z => PyData.eqv z d))) μ) : WR K (rInX K) (.d d) b μ P := fun O A H x y w hx hy Q q =>
  .inr ⟨d, xs, (dp_mono (hid_le O H) hx).dp, (h.dp w hy).dp, s1, s2, q _ _ μ H (.refl O A H) w (rp_d (Dq.bl _)) p⟩
theorem wr_notInL {d : PyData} {xs : List PyData} (h : RdAs μ b (.list xs)) (s1 : SeqAt.shaped d = true) (s2 : SeqAt.shaped (.list xs) = true) (p : P (.d (.bool (!xs.any fun z => PyData.eqv z d))) μ) : WR K (rNotInX K) (.d d) b μ P := fun O A H x y w hx hy Q q =>
  .inr ⟨d, xs, (dp_mono (hid_le O H) hx).dp, (h.dp w hy).dp, s1, s2, q _ _ μ H (.refl O A H) w (rp_d (Dq.bl _)) p⟩
def flatD : PyData → Bool
  | .none | .bool _ | .int _ | .str _ => true
  | _ => false
theorem flat_v {v : V} {d : PyData} {H : Hp} (h : Dq H v d) (f : flatD d = true) : flatV v = true := by
  cases h <;> first | rfl | cases f
theorem eqV_d {v u : V} {d e : PyData} {H : Hp} (h : Dq H v d) (k : Dq H u e) (f : flatD d = true) (g : flatD e = true) : eqV v u = PyData.eqv d e := by
  cases h <;> cases k <;> first | rfl | cases f | cases g
theorem all_flat : ∀ {vs : List V} {xs : List PyData} {H : Hp}, DqAll H vs xs → xs.all flatD = true → vs.all flatV = true
  | _, _, _, .nil, _ => rfl
  | _, _, _, .cons h t, f => by
    rw [List.all_cons, Bool.and_eq_true] at f ⊢
    exact ⟨flat_v h f.1, all_flat t f.2⟩
theorem inV_d {v : V} {d : PyData} {H : Hp} (h : Dq H v d) (f : flatD d = true) : ∀ {vs : List V} {xs : List PyData}, DqAll H vs xs → xs.all flatD = true → inV v vs = xs.any fun z => PyData.eqv z d
  | _, _, .nil, _ => rfl
  | _, _, .cons k t, g => by
    rw [List.all_cons, Bool.and_eq_true] at g
    have ih := inV_d h f t g.2
    unfold inV at ih ⊢
    rw [List.any_cons, List.any_cons, ih, eqV_d k h g.1 f]
theorem wr_inT {d : PyData} {xs : List PyData} (h : RdS μ b xs) (f : flatD d = true) (g : xs.all flatD = true) (p : P (.d (.bool (xs.any fun z => PyData.eqv z d))) μ) : WR K (rInX K) (.d d) b μ P := fun O A H x y w hx hy Q q => by
  obtain ⟨bb, ad, vs, rfl, sq, hd⟩ := h.get w hy
  refine .inl ⟨ad, vs, rfl, ?_, flat_v hx f, all_flat hd g, ?_⟩
  · cases bb with
    | false => exact .inl sq
    | true => exact .inr sq
  · show Q (.bl (inV x vs)) H
    rw [inV_d hx f hd g]
    exact q _ _ μ H (.refl O A H) w (rp_d (Dq.bl _)) p
theorem wr_notInT {d : PyData} {xs : List PyData} (h : RdS μ b xs) (f : flatD d = true) (g : xs.all flatD = true) (p : P (.d (.bool (!xs.any fun z => PyData.eqv z d))) μ) : WR K (rNotInX K) (.d d) b μ P := fun O A H x y w hx hy Q q => by
  obtain ⟨bb, ad, vs, rfl, sq, hd⟩ := h.get w hy
  refine .inl ⟨ad, vs, rfl, ?_, flat_v hx f, all_flat hd g, ?_⟩
  · cases bb with
    | false => exact .inl sq
    | true => exact .inr sq
  · show Q (.bl (!inV x vs)) H
    rw [inV_d hx f hd g]
    exact q _ _ μ H (.refl O A H) w (rp_d (Dq.bl _)) p
/-! == on what may be changed -/
theorem wr_eqX {d e : PyData} (h1 : RdAs μ a d) (h2 : RdAs μ b e) (s1 : SeqAt.shaped d = true) (s2 : SeqAt.shaped e = true) (p : P (.d (.bool (PyData.eqv d e))) μ) : WR K (rEqD K) a b μ P := fun O A H x y w hx hy Q q =>
  ⟨d, e, (h1.dp w hx).dp, (h2.dp w hy).dp, s1, s2, q _ _ μ H (.refl O A H) w (rp_d (Dq.bl _)) p⟩
theorem wr_neX {d e : PyData} (h1 : RdAs μ a d) (h2 : RdAs μ b e) (s1 : SeqAt.shaped d = true) (s2 : SeqAt.shaped e = true) (p : P (.d (.bool (!PyData.eqv d e))) μ) : WR K (rNeD K) a b μ P := fun O A H x y w hx hy Q q =>
  ⟨d, e, (h1.dp w hx).dp, (h2.dp w hy).dp, s1, s2, q _ _ μ H (.refl O A H) w (rp_d (Dq.bl _)) p⟩
/-! is -/
def isNone : PyData → Bool
  | .none => true
  | _ => false
theorem dq_non {v : V} {d : PyData} {H : Hp} (h : Dq H v d) : decide (v = .non) = isNone d := by
  cases h <;> rfl
theorem wr_isN {d : PyData} (p : P (.d (.bool (isNone d))) μ) : WR K rIsX (.d d) (.d .none) μ P := fun O A H x y w hx hy Q q => by
  cases hy
  exact .inl ⟨rfl, by rw [dq_non hx]; exact q _ _ μ H (.refl O A H) w (rp_d (Dq.bl _)) p⟩
theorem wr_isNN {d : PyData} (p : P (.d (.bool (!isNone d))) μ) : WR K rIsNX (.d d) (.d .none) μ P := fun O A H x y w hx hy Q q => by
  cases hy
  exact .inl ⟨rfl, by rw [dq_non hx]; exact q _ _ μ H (.refl O A H) w (rp_d (Dq.bl _)) p⟩
theorem wr_isB {i j : Bool} (p : P (.d (.bool (decide (i = j)))) μ) : WR K rIsX (.d (.bool i)) (.d (.bool j)) μ P := fun O A H x y w hx hy Q q => by
  cases hx; cases hy
  exact .inr ⟨i, j, rfl, rfl, q _ _ μ H (.refl O A H) w (rp_d (Dq.bl _)) p⟩
theorem wr_isNB {i j : Bool} (p : P (.d (.bool (!decide (i = j)))) μ) : WR K rIsNX (.d (.bool i)) (.d (.bool j)) μ P := fun O A H x y w hx hy Q q => by
  cases hx; cases hy
  exact .inr ⟨i, j, rfl, rfl, q _ _ μ H (.refl O A H) w (rp_d (Dq.bl _)) p⟩
/-! chains -/
theorem we_chain {r r' : R2} {tc : TE} (h : WE K ta ds μ fun a μ1 => WE K tb ds μ1 fun b μ2 => WR K r a b μ2 fun z μ3 => ∃ k, z = .d (.bool k) ∧ (k = true → WE K tc ds μ3 fun c μ4 => WR K r' b c μ4 P) ∧ (k = false → P (.d (.bool false)) μ3)) : WE K (tChain r r' ta tb tc) ds μ P := fun σ O A H e Q q =>
  h σ O A H e _ fun x a μ1 H1 l1 w1 r1 h1 => h1 σ O A H1 (e.mono l1.keep w1) _ fun y b μ2 H2 l2 w2 r2 h2 =>
    h2 O A H2 x y w2 (r1.mono l2.keep) r2 _ fun v z μ3 H3 l3 w3 r3 p => by
      obtain ⟨k, rfl, h3, h4⟩ := p
      cases r3
      refine ⟨k, rfl, ?_⟩
      have l13 : Le O A H O A H3 := .trans e.wok.dom l1 (.trans w1.dom l2 l3)
      cases k with
      | true =>
        refine h3 rfl σ O A H3 (e.mono l13.keep w3) _ fun u c μ4 H4 l4 w4 r4 h5 => ?_
        exact h5 O A H4 y u w4 (r2.mono (l3.keep.trans l4.keep)) r4 Q fun v r μ5 H5 l5 w5 r5 p => q v r μ5 H5 (.trans e.wok.dom l13 (.trans w3.dom l4 l5)) w5 r5 p
      | false => exact q _ _ μ3 H3 l13 w3 (rp_d (Dq.bl false)) (h4 rfl)
theorem we_chain3 {r r' r'' : R2} {tc td : TE} (h : WE K ta ds μ fun a μ1 => WE K tb ds μ1 fun b μ2 => WR K r a b μ2 fun z μ3 => ∃ k, z = .d (.bool k) ∧ (k = true → WE K tc ds μ3 fun c μ4 => WR K r' b c μ4 fun z' μ5 => ∃ k', z' = .d (.bool k') ∧ (k' = true → WE K td ds μ5 fun d μ6 => WR K r'' c d μ6 P) ∧ (k' = false → P (.d (.bool false)) μ5)) ∧ (k = false → P (.d (.bool false)) μ3)) : WE K (tChain3 r r' r'' ta tb tc td) ds μ P := fun σ O A H e Q q =>
  h σ O A H e _ fun x a μ1 H1 l1 w1 r1 h1 => h1 σ O A H1 (e.mono l1.keep w1) _ fun y b μ2 H2 l2 w2 r2 h2 =>
    h2 O A H2 x y w2 (r1.mono l2.keep) r2 _ fun v z μ3 H3 l3 w3 r3 p => by
      obtain ⟨k, rfl, h3, h4⟩ := p
      cases r3
      refine ⟨k, rfl, ?_⟩
      have l13 : Le O A H O A H3 := .trans e.wok.dom l1 (.trans w1.dom l2 l3)
      cases k with
      | true =>
        refine h3 rfl σ O A H3 (e.mono l13.keep w3) _ fun u c μ4 H4 l4 w4 r4 h5 => ?_
        refine h5 O A H4 y u w4 (r2.mono (l3.keep.trans l4.keep)) r4 _ fun v z' μ5 H5 l5 w5 r5 p => ?_
        obtain ⟨k', rfl, h6, h7⟩ := p
        cases r5
        refine ⟨k', rfl, ?_⟩
        have l15 : Le O A H O A H5 := .trans e.wok.dom l13 (.trans w3.dom l4 l5)
        cases k' with
        | true =>
          refine h6 rfl σ O A H5 (e.mono l15.keep w5) _ fun u' d μ6 H6 l6 w6 r6 h8 => ?_
          exact h8 O A H6 u u' w6 (r4.mono (l5.keep.trans l6.keep)) r6 Q fun v r μ7 H7 l7 w7 r7 p => q v r μ7 H7 (.trans e.wok.dom l15 (.trans w5.dom l6 l7)) w7 r7 p
        | false => exact q _ _ μ5 H5 l15 w5 (rp_d (Dq.bl false)) (h7 rfl)
      | false => exact q _ _ μ3 H3 l13 w3 (rp_d (Dq.bl false)) (h4 rfl)
/-! calls of built-ins -/
theorem wc_len {xs : List PyData} (h : RdS μ a xs) (p : P (.d (.int xs.length)) μ) : WC K (rLenX K) [a] μ P := fun O A H vs w hr Q q => by
  cases hr with
  | cons r1 rr =>
    cases rr
    obtain ⟨bb, ad, us, rfl, sq, hd⟩ := h.get w r1
    refine ⟨ad, us, rfl, ?_, ?_⟩
    · cases bb with
      | false => exact .inl sq
      | true => exact .inr sq
    · rw [dpAll_len hd]
      exact q _ _ μ H (.refl O A H) w (rp_d (Dq.int _)) p
theorem wc_tupL {xs : List PyData} (h : RdL μ a xs) (p : P (.d (.tuple xs)) μ) : WC K (rTupX K) [a] μ P := fun O A H vs w hr Q q => by
  cases hr with
  | cons r1 rr =>
    cases rr
    obtain ⟨ad, us, rfl, sq, hd⟩ := h.get w r1
    exact ⟨ad, us, rfl, .inl ⟨sq, tup_laid q w hd p⟩⟩
theorem wc_tupT {xs : List PyData} (p : P (.d (.tuple xs)) μ) : WC K (rTupX K) [.d (.tuple xs)] μ P := fun O A H vs w hr Q q => by
  cases hr with
  | cons r1 rr =>
    cases rr
    cases r1 with
    | @tup a us _ h1 h2 => exact ⟨a, us, rfl, .inr ⟨SqT.of (of_hid h1).2, q _ _ μ H (.refl O A H) w (rp_d (Dq.tup h1 h2)) p⟩⟩
theorem wn_lstX {tr : TA} {Pn : List PyData → List MO → Prop} (h : WA K tr ds μ fun as μ1 => ∃ a xs, as = [a] ∧ RdS μ1 a xs ∧ xs.length ≤ sizeLine ∧ Pn xs μ1) : WN K (tCB (rLstX K) tr) ds μ Pn := fun σ O A H e Q q =>
  h σ O A H e _ fun vs as μ1 H1 l1 w1 r1 h1 => by
    obtain ⟨a, xs, rfl, ra, hz, p⟩ := h1
    cases r1 with
    | cons r1 rr =>
      cases rr
      obtain ⟨bb, ad, us, rfl, sq, hd⟩ := ra.get w1 r1
      refine ⟨ad, us, rfl, ?_, wn_laid e q l1 w1 hd hz p⟩
      cases bb with
      | false => exact .inl sq
      | true => exact .inr sq
theorem wn_sort {tr : TA} {Pn : List PyData → List MO → Prop} (h : WA K tr ds μ fun as μ1 => ∃ a, ∃ ns : List Int, as = [a] ∧ RdS μ1 a (ns.map .int) ∧ ns.length ≤ sizeLine ∧ ∀ ns' : List Int, ns'.Perm ns → ns'.Pairwise (· ≤ ·) → Pn (ns'.map .int) μ1) : WN K (tCB (rSortG K) tr) ds μ Pn := fun σ O A H e Q q =>
  h σ O A H e _ fun vs as μ1 H1 l1 w1 r1 h1 => by
    obtain ⟨a, ns, rfl, ra, hz, p⟩ := h1
    cases r1 with
    | cons r1 rr =>
      cases rr
      obtain ⟨bb, ad, us, rfl, sq, hd⟩ := ra.get w1 r1
      have eu := dpAll_ints hd
      subst eu
      exact ⟨bb, ad, ns, rfl, sq, fun ns' p' h1 h2 hp => wn_laid e q l1 w1 (ints_dpAll ns') (by rw [List.length_map, h1.length_eq]; exact hz) (p ns' h1 h2) p' hp⟩
theorem wc_all {bs : List Bool} (h : RdL μ a (bs.map .bool)) (p : P (.d (.bool (bs.all id))) μ) : WC K (rAll K) [a] μ P := fun O A H vs w hr Q q => by
  cases hr with
  | cons r1 rr =>
    cases rr
    obtain ⟨ad, us, rfl, sq, hd⟩ := h.get w r1
    have eu := dpAll_bls hd
    subst eu
    exact ⟨ad, bs, rfl, sq, q _ _ μ H (.refl O A H) w (rp_d (Dq.bl _)) p⟩
theorem wc_any {bs : List Bool} (h : RdL μ a (bs.map .bool)) (p : P (.d (.bool (bs.any id))) μ) : WC K (rAny K) [a] μ P := fun O A H vs w hr Q q => by
  cases hr with
  | cons r1 rr =>
    cases rr
    obtain ⟨ad, us, rfl, sq, hd⟩ := h.get w r1
    have eu := dpAll_bls hd
    subst eu
    exact ⟨ad, bs, rfl, sq, q _ _ μ H (.refl O A H) w (rp_d (Dq.bl _)) p⟩
theorem wc_max2 {i j : Int} (p : P (.d (.int (if j > i then j else i))) μ) : WC K rMax2 [.d (.int i), .d (.int j)] μ P := fun O A H vs w hr Q q => by
  cases hr with
  | cons r1 rr =>
    cases rr with
    | cons r2 rr =>
      cases rr; cases r1; cases r2
      exact ⟨i, j, rfl, q _ _ μ H (.refl O A H) w (rp_d (Dq.int _)) p⟩
theorem wc_min2 {i j : Int} (p : P (.d (.int (if j < i then j else i))) μ) : WC K rMin2 [.d (.int i), .d (.int j)] μ P := fun O A H vs w hr Q q => by
  cases hr with
  | cons r1 rr =>
    cases rr with
    | cons r2 rr =>
      cases rr; cases r1; cases r2
      exact ⟨i, j, rfl, q _ _ μ H (.refl O A H) w (rp_d (Dq.int _)) p⟩
theorem wc_intB {k : Bool} (p : P (.d (.int (if k then 1 else 0))) μ) : WC K rInt1 [.d (.bool k)] μ P := fun O A H vs w hr Q q => by
  cases hr with
  | cons r1 rr =>
    cases rr; cases r1
    exact .inr ⟨k, rfl, q _ _ μ H (.refl O A H) w (rp_d (Dq.int _)) p⟩
theorem wc_strI {i : Int} (hl : i.natAbs.log2 < 1920) (p : P (.d (.str (toString i))) μ) : WC K rStr1 [.d (.int i)] μ P := fun O A H vs w hr Q q => by
  cases hr with
  | cons r1 rr =>
    cases rr; cases r1
    exact ⟨i, rfl, hl, q _ _ μ H (.refl O A H) w (rp_d (Dq.str _)) p⟩
/-! isinstance -/
def tyD : PyData → String
  | .none => "NoneType"
  | .bool _ => "bool"
  | .int _ => "int"
  | .str _ => "str"
  | .list _ => "list"
  | .tuple _ => "tuple"
  | .dict _ => "dict"
theorem ty_of {v : V} {d : PyData} {H : Hp} (h : Dq H v d) : TyOf K H v (.type (tyD d)) := by
  cases h with
  | non => exact .non
  | bl b => exact .bl b
  | int i => exact .int i
  | str x => exact .str x
  | lst h _ => exact .lst h
  | tup h _ => exact .tup h
theorem wc_isi {d : PyData} {T : String} {k : Bool} (hk : kitB (tyD d) T = some k) (p : P (.d (.bool k)) μ) : WC K (rIsi K) [.d d, .v (.ty T)] μ P := fun O A H vs w hr Q q => by
  cases hr with
  | cons r1 rr =>
    cases rr with
    | cons r2 rr =>
      cases rr
      cases (show _ = V.ty T from r2)
      exact ⟨_, _, _, _, k, rfl, .ty T, .base (ty_of (dp_mono (hid_le O H) r1)), kit_ty hk, q _ _ μ H (.refl O A H) w (rp_d (Dq.bl _)) p⟩
end
end Wv

set_option Elab.async false
set_option linter.all false
set_option maxRecDepth 100000
set_option maxHeartbeats 2000000
namespace Wv
open PySem PySem.Spec PyProof.Rows L2
/-! ### a dict whose keys are nested tuples -/
abbrev Ent := NestedKey × Addr × V
def KX (es : List Ent) (xs : List (NestedKey × Addr × Value)) : Prop := Paired (fun (e : Ent) (x : NestedKey × Addr × Value) => e.1 = x.1 ∧ e.2.1 = x.2.1 ∧ RelV e.2.2 x.2.2) es xs
def MemoAt (P : Program) (w : World) (a : Addr) (es : List Ent) (h : Heap) : Prop :=
  ∃ xs, KX es xs ∧ (a == sysModules) = false ∧ ∃ o ds ep, h.get? a = some o ∧ o.ExactDict ∧ o.data = .dict ds ep ∧ ds.toList = xs.map (entryOfKey (nestedKind P w)) ∧ (xs.map (·.1)).Nodup
def memoO (P : Program) (w : World) (a : Addr) (es : List Ent) : HO := .ext (MemoAt P w a es)
theorem MemoAt.stable {P : Program} {w : World} {a : Addr} {es : List Ent} {h1 h2 : Heap} (m : MemoAt P w a es h1) (k : ∀ o, h1.get? a = some o → h2.get? a = some o) : MemoAt P w a es h2 := by
  obtain ⟨xs, r, hs, o, ds, ep, e, c⟩ := m
  exact ⟨xs, r, hs, o, ds, ep, k o e, c⟩
theorem memo_ok {P : Program} {w : World} {a : Addr} {es : List Ent} {H : Hp} {h : Heap} (m : MemoAt P w a es h) : ObjOk P w H h a (memoO P w a es) := by
  obtain ⟨xs, r, hs, o, ds, ep, e, c⟩ := id m
  exact ⟨m, ⟨o, e⟩, fun h1 h2 m1 k => m1.stable k⟩
section
variable {P : Program} {w : World} {H : Hp} {h : Heap}
mutual
theorem nested_of (ok : HOk P w H h) : ∀ (k : NestedKey) (v : V) (u : Value), Dq H v k.data → RelV v u → NestedIs h k u
  | .none, _, _, q, r => by
    rw [NestedKey.data] at q; cases q; cases r; exact .none
  | .num i, _, _, q, r => by
    rw [NestedKey.data] at q; cases q; obtain ⟨t, rfl⟩ := r; exact .int i t
  | .text x, _, _, q, r => by
    rw [NestedKey.data] at q; cases q; obtain ⟨t, rfl⟩ := r; exact .text x t
  | .tup ks, _, _, q, r => by
    rw [NestedKey.data] at q
    cases q with
    | tup h1 h2 =>
      cases r
      obtain ⟨_, its, rv, o, e, c, n, d⟩ := ok _ _ h1
      exact .tup e c d (by simpa using nestedAll_of ok ks _ its h2 rv)
theorem nestedAll_of (ok : HOk P w H h) : ∀ (ks : List NestedKey) (vs : List V) (us : List Value), DqAll H vs (NestedKey.datas ks) → Vals vs us → NestedAll h ks us
  | [], _, _, q, r => by
    rw [NestedKey.datas] at q; cases q; cases r; exact .nil
  | k :: ks, _, _, q, r => by
    rw [NestedKey.datas] at q
    cases q with
    | cons q1 q2 =>
      cases r with
      | cons r1 r2 => exact .cons (nested_of ok k _ _ q1 r1) (nestedAll_of ok ks _ _ q2 r2)
end
theorem KX.len {es : List Ent} {xs : List (NestedKey × Addr × Value)} (r : KX es xs) : es.length = xs.length := Paired.length r
theorem KX.keys : ∀ {es : List Ent} {xs : List (NestedKey × Addr × Value)}, KX es xs → es.map (·.1) = xs.map (·.1)
  | _, _, .nil => rfl
  | _, _, .cons r t => by rw [List.map_cons, List.map_cons, KX.keys t, r.1]
theorem KX.is (ok : HOk P w H h) : ∀ {es : List Ent} {xs : List (NestedKey × Addr × Value)}, KX es xs → (∀ e ∈ es, Dq H (.ref e.2.1) e.1.data ∧ e.1.depth ≤ 8) → ∀ x ∈ xs, (nestedKind P w).is h x.1 x.2.1
  | _, _, .nil, _ => fun x hx => nomatch hx
  | e :: es, x :: xs, .cons r t, q => fun y hy => by
    rcases List.mem_cons.mp hy with rfl | hy
    · obtain ⟨h1, h2⟩ := q e (by simp)
      rw [← r.1, ← r.2.1]
      exact ⟨nested_of ok e.1 _ _ h1 rfl, h2⟩
    · exact KX.is ok t (fun e he => q e (List.mem_cons_of_mem _ he)) y hy
def entAt (es : List Ent) (k : NestedKey) : Option V := (es.find? fun e => decide (e.1 = k)).map (·.2.2)
theorem KX.at : ∀ {es : List Ent} {xs : List (NestedKey × Addr × Value)} {k : NestedKey}, KX es xs → RelO (entAt es k) ((atKey xs k).map (·.2))
  | _, _, _, .nil => trivial
  | e :: es, x :: xs, k, .cons r t => by
    unfold entAt atKey
    rw [List.find?_cons, List.find?_cons]
    by_cases hk : e.1 = k
    · have hx : x.1 = k := by rw [← r.1]; exact hk
      rw [decide_eq_true hk, decide_eq_true hx]
      exact r.2.2
    · have hx : ¬ x.1 = k := by rw [← r.1]; exact hk
      rw [decide_eq_false hk, decide_eq_false hx]
      exact KX.at t
def putE (es : List Ent) (k : NestedKey) (b : Addr) (v : V) : List Ent := if (entAt es k).isSome then es.map (fun e => if e.1 = k then (e.1, e.2.1, v) else e) else es ++ [(k, b, v)]
theorem KX.map {v : V} {u : Value} {k : NestedKey} (rv : RelV v u) : ∀ {es : List Ent} {xs : List (NestedKey × Addr × Value)}, KX es xs → KX (es.map (fun e => if e.1 = k then (e.1, e.2.1, v) else e)) (xs.map (putAt k u))
  | _, _, .nil => .nil
  | e :: es, x :: xs, .cons r t => by
    rw [List.map_cons, List.map_cons]
    refine .cons ?_ (KX.map rv t)
    unfold putAt
    by_cases hk : e.1 = k
    · rw [if_pos hk, if_pos (by rw [← r.1]; exact hk)]
      exact ⟨r.1, r.2.1, rv⟩
    · rw [if_neg hk, if_neg (by rw [← r.1]; exact hk)]
      exact r
theorem KX.snoc {e : Ent} {x : NestedKey × Addr × Value} (r : e.1 = x.1 ∧ e.2.1 = x.2.1 ∧ RelV e.2.2 x.2.2) : ∀ {es : List Ent} {xs : List (NestedKey × Addr × Value)}, KX es xs → KX (es ++ [e]) (xs ++ [x])
  | _, _, .nil => .cons r .nil
  | _, _, .cons q t => .cons q (KX.snoc r t)
theorem RelO.isSome {a : Option V} {b : Option Value} (r : RelO a b) : a.isSome = b.isSome := by
  cases a <;> cases b <;> first | rfl | exact r.elim
theorem KX.put {es : List Ent} {xs : List (NestedKey × Addr × Value)} {k : NestedKey} {b : Addr} {v : V} {u : Value} (r : KX es xs) (rv : RelV v u) : KX (putE es k b v) (storedH xs k b u) := by
  have e : (entAt es k).isSome = (atKey xs k).isSome := by
    have := RelO.isSome (r.at (k := k))
    rw [this, Option.isSome_map]
  unfold putE storedH
  by_cases hk : (entAt es k).isSome = true
  · rw [if_pos hk, if_pos (by rw [← e]; exact hk)]
    exact r.map rv
  · rw [if_neg hk, if_neg (by rw [← e]; exact hk)]
    exact r.snoc ⟨rfl, rfl, rv⟩
end
/-- the entries' keys stand -/
def KeysIn (H : Hp) (es : List Ent) : Prop := ∀ e ∈ es, Dq H (.ref e.2.1) e.1.data ∧ e.1.depth ≤ 8
section
variable {X : Cx}
theorem inv_memo {pins : List (Addr × Obj)} {σ : L2.St} {H : Hp} {s : Shared} {a : Addr} {es : List Ent} (I : Inv X pins σ H s) (h : H a = some (memoO X.prog X.w a es)) (hk : KeysIn H es) :
    ∃ xs, KX es xs ∧ (a == sysModules) = false ∧ s.heap.DictOfH (nestedKind X.prog X.w) a xs := by
  obtain ⟨⟨xs, r, hs, o, ds, ep, e1, e2, e3, e4, e5⟩, _⟩ := I.hok a _ h
  exact ⟨xs, r, hs, o, ds, ep, e1, e2, e3, e4, KX.is I.hok r hk, e5⟩
def rNotInM (P : Program) (w : World) : R2 := fun x y H Q => ∃ b a es k, x = .ref b ∧ y = .ref a ∧ H a = some (memoO P w a es) ∧ KeysIn H es ∧ Dq H (.ref b) k.data ∧ k.depth ≤ 8 ∧ Q (.bl (!(entAt es k).isSome)) H
theorem op_notInM (hu : X.A.units + 9 < cLine) : OpR X (compareOp .NotIn) (rNotInM X.prog X.w) := by
  intro pins s σ H x y v u Q I rx ry h
  obtain ⟨b, a, es, k, rfl, rfl, hm, hk, hb, hd, q⟩ := h
  cases rx
  cases ry
  obtain ⟨xs, r, hs, dd⟩ := inv_memo I hm hk
  refine wpAny_notIn_heap (knd := nestedKind X.prog X.w) (show X.A.in1.units + 8 < cLine by have : X.A.in1.units = X.A.units + 1 := rfl; omega) ⟨nested_of I.hok k _ _ hb rfl, hd⟩ hs dd ?_
  refine ⟨.bl _, H, I.tok _, ?_, q⟩
  show Value.bool _ = Value.bool _
  have e := RelO.isSome (r.at (k := k))
  rw [Option.isSome_map] at e
  rw [e]
def rGetM (P : Program) (w : World) : R2 := fun y x H Q => ∃ b a es k v, x = .ref b ∧ y = .ref a ∧ H a = some (memoO P w a es) ∧ KeysIn H es ∧ Dq H (.ref b) k.data ∧ k.depth ≤ 8 ∧ entAt es k = some v ∧ Q v H
theorem ix_memo (hu : X.A.units + 9 < cLine) : IxR X (rGetM X.prog X.w) := by
  intro value slice pins s σ H x y v u Q I rx ry h hs
  obtain ⟨b, a, es, k, z, rfl, rfl, hm, hk, hb, hd, hv, q⟩ := h
  cases rx
  cases ry
  obtain ⟨xs, r, hsy, dd⟩ := inv_memo I hm hk
  obtain ⟨w', hw, rw'⟩ := RelO.some_of (v := z) (o := (atKey xs k).map (·.2)) (by rw [← hv]; exact r.at)
  obtain ⟨p, hp, hp2⟩ := Option.map_eq_some_iff.mp hw
  refine tail_any (ops := [.ref a, .ref b]) dd.typeIs PySem.F.slot_dict_getitem.lookup ?_ hs
  refine wpAny_getItem_heap (knd := nestedKind X.prog X.w) (show X.A.in1.units + 8 < cLine by have : X.A.in1.units = X.A.units + 1 := rfl; omega) ⟨nested_of I.hok k _ _ hb rfl, hd⟩ dd hp ?_
  rw [hp2]
  exact ⟨z, H, I.tok _, rw', q⟩
def rSetM (P : Program) (w : World) : TSet := fun y x v H Q => ∃ b a es k, x = .ref b ∧ y = .ref a ∧ H a = some (memoO P w a es) ∧ KeysIn H es ∧ Dq H (.ref b) k.data ∧ k.depth ≤ 8 ∧ es.length ≤ sizeLine ∧ Q (upd H a (memoO P w a (putE es k b v)))
theorem set_memo (hu : X.A.units + 9 < cLine) : PSet X (rSetM X.prog X.w) := by
  intro pins s σ H o i v ov iv u Q I ro ri rv h
  obtain ⟨b, a, es, k, rfl, rfl, hm, hk, hb, hd, hz, q⟩ := h
  cases ro
  cases ri
  obtain ⟨xs, r, hsy, dd⟩ := inv_memo I hm hk
  refine wpAny_setItem_heap (knd := nestedKind X.prog X.w) (hsz := by rw [← r.len]; exact hz) (show X.A.in1.units + 8 < cLine by have : X.A.in1.units = X.A.units + 1 := rfl; omega) ⟨nested_of I.hok k _ _ hb rfl, hd⟩ dd fun h' dd' hs => ?_
  obtain ⟨oq, ds, ep, e1, e2, e3, e4, _, e5⟩ := id dd'
  have new : MemoAt X.prog X.w a (putE es k b v) h' := ⟨_, r.put rv, hsy, oq, ds, ep, e1, e2, e3, e4, e5⟩
  refine ⟨_, I.write (t' := _) (x := a) (e := a) (by rw [hm]; exact True.intro) (.inl rfl) (fun c o hc e => (hs.2 c hc).trans e) ⟨oq, e1⟩ (memo_ok new), q⟩
/-- {} -/
def tDNewN (P : Program) (w : World) : TE := fun _ H Q => ∀ p, H p = none → Q (.ref p) (upd H p (memoO P w p []))
theorem pe_dnewN {pos : Pos} : PE X (.Dict [] [] pos) (tDNewN X.prog X.w) := ⟨fun pins s σ H Q I h =>
  wpAny_Dict_empty ⟨.ref s.heap.objs.size, _, I.laid (a := s.heap.objs.size) (o := memoO X.prog X.w s.heap.objs.size []) (t' := s.toks) (fun _ _ q => Heap.get?_push_of_some _ q) (Nat.le_refl _)
    (memo_ok ⟨[], .nil, beq_eq_false_iff_ne.mpr (Ne.symm (Nat.ne_of_lt I.big)), _, #[], 0, Heap.get?_push_size _ rfl, ⟨rfl, rfl, rfl⟩, rfl, rfl, List.nodup_nil⟩), rfl, h _ (I.hok.fresh (Nat.le_refl _))⟩⟩
end
/-! ### the dict as a changeable object: keys in L, each with its value by f; those of ks are there -/
theorem Dq_scalar {H H' : Hp} {v : V} {d : PyData} (h : Dq H v d) (f : flatD d = true) : Dq H' v d := by
  cases h with
  | non => exact .non
  | bl b => exact .bl b
  | int i => exact .int i
  | str x => exact .str x
  | lst _ _ => cases f
  | tup _ _ => cases f
structure MemoOk (L : List NestedKey) (f : NestedKey → PyData) (ks : List NestedKey) (H : Hp) (es : List Ent) : Prop where
  key : ∀ e ∈ es, Dq H (.ref e.2.1) e.1.data
  inL : ∀ e ∈ es, e.1 ∈ L
  val : ∀ e ∈ es, Dq H e.2.2 (f e.1)
  nd : (es.map (·.1)).Nodup
  there : ∀ k ∈ ks, k ∈ es.map (·.1)
def MO.memo (Pg : Program) (w : World) (L : List NestedKey) (f : NestedKey → PyData) (ks : List NestedKey) : MO :=
  ⟨fun K O H a => ∃ es, H a = some (memoO Pg w a es) ∧ MemoOk L f ks (hid O H) es, fun h e s => by
    obtain ⟨es, h1, h2⟩ := h
    exact ⟨es, e.trans h1, fun x hx => dp_mono s (h2.key x hx), h2.inL, fun x hx => dp_mono s (h2.val x hx), h2.nd, h2.there⟩⟩
theorem len_le_of_nodup {α : Type} [DecidableEq α] : ∀ {l m : List α}, l.Nodup → (∀ x ∈ l, x ∈ m) → l.length ≤ m.length
  | [], _, _, _ => Nat.zero_le _
  | a :: l, m, hn, hs => by
    have ha : a ∈ m := hs a (by simp)
    have ih := len_le_of_nodup (l := l) (m := m.erase a) (List.nodup_cons.mp hn).2 (fun x hx => by
      have hne : x ≠ a := fun e => (List.nodup_cons.mp hn).1 (e ▸ hx)
      exact (List.mem_erase_of_ne hne).mpr (hs x (List.mem_cons_of_mem _ hx)))
    rw [List.length_erase_of_mem ha] at ih
    have := List.length_pos_of_mem ha
    rw [List.length_cons]
    omega
theorem MemoOk.len {L : List NestedKey} {f : NestedKey → PyData} {ks : List NestedKey} {H : Hp} {es : List Ent} (m : MemoOk L f ks H es) : es.length ≤ L.length := by
  have := len_le_of_nodup (m := L) m.nd fun x hx => by
    obtain ⟨e, he, rfl⟩ := List.mem_map.mp hx
    exact m.inL e he
  rwa [List.length_map] at this
theorem entAt_some {es : List Ent} {k : NestedKey} {v : V} (h : entAt es k = some v) : ∃ e ∈ es, e.1 = k ∧ e.2.2 = v := by
  unfold entAt at h
  obtain ⟨e, he, rfl⟩ := Option.map_eq_some_iff.mp h
  have hp := List.find?_some he
  exact ⟨e, List.mem_of_find?_eq_some he, of_decide_eq_true hp, rfl⟩
theorem entAt_none {es : List Ent} {k : NestedKey} (h : entAt es k = none) : k ∉ es.map (·.1) := fun hm => by
  unfold entAt at h
  rw [Option.map_eq_none_iff, List.find?_eq_none] at h
  obtain ⟨e, he, rfl⟩ := List.mem_map.mp hm
  exact h e he (by simp)
theorem entAt_there {es : List Ent} {k : NestedKey} (h : k ∈ es.map (·.1)) : ∃ v, entAt es k = some v := by
  cases e : entAt es k with
  | some v => exact ⟨v, rfl⟩
  | none => exact absurd h (entAt_none e)
theorem MemoOk.put {L : List NestedKey} {f : NestedKey → PyData} {ks : List NestedKey} {H : Hp} {es : List Ent} {k : NestedKey} {b : Addr} {v : V} (m : MemoOk L f ks H es) (hk : k ∈ L) (hb : Dq H (.ref b) k.data) (hv : Dq H v (f k)) : MemoOk L f (k :: ks) H (putE es k b v) := by
  unfold putE
  by_cases hs : (entAt es k).isSome = true
  · rw [if_pos hs]
    have ek : (es.map (fun e => if e.1 = k then (e.1, e.2.1, v) else e)).map (·.1) = es.map (·.1) := by
      rw [List.map_map]
      refine List.map_congr_left fun e _ => ?_
      show (if e.1 = k then (e.1, e.2.1, v) else e).1 = e.1
      split <;> rfl
    have mem : ∀ x ∈ es.map (fun e => if e.1 = k then (e.1, e.2.1, v) else e), ∃ e ∈ es, x.1 = e.1 ∧ x.2.1 = e.2.1 ∧ ((e.1 = k ∧ x.2.2 = v) ∨ x.2.2 = e.2.2) := fun x hx => by
      obtain ⟨e, he, rfl⟩ := List.mem_map.mp hx
      refine ⟨e, he, ?_⟩
      by_cases h1 : e.1 = k
      · rw [if_pos h1]; exact ⟨rfl, rfl, .inl ⟨h1, rfl⟩⟩
      · rw [if_neg h1]; exact ⟨rfl, rfl, .inr rfl⟩
    refine ⟨fun x hx => ?_, fun x hx => ?_, fun x hx => ?_, by rw [ek]; exact m.nd, fun y hy => ?_⟩
    · obtain ⟨e, he, h1, h2, _⟩ := mem x hx
      rw [h1, h2]; exact m.key e he
    · obtain ⟨e, he, h1, _⟩ := mem x hx
      rw [h1]; exact m.inL e he
    · obtain ⟨e, he, h1, h2, h3⟩ := mem x hx
      rcases h3 with ⟨h3, h4⟩ | h3
      · rw [h1, h3, h4]; exact hv
      · rw [h1, h3]; exact m.val e he
    · rw [ek]
      rcases List.mem_cons.mp hy with rfl | hy
      · obtain ⟨z, hz⟩ := Option.isSome_iff_exists.mp hs
        obtain ⟨e, he, h1, _⟩ := entAt_some hz
        exact List.mem_map.mpr ⟨e, he, h1⟩
      · exact m.there y hy
  · rw [if_neg hs]
    have hn : entAt es k = none := by
      cases e : entAt es k with
      | none => rfl
      | some z => rw [e] at hs; exact absurd rfl hs
    refine ⟨fun x hx => ?_, fun x hx => ?_, fun x hx => ?_, ?_, fun y hy => ?_⟩
    · rcases List.mem_append.mp hx with hx | hx
      · exact m.key x hx
      · rw [show x = (k, b, v) by simpa using hx]; exact hb
    · rcases List.mem_append.mp hx with hx | hx
      · exact m.inL x hx
      · rw [show x = (k, b, v) by simpa using hx]; exact hk
    · rcases List.mem_append.mp hx with hx | hx
      · exact m.val x hx
      · rw [show x = (k, b, v) by simpa using hx]; exact hv
    · rw [List.map_append, List.nodup_append]
      exact ⟨m.nd, by simp, fun a ha c hc => by
        rw [show c = k by simpa using hc]
        exact fun e => entAt_none hn (e ▸ ha)⟩
    · rw [List.map_append]
      rcases List.mem_cons.mp hy with rfl | hy
      · exact List.mem_append_right _ (by simp)
      · exact List.mem_append_left _ (m.there y hy)
section
variable {K : PySem.W.Frag} {n : Nat} {ds : DSt} {μ : List MO} {te ta tb : TE} {O : Addr → Prop} {A : List Addr} {H : Hp} {P : Res → List MO → Prop} {a b : Res} {Pg : Program} {w : World} {L : List NestedKey} {f : NestedKey → PyData} {ks : List NestedKey} {k : NestedKey} {D : DEnds}
theorem memo_keys (hL : ∀ k ∈ L, k.depth ≤ 8) {es : List Ent} (m : MemoOk L f ks (hid O H) es) : KeysIn H es := fun e he => ⟨dp_mono (hid_le O H) (m.key e he), hL _ (m.inL e he)⟩
theorem key_ref {H : Hp} {x : V} {l : List NestedKey} (h : Dq H x (NestedKey.tup l).data) : ∃ b, x = .ref b := by
  rw [NestedKey.data] at h
  cases h with
  | tup _ _ => exact ⟨_, rfl⟩
theorem wr_notInM {j : Nat} {l : List NestedKey} {dk : PyData} (hj : μ[j]? = some (MO.memo Pg w L f ks)) (hd : (NestedKey.tup l).data = dk) (hL : ∀ k ∈ L, k.depth ≤ 8) (hk : (NestedKey.tup l).depth ≤ 8) (p : P (.d (.bool true)) μ) (p' : P (.d (.bool false)) (μ.set j (MO.memo Pg w L f (.tup l :: ks)))) :
    WR K (rNotInM Pg w) (.d dk) (.m j) μ P := fun O A H x y wk hx hy Q q => by
  subst hd
  obtain ⟨ad, e, _, es, hm, m⟩ := wk.at hj
  obtain ⟨ad', e', rfl⟩ := hy
  rw [e] at e'; cases e'
  obtain ⟨b, rfl⟩ := key_ref hx
  refine ⟨b, ad, es, .tup l, rfl, rfl, hm, memo_keys hL m, dp_mono (hid_le O H) hx, hk, ?_⟩
  cases hc : entAt es (.tup l) with
  | none => exact q _ _ μ H (.refl O A H) wk (rp_d (Dq.bl true)) p
  | some v =>
    have m2 : MemoOk L f (.tup l :: ks) (hid O H) es := ⟨m.key, m.inL, m.val, m.nd, fun z hz => by
      rcases List.mem_cons.mp hz with rfl | hz
      · obtain ⟨e1, h1, h2, _⟩ := entAt_some hc
        exact List.mem_map.mpr ⟨e1, h1, h2⟩
      · exact m.there z hz⟩
    have w2 : WOk K O A H (μ.set j (MO.memo Pg w L f (.tup l :: ks))) := by
      refine ⟨by rw [List.length_set]; exact wk.len, wk.nd, wk.inO, wk.dom, fun i c mo h1 h2 => ?_⟩
      by_cases hij : j = i
      · subst hij
        rw [List.getElem?_set_self (List.getElem?_eq_some_iff.mp hj).1] at h2
        cases h2
        rw [e] at h1; cases h1
        exact ⟨es, hm, m2⟩
      · rw [List.getElem?_set_ne hij] at h2
        exact wk.obj i c mo h1 h2
    exact q _ _ _ H (.refl O A H) w2 (rp_d (Dq.bl false)) p'
theorem wr_getM {j : Nat} {l : List NestedKey} {dk : PyData} (hj : μ[j]? = some (MO.memo Pg w L f ks)) (hd : (NestedKey.tup l).data = dk) (hL : ∀ k ∈ L, k.depth ≤ 8) (hk : NestedKey.tup l ∈ ks) (p : P (.d (f (.tup l))) μ) :
    WR K (rGetM Pg w) (.m j) (.d dk) μ P := fun O A H y x wk hy hx Q q => by
  subst hd
  obtain ⟨ad, e, _, es, hm, m⟩ := wk.at hj
  obtain ⟨ad', e', rfl⟩ := hy
  rw [e] at e'; cases e'
  obtain ⟨b, rfl⟩ := key_ref hx
  obtain ⟨v, hv⟩ := entAt_there (m.there _ hk)
  obtain ⟨e1, h1, h2, h3⟩ := entAt_some hv
  have hdp := hL _ (m.inL e1 h1)
  rw [h2] at hdp
  refine ⟨b, ad, es, .tup l, v, rfl, rfl, hm, memo_keys hL m, dp_mono (hid_le O H) hx, hdp, hv, ?_⟩
  have hval := m.val e1 h1
  rw [h2, h3] at hval
  exact q _ _ μ H (.refl O A H) wk (rp_d hval) p
/-- d[k] = v -/
theorem sx_putM {j : Nat} {l : List NestedKey} {dk : PyData} (hd : (NestedKey.tup l).data = dk) (hL : ∀ k ∈ L, k.depth ≤ 8) (hl : NestedKey.tup l ∈ L) (hz : L.length ≤ sizeLine)
    (h : WE K te ds μ fun r μ1 => r = .d (f (.tup l)) ∧ WE K ta ds μ1 fun o μ2 => o = .m j ∧ WE K tb ds μ2 fun i μ3 => i = .d dk ∧ μ3[j]? = some (MO.memo Pg w L f ks) ∧ D.nx ds (μ3.set j (MO.memo Pg w L f (.tup l :: ks)))) :
    SX K n (tAsg te (gSub ta tb (rSetM Pg w))) D ds μ := fun σ O A H E e q => by
  refine h σ O A H e _ fun v r μ1 H1 l1 w1 r1 h1 => ?_
  obtain ⟨rfl, h1⟩ := h1
  refine h1 σ O A H1 (e.mono l1.keep w1) _ fun o r μ2 H2 l2 w2 r2 h2 => ?_
  obtain ⟨rfl, h2⟩ := h2
  refine h2 σ O A H2 ((e.mono l1.keep w1).mono l2.keep w2) _ fun i r μ3 H3 l3 w3 r3 h3 => ?_
  obtain ⟨rfl, hj, h3⟩ := h3
  subst hd
  obtain ⟨ad, e0, oa, es, hm, m⟩ := w3.at hj
  obtain ⟨ad', e', rfl⟩ := r2
  rw [e0] at e'; cases e'
  obtain ⟨b, rfl⟩ := key_ref r3
  have hv : Dq (hid O H3) v (f (.tup l)) := dp_mono (l2.keep.trans l3.keep) r1
  have m2 := m.put hl r3 hv
  refine ⟨b, ad, es, .tup l, rfl, rfl, hm, memo_keys hL m, dp_mono (hid_le O H3) r3, hL _ hl, Nat.le_trans m.len hz, ?_⟩
  obtain ⟨w4, l4⟩ := w3.write (k := j) (mo := MO.memo Pg w L f (.tup l :: ks)) (o := memoO Pg w ad (putE es (.tup l) b v)) e0 ⟨_, upd_same, by rw [hid_updIn oa]; exact m2⟩
  have l14 : Le O A H O A (upd H3 ad (memoO Pg w ad (putE es (.tup l) b v))) := .trans e.wok.dom l1 (.trans w1.dom l2 (.trans w2.dom l3 l4))
  exact q.nx σ O A _ ds _ (.of l14) (e.mono l14.keep w4) h3
theorem memo_new {p : Addr} (h : H p = none) : MemoOk L f [] (hid (orA O p) (upd H p (memoO Pg w p []))) [] := ⟨fun _ h => (by cases h), fun _ h => (by cases h), fun _ h => (by cases h), List.nodup_nil, fun _ h => (by cases h)⟩
/-- x = {} -/
theorem sx_dnew {i : Nat} (hn : n ≤ μ.length) (L : List NestedKey) (f : NestedKey → PyData) (h : D.nx (ds.set i (some (.m μ.length))) (μ ++ [MO.memo Pg w L f []])) : SX K n (tAsg (tDNewN Pg w) (gName i)) D ds μ := fun σ O A H E e q => by
  intro p hp
  have w1 : WOk K (orA O p) A (upd H p (memoO Pg w p [])) μ := e.wok.or_laid hp _
  have l : Le O A H O A (upd H p (memoO Pg w p [])) := Le.laid e.wok hp
  have s1 := same_or l hp
  have npA : p ∉ A := fun z => e.wok.dom p (e.wok.inO p z) hp
  have w2 : WOk K (orA O p) (A ++ [p]) (upd H p (memoO Pg w p [])) (μ ++ [MO.memo Pg w L f []]) := w1.push npA (by rw [upd_same]; exact fun z => nomatch z) ⟨[], upd_same, memo_new hp⟩
  have hA : A.length = μ.length := e.wok.len
  refine q.nx _ _ _ _ _ _ ⟨⟨s1, fun a oa na => ⟨(l.froz a oa na).1, .inl oa⟩, fun a ha => ?_, l.dom⟩, ?_⟩ ⟨?_, fun j r hj => ?_, w2⟩ h
  · rcases List.mem_append.mp ha with ha | ha
    · exact .inl ha
    · exact .inr (by rw [show a = p by simpa using ha]; exact hp)
  · rw [List.take_append_of_le_length (by rw [hA]; exact hn)]
  · rw [List.length_set, List.length_set, e.len]
  · by_cases hij : i = j
    · subst hij
      by_cases hi : i < ds.length
      · rw [List.getElem?_set_self hi] at hj
        cases hj
        exact ⟨.ref p, List.getElem?_set_self (by rw [e.len]; exact hi), p, by rw [List.getElem?_append_right (by rw [hA]; exact Nat.le_refl _), hA, Nat.sub_self]; rfl, rfl⟩
      · rw [List.getElem?_eq_none (by simpa using hi)] at hj
        cases hj
    · rw [List.getElem?_set_ne hij] at hj ⊢
      obtain ⟨v, h1, h2⟩ := e.var j r hj
      exact ⟨v, h1, h2.more s1⟩
/-- f(.., {}) -/
def WAd (K : PySem.W.Frag) (Pg : Program) (w : World) (ta : TA) (ds : DSt) (μ : List MO) (P : List Res → List MO → Prop) : Prop :=
  ∀ σ O A H, EnvOk K O A H σ ds μ → ∀ Q : List V → Hp → Prop, (∀ vs rs μ' H' p, Le O A H O A H' → WOk K O A H' μ' → RepAll K O A H' vs rs → H' p = none → P rs μ' → Q (vs ++ [.ref p]) (upd H' p (memoO Pg w p []))) → ta σ H Q
theorem wad_last {P : List Res → List MO → Prop} (h : P [] μ) : WAd K Pg w (tCons (tDNewN Pg w) tNil) ds μ P := fun σ O A H e Q q => fun p hp => q [] [] μ H p (.refl O A H) e.wok .nil hp h
theorem wad_cons {P : List Res → List MO → Prop} {tr : TA} (h : WE K ta ds μ fun a μ1 => WAd K Pg w tr ds μ1 fun as μ2 => P (a :: as) μ2) : WAd K Pg w (tCons ta tr) ds μ P := fun σ O A H e Q q =>
  h σ O A H e _ fun x a μ1 H1 l1 w1 r1 h1 => h1 σ O A H1 (e.mono l1.keep w1) _ fun ys bs μ2 H2 p l2 w2 r2 hp k => q (x :: ys) (a :: bs) μ2 H2 p (.trans e.wok.dom l1 l2) w2 (.cons (r1.mono l2.keep) r2) hp k
theorem RepAll.snoc {v : V} {r : Res} (h : RepR K O A H v r) : ∀ {vs : List V} {rs : List Res}, RepAll K O A H vs rs → RepAll K O A H (vs ++ [v]) (rs ++ [r])
  | _, _, .nil => .cons h .nil
  | _, _, .cons q t => .cons q (t.snoc h)
theorem RepAll.ofNone {O' : Addr → Prop} {H' : Hp} {A' : List Addr} (s : Same (hid O H) (hid O' H')) : ∀ {vs : List V} {rs : List Res}, RepAll K O A H vs rs → (∀ r ∈ rs, notM r) → RepAll K O' A' H' vs rs
  | _, _, .nil, _ => .nil
  | _, _, .cons (r := r) h t, k => .cons (by
    have := k r (by simp)
    cases r with
    | m j => exact this.elim
    | d x => exact dp_mono s h
    | v x => exact h
    | o x => obtain ⟨a, h1, h2⟩ := h; exact ⟨a, h1, s _ _ h2⟩
    | s x => obtain ⟨a, h1, h2⟩ := h; exact ⟨a, h1, same_l s h2⟩) (t.ofNone s fun r hr => k r (List.mem_cons_of_mem _ hr))
theorem we_callD {S : Spec} {tr : TA} {E : XK} (L : List NestedKey) (f : NestedKey → PyData) (h : WAd K Pg w tr ds μ fun as μ1 => (∀ r ∈ as, notM r) ∧ S (as ++ [.m 0]) [MO.memo Pg w L f []] fun d _ => P (.d d) μ1) : WE K (tCall (FSp K S) [] E tr) ds μ P := fun σ O A H e Q q =>
  h σ O A H e _ fun vs as μ1 H1 p l1 w1 r1 hp pr => by
    show FSp K S ((vs ++ [.ref p]) ++ []) _ Q E
    rw [List.append_nil]
    have hz : Le O A H1 O A (upd H1 p (memoO Pg w p [])) := Le.laid w1 hp
    have s1 := same_or hz hp
    have wp : WOk K (orA O p) A (upd H1 p (memoO Pg w p [])) μ1 := w1.or_laid hp _
    have nO : ¬ O p := fresh_out w1 hp
    refine ⟨orA O p, [p], as ++ [.m 0], [MO.memo Pg w L f []], _, ⟨rfl, by simp, fun b hb => .inr (by simpa using hb), wp.dom, fun j b m h1 h2 => ?_⟩, (r1.ofNone s1 pr.1).snoc (show RepR K (orA O p) [p] _ (.ref p) (.m 0) from ⟨p, rfl, rfl⟩), pr.2, fun v d μ' H2 l2 w2 hd k => ?_⟩
    · have e0 : j = 0 := by
        have := (List.getElem?_eq_some_iff.mp h1).1
        simp at this
        omega
      subst e0
      cases h1; cases h2
      exact ⟨[], upd_same, memo_new hp⟩
    · have fz : ∀ a, O a → H2 a = H1 a := fun a oa => by
        have na : a ≠ p := fun z => nO (z ▸ oa)
        rw [(l2.froz a (.inl oa) (by simp; exact na)).1, upd_ne na]
      have s2 : Same (hid O H1) (hid O H2) := (s1.trans l2.keep).trans (same_unor O p H2)
      have l3 : Le O A H1 O A H2 := ⟨s2, fun a oa na => ⟨fz a oa, oa⟩, fun _ h => .inl h, fun a ha => l2.dom a (hz.dom a ha)⟩
      exact q v (.d d) μ1 H2 (.trans e.wok.dom l1 l3) (w1.same s2 fz) (rp_d (dp_mono (same_unor O p H2) hd)) k
/-! ### methods of changeable lists -/
def WM (K : PySem.W.Frag) (f : V → List V → Hp → VK → Prop) (a : Res) (as : List Res) (μ : List MO) (P : Res → List MO → Prop) : Prop :=
  ∀ O A H x xs, WOk K O A H μ → RepR K O A H x a → RepAll K O A H xs as → ∀ Q : VK, (∀ v r μ' H', Le O A H O A H' → WOk K O A H' μ' → RepR K O A H' v r → P r μ' → Q v H') → f x xs H Q
theorem we_bm {f : V → List V → Hp → VK → Prop} {to : TE} {tr : TA} (h : WE K to ds μ fun a μ1 => (∃ xs, RdL μ1 a xs) ∧ WA K tr ds μ1 fun as μ2 => WM K f a as μ2 P) : WE K (tBM K "list" f to tr) ds μ P := fun σ O A H e Q q =>
  h σ O A H e _ fun x a μ1 H1 l1 w1 r1 h1 => by
    obtain ⟨⟨xs, rl⟩, h1⟩ := h1
    obtain ⟨ad, us, rfl, sq, hd⟩ := rl.get w1 r1
    refine ⟨.inl ⟨rfl, us, sq⟩, ?_⟩
    refine h1 σ O A H1 (e.mono l1.keep w1) _ fun ys as μ2 H2 l2 w2 r2 h2 => ?_
    exact h2 O A H2 _ ys w2 (r1.mono l2.keep) r2 Q fun v r μ3 H3 l3 w3 r3 p => q v r μ3 H3 (.trans e.wok.dom l1 (.trans w1.dom l2 l3)) w3 r3 p
theorem wm_append {j : Nat} {xs : List PyData} {d : PyData} (hj : μ[j]? = some (MO.lst xs)) (hz : xs.length < sizeLine) (p : P (.d .none) (μ.set j (MO.lst (xs ++ [d])))) : WM K rAppend (.m j) [.d d] μ P := fun O A H x ys wk hx hy Q q => by
  obtain ⟨ad, e, oa, _, us, hm, hd⟩ := wk.at hj
  obtain ⟨ad', e', rfl⟩ := hx
  rw [e] at e'; cases e'
  cases hy with
  | cons r1 rr =>
    cases rr
    rename_i y
    have hl := dpAll_len hd
    obtain ⟨w2, l2⟩ := wk.write (k := j) (mo := MO.lst (xs ++ [d])) (o := .lst (us ++ [y])) e ⟨by rw [List.length_append]; simp; omega, _, upd_same, by rw [hid_updIn oa]; exact dpAll_append hd (.cons r1 .nil)⟩
    exact ⟨ad, us, y, rfl, rfl, hm, by omega, q _ _ _ _ l2 w2 (rp_d Dq.non) p⟩
theorem wm_popAt {j i : Nat} {xs : List PyData} {d : PyData} (hj : μ[j]? = some (MO.lst xs)) (hd0 : xs[i]? = some d) (hi : i < 2 ^ 62) (p : P (.d d) (μ.set j (MO.lst (xs.eraseIdx i)))) : WM K rPopAt (.m j) [.d (.int i)] μ P := fun O A H x ys wk hx hy Q q => by
  obtain ⟨ad, e, oa, hz, us, hm, hd⟩ := wk.at hj
  obtain ⟨ad', e', rfl⟩ := hx
  rw [e] at e'; cases e'
  cases hy with
  | cons r1 rr =>
    cases rr
    cases r1
    obtain ⟨v, hv, hdv⟩ := dpAll_get' hd hd0
    have hil : i < us.length := (List.getElem?_eq_some_iff.mp hv).1
    obtain ⟨w2, l2⟩ := wk.write (k := j) (mo := MO.lst (xs.eraseIdx i)) (o := .lst (us.eraseIdx i)) e ⟨Nat.le_trans (by have := len_erase xs i; omega) hz, _, upd_same, by rw [hid_updIn oa]; exact dpAll_erase i hd⟩
    have sx : seqIndex? (i : Int) us.length = some i := by
      have := ixN_seq (n := us.length) (i := (i : Int)) (j := i) (by
        unfold ixN
        rw [if_pos (by omega), if_pos (by omega), Int.toNat_natCast])
      exact this.1
    refine ⟨ad, us, i, i, v, rfl, rfl, hm, by omega, by omega, sx, hv, q _ _ _ _ l2 w2 (rp_d ?_) p⟩
    rw [hid_updIn oa]
    exact hdv
def rInsert : V → List V → Hp → VK → Prop := fun x vs H Q => ∃ (l : Addr) (xs : List V) (i : Int) (y : V), x = .ref l ∧ vs = [.int i, y] ∧ H l = some (.lst xs) ∧ xs.length < sizeLine ∧ 0 ≤ i ∧ i < 2 ^ 63 ∧
    Q .non (upd H l (.lst (xs.take i.toNat ++ [y] ++ xs.drop i.toNat)))
theorem mt_insertX {X : Cx} : MtR X "list.insert" rInsert := mt_insert
theorem wm_insert {j : Nat} {i : Int} {xs : List PyData} {d : PyData} (hj : μ[j]? = some (MO.lst xs)) (hz : xs.length < sizeLine) (h0 : 0 ≤ i) (h1 : i < 2 ^ 63) (p : P (.d .none) (μ.set j (MO.lst (xs.take i.toNat ++ [d] ++ xs.drop i.toNat)))) : WM K rInsert (.m j) [.d (.int i), .d d] μ P := fun O A H x ys wk hx hy Q q => by
  obtain ⟨ad, e, oa, _, us, hm, hd⟩ := wk.at hj
  obtain ⟨ad', e', rfl⟩ := hx
  rw [e] at e'; cases e'
  cases hy with
  | cons r1 rr =>
    cases rr with
    | cons r2 rr =>
      cases rr
      cases r1
      rename_i y
      have hl := dpAll_len hd
      obtain ⟨w2, l2⟩ := wk.write (k := j) (mo := MO.lst (xs.take i.toNat ++ [d] ++ xs.drop i.toNat)) (o := .lst (us.take i.toNat ++ [y] ++ us.drop i.toNat)) e ⟨by
        rw [List.length_append, List.length_append, List.length_take, List.length_drop, List.length_singleton]; omega, _, upd_same, by
        rw [hid_updIn oa]; exact dpAll_append (dpAll_append (dpAll_take _ hd) (.cons r2 .nil)) (dpAll_drop _ hd)⟩
      exact ⟨ad, us, i, y, rfl, rfl, hm, by omega, h0, h1, q _ _ _ _ l2 w2 (rp_d Dq.non) p⟩
/-- xs[i] = e -/
theorem sx_setL {j i : Nat} {xs : List PyData} {d : PyData} (hi : i < xs.length)
    (h : WE K te ds μ fun r μ1 => r = .d d ∧ WE K ta ds μ1 fun o μ2 => o = .m j ∧ WE K tb ds μ2 fun k μ3 => k = .d (.int i) ∧ μ3[j]? = some (MO.lst xs) ∧ D.nx ds (μ3.set j (MO.lst (xs.set i d)))) :
    SX K n (tAsg te (gSub ta tb rSetL)) D ds μ := fun σ O A H E e q => by
  refine h σ O A H e _ fun v r μ1 H1 l1 w1 r1 h1 => ?_
  obtain ⟨rfl, h1⟩ := h1
  refine h1 σ O A H1 (e.mono l1.keep w1) _ fun o r μ2 H2 l2 w2 r2 h2 => ?_
  obtain ⟨rfl, h2⟩ := h2
  refine h2 σ O A H2 ((e.mono l1.keep w1).mono l2.keep w2) _ fun k r μ3 H3 l3 w3 r3 h3 => ?_
  obtain ⟨rfl, hj, h3⟩ := h3
  obtain ⟨ad, e0, oa, hz, us, hm, hd⟩ := w3.at hj
  obtain ⟨ad', e', rfl⟩ := r2
  rw [e0] at e'; cases e'
  cases r3
  have hl := dpAll_len hd
  have hv : Dq (hid O H3) v d := dp_mono (l2.keep.trans l3.keep) r1
  obtain ⟨w4, l4⟩ := w3.write (k := j) (mo := MO.lst (xs.set i d)) (o := .lst (us.set i v)) e0 ⟨by rw [List.length_set]; exact hz, _, upd_same, by rw [hid_updIn oa]; exact dpAll_set hv i hd⟩
  have l14 : Le O A H O A (upd H3 ad (.lst (us.set i v))) := .trans e.wok.dom l1 (.trans w1.dom l2 (.trans w2.dom l3 l4))
  refine ⟨ad, us, i, i, rfl, rfl, hm, by unfold ixN; rw [if_pos (by omega), if_pos (by omega), Int.toNat_natCast], ?_⟩
  exact q.nx σ O A _ ds _ (.of l14) (e.mono l14.keep w4) h3
/-! ### zip, enumerate -/
theorem walk_zipG {b1 b2 : Bool} {a b : Addr} {xs ys : List V} {n : Nat} (hn : n = min xs.length ys.length) : Walk (ItzG K b1 b2 a b) n (fun H => SqA K b1 H a xs ∧ SqA K b2 H b ys) (YPair (fun i => xs[i]?) (fun i => ys[i]?)) := by
  subst hn
  refine ⟨fun i _ hi q => ?_, fun _ q => ⟨xs, ys, q.1, q.2, by omega⟩, fun i H v H' _ q y => ?_⟩
  · have h1 : i < xs.length := by omega
    have h2 : i < ys.length := by omega
    exact ⟨xs, ys, xs[i], ys[i], q.1, q.2, by simp [h1], by simp [h2]⟩
  · obtain ⟨T, x, z, h1, h2, h3, h4, h5⟩ := y
    exact ⟨T, x, z, h1, h2, h3, h4 xs q.1, h5 ys q.2⟩
theorem walk_enumG {b : Bool} {a : Addr} {xs : List V} : Walk (IteG K b a) xs.length (fun H => SqA K b H a xs) (YPair (fun i => some (.int (i : Nat))) (fun i => xs[i]?)) := by
  refine ⟨fun i _ hi q => ⟨xs, xs[i], q, by simp [hi]⟩, fun _ q => ⟨xs, q, rfl⟩, fun i H v H' _ q y => ?_⟩
  obtain ⟨T, x, h1, h2, h3, h4⟩ := y
  exact ⟨T, .int (i : Nat), x, h1, h2, h3, rfl, h4 xs q⟩
/-- data that is a list or a tuple -/
inductive SeqD : PyData → Bool → List PyData → Prop
  | t (xs : List PyData) : SeqD (.tuple xs) true xs
  | l (xs : List PyData) : SeqD (.list xs) false xs
theorem SeqD.get {d : PyData} {b : Bool} {xs : List PyData} {v : V} {H : Hp} (h : SeqD d b xs) (q : Dq H v d) : ∃ a vs, v = .ref a ∧ DqAll H vs xs ∧ ∀ H', Same H H' → SqA K b H' a vs := by
  cases h with
  | t xs =>
    cases q with
    | tup h1 h2 => exact ⟨_, _, rfl, h2, fun H' s => SqT.of (s _ _ h1)⟩
  | l xs =>
    cases q with
    | lst h1 h2 => exact ⟨_, _, rfl, h2, fun H' s => SqL.of (s _ _ h1)⟩
theorem wi_zipG {tr : TA} {Pi : List PyData → List MO → Prop} (h : WA K tr ds μ fun rs μ1 => ∃ d1 d2 b1 b2 xs ys, rs = [.d d1, .d d2] ∧ SeqD d1 b1 xs ∧ SeqD d2 b2 ys ∧ Pi (zipD xs ys) μ1) : WI K (iZipG K tr) ds μ Pi := fun σ O A H e R q =>
  h σ O A H e _ fun vs rs μ1 H1 l w rp p => by
    obtain ⟨d1, d2, b1, b2, xs, ys, rfl, s1, s2, p⟩ := p
    cases rp with
    | cons r rr =>
      cases rr with
      | cons r' rr =>
        cases rr
        obtain ⟨a1, us, rfl, q1, k1⟩ := s1.get (K := K) r
        obtain ⟨a2, ws, rfl, q2, k2⟩ := s2.get (K := K) r'
        refine ⟨b1, b2, a1, a2, us, ws, rfl, k1 _ (hid_le O H1), k2 _ (hid_le O H1), q _ _ μ1 H1 l w (iter_pair (walk_zipG (K := K) (by rw [zipD_len, dpAll_len q1, dpAll_len q2])) (fun O' H' s => ⟨k1 _ (s.trans (hid_le O' H')), k2 _ (s.trans (hid_le O' H'))⟩) fun i x y hi hx hy => ?_) p⟩
        obtain ⟨dx, e1, f1⟩ := dpAll_get q1 hx
        obtain ⟨dy, e2, f2⟩ := dpAll_get q2 hy
        exact ⟨dx, dy, zipD_get e1 e2, f1, f2⟩
theorem wi_enumG {tr : TA} {Pi : List PyData → List MO → Prop} (h : WA K tr ds μ fun rs μ1 => ∃ d b xs, rs = [.d d] ∧ SeqD d b xs ∧ Pi (enumD xs) μ1) : WI K (iEnumG K tr) ds μ Pi := fun σ O A H e R q =>
  h σ O A H e _ fun vs rs μ1 H1 l w rp p => by
    obtain ⟨d, b, xs, rfl, s1, p⟩ := p
    cases rp with
    | cons r rr =>
      cases rr
      obtain ⟨a, us, rfl, q1, k1⟩ := s1.get (K := K) r
      refine ⟨b, a, us, rfl, k1 _ (hid_le O H1), q _ _ μ1 H1 l w (iter_pair (by rw [enumD_len, ← dpAll_len q1]; exact walk_enumG (K := K)) (fun O' H' s => k1 _ (s.trans (hid_le O' H'))) fun i x y hi hx hy => ?_) p⟩
      cases hx
      obtain ⟨dy, e2, f2⟩ := dpAll_get q1 hy
      exact ⟨_, dy, enumD_get e2, Dq.int _, f2⟩
end
end Wv

set_option Elab.async false
set_option linter.all false
set_option maxRecDepth 100000
set_option maxHeartbeats 2000000
namespace Wv
open PySem PySem.Spec PyProof.Rows L2
/-! ### the text's own defs -/
/-- a def stands where the module's name says -/
structure DefAt (K : PySem.W.Frag) (mg : Str → Option Value) (name : Str) (st : Stmt) (ps : List Str) : Prop where
  ex : ∃ f fd, Fun K name name st f fd ∧ mg name = some (.ref f) ∧ Binds K fd ps []
/-- a def keeps its promise -/
structure Own (Pg : Program) (w : World) (K : PySem.W.Frag) (mg : Str → Option Value) (base : Heap) (name : Str) (ps : List Str) (k : Nat) (S : Spec) : Prop where
  ex : ∃ f fd, FnOk Pg w K mg base CX0 k f fd ps (FSp K S) ∧ mg name = some (.ref f) ∧ PySem.W.keepIn K (.ref f) = true ∧ Binds K fd ps []
section
variable {Pg : Program} {w : World} {K : PySem.W.Frag} {mg : Str → Option Value} {base : Heap} {name : Str} {ps N : List Str} {k : Nat} {S : Spec} {st : Stmt}
theorem own_of (F : DefAt K mg name st ps) (Sc : FnScope N ps (defScope st)) (len : ∀ rs μ P, S rs μ P → rs.length = ps.length)
    (body : ∀ (cdv : Value) (A : Around) (outer : List Env) (s : Shared) (H : Hp) (E : XK) (f : Addr), Room k (A.deeper (envOfC name (defScope st) s.heap.objs.size f cdv)) →
      ∃ t, PSs (cxOf CX0 Pg w K mg base N name (defScope st) f cdv A outer s H E).nox (defBody st) t ∧ ∀ rs μ P, S rs μ P → SX K μ.length t (endsOf μ.length P) (startD N.length rs) μ) : Own Pg w K mg base name ps (k + 1) S := by
  obtain ⟨f, fd, F, hm, hb⟩ := F.ex
  exact ⟨f, fd, fn_ok F Sc len fun cdv A outer s H E hr => body cdv A outer s H E f hr, hm, F.kp, hb⟩
theorem Own.mono {j : Nat} (o : Own Pg w K mg base name ps j S) (h : j ≤ k) : Own Pg w K mg base name ps k S := by
  obtain ⟨f, fd, F, r⟩ := o.ex
  exact ⟨f, fd, F.mono h, r⟩
theorem Own.imp {S' : Spec} (o : Own Pg w K mg base name ps k S) (h : ∀ rs μ P, S' rs μ P → S rs μ P) : Own Pg w K mg base name ps k S' := by
  obtain ⟨f, fd, F, r⟩ := o.ex
  refine ⟨f, fd, F.imp fun vs H Q E q => ?_, r⟩
  obtain ⟨O, A, rs, μ, P, w, ra, hs, q⟩ := q
  exact ⟨O, A, rs, μ, P, w, ra, h rs μ P hs, q⟩
end
section
variable {X : Cx} {name : Str} {ps : List Str} {k : Nat} {S : Spec} {p pos : Pos} {e : Expr} {es : List Expr} {t : TA}
theorem pe_own (G : Own X.prog X.w X.K X.mg X.base name ps k S) (hr : Room k X.A) (ha : PA X (e :: es) t) (hg : Gl X name := by rfl) (hdb : (name == ("__debug__" : Str)) = false := by decide)
    (he : starEach (e :: es) X.env = (false, eval e X.env) :: starEach es X.env := by rfl) (hpl : (backTo pos (starEach es X.env)).any (·.1) = false := by rfl) :
    PE X (.Call (.Name name p) (e :: es) [] pos) (tCall (FSp X.K S) [] E0 t) := by
  obtain ⟨f, fd, F, hm, hk, hb⟩ := G.ex
  exact pe_call F hr hg hm hk hb .nil pass0 ha hdb he hpl
theorem pe_own0 (G : Own X.prog X.w X.K X.mg X.base name ps k S) (hr : Room k X.A) (hg : Gl X name := by rfl) (hdb : (name == ("__debug__" : Str)) = false := by decide) :
    PE X (.Call (.Name name p) [] [] pos) (tCall (FSp X.K S) [] E0 tNil) := by
  obtain ⟨f, fd, F, hm, hk, hb⟩ := G.ex
  exact pe_call0 F hr hg hm hk hb .nil pass0 hdb
end
theorem defAt_mk {K : PySem.W.Frag} {mg : Str → Option Value} {name : Str} {st : Stmt} {ps : List Str} {h : Heap} (X : K.In h) (G : h.Ns mainGlobals mg) {f : Addr} {od an : Option Addr} {sl : Array (Option Value)} {oc kV dc pm cd ct : Value}
    (a : PySem.W.nsIn K mainGlobals name = some (some (.ref f))) (l : K.lookup f = some ⟨oc, od, .func (PySem.W.fnOf name name (defArgs st) (defBody st) (defScope st) .none kV dc pm an cd ct), sl⟩) (c : PySem.W.codeIn K cd name = true) (kp : PySem.W.keepIn K (.ref f) = true)
    (b : ∀ (kV doc pm : Value) (an : Option Addr) (cdv ct : Value) (us : List Value), us.length = ps.length → bindArgs (PySem.W.fnOf name name (defArgs st) (defBody st) (defScope st) .none kV doc pm an cdv ct) ⟨us, []⟩ = pure (ps.zip us)) : DefAt K mg name st ps := by
  have F := fun_mk (st := st) l c kp
  exact ⟨f, _, F, PySem.W.mg_of X G a, F.binds b⟩
/-- the law's own promise -/
def spLawD : Spec := fun rs μ P => ∃ ns : List Int, rs = [.s ns] ∧ ns.length ≤ 63 ∧ μ = [] ∧ P (.bool true) []
theorem law_sp {K : PySem.W.Frag} {H : Hp} {a : Addr} {ns : List Int} (hl : ns.length ≤ 63) (h : SqL K H a (ns.map V.int)) : FSp K spLawD [.ref a] H (fun v _ => v = .bl true) fun _ _ _ => False := by
  refine ⟨fun _ => False, [], [.s ns], [], fun d _ => d = .bool true, ⟨rfl, List.nodup_nil, fun _ h => (by cases h), fun _ h => h.elim, fun _ _ _ h => (by simp at h)⟩, .cons ⟨a, rfl, ?_⟩ .nil, ⟨ns, rfl, hl, rfl, rfl⟩, fun v d μ' H' l w hd e => ?_⟩
  · exact same_l (fun b o hb => by rw [hid_out (fun z => z)]; exact hb) h
  · subst e
    cases hd
    rfl
/-! ### rooms -/
theorem hu65 {k : Nat} {A : Around} (r : Room k A) : A.units + 65 < cLine := by have := r.un; omega
theorem hu9 {k : Nat} {A : Around} (r : Room k A) : A.units + 9 < cLine := by have := r.un; omega
end Wv

set_option Elab.async false
set_option linter.all false
set_option maxRecDepth 100000
set_option maxHeartbeats 2000000
namespace Wv
open PySem PySem.Spec PyProof.Rows L2
section
variable {K : PySem.W.Frag} {n : Nat} {ds : DSt} {μ : List MO} {D : DEnds} {t u : TS} {te ta tb : TE} {tt : TT} {P : Res → List MO → Prop} {O : Addr → Prop} {A : List Addr} {H : Hp}
theorem wt_yes {P : Bool → List MO → Prop} (h : P true μ) : WT K tYes ds μ P := fun σ O A H e Q q => q true μ H (.refl O A H) e.wok h
theorem wt_imp {P P' : Bool → List MO → Prop} (h : WT K tt ds μ P) (k : ∀ b μ', P b μ' → P' b μ') : WT K tt ds μ P' := fun σ O A H e Q q => h σ O A H e Q fun b μ' H' l w p => q b μ' H' l w (k b μ' p)
theorem wgc_imp {g : TG} {vs : List Nat} {d : PyData} {P P' : DSt → Prop} (h : WGc K g vs d ds μ P) (k : ∀ ds', P ds' → P' ds') : WGc K g vs d ds μ P' := fun σ O A H v e r Q q => h σ O A H v e r Q fun σ' ds' e' w' p => q σ' ds' e' w' (k ds' p)
/-- a comprehension that changes nothing -/
theorem wn_lcF {wi : TI} {g : TG} {vs : List Nat} {Pn : List PyData → List MO → Prop} (p : PyData → Bool) (f : PyData → PyData)
    (h : WI K wi ds μ fun its μ1 => its.length < sizeLine ∧ (∀ d ∈ its, WGc K g vs d (wipeD ds vs) μ1 fun ds2 => WT K tt ds2 μ1 fun b μ2 => b = p d ∧ μ2 = μ1 ∧ (p d = true → WE K te ds2 μ1 fun r μ3 => r = .d (f d) ∧ μ3 = μ1)) ∧ Pn ((its.filter p).map f) μ1) : WN K (tLc wi g tt te vs) ds μ Pn := by
  refine wn_lc fun σ O A H e R q => h σ O A H e R fun J its μ1 H1 l w it k => q J its μ1 H1 l w it ?_
  obtain ⟨hz, hs, hp⟩ := k
  refine ⟨hz, fun i acc μ' => acc = ((its.take i).filter p).map f ∧ μ' = μ1, ⟨rfl, rfl⟩, fun i d acc μ' hi iv => ?_, fun acc μ' iv => ?_⟩
  · obtain ⟨rfl, rfl⟩ := iv
    have et : its.take (i + 1) = its.take i ++ [d] := by rw [List.take_add_one, hi]; rfl
    refine wgc_imp (hs d (List.mem_of_getElem? hi)) fun ds2 h2 => wt_imp h2 fun b μ2 h3 => ?_
    obtain ⟨rfl, rfl, h3⟩ := h3
    refine ⟨fun hb => we_imp (h3 hb) fun r μ3 h4 => ?_, fun hb => ?_⟩
    · obtain ⟨rfl, rfl⟩ := h4
      refine ⟨f d, rfl, ?_, rfl⟩
      rw [et, List.filter_append, List.filter_cons, if_pos hb, List.map_append]
      rfl
    · refine ⟨?_, rfl⟩
      rw [et, List.filter_append, List.filter_cons, if_neg (by rw [hb]; decide)]
      simp
  · obtain ⟨rfl, rfl⟩ := iv
    rw [List.take_length]
    exact hp
/-- .. without a test -/
theorem wn_lcM {wi : TI} {g : TG} {vs : List Nat} {Pn : List PyData → List MO → Prop} (f : PyData → PyData)
    (h : WI K wi ds μ fun its μ1 => its.length < sizeLine ∧ (∀ d ∈ its, WGc K g vs d (wipeD ds vs) μ1 fun ds2 => WE K te ds2 μ1 fun r μ3 => r = .d (f d) ∧ μ3 = μ1) ∧ Pn (its.map f) μ1) : WN K (tLc wi g tYes te vs) ds μ Pn :=
  wn_lcF (fun _ => true) f fun σ O A H e R q => h σ O A H e R fun J its μ1 H1 l w it k => q J its μ1 H1 l w it ⟨k.1, fun d hd => wgc_imp (k.2.1 d hd) fun ds2 h2 => wt_yes ⟨rfl, rfl, fun _ => h2⟩, by
    rw [List.filter_eq_self.mpr fun _ _ => rfl]
    exact k.2.2⟩
/-! ### data of whole numbers -/
abbrev nums (ns : List Int) : List PyData := ns.map .int
theorem zip_nums (xs ys : List Int) : zipD (nums xs) (nums ys) = (xs.zip ys).map fun p => .tuple [.int p.1, .int p.2] := by
  unfold zipD nums
  rw [List.zip_map, List.map_map]
  rfl
theorem cut_from (xs : List PyData) (k : Nat) : cutD xs (some k) none = xs.drop k := by
  unfold cutD
  rw [HT.sIx_nat, HT.sIx_none]
  by_cases h : k ≤ xs.length
  · rw [Nat.min_eq_left h, List.take_of_length_le (by rw [List.length_drop]; exact Nat.le_refl _)]
  · rw [Nat.min_eq_right (by omega), List.drop_of_length_le (Nat.le_refl _), List.drop_of_length_le (by omega)]
    simp
theorem cut_to (xs : List PyData) (k : Nat) : cutD xs none (some k) = xs.take k := by
  unfold cutD
  rw [HT.sIx_nat, HT.sIx_none, List.drop_zero, Nat.sub_zero]
  by_cases h : k ≤ xs.length
  · rw [Nat.min_eq_left h]
  · rw [Nat.min_eq_right (by omega), List.take_length, List.take_of_length_le (by omega)]
theorem cut_from1 (xs : List PyData) : cutD xs (some 1) none = xs.drop 1 := cut_from xs 1
theorem cut_to1 (xs : List PyData) : cutD xs none (some 1) = xs.take 1 := cut_to xs 1
/-- a list or a tuple -/
def seqOf : Bool → List PyData → PyData
  | true, xs => .tuple xs
  | false, xs => .list xs
theorem SeqD.of (b : Bool) (xs : List PyData) : SeqD (seqOf b xs) b xs := by
  cases b with
  | true => exact .t xs
  | false => exact .l xs
theorem RdS.of {b : Bool} {xs : List PyData} : RdS μ (.d (seqOf b xs)) xs := by
  cases b with
  | true => exact .t xs
  | false => exact .l (.d xs)
theorem we_slS {tl th : TO} (h : WE K te ds μ fun a μ1 => WO K tl ds μ1 fun lo μ2 => WO K th ds μ2 fun hi μ3 => ∃ b xs, a = .d (seqOf b xs) ∧ xs.length ≤ sizeLine ∧ P (.d (seqOf b (cutD xs lo hi))) μ3) : WE K (tSl (rSlX K) te tl th) ds μ P := fun σ O A H e Q q => by
  refine h σ O A H e _ fun x a μ1 H1 l1 w1 r1 h1 => h1 σ O A H1 (e.mono l1.keep w1) _ fun lo μ2 H2 l2 w2 h2 => h2 σ O A H2 ((e.mono l1.keep w1).mono l2.keep w2) _ fun hi μ3 H3 l3 w3 h3 => ?_
  obtain ⟨b, xs, rfl, hz, p⟩ := h3
  have l13 : Le O A H O A H3 := .trans e.wok.dom l1 (.trans w1.dom l2 l3)
  have r3 := r1.mono (l2.keep.trans l3.keep)
  cases b with
  | true =>
    cases r3 with
    | @tup a us _ h1 h2 =>
      have el := dpAll_len h2
      refine .inr ⟨a, us, rfl, SqT.of (of_hid h1).2, fun hw => ?_, fun hw => ?_⟩
      · have ec : cutD xs lo hi = xs := by
          unfold cutD
          rw [← el, hw.1, hw.2, List.drop_zero, Nat.sub_zero, el, List.take_length]
        rw [ec] at p
        exact q _ _ μ3 H3 l13 w3 (rp_d (Dq.tup h1 h2)) p
      · exact tup_laid (fun v r μ' H' l w rp p => q v r μ' H' (.trans e.wok.dom l13 l) w rp p) w3 (cut_dq h2 lo hi) p
  | false =>
    cases r3 with
    | @lst a us _ h1 h2 => exact .inl ⟨a, us, rfl, SqL.of (of_hid h1).2, fun c hc => q _ _ μ3 _ (.trans e.wok.dom l13 (Le.laid w3 hc)) (w3.laid hc) (rp_d (Dq.lst (hid_new (fresh_out w3 hc)) (dpAll_mono (Le.laid w3 hc).keep (cut_dq h2 lo hi)))) p⟩
theorem we_revS (h : WE K te ds μ fun a μ1 => ∃ b xs, a = .d (seqOf b xs) ∧ P (.d (seqOf b xs.reverse)) μ1) : WE K (tRevA K te) ds μ P := fun σ O A H e Q q => by
  refine h σ O A H e _ fun x a μ1 H1 l1 w1 r1 h1 => ?_
  obtain ⟨b, xs, rfl, p⟩ := h1
  cases b with
  | true =>
    cases r1 with
    | @tup a us _ h1 h2 => exact ⟨a, us, rfl, .inr ⟨SqT.of (of_hid h1).2, tup_laid (fun v r μ' H' l w rp p => q v r μ' H' (.trans e.wok.dom l1 l) w rp p) w1 (dpAll_reverse h2) p⟩⟩
  | false =>
    cases r1 with
    | @lst a us _ h1 h2 => exact ⟨a, us, rfl, .inl ⟨SqL.of (of_hid h1).2, fun c hc => q _ _ μ1 _ (.trans e.wok.dom l1 (Le.laid w1 hc)) (w1.laid hc) (rp_d (Dq.lst (hid_new (fresh_out w1 hc)) (dpAll_mono (Le.laid w1 hc).keep (dpAll_reverse h2)))) p⟩⟩
theorem wi_seqS {Pi : List PyData → List MO → Prop} (h : WE K te ds μ fun r μ1 => ∃ b xs, r = .d (seqOf b xs) ∧ Pi xs μ1) : WI K (iSeq K te) ds μ Pi := wi_seq (we_imp h fun r μ1 k => by
  obtain ⟨b, xs, rfl, p⟩ := k
  cases b with
  | true => exact ⟨xs, .inr rfl, p⟩
  | false => exact ⟨xs, .inl rfl, p⟩)
/-! ### what may be compared -/
def Shp (k : Nat) (d : PyData) : Prop := d.canLay0 = true ∧ d.depth ≤ k
theorem Shp.mono {j k : Nat} {d : PyData} (h : Shp j d) (hk : j ≤ k) : Shp k d := ⟨h.1, Nat.le_trans h.2 hk⟩
theorem Shp.ok {k : Nat} {d : PyData} (h : Shp k d) (hk : k ≤ 64 := by decide) : SeqAt.shaped d = true := by
  unfold SeqAt.shaped
  rw [h.1, decide_eq_true (Nat.le_trans h.2 hk)]
  rfl
theorem shp_int (i : Int) : Shp 0 (.int i) := ⟨rfl, Nat.le_refl _⟩
theorem shp_none : Shp 0 .none := ⟨rfl, Nat.le_refl _⟩
theorem shp_bool (b : Bool) : Shp 0 (.bool b) := ⟨rfl, Nat.le_refl _⟩
theorem shp_str {x : Str} (h : (PyData.str x).canLay0 = true) : Shp 0 (.str x) := ⟨h, Nat.le_refl _⟩
theorem shp_all {k : Nat} : ∀ {xs : List PyData}, (∀ x ∈ xs, Shp k x) → PyData.canLayAll0 xs = true ∧ PyData.depthAll xs ≤ k
  | [], _ => ⟨rfl, Nat.zero_le _⟩
  | x :: xs, h => by
    obtain ⟨h1, h2⟩ := h x (by simp)
    obtain ⟨h3, h4⟩ := shp_all (xs := xs) fun y hy => h y (List.mem_cons_of_mem _ hy)
    refine ⟨?_, ?_⟩
    · show (x.canLay0 && PyData.canLayAll0 xs) = true
      rw [h1, h3]; rfl
    · show max x.depth (PyData.depthAll xs) ≤ k
      omega
theorem shp_seq {k : Nat} {b : Bool} {xs : List PyData} (h : ∀ x ∈ xs, Shp k x) : Shp (k + 1) (seqOf b xs) := by
  obtain ⟨h1, h2⟩ := shp_all h
  cases b <;> exact ⟨h1, Nat.succ_le_succ h2⟩
theorem shp_tup {k : Nat} {xs : List PyData} (h : ∀ x ∈ xs, Shp k x) : Shp (k + 1) (.tuple xs) := shp_seq (b := true) h
theorem shp_lst {k : Nat} {xs : List PyData} (h : ∀ x ∈ xs, Shp k x) : Shp (k + 1) (.list xs) := shp_seq (b := false) h
theorem shp_nums (b : Bool) (ns : List Int) : Shp 1 (seqOf b (nums ns)) := shp_seq fun x hx => by
  obtain ⟨i, _, rfl⟩ := List.mem_map.mp hx
  exact shp_int i
/-- sorted, list as data -/
theorem wc_sort {a : Res} {ns : List Int} (h : RdS μ a (nums ns)) (p : ∀ ns' : List Int, ns'.Perm ns → ns'.Pairwise (· ≤ ·) → P (.d (.list (nums ns'))) μ) : WC K (rSortG K) [a] μ P := fun O A H vs w hr Q q => by
  cases hr with
  | cons r1 rr =>
    cases rr
    obtain ⟨bb, ad, us, rfl, sq, hd⟩ := h.get w r1
    have eu := dpAll_ints hd
    subst eu
    exact ⟨bb, ad, ns, rfl, sq, fun ns' c h1 h2 hc => q _ _ μ _ (Le.laid w hc) (w.laid hc) (rp_d (Dq.lst (hid_new (fresh_out w hc)) (ints_dpAll ns'))) (p ns' h1 h2)⟩
theorem wc_lst {a : Res} {xs : List PyData} (h : RdS μ a xs) (p : P (.d (.list xs)) μ) : WC K (rLstX K) [a] μ P := fun O A H vs w hr Q q => by
  cases hr with
  | cons r1 rr =>
    cases rr
    obtain ⟨bb, ad, us, rfl, sq, hd⟩ := h.get w r1
    refine ⟨ad, us, rfl, ?_, fun c hc => q _ _ μ _ (Le.laid w hc) (w.laid hc) (rp_d (Dq.lst (hid_new (fresh_out w hc)) (dpAll_mono (Le.laid w hc).keep hd))) p⟩
    cases bb with
    | false => exact .inl sq
    | true => exact .inr sq
/-! ### less told of changeable objects -/
structure Wk (μ μ' : List MO) : Prop where
  len : μ.length = μ'.length
  imp : ∀ (k : Nat) m m', μ[k]? = some m → μ'[k]? = some m' → m.Imp m'
theorem Wk.one {m m' : MO} (h : m.Imp m') : Wk [m] [m'] := ⟨rfl, fun k a b h1 h2 => by
  have e : k = 0 := by
    have := (List.getElem?_eq_some_iff.mp h1).1
    simp at this
    omega
  subst e
  cases h1; cases h2
  exact h⟩
theorem Wk.set {k : Nat} {m m' : MO} (hk : μ[k]? = some m) (h : m.Imp m') : Wk μ (μ.set k m') := ⟨by rw [List.length_set], fun j a b h1 h2 => by
  by_cases hj : k = j
  · subst hj
    rw [hk] at h1; cases h1
    rw [List.getElem?_set_self (List.getElem?_eq_some_iff.mp hk).1] at h2
    cases h2
    exact h
  · rw [List.getElem?_set_ne hj, h1] at h2
    cases h2
    exact .refl _⟩
theorem WOk.wk {μ' : List MO} (w : WOk K O A H μ) (k : Wk μ μ') : WOk K O A H μ' :=
  ⟨w.len.trans k.len, w.nd, w.inO, w.dom, fun j a m h1 h2 => by
    have hj : j < μ.length := by rw [k.len]; exact (List.getElem?_eq_some_iff.mp h2).1
    exact k.imp j _ m (List.getElem?_eq_getElem hj) h2 _ _ _ _ (w.obj j a _ h1 (List.getElem?_eq_getElem hj))⟩
theorem wr_wk {f : R2} {a b : Res} (h : WR K f a b μ fun r μ' => ∃ μ'', Wk μ' μ'' ∧ P r μ'') : WR K f a b μ P := fun O A H x y w hx hy Q q => h O A H x y w hx hy Q fun v r μ' H' l w' rp p => by
  obtain ⟨μ'', k, p⟩ := p
  exact q v r μ'' H' l (w'.wk k) rp p
theorem we_wk (h : WE K te ds μ fun r μ' => ∃ μ'', Wk μ' μ'' ∧ P r μ'') : WE K te ds μ P := fun σ O A H e Q q => h σ O A H e Q fun v r μ' H' l w' rp p => by
  obtain ⟨μ'', k, p⟩ := p
  exact q v r μ'' H' l (w'.wk k) rp p
theorem size_big {k : Nat} (h : k ≤ 10000000) : k < sizeLine := Nat.lt_of_le_of_lt h (by decide)
theorem size_le {k : Nat} (h : k ≤ 10000000) : k ≤ sizeLine := Nat.le_of_lt (size_big h)
end
end Wv

set_option Elab.async false
set_option linter.all false
set_option maxRecDepth 100000
set_option maxHeartbeats 2000000
namespace Wv
open PySem PySem.Spec PyProof.Rows L2
def isInt : PyData → Bool
  | .bool _ => true
  | .int _ => true
  | _ => false
theorem isi_int : ∀ x : PyData, kitB (tyD x) "int" = some (isInt x)
  | .none => (by decide +kernel : kitB "NoneType" "int" = some false)
  | .bool _ => (by decide +kernel : kitB "bool" "int" = some true)
  | .int _ => (by decide +kernel : kitB "int" "int" = some true)
  | .str _ => (by decide +kernel : kitB "str" "int" = some false)
  | .list _ => (by decide +kernel : kitB "list" "int" = some false)
  | .tuple _ => (by decide +kernel : kitB "tuple" "int" = some false)
  | .dict _ => (by decide +kernel : kitB "dict" "int" = some false)
def isBool : PyData → Bool
  | .bool _ => true
  | _ => false
theorem isi_bool : ∀ x : PyData, kitB (tyD x) "bool" = some (isBool x)
  | .none => (by decide +kernel : kitB "NoneType" "bool" = some false)
  | .bool _ => (by decide +kernel : kitB "bool" "bool" = some true)
  | .int _ => (by decide +kernel : kitB "int" "bool" = some false)
  | .str _ => (by decide +kernel : kitB "str" "bool" = some false)
  | .list _ => (by decide +kernel : kitB "list" "bool" = some false)
  | .tuple _ => (by decide +kernel : kitB "tuple" "bool" = some false)
  | .dict _ => (by decide +kernel : kitB "dict" "bool" = some false)
def isTuple : PyData → Bool
  | .tuple _ => true
  | _ => false
theorem isi_tuple : ∀ x : PyData, kitB (tyD x) "tuple" = some (isTuple x)
  | .none => (by decide +kernel : kitB "NoneType" "tuple" = some false)
  | .bool _ => (by decide +kernel : kitB "bool" "tuple" = some false)
  | .int _ => (by decide +kernel : kitB "int" "tuple" = some false)
  | .str _ => (by decide +kernel : kitB "str" "tuple" = some false)
  | .list _ => (by decide +kernel : kitB "list" "tuple" = some false)
  | .tuple _ => (by decide +kernel : kitB "tuple" "tuple" = some true)
  | .dict _ => (by decide +kernel : kitB "dict" "tuple" = some false)
def isList : PyData → Bool
  | .list _ => true
  | _ => false
theorem isi_list : ∀ x : PyData, kitB (tyD x) "list" = some (isList x)
  | .none => (by decide +kernel : kitB "NoneType" "list" = some false)
  | .bool _ => (by decide +kernel : kitB "bool" "list" = some false)
  | .int _ => (by decide +kernel : kitB "int" "list" = some false)
  | .str _ => (by decide +kernel : kitB "str" "list" = some false)
  | .list _ => (by decide +kernel : kitB "list" "list" = some true)
  | .tuple _ => (by decide +kernel : kitB "tuple" "list" = some false)
  | .dict _ => (by decide +kernel : kitB "dict" "list" = some false)
def isStr : PyData → Bool
  | .str _ => true
  | _ => false
theorem isi_str : ∀ x : PyData, kitB (tyD x) "str" = some (isStr x)
  | .none => (by decide +kernel : kitB "NoneType" "str" = some false)
  | .bool _ => (by decide +kernel : kitB "bool" "str" = some false)
  | .int _ => (by decide +kernel : kitB "int" "str" = some false)
  | .str _ => (by decide +kernel : kitB "str" "str" = some true)
  | .list _ => (by decide +kernel : kitB "list" "str" = some false)
  | .tuple _ => (by decide +kernel : kitB "tuple" "str" = some false)
  | .dict _ => (by decide +kernel : kitB "dict" "str" = some false)
local macro_rules | `(tactic| walk_at "var") => `(tactic| ((with_reducible refine we_var (r := ?r) ?h ?_); (case h => rfl)))
local macro_rules | `(tactic| walk_at "ev") => `(tactic| (first
  | walk_at "var" | with_reducible refine we_int ?_ | with_reducible refine we_str ?_ | with_reducible refine we_bl ?_ | with_reducible refine we_non ?_ | with_reducible refine wa_cons ?_ | with_reducible refine wa_nil ?_
  | with_reducible refine wr_b0 ?_ | with_reducible refine wr_i0 ?_ | with_reducible refine wr_addI ?_ | with_reducible refine wu_neg ?_
  | with_reducible refine we_op ?_ | with_reducible refine we_un ?_ | with_reducible refine we_cb ?_ | with_reducible refine we_tup ?_ | with_reducible refine we_chain ?_ | with_reducible refine we_chain3 ?_ | with_reducible refine we_andV ?_ | with_reducible refine we_orV ?_ | with_reducible refine we_notV ?_ | with_reducible refine we_if ?_
  | with_reducible refine wt_test ?_ | with_reducible refine wt_B ?_ | with_reducible refine wt_and ?_ | with_reducible refine wt_or ?_ | with_reducible refine wt_not ?_ | with_reducible refine wr_isNN ?_ | with_reducible refine wr_isN ?_ | with_reducible refine wr_isB ?_ | with_reducible refine wr_isNB ?_
  | with_reducible refine wc_max2 ?_ | with_reducible refine wc_min2 ?_ | with_reducible refine wc_isi (isi_int _) ?_ | with_reducible refine wc_isi (isi_bool _) ?_ | with_reducible refine wc_isi (isi_tuple _) ?_ | with_reducible refine wc_isi (isi_list _) ?_ | with_reducible refine wc_isi (isi_str _) ?_
  | with_reducible refine sx_seq ?_ | with_reducible refine sx_next ?_ | with_reducible refine sx_ret ?_ | with_reducible refine sx_drop ?_ | with_reducible refine sx_if ?_ | with_reducible refine sx_par ?_ | with_reducible refine wo_none ?_ | with_reducible refine wo_some ?_
  | with_reducible refine wg_name ?_ | with_reducible refine wgs_nil ?_ | with_reducible refine wgs_cons ?_ | with_reducible refine wg_tup rfl ?_
  | with_reducible refine wgcs_nil ?_ | with_reducible refine wgcs_cons ?_ | with_reducible refine wgc_tup rfl ?_ | with_reducible refine wgc_name (by decide) ?_ | with_reducible refine we_v ?_ | with_reducible refine ⟨_, rfl, ?_⟩))
local macro_rules | `(tactic| walk_at "go") => `(tactic| repeat walk_at "ev")
theorem ret_d {n : Nat} {μ : List MO} {d : PyData} {P : PyData → List MO → Prop} (h : P d (μ.take n)) : (endsOf n P).rt (.d d) μ := ⟨d, .inl rfl, h⟩
section
variable {K : PySem.W.Frag} {Pg : Program} {w : World} {rs : List Res} {μ : List MO} {P : PyData → List MO → Prop}
/-! ### is_from -/
def isFrom (lo hi : Int) : PyData → Bool
  | .int i => decide (lo ≤ i) && decide (i ≤ hi)
  | _ => false
def S_is_from : Spec := fun rs μ P => ∃ x lo hi, rs = [.d x, .d (.int lo), .d (.int hi)] ∧ μ = [] ∧ P (.bool (isFrom lo hi x)) []
/- is_from: slots 0 thing, 1 low, 2 high -/
def R_is_from (K : PySem.W.Frag) (Pg : Program) (w : World) : TS :=
    (tRet (tAndV (tCB (rIsi K) (tCons (tVar 0) (tCons (tC (.ty "int")) tNil))) (tAndV (tNotV (tCB (rIsi K) (tCons (tVar 0) (tCons (tC (.ty "bool")) tNil)))) (tChain (rI0 fun i j => .bl (decide (i ≤ j))) (rI0 fun i j => .bl (decide (i ≤ j))) (tVar 1) (tVar 0) (tVar 2)))))
theorem sx_is_from (h : S_is_from rs μ P) : SX K μ.length (R_is_from K Pg w) (endsOf μ.length P) (startD 3 rs) μ := by
  obtain ⟨x, lo, hi, rfl, rfl, h⟩ := h
  unfold R_is_from
  walk_at "go"
  refine ⟨fun h1 => ?_, fun h1 => ret_d ?_⟩
  · walk_at "go"
    refine ⟨fun h2 => ?_, fun h2 => ret_d ?_⟩
    · cases x with
      | int i =>
        walk_at "go"
        refine ⟨fun h3 => ?_, fun h3 => ret_d ?_⟩
        · walk_at "go"
          have e : isFrom lo hi (.int i) = decide (i ≤ hi) := by show (decide (lo ≤ i) && decide (i ≤ hi)) = _; rw [h3]; rfl
          rw [e] at h
          exact ret_d h
        · have e : isFrom lo hi (.int i) = false := by show (decide (lo ≤ i) && decide (i ≤ hi)) = _; rw [h3]; rfl
          rw [e] at h
          exact h
      | bool b => cases h2
      | _ => cases h1
    · cases x with
      | bool b => exact h
      | int i => cases h2
      | _ => cases h1
  · cases x with
    | bool b => cases h1
    | int i => cases h1
    | _ => exact h
/-! ### is_rising -/
def risingB (ns : List Int) : Bool := (ns.zip (ns.drop 1)).all fun p => decide (p.1 < p.2)
def S_is_rising : Spec := fun rs μ P => ∃ b, ∃ ns : List Int, rs = [.d (seqOf b (nums ns))] ∧ ns.length ≤ 1000000 ∧ μ = [] ∧ P (.bool (risingB ns)) []
/- is_rising: slots 0 things, 1 one, 2 other -/
def R_is_rising (K : PySem.W.Frag) (Pg : Program) (w : World) : TS :=
    (tRet (tCB (rAll K) (tCons (tLc (iZipG K (tCons (tVar 0) (tCons (tSl (rSlX K) (tVar 0) (tPart (tC (.int 1))) tNoPart) tNil))) (gTup K 2 (gCons (gName 1) (gCons (gName 2) gNil))) tYes (tOp (rI0 fun i j => .bl (decide (i < j))) (tVar 1) (tVar 2)) [1, 2]) tNil)))
def ltPair : PyData → PyData
  | .tuple [.int x, .int y] => .bool (decide (x < y))
  | _ => .none
theorem sx_is_rising (h : S_is_rising rs μ P) : SX K μ.length (R_is_rising K Pg w) (endsOf μ.length P) (startD 3 rs) μ := by
  obtain ⟨b, ns, rfl, hl, rfl, h⟩ := h
  unfold R_is_rising
  walk_at "go"
  refine we_new (wn_lcM ltPair (wi_zipG ?_))
  walk_at "go"
  refine we_slS ?_
  walk_at "go"
  refine ⟨b, _, rfl, size_le (by rw [List.length_map]; omega), wa_nil ⟨_, _, _, _, _, _, rfl, .of _ _, .of _ _, ?_⟩⟩
  rw [cut_from1, ← List.map_drop, zip_nums]
  refine ⟨?_, fun z hz => ?_, ?_⟩
  · rw [List.length_map, List.length_zip]
    exact size_big (by omega)
  · obtain ⟨p, _, rfl⟩ := List.mem_map.mp hz
    walk_at "go"
    exact ⟨rfl, rfl⟩
  · refine wa_nil (wc_all (bs := (ns.zip (ns.drop 1)).map fun p => decide (p.1 < p.2)) ?_ (ret_d ?_))
    · rw [List.map_map, List.map_map]
      exact .d _
    · show P (.bool (((ns.zip (ns.drop 1)).map fun p => decide (p.1 < p.2)).all id)) []
      rw [List.all_map]
      exact h
/-! ### is_row -/
def intOf : PyData → Int
  | .int i => i
  | _ => 0
def isRowB : PyData → Bool
  | .tuple xs => decide (1 ≤ xs.length) && decide (xs.length ≤ 40) && (xs.all (isFrom 0 1000000000)) && decide (xs.map intOf).Nodup
  | _ => false
def sizeD : PyData → Nat
  | .tuple xs => xs.length
  | .list xs => xs.length
  | _ => 0
def S_is_row : Spec := fun rs μ P => ∃ x, rs = [.d x] ∧ sizeD x ≤ 1000000 ∧ μ = [] ∧ P (.bool (isRowB x)) []
/- is_row: slots 0 thing, 1 card -/
def R_is_row (K : PySem.W.Frag) (Pg : Program) (w : World) : TS :=
    (tSeq (tIfS (tOr (tNot (tB (tCB (rIsi K) (tCons (tVar 0) (tCons (tC (.ty "tuple")) tNil))))) (tNot (tTest (tChain (rI0 fun i j => .bl (decide (i ≤ j))) (rI0 fun i j => .bl (decide (i ≤ j))) (tC (.int 1)) (tCB (rLenX K) (tCons (tVar 0) tNil)) (tC (.int 40)))))) (tRet (tC (.bl false))) tNext)
    (tRet (tAndV (tCB (rAll K) (tCons (tLc (iSeq K (tVar 0)) (gName 1) tYes (tCall (FSp K S_is_from) [] E0 (tCons (tVar 1) (tCons (tC (.int 0)) (tCons (tC (.int 1000000000)) tNil)))) [1]) tNil)) (tCall (FSp K S_is_rising) [] E0 (tCons (tCB (rSortG K) (tCons (tVar 0) tNil)) tNil)))))
theorem risingB_cons (x y : Int) (r : List Int) : risingB (x :: y :: r) = (decide (x < y) && risingB (y :: r)) := rfl
theorem rising_nodup : ∀ {ns : List Int}, ns.Pairwise (· ≤ ·) → (risingB ns = true ↔ ns.Nodup)
  | [], _ => by simp [risingB]
  | [x], _ => by simp [risingB]
  | x :: y :: r, h => by
    have h1 : x ≤ y := (List.pairwise_cons.mp h).1 y (by simp)
    have h2 : (y :: r).Pairwise (· ≤ ·) := (List.pairwise_cons.mp h).2
    have ih := rising_nodup h2
    rw [risingB_cons, Bool.and_eq_true, decide_eq_true_eq, ih, List.nodup_cons (a := x)]
    refine ⟨fun ⟨a, b⟩ => ⟨fun hm => ?_, b⟩, fun ⟨a, b⟩ => ⟨?_, b⟩⟩
    · rcases List.mem_cons.mp hm with e | hm
      · omega
      · have := (List.pairwise_cons.mp h2).1 x hm
        omega
    · have : x ≠ y := fun e => a (by rw [e]; simp)
      omega
theorem isFrom_int {lo hi : Int} {x : PyData} (h : isFrom lo hi x = true) : ∃ i, x = .int i ∧ lo ≤ i ∧ i ≤ hi := by
  cases x with
  | int i =>
    have h' : (decide (lo ≤ i) && decide (i ≤ hi)) = true := h
    rw [Bool.and_eq_true, decide_eq_true_eq, decide_eq_true_eq] at h'
    exact ⟨i, rfl, h'⟩
  | _ => cases h
theorem all_ints {lo hi : Int} : ∀ {xs : List PyData}, xs.all (isFrom lo hi) = true → xs = nums (xs.map intOf)
  | [], _ => rfl
  | x :: xs, h => by
    rw [List.all_cons, Bool.and_eq_true] at h
    obtain ⟨i, rfl, _⟩ := isFrom_int h.1
    rw [List.map_cons, nums, List.map_cons, ← nums, ← all_ints h.2]
    rfl
theorem boolD_id (xs : List PyData) (p : PyData → Bool) : (xs.map fun x => PyData.bool (p x)) = (xs.map p).map .bool := by rw [List.map_map]; rfl
theorem sx_is_row (h : S_is_row rs μ P) : SX K μ.length (R_is_row K Pg w) (endsOf μ.length P) (startD 2 rs) μ := by
  obtain ⟨x, rfl, hz, rfl, h⟩ := h
  unfold R_is_row
  cases x with
  | tuple xs =>
    have hz' : xs.length ≤ 1000000 := hz
    walk_at "go"
    refine ⟨fun h1 => (by cases h1), fun _ => ?_⟩
    walk_at "go"
    refine wc_len (.t _) ?_
    walk_at "go"
    have bad : ¬ (1 ≤ xs.length ∧ xs.length ≤ 40) → P (.bool false) [] := fun hn => by
      have e : isRowB (.tuple xs) = false := by
        show (decide (1 ≤ xs.length) && decide (xs.length ≤ 40) && (xs.all (isFrom 0 1000000000)) && decide (xs.map intOf).Nodup) = false
        rw [show (decide (1 ≤ xs.length) && decide (xs.length ≤ 40)) = false by simpa using hn]
        rfl
      rw [e] at h
      exact h
    refine ⟨fun h1 => ?_, fun h1 => ?_⟩
    · walk_at "go"
      refine ⟨fun h2 => ?_, fun h2 => ?_⟩
      · walk_at "go"
        refine ret_d (bad fun hn => ?_)
        rw [Bool.not_eq_true', decide_eq_false_iff_not] at h2
        omega
      · walk_at "go"
        rw [Bool.not_eq_false', decide_eq_true_eq] at h2
        rw [decide_eq_true_eq] at h1
        have h40 : xs.length ≤ 40 := by omega
        have h01 : 1 ≤ xs.length := by omega
        refine we_new (wn_lcM (fun d => .bool (isFrom 0 1000000000 d)) (wi_seqS ?_))
        walk_at "go"
        refine ⟨true, xs, rfl, size_big (by omega), fun d hd => ?_, ?_⟩
        · walk_at "go"
          refine we_call0 ?_
          walk_at "go"
          exact ⟨by simp [notM], _, _, _, rfl, rfl, rfl, rfl⟩
        · refine wa_nil (wc_all (bs := xs.map (isFrom 0 1000000000)) (by rw [boolD_id]; exact .d _) ⟨_, rfl, fun h3 => ?_, fun h3 => ret_d ?_⟩)
          · have h3' : xs.all (isFrom 0 1000000000) = true := by
              rw [List.all_map] at h3
              exact h3
            have ei := all_ints h3'
            refine we_call0 ?_
            walk_at "go"
            refine wc_sort (ns := xs.map intOf) (by rw [← ei]; exact .t _) fun ns' hp hs => ?_
            walk_at "go"
            refine ⟨by simp [notM], false, ns', rfl, by rw [hp.length_eq, List.length_map]; omega, rfl, ret_d ?_⟩
            have e : isRowB (.tuple xs) = risingB ns' := by
              show (decide (1 ≤ xs.length) && decide (xs.length ≤ 40) && (xs.all (isFrom 0 1000000000)) && decide (xs.map intOf).Nodup) = _
              rw [h3', decide_eq_true h40, decide_eq_true h01]
              have := rising_nodup hs
              rw [hp.nodup_iff] at this
              cases hr : risingB ns' with
              | true => exact decide_eq_true (this.mp hr)
              | false => exact decide_eq_false fun z => by rw [this.mpr z] at hr; cases hr
            rw [e] at h
            exact h
          · have e : isRowB (.tuple xs) = false := by
              show (decide (1 ≤ xs.length) && decide (xs.length ≤ 40) && (xs.all (isFrom 0 1000000000)) && decide (xs.map intOf).Nodup) = _
              rw [List.all_map] at h3
              rw [show xs.all (isFrom 0 1000000000) = false from h3, Bool.and_false]
              rfl
            rw [e] at h
            exact h
    · walk_at "go"
      refine ⟨fun _ => ?_, fun h2 => by cases h2⟩
      walk_at "go"
      refine ret_d (bad fun hn => ?_)
      rw [decide_eq_false_iff_not] at h1
      omega
  | _ =>
    walk_at "go"
    refine ⟨fun _ => ?_, fun h1 => by cases h1⟩
    walk_at "go"
    refine ⟨fun _ => ?_, fun h1 => by cases h1⟩
    walk_at "go"
    exact ret_d h
/-! ### need_row, of a row -/
structure IsRow (ns : List Int) : Prop where
  pos : 1 ≤ ns.length
  le : ns.length ≤ 40
  rng : ∀ x ∈ ns, 0 ≤ x ∧ x ≤ 1000000000
  nd : ns.Nodup
theorem map_intOf (ns : List Int) : (nums ns).map intOf = ns := by
  rw [nums, List.map_map]
  conv => rhs; rw [← List.map_id ns]
  rfl
theorem IsRow.isRowB {ns : List Int} (h : IsRow ns) : isRowB (.tuple (nums ns)) = true := by
  show (decide (1 ≤ (nums ns).length) && decide ((nums ns).length ≤ 40) && ((nums ns).all (isFrom 0 1000000000)) && decide ((nums ns).map intOf).Nodup) = true
  rw [map_intOf, decide_eq_true h.nd, List.length_map, decide_eq_true h.pos, decide_eq_true h.le]
  have : (nums ns).all (isFrom 0 1000000000) = true := by
    rw [List.all_eq_true]
    intro x hx
    obtain ⟨i, hi, rfl⟩ := List.mem_map.mp hx
    show (decide (0 ≤ i) && decide (i ≤ 1000000000)) = true
    rw [decide_eq_true (h.rng i hi).1, decide_eq_true (h.rng i hi).2]
    rfl
  rw [this]
  rfl
def S_need_row : Spec := fun rs μ P => ∃ ns : List Int, rs = [.d (.tuple (nums ns))] ∧ IsRow ns ∧ μ = [] ∧ P .none []
/- need_row: slots 0 row -/
def R_need_row (K : PySem.W.Frag) (Pg : Program) (w : World) : TS :=
    (tIfS (tNot (tB (tCall (FSp K S_is_row) [] E0 (tCons (tVar 0) tNil)))) tNever tNext)
theorem sx_need_row (h : S_need_row rs μ P) : SX K μ.length (R_need_row K Pg w) (endsOf μ.length P) (startD 1 rs) μ := by
  obtain ⟨ns, rfl, hr, rfl, h⟩ := h
  unfold R_need_row
  walk_at "go"
  refine we_call0 ?_
  walk_at "go"
  refine ⟨by simp [notM], _, rfl, by show (nums ns).length ≤ _; rw [List.length_map]; have := hr.le; omega, rfl, ?_⟩
  rw [hr.isRowB]
  walk_at "go"
  refine ⟨fun z => (by cases z), fun _ => ?_⟩
  walk_at "go"
  exact h
/-! ### next_last, begun -/
def nextLast (up down card : Int) (isUp : Bool) : Option (Int × Int) := if isUp then (if up < card then some (card, down) else none) else (if card < down then some (up, card) else none)
abbrev lastD (p : Int × Int) : PyData := .tuple [.int p.1, .int p.2]
def optD : Option (Int × Int) → PyData
  | some p => lastD p
  | none => .none
abbrev sideD (isUp : Bool) : PyData := .str (if isUp then "up" else "down")
def S_next_last : Spec := fun rs μ P => ∃ p c u, rs = [.d (lastD p), .d (.int c), .d (sideD u)] ∧ μ = [] ∧ P (optD (nextLast p.1 p.2 c u)) []
/- next_last: slots 0 last, 1 card, 2 side, 3 up, 4 down -/
def R_next_last (K : PySem.W.Frag) (Pg : Program) (w : World) : TS :=
    (tSeq (tAsg (tVar 0) (gTup K 2 (gCons (gName 3) (gCons (gName 4) gNil))))
    (tSeq (tIfS (tTest (tOp (rEqD K) (tVar 2) (tC (.str "up")))) (tRet (tIf (tTest (tOp (rI0 fun i j => .bl (decide (j < i))) (tVar 1) (tVar 3))) (tTup (tCons (tVar 1) (tCons (tVar 4) tNil))) (tC .non))) tNext)
    (tRet (tIf (tTest (tOp (rI0 fun i j => .bl (decide (i < j))) (tVar 1) (tVar 4))) (tTup (tCons (tVar 3) (tCons (tVar 1) tNil))) (tC .non)))))
theorem side_up (u : Bool) : PyData.eqv (sideD u) (.str "up") = u := by cases u <;> decide +kernel
theorem side_flat (u : Bool) : flatD (sideD u) = true := rfl
theorem shp_side (u : Bool) : Shp 0 (sideD u) := shp_str (by cases u <;> decide +kernel)
theorem shp_up : Shp 0 (.str "up") := shp_side true
theorem shp_down : Shp 0 (.str "down") := shp_side false
theorem sx_next_last (h : S_next_last rs μ P) : SX K μ.length (R_next_last K Pg w) (endsOf μ.length P) (startD 5 rs) μ := by
  obtain ⟨p, c, u, rfl, rfl, h⟩ := h
  unfold R_next_last
  walk_at "go"
  refine sx_asgG ?_
  walk_at "go"
  refine wr_eqX (d := sideD u) (e := .str "up") (.d _) (.d _) (shp_side u).ok shp_up.ok ?_
  rw [side_up]
  walk_at "go"
  refine ⟨fun hu => ?_, fun hu => ?_⟩ <;> subst hu
  · walk_at "go"
    refine ⟨fun h1 => ?_, fun h1 => ?_⟩
    · walk_at "go"
      refine ⟨[_, _], rfl, size_le (by simp), ret_d ?_⟩
      rw [decide_eq_true_eq] at h1
      have e : nextLast p.1 p.2 c true = some (c, p.2) := if_pos h1
      rw [e] at h
      exact h
    · walk_at "go"
      refine ret_d ?_
      rw [decide_eq_false_iff_not] at h1
      have e : nextLast p.1 p.2 c true = none := if_neg h1
      rw [e] at h
      exact h
  · walk_at "go"
    refine ⟨fun h1 => ?_, fun h1 => ?_⟩
    · walk_at "go"
      refine ⟨[_, _], rfl, size_le (by simp), ret_d ?_⟩
      rw [decide_eq_true_eq] at h1
      have e : nextLast p.1 p.2 c false = some (p.1, c) := if_pos h1
      rw [e] at h
      exact h
    · walk_at "go"
      refine ret_d ?_
      rw [decide_eq_false_iff_not] at h1
      have e : nextLast p.1 p.2 c false = none := if_neg h1
      rw [e] at h
      exact h
def begunP : Int × Int := (-1, 1000000001)
def S_begun : Spec := fun rs μ P => rs = [] ∧ μ = [] ∧ P (lastD begunP) []
/- begun: slots  -/
def R_begun (K : PySem.W.Frag) (Pg : Program) (w : World) : TS :=
    (tRet (tTup (tCons (tUn (rU fun i => .int (-i)) (tC (.int 1))) (tCons (tOp (rAddX K) (tC (.int 1000000000)) (tC (.int 1))) tNil))))
theorem sx_begun (h : S_begun rs μ P) : SX K μ.length (R_begun K Pg w) (endsOf μ.length P) (startD 0 rs) μ := by
  obtain ⟨rfl, rfl, h⟩ := h
  unfold R_begun
  walk_at "go"
  exact ⟨[_, _], rfl, size_le (by simp), ret_d h⟩
end
end Wv

set_option linter.all false
namespace Wv
/-! ### cards with sides: plain mathematics -/
def good : List Int → Int → Int → Bool
  | [], _, _ => true
  | c :: r, u, d => (decide (c < d) && good r u c) || (decide (u < c) && good r c d)
/-- two cards cross: the earlier one is the greater -/
def Cr (f : Nat → Int) (i j : Nat) : Prop := (i < j ∧ f j < f i) ∨ (j < i ∧ f i < f j)
/-- two cards do not cross -/
def Nc (f : Nat → Int) (i j : Nat) : Prop := (i < j ∧ f i < f j) ∨ (j < i ∧ f j < f i)
def Bar (f : Nat → Int) (i j k l : Nat) : Prop := (f j < f i ∧ f i < f l ∧ f l < f k) ∨ (f k < f l ∧ f l < f i ∧ f i < f j)
section
variable {f : Nat → Int} {n : Nat}
theorem Cr.symm {i j : Nat} (h : Cr f i j) : Cr f j i := by unfold Cr at *; omega
theorem Nc.symm {i j : Nat} (h : Nc f i j) : Nc f j i := by unfold Nc at *; omega
theorem nc_of {i j : Nat} (inj : f i = f j → i = j) (hij : i ≠ j) (h : ¬ Cr f i j) : Nc f i j := by
  unfold Cr at h; unfold Nc
  have : f i ≠ f j := fun e => hij (inj e)
  omega
theorem cr_of {i j : Nat} (inj : f i = f j → i = j) (hij : i ≠ j) (h : ¬ Nc f i j) : Cr f i j := by
  unfold Nc at h; unfold Cr
  have : f i ≠ f j := fun e => hij (inj e)
  omega
theorem not_both {i j : Nat} (h : Cr f i j) (k : Nc f i j) : False := by unfold Cr at h; unfold Nc at k; omega
theorem two_ord {a b c d : Nat} (F : ∀ i j k l, i < j → j < k → k < l → l < n → ¬ Bar f i j k l) (ha : a < n) (hb : b < n) (hc : c < n) (hd : d < n)
    (h1 : a < b) (h2 : f b < f a) (h3 : c < d) (h4 : f d < f c) (h5 : Nc f a c) (h6 : Nc f a d) (h7 : Nc f b c) (h8 : Nc f b d) : False := by
  have F1 := F a b c d
  have F2 := F c d a b
  unfold Bar at F1 F2
  unfold Nc at h5 h6 h7 h8
  omega
theorem two {a b c d : Nat} (F : ∀ i j k l, i < j → j < k → k < l → l < n → ¬ Bar f i j k l) (ha : a < n) (hb : b < n) (hc : c < n) (hd : d < n)
    (h1 : Cr f a b) (h2 : Cr f c d) (h5 : Nc f a c) (h6 : Nc f a d) (h7 : Nc f b c) (h8 : Nc f b d) : False := by
  rcases h1 with h1 | h1 <;> rcases h2 with h2 | h2
  · exact two_ord F ha hb hc hd h1.1 h1.2 h2.1 h2.2 h5 h6 h7 h8
  · exact two_ord F ha hb hd hc h1.1 h1.2 h2.1 h2.2 h6 h5 h8 h7
  · exact two_ord F hb ha hc hd h1.1 h1.2 h2.1 h2.2 h7 h8 h5 h6
  · exact two_ord F hb ha hd hc h1.1 h1.2 h2.1 h2.2 h8 h7 h6 h5
theorem ring_ord {a b c d : Nat} (F : ∀ i j k l, i < j → j < k → k < l → l < n → ¬ Bar f i j k l) (ha : a < n) (hb : b < n) (hc : c < n) (hd : d < n)
    (h1 : a < b) (h2 : f a < f b) (h3 : c < d) (h4 : f c < f d) (h5 : Cr f a c) (h6 : Cr f a d) (h7 : Cr f b c) (h8 : Cr f b d) : False := by
  have F1 := F a b c d
  have F2 := F c d a b
  unfold Bar at F1 F2
  unfold Cr at h5 h6 h7 h8
  omega
theorem ring {a b c d : Nat} (F : ∀ i j k l, i < j → j < k → k < l → l < n → ¬ Bar f i j k l) (ha : a < n) (hb : b < n) (hc : c < n) (hd : d < n)
    (h1 : Nc f a b) (h2 : Nc f c d) (h5 : Cr f a c) (h6 : Cr f a d) (h7 : Cr f b c) (h8 : Cr f b d) : False := by
  rcases h1 with h1 | h1 <;> rcases h2 with h2 | h2
  · exact ring_ord F ha hb hc hd h1.1 h1.2 h2.1 h2.2 h5 h6 h7 h8
  · exact ring_ord F ha hb hd hc h1.1 h1.2 h2.1 h2.2 h6 h5 h8 h7
  · exact ring_ord F hb ha hc hd h1.1 h1.2 h2.1 h2.2 h7 h8 h5 h6
  · exact ring_ord F hb ha hd hc h1.1 h1.2 h2.1 h2.2 h8 h7 h6 h5
set_option maxHeartbeats 4000000 in
/-- no five cards in a ring -/
theorem five {p z x y w : Nat} (h1 : Cr f p z) (h2 : Cr f z x) (h3 : Cr f x y) (h4 : Cr f y w) (h5 : Cr f w p) (k1 : Nc f p x) (k2 : Nc f p y) (k3 : Nc f z w) (k4 : Nc f z y) (k5 : Nc f x w) : False := by
  unfold Cr at *; unfold Nc at *
  rcases k1 with k1 | k1 <;> rcases k2 with k2 | k2 <;> rcases k3 with k3 | k3 <;> omega
/-- must be up, must be down -/
def MustU (f : Nat → Int) (n : Nat) (p : Nat) : Prop := ∃ x y, x < n ∧ y < n ∧ Cr f x y ∧ Nc f p x ∧ Nc f p y
def MustD (f : Nat → Int) (n : Nat) (p : Nat) : Prop := ∃ x y, x < n ∧ y < n ∧ Nc f x y ∧ Cr f p x ∧ Cr f p y
theorem ne_cr {a b c : Nat} (h : Cr f a b) (k : Nc f a c) : b ≠ c := fun e => not_both h (e ▸ k)
variable (inj : ∀ i j, i < n → j < n → f i = f j → i = j) (F : ∀ i j k l, i < j → j < k → k < l → l < n → ¬ Bar f i j k l)
include inj in
theorem either {i j : Nat} (hi : i < n) (hj : j < n) (h : i ≠ j) : Cr f i j ∨ Nc f i j := by
  by_cases k : Cr f i j
  · exact .inl k
  · exact .inr (nc_of (inj i j hi hj) h k)
include inj F in
theorem must_not {p : Nat} (hp : p < n) (hu : MustU f n p) (hd : MustD f n p) : False := by
  obtain ⟨x, y, hx, hy, xy, px, py⟩ := hu
  obtain ⟨z, w, hz, hw, zw, pz, pw⟩ := hd
  have xz := either inj hx hz (ne_cr pz px).symm
  have yz := either inj hy hz (ne_cr pz py).symm
  have xw := either inj hx hw (ne_cr pw px).symm
  have yw := either inj hy hw (ne_cr pw py).symm
  rcases xz with xz | xz <;> rcases yz with yz | yz <;> rcases xw with xw | xw <;> rcases yw with yw | yw
  all_goals first
    | exact two F hp hz hx hy pz xy px py xz.symm yz.symm
    | exact two F hp hw hx hy pw xy px py xw.symm yw.symm
    | exact ring F hp hx hz hw px zw pz pw xz xw
    | exact ring F hp hy hz hw py zw pz pw yz yw
    | exact five pz xz.symm xy yw pw.symm px py zw yz.symm xw
    | exact five pz yz.symm xy.symm xw pw.symm py px zw xz.symm yw
include inj F in
theorem ups_nc {p q : Nat} (hp : p < n) (hq : q < n) (hu : MustU f n p) (hv : MustU f n q) (pq : Cr f p q) : False := by
  obtain ⟨x, y, hx, hy, xy, px, py⟩ := hu
  obtain ⟨x', y', hx', hy', xy', qx', qy'⟩ := hv
  -- one of x, y crosses q
  have key : ∀ x y x', x < n → y < n → x' < n → Cr f x y → Nc f p x → Nc f p y → Nc f q x' → Cr f q x → Cr f p x' → False := fun x y x' hx hy hx' xy px py qx' qx px' => by
    rcases either inj hx hx' (ne_cr qx qx') with c | c
    · exact ring F hp hx hq hx' px qx' pq px' qx.symm c
    rcases either inj hy hx' (ne_cr px' py).symm with e | e
    · rcases either inj hq hy (fun z => not_both pq (z ▸ py)) with g | g
      · exact ring F hp hy hq hx' py qx' pq px' g.symm e
      · exact five pq qx xy e px'.symm px py qx' g c
    · exact two F hx hy hp hx' xy px' px.symm c py.symm e
  have s1 : Cr f q x ∨ Cr f q y := by
    rcases either inj hq hx (ne_cr pq px) with a | a
    · exact .inl a
    rcases either inj hq hy (ne_cr pq py) with b | b
    · exact .inr b
    exact (two F hp hq hx hy pq xy px py a b).elim
  have s2 : Cr f p x' ∨ Cr f p y' := by
    rcases either inj hp hx' (ne_cr pq.symm qx') with a | a
    · exact .inl a
    rcases either inj hp hy' (ne_cr pq.symm qy') with b | b
    · exact .inr b
    exact (two F hq hp hx' hy' pq.symm xy' qx' qy' a b).elim
  rcases s1 with s1 | s1 <;> rcases s2 with s2 | s2
  · exact key x y x' hx hy hx' xy px py qx' s1 s2
  · exact key x y y' hx hy hy' xy px py qy' s1 s2
  · exact key y x x' hy hx hx' xy.symm py px qx' s1 s2
  · exact key y x y' hy hx hy' xy.symm py px qy' s1 s2
include inj F in
theorem downs_cr {p q : Nat} (hp : p < n) (hq : q < n) (hu : MustD f n p) (hv : MustD f n q) (pq : Nc f p q) : False := by
  obtain ⟨x, y, hx, hy, xy, px, py⟩ := hu
  obtain ⟨x', y', hx', hy', xy', qx', qy'⟩ := hv
  have ne : ∀ {a b c : Nat}, Nc f a b → Cr f a c → b ≠ c := fun h k e => not_both k (e ▸ h)
  have key : ∀ x y x', x < n → y < n → x' < n → Nc f x y → Cr f p x → Cr f p y → Cr f q x' → Nc f q x → Nc f p x' → False := fun x y x' hx hy hx' xy px py qx' qx px' => by
    rcases (either inj hx hx' (ne qx qx')).symm with c | c
    · exact two F hp hx hq hx' px qx' pq px' qx.symm c
    rcases (either inj hy hx' (ne px' py).symm).symm with e | e
    · rcases (either inj hq hy (fun z => not_both (z ▸ py) pq)).symm with g | g
      · exact two F hp hy hq hx' py qx' pq px' g.symm e
      · exact five px c qx'.symm g py.symm px' pq xy qx.symm e.symm
    · exact ring F hx hy hp hx' xy px' px.symm c py.symm e
  have s1 : Nc f q x ∨ Nc f q y := by
    rcases (either inj hq hx (ne pq px)).symm with a | a
    · exact .inl a
    rcases (either inj hq hy (ne pq py)).symm with b | b
    · exact .inr b
    exact (ring F hp hq hx hy pq xy px py a b).elim
  have s2 : Nc f p x' ∨ Nc f p y' := by
    rcases (either inj hp hx' (ne pq.symm qx')).symm with a | a
    · exact .inl a
    rcases (either inj hp hy' (ne pq.symm qy')).symm with b | b
    · exact .inr b
    exact (ring F hq hp hx' hy' pq.symm xy' qx' qy' a b).elim
  rcases s1 with s1 | s1 <;> rcases s2 with s2 | s2
  · exact key x y x' hx hy hx' xy px py qx' s1 s2
  · exact key x y y' hx hy hy' xy px py qy' s1 s2
  · exact key y x x' hy hx hx' xy.symm py px qx' s1 s2
  · exact key y x y' hy hx hy' xy.symm py px qy' s1 s2
include inj F in
/-- where no four bar there is a parting -/
theorem parting_of : ∃ U : Nat → Prop, ∀ i j, i < j → j < n → (U i → U j → f i < f j) ∧ (¬ U i → ¬ U j → f j < f i) := by
  by_cases core : ∃ p, p < n ∧ ¬ MustU f n p ∧ ¬ MustD f n p
  · obtain ⟨p, hp, nu, nd⟩ := core
    refine ⟨fun i => ¬ Cr f p i, fun i j hij hj => ⟨fun a b => ?_, fun a b => ?_⟩⟩
    · by_cases pi : i = p
      · subst pi
        have := nc_of (inj i j (by omega) hj) (by omega) b
        unfold Nc at this; omega
      · by_cases pj : j = p
        · subst pj
          have := nc_of (inj j i hj (by omega)) (by omega) a
          unfold Nc at this; omega
        · have a' := nc_of (inj p i hp (by omega)) (fun e => pi e.symm) a
          have b' := nc_of (inj p j hp hj) (fun e => pj e.symm) b
          have : ¬ Cr f i j := fun c => nu ⟨i, j, by omega, hj, c, a', b'⟩
          have := nc_of (inj i j (by omega) hj) (by omega) this
          unfold Nc at this; omega
    · have a' : Cr f p i := Classical.not_not.mp a
      have b' : Cr f p j := Classical.not_not.mp b
      have : ¬ Nc f i j := fun c => nd ⟨i, j, by omega, hj, c, a', b'⟩
      have := cr_of (inj i j (by omega) hj) (by omega) this
      unfold Cr at this; omega
  · have all : ∀ p, p < n → ¬ MustU f n p → MustD f n p := fun p hp h => by
      refine Classical.byContradiction fun k => core ⟨p, hp, h, k⟩
    refine ⟨MustU f n, fun i j hij hj => ⟨fun a b => ?_, fun a b => ?_⟩⟩
    · have : ¬ Cr f i j := fun c => ups_nc inj F (by omega) hj a b c
      have := nc_of (inj i j (by omega) hj) (by omega) this
      unfold Nc at this; omega
    · have : ¬ Nc f i j := fun c => downs_cr inj F (by omega) hj (all i (by omega) a) (all j hj b) c
      have := cr_of (inj i j (by omega) hj) (by omega) this
      unfold Cr at this; omega
end
end Wv

set_option linter.all false
namespace Wv
/-! ### cards with their sides (true: up) -/
def RR (p q : Int × Bool) : Prop := p.2 = q.2 → (if p.2 then p.1 < q.1 else q.1 < p.1)
def fitS : List (Int × Bool) → Int → Int → Bool
  | [], _, _ => true
  | (c, true) :: r, u, d => decide (u < c) && fitS r c d
  | (c, false) :: r, u, d => decide (c < d) && fitS r u c
/-- as the laws ask it -/
def lawPart : List (Int × Bool) → Int → Int → Bool
  | [], _, _ => true
  | (c, true) :: r, u, d => !decide (c < u) && lawPart r c d
  | (c, false) :: r, u, d => !decide (d < c) && lawPart r u c
def Within (cs : List (Int × Bool)) (u d : Int) : Prop := ∀ p ∈ cs, (p.2 = true → u < p.1) ∧ (p.2 = false → p.1 < d)
theorem fitS_iff : ∀ {cs : List (Int × Bool)} {u d : Int}, fitS cs u d = true ↔ cs.Pairwise RR ∧ Within cs u d
  | [], u, d => by simp [fitS, Within]
  | (c, true) :: r, u, d => by
    rw [fitS, Bool.and_eq_true, decide_eq_true_eq, fitS_iff, List.pairwise_cons]
    constructor
    · rintro ⟨h, hp, hw⟩
      refine ⟨⟨fun q hq e => ?_, hp⟩, fun q hq => ?_⟩
      · rw [if_pos rfl]; exact (hw q hq).1 e.symm
      · rcases List.mem_cons.mp hq with rfl | hq
        · exact ⟨fun _ => h, fun e => by cases e⟩
        · exact ⟨fun e => by have := (hw q hq).1 e; omega, (hw q hq).2⟩
    · rintro ⟨⟨h1, h2⟩, h3⟩
      refine ⟨(h3 (c, true) List.mem_cons_self).1 rfl, h2, fun q hq => ⟨fun e => ?_, fun e => (h3 q (List.mem_cons_of_mem _ hq)).2 e⟩⟩
      have := h1 q hq e.symm
      rwa [if_pos rfl] at this
  | (c, false) :: r, u, d => by
    rw [fitS, Bool.and_eq_true, decide_eq_true_eq, fitS_iff, List.pairwise_cons]
    constructor
    · rintro ⟨h, hp, hw⟩
      refine ⟨⟨fun q hq e => ?_, hp⟩, fun q hq => ?_⟩
      · rw [if_neg (by simp)]; exact (hw q hq).2 e.symm
      · rcases List.mem_cons.mp hq with rfl | hq
        · exact ⟨fun e => (by cases e), fun _ => h⟩
        · exact ⟨(hw q hq).1, fun e => by have := (hw q hq).2 e; omega⟩
    · rintro ⟨⟨h1, h2⟩, h3⟩
      refine ⟨(h3 (c, false) List.mem_cons_self).2 rfl, h2, fun q hq => ⟨fun e => (h3 q (List.mem_cons_of_mem _ hq)).1 e, fun e => ?_⟩⟩
      have := h1 q hq e.symm
      rwa [if_neg (by simp)] at this
theorem lawPart_eq : ∀ {cs : List (Int × Bool)} {u d : Int}, (∀ p ∈ cs, p.1 ≠ u ∧ p.1 ≠ d) → (cs.map (·.1)).Nodup → lawPart cs u d = fitS cs u d
  | [], _, _, _, _ => rfl
  | (c, true) :: r, u, d, h, hn => by
    have h0 := h (c, true) List.mem_cons_self
    rw [List.map_cons, List.nodup_cons] at hn
    rw [lawPart, fitS, lawPart_eq (fun p hp => ⟨fun e => hn.1 (List.mem_map.mpr ⟨p, hp, e⟩), (h p (List.mem_cons_of_mem _ hp)).2⟩) hn.2]
    congr 1
    rw [← decide_not]
    exact decide_eq_decide.mpr (by have := h0.1; dsimp only at this; omega)
  | (c, false) :: r, u, d, h, hn => by
    have h0 := h (c, false) List.mem_cons_self
    rw [List.map_cons, List.nodup_cons] at hn
    rw [lawPart, fitS, lawPart_eq (fun p hp => ⟨(h p (List.mem_cons_of_mem _ hp)).1, fun e => hn.1 (List.mem_map.mpr ⟨p, hp, e⟩)⟩) hn.2]
    congr 1
    rw [← decide_not]
    exact decide_eq_decide.mpr (by have := h0.2; dsimp only at this; omega)
theorem good_iff : ∀ {ns : List Int} {u d : Int}, good ns u d = true ↔ ∃ cs : List (Int × Bool), cs.map (·.1) = ns ∧ fitS cs u d = true
  | [], u, d => by
    refine ⟨fun _ => ⟨[], rfl, rfl⟩, fun _ => rfl⟩
  | c :: r, u, d => by
    rw [good, Bool.or_eq_true, Bool.and_eq_true, Bool.and_eq_true, decide_eq_true_eq, decide_eq_true_eq, good_iff, good_iff]
    constructor
    · rintro (⟨h, cs, rfl, hf⟩ | ⟨h, cs, rfl, hf⟩)
      · exact ⟨(c, false) :: cs, rfl, by rw [fitS, hf, decide_eq_true h]; rfl⟩
      · exact ⟨(c, true) :: cs, rfl, by rw [fitS, hf, decide_eq_true h]; rfl⟩
    · rintro ⟨cs, he, hf⟩
      cases cs with
      | nil => cases he
      | cons p cs =>
        obtain ⟨x, s⟩ := p
        cases he
        cases s with
        | true =>
          rw [fitS, Bool.and_eq_true, decide_eq_true_eq] at hf
          exact .inr ⟨hf.1, cs, rfl, hf.2⟩
        | false =>
          rw [fitS, Bool.and_eq_true, decide_eq_true_eq] at hf
          exact .inl ⟨hf.1, cs, rfl, hf.2⟩
/-- a row that is woven -/
def Wov (ns : List Int) : Prop := ∃ cs : List (Int × Bool), cs.map (·.1) = ns ∧ cs.Pairwise RR
theorem good_wov {ns : List Int} {u d : Int} (h : ∀ x ∈ ns, u < x ∧ x < d) : good ns u d = true ↔ Wov ns := by
  rw [good_iff]
  constructor
  · rintro ⟨cs, e, hf⟩
    exact ⟨cs, e, (fitS_iff.mp hf).1⟩
  · rintro ⟨cs, rfl, hp⟩
    exact ⟨cs, rfl, fitS_iff.mpr ⟨hp, fun p hp => ⟨fun _ => (h _ (List.mem_map.mpr ⟨p, hp, rfl⟩)).1, fun _ => (h _ (List.mem_map.mpr ⟨p, hp, rfl⟩)).2⟩⟩⟩
theorem Wov.sub {ms ns : List Int} (h : ms.Sublist ns) (w : Wov ns) : Wov ms := by
  obtain ⟨cs, rfl, hp⟩ := w
  obtain ⟨ds, hs, rfl⟩ := List.sublist_map_iff.mp h
  exact ⟨ds, rfl, hp.sublist hs⟩
theorem Wov.rev {ns : List Int} (w : Wov ns) : Wov ns.reverse := by
  obtain ⟨cs, rfl, hp⟩ := w
  refine ⟨(cs.map fun p => (p.1, !p.2)).reverse, by rw [List.map_reverse, List.map_map]; rfl, ?_⟩
  rw [List.pairwise_reverse, List.pairwise_map]
  refine hp.imp fun {p q} h e => ?_
  dsimp only at e ⊢
  have h := h (by cases hp : p.2 <;> cases hq : q.2 <;> simp_all)
  cases hp : p.2 <;> cases hq : q.2 <;> simp_all
theorem wov_rev {ns : List Int} : Wov ns.reverse ↔ Wov ns := ⟨fun h => by have := h.rev; rwa [List.reverse_reverse] at this, Wov.rev⟩
theorem Wov.neg {ns : List Int} {M : Int} (w : Wov ns) : Wov (ns.map fun x => M - x) := by
  obtain ⟨cs, rfl, hp⟩ := w
  refine ⟨cs.map fun p => (M - p.1, !p.2), by rw [List.map_map, List.map_map]; rfl, ?_⟩
  rw [List.pairwise_map]
  refine hp.imp fun {p q} h e => ?_
  dsimp only at e ⊢
  have h := h (by cases hp : p.2 <;> cases hq : q.2 <;> simp_all)
  cases hp : p.2 <;> cases hq : q.2 <;> simp_all <;> omega
theorem map_neg_neg (M : Int) (ns : List Int) : (ns.map fun x => M - x).map (fun x => M - x) = ns := by
  rw [List.map_map]
  conv => rhs; rw [← List.map_id ns]
  refine List.map_congr_left fun x _ => ?_
  show M - (M - x) = x
  omega
theorem wov_neg {ns : List Int} {M : Int} : Wov (ns.map fun x => M - x) ↔ Wov ns := ⟨fun h => by have := h.neg (M := M); rwa [map_neg_neg] at this, Wov.neg⟩
/-- only the order of the numbers counts -/
theorem Wov.mono {ns : List Int} {g : Int → Int} (hg : ∀ x ∈ ns, ∀ y ∈ ns, x < y → g x < g y) (w : Wov ns) : Wov (ns.map g) := by
  obtain ⟨cs, rfl, hp⟩ := w
  refine ⟨cs.map fun p => (g p.1, p.2), by rw [List.map_map, List.map_map]; rfl, ?_⟩
  rw [List.pairwise_map]
  refine hp.imp_of_mem fun {p q} mp mq h e => ?_
  dsimp only at e ⊢
  have h := h e
  have ip : p.1 ∈ cs.map (·.1) := List.mem_map.mpr ⟨p, mp, rfl⟩
  have iq : q.1 ∈ cs.map (·.1) := List.mem_map.mpr ⟨q, mq, rfl⟩
  cases hp : p.2 with
  | true => rw [hp, if_pos rfl] at h; rw [if_pos rfl]; exact hg _ ip _ iq h
  | false => rw [hp, if_neg (by decide)] at h; rw [if_neg (by decide)]; exact hg _ iq _ ip h
/-! ### four that bar -/
abbrev fOf (ns : List Int) (i : Nat) : Int := ns.getD i 0
def NoFour (ns : List Int) : Prop := ∀ i j k l, i < j → j < k → k < l → l < ns.length → ¬ Bar (fOf ns) i j k l
theorem get_pair {cs : List (Int × Bool)} (hp : cs.Pairwise RR) {i j : Nat} {p q : Int × Bool} (hij : i < j) (hi : cs[i]? = some p) (hj : cs[j]? = some q) : RR p q := by
  obtain ⟨h1, rfl⟩ := List.getElem?_eq_some_iff.mp hi
  obtain ⟨h2, rfl⟩ := List.getElem?_eq_some_iff.mp hj
  exact List.pairwise_iff_getElem.mp hp i j h1 h2 hij
theorem Wov.noFour {ns : List Int} (w : Wov ns) : NoFour ns := by
  obtain ⟨cs, rfl, hp⟩ := w
  intro i j k l hij hjk hkl hl hb
  rw [List.length_map] at hl
  have at_ : ∀ m, m < cs.length → ∃ p, cs[m]? = some p ∧ fOf (cs.map (·.1)) m = p.1 := fun m hm => ⟨cs[m], List.getElem?_eq_getElem hm, by
    show (List.map (·.1) cs).getD m 0 = _
    rw [List.getD_eq_getElem?_getD, List.getElem?_map, List.getElem?_eq_getElem hm]; rfl⟩
  obtain ⟨a, ha, ea⟩ := at_ i (by omega)
  obtain ⟨b, hb', eb⟩ := at_ j (by omega)
  obtain ⟨c, hc, ec⟩ := at_ k (by omega)
  obtain ⟨d, hd, ed⟩ := at_ l (by omega)
  unfold Bar at hb
  rw [ea, eb, ec, ed] at hb
  have ab := get_pair hp hij ha hb'
  have ac := get_pair hp (by omega : i < k) ha hc
  have ad := get_pair hp (by omega : i < l) ha hd
  have bc := get_pair hp hjk hb' hc
  have bd := get_pair hp (by omega : j < l) hb' hd
  have cd := get_pair hp hkl hc hd
  unfold RR at ab ac ad bc bd cd
  cases h1 : a.2 <;> cases h2 : b.2 <;> cases h3 : c.2 <;> cases h4 : d.2 <;> simp_all <;> omega
theorem zipIdx_fst : ∀ (ns : List Int) (k : Nat), (ns.zipIdx k).map (fun p => p.1) = ns
  | [], _ => rfl
  | c :: r, k => by rw [List.zipIdx_cons, List.map_cons, zipIdx_fst r]
theorem wov_of_sides {ns : List Int} (U : Nat → Bool) (h : ∀ i j, i < j → j < ns.length → (U i = true → U j = true → fOf ns i < fOf ns j) ∧ (U i = false → U j = false → fOf ns j < fOf ns i)) : Wov ns := by
  refine ⟨ns.zipIdx.map fun p => (p.1, U p.2), by rw [List.map_map]; exact zipIdx_fst ns 0, ?_⟩
  rw [List.pairwise_map, List.pairwise_iff_getElem]
  intro i j hi hj hij e
  rw [List.length_zipIdx] at hi hj
  have eg : ∀ m (hm : m < ns.length), fOf ns m = ns[m] := fun m hm => by
    show ns.getD m 0 = _
    rw [List.getD_eq_getElem?_getD, List.getElem?_eq_getElem hm]; rfl
  have h' := h i j hij hj
  rw [eg i hi, eg j hj] at h'
  simp only [List.getElem_zipIdx, Nat.zero_add] at e ⊢
  cases hu : U i with
  | true => rw [if_pos rfl]; exact h'.1 hu (e ▸ hu)
  | false => rw [if_neg (by decide)]; exact h'.2 hu (e ▸ hu)
theorem NoFour.wov {ns : List Int} (hn : ns.Nodup) (h : NoFour ns) : Wov ns := by
  have inj : ∀ i j, i < ns.length → j < ns.length → fOf ns i = fOf ns j → i = j := fun i j hi hj e => by
    have eg : ∀ m (hm : m < ns.length), fOf ns m = ns[m] := fun m hm => by
      show ns.getD m 0 = _
      rw [List.getD_eq_getElem?_getD, List.getElem?_eq_getElem hm]; rfl
    rw [eg i hi, eg j hj] at e
    exact (List.getElem_inj hn).mp e
  obtain ⟨U, hU⟩ := parting_of inj h
  refine wov_of_sides (fun i => @decide (U i) (Classical.propDecidable _)) fun i j hij hj => ?_
  have := hU i j hij hj
  exact ⟨fun a b => this.1 (@of_decide_eq_true _ (Classical.propDecidable _) a) (@of_decide_eq_true _ (Classical.propDecidable _) b), fun a b => this.2 (@of_decide_eq_false _ (Classical.propDecidable _) a) (@of_decide_eq_false _ (Classical.propDecidable _) b)⟩
theorem wov_iff {ns : List Int} (hn : ns.Nodup) : Wov ns ↔ NoFour ns := ⟨Wov.noFour, NoFour.wov hn⟩
/-! ### all partings -/
def allP : List Int → Int → Int → List (List Bool)
  | [], _, _ => [[]]
  | c :: r, u, d => (if c < d then (allP r u c).map (false :: ·) else []) ++ (if u < c then (allP r c d).map (true :: ·) else [])
theorem mem_allP : ∀ {ns : List Int} {u d : Int} {s : List Bool}, s ∈ allP ns u d ↔ s.length = ns.length ∧ fitS (ns.zip s) u d = true
  | [], u, d, s => by
    cases s <;> simp [allP, fitS]
  | c :: r, u, d, s => by
    rw [allP, List.mem_append]
    cases s with
    | nil =>
      constructor
      · rintro (h | h)
        · split at h <;> simp at h
        · split at h <;> simp at h
      · rintro ⟨h, _⟩; cases h
    | cons b s =>
      cases b with
      | false =>
        rw [List.zip_cons_cons, fitS, Bool.and_eq_true, decide_eq_true_eq]
        constructor
        · rintro (h | h)
          · split at h
            · rename_i hc
              simp only [List.mem_map, List.cons.injEq, true_and, exists_eq_right] at h
              have := mem_allP.mp h
              exact ⟨by simp [this.1], hc, this.2⟩
            · cases h
          · split at h <;> simp at h
        · rintro ⟨h1, h2, h3⟩
          refine .inl ?_
          rw [if_pos h2]
          exact List.mem_map.mpr ⟨s, mem_allP.mpr ⟨by simpa using h1, h3⟩, rfl⟩
      | true =>
        rw [List.zip_cons_cons, fitS, Bool.and_eq_true, decide_eq_true_eq]
        constructor
        · rintro (h | h)
          · split at h <;> simp at h
          · split at h
            · rename_i hc
              simp only [List.mem_map, List.cons.injEq, true_and, exists_eq_right] at h
              have := mem_allP.mp h
              exact ⟨by simp [this.1], hc, this.2⟩
            · cases h
        · rintro ⟨h1, h2, h3⟩
          refine .inr ?_
          rw [if_pos h2]
          exact List.mem_map.mpr ⟨s, mem_allP.mpr ⟨by simpa using h1, h3⟩, rfl⟩
theorem allP_ne : ∀ {ns : List Int} {u d : Int}, allP ns u d ≠ [] ↔ good ns u d = true
  | [], u, d => by simp [allP, good]
  | c :: r, u, d => by
    rw [allP, good, Bool.or_eq_true, Bool.and_eq_true, Bool.and_eq_true, decide_eq_true_eq, decide_eq_true_eq, ← allP_ne, ← allP_ne]
    by_cases h1 : c < d <;> by_cases h2 : u < c <;> simp [h1, h2] <;> (by_cases h3 : allP r u c = [] <;> by_cases h4 : allP r c d = [] <;> simp [h3, h4])
/-- sides in order: down ahead of up -/
def sLt : List Bool → List Bool → Prop
  | [], [] => False
  | [], _ :: _ => True
  | _ :: _, [] => False
  | a :: s, b :: t => (a = false ∧ b = true) ∨ (a = b ∧ sLt s t)
theorem allP_sorted : ∀ {ns : List Int} {u d : Int}, (allP ns u d).Pairwise sLt
  | [], u, d => by simp [allP]
  | c :: r, u, d => by
    rw [allP, List.pairwise_append]
    refine ⟨?_, ?_, ?_⟩
    · split
      · rw [List.pairwise_map]
        exact allP_sorted.imp fun h => .inr ⟨rfl, h⟩
      · exact .nil
    · split
      · rw [List.pairwise_map]
        exact allP_sorted.imp fun h => .inr ⟨rfl, h⟩
      · exact .nil
    · intro a ha b hb
      split at ha <;> split at hb
      · obtain ⟨a, _, rfl⟩ := List.mem_map.mp ha
        obtain ⟨b, _, rfl⟩ := List.mem_map.mp hb
        exact .inl ⟨rfl, rfl⟩
      all_goals simp at ha hb
theorem sLt_irrefl : ∀ {s : List Bool}, ¬ sLt s s
  | [], h => h
  | a :: s, h => by
    rcases h with ⟨h1, h2⟩ | ⟨_, h⟩
    · rw [h1] at h2; cases h2
    · exact sLt_irrefl h
theorem allP_nodup {ns : List Int} {u d : Int} : (allP ns u d).Nodup := List.Pairwise.imp (fun {a b} (h : sLt a b) (e : a = b) => sLt_irrefl (e ▸ h)) allP_sorted
/-! no more than one more than there are cards -/
theorem allP_one : ∀ {ns : List Int} {u d : Int}, d ≤ u → (allP ns u d).length ≤ 1
  | [], _, _, _ => Nat.le_refl _
  | c :: r, u, d, h => by
    rw [allP]
    by_cases h1 : c < d
    · rw [if_pos h1, if_neg (by omega), List.append_nil, List.length_map]
      exact allP_one (by omega)
    · rw [if_neg h1, List.nil_append]
      split
      · rw [List.length_map]; exact allP_one (by omega)
      · simp
theorem allP_le : ∀ {ns : List Int} {u d : Int}, ns.Nodup → (allP ns u d).length ≤ ns.length + 1
  | [], _, _, _ => Nat.le_refl _
  | [c], u, d, _ => by
    rw [allP]
    split <;> split <;> simp [allP]
  | c :: c' :: r, u, d, hn => by
    have hn' : (c' :: r).Nodup := (List.nodup_cons.mp hn).2
    have hne : c ≠ c' := fun e => (List.nodup_cons.mp hn).1 (by rw [e]; simp)
    have i1 := allP_le (ns := c' :: r) (u := u) (d := c) hn'
    have i2 := allP_le (ns := c' :: r) (u := c) (d := d) hn'
    have hmin : (allP (c' :: r) u c).length ≤ 1 ∨ (allP (c' :: r) c d).length ≤ 1 := by
      by_cases hc : c < c'
      · refine .inl ?_
        rw [allP, if_neg (by omega), List.nil_append]
        split
        · rw [List.length_map]; exact allP_one (by omega)
        · simp
      · refine .inr ?_
        rw [allP, if_neg (by omega : ¬ c < c'), List.append_nil]
        split
        · rw [List.length_map]; exact allP_one (by omega)
        · simp
    have e : (allP (c :: c' :: r) u d).length ≤ (allP (c' :: r) u c).length + (allP (c' :: r) c d).length := by
      rw [allP, List.length_append]
      split <;> split <;> simp
    simp only [List.length_cons] at *
    omega
end Wv

set_option Elab.async false
set_option linter.all false
set_option maxRecDepth 100000
set_option maxHeartbeats 2000000
namespace Wv
open PySem PySem.Spec PyProof.Rows L2
local macro_rules | `(tactic| walk_at "var") => `(tactic| ((with_reducible refine we_var (r := ?r) ?h ?_); (case h => rfl)))
local macro_rules | `(tactic| walk_at "ev") => `(tactic| (first
  | walk_at "var" | with_reducible refine we_int ?_ | with_reducible refine we_str ?_ | with_reducible refine we_bl ?_ | with_reducible refine we_non ?_ | with_reducible refine wa_cons ?_ | with_reducible refine wa_nil ?_
  | with_reducible refine wr_b0 ?_ | with_reducible refine wr_i0 ?_ | with_reducible refine wr_addI ?_ | with_reducible refine wu_neg ?_
  | with_reducible refine we_op ?_ | with_reducible refine we_un ?_ | with_reducible refine we_cb ?_ | with_reducible refine we_tup ?_ | with_reducible refine we_chain ?_ | with_reducible refine we_chain3 ?_ | with_reducible refine we_andV ?_ | with_reducible refine we_orV ?_ | with_reducible refine we_notV ?_ | with_reducible refine we_if ?_
  | with_reducible refine wt_test ?_ | with_reducible refine wt_B ?_ | with_reducible refine wt_and ?_ | with_reducible refine wt_or ?_ | with_reducible refine wt_not ?_ | with_reducible refine wr_isNN ?_ | with_reducible refine wr_isN ?_ | with_reducible refine wr_isB ?_ | with_reducible refine wr_isNB ?_
  | with_reducible refine wc_max2 ?_ | with_reducible refine wc_min2 ?_ | with_reducible refine wc_isi (isi_int _) ?_ | with_reducible refine wc_isi (isi_bool _) ?_ | with_reducible refine wc_isi (isi_tuple _) ?_ | with_reducible refine wc_isi (isi_list _) ?_ | with_reducible refine wc_isi (isi_str _) ?_
  | with_reducible refine sx_seq ?_ | with_reducible refine sx_next ?_ | with_reducible refine sx_ret ?_ | with_reducible refine sx_drop ?_ | with_reducible refine sx_if ?_ | with_reducible refine sx_par ?_ | with_reducible refine wo_none ?_ | with_reducible refine wo_some ?_
  | with_reducible refine wg_name ?_ | with_reducible refine wgs_nil ?_ | with_reducible refine wgs_cons ?_ | with_reducible refine wg_tup rfl ?_
  | with_reducible refine wgcs_nil ?_ | with_reducible refine wgcs_cons ?_ | with_reducible refine wgc_tup rfl ?_ | with_reducible refine wgc_name (by decide) ?_ | with_reducible refine we_v ?_ | with_reducible refine ⟨_, rfl, ?_⟩))
local macro_rules | `(tactic| walk_at "go") => `(tactic| repeat walk_at "ev")
section
variable {K : PySem.W.Frag} {Pg : Program} {w : World} {rs : List Res} {μ : List MO} {P : PyData → List MO → Prop}
/-! ### good_from -/
def nk (at_ u d : Int) : NestedKey := .tup [.num at_, .tup [.num u, .num d]]
theorem nk_data (a u d : Int) : (nk a u d).data = .tuple [.int a, lastD (u, d)] := rfl
theorem nk_depth (a u d : Int) : (nk a u d).depth ≤ 8 := by
  show max 0 (max (max 0 (max 0 0) + 1) 0) + 1 ≤ 8
  decide
def ups (ns : List Int) : List Int := -1 :: ns
def downs (ns : List Int) : List Int := 1000000001 :: ns
def LG (ns : List Int) : List NestedKey := (List.range ns.length).flatMap fun (a : Nat) => (ups ns).flatMap fun u => (downs ns).map fun d => nk a u d
def fG (ns : List Int) : NestedKey → PyData
  | .tup [.num a, .tup [.num u, .num d]] => .bool (good (ns.drop a.toNat) u d)
  | _ => .none
theorem LG_depth (ns : List Int) : ∀ k ∈ LG ns, k.depth ≤ 8 := fun k hk => by
  obtain ⟨a, _, hk⟩ := List.mem_flatMap.mp hk
  obtain ⟨u, _, hk⟩ := List.mem_flatMap.mp hk
  obtain ⟨d, _, rfl⟩ := List.mem_map.mp hk
  exact nk_depth _ _ _
theorem LG_mem {ns : List Int} {a : Nat} {u d : Int} (ha : a < ns.length) (hu : u ∈ ups ns) (hd : d ∈ downs ns) : nk a u d ∈ LG ns :=
  List.mem_flatMap.mpr ⟨a, List.mem_range.mpr ha, List.mem_flatMap.mpr ⟨u, hu, List.mem_map.mpr ⟨d, hd, rfl⟩⟩⟩
theorem flatMap_len {α β : Type} {f : α → List β} {m : Nat} : ∀ {l : List α}, (∀ x ∈ l, (f x).length ≤ m) → (l.flatMap f).length ≤ l.length * m
  | [], _ => by simp
  | x :: l, h => by
    rw [List.flatMap_cons, List.length_append, List.length_cons, Nat.succ_mul]
    have h1 := h x (by simp)
    have h2 := flatMap_len (l := l) fun y hy => h y (List.mem_cons_of_mem _ hy)
    omega
theorem LG_len {ns : List Int} (h : ns.length ≤ 60) : (LG ns).length ≤ sizeLine := by
  have h1 : (LG ns).length ≤ (List.range ns.length).length * ((ups ns).length * (downs ns).length) := by
    unfold LG
    refine flatMap_len fun a _ => flatMap_len fun u _ => ?_
    rw [List.length_map]
    exact Nat.le_refl _
  have h2 : (List.range ns.length).length * ((ups ns).length * (downs ns).length) ≤ 60 * (61 * 61) := by
    refine Nat.mul_le_mul (by rw [List.length_range]; exact h) (Nat.mul_le_mul ?_ ?_)
    · show ns.length + 1 ≤ 61
      omega
    · show ns.length + 1 ≤ 61
      omega
  exact size_le (by omega)
def S_good_from' (Pg : Program) (w : World) (m : Nat) : Spec := fun rs μ P => ∃ b, ∃ ns : List Int, ∃ a u d ks, rs = [.d (seqOf b (nums ns)), .d (.int (a : Nat)), .d (lastD (u, d)), .m 0] ∧ ns.length ≤ 60 ∧ a ≤ ns.length ∧ ns.length < a + m ∧ u ∈ ups ns ∧ d ∈ downs ns ∧
  μ = [MO.memo Pg w (LG ns) (fG ns) ks] ∧ P (.bool (good (ns.drop a) u d)) [MO.memo Pg w (LG ns) (fG ns) ks]
def S_good_from (Pg : Program) (w : World) : Spec := S_good_from' Pg w 61
/- good_from: slots 0 row, 1 at, 2 last, 3 known, 4 spot, 5 some, 6 side, 7 there -/
def R_good_from (K : PySem.W.Frag) (Pg : Program) (w : World) (Sr : Spec) : TS :=
    (tSeq (tIfS (tTest (tOp (rEqD K) (tVar 1) (tCB (rLenX K) (tCons (tVar 0) tNil)))) (tRet (tC (.bl true))) tNext)
    (tSeq (tAsg (tTup (tCons (tVar 1) (tCons (tVar 2) tNil))) (gName 4))
    (tSeq (tIfS (tTest (tOp (rNotInM Pg w) (tVar 4) (tVar 3))) (tSeq (tAsg (tLc (iSeq K (tTup (tCons (tC (.str "down")) (tCons (tC (.str "up")) tNil)))) (gName 6) tYes (tCall (FSp K S_next_last) [] E0 (tCons (tVar 2) (tCons (tOp (rIx K) (tVar 0) (tVar 1)) (tCons (tVar 6) tNil)))) [6]) (gName 5))
    (tAsg (tCB (rAny K) (tCons (tLc (iSeq K (tVar 5)) (gName 7) tYes (tAndV (tOp rIsNX (tVar 7) (tC .non)) (tCall (FSp K Sr) [] E0 (tCons (tVar 0) (tCons (tOp (rAddX K) (tVar 1) (tC (.int 1))) (tCons (tVar 7) (tCons (tVar 3) tNil)))))) [7]) tNil)) (gSub (tVar 3) (tVar 4) (rSetM Pg w)))) tNext)
    (tRet (tOp (rGetM Pg w) (tVar 3) (tVar 4))))))
theorem ups_mem {ns : List Int} {x : Int} (h : x ∈ ns) : x ∈ ups ns := List.mem_cons_of_mem _ h
theorem downs_mem {ns : List Int} {x : Int} (h : x ∈ ns) : x ∈ downs ns := List.mem_cons_of_mem _ h
theorem good_cons {ns : List Int} {a : Nat} {c u d : Int} (h : ns[a]? = some c) : good (ns.drop a) u d = ((decide (c < d) && good (ns.drop (a + 1)) u c) || (decide (u < c) && good (ns.drop (a + 1)) c d)) := by
  obtain ⟨hl, rfl⟩ := List.getElem?_eq_some_iff.mp h
  rw [List.drop_eq_getElem_cons hl]
  rfl
theorem nums_get {ns : List Int} {a : Nat} {c : Int} (h : ns[a]? = some c) : (nums ns)[a]? = some (.int c) := by rw [List.getElem?_map, h]; rfl
theorem eqv_int (i j : Int) : PyData.eqv (.int i) (.int j) = (i == j) := by rw [PyData.eqv]
theorem memo_weak {L : List NestedKey} {f : NestedKey → PyData} {k : NestedKey} {ks : List NestedKey} : (MO.memo Pg w L f (k :: ks)).Imp (MO.memo Pg w L f ks) := fun K O H a h => by
  obtain ⟨es, h1, h2⟩ := h
  exact ⟨es, h1, h2.key, h2.inL, h2.val, h2.nd, fun x hx => h2.there x (List.mem_cons_of_mem _ hx)⟩
def goodOf (ns : List Int) (a : Nat) : PyData → PyData
  | .tuple [.int u, .int d] => .bool (good (ns.drop a) u d)
  | _ => .bool false
theorem sx_good_from {m : Nat} (h : S_good_from' Pg w (m + 1) rs μ P) : SX K μ.length (R_good_from K Pg w (S_good_from' Pg w m)) (endsOf μ.length P) (startD 8 rs) μ := by
  obtain ⟨b, ns, a, u, d, ks, rfl, hn, ha, hm, hu, hd, rfl, h⟩ := h
  unfold R_good_from
  walk_at "go"
  refine wc_len .of ?_
  refine wr_eqX (d := .int a) (e := .int _) (.d _) (.d _) (shp_int _).ok (shp_int _).ok ?_
  rw [eqv_int]
  walk_at "go"
  refine ⟨fun h1 => ?_, fun h1 => ?_⟩
  · walk_at "go"
    have e : a = ns.length := by
      have := eq_of_beq h1
      rw [List.length_map] at this
      omega
    refine ret_d ?_
    rw [e, List.drop_length] at h
    exact h
  · have hlt : a < ns.length := by
      have : ¬ ((a : Int) = ((nums ns).length : Int)) := fun z => by rw [z] at h1; simp at h1
      rw [List.length_map] at this
      omega
    obtain ⟨c, hc⟩ : ∃ c, ns[a]? = some c := ⟨_, List.getElem?_eq_getElem hlt⟩
    have hcm : c ∈ ns := List.mem_of_getElem? hc
    walk_at "go"
    refine sx_asg ?_
    walk_at "go"
    refine ⟨[_, _], rfl, size_le (by simp), ?_⟩
    walk_at "go"
    -- what stands behind the store
    have hval : fG ns (nk a u d) = .bool (good (ns.drop a) u d) := rfl
    have back : WR K (rGetM Pg w) (.m 0) (.d (.tuple [.int a, lastD (u, d)])) [MO.memo Pg w (LG ns) (fG ns) (nk a u d :: ks)] (endsOf 1 P).rt := by
      refine wr_wk (wr_getM (l := [.num a, .tup [.num u, .num d]]) rfl rfl (LG_depth ns) List.mem_cons_self ?_)
      exact ⟨_, .one memo_weak, ret_d h⟩
    refine wr_notInM (l := [.num a, .tup [.num u, .num d]]) rfl rfl (LG_depth ns) (nk_depth a u d) ?_ ?_
    · walk_at "go"
      refine ⟨fun _ => ?_, fun z => (by cases z)⟩
      walk_at "go"
      -- some
      refine sx_asg (we_new (wn_lcM (fun z => optD (nextLast u d c (PyData.eqv z (.str "up")))) (wi_seqS ?_)))
      walk_at "go"
      refine ⟨[sideD false, sideD true], rfl, size_le (by simp), true, _, rfl, size_big (by simp), fun z hz => ?_, ?_⟩
      · obtain ⟨s, rfl⟩ : ∃ s, z = sideD s := by
          rcases List.mem_cons.mp hz with rfl | hz
          · exact ⟨false, rfl⟩
          · exact ⟨true, by simpa using hz⟩
        rw [side_up]
        walk_at "go"
        refine we_call0 ?_
        walk_at "go"
        refine wr_ix .of (atI_of (nums_get hc)) ?_
        walk_at "go"
        exact ⟨by simp [notM], (u, d), c, s, rfl, rfl, rfl, rfl⟩
      · walk_at "go"
        -- known[spot] = any(..)
        refine sx_putM (l := [.num a, .tup [.num u, .num d]]) (j := 0) (L := LG ns) (f := fG ns) (ks := ks) rfl (LG_depth ns) (LG_mem hlt hu hd) (LG_len hn) ?_
        walk_at "go"
        have eL : [sideD false, sideD true].map (fun z => optD (nextLast u d c (PyData.eqv z (.str "up")))) = [optD (nextLast u d c false), optD (nextLast u d c true)] := by
          rw [List.map_cons, List.map_cons, side_up, side_up]
          rfl
        rw [eL]
        refine we_new (wn_lcM (goodOf ns (a + 1)) (wi_seqS ?_))
        walk_at "go"
        refine ⟨false, _, rfl, size_big (by simp), fun z hz => ?_, ?_⟩
        · have hz' : z = .none ∨ ∃ u' d', z = lastD (u', d') ∧ u' ∈ ups ns ∧ d' ∈ downs ns := by
            have hb : ∀ s, optD (nextLast u d c s) = .none ∨ ∃ u' d', optD (nextLast u d c s) = lastD (u', d') ∧ u' ∈ ups ns ∧ d' ∈ downs ns := fun s => by
              cases s with
              | false =>
                show optD (if c < d then some (u, c) else none) = _ ∨ ∃ u' d', optD (if c < d then some (u, c) else none) = _ ∧ _
                by_cases q : c < d
                · rw [if_pos q]; exact .inr ⟨u, c, rfl, hu, downs_mem hcm⟩
                · rw [if_neg q]; exact .inl rfl
              | true =>
                show optD (if u < c then some (c, d) else none) = _ ∨ ∃ u' d', optD (if u < c then some (c, d) else none) = _ ∧ _
                by_cases q : u < c
                · rw [if_pos q]; exact .inr ⟨c, d, rfl, ups_mem hcm, hd⟩
                · rw [if_neg q]; exact .inl rfl
            rcases List.mem_cons.mp hz with rfl | hz
            · exact hb false
            · rw [show z = _ by simpa using hz]
              exact hb true
          rcases hz' with rfl | ⟨u', d', rfl, hu', hd'⟩
          · walk_at "go"
            exact ⟨fun z => (by cases z), fun _ => ⟨rfl, rfl⟩⟩
          · walk_at "go"
            refine ⟨fun _ => ?_, fun z => (by cases z)⟩
            refine we_call1 ?_
            walk_at "go"
            exact ⟨0, _, rfl, by simp [onlyM], b, ns, a + 1, u', d', ks, rfl, hn, by omega, by omega, hu', hd', rfl, _, rfl, rfl, rfl⟩
        · have eb : goodOf ns (a + 1) (optD (nextLast u d c false)) = .bool (decide (c < d) && good (ns.drop (a + 1)) u c) := by
            show goodOf ns (a + 1) (optD (if c < d then some (u, c) else none)) = _
            by_cases q : c < d
            · rw [if_pos q, decide_eq_true q]; rfl
            · rw [if_neg q, decide_eq_false q]; rfl
          have ec : goodOf ns (a + 1) (optD (nextLast u d c true)) = .bool (decide (u < c) && good (ns.drop (a + 1)) c d) := by
            show goodOf ns (a + 1) (optD (if u < c then some (c, d) else none)) = _
            by_cases q : u < c
            · rw [if_pos q, decide_eq_true q]; rfl
            · rw [if_neg q, decide_eq_false q]; rfl
          rw [List.map_cons, List.map_cons, eb, ec]
          refine wa_nil (wc_any (bs := [_, _]) (.d _) ⟨?_, ?_⟩)
          · show Res.d (.bool _) = Res.d (.bool (good (ns.drop a) u d))
            rw [good_cons hc]
            simp
          · walk_at "go"
            refine ⟨rfl, we_var rfl ⟨rfl, rfl, ?_⟩⟩
            walk_at "go"
            exact back
    · walk_at "go"
      refine ⟨fun z => (by cases z), fun _ => ?_⟩
      walk_at "go"
      exact back
end
end Wv

set_option Elab.async false
set_option linter.all false
set_option maxRecDepth 100000
set_option maxHeartbeats 2000000
namespace Wv
open PySem PySem.Spec PyProof.Rows L2
/-! ### defs that hand back a new list -/
abbrev SpecN := List Res → List MO → (List PyData → List MO → Prop) → Prop
def FSpN (K : PySem.W.Frag) (S : SpecN) : Sp := fun vs H Q _ => ∃ O A rs μ P, WOk K O A H μ ∧ RepAll K O A H vs rs ∧ S rs μ P ∧ ∀ p vs' xs μ' H', Le O A H O A H' → WOk K (orA O p) A H' μ' → H p = none → H' p = some (.lst vs') → DqAll (hid (orA O p) H') vs' xs → xs.length ≤ sizeLine → P xs μ' → Q (.ref p) H'
def endsN (n : Nat) (P : List PyData → List MO → Prop) : DEnds := { nx := fun _ _ => False, rt := fun _ _ => False, rn := fun xs μ' => P xs (μ'.take n) }
section
variable {K : PySem.W.Frag} {n : Nat} {ds : DSt} {μ : List MO} {te ta tb : TE} {O : Addr → Prop} {A : List Addr} {H : Hp} {P : Res → List MO → Prop} {tr : TA} {E : XK}
theorem LeN.backN {O' : Addr → Prop} {A' : List Addr} {H' : Hp} {μ' : List MO} {p : Addr} (w : WOk K O A H μ) (l : LeN μ.length O A H O' A' H') (np : H p = none) (w' : WOk K (orA O' p) A' H' μ') : Le O A H O A H' ∧ WOk K (orA O p) A H' (μ'.take μ.length) ∧ Same (hid (orA O' p) H') (hid (orA O p) H') := by
  have hA : A'.take A.length = A := by
    have e := l.pre
    rw [← w.len] at e
    rw [e, List.take_length]
  have sub : ∀ a, O a → O' a ∨ a = p := fun a oa => by
    by_cases ha : a ∈ A
    · have : a ∈ A' := by
        rw [← hA] at ha
        exact List.mem_of_mem_take ha
      exact w'.inO a this
    · exact .inl (l.le.froz a oa ha).2
  have s : Same (hid (orA O' p) H') (hid (orA O p) H') := fun b o hb => by
    obtain ⟨h1, h2⟩ := of_hid hb
    rw [hid_out fun z => h1 (z.elim (fun oa => sub b oa) .inr)]
    exact h2
  have hle : A.length ≤ A'.length := by
    have := congrArg List.length hA
    rw [List.length_take] at this
    omega
  have no : ¬ O p := fun z => w.dom p z np
  have keep : Same (hid O H) (hid (orA O' p) H') := fun b o hb => by
    obtain ⟨h1, h2⟩ := of_hid hb
    have nb : b ≠ p := ne_of_none h2 np
    obtain ⟨h3, h4⟩ := of_hid (l.le.keep b o hb)
    rw [hid_out fun z => z.elim h3 nb]
    exact h4
  refine ⟨⟨(keep.trans s).trans (same_unor O p H'), fun a oa na => ⟨(l.le.froz a oa na).1, oa⟩, fun _ h => .inl h, l.le.dom⟩, ⟨?_, w.nd, fun a ha => .inl (w.inO a ha), fun a oa => ?_, fun k a mo h1 h2 => ?_⟩, s⟩
  · rw [List.length_take, ← w'.len, ← w.len]
    omega
  · rcases oa with oa | rfl
    · rcases sub a oa with h | h
      · exact w'.dom a (.inl h)
      · exact w'.dom a (.inr h)
    · exact w'.dom _ (.inr rfl)
  · have hk : k < A.length := (List.getElem?_eq_some_iff.mp h1).1
    refine mo.mono (w'.obj k a mo ?_ ?_) rfl s
    · rw [← hA, List.getElem?_take_of_lt hk] at h1
      exact h1
    · rw [List.getElem?_take_of_lt (by rw [← w.len]; exact hk)] at h2
      exact h2
theorem ends_ofN {P : List PyData → List MO → Prop} {Q : VK} (w : WOk K O A H μ) (q : ∀ p vs' xs μ' H', Le O A H O A H' → WOk K (orA O p) A H' μ' → H p = none → H' p = some (.lst vs') → DqAll (hid (orA O p) H') vs' xs → xs.length ≤ sizeLine → P xs μ' → Q (.ref p) H') :
    EndsOk K μ.length (endsN μ.length P) { nx := fun _ H' => Q .non H', rt := Q } O A H :=
  ⟨fun _ _ _ _ _ _ _ _ z => z.elim, fun _ _ _ _ _ _ _ _ _ z => z.elim, fun _ _ _ _ _ _ _ _ z => z.elim, fun _ _ _ _ _ _ _ _ z => z.elim, fun p vs xs O' A' H' μ' l np w' hp hd hz k => by
    obtain ⟨l1, w1, s1⟩ := l.backN w np w'
    exact q p vs xs _ H' l1 w1 np hp (dpAll_mono s1 hd) hz k⟩
/-- the call of such a def, no changeable objects handed in -/
theorem wn_callN {S : SpecN} {Pn : List PyData → List MO → Prop} (h : WA K tr ds μ fun as μ1 => (∀ r ∈ as, notM r) ∧ S as [] fun xs _ => Pn xs μ1) : WN K (tCall (FSpN K S) [] E tr) ds μ Pn := fun σ O A H e Q q =>
  h σ O A H e _ fun vs as μ1 H1 l1 w1 r1 pr => by
    show FSpN K S (vs ++ []) H1 Q E
    rw [List.append_nil]
    refine ⟨O, [], as, [], _, ⟨rfl, List.nodup_nil, fun a h => (by cases h), w1.dom, fun k a mo h => (by simp at h)⟩, r1.none pr.1, pr.2, fun p vs' xs μ' H2 l2 w2 np hp hd hz k => ?_⟩
    have fz : ∀ a, O a → H2 a = H1 a := fun a oa => (l2.froz a oa (by simp)).1
    have l3 : Le O A H1 O A H2 := ⟨l2.keep, fun a oa na => ⟨fz a oa, oa⟩, fun _ h => .inl h, l2.dom⟩
    have s1 := same_or l3 np
    refine q p vs' xs μ1 H2 (.trans e.wok.dom l1 l3) ⟨w1.len, w1.nd, fun a ha => .inl (w1.inO a ha), fun a oa => w2.dom a oa, fun j a m h1 h2 => m.mono (w1.obj j a m h1 h2) (fz a (w1.inO a (List.mem_of_getElem? h1))) s1⟩ (none_back l1.dom np) hp hd hz k
/-! ### a call that reads lists of the caller's own, and hands back no sequence -/
def rdM (μ : List MO) (xs : Nat → List PyData) : Res → Res
  | .m k => .d (.list (xs k))
  | r => r
theorem RepAll.read {xs : Nat → List PyData} (w : WOk K O A H μ) : ∀ {vs : List V} {rs : List Res}, RepAll K O A H vs rs → (∀ k, .m k ∈ rs → μ[k]? = some (MO.lst (xs k))) → RepAll K (fun b => O b ∧ b ∉ A) [] H vs (rs.map (rdM μ xs))
  | _, _, .nil, _ => .nil
  | _, _, .cons (r := r) h t, k => by
    have s : Same (hid O H) (hid (fun b => O b ∧ b ∉ A) H) := fun b o hb => by
      obtain ⟨h1, h2⟩ := of_hid hb
      rw [hid_out fun z => h1 z.1]
      exact h2
    refine .cons ?_ (t.read w fun j hj => k j (List.mem_cons_of_mem _ hj))
    cases r with
    | m j =>
      obtain ⟨a, e1, rfl⟩ := h
      obtain ⟨a', e2, _, _, us, h1, h2⟩ := w.at (k j (by simp))
      rw [e1] at e2; cases e2
      exact .lst (by rw [hid_out fun z => z.2 (List.mem_of_getElem? e1)]; exact h1) (dpAll_mono s h2)
    | d x => exact dp_mono s h
    | v x => exact h
    | o x => obtain ⟨a, h1, h2⟩ := h; exact ⟨a, h1, s _ _ h2⟩
    | s x => obtain ⟨a, h1, h2⟩ := h; exact ⟨a, h1, same_l s h2⟩
theorem we_callR {S : Spec} (xs : Nat → List PyData) (h : WA K tr ds μ fun as μ1 => (∀ k, .m k ∈ as → μ1[k]? = some (MO.lst (xs k))) ∧ S (as.map (rdM μ1 xs)) [] fun d _ => flatD d = true ∧ P (.d d) μ1) : WE K (tCall (FSp K S) [] E tr) ds μ P := fun σ O A H e Q q =>
  h σ O A H e _ fun vs as μ1 H1 l1 w1 r1 pr => by
    show FSp K S (vs ++ []) H1 Q E
    rw [List.append_nil]
    refine ⟨fun b => O b ∧ b ∉ A, [], _, [], _, ⟨rfl, List.nodup_nil, fun a h => (by cases h), fun a ha => w1.dom a ha.1, fun k a mo h => (by simp at h)⟩, r1.read w1 pr.1, pr.2, fun v d μ' H2 l2 w2 hd k => ?_⟩
    obtain ⟨fl, k⟩ := k
    have fz : ∀ a, O a → H2 a = H1 a := fun a oa => by
      by_cases ha : a ∈ A
      · cases e1 : H1 a with
        | none => exact absurd e1 (w1.dom a oa)
        | some o =>
          have := l2.keep a o (by rw [hid_out fun z => z.2 ha]; exact e1)
          exact (of_hid this).2
      · exact (l2.froz a ⟨oa, ha⟩ (by simp)).1
    have s2 : Same (hid O H1) (hid O H2) := fun b o hb => by
      obtain ⟨h1, h2⟩ := of_hid hb
      have := l2.keep b o (by rw [hid_out fun z => h1 z.1]; exact h2)
      rw [hid_out h1]
      exact (of_hid this).2
    have l3 : Le O A H1 O A H2 := ⟨s2, fun a oa na => ⟨fz a oa, oa⟩, fun _ h => .inl h, l2.dom⟩
    refine q v (.d d) μ1 H2 (.trans e.wok.dom l1 l3) (w1.same s2 fz) (rp_d ?_) k
    exact Dq_scalar hd fl
end
structure OwnN (Pg : Program) (w : World) (K : PySem.W.Frag) (mg : Str → Option Value) (base : Heap) (name : Str) (ps : List Str) (k : Nat) (S : SpecN) : Prop where
  ex : ∃ f fd, FnOk Pg w K mg base CX0 k f fd ps (FSpN K S) ∧ mg name = some (.ref f) ∧ PySem.W.keepIn K (.ref f) = true ∧ Binds K fd ps []
section
variable {Pg : Program} {w : World} {K : PySem.W.Frag} {mg : Str → Option Value} {base : Heap} {name : Str} {ps N : List Str} {k : Nat} {st : Stmt}
theorem ownN_of {S : SpecN} (F : DefAt K mg name st ps) (Sc : FnScope N ps (defScope st)) (len : ∀ rs μ P, S rs μ P → rs.length = ps.length)
    (body : ∀ (cdv : Value) (A : Around) (outer : List Env) (s : Shared) (H : Hp) (E : XK) (f : Addr), Room k (A.deeper (envOfC name (defScope st) s.heap.objs.size f cdv)) →
      ∃ t, PSs (cxOf CX0 Pg w K mg base N name (defScope st) f cdv A outer s H E).nox (defBody st) t ∧ ∀ rs μ P, S rs μ P → SX K μ.length t (endsN μ.length P) (startD N.length rs) μ) : OwnN Pg w K mg base name ps (k + 1) S := by
  obtain ⟨f, fd, F, hm, hb⟩ := F.ex
  refine ⟨f, fd, F.ok Sc (fun vs H Q E h => ?_) (fun cdv A outer s H vs Q E hr h => ?_), hm, F.kp, hb⟩
  · obtain ⟨O, A, rs, μ, P, w, ra, hs, _⟩ := h
    rw [ra.length]
    exact len rs μ P hs
  · obtain ⟨O, Ad, rs, μ, P, w, ra, hs, q⟩ := h
    obtain ⟨t, ht, hb⟩ := body cdv A outer s H E f hr
    exact ⟨t, ht, hb rs μ P hs _ O Ad H _ (env_start w ra) (ends_ofN w q)⟩
/-- no promise at all -/
theorem own_false (F : DefAt K mg name st ps) : Own Pg w K mg base name ps 0 (fun _ _ _ => False) := by
  obtain ⟨f, fd, F, hm, hb⟩ := F.ex
  refine ⟨f, fd, ⟨fun vs H Q E h => ?_, fun A outer s H args us vs Q E _ _ _ _ h => ?_⟩, hm, F.kp, hb⟩
  · obtain ⟨_, _, _, _, _, _, _, z, _⟩ := h
    exact z.elim
  · obtain ⟨_, _, _, _, _, _, _, z, _⟩ := h
    exact z.elim
end
section
variable {X : Cx} {name : Str} {ps : List Str} {k : Nat} {S : SpecN} {p pos : Pos} {e : Expr} {es : List Expr} {t : TA}
theorem pe_ownN (G : OwnN X.prog X.w X.K X.mg X.base name ps k S) (hr : Room k X.A) (ha : PA X (e :: es) t) (hg : Gl X name := by rfl) (hdb : (name == ("__debug__" : Str)) = false := by decide)
    (he : starEach (e :: es) X.env = (false, eval e X.env) :: starEach es X.env := by rfl) (hpl : (backTo pos (starEach es X.env)).any (·.1) = false := by rfl) :
    PE X (.Call (.Name name p) (e :: es) [] pos) (tCall (FSpN X.K S) [] E0 t) := by
  obtain ⟨f, fd, F, hm, hk, hb⟩ := G.ex
  exact pe_call F hr hg hm hk hb .nil pass0 ha hdb he hpl
end
end Wv

set_option linter.all false
namespace Wv
def upsOf (cs : List (Int × Bool)) : List Int := (cs.filter fun p => p.2).map (·.1)
def downsOf (cs : List (Int × Bool)) : List Int := (cs.filter fun p => !p.2).map (·.1)
theorem ups_cons (c : Int) (s : Bool) (cs : List (Int × Bool)) : upsOf ((c, s) :: cs) = if s then c :: upsOf cs else upsOf cs := by
  cases s <;> simp [upsOf]
theorem downs_cons (c : Int) (s : Bool) (cs : List (Int × Bool)) : downsOf ((c, s) :: cs) = if s then downsOf cs else c :: downsOf cs := by
  cases s <;> simp [downsOf]
theorem ups_snoc (c : Int) (s : Bool) (cs : List (Int × Bool)) : upsOf (cs ++ [(c, s)]) = upsOf cs ++ (if s then [c] else []) := by
  cases s <;> simp [upsOf]
theorem downs_snoc (c : Int) (s : Bool) (cs : List (Int × Bool)) : downsOf (cs ++ [(c, s)]) = downsOf cs ++ (if s then [] else [c]) := by
  cases s <;> simp [downsOf]
theorem sides_perm : ∀ cs : List (Int × Bool), (upsOf cs ++ downsOf cs).Perm (cs.map (·.1))
  | [] => .refl _
  | (c, true) :: cs => by rw [ups_cons, downs_cons, if_pos rfl, if_pos rfl, List.cons_append, List.map_cons]; exact (sides_perm cs).cons c
  | (c, false) :: cs => by
    rw [ups_cons, downs_cons, if_neg (by decide), if_neg (by decide), List.map_cons]
    exact List.perm_middle.trans ((sides_perm cs).cons c)
theorem rr_iff : ∀ {cs : List (Int × Bool)}, cs.Pairwise RR ↔ (upsOf cs).Pairwise (· < ·) ∧ (downsOf cs).Pairwise (fun a b => b < a)
  | [] => by simp [upsOf, downsOf]
  | (c, true) :: cs => by
    rw [List.pairwise_cons, rr_iff, ups_cons, downs_cons, if_pos rfl, if_pos rfl, List.pairwise_cons]
    refine ⟨fun ⟨h1, h2, h3⟩ => ⟨⟨fun a ha => ?_, h2⟩, h3⟩, fun ⟨⟨h1, h2⟩, h3⟩ => ⟨fun q hq e => ?_, h2, h3⟩⟩
    · obtain ⟨q, hq, rfl⟩ := List.mem_map.mp ha
      rw [List.mem_filter] at hq
      have := h1 q hq.1 hq.2.symm
      rwa [if_pos rfl] at this
    · rw [if_pos rfl]
      exact h1 q.1 (List.mem_map.mpr ⟨q, List.mem_filter.mpr ⟨hq, e.symm⟩, rfl⟩)
  | (c, false) :: cs => by
    rw [List.pairwise_cons, rr_iff, ups_cons, downs_cons, if_neg (by decide), if_neg (by decide), List.pairwise_cons]
    refine ⟨fun ⟨h1, h2, h3⟩ => ⟨h2, fun a ha => ?_, h3⟩, fun ⟨h2, h1, h3⟩ => ⟨fun q hq e => ?_, h2, h3⟩⟩
    · obtain ⟨q, hq, rfl⟩ := List.mem_map.mp ha
      rw [List.mem_filter] at hq
      have e : q.2 = false := by simpa using hq.2
      have := h1 q hq.1 e.symm
      rwa [if_neg (by simp)] at this
    · rw [if_neg (by simp)]
      exact h1 q.1 (List.mem_map.mpr ⟨q, List.mem_filter.mpr ⟨hq, by rw [← e]; rfl⟩, rfl⟩)
theorem strict_of {ns : List Int} (h : ns.Pairwise (· ≤ ·)) (k : ns.Nodup) : ns.Pairwise (· < ·) := by
  refine List.Pairwise.imp₂ (fun {a b} (h1 : a ≤ b) (h2 : a ≠ b) => ?_) h k
  omega
theorem zip_fst {α β : Type} : ∀ {xs : List α} {ys : List β}, xs.length = ys.length → (xs.zip ys).map (·.1) = xs
  | [], _, _ => by simp
  | x :: xs, [], h => by cases h
  | x :: xs, y :: ys, h => by rw [List.zip_cons_cons, List.map_cons, zip_fst (by simpa using h)]
theorem zip_snd {α β : Type} : ∀ {xs : List α} {ys : List β}, xs.length = ys.length → (xs.zip ys).map (·.2) = ys
  | [], [], _ => by simp
  | [], y :: ys, h => by cases h
  | x :: xs, [], h => by cases h
  | x :: xs, y :: ys, h => by rw [List.zip_cons_cons, List.map_cons, zip_snd (by simpa using h)]
/-- rows that are laid of a rising and a falling one -/
theorem wov_merge {ns A B : List Int} {us : List Bool} {cs : List (Int × Bool)} (hn : ns.Nodup) (hl : ns.length = us.length)
    (ha : A.Perm (upsOf (ns.zip us))) (hb : B.Perm (downsOf (ns.zip us))) (sa : A.Pairwise (· ≤ ·)) (sb : B.Pairwise (· ≤ ·)) (ea : upsOf cs = A) (eb : downsOf cs = B.reverse) : (cs.map (·.1)).Perm ns ∧ Wov (cs.map (·.1)) := by
  have pm : (A ++ B).Perm ns := by
    refine (ha.append hb).trans ((sides_perm _).trans ?_)
    rw [zip_fst hl]
  have nd : (A ++ B).Nodup := pm.nodup_iff.mpr hn
  rw [List.nodup_append] at nd
  refine ⟨?_, cs, rfl, rr_iff.mpr ⟨?_, ?_⟩⟩
  · refine (sides_perm cs).symm.trans (.trans ?_ pm)
    rw [ea, eb]
    exact .append_left _ (List.reverse_perm B)
  · rw [ea]; exact strict_of sa nd.1
  · rw [eb, List.pairwise_reverse]; exact strict_of sb nd.2.1
end Wv

set_option linter.all false
namespace Wv
/-! ### all lots of sides -/
def allB : Nat → List (List Bool)
  | 0 => [[]]
  | n + 1 => (allB n).map (false :: ·) ++ (allB n).map (true :: ·)
def stepS (l : List (List Bool)) : List (List Bool) := l.flatMap fun s => [s ++ [false], s ++ [true]]
theorem stepS_map (b : Bool) (l : List (List Bool)) : stepS (l.map (b :: ·)) = (stepS l).map (b :: ·) := by
  unfold stepS
  rw [List.flatMap_map, List.map_flatMap]
  rfl
theorem stepS_append (l m : List (List Bool)) : stepS (l ++ m) = stepS l ++ stepS m := by unfold stepS; rw [List.flatMap_append]
theorem allB_step : ∀ n, stepS (allB n) = allB (n + 1)
  | 0 => rfl
  | n + 1 => by
    conv => lhs; rw [allB]
    rw [stepS_append, stepS_map, stepS_map, allB_step n]
    conv => rhs; rw [allB]
theorem allB_len : ∀ n, (allB n).length = 2 ^ n
  | 0 => rfl
  | n + 1 => by rw [allB, List.length_append, List.length_map, List.length_map, allB_len n, Nat.pow_succ]; omega
theorem allB_mem_len : ∀ {n : Nat} {s : List Bool}, s ∈ allB n → s.length = n
  | 0, s, h => by simp [allB] at h; rw [h]; rfl
  | n + 1, s, h => by
    rw [allB, List.mem_append] at h
    rcases h with h | h <;> (obtain ⟨t, ht, rfl⟩ := List.mem_map.mp h; rw [List.length_cons, allB_mem_len ht])
theorem allB_filter : ∀ {ns : List Int} {u d : Int}, ((allB ns.length).filter fun s => fitS (ns.zip s) u d) = allP ns u d
  | [], u, d => by simp [allB, fitS, allP]
  | c :: r, u, d => by
    rw [List.length_cons, allB, List.filter_append, List.filter_map, List.filter_map, allP]
    congr 1
    · by_cases h : c < d
      · rw [if_pos h, ← allB_filter (ns := r)]
        congr 1
        refine List.filter_congr fun s _ => ?_
        show fitS ((c, false) :: r.zip s) u d = _
        rw [fitS, decide_eq_true h]; rfl
      · rw [if_neg h, List.filter_eq_nil_iff.mpr (fun s _ => ?_)]
        · rfl
        · show ¬ fitS ((c, false) :: r.zip s) u d = true
          rw [fitS, decide_eq_false h]; simp
    · by_cases h : u < c
      · rw [if_pos h, ← allB_filter (ns := r)]
        congr 1
        refine List.filter_congr fun s _ => ?_
        show fitS ((c, true) :: r.zip s) u d = _
        rw [fitS, decide_eq_true h]; rfl
      · rw [if_neg h, List.filter_eq_nil_iff.mpr (fun s _ => ?_)]
        · rfl
        · show ¬ fitS ((c, true) :: r.zip s) u d = true
          rw [fitS, decide_eq_false h]; simp
theorem allP_top : ∀ {ns : List Int} {u d d' : Int}, (∀ c ∈ ns, c < d ∧ c < d') → allP ns u d = allP ns u d'
  | [], _, _, _, _ => rfl
  | c :: r, u, d, d', h => by
    have hc := h c List.mem_cons_self
    rw [allP, allP, if_pos hc.1, if_pos hc.2, allP_top (ns := r) fun x hx => h x (List.mem_cons_of_mem _ hx)]
/-- the row's partings -/
def parts (ns : List Int) : List (List Bool) := allP ns (-1) 1000000001
def Rng (ns : List Int) : Prop := ∀ x ∈ ns, 0 ≤ x ∧ x ≤ 1000000000
theorem lawPart_fit {ns : List Int} {us : List Bool} (hn : ns.Nodup) (hr : Rng ns) (hl : us.length = ns.length) : lawPart (ns.zip us) (-1) 10000000000 = fitS (ns.zip us) (-1) 10000000000 := by
  refine lawPart_eq (fun p hp => ?_) ?_
  · have : p.1 ∈ ns := (List.of_mem_zip (a := p.1) (b := p.2) hp).1
    have := hr _ this
    omega
  · rw [zip_fst hl.symm]; exact hn
theorem law_all_eq {ns : List Int} (hn : ns.Nodup) (hr : Rng ns) : ((allB ns.length).filter fun s => lawPart (ns.zip s) (-1) 10000000000) = parts ns := by
  unfold parts
  rw [allP_top (d' := 10000000000) (fun c hc => by have := hr c hc; omega), ← allB_filter]
  refine List.filter_congr fun s hs => ?_
  exact lawPart_fit hn hr (allB_mem_len hs)
theorem fit_rr {ns : List Int} {us : List Bool} {d : Int} (hr : Rng ns) (hd : 1000000000 < d) : fitS (ns.zip us) (-1) d = true ↔ (ns.zip us).Pairwise RR := by
  rw [fitS_iff]
  refine ⟨fun h => h.1, fun h => ⟨h, fun p hp => ?_⟩⟩
  have := hr _ (List.of_mem_zip (a := p.1) (b := p.2) hp).1
  exact ⟨fun _ => by omega, fun _ => by omega⟩
theorem mem_parts {ns : List Int} {s : List Bool} (hr : Rng ns) : s ∈ parts ns ↔ s.length = ns.length ∧ (ns.zip s).Pairwise RR := by
  unfold parts
  rw [mem_allP, fit_rr hr (by decide)]
end Wv

set_option linter.all false
namespace Wv
/-! ### rings -/
def rot (k : Nat) (ns : List Int) : List Int := ns.drop k ++ ns.take k
theorem rot_len {k : Nat} {ns : List Int} : (rot k ns).length = ns.length := by
  unfold rot; rw [List.length_append, List.length_drop, List.length_take]; omega
theorem rot_perm {k : Nat} {ns : List Int} : (rot k ns).Perm ns := by
  unfold rot
  refine List.perm_append_comm.trans ?_
  rw [List.take_append_drop]
theorem rot_zero {ns : List Int} : rot 0 ns = ns := by unfold rot; simp
theorem rot_full {ns : List Int} : rot ns.length ns = ns := by unfold rot; simp
theorem rot_rot_le {a b : Nat} {ns : List Int} (h : a + b ≤ ns.length) : rot a (rot b ns) = rot (a + b) ns := by
  unfold rot
  rw [List.drop_append_of_le_length (by rw [List.length_drop]; omega), List.take_append_of_le_length (by rw [List.length_drop]; omega), List.drop_drop, Nat.add_comm a b, List.take_add, List.append_assoc]
theorem rot_rot_gt {a b : Nat} {ns : List Int} (hb : b ≤ ns.length) (ha : a ≤ ns.length) (h : ns.length ≤ a + b) : rot a (rot b ns) = rot (a + b - ns.length) ns := by
  obtain ⟨c, hc⟩ : ∃ c, a = (ns.length - b) + c := ⟨a - (ns.length - b), by omega⟩
  have hcb : c ≤ b := by omega
  have e : a + b - ns.length = c := by omega
  rw [e]
  unfold rot
  have hl : (ns.drop b).length = ns.length - b := List.length_drop
  have h1 : (ns.drop b ++ ns.take b).drop a = (ns.take b).drop c := by
    rw [List.drop_append, hl, List.drop_of_length_le (l := ns.drop b) (by rw [hl]; omega), List.nil_append, show a - (ns.length - b) = c by omega]
  have h2 : (ns.drop b ++ ns.take b).take a = ns.drop b ++ ns.take c := by
    rw [List.take_append, hl, List.take_of_length_le (l := ns.drop b) (by rw [hl]; omega), List.take_take, show min (a - (ns.length - b)) b = c by omega]
  rw [h1, h2, ← List.append_assoc]
  congr 1
  conv => rhs; rw [← List.take_append_drop b ns]
  rw [List.drop_append_of_le_length (by rw [List.length_take]; omega)]
theorem rot_rev {k : Nat} {ns : List Int} (h : k ≤ ns.length) : rot k ns.reverse = (rot (ns.length - k) ns).reverse := by
  unfold rot
  rw [List.reverse_append, List.drop_reverse, List.take_reverse]
theorem strict_ext : ∀ {l1 l2 : List Int}, l1.Pairwise (· < ·) → l2.Pairwise (· < ·) → (∀ x, x ∈ l1 ↔ x ∈ l2) → l1 = l2
  | [], [], _, _, _ => rfl
  | [], y :: l2, _, _, h => by have := (h y).mpr (by simp); cases this
  | x :: l1, [], _, _, h => by have := (h x).mp (by simp); cases this
  | x :: l1, y :: l2, h1, h2, h => by
    rw [List.pairwise_cons] at h1 h2
    have hxy : x = y := by
      rcases List.mem_cons.mp ((h x).mp (by simp)) with e | hx
      · exact e
      · rcases List.mem_cons.mp ((h y).mpr (by simp)) with e | hy
        · exact e.symm
        · have a := h2.1 x hx
          have b := h1.1 y hy
          omega
    subst hxy
    congr 1
    refine strict_ext h1.2 h2.2 fun z => ⟨fun hz => ?_, fun hz => ?_⟩
    · rcases List.mem_cons.mp ((h z).mp (List.mem_cons_of_mem _ hz)) with e | hz'
      · have := h1.1 z hz; omega
      · exact hz'
    · rcases List.mem_cons.mp ((h z).mpr (List.mem_cons_of_mem _ hz)) with e | hz'
      · have := h2.1 z hz; omega
      · exact hz'
/-- the seams, by any word for woven -/
def seamsBy (p : List Int → Bool) (ns : List Int) : List Int := ((List.range ns.length).filter fun k => p (rot k ns)).map fun (k : Nat) => (k : Int)
theorem seams_strict {p : List Int → Bool} {ns : List Int} : (seamsBy p ns).Pairwise (· < ·) := by
  unfold seamsBy
  rw [List.pairwise_map]
  refine List.Pairwise.imp (fun {a b} (h : a < b) => by omega) (List.Pairwise.sublist List.filter_sublist ?_)
  exact List.pairwise_lt_range
theorem mem_seams {p : List Int → Bool} {ns : List Int} {x : Int} : x ∈ seamsBy p ns ↔ 0 ≤ x ∧ x < ns.length ∧ p (rot x.toNat ns) = true := by
  unfold seamsBy
  rw [List.mem_map]
  constructor
  · rintro ⟨k, hk, rfl⟩
    rw [List.mem_filter, List.mem_range] at hk
    exact ⟨by omega, by omega, by rw [Int.toNat_natCast]; exact hk.2⟩
  · rintro ⟨h0, h1, h2⟩
    exact ⟨x.toNat, List.mem_filter.mpr ⟨List.mem_range.mpr (by omega), h2⟩, by omega⟩
theorem sorted_is {ms ds ts : List Int} (hp : ms.Perm ds) (hs : ms.Pairwise (· ≤ ·)) (hd : ds.Nodup) (ht : ts.Pairwise (· < ·)) (h : ∀ x, x ∈ ts ↔ x ∈ ds) : ms = ts :=
  strict_ext (strict_of hs (hp.nodup_iff.mpr hd)) ht fun x => by rw [h, hp.mem_iff]
theorem map_nodup {α β : Type} {f : α → β} {l : List α} (hl : l.Nodup) (hf : ∀ a ∈ l, ∀ b ∈ l, f a = f b → a = b) : (l.map f).Nodup := by
  rw [List.Nodup, List.pairwise_map]
  exact List.Pairwise.imp_of_mem (fun {a b} ha hb hne e => hne (hf a ha b hb e)) hl
theorem mod_small {s o n : Int} (hs : 0 ≤ s) (hsn : s < n) (ho : 0 ≤ o) (hon : o < n) : (s - o) % n = if o ≤ s then s - o else s - o + n := by
  split
  · exact Int.emod_eq_of_lt (by omega) (by omega)
  · rw [← Int.add_emod_right, Int.emod_eq_of_lt (by omega) (by omega)]
theorem turn_on {p : List Int → Bool} {ns : List Int} {on : Nat} {ms : List Int} (hon : on < ns.length) (hp : ms.Perm ((seamsBy p ns).map fun s => (s - on) % (ns.length : Nat))) (hs : ms.Pairwise (· ≤ ·)) : ms = seamsBy p (rot on ns) := by
  refine sorted_is hp hs (map_nodup (List.Pairwise.imp (fun {a b} (h : a < b) => by omega) seams_strict) fun a ha b hb e => ?_) seams_strict fun x => ?_
  · have ha := mem_seams.mp ha
    have hb := mem_seams.mp hb
    rw [mod_small ha.1 ha.2.1 (by omega) (by omega), mod_small hb.1 hb.2.1 (by omega) (by omega)] at e
    split at e <;> split at e <;> omega
  · rw [mem_seams, rot_len, List.mem_map]
    constructor
    · rintro ⟨h0, h1, h2⟩
      by_cases hx : x.toNat + on < ns.length
      · rw [rot_rot_le (by omega)] at h2
        refine ⟨x + on, mem_seams.mpr ⟨by omega, by omega, ?_⟩, ?_⟩
        · rw [show (x + on).toNat = x.toNat + on by omega]; exact h2
        · rw [mod_small (by omega) (by omega) (by omega) (by omega), if_pos (by omega)]; omega
      · rw [rot_rot_gt (by omega) (by omega) (by omega)] at h2
        refine ⟨x + on - ns.length, mem_seams.mpr ⟨by omega, by omega, ?_⟩, ?_⟩
        · rw [show (x + on - ns.length).toNat = x.toNat + on - ns.length by omega]; exact h2
        · rw [mod_small (by omega) (by omega) (by omega) (by omega), if_neg (by omega)]; omega
    · rintro ⟨s, hs, rfl⟩
      obtain ⟨h0, h1, h2⟩ := mem_seams.mp hs
      rw [mod_small h0 h1 (by omega) (by omega)]
      split
      · refine ⟨by omega, by omega, ?_⟩
        rw [rot_rot_le (by omega), show (s - on).toNat + on = s.toNat by omega]; exact h2
      · refine ⟨by omega, by omega, ?_⟩
        rw [rot_rot_gt (by omega) (by omega) (by omega), show (s - on + ns.length).toNat + on - ns.length = s.toNat by omega]; exact h2
theorem turn_back {p : List Int → Bool} {ns : List Int} {ms : List Int} (hpr : ∀ k, p (rot k ns).reverse = p (rot k ns)) (hpos : 0 < ns.length) (hp : ms.Perm ((seamsBy p ns).map fun s => ((ns.length : Nat) - s) % (ns.length : Nat))) (hs : ms.Pairwise (· ≤ ·)) : ms = seamsBy p ns.reverse := by
  have md : ∀ s : Int, 0 ≤ s → s < ns.length → (((ns.length : Nat) : Int) - s) % (ns.length : Nat) = if s = 0 then 0 else ns.length - s := fun s h0 h1 => by
    split
    · rename_i e; rw [e, Int.sub_zero, Int.emod_self]
    · exact Int.emod_eq_of_lt (by omega) (by omega)
  refine sorted_is hp hs (map_nodup (List.Pairwise.imp (fun {a b} (h : a < b) => by omega) seams_strict) fun a ha b hb e => ?_) seams_strict fun x => ?_
  · have ha := mem_seams.mp ha
    have hb := mem_seams.mp hb
    rw [md a ha.1 ha.2.1, md b hb.1 hb.2.1] at e
    split at e <;> split at e <;> omega
  · rw [mem_seams, List.length_reverse, List.mem_map]
    have at_ : ∀ k, k < ns.length → p (rot k ns.reverse) = p (rot (if k = 0 then 0 else ns.length - k) ns) := fun k hk => by
      rw [rot_rev (by omega), hpr]
      split
      · rename_i e; rw [e, Nat.sub_zero, rot_full, rot_zero]
      · rfl
    constructor
    · rintro ⟨h0, h1, h2⟩
      rw [at_ x.toNat (by omega)] at h2
      refine ⟨if x = 0 then 0 else ns.length - x, mem_seams.mpr ⟨by split <;> omega, by split <;> omega, ?_⟩, ?_⟩
      · rw [show (if x = 0 then (0 : Int) else ns.length - x).toNat = if x.toNat = 0 then 0 else ns.length - x.toNat by split <;> split <;> omega]
        exact h2
      · rw [md _ (by split <;> omega) (by split <;> omega)]
        split <;> split <;> omega
    · rintro ⟨s, hs, rfl⟩
      obtain ⟨h0, h1, h2⟩ := mem_seams.mp hs
      rw [md s h0 h1]
      refine ⟨by split <;> omega, by split <;> omega, ?_⟩
      rw [at_ _ (by split <;> omega)]
      rw [show (if (if s = 0 then (0 : Int) else ns.length - s).toNat = 0 then 0 else ns.length - (if s = 0 then (0 : Int) else ns.length - s).toNat) = s.toNat by split <;> split <;> omega]
      exact h2
/-! ### by last numbers -/
def StepL (c : Int) (q p : Int × Int) : Prop := (q.1 < c ∧ p = (c, q.2)) ∨ (c < q.2 ∧ p = (q.1, c))
theorem good_step {c : Int} {r : List Int} {q : Int × Int} : good (c :: r) q.1 q.2 = true ↔ ∃ p, StepL c q p ∧ good r p.1 p.2 = true := by
  rw [good, Bool.or_eq_true, Bool.and_eq_true, Bool.and_eq_true, decide_eq_true_eq, decide_eq_true_eq]
  constructor
  · rintro (⟨h, g⟩ | ⟨h, g⟩)
    · exact ⟨(q.1, c), .inr ⟨h, rfl⟩, g⟩
    · exact ⟨(c, q.2), .inl ⟨h, rfl⟩, g⟩
  · rintro ⟨p, ⟨h, rfl⟩ | ⟨h, rfl⟩, g⟩
    · exact .inr ⟨h, g⟩
    · exact .inl ⟨h, g⟩
end Wv

set_option Elab.async false
set_option linter.all false
set_option maxRecDepth 100000
set_option maxHeartbeats 2000000
namespace Wv
open PySem PySem.Spec PyProof.Rows L2
local macro_rules | `(tactic| walk_at "var") => `(tactic| ((with_reducible refine we_var (r := ?r) ?h ?_); (case h => rfl)))
local macro_rules | `(tactic| walk_at "ev") => `(tactic| (first
  | walk_at "var" | with_reducible refine we_int ?_ | with_reducible refine we_str ?_ | with_reducible refine we_bl ?_ | with_reducible refine we_non ?_ | with_reducible refine wa_cons ?_ | with_reducible refine wa_nil ?_
  | with_reducible refine wr_b0 ?_ | with_reducible refine wr_i0 ?_ | with_reducible refine wr_addI ?_ | with_reducible refine wu_neg ?_
  | with_reducible refine we_op ?_ | with_reducible refine we_un ?_ | with_reducible refine we_cb ?_ | with_reducible refine we_tup ?_ | with_reducible refine we_chain ?_ | with_reducible refine we_chain3 ?_ | with_reducible refine we_andV ?_ | with_reducible refine we_orV ?_ | with_reducible refine we_notV ?_ | with_reducible refine we_if ?_
  | with_reducible refine wt_test ?_ | with_reducible refine wt_B ?_ | with_reducible refine wt_and ?_ | with_reducible refine wt_or ?_ | with_reducible refine wt_not ?_ | with_reducible refine wr_isNN ?_ | with_reducible refine wr_isN ?_ | with_reducible refine wr_isB ?_ | with_reducible refine wr_isNB ?_
  | with_reducible refine wc_max2 ?_ | with_reducible refine wc_min2 ?_ | with_reducible refine wc_isi (isi_int _) ?_ | with_reducible refine wc_isi (isi_bool _) ?_ | with_reducible refine wc_isi (isi_tuple _) ?_ | with_reducible refine wc_isi (isi_list _) ?_ | with_reducible refine wc_isi (isi_str _) ?_
  | with_reducible refine sx_seq ?_ | with_reducible refine sx_next ?_ | with_reducible refine sx_ret ?_ | with_reducible refine sx_drop ?_ | with_reducible refine sx_if ?_ | with_reducible refine sx_par ?_ | with_reducible refine wo_none ?_ | with_reducible refine wo_some ?_
  | with_reducible refine wg_name ?_ | with_reducible refine wgs_nil ?_ | with_reducible refine wgs_cons ?_ | with_reducible refine wg_tup rfl ?_
  | with_reducible refine wgcs_nil ?_ | with_reducible refine wgcs_cons ?_ | with_reducible refine wgc_tup rfl ?_ | with_reducible refine wgc_name (by decide) ?_ | with_reducible refine we_v ?_ | with_reducible refine ⟨_, rfl, ?_⟩))
local macro_rules | `(tactic| walk_at "go") => `(tactic| repeat walk_at "ev")
section
variable {K : PySem.W.Frag} {Pg : Program} {w : World} {rs : List Res} {μ : List MO} {P : PyData → List MO → Prop}
/-! ### is_woven -/
abbrev woven (ns : List Int) : Bool := good ns (-1) 1000000001
def S_is_woven : Spec := fun rs μ P => ∃ b, ∃ ns : List Int, rs = [.d (seqOf b (nums ns))] ∧ ns.length ≤ 60 ∧ μ = [] ∧ P (.bool (woven ns)) []
/- is_woven: slots 0 row -/
def R_is_woven (K : PySem.W.Frag) (Pg : Program) (w : World) : TS :=
    (tRet (tCall (FSp K (S_good_from Pg w)) [] E0 (tCons (tVar 0) (tCons (tC (.int 0)) (tCons (tCall (FSp K S_begun) [] E0 tNil) (tCons (tDNewN Pg w) tNil))))))
theorem sx_is_woven (h : S_is_woven rs μ P) : SX K μ.length (R_is_woven K Pg w) (endsOf μ.length P) (startD 1 rs) μ := by
  obtain ⟨b, ns, rfl, hn, rfl, h⟩ := h
  unfold R_is_woven
  refine sx_ret (we_callD (Pg := Pg) (w := w) (LG ns) (fG ns) ?_)
  refine wad_cons ?_
  walk_at "go"
  refine wad_cons ?_
  walk_at "go"
  refine wad_cons (we_call0 (wa_nil ⟨by simp, rfl, rfl, ?_⟩))
  refine wad_last ⟨by simp [notM], b, ns, 0, -1, 1000000001, [], rfl, hn, Nat.zero_le _, by omega, List.mem_cons_self, List.mem_cons_self, rfl, ret_d h⟩
/-! ### seams -/
def seamsOf (ns : List Int) : List Nat := (List.range ns.length).filter fun k => woven (rot k ns)
abbrev nats (ks : List Nat) : List PyData := ks.map fun k => .int (k : Nat)
def S_seams : SpecN := fun rs μ P => ∃ ns : List Int, rs = [.d (.tuple (nums ns))] ∧ IsRow ns ∧ μ = [] ∧ P (nats (seamsOf ns)) []
/- seams: slots 0 ring, 1 seam -/
def R_seams (K : PySem.W.Frag) (Pg : Program) (w : World) : TS :=
    (tSeq (tDrop (tCall (FSp K S_need_row) [] E0 (tCons (tVar 0) tNil)))
    (tRet (tLc (iRng1 (tCons (tCB (rLenX K) (tCons (tVar 0) tNil)) tNil)) (gName 1) (tB (tCall (FSp K S_is_woven) [] E0 (tCons (tOp (rAddX K) (tSl (rSlX K) (tVar 0) (tPart (tVar 1)) tNoPart) (tSl (rSlX K) (tVar 0) tNoPart (tPart (tVar 1)))) tNil))) (tVar 1) [1])))
def atSeam (ns : List Int) : PyData → Bool
  | .int i => woven (rot i.toNat ns)
  | _ => false
theorem sx_seams {P : List PyData → List MO → Prop} (h : S_seams rs μ P) : SX K μ.length (R_seams K Pg w) (endsN μ.length P) (startD 2 rs) μ := by
  obtain ⟨ns, rfl, hr, rfl, h⟩ := h
  have h40 := hr.le
  unfold R_seams
  walk_at "go"
  refine we_call0 ?_
  walk_at "go"
  refine ⟨by simp [notM], ns, rfl, hr, rfl, ?_⟩
  refine sx_retW (wn_lcF (atSeam ns) id (wi_rng1 ?_))
  walk_at "go"
  refine wc_len (.t _) ?_
  walk_at "go"
  rw [List.length_map]
  refine ⟨by omega, by omega, by rw [rngD_len]; exact size_big (by omega), fun d hd => ?_, ?_⟩
  · obtain ⟨k, hk, rfl⟩ := List.mem_map.mp hd
    have hk' : k < ns.length := by have := List.mem_range.mp hk; omega
    walk_at "go"
    refine we_call0 ?_
    walk_at "go"
    refine we_slT ?_
    walk_at "go"
    refine we_slT ?_
    walk_at "go"
    rw [Int.zero_add, cut_from, cut_to, ← List.map_drop, ← List.map_take]
    refine wr_addT (size_le (by rw [List.length_map, List.length_map, List.length_drop, List.length_take]; omega)) ?_
    walk_at "go"
    refine ⟨by simp [notM], true, rot k ns, by rw [← List.map_append]; rfl, by rw [rot, List.length_append, List.length_drop, List.length_take]; omega, rfl, ?_⟩
    refine ⟨_, rfl, rfl, rfl, fun _ => ?_⟩
    walk_at "go"
    exact ⟨rfl, rfl⟩
  · have e : List.map id (List.filter (atSeam ns) (rngD 0 (ns.length : Int).toNat)) = nats (seamsOf ns) := by
      unfold rngD seamsOf nats
      rw [List.map_id, List.filter_map, Int.toNat_natCast]
      congr 1
      · funext k
        rw [Int.zero_add]
      · refine List.filter_congr fun k _ => ?_
        show woven (rot ((0 : Int) + (k : Nat)).toNat ns) = _
        rw [Int.zero_add, Int.toNat_natCast]
    rw [e]
    exact h
/-! ### the deck -/
structure DeckOk (k : Nat) (y z : Int) : Prop where
  y0 : 0 ≤ y
  y1 : y < 2147483579
  z0 : 0 ≤ z
  z1 : z ≤ k
def MO.deck (k : Nat) : MO := MO.ex fun p : Int × Int × Int => MO.when (DeckOk k p.2.1 p.2.2) (MO.lst [.int p.1, .int p.2.1, .int p.2.2])
theorem deck_of {k : Nat} {x y z : Int} (h : DeckOk k y z) : (MO.lst [.int x, .int y, .int z]).Imp (MO.deck k) := fun K O H a q => ⟨(x, y, z), h, q⟩
theorem deck_more {j k : Nat} (h : j ≤ k) : (MO.deck j).Imp (MO.deck k) := fun K O H a q => by
  obtain ⟨p, c, q⟩ := q
  exact ⟨p, ⟨c.y0, c.y1, c.z0, by have := c.z1; omega⟩, q⟩
def S_law_deck : SpecN := fun rs μ P => ∃ cell turn : Int, rs = [.d (.int cell), .d (.int turn)] ∧ μ = [] ∧ ∀ x y : Int, 0 ≤ y → y < 2147483579 → P [.int x, .int y, .int turn] []
/- _law_deck: slots 0 cell, 1 turn -/
def R_law_deck (K : PySem.W.Frag) (Pg : Program) (w : World) : TS :=
    (tSeq (tIfS (tTest (tOp (rI0 fun i j => .bl (decide (j ≤ i))) (tVar 0) (tOp (rI CPow fun i j => .int (i ^ j.toNat)) (tC (.int 10)) (tC (.int 18))))) (tRet (tLst (tCons (tOp (rI0 fun i j => .int (i - j)) (tVar 0) (tOp (rI CPow fun i j => .int (i ^ j.toNat)) (tC (.int 10)) (tC (.int 18)))) (tCons (tOp (rI (fun _ j => 0 < j) fun i j => .int (i % j)) (tVar 0) (tC (.int 2147483579))) (tCons (tVar 1) tNil))))) tNext)
    (tRet (tLst (tCons (tC (.int 0)) (tCons (tOp (rI (fun _ j => 0 < j) fun i j => .int (i % j)) (tVar 0) (tC (.int 2147483579))) (tCons (tVar 1) tNil))))))
theorem pow1018 : (10 : Int) ^ (18 : Int).toNat = 1000000000000000000 := by decide
theorem cpow {i j : Int} (h1 : 0 ≤ j) (h2 : j ≤ 1000000) (h3 : i.natAbs < 2 ^ 64) : CPow i j := ⟨h1, h2, h3⟩
theorem sx_law_deck {P : List PyData → List MO → Prop} (h : S_law_deck rs μ P) : SX K μ.length (R_law_deck K Pg w) (endsN μ.length P) (startD 2 rs) μ := by
  obtain ⟨cell, turn, rfl, rfl, h⟩ := h
  unfold R_law_deck
  walk_at "go"
  refine wr_i (cpow (by decide) (by decide) (by decide)) ?_
  walk_at "go"
  refine ⟨fun _ => ?_, fun _ => ?_⟩
  · refine sx_retW (wn_lst ?_)
    walk_at "go"
    refine wr_i (cpow (by decide) (by decide) (by decide)) ?_
    walk_at "go"
    refine wr_i (by decide) ?_
    walk_at "go"
    exact ⟨[_, _, _], rfl, size_le (by simp), h _ _ (Int.emod_nonneg _ (by decide)) (Int.emod_lt_of_pos _ (by decide))⟩
  · refine sx_next ?_
    refine sx_retW (wn_lst ?_)
    walk_at "go"
    refine wr_i (by decide) ?_
    walk_at "go"
    exact ⟨[_, _, _], rfl, size_le (by simp), h _ _ (Int.emod_nonneg _ (by decide)) (Int.emod_lt_of_pos _ (by decide))⟩
end
end Wv

set_option Elab.async false
set_option linter.all false
set_option maxRecDepth 100000
set_option maxHeartbeats 2000000
namespace Wv
open PySem PySem.Spec PyProof.Rows L2
/-! ### equal data -/
theorem eqv_ii (i j : Int) : PyData.eqv (.int i) (.int j) = decide (i = j) := by
  rw [PyData.eqv]
  by_cases h : i = j
  · rw [decide_eq_true h, h]; exact beq_self_eq_true j
  · rw [decide_eq_false h]; exact beq_eq_false_iff_ne.mpr h
theorem eqv_ss (x y : Str) : PyData.eqv (.str x) (.str y) = decide (x = y) := by
  rw [PyData.eqv]
  by_cases h : x = y
  · rw [decide_eq_true h, h]; exact beq_self_eq_true y
  · rw [decide_eq_false h]; exact beq_eq_false_iff_ne.mpr h
theorem eqv_l (xs ys : List PyData) : PyData.eqv (.list xs) (.list ys) = PyData.eqvAll xs ys := by rw [PyData.eqv]
theorem eqv_t (xs ys : List PyData) : PyData.eqv (.tuple xs) (.tuple ys) = PyData.eqvAll xs ys := by rw [PyData.eqv]
theorem eqvAll_nil : ∀ xs : List PyData, PyData.eqvAll xs [] = xs.isEmpty
  | [] => by rw [PyData.eqvAll]; rfl
  | _ :: _ => by rw [PyData.eqvAll]; rfl
/-! data without truths -/
mutual
def plainD : PyData → Bool
  | .none | .int _ | .str _ => true
  | .list xs | .tuple xs => plainAll xs
  | _ => false
def plainAll : List PyData → Bool
  | [] => true
  | x :: xs => plainD x && plainAll xs
end
theorem plainAll_iff : ∀ {xs : List PyData}, plainAll xs = true ↔ ∀ x ∈ xs, plainD x = true
  | [] => by simp [plainAll]
  | x :: xs => by
    rw [plainAll, Bool.and_eq_true, plainAll_iff]
    simp
theorem plain_nums (ns : List Int) : plainAll (nums ns) = true := plainAll_iff.mpr fun x hx => by
  obtain ⟨i, _, rfl⟩ := List.mem_map.mp hx
  rfl
mutual
theorem eqv_iff : ∀ {d e : PyData}, plainD d = true → plainD e = true → (PyData.eqv d e = true ↔ d = e)
  | .none, .none, _, _ => by simp [PyData.eqv]
  | .int i, .int j, _, _ => by rw [eqv_ii]; simp
  | .str i, .str j, _, _ => by rw [eqv_ss]; simp
  | .list xs, .list ys, h, k => by rw [eqv_l, eqvAll_iff (by simpa [plainD] using h) (by simpa [plainD] using k)]; simp
  | .tuple xs, .tuple ys, h, k => by rw [eqv_t, eqvAll_iff (by simpa [plainD] using h) (by simpa [plainD] using k)]; simp
  | .none, .int _, _, _ => by simp [PyData.eqv]
  | .none, .str _, _, _ => by simp [PyData.eqv]
  | .none, .list _, _, _ => by simp [PyData.eqv]
  | .none, .tuple _, _, _ => by simp [PyData.eqv]
  | .int _, .none, _, _ => by simp [PyData.eqv]
  | .int _, .str _, _, _ => by simp [PyData.eqv]
  | .int _, .list _, _, _ => by simp [PyData.eqv]
  | .int _, .tuple _, _, _ => by simp [PyData.eqv]
  | .str _, .none, _, _ => by simp [PyData.eqv]
  | .str _, .int _, _, _ => by simp [PyData.eqv]
  | .str _, .list _, _, _ => by simp [PyData.eqv]
  | .str _, .tuple _, _, _ => by simp [PyData.eqv]
  | .list _, .none, _, _ => by simp [PyData.eqv]
  | .list _, .int _, _, _ => by simp [PyData.eqv]
  | .list _, .str _, _, _ => by simp [PyData.eqv]
  | .list _, .tuple _, _, _ => by simp [PyData.eqv]
  | .tuple _, .none, _, _ => by simp [PyData.eqv]
  | .tuple _, .int _, _, _ => by simp [PyData.eqv]
  | .tuple _, .str _, _, _ => by simp [PyData.eqv]
  | .tuple _, .list _, _, _ => by simp [PyData.eqv]
  | .bool _, _, h, _ => by simp [plainD] at h
  | .dict _, _, h, _ => by simp [plainD] at h
  | _, .bool _, _, h => by simp [plainD] at h
  | _, .dict _, _, h => by simp [plainD] at h
theorem eqvAll_iff : ∀ {ds es : List PyData}, plainAll ds = true → plainAll es = true → (PyData.eqvAll ds es = true ↔ ds = es)
  | [], [], _, _ => by simp [PyData.eqvAll]
  | [], _ :: _, _, _ => by simp [PyData.eqvAll]
  | _ :: _, [], _, _ => by simp [PyData.eqvAll]
  | d :: ds, e :: es, h, k => by
    rw [plainAll, Bool.and_eq_true] at h k
    rw [PyData.eqvAll, Bool.and_eq_true, eqv_iff h.1 k.1, eqvAll_iff h.2 k.2]
    simp
end
theorem eqv_dec {d e : PyData} [Decidable (d = e)] (h : plainD d = true) (k : plainD e = true) : PyData.eqv d e = decide (d = e) := by
  by_cases q : d = e
  · rw [decide_eq_true q]; exact (eqv_iff h k).mpr q
  · rw [decide_eq_false q]
    cases z : PyData.eqv d e with
    | false => rfl
    | true => exact absurd ((eqv_iff h k).mp z) q
theorem nums_inj {ms ns : List Int} (h : nums ms = nums ns) : ms = ns := by
  have := congrArg (List.map fun d => match d with | PyData.int i => i | _ => 0) h
  simpa [nums, List.map_map, Function.comp_def] using this
section
variable {K : PySem.W.Frag} {n : Nat} {ds : DSt} {μ : List MO} {D : DEnds} {t u : TS} {te ta tb : TE} {tt : TT} {P : Res → List MO → Prop} {O : Addr → Prop} {A : List Addr} {H : Hp} {a b : Res}
theorem wr_eqI {i j : Int} (p : P (.d (.bool (decide (i = j)))) μ) : WR K (rEqD K) (.d (.int i)) (.d (.int j)) μ P := wr_eqX (.d _) (.d _) (shp_int _).ok (shp_int _).ok (by rw [eqv_ii]; exact p)
theorem wr_neI {i j : Int} (p : P (.d (.bool (!decide (i = j)))) μ) : WR K (rNeD K) (.d (.int i)) (.d (.int j)) μ P := wr_neX (.d _) (.d _) (shp_int _).ok (shp_int _).ok (by rw [eqv_ii]; exact p)
theorem shp_nil {b : Bool} : Shp 1 (seqOf b []) := shp_seq fun _ h => (by cases h)
theorem wr_eqNil {xs : List PyData} (h : RdAs μ a (.list xs)) {k : Nat} (s : ∀ x ∈ xs, Shp k x) (hk : k + 1 ≤ 64) (p : P (.d (.bool xs.isEmpty)) μ) : WR K (rEqD K) a (.d (.list [])) μ P := wr_eqX h (.d _) ((shp_lst s).ok hk) (shp_nil (b := false)).ok (by rw [eqv_l, eqvAll_nil]; exact p)
theorem wr_neNil {xs : List PyData} (h : RdAs μ a (.list xs)) {k : Nat} (s : ∀ x ∈ xs, Shp k x) (hk : k + 1 ≤ 64) (p : P (.d (.bool !xs.isEmpty)) μ) : WR K (rNeD K) a (.d (.list [])) μ P := wr_neX h (.d _) ((shp_lst s).ok hk) (shp_nil (b := false)).ok (by rw [eqv_l, eqvAll_nil]; exact p)
theorem shp_num {ns : List Int} : ∀ x ∈ nums ns, Shp 0 x := fun x hx => by
  obtain ⟨i, _, rfl⟩ := List.mem_map.mp hx
  exact shp_int i
theorem any_int (ns : List Int) (i : Int) : ((nums ns).any fun z => PyData.eqv z (.int i)) = decide (i ∈ ns) := by
  rw [List.any_map, Bool.eq_iff_iff, List.any_eq_true, decide_eq_true_eq]
  constructor
  · rintro ⟨x, hx, h⟩
    have h : PyData.eqv (.int x) (.int i) = true := h
    rw [eqv_ii, decide_eq_true_eq] at h
    exact h ▸ hx
  · exact fun h => ⟨i, h, by show PyData.eqv (.int i) (.int i) = true; rw [eqv_ii]; simp⟩
theorem flat_nums (ns : List Int) : (nums ns).all flatD = true := by
  rw [List.all_map, List.all_eq_true]
  exact fun _ _ => rfl
theorem wr_inI {ns : List Int} {i : Int} (h : RdS μ b (nums ns)) (p : P (.d (.bool (decide (i ∈ ns)))) μ) : WR K (rInX K) (.d (.int i)) b μ P := wr_inT h rfl (flat_nums ns) (by rw [any_int]; exact p)
theorem wr_notInI {ns : List Int} {i : Int} (h : RdS μ b (nums ns)) (p : P (.d (.bool (!decide (i ∈ ns)))) μ) : WR K (rNotInX K) (.d (.int i)) b μ P := wr_notInT h rfl (flat_nums ns) (by rw [any_int]; exact p)
/-- xs[i] = e, all told behind -/
theorem sx_setX (h : WE K te ds μ fun r μ1 => ∃ d, r = .d d ∧ WE K ta ds μ1 fun o μ2 => ∃ j, o = .m j ∧ WE K tb ds μ2 fun k μ3 => ∃ (i : Nat) (xs : List PyData), k = .d (.int i) ∧ i < xs.length ∧ μ3[j]? = some (MO.lst xs) ∧ D.nx ds (μ3.set j (MO.lst (xs.set i d)))) :
    SX K n (tAsg te (gSub ta tb rSetL)) D ds μ := fun σ O A H E e q => by
  refine h σ O A H e _ fun v r μ1 H1 l1 w1 r1 h1 => ?_
  obtain ⟨d, rfl, h1⟩ := h1
  refine h1 σ O A H1 (e.mono l1.keep w1) _ fun o r μ2 H2 l2 w2 r2 h2 => ?_
  obtain ⟨j, rfl, h2⟩ := h2
  refine h2 σ O A H2 ((e.mono l1.keep w1).mono l2.keep w2) _ fun k r μ3 H3 l3 w3 r3 h3 => ?_
  obtain ⟨i, xs, rfl, hi, hj, h3⟩ := h3
  obtain ⟨ad, e0, oa, hz, us, hm, hd⟩ := w3.at hj
  obtain ⟨ad', e', rfl⟩ := r2
  rw [e0] at e'; cases e'
  cases r3
  have hl := dpAll_len hd
  have hv : Dq (hid O H3) v d := dp_mono (l2.keep.trans l3.keep) r1
  obtain ⟨w4, l4⟩ := w3.write (k := j) (mo := MO.lst (xs.set i d)) (o := .lst (us.set i v)) e0 ⟨by rw [List.length_set]; exact hz, _, upd_same, by rw [hid_updIn oa]; exact dpAll_set hv i hd⟩
  have l14 : Le O A H O A (upd H3 ad (.lst (us.set i v))) := .trans e.wok.dom l1 (.trans w1.dom l2 (.trans w2.dom l3 l4))
  refine ⟨ad, us, i, i, rfl, rfl, hm, by unfold ixN; rw [if_pos (by omega), if_pos (by omega), Int.toNat_natCast], ?_⟩
  exact q.nx σ O A _ ds _ (.of l14) (e.mono l14.keep w4) h3
end
end Wv

set_option Elab.async false
set_option linter.all false
set_option maxRecDepth 100000
set_option maxHeartbeats 2000000
namespace Wv
open PySem PySem.Spec PyProof.Rows L2
local macro_rules | `(tactic| walk_at "var") => `(tactic| ((with_reducible refine we_var (r := ?r) ?h ?_); (case h => rfl)))
local macro_rules | `(tactic| walk_at "ev") => `(tactic| (first
  | walk_at "var" | with_reducible refine we_int ?_ | with_reducible refine we_str ?_ | with_reducible refine we_bl ?_ | with_reducible refine we_non ?_ | with_reducible refine wa_cons ?_ | with_reducible refine wa_nil ?_
  | with_reducible refine wr_b0 ?_ | with_reducible refine wr_i0 ?_ | with_reducible refine wr_addI ?_ | with_reducible refine wu_neg ?_
  | with_reducible refine we_op ?_ | with_reducible refine we_un ?_ | with_reducible refine we_cb ?_ | with_reducible refine we_tup ?_ | with_reducible refine we_chain ?_ | with_reducible refine we_chain3 ?_ | with_reducible refine we_andV ?_ | with_reducible refine we_orV ?_ | with_reducible refine we_notV ?_ | with_reducible refine we_if ?_
  | with_reducible refine wt_test ?_ | with_reducible refine wt_B ?_ | with_reducible refine wt_and ?_ | with_reducible refine wt_or ?_ | with_reducible refine wt_not ?_ | with_reducible refine wr_isNN ?_ | with_reducible refine wr_isN ?_ | with_reducible refine wr_isB ?_ | with_reducible refine wr_isNB ?_
  | with_reducible refine wc_max2 ?_ | with_reducible refine wc_min2 ?_ | with_reducible refine wc_isi (isi_int _) ?_ | with_reducible refine wc_isi (isi_bool _) ?_ | with_reducible refine wc_isi (isi_tuple _) ?_ | with_reducible refine wc_isi (isi_list _) ?_ | with_reducible refine wc_isi (isi_str _) ?_
  | with_reducible refine sx_seq ?_ | with_reducible refine sx_next ?_ | with_reducible refine sx_ret ?_ | with_reducible refine sx_drop ?_ | with_reducible refine sx_if ?_ | with_reducible refine sx_par ?_ | with_reducible refine wo_none ?_ | with_reducible refine wo_some ?_
  | with_reducible refine wg_name ?_ | with_reducible refine wgs_nil ?_ | with_reducible refine wgs_cons ?_ | with_reducible refine wg_tup rfl ?_
  | with_reducible refine wr_eqI ?_ | with_reducible refine wr_neI ?_
  | ((with_reducible refine' wc_len ?h ?_); (case h => first | exact .t _ | exact .l (.d _) | exact .of | exact .l (.m rfl)))
  | ((with_reducible refine' wr_ix ?h1 ?h2 ?_); (case h1 => exact .l (.m rfl)); (case h2 => rfl))
  | with_reducible refine wgcs_nil ?_ | with_reducible refine wgcs_cons ?_ | with_reducible refine wgc_tup rfl ?_ | with_reducible refine wgc_name (by decide) ?_ | with_reducible refine we_v ?_ | with_reducible refine ⟨_, rfl, ?_⟩ | with_reducible refine And.intro rfl ?_))
local macro_rules | `(tactic| walk_at "go") => `(tactic| repeat walk_at "ev")
section
variable {K : PySem.W.Frag} {Pg : Program} {w : World} {rs : List Res} {μ : List MO} {P : PyData → List MO → Prop}
/-! ### pick -/
def S_law_pick : Spec := fun rs μ P => ∃ (k : Nat) (size : Int), rs = [.m 0, .d (.int size)] ∧ μ = [MO.deck k] ∧ k ≤ 1000000 ∧ 0 < size ∧ size < 1073741824 ∧ ∀ x : Nat, (x : Int) < size → P (.int (x : Nat)) [MO.deck (k + 1)]
/- _law_pick: slots 0 deck, 1 size, 2 found, 3 number -/
def R_law_pick (K : PySem.W.Frag) (Pg : Program) (w : World) : TS :=
    (tSeq (tIfS (tTest (tOp (rI0 fun i j => .bl (decide (j < i))) (tOp (rIx K) (tVar 0) (tC (.int 0))) (tC (.int 1)))) (tSeq (tAsg (tOp (rI (fun _ j => 0 < j) fun i j => .int (i % j)) (tOp (rIx K) (tVar 0) (tC (.int 0))) (tVar 1)) (gName 2))
    (tSeq (tAsg (tOp (rI CDiv fun i j => .int (i / j)) (tOp (rIx K) (tVar 0) (tC (.int 0))) (tVar 1)) (gSub (tVar 0) (tC (.int 0)) rSetL))
    (tRet (tVar 2)))) tNext)
    (tSeq (tAsg (tOp (rAddX K) (tOp (rIx K) (tVar 0) (tC (.int 2))) (tC (.int 1))) (gSub (tVar 0) (tC (.int 2)) rSetL))
    (tSeq (tAsg (tOp (rI (fun _ j => 0 < j) fun i j => .int (i % j)) (tOp (rI CPow fun i j => .int (i ^ j.toNat)) (tOp (rAddX K) (tOp (rIx K) (tVar 0) (tC (.int 1))) (tOp (rI CMul fun i j => .int (i * j)) (tC (.int 15485867)) (tOp (rIx K) (tVar 0) (tC (.int 2))))) (tC (.int 5))) (tC (.int 2147483647))) (gName 3))
    (tSeq (tAsg (tOp (rI CDiv fun i j => .int (i / j)) (tOp (rI (fun _ j => 0 < j) fun i j => .int (i % j)) (tOp (rI CPow fun i j => .int (i ^ j.toNat)) (tOp (rAddX K) (tVar 3) (tOp (rI CMul fun i j => .int (i * j)) (tC (.int 7919)) (tOp (rIx K) (tVar 0) (tC (.int 2))))) (tC (.int 3))) (tC (.int 2147483629))) (tC (.int 32))) (gName 2))
    (tRet (tOp (rI (fun _ j => 0 < j) fun i j => .int (i % j)) (tVar 2) (tVar 1)))))))
theorem mod_nat {i j : Int} (h : 0 < j) : ∃ x : Nat, i % j = x ∧ (x : Int) < j := ⟨(i % j).toNat, by rw [Int.toNat_of_nonneg (Int.emod_nonneg _ (by omega))], by rw [Int.toNat_of_nonneg (Int.emod_nonneg _ (by omega))]; exact Int.emod_lt_of_pos _ h⟩
theorem sx_law_pick (h : S_law_pick rs μ P) : SX K μ.length (R_law_pick K Pg w) (endsOf μ.length P) (startD 4 rs) μ := by
  obtain ⟨k, size, rfl, rfl, hk, h0, h1, h⟩ := h
  refine sx_open (k := 0) rfl fun p => sx_when (k := 0) rfl fun c => ?_
  obtain ⟨x, y, z⟩ := p
  have c0 := c.y0
  have c1 := c.y1
  have c2 := c.z0
  have c3 := c.z1
  dsimp only at c0 c1 c2 c3
  show SX K 1 _ _ _ [MO.lst [.int x, .int y, .int z]]
  unfold R_law_pick
  walk_at "go"
  refine ⟨fun h2 => ?_, fun h2 => ?_⟩
  · walk_at "go"
    refine sx_asg ?_
    walk_at "go"
    refine wr_i h0 ?_
    walk_at "go"
    refine sx_setX ?_
    walk_at "go"
    refine wr_i ⟨h0, h1⟩ ?_
    walk_at "go"
    refine ⟨0, _, rfl, by simp, rfl, ?_⟩
    refine sx_weak (k := 0) rfl (deck_of (k := k + 1) ⟨c0, c1, c2, by omega⟩) ?_
    walk_at "go"
    refine ret_d ?_
    obtain ⟨r, e, hr⟩ := mod_nat (i := x) h0
    rw [e]
    exact h r hr
  · walk_at "go"
    refine sx_setX ?_
    walk_at "go"
    refine ⟨2, _, rfl, by simp, rfl, ?_⟩
    walk_at "go"
    refine sx_asg ?_
    walk_at "go"
    refine wr_i (.inl (by decide)) ?_
    walk_at "go"
    refine wr_i (cpow (by decide) (by decide) (by omega)) ?_
    walk_at "go"
    refine wr_i (by decide) ?_
    obtain ⟨r, e, hr⟩ := mod_nat (i := (y + 15485867 * (z + 1)) ^ (5 : Int).toNat) (j := 2147483647) (by decide)
    rw [e]
    walk_at "go"
    refine sx_asg ?_
    walk_at "go"
    refine wr_i (.inl (by decide)) ?_
    walk_at "go"
    refine wr_i (cpow (by decide) (by decide) (by omega)) ?_
    walk_at "go"
    refine wr_i (by decide) ?_
    walk_at "go"
    refine wr_i ⟨by decide, by decide⟩ ?_
    refine sx_weak (k := 0) rfl (deck_of (k := k + 1) ⟨c0, c1, by omega, by omega⟩) ?_
    walk_at "go"
    refine wr_i h0 (ret_d ?_)
    obtain ⟨r, e, hr⟩ := mod_nat (i := (((r : Int) + 7919 * (z + 1)) ^ (3 : Int).toNat % 2147483629) / 32) h0
    rw [e]
    exact h r hr
/-! ### whole -/
def wholeB : PyData → Bool
  | .int _ => true
  | _ => false
def S_law_whole : Spec := fun rs μ P => ∃ x, rs = [.d x] ∧ μ = [] ∧ P (.bool (wholeB x)) []
/- _law_whole: slots 0 thing -/
def R_law_whole (K : PySem.W.Frag) (Pg : Program) (w : World) : TS :=
    (tRet (tAndV (tCB (rIsi K) (tCons (tVar 0) (tCons (tC (.ty "int")) tNil))) (tNotV (tCB (rIsi K) (tCons (tVar 0) (tCons (tC (.ty "bool")) tNil))))))
theorem sx_law_whole (h : S_law_whole rs μ P) : SX K μ.length (R_law_whole K Pg w) (endsOf μ.length P) (startD 1 rs) μ := by
  obtain ⟨x, rfl, rfl, h⟩ := h
  unfold R_law_whole
  walk_at "go"
  refine ⟨fun h1 => ?_, fun h1 => ret_d ?_⟩
  · walk_at "go"
    refine ret_d ?_
    cases x <;> first | exact h | (cases h1; done)
  · cases x <;> first | exact h | (cases h1; done)
/-! ### one -/
def S_law_one : Spec := fun rs μ P => ∃ (k : Nat) (b : Bool) (xs : List PyData), rs = [.m 0, .d (seqOf b xs)] ∧ μ = [MO.deck k] ∧ k ≤ 1000000 ∧ 0 < xs.length ∧ xs.length < 1073741824 ∧ ∀ x ∈ xs, P x [MO.deck (k + 1)]
/- _law_one: slots 0 deck, 1 some -/
def R_law_one (K : PySem.W.Frag) (Pg : Program) (w : World) : TS :=
    (tRet (tOp (rIx K) (tVar 1) (tCall (FSp K S_law_pick) [] E0 (tCons (tVar 0) (tCons (tCB (rLenX K) (tCons (tVar 1) tNil)) tNil)))))
theorem sx_law_one (h : S_law_one rs μ P) : SX K μ.length (R_law_one K Pg w) (endsOf μ.length P) (startD 2 rs) μ := by
  obtain ⟨k, b, xs, rfl, rfl, hk, h0, h1, h⟩ := h
  unfold R_law_one
  walk_at "go"
  refine we_call1 ?_
  walk_at "go"
  refine ⟨0, _, rfl, by simp [onlyM], k, _, rfl, rfl, hk, by omega, by omega, fun i hi => ⟨_, rfl, ?_⟩⟩
  have hi' : i < xs.length := by omega
  refine wr_ix .of (atI_of (List.getElem?_eq_getElem hi')) (ret_d ?_)
  exact h _ (List.getElem_mem hi')
/-! ### sort -/
def sortN : PyData → Int
  | .bool _ => 1
  | .int _ => 2
  | .str _ => 3
  | .list _ => 4
  | .tuple _ => 5
  | _ => 6
def S_law_sort : Spec := fun rs μ P => ∃ x, rs = [.d x] ∧ μ = [] ∧ P (.int (sortN x)) []
/- _law_sort: slots 0 thing -/
def R_law_sort (K : PySem.W.Frag) (Pg : Program) (w : World) : TS :=
    (tSeq (tIfS (tB (tCB (rIsi K) (tCons (tVar 0) (tCons (tC (.ty "bool")) tNil)))) (tRet (tC (.int 1))) tNext)
    (tSeq (tIfS (tB (tCB (rIsi K) (tCons (tVar 0) (tCons (tC (.ty "int")) tNil)))) (tRet (tC (.int 2))) tNext)
    (tSeq (tIfS (tB (tCB (rIsi K) (tCons (tVar 0) (tCons (tC (.ty "str")) tNil)))) (tRet (tC (.int 3))) tNext)
    (tSeq (tIfS (tB (tCB (rIsi K) (tCons (tVar 0) (tCons (tC (.ty "list")) tNil)))) (tRet (tC (.int 4))) tNext)
    (tRet (tIf (tB (tCB (rIsi K) (tCons (tVar 0) (tCons (tC (.ty "tuple")) tNil)))) (tC (.int 5)) (tC (.int 6))))))))
theorem sx_law_sort (h : S_law_sort rs μ P) : SX K μ.length (R_law_sort K Pg w) (endsOf μ.length P) (startD 1 rs) μ := by
  obtain ⟨x, rfl, rfl, h⟩ := h
  unfold R_law_sort
  walk_at "go"
  refine ⟨fun h1 => ?_, fun h1 => ?_⟩
  · walk_at "go"
    refine ret_d ?_
    cases x <;> first | exact h | (cases h1; done)
  walk_at "go"
  refine ⟨fun h2 => ?_, fun h2 => ?_⟩
  · walk_at "go"
    refine ret_d ?_
    cases x <;> first | exact h | (cases h1; done) | (cases h2; done)
  walk_at "go"
  refine ⟨fun h3 => ?_, fun h3 => ?_⟩
  · walk_at "go"
    refine ret_d ?_
    cases x <;> first | exact h | (cases h1; done) | (cases h2; done) | (cases h3; done)
  walk_at "go"
  refine ⟨fun h4 => ?_, fun h4 => ?_⟩
  · walk_at "go"
    refine ret_d ?_
    cases x <;> first | exact h | (cases h1; done) | (cases h2; done) | (cases h3; done) | (cases h4; done)
  walk_at "go"
  refine ⟨fun h5 => ?_, fun h5 => ?_⟩
  · walk_at "go"
    refine ret_d ?_
    cases x <;> first | exact h | (cases h1; done) | (cases h2; done) | (cases h3; done) | (cases h4; done) | (cases h5; done)
  · walk_at "go"
    refine ret_d ?_
    cases x <;> first | exact h | (cases h1; done) | (cases h2; done) | (cases h3; done) | (cases h4; done) | (cases h5; done)
end
end Wv

set_option Elab.async false
set_option linter.all false
set_option maxRecDepth 100000
set_option maxHeartbeats 2000000
namespace Wv
open PySem PySem.Spec PyProof.Rows L2
section
variable {K : PySem.W.Frag} {n : Nat} {ds : DSt} {μ : List MO} {te ta tb : TE} {O : Addr → Prop} {A : List Addr} {H : Hp} {P : Res → List MO → Prop} {tr : TA}
theorem RepAll.vs : ∀ {vs us : List V}, RepAll K O A H vs (us.map .v) → vs = us
  | _, [], h => by cases h; rfl
  | _, u :: us, h => by
    cases h with
    | cons h t =>
      cases (show _ = u from h)
      rw [t.vs]
def tTupV (t : TA) : TE := tTup t
/-- a tuple of types -/
theorem we_tupV (h : WA K tr ds μ fun as μ1 => ∃ us : List V, as = us.map .v ∧ us.length ≤ sizeLine ∧ P (.o (.tup us)) μ1) : WE K (tTupV tr) ds μ P := fun σ O A H e Q q =>
  h σ O A H e _ fun vs as μ1 H1 l1 w1 r1 h1 => by
    obtain ⟨us, rfl, hl, p⟩ := h1
    cases r1.vs
    refine ⟨hl, fun p' hp => ?_⟩
    have n := fresh_out w1 hp
    have l2 : Le O A H1 O A (upd H1 p' (.tup vs)) := Le.laid w1 hp
    exact q _ (.o (.tup vs)) μ1 _ (.trans e.wok.dom l1 l2) (w1.laid hp) ⟨p', rfl, hid_new n⟩ p
theorem wc_isiTL {d : PyData} {i j : Bool} (h1 : kitB (tyD d) "tuple" = some i) (h2 : kitB (tyD d) "list" = some j) (p : P (.d (.bool (i || j))) μ) : WC K (rIsiT K) [.d d, .o (.tup [.ty "tuple", .ty "list"])] μ P := fun O A H vs w hr Q q => by
  cases hr with
  | cons r1 rr =>
    cases rr with
    | cons r2 rr =>
      cases rr
      obtain ⟨tp, rfl, ht⟩ := r2
      refine ⟨_, tp, _, _, _, i || j, rfl, (of_hid ht).2, .cons (.ty _) (.cons (.ty _) .nil), .base (ty_of (dp_mono (hid_le O H) r1)), ?_, q _ _ μ H (.refl O A H) w (rp_d (Dq.bl _)) p⟩
      unfold PySem.W.kitAny
      rw [kit_ty h1]
      cases i with
      | true => rfl
      | false =>
        show PySem.W.kitAny K _ _ = _
        unfold PySem.W.kitAny
        rw [kit_ty h2]
        cases j <;> rfl
end
/-! ### truths as numbers -/
def bi (a : Bool) : Int := if a = true then 1 else 0
def rBI (g : Int → Int → Int) : R2 := fun x y H Q => ∃ a j, x = .bl a ∧ y = .int j ∧ Q (.int (g (bi a) j)) H
theorem op_addB {X : Cx} : OpR X (binaryOp .Add) (rBI (· + ·)) := by
  intro pins s σ H x y v u Q I rx ry h
  obtain ⟨i, j, rfl, rfl, q⟩ := h
  cases (show v = .bool i from rx)
  obtain ⟨t', rfl⟩ := ry
  exact PySem.IntBool.add_bool_int ⟨.int (bi i + j), H, I.tok _, ⟨_, rfl⟩, q⟩
theorem op_subB {X : Cx} : OpR X (binaryOp .Sub) (rBI (· - ·)) := by
  intro pins s σ H x y v u Q I rx ry h
  obtain ⟨i, j, rfl, rfl, q⟩ := h
  cases (show v = .bool i from rx)
  obtain ⟨t', rfl⟩ := ry
  exact PySem.IntBool.sub_bool_int ⟨.int (bi i - j), H, I.tok _, ⟨_, rfl⟩, q⟩
def rAddY (K : PySem.W.Frag) : R2 := fun x y H Q => rAddX K x y H Q ∨ rBI (· + ·) x y H Q
theorem op_addY {X : Cx} : OpR X (binaryOp .Add) (rAddY X.K) := op_addX.or op_addB
def rSubY : R2 := fun x y H Q => rI0 (fun i j => .int (i - j)) x y H Q ∨ rBI (· - ·) x y H Q
theorem op_subY {X : Cx} : OpR X (binaryOp .Sub) rSubY := op_sub.or op_subB
def rStrB : List V → Hp → VK → Prop := fun xs H Q => ∃ b : Bool, xs = [.bl b] ∧ Q (.str (if b then "True" else "False")) H
theorem call_strB {X : Cx} : CallR X (.type "str") rStrB := by
  intro pins s σ H xs us Q I r h
  obtain ⟨b, rfl, q⟩ := h
  obtain ⟨u, rfl, r1⟩ := vals1 r
  cases (show u = .bool b from r1)
  exact PySem.P.str_of_bool ⟨.str _, H, I.tok _, ⟨_, rfl⟩, q⟩
def rStrY : List V → Hp → VK → Prop := fun xs H Q => rStr1 xs H Q ∨ rStrB xs H Q
theorem call_strY {X : Cx} : CallR X (.type "str") rStrY := call_str1X.or call_strB
section
variable {K : PySem.W.Frag} {n : Nat} {ds : DSt} {μ : List MO} {te ta tb : TE} {O : Addr → Prop} {A : List Addr} {H : Hp} {P : Res → List MO → Prop} {tr : TA} {a b : Res}
theorem wr_addY {f : PyData} (h : WR K (rAddX K) a b μ P) : WR K (rAddY K) a b μ P := fun O A H x y w hx hy Q q => .inl (h O A H x y w hx hy Q q)
theorem wr_addYX (h : WR K (rAddX K) a b μ P) : WR K (rAddY K) a b μ P := fun O A H x y w hx hy Q q => .inl (h O A H x y w hx hy Q q)
theorem wr_addYB {i : Bool} {j : Int} (p : P (.d (.int (bi i + j))) μ) : WR K (rAddY K) (.d (.bool i)) (.d (.int j)) μ P := fun O A H x y w hx hy Q q => by
  cases hx; cases hy
  exact .inr ⟨i, j, rfl, rfl, q _ _ μ H (.refl O A H) w (rp_d (Dq.int _)) p⟩
theorem wr_subYI {i j : Int} (p : P (.d (.int (i - j))) μ) : WR K rSubY (.d (.int i)) (.d (.int j)) μ P := fun O A H x y w hx hy Q q => by
  cases hx; cases hy
  exact .inl ⟨i, j, rfl, rfl, q _ _ μ H (.refl O A H) w (rp_d (Dq.int _)) p⟩
theorem wr_subYB {i : Bool} {j : Int} (p : P (.d (.int (bi i - j))) μ) : WR K rSubY (.d (.bool i)) (.d (.int j)) μ P := fun O A H x y w hx hy Q q => by
  cases hx; cases hy
  exact .inr ⟨i, j, rfl, rfl, q _ _ μ H (.refl O A H) w (rp_d (Dq.int _)) p⟩
theorem wc_strYI {i : Int} (hl : i.natAbs.log2 < 1920) (p : P (.d (.str (toString i))) μ) : WC K rStrY [.d (.int i)] μ P := fun O A H xs w hr Q q => .inl (wc_strI (K := K) hl p O A H xs w hr Q q)
theorem wc_strYB {i : Bool} (p : P (.d (.str (if i then "True" else "False"))) μ) : WC K rStrY [.d (.bool i)] μ P := fun O A H xs w hr Q q => by
  cases hr with
  | cons r1 rr =>
    cases rr
    cases r1
    exact .inr ⟨i, rfl, q _ _ μ H (.refl O A H) w (rp_d (Dq.str _)) p⟩
/-- x + y of two lists, or of two tuples -/
theorem we_addYS (h : WE K ta ds μ fun a μ1 => WE K tb ds μ1 fun b μ2 => ∃ c xs ys, a = .d (seqOf c xs) ∧ b = .d (seqOf c ys) ∧ xs.length + ys.length ≤ sizeLine ∧ P (.d (seqOf c (xs ++ ys))) μ2) : WE K (tOp (rAddY K) ta tb) ds μ P := by
  refine we_op (we_imp h fun a μ1 h1 => we_imp h1 fun b μ2 h2 => ?_)
  obtain ⟨c, xs, ys, rfl, rfl, hz, p⟩ := h2
  cases c with
  | true => exact wr_addYX (wr_addT hz p)
  | false =>
    refine wr_addYX fun O A H x y w hx hy Q q => ?_
    obtain ⟨a1, v1, rfl, s1, d1⟩ := (RdL.d xs (μ := μ2)).get w hx
    obtain ⟨a2, v2, rfl, s2, d2⟩ := (RdL.d ys (μ := μ2)).get w hy
    refine .inr (.inr ⟨a1, a2, v1, v2, rfl, rfl, s1, s2, by rw [dpAll_len d1, dpAll_len d2]; exact hz, fun p' hp => ?_⟩)
    have n := fresh_out w hp
    have l2 : Le O A H O A (upd H p' (.lst (v1 ++ v2))) := Le.laid w hp
    exact q _ _ μ2 _ l2 (w.laid hp) (rp_d (Dq.lst (hid_new n) (dpAll_mono l2.keep (dpAll_append d1 d2)))) p
end
theorem dec_t {X Y : Prop} (h : X) : (true = true → X) ∧ (true = false → Y) := ⟨fun _ => h, fun z => nomatch z⟩
theorem dec_f {X Y : Prop} (h : Y) : (false = true → X) ∧ (false = false → Y) := ⟨fun z => (nomatch z), fun _ => h⟩
theorem dec_nt {X Y : Prop} (h : X) : ((!false) = true → X) ∧ ((!false) = false → Y) := ⟨fun _ => h, fun z => nomatch z⟩
theorem dec_nf {X Y : Prop} (h : Y) : ((!true) = true → X) ∧ ((!true) = false → Y) := ⟨fun z => (nomatch z), fun _ => h⟩
/-! ### things of all kinds, of bounded depth and length -/
def OkD : Nat → PyData → Prop
  | _, .none => True
  | _, .bool _ => True
  | _, .int _ => True
  | _, .str x => (PyData.str x).canLay0 = true
  | m + 1, .list xs => xs.length ≤ 1000000 ∧ ∀ x ∈ xs, OkD m x
  | m + 1, .tuple xs => xs.length ≤ 1000000 ∧ ∀ x ∈ xs, OkD m x
  | _, _ => False
theorem OkD.shp : ∀ {m : Nat} {d : PyData}, OkD m d → Shp m d
  | m, .none, _ => shp_none.mono (Nat.zero_le _)
  | m, .bool _, _ => (shp_bool _).mono (Nat.zero_le _)
  | m, .int _, _ => (shp_int _).mono (Nat.zero_le _)
  | m, .str x, h => (shp_str (by cases m <;> exact h)).mono (Nat.zero_le _)
  | 0, .list _, h => by exact h.elim
  | 0, .tuple _, h => by exact h.elim
  | m + 1, .list xs, h => shp_lst fun x hx => (h.2 x hx).shp
  | m + 1, .tuple xs, h => shp_tup fun x hx => (h.2 x hx).shp
  | 0, .dict _, h => by exact h.elim
  | m + 1, .dict _, h => by exact h.elim
theorem okD_up : ∀ {m : Nat} {d : PyData}, OkD m d → OkD (m + 1) d
  | m, .none, _ => trivial
  | m, .bool _, _ => trivial
  | m, .int _, _ => trivial
  | m, .str x, h => by cases m <;> exact h
  | 0, .list _, h => by exact h.elim
  | 0, .tuple _, h => by exact h.elim
  | m + 1, .list xs, h => ⟨h.1, fun x hx => okD_up (h.2 x hx)⟩
  | m + 1, .tuple xs, h => ⟨h.1, fun x hx => okD_up (h.2 x hx)⟩
  | 0, .dict _, h => by exact h.elim
  | m + 1, .dict _, h => by exact h.elim
theorem OkD.mono {j k : Nat} {d : PyData} (h : OkD j d) (hk : j ≤ k) : OkD k d := by
  induction hk with
  | refl => exact h
  | step _ ih => exact okD_up ih
theorem okD_int {m : Nat} (i : Int) : OkD m (.int i) := by cases m <;> trivial
theorem okD_bool {m : Nat} (i : Bool) : OkD m (.bool i) := by cases m <;> trivial
theorem okD_none {m : Nat} : OkD m .none := by cases m <;> trivial
theorem okD_str {m : Nat} {x : Str} (h : (PyData.str x).canLay0 = true) : OkD m (.str x) := by cases m <;> exact h
theorem okD_seq {m : Nat} {b : Bool} {xs : List PyData} (h : xs.length ≤ 1000000) (k : ∀ x ∈ xs, OkD m x) : OkD (m + 1) (seqOf b xs) := by cases b <;> exact ⟨h, k⟩
theorem okD_nums {b : Bool} {ns : List Int} (h : ns.length ≤ 1000000) : OkD 1 (seqOf b (nums ns)) := okD_seq (by rw [List.length_map]; exact h) fun x hx => by
  obtain ⟨i, _, rfl⟩ := List.mem_map.mp hx
  trivial
end Wv

set_option Elab.async false
set_option linter.all false
set_option maxRecDepth 100000
set_option maxHeartbeats 2000000
namespace Wv
open PySem PySem.Spec PyProof.Rows L2
local macro_rules | `(tactic| walk_at "var") => `(tactic| ((with_reducible refine we_var (r := ?r) ?h ?_); (case h => rfl)))
local macro_rules | `(tactic| walk_at "ev") => `(tactic| (first
  | walk_at "var" | with_reducible refine we_int ?_ | with_reducible refine we_str ?_ | with_reducible refine we_bl ?_ | with_reducible refine we_non ?_ | with_reducible refine wa_cons ?_ | with_reducible refine wa_nil ?_
  | with_reducible refine wr_b0 ?_ | with_reducible refine wr_i0 ?_ | with_reducible refine wr_addI ?_ | with_reducible refine wu_neg ?_
  | with_reducible refine we_op ?_ | with_reducible refine we_un ?_ | with_reducible refine we_cb ?_ | with_reducible refine we_tup ?_ | with_reducible refine we_tupV ?_ | with_reducible refine we_chain ?_ | with_reducible refine we_chain3 ?_ | with_reducible refine we_andV ?_ | with_reducible refine we_orV ?_ | with_reducible refine we_notV ?_ | with_reducible refine we_if ?_
  | with_reducible refine wt_test ?_ | with_reducible refine wt_B ?_ | with_reducible refine wt_and ?_ | with_reducible refine wt_or ?_ | with_reducible refine wt_not ?_ | with_reducible refine wr_isNN ?_ | with_reducible refine wr_isN ?_ | with_reducible refine wr_isB ?_ | with_reducible refine wr_isNB ?_
  | with_reducible refine wc_max2 ?_ | with_reducible refine wc_min2 ?_ | with_reducible refine wc_isi (isi_int _) ?_ | with_reducible refine wc_isi (isi_bool _) ?_ | with_reducible refine wc_isi (isi_tuple _) ?_ | with_reducible refine wc_isi (isi_list _) ?_ | with_reducible refine wc_isi (isi_str _) ?_
  | with_reducible refine sx_seq ?_ | with_reducible refine sx_next ?_ | with_reducible refine sx_ret ?_ | with_reducible refine sx_drop ?_ | with_reducible refine sx_if ?_ | with_reducible refine sx_par ?_ | with_reducible refine wo_none ?_ | with_reducible refine wo_some ?_
  | with_reducible refine wg_name ?_ | with_reducible refine wgs_nil ?_ | with_reducible refine wgs_cons ?_ | with_reducible refine wg_tup rfl ?_
  | with_reducible refine wr_eqI ?_ | with_reducible refine wr_neI ?_
  | ((with_reducible refine' wc_len ?h ?_); (case h => first | exact .t _ | exact .l (.d _) | exact .of | exact .l (.m rfl)))
  | ((with_reducible refine' wr_ix ?h1 ?h2 ?_); (case h1 => exact .l (.m rfl)); (case h2 => rfl))
  | with_reducible refine wgcs_nil ?_ | with_reducible refine wgcs_cons ?_ | with_reducible refine wgc_tup rfl ?_ | with_reducible refine wgc_name (by decide) ?_ | with_reducible refine we_v ?_ | with_reducible refine ⟨_, rfl, ?_⟩ | with_reducible refine dec_t ?_ | with_reducible refine dec_f ?_ | with_reducible refine dec_nt ?_ | with_reducible refine dec_nf ?_ | with_reducible refine And.intro rfl ?_))
local macro_rules | `(tactic| walk_at "go") => `(tactic| repeat walk_at "ev")
section
variable {K : PySem.W.Frag} {Pg : Program} {w : World} {rs : List Res} {μ : List MO} {P : PyData → List MO → Prop}
theorem no_good_from (h : S_good_from' Pg w 0 rs μ P) : False := by
  obtain ⟨b, ns, a, u, d, ks, rfl, hn, ha, hm, _⟩ := h
  omega
/-! ### same, of two that are -/
def S_law_same' (m : Nat) : Spec := fun rs μ P => ∃ x j, rs = [.d x, .d x] ∧ μ = [] ∧ m = j + 1 ∧ j ≤ 10 ∧ OkD j x ∧ P (.bool true) []
def S_law_same : Spec := S_law_same' 4
theorem no_law_same (h : S_law_same' 0 rs μ P) : False := by
  obtain ⟨x, j, rfl, rfl, e, _⟩ := h
  cases e
/- _law_same: slots 0 told, 1 due, 2 k, 3 part -/
def R_law_same (K : PySem.W.Frag) (Pg : Program) (w : World) (Sr : Spec) : TS :=
    (tSeq (tIfS (tTest (tOp (rNeD K) (tCall (FSp K S_law_sort) [] E0 (tCons (tVar 0) tNil)) (tCall (FSp K S_law_sort) [] E0 (tCons (tVar 1) tNil)))) (tRet (tC (.bl false))) tNext)
    (tSeq (tIfS (tAnd (tTest (tOp (rI0 fun i j => .bl (decide (j < i))) (tCall (FSp K S_law_sort) [] E0 (tCons (tVar 0) tNil)) (tC (.int 3)))) (tTest (tOp (rI0 fun i j => .bl (decide (i < j))) (tCall (FSp K S_law_sort) [] E0 (tCons (tVar 0) tNil)) (tC (.int 6))))) (tSeq (tIfS (tTest (tOp (rNeD K) (tCB (rLenX K) (tCons (tVar 0) tNil)) (tCB (rLenX K) (tCons (tVar 1) tNil)))) (tRet (tC (.bl false))) tNext)
    (tRet (tOp (rEqD K) (tLc (iEnumG K (tCons (tVar 0) tNil)) (gTup K 2 (gCons (gName 2) (gCons (gName 3) gNil))) (tNot (tB (tCall (FSp K Sr) [] E0 (tCons (tVar 3) (tCons (tOp (rIx K) (tVar 1) (tVar 2)) tNil))))) (tVar 2) [2, 3]) (tLst tNil)))) tNext)
    (tRet (tOp (rEqD K) (tVar 0) (tVar 1)))))
theorem enum_mem {xs : List PyData} {d : PyData} (h : d ∈ enumD xs) : ∃ (k : Nat) (x : PyData), d = .tuple [.int k, x] ∧ xs[k]? = some x := by
  obtain ⟨p, hp, rfl⟩ := List.mem_map.mp h
  exact ⟨p.2, p.1, rfl, List.mem_zipIdx_iff_getElem?.mp hp⟩
theorem sx_law_same {m : Nat} (h : S_law_same' (m + 1) rs μ P) : SX K μ.length (R_law_same K Pg w (S_law_same' m)) (endsOf μ.length P) (startD 4 rs) μ := by
  obtain ⟨x, j, rfl, rfl, hm, hj, hx, h⟩ := h
  cases hm
  have eqs : ∀ y : PyData, OkD m y → PyData.eqv y y = true → WR K (rEqD K) (.d y) (.d y) [] (endsOf 0 P).rt := fun y hy e => wr_eqX (.d _) (.d _) (hy.shp.ok (by omega)) (hy.shp.ok (by omega)) (ret_d (by rw [e]; exact h))
  unfold R_law_same
  walk_at "go"
  refine we_call0 ?_
  walk_at "go"
  refine ⟨by simp [notM], x, rfl, rfl, ?_⟩
  refine we_call0 ?_
  walk_at "go"
  refine ⟨by simp [notM], x, rfl, rfl, ?_⟩
  walk_at "go"
  refine ⟨fun z => (by simp at z), fun _ => ?_⟩
  walk_at "go"
  refine we_call0 ?_
  walk_at "go"
  refine ⟨by simp [notM], x, rfl, rfl, ?_⟩
  walk_at "go"
  have scal : sortN x = 1 ∨ sortN x = 2 ∨ sortN x = 3 ∨ sortN x = 6 → PyData.eqv x x = true := fun hs => by
    cases x with
    | none => simp [PyData.eqv]
    | bool b => simp [PyData.eqv]
    | int b => simp [PyData.eqv]
    | str b => simp [PyData.eqv]
    | list b => simp [sortN] at hs
    | tuple b => simp [sortN] at hs
    | dict b => cases m <;> exact hx.elim
  have seqs : sortN x = 4 ∨ sortN x = 5 → ∃ b xs, x = seqOf b xs := fun hs => by
    cases x with
    | list xs => exact ⟨false, xs, rfl⟩
    | tuple xs => exact ⟨true, xs, rfl⟩
    | _ => simp [sortN] at hs
  have all6 : 1 ≤ sortN x ∧ sortN x ≤ 6 := by cases x <;> simp [sortN]
  refine ⟨fun h1 => ?_, fun h1 => ?_⟩
  · rw [decide_eq_true_eq] at h1
    refine wt_test ?_
    walk_at "go"
    refine we_call0 ?_
    walk_at "go"
    refine ⟨by simp [notM], x, rfl, rfl, ?_⟩
    walk_at "go"
    refine ⟨fun h2 => ?_, fun h2 => ?_⟩
    · rw [decide_eq_true_eq] at h2
      obtain ⟨b, xs, rfl⟩ := seqs (by omega)
      have hxs : ∃ i, m = i + 1 ∧ xs.length ≤ 1000000 ∧ ∀ y ∈ xs, OkD i y := by
        cases m with
        | zero => cases b <;> exact hx.elim
        | succ i => cases b <;> exact ⟨i, rfl, hx⟩
      obtain ⟨i, rfl, hl, hall⟩ := hxs
      walk_at "go"
      refine ⟨fun z => (by simp at z), fun _ => ?_⟩
      walk_at "go"
      refine we_new (wn_lcF (fun _ => false) id (wi_enumG ?_))
      walk_at "go"
      refine ⟨_, _, _, rfl, .of _ _, by rw [enumD_len]; exact size_big (by omega), fun d hd => ?_, ?_⟩
      · obtain ⟨k, y, rfl, hk⟩ := enum_mem hd
        walk_at "go"
        refine we_call0 ?_
        walk_at "go"
        refine wr_ix .of (atI_of hk) ?_
        walk_at "go"
        refine ⟨by simp [notM], y, i, rfl, rfl, rfl, by omega, hall y (List.mem_of_getElem? hk), ?_⟩
        refine ⟨_, rfl, rfl, rfl, fun z => by cases z⟩
      · rw [List.filter_eq_nil_iff.mpr (by simp)]
        refine we_new (wn_lst ?_)
        walk_at "go"
        refine ⟨[], rfl, size_le (by simp), ?_⟩
        exact wr_eqNil (.d _) (k := 0) (by simp) (by decide) (ret_d h)
    · rw [decide_eq_false_iff_not] at h2
      walk_at "go"
      exact eqs x hx (scal (by omega))
  · rw [decide_eq_false_iff_not] at h1
    walk_at "go"
    exact eqs x hx (scal (by omega))
end
end Wv

set_option Elab.async false
set_option linter.all false
set_option maxRecDepth 100000
set_option maxHeartbeats 2000000
namespace Wv
open PySem PySem.Spec PyProof.Rows L2
local macro_rules | `(tactic| walk_at "var") => `(tactic| ((with_reducible refine we_var (r := ?r) ?h ?_); (case h => rfl)))
local macro_rules | `(tactic| walk_at "ev") => `(tactic| (first
  | walk_at "var" | with_reducible refine we_int ?_ | with_reducible refine we_str ?_ | with_reducible refine we_bl ?_ | with_reducible refine we_non ?_ | with_reducible refine wa_cons ?_ | with_reducible refine wa_nil ?_
  | with_reducible refine wr_b0 ?_ | with_reducible refine wr_i0 ?_ | with_reducible refine wr_addI ?_ | with_reducible refine wu_neg ?_
  | with_reducible refine we_op ?_ | with_reducible refine we_un ?_ | with_reducible refine we_cb ?_ | with_reducible refine we_tup ?_ | with_reducible refine we_tupV ?_ | with_reducible refine we_chain ?_ | with_reducible refine we_chain3 ?_ | with_reducible refine we_andV ?_ | with_reducible refine we_orV ?_ | with_reducible refine we_notV ?_ | with_reducible refine we_if ?_
  | with_reducible refine wt_test ?_ | with_reducible refine wt_B ?_ | with_reducible refine wt_and ?_ | with_reducible refine wt_or ?_ | with_reducible refine wt_not ?_ | with_reducible refine wr_isNN ?_ | with_reducible refine wr_isN ?_ | with_reducible refine wr_isB ?_ | with_reducible refine wr_isNB ?_
  | with_reducible refine wc_max2 ?_ | with_reducible refine wc_min2 ?_ | with_reducible refine wc_isi (isi_int _) ?_ | with_reducible refine wc_isi (isi_bool _) ?_ | with_reducible refine wc_isi (isi_tuple _) ?_ | with_reducible refine wc_isi (isi_list _) ?_ | with_reducible refine wc_isi (isi_str _) ?_
  | with_reducible refine sx_seq ?_ | with_reducible refine sx_next ?_ | with_reducible refine sx_ret ?_ | with_reducible refine sx_drop ?_ | with_reducible refine sx_if ?_ | with_reducible refine sx_par ?_ | with_reducible refine wo_none ?_ | with_reducible refine wo_some ?_
  | with_reducible refine wg_name ?_ | with_reducible refine wgs_nil ?_ | with_reducible refine wgs_cons ?_ | with_reducible refine wg_tup rfl ?_
  | with_reducible refine wr_eqI ?_ | with_reducible refine wr_neI ?_
  | ((with_reducible refine' wc_len ?h ?_); (case h => first | exact .t _ | exact .l (.d _) | exact .of | exact .l (.m rfl)))
  | ((with_reducible refine' wr_ix ?h1 ?h2 ?_); (case h1 => exact .l (.m rfl)); (case h2 => rfl))
  | with_reducible refine wgcs_nil ?_ | with_reducible refine wgcs_cons ?_ | with_reducible refine wgc_tup rfl ?_ | with_reducible refine wgc_name (by decide) ?_ | with_reducible refine we_v ?_ | with_reducible refine ⟨_, rfl, ?_⟩ | with_reducible refine dec_t ?_ | with_reducible refine dec_f ?_ | with_reducible refine dec_nt ?_ | with_reducible refine dec_nf ?_ | with_reducible refine And.intro rfl ?_))
local macro_rules | `(tactic| walk_at "go") => `(tactic| repeat walk_at "ev")
section
variable {K : PySem.W.Frag} {Pg : Program} {w : World} {rs : List Res} {μ : List MO} {P : PyData → List MO → Prop}
theorem we_pick {ds : DSt} {tr : TA} {Pr : Res → List MO → Prop} (h : WA K tr ds μ fun as μ1 => ∃ (j k : Nat) (size : Int), as = [.m j, .d (.int size)] ∧ μ1[j]? = some (MO.deck k) ∧ k ≤ 1000000 ∧ 0 < size ∧ size < 1073741824 ∧ ∀ x : Nat, (x : Int) < size → Pr (.d (.int (x : Nat))) (μ1.set j (MO.deck (k + 1)))) : WE K (tCall (FSp K S_law_pick) [] E0 tr) ds μ Pr := by
  refine we_call1 fun σ O A H e Q q => h σ O A H e Q fun vs as μ1 H1 l1 w1 r1 p => ?_
  obtain ⟨j, k, size, rfl, hj, h1, h2, h3, h4⟩ := p
  exact q vs _ μ1 H1 l1 w1 r1 ⟨j, _, hj, by simp [onlyM], k, size, rfl, rfl, h1, h2, h3, fun x hx => ⟨_, rfl, h4 x hx⟩⟩
theorem we_one {ds : DSt} {tr : TA} {Pr : Res → List MO → Prop} (h : WA K tr ds μ fun as μ1 => ∃ (j k : Nat) (b : Bool) (xs : List PyData), as = [.m j, .d (seqOf b xs)] ∧ μ1[j]? = some (MO.deck k) ∧ k ≤ 1000000 ∧ 0 < xs.length ∧ xs.length < 1073741824 ∧ ∀ x ∈ xs, Pr (.d x) (μ1.set j (MO.deck (k + 1)))) : WE K (tCall (FSp K S_law_one) [] E0 tr) ds μ Pr := by
  refine we_call1 fun σ O A H e Q q => h σ O A H e Q fun vs as μ1 H1 l1 w1 r1 p => ?_
  obtain ⟨j, k, b, xs, rfl, hj, h1, h2, h3, h4⟩ := p
  exact q vs _ μ1 H1 l1 w1 r1 ⟨j, _, hj, by simp [onlyM], k, b, xs, rfl, rfl, h1, h2, h3, fun x hx => ⟨_, rfl, h4 x hx⟩⟩
/-! ### things of all kinds -/
def thB : Nat → Nat → PyData → Bool
  | _, _, .none => true
  | _, _, .bool _ => true
  | _, L, .int i => decide (i.natAbs ≤ 10 ^ 31 + L)
  | _, _, .str x => PyData.strOk x
  | m + 1, L, .list xs => decide (xs.length ≤ 50 + L) && xs.all (thB m L)
  | m + 1, L, .tuple xs => decide (xs.length ≤ 50 + L) && xs.all (thB m L)
  | _, _, _ => false
theorem th_str {m L : Nat} {x : Str} : thB m L (.str x) = PyData.strOk x := by cases m <;> rfl
theorem th_int {m L : Nat} {i : Int} : thB m L (.int i) = decide (i.natAbs ≤ 10 ^ 31 + L) := by cases m <;> rfl
theorem th_bool {m L : Nat} {i : Bool} : thB m L (.bool i) = true := by cases m <;> rfl
theorem th_none {m L : Nat} : thB m L .none = true := by cases m <;> rfl
theorem th_seq {m L : Nat} {b : Bool} {xs : List PyData} : thB (m + 1) L (seqOf b xs) = true ↔ xs.length ≤ 50 + L ∧ ∀ x ∈ xs, thB m L x = true := by
  cases b <;> (show (decide (xs.length ≤ 50 + L) && xs.all (thB m L)) = true ↔ _) <;> rw [Bool.and_eq_true, decide_eq_true_eq, List.all_eq_true]
theorem th_up : ∀ {m L : Nat} {x : PyData}, thB m L x = true → thB m (L + 1) x = true
  | m, L, .none, _ => th_none
  | m, L, .bool _, _ => th_bool
  | m, L, .int i, h => by rw [th_int, decide_eq_true_eq] at *; omega
  | m, L, .str x, h => by rw [th_str] at *; exact h
  | m + 1, L, .list xs, h => by
    have h := (th_seq (b := false)).mp h
    exact (th_seq (b := false)).mpr ⟨by omega, fun x hx => th_up (h.2 x hx)⟩
  | m + 1, L, .tuple xs, h => by
    have h := (th_seq (b := true)).mp h
    exact (th_seq (b := true)).mpr ⟨by omega, fun x hx => th_up (h.2 x hx)⟩
  | 0, L, .list _, h => by cases h
  | 0, L, .tuple _, h => by cases h
  | 0, L, .dict _, h => by cases h
  | m + 1, L, .dict _, h => by cases h
theorem th_mono {m L L' : Nat} {x : PyData} (h : thB m L x = true) (hl : L ≤ L') : thB m L' x = true := by
  induction hl with
  | refl => exact h
  | step _ ih => exact th_up ih
theorem th_ok : ∀ {m L : Nat} {x : PyData}, L ≤ 10000 → thB m L x = true → OkD m x
  | m, L, .none, _, _ => okD_none
  | m, L, .bool _, _, _ => okD_bool _
  | m, L, .int i, _, h => okD_int _
  | m, L, .str x, _, h => by rw [th_str] at h; exact okD_str h
  | m + 1, L, .list xs, hl, h => by
    have h := (th_seq (b := false)).mp h
    exact okD_seq (b := false) (by omega) fun x hx => th_ok hl (h.2 x hx)
  | m + 1, L, .tuple xs, hl, h => by
    have h := (th_seq (b := true)).mp h
    exact okD_seq (b := true) (by omega) fun x hx => th_ok hl (h.2 x hx)
  | 0, L, .list _, _, h => by cases h
  | 0, L, .tuple _, _, h => by cases h
  | 0, L, .dict _, _, h => by cases h
  | m + 1, L, .dict _, _, h => by cases h
theorem strOk_of (s : String) : PyData.strOk (Str.ofString s) = true := by
  rw [Str.ofString_eq_toList]
  show ((s.toList.map Char.toNat).toArray.all fun x => decide (x < 0x110000)) = true
  rw [List.all_toArray, List.all_map, List.all_eq_true]
  intro c _
  show decide (c.toNat < 0x110000) = true
  rw [decide_eq_true_eq]
  have := c.valid
  rcases this with h | ⟨_, h⟩
  · exact Nat.lt_trans h (by decide)
  · exact h
theorem log2_small {n : Nat} (h : n ≤ 10 ^ 31 + 10000) : n.log2 < 1920 := by
  by_cases h0 : n = 0
  · subst h0; decide
  · rw [Nat.log2_lt h0]
    exact Nat.lt_of_le_of_lt h (by decide)
/-! ### odd -/
def S_law_odd : Spec := fun rs μ P => ∃ k : Nat, rs = [.m 0] ∧ μ = [MO.deck k] ∧ k ≤ 1000000 ∧ ∀ y, thB 2 0 y = true → P y [MO.deck (k + 1)]
/- _law_odd: slots 0 deck, 1 some -/
def R_law_odd (K : PySem.W.Frag) (Pg : Program) (w : World) : TS :=
    (tSeq (tAsg (tLst (tCons (tC .non) (tCons (tC (.bl true)) (tCons (tC (.str "")) (tCons (tC (.str "a")) (tCons (tTup tNil) (tCons (tLst tNil) (tCons (tTup (tCons (tTup tNil) tNil)) (tCons (tC (.int 7)) (tCons (tUn (rU fun i => .int (-i)) (tC (.int 1))) (tCons (tOp (rI CPow fun i j => .int (i ^ j.toNat)) (tC (.int 10)) (tC (.int 30))) (tCons (tTup (tCons (tC (.int 1)) (tCons (tC (.int 2)) tNil))) (tCons (tTup (tCons (tC (.int 0)) (tCons (tC (.int 1)) (tCons (tC (.int 2)) (tCons (tC (.int 3)) tNil))))) (tCons (tLst (tCons (tC (.int 1)) (tCons (tC (.int 2)) tNil))) (tCons (tTup (tCons (tC (.str "up")) (tCons (tC (.str "down")) tNil))) (tCons (tTup (tCons (tC (.str "up")) tNil)) tNil)))))))))))))))) (gName 1))
    (tRet (tCall (FSp K S_law_one) [] E0 (tCons (tVar 0) (tCons (tVar 1) tNil)))))
theorem sx_law_odd (h : S_law_odd rs μ P) : SX K μ.length (R_law_odd K Pg w) (endsOf μ.length P) (startD 2 rs) μ := by
  obtain ⟨k, rfl, rfl, hk, h⟩ := h
  unfold R_law_odd
  walk_at "go"
  refine sx_asg (we_new (wn_lst ?_))
  walk_at "go"
  refine ⟨[], rfl, size_le (by simp), ?_⟩
  walk_at "go"
  refine we_lst ?_
  walk_at "go"
  refine ⟨[], rfl, size_le (by simp), ?_⟩
  walk_at "go"
  refine ⟨[], rfl, size_le (by simp), ?_⟩
  walk_at "go"
  refine ⟨[_], rfl, size_le (by simp), ?_⟩
  walk_at "go"
  refine wr_i (cpow (by decide) (by decide) (by decide)) ?_
  walk_at "go"
  refine ⟨[_, _], rfl, size_le (by simp), ?_⟩
  walk_at "go"
  refine ⟨[_, _, _, _], rfl, size_le (by simp), ?_⟩
  walk_at "go"
  refine we_lst ?_
  walk_at "go"
  refine ⟨[_, _], rfl, size_le (by simp), ?_⟩
  walk_at "go"
  refine ⟨[_, _], rfl, size_le (by simp), ?_⟩
  walk_at "go"
  refine ⟨[_], rfl, size_le (by simp), ?_⟩
  walk_at "go"
  refine ⟨[_, _, _, _, _, _, _, _, _, _, _, _, _, _, _], rfl, size_le (by simp), ?_⟩
  walk_at "go"
  refine we_one ?_
  walk_at "go"
  refine ⟨0, k, false, _, rfl, rfl, hk, by simp, by simp, fun x hx => ret_d (h x ?_)⟩
  revert x
  decide +kernel
/-! ### spoilt -/
def S_law_spoilt' (m : Nat) : Spec := fun rs μ P => ∃ (k L : Nat) (x : PyData) (j : Nat), rs = [.m 0, .d x] ∧ μ = [MO.deck k] ∧ m = j + 1 ∧ k + 3 * m ≤ 1000000 ∧ L ≤ 1000 ∧ thB j L x = true ∧ ∀ y, thB j (L + 1) y = true → P y [MO.deck (k + 3 * m)]
def S_law_spoilt : Spec := S_law_spoilt' 3
theorem no_law_spoilt (h : S_law_spoilt' 0 rs μ P) : False := by
  obtain ⟨_, _, _, _, _, _, e, _⟩ := h
  cases e
/- _law_spoilt: slots 0 deck, 1 thing, 2 rows, 3 at, 4 other -/
def R_law_spoilt (K : PySem.W.Frag) (Pg : Program) (w : World) (Sr : Spec) : TS :=
    (tSeq (tIfS (tAnd (tB (tCB (rIsiT K) (tCons (tVar 1) (tCons (tTupV (tCons (tC (.ty "tuple")) (tCons (tC (.ty "list")) tNil))) tNil)))) (tAnd (tTest (tOp (rI0 fun i j => .bl (decide (j < i))) (tCB (rLenX K) (tCons (tVar 1) tNil)) (tC (.int 0)))) (tTest (tOp (rI0 fun i j => .bl (decide (j < i))) (tCall (FSp K S_law_pick) [] E0 (tCons (tVar 0) (tCons (tC (.int 5)) tNil))) (tC (.int 0)))))) (tSeq (tAsg (tCB (rLstX K) (tCons (tVar 1) tNil)) (gName 2))
    (tSeq (tAsg (tCall (FSp K S_law_pick) [] E0 (tCons (tVar 0) (tCons (tCB (rLenX K) (tCons (tVar 2) tNil)) tNil))) (gName 3))
    (tSeq (tAsg (tCall (FSp K Sr) [] E0 (tCons (tVar 0) (tCons (tOp (rIx K) (tVar 2) (tVar 3)) tNil))) (gSub (tVar 2) (tVar 3) rSetL))
    (tRet (tIf (tB (tCB (rIsi K) (tCons (tVar 1) (tCons (tC (.ty "tuple")) tNil)))) (tCB (rTupX K) (tCons (tVar 2) tNil)) (tVar 2)))))) tNext)
    (tSeq (tIfS (tB (tCB (rIsiT K) (tCons (tVar 1) (tCons (tTupV (tCons (tC (.ty "tuple")) (tCons (tC (.ty "list")) tNil))) tNil)))) (tSeq (tAsg (tIf (tB (tCB (rIsi K) (tCons (tVar 1) (tCons (tC (.ty "tuple")) tNil)))) (tCB (rLstX K) (tCons (tVar 1) tNil)) (tCB (rTupX K) (tCons (tVar 1) tNil))) (gName 4))
    (tRet (tOp (rIx K) (tLst (tCons (tVar 4) (tCons (tOp (rAddY K) (tVar 1) (tSl (rSlX K) (tVar 1) tNoPart (tPart (tC (.int 1))))) (tCons (tSl (rSlX K) (tVar 1) (tPart (tC (.int 1))) tNoPart) (tCons (tRevA K (tVar 1)) (tCons (tC .non) tNil)))))) (tCall (FSp K S_law_pick) [] E0 (tCons (tVar 0) (tCons (tC (.int 5)) tNil)))))) tNext)
    (tSeq (tIfS (tB (tCB (rIsi K) (tCons (tVar 1) (tCons (tC (.ty "int")) tNil)))) (tRet (tOp (rIx K) (tLst (tCons (tOp (rAddY K) (tVar 1) (tC (.int 1))) (tCons (tOp rSubY (tVar 1) (tC (.int 1))) (tCons (tC (.bl true)) (tCons (tC .non) (tCons (tC (.int 0)) (tCons (tOp (rI CPow fun i j => .int (i ^ j.toNat)) (tC (.int 10)) (tC (.int 9))) (tCons (tCB rStrY (tCons (tVar 1) tNil)) tNil)))))))) (tCall (FSp K S_law_pick) [] E0 (tCons (tVar 0) (tCons (tC (.int 7)) tNil))))) tNext)
    (tRet (tOp (rIx K) (tLst (tCons (tC .non) (tCons (tC (.int 7)) (tCons (tC (.str "n")) (tCons (tC (.str "")) (tCons (tC (.str "up")) (tCons (tC (.str "down")) (tCons (tC (.str "Up")) (tCons (tC (.str "row")) tNil))))))))) (tCall (FSp K S_law_pick) [] E0 (tCons (tVar 0) (tCons (tC (.int 8)) tNil))))))))
theorem all_set {α : Type} {p : α → Prop} {xs : List α} {i : Nat} {y : α} (h : ∀ x ∈ xs, p x) (hy : p y) : ∀ x ∈ xs.set i y, p x := fun x hx => by
  rcases List.mem_or_eq_of_mem_set hx with hx | rfl
  · exact h x hx
  · exact hy
theorem sx_law_spoilt {m : Nat} (h : S_law_spoilt' (m + 1) rs μ P) : SX K μ.length (R_law_spoilt K Pg w (S_law_spoilt' m)) (endsOf μ.length P) (startD 5 rs) μ := by
  obtain ⟨k, L, x, j, rfl, rfl, hm, hk, hL, hx, h⟩ := h
  cases hm
  have done : ∀ {y : PyData} {k' : Nat}, k' ≤ k + 3 * (m + 1) → thB m (L + 1) y = true → ∃ μ'', Wk [MO.deck k'] μ'' ∧ (endsOf 1 P).rt (.d y) μ'' := fun hk' hy => ⟨_, .one (deck_more hk'), ret_d (h _ hy)⟩
  -- a sequence that is not opened
  have lowSeq : ∀ (b : Bool) (xs : List PyData) (k' : Nat), x = seqOf b xs → k' + 1 ≤ k + 3 * (m + 1) → SX K 1 (tSeq (tIfS (tB (tCB (rIsiT K) (tCons (tVar 1) (tCons (tTupV (tCons (tC (.ty "tuple")) (tCons (tC (.ty "list")) tNil))) tNil)))) (tSeq (tAsg (tIf (tB (tCB (rIsi K) (tCons (tVar 1) (tCons (tC (.ty "tuple")) tNil)))) (tCB (rLstX K) (tCons (tVar 1) tNil)) (tCB (rTupX K) (tCons (tVar 1) tNil))) (gName 4))
    (tRet (tOp (rIx K) (tLst (tCons (tVar 4) (tCons (tOp (rAddY K) (tVar 1) (tSl (rSlX K) (tVar 1) tNoPart (tPart (tC (.int 1))))) (tCons (tSl (rSlX K) (tVar 1) (tPart (tC (.int 1))) tNoPart) (tCons (tRevA K (tVar 1)) (tCons (tC .non) tNil)))))) (tCall (FSp K S_law_pick) [] E0 (tCons (tVar 0) (tCons (tC (.int 5)) tNil)))))) tNext)
    (tSeq (tIfS (tB (tCB (rIsi K) (tCons (tVar 1) (tCons (tC (.ty "int")) tNil)))) (tRet (tOp (rIx K) (tLst (tCons (tOp (rAddY K) (tVar 1) (tC (.int 1))) (tCons (tOp rSubY (tVar 1) (tC (.int 1))) (tCons (tC (.bl true)) (tCons (tC .non) (tCons (tC (.int 0)) (tCons (tOp (rI CPow fun i j => .int (i ^ j.toNat)) (tC (.int 10)) (tC (.int 9))) (tCons (tCB rStrY (tCons (tVar 1) tNil)) tNil)))))))) (tCall (FSp K S_law_pick) [] E0 (tCons (tVar 0) (tCons (tC (.int 7)) tNil))))) tNext)
    (tRet (tOp (rIx K) (tLst (tCons (tC .non) (tCons (tC (.int 7)) (tCons (tC (.str "n")) (tCons (tC (.str "")) (tCons (tC (.str "up")) (tCons (tC (.str "down")) (tCons (tC (.str "Up")) (tCons (tC (.str "row")) tNil))))))))) (tCall (FSp K S_law_pick) [] E0 (tCons (tVar 0) (tCons (tC (.int 8)) tNil)))))) ) (endsOf 1 P) (startD 5 [.m 0, .d x]) [MO.deck k'] := by
    rintro b xs k' rfl hk'
    have hxs : ∃ i, m = i + 1 ∧ xs.length ≤ 50 + L ∧ ∀ y ∈ xs, thB i L y = true := by
      cases m with
      | zero => cases b <;> cases hx
      | succ i => exact ⟨i, rfl, th_seq.mp hx⟩
    obtain ⟨i, rfl, hl, hall⟩ := hxs
    walk_at "go"
    refine ⟨[_, _], rfl, size_le (by simp), ?_⟩
    walk_at "go"
    refine wc_isiTL (isi_tuple _) (isi_list _) ⟨_, rfl, fun _ => ?_, fun z => by cases b <;> cases z⟩
    walk_at "go"
    have rest : ∀ z (D : DEnds), z = seqOf (!b) xs → D.rt = (endsOf 1 P).rt → SX K 1 (tRet (tOp (rIx K) (tLst (tCons (tVar 4) (tCons (tOp (rAddY K) (tVar 1) (tSl (rSlX K) (tVar 1) tNoPart (tPart (tC (.int 1))))) (tCons (tSl (rSlX K) (tVar 1) (tPart (tC (.int 1))) tNoPart) (tCons (tRevA K (tVar 1)) (tCons (tC .non) tNil)))))) (tCall (FSp K S_law_pick) [] E0 (tCons (tVar 0) (tCons (tC (.int 5)) tNil))))) D ((startD 5 [.m 0, .d (seqOf b xs)]).set 4 (some (.d z))) [MO.deck k'] := fun z D hz hD => by
      subst hz
      refine sx_ret ?_
      rw [hD]
      refine we_wk ?_
      refine we_op (we_new (wn_lst ?_))
      refine wa_cons (we_var rfl ?_)
      refine wa_cons (we_addYS ?_)
      walk_at "go"
      refine we_slS ?_
      walk_at "go"
      refine ⟨b, xs, rfl, size_le (by omega), b, xs, _, rfl, rfl, ?_, ?_⟩
      · rw [cut_to1, List.length_take]
        exact size_le (by omega)
      refine wa_cons (we_slS ?_)
      walk_at "go"
      refine ⟨b, xs, rfl, size_le (by omega), ?_⟩
      refine wa_cons (we_revS ?_)
      walk_at "go"
      refine ⟨b, xs, rfl, ?_⟩
      walk_at "go"
      refine ⟨[_, _, _, _, _], rfl, size_le (by simp), ?_⟩
      refine we_pick ?_
      walk_at "go"
      refine ⟨0, k', 5, rfl, rfl, by omega, by decide, by decide, fun n hn => ?_⟩
      have sub : ∀ (c : Bool) (ys : List PyData), ys.length ≤ 50 + (L + 1) → (∀ y ∈ ys, y ∈ xs) → thB (i + 1) (L + 1) (seqOf c ys) = true := fun c ys h1 h2 => th_seq.mpr ⟨h1, fun y hy => th_up (hall y (h2 y hy))⟩
      have all5 : ∀ y ∈ [seqOf (!b) xs, seqOf b (xs ++ cutD xs none (some 1)), seqOf b (cutD xs (some 1) none), seqOf b xs.reverse, .none], thB (i + 1) (L + 1) y = true := fun y hy => by
        rw [cut_to1, cut_from1] at hy
        simp only [List.mem_cons, List.not_mem_nil, or_false] at hy
        rcases hy with rfl | rfl | rfl | rfl | rfl
        · exact sub _ _ (by omega) fun _ h => h
        · refine sub _ _ (by rw [List.length_append, List.length_take]; omega) fun y hy => ?_
          rcases List.mem_append.mp hy with hy | hy
          · exact hy
          · exact List.mem_of_mem_take hy
        · exact sub _ _ (by rw [List.length_drop]; omega) fun y hy => List.mem_of_mem_drop hy
        · exact sub _ _ (by rw [List.length_reverse]; omega) fun y hy => List.mem_reverse.mp hy
        · exact th_none
      have hn' : n < [seqOf (!b) xs, seqOf b (xs ++ cutD xs none (some 1)), seqOf b (cutD xs (some 1) none), seqOf b xs.reverse, .none].length := by show n < 5; omega
      refine wr_ix (.l (.d _)) (atI_of (List.getElem?_eq_getElem hn')) ?_
      exact done hk' (all5 _ (List.getElem_mem hn'))
    cases b with
    | true =>
      refine sx_asg (we_if ?_)
      walk_at "go"
      refine dec_t ?_
      walk_at "go"
      exact wc_lst .of (rest _ _ rfl rfl)
    | false =>
      refine sx_asg (we_if ?_)
      walk_at "go"
      refine dec_f ?_
      walk_at "go"
      exact wc_tupL (.d _) (rest _ _ rfl rfl)
  unfold R_law_spoilt
  refine sx_seq (sx_if (wt_and ?_))
  walk_at "go"
  refine ⟨[_, _], rfl, size_le (by simp), ?_⟩
  walk_at "go"
  refine wc_isiTL (isi_tuple _) (isi_list _) ⟨_, rfl, fun hs => ?_, fun hs => ⟨fun z => (by cases z), fun _ => ?_⟩⟩
  · obtain ⟨b, xs, rfl⟩ : ∃ b xs, x = seqOf b xs := by
      cases x with
      | list xs => exact ⟨false, xs, rfl⟩
      | tuple xs => exact ⟨true, xs, rfl⟩
      | _ => cases hs
    have hxs : ∃ i, m = i + 1 ∧ xs.length ≤ 50 + L ∧ ∀ y ∈ xs, thB i L y = true := by
      cases m with
      | zero => cases b <;> cases hx
      | succ i => exact ⟨i, rfl, th_seq.mp hx⟩
    obtain ⟨i, rfl, hl, hall⟩ := hxs
    walk_at "go"
    refine ⟨fun h1 => ?_, fun h1 => dec_f (sx_next (lowSeq b xs k rfl (by omega)))⟩
    rw [decide_eq_true_eq] at h1
    refine wt_test (we_op (we_pick ?_))
    walk_at "go"
    refine ⟨0, k, 5, rfl, rfl, by omega, by decide, by decide, fun n hn => ?_⟩
    walk_at "go"
    refine ⟨fun _ => ?_, fun _ => sx_next (lowSeq b xs (k + 1) rfl (by omega))⟩
    refine sx_seq (sx_asgM (by simp) (wn_lstX ?_))
    walk_at "go"
    refine ⟨_, _, rfl, .of, size_le (by omega), _, .refl _, ?_⟩
    refine sx_seq (sx_asg (we_pick ?_))
    walk_at "go"
    refine ⟨0, k + 1, _, rfl, rfl, by omega, h1, by omega, fun at_ hat => ?_⟩
    have hat' : at_ < xs.length := by omega
    refine sx_seq (sx_setX (we_call1 ?_))
    walk_at "go"
    refine wr_ix (.l (.m rfl)) (atI_of (List.getElem?_eq_getElem hat')) ?_
    walk_at "go"
    refine ⟨0, _, rfl, by simp [onlyM], k + 2, L, xs[at_], i, rfl, rfl, rfl, by omega, hL, hall _ (List.getElem_mem hat'), fun y hy => ⟨_, rfl, ?_⟩⟩
    walk_at "go"
    refine ⟨at_, xs, rfl, hat', rfl, ?_⟩
    have ok : ∀ c, thB (i + 1) (L + 1) (seqOf c (xs.set at_ y)) = true := fun c => th_seq.mpr ⟨by rw [List.length_set]; omega, all_set (fun z hz => th_up (hall z hz)) hy⟩
    refine sx_ret (we_wk ?_)
    cases b with
    | true =>
      refine we_if ?_
      walk_at "go"
      refine dec_t ?_
      walk_at "go"
      refine wc_tupL (.m rfl) ⟨_, .set (k := 0) rfl (deck_more (k := k + 3 * (i + 1 + 1)) (by omega)), ret_d (h _ (ok true))⟩
    | false =>
      refine we_if ?_
      walk_at "go"
      refine dec_f ?_
      walk_at "go"
      refine ⟨_, .set (k := 0) rfl (deck_more (k := k + 3 * (i + 1 + 1)) (by omega)), _, .inr ⟨1, _, Nat.le_refl 1, rfl, rfl, rfl⟩, h _ (ok false)⟩
  · -- no sequence
    walk_at "go"
    refine ⟨[_, _], rfl, size_le (by simp), ?_⟩
    walk_at "go"
    refine wc_isiTL (isi_tuple _) (isi_list _) ⟨_, rfl, fun z => (by rw [hs] at z; cases z), fun _ => ?_⟩
    walk_at "go"
    refine ⟨fun h1 => ?_, fun h1 => ?_⟩
    · refine sx_ret (we_wk ?_)
      refine we_op (we_new (wn_lst ?_))
      have fin : ∀ s1 s2 s3, thB m (L + 1) s1 = true → thB m (L + 1) s2 = true → thB m (L + 1) s3 = true → WE K (tCall (FSp K S_law_pick) [] E0 (tCons (tVar 0) (tCons (tC (.int 7)) tNil))) (startD 5 [.m 0, .d x]) [MO.deck k] fun b μ2 => WR K (rIx K) (.d (.list [s1, s2, .bool true, .none, .int 0, .int 1000000000, s3])) b μ2 fun r μ' => ∃ μ'', Wk μ' μ'' ∧ (endsOf 1 P).rt r μ'' := fun s1 s2 s3 h1 h2 h3 => by
        refine we_pick ?_
        walk_at "go"
        refine ⟨0, k, 7, rfl, rfl, by omega, by decide, by decide, fun n hn => ?_⟩
        have hn' : n < [s1, s2, .bool true, .none, .int 0, .int 1000000000, s3].length := by show n < 7; omega
        refine wr_ix (.l (.d _)) (atI_of (List.getElem?_eq_getElem hn')) (done (by omega) ?_)
        have all7 : ∀ y ∈ [s1, s2, .bool true, .none, .int 0, .int 1000000000, s3], thB m (L + 1) y = true := fun y hy => by
          simp only [List.mem_cons, List.not_mem_nil, or_false] at hy
          rcases hy with rfl | rfl | rfl | rfl | rfl | rfl | rfl
          · exact h1
          · exact h2
          · exact th_bool
          · exact th_none
          · rw [th_int, decide_eq_true_eq]; omega
          · rw [th_int, decide_eq_true_eq]; omega
          · exact h3
        exact all7 _ (List.getElem_mem hn')
      cases x with
      | int i =>
        rw [th_int, decide_eq_true_eq] at hx
        walk_at "go"
        refine wr_addYX ?_
        walk_at "go"
        refine wr_subYI ?_
        walk_at "go"
        refine wr_i (cpow (by decide) (by decide) (by decide)) ?_
        walk_at "go"
        refine wc_strYI (log2_small (by omega)) ?_
        walk_at "go"
        refine ⟨[_, _, _, _, _, _, _], rfl, size_le (by simp), ?_⟩
        exact fin _ _ _ (by rw [th_int, decide_eq_true_eq]; omega) (by rw [th_int, decide_eq_true_eq]; omega) (by rw [th_str]; exact strOk_of _)
      | bool b =>
        walk_at "go"
        refine wr_addYB ?_
        walk_at "go"
        refine wr_subYB ?_
        walk_at "go"
        refine wr_i (cpow (by decide) (by decide) (by decide)) ?_
        walk_at "go"
        refine wc_strYB ?_
        walk_at "go"
        refine ⟨[_, _, _, _, _, _, _], rfl, size_le (by simp), ?_⟩
        exact fin _ _ _ (by rw [th_int, decide_eq_true_eq]; cases b <;> simp [bi] <;> omega) (by rw [th_int, decide_eq_true_eq]; cases b <;> simp [bi] <;> omega) (by rw [th_str]; cases b <;> decide +kernel)
      | _ => cases h1
    · refine sx_next (sx_ret (we_wk ?_))
      refine we_op (we_new (wn_lst ?_))
      walk_at "go"
      refine ⟨[_, _, _, _, _, _, _, _], rfl, size_le (by simp), ?_⟩
      refine we_pick ?_
      walk_at "go"
      refine ⟨0, k, 8, rfl, rfl, by omega, by decide, by decide, fun n hn => ?_⟩
      have hn' : n < [PyData.none, .int 7, .str "n", .str "", .str "up", .str "down", .str "Up", .str "row"].length := by show n < 8; omega
      refine wr_ix (.l (.d _)) (atI_of (List.getElem?_eq_getElem hn')) (done (by omega) ?_)
      have all8 : ∀ y ∈ [PyData.none, .int 7, .str "n", .str "", .str "up", .str "down", .str "Up", .str "row"], thB m (L + 1) y = true := fun y hy => by
        simp only [List.mem_cons, List.not_mem_nil, or_false] at hy
        rcases hy with rfl | rfl | rfl | rfl | rfl | rfl | rfl | rfl
        · exact th_none
        · rw [th_int, decide_eq_true_eq]; omega
        all_goals (rw [th_str]; decide +kernel)
      exact all8 _ (List.getElem_mem hn')
end
end Wv

set_option Elab.async false
set_option linter.all false
set_option maxRecDepth 100000
set_option maxHeartbeats 2000000
namespace Wv
open PySem PySem.Spec PyProof.Rows L2
local macro_rules | `(tactic| walk_at "var") => `(tactic| ((with_reducible refine we_var (r := ?r) ?h ?_); (case h => rfl)))
local macro_rules | `(tactic| walk_at "ev") => `(tactic| (first
  | walk_at "var" | with_reducible refine we_int ?_ | with_reducible refine we_str ?_ | with_reducible refine we_bl ?_ | with_reducible refine we_non ?_ | with_reducible refine wa_cons ?_ | with_reducible refine wa_nil ?_
  | with_reducible refine wr_b0 ?_ | with_reducible refine wr_i0 ?_ | with_reducible refine wr_addI ?_ | with_reducible refine wu_neg ?_
  | with_reducible refine we_op ?_ | with_reducible refine we_un ?_ | with_reducible refine we_cb ?_ | with_reducible refine we_tup ?_ | with_reducible refine we_tupV ?_ | with_reducible refine we_chain ?_ | with_reducible refine we_chain3 ?_ | with_reducible refine we_andV ?_ | with_reducible refine we_orV ?_ | with_reducible refine we_notV ?_ | with_reducible refine we_if ?_
  | with_reducible refine wt_test ?_ | with_reducible refine wt_B ?_ | with_reducible refine wt_and ?_ | with_reducible refine wt_or ?_ | with_reducible refine wt_not ?_ | with_reducible refine wr_isNN ?_ | with_reducible refine wr_isN ?_ | with_reducible refine wr_isB ?_ | with_reducible refine wr_isNB ?_
  | with_reducible refine wc_max2 ?_ | with_reducible refine wc_min2 ?_ | with_reducible refine wc_isi (isi_int _) ?_ | with_reducible refine wc_isi (isi_bool _) ?_ | with_reducible refine wc_isi (isi_tuple _) ?_ | with_reducible refine wc_isi (isi_list _) ?_ | with_reducible refine wc_isi (isi_str _) ?_
  | with_reducible refine sx_seq ?_ | with_reducible refine sx_next ?_ | with_reducible refine sx_ret ?_ | with_reducible refine sx_drop ?_ | with_reducible refine sx_if ?_ | with_reducible refine sx_par ?_ | with_reducible refine wo_none ?_ | with_reducible refine wo_some ?_
  | with_reducible refine wg_name ?_ | with_reducible refine wgs_nil ?_ | with_reducible refine wgs_cons ?_ | with_reducible refine wg_tup rfl ?_
  | with_reducible refine wr_eqI ?_ | with_reducible refine wr_neI ?_
  | ((with_reducible refine' wc_len ?h ?_); (case h => first | exact .t _ | exact .l (.d _) | exact .of | exact .l (.m rfl)))
  | ((with_reducible refine' wr_ix ?h1 ?h2 ?_); (case h1 => exact .l (.m rfl)); (case h2 => rfl))
  | with_reducible refine wgcs_nil ?_ | with_reducible refine wgcs_cons ?_ | with_reducible refine wgc_tup rfl ?_ | with_reducible refine wgc_name (by decide) ?_ | with_reducible refine we_v ?_ | with_reducible refine ⟨_, rfl, ?_⟩ | with_reducible refine dec_t ?_ | with_reducible refine dec_f ?_ | with_reducible refine dec_nt ?_ | with_reducible refine dec_nf ?_ | with_reducible refine And.intro rfl ?_))
local macro_rules | `(tactic| walk_at "go") => `(tactic| repeat walk_at "ev")
section
variable {K : PySem.W.Frag} {Pg : Program} {w : World} {rs : List Res} {μ : List MO} {P : PyData → List MO → Prop}
/-! ### numbers -/
structure Nums (many : Nat) (top : Int) (ns : List Int) : Prop where
  len : ns.length = many
  nd : ns.Nodup
  rng : ∀ x ∈ ns, 0 ≤ x ∧ x ≤ top
def S_law_numbers : Spec := fun rs μ P => ∃ (k many : Nat) (top : Int), rs = [.m 0, .d (.int (many : Nat)), .d (.int top)] ∧ μ = [MO.deck k] ∧ k + many ≤ 1000000 ∧ many ≤ 1000 ∧ (many : Int) ≤ top + 1 ∧ top + 1 < 1073741824 ∧ ∀ ns, Nums many top ns → P (.tuple (nums ns)) [MO.deck (k + many)]
/- _law_numbers: slots 0 deck, 1 many, 2 top, 3 found, 4 turn, 5 number -/
def R_law_numbers (K : PySem.W.Frag) (Pg : Program) (w : World) : TS :=
    (tSeq (tAsg (tLst tNil) (gName 3))
    (tSeq (tFor (iRng1 (tCons (tVar 1) tNil)) (gName 4) (tSeq (tAsg (tCall (FSp K S_law_pick) [] E0 (tCons (tVar 0) (tCons (tOp (rAddX K) (tVar 2) (tC (.int 1))) tNil))) (gName 5))
    (tSeq (tWhile (tTest (tOp (rInX K) (tVar 5) (tVar 3))) (tAsg (tOp (rI (fun _ j => 0 < j) fun i j => .int (i % j)) (tOp (rAddX K) (tVar 5) (tC (.int 1))) (tOp (rAddX K) (tVar 2) (tC (.int 1)))) (gName 5)))
    (tDrop (tBM K "list" rAppend (tVar 3) (tCons (tVar 5) tNil))))))
    (tRet (tCB (rTupX K) (tCons (tVar 3) tNil)))))
theorem free_num {ns : List Int} {top : Int} (h : (ns.length : Int) < top + 1) : ∃ x, 0 ≤ x ∧ x ≤ top ∧ x ∉ ns := by
  refine Classical.byContradiction fun hn => ?_
  have all : ∀ x ∈ (List.range (top + 1).toNat).map fun (k : Nat) => (k : Int), x ∈ ns := fun x hx => by
    obtain ⟨k, hk, rfl⟩ := List.mem_map.mp hx
    have := List.mem_range.mp hk
    refine Classical.byContradiction fun z => hn ⟨k, by omega, by omega, z⟩
  have nd : ((List.range (top + 1).toNat).map fun (k : Nat) => (k : Int)).Nodup := by
    refine List.Pairwise.map _ (fun a b hab e => hab (by omega)) (List.nodup_range (n := (top + 1).toNat))
  have := len_le_of_nodup nd all
  rw [List.length_map, List.length_range] at this
  omega
theorem wrap {x n top : Int} (h0 : 0 ≤ n) (h1 : n ≤ top) : (n + 1) % (top + 1) = if n = top then 0 else n + 1 := by
  by_cases h : n = top
  · rw [if_pos h, h, Int.emod_self]
  · rw [if_neg h]; exact Int.emod_eq_of_lt (by omega) (by omega)
theorem nums_snoc (ns : List Int) (i : Int) : nums ns ++ [.int i] = nums (ns ++ [i]) := by rw [nums, nums, List.map_append]; rfl
theorem sx_law_numbers (h : S_law_numbers rs μ P) : SX K μ.length (R_law_numbers K Pg w) (endsOf μ.length P) (startD 6 rs) μ := by
  obtain ⟨k, many, top, rfl, rfl, hk, hm, h1, h2, h⟩ := h
  unfold R_law_numbers
  refine sx_seq (sx_asgM (Nat.le_refl _) (wn_lst ?_))
  walk_at "go"
  refine ⟨[], rfl, size_le (by simp), _, .refl _, ?_⟩
  refine sx_seq (sx_for (wi_rng1 ?_))
  walk_at "go"
  refine ⟨by omega, by omega, fun i ds' μ' => ∃ ns a b, Nums i top ns ∧ ds' = [some (.m 0), some (.d (.int (many : Nat))), some (.d (.int top)), some (.m 1), a, b] ∧ μ' = [MO.deck (k + i), MO.lst (nums ns)], ?_, ?_, ?_⟩
  · exact ⟨[], none, none, ⟨rfl, .nil, fun _ h => (by cases h)⟩, rfl, rfl⟩
  · rintro i d ds' μ' hi ⟨ns, a, b, hn, rfl, rfl⟩
    have hil : i < many := by
      have := (List.getElem?_eq_some_iff.mp hi).1
      rw [rngD_len] at this
      omega
    walk_at "go"
    refine sx_asg (we_pick ?_)
    walk_at "go"
    refine ⟨0, k + i, top + 1, rfl, rfl, by omega, by omega, h2, fun x hx => ?_⟩
    obtain ⟨y, hy0, hy1, hyn⟩ := free_num (ns := ns) (top := top) (by have := hn.len; omega)
    refine sx_seq (sx_while (fun m ds'' μ'' => ∃ n : Int, 0 ≤ n ∧ n ≤ top ∧ m = ((y - n) % (top + 1)).toNat ∧ ds'' = [some (.m 0), some (.d (.int (many : Nat))), some (.d (.int top)), some (.m 1), some (.d d), some (.d (.int n))] ∧ μ'' = [MO.deck (k + i + 1), MO.lst (nums ns)]) ?_ ?_)
    · exact ⟨_, x, by omega, by omega, rfl, rfl, rfl⟩
    · rintro m ds'' μ'' ⟨n, hn0, hn1, rfl, rfl, rfl⟩
      walk_at "go"
      refine wr_inI (ns := ns) (.l (.m rfl)) ⟨_, rfl, fun hin => ?_, fun hin => ?_⟩
      · rw [decide_eq_true_eq] at hin
        refine sx_asg ?_
        walk_at "go"
        refine wr_i (show (0 : Int) < top + 1 by omega) ?_
        have hw := wrap (x := 0) hn0 hn1
        have hne : y ≠ n := fun e => hyn (e ▸ hin)
        refine ⟨_, ?_, (n + 1) % (top + 1), Int.emod_nonneg _ (by omega), by have := Int.emod_lt_of_pos (n + 1) (show 0 < top + 1 by omega); omega, rfl, rfl, rfl⟩
        rw [hw]
        have e1 : (y - n) % (top + 1) = if n ≤ y then y - n else y - n + (top + 1) := by
          split
          · exact Int.emod_eq_of_lt (by omega) (by omega)
          · rw [← Int.add_emod_right, Int.emod_eq_of_lt (by omega) (by omega)]
        rw [e1]
        by_cases hnt : n = top
        · rw [if_pos hnt, Int.sub_zero, Int.emod_eq_of_lt hy0 (by omega)]
          rw [if_neg (by omega)]
          omega
        · rw [if_neg hnt]
          have e2 : (y - (n + 1)) % (top + 1) = if n ≤ y then y - n - 1 else y - n - 1 + (top + 1) := by
            split
            · rw [Int.emod_eq_of_lt (by omega) (by omega)]; omega
            · rw [← Int.add_emod_right, Int.emod_eq_of_lt (by omega) (by omega)]; omega
          rw [e2]
          split <;> omega
      · rw [decide_eq_false_iff_not] at hin
        walk_at "go"
        refine we_bm ?_
        walk_at "go"
        refine ⟨⟨_, .m rfl⟩, ?_⟩
        walk_at "go"
        refine wm_append rfl (size_big (by rw [List.length_map]; have := hn.len; omega)) ?_
        refine ⟨ns ++ [n], _, _, ⟨by rw [List.length_append, hn.len]; rfl, ?_, ?_⟩, rfl, ?_⟩
        · rw [List.nodup_append]
          exact ⟨hn.nd, by simp, fun a ha b hb => by rw [List.mem_singleton.mp hb]; exact fun e => hin (e ▸ ha)⟩
        · intro z hz
          rcases List.mem_append.mp hz with hz | hz
          · exact hn.rng z hz
          · rw [List.mem_singleton.mp hz]; exact ⟨hn0, hn1⟩
        · rw [nums_snoc]; rfl
  · rintro ds' μ' ⟨ns, a, b, hn, rfl, rfl⟩
    rw [rngD_len, Int.toNat_natCast] at hn
    rw [rngD_len, Int.toNat_natCast]
    walk_at "go"
    exact wc_tupL (.m rfl) (ret_d (h ns hn))
end
end Wv

set_option Elab.async false
set_option linter.all false
set_option maxRecDepth 100000
set_option maxHeartbeats 2000000
namespace Wv
open PySem PySem.Spec PyProof.Rows L2
local macro_rules | `(tactic| walk_at "var") => `(tactic| ((with_reducible refine we_var (r := ?r) ?h ?_); (case h => rfl)))
local macro_rules | `(tactic| walk_at "ev") => `(tactic| (first
  | walk_at "var" | with_reducible refine we_int ?_ | with_reducible refine we_str ?_ | with_reducible refine we_bl ?_ | with_reducible refine we_non ?_ | with_reducible refine wa_cons ?_ | with_reducible refine wa_nil ?_
  | with_reducible refine wr_b0 ?_ | with_reducible refine wr_i0 ?_ | with_reducible refine wr_addI ?_ | with_reducible refine wu_neg ?_
  | with_reducible refine we_op ?_ | with_reducible refine we_un ?_ | with_reducible refine we_cb ?_ | with_reducible refine we_tup ?_ | with_reducible refine we_tupV ?_ | with_reducible refine we_chain ?_ | with_reducible refine we_chain3 ?_ | with_reducible refine we_andV ?_ | with_reducible refine we_orV ?_ | with_reducible refine we_notV ?_ | with_reducible refine we_if ?_
  | with_reducible refine wt_test ?_ | with_reducible refine wt_B ?_ | with_reducible refine wt_and ?_ | with_reducible refine wt_or ?_ | with_reducible refine wt_not ?_ | with_reducible refine wr_isNN ?_ | with_reducible refine wr_isN ?_ | with_reducible refine wr_isB ?_ | with_reducible refine wr_isNB ?_
  | with_reducible refine wc_max2 ?_ | with_reducible refine wc_min2 ?_ | with_reducible refine wc_isi (isi_int _) ?_ | with_reducible refine wc_isi (isi_bool _) ?_ | with_reducible refine wc_isi (isi_tuple _) ?_ | with_reducible refine wc_isi (isi_list _) ?_ | with_reducible refine wc_isi (isi_str _) ?_
  | with_reducible refine sx_seq ?_ | with_reducible refine sx_next ?_ | with_reducible refine sx_ret ?_ | with_reducible refine sx_drop ?_ | with_reducible refine sx_if ?_ | with_reducible refine sx_par ?_ | with_reducible refine wo_none ?_ | with_reducible refine wo_some ?_
  | with_reducible refine wg_name ?_ | with_reducible refine wgs_nil ?_ | with_reducible refine wgs_cons ?_ | with_reducible refine wg_tup rfl ?_
  | with_reducible refine wr_eqI ?_ | with_reducible refine wr_neI ?_
  | ((with_reducible refine' wc_len ?h ?_); (case h => first | exact .t _ | exact .l (.d _) | exact .of | exact .l (.m rfl)))
  | ((with_reducible refine' wr_ix ?h1 ?h2 ?_); (case h1 => exact .l (.m rfl)); (case h2 => rfl))
  | with_reducible refine wgcs_nil ?_ | with_reducible refine wgcs_cons ?_ | with_reducible refine wgc_tup rfl ?_ | with_reducible refine wgc_name (by decide) ?_ | with_reducible refine we_v ?_ | with_reducible refine ⟨_, rfl, ?_⟩ | with_reducible refine dec_t ?_ | with_reducible refine dec_f ?_ | with_reducible refine dec_nt ?_ | with_reducible refine dec_nf ?_ | with_reducible refine And.intro rfl ?_))
local macro_rules | `(tactic| walk_at "go") => `(tactic| repeat walk_at "ev")
section
variable {K : PySem.W.Frag} {Pg : Program} {w : World} {rs : List Res} {μ : List MO} {P : PyData → List MO → Prop}
/-! ### woven -/
def S_law_woven : Spec := fun rs μ P => ∃ (k many : Nat), rs = [.m 0, .d (.int (many : Nat))] ∧ μ = [MO.deck k] ∧ k + 3 * many ≤ 1000000 ∧ 1 ≤ many ∧ many ≤ 40 ∧ ∀ ns, ns.length = many → IsRow ns → Wov ns → P (.tuple (nums ns)) [MO.deck (k + 3 * many)]
/- _law_woven: slots 0 deck, 1 many, 2 numbers, 3 ups, 4 rising, 5 falling, 6 found, 7 number, 8 up -/
def R_law_woven (K : PySem.W.Frag) (Pg : Program) (w : World) : TS :=
    (tSeq (tAsg (tCall (FSp K S_law_numbers) [] E0 (tCons (tVar 0) (tCons (tVar 1) (tCons (tOp (rI CPow fun i j => .int (i ^ j.toNat)) (tC (.int 10)) (tC (.int 9))) tNil)))) (gName 2))
    (tSeq (tAsg (tLc (iSeq K (tVar 2)) (gName 7) tYes (tOp (rEqD K) (tCall (FSp K S_law_pick) [] E0 (tCons (tVar 0) (tCons (tC (.int 2)) tNil))) (tC (.int 0))) [7]) (gName 3))
    (tSeq (tAsg (tCB (rSortG K) (tCons (tLc (iZipG K (tCons (tVar 2) (tCons (tVar 3) tNil))) (gTup K 2 (gCons (gName 7) (gCons (gName 8) gNil))) (tB (tVar 8)) (tVar 7) [7, 8]) tNil)) (gName 4))
    (tSeq (tAsg (tRevA K (tCB (rSortG K) (tCons (tLc (iZipG K (tCons (tVar 2) (tCons (tVar 3) tNil))) (gTup K 2 (gCons (gName 7) (gCons (gName 8) gNil))) (tNot (tB (tVar 8))) (tVar 7) [7, 8]) tNil))) (gName 5))
    (tSeq (tAsg (tLst tNil) (gName 6))
    (tSeq (tWhile (tOr (tTest (tOp (rNeD K) (tVar 4) (tLst tNil))) (tTest (tOp (rNeD K) (tVar 5) (tLst tNil)))) (tIfS (tOr (tTest (tOp (rEqD K) (tVar 5) (tLst tNil))) (tAnd (tTest (tOp (rNeD K) (tVar 4) (tLst tNil))) (tTest (tOp (rEqD K) (tCall (FSp K S_law_pick) [] E0 (tCons (tVar 0) (tCons (tC (.int 2)) tNil))) (tC (.int 0)))))) (tDrop (tBM K "list" rAppend (tVar 6) (tCons (tBM K "list" rPopAt (tVar 4) (tCons (tC (.int 0)) tNil)) tNil))) (tDrop (tBM K "list" rAppend (tVar 6) (tCons (tBM K "list" rPopAt (tVar 5) (tCons (tC (.int 0)) tNil)) tNil)))))
    (tRet (tCB (rTupX K) (tCons (tVar 6) tNil)))))))))
def pairOn : PyData → Bool
  | .tuple [_, .bool b] => b
  | _ => false
def pairOff : PyData → Bool
  | .tuple [_, .bool b] => !b
  | _ => false
def pairFst : PyData → PyData
  | .tuple [x, _] => x
  | _ => .none
theorem zip_nb : ∀ (xs : List Int) (us : List Bool), zipD (nums xs) (us.map .bool) = (xs.zip us).map fun p => .tuple [.int p.1, .bool p.2] := fun xs us => by
  unfold zipD nums
  rw [List.zip_map, List.map_map]
  rfl
theorem pairs_on (cs : List (Int × Bool)) : ((cs.map fun p => PyData.tuple [.int p.1, .bool p.2]).filter pairOn).map pairFst = nums (upsOf cs) := by
  induction cs with
  | nil => rfl
  | cons p cs ih =>
    obtain ⟨c, s⟩ := p
    rw [List.map_cons, List.filter_cons, ups_cons]
    cases s with
    | true => rw [if_pos (show pairOn _ = true from rfl), if_pos rfl, List.map_cons, ih]; rfl
    | false => rw [if_neg (by simp [pairOn]), if_neg (by decide), ih]
theorem pairs_off (cs : List (Int × Bool)) : ((cs.map fun p => PyData.tuple [.int p.1, .bool p.2]).filter pairOff).map pairFst = nums (downsOf cs) := by
  induction cs with
  | nil => rfl
  | cons p cs ih =>
    obtain ⟨c, s⟩ := p
    rw [List.map_cons, List.filter_cons, downs_cons]
    cases s with
    | false => rw [if_pos (show pairOff _ = true from rfl), if_neg (by decide), List.map_cons, ih]; rfl
    | true => rw [if_neg (by simp [pairOff]), if_pos rfl, ih]
theorem nums_empty (ns : List Int) : (nums ns).isEmpty = ns.isEmpty := by cases ns <;> rfl
theorem sx_law_woven (h : S_law_woven rs μ P) : SX K μ.length (R_law_woven K Pg w) (endsOf μ.length P) (startD 9 rs) μ := by
  obtain ⟨k, many, rfl, rfl, hk, hm1, hm, h⟩ := h
  unfold R_law_woven
  refine sx_seq (sx_asg (we_call1 ?_))
  walk_at "go"
  refine wr_i (cpow (by decide) (by decide) (by decide)) ?_
  walk_at "go"
  refine ⟨0, _, rfl, by simp [onlyM], k, many, 1000000000, rfl, rfl, by omega, by omega, by omega, by omega, fun ns hns => ⟨_, rfl, ?_⟩⟩
  have hl := hns.len
  refine sx_seq (sx_asg (we_new (wn_lc (wi_seqS ?_))))
  walk_at "go"
  refine ⟨true, nums ns, rfl, size_big (by rw [List.length_map]; omega), fun i acc μ' => ∃ us : List Bool, us.length = i ∧ acc = us.map .bool ∧ μ' = [MO.deck (k + many + i)], ⟨[], rfl, rfl, rfl⟩, ?_, ?_⟩
  · rintro i d acc μ' hi ⟨us, hu, rfl, rfl⟩
    have hil : i < many := by
      have := (List.getElem?_eq_some_iff.mp hi).1
      rw [List.length_map] at this
      omega
    walk_at "go"
    refine wt_yes (dec_t ?_)
    refine we_op (we_pick ?_)
    walk_at "go"
    refine ⟨0, _, 2, rfl, rfl, by omega, by decide, by decide, fun x hx => ?_⟩
    walk_at "go"
    exact ⟨us ++ [_], by rw [List.length_append, hu]; rfl, by rw [List.map_append]; rfl, rfl⟩
  rintro acc μ' ⟨us, hu, rfl, rfl⟩
  rw [List.length_map] at hu ⊢
  have hlu : ns.length = us.length := hu.symm
  have hz : (ns.zip us).length = many := by rw [List.length_zip]; omega
  have hzu : (upsOf (ns.zip us)).length ≤ many := by unfold upsOf; rw [List.length_map]; exact Nat.le_trans (List.length_filter_le _ _) (by omega)
  have hzd : (downsOf (ns.zip us)).length ≤ many := by unfold downsOf; rw [List.length_map]; exact Nat.le_trans (List.length_filter_le _ _) (by omega)
  -- rising
  refine sx_seq (sx_asgM (Nat.le_refl _) (wn_sort (wa_cons (we_new (wn_lcF pairOn pairFst (wi_zipG ?_))))))
  walk_at "go"
  refine ⟨_, _, _, _, _, _, rfl, .t _, .l _, ?_⟩
  rw [zip_nb]
  refine ⟨size_big (by rw [List.length_map]; omega), fun d hd => ?_, ?_⟩
  · obtain ⟨p, _, rfl⟩ := List.mem_map.mp hd
    walk_at "go"
    intro _
    walk_at "go"
    rfl
  rw [pairs_on]
  refine wa_nil ⟨_, _, rfl, .l (.d _), size_le (by omega), fun A hA sA => ⟨_, .refl _, ?_⟩⟩
  -- falling
  refine sx_seq (sx_asgM (by simp) (wn_revL ?_))
  refine we_cb (wa_cons (we_new (wn_lcF pairOff pairFst (wi_zipG ?_))))
  walk_at "go"
  refine ⟨_, _, _, _, _, _, rfl, .t _, .l _, ?_⟩
  rw [zip_nb]
  refine ⟨size_big (by rw [List.length_map]; omega), fun d hd => ?_, ?_⟩
  · obtain ⟨p, _, rfl⟩ := List.mem_map.mp hd
    walk_at "go"
    intro _
    walk_at "go"
    rfl
  rw [pairs_off]
  refine wa_nil (wc_sort (.l (.d _)) fun B hB sB => ?_)
  have lA : A.length ≤ many := by rw [hA.length_eq]; exact hzu
  have lB : B.length ≤ many := by rw [hB.length_eq]; exact hzd
  have lAB : A.length + B.length = many := by
    have := (sides_perm (ns.zip us)).length_eq
    rw [List.length_append, List.length_map, hz] at this
    rw [hA.length_eq, hB.length_eq]; exact this
  refine ⟨_, .d _, size_le (by rw [List.length_map]; omega), _, .refl _, ?_⟩
  rw [← List.map_reverse]
  -- found
  refine sx_seq (sx_asgM (by simp) (wn_lst ?_))
  walk_at "go"
  refine ⟨[], rfl, size_le (by simp), _, .refl _, ?_⟩
  refine sx_seq (sx_while (fun m ds' μ' => ∃ (A2 B2 : List Int) (cs : List (Int × Bool)), m = A2.length + B2.length ∧ upsOf cs ++ A2 = A ∧ downsOf cs ++ B2 = B.reverse ∧ cs.length + m = many ∧ ds' = [some (.m 0), some (.d (.int (many : Nat))), some (.d (.tuple (nums ns))), some (.d (.list (us.map .bool))), some (.m 1), some (.m 2), some (.m 3), none, none] ∧
    μ' = [MO.deck (k + many + many + cs.length), MO.lst (nums A2), MO.lst (nums B2), MO.lst (nums (cs.map (·.1)))]) ?_ ?_)
  · refine ⟨_, A, B.reverse, [], rfl, rfl, rfl, by rw [List.length_reverse]; simp only [List.length_nil]; omega, rfl, ?_⟩
    rw [hl]
    rfl
  · rintro m ds' μ' ⟨A2, B2, cs, rfl, eA, eB, hc, rfl, rfl⟩
    have sA2 : A2.length ≤ 40 := by omega
    have sB2 : B2.length ≤ 40 := by omega
    have endc : A2 = [] → B2 = [] → SX K 1 (tRet (tCB (rTupX K) (tCons (tVar 6) tNil))) (endsOf 1 P) [some (.m 0), some (.d (.int (many : Nat))), some (.d (.tuple (nums ns))), some (.d (.list (us.map .bool))), some (.m 1), some (.m 2), some (.m 3), none, none] [MO.deck (k + many + many + cs.length), MO.lst (nums A2), MO.lst (nums B2), MO.lst (nums (cs.map (·.1)))] := by
      rintro rfl rfl
      rw [List.append_nil] at eA eB
      have := wov_merge hns.nd hlu hA hB sA sB eA eB
      refine sx_weak (k := 0) rfl (deck_more (k := k + 3 * many) (by simp only [List.length_nil] at hc; omega)) ?_
      walk_at "go"
      refine wc_tupL (.m rfl) (ret_d (h _ ?_ ⟨?_, ?_, ?_, ?_⟩ this.2))
      · rw [this.1.length_eq, hl]
      · rw [this.1.length_eq]; omega
      · rw [this.1.length_eq]; omega
      · intro x hx; exact hns.rng x (this.1.mem_iff.mp hx)
      · exact this.1.nodup_iff.mpr hns.nd
    -- one card of the rising ones, of the falling ones
    have takeA : ∀ D : DEnds, A2 ≠ [] → D.nx = (fun ds'' μ'' => ∃ m', m' < A2.length + B2.length ∧ ∃ (A2 B2 : List Int) (cs : List (Int × Bool)), m' = A2.length + B2.length ∧ upsOf cs ++ A2 = A ∧ downsOf cs ++ B2 = B.reverse ∧ cs.length + m' = many ∧ ds'' = [some (.m 0), some (.d (.int (many : Nat))), some (.d (.tuple (nums ns))), some (.d (.list (us.map .bool))), some (.m 1), some (.m 2), some (.m 3), none, none] ∧ μ'' = [MO.deck (k + many + many + cs.length), MO.lst (nums A2), MO.lst (nums B2), MO.lst (nums (cs.map (·.1)))]) →
        SX K 1 (tDrop (tBM K "list" rAppend (tVar 6) (tCons (tBM K "list" rPopAt (tVar 4) (tCons (tC (.int 0)) tNil)) tNil))) D [some (.m 0), some (.d (.int (many : Nat))), some (.d (.tuple (nums ns))), some (.d (.list (us.map .bool))), some (.m 1), some (.m 2), some (.m 3), none, none] [MO.deck (k + many + many + cs.length + 1), MO.lst (nums A2), MO.lst (nums B2), MO.lst (nums (cs.map (·.1)))] := fun D hA0 hD => by
      cases A2 with
      | nil => exact absurd rfl hA0
      | cons c A3 =>
        refine sx_drop (we_bm ?_)
        walk_at "go"
        refine ⟨⟨_, .m rfl⟩, wa_cons (we_bm ?_)⟩
        walk_at "go"
        refine ⟨⟨_, .m rfl⟩, ?_⟩
        walk_at "go"
        refine wm_popAt (i := 0) rfl (d := .int c) rfl (by decide) ?_
        walk_at "go"
        refine wm_append rfl (size_big (by rw [List.length_map, List.length_map]; omega)) ?_
        rw [hD]
        refine ⟨_, ?_, A3, B2, cs ++ [(c, true)], rfl, ?_, ?_, ?_, rfl, ?_⟩
        · simp only [List.length_cons]; omega
        · rw [ups_snoc, if_pos rfl, List.append_assoc]; exact eA
        · rw [downs_snoc, if_pos rfl, List.append_nil]; exact eB
        · rw [List.length_append, List.length_singleton]; simp only [List.length_cons] at hc; omega
        · rw [List.length_append, List.length_singleton, List.map_append, nums_snoc]; rfl
    have takeB : ∀ D : DEnds, B2 ≠ [] → D.nx = (fun ds'' μ'' => ∃ m', m' < A2.length + B2.length ∧ ∃ (A2 B2 : List Int) (cs : List (Int × Bool)), m' = A2.length + B2.length ∧ upsOf cs ++ A2 = A ∧ downsOf cs ++ B2 = B.reverse ∧ cs.length + m' = many ∧ ds'' = [some (.m 0), some (.d (.int (many : Nat))), some (.d (.tuple (nums ns))), some (.d (.list (us.map .bool))), some (.m 1), some (.m 2), some (.m 3), none, none] ∧ μ'' = [MO.deck (k + many + many + cs.length), MO.lst (nums A2), MO.lst (nums B2), MO.lst (nums (cs.map (·.1)))]) →
        SX K 1 (tDrop (tBM K "list" rAppend (tVar 6) (tCons (tBM K "list" rPopAt (tVar 5) (tCons (tC (.int 0)) tNil)) tNil))) D [some (.m 0), some (.d (.int (many : Nat))), some (.d (.tuple (nums ns))), some (.d (.list (us.map .bool))), some (.m 1), some (.m 2), some (.m 3), none, none] [MO.deck (k + many + many + cs.length + 1), MO.lst (nums A2), MO.lst (nums B2), MO.lst (nums (cs.map (·.1)))] := fun D hA0 hD => by
      cases B2 with
      | nil => exact absurd rfl hA0
      | cons c B3 =>
        refine sx_drop (we_bm ?_)
        walk_at "go"
        refine ⟨⟨_, .m rfl⟩, wa_cons (we_bm ?_)⟩
        walk_at "go"
        refine ⟨⟨_, .m rfl⟩, ?_⟩
        walk_at "go"
        refine wm_popAt (i := 0) rfl (d := .int c) rfl (by decide) ?_
        walk_at "go"
        refine wm_append rfl (size_big (by rw [List.length_map, List.length_map]; omega)) ?_
        rw [hD]
        refine ⟨_, ?_, A2, B3, cs ++ [(c, false)], rfl, ?_, ?_, ?_, rfl, ?_⟩
        · simp only [List.length_cons]; omega
        · rw [ups_snoc, if_neg (by decide), List.append_nil]; exact eA
        · rw [downs_snoc, if_neg (by decide), List.append_assoc]; exact eB
        · rw [List.length_append, List.length_singleton]; simp only [List.length_cons] at hc; omega
        · rw [List.length_append, List.length_singleton, List.map_append, nums_snoc]; rfl
    have more : (MO.deck (k + many + many + cs.length)).Imp (MO.deck (k + many + many + cs.length + 1)) := deck_more (by omega)
    -- the body
    have body : A2 ≠ [] ∨ B2 ≠ [] → ∀ D : DEnds, D.nx = (fun ds'' μ'' => ∃ m', m' < A2.length + B2.length ∧ ∃ (A2 B2 : List Int) (cs : List (Int × Bool)), m' = A2.length + B2.length ∧ upsOf cs ++ A2 = A ∧ downsOf cs ++ B2 = B.reverse ∧ cs.length + m' = many ∧ ds'' = [some (.m 0), some (.d (.int (many : Nat))), some (.d (.tuple (nums ns))), some (.d (.list (us.map .bool))), some (.m 1), some (.m 2), some (.m 3), none, none] ∧ μ'' = [MO.deck (k + many + many + cs.length), MO.lst (nums A2), MO.lst (nums B2), MO.lst (nums (cs.map (·.1)))]) → SX K 1 (tIfS (tOr (tTest (tOp (rEqD K) (tVar 5) (tLst tNil))) (tAnd (tTest (tOp (rNeD K) (tVar 4) (tLst tNil))) (tTest (tOp (rEqD K) (tCall (FSp K S_law_pick) [] E0 (tCons (tVar 0) (tCons (tC (.int 2)) tNil))) (tC (.int 0)))))) (tDrop (tBM K "list" rAppend (tVar 6) (tCons (tBM K "list" rPopAt (tVar 4) (tCons (tC (.int 0)) tNil)) tNil))) (tDrop (tBM K "list" rAppend (tVar 6) (tCons (tBM K "list" rPopAt (tVar 5) (tCons (tC (.int 0)) tNil)) tNil)))) D [some (.m 0), some (.d (.int (many : Nat))), some (.d (.tuple (nums ns))), some (.d (.list (us.map .bool))), some (.m 1), some (.m 2), some (.m 3), none, none] [MO.deck (k + many + many + cs.length), MO.lst (nums A2), MO.lst (nums B2), MO.lst (nums (cs.map (·.1)))] := fun hne D hD => by
      refine sx_if (wt_or (wt_test ?_))
      walk_at "go"
      refine we_new (wn_lst ?_)
      walk_at "go"
      refine ⟨[], rfl, size_le (by simp), ?_⟩
      refine wr_eqNil (.m rfl) shp_num (by decide) ⟨_, rfl, fun h1 => ⟨fun _ => ?_, fun z => (by cases z)⟩, fun h1 => ?_⟩
      · rw [nums_empty, List.isEmpty_iff] at h1
        exact sx_weak (k := 0) rfl more (takeA D (hne.resolve_right (fun z => z h1)) hD)
      · have hB2 : B2 ≠ [] := fun z => by rw [z] at h1; cases h1
        refine wt_and (wt_test ?_)
        walk_at "go"
        refine we_new (wn_lst ?_)
        walk_at "go"
        refine ⟨[], rfl, size_le (by simp), ?_⟩
        refine wr_neNil (.m rfl) shp_num (by decide) ⟨_, rfl, fun h2 => ?_, fun h2 => ⟨fun z => (by cases z), fun _ => ?_⟩⟩
        · have hA2 : A2 ≠ [] := fun z => by rw [z] at h2; cases h2
          refine wt_test (we_op (we_pick ?_))
          walk_at "go"
          refine ⟨0, _, 2, rfl, rfl, by omega, by decide, by decide, fun x hx => ?_⟩
          walk_at "go"
          exact ⟨fun _ => takeA D hA2 hD, fun _ => takeB D hB2 hD⟩
        · exact sx_weak (k := 0) rfl more (takeB D hB2 hD)
    refine wt_or (wt_test ?_)
    walk_at "go"
    refine we_new (wn_lst ?_)
    walk_at "go"
    refine ⟨[], rfl, size_le (by simp), ?_⟩
    refine wr_neNil (.m rfl) shp_num (by decide) ⟨_, rfl, fun h1 => ⟨fun _ => ?_, fun z => (by cases z)⟩, fun h1 => ?_⟩
    · exact body (.inl fun z => by rw [z] at h1; cases h1) _ rfl
    · have hA2 : A2 = [] := by rw [nums_empty] at h1; cases A2 with | nil => rfl | cons _ _ => cases h1
      refine wt_test ?_
      walk_at "go"
      refine we_new (wn_lst ?_)
      walk_at "go"
      refine ⟨[], rfl, size_le (by simp), ?_⟩
      refine wr_neNil (.m rfl) shp_num (by decide) ⟨_, rfl, fun h2 => ?_, fun h2 => ?_⟩
      · exact body (.inr fun z => by rw [z] at h2; cases h2) _ rfl
      · have hB2 : B2 = [] := by rw [nums_empty] at h2; cases B2 with | nil => rfl | cons _ _ => cases h2
        exact endc hA2 hB2
/-! ### bent -/
theorem erase_ix : ∀ {ms : List Int} {i : Nat} {c : Int}, ms.Nodup → ms[i]? = some c → ms.erase c = ms.eraseIdx i
  | [], i, c, _, h => by simp at h
  | x :: ms, 0, c, _, h => by
    cases (show x = c by simpa using h)
    rw [List.erase_cons_head, List.eraseIdx_cons_zero]
  | x :: ms, i + 1, c, hn, h => by
    have h' : ms[i]? = some c := by simpa using h
    have hne : x ≠ c := fun e => (List.nodup_cons.mp hn).1 (e ▸ List.mem_of_getElem? h')
    rw [List.erase_cons_tail (by simpa using hne), List.eraseIdx_cons_succ, erase_ix (List.nodup_cons.mp hn).2 h']
theorem cons_erase_perm : ∀ {ms : List Int} {i : Nat} {c : Int}, ms[i]? = some c → (c :: ms.eraseIdx i).Perm ms
  | [], i, c, h => by simp at h
  | x :: ms, 0, c, h => by
    cases (show x = c by simpa using h)
    rw [List.eraseIdx_cons_zero]
  | x :: ms, i + 1, c, h => by
    have h' : ms[i]? = some c := by simpa using h
    rw [List.eraseIdx_cons_succ]
    exact (List.Perm.swap _ _ _).trans ((cons_erase_perm h').cons x)
theorem map_eraseI {α β : Type} (f : α → β) : ∀ (l : List α) (i : Nat), (l.map f).eraseIdx i = (l.eraseIdx i).map f
  | [], _ => by simp
  | x :: l, 0 => by simp
  | x :: l, i + 1 => by rw [List.map_cons, List.eraseIdx_cons_succ, List.eraseIdx_cons_succ, List.map_cons, map_eraseI f l i]
/-- rows that are alike but for some cards -/
def Near (t : Nat) (ns ms : List Int) : Prop := ∃ cs : List Int, cs.Sublist ns ∧ cs.Sublist ms ∧ ns.length ≤ cs.length + t
theorem near_move {t : Nat} {ns ms : List Int} {c : Int} {i j : Nat} (hn : ms.Nodup) (h : Near t ns ms) (hi : ms[i]? = some c) : Near (t + 1) ns ((ms.eraseIdx i).take j ++ [c] ++ (ms.eraseIdx i).drop j) := by
  obtain ⟨cs, h1, h2, h3⟩ := h
  have hc : (cs.erase c).Sublist (ms.erase c) := h2.erase c
  have he : ms.erase c = ms.eraseIdx i := erase_ix hn hi
  rw [he] at hc
  refine ⟨cs.erase c, (List.erase_sublist).trans h1, hc.trans ?_, ?_⟩
  · conv => lhs; rw [← List.take_append_drop j (ms.eraseIdx i)]
    refine List.Sublist.append ?_ (List.Sublist.refl _)
    exact List.sublist_append_left _ _
  · have := List.length_erase_le (a := c) (l := cs)
    have h4 : cs.length ≤ (cs.erase c).length + 1 := by
      rw [List.length_erase]
      split <;> omega
    omega
theorem move_perm {ms : List Int} {c : Int} {i j : Nat} (hi : ms[i]? = some c) : ((ms.eraseIdx i).take j ++ [c] ++ (ms.eraseIdx i).drop j).Perm ms := by
  have h1 : ((ms.eraseIdx i).take j ++ [c] ++ (ms.eraseIdx i).drop j).Perm (c :: ms.eraseIdx i) := by
    rw [List.append_assoc]
    conv => rhs; rw [← List.take_append_drop j (ms.eraseIdx i)]
    exact List.perm_middle
  exact h1.trans (cons_erase_perm hi)
def S_law_bent : Spec := fun rs μ P => ∃ (k t : Nat) (ns : List Int), rs = [.m 0, .d (.tuple (nums ns)), .d (.int (t : Nat))] ∧ μ = [MO.deck k] ∧ k + 2 * t ≤ 1000000 ∧ t ≤ 1000 ∧ 1 ≤ ns.length ∧ ns.length ≤ 1000 ∧ ns.Nodup ∧ ∀ ms : List Int, ms.Perm ns → Near t ns ms → P (.tuple (nums ms)) [MO.deck (k + 2 * t)]
/- _law_bent: slots 0 deck, 1 row, 2 turns, 3 found, 4 turn, 5 card -/
def R_law_bent (K : PySem.W.Frag) (Pg : Program) (w : World) : TS :=
    (tSeq (tAsg (tCB (rLstX K) (tCons (tVar 1) tNil)) (gName 3))
    (tSeq (tFor (iRng1 (tCons (tVar 2) tNil)) (gName 4) (tSeq (tAsg (tBM K "list" rPopAt (tVar 3) (tCons (tCall (FSp K S_law_pick) [] E0 (tCons (tVar 0) (tCons (tCB (rLenX K) (tCons (tVar 3) tNil)) tNil))) tNil)) (gName 5))
    (tDrop (tBM K "list" rInsert (tVar 3) (tCons (tCall (FSp K S_law_pick) [] E0 (tCons (tVar 0) (tCons (tOp (rAddX K) (tCB (rLenX K) (tCons (tVar 3) tNil)) (tC (.int 1))) tNil))) (tCons (tVar 5) tNil))))))
    (tRet (tCB (rTupX K) (tCons (tVar 3) tNil)))))
theorem nums_erase (ns : List Int) (i : Nat) : (nums ns).eraseIdx i = nums (ns.eraseIdx i) := by
  exact map_eraseI _ ns i
theorem sx_law_bent (h : S_law_bent rs μ P) : SX K μ.length (R_law_bent K Pg w) (endsOf μ.length P) (startD 6 rs) μ := by
  obtain ⟨k, t, ns, rfl, rfl, hk, ht, hl0, hl, hn, h⟩ := h
  unfold R_law_bent
  refine sx_seq (sx_asgM (Nat.le_refl _) (wn_lstX ?_))
  walk_at "go"
  refine ⟨_, _, rfl, .t _, size_le (by rw [List.length_map]; omega), _, .refl _, ?_⟩
  refine sx_seq (sx_for (wi_rng1 ?_))
  walk_at "go"
  refine ⟨by omega, by omega, fun i ds' μ' => ∃ ms a b, ms.Perm ns ∧ Near i ns ms ∧ ds' = [some (.m 0), some (.d (.tuple (nums ns))), some (.d (.int (t : Nat))), some (.m 1), a, b] ∧ μ' = [MO.deck (k + 2 * i), MO.lst (nums ms)], ?_, ?_, ?_⟩
  · exact ⟨ns, none, none, .refl _, ⟨ns, .refl _, .refl _, by omega⟩, rfl, rfl⟩
  · rintro i d ds' μ' hi ⟨ms, a, b, hp, hnear, rfl, rfl⟩
    have hil : i < t := by
      have := (List.getElem?_eq_some_iff.mp hi).1
      rw [rngD_len] at this
      omega
    have hml := hp.length_eq
    walk_at "go"
    refine sx_asg (we_bm ?_)
    walk_at "go"
    refine ⟨⟨_, .m rfl⟩, wa_cons (we_pick ?_)⟩
    walk_at "go"
    refine ⟨0, k + 2 * i, _, rfl, rfl, by omega, by rw [List.length_map]; omega, by rw [List.length_map]; omega, fun x hx => ?_⟩
    rw [List.length_map] at hx
    have hx' : x < ms.length := by omega
    obtain ⟨c, hc⟩ : ∃ c, ms[x]? = some c := ⟨_, List.getElem?_eq_getElem hx'⟩
    walk_at "go"
    refine wm_popAt rfl (nums_get hc) (by omega) ?_
    rw [nums_erase]
    have hel : (ms.eraseIdx x).length = ms.length - 1 := by rw [List.length_eraseIdx_of_lt hx']
    refine sx_drop (we_bm ?_)
    walk_at "go"
    refine ⟨⟨_, .m rfl⟩, wa_cons (we_pick ?_)⟩
    walk_at "go"
    rw [List.length_map, hel]
    refine ⟨0, k + 2 * i + 1, _, rfl, rfl, by omega, by omega, by omega, fun y hy => ?_⟩
    walk_at "go"
    refine wm_insert rfl (size_big (by rw [List.length_map]; omega)) (by omega) (by omega) ?_
    rw [Int.toNat_natCast, ← List.map_take, ← List.map_drop]
    refine ⟨(ms.eraseIdx x).take y ++ [c] ++ (ms.eraseIdx x).drop y, _, _, (move_perm hc).trans hp, near_move (hp.nodup_iff.mpr hn) hnear hc, rfl, ?_⟩
    have e : nums ((ms.eraseIdx x).take y ++ [c] ++ (ms.eraseIdx x).drop y) = List.map PyData.int (List.take y (ms.eraseIdx x)) ++ [PyData.int c] ++ List.map PyData.int (List.drop y (ms.eraseIdx x)) := by
      rw [nums, List.map_append, List.map_append]; rfl
    rw [e]
    rfl
  · rintro ds' μ' ⟨ms, a, b, hp, hnear, rfl, rfl⟩
    rw [rngD_len, Int.toNat_natCast] at *
    walk_at "go"
    exact wc_tupL (.m rfl) (ret_d (h ms hp hnear))
end
end Wv

set_option Elab.async false
set_option linter.all false
set_option maxRecDepth 100000
set_option maxHeartbeats 2000000
namespace Wv
open PySem PySem.Spec PyProof.Rows L2
/-! ### how many unlike ones -/
theorem shorter {α : Type} : ∀ {ns : List α}, ¬ ns.Nodup → ∃ ms : List α, ms.length < ns.length ∧ ∀ k ∈ ns, k ∈ ms
  | [], h => absurd List.nodup_nil h
  | x :: ns, h => by
    by_cases hx : x ∈ ns
    · exact ⟨ns, by simp, fun k hk => by
        rcases List.mem_cons.mp hk with rfl | hk
        · exact hx
        · exact hk⟩
    · obtain ⟨ms, h1, h2⟩ := shorter (ns := ns) fun z => h (List.nodup_cons.mpr ⟨hx, z⟩)
      refine ⟨x :: ms, by simp only [List.length_cons]; omega, fun k hk => ?_⟩
      rcases List.mem_cons.mp hk with rfl | hk
      · simp
      · exact List.mem_cons_of_mem _ (h2 k hk)
structure Unlike {α : Type} (ns : List α) (c : Nat) : Prop where
  le : c ≤ ns.length
  iff : c = ns.length ↔ ns.Nodup
  one : c = 1 ↔ ∃ x, x ∈ ns ∧ ∀ y ∈ ns, y = x
theorem unlike_of {α : Type} [DecidableEq α] {ns ks : List α} (hk : ks.Nodup) (hm : ∀ k, k ∈ ks ↔ k ∈ ns) : Unlike ns ks.length := by
  have h1 : ks.length ≤ ns.length := len_le_of_nodup hk fun x hx => (hm x).mp hx
  refine ⟨h1, ⟨fun e => ?_, fun hn => ?_⟩, ⟨fun e => ?_, fun ⟨x, hx, h⟩ => ?_⟩⟩
  · refine Classical.byContradiction fun hn => ?_
    obtain ⟨ms, h2, h3⟩ := shorter hn
    have := len_le_of_nodup hk fun x hx => h3 x ((hm x).mp hx)
    omega
  · have := len_le_of_nodup hn fun x hx => (hm x).mpr hx
    omega
  · match ks, e with
    | [x], _ => exact ⟨x, (hm x).mp (by simp), fun y hy => by simpa using (hm y).mpr hy⟩
  · have h2 : ks.length ≤ 1 := len_le_of_nodup (m := [x]) hk fun y hy => by rw [h y ((hm y).mp hy)]; simp
    have h3 : 0 < ks.length := List.length_pos_of_mem ((hm x).mpr hx)
    omega
/-! ### len(set(t)), sorted(set(t)), t a tuple of ints -/
def tLenSetT (K : PySem.W.Frag) (ta : TE) : TE := fun σ H Q => ta σ H fun x H1 => ∃ (l : Addr) (ns : List Int), x = .ref l ∧ SqT K H1 l (ns.map V.int) ∧ ns.length ≤ 4000 ∧ ∀ c : Nat, Unlike ns c → Q (.int (c : Nat)) H1
theorem pe_lenSetT {X : Cx} {a : Expr} {ta : TE} {p p2 q pos : Pos} (hg : Gl X "len") (hm : X.mg "len" = none) (hg2 : Gl X "set") (hm2 : X.mg "set" = none) (ha : PE X a ta) (hc : X.calm = true := by rfl)
    (na : starEach [a] X.env = (false, eval a X.env) :: starEach [] X.env := by rfl) : PE X (.Call (.Name "len" p) [.Call (.Name "set" p2) [a] [] q] [] pos) (tLenSetT X.K ta) := by
  refine ⟨fun pins s σ H Q I h => ?_⟩
  refine Call_ (ld_blt I hg hm boot_len (callWith_builtin1 (args_cons (Call_ (ld_blt I hg2 hm2 boot_set ?_)) rfl) rfl rfl))
  refine callWith_type1 (args_cons (thn (ha.run pins s σ H _ I h) fun v s1 ⟨x, H1, I1, r1, q1⟩ => args_nil ?_) na) na rfl
  obtain ⟨l, ns, rfl, hq, hl, q1⟩ := q1
  cases r1
  obtain ⟨its, r, pl⟩ := SqA.get (b := true) I1 hq
  refine call_set_tupI ns (I1.ok.hd hc) pl (by simpa using RZ.intsAre_vals r) (by unfold scanBound; omega) fun h' tk c R hcn hk => args_nil ?_
  obtain ⟨o, es, ep, t, ho, hex, hd, ge, nd, hmem, hb, hf, hn, rest⟩ := R
  have I2 : Inv X pins σ H1 { s1 with heap := h', toks := tk } := I1.kept hk
  have hu : Unlike ns c := by
    have := unlike_of (ns := ns) nd fun k => by rw [← hmem k]; simp
    rw [List.length_map, Array.length_toList, hn] at this
    exact this
  exact call_len_set ho hex hd hf (by rw [hn]; omega) ⟨.int c, H1, I2.tok _, ⟨_, by rw [hn]⟩, q1 c hu⟩
def tSortSetT (K : PySem.W.Frag) (ta : TE) : TE := fun σ H Q => ta σ H fun x H1 => ∃ (l : Addr) (ns : List Int), x = .ref l ∧ SqT K H1 l (ns.map V.int) ∧ ns.length < 64 ∧ ∀ (ms : List Int) (p : Addr), ms.Pairwise (· < ·) → (∀ k, k ∈ ms ↔ k ∈ ns) → H1 p = none → Q (.ref p) (upd H1 p (.lst (ms.map V.int)))
theorem pe_sortSetT {X : Cx} {a : Expr} {ta : TE} {p p2 q pos : Pos} (hg : Gl X "sorted") (hm : X.mg "sorted" = none) (hg2 : Gl X "set") (hm2 : X.mg "set" = none) (ha : PE X a ta) (hc : X.calm = true := by rfl)
    (na : starEach [a] X.env = (false, eval a X.env) :: starEach [] X.env := by rfl) : PE X (.Call (.Name "sorted" p) [.Call (.Name "set" p2) [a] [] q] [] pos) (tSortSetT X.K ta) := by
  refine ⟨fun pins s σ H Q I h => ?_⟩
  refine Call_ (ld_blt I hg hm (show bootBuiltins "sorted" = some (.builtin "sorted") by decide +kernel) (callWith_builtin1 (args_cons (Call_ (ld_blt I hg2 hm2 boot_set ?_)) rfl) rfl rfl))
  refine callWith_type1 (args_cons (thn (ha.run pins s σ H _ I h) fun v s1 ⟨x, H1, I1, r1, q1⟩ => args_nil ?_) na) na rfl
  obtain ⟨l, ns, rfl, hq, hl, q1⟩ := q1
  cases r1
  obtain ⟨its, r, pl⟩ := SqA.get (b := true) I1 hq
  refine call_set_tupI ns (I1.ok.hd hc) pl (by simpa using RZ.intsAre_vals r) (by unfold scanBound; omega) fun h' tk c R hcn hk => args_nil ?_
  have I2 : Inv X pins σ H1 { s1 with heap := h', toks := tk } := I1.kept hk
  refine sorted_set R (I2.ok.hd hc) (by omega) fun s' p out c ms k g o hp hg hi hs hm hl => ?_
  have hlen : (ms.map V.int).length ≤ sizeLine := by rw [List.length_map, hl, sizeLine_eq]; omega
  have hn : H1 p = none := I2.hok.fresh hp
  have J : Inv X pins σ (upd H1 p (.lst (ms.map V.int))) { ({ s1 with heap := h', toks := tk } : Shared) with heap := s'.heap, gens := s'.gens, drawn := s'.drawn, toks := s'.toks } := I2.call (ch := []) (Un.laid k hp hn) (I2.hok.laid k hp ⟨hlen, out.toList, c, vals_of_ints hi, hg⟩) (by rw [g]; exact I2.bare) (fun _ z => nomatch z)
  have e : s' = { ({ s1 with heap := h', toks := tk } : Shared) with heap := s'.heap, gens := s'.gens, drawn := s'.drawn, toks := s'.toks } := by
    cases s'; cases s1; cases o; rfl
  rw [e]
  exact ⟨.ref p, _, J, rfl, q1 ms p hs (fun k => by rw [hm k]; simp) hn⟩
section
variable {K : PySem.W.Frag} {n : Nat} {ds : DSt} {μ : List MO} {te ta tb : TE} {O : Addr → Prop} {A : List Addr} {H : Hp} {P : Res → List MO → Prop}
theorem we_lenSetT (h : WE K ta ds μ fun a μ1 => ∃ ns : List Int, a = .d (.tuple (nums ns)) ∧ ns.length ≤ 4000 ∧ ∀ c : Nat, Unlike ns c → P (.d (.int (c : Nat))) μ1) : WE K (tLenSetT K ta) ds μ P := fun σ O A H e Q q =>
  h σ O A H e _ fun x a μ1 H1 l1 w1 r1 h1 => by
    obtain ⟨ns, rfl, hl, p⟩ := h1
    cases r1 with
    | @tup a vs _ h1 h2 =>
      rw [dpAll_ints h2] at h1
      exact ⟨a, ns, rfl, SqT.of (of_hid h1).2, hl, fun c hc => q _ _ μ1 H1 l1 w1 (rp_d (Dq.int _)) (p c hc)⟩
theorem wn_sortSetT {Pn : List PyData → List MO → Prop} (h : WE K ta ds μ fun a μ1 => ∃ ns : List Int, a = .d (.tuple (nums ns)) ∧ ns.length < 64 ∧ ∀ ms : List Int, ms.Pairwise (· < ·) → (∀ k, k ∈ ms ↔ k ∈ ns) → Pn (nums ms) μ1) : WN K (tSortSetT K ta) ds μ Pn := fun σ O A H e Q q =>
  h σ O A H e _ fun x a μ1 H1 l1 w1 r1 h1 => by
    obtain ⟨ns, rfl, hl, p⟩ := h1
    cases r1 with
    | @tup a vs _ h1 h2 =>
      rw [dpAll_ints h2] at h1
      refine ⟨a, ns, rfl, SqT.of (of_hid h1).2, hl, fun ms p' hs hm hp => ?_⟩
      have hlm : ms.length ≤ ns.length := len_le_of_nodup (hs.imp fun h e => by omega) fun x hx => (hm x).mp hx
      exact wn_laid e q l1 w1 (ints_dpAll ms) (by rw [List.length_map]; exact size_le (by omega)) (p ms hs hm) p' hp
end
end Wv

set_option Elab.async false
set_option linter.all false
set_option maxRecDepth 100000
set_option maxHeartbeats 2000000
namespace Wv
open PySem PySem.Spec PyProof.Rows L2
/-! ### t * k, a tuple, 1 ≤ k -/
theorem tuple_mul1 (l : Addr) (items : Array Value) (n : Nat) (dd : Option Addr) (sl : Array (Option Value)) (u : Tok) :
    Meets (Builtin.«tuple.__mul__» ⟨[.ref l, .int 1 u], []⟩) (fun _ R s => s.heap.get? l = some { cls := .type "tuple", dict := dd, data := .seq items n, slots := sl } ∧ R (.ok (.ret (Value.ref l))) s) :=
  .of_wp fun prog w A R s h => by
    obtain ⟨hp, g, d, tk, os⟩ := s
    obtain ⟨hl, h⟩ := h
    have f1 := AutoSeq1.idx_int
    have c1 : (items.isEmpty || (1 : Int) == 1) = true := by simp
    wp_walk using wpAny_loadPart' hl
    repeat (first
      | (refine wpAny_ite_true (decide_eq_true c1) ?_; wp_walk using wpAny_loadPart' hl)
      | (refine wpAny_ite_false (decide_eq_false (by decide)) ?_; wp_walk using wpAny_loadPart' hl))
    exact ⟨_, rfl, h⟩
def rRep1 (K : PySem.W.Frag) : R2 := fun x y H Q => ∃ l xs, x = .ref l ∧ y = .int 1 ∧ SqT K H l xs ∧ Q (.ref l) H
theorem op_rep1 {X : Cx} : OpR X (binaryOp .Mult) (rRep1 X.K) := by
  intro pins s σ H x y v u Q I rx ry h
  obtain ⟨l, xs, rfl, rfl, hT, q⟩ := h
  cases rx
  obtain ⟨t, rfl⟩ := ry
  obtain ⟨its, r, ⟨⟨cls, dd, data, sl⟩, ho, hc, n, hd⟩, hs⟩ := I.tuple hT
  simp only at hc hd
  subst hc hd
  refine wpAny_binaryOp_repeat_ref (T := "tuple") (U := "int") (by decide) ⟨_, ho, rfl⟩ (fun s' => typeIs_int s' 1 t) noFill_tuple_mul F.fills_int_mul F.slot_int_rmul repeat_tuple F.slot_int_index.lookup ?_
  refine call_meets F.slot_int_rmul (typeIs_int s 1 t) F.entry_int_rmul (F.args_int_rmul_2 _ _) (int_rmul_tuple 1 t l its.toArray n dd sl) ⟨ho, rfl, ⟨_, ho, rfl⟩, ?_⟩
  exact call_meets F.slot_tuple_mul ⟨_, ho, rfl⟩ F.entry_tuple_mul (F.args_tuple_mul_2 _ _) (tuple_mul1 l its.toArray n dd sl t) ⟨ho, .ref l, H, I, rfl, q⟩
def rRepX (K : PySem.W.Frag) : R2 := fun x y H Q => rRep1 K x y H Q ∨ rRepT K x y H Q
theorem op_repX {X : Cx} : OpR X (binaryOp .Mult) (rRepX X.K) := op_rep1.or op_repT
section
variable {K : PySem.W.Frag} {n : Nat} {ds : DSt} {μ : List MO} {te ta tb : TE} {O : Addr → Prop} {A : List Addr} {H : Hp} {P : Res → List MO → Prop} {a b : Res} {D : DEnds} {t : TS}
theorem dpAll_rep {H : Hp} {v : V} {d : PyData} (h : Dq H v d) : ∀ k, DqAll H (List.replicate k v) (List.replicate k d)
  | 0 => .nil
  | k + 1 => .cons h (dpAll_rep h k)
theorem flat_rep {α : Type} (x : α) : ∀ k, (List.replicate k [x]).flatten = List.replicate k x
  | 0 => rfl
  | k + 1 => by rw [List.replicate_succ, List.replicate_succ, List.flatten_cons, flat_rep x k]; rfl
/-- (x,) * k -/
theorem wr_rep {d : PyData} {k : Nat} (h1 : 1 ≤ k) (h2 : k ≤ 1000) (p : P (.d (.tuple (List.replicate k d))) μ) : WR K (rRepX K) (.d (.tuple [d])) (.d (.int (k : Nat))) μ P := fun O A H x y w hx hy Q q => by
  cases hy
  cases hx with
  | @tup l vs _ e1 e2 =>
    cases e2 with
    | @cons v _ _ _ r1 rr =>
      cases rr
      by_cases hk : k = 1
      · subst hk
        exact .inl ⟨l, [v], rfl, rfl, SqT.of (of_hid e1).2, q _ _ μ H (.refl O A H) w (rp_d (Dq.tup e1 (.cons r1 .nil))) p⟩
      · refine .inr ⟨l, k, [v], rfl, rfl, SqT.of (of_hid e1).2, by simp, by omega, by omega, by simp, ?_⟩
        rw [Int.toNat_natCast, flat_rep]
        exact tup_laid q w (dpAll_rep r1 k) p
/-! ### ranges as tuples, lists -/
theorem rgV_dq {H : Hp} (lo hi : Int) : DqAll H (rgV lo hi) (rngD lo (hi - lo).toNat) := by
  unfold rgV rngD
  induction (List.range (hi - lo).toNat) with
  | nil => exact .nil
  | cons x l ih => exact .cons (.int _) ih
theorem we_tupRg1 (h : WE K ta ds μ fun r μ1 => ∃ n : Nat, r = .d (.int (n : Nat)) ∧ n ≤ 1000000 ∧ P (.d (.tuple (rngD 0 n))) μ1) : WE K (tTupRg (tRg1 ta)) ds μ P := fun σ O A H e Q q =>
  h σ O A H e _ fun x r μ1 H1 l1 w1 r1 h1 => by
    obtain ⟨n, rfl, hn, p⟩ := h1
    cases r1
    refine ⟨n, rfl, ⟨by omega, by omega, by omega, by omega, by omega⟩, ?_⟩
    have := rgV_dq (H := hid O H1) 0 n
    rw [Int.sub_zero, Int.toNat_natCast] at this
    exact tup_laid (fun v r μ' H' l w rp p => q v r μ' H' (.trans e.wok.dom l1 l) w rp p) w1 this p
theorem wn_lstRg1 {Pn : List PyData → List MO → Prop} (h : WE K ta ds μ fun r μ1 => ∃ n : Nat, r = .d (.int (n : Nat)) ∧ n ≤ 1000000 ∧ Pn (rngD 0 n) μ1) : WN K (tLstRg (tRg1 ta)) ds μ Pn := fun σ O A H e Q q =>
  h σ O A H e _ fun x r μ1 H1 l1 w1 r1 h1 => by
    obtain ⟨n, rfl, hn, p⟩ := h1
    cases r1
    refine ⟨n, rfl, ⟨by omega, by omega, by omega, by omega, by omega⟩, ?_⟩
    have := rgV_dq (H := hid O H1) 0 n
    rw [Int.sub_zero, Int.toNat_natCast] at this
    exact wn_laid e q l1 w1 this (by rw [rngD_len]; exact size_le (by omega)) p
def rangeI (n : Nat) : List Int := (List.range n).map fun (k : Nat) => (k : Int)
theorem rngD_nums (n : Nat) : rngD 0 n = nums (rangeI n) := by
  unfold rngD rangeI nums
  rw [List.map_map]
  refine List.map_congr_left fun k _ => ?_
  show PyData.int (0 + (k : Nat)) = .int (k : Nat)
  rw [Int.zero_add]
/-! ### what is left of a turn goes -/
def wipeM : Option Res → Option Res
  | some (.m _) => none
  | x => x
theorem wipe_frz (k : Nat) (x : Option Res) : wipeM (frz k none x) = wipeM x := by
  cases x with
  | none => rfl
  | some r =>
    cases r with
    | m j =>
      show wipeM (if j = k then none else some (.m j)) = none
      split <;> rfl
    | _ => rfl
theorem sx_clear : ∀ (m : Nat) {ds : DSt} {μ : List MO}, μ.length = m → SX K 0 t D (ds.map wipeM) [] → SX K 0 t D ds μ
  | 0, ds, μ, hm, h => by
    rw [List.eq_nil_of_length_eq_zero hm]
    -- nothing can be changed: a slot that names such a thing names nothing
    refine fun σ O A H E e q => h σ O A H E ⟨by rw [List.length_map]; exact e.len, fun i r hi => ?_, ?_⟩ q
    · rw [List.getElem?_map] at hi
      obtain ⟨x, hx, he⟩ := Option.map_eq_some_iff.mp hi
      cases x with
      | none => cases he
      | some s =>
        cases s with
        | m j => cases he
        | _ => cases he; exact e.var i _ hx
    · exact e.wok
  | m + 1, ds, μ, hm, h => by
    obtain ⟨μ0, mo, rfl⟩ : ∃ μ0 mo, μ = μ0 ++ [mo] := by
      rcases List.eq_nil_or_concat μ with rfl | ⟨μ0, mo, rfl⟩
      · cases hm
      · exact ⟨μ0, mo, List.concat_eq_append⟩
    rw [List.length_append] at hm
    refine sx_gone (Nat.zero_le _) (sx_clear m (by simpa using hm) ?_)
    rw [List.map_map]
    have : wipeM ∘ frz μ0.length none = wipeM := funext fun x => wipe_frz _ x
    rw [this]
    exact h
theorem clear_it {ds : DSt} {μ : List MO} (h : SX K 0 t D (ds.map wipeM) []) : SX K 0 t D ds μ := sx_clear _ rfl h
/-- ([0] + script)[:N] -/
theorem wi_cells {N : Nat} {ns : List Int} {Pi : List PyData → List MO → Prop} (hl : ns.length ≤ 63) (hs : ds[0]? = some (some (.s ns))) (h : ∀ cs : List Int, cs.length ≤ 64 → Pi (nums cs) μ) : WI K (iSeq K (tSl (rSlX K) (tOp (rAddX K) (tLst (tCons (tC (.int 0)) tNil)) (tVar 0)) tNoPart (tPart (tC (.int (N : Nat)))))) ds μ Pi := by
  refine wi_seqS (we_new (wn_slL (we_new (wn_addL ?_))))
  refine we_new (wn_lst (wa_cons (we_int (wa_nil ⟨[_], rfl, size_le (by simp), ?_⟩))))
  refine we_var hs ⟨_, _, .d _, .s ns, size_le (by rw [List.length_map]; simp; omega), ?_⟩
  refine wo_none (wo_some (we_int ⟨_, rfl, _, .d _, size_le (by simp; omega), ?_⟩))
  rw [cut_to]
  have e : List.take N ([PyData.int 0] ++ ns.map .int) = nums ((0 :: ns).take N) := by
    rw [nums, List.map_take]; rfl
  rw [e]
  exact ⟨false, _, rfl, h _ (by rw [List.length_take, List.length_cons]; omega)⟩
end
end Wv

set_option Elab.async false
set_option linter.all false
set_option maxRecDepth 100000
set_option maxHeartbeats 2000000
namespace Wv
open PySem PySem.Spec PyProof.Rows L2
local macro_rules | `(tactic| walk_at "var") => `(tactic| ((with_reducible refine we_var (r := ?r) ?h ?_); (case h => rfl)))
local macro_rules | `(tactic| walk_at "ev") => `(tactic| (first
  | walk_at "var" | with_reducible refine we_int ?_ | with_reducible refine we_str ?_ | with_reducible refine we_bl ?_ | with_reducible refine we_non ?_ | with_reducible refine wa_cons ?_ | with_reducible refine wa_nil ?_
  | with_reducible refine wr_b0 ?_ | with_reducible refine wr_i0 ?_ | with_reducible refine wr_addI ?_ | with_reducible refine wu_neg ?_
  | with_reducible refine we_op ?_ | with_reducible refine we_un ?_ | with_reducible refine we_cb ?_ | with_reducible refine we_tup ?_ | with_reducible refine we_tupV ?_ | with_reducible refine we_chain ?_ | with_reducible refine we_chain3 ?_ | with_reducible refine we_andV ?_ | with_reducible refine we_orV ?_ | with_reducible refine we_notV ?_ | with_reducible refine we_if ?_
  | with_reducible refine wt_test ?_ | with_reducible refine wt_B ?_ | with_reducible refine wt_and ?_ | with_reducible refine wt_or ?_ | with_reducible refine wt_not ?_ | with_reducible refine wr_isNN ?_ | with_reducible refine wr_isN ?_ | with_reducible refine wr_isB ?_ | with_reducible refine wr_isNB ?_
  | with_reducible refine wc_max2 ?_ | with_reducible refine wc_min2 ?_ | with_reducible refine wc_isi (isi_int _) ?_ | with_reducible refine wc_isi (isi_bool _) ?_ | with_reducible refine wc_isi (isi_tuple _) ?_ | with_reducible refine wc_isi (isi_list _) ?_ | with_reducible refine wc_isi (isi_str _) ?_
  | with_reducible refine sx_seq ?_ | with_reducible refine sx_next ?_ | with_reducible refine sx_ret ?_ | with_reducible refine sx_drop ?_ | with_reducible refine sx_if ?_ | with_reducible refine sx_par ?_ | with_reducible refine wo_none ?_ | with_reducible refine wo_some ?_
  | with_reducible refine wg_name ?_ | with_reducible refine wgs_nil ?_ | with_reducible refine wgs_cons ?_ | with_reducible refine wg_tup rfl ?_
  | with_reducible refine wr_eqI ?_ | with_reducible refine wr_neI ?_
  | ((with_reducible refine' wc_len ?h ?_); (case h => first | exact .t _ | exact .l (.d _) | exact .of | exact .l (.m rfl)))
  | ((with_reducible refine' wr_ix ?h1 ?h2 ?_); (case h1 => exact .l (.m rfl)); (case h2 => rfl))
  | with_reducible refine wgcs_nil ?_ | with_reducible refine wgcs_cons ?_ | with_reducible refine wgc_tup rfl ?_ | with_reducible refine wgc_name (by decide) ?_ | with_reducible refine we_v ?_ | with_reducible refine ⟨_, rfl, ?_⟩ | with_reducible refine dec_t ?_ | with_reducible refine dec_f ?_ | with_reducible refine dec_nt ?_ | with_reducible refine dec_nf ?_ | with_reducible refine And.intro rfl ?_))
local macro_rules | `(tactic| walk_at "go") => `(tactic| repeat walk_at "ev")
mutual
theorem eqv_self : ∀ {m : Nat} {d : PyData}, OkD m d → PyData.eqv d d = true
  | m, .none, _ => by simp [PyData.eqv]
  | m, .bool _, _ => by simp [PyData.eqv]
  | m, .int _, _ => by simp [PyData.eqv]
  | m, .str _, _ => by simp [PyData.eqv]
  | m + 1, .list xs, h => by rw [eqv_l]; exact eqvAll_self h.2
  | m + 1, .tuple xs, h => by rw [eqv_t]; exact eqvAll_self h.2
  | 0, .list _, h => by exact h.elim
  | 0, .tuple _, h => by exact h.elim
  | 0, .dict _, h => by exact h.elim
  | m + 1, .dict _, h => by exact h.elim
theorem eqvAll_self : ∀ {m : Nat} {xs : List PyData}, (∀ x ∈ xs, OkD m x) → PyData.eqvAll xs xs = true
  | m, [], _ => by simp [PyData.eqvAll]
  | m, x :: xs, h => by rw [PyData.eqvAll, eqv_self (h x (by simp)), eqvAll_self fun y hy => h y (List.mem_cons_of_mem _ hy)]; rfl
end
section
variable {K : PySem.W.Frag} {Pg : Program} {w : World} {rs : List Res} {μ : List MO} {P : PyData → List MO → Prop}
/-- two that are the same -/
theorem wr_eqSame {m : Nat} {a b : Res} {d : PyData} {Pr : Res → List MO → Prop} (h : OkD m d) (hm : m ≤ 60) (h1 : RdAs μ a d) (h2 : RdAs μ b d) (p : Pr (.d (.bool true)) μ) : WR K (rEqD K) a b μ Pr := wr_eqX h1 h2 (h.shp.ok (by omega)) (h.shp.ok (by omega)) (by rw [eqv_self h]; exact p)
theorem wr_neSame {m : Nat} {a b : Res} {d : PyData} {Pr : Res → List MO → Prop} (h : OkD m d) (hm : m ≤ 60) (h1 : RdAs μ a d) (h2 : RdAs μ b d) (p : Pr (.d (.bool false)) μ) : WR K (rNeD K) a b μ Pr := wr_neX h1 h2 (h.shp.ok (by omega)) (h.shp.ok (by omega)) (by rw [eqv_self h]; exact p)
/-! ### fits -/
def S_law_fits : Spec := fun rs μ P => ∃ (b : Bool) (ns : List Int), rs = [.d (seqOf b (nums ns))] ∧ ns.length ≤ 60 ∧ μ = [] ∧ P (.bool (good ns (-1) 10000000000)) []
/- _law_fits: slots 0 row, 1 lasts, 2 card, 3 more, 4 up, 5 down -/
def R_law_fits (K : PySem.W.Frag) (Pg : Program) (w : World) : TS :=
    (tSeq (tAsg (tLst (tCons (tTup (tCons (tUn (rU fun i => .int (-i)) (tC (.int 1))) (tCons (tOp (rI CPow fun i j => .int (i ^ j.toNat)) (tC (.int 10)) (tC (.int 10))) tNil))) tNil)) (gName 1))
    (tSeq (tFor (iSeq K (tVar 0)) (gName 2) (tSeq (tAsg (tLst tNil) (gName 3))
    (tSeq (tFor (iSeq K (tVar 1)) (gTup K 2 (gCons (gName 4) (gCons (gName 5) gNil))) (tSeq (tIfS (tAnd (tTest (tOp (rI0 fun i j => .bl (decide (j < i))) (tVar 2) (tVar 4))) (tTest (tOp (rNotInX K) (tTup (tCons (tVar 2) (tCons (tVar 5) tNil))) (tVar 3)))) (tDrop (tBM K "list" rAppend (tVar 3) (tCons (tTup (tCons (tVar 2) (tCons (tVar 5) tNil))) tNil))) tNext)
    (tIfS (tAnd (tTest (tOp (rI0 fun i j => .bl (decide (i < j))) (tVar 2) (tVar 5))) (tTest (tOp (rNotInX K) (tTup (tCons (tVar 4) (tCons (tVar 2) tNil))) (tVar 3)))) (tDrop (tBM K "list" rAppend (tVar 3) (tCons (tTup (tCons (tVar 4) (tCons (tVar 2) tNil))) tNil))) tNext)))
    (tAsg (tVar 3) (gName 1)))))
    (tRet (tOp (rNeD K) (tVar 1) (tLst tNil)))))
theorem lastD_inj {p q : Int × Int} (h : lastD p = lastD q) : p = q := by
  obtain ⟨a, b⟩ := p
  obtain ⟨c, d⟩ := q
  injection h with h
  injection h with h1 h2
  injection h2 with h2 _
  injection h1 with h1
  injection h2 with h2
  dsimp only at h1 h2
  rw [h1, h2]
theorem plain_last (p : Int × Int) : plainD (lastD p) = true := rfl
theorem any_last (M : List (Int × Int)) (p : Int × Int) : ((M.map lastD).any fun z => PyData.eqv z (lastD p)) = decide (p ∈ M) := by
  rw [List.any_map, Bool.eq_iff_iff, List.any_eq_true, decide_eq_true_eq]
  constructor
  · rintro ⟨q, hq, h⟩
    have h : PyData.eqv (lastD q) (lastD p) = true := h
    rw [eqv_iff (plain_last _) (plain_last _)] at h
    exact lastD_inj h ▸ hq
  · exact fun h => ⟨p, h, (eqv_iff (plain_last _) (plain_last _)).mpr rfl⟩
theorem shp_last (p : Int × Int) : Shp 1 (lastD p) := shp_tup fun x hx => by
  simp only [List.mem_cons, List.not_mem_nil, or_false] at hx
  rcases hx with rfl | rfl <;> exact shp_int _
theorem shp_lasts {M : List (Int × Int)} : ∀ x ∈ M.map lastD, Shp 1 x := fun x hx => by
  obtain ⟨p, _, rfl⟩ := List.mem_map.mp hx
  exact shp_last p
def boxL (ns : List Int) : List (Int × Int) := (-1 :: ns).flatMap fun u => (10000000000 :: ns).map fun d => (u, d)
theorem box_mem {ns : List Int} {p : Int × Int} : p ∈ boxL ns ↔ p.1 ∈ -1 :: ns ∧ p.2 ∈ 10000000000 :: ns := by
  unfold boxL
  rw [List.mem_flatMap]
  constructor
  · rintro ⟨u, hu, h⟩
    obtain ⟨d, hd, rfl⟩ := List.mem_map.mp h
    exact ⟨hu, hd⟩
  · rintro ⟨h1, h2⟩
    exact ⟨p.1, h1, List.mem_map.mpr ⟨p.2, h2, rfl⟩⟩
theorem box_len {ns : List Int} (h : ns.length ≤ 60) : (boxL ns).length ≤ 3721 := by
  refine Nat.le_trans (flatMap_len (m := ns.length + 1) fun u _ => by rw [List.length_map, List.length_cons]; exact Nat.le_refl _) ?_
  rw [List.length_cons]
  exact Nat.le_trans (Nat.mul_le_mul (show ns.length + 1 ≤ 61 by omega) (show ns.length + 1 ≤ 61 by omega)) (by decide)
structure Lasts (ns : List Int) (M : List (Int × Int)) : Prop where
  nd : M.Nodup
  box : ∀ p ∈ M, p ∈ boxL ns
theorem Lasts.len {ns : List Int} {M : List (Int × Int)} (h : Lasts ns M) (hn : ns.length ≤ 60) : M.length ≤ 3721 := Nat.le_trans (len_le_of_nodup h.nd h.box) (box_len hn)
theorem Lasts.snoc {ns : List Int} {M : List (Int × Int)} {p : Int × Int} (h : Lasts ns M) (h1 : p ∉ M) (h2 : p ∈ boxL ns) : Lasts ns (M ++ [p]) := ⟨by
  rw [List.nodup_append]
  exact ⟨h.nd, by simp, fun a ha b hb => by rw [List.mem_singleton.mp hb]; exact fun e => h1 (e ▸ ha)⟩, fun q hq => by
  rcases List.mem_append.mp hq with hq | hq
  · exact h.box q hq
  · rw [List.mem_singleton.mp hq]; exact h2⟩
theorem sx_law_fits (h : S_law_fits rs μ P) : SX K μ.length (R_law_fits K Pg w) (endsOf μ.length P) (startD 6 rs) μ := by
  obtain ⟨b, ns, rfl, hl, rfl, h⟩ := h
  unfold R_law_fits
  refine sx_seq (sx_asg (we_new (wn_lst ?_)))
  walk_at "go"
  refine wr_i (cpow (by decide) (by decide) (by decide)) ?_
  walk_at "go"
  refine ⟨[_, _], rfl, size_le (by simp), ?_⟩
  walk_at "go"
  refine ⟨[_], rfl, size_le (by simp), ?_⟩
  refine sx_seq (sx_for (wi_seqS ?_))
  walk_at "go"
  refine ⟨b, _, rfl, fun i ds' μ' => ∃ (M : List (Int × Int)) (a2 a3 a4 a5 : Option Res), Lasts ns M ∧ ((∃ p ∈ M, good (ns.drop i) p.1 p.2 = true) ↔ good ns (-1) 10000000000 = true) ∧ ds' = [some (.d (seqOf b (nums ns))), some (.d (.list (M.map lastD))), a2, a3, a4, a5] ∧ μ' = [], ?_, ?_, ?_⟩
  · refine ⟨[(-1, 10000000000)], none, none, none, none, ⟨by simp, fun p hp => ?_⟩, ?_, rfl, rfl⟩
    · rw [List.mem_singleton.mp hp]
      exact box_mem.mpr ⟨by simp, by simp⟩
    · simp
  · rintro i d ds' μ' hi ⟨M, a2, a3, a4, a5, hM, hg, rfl, rfl⟩
    rw [List.getElem?_map] at hi
    obtain ⟨c, hc, rfl⟩ := Option.map_eq_some_iff.mp hi
    have hcm : c ∈ ns := List.mem_of_getElem? hc
    have hdrop : ns.drop i = c :: ns.drop (i + 1) := by
      obtain ⟨hil, rfl⟩ := List.getElem?_eq_some_iff.mp hc
      exact List.drop_eq_getElem_cons hil
    refine wg_name (sx_seq (sx_asgM (Nat.zero_le _) (wn_lst ?_)))
    walk_at "go"
    refine ⟨[], rfl, size_le (by simp), _, .refl _, ?_⟩
    refine sx_seq (sx_for (wi_seqS ?_))
    walk_at "go"
    refine ⟨false, _, rfl, fun j ds' μ' => ∃ (N : List (Int × Int)) (a4 a5 : Option Res), Lasts ns N ∧ (∀ p, p ∈ N ↔ ∃ q ∈ M.take j, StepL c q p) ∧ ds' = [some (.d (seqOf b (nums ns))), some (.d (.list (M.map lastD))), some (.d (.int c)), some (.m 0), a4, a5] ∧ μ' = [MO.lst (N.map lastD)], ?_, ?_, ?_⟩
    · refine ⟨[], _, _, ⟨.nil, fun p hp => (by cases hp)⟩, fun p => ⟨fun hp => (by cases hp), fun ⟨q, hq, _⟩ => by simp at hq⟩, rfl, rfl⟩
    · rintro j d ds' μ' hj ⟨N, b4, b5, hN, hs, rfl, rfl⟩
      rw [List.getElem?_map] at hj
      obtain ⟨q, hq, rfl⟩ := Option.map_eq_some_iff.mp hj
      obtain ⟨u, dn⟩ := q
      have hqb := box_mem.mp (hM.box _ (List.mem_of_getElem? hq))
      have etake : M.take (j + 1) = M.take j ++ [(u, dn)] := by rw [List.take_add_one, hq]; rfl
      refine wg_tup rfl (wgs_cons (wg_name (wgs_cons (wg_name (wgs_nil ?_)))))
      -- a step: a pair that may come in
      have key : ∀ (N : List (Int × Int)) (p : Int × Int) (cond : Bool) (t1 t2 : TE) (tt : TE) (D : DEnds), Lasts ns N → p ∈ boxL ns →
          (∀ Pr, Pr (.d (.bool cond)) [MO.lst (N.map lastD)] → WE K tt [some (.d (seqOf b (nums ns))), some (.d (.list (M.map lastD))), some (.d (.int c)), some (.m 0), some (.d (.int u)), some (.d (.int dn))] [MO.lst (N.map lastD)] Pr) →
          (∀ (N' : List (Int × Int)) Pr, Pr (.d (.int p.1)) [MO.lst (N'.map lastD)] → WE K t1 [some (.d (seqOf b (nums ns))), some (.d (.list (M.map lastD))), some (.d (.int c)), some (.m 0), some (.d (.int u)), some (.d (.int dn))] [MO.lst (N'.map lastD)] Pr) →
          (∀ (N' : List (Int × Int)) Pr, Pr (.d (.int p.2)) [MO.lst (N'.map lastD)] → WE K t2 [some (.d (seqOf b (nums ns))), some (.d (.list (M.map lastD))), some (.d (.int c)), some (.m 0), some (.d (.int u)), some (.d (.int dn))] [MO.lst (N'.map lastD)] Pr) →
          (∀ (N' : List (Int × Int)), Lasts ns N' → (∀ x, x ∈ N' ↔ x ∈ N ∨ (cond = true ∧ x = p)) → D.nx [some (.d (seqOf b (nums ns))), some (.d (.list (M.map lastD))), some (.d (.int c)), some (.m 0), some (.d (.int u)), some (.d (.int dn))] [MO.lst (N'.map lastD)]) →
          SX K 0 (tIfS (tAnd (tTest tt) (tTest (tOp (rNotInX K) (tTup (tCons t1 (tCons t2 tNil))) (tVar 3)))) (tDrop (tBM K "list" rAppend (tVar 3) (tCons (tTup (tCons t1 (tCons t2 tNil))) tNil))) tNext) D [some (.d (seqOf b (nums ns))), some (.d (.list (M.map lastD))), some (.d (.int c)), some (.m 0), some (.d (.int u)), some (.d (.int dn))] [MO.lst (N.map lastD)] := fun N p cond t1 t2 tt D hN hp htt h1 h2 hD => by
        refine sx_if (wt_and (wt_test (htt _ ⟨_, rfl, fun hc1 => ?_, fun hc1 => ⟨fun z => (by cases z), fun _ => ?_⟩⟩)))
        · refine wt_test (we_op (we_tup (wa_cons (h1 N _ (wa_cons (h2 N _ (wa_nil ⟨[_, _], rfl, size_le (by simp), we_var rfl ?_⟩)))))))
          refine wr_notInL (d := lastD p) (.m rfl) (shp_last p).ok ((shp_lst shp_lasts).ok (by decide)) ?_
          rw [any_last]
          refine ⟨_, rfl, fun h3 => ?_, fun h3 => ?_⟩
          · have h3' : p ∉ N := by simpa using h3
            refine sx_drop (we_bm (we_var rfl ⟨⟨_, .m rfl⟩, wa_cons (we_tup (wa_cons (h1 N _ (wa_cons (h2 N _ (wa_nil ⟨[_, _], rfl, size_le (by simp), wa_nil ?_⟩))))))⟩))
            refine wm_append rfl (size_big (by rw [List.length_map]; have := hN.len hl; omega)) ?_
            have e : N.map lastD ++ [lastD p] = (N ++ [p]).map lastD := by rw [List.map_append]; rfl
            show D.nx _ [MO.lst (N.map lastD ++ [lastD p])]
            rw [e]
            refine hD _ (hN.snoc h3' hp) fun x => ?_
            rw [List.mem_append, List.mem_singleton]
            simp [hc1]
          · have h3' : p ∈ N := by simpa using h3
            refine sx_next (hD N hN fun x => ?_)
            refine ⟨.inl, fun z => ?_⟩
            rcases z with z | ⟨_, rfl⟩
            · exact z
            · exact h3'
        · refine sx_next (hD N hN fun x => ?_)
          refine ⟨.inl, fun z => ?_⟩
          rcases z with z | ⟨e, _⟩
          · exact z
          · rw [hc1] at e; cases e
      refine sx_seq (key N (c, dn) (decide (u < c)) _ _ _ _ hN (box_mem.mpr ⟨List.mem_cons_of_mem _ hcm, hqb.2⟩) (fun Pr hp => ?_) (fun N' Pr hp => we_var rfl hp) (fun N' Pr hp => we_var rfl hp) fun N1 hN1 hm1 => ?_)
      · refine we_op (we_var rfl (we_var rfl (wr_b0 hp)))
      refine key N1 (u, c) (decide (c < dn)) _ _ _ _ hN1 (box_mem.mpr ⟨hqb.1, List.mem_cons_of_mem _ hcm⟩) (fun Pr hp => ?_) (fun N' Pr hp => we_var rfl hp) (fun N' Pr hp => we_var rfl hp) fun N2 hN2 hm2 => ?_
      · refine we_op (we_var rfl (we_var rfl (wr_b0 hp)))
      refine ⟨N2, _, _, hN2, fun p => ?_, rfl, rfl⟩
      rw [hm2, hm1, hs, etake]
      simp only [List.mem_append, List.mem_singleton, decide_eq_true_eq]
      constructor
      · rintro ((⟨q, hq, st⟩ | ⟨h1, rfl⟩) | ⟨h1, rfl⟩)
        · exact ⟨q, .inl hq, st⟩
        · exact ⟨(u, dn), .inr rfl, .inl ⟨h1, rfl⟩⟩
        · exact ⟨(u, dn), .inr rfl, .inr ⟨h1, rfl⟩⟩
      · rintro ⟨q, hq | rfl, st⟩
        · exact .inl (.inl ⟨q, hq, st⟩)
        · rcases st with ⟨h1, rfl⟩ | ⟨h1, rfl⟩
          · exact .inl (.inr ⟨h1, rfl⟩)
          · exact .inr ⟨h1, rfl⟩
    · rintro ds' μ' ⟨N, b4, b5, hN, hs, rfl, rfl⟩
      rw [List.length_map, List.take_length] at hs
      refine sx_frz (μ0 := []) (Nat.zero_le _) (sx_asg (we_var rfl ?_))
      refine ⟨N, _, _, frz 0 (some (.d (.list (N.map lastD)))) b4, frz 0 (some (.d (.list (N.map lastD)))) b5, hN, ?_, rfl, rfl⟩
      rw [← hg, hdrop]
      constructor
      · rintro ⟨p, hp, g⟩
        obtain ⟨q, hq, st⟩ := (hs p).mp hp
        exact ⟨q, hq, good_step.mpr ⟨p, st, g⟩⟩
      · rintro ⟨q, hq, g⟩
        obtain ⟨p, st, g⟩ := good_step.mp g
        exact ⟨p, (hs p).mpr ⟨q, hq, st⟩, g⟩
  · rintro ds' μ' ⟨M, a2, a3, a4, a5, hM, hg, rfl, rfl⟩
    rw [List.length_map, List.drop_length] at hg
    walk_at "go"
    refine we_new (wn_lst ?_)
    walk_at "go"
    refine ⟨[], rfl, size_le (by simp), ?_⟩
    refine wr_neNil (.d _) shp_lasts (by decide) (ret_d ?_)
    have e : (!(M.map lastD).isEmpty) = good ns (-1) 10000000000 := by
      rw [Bool.eq_iff_iff, ← hg]
      cases M with
      | nil => simp
      | cons p M => simp [good]
    rw [e]
    exact h
end
end Wv

set_option Elab.async false
set_option linter.all false
set_option maxRecDepth 100000
set_option maxHeartbeats 2000000
namespace Wv
open PySem PySem.Spec PyProof.Rows L2
/-! ### min of a list of tuples of ints -/
section
variable {prog : Program} {w : World} {A : Around} {R : Result → Shared → Prop} {I : Addr} {fp wr : List Addr} {n : Nat} {Pv : Nat → Value → Prop} {St : Nat → Heap → Prop} {G : Heap → Prop} {bt : Nat → Nat → Bool}
/-- a comparison that asks something of the heap -/
def CmpG (prog : Program) (w : World) (A : Around) (Pv : Nat → Value → Prop) (bt : Nat → Nat → Bool) (G : Heap → Prop) : Prop :=
  ∀ i j x y (s : Shared) (Q : Value → Shared → Prop) (E : Value → Shared → Prop), Pv i x → Pv j y → G s.heap → Q (.bool (bt i j)) s → wpAny (model prog w) A (richCompare .Lt x y) Q E s
theorem minG_loop (W : Walks prog w A.in1 I fp wr n Pv St) (cmp : CmpG prog w A.in1 Pv bt G) {L : Addr} (nL : L ∉ fp) (gk : ∀ h h' : Heap, G h → (∀ b o, b ∉ wr → b ≠ L → h.get? b = some o → h'.get? b = some o) → G h') :
    ∀ (m j : Nat) (s : Shared) (best : Value) (c : Nat), n = j + 1 + m → St (j + 1) s.heap → Pv (argBest bt j) best → G s.heap → s.heap.get? L = some { cls := .type "list", dict := none, data := .seq #[best, best] c, slots := #[] } →
    (∀ v h' tk, Pv (argBest bt (n - 1)) v → (∀ b o, b ∉ wr → b ≠ L → s.heap.get? b = some o → h'.get? b = some o) → R (.ok (.ret v)) { s with heap := h', toks := tk }) →
    codeAny (model prog w) A (.builtin "min.loop" ⟨[.ref I, .none, .ref L], []⟩) R s := by
  have nw : L ∉ wr := fun z => nL (W.sub _ z)
  have nm : (toString "min" ++ toString ".loop" : String) = "min.loop" := by decide
  intro m
  induction m with
  | zero =>
    intro j s best c en st pb gs oL fin
    refine codeAny_builtin PySem.F.entry_min_loop ?_
    rw [Around.under_plainId PySem.F.plain_min_loop _]
    refine wpAny_bind (m := seqItems? (.ref L)) (wpAny_seqItems oL rfl (wpAny_bind (m := tryCatch (pyNext (.ref I)) _) (wpAny_tryCatch (W.done s _ _ (by rw [en]; exact st) fun h' tk kp => ?_))))
    refine wpAny_bind (m := updateSeq L (fun _ => #[])) (wpAny_updateSeq (kp L _ nw oL) rfl (wpAny_bind (wpAny_letGo (wpAny_pure ?_))))
    exact fin best _ tk (by rw [en]; exact pb) fun b o bw bL e => (Heap.get?_update_other _ _ (Ne.symm bL)).trans (kp b o bw e)
  | succ m ih =>
    intro j s best c en st pb gs oL fin
    refine codeAny_builtin PySem.F.entry_min_loop ?_
    rw [Around.under_plainId PySem.F.plain_min_loop _]
    refine wpAny_bind (m := seqItems? (.ref L)) (wpAny_seqItems oL rfl (wpAny_bind (m := tryCatch (pyNext (.ref I)) _) (wpAny_tryCatch (W.item (j + 1) s _ _ (by omega) st fun v h' tk pv st' kp => ?_))))
    have oL' := kp L _ nw oL
    have gs' : G h' := gk _ _ gs fun b o bw _ e => kp b o bw e
    refine wpAny_bind (m := tryCatch (holding [v, v] (richCompare .Lt v best >>= _)) _) (wpAny_tryCatch (wpAny_holding (wpAny_bind (cmp (j + 1) (argBest bt j) v best _ _ _ pv pb gs' ?_))))
    refine wpAny_bind (wpAny_holding (wpAny_truthy_bool (wpAny_bind (wpAny_letGo (wpAny_pure ?_)))))
    cases less : bt (j + 1) (argBest bt j) with
    | true =>
      simp only [if_true]
      refine wpAny_bind (wpAny_updateSeq oL' rfl (wpAny_bind (wpAny_letGo ?_)))
      rw [nm]
      refine wpAny_pure ⟨plainId_quiet PySem.F.plain_min_loop _, ih (j + 1) _ v _ (by omega) (W.frame _ _ _ st' fun b bf o e => (Heap.get?_update_other _ _ (fun z : L = b => nL (z ▸ bf))).trans e) (by rw [argBest, less]; exact pv) (gk _ _ gs' fun b o _ bL e => (Heap.get?_update_other _ _ (Ne.symm bL)).trans e) (Heap.get?_update_self _ oL' rfl) fun v' h2 tk2 pv' kp' => fin v' h2 tk2 pv' fun b o bw bL e => kp' b o bw bL ?_⟩
      exact (Heap.get?_update_other _ _ (Ne.symm bL)).trans (kp b o bw e)
    | false =>
      simp only [Bool.false_eq_true, if_false]
      refine wpAny_bind (wpAny_letGo ?_)
      rw [nm]
      exact wpAny_pure ⟨plainId_quiet PySem.F.plain_min_loop _, ih (j + 1) _ best c (by omega) st' (by rw [argBest, less]; exact pb) gs' oL' fun v' h2 tk2 pv' kp' => fin v' h2 tk2 pv' fun b o bw bL e => kp' b o bw bL (kp b o bw e)⟩
end
section
variable {prog : Program} {w : World} {A : Around} {E : Value → Shared → Prop} {s : Shared}
/-- min over a list, the comparison asking G of the heap -/
theorem call_minG {l : Addr} {items : Array Value} {G : Heap → Prop} {bt : Nat → Nat → Bool} {Q : Value → Shared → Prop} (hh : A.handled = none) (hl : s.heap.IsList l items) (hn : 0 < items.size)
    (cmp : CmpG prog w A.in1 (fun i v => items[i]? = some v) bt G) (g0 : G s.heap) (gk : ∀ h h' : Heap, G h → (∀ b o, b < s.heap.objs.size → h.get? b = some o → h'.get? b = some o) → G h')
    (h : ∀ v h' tk, items[argBest bt (items.size - 1)]? = some v → (∀ b o, s.heap.get? b = some o → h'.get? b = some o) → Q v { s with heap := h', toks := tk }) :
    wpAny (model prog w) A (call (.builtin "min") [.ref l]) Q E s := by
  have nm : (toString "min" ++ toString ".loop" : String) = "min.loop" := by decide
  refine call_function_tree PySem.F.kind_min PySem.F.plain_min PySem.F.entry_min (PySem.F.args_min1 _) ?_
  refine wpAny_bind (m := Builtin.Builtins.bindParams "min" ["key", "default"] 0 ⟨[], []⟩) (wpAny_of_eq (a := [none, none]) rfl (wpAny_bind (wpAny_pure (wpAny_bind (wpAny_pyIter_list hl ?_)))))
  refine wpAny_bind (wpAny_newObj_type ?_)
  rw [nm]
  obtain ⟨ol, hol, hcl, nl, _⟩ := id hl
  have llt : l < s.heap.objs.size := Heap.lt_size hol
  have hz : (s.heap.push { cls := .type "list_iterator", data := .fields #[.ref l, .int 0 0] }).objs.size = s.heap.objs.size + 1 := Heap.size_push ..
  have W := Walks.list (prog := prog) (w := w) (A := A.in1) (by simp [hh]) s.heap.objs.size l (Nat.ne_of_lt llt) items
  have nL : (s.heap.objs.size + 1) ∉ [s.heap.objs.size, l] := by
    simp only [List.mem_cons, List.not_mem_nil, or_false, not_or]
    exact ⟨Nat.succ_ne_self _, Nat.ne_of_gt (Nat.lt_succ_of_lt llt)⟩
  have gk' : ∀ h h' : Heap, G h → (∀ b o, b ∉ [s.heap.objs.size] → b ≠ s.heap.objs.size + 1 → h.get? b = some o → h'.get? b = some o) → G h' := fun h h' g k => gk h h' g fun b o bl e => k b o (by simp; omega) (by omega) e
  rw [hz]
  -- the first one
  refine wpAny_pure ⟨plainId_quiet PySem.F.plain_min_loop _, codeAny_builtin PySem.F.entry_min_loop ?_⟩
  rw [Around.under_plainId PySem.F.plain_min_loop _]
  refine wpAny_bind (m := seqItems? (.ref (s.heap.objs.size + 1))) (wpAny_seqItems (by rw [← hz]; exact Heap.get?_push_size _ rfl) rfl ?_)
  refine wpAny_bind (m := tryCatch (pyNext (.ref s.heap.objs.size)) _) (wpAny_tryCatch (W.item 0 _ _ _ hn ⟨⟨_, Heap.get?_push_of_some _ (Heap.get?_push_size _ rfl), rfl, rfl⟩, (hl.push _).push _⟩ fun v h' tk pv st' kp => ?_))
  have kold : ∀ b o, s.heap.get? b = some o → h'.get? b = some o := fun b o e => kp b o (fun z => Nat.ne_of_lt (Heap.lt_size e) (List.mem_singleton.mp z)) (Heap.get?_push_of_some _ (Heap.get?_push_of_some _ e))
  have oL := kp (s.heap.objs.size + 1) _ (by simp) (by rw [← hz]; exact Heap.get?_push_size _ rfl)
  refine wpAny_bind (m := updateSeq (s.heap.objs.size + 1) (fun _ => #[v, v])) (wpAny_updateSeq oL rfl ?_)
  rw [nm]
  refine wpAny_pure ⟨plainId_quiet PySem.F.plain_min_loop _, minG_loop (A := A) W cmp nL gk' (items.size - 1) 0 _ v _ (by omega) (W.frame _ _ _ st' fun b bf o e => (Heap.get?_update_other _ _ (fun z : s.heap.objs.size + 1 = b => nL (z ▸ bf))).trans e) pv (gk _ _ g0 fun b o bl e => (Heap.get?_update_other _ _ (Nat.ne_of_gt (Nat.lt_succ_of_lt bl))).trans (kold b o e)) (Heap.get?_update_self _ oL rfl) fun v' h2 tk2 pv' kp' => ?_⟩
  refine h v' h2 tk2 pv' fun b o e => ?_
  have lt := Heap.lt_size e
  exact kp' b o (fun z => Nat.ne_of_lt lt (List.mem_singleton.mp z)) (Nat.ne_of_lt (Nat.lt_succ_of_lt lt)) ((Heap.get?_update_other _ _ (Nat.ne_of_gt (Nat.lt_succ_of_lt lt))).trans (kold b o e))
end
theorem lexLt_trans : ∀ {a b c : List Int}, HT.lexLt a b = true → HT.lexLt b c = true → HT.lexLt a c = true
  | [], [], _, h, _ => by cases h
  | [], _ :: _, [], _, k => by cases k
  | [], _ :: _, _ :: _, _, _ => rfl
  | _ :: _, [], _, h, _ => by cases h
  | _ :: _, _ :: _, [], _, k => by cases k
  | x :: a, y :: b, z :: c, h, k => by
    rw [HT.lexLt_cons] at h k ⊢
    by_cases e1 : x = y
    · rw [if_pos e1] at h
      by_cases e2 : y = z
      · rw [if_pos e2] at k; rw [if_pos (e1.trans e2)]; exact lexLt_trans h k
      · rw [if_neg e2, decide_eq_true_eq] at k
        rw [if_neg (by omega), decide_eq_true_eq]; omega
    · rw [if_neg e1, decide_eq_true_eq] at h
      by_cases e2 : y = z
      · rw [if_neg (by omega), decide_eq_true_eq]; omega
      · rw [if_neg e2, decide_eq_true_eq] at k
        rw [if_neg (by omega), decide_eq_true_eq]; omega
theorem best_least (f : Nat → List Int) : ∀ k j, j ≤ k → HT.lexLt (f j) (f (argBest (fun a b => HT.lexLt (f a) (f b)) k)) = false
  | 0, j, h => by
    rw [Nat.le_zero.mp h]
    cases e : HT.lexLt (f 0) (f (argBest _ 0)) with
    | false => rfl
    | true =>
      have : ∀ l : List Int, HT.lexLt l l = false := fun l => by
        induction l with
        | nil => rfl
        | cons x l ih => rw [HT.lexLt_cons, if_pos rfl, ih]
      rw [show argBest (fun a b => HT.lexLt (f a) (f b)) 0 = 0 from rfl, this] at e
      cases e
  | k + 1, j, h => by
    have irr : ∀ l : List Int, HT.lexLt l l = false := fun l => by
      induction l with
      | nil => rfl
      | cons x l ih => rw [HT.lexLt_cons, if_pos rfl, ih]
    rw [argBest]
    split
    · rename_i lt
      by_cases hj : j = k + 1
      · rw [hj]; exact irr _
      · have ih := best_least f k j (by omega)
        cases e : HT.lexLt (f j) (f (k + 1)) with
        | false => rfl
        | true => rw [lexLt_trans e lt] at ih; cases ih
    · rename_i lt
      by_cases hj : j = k + 1
      · rw [hj]; simpa using lt
      · exact best_least f k j (by omega)
theorem best_le (bt : Nat → Nat → Bool) : ∀ k, argBest bt k ≤ k
  | 0 => Nat.le_refl _
  | k + 1 => by
    rw [argBest]
    split
    · exact Nat.le_refl _
    · exact Nat.le_succ_of_le (best_le bt k)
/-- min(xs), xs a list of tuples of ints -/
def rMinT (K : PySem.W.Frag) : List V → Hp → VK → Prop := fun vs H Q => ∃ (a : Addr) (xs : List V) (ks : List (List Int)), vs = [V.ref a] ∧ SqL K H a xs ∧ 0 < xs.length ∧ xs.length = ks.length ∧
  (∀ (i : Nat) x k, xs[i]? = some x → ks[i]? = some k → ∃ t, x = .ref t ∧ SqT K H t (k.map V.int)) ∧ ∀ (i : Nat) x k, xs[i]? = some x → ks[i]? = some k → (∀ k' ∈ ks, HT.lexLt k' k = false) → Q x H
theorem cr_minT {X : Cx} (hu : X.A.units + 65 < cLine) (hc : X.calm = true) : CallR X (.builtin "min") (rMinT X.K) := by
  intro pins s σ H vs us Q I r h
  obtain ⟨a, xs, ks, rfl, hs, hpos, hlen, hit, q⟩ := h
  obtain ⟨its, rv, hl, _⟩ := I.list hs
  rw [Vals.ref1 r]
  have hvl : its.length = xs.length := rv.length.symm
  have each : ∀ (i : Nat) v, its[i]? = some v → ∃ x k, xs[i]? = some x ∧ ks[i]? = some k ∧ RelV x v := fun i v hv => by
    have hi : i < its.length := (List.getElem?_eq_some_iff.mp hv).1
    obtain ⟨u, hu, hr⟩ := rv.get (i := i) (List.getElem?_eq_getElem (show i < xs.length by omega))
    rw [hv] at hu; cases hu
    exact ⟨_, _, List.getElem?_eq_getElem (by omega), List.getElem?_eq_getElem (by omega), hr⟩
  refine call_minG (G := fun h => ∀ (i : Nat) v, its[i]? = some v → ∃ t ts, v = .ref t ∧ t < s.heap.objs.size ∧ IsTup h t ts ∧ IntsAre ts.toList (ks.getD i [])) (bt := fun i j => HT.lexLt (ks.getD i []) (ks.getD j [])) (I.ok.hd hc) hl.isList (by rw [List.size_toArray]; omega) ?cmp ?g0 ?gk ?fin
  case cmp =>
    intro i j x y s' Q' E' hx hy g q'
    obtain ⟨t1, ts1, rfl, _, p1, i1⟩ := g i x (by simpa using hx)
    obtain ⟨t2, ts2, rfl, _, p2, i2⟩ := g j y (by simpa using hy)
    exact HT.lt_tupInts p1 p2 i1 i2 (by simp; omega) q'
  case g0 =>
    intro i v hv
    obtain ⟨x, k, h1, h2, h3⟩ := each i v hv
    obtain ⟨t, rfl, st⟩ := hit i x k h1 h2
    cases h3
    obtain ⟨ts, r1, p1, _⟩ := I.tuple st
    refine ⟨t, ts.toArray, rfl, ?_, p1, ?_⟩
    · obtain ⟨o, ho, _⟩ := p1
      exact Heap.lt_size ho
    · rw [List.getD_eq_getElem?_getD, h2]
      exact intsAre_of r1
  case gk =>
    intro h h' g kp i v hv
    obtain ⟨t, ts, e, lt, p1, i1⟩ := g i v hv
    refine ⟨t, ts, e, lt, ?_, i1⟩
    obtain ⟨o, ho, rest⟩ := p1
    exact ⟨o, kp t o lt ho, rest⟩
  case fin =>
    intro v h' tk hv kp
    have hv' : its[argBest (fun i j => HT.lexLt (ks.getD i []) (ks.getD j [])) (its.length - 1)]? = some v := by simpa using hv
    obtain ⟨x, k, h1, h2, h3⟩ := each _ v hv'
    refine ⟨x, H, I.kept kp, h3, q _ x k h1 h2 fun k' hk' => ?_⟩
    obtain ⟨j, hj, rfl⟩ := List.getElem_of_mem hk'
    have := best_least (fun i => ks.getD i []) (its.length - 1) j (by omega)
    rw [List.getD_eq_getElem?_getD, List.getD_eq_getElem?_getD, h2, List.getElem?_eq_getElem hj] at this
    exact this
section
variable {K : PySem.W.Frag} {n : Nat} {ds : DSt} {μ : List MO} {te ta tb : TE} {O : Addr → Prop} {A : List Addr} {H : Hp} {P : Res → List MO → Prop} {a : Res}
theorem dq_tup_ints {H : Hp} {v : V} {ns : List Int} (h : Dq H v (.tuple (nums ns))) : ∃ t, v = .ref t ∧ H t = some (.tup (ns.map V.int)) := by
  cases h with
  | @tup t vs _ h1 h2 =>
    rw [dpAll_ints h2] at h1
    exact ⟨t, rfl, h1⟩
theorem wc_minT {qs : List (List Int)} (h : RdL μ a (qs.map fun q => .tuple (nums q))) (hne : 0 < qs.length) (p : ∀ q ∈ qs, (∀ q' ∈ qs, HT.lexLt q' q = false) → P (.d (.tuple (nums q))) μ) : WC K (rMinT K) [a] μ P := fun O A H vs w hr Q q => by
  cases hr with
  | cons r1 rr =>
    cases rr
    obtain ⟨ad, us, rfl, sq, hd⟩ := h.get w r1
    have hl := dpAll_len hd
    rw [List.length_map] at hl
    have each : ∀ (i : Nat) x k, us[i]? = some x → qs[i]? = some k → Dq (hid O H) x (.tuple (nums k)) := fun i x k h1 h2 => by
      obtain ⟨d, h3, h4⟩ := dpAll_get hd h1
      rw [List.getElem?_map, h2] at h3
      cases h3
      exact h4
    refine ⟨ad, us, qs, rfl, sq, by omega, hl, fun i x k h1 h2 => ?_, fun i x k h1 h2 hm => ?_⟩
    · obtain ⟨t, rfl, ht⟩ := dq_tup_ints (each i x k h1 h2)
      exact ⟨t, rfl, SqT.of (of_hid ht).2⟩
    · exact q _ _ μ H (.refl O A H) w (rp_d (each i x k h1 h2)) (p k (List.mem_of_getElem? h2) hm)
end
end Wv

set_option Elab.async false
set_option linter.all false
set_option maxRecDepth 100000
set_option maxHeartbeats 2000000
namespace Wv
open PySem PySem.Spec PyProof.Rows L2
/-! ### a, b, .. = a tuple or a list -/
def gSeq (K : PySem.W.Frag) (n : Nat) (t : TGs) : TG := fun v σ H Q => gTup K n t v σ H Q ∨ gUnl K n t v σ H Q
theorem pg_seq {X : Cx} {es : List Expr} {k : Nat} {t : TGs} {n : Nat} {pos : Pos} (hc : X.calm = true) (h : PGs X es t)
    (hn : (assignEach es X.env).length = n := by rfl) (hst : (assignEach es X.env).findIdx? (·.1) = none := by rfl) : PG X (.Tuple es k pos) (gSeq X.K n t) :=
  ⟨fun pins s σ H v u Q I r hw => hw.elim (fun hw => (pg_tup (k := k) (pos := pos) hc h hn hst).run pins s σ H v u Q I r hw) fun hw => (pg_unl (k := k) (pos := pos) hc h hn hst).run pins s σ H v u Q I r hw⟩
section
variable {K : PySem.W.Frag} {ds : DSt} {μ : List MO}
theorem wg_seq {gs : TGs} {k : Nat} {b : Bool} {xs : List PyData} {P : DSt → Prop} (hl : xs.length = k) (h : WGs K gs xs ds μ P) : WG K (gSeq K k gs) (seqOf b xs) ds μ P := fun σ O A H v e r Q q => by
  cases b with
  | true => exact .inl (wg_tup hl h σ O A H v e r Q q)
  | false =>
    cases r with
    | lst h1 h2 => exact .inr ⟨_, _, rfl, SqL.of (hid_le O H _ _ h1), by rw [dpAll_len h2]; exact hl, h σ O A H _ e h2 Q q⟩
end
end Wv

set_option Elab.async false
set_option linter.all false
set_option maxRecDepth 100000
set_option maxHeartbeats 2000000
namespace Wv
open PySem PySem.Spec PyProof.Rows L2
/-! ### sorted of data -/
abbrev srtD (ds : List PyData) : List PyData := ds.mergeSort (PySem.W.dataLe false id)
def rSortD (K : PySem.W.Frag) : List V → Hp → VK → Prop := fun vs H Q => ∃ (a : Addr) (xs : List V) (ds : List PyData) (S : V → PyData → Prop), vs = [V.ref a] ∧ SqL K H a xs ∧ PySem.W.EachIs (fun x d => Dp K H x d ∧ S x d) xs ds ∧ PySem.W.AllAlike ds ∧ PySem.W.Sortable ds ∧ (∀ d ∈ ds, d.depth ≤ 60) ∧
  ∀ (ys : List V) (p : Addr), PySem.W.EachIs S ys (srtD ds) → H p = none → Q (.ref p) (upd H p (.lst ys))
theorem each_of {R : V → PyData → Prop} : ∀ {xs : List V} {ds : List PyData} {us : List Value}, PySem.W.EachIs R xs ds → Vals xs us → PySem.W.EachIs (fun v d => ∃ x, RelV x v ∧ R x d) us ds
  | _, _, _, .nil, .nil => .nil
  | _, _, _, .cons h t, .cons r u => .cons ⟨_, r, h⟩ (each_of t u)
theorem each_back {R : V → PyData → Prop} : ∀ {us : List Value} {ds : List PyData}, PySem.W.EachIs (fun v d => ∃ x, RelV x v ∧ R x d) us ds → ∃ ys : List V, Vals ys us ∧ PySem.W.EachIs R ys ds
  | _, _, .nil => ⟨[], .nil, .nil⟩
  | _, _, .cons ⟨x, r, h⟩ t => by
    obtain ⟨ys, h2, h3⟩ := each_back t
    exact ⟨x :: ys, .cons r h2, .cons h h3⟩
theorem each_imp {α β : Type} {R S : α → β → Prop} (h : ∀ a b, R a b → S a b) : ∀ {l : List α} {m : List β}, PySem.W.EachIs R l m → PySem.W.EachIs S l m
  | _, _, .nil => .nil
  | _, _, .cons x t => .cons (h _ _ x) (each_imp h t)
theorem cr_sortD {X : Cx} (hu : X.A.units + 65 < cLine) : CallR X (.builtin "sorted") (rSortD X.K) := by
  intro pins s σ H vs us Q I r h
  obtain ⟨a, xs, ds, S, rfl, hs, hd, hal, hk, hdp, q⟩ := h
  obtain ⟨its, rv, hl, hz⟩ := I.list hs
  rw [Vals.ref1 r]
  have hlen : xs.length = ds.length := hd.length
  have E1 := each_of hd rv
  refine PySem.W.sorted_data (enc := id) hl.isList E1 (each_imp (fun v d ⟨x, r, hx⟩ => Dp.reads I d x v hx.1 r) E1) (by rw [List.map_id]; exact hal) (by rw [List.map_id]; exact hk) (by rw [← hlen]; exact hz) (fun b hb => by have := hdp b hb; show X.A.units + 2 + b.depth < cLine; omega) fun out ho eo => ?_
  obtain ⟨ys, h2, h3⟩ := each_back eo
  obtain ⟨ep, he'⟩ := sortedAll_at s.heap its out.toArray
  have hyl : ys.length ≤ sizeLine := by rw [h2.length, ho, ← hlen]; exact hz
  exact ⟨.ref _, upd H (s.heap.objs.size + 1) (.lst ys), I.laid (t' := s.toks) (fun _ _ => sortedAll_old) (Nat.le_succ _) ⟨hyl, out, ep, h2, he'⟩, rfl, q ys _ (each_imp (fun _ _ h => h.2) h3) (I.hok.fresh (Nat.le_succ _))⟩
/-! ### list(d), d a dict of nested tuples -/
def rLstM (P : Program) (w : World) : List V → Hp → VK → Prop := fun vs H Q => ∃ (a : Addr) (es : List Ent), vs = [V.ref a] ∧ H a = some (memoO P w a es) ∧ es.length ≤ sizeLine ∧ ∀ p, H p = none → Q (.ref p) (upd H p (.lst (es.map fun e => .ref e.2.1)))
theorem vals_keys : ∀ {es : List Ent} {xs : List (NestedKey × Addr × Value)}, KX es xs → Vals (es.map fun e => V.ref e.2.1) (xs.map fun x => Value.ref x.2.1)
  | [], [], _ => .nil
  | e :: es, x :: xs, h => by
    cases h with
    | cons h t => exact .cons (show Value.ref x.2.1 = .ref e.2.1 by rw [h.2.1]) (vals_keys t)
theorem call_lstM {X : Cx} (hc : X.calm = true) : CallR X (.type "list") (rLstM X.prog X.w) := by
  intro pins s σ H vs us Q I r h
  obtain ⟨a, es, rfl, ha, hz, q⟩ := h
  rw [Vals.ref1 r]
  obtain ⟨⟨xs, kx, hs, o, ds, ep, e1, e2, e3, e4, e5⟩, _⟩ := I.hok a _ ha
  have hdl : ds.size = es.length := by rw [← Array.length_toList, e4, List.length_map, KX.len kx]
  refine PySem.W.kdl_call (PySem.KdlSrc.rawDict (es := ds) (ep := ep) hs) (I.ok.hd hc) ⟨o, e1, e2, e3⟩ (by rw [hdl]; exact hz) fun h' tk acc c kp hS hit => ?_
  have eacc : acc.toList = xs.map fun x => Value.ref x.2.1 := by
    refine List.ext_getElem? fun i => ?_
    by_cases hi : i < ds.size
    · have h1 : i < acc.size := by rw [hit.1]; exact hi
      obtain ⟨hi', hv⟩ := hit.2 i acc[i] (Array.getElem?_eq_getElem h1)
      rw [Array.getElem?_toList, Array.getElem?_eq_getElem h1, hv]
      have : ds.toList[i]? = some ds[i] := by rw [Array.getElem?_toList, Array.getElem?_eq_getElem hi]
      rw [e4, List.getElem?_map] at this
      obtain ⟨x, hx, he⟩ := Option.map_eq_some_iff.mp this
      rw [List.getElem?_map, hx, ← he]
      rfl
    · rw [Array.getElem?_toList, Array.getElem?_eq_none (by rw [hit.1]; omega), List.getElem?_map, List.getElem?_eq_none (by rw [← KX.len kx, ← hdl]; omega)]
      rfl
  exact ⟨.ref _, _, I.laid (t' := tk) (o := .lst (es.map fun e => .ref e.2.1)) kp (Nat.le_refl _) ⟨by rw [List.length_map]; exact hz, acc.toList, c, by rw [eacc]; exact vals_keys kx, hS⟩, rfl, q _ (I.hok.fresh (Nat.le_refl _))⟩
section
variable {K : PySem.W.Frag} {n : Nat} {ds : DSt} {μ : List MO} {te ta tb : TE} {O : Addr → Prop} {A : List Addr} {H : Hp} {P : Res → List MO → Prop} {a : Res} {Pg : Program} {w : World} {tr : TA}
theorem each_dq {H : Hp} : ∀ {vs : List V} {ds : List PyData}, DqAll H vs ds → PySem.W.EachIs (Dq H) vs ds
  | _, _, .nil => .nil
  | _, _, .cons h t => .cons h (each_dq t)
theorem dq_each {H : Hp} : ∀ {vs : List V} {ds : List PyData}, PySem.W.EachIs (Dq H) vs ds → DqAll H vs ds
  | _, _, .nil => .nil
  | _, _, .cons h t => .cons h (dq_each t)
theorem wn_sortD {Pn : List PyData → List MO → Prop} (h : WA K tr ds μ fun as μ1 => ∃ a xs, as = [a] ∧ RdL μ1 a xs ∧ xs.length ≤ sizeLine ∧ PySem.W.AllAlike xs ∧ PySem.W.Sortable xs ∧ (∀ d ∈ xs, d.depth ≤ 60) ∧ Pn (srtD xs) μ1) : WN K (tCB (rSortD K) tr) ds μ Pn := fun σ O A H e Q q =>
  h σ O A H e _ fun vs as μ1 H1 l1 w1 r1 h1 => by
    obtain ⟨a, xs, rfl, rd, hz, hal, hk, hdp, p⟩ := h1
    cases r1 with
    | cons r1 rr =>
      cases rr
      obtain ⟨ad, us, rfl, sq, hd⟩ := rd.get w1 r1
      refine ⟨ad, us, xs, Dq (hid O H1), rfl, sq, each_imp (fun x d hx => ⟨(dp_mono (hid_le O H1) hx).dp, hx⟩) (each_dq hd), hal, hk, hdp, fun ys p' ey hp => ?_⟩
      exact wn_laid e q l1 w1 (dq_each ey) (by rw [List.length_mergeSort]; exact hz) p p' hp
/-- list(d): the keys, as they came -/
theorem wn_lstM {Pn : List PyData → List MO → Prop} {L : List NestedKey} {f : NestedKey → PyData} {ks : List NestedKey} (h : WA K tr ds μ fun as μ1 => ∃ j, as = [.m j] ∧ μ1[j]? = some (MO.memo Pg w L f ks) ∧ L.length ≤ sizeLine ∧ ∀ kl : List NestedKey, kl.Nodup → (∀ k ∈ kl, k ∈ L) → (∀ k ∈ ks, k ∈ kl) → Pn (kl.map NestedKey.data) μ1) : WN K (tCB (rLstM Pg w) tr) ds μ Pn := fun σ O A H e Q q =>
  h σ O A H e _ fun vs as μ1 H1 l1 w1 r1 h1 => by
    obtain ⟨j, rfl, hj, hz, p⟩ := h1
    cases r1 with
    | cons r1 rr =>
      cases rr
      obtain ⟨ad, e0, rfl⟩ := r1
      obtain ⟨ad', e1, oa, es, hm, mk⟩ := w1.at hj
      rw [e0] at e1; cases e1
      have hl : es.length ≤ sizeLine := Nat.le_trans mk.len hz
      refine ⟨ad, es, rfl, hm, hl, fun p' hp => ?_⟩
      have hd : DqAll (hid O H1) (es.map fun e => V.ref e.2.1) ((es.map (·.1)).map NestedKey.data) := by
        have hkey := mk.key
        clear p mk hl hm
        induction es with
        | nil => exact .nil
        | cons x es ih => exact .cons (hkey x (by simp)) (ih fun y hy => hkey y (List.mem_cons_of_mem _ hy))
      exact wn_laid e q l1 w1 hd (by rw [List.length_map, List.length_map]; exact hl) (p _ mk.nd (fun k hk => by
        obtain ⟨x, hx, rfl⟩ := List.mem_map.mp hk
        exact mk.inL x hx) fun k hk => mk.there k hk) p' hp
/-- more keys may come -/
theorem memo_more {L L' : List NestedKey} {f : NestedKey → PyData} {ks : List NestedKey} (h : ∀ k ∈ L, k ∈ L') : (MO.memo Pg w L f ks).Imp (MO.memo Pg w L' f ks) := fun K O H a q => by
  obtain ⟨es, h1, h2⟩ := q
  exact ⟨es, h1, h2.key, fun e he => h _ (h2.inL e he), h2.val, h2.nd, h2.there⟩
/-! xs.index(i) -/
theorem wm_index {ns : List Int} {i : Int} {j : Nat} (h : RdL μ a (nums ns)) (hj : ns[j]? = some i) (hno : ∀ m, m < j → ns[m]? ≠ some i) (p : P (.d (.int (j : Nat))) μ) : WM K (rIndex K) a [.d (.int i)] μ P := fun O A H x xs w hx hxs Q q => by
  cases hxs with
  | cons r1 rr =>
    cases rr
    cases r1
    obtain ⟨ad, us, rfl, sq, hd⟩ := h.get w hx
    rw [dpAll_ints hd] at sq
    refine ⟨ad, ns.map V.int, .int i, j, .int i, rfl, rfl, sq, rfl, by rw [List.all_map, List.all_eq_true]; exact fun _ _ => rfl, by rw [List.getElem?_map, hj]; rfl, by simp [eqV], fun m z hm hz => ?_, q _ _ μ H (.refl O A H) w (rp_d (Dq.int _)) p⟩
    rw [List.getElem?_map] at hz
    obtain ⟨y, hy, rfl⟩ := Option.map_eq_some_iff.mp hz
    have : y ≠ i := fun e => hno m hm (by rw [hy, e])
    simp [eqV, this]
end
end Wv

set_option linter.all false
namespace Wv
/-! ### the greatest worth that can stay; the first places that go -/
def mostF : List (Int × Int) → Int → Int → Int
  | [], _, _ => 0
  | (c, w) :: r, u, d => max (max (mostF r u d) (if c < d then w + mostF r u c else mostF r u d)) (if u < c then w + mostF r c d else mostF r u d)
/-- those that stay -/
def stayL : List (Int × Int) → List Bool → List (Int × Int)
  | x :: r, b :: bs => if b then x :: stayL r bs else stayL r bs
  | _, _ => []
def worthL (l : List (Int × Int)) : Int := (l.map (·.2)).sum
theorem worthL_cons (x : Int × Int) (l : List (Int × Int)) : worthL (x :: l) = x.2 + worthL l := by unfold worthL; rw [List.map_cons, List.sum_cons]
theorem most_skip {c w : Int} {r : List (Int × Int)} {u d : Int} : mostF r u d ≤ mostF ((c, w) :: r) u d := by rw [mostF]; omega
theorem most_step {c w : Int} {r : List (Int × Int)} {p q : Int × Int} (h : StepL c p q) : w + mostF r q.1 q.2 ≤ mostF ((c, w) :: r) p.1 p.2 := by
  rw [mostF]
  rcases h with ⟨h, rfl⟩ | ⟨h, rfl⟩
  · rw [if_pos h]; dsimp only; omega
  · rw [if_pos h]; dsimp only; omega
theorem most_cases {c w : Int} {r : List (Int × Int)} {p : Int × Int} : mostF ((c, w) :: r) p.1 p.2 = mostF r p.1 p.2 ∨ ∃ q, StepL c p q ∧ mostF ((c, w) :: r) p.1 p.2 = w + mostF r q.1 q.2 := by
  have e : mostF ((c, w) :: r) p.1 p.2 = max (max (mostF r p.1 p.2) (if c < p.2 then w + mostF r p.1 c else mostF r p.1 p.2)) (if p.1 < c then w + mostF r c p.2 else mostF r p.1 p.2) := by rw [mostF]
  by_cases h1 : c < p.2 <;> by_cases h2 : p.1 < c
  · rw [if_pos h1, if_pos h2] at e
    by_cases a : mostF ((c, w) :: r) p.1 p.2 = mostF r p.1 p.2
    · exact .inl a
    · by_cases b : mostF ((c, w) :: r) p.1 p.2 = w + mostF r p.1 c
      · exact .inr ⟨(p.1, c), .inr ⟨h1, rfl⟩, b⟩
      · exact .inr ⟨(c, p.2), .inl ⟨h2, rfl⟩, by dsimp only; omega⟩
  · rw [if_pos h1, if_neg h2] at e
    by_cases a : mostF ((c, w) :: r) p.1 p.2 = mostF r p.1 p.2
    · exact .inl a
    · exact .inr ⟨(p.1, c), .inr ⟨h1, rfl⟩, by dsimp only; omega⟩
  · rw [if_neg h1, if_pos h2] at e
    by_cases a : mostF ((c, w) :: r) p.1 p.2 = mostF r p.1 p.2
    · exact .inl a
    · exact .inr ⟨(c, p.2), .inl ⟨h2, rfl⟩, by dsimp only; omega⟩
  · rw [if_neg h1, if_neg h2] at e
    exact .inl (by omega)
/-- no choice is worth more -/
theorem most_ge : ∀ {r : List (Int × Int)} {bs : List Bool} {p : Int × Int}, good ((stayL r bs).map (·.1)) p.1 p.2 = true → worthL (stayL r bs) ≤ mostF r p.1 p.2 ∨ r.length ≠ bs.length
  | [], [], p, _ => .inl (by simp [stayL, worthL, mostF])
  | [], _ :: _, p, _ => .inr (by simp)
  | _ :: _, [], p, _ => .inr (by simp)
  | (c, w) :: r, b :: bs, p, h => by
    by_cases hl : r.length = bs.length
    rotate_left
    · exact .inr (by simpa using hl)
    cases b with
    | false =>
      rw [stayL, if_neg (by decide)] at h ⊢
      rcases most_ge (r := r) (bs := bs) h with k | k
      · exact .inl (Int.le_trans k most_skip)
      · exact absurd hl k
    | true =>
      rw [stayL, if_pos rfl, List.map_cons] at h
      rw [stayL, if_pos rfl, worthL_cons]
      obtain ⟨q, st, g⟩ := good_step.mp h
      rcases most_ge (r := r) (bs := bs) g with k | k
      · exact .inl (by have := most_step (c := c) (w := w) (r := r) st; dsimp only; omega)
      · exact absurd hl k
/-- which stay: the program's own road -/
def StaysAt (c w : Int) (r : List (Int × Int)) (L L' : List (Int × Int)) : Prop := ∀ q, q ∈ L' ↔ ∃ p ∈ L, StepL c p q ∧ w + mostF r q.1 q.2 = mostF ((c, w) :: r) p.1 p.2
/-- the told choice, card by card -/
inductive Leave : List (Int × Int) → List (Int × Int) → List Bool → Prop
  | nil (L : List (Int × Int)) : Leave [] L []
  | go {c w : Int} {r L L' : List (Int × Int)} {bs : List Bool} : L' = L.filter (fun p => decide (mostF ((c, w) :: r) p.1 p.2 = mostF r p.1 p.2)) → L' ≠ [] → Leave r L' bs → Leave ((c, w) :: r) L (false :: bs)
  | stay {c w : Int} {r L L' : List (Int × Int)} {bs : List Bool} : L.filter (fun p => decide (mostF ((c, w) :: r) p.1 p.2 = mostF r p.1 p.2)) = [] → StaysAt c w r L L' → Leave r L' bs → Leave ((c, w) :: r) L (true :: bs)
/-- a choice ahead of another: at the first place where they part it lets the card go -/
def bLt : List Bool → List Bool → Prop
  | a :: s, b :: t => (a = false ∧ b = true) ∨ (a = b ∧ bLt s t)
  | _, _ => False
theorem leave_len {r L : List (Int × Int)} {bs : List Bool} (h : Leave r L bs) : bs.length = r.length := by
  induction h with
  | nil => rfl
  | go _ _ _ ih => simp [ih]
  | stay _ _ _ ih => simp [ih]
theorem leave_best {r L : List (Int × Int)} {bs : List Bool} (h : Leave r L bs) : ∀ {m : Int}, L ≠ [] → (∀ p ∈ L, mostF r p.1 p.2 = m) →
    (∃ p ∈ L, good ((stayL r bs).map (·.1)) p.1 p.2 = true) ∧ worthL (stayL r bs) = m ∧ ∀ cs : List Bool, cs.length = r.length → ∀ p ∈ L, good ((stayL r cs).map (·.1)) p.1 p.2 = true → worthL (stayL r cs) = m → cs = bs ∨ bLt bs cs := by
  induction h with
  | nil L =>
    intro m hne hm
    obtain ⟨p, hp⟩ := List.exists_mem_of_ne_nil L hne
    have := hm p hp
    rw [mostF] at this
    refine ⟨⟨p, hp, rfl⟩, by rw [← this]; rfl, fun cs hc _ _ _ _ => .inl (List.eq_nil_of_length_eq_zero hc)⟩
  | @go c w r L L' bs hL' hne' hl ih =>
    intro m hne hm
    have mem : ∀ p, p ∈ L' ↔ p ∈ L ∧ mostF ((c, w) :: r) p.1 p.2 = mostF r p.1 p.2 := fun p => by rw [hL', List.mem_filter, decide_eq_true_eq]
    obtain ⟨⟨p, hp, g⟩, hw, hf⟩ := ih hne' fun p hp => by
      have := (mem p).mp hp
      rw [← this.2]; exact hm p this.1
    refine ⟨⟨p, ((mem p).mp hp).1, by rw [stayL, if_neg (by decide)]; exact g⟩, by rw [stayL, if_neg (by decide)]; exact hw, fun cs hc q hq gq wq => ?_⟩
    cases cs with
    | nil => cases hc
    | cons b cs =>
      cases b with
      | true => exact .inr (.inl ⟨rfl, rfl⟩)
      | false =>
        rw [stayL, if_neg (by decide)] at gq wq
        have hcl : cs.length = r.length := by simpa using hc
        have hq' : q ∈ L' := (mem q).mpr ⟨hq, by
          rcases most_ge gq with k | k
          · have := most_skip (c := c) (w := w) (r := r) (u := q.1) (d := q.2)
            have := hm q hq
            omega
          · exact absurd hcl.symm k⟩
        rcases hf cs hcl q hq' gq wq with e | e
        · exact .inl (by rw [e])
        · exact .inr (.inr ⟨rfl, e⟩)
  | @stay c w r L L' bs hnone hst hl ih =>
    intro m hne hm
    have noGo : ∀ p ∈ L, mostF ((c, w) :: r) p.1 p.2 ≠ mostF r p.1 p.2 := fun p hp e => by
      have := List.filter_eq_nil_iff.mp hnone p hp
      exact this (decide_eq_true e)
    have hne' : L' ≠ [] := by
      obtain ⟨p, hp⟩ := List.exists_mem_of_ne_nil L hne
      rcases most_cases (c := c) (w := w) (r := r) (p := p) with e | ⟨q, st, e⟩
      · exact absurd e (noGo p hp)
      · exact List.ne_nil_of_mem ((hst q).mpr ⟨p, hp, st, e.symm⟩)
    obtain ⟨⟨q, hq, g⟩, hw, hf⟩ := ih (m := m - w) hne' fun q hq => by
      obtain ⟨p, hp, _, e⟩ := (hst q).mp hq
      have := hm p hp
      omega
    obtain ⟨p, hp, st, e⟩ := (hst q).mp hq
    refine ⟨⟨p, hp, by rw [stayL, if_pos rfl, List.map_cons]; exact good_step.mpr ⟨q, st, g⟩⟩, by rw [stayL, if_pos rfl, worthL_cons, hw]; dsimp only; omega, fun cs hc q hq gq wq => ?_⟩
    cases cs with
    | nil => cases hc
    | cons b cs =>
      have hcl : cs.length = r.length := by simpa using hc
      cases b with
      | false =>
        rw [stayL, if_neg (by decide)] at gq wq
        exfalso
        rcases most_ge gq with k | k
        · have := most_skip (c := c) (w := w) (r := r) (u := q.1) (d := q.2)
          have := hm q hq
          exact noGo q hq (by omega)
        · exact k hcl.symm
      | true =>
        rw [stayL, if_pos rfl, List.map_cons] at gq
        rw [stayL, if_pos rfl, worthL_cons] at wq
        dsimp only at wq
        obtain ⟨q', st', g'⟩ := good_step.mp gq
        have hq' : q' ∈ L' := (hst q').mpr ⟨q, hq, st', by
          have := most_step (c := c) (w := w) (r := r) st'
          have := hm q hq
          rcases most_ge g' with k | k
          · omega
          · exact absurd hcl.symm k⟩
        rcases hf cs hcl q' hq' g' (by omega) with e | e
        · exact .inl (by rw [e])
        · exact .inr (.inr ⟨rfl, e⟩)
end Wv

set_option Elab.async false
set_option linter.all false
set_option maxRecDepth 100000
set_option maxHeartbeats 2000000
namespace Wv
open PySem PySem.Spec PyProof.Rows L2
local macro_rules | `(tactic| walk_at "var") => `(tactic| ((with_reducible refine we_var (r := ?r) ?h ?_); (case h => rfl)))
local macro_rules | `(tactic| walk_at "ev") => `(tactic| (first
  | walk_at "var" | with_reducible refine we_int ?_ | with_reducible refine we_str ?_ | with_reducible refine we_bl ?_ | with_reducible refine we_non ?_ | with_reducible refine wa_cons ?_ | with_reducible refine wa_nil ?_
  | with_reducible refine wr_b0 ?_ | with_reducible refine wr_i0 ?_ | with_reducible refine wr_addI ?_ | with_reducible refine wu_neg ?_
  | with_reducible refine we_op ?_ | with_reducible refine we_un ?_ | with_reducible refine we_cb ?_ | with_reducible refine we_tup ?_ | with_reducible refine we_tupV ?_ | with_reducible refine we_chain ?_ | with_reducible refine we_chain3 ?_ | with_reducible refine we_andV ?_ | with_reducible refine we_orV ?_ | with_reducible refine we_notV ?_ | with_reducible refine we_if ?_
  | with_reducible refine wt_test ?_ | with_reducible refine wt_B ?_ | with_reducible refine wt_and ?_ | with_reducible refine wt_or ?_ | with_reducible refine wt_not ?_ | with_reducible refine wr_isNN ?_ | with_reducible refine wr_isN ?_ | with_reducible refine wr_isB ?_ | with_reducible refine wr_isNB ?_
  | with_reducible refine wc_max2 ?_ | with_reducible refine wc_min2 ?_ | with_reducible refine wc_isi (isi_int _) ?_ | with_reducible refine wc_isi (isi_bool _) ?_ | with_reducible refine wc_isi (isi_tuple _) ?_ | with_reducible refine wc_isi (isi_list _) ?_ | with_reducible refine wc_isi (isi_str _) ?_
  | with_reducible refine sx_seq ?_ | with_reducible refine sx_next ?_ | with_reducible refine sx_ret ?_ | with_reducible refine sx_drop ?_ | with_reducible refine sx_if ?_ | with_reducible refine sx_par ?_ | with_reducible refine wo_none ?_ | with_reducible refine wo_some ?_
  | with_reducible refine wg_name ?_ | with_reducible refine wgs_nil ?_ | with_reducible refine wgs_cons ?_ | with_reducible refine wg_tup rfl ?_
  | with_reducible refine wr_eqI ?_ | with_reducible refine wr_neI ?_
  | ((with_reducible refine' wc_len ?h ?_); (case h => first | exact .t _ | exact .l (.d _) | exact .of | exact .l (.m rfl)))
  | ((with_reducible refine' wr_ix ?h1 ?h2 ?_); (case h1 => exact .l (.m rfl)); (case h2 => rfl))
  | with_reducible refine wgcs_nil ?_ | with_reducible refine wgcs_cons ?_ | with_reducible refine wgc_tup rfl ?_ | with_reducible refine wgc_name (by decide) ?_ | with_reducible refine we_v ?_ | with_reducible refine ⟨_, rfl, ?_⟩ | with_reducible refine dec_t ?_ | with_reducible refine dec_f ?_ | with_reducible refine dec_nt ?_ | with_reducible refine dec_nf ?_ | with_reducible refine And.intro rfl ?_))
local macro_rules | `(tactic| walk_at "go") => `(tactic| repeat walk_at "ev")
section
variable {K : PySem.W.Frag} {Pg : Program} {w : World} {rs : List Res} {μ : List MO} {P : PyData → List MO → Prop}
/-! ### most_from -/
def fM (cw : List (Int × Int)) : NestedKey → PyData
  | .tup [.num a, .tup [.num u, .num d]] => .int (mostF (cw.drop a.toNat) u d)
  | _ => .none
def S_most_from' (Pg : Program) (w : World) (m : Nat) : Spec := fun rs μ P => ∃ (ns ws : List Int) (a : Nat) (u d : Int) (ks : List NestedKey), rs = [.d (.tuple (nums ns)), .d (.tuple (nums ws)), .d (.int (a : Nat)), .d (lastD (u, d)), .m 0] ∧ ws.length = ns.length ∧ ns.length ≤ 60 ∧ a ≤ ns.length ∧ ns.length < a + m ∧ u ∈ ups ns ∧ d ∈ downs ns ∧
  μ = [MO.memo Pg w (LG ns) (fM (ns.zip ws)) ks] ∧ P (.int (mostF ((ns.zip ws).drop a) u d)) [MO.memo Pg w (LG ns) (fM (ns.zip ws)) ks]
def S_most_from (Pg : Program) (w : World) : Spec := S_most_from' Pg w 61
theorem no_most_from (h : S_most_from' Pg w 0 rs μ P) : False := by
  obtain ⟨ns, ws, a, u, d, ks, rfl, _, hn, ha, hm, _⟩ := h
  omega
/- most_from: slots 0 row, 1 worths, 2 at, 3 last, 4 known, 5 spot, 6 best, 7 side, 8 there -/
def R_most_from (K : PySem.W.Frag) (Pg : Program) (w : World) (Sr : Spec) : TS :=
    (tSeq (tIfS (tTest (tOp (rEqD K) (tVar 2) (tCB (rLenX K) (tCons (tVar 0) tNil)))) (tRet (tC (.int 0))) tNext)
    (tSeq (tAsg (tTup (tCons (tVar 2) (tCons (tVar 3) tNil))) (gName 5))
    (tSeq (tIfS (tTest (tOp (rNotInM Pg w) (tVar 5) (tVar 4))) (tSeq (tAsg (tCall (FSp K Sr) [] E0 (tCons (tVar 0) (tCons (tVar 1) (tCons (tOp (rAddX K) (tVar 2) (tC (.int 1))) (tCons (tVar 3) (tCons (tVar 4) tNil)))))) (gName 6))
    (tSeq (tFor (iSeq K (tTup (tCons (tC (.str "down")) (tCons (tC (.str "up")) tNil)))) (gName 7) (tSeq (tAsg (tCall (FSp K S_next_last) [] E0 (tCons (tVar 3) (tCons (tOp (rIx K) (tVar 0) (tVar 2)) (tCons (tVar 7) tNil)))) (gName 8))
    (tIfS (tTest (tOp rIsNX (tVar 8) (tC .non))) (tAsg (tCB rMax2 (tCons (tVar 6) (tCons (tOp (rAddX K) (tOp (rIx K) (tVar 1) (tVar 2)) (tCall (FSp K Sr) [] E0 (tCons (tVar 0) (tCons (tVar 1) (tCons (tOp (rAddX K) (tVar 2) (tC (.int 1))) (tCons (tVar 8) (tCons (tVar 4) tNil))))))) tNil))) (gName 6)) tNext)))
    (tAsg (tVar 6) (gSub (tVar 4) (tVar 5) (rSetM Pg w))))) tNext)
    (tRet (tOp (rGetM Pg w) (tVar 4) (tVar 5))))))
/-- the best so far: nothing taken, the down side asked, both asked -/
def bestAt (c w : Int) (r : List (Int × Int)) (u d : Int) : Nat → Int
  | 0 => mostF r u d
  | 1 => max (mostF r u d) (if c < d then w + mostF r u c else mostF r u d)
  | _ => mostF ((c, w) :: r) u d
theorem sx_most_from {m : Nat} (h : S_most_from' Pg w (m + 1) rs μ P) : SX K μ.length (R_most_from K Pg w (S_most_from' Pg w m)) (endsOf μ.length P) (startD 9 rs) μ := by
  obtain ⟨ns, ws, a, u, d, ks, rfl, hwl, hn, ha, hm, hu, hd, rfl, h⟩ := h
  have hzl : (ns.zip ws).length = ns.length := by rw [List.length_zip]; omega
  unfold R_most_from
  walk_at "go"
  rw [List.length_map]
  refine ⟨fun h1 => ?_, fun h1 => ?_⟩
  · rw [decide_eq_true_eq] at h1
    walk_at "go"
    refine ret_d ?_
    rw [show a = (ns.zip ws).length by omega, List.drop_length] at h
    exact h
  · rw [decide_eq_false_iff_not] at h1
    have hlt : a < ns.length := by omega
    obtain ⟨c, hc⟩ : ∃ c, ns[a]? = some c := ⟨_, List.getElem?_eq_getElem hlt⟩
    obtain ⟨wt, hw⟩ : ∃ c, ws[a]? = some c := ⟨_, List.getElem?_eq_getElem (by omega)⟩
    have hcm : c ∈ ns := List.mem_of_getElem? hc
    have hdrop : (ns.zip ws).drop a = (c, wt) :: (ns.zip ws).drop (a + 1) := by
      rw [List.drop_eq_getElem_cons (by omega)]
      congr 1
      obtain ⟨_, e1⟩ := List.getElem?_eq_some_iff.mp hc
      obtain ⟨_, e2⟩ := List.getElem?_eq_some_iff.mp hw
      rw [List.getElem_zip, e1, e2]
    walk_at "go"
    refine sx_asg ?_
    walk_at "go"
    refine ⟨[_, _], rfl, size_le (by simp), ?_⟩
    walk_at "go"
    have back : WR K (rGetM Pg w) (.m 0) (.d (.tuple [.int a, lastD (u, d)])) [MO.memo Pg w (LG ns) (fM (ns.zip ws)) (nk a u d :: ks)] (endsOf 1 P).rt := by
      refine wr_wk (wr_getM (l := [.num a, .tup [.num u, .num d]]) rfl rfl (LG_depth ns) List.mem_cons_self ?_)
      exact ⟨_, .one memo_weak, ret_d h⟩
    refine wr_notInM (l := [.num a, .tup [.num u, .num d]]) rfl rfl (LG_depth ns) (nk_depth a u d) ?_ ?_
    · walk_at "go"
      refine sx_asg (we_call1 ?_)
      walk_at "go"
      refine ⟨0, _, rfl, by simp [onlyM], ns, ws, a + 1, u, d, ks, rfl, hwl, hn, by omega, by omega, hu, hd, rfl, _, rfl, ?_⟩
      refine sx_seq (sx_for (wi_seqS ?_))
      walk_at "go"
      refine ⟨[sideD false, sideD true], rfl, size_le (by simp), true, _, rfl, fun i ds' μ' => ∃ a7 a8, ds' = [some (.d (.tuple (nums ns))), some (.d (.tuple (nums ws))), some (.d (.int (a : Nat))), some (.d (lastD (u, d))), some (.m 0), some (.d (.tuple [.int a, lastD (u, d)])), some (.d (.int (bestAt c wt ((ns.zip ws).drop (a + 1)) u d i))), a7, a8] ∧ μ' = [MO.memo Pg w (LG ns) (fM (ns.zip ws)) ks], ⟨_, _, rfl, rfl⟩, ?_, ?_⟩
      · rintro i z ds' μ' hi ⟨a7, a8, rfl, rfl⟩
        have hil : i < 2 := (List.getElem?_eq_some_iff.mp hi).1
        obtain ⟨s, rfl, hs⟩ : ∃ s, z = sideD s ∧ (s = false ∧ i = 0 ∨ s = true ∧ i = 1) := by
          match i, hil with
          | 0, _ => exact ⟨false, by simpa using hi.symm, .inl ⟨rfl, rfl⟩⟩
          | 1, _ => exact ⟨true, by simpa using hi.symm, .inr ⟨rfl, rfl⟩⟩
        refine wg_name (sx_seq (sx_asg (we_call0 ?_)))
        walk_at "go"
        refine wr_ix (.t _) (atI_of (nums_get hc)) ?_
        walk_at "go"
        refine ⟨by simp [notM], (u, d), c, s, rfl, rfl, ?_⟩
        refine sx_if (wt_test ?_)
        walk_at "go"
        -- what comes of it
        have step : ∀ q : Int × Int, nextLast u d c s = some q → q.1 ∈ ups ns ∧ q.2 ∈ downs ns ∧ bestAt c wt ((ns.zip ws).drop (a + 1)) u d (i + 1) = (if wt + mostF ((ns.zip ws).drop (a + 1)) q.1 q.2 > bestAt c wt ((ns.zip ws).drop (a + 1)) u d i then wt + mostF ((ns.zip ws).drop (a + 1)) q.1 q.2 else bestAt c wt ((ns.zip ws).drop (a + 1)) u d i) := fun q hq => by
          rcases hs with ⟨rfl, rfl⟩ | ⟨rfl, rfl⟩
          · have hq' : (if c < d then some (u, c) else none) = some q := hq
            split at hq'
            · cases hq'
              rename_i hcd
              refine ⟨hu, downs_mem hcm, ?_⟩
              show max _ (if c < d then _ else _) = _
              rw [if_pos hcd]
              show max _ _ = if _ > mostF _ u d then _ else mostF _ u d
              dsimp only
              split <;> omega
            · cases hq'
          · have hq' : (if u < c then some (c, d) else none) = some q := hq
            split at hq'
            · cases hq'
              rename_i huc
              refine ⟨ups_mem hcm, hd, ?_⟩
              show mostF ((c, wt) :: _) u d = _
              rw [mostF, if_pos huc]
              show max (max _ (if c < d then _ else _)) _ = if _ > max _ (if c < d then _ else _) then _ else max _ (if c < d then _ else _)
              dsimp only
              split <;> omega
            · cases hq'
        have stop : nextLast u d c s = none → bestAt c wt ((ns.zip ws).drop (a + 1)) u d (i + 1) = bestAt c wt ((ns.zip ws).drop (a + 1)) u d i := fun hq => by
          rcases hs with ⟨rfl, rfl⟩ | ⟨rfl, rfl⟩
          · have hq' : (if c < d then some (u, c) else none) = none := hq
            split at hq'
            · cases hq'
            · rename_i hcd
              show max _ (if c < d then _ else _) = mostF _ u d
              rw [if_neg hcd]; omega
          · have hq' : (if u < c then some (c, d) else none) = none := hq
            split at hq'
            · cases hq'
            · rename_i huc
              show mostF ((c, wt) :: _) u d = max _ (if c < d then _ else _)
              rw [mostF, if_neg huc]
              omega
        cases hnl : nextLast u d c s with
        | none =>
          refine dec_f (sx_next ⟨some (.d (sideD s)), some (.d .none), ?_, rfl⟩)
          rw [stop hnl]
          rfl
        | some q =>
          obtain ⟨hq1, hq2, hb⟩ := step q hnl
          refine dec_t (sx_asg (we_cb ?_))
          walk_at "go"
          refine wr_ix (.t _) (atI_of (nums_get hw)) ?_
          refine we_call1 ?_
          walk_at "go"
          refine ⟨0, _, rfl, by simp [onlyM], ns, ws, a + 1, q.1, q.2, ks, rfl, hwl, hn, by omega, by omega, hq1, hq2, rfl, _, rfl, ?_⟩
          walk_at "go"
          refine ⟨some (.d (sideD s)), some (.d (lastD q)), ?_, rfl⟩
          rw [hb]
          rfl
      · rintro ds' μ' ⟨a7, a8, rfl, rfl⟩
        refine sx_putM (l := [.num a, .tup [.num u, .num d]]) (j := 0) (L := LG ns) (f := fM (ns.zip ws)) (ks := ks) rfl (LG_depth ns) (LG_mem hlt hu hd) (LG_len hn) ?_
        walk_at "go"
        refine ⟨?_, ?_⟩
        · show Res.d (.int (bestAt c wt _ u d 2)) = .d (.int (mostF ((ns.zip ws).drop (Int.toNat a)) u d))
          rw [Int.toNat_natCast, hdrop]
          rfl
        · walk_at "go"
          exact back
    · walk_at "go"
      exact back
/-! ### stays -/
def pk (p : Int × Int) : NestedKey := .tup [.num p.1, .num p.2]
theorem pk_data (p : Int × Int) : (pk p).data = lastD p := rfl
theorem pk_depth (p : Int × Int) : (pk p).depth ≤ 8 := by show max 0 (max 0 0) + 1 ≤ 8; decide
theorem pk_inj {p q : Int × Int} (h : pk p = pk q) : p = q := by
  have h2 : (pk p).data = (pk q).data := by rw [h]
  exact lastD_inj h2
def allT : NestedKey → PyData := fun _ => .bool true
/-- the pairs that lie in the box of a row -/
def InBox (ns : List Int) (L : List (Int × Int)) : Prop := ∀ p ∈ L, p.1 ∈ ups ns ∧ p.2 ∈ downs ns
def boxG (ns : List Int) : List (Int × Int) := (ups ns).flatMap fun u => (downs ns).map fun d => (u, d)
theorem boxG_mem {ns : List Int} {p : Int × Int} : p ∈ boxG ns ↔ p.1 ∈ ups ns ∧ p.2 ∈ downs ns := by
  unfold boxG
  rw [List.mem_flatMap]
  constructor
  · rintro ⟨u, hu, h⟩
    obtain ⟨d, hd, rfl⟩ := List.mem_map.mp h
    exact ⟨hu, hd⟩
  · rintro ⟨h1, h2⟩
    exact ⟨p.1, h1, List.mem_map.mpr ⟨p.2, h2, rfl⟩⟩
theorem boxG_len {ns : List Int} (h : ns.length ≤ 60) : (boxG ns).length ≤ 3721 := by
  refine Nat.le_trans (flatMap_len (m := ns.length + 1) fun u _ => by rw [List.length_map]; exact Nat.le_refl _) ?_
  exact Nat.le_trans (Nat.mul_le_mul (show (ups ns).length ≤ 61 by show ns.length + 1 ≤ 61; omega) (show ns.length + 1 ≤ 61 by omega)) (by decide)
theorem nextLast_step {u d c : Int} {q : Int × Int} : (∃ s, nextLast u d c s = some q) ↔ StepL c (u, d) q := by
  constructor
  · rintro ⟨s, h⟩
    cases s with
    | true =>
      have h : (if u < c then some (c, d) else none) = some q := h
      split at h
      · cases h; exact .inl ⟨by assumption, rfl⟩
      · cases h
    | false =>
      have h : (if c < d then some (u, c) else none) = some q := h
      split at h
      · cases h; exact .inr ⟨by assumption, rfl⟩
      · cases h
  · rintro (⟨h, rfl⟩ | ⟨h, rfl⟩)
    · exact ⟨true, if_pos h⟩
    · exact ⟨false, if_pos h⟩
theorem step_box {ns : List Int} {c : Int} {p q : Int × Int} (hc : c ∈ ns) (hp : p.1 ∈ ups ns ∧ p.2 ∈ downs ns) (h : StepL c p q) : q.1 ∈ ups ns ∧ q.2 ∈ downs ns := by
  rcases h with ⟨_, rfl⟩ | ⟨_, rfl⟩
  · exact ⟨ups_mem hc, hp.2⟩
  · exact ⟨hp.1, downs_mem hc⟩
def S_stays (Pg : Program) (w : World) : Spec := fun rs μ P => ∃ (ns ws : List Int) (a : Nat) (c wt : Int) (L : List (Int × Int)) (ks : List NestedKey), rs = [.d (.tuple (nums ns)), .d (.tuple (nums ws)), .d (.int (a : Nat)), .d (.list (L.map lastD)), .m 0] ∧ ws.length = ns.length ∧ ns.length ≤ 60 ∧ ns[a]? = some c ∧ ws[a]? = some wt ∧ InBox ns L ∧ L.length ≤ 4000 ∧
  μ = [MO.memo Pg w (LG ns) (fM (ns.zip ws)) ks] ∧ ∀ L' : List (Int × Int), StaysAt c wt ((ns.zip ws).drop (a + 1)) L L' → L'.Nodup → InBox ns L' → P (.list (L'.map lastD)) [MO.memo Pg w (LG ns) (fM (ns.zip ws)) ks]
/- stays: slots 0 row, 1 worths, 2 at, 3 lasts, 4 known, 5 found, 6 last, 7 side, 8 there, 9 own -/
def R_stays (K : PySem.W.Frag) (Pg : Program) (w : World) : TS :=
    (tSeq (tAsg (tDNewN Pg w) (gName 5))
    (tSeq (tFor (iSeq K (tVar 3)) (gName 6) (tFor (iSeq K (tTup (tCons (tC (.str "down")) (tCons (tC (.str "up")) tNil)))) (gName 7) (tSeq (tAsg (tCall (FSp K S_next_last) [] E0 (tCons (tVar 6) (tCons (tOp (rIx K) (tVar 0) (tVar 2)) (tCons (tVar 7) tNil)))) (gName 8))
    (tIfS (tTest (tOp rIsNX (tVar 8) (tC .non))) (tSeq (tAsg (tOp (rAddX K) (tOp (rIx K) (tVar 1) (tVar 2)) (tCall (FSp K (S_most_from Pg w)) [] E0 (tCons (tVar 0) (tCons (tVar 1) (tCons (tOp (rAddX K) (tVar 2) (tC (.int 1))) (tCons (tVar 8) (tCons (tVar 4) tNil))))))) (gName 9))
    (tIfS (tTest (tOp (rEqD K) (tVar 9) (tCall (FSp K (S_most_from Pg w)) [] E0 (tCons (tVar 0) (tCons (tVar 1) (tCons (tVar 2) (tCons (tVar 6) (tCons (tVar 4) tNil)))))))) (tAsg (tC (.bl true)) (gSub (tVar 5) (tVar 8) (rSetM Pg w))) tNext)) tNext))))
    (tRet (tCB (rLstM Pg w) (tCons (tVar 5) tNil)))))
theorem zip_drop {ns ws : List Int} {a : Nat} {c wt : Int} (hc : ns[a]? = some c) (hw : ws[a]? = some wt) : (ns.zip ws).drop a = (c, wt) :: (ns.zip ws).drop (a + 1) := by
  obtain ⟨h1, e1⟩ := List.getElem?_eq_some_iff.mp hc
  obtain ⟨h2, e2⟩ := List.getElem?_eq_some_iff.mp hw
  rw [List.drop_eq_getElem_cons (by rw [List.length_zip]; omega), List.getElem_zip, e1, e2]
theorem keys_back {M : List (Int × Int)} {kl : List NestedKey} (h : ∀ k ∈ kl, k ∈ M.map pk) : ∃ L' : List (Int × Int), kl = L'.map pk ∧ ∀ p ∈ L', p ∈ M := by
  induction kl with
  | nil => exact ⟨[], rfl, fun _ h => by cases h⟩
  | cons k kl ih =>
    obtain ⟨p, hp, rfl⟩ := List.mem_map.mp (h k (by simp))
    obtain ⟨L', rfl, hm⟩ := ih fun k hk => h k (List.mem_cons_of_mem _ hk)
    exact ⟨p :: L', rfl, fun q hq => by
      rcases List.mem_cons.mp hq with rfl | hq
      · exact hp
      · exact hm q hq⟩
theorem sx_stays (h : S_stays Pg w rs μ P) : SX K μ.length (R_stays K Pg w) (endsOf μ.length P) (startD 10 rs) μ := by
  obtain ⟨ns, ws, a, c, wt, L, ks, rfl, hwl, hn, hc, hw, hL, hLl, rfl, h⟩ := h
  have hal := (List.getElem?_eq_some_iff.mp hc).1
  have hcm : c ∈ ns := List.mem_of_getElem? hc
  have hdrop := zip_drop hc hw
  generalize hr : (ns.zip ws).drop (a + 1) = r at h hdrop
  let kn := MO.memo Pg w (LG ns) (fM (ns.zip ws)) ks
  unfold R_stays
  refine sx_seq (sx_dnew (Nat.le_refl _) [] allT ?_)
  -- what has come in: M, of the first i lasts
  let good_ := fun (p q : Int × Int) => StepL c p q ∧ wt + mostF r q.1 q.2 = mostF ((c, wt) :: r) p.1 p.2
  refine sx_seq (sx_for (wi_seqS ?_))
  walk_at "go"
  refine ⟨false, _, rfl, fun i ds' μ' => ∃ (M : List (Int × Int)) (a6 a7 a8 a9 : Option Res), (∀ q, q ∈ M ↔ ∃ p ∈ L.take i, good_ p q) ∧ M.length ≤ 2 * i ∧ ds' = [some (.d (.tuple (nums ns))), some (.d (.tuple (nums ws))), some (.d (.int (a : Nat))), some (.d (.list (L.map lastD))), some (.m 0), some (.m 1), a6, a7, a8, a9] ∧ μ' = [kn, MO.memo Pg w (M.map pk) allT (M.map pk)], ?_, ?_, ?_⟩
  · exact ⟨[], _, _, _, _, fun q => ⟨fun z => (by cases z), fun ⟨p, hp, _⟩ => by simp at hp⟩, by simp, rfl, rfl⟩
  · rintro i z ds' μ' hi ⟨M, a6, a7, a8, a9, hM, hMl, rfl, rfl⟩
    have hil : i < L.length := by have := (List.getElem?_eq_some_iff.mp hi).1; rwa [List.length_map] at this
    rw [List.getElem?_map] at hi
    obtain ⟨p, hp, rfl⟩ := Option.map_eq_some_iff.mp hi
    obtain ⟨u, d⟩ := p
    have hpb := hL _ (List.mem_of_getElem? hp)
    have etake : L.take (i + 1) = L.take i ++ [(u, d)] := by rw [List.take_add_one, hp]; rfl
    refine wg_name (sx_for (wi_seqS ?_))
    walk_at "go"
    refine ⟨[sideD false, sideD true], rfl, size_le (by simp), true, _, rfl, fun j ds' μ' => ∃ (N : List (Int × Int)) (a7 a8 a9 : Option Res), (∀ q, q ∈ N ↔ q ∈ M ∨ ∃ s : Bool, (s = false ∧ 0 < j ∨ s = true ∧ 1 < j) ∧ nextLast u d c s = some q ∧ wt + mostF r q.1 q.2 = mostF ((c, wt) :: r) u d) ∧ N.length ≤ 2 * i + j ∧ ds' = [some (.d (.tuple (nums ns))), some (.d (.tuple (nums ws))), some (.d (.int (a : Nat))), some (.d (.list (L.map lastD))), some (.m 0), some (.m 1), some (.d (lastD (u, d))), a7, a8, a9] ∧ μ' = [kn, MO.memo Pg w (N.map pk) allT (N.map pk)], ?_, ?_, ?_⟩
    · refine ⟨M, _, _, _, fun q => ⟨.inl, fun z => ?_⟩, by omega, rfl, rfl⟩
      rcases z with z | ⟨s, z, _⟩
      · exact z
      · rcases z with ⟨_, z⟩ | ⟨_, z⟩ <;> omega
    · rintro j y ds' μ' hj ⟨N, b7, b8, b9, hN, hNl, rfl, rfl⟩
      have hjl : j < 2 := (List.getElem?_eq_some_iff.mp hj).1
      obtain ⟨s, rfl, hs⟩ : ∃ s, y = sideD s ∧ (s = false ∧ j = 0 ∨ s = true ∧ j = 1) := by
        match j, hjl with
        | 0, _ => exact ⟨false, by simpa using hj.symm, .inl ⟨rfl, rfl⟩⟩
        | 1, _ => exact ⟨true, by simpa using hj.symm, .inr ⟨rfl, rfl⟩⟩
      have next : ∀ N' : List (Int × Int), (∀ q, q ∈ N' ↔ q ∈ N ∨ (nextLast u d c s = some q ∧ wt + mostF r q.1 q.2 = mostF ((c, wt) :: r) u d)) → ∀ q, q ∈ N' ↔ q ∈ M ∨ ∃ s : Bool, (s = false ∧ 0 < j + 1 ∨ s = true ∧ 1 < j + 1) ∧ nextLast u d c s = some q ∧ wt + mostF r q.1 q.2 = mostF ((c, wt) :: r) u d := fun N' hN' q => by
        rw [hN', hN]
        constructor
        · rintro ((z | ⟨t, z, y⟩) | z)
          · exact .inl z
          · exact .inr ⟨t, z.imp (fun h => ⟨h.1, by omega⟩) fun h => ⟨h.1, by omega⟩, y⟩
          · exact .inr ⟨s, hs.imp (fun h => ⟨h.1, by omega⟩) fun h => ⟨h.1, by omega⟩, z⟩
        · rintro (z | ⟨t, z, y⟩)
          · exact .inl (.inl z)
          · by_cases hts : t = s
            · subst hts; exact .inr y
            · refine .inl (.inr ⟨t, ?_, y⟩)
              rcases hs with ⟨rfl, rfl⟩ | ⟨rfl, rfl⟩
              · rcases z with ⟨rfl, _⟩ | ⟨_, z⟩
                · exact absurd rfl hts
                · omega
              · rcases z with ⟨rfl, _⟩ | ⟨rfl, _⟩
                · exact .inl ⟨rfl, by omega⟩
                · exact absurd rfl hts
      refine wg_name (sx_seq (sx_asg (we_call0 ?_)))
      walk_at "go"
      refine wr_ix (.t _) (atI_of (nums_get hc)) ?_
      walk_at "go"
      refine ⟨by simp [notM], (u, d), c, s, rfl, rfl, ?_⟩
      refine sx_if (wt_test ?_)
      walk_at "go"
      cases hnl : nextLast u d c s with
      | none =>
        refine dec_f (sx_next ⟨N, _, _, _, next N fun q => ⟨.inl, fun z => ?_⟩, by omega, rfl, rfl⟩)
        rcases z with z | ⟨z, _⟩
        · exact z
        · rw [hnl] at z; cases z
      | some q =>
        have hqb := step_box hcm hpb (nextLast_step.mp ⟨s, hnl⟩)
        refine dec_t (sx_seq (sx_asg ?_))
        walk_at "go"
        refine wr_ix (.t _) (atI_of (nums_get hw)) ?_
        refine we_call1 ?_
        walk_at "go"
        refine ⟨0, _, rfl, by simp [onlyM], ns, ws, a + 1, q.1, q.2, ks, rfl, hwl, hn, by omega, by omega, hqb.1, hqb.2, rfl, _, rfl, ?_⟩
        rw [hr]
        walk_at "go"
        refine we_call1 ?_
        walk_at "go"
        refine ⟨0, _, rfl, by simp [onlyM], ns, ws, a, u, d, ks, rfl, hwl, hn, by omega, by omega, hpb.1, hpb.2, rfl, _, rfl, ?_⟩
        rw [hdrop]
        walk_at "go"
        refine ⟨fun h1 => ?_, fun h1 => ?_⟩
        · rw [decide_eq_true_eq] at h1
          refine sx_weak (k := 1) rfl (memo_more (L' := (q :: N).map pk) fun k hk => List.mem_cons_of_mem _ hk) ?_
          refine sx_putM (l := [.num q.1, .num q.2]) (j := 1) (L := (q :: N).map pk) (f := allT) (ks := N.map pk) rfl (fun k hk => ?_) List.mem_cons_self ?_ ?_
          · obtain ⟨p, _, rfl⟩ := List.mem_map.mp hk
            exact pk_depth p
          · rw [List.length_map, List.length_cons]
            exact size_le (by omega)
          · walk_at "go"
            refine ⟨q :: N, _, _, _, next _ fun x => ?_, by rw [List.length_cons]; omega, rfl, rfl⟩
            rw [List.mem_cons, Or.comm]
            refine or_congr Iff.rfl ⟨fun e => ?_, fun e => ?_⟩
            · rw [e]; exact ⟨hnl, h1⟩
            · have := e.1
              rw [hnl] at this
              cases this
              rfl
        · rw [decide_eq_false_iff_not] at h1
          refine sx_next ⟨N, _, _, _, next N fun x => ⟨.inl, fun z => ?_⟩, by omega, rfl, rfl⟩
          rcases z with z | ⟨z, e⟩
          · exact z
          · rw [hnl] at z
            cases z
            exact absurd e h1
    · rintro ds' μ' ⟨N, b7, b8, b9, hN, hNl, rfl, rfl⟩
      refine ⟨N, _, _, _, _, fun q => ?_, hNl, rfl, rfl⟩
      rw [hN, hM, etake]
      simp only [List.mem_append, List.mem_singleton]
      constructor
      · rintro (⟨p, hp, z⟩ | ⟨s, _, z, e⟩)
        · exact ⟨p, .inl hp, z⟩
        · exact ⟨(u, d), .inr rfl, nextLast_step.mp ⟨s, z⟩, e⟩
      · rintro ⟨p, hp | rfl, z⟩
        · exact .inl ⟨p, hp, z⟩
        · obtain ⟨s, hs⟩ := nextLast_step.mpr z.1
          refine .inr ⟨s, ?_, hs, z.2⟩
          cases s with
          | false => exact .inl ⟨rfl, by decide⟩
          | true => exact .inr ⟨rfl, by decide⟩
  · rintro ds' μ' ⟨M, a6, a7, a8, a9, hM, hMl, rfl, rfl⟩
    rw [List.length_map] at hMl hM
    rw [List.take_length] at hM
    refine sx_retW (wn_lstM (L := M.map pk) (f := allT) (ks := M.map pk) ?_)
    walk_at "go"
    refine ⟨by rw [List.length_map]; exact size_le (by omega), fun kl hnd h1 h2 => ?_⟩
    obtain ⟨L', rfl, hm⟩ := keys_back h1
    have hmem : ∀ q, q ∈ L' ↔ q ∈ M := fun q => ⟨hm q, fun hq => by
      obtain ⟨p, hp, e⟩ := List.mem_map.mp (h2 (pk q) (List.mem_map.mpr ⟨q, hq, rfl⟩))
      exact pk_inj e ▸ hp⟩
    have hbox : InBox ns L' := fun q hq => by
      obtain ⟨p, hp, st, _⟩ := (hM q).mp ((hmem q).mp hq)
      exact step_box hcm (hL p hp) st
    have hst : StaysAt c wt r L L' := fun q => by
      rw [hmem, hM]
    have hnd' : L'.Nodup := by
      rw [List.Nodup, List.pairwise_map] at hnd
      exact hnd.imp fun h e => h (by rw [e])
    rw [List.map_map]
    exact h L' hst hnd' hbox
end
end Wv

set_option linter.all false
namespace Wv
/-! ### lots of places -/
def goneL : List Bool → Nat → List Int
  | [], _ => []
  | b :: bs, k => if b then goneL bs (k + 1) else (k : Int) :: goneL bs (k + 1)
theorem gone_snoc : ∀ (bs : List Bool) (b : Bool) (k : Nat), goneL (bs ++ [b]) k = goneL bs k ++ (if b then [] else [((k + bs.length : Nat) : Int)])
  | [], b, k => by cases b <;> rfl
  | c :: bs, b, k => by
    rw [List.cons_append, goneL, goneL, gone_snoc bs b (k + 1), List.length_cons, show k + 1 + bs.length = k + (bs.length + 1) by omega]
    cases c <;> simp
theorem gone_len : ∀ (bs : List Bool) (k : Nat), (goneL bs k).length ≤ bs.length
  | [], _ => Nat.le_refl _
  | b :: bs, k => by
    rw [goneL]
    have := gone_len bs (k + 1)
    cases b <;> simp <;> omega
theorem gone_ge : ∀ {bs : List Bool} {k : Nat} {x : Int}, x ∈ goneL bs k → (k : Int) ≤ x ∧ x < k + bs.length
  | [], _, _, h => by cases h
  | b :: bs, k, x, h => by
    rw [goneL] at h
    rw [List.length_cons]
    cases b with
    | true => rw [if_pos rfl] at h; have := gone_ge h; omega
    | false =>
      rw [if_neg (by decide)] at h
      rcases List.mem_cons.mp h with rfl | h
      · omega
      · have := gone_ge h; omega
theorem gone_strict : ∀ (bs : List Bool) (k : Nat), (goneL bs k).Pairwise (· < ·)
  | [], _ => .nil
  | b :: bs, k => by
    rw [goneL]
    cases b with
    | true => exact gone_strict bs (k + 1)
    | false =>
      rw [if_neg (by decide), List.pairwise_cons]
      exact ⟨fun x hx => by have := gone_ge hx; omega, gone_strict bs (k + 1)⟩
def withoutK : List Int → Nat → List Int → List Int
  | [], _, _ => []
  | c :: r, k, lot => if (k : Int) ∈ lot then withoutK r (k + 1) lot else c :: withoutK r (k + 1) lot
def keepB : List Int → List Bool → List Int
  | c :: r, b :: bs => if b then c :: keepB r bs else keepB r bs
  | _, _ => []
theorem without_congr : ∀ {r : List Int} {k : Nat} {l m : List Int}, (∀ j : Int, (k : Int) ≤ j → (j ∈ l ↔ j ∈ m)) → withoutK r k l = withoutK r k m
  | [], _, _, _, _ => rfl
  | c :: r, k, l, m, h => by
    rw [withoutK, withoutK, without_congr (r := r) (k := k + 1) fun j hj => h j (by omega)]
    by_cases e : (k : Int) ∈ l
    · rw [if_pos e, if_pos ((h k (Int.le_refl _)).mp e)]
    · rw [if_neg e, if_neg fun z => e ((h k (Int.le_refl _)).mpr z)]
theorem without_gone : ∀ {r : List Int} {bs : List Bool} {k : Nat}, bs.length = r.length → withoutK r k (goneL bs k) = keepB r bs
  | [], [], _, _ => rfl
  | [], _ :: _, _, h => by cases h
  | _ :: _, [], _, h => by cases h
  | c :: r, b :: bs, k, h => by
    have hl : bs.length = r.length := by simpa using h
    rw [withoutK, keepB]
    cases b with
    | true =>
      rw [goneL, if_pos rfl, if_neg fun z => by have := gone_ge z; omega, if_pos rfl, without_gone hl]
    | false =>
      have eg : goneL (false :: bs) k = (k : Int) :: goneL bs (k + 1) := rfl
      rw [eg, if_pos List.mem_cons_self, if_neg (by decide), ← without_gone (k := k + 1) hl]
      refine without_congr fun j hj => ?_
      rw [List.mem_cons]
      exact ⟨fun z => z.resolve_left (by omega), .inr⟩
theorem keep_sub : ∀ (r : List Int) (bs : List Bool), (keepB r bs).Sublist r
  | [], _ => by simp [keepB]
  | _ :: _, [] => by simp [keepB]
  | c :: r, b :: bs => by
    rw [keepB]
    cases b with
    | true => rw [if_pos rfl]; exact (keep_sub r bs).cons_cons c
    | false => rw [if_neg (by decide)]; exact (keep_sub r bs).cons c
theorem keep_stay : ∀ {r ws : List Int} {bs : List Bool}, ws.length = r.length → keepB r bs = (stayL (r.zip ws) bs).map (·.1)
  | [], _, bs, _ => by cases bs <;> simp [keepB, stayL]
  | _ :: _, [], _, h => by cases h
  | c :: r, w :: ws, [], _ => by simp [keepB, stayL]
  | c :: r, w :: ws, b :: bs, h => by
    rw [keepB, List.zip_cons_cons, stayL, keep_stay (r := r) (ws := ws) (bs := bs) (by simpa using h)]
    cases b <;> simp
theorem keep_gone_len : ∀ {r : List Int} {bs : List Bool} {k : Nat}, bs.length = r.length → (keepB r bs).length + (goneL bs k).length = r.length
  | [], [], _, _ => rfl
  | [], _ :: _, _, h => by cases h
  | _ :: _, [], _, h => by cases h
  | c :: r, b :: bs, k, h => by
    have := keep_gone_len (r := r) (bs := bs) (k := k + 1) (by simpa using h)
    rw [keepB, goneL]
    cases b <;> simp <;> omega
def ones (n : Nat) : List Int := List.replicate n 1
theorem ones_len (n : Nat) : (ones n).length = n := List.length_replicate
theorem worth_ones : ∀ {r : List Int} {bs : List Bool}, worthL (stayL (r.zip (ones r.length)) bs) = (keepB r bs).length
  | [], bs => by cases bs <;> simp [keepB, stayL, worthL]
  | c :: r, [] => by simp [keepB, stayL, worthL, ones, List.replicate_succ]
  | c :: r, b :: bs => by
    have ih := worth_ones (r := r) (bs := bs)
    rw [List.length_cons, ones, List.replicate_succ, List.zip_cons_cons, stayL, keepB]
    cases b with
    | true => rw [if_pos rfl, if_pos rfl, worthL_cons, List.length_cons]; unfold ones at ih; rw [ih]; dsimp only; omega
    | false => rw [if_neg (by decide), if_neg (by decide)]; exact ih
def lexI : List Int → List Int → Bool
  | [], [] => false
  | [], _ :: _ => true
  | _ :: _, [] => false
  | x :: xs, y :: ys => if x = y then lexI xs ys else decide (x < y)
def lotLt (a b : List Int) : Bool := decide (a.length < b.length) || (decide (a.length = b.length) && lexI a b)
theorem lex_gone : ∀ {bs cs : List Bool} {k : Nat}, bs.length = cs.length → bLt bs cs → (goneL bs k).length = (goneL cs k).length → lexI (goneL bs k) (goneL cs k) = true
  | [], [], _, _, h, _ => by exact h.elim
  | [], _ :: _, _, h, _, _ => by cases h
  | _ :: _, [], _, h, _, _ => by cases h
  | a :: bs, b :: cs, k, hl, h, hg => by
    have hl' : bs.length = cs.length := by simpa using hl
    rcases h with ⟨rfl, rfl⟩ | ⟨rfl, h⟩
    · rw [goneL, goneL, if_neg (by decide), if_pos rfl] at hg
      rw [goneL, goneL, if_neg (by decide), if_pos rfl]
      cases e : goneL cs (k + 1) with
      | nil => rw [e] at hg; simp at hg
      | cons y ys =>
        have hy := gone_ge (bs := cs) (k := k + 1) (x := y) (by rw [e]; simp)
        rw [lexI, if_neg (by omega), decide_eq_true_eq]
        omega
    · rw [goneL, goneL] at hg ⊢
      cases a with
      | true => rw [if_pos rfl, if_pos rfl] at *; exact lex_gone hl' h hg
      | false =>
        rw [if_neg (by decide), if_neg (by decide)] at *
        rw [lexI, if_pos rfl]
        exact lex_gone hl' h (by simpa using hg)
/-- the told lot is the first -/
theorem first_lot {ns : List Int} {bs : List Bool} (hr : Rng ns) (hlv : Leave (ns.zip (ones ns.length)) [(-1, 1000000001)] bs) :
    bs.length = ns.length ∧ Wov (keepB ns bs) ∧ ∀ cs : List Bool, cs.length = ns.length → Wov (keepB ns cs) → cs = bs ∨ lotLt (goneL bs 0) (goneL cs 0) = true := by
  have hz : (ns.zip (ones ns.length)).length = ns.length := by rw [List.length_zip, ones_len]; omega
  have hbl : bs.length = ns.length := by rw [leave_len hlv, hz]
  have gd : ∀ cs, Wov (keepB ns cs) ↔ good ((stayL (ns.zip (ones ns.length)) cs).map (·.1)) (-1) 1000000001 = true := fun cs => by
    rw [← keep_stay (ones_len _)]
    exact (good_wov fun x hx => by have := hr x ((keep_sub ns cs).subset hx); omega).symm
  obtain ⟨⟨p, hp, g⟩, hw, hf⟩ := leave_best hlv (m := mostF (ns.zip (ones ns.length)) (-1) 1000000001) (by simp) fun p hp => by rw [List.mem_singleton.mp hp]
  rw [List.mem_singleton.mp hp] at g
  refine ⟨hbl, (gd bs).mpr g, fun cs hcl hcw => ?_⟩
  have hcg := (gd cs).mp hcw
  have hmg := most_ge (p := (-1, 1000000001)) hcg
  have hmg : worthL (stayL (ns.zip (ones ns.length)) cs) ≤ mostF (ns.zip (ones ns.length)) (-1) 1000000001 := hmg.resolve_right fun z => z (by omega)
  have e1 := keep_gone_len (r := ns) (bs := bs) (k := 0) hbl
  have e2 := keep_gone_len (r := ns) (bs := cs) (k := 0) hcl
  rw [worth_ones] at hmg hw
  unfold lotLt
  by_cases heq : (keepB ns cs).length = (keepB ns bs).length
  · rcases hf cs (by omega) (-1, 1000000001) (by simp) hcg (by rw [worth_ones]; omega) with e | e
    · exact .inl e
    · refine .inr ?_
      rw [lex_gone (by omega) e (by omega), decide_eq_true (show (goneL bs 0).length = (goneL cs 0).length by omega)]
      simp
  · refine .inr ?_
    rw [decide_eq_true (show (goneL bs 0).length < (goneL cs 0).length by omega)]
    rfl
def lotsF : Nat → List (List Int)
  | 0 => [[]]
  | n + 1 => lotsF n ++ (lotsF n).map (· ++ [(n : Int)])
theorem lots_len : ∀ n, (lotsF n).length = 2 ^ n
  | 0 => rfl
  | n + 1 => by rw [lotsF, List.length_append, List.length_map, lots_len n, Nat.pow_succ]; omega
theorem mem_lots : ∀ {n : Nat} {l : List Int}, l ∈ lotsF n ↔ ∃ bs : List Bool, bs.length = n ∧ l = goneL bs 0
  | 0, l => by
    constructor
    · intro h; exact ⟨[], rfl, by simpa [lotsF, goneL] using h⟩
    · rintro ⟨bs, h, rfl⟩; rw [List.eq_nil_of_length_eq_zero h]; simp [lotsF, goneL]
  | n + 1, l => by
    rw [lotsF, List.mem_append, List.mem_map]
    constructor
    · rintro (h | ⟨m, h, rfl⟩)
      · obtain ⟨bs, hl, rfl⟩ := mem_lots.mp h
        exact ⟨bs ++ [true], by rw [List.length_append, hl]; rfl, by rw [gone_snoc]; simp⟩
      · obtain ⟨bs, hl, rfl⟩ := mem_lots.mp h
        exact ⟨bs ++ [false], by rw [List.length_append, hl]; rfl, by rw [gone_snoc, hl]; simp⟩
    · rintro ⟨bs, hl, rfl⟩
      rcases List.eq_nil_or_concat bs with rfl | ⟨cs, b, rfl⟩
      · cases hl
      · rw [List.concat_eq_append] at hl ⊢
        have hcl : cs.length = n := by simpa using hl
        rw [gone_snoc]
        cases b with
        | true => exact .inl (by simpa using mem_lots.mpr ⟨cs, hcl, rfl⟩)
        | false => exact .inr ⟨goneL cs 0, mem_lots.mpr ⟨cs, hcl, rfl⟩, by simp [hcl]⟩
/-! ### a card put in -/
theorem put_in {cs : List (Int × Bool)} {x : Int} {i : Nat} (hp : cs.Pairwise RR) (h1 : ∀ p ∈ cs.take i, p.2 = true → p.1 < x) (h2 : ∀ p ∈ cs.drop i, p.2 = true → x < p.1) : (cs.take i ++ [(x, true)] ++ cs.drop i).Pairwise RR := by
  have hp' : (cs.take i ++ cs.drop i).Pairwise RR := by rw [List.take_append_drop]; exact hp
  rw [List.pairwise_append] at hp'
  rw [List.append_assoc, List.pairwise_append]
  refine ⟨hp'.1, ?_, ?_⟩
  · rw [List.singleton_append, List.pairwise_cons]
    refine ⟨fun q hq e => ?_, hp'.2.1⟩
    rw [if_pos rfl]
    exact h2 q hq e.symm
  · intro p hpm q hq
    rcases List.mem_append.mp hq with hq | hq
    · rw [List.mem_singleton.mp hq]
      intro e
      have e : p.2 = true := e
      rw [e, if_pos rfl]
      exact h1 p hpm e
    · exact hp'.2.2 p hpm q hq
/-- where it is put in: ahead of the first greater one of the rising ones, or at the end -/
theorem put_place : ∀ {cs : List (Int × Bool)} {x : Int}, (cs.map (·.1)).Nodup → (upsOf cs).Pairwise (· < ·) → x ∉ cs.map (·.1) →
    ((upsOf cs).filter (fun y => decide (x < y)) = [] ∧ ∀ p ∈ cs, p.2 = true → p.1 < x) ∨
    ∃ i y rest, (upsOf cs).filter (fun y => decide (x < y)) = y :: rest ∧ (cs.map (·.1))[i]? = some y ∧ (∀ m, m < i → (cs.map (·.1))[m]? ≠ some y) ∧ (∀ p ∈ cs.take i, p.2 = true → p.1 < x) ∧ ∀ p ∈ cs.drop i, p.2 = true → x < p.1
  | [], x, _, _, _ => .inl ⟨rfl, fun _ h => by cases h⟩
  | (c, s) :: cs, x, hn, hs, hx => by
    rw [List.map_cons, List.nodup_cons] at hn
    rw [List.map_cons, List.mem_cons, not_or] at hx
    have hne : x ≠ c := hx.1
    by_cases hit : s = true ∧ x < c
    · obtain ⟨rfl, hlt⟩ := hit
      rw [ups_cons, if_pos rfl] at hs ⊢
      rw [List.pairwise_cons] at hs
      refine .inr ⟨0, c, (upsOf cs).filter fun y => decide (x < y), by rw [List.filter_cons, if_pos (decide_eq_true hlt)], rfl, fun m hm => by omega, fun p hp => by simp at hp, fun p hp hps => ?_⟩
      rw [List.drop_zero] at hp
      rcases List.mem_cons.mp hp with rfl | hp
      · exact hlt
      · have := hs.1 p.1 (by unfold upsOf; exact List.mem_map.mpr ⟨p, List.mem_filter.mpr ⟨hp, hps⟩, rfl⟩)
        omega
    · have hf : (upsOf ((c, s) :: cs)).filter (fun y => decide (x < y)) = (upsOf cs).filter (fun y => decide (x < y)) := by
        rw [ups_cons]
        cases s with
        | true => rw [if_pos rfl, List.filter_cons, if_neg (by rw [decide_eq_true_eq]; exact fun z => hit ⟨rfl, z⟩)]
        | false => rw [if_neg (by decide)]
      have hs' : (upsOf cs).Pairwise (· < ·) := by
        rw [ups_cons] at hs
        cases s with
        | true => rw [if_pos rfl, List.pairwise_cons] at hs; exact hs.2
        | false => rw [if_neg (by decide)] at hs; exact hs
      have hc : s = true → c < x := fun e => by
        have : ¬ x < c := fun z => hit ⟨e, z⟩
        omega
      rw [hf]
      rcases put_place hn.2 hs' hx.2 with ⟨h1, h2⟩ | ⟨i, y, rest, h1, h2, h3, h4, h5⟩
      · refine .inl ⟨h1, fun p hp hps => ?_⟩
        rcases List.mem_cons.mp hp with rfl | hp
        · exact hc hps
        · exact h2 p hp hps
      · refine .inr ⟨i + 1, y, rest, h1, by simpa using h2, fun m hm => ?_, fun p hp hps => ?_, fun p hp hps => h5 p (by simpa using hp) hps⟩
        · cases m with
          | zero =>
            intro e
            have : c = y := by simpa using e
            exact hn.1 (this ▸ List.mem_of_getElem? h2)
          | succ m => simpa using h3 m (by omega)
        · rw [List.take_succ_cons] at hp
          rcases List.mem_cons.mp hp with rfl | hp
          · exact hc hps
          · exact h4 p hp hps
end Wv

set_option Elab.async false
set_option linter.all false
set_option maxRecDepth 100000
set_option maxHeartbeats 2000000
namespace Wv
open PySem PySem.Spec PyProof.Rows L2
local macro_rules | `(tactic| walk_at "var") => `(tactic| ((with_reducible refine we_var (r := ?r) ?h ?_); (case h => rfl)))
local macro_rules | `(tactic| walk_at "ev") => `(tactic| (first
  | walk_at "var" | with_reducible refine we_int ?_ | with_reducible refine we_str ?_ | with_reducible refine we_bl ?_ | with_reducible refine we_non ?_ | with_reducible refine wa_cons ?_ | with_reducible refine wa_nil ?_
  | with_reducible refine wr_b0 ?_ | with_reducible refine wr_i0 ?_ | with_reducible refine wr_addI ?_ | with_reducible refine wu_neg ?_
  | with_reducible refine we_op ?_ | with_reducible refine we_un ?_ | with_reducible refine we_cb ?_ | with_reducible refine we_tup ?_ | with_reducible refine we_tupV ?_ | with_reducible refine we_chain ?_ | with_reducible refine we_chain3 ?_ | with_reducible refine we_andV ?_ | with_reducible refine we_orV ?_ | with_reducible refine we_notV ?_ | with_reducible refine we_if ?_
  | with_reducible refine wt_test ?_ | with_reducible refine wt_B ?_ | with_reducible refine wt_and ?_ | with_reducible refine wt_or ?_ | with_reducible refine wt_not ?_ | with_reducible refine wr_isNN ?_ | with_reducible refine wr_isN ?_ | with_reducible refine wr_isB ?_ | with_reducible refine wr_isNB ?_
  | with_reducible refine wc_max2 ?_ | with_reducible refine wc_min2 ?_ | with_reducible refine wc_isi (isi_int _) ?_ | with_reducible refine wc_isi (isi_bool _) ?_ | with_reducible refine wc_isi (isi_tuple _) ?_ | with_reducible refine wc_isi (isi_list _) ?_ | with_reducible refine wc_isi (isi_str _) ?_
  | with_reducible refine sx_seq ?_ | with_reducible refine sx_next ?_ | with_reducible refine sx_ret ?_ | with_reducible refine sx_drop ?_ | with_reducible refine sx_if ?_ | with_reducible refine sx_par ?_ | with_reducible refine wo_none ?_ | with_reducible refine wo_some ?_
  | with_reducible refine wg_name ?_ | with_reducible refine wgs_nil ?_ | with_reducible refine wgs_cons ?_ | with_reducible refine wg_tup rfl ?_
  | with_reducible refine wr_eqI ?_ | with_reducible refine wr_neI ?_
  | ((with_reducible refine' wc_len ?h ?_); (case h => first | exact .t _ | exact .l (.d _) | exact .of | exact .l (.m rfl)))
  | ((with_reducible refine' wr_ix ?h1 ?h2 ?_); (case h1 => exact .l (.m rfl)); (case h2 => rfl))
  | with_reducible refine wgcs_nil ?_ | with_reducible refine wgcs_cons ?_ | with_reducible refine wgc_tup rfl ?_ | with_reducible refine wgc_name (by decide) ?_ | with_reducible refine we_v ?_ | with_reducible refine ⟨_, rfl, ?_⟩ | with_reducible refine dec_t ?_ | with_reducible refine dec_f ?_ | with_reducible refine dec_nt ?_ | with_reducible refine dec_nf ?_ | with_reducible refine And.intro rfl ?_))
local macro_rules | `(tactic| walk_at "go") => `(tactic| repeat walk_at "ev")
section
variable {K : PySem.W.Frag} {Pg : Program} {w : World} {rs : List Res} {μ : List MO} {P : PyData → List MO → Prop}
/-! ### leaving -/
def S_leaving : Spec := fun rs μ P => ∃ ns ws : List Int, rs = [.d (.tuple (nums ns)), .d (.tuple (nums ws))] ∧ ws.length = ns.length ∧ ns.length ≤ 60 ∧ μ = [] ∧ ∀ bs, Leave (ns.zip ws) [begunP] bs → P (.tuple (nums (goneL bs 0))) []
/- leaving: slots 0 row, 1 worths, 2 known, 3 lasts, 4 found, 5 at, 6 gone, 7 last -/
def R_leaving (K : PySem.W.Frag) (Pg : Program) (w : World) : TS :=
    (tSeq (tAsg (tDNewN Pg w) (gName 2))
    (tSeq (tAsg (tLst (tCons (tCall (FSp K S_begun) [] E0 tNil) tNil)) (gName 3))
    (tSeq (tAsg (tLst tNil) (gName 4))
    (tSeq (tFor (iRng1 (tCons (tCB (rLenX K) (tCons (tVar 0) tNil)) tNil)) (gName 5) (tSeq (tAsg (tLst tNil) (gName 6))
    (tSeq (tFor (iSeq K (tVar 3)) (gName 7) (tIfS (tTest (tOp (rEqD K) (tCall (FSp K (S_most_from Pg w)) [] E0 (tCons (tVar 0) (tCons (tVar 1) (tCons (tVar 5) (tCons (tVar 7) (tCons (tVar 2) tNil)))))) (tCall (FSp K (S_most_from Pg w)) [] E0 (tCons (tVar 0) (tCons (tVar 1) (tCons (tOp (rAddX K) (tVar 5) (tC (.int 1))) (tCons (tVar 7) (tCons (tVar 2) tNil)))))))) (tDrop (tBM K "list" rAppend (tVar 6) (tCons (tVar 7) tNil))) tNext))
    (tIfS (tTest (tOp (rNeD K) (tVar 6) (tLst tNil))) (tSeq (tDrop (tBM K "list" rAppend (tVar 4) (tCons (tVar 5) tNil)))
    (tAsg (tVar 6) (gName 3))) (tAsg (tCall (FSp K (S_stays Pg w)) [] E0 (tCons (tVar 0) (tCons (tVar 1) (tCons (tVar 5) (tCons (tVar 3) (tCons (tVar 2) tNil)))))) (gName 3))))))
    (tRet (tCB (rTupX K) (tCons (tVar 4) tNil)))))))
theorem sx_leaving (h : S_leaving rs μ P) : SX K μ.length (R_leaving K Pg w) (endsOf μ.length P) (startD 8 rs) μ := by
  obtain ⟨ns, ws, rfl, hwl, hn, rfl, h⟩ := h
  let kn := MO.memo Pg w (LG ns) (fM (ns.zip ws)) []
  unfold R_leaving
  refine sx_seq (sx_dnew (Nat.le_refl _) (LG ns) (fM (ns.zip ws)) ?_)
  refine sx_seq (sx_asg (we_new (wn_lst ?_)))
  refine wa_cons (we_call0 (wa_nil ⟨by simp, rfl, rfl, ?_⟩))
  walk_at "go"
  refine ⟨[_], rfl, size_le (by simp), ?_⟩
  refine sx_seq (sx_asgM (Nat.zero_le _) (wn_lst ?_))
  walk_at "go"
  refine ⟨[], rfl, size_le (by simp), _, .refl _, ?_⟩
  refine sx_seq (sx_for (wi_rng1 ?_))
  walk_at "go"
  rw [List.length_map]
  refine ⟨by omega, by omega, fun i ds' μ' => ∃ (L : List (Int × Int)) (bs : List Bool) (a5 a6 a7 : Option Res), bs.length = i ∧ (∀ cs, Leave ((ns.zip ws).drop i) L cs → Leave (ns.zip ws) [begunP] (bs ++ cs)) ∧ InBox ns L ∧ L.Nodup ∧ ds' = [some (.d (.tuple (nums ns))), some (.d (.tuple (nums ws))), some (.m 0), some (.d (.list (L.map lastD))), some (.m 1), a5, a6, a7] ∧ μ' = [kn, MO.lst (nums (goneL bs 0))], ?_, ?_, ?_⟩
  · refine ⟨[begunP], [], none, none, none, rfl, fun cs h => h, fun p hp => ?_, by simp, rfl, rfl⟩
    rw [List.mem_singleton.mp hp]
    exact ⟨List.mem_cons_self, List.mem_cons_self⟩
  · rintro i z ds' μ' hi ⟨L, bs, a5, a6, a7, hbl, hlv, hbox, hnd, rfl, rfl⟩
    have hil : i < ns.length := by
      have := (List.getElem?_eq_some_iff.mp hi).1
      rw [rngD_len] at this
      omega
    have ez : z = .int (i : Nat) := by
      rw [rngD_get (by omega)] at hi
      cases hi
      rw [Int.zero_add]
    subst ez
    obtain ⟨c, hc⟩ : ∃ c, ns[i]? = some c := ⟨_, List.getElem?_eq_getElem hil⟩
    obtain ⟨wt, hw⟩ : ∃ c, ws[i]? = some c := ⟨_, List.getElem?_eq_getElem (by omega)⟩
    have hdrop := zip_drop hc hw
    have hLl : L.length ≤ 3721 := Nat.le_trans (len_le_of_nodup hnd fun p hp => boxG_mem.mpr (hbox p hp)) (boxG_len hn)
    let cond := fun p : Int × Int => decide (mostF ((ns.zip ws).drop i) p.1 p.2 = mostF ((ns.zip ws).drop (i + 1)) p.1 p.2)
    refine wg_name (sx_seq (sx_asgM (Nat.zero_le _) (wn_lst ?_)))
    walk_at "go"
    refine ⟨[], rfl, size_le (by simp), _, .refl _, ?_⟩
    refine sx_seq (sx_for (wi_seqS ?_))
    walk_at "go"
    refine ⟨false, _, rfl, fun j ds' μ' => ∃ a7, ds' = [some (.d (.tuple (nums ns))), some (.d (.tuple (nums ws))), some (.m 0), some (.d (.list (L.map lastD))), some (.m 1), some (.d (.int (i : Nat))), some (.m 2), a7] ∧ μ' = [kn, MO.lst (nums (goneL bs 0)), MO.lst (((L.take j).filter cond).map lastD)], ⟨_, rfl, rfl⟩, ?_, ?_⟩
    · rintro j y ds' μ' hj ⟨b7, rfl, rfl⟩
      rw [List.getElem?_map] at hj
      obtain ⟨p, hp, rfl⟩ := Option.map_eq_some_iff.mp hj
      obtain ⟨u, d⟩ := p
      have hpb := hbox _ (List.mem_of_getElem? hp)
      have etake : L.take (j + 1) = L.take j ++ [(u, d)] := by rw [List.take_add_one, hp]; rfl
      refine wg_name (sx_if (wt_test ?_))
      walk_at "go"
      refine we_call1 ?_
      walk_at "go"
      refine ⟨0, _, rfl, by simp [onlyM], ns, ws, i, u, d, [], rfl, hwl, hn, by omega, by omega, hpb.1, hpb.2, rfl, _, rfl, ?_⟩
      refine we_call1 ?_
      walk_at "go"
      refine ⟨0, _, rfl, by simp [onlyM], ns, ws, i + 1, u, d, [], rfl, hwl, hn, by omega, by omega, hpb.1, hpb.2, rfl, _, rfl, ?_⟩
      walk_at "go"
      refine ⟨fun h1 => ?_, fun h1 => ?_⟩
      · refine sx_drop (we_bm ?_)
        walk_at "go"
        refine ⟨⟨_, .m rfl⟩, ?_⟩
        walk_at "go"
        refine wm_append rfl (size_big (by rw [List.length_map]; have := List.length_filter_le cond (L.take j); rw [List.length_take] at this; omega)) ⟨_, rfl, ?_⟩
        rw [etake, List.filter_append, List.filter_cons, if_pos h1, List.map_append]
        rfl
      · refine sx_next ⟨_, rfl, ?_⟩
        have hcf : cond (u, d) = false := h1
        rw [etake, List.filter_append, List.filter_cons, hcf, if_neg (by decide), List.filter_nil, List.append_nil]
        rfl
    · rintro ds' μ' ⟨b7, rfl, rfl⟩
      rw [List.length_map, List.take_length]
      refine sx_frz (μ0 := [kn, MO.lst (nums (goneL bs 0))]) (Nat.zero_le _) ?_
      refine sx_if (wt_test ?_)
      walk_at "go"
      refine we_new (wn_lst ?_)
      walk_at "go"
      refine ⟨[], rfl, size_le (by simp), ?_⟩
      refine wr_neNil (.d _) shp_lasts (by decide) ⟨_, rfl, fun h1 => ?_, fun h1 => ?_⟩
      · have hne : L.filter cond ≠ [] := fun e => by rw [e] at h1; cases h1
        refine sx_seq (sx_drop (we_bm ?_))
        walk_at "go"
        refine ⟨⟨_, .m rfl⟩, ?_⟩
        walk_at "go"
        refine wm_append rfl (size_big (by rw [List.length_map]; have := gone_len bs 0; omega)) ?_
        refine sx_asg ?_
        walk_at "go"
        refine ⟨L.filter cond, bs ++ [false], _, _, _, by rw [List.length_append, hbl]; rfl, fun cs hcs => ?_, fun p hp => hbox p (List.mem_filter.mp hp).1, hnd.sublist List.filter_sublist, rfl, ?_⟩
        · rw [List.append_assoc]
          refine hlv _ ?_
          rw [hdrop]
          refine .go ?_ hne hcs
          show L.filter (fun p => decide (mostF ((ns.zip ws).drop i) p.1 p.2 = mostF ((ns.zip ws).drop (i + 1)) p.1 p.2)) = _
          rw [hdrop]
        · rw [gone_snoc, if_neg (by decide), hbl, Nat.zero_add, ← nums_snoc]
          rfl
      · have hnil : L.filter cond = [] := by
          cases e : L.filter cond with
          | nil => rfl
          | cons _ _ => rw [e] at h1; cases h1
        refine sx_asg (we_call1 ?_)
        walk_at "go"
        refine ⟨0, _, rfl, by simp [onlyM], ns, ws, i, c, wt, L, [], rfl, hwl, hn, hc, hw, hbox, by omega, rfl, fun L' hst hnd' hbox' => ⟨_, rfl, ?_⟩⟩
        refine ⟨L', bs ++ [true], _, _, _, by rw [List.length_append, hbl]; rfl, fun cs hcs => ?_, hbox', hnd', rfl, ?_⟩
        · rw [List.append_assoc]
          refine hlv _ ?_
          rw [hdrop]
          refine .stay ?_ hst hcs
          have := hnil
          show L.filter (fun p => decide (mostF ((c, wt) :: (ns.zip ws).drop (i + 1)) p.1 p.2 = mostF ((ns.zip ws).drop (i + 1)) p.1 p.2)) = []
          rw [← hdrop]
          exact this
        · rw [gone_snoc, if_pos rfl, List.append_nil]
          rfl
  · rintro ds' μ' ⟨L, bs, a5, a6, a7, hbl, hlv, hbox, hnd, rfl, rfl⟩
    rw [rngD_len, Int.toNat_natCast] at hbl hlv
    have : Leave (ns.zip ws) [begunP] bs := by
      have := hlv [] (by rw [List.drop_of_length_le (by rw [List.length_zip]; omega)]; exact .nil L)
      rwa [List.append_nil] at this
    walk_at "go"
    exact wc_tupL (.m rfl) (ret_d (h bs this))
/-! ### fewest -/
def S_fewest : Spec := fun rs μ P => ∃ ns : List Int, rs = [.d (.tuple (nums ns))] ∧ IsRow ns ∧ μ = [] ∧ ∀ bs, Leave (ns.zip (ones ns.length)) [begunP] bs → P (.tuple [.int ((goneL bs 0).length : Nat), .tuple (nums (goneL bs 0))]) []
/- fewest: slots 0 row, 1 found -/
def R_fewest (K : PySem.W.Frag) (Pg : Program) (w : World) : TS :=
    (tSeq (tDrop (tCall (FSp K S_need_row) [] E0 (tCons (tVar 0) tNil)))
    (tSeq (tAsg (tCall (FSp K S_leaving) [] E0 (tCons (tVar 0) (tCons (tOp (rRepX K) (tTup (tCons (tC (.int 1)) tNil)) (tCB (rLenX K) (tCons (tVar 0) tNil))) tNil))) (gName 1))
    (tRet (tTup (tCons (tCB (rLenX K) (tCons (tVar 1) tNil)) (tCons (tVar 1) tNil))))))
theorem rep_ones (n : Nat) : List.replicate n (PyData.int 1) = nums (ones n) := by unfold nums ones; rw [List.map_replicate]
theorem sx_fewest (h : S_fewest rs μ P) : SX K μ.length (R_fewest K Pg w) (endsOf μ.length P) (startD 2 rs) μ := by
  obtain ⟨ns, rfl, hr, rfl, h⟩ := h
  have h40 := hr.le
  have hpos := hr.pos
  unfold R_fewest
  refine sx_seq (sx_drop (we_call0 ?_))
  walk_at "go"
  refine ⟨by simp [notM], ns, rfl, hr, rfl, ?_⟩
  refine sx_seq (sx_asg (we_call0 ?_))
  walk_at "go"
  refine ⟨[_], rfl, size_le (by simp), ?_⟩
  walk_at "go"
  rw [List.length_map]
  refine wr_rep hpos (by omega) ?_
  rw [rep_ones]
  walk_at "go"
  refine ⟨by simp [notM], ns, ones ns.length, rfl, ones_len _, by omega, rfl, fun bs hbs => ?_⟩
  walk_at "go"
  refine ⟨[_, _], rfl, size_le (by simp), ret_d ?_⟩
  rw [List.length_map]
  exact h bs hbs
end
end Wv

set_option Elab.async false
set_option linter.all false
set_option maxRecDepth 100000
set_option maxHeartbeats 2000000
namespace Wv
open PySem PySem.Spec PyProof.Rows L2
local macro_rules | `(tactic| walk_at "var") => `(tactic| ((with_reducible refine we_var (r := ?r) ?h ?_); (case h => rfl)))
local macro_rules | `(tactic| walk_at "ev") => `(tactic| (first
  | walk_at "var" | with_reducible refine we_int ?_ | with_reducible refine we_str ?_ | with_reducible refine we_bl ?_ | with_reducible refine we_non ?_ | with_reducible refine wa_cons ?_ | with_reducible refine wa_nil ?_
  | with_reducible refine wr_b0 ?_ | with_reducible refine wr_i0 ?_ | with_reducible refine wr_addI ?_ | with_reducible refine wu_neg ?_
  | with_reducible refine we_op ?_ | with_reducible refine we_un ?_ | with_reducible refine we_cb ?_ | with_reducible refine we_tup ?_ | with_reducible refine we_tupV ?_ | with_reducible refine we_chain ?_ | with_reducible refine we_chain3 ?_ | with_reducible refine we_andV ?_ | with_reducible refine we_orV ?_ | with_reducible refine we_notV ?_ | with_reducible refine we_if ?_
  | with_reducible refine wt_test ?_ | with_reducible refine wt_B ?_ | with_reducible refine wt_and ?_ | with_reducible refine wt_or ?_ | with_reducible refine wt_not ?_ | with_reducible refine wr_isNN ?_ | with_reducible refine wr_isN ?_ | with_reducible refine wr_isB ?_ | with_reducible refine wr_isNB ?_
  | with_reducible refine wc_max2 ?_ | with_reducible refine wc_min2 ?_ | with_reducible refine wc_isi (isi_int _) ?_ | with_reducible refine wc_isi (isi_bool _) ?_ | with_reducible refine wc_isi (isi_tuple _) ?_ | with_reducible refine wc_isi (isi_list _) ?_ | with_reducible refine wc_isi (isi_str _) ?_
  | with_reducible refine sx_seq ?_ | with_reducible refine sx_next ?_ | with_reducible refine sx_ret ?_ | with_reducible refine sx_drop ?_ | with_reducible refine sx_if ?_ | with_reducible refine sx_par ?_ | with_reducible refine wo_none ?_ | with_reducible refine wo_some ?_
  | with_reducible refine wg_name ?_ | with_reducible refine wgs_nil ?_ | with_reducible refine wgs_cons ?_ | with_reducible refine wg_tup rfl ?_
  | with_reducible refine wr_eqI ?_ | with_reducible refine wr_neI ?_
  | ((with_reducible refine' wc_len ?h ?_); (case h => first | exact .t _ | exact .l (.d _) | exact .of | exact .l (.m rfl)))
  | ((with_reducible refine' wr_ix ?h1 ?h2 ?_); (case h1 => exact .l (.m rfl)); (case h2 => rfl))
  | with_reducible refine wgcs_nil ?_ | with_reducible refine wgcs_cons ?_ | with_reducible refine wgc_tup rfl ?_ | with_reducible refine wgc_name (by decide) ?_ | with_reducible refine we_v ?_ | with_reducible refine ⟨_, rfl, ?_⟩ | with_reducible refine dec_t ?_ | with_reducible refine dec_f ?_ | with_reducible refine dec_nt ?_ | with_reducible refine dec_nf ?_ | with_reducible refine And.intro rfl ?_))
local macro_rules | `(tactic| walk_at "go") => `(tactic| repeat walk_at "ev")
section
variable {K : PySem.W.Frag} {Pg : Program} {w : World} {rs : List Res} {μ : List MO} {P : PyData → List MO → Prop}
/-! ### of_side -/
abbrev sidesL (us : List Bool) : List PyData := us.map sideD
def onSide (s : Bool) (cs : List (Int × Bool)) : List Int := (cs.filter fun p => p.2 == s).map (·.1)
theorem on_up (cs : List (Int × Bool)) : onSide true cs = upsOf cs := by
  unfold onSide upsOf
  congr 1
  exact List.filter_congr fun p _ => by cases p.2 <;> rfl
theorem on_down (cs : List (Int × Bool)) : onSide false cs = downsOf cs := by
  unfold onSide downsOf
  congr 1
  exact List.filter_congr fun p _ => by cases p.2 <;> rfl
theorem eqv_side (a b : Bool) : PyData.eqv (sideD a) (sideD b) = (a == b) := by cases a <;> cases b <;> decide +kernel
def S_of_side : SpecN := fun rs μ P => ∃ (b b' : Bool) (ns : List Int) (us : List Bool) (s : Bool), rs = [.d (seqOf b (nums ns)), .d (seqOf b' (sidesL us)), .d (sideD s)] ∧ ns.length ≤ 1000 ∧ μ = [] ∧ P (nums (onSide s (ns.zip us))) []
/- of_side: slots 0 row, 1 sides_so, 2 side, 3 card, 4 one -/
def R_of_side (K : PySem.W.Frag) (Pg : Program) (w : World) : TS :=
    (tRet (tLc (iZipG K (tCons (tVar 0) (tCons (tVar 1) tNil))) (gTup K 2 (gCons (gName 3) (gCons (gName 4) gNil))) (tTest (tOp (rEqD K) (tVar 4) (tVar 2))) (tVar 3) [3, 4]))
def atSide (s : Bool) : PyData → Bool
  | .tuple [_, x] => PyData.eqv x (sideD s)
  | _ => false
theorem zip_ns (xs : List Int) (us : List Bool) : zipD (nums xs) (sidesL us) = (xs.zip us).map fun p => .tuple [.int p.1, sideD p.2] := by
  unfold zipD
  rw [List.zip_map, List.map_map]
  rfl
theorem pairs_side (s : Bool) (cs : List (Int × Bool)) : ((cs.map fun p => PyData.tuple [.int p.1, sideD p.2]).filter (atSide s)).map pairFst = nums (onSide s cs) := by
  unfold onSide nums
  rw [List.filter_map, List.map_map, List.map_map]
  congr 1
  refine List.filter_congr fun p _ => ?_
  exact eqv_side p.2 s
theorem sx_of_side {P : List PyData → List MO → Prop} (h : S_of_side rs μ P) : SX K μ.length (R_of_side K Pg w) (endsN μ.length P) (startD 5 rs) μ := by
  obtain ⟨b, b', ns, us, s, rfl, hl, rfl, h⟩ := h
  unfold R_of_side
  refine sx_retW (wn_lcF (atSide s) pairFst (wi_zipG ?_))
  walk_at "go"
  refine ⟨_, _, _, _, _, _, rfl, .of _ _, .of _ _, ?_⟩
  rw [zip_ns]
  refine ⟨size_big (by rw [List.length_map, List.length_zip]; omega), fun d hd => ?_, ?_⟩
  · obtain ⟨p, _, rfl⟩ := List.mem_map.mp hd
    walk_at "go"
    refine wr_eqX (.d _) (.d _) (shp_side _).ok (shp_side _).ok ⟨_, rfl, rfl, rfl, fun _ => ?_⟩
    walk_at "go"
    rfl
  · rw [pairs_side]
    exact h
/-! ### is_parting -/
theorem rising_iff : ∀ {ns : List Int}, risingB ns = true ↔ ns.Pairwise (· < ·)
  | [] => by simp [risingB]
  | [x] => by simp [risingB]
  | x :: y :: r => by
    rw [risingB_cons, Bool.and_eq_true, decide_eq_true_eq, rising_iff, List.pairwise_cons (a := x)]
    refine ⟨fun ⟨h1, h2⟩ => ⟨fun z hz => ?_, h2⟩, fun ⟨h1, h2⟩ => ⟨h1 y (by simp), h2⟩⟩
    rcases List.mem_cons.mp hz with rfl | hz
    · exact h1
    · have := (List.pairwise_cons.mp h2).1 z hz
      omega
def isSideB : PyData → Bool
  | .str s => decide (s = "up") || decide (s = "down")
  | _ => false
def isUpB : PyData → Bool
  | .str s => decide (s = "up")
  | _ => false
theorem side_of {d : PyData} (h : isSideB d = true) : d = sideD (isUpB d) := by
  cases d with
  | str s =>
    have h' : (decide (s = "up") || decide (s = "down")) = true := h
    rw [Bool.or_eq_true, decide_eq_true_eq, decide_eq_true_eq] at h'
    rcases h' with rfl | rfl
    · rw [show isUpB (.str "up") = true by decide +kernel]; rfl
    · rw [show isUpB (.str "down") = false by decide +kernel]; rfl
  | _ => cases h
theorem sides_of_all {xs : List PyData} (h : ∀ x ∈ xs, isSideB x = true) : xs = sidesL (xs.map isUpB) := by
  unfold sidesL
  rw [List.map_map]
  conv => lhs; rw [← List.map_id xs]
  exact List.map_congr_left fun x hx => side_of (h x hx)
/-- whether a thing is a parting of a row -/
def partB (ns : List Int) : PyData → Bool
  | .tuple xs => decide (xs.length = ns.length) && xs.all isSideB && (risingB (upsOf (ns.zip (xs.map isUpB))) && risingB (downsOf (ns.zip (xs.map isUpB))).reverse)
  | _ => false
theorem isi_side {s : Str} : [PyData.str "up", .str "down"].any (fun z => PyData.eqv z (.str s)) = isSideB (.str s) := by
  show (PyData.eqv (.str "up") (.str s) || (PyData.eqv (.str "down") (.str s) || false)) = (decide (s = "up") || decide (s = "down"))
  rw [eqv_ss, eqv_ss, Bool.or_false]
  congr 1 <;> exact decide_eq_decide.mpr ⟨fun e => e.symm, fun e => e.symm⟩
def S_is_parting : Spec := fun rs μ P => ∃ (ns : List Int) (x : PyData), rs = [.d (.tuple (nums ns)), .d x] ∧ IsRow ns ∧ sizeD x ≤ 1000000 ∧ μ = [] ∧ P (.bool (partB ns x)) []
/- is_parting: slots 0 row, 1 thing, 2 side -/
def R_is_parting (K : PySem.W.Frag) (Pg : Program) (w : World) : TS :=
    (tSeq (tDrop (tCall (FSp K S_need_row) [] E0 (tCons (tVar 0) tNil)))
    (tSeq (tIfS (tOr (tNot (tB (tCB (rIsi K) (tCons (tVar 1) (tCons (tC (.ty "tuple")) tNil))))) (tTest (tOp (rNeD K) (tCB (rLenX K) (tCons (tVar 1) tNil)) (tCB (rLenX K) (tCons (tVar 0) tNil))))) (tRet (tC (.bl false))) tNext)
    (tSeq (tIfS (tNot (tB (tCB (rAll K) (tCons (tLc (iSeq K (tVar 1)) (gName 2) tYes (tAndV (tCB (rIsi K) (tCons (tVar 2) (tCons (tC (.ty "str")) tNil))) (tOp (rInX K) (tVar 2) (tTup (tCons (tC (.str "up")) (tCons (tC (.str "down")) tNil))))) [2]) tNil)))) (tRet (tC (.bl false))) tNext)
    (tRet (tAndV (tCall (FSp K S_is_rising) [] E0 (tCons (tCall (FSpN K S_of_side) [] E0 (tCons (tVar 0) (tCons (tVar 1) (tCons (tC (.str "up")) tNil)))) tNil)) (tCall (FSp K S_is_rising) [] E0 (tCons (tRevA K (tCall (FSpN K S_of_side) [] E0 (tCons (tVar 0) (tCons (tVar 1) (tCons (tC (.str "down")) tNil))))) tNil)))))))
theorem sx_is_parting (h : S_is_parting rs μ P) : SX K μ.length (R_is_parting K Pg w) (endsOf μ.length P) (startD 3 rs) μ := by
  obtain ⟨ns, x, rfl, hr, hz, rfl, h⟩ := h
  have h40 := hr.le
  unfold R_is_parting
  refine sx_seq (sx_drop (we_call0 ?_))
  walk_at "go"
  refine ⟨by simp [notM], ns, rfl, hr, rfl, ?_⟩
  cases x with
  | tuple xs =>
    have hz' : xs.length ≤ 1000000 := hz
    walk_at "go"
    refine dec_f ?_
    walk_at "go"
    have bad : ¬ (xs.length = ns.length ∧ xs.all isSideB = true) → P (.bool false) [] := fun hn => by
      have e : partB ns (.tuple xs) = false := by
        show (decide (xs.length = ns.length) && xs.all isSideB && (risingB (upsOf (ns.zip (xs.map isUpB))) && risingB (downsOf (ns.zip (xs.map isUpB))).reverse)) = false
        rw [show (decide (xs.length = ns.length) && xs.all isSideB) = false by
          rw [← Bool.not_eq_true, Bool.and_eq_true, decide_eq_true_eq]; exact hn]
        rfl
      rw [e] at h; exact h
    rw [List.length_map]
    refine ⟨fun h1 => ?_, fun h1 => ?_⟩
    · walk_at "go"
      refine ret_d (bad fun hn => ?_)
      rw [hn.1] at h1
      simp at h1
    · have hlen : xs.length = ns.length := by
        rw [Bool.not_eq_false', decide_eq_true_eq] at h1
        omega
      walk_at "go"
      refine we_new (wn_lcM (fun d => .bool (isSideB d)) (wi_seqS ?_))
      walk_at "go"
      refine ⟨true, xs, rfl, size_big (by omega), fun d hd => ?_, ?_⟩
      · walk_at "go"
        cases d with
        | str s =>
          refine dec_t ?_
          walk_at "go"
          refine ⟨[.str "up", .str "down"], rfl, size_le (by simp), ?_⟩
          refine wr_inT (.t _) rfl rfl ?_
          rw [isi_side]
          exact ⟨rfl, rfl⟩
        | _ => exact dec_f ⟨rfl, rfl⟩
      · refine wa_nil (wc_all (bs := xs.map isSideB) (by rw [boolD_id]; exact .d _) ⟨_, rfl, fun h2 => ?_, fun h2 => ?_⟩)
        · walk_at "go"
          refine ret_d (bad fun hn => ?_)
          rw [List.all_map] at h2
          have h2' : (!xs.all isSideB) = true := h2
          rw [hn.2] at h2'
          cases h2'
        · have hall : xs.all isSideB = true := by
            rw [List.all_map] at h2
            have h2' : (!xs.all isSideB) = false := h2
            simpa using h2'
          have ex := sides_of_all (fun x hx => List.all_eq_true.mp hall x hx)
          have e : partB ns (.tuple xs) = (risingB (upsOf (ns.zip (xs.map isUpB))) && risingB (downsOf (ns.zip (xs.map isUpB))).reverse) := by
            show (decide (xs.length = ns.length) && xs.all isSideB && (risingB (upsOf (ns.zip (xs.map isUpB))) && risingB (downsOf (ns.zip (xs.map isUpB))).reverse)) = _
            rw [hall, decide_eq_true hlen]
            rfl
          rw [e] at h
          have hlu : (upsOf (ns.zip (xs.map isUpB))).length ≤ 1000000 := by
            unfold upsOf; rw [List.length_map]; exact Nat.le_trans (List.length_filter_le _ _) (by rw [List.length_zip]; omega)
          have hld : (downsOf (ns.zip (xs.map isUpB))).length ≤ 1000000 := by
            unfold downsOf; rw [List.length_map]; exact Nat.le_trans (List.length_filter_le _ _) (by rw [List.length_zip]; omega)
          walk_at "go"
          refine we_call0 (wa_cons (we_new (wn_callN ?_)))
          walk_at "go"
          refine ⟨by simp [notM], true, true, ns, xs.map isUpB, true, by rw [← ex]; rfl, by omega, rfl, ?_⟩
          rw [on_up]
          walk_at "go"
          refine ⟨by simp [notM], false, _, rfl, hlu, rfl, _, rfl, fun h3 => ?_, fun h3 => ?_⟩
          · refine we_call0 (wa_cons (we_revS (we_new (wn_callN ?_))))
            walk_at "go"
            refine ⟨by simp [notM], true, true, ns, xs.map isUpB, false, by rw [← ex]; rfl, by omega, rfl, ?_⟩
            rw [on_down]
            refine ⟨false, _, rfl, ?_⟩
            walk_at "go"
            rw [← List.map_reverse]
            refine ⟨by simp [notM], false, _, rfl, by rw [List.length_reverse]; exact hld, rfl, ret_d ?_⟩
            rw [h3] at h
            exact h
          · rw [h3] at h
            exact ret_d h
  | _ =>
    walk_at "go"
    refine dec_t ?_
    walk_at "go"
    exact ret_d h
theorem partB_iff {ns : List Int} {us : List Bool} (hl : us.length = ns.length) : partB ns (.tuple (sidesL us)) = true ↔ (ns.zip us).Pairwise RR := by
  have e : (sidesL us).map isUpB = us := by
    unfold sidesL
    rw [List.map_map]
    conv => rhs; rw [← List.map_id us]
    exact List.map_congr_left fun b _ => by cases b <;> decide +kernel
  have e2 : (sidesL us).all isSideB = true := by
    unfold sidesL
    rw [List.all_map, List.all_eq_true]
    intro b _
    cases b <;> decide +kernel
  show (decide ((sidesL us).length = ns.length) && (sidesL us).all isSideB && (risingB (upsOf (ns.zip ((sidesL us).map isUpB))) && risingB (downsOf (ns.zip ((sidesL us).map isUpB))).reverse)) = true ↔ _
  rw [e, e2, List.length_map, decide_eq_true hl, rr_iff, Bool.true_and, Bool.true_and, Bool.and_eq_true, rising_iff, rising_iff, List.pairwise_reverse]
theorem sides_snoc (us : List Bool) (s : Bool) : sidesL us ++ [sideD s] = sidesL (us ++ [s]) := by unfold sidesL; rw [List.map_append]; rfl
end
end Wv

set_option Elab.async false
set_option linter.all false
set_option maxRecDepth 100000
set_option maxHeartbeats 2000000
namespace Wv
open PySem PySem.Spec PyProof.Rows L2
local macro_rules | `(tactic| walk_at "var") => `(tactic| ((with_reducible refine we_var (r := ?r) ?h ?_); (case h => rfl)))
local macro_rules | `(tactic| walk_at "ev") => `(tactic| (first
  | walk_at "var" | with_reducible refine we_int ?_ | with_reducible refine we_str ?_ | with_reducible refine we_bl ?_ | with_reducible refine we_non ?_ | with_reducible refine wa_cons ?_ | with_reducible refine wa_nil ?_
  | with_reducible refine wr_b0 ?_ | with_reducible refine wr_i0 ?_ | with_reducible refine wr_addI ?_ | with_reducible refine wu_neg ?_
  | with_reducible refine we_op ?_ | with_reducible refine we_un ?_ | with_reducible refine we_cb ?_ | with_reducible refine we_tup ?_ | with_reducible refine we_tupV ?_ | with_reducible refine we_chain ?_ | with_reducible refine we_chain3 ?_ | with_reducible refine we_andV ?_ | with_reducible refine we_orV ?_ | with_reducible refine we_notV ?_ | with_reducible refine we_if ?_
  | with_reducible refine wt_test ?_ | with_reducible refine wt_B ?_ | with_reducible refine wt_and ?_ | with_reducible refine wt_or ?_ | with_reducible refine wt_not ?_ | with_reducible refine wr_isNN ?_ | with_reducible refine wr_isN ?_ | with_reducible refine wr_isB ?_ | with_reducible refine wr_isNB ?_
  | with_reducible refine wc_max2 ?_ | with_reducible refine wc_min2 ?_ | with_reducible refine wc_isi (isi_int _) ?_ | with_reducible refine wc_isi (isi_bool _) ?_ | with_reducible refine wc_isi (isi_tuple _) ?_ | with_reducible refine wc_isi (isi_list _) ?_ | with_reducible refine wc_isi (isi_str _) ?_
  | with_reducible refine sx_seq ?_ | with_reducible refine sx_next ?_ | with_reducible refine sx_ret ?_ | with_reducible refine sx_drop ?_ | with_reducible refine sx_if ?_ | with_reducible refine sx_par ?_ | with_reducible refine wo_none ?_ | with_reducible refine wo_some ?_
  | with_reducible refine wg_name ?_ | with_reducible refine wgs_nil ?_ | with_reducible refine wgs_cons ?_ | with_reducible refine wg_tup rfl ?_
  | with_reducible refine wr_eqI ?_ | with_reducible refine wr_neI ?_
  | ((with_reducible refine' wc_len ?h ?_); (case h => first | exact .t _ | exact .l (.d _) | exact .of | exact .l (.m rfl)))
  | ((with_reducible refine' wr_ix ?h1 ?h2 ?_); (case h1 => exact .l (.m rfl)); (case h2 => rfl))
  | with_reducible refine wgcs_nil ?_ | with_reducible refine wgcs_cons ?_ | with_reducible refine wgc_tup rfl ?_ | with_reducible refine wgc_name (by decide) ?_ | with_reducible refine we_v ?_ | with_reducible refine ⟨_, rfl, ?_⟩ | with_reducible refine dec_t ?_ | with_reducible refine dec_f ?_ | with_reducible refine dec_nt ?_ | with_reducible refine dec_nf ?_ | with_reducible refine And.intro rfl ?_))
local macro_rules | `(tactic| walk_at "go") => `(tactic| repeat walk_at "ev")
section
variable {K : PySem.W.Frag} {Pg : Program} {w : World} {rs : List Res} {μ : List MO} {P : PyData → List MO → Prop}
/-! ### all_partings -/
abbrev sidesT (us : List Bool) : PyData := .tuple (sidesL us)
abbrev Begun := List Bool × (Int × Int)
def addS (r : List Int) (c : Int) (x : Begun) (side : Bool) : List Begun :=
  match nextLast x.2.1 x.2.2 c side with
  | some q => if good r q.1 q.2 = true then [(x.1 ++ [side], q)] else []
  | none => []
def extS (r : List Int) (c : Int) (x : Begun) : List Begun := addS r c x false ++ addS r c x true
def goOn (r : List Int) (x : Begun) : List (List Bool) := (allP r x.2.1 x.2.2).map (x.1 ++ ·)
theorem add_go (r : List Int) (c : Int) (x : Begun) (side : Bool) : (addS r c x side).flatMap (goOn r) = match nextLast x.2.1 x.2.2 c side with | some q => (allP r q.1 q.2).map (fun t => x.1 ++ side :: t) | none => [] := by
  unfold addS
  cases nextLast x.2.1 x.2.2 c side with
  | none => rfl
  | some q =>
    show (if good r q.1 q.2 = true then [(x.1 ++ [side], q)] else []).flatMap (goOn r) = (allP r q.1 q.2).map (fun t => x.1 ++ side :: t)
    split
    · rw [List.flatMap_cons, List.flatMap_nil, List.append_nil]
      unfold goOn
      refine List.map_congr_left fun t _ => ?_
      simp
    · rename_i h
      have : allP r q.1 q.2 = [] := Classical.byContradiction fun z => h (allP_ne.mp z)
      rw [this]; rfl
theorem ext_go (r : List Int) (c : Int) (x : Begun) : (extS r c x).flatMap (goOn r) = goOn (c :: r) x := by
  unfold extS
  rw [List.flatMap_append, add_go, add_go]
  unfold goOn
  rw [allP, List.map_append]
  congr 1
  · show (match (if c < x.2.2 then some (x.2.1, c) else none) with | some q => _ | none => _) = _
    split
    · rename_i q hq
      split at hq
      · rename_i h; cases hq; rw [if_pos h, List.map_map]; rfl
      · cases hq
    · rename_i hq
      split at hq
      · cases hq
      · rename_i h; rw [if_neg h]; rfl
  · show (match (if x.2.1 < c then some (c, x.2.2) else none) with | some q => _ | none => _) = _
    split
    · rename_i q hq
      split at hq
      · rename_i h; cases hq; rw [if_pos h, List.map_map]; rfl
      · cases hq
    · rename_i hq
      split at hq
      · cases hq
      · rename_i h; rw [if_neg h]; rfl
theorem flat_ge {α β : Type} {f : α → List β} : ∀ {l : List α}, (∀ x ∈ l, f x ≠ []) → l.length ≤ (l.flatMap f).length
  | [], _ => Nat.zero_le _
  | x :: l, h => by
    rw [List.flatMap_cons, List.length_append, List.length_cons]
    have h1 := List.length_pos_iff.mpr (h x (by simp))
    have h2 := flat_ge (l := l) fun y hy => h y (List.mem_cons_of_mem _ hy)
    omega
structure Part (ns : List Int) (i : Nat) (R : List Begun) : Prop where
  all : R.flatMap (goOn (ns.drop i)) = parts ns
  good : ∀ x ∈ R, good (ns.drop i) x.2.1 x.2.2 = true
  box : ∀ x ∈ R, x.2.1 ∈ ups ns ∧ x.2.2 ∈ downs ns
  len : ∀ x ∈ R, x.1.length = i
theorem Part.few {ns : List Int} {i : Nat} {R : List Begun} (h : Part ns i R) (hn : ns.Nodup) : R.length ≤ ns.length + 1 := by
  have h1 := flat_ge (f := goOn (ns.drop i)) (l := R) fun x hx e => by
    have h2 := allP_ne.mpr (h.good x hx)
    unfold goOn at e
    exact h2 (List.map_eq_nil_iff.mp e)
  rw [h.all] at h1
  exact Nat.le_trans h1 (allP_le hn)
theorem addS_mem {r : List Int} {c : Int} {x y : Begun} {side : Bool} (h : y ∈ addS r c x side) : ∃ q, nextLast x.2.1 x.2.2 c side = some q ∧ Wv.good r q.1 q.2 = true ∧ y = (x.1 ++ [side], q) := by
  unfold addS at h
  cases e : nextLast x.2.1 x.2.2 c side with
  | none => rw [e] at h; cases h
  | some q =>
    rw [e] at h
    have h : y ∈ (if Wv.good r q.1 q.2 = true then [(x.1 ++ [side], q)] else []) := h
    split at h
    · exact ⟨q, rfl, by assumption, by simpa using h⟩
    · cases h
theorem next_box {ns : List Int} {c : Int} {u d : Int} {s : Bool} {q : Int × Int} (hc : c ∈ ns) (hu : u ∈ ups ns) (hd : d ∈ downs ns) (h : nextLast u d c s = some q) : q.1 ∈ ups ns ∧ q.2 ∈ downs ns := by
  cases s with
  | true =>
    have h : (if u < c then some (c, d) else none) = some q := h
    split at h
    · cases h; exact ⟨ups_mem hc, hd⟩
    · cases h
  | false =>
    have h : (if c < d then some (u, c) else none) = some q := h
    split at h
    · cases h; exact ⟨hu, downs_mem hc⟩
    · cases h
theorem Part.step {ns : List Int} {i : Nat} {R : List Begun} {c : Int} (h : Part ns i R) (hc : ns[i]? = some c) : Part ns (i + 1) (R.flatMap (extS (ns.drop (i + 1)) c)) := by
  have hd : ns.drop i = c :: ns.drop (i + 1) := by
    obtain ⟨hil, rfl⟩ := List.getElem?_eq_some_iff.mp hc
    exact List.drop_eq_getElem_cons hil
  have mem : ∀ y ∈ R.flatMap (extS (ns.drop (i + 1)) c), ∃ x ∈ R, ∃ s q, nextLast x.2.1 x.2.2 c s = some q ∧ Wv.good (ns.drop (i + 1)) q.1 q.2 = true ∧ y = (x.1 ++ [s], q) := fun y hy => by
    obtain ⟨x, hx, hy⟩ := List.mem_flatMap.mp hy
    rcases List.mem_append.mp hy with hy | hy <;> exact ⟨x, hx, _, addS_mem hy⟩
  refine ⟨?_, fun y hy => ?_, fun y hy => ?_, fun y hy => ?_⟩
  · rw [List.flatMap_assoc, ← h.all, hd]
    congr 1
    funext x
    exact ext_go _ _ _
  · obtain ⟨x, hx, s, q, h1, h2, rfl⟩ := mem y hy
    exact h2
  · obtain ⟨x, hx, s, q, h1, h2, rfl⟩ := mem y hy
    exact next_box (List.mem_of_getElem? hc) (h.box x hx).1 (h.box x hx).2 h1
  · obtain ⟨x, hx, s, q, h1, h2, rfl⟩ := mem y hy
    rw [List.length_append, h.len x hx]; rfl
def begD (x : Begun) : PyData := .tuple [sidesT x.1, lastD x.2]
def S_all_partings : SpecN := fun rs μ P => ∃ (b : Bool) (ns : List Int), rs = [.d (seqOf b (nums ns))] ∧ ns.length ≤ 60 ∧ ns.Nodup ∧ μ = [] ∧ P ((parts ns).map sidesT) []
/- all_partings: slots 0 row, 1 known, 2 rows, 3 at, 4 card, 5 more, 6 sides_so, 7 last, 8 side, 9 there -/
def R_all_partings (K : PySem.W.Frag) (Pg : Program) (w : World) : TS :=
    (tSeq (tAsg (tDNewN Pg w) (gName 1))
    (tSeq (tAsg (tIf (tB (tCall (FSp K (S_good_from Pg w)) [] E0 (tCons (tVar 0) (tCons (tC (.int 0)) (tCons (tCall (FSp K S_begun) [] E0 tNil) (tCons (tVar 1) tNil)))))) (tLst (tCons (tTup (tCons (tTup tNil) (tCons (tCall (FSp K S_begun) [] E0 tNil) tNil))) tNil)) (tLst tNil)) (gName 2))
    (tSeq (tFor (iEnumG K (tCons (tVar 0) tNil)) (gTup K 2 (gCons (gName 3) (gCons (gName 4) gNil))) (tSeq (tAsg (tLst tNil) (gName 5))
    (tSeq (tFor (iSeq K (tVar 2)) (gTup K 2 (gCons (gName 6) (gCons (gName 7) gNil))) (tFor (iSeq K (tTup (tCons (tC (.str "down")) (tCons (tC (.str "up")) tNil)))) (gName 8) (tSeq (tAsg (tCall (FSp K S_next_last) [] E0 (tCons (tVar 7) (tCons (tVar 4) (tCons (tVar 8) tNil)))) (gName 9))
    (tIfS (tAnd (tTest (tOp rIsNX (tVar 9) (tC .non))) (tB (tCall (FSp K (S_good_from Pg w)) [] E0 (tCons (tVar 0) (tCons (tOp (rAddX K) (tVar 3) (tC (.int 1))) (tCons (tVar 9) (tCons (tVar 1) tNil))))))) (tDrop (tBM K "list" rAppend (tVar 5) (tCons (tTup (tCons (tOp (rAddX K) (tVar 6) (tTup (tCons (tVar 8) tNil))) (tCons (tVar 9) tNil))) tNil))) tNext))))
    (tAsg (tVar 5) (gName 2)))))
    (tRet (tLc (iSeq K (tVar 2)) (gTup K 2 (gCons (gName 6) (gCons (gName 7) gNil))) tYes (tVar 6) [6, 7])))))
theorem sx_all_partings {P : List PyData → List MO → Prop} (h : S_all_partings rs μ P) : SX K μ.length (R_all_partings K Pg w) (endsN μ.length P) (startD 10 rs) μ := by
  obtain ⟨b, ns, rfl, hn, hnd, rfl, h⟩ := h
  let kn := MO.memo Pg w (LG ns) (fG ns) []
  unfold R_all_partings
  refine sx_seq (sx_dnew (Nat.le_refl _) (LG ns) (fG ns) ?_)
  -- what stands ahead of the cards
  have start : Part ns 0 (if woven ns = true then [([], begunP)] else []) := by
    refine ⟨?_, ?_, ?_, ?_⟩
    · split
      · rw [List.flatMap_cons, List.flatMap_nil, List.append_nil]
        unfold goOn parts
        show (allP (ns.drop 0) (-1) 1000000001).map (fun t => [] ++ t) = _
        rw [List.drop_zero]
        exact List.map_id _
      · rename_i hw
        have : parts ns = [] := Classical.byContradiction fun z => hw (allP_ne.mp z)
        rw [this]; rfl
    · intro x hx
      split at hx
      · rw [List.mem_singleton.mp hx]; assumption
      · cases hx
    · intro x hx
      split at hx
      · rw [List.mem_singleton.mp hx]; exact ⟨List.mem_cons_self, List.mem_cons_self⟩
      · cases hx
    · intro x hx
      split at hx
      · rw [List.mem_singleton.mp hx]; rfl
      · cases hx
  have loop : ∀ ds0 : DSt, ds0 = [some (.d (seqOf b (nums ns))), some (.m 0), some (.d (.list ((if woven ns = true then [(([], begunP) : Begun)] else []).map begD))), none, none, none, none, none, none, none] → SX K 0 (tSeq (tFor (iEnumG K (tCons (tVar 0) tNil)) (gTup K 2 (gCons (gName 3) (gCons (gName 4) gNil))) (tSeq (tAsg (tLst tNil) (gName 5))
    (tSeq (tFor (iSeq K (tVar 2)) (gTup K 2 (gCons (gName 6) (gCons (gName 7) gNil))) (tFor (iSeq K (tTup (tCons (tC (.str "down")) (tCons (tC (.str "up")) tNil)))) (gName 8) (tSeq (tAsg (tCall (FSp K S_next_last) [] E0 (tCons (tVar 7) (tCons (tVar 4) (tCons (tVar 8) tNil)))) (gName 9))
    (tIfS (tAnd (tTest (tOp rIsNX (tVar 9) (tC .non))) (tB (tCall (FSp K (S_good_from Pg w)) [] E0 (tCons (tVar 0) (tCons (tOp (rAddX K) (tVar 3) (tC (.int 1))) (tCons (tVar 9) (tCons (tVar 1) tNil))))))) (tDrop (tBM K "list" rAppend (tVar 5) (tCons (tTup (tCons (tOp (rAddX K) (tVar 6) (tTup (tCons (tVar 8) tNil))) (tCons (tVar 9) tNil))) tNil))) tNext))))
    (tAsg (tVar 5) (gName 2)))))
    (tRet (tLc (iSeq K (tVar 2)) (gTup K 2 (gCons (gName 6) (gCons (gName 7) gNil))) tYes (tVar 6) [6, 7]))) (endsN 0 P) ds0 [kn] := by
    rintro _ rfl
    refine sx_seq (sx_for (wi_enumG ?_))
    walk_at "go"
    refine ⟨_, _, _, rfl, .of _ _, fun i ds' μ' => ∃ (R : List Begun) (a3 a4 a5 a6 a7 a8 a9 : Option Res), Part ns i R ∧ ds' = [some (.d (seqOf b (nums ns))), some (.m 0), some (.d (.list (R.map begD))), a3, a4, a5, a6, a7, a8, a9] ∧ μ' = [kn], ⟨_, _, _, _, _, _, _, _, start, rfl, rfl⟩, ?_, ?_⟩
    · rintro i z ds' μ' hi ⟨R, a3, a4, a5, a6, a7, a8, a9, hR, rfl, rfl⟩
      have hil : i < ns.length := by
        have := (List.getElem?_eq_some_iff.mp hi).1
        rwa [enumD_len, List.length_map] at this
      obtain ⟨c, hc⟩ : ∃ c, ns[i]? = some c := ⟨_, List.getElem?_eq_getElem hil⟩
      have hcm := List.mem_of_getElem? hc
      have ez : z = .tuple [.int (i : Nat), .int c] := by
        rw [enumD_get (nums_get hc)] at hi
        cases hi; rfl
      subst ez
      have hRl := hR.few hnd
      refine wg_tup rfl (wgs_cons (wg_name (wgs_cons (wg_name (wgs_nil ?_)))))
      refine sx_seq (sx_asgM (Nat.zero_le _) (wn_lst ?_))
      walk_at "go"
      refine ⟨[], rfl, size_le (by simp), _, .refl _, ?_⟩
      have extLen : ∀ l : List Begun, (l.flatMap (extS (ns.drop (i + 1)) c)).length ≤ 2 * l.length := fun l => by
        have addLen : ∀ x s, (addS (ns.drop (i + 1)) c x s).length ≤ 1 := fun x s => by
          unfold addS
          split
          · split <;> simp
          · simp
        have := flatMap_len (f := extS (ns.drop (i + 1)) c) (m := 2) (l := l) fun x _ => by
          unfold extS
          rw [List.length_append]
          have := addLen x false
          have := addLen x true
          omega
        omega
      refine sx_seq (sx_for (wi_seqS ?_))
      walk_at "go"
      refine ⟨false, _, rfl, fun j ds' μ' => ∃ (a6 a7 a8 a9 : Option Res), ds' = [some (.d (seqOf b (nums ns))), some (.m 0), some (.d (.list (R.map begD))), some (.d (.int (i : Nat))), some (.d (.int c)), some (.m 1), a6, a7, a8, a9] ∧ μ' = [kn, MO.lst (((R.take j).flatMap (extS (ns.drop (i + 1)) c)).map begD)], ⟨_, _, _, _, rfl, rfl⟩, ?_, ?_⟩
      · rintro j y ds' μ' hj ⟨b6, b7, b8, b9, rfl, rfl⟩
        rw [List.getElem?_map] at hj
        obtain ⟨x, hx, rfl⟩ := Option.map_eq_some_iff.mp hj
        have hjl := (List.getElem?_eq_some_iff.mp hx).1
        obtain ⟨s, u, d⟩ := x
        have hxm := List.mem_of_getElem? hx
        have hxb := hR.box _ hxm
        have hsl : s.length = i := hR.len _ hxm
        have etake : R.take (j + 1) = R.take j ++ [(s, u, d)] := by rw [List.take_add_one, hx]; rfl
        generalize hpre : (R.take j).flatMap (extS (ns.drop (i + 1)) c) = pre
        have hprel : pre.length ≤ 2 * j := by
          have := extLen (R.take j)
          rw [hpre, List.length_take] at this
          omega
        refine wg_tup rfl (wgs_cons (wg_name (wgs_cons (wg_name (wgs_nil ?_)))))
        refine sx_for (wi_seqS ?_)
        walk_at "go"
        refine ⟨[sideD false, sideD true], rfl, size_le (by simp), true, _, rfl, fun t ds' μ' => ∃ (M : List Begun) (a8 a9 : Option Res), M = pre ++ (if 0 < t then addS (ns.drop (i + 1)) c (s, u, d) false else []) ++ (if 1 < t then addS (ns.drop (i + 1)) c (s, u, d) true else []) ∧ M.length ≤ 2 * j + t ∧ ds' = [some (.d (seqOf b (nums ns))), some (.m 0), some (.d (.list (R.map begD))), some (.d (.int (i : Nat))), some (.d (.int c)), some (.m 1), some (.d (sidesT s)), some (.d (lastD (u, d))), a8, a9] ∧ μ' = [kn, MO.lst (M.map begD)], ?_, ?_, ?_⟩
        · exact ⟨pre, _, _, by simp, by omega, rfl, rfl⟩
        · rintro t y ds' μ' ht ⟨M, c8, c9, hM, hMl, rfl, rfl⟩
          have htl : t < 2 := (List.getElem?_eq_some_iff.mp ht).1
          obtain ⟨sd, rfl, hs⟩ : ∃ s, y = sideD s ∧ (s = false ∧ t = 0 ∨ s = true ∧ t = 1) := by
            match t, htl with
            | 0, _ => exact ⟨false, by simpa using ht.symm, .inl ⟨rfl, rfl⟩⟩
            | 1, _ => exact ⟨true, by simpa using ht.symm, .inr ⟨rfl, rfl⟩⟩
          have next : ∀ M', M' = M ++ addS (ns.drop (i + 1)) c (s, u, d) sd → M' = pre ++ (if 0 < t + 1 then addS (ns.drop (i + 1)) c (s, u, d) false else []) ++ (if 1 < t + 1 then addS (ns.drop (i + 1)) c (s, u, d) true else []) := fun M' e => by
            rw [e, hM]
            rcases hs with ⟨rfl, rfl⟩ | ⟨rfl, rfl⟩ <;> simp
          refine wg_name (sx_seq (sx_asg (we_call0 ?_)))
          walk_at "go"
          refine ⟨by simp [notM], (u, d), c, sd, rfl, rfl, ?_⟩
          refine sx_if (wt_and (wt_test ?_))
          walk_at "go"
          cases hnl : nextLast u d c sd with
          | none =>
            refine dec_f (dec_f (sx_next ⟨M, _, _, next M ?_, by omega, rfl, rfl⟩))
            unfold addS
            rw [hnl]
            simp
          | some q =>
            have hqb := next_box hcm hxb.1 hxb.2 hnl
            refine dec_t (wt_B (we_call1 ?_))
            walk_at "go"
            refine ⟨0, _, rfl, by simp [onlyM], b, ns, i + 1, q.1, q.2, [], rfl, hn, by omega, by omega, hqb.1, hqb.2, rfl, _, rfl, _, rfl, fun hg => ?_, fun hg => ?_⟩
            · refine sx_drop (we_bm ?_)
              walk_at "go"
              refine ⟨⟨_, .m rfl⟩, ?_⟩
              walk_at "go"
              refine ⟨[_], rfl, size_le (by simp), ?_⟩
              refine wr_addT (size_le (by rw [List.length_map]; simp; omega)) ?_
              walk_at "go"
              refine ⟨[_, _], rfl, size_le (by simp), ?_⟩
              walk_at "go"
              refine wm_append rfl (size_big (by rw [List.length_map]; omega)) ?_
              refine ⟨M ++ [(s ++ [sd], q)], _, _, next _ ?_, by rw [List.length_append]; simp; omega, rfl, ?_⟩
              · unfold addS
                rw [hnl]
                show _ = M ++ (if Wv.good _ q.1 q.2 = true then _ else _)
                rw [if_pos hg]
              · rw [List.map_append]
                show _ = [kn, MO.lst (M.map begD ++ [.tuple [.tuple (sidesL (s ++ [sd])), lastD q]])]
                rw [← sides_snoc]
                rfl
            · refine sx_next ⟨M, _, _, next M ?_, by omega, rfl, rfl⟩
              unfold addS
              rw [hnl]
              show _ = M ++ (if Wv.good _ q.1 q.2 = true then _ else _)
              rw [if_neg (by rw [hg]; decide), List.append_nil]
        · rintro ds' μ' ⟨M, c8, c9, hM, hMl, rfl, rfl⟩
          refine ⟨_, _, _, _, rfl, ?_⟩
          have e : (R.take (j + 1)).flatMap (extS (ns.drop (i + 1)) c) = M := by
            rw [etake, List.flatMap_append, hpre, hM]
            show _ = pre ++ addS _ c (s, u, d) false ++ addS _ c (s, u, d) true
            rw [List.flatMap_cons, List.flatMap_nil, List.append_nil, extS, List.append_assoc]
          rw [e]
      · rintro ds' μ' ⟨b6, b7, b8, b9, rfl, rfl⟩
        rw [List.length_map, List.take_length]
        refine sx_frz (μ0 := [kn]) (Nat.zero_le _) (sx_asg (we_var rfl ?_))
        exact ⟨R.flatMap (extS (ns.drop (i + 1)) c), _, _, _, _, _, _, _, hR.step hc, rfl, rfl⟩
    · rintro ds' μ' ⟨R, a3, a4, a5, a6, a7, a8, a9, hR, rfl, rfl⟩
      rw [enumD_len, List.length_map] at hR
      have hRl := hR.few hnd
      have hfin : R.map (·.1) = parts ns := by
        rw [← hR.all, List.drop_length]
        clear hR hRl
        induction R with
        | nil => rfl
        | cons x R ih => rw [List.map_cons, List.flatMap_cons, ih]; simp [goOn, allP]
      refine sx_retW (wn_lcM pairFst (wi_seqS ?_))
      walk_at "go"
      refine ⟨false, _, rfl, size_big (by rw [List.length_map]; omega), fun d hd => ?_, ?_⟩
      · obtain ⟨x, _, rfl⟩ := List.mem_map.mp hd
        refine wgc_tup rfl (wgcs_cons (wgc_name (by decide) (wgcs_cons (wgc_name (by decide) (wgcs_nil ?_)))))
        walk_at "go"
        rfl
      · have e : (R.map begD).map pairFst = (parts ns).map sidesT := by
          rw [← hfin, List.map_map, List.map_map]
          rfl
        rw [e]
        exact h
  refine sx_seq (sx_asg (we_if (wt_B (we_call1 ?_))))
  refine wa_cons (we_var rfl (wa_cons (we_int (wa_cons (we_call0 (wa_nil ⟨by simp, rfl, rfl, ?_⟩))))))
  walk_at "go"
  refine ⟨0, _, rfl, by simp [onlyM], b, ns, 0, -1, 1000000001, [], rfl, hn, Nat.zero_le _, by omega, List.mem_cons_self, List.mem_cons_self, rfl, _, rfl, _, rfl, fun hg => ?_, fun hg => ?_⟩
  · rw [List.drop_zero] at hg
    refine we_new (wn_lst (wa_cons (we_tup ?_)))
    walk_at "go"
    refine ⟨[], rfl, size_le (by simp), ?_⟩
    refine wa_cons (we_call0 (wa_nil ⟨by simp, rfl, rfl, ?_⟩))
    walk_at "go"
    refine ⟨[_, _], rfl, size_le (by simp), ?_⟩
    walk_at "go"
    refine ⟨[_], rfl, size_le (by simp), ?_⟩
    refine loop _ ?_
    rw [if_pos hg]
    rfl
  · rw [List.drop_zero] at hg
    refine we_new (wn_lst ?_)
    walk_at "go"
    refine ⟨[], rfl, size_le (by simp), ?_⟩
    refine loop _ ?_
    have hg' : woven ns = false := hg
    rw [hg', if_neg (by decide)]
    rfl
end
end Wv

set_option Elab.async false
set_option linter.all false
set_option maxRecDepth 100000
set_option maxHeartbeats 2000000
namespace Wv
open PySem PySem.Spec PyProof.Rows L2
/-! ### a call that reads lists of the caller's own, and hands back a new list of things that are no lists -/
mutual
def noListD : PyData → Bool
  | .none | .bool _ | .int _ | .str _ => true
  | .tuple xs => noListAll xs
  | _ => false
def noListAll : List PyData → Bool
  | [] => true
  | x :: xs => noListD x && noListAll xs
end
mutual
theorem noList_dq {O1 O2 : Addr → Prop} {H : Hp} (hd : ∀ a, O2 a → ¬ O1 a → ∀ xs, H a ≠ some (.tup xs)) : ∀ {v : V} {d : PyData}, noListD d = true → Dq (hid O1 H) v d → Dq (hid O2 H) v d
  | _, _, _, .non => .non
  | _, _, _, .bl b => .bl b
  | _, _, _, .int i => .int i
  | _, _, _, .str x => .str x
  | _, _, h, .lst _ _ => by simp [noListD] at h
  | _, .tuple ds, h, .tup (a := a) h1 h2 => by
    have hn : noListAll ds = true := by simpa [noListD] using h
    obtain ⟨n1, e1⟩ := of_hid h1
    refine .tup ?_ (noList_dqAll hd hn h2)
    rw [hid_out fun z => hd a z n1 _ e1]
    exact e1
theorem noList_dqAll {O1 O2 : Addr → Prop} {H : Hp} (hd : ∀ a, O2 a → ¬ O1 a → ∀ xs, H a ≠ some (.tup xs)) : ∀ {vs : List V} {ds : List PyData}, noListAll ds = true → DqAll (hid O1 H) vs ds → DqAll (hid O2 H) vs ds
  | _, _, _, .nil => .nil
  | _, _, h, .cons h1 h2 => by
    rw [noListAll, Bool.and_eq_true] at h
    exact .cons (noList_dq hd h.1 h1) (noList_dqAll hd h.2 h2)
end
/-- no tuple stands there -/
def NT (mo : MO) : Prop := ∀ K O H a, mo.rep K O H a → ∀ xs, H a ≠ some (.tup xs)
theorem nt_lst (xs : List PyData) : NT (MO.lst xs) := fun K O H a h ys e => by
  obtain ⟨_, vs, h1, _⟩ := h
  rw [e] at h1; cases h1
section
variable {K : PySem.W.Frag} {n : Nat} {ds : DSt} {μ : List MO} {te ta tb : TE} {O : Addr → Prop} {A : List Addr} {H : Hp} {P : Res → List MO → Prop} {tr : TA} {E : XK}
theorem wn_callNR {S : SpecN} {Pn : List PyData → List MO → Prop} (xs : Nat → List PyData) (h : WA K tr ds μ fun as μ1 => (∀ mo ∈ μ1, NT mo) ∧ (∀ k, .m k ∈ as → μ1[k]? = some (MO.lst (xs k))) ∧ S (as.map (rdM μ1 xs)) [] fun ys _ => noListAll ys = true ∧ Pn ys μ1) : WN K (tCall (FSpN K S) [] E tr) ds μ Pn := fun σ O A H e Q q =>
  h σ O A H e _ fun vs as μ1 H1 l1 w1 r1 pr => by
    show FSpN K S (vs ++ []) H1 Q E
    rw [List.append_nil]
    refine ⟨fun b => O b ∧ b ∉ A, [], _, [], _, ⟨rfl, List.nodup_nil, fun a h => (by cases h), fun a ha => w1.dom a ha.1, fun k a mo h => (by simp at h)⟩, r1.read w1 pr.2.1, pr.2.2, fun p vs' ys μ' H2 l2 w2 np hp hd hz k => ?_⟩
    obtain ⟨fl, k⟩ := k
    have fz : ∀ a, O a → H2 a = H1 a := fun a oa => by
      by_cases ha : a ∈ A
      · cases e1 : H1 a with
        | none => exact absurd e1 (w1.dom a oa)
        | some o =>
          have := l2.keep a o (by rw [hid_out fun z => z.2 ha]; exact e1)
          exact (of_hid this).2
      · exact (l2.froz a ⟨oa, ha⟩ (by simp)).1
    have s2 : Same (hid O H1) (hid O H2) := fun b o hb => by
      obtain ⟨h1, h2⟩ := of_hid hb
      have := l2.keep b o (by rw [hid_out fun z => h1 z.1]; exact h2)
      rw [hid_out h1]
      exact (of_hid this).2
    have l3 : Le O A H1 O A H2 := ⟨s2, fun a oa na => ⟨fz a oa, oa⟩, fun _ h => .inl h, l2.dom⟩
    have s1 := same_or l3 np
    have nt : ∀ a, orA O p a → ¬ orA (fun b => O b ∧ b ∉ A) p a → ∀ ys, H2 a ≠ some (.tup ys) := fun a h1 h2 ys => by
      rcases h1 with oa | rfl
      · by_cases ha : a ∈ A
        · obtain ⟨i, hi⟩ := List.getElem?_of_mem ha
          have hil : i < μ1.length := by rw [← w1.len]; exact (List.getElem?_eq_some_iff.mp hi).1
          rw [fz a oa]
          exact pr.1 _ (List.getElem_mem hil) K O H1 a (w1.obj i a _ hi (List.getElem?_eq_getElem hil)) ys
        · exact absurd (.inl ⟨oa, ha⟩) h2
      · exact absurd (.inr rfl) h2
    refine q p vs' ys μ1 H2 (.trans e.wok.dom l1 l3) ⟨w1.len, w1.nd, fun a ha => .inl (w1.inO a ha), fun a oa => ?_, fun j a m h1 h2 => m.mono (w1.obj j a m h1 h2) (fz a (w1.inO a (List.mem_of_getElem? h1))) s1⟩ (none_back l1.dom np) hp (noList_dqAll nt fl hd) hz k
    rcases oa with oa | rfl
    · rw [fz a oa]; exact w1.dom a oa
    · rw [hp]; simp
end
end Wv

set_option Elab.async false
set_option linter.all false
set_option maxRecDepth 100000
set_option maxHeartbeats 2000000
namespace Wv
open PySem PySem.Spec PyProof.Rows L2
local macro_rules | `(tactic| walk_at "var") => `(tactic| ((with_reducible refine we_var (r := ?r) ?h ?_); (case h => rfl)))
local macro_rules | `(tactic| walk_at "ev") => `(tactic| (first
  | walk_at "var" | with_reducible refine we_int ?_ | with_reducible refine we_str ?_ | with_reducible refine we_bl ?_ | with_reducible refine we_non ?_ | with_reducible refine wa_cons ?_ | with_reducible refine wa_nil ?_
  | with_reducible refine wr_b0 ?_ | with_reducible refine wr_i0 ?_ | with_reducible refine wr_addI ?_ | with_reducible refine wu_neg ?_
  | with_reducible refine we_op ?_ | with_reducible refine we_un ?_ | with_reducible refine we_cb ?_ | with_reducible refine we_tup ?_ | with_reducible refine we_tupV ?_ | with_reducible refine we_chain ?_ | with_reducible refine we_chain3 ?_ | with_reducible refine we_andV ?_ | with_reducible refine we_orV ?_ | with_reducible refine we_notV ?_ | with_reducible refine we_if ?_
  | with_reducible refine wt_test ?_ | with_reducible refine wt_B ?_ | with_reducible refine wt_and ?_ | with_reducible refine wt_or ?_ | with_reducible refine wt_not ?_ | with_reducible refine wr_isNN ?_ | with_reducible refine wr_isN ?_ | with_reducible refine wr_isB ?_ | with_reducible refine wr_isNB ?_
  | with_reducible refine wc_max2 ?_ | with_reducible refine wc_min2 ?_ | with_reducible refine wc_isi (isi_int _) ?_ | with_reducible refine wc_isi (isi_bool _) ?_ | with_reducible refine wc_isi (isi_tuple _) ?_ | with_reducible refine wc_isi (isi_list _) ?_ | with_reducible refine wc_isi (isi_str _) ?_
  | with_reducible refine sx_seq ?_ | with_reducible refine sx_next ?_ | with_reducible refine sx_ret ?_ | with_reducible refine sx_drop ?_ | with_reducible refine sx_if ?_ | with_reducible refine sx_par ?_ | with_reducible refine wo_none ?_ | with_reducible refine wo_some ?_
  | with_reducible refine wg_name ?_ | with_reducible refine wgs_nil ?_ | with_reducible refine wgs_cons ?_ | with_reducible refine wg_tup rfl ?_
  | with_reducible refine wr_eqI ?_ | with_reducible refine wr_neI ?_
  | ((with_reducible refine' wc_len ?h ?_); (case h => first | exact .t _ | exact .l (.d _) | exact .of | exact .l (.m rfl)))
  | ((with_reducible refine' wr_ix ?h1 ?h2 ?_); (case h1 => exact .l (.m rfl)); (case h2 => rfl))
  | with_reducible refine wgcs_nil ?_ | with_reducible refine wgcs_cons ?_ | with_reducible refine wgc_tup rfl ?_ | with_reducible refine wgc_name (by decide) ?_ | with_reducible refine we_v ?_ | with_reducible refine ⟨_, rfl, ?_⟩ | with_reducible refine dec_t ?_ | with_reducible refine dec_f ?_ | with_reducible refine dec_nt ?_ | with_reducible refine dec_nf ?_ | with_reducible refine And.intro rfl ?_))
local macro_rules | `(tactic| walk_at "go") => `(tactic| repeat walk_at "ev")
section
variable {K : PySem.W.Frag} {Pg : Program} {w : World} {rs : List Res} {μ : List MO} {P : PyData → List MO → Prop}
/-! ### the order of lots -/
abbrev tupI (l : List Int) : PyData := .tuple (nums l)
theorem row_lt : ∀ (a b : List Int), PySem.W.dataLt (tupI a) (tupI b) = lexI a b
  | [], [] => lex_irrefl (O := itemOrd) _
  | [], y :: ys => by
    rw [PySem.W.dataLt_tuple]
    show PyProof.Rows.lexLt itemOrd (Sum.inl 0 :: []) (Sum.inl 1 :: _) = true
    rw [PySem.W.lex_atom (by simp)]
    decide +kernel
  | x :: xs, [] => by
    rw [PySem.W.dataLt_tuple]
    show PyProof.Rows.lexLt itemOrd (Sum.inl 1 :: _) (Sum.inl 0 :: []) = false
    rw [PySem.W.lex_atom (by simp)]
    decide +kernel
  | x :: xs, y :: ys => by
    have ih := row_lt xs ys
    rw [PySem.W.dataLt_tuple] at ih ⊢
    rw [nums, nums, List.map_cons, List.map_cons, PySem.W.dataLt_cons rfl, eqv_ii, PySem.W.dataLt_int, lexI]
    by_cases e : x = y
    · rw [if_pos (decide_eq_true e), if_pos e]; exact ih
    · rw [if_neg (by simpa using e), if_neg e]
def lotP (l : List Int) : PyData := .tuple [.int (l.length : Nat), tupI l]
theorem alike_nums : ∀ (a b : List Int), PySem.W.alikeAll (nums a) (nums b) = true
  | [], _ => by cases ‹List Int› <;> rfl
  | _ :: _, [] => rfl
  | x :: xs, y :: ys => by
    show (PySem.W.alike (.int x) (.int y) && PySem.W.alikeAll (nums xs) (nums ys)) = true
    rw [alike_nums xs ys]; rfl
theorem alike_tupI (a b : List Int) : PySem.W.alike (tupI a) (tupI b) = true := by
  show PySem.W.alikeAll (nums a) (nums b) = true
  exact alike_nums a b
theorem tupI_inj {a b : List Int} (h : tupI a = tupI b) : a = b := by
  injection h with h
  exact nums_inj h
theorem lot_lt (a b : List Int) : PySem.W.dataLt (lotP a) (lotP b) = lotLt a b := by
  unfold lotP lotLt
  rw [PySem.W.dataLt_pair rfl (alike_tupI a b), eqv_ii, PySem.W.dataLt_int, row_lt]
  have irr : ∀ l : List Int, lexI l l = false := fun l => by
    induction l with
    | nil => rfl
    | cons x l ih => rw [lexI, if_pos rfl, ih]
  by_cases e : a.length = b.length
  · rw [if_pos (decide_eq_true (by omega)), decide_eq_true e, decide_eq_false (by omega)]
    by_cases e2 : PyData.eqv (tupI a) (tupI b) = true
    · rw [if_pos e2]
      have : a = b := tupI_inj ((eqv_iff (by simpa [plainD] using plain_nums a) (by simpa [plainD] using plain_nums b)).mp e2)
      rw [this, irr]; rfl
    · rw [if_neg e2]; simp
  · rw [if_neg (by simp; omega), decide_eq_false e]
    simp
/-! ### lots -/
def S_law_lots : Spec := fun rs μ P => ∃ many : Nat, rs = [.d (.int (many : Nat))] ∧ many ≤ 9 ∧ μ = [] ∧ ∀ ls : List (List Int), ls.Perm (lotsF many) → ls.Pairwise (fun a b => lotLt b a = false) → P (.list (ls.map tupI)) []
/- _law_lots: slots 0 many, 1 found, 2 place, 3 lot, 4 size -/
def R_law_lots (K : PySem.W.Frag) (Pg : Program) (w : World) : TS :=
    (tSeq (tAsg (tLst (tCons (tTup tNil) tNil)) (gName 1))
    (tSeq (tFor (iRng1 (tCons (tVar 0) tNil)) (gName 2) (tAsg (tOp (rAddX K) (tVar 1) (tLc (iSeq K (tVar 1)) (gName 3) tYes (tOp (rAddX K) (tVar 3) (tTup (tCons (tVar 2) tNil))) [3])) (gName 1)))
    (tRet (tLc (iSeq K (tCB (rSortD K) (tCons (tLc (iSeq K (tVar 1)) (gName 3) tYes (tTup (tCons (tCB (rLenX K) (tCons (tVar 3) tNil)) (tCons (tVar 3) tNil))) [3]) tNil))) (gTup K 2 (gCons (gName 4) (gCons (gName 3) gNil))) tYes (tVar 3) [4, 3]))))
def snocD (i : Int) : PyData → PyData
  | .tuple xs => .tuple (xs ++ [.int i])
  | _ => .none
def withLen : PyData → PyData
  | .tuple xs => .tuple [.int (xs.length : Nat), .tuple xs]
  | _ => .none
def sndD : PyData → PyData
  | .tuple [_, y] => y
  | _ => .none
def lotOf : PyData → List Int
  | .tuple [_, .tuple xs] => xs.map intOf
  | _ => []
theorem lotOf_lotP (l : List Int) : lotOf (lotP l) = l := map_intOf l
theorem lots_small {n : Nat} (h : n ≤ 9) : (lotsF n).length ≤ 512 := by
  rw [lots_len]
  exact Nat.pow_le_pow_right (n := 2) (by decide) h
theorem lot_len {n : Nat} {l : List Int} (h : l ∈ lotsF n) : l.length ≤ n := by
  obtain ⟨bs, hl, rfl⟩ := mem_lots.mp h
  have := gone_len bs 0
  omega
theorem sx_law_lots (h : S_law_lots rs μ P) : SX K μ.length (R_law_lots K Pg w) (endsOf μ.length P) (startD 5 rs) μ := by
  obtain ⟨many, rfl, hm, rfl, h⟩ := h
  unfold R_law_lots
  refine sx_seq (sx_asg (we_new (wn_lst ?_)))
  walk_at "go"
  refine ⟨[], rfl, size_le (by simp), ?_⟩
  walk_at "go"
  refine ⟨[_], rfl, size_le (by simp), ?_⟩
  refine sx_seq (sx_for (wi_rng1 ?_))
  walk_at "go"
  refine ⟨by omega, by omega, fun i ds' μ' => ∃ a2 a3 a4, ds' = [some (.d (.int (many : Nat))), some (.d (.list ((lotsF i).map tupI))), a2, a3, a4] ∧ μ' = [], ⟨_, _, _, rfl, rfl⟩, ?_, ?_⟩
  · rintro i z ds' μ' hi ⟨a2, a3, a4, rfl, rfl⟩
    have hil : i < many := by
      have := (List.getElem?_eq_some_iff.mp hi).1
      rw [rngD_len] at this
      omega
    have ez : z = .int (i : Nat) := by
      rw [rngD_get (by omega)] at hi
      cases hi
      rw [Int.zero_add]
    subst ez
    have hsm := lots_small (n := i) (by omega)
    refine wg_name (sx_asg (we_new (wn_addL ?_)))
    walk_at "go"
    refine we_new (wn_lcM (snocD i) (wi_seqS ?_))
    walk_at "go"
    refine ⟨false, _, rfl, size_big (by rw [List.length_map]; omega), fun d hd => ?_, ?_⟩
    · obtain ⟨l, hl, rfl⟩ := List.mem_map.mp hd
      have := lot_len hl
      refine wgc_name (by decide) ?_
      walk_at "go"
      refine ⟨[_], rfl, size_le (by simp), ?_⟩
      refine wr_addT (size_le (by rw [List.length_map]; simp; omega)) ⟨rfl, rfl⟩
    refine ⟨_, _, .d _, .d _, size_le (by rw [List.length_map, List.length_map, List.length_map]; omega), ?_⟩
    refine ⟨some (.d (.int (i : Nat))), a3, a4, ?_, rfl⟩
    have e : (lotsF i).map tupI ++ ((lotsF i).map tupI).map (snocD i) = (lotsF (i + 1)).map tupI := by
      rw [lotsF, List.map_append, List.map_map, List.map_map]
      congr 1
      refine List.map_congr_left fun l _ => ?_
      show PyData.tuple (nums l ++ [.int (i : Nat)]) = tupI (l ++ [(i : Int)])
      rw [nums_snoc]
    rw [e]
    rfl
  · rintro ds' μ' ⟨a2, a3, a4, rfl, rfl⟩
    rw [rngD_len, Int.toNat_natCast]
    have hsm := lots_small hm
    refine sx_retW (wn_lcM sndD (wi_seqS (we_new (wn_sortD (wa_cons (we_new (wn_lcM withLen (wi_seqS ?_))))))))
    walk_at "go"
    refine ⟨false, _, rfl, size_big (by rw [List.length_map]; omega), fun d hd => ?_, ?_⟩
    · obtain ⟨l, hl, rfl⟩ := List.mem_map.mp hd
      refine wgc_name (by decide) ?_
      walk_at "go"
      exact ⟨[_, _], rfl, size_le (by simp), rfl, rfl⟩
    have e0 : ((lotsF many).map tupI).map withLen = (lotsF many).map lotP := by
      rw [List.map_map]
      refine List.map_congr_left fun l _ => ?_
      show PyData.tuple [.int ((nums l).length : Nat), .tuple (nums l)] = lotP l
      rw [List.length_map]; rfl
    rw [e0]
    have shp : ∀ d ∈ (lotsF many).map lotP, Shp 2 d := fun d hd => by
      obtain ⟨l, hl, rfl⟩ := List.mem_map.mp hd
      refine shp_tup fun x hx => ?_
      simp only [List.mem_cons, List.not_mem_nil, or_false] at hx
      rcases hx with rfl | rfl
      · exact (shp_int _).mono (by decide)
      · exact shp_nums true l
    refine wa_nil ⟨_, _, rfl, .d _, size_le (by rw [List.length_map]; omega), fun d hd d' hd' => ?_, .inl fun d hd => ?_, fun d hd => Nat.le_trans (shp d hd).2 (by decide), ?_⟩
    · obtain ⟨l, hl, rfl⟩ := List.mem_map.mp hd
      obtain ⟨l', hl', rfl⟩ := List.mem_map.mp hd'
      show (PySem.W.alike (.int (l.length : Nat)) (.int (l'.length : Nat)) && (PySem.W.alike (tupI l) (tupI l') && true)) = true
      rw [alike_tupI]; rfl
    · obtain ⟨l, hl, rfl⟩ := List.mem_map.mp hd
      exact ⟨_, _, rfl⟩
    -- the sorted ones
    have hperm : (srtD ((lotsF many).map lotP)).Perm ((lotsF many).map lotP) := List.mergeSort_perm _ _
    have hpw := PySem.W.sort_pairwise (PySem.W.sortLe_total (listOrd itemOrd) false fun b => PySem.W.keyToks (id b)) ((lotsF many).map lotP)
    generalize hS : srtD ((lotsF many).map lotP) = S at hperm
    have hpw : S.Pairwise (fun a b => PySem.W.dataLt b a = false) := by
      rw [← hS]
      exact List.Pairwise.imp (fun {a b} (h : (!PySem.W.dataLt b a) = true) => by simpa using h) hpw
    have hSe : S = (S.map lotOf).map lotP := by
      rw [List.map_map]
      conv => lhs; rw [← List.map_id S]
      refine List.map_congr_left fun d hd => ?_
      obtain ⟨l, hl, rfl⟩ := List.mem_map.mp (hperm.mem_iff.mp hd)
      show lotP l = lotP (lotOf (lotP l))
      rw [lotOf_lotP]
    have hlp : (S.map lotOf).Perm (lotsF many) := by
      have := hperm.map lotOf
      rw [List.map_map] at this
      have e : (lotsF many).map (lotOf ∘ lotP) = lotsF many := by
        conv => rhs; rw [← List.map_id (lotsF many)]
        exact List.map_congr_left fun l _ => lotOf_lotP l
      rwa [e] at this
    have hlen : S.length ≤ 512 := by rw [hperm.length_eq, List.length_map]; exact hsm
    refine ⟨false, _, rfl, size_big (by omega), fun d hd => ?_, ?_⟩
    · obtain ⟨l, hl, rfl⟩ := List.mem_map.mp (hperm.mem_iff.mp hd)
      refine wgc_tup rfl (wgcs_cons (wgc_name (by decide) (wgcs_cons (wgc_name (by decide) (wgcs_nil ?_)))))
      walk_at "go"
      rfl
    · rw [hSe, List.pairwise_map] at hpw
      rw [hSe, List.map_map]
      exact h (S.map lotOf) hlp (hpw.imp fun h => by rw [lot_lt] at h; exact h)
end
end Wv

set_option Elab.async false
set_option linter.all false
set_option maxRecDepth 100000
set_option maxHeartbeats 2000000
namespace Wv
open PySem PySem.Spec PyProof.Rows L2
local macro_rules | `(tactic| walk_at "var") => `(tactic| ((with_reducible refine we_var (r := ?r) ?h ?_); (case h => rfl)))
local macro_rules | `(tactic| walk_at "ev") => `(tactic| (first
  | walk_at "var" | with_reducible refine we_int ?_ | with_reducible refine we_str ?_ | with_reducible refine we_bl ?_ | with_reducible refine we_non ?_ | with_reducible refine wa_cons ?_ | with_reducible refine wa_nil ?_
  | with_reducible refine wr_b0 ?_ | with_reducible refine wr_i0 ?_ | with_reducible refine wr_addI ?_ | with_reducible refine wu_neg ?_
  | with_reducible refine we_op ?_ | with_reducible refine we_un ?_ | with_reducible refine we_cb ?_ | with_reducible refine we_tup ?_ | with_reducible refine we_tupV ?_ | with_reducible refine we_chain ?_ | with_reducible refine we_chain3 ?_ | with_reducible refine we_andV ?_ | with_reducible refine we_orV ?_ | with_reducible refine we_notV ?_ | with_reducible refine we_if ?_
  | with_reducible refine wt_test ?_ | with_reducible refine wt_B ?_ | with_reducible refine wt_and ?_ | with_reducible refine wt_or ?_ | with_reducible refine wt_not ?_ | with_reducible refine wr_isNN ?_ | with_reducible refine wr_isN ?_ | with_reducible refine wr_isB ?_ | with_reducible refine wr_isNB ?_
  | with_reducible refine wc_max2 ?_ | with_reducible refine wc_min2 ?_ | with_reducible refine wc_isi (isi_int _) ?_ | with_reducible refine wc_isi (isi_bool _) ?_ | with_reducible refine wc_isi (isi_tuple _) ?_ | with_reducible refine wc_isi (isi_list _) ?_ | with_reducible refine wc_isi (isi_str _) ?_
  | with_reducible refine sx_seq ?_ | with_reducible refine sx_next ?_ | with_reducible refine sx_ret ?_ | with_reducible refine sx_drop ?_ | with_reducible refine sx_if ?_ | with_reducible refine sx_par ?_ | with_reducible refine wo_none ?_ | with_reducible refine wo_some ?_
  | with_reducible refine wg_name ?_ | with_reducible refine wgs_nil ?_ | with_reducible refine wgs_cons ?_ | with_reducible refine wg_tup rfl ?_
  | with_reducible refine wr_eqI ?_ | with_reducible refine wr_neI ?_
  | ((with_reducible refine' wc_len ?h ?_); (case h => first | exact .t _ | exact .l (.d _) | exact .of | exact .l (.m rfl)))
  | ((with_reducible refine' wr_ix ?h1 ?h2 ?_); (case h1 => exact .l (.m rfl)); (case h2 => rfl))
  | with_reducible refine wgcs_nil ?_ | with_reducible refine wgcs_cons ?_ | with_reducible refine wgc_tup rfl ?_ | with_reducible refine wgc_name (by decide) ?_ | with_reducible refine we_v ?_ | with_reducible refine ⟨_, rfl, ?_⟩ | with_reducible refine dec_t ?_ | with_reducible refine dec_f ?_ | with_reducible refine dec_nt ?_ | with_reducible refine dec_nf ?_ | with_reducible refine And.intro rfl ?_))
local macro_rules | `(tactic| walk_at "go") => `(tactic| repeat walk_at "ev")
section
variable {K : PySem.W.Frag} {Pg : Program} {w : World} {rs : List Res} {μ : List MO} {P : PyData → List MO → Prop}
theorem filter_empty {α : Type} (p : α → Bool) (xs : List α) : (xs.filter fun x => !p x).isEmpty = xs.all p := by
  induction xs with
  | nil => rfl
  | cons x xs ih =>
    rw [List.filter_cons, List.all_cons]
    cases hx : p x with
    | true => simp [ih]
    | false => simp
theorem ok_items {m : Nat} {b : Bool} {xs : List PyData} (h : OkD (m + 1) (seqOf b xs)) : xs.length ≤ 1000000 ∧ ∀ x ∈ xs, OkD m x := by cases b <;> exact h
/-! ### without -/
def notAt (lot : List Int) : PyData → Bool
  | .tuple [.int k, _] => !decide (k ∈ lot)
  | _ => false
theorem without_enum (lot : List Int) : ∀ (ns : List Int) (k : Nat), ((((nums ns).zipIdx k).map fun p => PyData.tuple [.int (p.2 : Nat), p.1]).filter (notAt lot)).map sndD = nums (withoutK ns k lot)
  | [], _ => rfl
  | c :: r, k => by
    rw [nums, List.map_cons, List.zipIdx_cons, List.map_cons, List.filter_cons, withoutK]
    have ih := without_enum lot r (k + 1)
    by_cases h : (k : Int) ∈ lot
    · rw [if_pos h, if_neg (show ¬ notAt lot (PyData.tuple [.int (k : Nat), .int c]) = true by simp [notAt, h])]; exact ih
    · rw [if_neg h, if_pos (show notAt lot (PyData.tuple [.int (k : Nat), .int c]) = true by simp [notAt, h]), List.map_cons, nums, List.map_cons]
      exact congrArg _ ih
theorem without_data (lot ns : List Int) : ((enumD (nums ns)).filter (notAt lot)).map sndD = nums (withoutK ns 0 lot) := without_enum lot ns 0
theorem without_len : ∀ (ns : List Int) (k : Nat) (lot : List Int), (withoutK ns k lot).length ≤ ns.length
  | [], _, _ => Nat.le_refl _
  | c :: r, k, lot => by
    rw [withoutK]
    have := without_len r (k + 1) lot
    split <;> simp <;> omega
/-- the comprehension that leaves a lot out -/
theorem wn_without {ds : DSt} {r l i c : Nat} {ns lot : List Int} {Pn : List PyData → List MO → Prop} {br : Bool} (hl : ns.length ≤ 1000) (hr : ds[r]? = some (some (.d (seqOf br (nums ns))))) (hlt : ∀ x y : Option Res, ∀ ds2 : DSt, ds2 = ((wipeD ds [i, c]).set i x).set c y → ds2[l]? = some (some (.d (tupI lot)))) (hi : ∀ x y : Option Res, ∀ ds2 : DSt, ds2 = ((wipeD ds [i, c]).set i x).set c y → ds2[i]? = some x ∧ ds2[c]? = some y)
    (h : Pn (nums (withoutK ns 0 lot)) μ) : WN K (tLc (iEnumG K (tCons (tVar r) tNil)) (gTup K 2 (gCons (gName i) (gCons (gName c) gNil))) (tTest (tOp (rNotInX K) (tVar i) (tVar l))) (tVar c) [i, c]) ds μ Pn := by
  refine wn_lcF (notAt lot) sndD (wi_enumG (wa_cons (we_var hr (wa_nil ⟨_, _, _, rfl, .of _ _, by rw [enumD_len, List.length_map]; exact size_big (by omega), fun d hd => ?_, ?_⟩))))
  · obtain ⟨k, x, rfl, hk⟩ := enum_mem hd
    have ex : ∃ y, x = .int y := by
      rw [List.getElem?_map] at hk
      obtain ⟨y, _, rfl⟩ := Option.map_eq_some_iff.mp hk
      exact ⟨y, rfl⟩
    obtain ⟨y, rfl⟩ := ex
    refine wgc_tup rfl (wgcs_cons (wgc_name (by simp) (wgcs_cons (wgc_name (by simp) (wgcs_nil ?_)))))
    refine wt_test (we_op (we_var (hi _ _ _ rfl).1 (we_var (hlt _ _ _ rfl) (wr_notInI (.t _) ⟨_, rfl, rfl, rfl, fun _ => we_var (hi _ _ _ rfl).2 ⟨rfl, rfl⟩⟩))))
  · rw [without_data]
    exact h
def S_law_without : Spec := fun rs μ P => ∃ ns lot : List Int, rs = [.d (tupI ns), .d (tupI lot)] ∧ ns.length ≤ 1000 ∧ μ = [] ∧ P (tupI (withoutK ns 0 lot)) []
/- _law_without: slots 0 row, 1 lot, 2 at, 3 card -/
def R_law_without (K : PySem.W.Frag) (Pg : Program) (w : World) : TS :=
    (tRet (tCB (rTupX K) (tCons (tLc (iEnumG K (tCons (tVar 0) tNil)) (gTup K 2 (gCons (gName 2) (gCons (gName 3) gNil))) (tTest (tOp (rNotInX K) (tVar 2) (tVar 1))) (tVar 3) [2, 3]) tNil)))
theorem sx_law_without (h : S_law_without rs μ P) : SX K μ.length (R_law_without K Pg w) (endsOf μ.length P) (startD 4 rs) μ := by
  obtain ⟨ns, lot, rfl, hl, rfl, h⟩ := h
  unfold R_law_without
  refine sx_ret (we_cb (wa_cons (we_new (wn_without (br := true) (lot := lot) hl rfl (fun x y ds2 e => by subst e; rfl) (fun x y ds2 e => by subst e; exact ⟨rfl, rfl⟩) (wa_nil (wc_tupL (.d _) (ret_d h)))))))
/-! ### keeps -/
def keepsB (ns there lot : List Int) : Bool := decide (there.filter (fun c => decide (c ∈ withoutK ns 0 lot)) = withoutK ns 0 lot)
def S_law_keeps : Spec := fun rs μ P => ∃ ns there lot : List Int, rs = [.d (tupI ns), .d (tupI there), .d (tupI lot)] ∧ ns.length ≤ 1000 ∧ ns.Nodup ∧ there.Perm ns ∧ μ = [] ∧ P (.bool (keepsB ns there lot)) []
/- _law_keeps: slots 0 row, 1 there, 2 lot, 3 stay, 4 card -/
def R_law_keeps (K : PySem.W.Frag) (Pg : Program) (w : World) : TS :=
    (tSeq (tAsg (tCall (FSp K S_law_without) [] E0 (tCons (tVar 0) (tCons (tVar 2) tNil))) (gName 3))
    (tRet (tAndV (tOp (rEqD K) (tCB (rSortG K) (tCons (tVar 1) tNil)) (tCB (rSortG K) (tCons (tVar 0) tNil))) (tOp (rEqD K) (tCB (rTupX K) (tCons (tLc (iSeq K (tVar 1)) (gName 4) (tTest (tOp (rInX K) (tVar 4) (tVar 3))) (tVar 4) [4]) tNil)) (tVar 3)))))
def inL (l : List Int) : PyData → Bool
  | .int i => decide (i ∈ l)
  | _ => false
theorem filter_inL (l ns : List Int) : ((nums ns).filter (inL l)).map id = nums (ns.filter fun c => decide (c ∈ l)) := by
  unfold nums
  rw [List.map_id, List.filter_map]
  rfl
theorem eqv_tupI (a b : List Int) : PyData.eqv (tupI a) (tupI b) = decide (a = b) := by
  by_cases h : a = b
  · rw [decide_eq_true h, h]
    exact (eqv_iff (by simpa [plainD] using plain_nums b) (by simpa [plainD] using plain_nums b)).mpr rfl
  · rw [decide_eq_false h]
    cases e : PyData.eqv (tupI a) (tupI b) with
    | false => rfl
    | true => exact absurd (tupI_inj ((eqv_iff (by simpa [plainD] using plain_nums a) (by simpa [plainD] using plain_nums b)).mp e)) h
theorem sx_law_keeps (h : S_law_keeps rs μ P) : SX K μ.length (R_law_keeps K Pg w) (endsOf μ.length P) (startD 5 rs) μ := by
  obtain ⟨ns, there, lot, rfl, hl, hnd, hp, rfl, h⟩ := h
  have htl := hp.length_eq
  unfold R_law_keeps
  refine sx_seq (sx_asg (we_call0 ?_))
  walk_at "go"
  refine ⟨by simp [notM], ns, lot, rfl, hl, rfl, ?_⟩
  walk_at "go"
  refine wc_sort (.t _) fun m1 p1 s1 => ?_
  walk_at "go"
  refine wc_sort (.t _) fun m2 p2 s2 => ?_
  have e : m1 = m2 := strict_ext (strict_of s1 ((p1.trans hp).nodup_iff.mpr hnd)) (strict_of s2 (p2.nodup_iff.mpr hnd)) fun x => by rw [(p1.trans hp).mem_iff, p2.mem_iff]
  subst e
  refine wr_eqSame (m := 1) (okD_nums (b := false) (by rw [p1.length_eq]; omega)) (by decide) (.d _) (.d _) ⟨_, rfl, dec_t ?_⟩
  walk_at "go"
  refine we_new (wn_lcF (inL (withoutK ns 0 lot)) id (wi_seqS ?_))
  walk_at "go"
  refine ⟨true, _, rfl, size_big (by rw [List.length_map]; omega), fun d hd => ?_, ?_⟩
  · obtain ⟨i, _, rfl⟩ := List.mem_map.mp hd
    walk_at "go"
    refine wr_inI (.t _) ⟨_, rfl, rfl, rfl, fun _ => ?_⟩
    walk_at "go"
    rfl
  · rw [filter_inL]
    refine wa_nil (wc_tupL (.d _) ?_)
    walk_at "go"
    refine wr_eqX (d := tupI _) (e := tupI _) (.d _) (.d _) (shp_nums true _).ok (shp_nums true _).ok (ret_d ?_)
    rw [eqv_tupI]
    exact h
end
end Wv

set_option Elab.async false
set_option linter.all false
set_option maxRecDepth 100000
set_option maxHeartbeats 2000000
namespace Wv
open PySem PySem.Spec PyProof.Rows L2
local macro_rules | `(tactic| walk_at "var") => `(tactic| ((with_reducible refine we_var (r := ?r) ?h ?_); (case h => rfl)))
local macro_rules | `(tactic| walk_at "ev") => `(tactic| (first
  | walk_at "var" | with_reducible refine we_int ?_ | with_reducible refine we_str ?_ | with_reducible refine we_bl ?_ | with_reducible refine we_non ?_ | with_reducible refine wa_cons ?_ | with_reducible refine wa_nil ?_
  | with_reducible refine wr_b0 ?_ | with_reducible refine wr_i0 ?_ | with_reducible refine wr_addI ?_ | with_reducible refine wu_neg ?_
  | with_reducible refine we_op ?_ | with_reducible refine we_un ?_ | with_reducible refine we_cb ?_ | with_reducible refine we_tup ?_ | with_reducible refine we_tupV ?_ | with_reducible refine we_chain ?_ | with_reducible refine we_chain3 ?_ | with_reducible refine we_andV ?_ | with_reducible refine we_orV ?_ | with_reducible refine we_notV ?_ | with_reducible refine we_if ?_
  | with_reducible refine wt_test ?_ | with_reducible refine wt_B ?_ | with_reducible refine wt_and ?_ | with_reducible refine wt_or ?_ | with_reducible refine wt_not ?_ | with_reducible refine wr_isNN ?_ | with_reducible refine wr_isN ?_ | with_reducible refine wr_isB ?_ | with_reducible refine wr_isNB ?_
  | with_reducible refine wc_max2 ?_ | with_reducible refine wc_min2 ?_ | with_reducible refine wc_isi (isi_int _) ?_ | with_reducible refine wc_isi (isi_bool _) ?_ | with_reducible refine wc_isi (isi_tuple _) ?_ | with_reducible refine wc_isi (isi_list _) ?_ | with_reducible refine wc_isi (isi_str _) ?_
  | with_reducible refine sx_seq ?_ | with_reducible refine sx_next ?_ | with_reducible refine sx_ret ?_ | with_reducible refine sx_drop ?_ | with_reducible refine sx_if ?_ | with_reducible refine sx_par ?_ | with_reducible refine wo_none ?_ | with_reducible refine wo_some ?_
  | with_reducible refine wg_name ?_ | with_reducible refine wgs_nil ?_ | with_reducible refine wgs_cons ?_ | with_reducible refine wg_tup rfl ?_
  | with_reducible refine wr_eqI ?_ | with_reducible refine wr_neI ?_
  | ((with_reducible refine' wc_len ?h ?_); (case h => first | exact .t _ | exact .l (.d _) | exact .of | exact .l (.m rfl)))
  | ((with_reducible refine' wr_ix ?h1 ?h2 ?_); (case h1 => exact .l (.m rfl)); (case h2 => rfl))
  | with_reducible refine wgcs_nil ?_ | with_reducible refine wgcs_cons ?_ | with_reducible refine wgc_tup rfl ?_ | with_reducible refine wgc_name (by decide) ?_ | with_reducible refine we_v ?_ | with_reducible refine ⟨_, rfl, ?_⟩ | with_reducible refine dec_t ?_ | with_reducible refine dec_f ?_ | with_reducible refine dec_nt ?_ | with_reducible refine dec_nf ?_ | with_reducible refine And.intro rfl ?_))
local macro_rules | `(tactic| walk_at "go") => `(tactic| repeat walk_at "ev")
section
variable {K : PySem.W.Frag} {Pg : Program} {w : World} {rs : List Res} {μ : List MO} {P : PyData → List MO → Prop}
/-! ### can_be -/
abbrev fitsB (ns : List Int) : Bool := good ns (-1) 10000000000
theorem fits_wov' {ns : List Int} (h : Rng ns) : fitsB ns = true ↔ Wov ns := good_wov fun x hx => by have := h x hx; omega
theorem woven_wov' {ns : List Int} (h : Rng ns) : woven ns = true ↔ Wov ns := good_wov fun x hx => by have := h x hx; omega
theorem woven_fits' {ns : List Int} (h : Rng ns) : woven ns = fitsB ns := by rw [Bool.eq_iff_iff, fits_wov' h, woven_wov' h]
theorem without_mem : ∀ {ns : List Int} {k : Nat} {lot : List Int} {x : Int}, x ∈ withoutK ns k lot → x ∈ ns
  | [], _, _, _, h => by cases h
  | c :: r, k, lot, x, h => by
    rw [withoutK] at h
    split at h
    · exact List.mem_cons_of_mem _ (without_mem h)
    · rcases List.mem_cons.mp h with rfl | h
      · simp
      · exact List.mem_cons_of_mem _ (without_mem h)
theorem without_rng {ns lot : List Int} {k : Nat} (h : Rng ns) : Rng (withoutK ns k lot) := fun x hx => h x (without_mem hx)
def canB (ns : List Int) : PyData → Bool
  | .tuple xs => xs.all (isFrom 0 (ns.length - 1)) && (risingB (xs.map intOf) && fitsB (withoutK ns 0 (xs.map intOf)))
  | _ => false
def S_can_be : Spec := fun rs μ P => ∃ (ns : List Int) (x : PyData), rs = [.d (tupI ns), .d x] ∧ IsRow ns ∧ sizeD x ≤ 1000000 ∧ μ = [] ∧ P (.bool (canB ns x)) []
/- can_be: slots 0 row, 1 thing, 2 place, 3 at, 4 card -/
def R_can_be (K : PySem.W.Frag) (Pg : Program) (w : World) : TS :=
    (tSeq (tDrop (tCall (FSp K S_need_row) [] E0 (tCons (tVar 0) tNil)))
    (tSeq (tIfS (tOr (tNot (tB (tCB (rIsi K) (tCons (tVar 1) (tCons (tC (.ty "tuple")) tNil))))) (tNot (tB (tCB (rAll K) (tCons (tLc (iSeq K (tVar 1)) (gName 2) tYes (tCall (FSp K S_is_from) [] E0 (tCons (tVar 2) (tCons (tC (.int 0)) (tCons (tOp (rI0 fun i j => .int (i - j)) (tCB (rLenX K) (tCons (tVar 0) tNil)) (tC (.int 1))) tNil)))) [2]) tNil))))) (tRet (tC (.bl false))) tNext)
    (tRet (tAndV (tCall (FSp K S_is_rising) [] E0 (tCons (tVar 1) tNil)) (tCall (FSp K S_is_woven) [] E0 (tCons (tLc (iEnumG K (tCons (tVar 0) tNil)) (gTup K 2 (gCons (gName 3) (gCons (gName 4) gNil))) (tTest (tOp (rNotInX K) (tVar 3) (tVar 1))) (tVar 4) [3, 4]) tNil))))))
theorem sx_can_be (h : S_can_be rs μ P) : SX K μ.length (R_can_be K Pg w) (endsOf μ.length P) (startD 5 rs) μ := by
  obtain ⟨ns, x, rfl, hr, hz, rfl, h⟩ := h
  have h40 := hr.le
  unfold R_can_be
  refine sx_seq (sx_drop (we_call0 ?_))
  walk_at "go"
  refine ⟨by simp [notM], ns, rfl, hr, rfl, ?_⟩
  cases x with
  | tuple xs =>
    have hz' : xs.length ≤ 1000000 := hz
    walk_at "go"
    refine dec_f ?_
    walk_at "go"
    refine we_new (wn_lcM (fun d => .bool (isFrom 0 (ns.length - 1) d)) (wi_seqS ?_))
    walk_at "go"
    refine ⟨true, xs, rfl, size_big (by omega), fun d hd => ?_, ?_⟩
    · refine wgc_name (by decide) (we_call0 ?_)
      walk_at "go"
      rw [List.length_map]
      exact ⟨by simp [notM], _, _, _, rfl, rfl, rfl, rfl⟩
    · refine wa_nil (wc_all (bs := xs.map (isFrom 0 (ns.length - 1))) (by rw [boolD_id]; exact .d _) ⟨_, rfl, fun h1 => ?_, fun h1 => ?_⟩)
      · walk_at "go"
        refine ret_d ?_
        have e : canB ns (.tuple xs) = false := by
          show (xs.all (isFrom 0 (ns.length - 1)) && _) = false
          rw [List.all_map] at h1
          have h1' : (!xs.all (isFrom 0 (ns.length - 1))) = true := h1
          rw [show xs.all (isFrom 0 (ns.length - 1)) = false by simpa using h1']
          rfl
        rw [e] at h; exact h
      · have hall : xs.all (isFrom 0 (ns.length - 1)) = true := by
          rw [List.all_map] at h1
          have h1' : (!xs.all (isFrom 0 (ns.length - 1))) = false := h1
          simpa using h1'
        have ei := all_ints hall
        have e : canB ns (.tuple xs) = (risingB (xs.map intOf) && fitsB (withoutK ns 0 (xs.map intOf))) := by
          show (xs.all (isFrom 0 (ns.length - 1)) && _) = _
          rw [hall]; rfl
        rw [e] at h
        refine sx_next (sx_ret (we_andV (we_call0 ?_)))
        walk_at "go"
        refine ⟨by simp [notM], true, xs.map intOf, by rw [← ei]; rfl, by rw [List.length_map]; omega, rfl, _, rfl, fun h2 => ?_, fun h2 => ?_⟩
        · refine we_call0 (wa_cons (we_new (wn_without (br := true) (lot := xs.map intOf) (by omega) rfl (fun x y ds2 e => by subst e; rw [show tupI (xs.map intOf) = .tuple xs by rw [tupI, ← ei]]; rfl) (fun x y ds2 e => by subst e; exact ⟨rfl, rfl⟩) (wa_nil ⟨by simp [notM], false, _, rfl, Nat.le_trans (without_len _ _ _) (by omega), rfl, ret_d ?_⟩))))
          rw [woven_fits' (without_rng hr.rng)]
          rw [h2] at h
          exact h
        · rw [h2] at h
          exact ret_d h
  | _ =>
    walk_at "go"
    refine dec_t ?_
    walk_at "go"
    exact ret_d h
/-! ### the law's can -/
def S_law_can : Spec := fun rs μ P => ∃ (ns : List Int) (x : PyData), rs = [.d (tupI ns), .d x] ∧ IsRow ns ∧ sizeD x < 64 ∧ OkD 3 x ∧ μ = [] ∧ P (.bool (canB ns x)) []
/- _law_can: slots 0 row, 1 thing, 2 place -/
def R_law_can (K : PySem.W.Frag) (Pg : Program) (w : World) : TS :=
    (tSeq (tIfS (tOr (tNot (tB (tCB (rIsi K) (tCons (tVar 1) (tCons (tC (.ty "tuple")) tNil))))) (tTest (tOp (rNeD K) (tLc (iSeq K (tVar 1)) (gName 2) (tNot (tB (tCall (FSp K S_law_whole) [] E0 (tCons (tVar 2) tNil)))) (tVar 2) [2]) (tLst tNil)))) (tRet (tC (.bl false))) tNext)
    (tSeq (tIfS (tOr (tTest (tOp (rNeD K) (tCB (rLstX K) (tCons (tVar 1) tNil)) (tSortSetT K (tVar 1)))) (tTest (tOp (rNeD K) (tLc (iSeq K (tVar 1)) (gName 2) (tNot (tTest (tChain (rI0 fun i j => .bl (decide (i ≤ j))) (rI0 fun i j => .bl (decide (i < j))) (tC (.int 0)) (tVar 2) (tCB (rLenX K) (tCons (tVar 0) tNil))))) (tVar 2) [2]) (tLst tNil)))) (tRet (tC (.bl false))) tNext)
    (tRet (tCall (FSp K S_law_fits) [] E0 (tCons (tCall (FSp K S_law_without) [] E0 (tCons (tVar 0) (tCons (tVar 1) tNil))) tNil)))))
def notWhole : PyData → Bool := fun d => !wholeB d
def outB (n : Int) : PyData → Bool
  | .int i => !(decide (0 ≤ i) && decide (i < n))
  | _ => false
theorem whole_ints : ∀ {xs : List PyData}, xs.all wholeB = true → xs = nums (xs.map intOf)
  | [], _ => rfl
  | x :: xs, h => by
    rw [List.all_cons, Bool.and_eq_true] at h
    cases x with
    | int i => rw [List.map_cons, nums, List.map_cons, ← nums, ← whole_ints h.2]; rfl
    | _ => cases h.1
theorem sx_law_can (h : S_law_can rs μ P) : SX K μ.length (R_law_can K Pg w) (endsOf μ.length P) (startD 3 rs) μ := by
  obtain ⟨ns, x, rfl, hr, hz, hok, rfl, h⟩ := h
  have h40 := hr.le
  have hpos := hr.pos
  unfold R_law_can
  cases x with
  | tuple xs =>
    have hz' : xs.length < 64 := hz
    have hit := (ok_items (b := true) hok).2
    have bad : canB ns (.tuple xs) = false → P (.bool false) [] := fun e => by rw [e] at h; exact h
    walk_at "go"
    refine dec_f ?_
    walk_at "go"
    refine we_new (wn_lcF notWhole id (wi_seqS ?_))
    walk_at "go"
    refine ⟨true, xs, rfl, size_big (by omega), fun d hd => ?_, ?_⟩
    · refine wgc_name (by decide) (wt_not (wt_B (we_call0 ?_)))
      walk_at "go"
      refine ⟨by simp [notM], d, rfl, rfl, _, rfl, rfl, rfl, fun _ => ?_⟩
      walk_at "go"
      rfl
    · rw [List.map_id]
      refine we_new (wn_lst ?_)
      walk_at "go"
      refine ⟨[], rfl, size_le (by simp), ?_⟩
      refine wr_neNil (.d _) (k := 2) (fun y hy => (hit y (List.mem_filter.mp hy).1).shp) (by decide) ?_
      have ef : (xs.filter notWhole).isEmpty = xs.all wholeB := filter_empty _ xs
      rw [ef]
      refine ⟨_, rfl, fun h1 => ?_, fun h1 => ?_⟩
      · walk_at "go"
        refine ret_d (bad ?_)
        have h1' : xs.all wholeB = false := by simpa using h1
        have : xs.all (isFrom 0 (ns.length - 1)) = false := by
          cases e : xs.all (isFrom 0 (ns.length - 1)) with
          | false => rfl
          | true =>
            rw [List.all_eq_true] at e
            have : xs.all wholeB = true := List.all_eq_true.mpr fun y hy => by
              obtain ⟨i, rfl, _⟩ := isFrom_int (e y hy)
              rfl
            rw [this] at h1'; cases h1'
        show (xs.all (isFrom 0 (ns.length - 1)) && _) = false
        rw [this]; rfl
      · have hw : xs.all wholeB = true := by simpa using h1
        have ei := whole_ints hw
        generalize his : xs.map intOf = is at ei
        have hil : is.length = xs.length := by rw [← his, List.length_map]
        subst ei
        have eCan : canB ns (.tuple (nums is)) = ((nums is).all (isFrom 0 (ns.length - 1)) && (risingB is && fitsB (withoutK ns 0 is))) := by
          show ((nums is).all (isFrom 0 (ns.length - 1)) && (risingB ((nums is).map intOf) && fitsB (withoutK ns 0 ((nums is).map intOf)))) = _
          rw [map_intOf]
        rw [List.length_map] at hz'
        refine sx_next (sx_seq (sx_if (wt_or (wt_test (we_op (we_cb ?_))))))
        walk_at "go"
        refine wc_lst (.t _) (we_new (wn_sortSetT ?_))
        walk_at "go"
        refine ⟨hz', fun ms hms hmem => ?_⟩
        have hml : ms.length ≤ is.length := len_le_of_nodup (hms.imp fun h e => by omega) fun x hx => (hmem x).mp hx
        refine wr_neX (.d _) (.d _) (shp_nums false is).ok (shp_nums false ms).ok ?_
        have e1 : PyData.eqv (.list (nums is)) (.list (nums ms)) = risingB is := by
          have e0 : PyData.eqv (.list (nums is)) (.list (nums ms)) = PyData.eqv (tupI is) (tupI ms) := by rw [eqv_l, eqv_t]
          rw [e0, eqv_tupI, Bool.eq_iff_iff, decide_eq_true_eq, rising_iff]
          exact ⟨fun e => by rw [e]; exact hms, fun e => strict_ext e hms fun x => (hmem x).symm⟩
        rw [e1]
        refine ⟨_, rfl, fun h2 => dec_t ?_, fun h2 => ?_⟩
        · walk_at "go"
          refine ret_d (bad ?_)
          rw [eCan, show risingB is = false by simpa using h2]
          simp
        · have hris : risingB is = true := by simpa using h2
          refine wt_test ?_
          walk_at "go"
          refine we_new (wn_lcF (outB ns.length) id (wi_seqS ?_))
          walk_at "go"
          refine ⟨true, _, rfl, size_big (by rw [List.length_map]; omega), fun d hd => ?_, ?_⟩
          · obtain ⟨i, _, rfl⟩ := List.mem_map.mp hd
            refine wgc_name (by decide) ?_
            walk_at "go"
            refine ⟨fun h3 => ?_, fun h3 => ?_⟩
            · walk_at "go"
              rw [List.length_map]
              refine ⟨?_, rfl, fun _ => ?_⟩
              · show _ = !(decide (0 ≤ i) && decide (i < (ns.length : Nat)))
                rw [h3]; rfl
              · walk_at "go"
                rfl
            · refine ⟨_, rfl, ?_, rfl, fun _ => ?_⟩
              · show _ = !(decide (0 ≤ i) && decide (i < (ns.length : Nat)))
                rw [h3]; rfl
              · walk_at "go"
                rfl
          · rw [List.map_id]
            refine we_new (wn_lst ?_)
            walk_at "go"
            refine ⟨[], rfl, size_le (by simp), ?_⟩
            refine wr_neNil (.d _) (k := 2) (fun y hy => (hit y (List.mem_filter.mp hy).1).shp) (by decide) ?_
            have ef2 : ((nums is).filter (outB ns.length)).isEmpty = (nums is).all (isFrom 0 (ns.length - 1)) := by
              rw [← filter_empty]
              congr 1
              refine List.filter_congr fun d hd => ?_
              obtain ⟨i, _, rfl⟩ := List.mem_map.mp hd
              show (!(decide (0 ≤ i) && decide (i < (ns.length : Nat)))) = !(decide (0 ≤ i) && decide (i ≤ (ns.length : Nat) - 1))
              congr 2
              exact decide_eq_decide.mpr (by omega)
            rw [ef2]
            refine ⟨_, rfl, fun h4 => ?_, fun h4 => ?_⟩
            · walk_at "go"
              refine ret_d (bad ?_)
              rw [eCan, show (nums is).all (isFrom 0 (ns.length - 1)) = false by simpa using h4]
              rfl
            · have hall : (nums is).all (isFrom 0 (ns.length - 1)) = true := by simpa using h4
              refine sx_next (sx_ret (we_call0 (wa_cons (we_call0 ?_))))
              walk_at "go"
              refine ⟨by simp [notM], ns, is, rfl, by omega, rfl, ?_⟩
              walk_at "go"
              refine ⟨by simp [notM], true, _, rfl, Nat.le_trans (without_len _ _ _) (by omega), rfl, ret_d ?_⟩
              rw [eCan, hall, hris] at h
              exact h
  | _ =>
    walk_at "go"
    refine dec_t ?_
    walk_at "go"
    exact ret_d h
end
end Wv

set_option Elab.async false
set_option linter.all false
set_option maxRecDepth 100000
set_option maxHeartbeats 2000000
namespace Wv
open PySem PySem.Spec PyProof.Rows L2
local macro_rules | `(tactic| walk_at "var") => `(tactic| ((with_reducible refine we_var (r := ?r) ?h ?_); (case h => rfl)))
local macro_rules | `(tactic| walk_at "ev") => `(tactic| (first
  | walk_at "var" | with_reducible refine we_int ?_ | with_reducible refine we_str ?_ | with_reducible refine we_bl ?_ | with_reducible refine we_non ?_ | with_reducible refine wa_cons ?_ | with_reducible refine wa_nil ?_
  | with_reducible refine wr_b0 ?_ | with_reducible refine wr_i0 ?_ | with_reducible refine wr_addI ?_ | with_reducible refine wu_neg ?_
  | with_reducible refine we_op ?_ | with_reducible refine we_un ?_ | with_reducible refine we_cb ?_ | with_reducible refine we_tup ?_ | with_reducible refine we_tupV ?_ | with_reducible refine we_chain ?_ | with_reducible refine we_chain3 ?_ | with_reducible refine we_andV ?_ | with_reducible refine we_orV ?_ | with_reducible refine we_notV ?_ | with_reducible refine we_if ?_
  | with_reducible refine wt_test ?_ | with_reducible refine wt_B ?_ | with_reducible refine wt_and ?_ | with_reducible refine wt_or ?_ | with_reducible refine wt_not ?_ | with_reducible refine wr_isNN ?_ | with_reducible refine wr_isN ?_ | with_reducible refine wr_isB ?_ | with_reducible refine wr_isNB ?_
  | with_reducible refine wc_max2 ?_ | with_reducible refine wc_min2 ?_ | with_reducible refine wc_isi (isi_int _) ?_ | with_reducible refine wc_isi (isi_bool _) ?_ | with_reducible refine wc_isi (isi_tuple _) ?_ | with_reducible refine wc_isi (isi_list _) ?_ | with_reducible refine wc_isi (isi_str _) ?_
  | with_reducible refine sx_seq ?_ | with_reducible refine sx_next ?_ | with_reducible refine sx_ret ?_ | with_reducible refine sx_drop ?_ | with_reducible refine sx_if ?_ | with_reducible refine sx_par ?_ | with_reducible refine wo_none ?_ | with_reducible refine wo_some ?_
  | with_reducible refine wg_name ?_ | with_reducible refine wgs_nil ?_ | with_reducible refine wgs_cons ?_ | with_reducible refine wg_tup rfl ?_
  | with_reducible refine wr_eqI ?_ | with_reducible refine wr_neI ?_
  | ((with_reducible refine' wc_len ?h ?_); (case h => first | exact .t _ | exact .l (.d _) | exact .of | exact .l (.m rfl)))
  | ((with_reducible refine' wr_ix ?h1 ?h2 ?_); (case h1 => exact .l (.m rfl)); (case h2 => rfl))
  | with_reducible refine wgcs_nil ?_ | with_reducible refine wgcs_cons ?_ | with_reducible refine wgc_tup rfl ?_ | with_reducible refine wgc_name (by decide) ?_ | with_reducible refine we_v ?_ | with_reducible refine ⟨_, rfl, ?_⟩ | with_reducible refine dec_t ?_ | with_reducible refine dec_f ?_ | with_reducible refine dec_nt ?_ | with_reducible refine dec_nf ?_ | with_reducible refine And.intro rfl ?_))
local macro_rules | `(tactic| walk_at "go") => `(tactic| repeat walk_at "ev")
section
variable {K : PySem.W.Frag} {Pg : Program} {w : World} {rs : List Res} {μ : List MO} {P : PyData → List MO → Prop}
/-! ### woven_of -/
def S_woven_of : Spec := fun rs μ P => ∃ ns : List Int, rs = [.d (tupI ns)] ∧ IsRow ns ∧ μ = [] ∧ ∀ (bs : List Bool) (there : List Int), Leave (ns.zip (ones ns.length)) [begunP] bs → there.Perm ns → Wov there → there.filter (fun c => decide (c ∈ keepB ns bs)) = keepB ns bs → P (tupI there) []
/- woven_of: slots 0 row, 1 gone, 2 found, 3 place, 4 ups, 5 later, 6 at, 7 card -/
def R_woven_of (K : PySem.W.Frag) (Pg : Program) (w : World) : TS :=
    (tSeq (tDrop (tCall (FSp K S_need_row) [] E0 (tCons (tVar 0) tNil)))
    (tSeq (tAsg (tCall (FSp K S_leaving) [] E0 (tCons (tVar 0) (tCons (tOp (rRepX K) (tTup (tCons (tC (.int 1)) tNil)) (tCB (rLenX K) (tCons (tVar 0) tNil))) tNil))) (gName 1))
    (tSeq (tAsg (tLc (iEnumG K (tCons (tVar 0) tNil)) (gTup K 2 (gCons (gName 6) (gCons (gName 7) gNil))) (tTest (tOp (rNotInX K) (tVar 6) (tVar 1))) (tVar 7) [6, 7]) (gName 2))
    (tSeq (tFor (iSeq K (tVar 1)) (gName 3) (tSeq (tAsg (tCall (FSpN K S_of_side) [] E0 (tCons (tVar 2) (tCons (tOp (rIx K) (tCall (FSpN K S_all_partings) [] E0 (tCons (tVar 2) tNil)) (tC (.int 0))) (tCons (tC (.str "up")) tNil)))) (gName 4))
    (tSeq (tAsg (tLc (iSeq K (tVar 4)) (gName 7) (tTest (tOp (rI0 fun i j => .bl (decide (j < i))) (tVar 7) (tOp (rIx K) (tVar 0) (tVar 3)))) (tVar 7) [7]) (gName 5))
    (tSeq (tAsg (tIf (tTest (tOp (rNeD K) (tVar 5) (tLst tNil))) (tBM K "list" (rIndex K) (tVar 2) (tCons (tOp (rIx K) (tVar 5) (tC (.int 0))) tNil)) (tCB (rLenX K) (tCons (tVar 2) tNil))) (gName 6))
    (tDrop (tBM K "list" rInsert (tVar 2) (tCons (tVar 6) (tCons (tOp (rIx K) (tVar 0) (tVar 3)) tNil))))))))
    (tRet (tCB (rTupX K) (tCons (tVar 2) tNil)))))))
theorem gone_at : ∀ {ns : List Int} {bs : List Bool} {k : Nat} {x : Int}, bs.length = ns.length → x ∈ goneL bs k → ∃ i c, x = ((k + i : Nat) : Int) ∧ ns[i]? = some c ∧ bs[i]? = some false
  | [], [], _, _, _, h => by cases h
  | [], _ :: _, _, _, h, _ => by cases h
  | _ :: _, [], _, _, h, _ => by cases h
  | c :: r, b :: bs, k, x, hl, h => by
    rw [goneL] at h
    have hl' : bs.length = r.length := by simpa using hl
    cases b with
    | true =>
      rw [if_pos rfl] at h
      obtain ⟨i, c', e, h1, h2⟩ := gone_at (ns := r) hl' h
      exact ⟨i + 1, c', by rw [e]; omega, by simpa using h1, by simpa using h2⟩
    | false =>
      rw [if_neg (by decide)] at h
      rcases List.mem_cons.mp h with rfl | h
      · exact ⟨0, c, rfl, rfl, rfl⟩
      · obtain ⟨i, c', e, h1, h2⟩ := gone_at (ns := r) hl' h
        exact ⟨i + 1, c', by rw [e]; omega, by simpa using h1, by simpa using h2⟩
/-- the cards that go, in order -/
def goneC : List Int → List Bool → List Int
  | c :: r, b :: bs => if b then goneC r bs else c :: goneC r bs
  | _, _ => []
theorem keep_goneC : ∀ {r : List Int} {bs : List Bool}, bs.length = r.length → (keepB r bs ++ goneC r bs).Perm r
  | [], [], _ => .refl _
  | [], _ :: _, h => by cases h
  | _ :: _, [], h => by cases h
  | c :: r, b :: bs, h => by
    have ih := keep_goneC (r := r) (bs := bs) (by simpa using h)
    rw [keepB, goneC]
    cases b with
    | true => rw [if_pos rfl, if_pos rfl]; exact ih.cons c
    | false => rw [if_neg (by decide), if_neg (by decide)]; exact List.perm_middle.trans (ih.cons c)
theorem gone_get : ∀ {r : List Int} {bs : List Bool} {k j : Nat} {x : Int}, bs.length = r.length → (goneL bs k)[j]? = some x → ∃ i c, x = ((k + i : Nat) : Int) ∧ r[i]? = some c ∧ (goneC r bs)[j]? = some c
  | [], [], _, _, _, _, h => by simp [goneL] at h
  | [], _ :: _, _, _, _, h, _ => by cases h
  | _ :: _, [], _, _, _, h, _ => by cases h
  | c :: r, b :: bs, k, j, x, hl, h => by
    have hl' : bs.length = r.length := by simpa using hl
    rw [goneL] at h
    rw [goneC]
    cases b with
    | true =>
      rw [if_pos rfl] at h ⊢
      obtain ⟨i, c', e, h1, h2⟩ := gone_get (r := r) hl' h
      exact ⟨i + 1, c', by rw [e]; omega, by simpa using h1, h2⟩
    | false =>
      rw [if_neg (by decide)] at h ⊢
      cases j with
      | zero => exact ⟨0, c, by simpa using h.symm, rfl, rfl⟩
      | succ j =>
        obtain ⟨i, c', e, h1, h2⟩ := gone_get (r := r) (j := j) hl' (by simpa using h)
        exact ⟨i + 1, c', by rw [e]; omega, by simpa using h1, by simpa using h2⟩
theorem goneC_len : ∀ {r : List Int} {bs : List Bool} {k : Nat}, bs.length = r.length → (goneC r bs).length = (goneL bs k).length
  | [], [], _, _ => rfl
  | [], _ :: _, _, h => by cases h
  | _ :: _, [], _, h => by cases h
  | c :: r, b :: bs, k, h => by
    have ih := goneC_len (r := r) (bs := bs) (k := k + 1) (by simpa using h)
    rw [goneC, goneL]
    cases b <;> simp [ih]
def gtD (x : Int) : PyData → Bool
  | .int i => decide (x < i)
  | _ => false
theorem filter_gt (x : Int) (ns : List Int) : ((nums ns).filter (gtD x)).map id = nums (ns.filter fun y => decide (x < y)) := by
  unfold nums
  rw [List.map_id, List.filter_map]
  rfl
/-- what stands while cards are put in -/
structure Put (ns : List Int) (bs : List Bool) (j : Nat) (fd : List Int) : Prop where
  perm : fd.Perm (keepB ns bs ++ (goneC ns bs).take j)
  wov : Wov fd
  keep : fd.filter (fun c => decide (c ∈ keepB ns bs)) = keepB ns bs
theorem Put.put {ns : List Int} {bs : List Bool} {j : Nat} {fd : List Int} {x : Int} {i : Nat} {cs : List (Int × Bool)} (h : Put ns bs j fd) (hn : ns.Nodup) (hbl : bs.length = ns.length) (hx : (goneC ns bs)[j]? = some x) (hcs : cs.map (·.1) = fd) (hp : cs.Pairwise RR) (h1 : ∀ p ∈ cs.take i, p.2 = true → p.1 < x) (h2 : ∀ p ∈ cs.drop i, p.2 = true → x < p.1) : Put ns bs (j + 1) (fd.take i ++ [x] ++ fd.drop i) := by
  have hall := keep_goneC (r := ns) (bs := bs) hbl
  have hnd : (keepB ns bs ++ goneC ns bs).Nodup := hall.nodup_iff.mpr hn
  have hxk : x ∉ keepB ns bs := fun z => by
    rw [List.nodup_append] at hnd
    exact hnd.2.2 x z x (List.mem_of_getElem? hx) rfl
  refine ⟨?_, ?_, ?_⟩
  · have e : (goneC ns bs).take (j + 1) = (goneC ns bs).take j ++ [x] := by rw [List.take_add_one, hx]; rfl
    rw [e, ← List.append_assoc]
    have p1 : (fd.take i ++ [x] ++ fd.drop i).Perm (fd ++ [x]) := by
      rw [List.append_assoc]
      refine List.Perm.trans (List.Perm.append_left _ List.perm_append_comm) ?_
      rw [← List.append_assoc, List.take_append_drop]
    exact p1.trans (h.perm.append_right [x])
  · refine ⟨cs.take i ++ [(x, true)] ++ cs.drop i, ?_, put_in hp h1 h2⟩
    rw [← hcs, List.map_append, List.map_append, List.map_take, List.map_drop]
    rfl
  · rw [List.filter_append, List.filter_append]
    have e : [x].filter (fun c => decide (c ∈ keepB ns bs)) = [] := by rw [List.filter_cons, if_neg (by simpa using hxk)]; rfl
    rw [e, List.append_nil, ← List.filter_append, List.take_append_drop]
    exact h.keep
theorem sx_woven_of (h : S_woven_of rs μ P) : SX K μ.length (R_woven_of K Pg w) (endsOf μ.length P) (startD 8 rs) μ := by
  obtain ⟨ns, rfl, hr, rfl, h⟩ := h
  have h40 := hr.le
  have hpos := hr.pos
  unfold R_woven_of
  refine sx_seq (sx_drop (we_call0 ?_))
  walk_at "go"
  refine ⟨by simp [notM], ns, rfl, hr, rfl, ?_⟩
  refine sx_seq (sx_asg (we_call0 ?_))
  walk_at "go"
  refine ⟨[_], rfl, size_le (by simp), ?_⟩
  walk_at "go"
  rw [List.length_map]
  refine wr_rep hpos (by omega) ?_
  rw [rep_ones]
  walk_at "go"
  refine ⟨by simp [notM], ns, ones ns.length, rfl, ones_len _, by omega, rfl, fun bs hbs => ?_⟩
  obtain ⟨hbl, hwv, _⟩ := first_lot hr.rng hbs
  -- found
  refine sx_seq (sx_asgM (Nat.zero_le _) (wn_without (br := true) (lot := goneL bs 0) (by omega) rfl (fun x y ds2 e => by subst e; rfl) (fun x y ds2 e => by subst e; exact ⟨rfl, rfl⟩) ?_))
  rw [without_gone hbl]
  refine ⟨_, .refl _, ?_⟩
  have hgl := goneC_len (r := ns) (bs := bs) (k := 0) hbl
  have hall := keep_goneC (r := ns) (bs := bs) hbl
  refine sx_seq (sx_for (wi_seqS ?_))
  walk_at "go"
  refine ⟨true, _, rfl, fun j ds' μ' => ∃ (fd : List Int) (a3 a4 a5 a6 a7 : Option Res), Put ns bs j fd ∧ ds' = [some (.d (tupI ns)), some (.d (tupI (goneL bs 0))), some (.m 0), a3, a4, a5, a6, a7] ∧ μ' = [MO.lst (nums fd)], ?_, ?_, ?_⟩
  · refine ⟨keepB ns bs, _, _, _, _, _, ⟨by rw [List.take_zero, List.append_nil], hwv, ?_⟩, rfl, rfl⟩
    exact List.filter_eq_self.mpr fun c hc => decide_eq_true hc
  · rintro j z ds' μ' hj ⟨fd, a3, a4, a5, a6, a7, hput, rfl, rfl⟩
    rw [List.getElem?_map] at hj
    obtain ⟨pl, hpl, rfl⟩ := Option.map_eq_some_iff.mp hj
    obtain ⟨i0, x, e0, hx0, hxg⟩ := gone_get (r := ns) (k := 0) hbl hpl
    rw [Nat.zero_add] at e0
    subst e0
    have hsub : ∀ y ∈ fd, y ∈ ns := fun y hy => by
      have := hput.perm.mem_iff.mp hy
      refine hall.mem_iff.mp ?_
      rcases List.mem_append.mp this with h | h
      · exact List.mem_append.mpr (.inl h)
      · exact List.mem_append.mpr (.inr (List.mem_of_mem_take h))
    have hndAll : (keepB ns bs ++ goneC ns bs).Nodup := hall.nodup_iff.mpr hr.nd
    have hfnd : fd.Nodup := hput.perm.nodup_iff.mpr (hndAll.sublist (List.Sublist.append (List.Sublist.refl _) (List.take_sublist _ _)))
    have hfl : fd.length ≤ 40 := by
      have := len_le_of_nodup hfnd hsub
      omega
    have hxfd : x ∉ fd := fun z => by
      have := hput.perm.mem_iff.mp z
      obtain ⟨hil, hxe⟩ := List.getElem?_eq_some_iff.mp hxg
      rw [List.nodup_append] at hndAll
      rcases List.mem_append.mp this with h | h
      · exact hndAll.2.2 x h x (List.mem_of_getElem? hxg) rfl
      · have hd : goneC ns bs = (goneC ns bs).take j ++ x :: (goneC ns bs).drop (j + 1) := by
          rw [← hxe, ← List.drop_eq_getElem_cons hil, List.take_append_drop]
        have := hndAll.2.1
        rw [hd, List.nodup_append] at this
        exact this.2.2 x h x (by simp) rfl
    have hfr : Rng fd := fun y hy => hr.rng y (hsub y hy)
    have hpne : parts fd ≠ [] := allP_ne.mpr ((woven_wov' hfr).mpr hput.wov)
    obtain ⟨us, ps, hps⟩ : ∃ us ps, parts fd = us :: ps := by
      cases e : parts fd with
      | nil => exact absurd e hpne
      | cons us ps => exact ⟨us, ps, rfl⟩
    obtain ⟨hul, hrr⟩ := (mem_parts hfr).mp (by rw [hps]; exact List.mem_cons_self : us ∈ parts fd)
    have hfst : (fd.zip us).map (·.1) = fd := zip_fst hul.symm
    have hnl : ∀ l : List (List Bool), noListAll (l.map sidesT) = true := fun l => by
      induction l with
      | nil => rfl
      | cons s l ih =>
        rw [List.map_cons, noListAll, ih, Bool.and_true]
        show noListAll (sidesL s) = true
        induction s with
        | nil => rfl
        | cons b s ih2 => rw [sidesL, List.map_cons, noListAll]; exact ih2
    refine wg_name (sx_seq (sx_asg (we_new (wn_callNR (fun _ => nums fd) ?_))))
    refine wa_cons (we_var rfl (wa_cons (we_op (we_new (wn_callNR (fun _ => nums fd) (wa_cons (we_var rfl (wa_nil ⟨fun mo hmo => ?_, fun k hk => ?_, false, fd, rfl, by omega, hfnd, rfl, hnl _, ?_⟩))))))))
    · rw [List.mem_singleton.mp hmo]; exact nt_lst _
    · simp only [List.mem_cons, List.not_mem_nil, or_false] at hk
      cases hk; rfl
    rw [hps]
    refine we_int (wr_ix (.l (.d _)) (d := sidesT us) (atI_of (i := 0) rfl) ?_)
    walk_at "go"
    refine ⟨fun mo hmo => ?_, fun k hk => ?_, false, true, fd, us, true, rfl, by omega, rfl, ?_, ?_⟩
    · rw [List.mem_singleton.mp hmo]; exact nt_lst _
    · simp only [List.mem_cons, List.not_mem_nil, or_false] at hk
      rcases hk with e | e | e
      · cases e; rfl
      · cases e
      · cases e
    · generalize onSide true (fd.zip us) = l
      induction l with
      | nil => rfl
      | cons y l ih => rw [nums, List.map_cons, noListAll]; exact ih
    rw [on_up]
    have hupl : (upsOf (fd.zip us)).length ≤ 40 := by
      unfold upsOf; rw [List.length_map]; exact Nat.le_trans (List.length_filter_le _ _) (by rw [List.length_zip]; omega)
    -- later
    refine sx_seq (sx_asg (we_new (wn_lcF (gtD x) id (wi_seqS ?_))))
    walk_at "go"
    refine ⟨false, _, rfl, size_big (by rw [List.length_map]; omega), fun d hd => ?_, ?_⟩
    · obtain ⟨y, _, rfl⟩ := List.mem_map.mp hd
      refine wgc_name (by decide) (wt_test (we_op (we_var rfl (we_op (we_var rfl (we_var rfl (wr_ix (.t _) (atI_of (nums_get hx0)) (wr_b0 ⟨_, rfl, rfl, rfl, fun _ => ?_⟩))))))))
      walk_at "go"
      rfl
    rw [filter_gt]
    have fin : ∀ i : Nat, i ≤ fd.length → (∀ p ∈ (fd.zip us).take i, p.2 = true → p.1 < x) → (∀ p ∈ (fd.zip us).drop i, p.2 = true → x < p.1) → ∀ (a4 a5 a7 : Option Res),
        WE K (tBM K "list" rInsert (tVar 2) (tCons (tVar 6) (tCons (tOp (rIx K) (tVar 0) (tVar 3)) tNil))) [some (.d (tupI ns)), some (.d (tupI (goneL bs 0))), some (.m 0), some (.d (.int (i0 : Nat))), a4, a5, some (.d (.int (i : Nat))), a7] [MO.lst (nums fd)] fun _ μ' => ∃ (fd : List Int) (b3 b4 b5 b6 b7 : Option Res), Put ns bs (j + 1) fd ∧ [some (.d (tupI ns)), some (.d (tupI (goneL bs 0))), some (.m 0), some (.d (.int (i0 : Nat))), a4, a5, some (.d (.int (i : Nat))), a7] = [some (.d (tupI ns)), some (.d (tupI (goneL bs 0))), some (.m 0), b3, b4, b5, b6, b7] ∧ μ' = [MO.lst (nums fd)] := fun i hi h1 h2 a4 a5 a7 => by
      refine we_bm (we_var rfl ⟨⟨_, .m rfl⟩, wa_cons (we_var rfl (wa_cons (we_op (we_var rfl (we_var rfl (wr_ix (.t _) (atI_of (nums_get hx0)) (wa_nil ?_)))))))⟩)
      refine wm_insert rfl (size_big (by rw [List.length_map]; omega)) (by omega) (by omega) ?_
      refine ⟨fd.take i ++ [x] ++ fd.drop i, _, _, _, _, _, hput.put hr.nd hbl hxg hfst hrr h1 h2, rfl, ?_⟩
      have e : nums (fd.take i ++ [x] ++ fd.drop i) = List.take ((i : Int).toNat) (nums fd) ++ [PyData.int x] ++ List.drop ((i : Int).toNat) (nums fd) := by
        rw [Int.toNat_natCast, nums, List.map_append, List.map_append, List.map_take, List.map_drop]; rfl
      rw [e]
      rfl
    refine sx_seq (sx_asg (we_if (wt_test ?_)))
    walk_at "go"
    refine we_new (wn_lst ?_)
    walk_at "go"
    refine ⟨[], rfl, size_le (by simp), ?_⟩
    refine wr_neNil (.d _) shp_num (by decide) ?_
    rw [nums_empty]
    rcases put_place (cs := fd.zip us) (x := x) (by rw [hfst]; exact hfnd) (rr_iff.mp hrr).1 (by rw [hfst]; exact hxfd) with ⟨e1, e2⟩ | ⟨i, y, rest, e1, e2, e3, e4, e5⟩
    · rw [e1]
      refine ⟨_, rfl, dec_f ?_⟩
      walk_at "go"
      rw [List.length_map]
      refine fin fd.length (Nat.le_refl _) (fun p hp hps => e2 p (List.mem_of_mem_take hp) hps) (fun p hp _ => ?_) _ _ _
      rw [List.drop_of_length_le (by rw [List.length_zip]; omega)] at hp
      cases hp
    · rw [e1]
      rw [hfst] at e2
      rw [hfst] at e3
      have hil := (List.getElem?_eq_some_iff.mp e2).1
      refine ⟨_, rfl, dec_t (we_bm ?_)⟩
      walk_at "go"
      refine ⟨⟨_, .m rfl⟩, ?_⟩
      walk_at "go"
      refine wr_ix (.l (.d _)) (d := .int y) (atI_of (i := 0) rfl) ?_
      walk_at "go"
      refine wm_index (ns := fd) (.m rfl) e2 e3 ?_
      exact sx_drop (fin i (by omega) e4 e5 _ _ _)
  · rintro ds' μ' ⟨fd, a3, a4, a5, a6, a7, hput, rfl, rfl⟩
    have hp := hput.perm
    rw [List.length_map, ← hgl, List.take_length] at hp
    walk_at "go"
    exact wc_tupL (.m rfl) (ret_d (h bs fd hbs (hp.trans hall) hput.wov hput.keep))
end
end Wv

set_option Elab.async false
set_option linter.all false
set_option maxRecDepth 100000
set_option maxHeartbeats 4000000
namespace Wv
open PySem PySem.Spec PyProof.Rows L2
local macro_rules | `(tactic| walk_at "var") => `(tactic| ((with_reducible refine we_var (r := ?r) ?h ?_); (case h => rfl)))
local macro_rules | `(tactic| walk_at "ev") => `(tactic| (first
  | walk_at "var" | with_reducible refine we_int ?_ | with_reducible refine we_str ?_ | with_reducible refine we_bl ?_ | with_reducible refine we_non ?_ | with_reducible refine wa_cons ?_ | with_reducible refine wa_nil ?_
  | with_reducible refine wr_b0 ?_ | with_reducible refine wr_i0 ?_ | with_reducible refine wr_addI ?_ | with_reducible refine wu_neg ?_
  | with_reducible refine we_op ?_ | with_reducible refine we_un ?_ | with_reducible refine we_cb ?_ | with_reducible refine we_tup ?_ | with_reducible refine we_tupV ?_ | with_reducible refine we_chain ?_ | with_reducible refine we_chain3 ?_ | with_reducible refine we_andV ?_ | with_reducible refine we_orV ?_ | with_reducible refine we_notV ?_ | with_reducible refine we_if ?_
  | with_reducible refine wt_test ?_ | with_reducible refine wt_B ?_ | with_reducible refine wt_and ?_ | with_reducible refine wt_or ?_ | with_reducible refine wt_not ?_ | with_reducible refine wr_isNN ?_ | with_reducible refine wr_isN ?_ | with_reducible refine wr_isB ?_ | with_reducible refine wr_isNB ?_
  | with_reducible refine wc_max2 ?_ | with_reducible refine wc_min2 ?_ | with_reducible refine wc_isi (isi_int _) ?_ | with_reducible refine wc_isi (isi_bool _) ?_ | with_reducible refine wc_isi (isi_tuple _) ?_ | with_reducible refine wc_isi (isi_list _) ?_ | with_reducible refine wc_isi (isi_str _) ?_
  | with_reducible refine sx_seq ?_ | with_reducible refine sx_next ?_ | with_reducible refine sx_ret ?_ | with_reducible refine sx_drop ?_ | with_reducible refine sx_if ?_ | with_reducible refine sx_par ?_ | with_reducible refine wo_none ?_ | with_reducible refine wo_some ?_
  | with_reducible refine wg_name ?_ | with_reducible refine wgs_nil ?_ | with_reducible refine wgs_cons ?_ | with_reducible refine wg_tup rfl ?_
  | with_reducible refine wr_eqI ?_ | with_reducible refine wr_neI ?_
  | ((with_reducible refine' wc_len ?h ?_); (case h => first | exact .t _ | exact .l (.d _) | exact .of | exact .l (.m rfl)))
  | ((with_reducible refine' wr_ix ?h1 ?h2 ?_); (case h1 => exact .l (.m rfl)); (case h2 => rfl))
  | with_reducible refine wgcs_nil ?_ | with_reducible refine wgcs_cons ?_ | with_reducible refine wgc_tup rfl ?_ | with_reducible refine wgc_name (by decide) ?_ | with_reducible refine we_v ?_ | with_reducible refine ⟨_, rfl, ?_⟩ | with_reducible refine dec_t ?_ | with_reducible refine dec_f ?_ | with_reducible refine dec_nt ?_ | with_reducible refine dec_nf ?_ | with_reducible refine And.intro rfl ?_))
local macro_rules | `(tactic| walk_at "go") => `(tactic| repeat walk_at "ev")
section
variable {K : PySem.W.Frag} {Pg : Program} {w : World} {rs : List Res} {μ : List MO} {P : PyData → List MO → Prop}
/- law: slots 0 script, 1 cell, 2 deck, 3 turn, 4 many, 5 row, 6 lots, 7 good, 8 there, 9 same, 10 bent, 11 some, 12 thing, 13 lot, 14 k -/
def R_law (K : PySem.W.Frag) (Pg : Program) (w : World) : TS :=
    (tSeq (tFor (iSeq K (tSl (rSlX K) (tOp (rAddX K) (tLst (tCons (tC (.int 0)) tNil)) (tVar 0)) tNoPart (tPart (tC (.int 6))))) (gName 1) (tSeq (tAsg (tCall (FSpN K S_law_deck) [] E0 (tCons (tVar 1) (tCons (tC (.int 5)) tNil))) (gName 2))
    (tFor (iRng1 (tCons (tC (.int 2)) tNil)) (gName 3) (tSeq (tAsg (tOp (rAddX K) (tC (.int 1)) (tCall (FSp K S_law_pick) [] E0 (tCons (tVar 2) (tCons (tC (.int 9)) tNil)))) (gName 4))
    (tSeq (tAsg (tCall (FSp K S_law_numbers) [] E0 (tCons (tVar 2) (tCons (tVar 4) (tCons (tC (.int 30)) tNil)))) (gName 5))
    (tSeq (tIfS (tTest (tOp (rEqD K) (tVar 3) (tC (.int 1)))) (tAsg (tCall (FSp K S_law_bent) [] E0 (tCons (tVar 2) (tCons (tCall (FSp K S_law_woven) [] E0 (tCons (tVar 2) (tCons (tVar 4) tNil))) (tCons (tC (.int 3)) tNil)))) (gName 5)) tNext)
    (tSeq (tAsg (tCall (FSp K S_law_lots) [] E0 (tCons (tVar 4) tNil)) (gName 6))
    (tSeq (tAsg (tLc (iSeq K (tVar 6)) (gName 13) (tB (tCall (FSp K S_law_fits) [] E0 (tCons (tCall (FSp K S_law_without) [] E0 (tCons (tVar 5) (tCons (tVar 13) tNil))) tNil))) (tVar 13) [13]) (gName 7))
    (tSeq (tIfS (tNot (tB (tCall (FSp K S_law_same) [] E0 (tCons (tCall (FSp K S_fewest) [] E0 (tCons (tVar 5) tNil)) (tCons (tTup (tCons (tCB (rLenX K) (tCons (tOp (rIx K) (tVar 7) (tC (.int 0))) tNil)) (tCons (tOp (rIx K) (tVar 7) (tC (.int 0))) tNil))) tNil))))) (tRet (tC (.bl false))) tNext)
    (tSeq (tAsg (tCall (FSp K S_woven_of) [] E0 (tCons (tVar 5) tNil)) (gName 8))
    (tSeq (tAsg (tLc (iSeq K (tVar 7)) (gName 13) (tAnd (tTest (tOp (rEqD K) (tCB (rLenX K) (tCons (tVar 13) tNil)) (tCB (rLenX K) (tCons (tOp (rIx K) (tVar 7) (tC (.int 0))) tNil)))) (tB (tCall (FSp K S_law_keeps) [] E0 (tCons (tVar 5) (tCons (tVar 8) (tCons (tVar 13) tNil)))))) (tVar 13) [13]) (gName 9))
    (tSeq (tIfS (tOr (tNot (tB (tCall (FSp K S_law_fits) [] E0 (tCons (tVar 8) tNil)))) (tTest (tOp (rEqD K) (tVar 9) (tLst tNil)))) (tRet (tC (.bl false))) tNext)
    (tSeq (tAsg (tCall (FSp K S_law_spoilt) [] E0 (tCons (tVar 2) (tCons (tOp (rIx K) (tVar 7) (tC (.int 0))) tNil))) (gName 10))
    (tSeq (tAsg (tLst (tCons (tOp (rIx K) (tVar 7) (tC (.int 0))) (tCons (tVar 10) (tCons (tRevA K (tOp (rIx K) (tVar 7) (tC (.int 0)))) (tCons (tCB (rLstX K) (tCons (tOp (rIx K) (tVar 7) (tC (.int 0))) tNil)) (tCons (tC .non) (tCons (tTup tNil) (tCons (tTup (tCons (tC (.bl true)) tNil)) (tCons (tTup (tCons (tVar 4) tNil)) (tCons (tTup (tCons (tC (.int 0)) (tCons (tC (.int 0)) tNil))) (tCons (tCall (FSp K S_law_odd) [] E0 (tCons (tVar 2) tNil)) tNil))))))))))) (gName 11))
    (tFor (iSeq K (tOp (rAddX K) (tVar 11) (tLc (iRng1 (tCons (tC (.int 12)) tNil)) (gName 14) tYes (tCall (FSp K S_law_one) [] E0 (tCons (tVar 2) (tCons (tVar 6) tNil))) [14]))) (gName 12) (tIfS (tNot (tB (tCall (FSp K S_law_same) [] E0 (tCons (tCall (FSp K S_can_be) [] E0 (tCons (tVar 5) (tCons (tVar 12) tNil))) (tCons (tCall (FSp K S_law_can) [] E0 (tCons (tVar 5) (tCons (tVar 12) tNil))) tNil))))) (tRet (tC (.bl false))) tNext))))))))))))))))
    (tRet (tAndV (tOp (rEqD K) (tCall (FSp K S_fewest) [] E0 (tCons (tTup (tCons (tC (.int 2)) (tCons (tC (.int 1)) (tCons (tC (.int 4)) (tCons (tC (.int 3)) tNil))))) tNil)) (tTup (tCons (tC (.int 1)) (tCons (tTup (tCons (tC (.int 0)) tNil)) tNil)))) (tAndV (tOp (rEqD K) (tCall (FSp K S_fewest) [] E0 (tCons (tTup (tCons (tC (.int 1)) (tCons (tC (.int 2)) (tCons (tC (.int 3)) tNil)))) tNil)) (tTup (tCons (tC (.int 0)) (tCons (tTup tNil) tNil)))) (tOp rIsX (tCall (FSp K S_can_be) [] E0 (tCons (tTup (tCons (tC (.int 5)) tNil)) (tCons (tTup (tCons (tC (.int 0)) tNil)) tNil))) (tC (.bl true)))))))
theorem mem_nums {cs : List Int} {i : Nat} {d : PyData} (h : (nums cs)[i]? = some d) : ∃ c, d = .int c := by
  rw [List.getElem?_map] at h
  obtain ⟨c, _, rfl⟩ := Option.map_eq_some_iff.mp h
  exact ⟨c, rfl⟩
theorem IsRow.perm {ns ms : List Int} (h : IsRow ns) (p : ms.Perm ns) : IsRow ms := ⟨by rw [p.length_eq]; exact h.pos, by rw [p.length_eq]; exact h.le, fun x hx => h.rng x (p.mem_iff.mp hx), p.nodup_iff.mpr h.nd⟩
/-- a lot by which the row is woven -/
def goodB (ns l : List Int) : Bool := fitsB (withoutK ns 0 l)
def fitLot (ns : List Int) : PyData → Bool
  | .tuple xs => goodB ns (xs.map intOf)
  | _ => false
theorem fitLot_tup (ns l : List Int) : fitLot ns (tupI l) = goodB ns l := by
  show goodB ns ((nums l).map intOf) = _
  rw [map_intOf]
theorem filter_lots (p : PyData → Bool) (q : List Int → Bool) (h : ∀ l, p (tupI l) = q l) (ls : List (List Int)) : ((ls.map tupI).filter p).map id = (ls.filter q).map tupI := by
  rw [List.map_id, List.filter_map]
  exact congrArg _ (List.filter_congr fun l _ => h l)
theorem head_is {ns : List Int} {ls : List (List Int)} {bs : List Bool} (hr : Rng ns) (hp : ls.Perm (lotsF ns.length)) (hs : ls.Pairwise fun a b => lotLt b a = false) (hlv : Leave (ns.zip (ones ns.length)) [begunP] bs) : ∃ rest, ls.filter (goodB ns) = goneL bs 0 :: rest := by
  obtain ⟨hbl, hw, hf⟩ := first_lot hr hlv
  have hin : goneL bs 0 ∈ ls.filter (goodB ns) := by
    refine List.mem_filter.mpr ⟨hp.mem_iff.mpr (mem_lots.mpr ⟨bs, hbl, rfl⟩), ?_⟩
    unfold goodB
    rw [without_gone hbl]
    exact (fits_wov' fun x hx => hr x ((keep_sub ns bs).subset hx)).mpr hw
  have hs' := hs.filter (goodB ns)
  cases e : ls.filter (goodB ns) with
  | nil => rw [e] at hin; cases hin
  | cons g rest =>
    refine ⟨rest, ?_⟩
    have hg : g ∈ ls.filter (goodB ns) := by rw [e]; exact List.mem_cons_self
    obtain ⟨hgl, hgg⟩ := List.mem_filter.mp hg
    obtain ⟨cs, hcl, rfl⟩ := mem_lots.mp (hp.mem_iff.mp hgl)
    unfold goodB at hgg
    rw [without_gone hcl] at hgg
    rcases hf cs hcl ((fits_wov' fun x hx => hr x ((keep_sub ns cs).subset hx)).mp hgg) with rfl | hlt
    · rfl
    · rw [e] at hin hs'
      rcases List.mem_cons.mp hin with h | h
      · rw [h]
      · have := (List.pairwise_cons.mp hs').1 _ h
        rw [this] at hlt
        cases hlt
theorem few_is {ns : List Int} {g : List Int} {bs cs : List Bool} (hr : Rng ns) (hlv : Leave (ns.zip (ones ns.length)) [begunP] bs) (hcl : cs.length = ns.length) (hg : goneL cs 0 = g) (hgw : fitsB (keepB ns cs) = true) (hd : ((lotsF ns.length).all fun l => !fitsB (withoutK ns 0 l) || (decide (l = g) || !lotLt l g)) = true) : goneL bs 0 = g := by
  obtain ⟨hbl, hw, hf⟩ := first_lot hr hlv
  rcases hf cs hcl ((fits_wov' fun x hx => hr x ((keep_sub ns cs).subset hx)).mp hgw) with rfl | hlt
  · exact hg
  · have := List.all_eq_true.mp hd _ (mem_lots.mpr ⟨bs, hbl, rfl⟩)
    rw [without_gone hbl, (fits_wov' fun x hx => hr x ((keep_sub ns bs).subset hx)).mpr hw, ← hg, hlt] at this
    simpa [hg] using this
theorem th_size {m L : Nat} {x : PyData} (hL : L ≤ 10) (h : thB (m + 1) L x = true) : sizeD x < 64 := by
  cases x with
  | list xs => have := (th_seq (b := false)).mp h; show xs.length < _; omega
  | tuple xs => have := (th_seq (b := true)).mp h; show xs.length < _; omega
  | _ => exact Nat.zero_lt_succ _
theorem th_lot {n m L : Nat} {b : Bool} {l : List Int} (h : l ∈ lotsF n) (hn : n ≤ 9) : thB (m + 1) L (seqOf b (nums l)) = true := th_seq.mpr ⟨by rw [List.length_map]; have := lot_len h; omega, fun x hx => by
  obtain ⟨i, hi, rfl⟩ := List.mem_map.mp hx
  obtain ⟨bs, hbl, rfl⟩ := mem_lots.mp h
  have := gone_ge hi
  rw [th_int, decide_eq_true_eq]
  omega⟩
theorem th_lotR {n m L : Nat} {b : Bool} {l : List Int} (h : l ∈ lotsF n) (hn : n ≤ 9) : thB (m + 1) L (seqOf b (nums l.reverse)) = true := th_seq.mpr ⟨by rw [List.length_map, List.length_reverse]; have := lot_len h; omega, fun x hx => by
  obtain ⟨i, hi, rfl⟩ := List.mem_map.mp hx
  obtain ⟨bs, hbl, rfl⟩ := mem_lots.mp h
  have := gone_ge (List.mem_reverse.mp hi)
  rw [th_int, decide_eq_true_eq]
  omega⟩
def sameLot (ns there : List Int) (n : Nat) : PyData → Bool
  | .tuple xs => decide (xs.length = n) && keepsB ns there (xs.map intOf)
  | _ => false
theorem sameLot_tup (ns there l : List Int) (n : Nat) : sameLot ns there n (tupI l) = (decide (l.length = n) && keepsB ns there l) := by
  show (decide ((nums l).length = n) && keepsB ns there ((nums l).map intOf)) = _
  rw [map_intOf, nums, List.length_map]
/-- both say the same of a thing -/
theorem thing_turn {D : DEnds} {ds : DSt} {x : PyData} {L : Nat} {ns : List Int} (hr : IsRow ns) (hL : L ≤ 10) (hx : thB 2 L x = true) (h12 : ds[12]? = some (some (.d x))) (h5 : ds[5]? = some (some (.d (tupI ns)))) (h : D.nx ds μ) : SX K 0 (tIfS (tNot (tB (tCall (FSp K S_law_same) [] E0 (tCons (tCall (FSp K S_can_be) [] E0 (tCons (tVar 5) (tCons (tVar 12) tNil))) (tCons (tCall (FSp K S_law_can) [] E0 (tCons (tVar 5) (tCons (tVar 12) tNil))) tNil))))) (tRet (tC (.bl false))) tNext) D ds μ := by
  refine sx_if (wt_not (wt_B (we_call0 (wa_cons (we_call0 (wa_cons (we_var h5 (wa_cons (we_var h12 (wa_nil ⟨by simp [notM], ns, x, rfl, hr, by have := th_size hL hx; omega, rfl, ?_⟩))))))))))
  refine wa_cons (we_call0 (wa_cons (we_var h5 (wa_cons (we_var h12 (wa_nil ⟨by simp [notM], ns, x, rfl, hr, th_size hL hx, (th_ok (by omega) hx).mono (by decide), rfl, ?_⟩))))))
  refine wa_nil ⟨by simp [notM], _, 3, rfl, rfl, rfl, by decide, okD_bool _, ?_⟩
  exact ⟨_, rfl, dec_nf (sx_next h)⟩
theorem ix0 {ds : DSt} {i : Nat} {g : List Int} {gs : List (List Int)} {Pr : Res → List MO → Prop} (h : ds[i]? = some (some (.d (.list ((g :: gs).map tupI))))) (p : Pr (.d (tupI g)) μ) : WE K (tOp (rIx K) (tVar i) (tC (.int 0))) ds μ Pr := we_op (we_var h (we_int (wr_ix (.l (.d _)) (d := tupI g) (atI_of (i := 0) rfl) p)))
theorem lot_turn {D : DEnds} {k many : Nat} {ns row : List Int} {cell tn : Int} {a6 a7 a8 a9 a10 a11 a12 a13 a14 : Option Res} (hk : k ≤ 1000) (hlen : row.length = many) (hrow : IsRow row) (h9 : many ≤ 9)
    (h : ∀ b6 b7 b8 b9 b10 b11 b12 b13 b14, D.nx [some (.s ns), some (.d (.int cell)), some (.m 0), some (.d (.int tn)), some (.d (.int (many : Nat))), some (.d (tupI row)), b6, b7, b8, b9, b10, b11, b12, b13, b14] [MO.deck (k + 22)]) :
    SX K 0 (tSeq (tAsg (tCall (FSp K S_law_lots) [] E0 (tCons (tVar 4) tNil)) (gName 6))
    (tSeq (tAsg (tLc (iSeq K (tVar 6)) (gName 13) (tB (tCall (FSp K S_law_fits) [] E0 (tCons (tCall (FSp K S_law_without) [] E0 (tCons (tVar 5) (tCons (tVar 13) tNil))) tNil))) (tVar 13) [13]) (gName 7))
    (tSeq (tIfS (tNot (tB (tCall (FSp K S_law_same) [] E0 (tCons (tCall (FSp K S_fewest) [] E0 (tCons (tVar 5) tNil)) (tCons (tTup (tCons (tCB (rLenX K) (tCons (tOp (rIx K) (tVar 7) (tC (.int 0))) tNil)) (tCons (tOp (rIx K) (tVar 7) (tC (.int 0))) tNil))) tNil))))) (tRet (tC (.bl false))) tNext)
    (tSeq (tAsg (tCall (FSp K S_woven_of) [] E0 (tCons (tVar 5) tNil)) (gName 8))
    (tSeq (tAsg (tLc (iSeq K (tVar 7)) (gName 13) (tAnd (tTest (tOp (rEqD K) (tCB (rLenX K) (tCons (tVar 13) tNil)) (tCB (rLenX K) (tCons (tOp (rIx K) (tVar 7) (tC (.int 0))) tNil)))) (tB (tCall (FSp K S_law_keeps) [] E0 (tCons (tVar 5) (tCons (tVar 8) (tCons (tVar 13) tNil)))))) (tVar 13) [13]) (gName 9))
    (tSeq (tIfS (tOr (tNot (tB (tCall (FSp K S_law_fits) [] E0 (tCons (tVar 8) tNil)))) (tTest (tOp (rEqD K) (tVar 9) (tLst tNil)))) (tRet (tC (.bl false))) tNext)
    (tSeq (tAsg (tCall (FSp K S_law_spoilt) [] E0 (tCons (tVar 2) (tCons (tOp (rIx K) (tVar 7) (tC (.int 0))) tNil))) (gName 10))
    (tSeq (tAsg (tLst (tCons (tOp (rIx K) (tVar 7) (tC (.int 0))) (tCons (tVar 10) (tCons (tRevA K (tOp (rIx K) (tVar 7) (tC (.int 0)))) (tCons (tCB (rLstX K) (tCons (tOp (rIx K) (tVar 7) (tC (.int 0))) tNil)) (tCons (tC .non) (tCons (tTup tNil) (tCons (tTup (tCons (tC (.bl true)) tNil)) (tCons (tTup (tCons (tVar 4) tNil)) (tCons (tTup (tCons (tC (.int 0)) (tCons (tC (.int 0)) tNil))) (tCons (tCall (FSp K S_law_odd) [] E0 (tCons (tVar 2) tNil)) tNil))))))))))) (gName 11))
    (tFor (iSeq K (tOp (rAddX K) (tVar 11) (tLc (iRng1 (tCons (tC (.int 12)) tNil)) (gName 14) tYes (tCall (FSp K S_law_one) [] E0 (tCons (tVar 2) (tCons (tVar 6) tNil))) [14]))) (gName 12) (tIfS (tNot (tB (tCall (FSp K S_law_same) [] E0 (tCons (tCall (FSp K S_can_be) [] E0 (tCons (tVar 5) (tCons (tVar 12) tNil))) (tCons (tCall (FSp K S_law_can) [] E0 (tCons (tVar 5) (tCons (tVar 12) tNil))) tNil))))) (tRet (tC (.bl false))) tNext)))))))))) D [some (.s ns), some (.d (.int cell)), some (.m 0), some (.d (.int tn)), some (.d (.int (many : Nat))), some (.d (tupI row)), a6, a7, a8, a9, a10, a11, a12, a13, a14] [MO.deck k] := by
  have hpos := hrow.pos
  -- lots
  refine sx_seq (sx_asg (we_call0 ?_))
  walk_at "go"
  refine ⟨by simp [notM], many, rfl, h9, rfl, fun ls hls hsrt => ?_⟩
  have hll : ls.length ≤ 512 := by rw [hls.length_eq]; exact lots_small h9
  rw [← hlen] at hls
  have hmem : ∀ l ∈ ls, l ∈ lotsF row.length := fun l hl => hls.mem_iff.mp hl
  have hlots : ls ≠ [] := fun z => by
    have := hls.length_eq
    rw [z, lots_len] at this
    have := Nat.two_pow_pos row.length
    simp at *
    omega
  -- good
  refine sx_seq (sx_asg (we_new (wn_lcF (fitLot row) id (wi_seqS ?_))))
  walk_at "go"
  refine ⟨false, _, rfl, size_big (by rw [List.length_map]; omega), fun d hd => ?_, ?_⟩
  · obtain ⟨l, hl, rfl⟩ := List.mem_map.mp hd
    refine wgc_name (by decide) (wt_B (we_call0 (wa_cons (we_call0 (wa_cons (we_var rfl (wa_cons (we_var rfl (wa_nil ⟨by simp [notM], row, l, rfl, by omega, rfl, ?_⟩)))))))))
    refine wa_nil ⟨by simp [notM], true, _, rfl, by have := without_len row 0 l; omega, rfl, ?_⟩
    exact ⟨_, rfl, (fitLot_tup row l).symm, rfl, fun _ => we_var rfl ⟨rfl, rfl⟩⟩
  rw [filter_lots (fitLot row) (goodB row) (fitLot_tup row)]
  -- fewest
  refine sx_seq (sx_if (wt_not (wt_B (we_call0 (wa_cons (we_call0 (wa_cons (we_var rfl (wa_nil ⟨by simp [notM], row, rfl, hrow, rfl, fun bs hbs => ?_⟩)))))))))
  obtain ⟨gs, hgs⟩ := head_is hrow.rng hls hsrt hbs
  have hgood : ∀ l ∈ goneL bs 0 :: gs, l ∈ ls := fun l hl => by rw [← hgs] at hl; exact (List.mem_filter.mp hl).1
  have hgsl : (goneL bs 0 :: gs).length ≤ 512 := by rw [← hgs]; exact Nat.le_trans (List.length_filter_le _ _) hll
  have hg1 := hmem _ (hgood _ List.mem_cons_self)
  have hgl := lot_len hg1
  rw [hgs]
  refine wa_cons (we_tup (wa_cons (we_cb (wa_cons (ix0 rfl (wa_nil (wc_len (.t _) (wa_cons (ix0 rfl (wa_nil ?_)))))))))) 
  rw [List.length_map]
  refine ⟨[_, _], rfl, size_le (by simp), ?_⟩
  refine wa_nil ⟨by simp [notM], _, 3, rfl, rfl, rfl, by decide, ?_, ?_⟩
  · refine okD_seq (b := true) (by simp) fun x hx => ?_
    simp only [List.mem_cons, List.not_mem_nil, or_false] at hx
    rcases hx with rfl | rfl
    · exact okD_int _
    · exact (okD_nums (b := true) (by omega)).mono (by decide)
  refine ⟨_, rfl, dec_nf (sx_next ?_)⟩
  -- there
  refine sx_seq (sx_asg (we_call0 ?_))
  walk_at "go"
  refine ⟨by simp [notM], row, rfl, hrow, rfl, fun bs' there hbs' hperm hwov hkeep => ?_⟩
  have hbl' := (first_lot hrow.rng hbs').1
  have hsame0 : goneL bs' 0 = goneL bs 0 := by
    obtain ⟨gs', hgs'⟩ := head_is hrow.rng hls hsrt hbs'
    rw [hgs] at hgs'
    exact (List.cons.inj hgs').1.symm
  have hthl := hperm.length_eq
  -- same
  refine sx_seq (sx_asg (we_new (wn_lcF (sameLot row there (goneL bs 0).length) id (wi_seqS ?_))))
  walk_at "go"
  refine ⟨false, _, rfl, size_big (by rw [List.length_map]; omega), fun d hd => ?_, ?_⟩
  · obtain ⟨l, hl, rfl⟩ := List.mem_map.mp hd
    refine wgc_name (by decide) (wt_and (wt_test (we_op (we_cb (wa_cons (we_var rfl (wa_nil (wc_len (.t _) (we_cb (wa_cons (ix0 (g := goneL bs 0) (gs := gs) rfl (wa_nil (wc_len (.t _) ?_)))))))))))))
    rw [List.length_map, List.length_map]
    refine wr_eqI ⟨_, rfl, fun e => ?_, fun e => ?_⟩
    · have e := of_decide_eq_true e
      refine wt_B (we_call0 (wa_cons (we_var rfl (wa_cons (we_var rfl (wa_cons (we_var rfl (wa_nil ⟨by simp [notM], row, there, l, rfl, by omega, hrow.nd, hperm, rfl, ?_⟩))))))))
      refine ⟨_, rfl, ?_, rfl, fun _ => we_var rfl ⟨rfl, rfl⟩⟩
      rw [sameLot_tup, decide_eq_true (by omega), Bool.true_and]
    · have e := of_decide_eq_false e
      refine ⟨?_, rfl, fun _ => we_var rfl ⟨rfl, rfl⟩⟩
      rw [sameLot_tup, decide_eq_false (by omega), Bool.false_and]
  rw [filter_lots _ _ (fun l => sameLot_tup row there l (goneL bs 0).length)]
  have hsame : (List.filter (fun l : List Int => decide (l.length = (goneL bs 0).length) && keepsB row there l) (goneL bs 0 :: gs)) ≠ [] := fun z => by
    have : goneL bs 0 ∈ List.filter (fun l : List Int => decide (l.length = (goneL bs 0).length) && keepsB row there l) (goneL bs 0 :: gs) := by
      refine List.mem_filter.mpr ⟨List.mem_cons_self, ?_⟩
      rw [decide_eq_true rfl, Bool.true_and]
      unfold keepsB
      rw [← hsame0, without_gone hbl', decide_eq_true_eq]
      exact hkeep
    rw [z] at this
    cases this
  have hsl : (List.filter (fun l : List Int => decide (l.length = (goneL bs 0).length) && keepsB row there l) (goneL bs 0 :: gs)).length ≤ 512 := Nat.le_trans (List.length_filter_le _ _) hgsl
  generalize List.filter (fun l : List Int => decide (l.length = (goneL bs 0).length) && keepsB row there l) (goneL bs 0 :: gs) = sm at hsame hsl
  refine sx_seq (sx_if (wt_or (wt_not (wt_B (we_call0 (wa_cons (we_var rfl (wa_nil ⟨by simp [notM], true, there, rfl, by omega, rfl, ?_⟩))))))))
  rw [show good there (-1) 10000000000 = true from (fits_wov' fun x hx => hrow.rng x (hperm.mem_iff.mp hx)).mpr hwov]
  refine ⟨_, rfl, dec_nf (wt_test (we_op (we_var rfl (we_new (wn_lst ?_)))))⟩
  walk_at "go"
  refine ⟨[], rfl, size_le (by simp), ?_⟩
  refine wr_eqNil (k := 1) (.d _) (fun x hx => ?_) (by decide) ?_
  · obtain ⟨l, _, rfl⟩ := List.mem_map.mp hx
    exact shp_tup shp_num
  rw [show (sm.map tupI).isEmpty = false by cases sm with
    | nil => exact absurd rfl hsame
    | cons _ _ => rfl]
  refine ⟨_, rfl, dec_f (sx_next ?_)⟩
  -- bent
  refine sx_seq (sx_asg (we_call1 (wa_cons (we_var rfl (wa_cons (ix0 rfl (wa_nil ?_)))))))
  refine ⟨0, _, rfl, by simp [onlyM], k, 0, tupI (goneL bs 0), 2, rfl, rfl, rfl, by omega, by decide, th_lot (b := true) hg1 (by omega), fun bent hbent => ⟨_, rfl, ?_⟩⟩
  -- some
  refine sx_seq (sx_asg (we_new (wn_lst (wa_cons (ix0 rfl (wa_cons (we_var rfl (wa_cons (we_revT (ix0 rfl ⟨_, rfl, wa_cons (we_cb (wa_cons (ix0 rfl (wa_nil (wc_lst (.t _) ?_)))))⟩)))))))))) 
  walk_at "go"
  refine ⟨[], rfl, size_le (by simp), ?_⟩
  walk_at "go"
  refine ⟨[_], rfl, size_le (by simp), ?_⟩
  walk_at "go"
  refine ⟨[_], rfl, size_le (by simp), ?_⟩
  walk_at "go"
  refine ⟨[_, _], rfl, size_le (by simp), ?_⟩
  refine wa_cons (we_call1 ?_)
  walk_at "go"
  refine ⟨0, _, rfl, by simp [onlyM], k + 9, rfl, rfl, by omega, fun odd hodd => ⟨_, rfl, ?_⟩⟩
  walk_at "go"
  refine ⟨[_, _, _, _, _, _, _, _, _, _], rfl, size_le (by simp), ?_⟩
  rw [← List.map_reverse]
  have someTh : ∀ z ∈ [tupI (goneL bs 0), bent, .tuple (nums (goneL bs 0).reverse), .list (nums (goneL bs 0)), .none, .tuple [], .tuple [.bool true], .tuple [.int (many : Nat)], .tuple [.int 0, .int 0], odd], thB 2 1 z = true := fun z hz => by
    simp only [List.mem_cons, List.not_mem_nil, or_false] at hz
    rcases hz with rfl | rfl | rfl | rfl | rfl | rfl | rfl | rfl | rfl | rfl
    · exact th_lot (b := true) hg1 (by omega)
    · exact hbent
    · exact th_lotR (b := true) hg1 (by omega)
    · exact th_lot (b := false) hg1 (by omega)
    · exact th_none
    · exact (th_seq (b := true)).mpr ⟨by simp, by simp⟩
    · exact (th_seq (b := true)).mpr ⟨by simp, fun x hx => by rw [List.mem_singleton.mp hx]; exact th_bool⟩
    · exact (th_seq (b := true)).mpr ⟨by simp, fun x hx => by rw [List.mem_singleton.mp hx, th_int, decide_eq_true_eq]; omega⟩
    · decide +kernel
    · exact th_mono hodd (by decide)
  have lsom0 : [tupI (goneL bs 0), bent, .tuple (nums (goneL bs 0).reverse), .list (nums (goneL bs 0)), .none, .tuple [], .tuple [.bool true], .tuple [.int (many : Nat)], .tuple [.int 0, .int 0], odd].length = 10 := rfl
  generalize [tupI (goneL bs 0), bent, .tuple (nums (goneL bs 0).reverse), .list (nums (goneL bs 0)), .none, .tuple [], .tuple [.bool true], .tuple [.int (many : Nat)], .tuple [.int 0, .int 0], odd] = som at someTh lsom0 ⊢
  -- each of them
  refine sx_for (wi_seqS (we_new (wn_addL ?_)))
  walk_at "go"
  refine we_new (wn_lc (wi_rng1 ?_))
  walk_at "go"
  refine ⟨by decide, by decide, by rw [rngD_len]; exact size_big (by decide), fun i acc μ' => acc.length = i ∧ (∀ y ∈ acc, thB 2 1 y = true) ∧ μ' = [MO.deck (k + 10 + i)], ⟨rfl, fun _ h => (by cases h), rfl⟩, ?_, ?_⟩
  · rintro i d acc μ' hi ⟨e1, e2, rfl⟩
    have hil : i < 12 := by
      have := (List.getElem?_eq_some_iff.mp hi).1
      rw [rngD_len] at this
      exact this
    refine wgc_name (by decide) (wt_yes (dec_t (we_one ?_)))
    walk_at "go"
    refine ⟨0, _, false, ls.map tupI, rfl, rfl, by omega, ?_, by rw [List.length_map]; omega, fun y hy => ⟨y, rfl, ?_, ?_, ?_⟩⟩
    · rw [List.length_map]; exact List.length_pos_iff.mpr hlots
    · rw [List.length_append, e1]; rfl
    · intro z hz
      rcases List.mem_append.mp hz with hz | hz
      · exact e2 z hz
      · rw [List.mem_singleton.mp hz]
        obtain ⟨l, hl, rfl⟩ := List.mem_map.mp hy
        exact th_lot (b := true) (hmem l hl) (by omega)
    · rfl
  rintro acc μ' ⟨e1, e2, rfl⟩
  rw [rngD_len] at e1
  refine ⟨_, _, .d _, .d _, size_le (by rw [e1, lsom0]; decide), ?_⟩
  rw [rngD_len]
  have allTh : ∀ z ∈ som ++ acc, thB 2 1 z = true := fun z hz => by
    rcases List.mem_append.mp hz with hz | hz
    · exact someTh z hz
    · exact e2 z hz
  refine ⟨false, _, rfl, fun i ds' μ' => ∃ b6 b7 b8 b9 b10 b11 b12 b13 b14, ds' = [some (.s ns), some (.d (.int cell)), some (.m 0), some (.d (.int tn)), some (.d (.int (many : Nat))), some (.d (tupI row)), b6, b7, b8, b9, b10, b11, b12, b13, b14] ∧ μ' = [MO.deck (k + 22)], ⟨_, _, _, _, _, _, _, _, _, rfl, rfl⟩, ?_, ?_⟩
  · rintro i z ds' μ' hi ⟨b6, b7, b8, b9, b10, b11, b12, b13, b14, rfl, rfl⟩
    exact wg_name (thing_turn (L := 1) hrow (by decide) (allTh z (List.mem_of_getElem? hi)) rfl rfl ⟨_, _, _, _, _, _, _, _, _, rfl, rfl⟩)
  · rintro ds' μ' ⟨b6, b7, b8, b9, b10, b11, b12, b13, b14, rfl, rfl⟩
    exact h _ _ _ _ _ _ _ _ _
theorem row2143 : IsRow [2, 1, 4, 3] := ⟨by decide, by decide, by decide, by decide⟩
theorem row123 : IsRow [1, 2, 3] := ⟨by decide, by decide, by decide, by decide⟩
theorem row5 : IsRow [5] := ⟨by decide, by decide, by decide, by decide⟩
theorem few2143 {bs : List Bool} (h : Leave (([2, 1, 4, 3] : List Int).zip (ones 4)) [begunP] bs) : goneL bs 0 = [0] := few_is (ns := [2, 1, 4, 3]) (cs := [false, true, true, true]) row2143.rng h rfl rfl (by decide +kernel) (by decide +kernel)
theorem few123 {bs : List Bool} (h : Leave (([1, 2, 3] : List Int).zip (ones 3)) [begunP] bs) : goneL bs 0 = [] := few_is (ns := [1, 2, 3]) (cs := [true, true, true]) row123.rng h rfl rfl (by decide +kernel) (by decide +kernel)
theorem sx_law (h : spLawD rs μ P) : SX K μ.length (R_law K Pg w) (endsOf μ.length P) (startD 15 rs) μ := by
  obtain ⟨ns, rfl, hl, rfl, h⟩ := h
  unfold R_law
  refine sx_seq (sx_for (wi_cells (N := 6) hl rfl fun cs hcs => ?_))
  refine ⟨fun i ds' μ' => ∃ a1 a2 a3 a4 a5 a6 a7 a8 a9 a10 a11 a12 a13 a14, ds' = [some (.s ns), a1, a2, a3, a4, a5, a6, a7, a8, a9, a10, a11, a12, a13, a14], ⟨_, _, _, _, _, _, _, _, _, _, _, _, _, _, rfl⟩, ?_, ?_⟩
  rotate_left
  · rintro ds' μ' ⟨a1, a2, a3, a4, a5, a6, a7, a8, a9, a10, a11, a12, a13, a14, rfl⟩
    refine clear_it ?_
    refine sx_ret (we_andV (we_op (we_call0 ?_)))
    walk_at "go"
    refine ⟨[_, _, _, _], rfl, size_le (by simp), ?_⟩
    walk_at "go"
    refine ⟨by simp [notM], [2, 1, 4, 3], rfl, row2143, rfl, fun bs hbs => ?_⟩
    rw [few2143 hbs]
    walk_at "go"
    refine ⟨[_], rfl, size_le (by simp), ?_⟩
    walk_at "go"
    refine ⟨[_, _], rfl, size_le (by simp), ?_⟩
    refine wr_eqSame (m := 2) (d := .tuple [.int 1, .tuple [.int 0]]) (th_ok (L := 0) (by decide) (by decide +kernel)) (by decide) (.d _) (.d _) ⟨_, rfl, dec_t ?_⟩
    refine we_andV (we_op (we_call0 ?_))
    walk_at "go"
    refine ⟨[_, _, _], rfl, size_le (by simp), ?_⟩
    walk_at "go"
    refine ⟨by simp [notM], [1, 2, 3], rfl, row123, rfl, fun bs hbs => ?_⟩
    rw [few123 hbs]
    walk_at "go"
    refine ⟨[], rfl, size_le (by simp), ?_⟩
    walk_at "go"
    refine ⟨[_, _], rfl, size_le (by simp), ?_⟩
    refine wr_eqSame (m := 2) (d := .tuple [.int 0, .tuple []]) (th_ok (L := 0) (by decide) (by decide +kernel)) (by decide) (.d _) (.d _) ⟨_, rfl, dec_t ?_⟩
    refine we_op (we_call0 ?_)
    walk_at "go"
    refine ⟨[_], rfl, size_le (by simp), ?_⟩
    walk_at "go"
    refine ⟨[_], rfl, size_le (by simp), ?_⟩
    walk_at "go"
    refine ⟨by simp [notM], [5], _, rfl, row5, (by decide), rfl, ?_⟩
    rw [show canB [5] (.tuple [.int 0]) = true by decide +kernel]
    walk_at "go"
    exact ⟨_, .inl rfl, h⟩
  rintro i d ds' μ' hi ⟨a1, a2, a3, a4, a5, a6, a7, a8, a9, a10, a11, a12, a13, a14, rfl⟩
  obtain ⟨cell, rfl⟩ := mem_nums hi
  refine wg_name (clear_it ?_)
  refine sx_seq (sx_asgM (Nat.zero_le _) (wn_callN ?_))
  walk_at "go"
  refine ⟨by simp [notM], cell, 5, rfl, rfl, fun x y h0 h1 => ⟨MO.deck 5, deck_of ⟨h0, h1, by decide, by decide⟩, ?_⟩⟩
  -- two turns
  refine sx_for (wi_rng1 ?_)
  walk_at "go"
  refine ⟨by decide, by decide, fun i ds' μ' => ∃ (k : Nat) (a3 a4 a5 a6 a7 a8 a9 a10 a11 a12 a13 a14 : Option Res), k ≤ 5 + 100 * i ∧ ds' = [some (.s ns), some (.d (.int cell)), some (.m 0), a3, a4, a5, a6, a7, a8, a9, a10, a11, a12, a13, a14] ∧ μ' = [MO.deck k], ?_, ?_, ?_⟩
  · exact ⟨5, _, _, _, _, _, _, _, _, _, _, _, _, by omega, rfl, rfl⟩
  rotate_left
  · rintro ds' μ' ⟨k, b3, b4, b5, b6, b7, b8, b9, b10, b11, b12, b13, b14, hk, rfl, rfl⟩
    exact ⟨_, _, _, _, _, _, _, _, _, _, _, _, _, _, rfl⟩
  rintro i d ds' μ' hi ⟨k, b3, b4, b5, b6, b7, b8, b9, b10, b11, b12, b13, b14, hk, rfl, rfl⟩
  have hil : i < 2 := by
    have := (List.getElem?_eq_some_iff.mp hi).1
    rw [rngD_len] at this
    exact this
  obtain ⟨tn, rfl⟩ : ∃ tn : Int, d = .int tn := by
    rw [rngD_nums] at hi
    exact mem_nums hi
  refine wg_name ?_
  refine sx_seq (sx_asg (we_op (we_int (we_pick ?_))))
  walk_at "go"
  refine ⟨0, k, 9, rfl, rfl, by omega, by decide, by decide, fun x1 hx1 => ?_⟩
  refine wr_addI ?_
  rw [show (1 : Int) + (x1 : Nat) = ((1 + x1 : Nat) : Int) from rfl]
  obtain ⟨many, hmany⟩ : ∃ m, m = 1 + x1 := ⟨_, rfl⟩
  rw [← hmany]
  -- row
  refine sx_seq (sx_asg (we_call1 ?_))
  walk_at "go"
  refine ⟨0, _, rfl, by simp [onlyM], k + 1, many, 30, rfl, rfl, by omega, by omega, by omega, by omega, fun row hd => ⟨_, rfl, ?_⟩⟩
  have hrl := hd.len
  have hrow : IsRow row := ⟨by omega, by omega, fun x hx => by have := hd.rng x hx; omega, hd.nd⟩
  refine sx_seq (sx_if (wt_test (we_op (we_var rfl (we_int (wr_eqI ⟨_, rfl, fun _ => ?_, fun _ => sx_next ?_⟩))))))
  · refine sx_asg (we_call1 (wa_cons (we_var rfl (wa_cons (we_call1 ?_)))))
    walk_at "go"
    refine ⟨0, _, rfl, by simp [onlyM], k + 1 + many, many, rfl, rfl, by omega, by omega, by omega, fun wv hwl hwr _ => ⟨_, rfl, ?_⟩⟩
    walk_at "go"
    refine ⟨0, _, rfl, by simp [onlyM], k + 1 + many + 3 * many, 3, wv, rfl, rfl, by omega, by decide, by omega, by omega, hwr.nd, fun bent hb _ => ⟨_, rfl, ?_⟩⟩
    refine lot_turn (many := many) (by omega) (by rw [hb.length_eq, hwl]) (hwr.perm hb) (by omega) fun c6 c7 c8 c9 c10 c11 c12 c13 c14 => ?_
    exact ⟨_, _, _, _, _, _, _, _, _, _, _, _, _, by omega, rfl, rfl⟩
  · refine lot_turn (many := many) (by omega) hrl hrow (by omega) fun c6 c7 c8 c9 c10 c11 c12 c13 c14 => ?_
    exact ⟨_, _, _, _, _, _, _, _, _, _, _, _, _, by omega, rfl, rfl⟩
end
end Wv

set_option Elab.async false
set_option linter.all false
set_option maxRecDepth 100000
set_option maxHeartbeats 4000000
namespace Wv
open PySem PySem.Spec PyProof.Rows L2
def topS (i : Nat) : Stmt := PySem.Challenge.pw_wovenway_k05_whole_fewest_put_elsewhere.main.body.getD i (.Pass ⟨0, 0, 0, 0⟩)
abbrev s_is_from : Stmt := topS 6
theorem sc_is_from : FnScope ["thing", "low", "high"] ["thing", "low", "high"] (defScope s_is_from) := ⟨rfl, rfl, rfl, by decide +kernel, rfl, by decide +kernel, by decide +kernel⟩
abbrev s_is_rising : Stmt := topS 7
theorem sc_is_rising : FnScope ["things", "one", "other"] ["things"] (defScope s_is_rising) := ⟨rfl, rfl, rfl, by decide +kernel, rfl, by decide +kernel, by decide +kernel⟩
abbrev s_is_row : Stmt := topS 8
theorem sc_is_row : FnScope ["thing", "card"] ["thing"] (defScope s_is_row) := ⟨rfl, rfl, rfl, by decide +kernel, rfl, by decide +kernel, by decide +kernel⟩
abbrev s_need_row : Stmt := topS 9
theorem sc_need_row : FnScope ["row"] ["row"] (defScope s_need_row) := ⟨rfl, rfl, rfl, by decide +kernel, rfl, by decide +kernel, by decide +kernel⟩
abbrev s_of_side : Stmt := topS 10
theorem sc_of_side : FnScope ["row", "sides_so", "side", "card", "one"] ["row", "sides_so", "side"] (defScope s_of_side) := ⟨rfl, rfl, rfl, by decide +kernel, rfl, by decide +kernel, by decide +kernel⟩
abbrev s_next_last : Stmt := topS 11
theorem sc_next_last : FnScope ["last", "card", "side", "up", "down"] ["last", "card", "side"] (defScope s_next_last) := ⟨rfl, rfl, rfl, by decide +kernel, rfl, by decide +kernel, by decide +kernel⟩
abbrev s_begun : Stmt := topS 12
theorem sc_begun : FnScope [] [] (defScope s_begun) := ⟨rfl, rfl, rfl, by decide +kernel, rfl, by decide +kernel, by decide +kernel⟩
abbrev s_good_from : Stmt := topS 13
theorem sc_good_from : FnScope ["row", "at", "last", "known", "spot", "some", "side", "there"] ["row", "at", "last", "known"] (defScope s_good_from) := ⟨rfl, rfl, rfl, by decide +kernel, rfl, by decide +kernel, by decide +kernel⟩
abbrev s_all_partings : Stmt := topS 14
theorem sc_all_partings : FnScope ["row", "known", "rows", "at", "card", "more", "sides_so", "last", "side", "there"] ["row"] (defScope s_all_partings) := ⟨rfl, rfl, rfl, by decide +kernel, rfl, by decide +kernel, by decide +kernel⟩
abbrev s_is_woven : Stmt := topS 15
theorem sc_is_woven : FnScope ["row"] ["row"] (defScope s_is_woven) := ⟨rfl, rfl, rfl, by decide +kernel, rfl, by decide +kernel, by decide +kernel⟩
abbrev s_most_from : Stmt := topS 17
theorem sc_most_from : FnScope ["row", "worths", "at", "last", "known", "spot", "best", "side", "there"] ["row", "worths", "at", "last", "known"] (defScope s_most_from) := ⟨rfl, rfl, rfl, by decide +kernel, rfl, by decide +kernel, by decide +kernel⟩
abbrev s_stays : Stmt := topS 18
theorem sc_stays : FnScope ["row", "worths", "at", "lasts", "known", "found", "last", "side", "there", "own"] ["row", "worths", "at", "lasts", "known"] (defScope s_stays) := ⟨rfl, rfl, rfl, by decide +kernel, rfl, by decide +kernel, by decide +kernel⟩
abbrev s_leaving : Stmt := topS 19
theorem sc_leaving : FnScope ["row", "worths", "known", "lasts", "found", "at", "gone", "last"] ["row", "worths"] (defScope s_leaving) := ⟨rfl, rfl, rfl, by decide +kernel, rfl, by decide +kernel, by decide +kernel⟩
abbrev s_fewest : Stmt := topS 20
theorem sc_fewest : FnScope ["row", "found"] ["row"] (defScope s_fewest) := ⟨rfl, rfl, rfl, by decide +kernel, rfl, by decide +kernel, by decide +kernel⟩
abbrev s_woven_of : Stmt := topS 21
theorem sc_woven_of : FnScope ["row", "gone", "found", "place", "ups", "later", "at", "card"] ["row"] (defScope s_woven_of) := ⟨rfl, rfl, rfl, by decide +kernel, rfl, by decide +kernel, by decide +kernel⟩
abbrev s_can_be : Stmt := topS 22
theorem sc_can_be : FnScope ["row", "thing", "place", "at", "card"] ["row", "thing"] (defScope s_can_be) := ⟨rfl, rfl, rfl, by decide +kernel, rfl, by decide +kernel, by decide +kernel⟩
abbrev s_law_deck : Stmt := topS 24
theorem sc_law_deck : FnScope ["cell", "turn"] ["cell", "turn"] (defScope s_law_deck) := ⟨rfl, rfl, rfl, by decide +kernel, rfl, by decide +kernel, by decide +kernel⟩
abbrev s_law_pick : Stmt := topS 25
theorem sc_law_pick : FnScope ["deck", "size", "found", "number"] ["deck", "size"] (defScope s_law_pick) := ⟨rfl, rfl, rfl, by decide +kernel, rfl, by decide +kernel, by decide +kernel⟩
abbrev s_law_whole : Stmt := topS 26
theorem sc_law_whole : FnScope ["thing"] ["thing"] (defScope s_law_whole) := ⟨rfl, rfl, rfl, by decide +kernel, rfl, by decide +kernel, by decide +kernel⟩
abbrev s_law_one : Stmt := topS 27
theorem sc_law_one : FnScope ["deck", "some"] ["deck", "some"] (defScope s_law_one) := ⟨rfl, rfl, rfl, by decide +kernel, rfl, by decide +kernel, by decide +kernel⟩
abbrev s_law_sort : Stmt := topS 28
theorem sc_law_sort : FnScope ["thing"] ["thing"] (defScope s_law_sort) := ⟨rfl, rfl, rfl, by decide +kernel, rfl, by decide +kernel, by decide +kernel⟩
abbrev s_law_same : Stmt := topS 29
theorem sc_law_same : FnScope ["told", "due", "k", "part"] ["told", "due"] (defScope s_law_same) := ⟨rfl, rfl, rfl, by decide +kernel, rfl, by decide +kernel, by decide +kernel⟩
abbrev s_law_odd : Stmt := topS 30
theorem sc_law_odd : FnScope ["deck", "some"] ["deck"] (defScope s_law_odd) := ⟨rfl, rfl, rfl, by decide +kernel, rfl, by decide +kernel, by decide +kernel⟩
abbrev s_law_spoilt : Stmt := topS 31
theorem sc_law_spoilt : FnScope ["deck", "thing", "rows", "at", "other"] ["deck", "thing"] (defScope s_law_spoilt) := ⟨rfl, rfl, rfl, by decide +kernel, rfl, by decide +kernel, by decide +kernel⟩
abbrev s_law_numbers : Stmt := topS 32
theorem sc_law_numbers : FnScope ["deck", "many", "top", "found", "turn", "number"] ["deck", "many", "top"] (defScope s_law_numbers) := ⟨rfl, rfl, rfl, by decide +kernel, rfl, by decide +kernel, by decide +kernel⟩
abbrev s_law_woven : Stmt := topS 33
theorem sc_law_woven : FnScope ["deck", "many", "numbers", "ups", "rising", "falling", "found", "number", "up"] ["deck", "many"] (defScope s_law_woven) := ⟨rfl, rfl, rfl, by decide +kernel, rfl, by decide +kernel, by decide +kernel⟩
abbrev s_law_bent : Stmt := topS 34
theorem sc_law_bent : FnScope ["deck", "row", "turns", "found", "turn", "card"] ["deck", "row", "turns"] (defScope s_law_bent) := ⟨rfl, rfl, rfl, by decide +kernel, rfl, by decide +kernel, by decide +kernel⟩
abbrev s_law_fits : Stmt := topS 35
theorem sc_law_fits : FnScope ["row", "lasts", "card", "more", "up", "down"] ["row"] (defScope s_law_fits) := ⟨rfl, rfl, rfl, by decide +kernel, rfl, by decide +kernel, by decide +kernel⟩
abbrev s_law_lots : Stmt := topS 36
theorem sc_law_lots : FnScope ["many", "found", "place", "lot", "size"] ["many"] (defScope s_law_lots) := ⟨rfl, rfl, rfl, by decide +kernel, rfl, by decide +kernel, by decide +kernel⟩
abbrev s_law_without : Stmt := topS 37
theorem sc_law_without : FnScope ["row", "lot", "at", "card"] ["row", "lot"] (defScope s_law_without) := ⟨rfl, rfl, rfl, by decide +kernel, rfl, by decide +kernel, by decide +kernel⟩
abbrev s_law_keeps : Stmt := topS 38
theorem sc_law_keeps : FnScope ["row", "there", "lot", "stay", "card"] ["row", "there", "lot"] (defScope s_law_keeps) := ⟨rfl, rfl, rfl, by decide +kernel, rfl, by decide +kernel, by decide +kernel⟩
abbrev s_law_can : Stmt := topS 39
theorem sc_law_can : FnScope ["row", "thing", "place"] ["row", "thing"] (defScope s_law_can) := ⟨rfl, rfl, rfl, by decide +kernel, rfl, by decide +kernel, by decide +kernel⟩
abbrev s_law : Stmt := topS 40
theorem sc_law : FnScope ["script", "cell", "deck", "turn", "many", "row", "lots", "good", "there", "same", "bent", "some", "thing", "lot", "k"] ["script"] (defScope s_law) := ⟨rfl, rfl, rfl, by decide +kernel, rfl, by decide +kernel, by decide +kernel⟩
structure Txt (K : PySem.W.Frag) (mg : Str → Option Value) (t_MOST_CARDS t_MOST_NUMBER : Tok) : Prop where
  d_is_from : DefAt K mg "is_from" s_is_from ["thing", "low", "high"]
  d_is_rising : DefAt K mg "is_rising" s_is_rising ["things"]
  d_is_row : DefAt K mg "is_row" s_is_row ["thing"]
  d_need_row : DefAt K mg "need_row" s_need_row ["row"]
  d_of_side : DefAt K mg "of_side" s_of_side ["row", "sides_so", "side"]
  d_next_last : DefAt K mg "next_last" s_next_last ["last", "card", "side"]
  d_begun : DefAt K mg "begun" s_begun []
  d_good_from : DefAt K mg "good_from" s_good_from ["row", "at", "last", "known"]
  d_all_partings : DefAt K mg "all_partings" s_all_partings ["row"]
  d_is_woven : DefAt K mg "is_woven" s_is_woven ["row"]
  d_most_from : DefAt K mg "most_from" s_most_from ["row", "worths", "at", "last", "known"]
  d_stays : DefAt K mg "stays" s_stays ["row", "worths", "at", "lasts", "known"]
  d_leaving : DefAt K mg "leaving" s_leaving ["row", "worths"]
  d_fewest : DefAt K mg "fewest" s_fewest ["row"]
  d_woven_of : DefAt K mg "woven_of" s_woven_of ["row"]
  d_can_be : DefAt K mg "can_be" s_can_be ["row", "thing"]
  d_law_deck : DefAt K mg "_law_deck" s_law_deck ["cell", "turn"]
  d_law_pick : DefAt K mg "_law_pick" s_law_pick ["deck", "size"]
  d_law_whole : DefAt K mg "_law_whole" s_law_whole ["thing"]
  d_law_one : DefAt K mg "_law_one" s_law_one ["deck", "some"]
  d_law_sort : DefAt K mg "_law_sort" s_law_sort ["thing"]
  d_law_same : DefAt K mg "_law_same" s_law_same ["told", "due"]
  d_law_odd : DefAt K mg "_law_odd" s_law_odd ["deck"]
  d_law_spoilt : DefAt K mg "_law_spoilt" s_law_spoilt ["deck", "thing"]
  d_law_numbers : DefAt K mg "_law_numbers" s_law_numbers ["deck", "many", "top"]
  d_law_woven : DefAt K mg "_law_woven" s_law_woven ["deck", "many"]
  d_law_bent : DefAt K mg "_law_bent" s_law_bent ["deck", "row", "turns"]
  d_law_fits : DefAt K mg "_law_fits" s_law_fits ["row"]
  d_law_lots : DefAt K mg "_law_lots" s_law_lots ["many"]
  d_law_without : DefAt K mg "_law_without" s_law_without ["row", "lot"]
  d_law_keeps : DefAt K mg "_law_keeps" s_law_keeps ["row", "there", "lot"]
  d_law_can : DefAt K mg "_law_can" s_law_can ["row", "thing"]
  d_law : DefAt K mg "law" s_law ["script"]
  m_all : mg "all" = none
  m_any : mg "any" = none
  m_bool : mg "bool" = none
  m_enumerate : mg "enumerate" = none
  m_int : mg "int" = none
  m_isinstance : mg "isinstance" = none
  m_len : mg "len" = none
  m_list : mg "list" = none
  m_max : mg "max" = none
  m_range : mg "range" = none
  m_set : mg "set" = none
  m_sorted : mg "sorted" = none
  m_str : mg "str" = none
  m_tuple : mg "tuple" = none
  m_zip : mg "zip" = none
  c_MOST_CARDS : mg "MOST_CARDS" = some (.int 40 t_MOST_CARDS)
  c_MOST_NUMBER : mg "MOST_NUMBER" = some (.int 1000000000 t_MOST_NUMBER)
section
variable {Pg : Program} {w : World} {K : PySem.W.Frag} {mg : Str → Option Value} {base : Heap} {t_MOST_CARDS t_MOST_NUMBER : Tok}
theorem own_is_from (T : Txt K mg t_MOST_CARDS t_MOST_NUMBER) : Own Pg w K mg base "is_from" ["thing", "low", "high"] 1 (S_is_from) := by
    exact own_of (k := 0) T.d_is_from sc_is_from (fun rs μ P h => by unfold S_is_from at h; repeat (first | (obtain ⟨rfl, _⟩ := h; exact rfl) | obtain ⟨_, h⟩ := h)) fun cdv A outer s H E f hr => ⟨_, (pss_one (ps_ret (pe_and (pe_callB call_isi (by rfl) T.m_isinstance (by decide +kernel) (pa_cons (pv 0) (pa_cons (pe_bltn (v := .ty "int") (by rfl) T.m_int (by decide +kernel) rfl) pa_nil))) (pe_and (pe_not (pe_callB call_isi (by rfl) T.m_isinstance (by decide +kernel) (pa_cons (pv 0) (pa_cons (pe_bltn (v := .ty "bool") (by rfl) T.m_bool (by decide +kernel) rfl) pa_nil)))) (pe_one (pe_chain op_le op_le (pv 1) (pv 0) (pv 2))))))), fun rs μ P h => sx_is_from (Pg := Pg) (w := w) h⟩
theorem own_is_rising (T : Txt K mg t_MOST_CARDS t_MOST_NUMBER) : Own Pg w K mg base "is_rising" ["things"] 1 (S_is_rising) := by
    exact own_of (k := 0) T.d_is_rising sc_is_rising (fun rs μ P h => by unfold S_is_rising at h; repeat (first | (obtain ⟨rfl, _⟩ := h; exact rfl) | obtain ⟨_, h⟩ := h)) fun cdv A outer s H E f hr => ⟨_, (pss_one (ps_ret (pe_callB (cr_all rfl) (by rfl) T.m_all (by decide +kernel) (pa_cons (pe_lc (own := [("one", 1), ("other", 2)]) (g := (gTup K 2 (gCons (gName 1) (gCons (gName 2) gNil)))) (by rfl) sc_is_rising.nd (pi_zipG (by rfl) T.m_zip (pa_cons (pv 0) (pa_cons (pe_slice sl_X (pv 0) (po_some pe_int) po_none) pa_nil))) (blkOk_by (own := [("one", 1), ("other", 2)]) (N := ["things", "one", "other"]) (sc := defScope s_is_rising) (by decide +kernel)) (fun _ _ _ _ _ => (pg_tup (by rfl) (pgs_cons (pg_name (i := 1) sc_is_rising.nd rfl (Or.inl rfl)) (pgs_cons (pg_name (i := 2) sc_is_rising.nd rfl (Or.inl rfl)) pgs_nil)))) (fun _ _ _ _ _ => pts_nil) (fun _ _ _ _ _ => (pe_cmpR op_lt (pv 1) (pv 2) (nomark _)))) pa_nil)))), fun rs μ P h => sx_is_rising (Pg := Pg) (w := w) h⟩
theorem own_is_row (T : Txt K mg t_MOST_CARDS t_MOST_NUMBER) : Own Pg w K mg base "is_row" ["thing"] 2 (S_is_row) := by
    have G_is_rising := own_is_rising (Pg := Pg) (w := w) (base := base) T
    have G_is_from := own_is_from (Pg := Pg) (w := w) (base := base) T
    have h_is_rising : 1 ≤ 1 := by decide
    have h_is_from : 1 ≤ 1 := by decide
    exact own_of (k := 1) T.d_is_row sc_is_row (fun rs μ P h => by unfold S_is_row at h; repeat (first | (obtain ⟨rfl, _⟩ := h; exact rfl) | obtain ⟨_, h⟩ := h)) fun cdv A outer s H E f hr => ⟨_, (pss_cons (ps_if (PW.pt (pw_or (pt_not (pt_val (pe_callB call_isi (by rfl) T.m_isinstance (by decide +kernel) (pa_cons (pv 0) (pa_cons (pe_bltn (v := .ty "tuple") (by rfl) T.m_tuple (by decide +kernel) rfl) pa_nil))))) (pw_or1 (pt_not (pt_chain op_le op_le pe_int (pe_callB call_lenX (by rfl) T.m_len (by decide +kernel) (pa_cons (pv 0) pa_nil)) (pe_glob (v := .int 40) (by rfl) T.c_MOST_CARDS ⟨_, rfl⟩)))))) (pss_one (ps_ret pe_bl)) pss_nil)
    (pss_one (ps_ret (pe_and (pe_callB (cr_all rfl) (by rfl) T.m_all (by decide +kernel) (pa_cons (pe_lc (own := [("card", 1)]) (g := (gName 1)) (by rfl) sc_is_row.nd (pi_seq (pv 0)) (blkOk_by (own := [("card", 1)]) (N := ["thing", "card"]) (sc := defScope s_is_row) (by decide +kernel)) (fun _ _ _ _ _ => (pg_name (i := 1) sc_is_row.nd rfl (Or.inl rfl))) (fun _ _ _ _ _ => pts_nil) (fun _ _ _ _ _ => (pe_own G_is_from (hr.mono (by decide)) (pa_cons (pv 1) (pa_cons pe_int (pa_cons (pe_glob (v := .int 1000000000) (by rfl) T.c_MOST_NUMBER ⟨_, rfl⟩) pa_nil)))))) pa_nil)) (pe_one (pe_own G_is_rising (hr.mono (by decide)) (pa_cons (pe_callB cr_sortG (by rfl) T.m_sorted (by decide +kernel) (pa_cons (pv 0) pa_nil)) pa_nil))))))), fun rs μ P h => sx_is_row (Pg := Pg) (w := w) h⟩
theorem own_need_row (T : Txt K mg t_MOST_CARDS t_MOST_NUMBER) : Own Pg w K mg base "need_row" ["row"] 3 (S_need_row) := by
    have G_is_row := own_is_row (Pg := Pg) (w := w) (base := base) T
    have h_is_row : 2 ≤ 2 := by decide
    exact own_of (k := 2) T.d_need_row sc_need_row (fun rs μ P h => by unfold S_need_row at h; repeat (first | (obtain ⟨rfl, _⟩ := h; exact rfl) | obtain ⟨_, h⟩ := h)) fun cdv A outer s H E f hr => ⟨_, (pss_one (ps_if (pt_not (pt_val (pe_own G_is_row (hr.mono (by decide)) (pa_cons (pv 0) pa_nil)))) (pss_one ps_never) pss_nil)), fun rs μ P h => sx_need_row (Pg := Pg) (w := w) h⟩
theorem own_of_side (T : Txt K mg t_MOST_CARDS t_MOST_NUMBER) : OwnN Pg w K mg base "of_side" ["row", "sides_so", "side"] 1 (S_of_side) := by
    exact ownN_of (k := 0) T.d_of_side sc_of_side (fun rs μ P h => by unfold S_of_side at h; repeat (first | (obtain ⟨rfl, _⟩ := h; exact rfl) | obtain ⟨_, h⟩ := h)) fun cdv A outer s H E f hr => ⟨_, (pss_one (ps_ret (pe_lc (own := [("card", 3), ("one", 4)]) (g := (gTup K 2 (gCons (gName 3) (gCons (gName 4) gNil)))) (by rfl) sc_of_side.nd (pi_zipG (by rfl) T.m_zip (pa_cons (pv 0) (pa_cons (pv 1) pa_nil))) (blkOk_by (own := [("card", 3), ("one", 4)]) (N := ["row", "sides_so", "side", "card", "one"]) (sc := defScope s_of_side) (by decide +kernel)) (fun _ _ _ _ _ => (pg_tup (by rfl) (pgs_cons (pg_name (i := 3) sc_of_side.nd rfl (Or.inl rfl)) (pgs_cons (pg_name (i := 4) sc_of_side.nd rfl (Or.inl rfl)) pgs_nil)))) (fun _ _ _ _ _ => (pts_one (pt_cmpR (op_eqD hr.units) (pv 4) (pv 2) (nomark _)))) (fun _ _ _ _ _ => (pv 3))))), fun rs μ P h => sx_of_side (Pg := Pg) (w := w) h⟩
theorem own_next_last (T : Txt K mg t_MOST_CARDS t_MOST_NUMBER) : Own Pg w K mg base "next_last" ["last", "card", "side"] 1 (S_next_last) := by
    exact own_of (k := 0) T.d_next_last sc_next_last (fun rs μ P h => by unfold S_next_last at h; repeat (first | (obtain ⟨rfl, _⟩ := h; exact rfl) | obtain ⟨_, h⟩ := h)) fun cdv A outer s H E f hr => ⟨_, (pss_cons (ps_asg (pv 0) (pg_tup (by rfl) (pgs_cons (pg_name (i := 3) sc_next_last.nd rfl (Or.inl rfl)) (pgs_cons (pg_name (i := 4) sc_next_last.nd rfl (Or.inl rfl)) pgs_nil))))
    (pss_cons (ps_if (pt_cmpR (op_eqD hr.units) (pv 2) pe_str (nomark _)) (pss_one (ps_ret (pe_ifExp (pt_cmpR op_gt (pv 1) (pv 3) (nomark _)) (pe_tup (pa_cons (pv 1) (pa_cons (pv 4) pa_nil))) pe_non))) pss_nil)
    (pss_one (ps_ret (pe_ifExp (pt_cmpR op_lt (pv 1) (pv 4) (nomark _)) (pe_tup (pa_cons (pv 3) (pa_cons (pv 1) pa_nil))) pe_non))))), fun rs μ P h => sx_next_last (Pg := Pg) (w := w) h⟩
theorem own_begun (T : Txt K mg t_MOST_CARDS t_MOST_NUMBER) : Own Pg w K mg base "begun" [] 1 (S_begun) := by
    exact own_of (k := 0) T.d_begun sc_begun (fun rs μ P h => by unfold S_begun at h; repeat (first | (obtain ⟨rfl, _⟩ := h; exact rfl) | obtain ⟨_, h⟩ := h)) fun cdv A outer s H E f hr => ⟨_, (pss_one (ps_ret (pe_tup (pa_cons (pe_un un_neg pe_int) (pa_cons (pe_op op_addX (pe_glob (v := .int 1000000000) (by rfl) T.c_MOST_NUMBER ⟨_, rfl⟩) pe_int) pa_nil))))), fun rs μ P h => sx_begun (Pg := Pg) (w := w) h⟩
theorem own_good_from_at (T : Txt K mg t_MOST_CARDS t_MOST_NUMBER) : ∀ m : Nat, Own Pg w K mg base "good_from" ["row", "at", "last", "known"] (m + 1) (S_good_from' Pg w m) := by
  intro m
  induction m with
  | zero => exact ((own_false T.d_good_from).imp fun rs μ P h => no_good_from h).mono (Nat.zero_le _)
  | succ m G_good_from =>
    have h_good_from : m + 1 ≤ m + 1 := Nat.le_refl _
    have G_next_last := own_next_last (Pg := Pg) (w := w) (base := base) T
    have h_next_last : 1 ≤ m + 1 := by omega
    refine Own.mono (j := m + 1 + 1) ?_ (by omega)
    exact own_of (k := m + 1) T.d_good_from sc_good_from (fun rs μ P h => by unfold S_good_from' at h; repeat (first | (obtain ⟨rfl, _⟩ := h; exact rfl) | obtain ⟨_, h⟩ := h)) fun cdv A outer s H E f hr => ⟨_, (pss_cons (ps_if (pt_cmpR (op_eqD hr.units) (pv 1) (pe_callB call_lenX (by rfl) T.m_len (by decide +kernel) (pa_cons (pv 0) pa_nil)) (nomark _)) (pss_one (ps_ret pe_bl)) pss_nil)
    (pss_cons (ps_set (i := 4) sc_good_from.nd rfl (Or.inl rfl) (pe_tup (pa_cons (pv 1) (pa_cons (pv 2) pa_nil))))
    (pss_cons (ps_if (pt_cmpR (op_notInM (hu9 hr)) (pv 4) (pv 3) (by rfl)) (pss_cons (ps_setLc (i := 5) (own := [("side", 6)]) (g := (gName 6)) (by rfl) sc_good_from.nd rfl rfl (sw_true rfl rfl rfl (by decide +kernel)) (pi_seq (pe_tup (pa_cons pe_str (pa_cons pe_str pa_nil)))) (blkOk_by (own := [("side", 6)]) (N := ["row", "at", "last", "known", "spot", "some", "side", "there"]) (sc := defScope s_good_from) (by decide +kernel)) (fun _ _ _ _ _ => (pg_name (i := 6) sc_good_from.nd rfl (Or.inl rfl))) (fun _ _ _ _ _ => pts_nil) (fun _ _ _ _ _ => (pe_own G_next_last (hr.mono h_next_last) (pa_cons (pv 2) (pa_cons (pe_ix ix_seq (pv 0) (pv 1) (fun _ _ => rfl)) (pa_cons (pv 6) pa_nil))))))
    (pss_one (ps_asg (pe_callB (cr_any rfl) (by rfl) T.m_any (by decide +kernel) (pa_cons (pe_lc (own := [("there", 7)]) (g := (gName 7)) (by rfl) sc_good_from.nd (pi_seq (pv 5)) (blkOk_by (own := [("there", 7)]) (N := ["row", "at", "last", "known", "spot", "some", "side", "there"]) (sc := defScope s_good_from) (by decide +kernel)) (fun _ _ _ _ _ => (pg_name (i := 7) sc_good_from.nd rfl (Or.inl rfl))) (fun _ _ _ _ _ => pts_nil) (fun _ _ _ _ _ => (pe_and (pe_cmpR op_isNX (pv 7) pe_non (nomark _)) (pe_one (pe_own G_good_from (hr.mono h_good_from) (pa_cons (pv 0) (pa_cons (pe_op op_addX (pv 1) pe_int) (pa_cons (pv 7) (pa_cons (pv 3) pa_nil))))))))) pa_nil)) (pg_sub (pv 3) (pv 4) (set_memo (hu9 hr)))))) pss_nil)
    (pss_one (ps_ret (pe_ix (ix_memo (hu9 hr)) (pv 3) (pv 4) (fun _ _ => rfl))))))), fun rs μ P h => sx_good_from (Pg := Pg) (w := w) h⟩
theorem own_good_from (T : Txt K mg t_MOST_CARDS t_MOST_NUMBER) : Own Pg w K mg base "good_from" ["row", "at", "last", "known"] 62 (S_good_from Pg w) := own_good_from_at T 61
theorem own_all_partings (T : Txt K mg t_MOST_CARDS t_MOST_NUMBER) : OwnN Pg w K mg base "all_partings" ["row"] 63 (S_all_partings) := by
    have G_good_from := own_good_from (Pg := Pg) (w := w) (base := base) T
    have G_begun := own_begun (Pg := Pg) (w := w) (base := base) T
    have G_next_last := own_next_last (Pg := Pg) (w := w) (base := base) T
    have h_good_from : 62 ≤ 62 := by decide
    have h_begun : 1 ≤ 62 := by decide
    have h_next_last : 1 ≤ 62 := by decide
    exact ownN_of (k := 62) T.d_all_partings sc_all_partings (fun rs μ P h => by unfold S_all_partings at h; repeat (first | (obtain ⟨rfl, _⟩ := h; exact rfl) | obtain ⟨_, h⟩ := h)) fun cdv A outer s H E f hr => ⟨_, (pss_cons (ps_set (i := 1) sc_all_partings.nd rfl (Or.inl rfl) pe_dnewN)
    (pss_cons (ps_set (i := 2) sc_all_partings.nd rfl (Or.inl rfl) (pe_ifExp (pt_val (pe_own G_good_from (hr.mono h_good_from) (pa_cons (pv 0) (pa_cons pe_int (pa_cons (pe_own0 G_begun (hr.mono (by decide))) (pa_cons (pv 1) pa_nil)))))) (pe_lst (pa_cons (pe_tup (pa_cons (pe_tup pa_nil) (pa_cons (pe_own0 G_begun (hr.mono (by decide))) pa_nil))) pa_nil)) (pe_lst pa_nil)))
    (pss_cons (ps_for PassesOwn.never rfl (pi_enumG (by rfl) T.m_enumerate (pa_cons (pv 0) pa_nil)) (pg_tup (by rfl) (pgs_cons (pg_name (i := 3) sc_all_partings.nd rfl (Or.inl rfl)) (pgs_cons (pg_name (i := 4) sc_all_partings.nd rfl (Or.inl rfl)) pgs_nil))) (pss_cons (ps_set (i := 5) sc_all_partings.nd rfl (Or.inl rfl) (pe_lst pa_nil))
    (pss_cons (ps_for PassesOwn.never rfl (pi_seq (pv 2)) (pg_tup (by rfl) (pgs_cons (pg_name (i := 6) sc_all_partings.nd rfl (Or.inl rfl)) (pgs_cons (pg_name (i := 7) sc_all_partings.nd rfl (Or.inl rfl)) pgs_nil))) (pss_one (ps_for PassesOwn.never rfl (pi_seq (pe_tup (pa_cons pe_str (pa_cons pe_str pa_nil)))) (pg_name (i := 8) sc_all_partings.nd rfl (Or.inl rfl)) (pss_cons (ps_set (i := 9) sc_all_partings.nd rfl (Or.inl rfl) (pe_own G_next_last (hr.mono (by decide)) (pa_cons (pv 7) (pa_cons (pv 4) (pa_cons (pv 8) pa_nil)))))
    (pss_one (ps_if (PW.pt (pw_and (pt_cmpR op_isNX (pv 9) pe_non (nomark _)) (pw_and1 (pt_val (pe_own G_good_from (hr.mono h_good_from) (pa_cons (pv 0) (pa_cons (pe_op op_addX (pv 3) pe_int) (pa_cons (pv 9) (pa_cons (pv 1) pa_nil))))))))) (pss_one (ps_expr (pe_bm PySem.F.plainAttrs_list PySem.F.slot_list_append PySem.F.type_list_append mt_append (pv 5) (pa_cons (pe_tup (pa_cons (pe_op op_addX (pv 6) (pe_tup (pa_cons (pv 8) pa_nil))) (pa_cons (pv 9) pa_nil))) pa_nil)))) pss_nil))))))
    (pss_one (ps_set (i := 2) sc_all_partings.nd rfl (Or.inl rfl) (pv 5))))))
    (pss_one (ps_ret (pe_lc (own := [("sides_so", 6), ("last", 7)]) (g := (gTup K 2 (gCons (gName 6) (gCons (gName 7) gNil)))) (by rfl) sc_all_partings.nd (pi_seq (pv 2)) (blkOk_by (own := [("sides_so", 6), ("last", 7)]) (N := ["row", "known", "rows", "at", "card", "more", "sides_so", "last", "side", "there"]) (sc := defScope s_all_partings) (by decide +kernel)) (fun _ _ _ _ _ => (pg_tup (by rfl) (pgs_cons (pg_name (i := 6) sc_all_partings.nd rfl (Or.inl rfl)) (pgs_cons (pg_name (i := 7) sc_all_partings.nd rfl (Or.inl rfl)) pgs_nil)))) (fun _ _ _ _ _ => pts_nil) (fun _ _ _ _ _ => (pv 6)))))))), fun rs μ P h => sx_all_partings (Pg := Pg) (w := w) h⟩
theorem own_is_woven (T : Txt K mg t_MOST_CARDS t_MOST_NUMBER) : Own Pg w K mg base "is_woven" ["row"] 63 (S_is_woven) := by
    have G_good_from := own_good_from (Pg := Pg) (w := w) (base := base) T
    have G_begun := own_begun (Pg := Pg) (w := w) (base := base) T
    have h_good_from : 62 ≤ 62 := by decide
    have h_begun : 1 ≤ 62 := by decide
    exact own_of (k := 62) T.d_is_woven sc_is_woven (fun rs μ P h => by unfold S_is_woven at h; repeat (first | (obtain ⟨rfl, _⟩ := h; exact rfl) | obtain ⟨_, h⟩ := h)) fun cdv A outer s H E f hr => ⟨_, (pss_one (ps_ret (pe_own G_good_from (hr.mono h_good_from) (pa_cons (pv 0) (pa_cons pe_int (pa_cons (pe_own0 G_begun (hr.mono (by decide))) (pa_cons pe_dnewN pa_nil))))))), fun rs μ P h => sx_is_woven (Pg := Pg) (w := w) h⟩
theorem own_most_from_at (T : Txt K mg t_MOST_CARDS t_MOST_NUMBER) : ∀ m : Nat, Own Pg w K mg base "most_from" ["row", "worths", "at", "last", "known"] (m + 1) (S_most_from' Pg w m) := by
  intro m
  induction m with
  | zero => exact ((own_false T.d_most_from).imp fun rs μ P h => no_most_from h).mono (Nat.zero_le _)
  | succ m G_most_from =>
    have h_most_from : m + 1 ≤ m + 1 := Nat.le_refl _
    have G_next_last := own_next_last (Pg := Pg) (w := w) (base := base) T
    have h_next_last : 1 ≤ m + 1 := by omega
    refine Own.mono (j := m + 1 + 1) ?_ (by omega)
    exact own_of (k := m + 1) T.d_most_from sc_most_from (fun rs μ P h => by unfold S_most_from' at h; repeat (first | (obtain ⟨rfl, _⟩ := h; exact rfl) | obtain ⟨_, h⟩ := h)) fun cdv A outer s H E f hr => ⟨_, (pss_cons (ps_if (pt_cmpR (op_eqD hr.units) (pv 2) (pe_callB call_lenX (by rfl) T.m_len (by decide +kernel) (pa_cons (pv 0) pa_nil)) (nomark _)) (pss_one (ps_ret pe_int)) pss_nil)
    (pss_cons (ps_set (i := 5) sc_most_from.nd rfl (Or.inl rfl) (pe_tup (pa_cons (pv 2) (pa_cons (pv 3) pa_nil))))
    (pss_cons (ps_if (pt_cmpR (op_notInM (hu9 hr)) (pv 5) (pv 4) (by rfl)) (pss_cons (ps_set (i := 6) sc_most_from.nd rfl (Or.inl rfl) (pe_own G_most_from (hr.mono h_most_from) (pa_cons (pv 0) (pa_cons (pv 1) (pa_cons (pe_op op_addX (pv 2) pe_int) (pa_cons (pv 3) (pa_cons (pv 4) pa_nil)))))))
    (pss_cons (ps_for PassesOwn.never rfl (pi_seq (pe_tup (pa_cons pe_str (pa_cons pe_str pa_nil)))) (pg_name (i := 7) sc_most_from.nd rfl (Or.inl rfl)) (pss_cons (ps_set (i := 8) sc_most_from.nd rfl (Or.inl rfl) (pe_own G_next_last (hr.mono h_next_last) (pa_cons (pv 3) (pa_cons (pe_ix ix_seq (pv 0) (pv 2) (fun _ _ => rfl)) (pa_cons (pv 7) pa_nil)))))
    (pss_one (ps_if (pt_cmpR op_isNX (pv 8) pe_non (nomark _)) (pss_one (ps_set (i := 6) sc_most_from.nd rfl (Or.inl rfl) (pe_callB (call_max2X rfl) (by rfl) T.m_max (by decide +kernel) (pa_cons (pv 6) (pa_cons (pe_op op_addX (pe_ix ix_seq (pv 1) (pv 2) (fun _ _ => rfl)) (pe_own G_most_from (hr.mono h_most_from) (pa_cons (pv 0) (pa_cons (pv 1) (pa_cons (pe_op op_addX (pv 2) pe_int) (pa_cons (pv 8) (pa_cons (pv 4) pa_nil))))))) pa_nil))))) pss_nil))))
    (pss_one (ps_asg (pv 6) (pg_sub (pv 4) (pv 5) (set_memo (hu9 hr))))))) pss_nil)
    (pss_one (ps_ret (pe_ix (ix_memo (hu9 hr)) (pv 4) (pv 5) (fun _ _ => rfl))))))), fun rs μ P h => sx_most_from (Pg := Pg) (w := w) h⟩
theorem own_most_from (T : Txt K mg t_MOST_CARDS t_MOST_NUMBER) : Own Pg w K mg base "most_from" ["row", "worths", "at", "last", "known"] 62 (S_most_from Pg w) := own_most_from_at T 61
theorem own_stays (T : Txt K mg t_MOST_CARDS t_MOST_NUMBER) : Own Pg w K mg base "stays" ["row", "worths", "at", "lasts", "known"] 63 (S_stays Pg w) := by
    have G_next_last := own_next_last (Pg := Pg) (w := w) (base := base) T
    have G_most_from := own_most_from (Pg := Pg) (w := w) (base := base) T
    have h_next_last : 1 ≤ 62 := by decide
    have h_most_from : 62 ≤ 62 := by decide
    exact own_of (k := 62) T.d_stays sc_stays (fun rs μ P h => by unfold S_stays at h; repeat (first | (obtain ⟨rfl, _⟩ := h; exact rfl) | obtain ⟨_, h⟩ := h)) fun cdv A outer s H E f hr => ⟨_, (pss_cons (ps_set (i := 5) sc_stays.nd rfl (Or.inl rfl) pe_dnewN)
    (pss_cons (ps_for PassesOwn.never rfl (pi_seq (pv 3)) (pg_name (i := 6) sc_stays.nd rfl (Or.inl rfl)) (pss_one (ps_for PassesOwn.never rfl (pi_seq (pe_tup (pa_cons pe_str (pa_cons pe_str pa_nil)))) (pg_name (i := 7) sc_stays.nd rfl (Or.inl rfl)) (pss_cons (ps_set (i := 8) sc_stays.nd rfl (Or.inl rfl) (pe_own G_next_last (hr.mono (by decide)) (pa_cons (pv 6) (pa_cons (pe_ix ix_seq (pv 0) (pv 2) (fun _ _ => rfl)) (pa_cons (pv 7) pa_nil)))))
    (pss_one (ps_if (pt_cmpR op_isNX (pv 8) pe_non (nomark _)) (pss_cons (ps_set (i := 9) sc_stays.nd rfl (Or.inl rfl) (pe_op op_addX (pe_ix ix_seq (pv 1) (pv 2) (fun _ _ => rfl)) (pe_own G_most_from (hr.mono h_most_from) (pa_cons (pv 0) (pa_cons (pv 1) (pa_cons (pe_op op_addX (pv 2) pe_int) (pa_cons (pv 8) (pa_cons (pv 4) pa_nil))))))))
    (pss_one (ps_if (pt_cmpR (op_eqD hr.units) (pv 9) (pe_own G_most_from (hr.mono h_most_from) (pa_cons (pv 0) (pa_cons (pv 1) (pa_cons (pv 2) (pa_cons (pv 6) (pa_cons (pv 4) pa_nil)))))) (nomark _)) (pss_one (ps_asg pe_bl (pg_sub (pv 5) (pv 8) (set_memo (hu9 hr))))) pss_nil))) pss_nil))))))
    (pss_one (ps_ret (pe_callTy (call_lstM rfl) (by rfl) T.m_list (by decide +kernel) (pa_cons (pv 5) pa_nil)))))), fun rs μ P h => sx_stays (Pg := Pg) (w := w) h⟩
theorem own_leaving (T : Txt K mg t_MOST_CARDS t_MOST_NUMBER) : Own Pg w K mg base "leaving" ["row", "worths"] 64 (S_leaving) := by
    have G_begun := own_begun (Pg := Pg) (w := w) (base := base) T
    have G_stays := own_stays (Pg := Pg) (w := w) (base := base) T
    have G_most_from := own_most_from (Pg := Pg) (w := w) (base := base) T
    have h_begun : 1 ≤ 63 := by decide
    have h_stays : 63 ≤ 63 := by decide
    have h_most_from : 62 ≤ 63 := by decide
    exact own_of (k := 63) T.d_leaving sc_leaving (fun rs μ P h => by unfold S_leaving at h; repeat (first | (obtain ⟨rfl, _⟩ := h; exact rfl) | obtain ⟨_, h⟩ := h)) fun cdv A outer s H E f hr => ⟨_, (pss_cons (ps_set (i := 2) sc_leaving.nd rfl (Or.inl rfl) pe_dnewN)
    (pss_cons (ps_set (i := 3) sc_leaving.nd rfl (Or.inl rfl) (pe_lst (pa_cons (pe_own0 G_begun (hr.mono (by decide))) pa_nil)))
    (pss_cons (ps_set (i := 4) sc_leaving.nd rfl (Or.inl rfl) (pe_lst pa_nil))
    (pss_cons (ps_for PassesOwn.never rfl (pi_range1 (by rfl) T.m_range (pa_cons (pe_callB call_lenX (by rfl) T.m_len (by decide +kernel) (pa_cons (pv 0) pa_nil)) pa_nil)) (pg_name (i := 5) sc_leaving.nd rfl (Or.inl rfl)) (pss_cons (ps_set (i := 6) sc_leaving.nd rfl (Or.inl rfl) (pe_lst pa_nil))
    (pss_cons (ps_for PassesOwn.never rfl (pi_seq (pv 3)) (pg_name (i := 7) sc_leaving.nd rfl (Or.inl rfl)) (pss_one (ps_if (pt_cmpR (op_eqD hr.units) (pe_own G_most_from (hr.mono h_most_from) (pa_cons (pv 0) (pa_cons (pv 1) (pa_cons (pv 5) (pa_cons (pv 7) (pa_cons (pv 2) pa_nil)))))) (pe_own G_most_from (hr.mono h_most_from) (pa_cons (pv 0) (pa_cons (pv 1) (pa_cons (pe_op op_addX (pv 5) pe_int) (pa_cons (pv 7) (pa_cons (pv 2) pa_nil)))))) (nomark _)) (pss_one (ps_expr (pe_bm PySem.F.plainAttrs_list PySem.F.slot_list_append PySem.F.type_list_append mt_append (pv 6) (pa_cons (pv 7) pa_nil)))) pss_nil)))
    (pss_one (ps_if (pt_cmpR (op_neD hr.units) (pv 6) (pe_lst pa_nil) (nomark _)) (pss_cons (ps_expr (pe_bm PySem.F.plainAttrs_list PySem.F.slot_list_append PySem.F.type_list_append mt_append (pv 4) (pa_cons (pv 5) pa_nil)))
    (pss_one (ps_set (i := 3) sc_leaving.nd rfl (Or.inl rfl) (pv 6)))) (pss_one (ps_set (i := 3) sc_leaving.nd rfl (Or.inl rfl) (pe_own G_stays (hr.mono (by decide)) (pa_cons (pv 0) (pa_cons (pv 1) (pa_cons (pv 5) (pa_cons (pv 3) (pa_cons (pv 2) pa_nil)))))))))))))
    (pss_one (ps_ret (pe_callTy call_tupX (by rfl) T.m_tuple (by decide +kernel) (pa_cons (pv 4) pa_nil)))))))), fun rs μ P h => sx_leaving (Pg := Pg) (w := w) h⟩
theorem own_fewest (T : Txt K mg t_MOST_CARDS t_MOST_NUMBER) : Own Pg w K mg base "fewest" ["row"] 65 (S_fewest) := by
    have G_need_row := own_need_row (Pg := Pg) (w := w) (base := base) T
    have G_leaving := own_leaving (Pg := Pg) (w := w) (base := base) T
    have h_need_row : 3 ≤ 64 := by decide
    have h_leaving : 64 ≤ 64 := by decide
    exact own_of (k := 64) T.d_fewest sc_fewest (fun rs μ P h => by unfold S_fewest at h; repeat (first | (obtain ⟨rfl, _⟩ := h; exact rfl) | obtain ⟨_, h⟩ := h)) fun cdv A outer s H E f hr => ⟨_, (pss_cons (ps_expr (pe_own G_need_row (hr.mono (by decide)) (pa_cons (pv 0) pa_nil)))
    (pss_cons (ps_set (i := 1) sc_fewest.nd rfl (Or.inl rfl) (pe_own G_leaving (hr.mono (by decide)) (pa_cons (pv 0) (pa_cons (pe_op op_repX (pe_tup (pa_cons pe_int pa_nil)) (pe_callB call_lenX (by rfl) T.m_len (by decide +kernel) (pa_cons (pv 0) pa_nil))) pa_nil))))
    (pss_one (ps_ret (pe_tup (pa_cons (pe_callB call_lenX (by rfl) T.m_len (by decide +kernel) (pa_cons (pv 1) pa_nil)) (pa_cons (pv 1) pa_nil))))))), fun rs μ P h => sx_fewest (Pg := Pg) (w := w) h⟩
theorem own_woven_of (T : Txt K mg t_MOST_CARDS t_MOST_NUMBER) : Own Pg w K mg base "woven_of" ["row"] 65 (S_woven_of) := by
    have G_need_row := own_need_row (Pg := Pg) (w := w) (base := base) T
    have G_leaving := own_leaving (Pg := Pg) (w := w) (base := base) T
    have G_of_side := own_of_side (Pg := Pg) (w := w) (base := base) T
    have G_all_partings := own_all_partings (Pg := Pg) (w := w) (base := base) T
    have h_need_row : 3 ≤ 64 := by decide
    have h_leaving : 64 ≤ 64 := by decide
    have h_of_side : 1 ≤ 64 := by decide
    have h_all_partings : 63 ≤ 64 := by decide
    exact own_of (k := 64) T.d_woven_of sc_woven_of (fun rs μ P h => by unfold S_woven_of at h; repeat (first | (obtain ⟨rfl, _⟩ := h; exact rfl) | obtain ⟨_, h⟩ := h)) fun cdv A outer s H E f hr => ⟨_, (pss_cons (ps_expr (pe_own G_need_row (hr.mono (by decide)) (pa_cons (pv 0) pa_nil)))
    (pss_cons (ps_set (i := 1) sc_woven_of.nd rfl (Or.inr rfl) (pe_own G_leaving (hr.mono (by decide)) (pa_cons (pv 0) (pa_cons (pe_op op_repX (pe_tup (pa_cons pe_int pa_nil)) (pe_callB call_lenX (by rfl) T.m_len (by decide +kernel) (pa_cons (pv 0) pa_nil))) pa_nil))))
    (pss_cons (ps_setLc (i := 2) (own := [("at", 6), ("card", 7)]) (g := (gTup K 2 (gCons (gName 6) (gCons (gName 7) gNil)))) (by rfl) sc_woven_of.nd rfl rfl (sw_true rfl rfl rfl (by decide +kernel)) (pi_enumG (by rfl) T.m_enumerate (pa_cons (pv 0) pa_nil)) (blkOk_by (own := [("at", 6), ("card", 7)]) (N := ["row", "gone", "found", "place", "ups", "later", "at", "card"]) (sc := defScope s_woven_of) (by decide +kernel)) (fun _ _ _ _ _ => (pg_tup (by rfl) (pgs_cons (pg_name (i := 6) sc_woven_of.nd rfl (Or.inl rfl)) (pgs_cons (pg_name (i := 7) sc_woven_of.nd rfl (Or.inl rfl)) pgs_nil)))) (fun _ _ _ _ _ => (pts_one (pt_cmpR (op_notInX (hu65 hr)) (pv 6) (pv 1) (by rfl)))) (fun _ _ _ _ _ => (pv 7)))
    (pss_cons (ps_for PassesOwn.never rfl (pi_seq (pv 1)) (pg_name (i := 3) sc_woven_of.nd rfl (Or.inr rfl)) (pss_cons (ps_set (i := 4) sc_woven_of.nd rfl (Or.inl rfl) (pe_ownN G_of_side (hr.mono (by decide)) (pa_cons (pv 2) (pa_cons (pe_ix ix_seq (pe_ownN G_all_partings (hr.mono (by decide)) (pa_cons (pv 2) pa_nil)) pe_int (fun _ _ => rfl)) (pa_cons pe_str pa_nil)))))
    (pss_cons (ps_setLc (i := 5) (own := [("card", 7)]) (g := (gName 7)) (by rfl) sc_woven_of.nd rfl rfl (sw_true rfl rfl rfl (by decide +kernel)) (pi_seq (pv 4)) (blkOk_by (own := [("card", 7)]) (N := ["row", "gone", "found", "place", "ups", "later", "at", "card"]) (sc := defScope s_woven_of) (by decide +kernel)) (fun _ _ _ _ _ => (pg_name (i := 7) sc_woven_of.nd rfl (Or.inl rfl))) (fun _ _ _ _ _ => (pts_one (pt_cmpR op_gt (pv 7) (pe_ix ix_seq (pv 0) (pv 3) (fun _ _ => rfl)) (nomark _)))) (fun _ _ _ _ _ => (pv 7)))
    (pss_cons (ps_set (i := 6) sc_woven_of.nd rfl (Or.inl rfl) (pe_ifExp (pt_cmpR (op_neD hr.units) (pv 5) (pe_lst pa_nil) (nomark _)) (pe_bm PySem.F.plainAttrs_list PySem.F.slot_list_index PySem.F.type_list_index mt_index (pv 2) (pa_cons (pe_ix ix_seq (pv 5) pe_int (fun _ _ => rfl)) pa_nil)) (pe_callB call_lenX (by rfl) T.m_len (by decide +kernel) (pa_cons (pv 2) pa_nil))))
    (pss_one (ps_expr (pe_bm PySem.F.plainAttrs_list PySem.F.slot_list_insert PySem.F.type_list_insert mt_insertX (pv 2) (pa_cons (pv 6) (pa_cons (pe_ix ix_seq (pv 0) (pv 3) (fun _ _ => rfl)) pa_nil)))))))))
    (pss_one (ps_ret (pe_callTy call_tupX (by rfl) T.m_tuple (by decide +kernel) (pa_cons (pv 2) pa_nil)))))))), fun rs μ P h => sx_woven_of (Pg := Pg) (w := w) h⟩
theorem own_can_be (T : Txt K mg t_MOST_CARDS t_MOST_NUMBER) : Own Pg w K mg base "can_be" ["row", "thing"] 64 (S_can_be) := by
    have G_need_row := own_need_row (Pg := Pg) (w := w) (base := base) T
    have G_is_rising := own_is_rising (Pg := Pg) (w := w) (base := base) T
    have G_is_woven := own_is_woven (Pg := Pg) (w := w) (base := base) T
    have G_is_from := own_is_from (Pg := Pg) (w := w) (base := base) T
    have h_need_row : 3 ≤ 63 := by decide
    have h_is_rising : 1 ≤ 63 := by decide
    have h_is_woven : 63 ≤ 63 := by decide
    have h_is_from : 1 ≤ 63 := by decide
    exact own_of (k := 63) T.d_can_be sc_can_be (fun rs μ P h => by unfold S_can_be at h; repeat (first | (obtain ⟨rfl, _⟩ := h; exact rfl) | obtain ⟨_, h⟩ := h)) fun cdv A outer s H E f hr => ⟨_, (pss_cons (ps_expr (pe_own G_need_row (hr.mono (by decide)) (pa_cons (pv 0) pa_nil)))
    (pss_cons (ps_if (PW.pt (pw_or (pt_not (pt_val (pe_callB call_isi (by rfl) T.m_isinstance (by decide +kernel) (pa_cons (pv 1) (pa_cons (pe_bltn (v := .ty "tuple") (by rfl) T.m_tuple (by decide +kernel) rfl) pa_nil))))) (pw_or1 (pt_not (pt_val (pe_callB (cr_all rfl) (by rfl) T.m_all (by decide +kernel) (pa_cons (pe_lc (own := [("place", 2)]) (g := (gName 2)) (by rfl) sc_can_be.nd (pi_seq (pv 1)) (blkOk_by (own := [("place", 2)]) (N := ["row", "thing", "place", "at", "card"]) (sc := defScope s_can_be) (by decide +kernel)) (fun _ _ _ _ _ => (pg_name (i := 2) sc_can_be.nd rfl (Or.inl rfl))) (fun _ _ _ _ _ => pts_nil) (fun _ _ _ _ _ => (pe_own G_is_from (hr.mono (by decide)) (pa_cons (pv 2) (pa_cons pe_int (pa_cons (pe_op op_sub (pe_callB call_lenX (by rfl) T.m_len (by decide +kernel) (pa_cons (pv 0) pa_nil)) pe_int) pa_nil)))))) pa_nil))))))) (pss_one (ps_ret pe_bl)) pss_nil)
    (pss_one (ps_ret (pe_and (pe_own G_is_rising (hr.mono (by decide)) (pa_cons (pv 1) pa_nil)) (pe_one (pe_own G_is_woven (hr.mono (by decide)) (pa_cons (pe_lc (own := [("at", 3), ("card", 4)]) (g := (gTup K 2 (gCons (gName 3) (gCons (gName 4) gNil)))) (by rfl) sc_can_be.nd (pi_enumG (by rfl) T.m_enumerate (pa_cons (pv 0) pa_nil)) (blkOk_by (own := [("at", 3), ("card", 4)]) (N := ["row", "thing", "place", "at", "card"]) (sc := defScope s_can_be) (by decide +kernel)) (fun _ _ _ _ _ => (pg_tup (by rfl) (pgs_cons (pg_name (i := 3) sc_can_be.nd rfl (Or.inl rfl)) (pgs_cons (pg_name (i := 4) sc_can_be.nd rfl (Or.inl rfl)) pgs_nil)))) (fun _ _ _ _ _ => (pts_one (pt_cmpR (op_notInX (hu65 hr)) (pv 3) (pv 1) (by rfl)))) (fun _ _ _ _ _ => (pv 4))) pa_nil)))))))), fun rs μ P h => sx_can_be (Pg := Pg) (w := w) h⟩
theorem own_law_deck (T : Txt K mg t_MOST_CARDS t_MOST_NUMBER) : OwnN Pg w K mg base "_law_deck" ["cell", "turn"] 1 (S_law_deck) := by
    exact ownN_of (k := 0) T.d_law_deck sc_law_deck (fun rs μ P h => by unfold S_law_deck at h; repeat (first | (obtain ⟨rfl, _⟩ := h; exact rfl) | obtain ⟨_, h⟩ := h)) fun cdv A outer s H E f hr => ⟨_, (pss_cons (ps_if (pt_cmpR op_ge (pv 0) (pe_op op_pow pe_int pe_int) (nomark _)) (pss_one (ps_ret (pe_lst (pa_cons (pe_op op_sub (pv 0) (pe_op op_pow pe_int pe_int)) (pa_cons (pe_op op_mod (pv 0) pe_int) (pa_cons (pv 1) pa_nil)))))) pss_nil)
    (pss_one (ps_ret (pe_lst (pa_cons pe_int (pa_cons (pe_op op_mod (pv 0) pe_int) (pa_cons (pv 1) pa_nil))))))), fun rs μ P h => sx_law_deck (Pg := Pg) (w := w) h⟩
theorem own_law_pick (T : Txt K mg t_MOST_CARDS t_MOST_NUMBER) : Own Pg w K mg base "_law_pick" ["deck", "size"] 1 (S_law_pick) := by
    exact own_of (k := 0) T.d_law_pick sc_law_pick (fun rs μ P h => by unfold S_law_pick at h; repeat (first | (obtain ⟨rfl, _⟩ := h; exact rfl) | obtain ⟨_, h⟩ := h)) fun cdv A outer s H E f hr => ⟨_, (pss_cons (ps_if (pt_cmpR op_gt (pe_ix ix_seq (pv 0) pe_int (fun _ _ => rfl)) pe_int (nomark _)) (pss_cons (ps_set (i := 2) sc_law_pick.nd rfl (Or.inl rfl) (pe_op op_mod (pe_ix ix_seq (pv 0) pe_int (fun _ _ => rfl)) (pv 1)))
    (pss_cons (ps_asg (pe_op op_fdiv (pe_ix ix_seq (pv 0) pe_int (fun _ _ => rfl)) (pv 1)) (pg_sub (pv 0) pe_int set_list))
    (pss_one (ps_ret (pv 2))))) pss_nil)
    (pss_cons (ps_asg (pe_op op_addX (pe_ix ix_seq (pv 0) pe_int (fun _ _ => rfl)) pe_int) (pg_sub (pv 0) pe_int set_list))
    (pss_cons (ps_set (i := 3) sc_law_pick.nd rfl (Or.inl rfl) (pe_op op_mod (pe_op op_pow (pe_op op_addX (pe_ix ix_seq (pv 0) pe_int (fun _ _ => rfl)) (pe_op op_mul pe_int (pe_ix ix_seq (pv 0) pe_int (fun _ _ => rfl)))) pe_int) pe_int))
    (pss_cons (ps_set (i := 2) sc_law_pick.nd rfl (Or.inl rfl) (pe_op op_fdiv (pe_op op_mod (pe_op op_pow (pe_op op_addX (pv 3) (pe_op op_mul pe_int (pe_ix ix_seq (pv 0) pe_int (fun _ _ => rfl)))) pe_int) pe_int) pe_int))
    (pss_one (ps_ret (pe_op op_mod (pv 2) (pv 1)))))))), fun rs μ P h => sx_law_pick (Pg := Pg) (w := w) h⟩
theorem own_law_whole (T : Txt K mg t_MOST_CARDS t_MOST_NUMBER) : Own Pg w K mg base "_law_whole" ["thing"] 1 (S_law_whole) := by
    exact own_of (k := 0) T.d_law_whole sc_law_whole (fun rs μ P h => by unfold S_law_whole at h; repeat (first | (obtain ⟨rfl, _⟩ := h; exact rfl) | obtain ⟨_, h⟩ := h)) fun cdv A outer s H E f hr => ⟨_, (pss_one (ps_ret (pe_and (pe_callB call_isi (by rfl) T.m_isinstance (by decide +kernel) (pa_cons (pv 0) (pa_cons (pe_bltn (v := .ty "int") (by rfl) T.m_int (by decide +kernel) rfl) pa_nil))) (pe_one (pe_not (pe_callB call_isi (by rfl) T.m_isinstance (by decide +kernel) (pa_cons (pv 0) (pa_cons (pe_bltn (v := .ty "bool") (by rfl) T.m_bool (by decide +kernel) rfl) pa_nil)))))))), fun rs μ P h => sx_law_whole (Pg := Pg) (w := w) h⟩
theorem own_law_one (T : Txt K mg t_MOST_CARDS t_MOST_NUMBER) : Own Pg w K mg base "_law_one" ["deck", "some"] 2 (S_law_one) := by
    have G_law_pick := own_law_pick (Pg := Pg) (w := w) (base := base) T
    have h_law_pick : 1 ≤ 1 := by decide
    exact own_of (k := 1) T.d_law_one sc_law_one (fun rs μ P h => by unfold S_law_one at h; repeat (first | (obtain ⟨rfl, _⟩ := h; exact rfl) | obtain ⟨_, h⟩ := h)) fun cdv A outer s H E f hr => ⟨_, (pss_one (ps_ret (pe_ix ix_seq (pv 1) (pe_own G_law_pick (hr.mono (by decide)) (pa_cons (pv 0) (pa_cons (pe_callB call_lenX (by rfl) T.m_len (by decide +kernel) (pa_cons (pv 1) pa_nil)) pa_nil))) (fun _ _ => rfl)))), fun rs μ P h => sx_law_one (Pg := Pg) (w := w) h⟩
theorem own_law_sort (T : Txt K mg t_MOST_CARDS t_MOST_NUMBER) : Own Pg w K mg base "_law_sort" ["thing"] 1 (S_law_sort) := by
    exact own_of (k := 0) T.d_law_sort sc_law_sort (fun rs μ P h => by unfold S_law_sort at h; repeat (first | (obtain ⟨rfl, _⟩ := h; exact rfl) | obtain ⟨_, h⟩ := h)) fun cdv A outer s H E f hr => ⟨_, (pss_cons (ps_if (pt_val (pe_callB call_isi (by rfl) T.m_isinstance (by decide +kernel) (pa_cons (pv 0) (pa_cons (pe_bltn (v := .ty "bool") (by rfl) T.m_bool (by decide +kernel) rfl) pa_nil)))) (pss_one (ps_ret pe_int)) pss_nil)
    (pss_cons (ps_if (pt_val (pe_callB call_isi (by rfl) T.m_isinstance (by decide +kernel) (pa_cons (pv 0) (pa_cons (pe_bltn (v := .ty "int") (by rfl) T.m_int (by decide +kernel) rfl) pa_nil)))) (pss_one (ps_ret pe_int)) pss_nil)
    (pss_cons (ps_if (pt_val (pe_callB call_isi (by rfl) T.m_isinstance (by decide +kernel) (pa_cons (pv 0) (pa_cons (pe_bltn (v := .ty "str") (by rfl) T.m_str (by decide +kernel) rfl) pa_nil)))) (pss_one (ps_ret pe_int)) pss_nil)
    (pss_cons (ps_if (pt_val (pe_callB call_isi (by rfl) T.m_isinstance (by decide +kernel) (pa_cons (pv 0) (pa_cons (pe_bltn (v := .ty "list") (by rfl) T.m_list (by decide +kernel) rfl) pa_nil)))) (pss_one (ps_ret pe_int)) pss_nil)
    (pss_one (ps_ret (pe_ifExp (pt_val (pe_callB call_isi (by rfl) T.m_isinstance (by decide +kernel) (pa_cons (pv 0) (pa_cons (pe_bltn (v := .ty "tuple") (by rfl) T.m_tuple (by decide +kernel) rfl) pa_nil)))) pe_int pe_int))))))), fun rs μ P h => sx_law_sort (Pg := Pg) (w := w) h⟩
theorem own_law_same_at (T : Txt K mg t_MOST_CARDS t_MOST_NUMBER) : ∀ m : Nat, Own Pg w K mg base "_law_same" ["told", "due"] (m + 1) (S_law_same' m) := by
  intro m
  induction m with
  | zero => exact ((own_false T.d_law_same).imp fun rs μ P h => no_law_same h).mono (Nat.zero_le _)
  | succ m G_law_same =>
    have h_law_same : m + 1 ≤ m + 1 := Nat.le_refl _
    have G_law_sort := own_law_sort (Pg := Pg) (w := w) (base := base) T
    have h_law_sort : 1 ≤ m + 1 := by omega
    refine Own.mono (j := m + 1 + 1) ?_ (by omega)
    exact own_of (k := m + 1) T.d_law_same sc_law_same (fun rs μ P h => by unfold S_law_same' at h; repeat (first | (obtain ⟨rfl, _⟩ := h; exact rfl) | obtain ⟨_, h⟩ := h)) fun cdv A outer s H E f hr => ⟨_, (pss_cons (ps_if (pt_cmpR (op_neD hr.units) (pe_own G_law_sort (hr.mono h_law_sort) (pa_cons (pv 0) pa_nil)) (pe_own G_law_sort (hr.mono h_law_sort) (pa_cons (pv 1) pa_nil)) (nomark _)) (pss_one (ps_ret pe_bl)) pss_nil)
    (pss_cons (ps_if (PW.pt (pw_and (pt_cmpR op_gt (pe_own G_law_sort (hr.mono h_law_sort) (pa_cons (pv 0) pa_nil)) pe_int (nomark _)) (pw_and1 (pt_cmpR op_lt (pe_own G_law_sort (hr.mono h_law_sort) (pa_cons (pv 0) pa_nil)) pe_int (nomark _))))) (pss_cons (ps_if (pt_cmpR (op_neD hr.units) (pe_callB call_lenX (by rfl) T.m_len (by decide +kernel) (pa_cons (pv 0) pa_nil)) (pe_callB call_lenX (by rfl) T.m_len (by decide +kernel) (pa_cons (pv 1) pa_nil)) (nomark _)) (pss_one (ps_ret pe_bl)) pss_nil)
    (pss_one (ps_ret (pe_cmpR (op_eqD hr.units) (pe_lc (own := [("k", 2), ("part", 3)]) (g := (gTup K 2 (gCons (gName 2) (gCons (gName 3) gNil)))) (by rfl) sc_law_same.nd (pi_enumG (by rfl) T.m_enumerate (pa_cons (pv 0) pa_nil)) (blkOk_by (own := [("k", 2), ("part", 3)]) (N := ["told", "due", "k", "part"]) (sc := defScope s_law_same) (by decide +kernel)) (fun _ _ _ _ _ => (pg_tup (by rfl) (pgs_cons (pg_name (i := 2) sc_law_same.nd rfl (Or.inl rfl)) (pgs_cons (pg_name (i := 3) sc_law_same.nd rfl (Or.inl rfl)) pgs_nil)))) (fun _ _ _ _ _ => (pts_one (pt_not (pt_val (pe_own G_law_same (hr.mono h_law_same) (pa_cons (pv 3) (pa_cons (pe_ix ix_seq (pv 1) (pv 2) (fun _ _ => rfl)) pa_nil))))))) (fun _ _ _ _ _ => (pv 2))) (pe_lst pa_nil) (nomark _))))) pss_nil)
    (pss_one (ps_ret (pe_cmpR (op_eqD hr.units) (pv 0) (pv 1) (nomark _)))))), fun rs μ P h => sx_law_same (Pg := Pg) (w := w) h⟩
theorem own_law_same (T : Txt K mg t_MOST_CARDS t_MOST_NUMBER) : Own Pg w K mg base "_law_same" ["told", "due"] 5 (S_law_same) := own_law_same_at T 4
theorem own_law_odd (T : Txt K mg t_MOST_CARDS t_MOST_NUMBER) : Own Pg w K mg base "_law_odd" ["deck"] 3 (S_law_odd) := by
    have G_law_one := own_law_one (Pg := Pg) (w := w) (base := base) T
    have h_law_one : 2 ≤ 2 := by decide
    exact own_of (k := 2) T.d_law_odd sc_law_odd (fun rs μ P h => by unfold S_law_odd at h; repeat (first | (obtain ⟨rfl, _⟩ := h; exact rfl) | obtain ⟨_, h⟩ := h)) fun cdv A outer s H E f hr => ⟨_, (pss_cons (ps_set (i := 1) sc_law_odd.nd rfl (Or.inl rfl) (pe_lst (pa_cons pe_non (pa_cons pe_bl (pa_cons pe_str (pa_cons pe_str (pa_cons (pe_tup pa_nil) (pa_cons (pe_lst pa_nil) (pa_cons (pe_tup (pa_cons (pe_tup pa_nil) pa_nil)) (pa_cons pe_int (pa_cons (pe_un un_neg pe_int) (pa_cons (pe_op op_pow pe_int pe_int) (pa_cons (pe_tup (pa_cons pe_int (pa_cons pe_int pa_nil))) (pa_cons (pe_tup (pa_cons pe_int (pa_cons pe_int (pa_cons pe_int (pa_cons pe_int pa_nil))))) (pa_cons (pe_lst (pa_cons pe_int (pa_cons pe_int pa_nil))) (pa_cons (pe_tup (pa_cons pe_str (pa_cons pe_str pa_nil))) (pa_cons (pe_tup (pa_cons pe_str pa_nil)) pa_nil)))))))))))))))))
    (pss_one (ps_ret (pe_own G_law_one (hr.mono (by decide)) (pa_cons (pv 0) (pa_cons (pv 1) pa_nil)))))), fun rs μ P h => sx_law_odd (Pg := Pg) (w := w) h⟩
theorem own_law_spoilt_at (T : Txt K mg t_MOST_CARDS t_MOST_NUMBER) : ∀ m : Nat, Own Pg w K mg base "_law_spoilt" ["deck", "thing"] (m + 1) (S_law_spoilt' m) := by
  intro m
  induction m with
  | zero => exact ((own_false T.d_law_spoilt).imp fun rs μ P h => no_law_spoilt h).mono (Nat.zero_le _)
  | succ m G_law_spoilt =>
    have h_law_spoilt : m + 1 ≤ m + 1 := Nat.le_refl _
    have G_law_pick := own_law_pick (Pg := Pg) (w := w) (base := base) T
    have h_law_pick : 1 ≤ m + 1 := by omega
    refine Own.mono (j := m + 1 + 1) ?_ (by omega)
    exact own_of (k := m + 1) T.d_law_spoilt sc_law_spoilt (fun rs μ P h => by unfold S_law_spoilt' at h; repeat (first | (obtain ⟨rfl, _⟩ := h; exact rfl) | obtain ⟨_, h⟩ := h)) fun cdv A outer s H E f hr => ⟨_, (pss_cons (ps_if (PW.pt (pw_and (pt_val (pe_callB call_isiT (by rfl) T.m_isinstance (by decide +kernel) (pa_cons (pv 1) (pa_cons (pe_tup (pa_cons (pe_bltn (v := .ty "tuple") (by rfl) T.m_tuple (by decide +kernel) rfl) (pa_cons (pe_bltn (v := .ty "list") (by rfl) T.m_list (by decide +kernel) rfl) pa_nil))) pa_nil)))) (pw_and (pt_cmpR op_gt (pe_callB call_lenX (by rfl) T.m_len (by decide +kernel) (pa_cons (pv 1) pa_nil)) pe_int (nomark _)) (pw_and1 (pt_cmpR op_gt (pe_own G_law_pick (hr.mono h_law_pick) (pa_cons (pv 0) (pa_cons pe_int pa_nil))) pe_int (nomark _)))))) (pss_cons (ps_set (i := 2) sc_law_spoilt.nd rfl (Or.inl rfl) (pe_callTy call_lstX (by rfl) T.m_list (by decide +kernel) (pa_cons (pv 1) pa_nil)))
    (pss_cons (ps_set (i := 3) sc_law_spoilt.nd rfl (Or.inl rfl) (pe_own G_law_pick (hr.mono h_law_pick) (pa_cons (pv 0) (pa_cons (pe_callB call_lenX (by rfl) T.m_len (by decide +kernel) (pa_cons (pv 2) pa_nil)) pa_nil))))
    (pss_cons (ps_asg (pe_own G_law_spoilt (hr.mono h_law_spoilt) (pa_cons (pv 0) (pa_cons (pe_ix ix_seq (pv 2) (pv 3) (fun _ _ => rfl)) pa_nil))) (pg_sub (pv 2) (pv 3) set_list))
    (pss_one (ps_ret (pe_ifExp (pt_val (pe_callB call_isi (by rfl) T.m_isinstance (by decide +kernel) (pa_cons (pv 1) (pa_cons (pe_bltn (v := .ty "tuple") (by rfl) T.m_tuple (by decide +kernel) rfl) pa_nil)))) (pe_callTy call_tupX (by rfl) T.m_tuple (by decide +kernel) (pa_cons (pv 2) pa_nil)) (pv 2))))))) pss_nil)
    (pss_cons (ps_if (pt_val (pe_callB call_isiT (by rfl) T.m_isinstance (by decide +kernel) (pa_cons (pv 1) (pa_cons (pe_tup (pa_cons (pe_bltn (v := .ty "tuple") (by rfl) T.m_tuple (by decide +kernel) rfl) (pa_cons (pe_bltn (v := .ty "list") (by rfl) T.m_list (by decide +kernel) rfl) pa_nil))) pa_nil)))) (pss_cons (ps_set (i := 4) sc_law_spoilt.nd rfl (Or.inl rfl) (pe_ifExp (pt_val (pe_callB call_isi (by rfl) T.m_isinstance (by decide +kernel) (pa_cons (pv 1) (pa_cons (pe_bltn (v := .ty "tuple") (by rfl) T.m_tuple (by decide +kernel) rfl) pa_nil)))) (pe_callTy call_lstX (by rfl) T.m_list (by decide +kernel) (pa_cons (pv 1) pa_nil)) (pe_callTy call_tupX (by rfl) T.m_tuple (by decide +kernel) (pa_cons (pv 1) pa_nil))))
    (pss_one (ps_ret (pe_ix ix_seq (pe_lst (pa_cons (pv 4) (pa_cons (pe_op op_addY (pv 1) (pe_slice sl_X (pv 1) po_none (po_some pe_int))) (pa_cons (pe_slice sl_X (pv 1) (po_some pe_int) po_none) (pa_cons (pe_revA (pv 1)) (pa_cons pe_non pa_nil)))))) (pe_own G_law_pick (hr.mono h_law_pick) (pa_cons (pv 0) (pa_cons pe_int pa_nil))) (fun _ _ => rfl))))) pss_nil)
    (pss_cons (ps_if (pt_val (pe_callB call_isi (by rfl) T.m_isinstance (by decide +kernel) (pa_cons (pv 1) (pa_cons (pe_bltn (v := .ty "int") (by rfl) T.m_int (by decide +kernel) rfl) pa_nil)))) (pss_one (ps_ret (pe_ix ix_seq (pe_lst (pa_cons (pe_op op_addY (pv 1) pe_int) (pa_cons (pe_op op_subY (pv 1) pe_int) (pa_cons pe_bl (pa_cons pe_non (pa_cons pe_int (pa_cons (pe_op op_pow pe_int pe_int) (pa_cons (pe_callTy call_strY (by rfl) T.m_str (by decide +kernel) (pa_cons (pv 1) pa_nil)) pa_nil)))))))) (pe_own G_law_pick (hr.mono h_law_pick) (pa_cons (pv 0) (pa_cons pe_int pa_nil))) (fun _ _ => rfl)))) pss_nil)
    (pss_one (ps_ret (pe_ix ix_seq (pe_lst (pa_cons pe_non (pa_cons pe_int (pa_cons pe_str (pa_cons pe_str (pa_cons pe_str (pa_cons pe_str (pa_cons pe_str (pa_cons pe_str pa_nil))))))))) (pe_own G_law_pick (hr.mono h_law_pick) (pa_cons (pv 0) (pa_cons pe_int pa_nil))) (fun _ _ => rfl))))))), fun rs μ P h => sx_law_spoilt (Pg := Pg) (w := w) h⟩
theorem own_law_spoilt (T : Txt K mg t_MOST_CARDS t_MOST_NUMBER) : Own Pg w K mg base "_law_spoilt" ["deck", "thing"] 4 (S_law_spoilt) := own_law_spoilt_at T 3
theorem own_law_numbers (T : Txt K mg t_MOST_CARDS t_MOST_NUMBER) : Own Pg w K mg base "_law_numbers" ["deck", "many", "top"] 2 (S_law_numbers) := by
    have G_law_pick := own_law_pick (Pg := Pg) (w := w) (base := base) T
    have h_law_pick : 1 ≤ 1 := by decide
    exact own_of (k := 1) T.d_law_numbers sc_law_numbers (fun rs μ P h => by unfold S_law_numbers at h; repeat (first | (obtain ⟨rfl, _⟩ := h; exact rfl) | obtain ⟨_, h⟩ := h)) fun cdv A outer s H E f hr => ⟨_, (pss_cons (ps_set (i := 3) sc_law_numbers.nd rfl (Or.inl rfl) (pe_lst pa_nil))
    (pss_cons (ps_for PassesOwn.never rfl (pi_range1 (by rfl) T.m_range (pa_cons (pv 1) pa_nil)) (pg_name (i := 4) sc_law_numbers.nd rfl (Or.inl rfl)) (pss_cons (ps_set (i := 5) sc_law_numbers.nd rfl (Or.inl rfl) (pe_own G_law_pick (hr.mono (by decide)) (pa_cons (pv 0) (pa_cons (pe_op op_addX (pv 2) pe_int) pa_nil))))
    (pss_cons (ps_while PassesOwn.never (pt_cmpR (op_inX (hu65 hr)) (pv 5) (pv 3) (by rfl)) (pss_one (ps_set (i := 5) sc_law_numbers.nd rfl (Or.inl rfl) (pe_op op_mod (pe_op op_addX (pv 5) pe_int) (pe_op op_addX (pv 2) pe_int)))))
    (pss_one (ps_expr (pe_bm PySem.F.plainAttrs_list PySem.F.slot_list_append PySem.F.type_list_append mt_append (pv 3) (pa_cons (pv 5) pa_nil)))))))
    (pss_one (ps_ret (pe_callTy call_tupX (by rfl) T.m_tuple (by decide +kernel) (pa_cons (pv 3) pa_nil)))))), fun rs μ P h => sx_law_numbers (Pg := Pg) (w := w) h⟩
theorem own_law_woven (T : Txt K mg t_MOST_CARDS t_MOST_NUMBER) : Own Pg w K mg base "_law_woven" ["deck", "many"] 3 (S_law_woven) := by
    have G_law_numbers := own_law_numbers (Pg := Pg) (w := w) (base := base) T
    have G_law_pick := own_law_pick (Pg := Pg) (w := w) (base := base) T
    have h_law_numbers : 2 ≤ 2 := by decide
    have h_law_pick : 1 ≤ 2 := by decide
    exact own_of (k := 2) T.d_law_woven sc_law_woven (fun rs μ P h => by unfold S_law_woven at h; repeat (first | (obtain ⟨rfl, _⟩ := h; exact rfl) | obtain ⟨_, h⟩ := h)) fun cdv A outer s H E f hr => ⟨_, (pss_cons (ps_set (i := 2) sc_law_woven.nd rfl (Or.inl rfl) (pe_own G_law_numbers (hr.mono (by decide)) (pa_cons (pv 0) (pa_cons (pv 1) (pa_cons (pe_op op_pow pe_int pe_int) pa_nil)))))
    (pss_cons (ps_setLc (i := 3) (own := [("number", 7)]) (g := (gName 7)) (by rfl) sc_law_woven.nd rfl rfl (sw_true rfl rfl rfl (by decide +kernel)) (pi_seq (pv 2)) (blkOk_by (own := [("number", 7)]) (N := ["deck", "many", "numbers", "ups", "rising", "falling", "found", "number", "up"]) (sc := defScope s_law_woven) (by decide +kernel)) (fun _ _ _ _ _ => (pg_name (i := 7) sc_law_woven.nd rfl (Or.inl rfl))) (fun _ _ _ _ _ => pts_nil) (fun _ _ _ _ _ => (pe_cmpR (op_eqD hr.units) (pe_own G_law_pick (hr.mono (by decide)) (pa_cons (pv 0) (pa_cons pe_int pa_nil))) pe_int (nomark _))))
    (pss_cons (ps_set (i := 4) sc_law_woven.nd rfl (Or.inl rfl) (pe_callB cr_sortG (by rfl) T.m_sorted (by decide +kernel) (pa_cons (pe_lc (own := [("number", 7), ("up", 8)]) (g := (gTup K 2 (gCons (gName 7) (gCons (gName 8) gNil)))) (by rfl) sc_law_woven.nd (pi_zipG (by rfl) T.m_zip (pa_cons (pv 2) (pa_cons (pv 3) pa_nil))) (blkOk_by (own := [("number", 7), ("up", 8)]) (N := ["deck", "many", "numbers", "ups", "rising", "falling", "found", "number", "up"]) (sc := defScope s_law_woven) (by decide +kernel)) (fun _ _ _ _ _ => (pg_tup (by rfl) (pgs_cons (pg_name (i := 7) sc_law_woven.nd rfl (Or.inl rfl)) (pgs_cons (pg_name (i := 8) sc_law_woven.nd rfl (Or.inl rfl)) pgs_nil)))) (fun _ _ _ _ _ => (pts_one (pt_val (pv 8)))) (fun _ _ _ _ _ => (pv 7))) pa_nil)))
    (pss_cons (ps_set (i := 5) sc_law_woven.nd rfl (Or.inl rfl) (pe_revA (pe_callB cr_sortG (by rfl) T.m_sorted (by decide +kernel) (pa_cons (pe_lc (own := [("number", 7), ("up", 8)]) (g := (gTup K 2 (gCons (gName 7) (gCons (gName 8) gNil)))) (by rfl) sc_law_woven.nd (pi_zipG (by rfl) T.m_zip (pa_cons (pv 2) (pa_cons (pv 3) pa_nil))) (blkOk_by (own := [("number", 7), ("up", 8)]) (N := ["deck", "many", "numbers", "ups", "rising", "falling", "found", "number", "up"]) (sc := defScope s_law_woven) (by decide +kernel)) (fun _ _ _ _ _ => (pg_tup (by rfl) (pgs_cons (pg_name (i := 7) sc_law_woven.nd rfl (Or.inl rfl)) (pgs_cons (pg_name (i := 8) sc_law_woven.nd rfl (Or.inl rfl)) pgs_nil)))) (fun _ _ _ _ _ => (pts_one (pt_not (pt_val (pv 8))))) (fun _ _ _ _ _ => (pv 7))) pa_nil))))
    (pss_cons (ps_set (i := 6) sc_law_woven.nd rfl (Or.inl rfl) (pe_lst pa_nil))
    (pss_cons (ps_while PassesOwn.never (PW.pt (pw_or (pt_cmpR (op_neD hr.units) (pv 4) (pe_lst pa_nil) (nomark _)) (pw_or1 (pt_cmpR (op_neD hr.units) (pv 5) (pe_lst pa_nil) (nomark _))))) (pss_one (ps_if (PW.pt (pw_or (pt_cmpR (op_eqD hr.units) (pv 5) (pe_lst pa_nil) (nomark _)) (pw_or1 (PW.pt (pw_and (pt_cmpR (op_neD hr.units) (pv 4) (pe_lst pa_nil) (nomark _)) (pw_and1 (pt_cmpR (op_eqD hr.units) (pe_own G_law_pick (hr.mono (by decide)) (pa_cons (pv 0) (pa_cons pe_int pa_nil))) pe_int (nomark _)))))))) (pss_one (ps_expr (pe_bm PySem.F.plainAttrs_list PySem.F.slot_list_append PySem.F.type_list_append mt_append (pv 6) (pa_cons (pe_bm PySem.F.plainAttrs_list PySem.F.slot_list_pop PySem.F.type_list_pop mt_popAt (pv 4) (pa_cons pe_int pa_nil)) pa_nil)))) (pss_one (ps_expr (pe_bm PySem.F.plainAttrs_list PySem.F.slot_list_append PySem.F.type_list_append mt_append (pv 6) (pa_cons (pe_bm PySem.F.plainAttrs_list PySem.F.slot_list_pop PySem.F.type_list_pop mt_popAt (pv 5) (pa_cons pe_int pa_nil)) pa_nil)))))))
    (pss_one (ps_ret (pe_callTy call_tupX (by rfl) T.m_tuple (by decide +kernel) (pa_cons (pv 6) pa_nil)))))))))), fun rs μ P h => sx_law_woven (Pg := Pg) (w := w) h⟩
theorem own_law_bent (T : Txt K mg t_MOST_CARDS t_MOST_NUMBER) : Own Pg w K mg base "_law_bent" ["deck", "row", "turns"] 2 (S_law_bent) := by
    have G_law_pick := own_law_pick (Pg := Pg) (w := w) (base := base) T
    have h_law_pick : 1 ≤ 1 := by decide
    exact own_of (k := 1) T.d_law_bent sc_law_bent (fun rs μ P h => by unfold S_law_bent at h; repeat (first | (obtain ⟨rfl, _⟩ := h; exact rfl) | obtain ⟨_, h⟩ := h)) fun cdv A outer s H E f hr => ⟨_, (pss_cons (ps_set (i := 3) sc_law_bent.nd rfl (Or.inl rfl) (pe_callTy call_lstX (by rfl) T.m_list (by decide +kernel) (pa_cons (pv 1) pa_nil)))
    (pss_cons (ps_for PassesOwn.never rfl (pi_range1 (by rfl) T.m_range (pa_cons (pv 2) pa_nil)) (pg_name (i := 4) sc_law_bent.nd rfl (Or.inl rfl)) (pss_cons (ps_set (i := 5) sc_law_bent.nd rfl (Or.inl rfl) (pe_bm PySem.F.plainAttrs_list PySem.F.slot_list_pop PySem.F.type_list_pop mt_popAt (pv 3) (pa_cons (pe_own G_law_pick (hr.mono (by decide)) (pa_cons (pv 0) (pa_cons (pe_callB call_lenX (by rfl) T.m_len (by decide +kernel) (pa_cons (pv 3) pa_nil)) pa_nil))) pa_nil)))
    (pss_one (ps_expr (pe_bm PySem.F.plainAttrs_list PySem.F.slot_list_insert PySem.F.type_list_insert mt_insertX (pv 3) (pa_cons (pe_own G_law_pick (hr.mono (by decide)) (pa_cons (pv 0) (pa_cons (pe_op op_addX (pe_callB call_lenX (by rfl) T.m_len (by decide +kernel) (pa_cons (pv 3) pa_nil)) pe_int) pa_nil))) (pa_cons (pv 5) pa_nil)))))))
    (pss_one (ps_ret (pe_callTy call_tupX (by rfl) T.m_tuple (by decide +kernel) (pa_cons (pv 3) pa_nil)))))), fun rs μ P h => sx_law_bent (Pg := Pg) (w := w) h⟩
theorem own_law_fits (T : Txt K mg t_MOST_CARDS t_MOST_NUMBER) : Own Pg w K mg base "_law_fits" ["row"] 1 (S_law_fits) := by
    exact own_of (k := 0) T.d_law_fits sc_law_fits (fun rs μ P h => by unfold S_law_fits at h; repeat (first | (obtain ⟨rfl, _⟩ := h; exact rfl) | obtain ⟨_, h⟩ := h)) fun cdv A outer s H E f hr => ⟨_, (pss_cons (ps_set (i := 1) sc_law_fits.nd rfl (Or.inl rfl) (pe_lst (pa_cons (pe_tup (pa_cons (pe_un un_neg pe_int) (pa_cons (pe_op op_pow pe_int pe_int) pa_nil))) pa_nil)))
    (pss_cons (ps_for PassesOwn.never rfl (pi_seq (pv 0)) (pg_name (i := 2) sc_law_fits.nd rfl (Or.inl rfl)) (pss_cons (ps_set (i := 3) sc_law_fits.nd rfl (Or.inl rfl) (pe_lst pa_nil))
    (pss_cons (ps_for PassesOwn.never rfl (pi_seq (pv 1)) (pg_tup (by rfl) (pgs_cons (pg_name (i := 4) sc_law_fits.nd rfl (Or.inl rfl)) (pgs_cons (pg_name (i := 5) sc_law_fits.nd rfl (Or.inl rfl)) pgs_nil))) (pss_cons (ps_if (PW.pt (pw_and (pt_cmpR op_gt (pv 2) (pv 4) (nomark _)) (pw_and1 (pt_cmpR (op_notInX (hu65 hr)) (pe_tup (pa_cons (pv 2) (pa_cons (pv 5) pa_nil))) (pv 3) (by rfl))))) (pss_one (ps_expr (pe_bm PySem.F.plainAttrs_list PySem.F.slot_list_append PySem.F.type_list_append mt_append (pv 3) (pa_cons (pe_tup (pa_cons (pv 2) (pa_cons (pv 5) pa_nil))) pa_nil)))) pss_nil)
    (pss_one (ps_if (PW.pt (pw_and (pt_cmpR op_lt (pv 2) (pv 5) (nomark _)) (pw_and1 (pt_cmpR (op_notInX (hu65 hr)) (pe_tup (pa_cons (pv 4) (pa_cons (pv 2) pa_nil))) (pv 3) (by rfl))))) (pss_one (ps_expr (pe_bm PySem.F.plainAttrs_list PySem.F.slot_list_append PySem.F.type_list_append mt_append (pv 3) (pa_cons (pe_tup (pa_cons (pv 4) (pa_cons (pv 2) pa_nil))) pa_nil)))) pss_nil))))
    (pss_one (ps_set (i := 1) sc_law_fits.nd rfl (Or.inl rfl) (pv 3))))))
    (pss_one (ps_ret (pe_cmpR (op_neD hr.units) (pv 1) (pe_lst pa_nil) (nomark _)))))), fun rs μ P h => sx_law_fits (Pg := Pg) (w := w) h⟩
theorem own_law_lots (T : Txt K mg t_MOST_CARDS t_MOST_NUMBER) : Own Pg w K mg base "_law_lots" ["many"] 1 (S_law_lots) := by
    exact own_of (k := 0) T.d_law_lots sc_law_lots (fun rs μ P h => by unfold S_law_lots at h; repeat (first | (obtain ⟨rfl, _⟩ := h; exact rfl) | obtain ⟨_, h⟩ := h)) fun cdv A outer s H E f hr => ⟨_, (pss_cons (ps_set (i := 1) sc_law_lots.nd rfl (Or.inl rfl) (pe_lst (pa_cons (pe_tup pa_nil) pa_nil)))
    (pss_cons (ps_for PassesOwn.never rfl (pi_range1 (by rfl) T.m_range (pa_cons (pv 0) pa_nil)) (pg_name (i := 2) sc_law_lots.nd rfl (Or.inr rfl)) (pss_one (ps_set (i := 1) sc_law_lots.nd rfl (Or.inl rfl) (pe_op op_addX (pv 1) (pe_lc (own := [("lot", 3)]) (g := (gName 3)) (by rfl) sc_law_lots.nd (pi_seq (pv 1)) (blkOk_by (own := [("lot", 3)]) (N := ["many", "found", "place", "lot", "size"]) (sc := defScope s_law_lots) (by decide +kernel)) (fun _ _ _ _ _ => (pg_name (i := 3) sc_law_lots.nd rfl (Or.inl rfl))) (fun _ _ _ _ _ => pts_nil) (fun _ _ _ _ _ => (pe_op op_addX (pv 3) (pe_tup (pa_cons (pv 2) pa_nil)))))))))
    (pss_one (ps_ret (pe_lc (own := [("size", 4), ("lot", 3)]) (g := (gTup K 2 (gCons (gName 4) (gCons (gName 3) gNil)))) (by rfl) sc_law_lots.nd (pi_seq (pe_callB (cr_sortD (hu65 hr)) (by rfl) T.m_sorted (by decide +kernel) (pa_cons (pe_lc (own := [("lot", 3)]) (g := (gName 3)) (by rfl) sc_law_lots.nd (pi_seq (pv 1)) (blkOk_by (own := [("lot", 3)]) (N := ["many", "found", "place", "lot", "size"]) (sc := defScope s_law_lots) (by decide +kernel)) (fun _ _ _ _ _ => (pg_name (i := 3) sc_law_lots.nd rfl (Or.inl rfl))) (fun _ _ _ _ _ => pts_nil) (fun _ _ _ _ _ => (pe_tup (pa_cons (pe_callB call_lenX (by rfl) T.m_len (by decide +kernel) (pa_cons (pv 3) pa_nil)) (pa_cons (pv 3) pa_nil))))) pa_nil))) (blkOk_by (own := [("size", 4), ("lot", 3)]) (N := ["many", "found", "place", "lot", "size"]) (sc := defScope s_law_lots) (by decide +kernel)) (fun _ _ _ _ _ => (pg_tup (by rfl) (pgs_cons (pg_name (i := 4) sc_law_lots.nd rfl (Or.inl rfl)) (pgs_cons (pg_name (i := 3) sc_law_lots.nd rfl (Or.inl rfl)) pgs_nil)))) (fun _ _ _ _ _ => pts_nil) (fun _ _ _ _ _ => (pv 3))))))), fun rs μ P h => sx_law_lots (Pg := Pg) (w := w) h⟩
theorem own_law_without (T : Txt K mg t_MOST_CARDS t_MOST_NUMBER) : Own Pg w K mg base "_law_without" ["row", "lot"] 1 (S_law_without) := by
    exact own_of (k := 0) T.d_law_without sc_law_without (fun rs μ P h => by unfold S_law_without at h; repeat (first | (obtain ⟨rfl, _⟩ := h; exact rfl) | obtain ⟨_, h⟩ := h)) fun cdv A outer s H E f hr => ⟨_, (pss_one (ps_ret (pe_callTy call_tupX (by rfl) T.m_tuple (by decide +kernel) (pa_cons (pe_lc (own := [("at", 2), ("card", 3)]) (g := (gTup K 2 (gCons (gName 2) (gCons (gName 3) gNil)))) (by rfl) sc_law_without.nd (pi_enumG (by rfl) T.m_enumerate (pa_cons (pv 0) pa_nil)) (blkOk_by (own := [("at", 2), ("card", 3)]) (N := ["row", "lot", "at", "card"]) (sc := defScope s_law_without) (by decide +kernel)) (fun _ _ _ _ _ => (pg_tup (by rfl) (pgs_cons (pg_name (i := 2) sc_law_without.nd rfl (Or.inl rfl)) (pgs_cons (pg_name (i := 3) sc_law_without.nd rfl (Or.inl rfl)) pgs_nil)))) (fun _ _ _ _ _ => (pts_one (pt_cmpR (op_notInX (hu65 hr)) (pv 2) (pv 1) (by rfl)))) (fun _ _ _ _ _ => (pv 3))) pa_nil)))), fun rs μ P h => sx_law_without (Pg := Pg) (w := w) h⟩
theorem own_law_keeps (T : Txt K mg t_MOST_CARDS t_MOST_NUMBER) : Own Pg w K mg base "_law_keeps" ["row", "there", "lot"] 2 (S_law_keeps) := by
    have G_law_without := own_law_without (Pg := Pg) (w := w) (base := base) T
    have h_law_without : 1 ≤ 1 := by decide
    exact own_of (k := 1) T.d_law_keeps sc_law_keeps (fun rs μ P h => by unfold S_law_keeps at h; repeat (first | (obtain ⟨rfl, _⟩ := h; exact rfl) | obtain ⟨_, h⟩ := h)) fun cdv A outer s H E f hr => ⟨_, (pss_cons (ps_set (i := 3) sc_law_keeps.nd rfl (Or.inr rfl) (pe_own G_law_without (hr.mono (by decide)) (pa_cons (pv 0) (pa_cons (pv 2) pa_nil))))
    (pss_one (ps_ret (pe_and (pe_cmpR (op_eqD hr.units) (pe_callB cr_sortG (by rfl) T.m_sorted (by decide +kernel) (pa_cons (pv 1) pa_nil)) (pe_callB cr_sortG (by rfl) T.m_sorted (by decide +kernel) (pa_cons (pv 0) pa_nil)) (nomark _)) (pe_one (pe_cmpR (op_eqD hr.units) (pe_callTy call_tupX (by rfl) T.m_tuple (by decide +kernel) (pa_cons (pe_lc (own := [("card", 4)]) (g := (gName 4)) (by rfl) sc_law_keeps.nd (pi_seq (pv 1)) (blkOk_by (own := [("card", 4)]) (N := ["row", "there", "lot", "stay", "card"]) (sc := defScope s_law_keeps) (by decide +kernel)) (fun _ _ _ _ _ => (pg_name (i := 4) sc_law_keeps.nd rfl (Or.inl rfl))) (fun _ _ _ _ _ => (pts_one (pt_cmpR (op_inX (hu65 hr)) (pv 4) (pv 3) (by rfl)))) (fun _ _ _ _ _ => (pv 4))) pa_nil)) (pv 3) (nomark _))))))), fun rs μ P h => sx_law_keeps (Pg := Pg) (w := w) h⟩
theorem own_law_can (T : Txt K mg t_MOST_CARDS t_MOST_NUMBER) : Own Pg w K mg base "_law_can" ["row", "thing"] 2 (S_law_can) := by
    have G_law_fits := own_law_fits (Pg := Pg) (w := w) (base := base) T
    have G_law_without := own_law_without (Pg := Pg) (w := w) (base := base) T
    have G_law_whole := own_law_whole (Pg := Pg) (w := w) (base := base) T
    have h_law_fits : 1 ≤ 1 := by decide
    have h_law_without : 1 ≤ 1 := by decide
    have h_law_whole : 1 ≤ 1 := by decide
    exact own_of (k := 1) T.d_law_can sc_law_can (fun rs μ P h => by unfold S_law_can at h; repeat (first | (obtain ⟨rfl, _⟩ := h; exact rfl) | obtain ⟨_, h⟩ := h)) fun cdv A outer s H E f hr => ⟨_, (pss_cons (ps_if (PW.pt (pw_or (pt_not (pt_val (pe_callB call_isi (by rfl) T.m_isinstance (by decide +kernel) (pa_cons (pv 1) (pa_cons (pe_bltn (v := .ty "tuple") (by rfl) T.m_tuple (by decide +kernel) rfl) pa_nil))))) (pw_or1 (pt_cmpR (op_neD hr.units) (pe_lc (own := [("place", 2)]) (g := (gName 2)) (by rfl) sc_law_can.nd (pi_seq (pv 1)) (blkOk_by (own := [("place", 2)]) (N := ["row", "thing", "place"]) (sc := defScope s_law_can) (by decide +kernel)) (fun _ _ _ _ _ => (pg_name (i := 2) sc_law_can.nd rfl (Or.inl rfl))) (fun _ _ _ _ _ => (pts_one (pt_not (pt_val (pe_own G_law_whole (hr.mono (by decide)) (pa_cons (pv 2) pa_nil)))))) (fun _ _ _ _ _ => (pv 2))) (pe_lst pa_nil) (nomark _))))) (pss_one (ps_ret pe_bl)) pss_nil)
    (pss_cons (ps_if (PW.pt (pw_or (pt_cmpR (op_neD hr.units) (pe_callTy call_lstX (by rfl) T.m_list (by decide +kernel) (pa_cons (pv 1) pa_nil)) (pe_sortSetT (by rfl) T.m_sorted (by rfl) T.m_set (pv 1)) (nomark _)) (pw_or1 (pt_cmpR (op_neD hr.units) (pe_lc (own := [("place", 2)]) (g := (gName 2)) (by rfl) sc_law_can.nd (pi_seq (pv 1)) (blkOk_by (own := [("place", 2)]) (N := ["row", "thing", "place"]) (sc := defScope s_law_can) (by decide +kernel)) (fun _ _ _ _ _ => (pg_name (i := 2) sc_law_can.nd rfl (Or.inl rfl))) (fun _ _ _ _ _ => (pts_one (pt_not (pt_chain op_le op_lt pe_int (pv 2) (pe_callB call_lenX (by rfl) T.m_len (by decide +kernel) (pa_cons (pv 0) pa_nil)))))) (fun _ _ _ _ _ => (pv 2))) (pe_lst pa_nil) (nomark _))))) (pss_one (ps_ret pe_bl)) pss_nil)
    (pss_one (ps_ret (pe_own G_law_fits (hr.mono (by decide)) (pa_cons (pe_own G_law_without (hr.mono (by decide)) (pa_cons (pv 0) (pa_cons (pv 1) pa_nil))) pa_nil)))))), fun rs μ P h => sx_law_can (Pg := Pg) (w := w) h⟩
theorem law_len {rs : List Res} {μ : List MO} {P : PyData → List MO → Prop} (h : spLawD rs μ P) : rs.length = ["script"].length := by
  obtain ⟨_, rfl, _⟩ := h
  rfl
theorem own_law_body (T : Txt K mg t_MOST_CARDS t_MOST_NUMBER) : ∀ (cdv : Value) (A : Around) (outer : List Env) (s : Shared) (H : Hp) (E : XK) (f : Addr), Room 99 (A.deeper (envOfC "law" (defScope s_law) s.heap.objs.size f cdv)) →
    ∃ t, PSs (cxOf CX0 Pg w K mg base ["script", "cell", "deck", "turn", "many", "row", "lots", "good", "there", "same", "bent", "some", "thing", "lot", "k"] "law" (defScope s_law) f cdv A outer s H E).nox (defBody s_law) t ∧ ∀ rs μ P, spLawD rs μ P → SX K μ.length t (endsOf μ.length P) (startD 15 rs) μ := by
  intro cdv A outer s H E f hr
  have G_law_deck := own_law_deck (Pg := Pg) (w := w) (base := base) T
  have G_law_numbers := own_law_numbers (Pg := Pg) (w := w) (base := base) T
  have G_law_lots := own_law_lots (Pg := Pg) (w := w) (base := base) T
  have G_woven_of := own_woven_of (Pg := Pg) (w := w) (base := base) T
  have G_law_spoilt := own_law_spoilt (Pg := Pg) (w := w) (base := base) T
  have G_fewest := own_fewest (Pg := Pg) (w := w) (base := base) T
  have G_can_be := own_can_be (Pg := Pg) (w := w) (base := base) T
  have G_law_pick := own_law_pick (Pg := Pg) (w := w) (base := base) T
  have G_law_bent := own_law_bent (Pg := Pg) (w := w) (base := base) T
  have G_law_same := own_law_same (Pg := Pg) (w := w) (base := base) T
  have G_law_odd := own_law_odd (Pg := Pg) (w := w) (base := base) T
  have G_law_woven := own_law_woven (Pg := Pg) (w := w) (base := base) T
  have G_law_fits := own_law_fits (Pg := Pg) (w := w) (base := base) T
  have G_law_one := own_law_one (Pg := Pg) (w := w) (base := base) T
  have G_law_without := own_law_without (Pg := Pg) (w := w) (base := base) T
  have G_law_keeps := own_law_keeps (Pg := Pg) (w := w) (base := base) T
  have G_law_can := own_law_can (Pg := Pg) (w := w) (base := base) T
  have h_law_deck : 1 ≤ 99 := by decide
  have h_law_numbers : 2 ≤ 99 := by decide
  have h_law_lots : 1 ≤ 99 := by decide
  have h_woven_of : 65 ≤ 99 := by decide
  have h_law_spoilt : 4 ≤ 99 := by decide
  have h_fewest : 65 ≤ 99 := by decide
  have h_can_be : 64 ≤ 99 := by decide
  have h_law_pick : 1 ≤ 99 := by decide
  have h_law_bent : 2 ≤ 99 := by decide
  have h_law_same : 5 ≤ 99 := by decide
  have h_law_odd : 3 ≤ 99 := by decide
  have h_law_woven : 3 ≤ 99 := by decide
  have h_law_fits : 1 ≤ 99 := by decide
  have h_law_one : 2 ≤ 99 := by decide
  have h_law_without : 1 ≤ 99 := by decide
  have h_law_keeps : 2 ≤ 99 := by decide
  have h_law_can : 2 ≤ 99 := by decide
  exact ⟨_, (pss_cons (ps_for PassesOwn.never rfl (pi_seq (pe_slice sl_X (pe_op op_addX (pe_lst (pa_cons pe_int pa_nil)) (pv 0)) po_none (po_some pe_int))) (pg_name (i := 1) sc_law.nd rfl (Or.inl rfl)) (pss_cons (ps_set (i := 2) sc_law.nd rfl (Or.inr rfl) (pe_ownN G_law_deck (hr.mono (by decide)) (pa_cons (pv 1) (pa_cons pe_int pa_nil))))
    (pss_one (ps_for PassesOwn.never rfl (pi_range1 (by rfl) T.m_range (pa_cons pe_int pa_nil)) (pg_name (i := 3) sc_law.nd rfl (Or.inl rfl)) (pss_cons (ps_set (i := 4) sc_law.nd rfl (Or.inl rfl) (pe_op op_addX pe_int (pe_own G_law_pick (hr.mono (by decide)) (pa_cons (pv 2) (pa_cons pe_int pa_nil)))))
    (pss_cons (ps_set (i := 5) sc_law.nd rfl (Or.inr rfl) (pe_own G_law_numbers (hr.mono (by decide)) (pa_cons (pv 2) (pa_cons (pv 4) (pa_cons pe_int pa_nil)))))
    (pss_cons (ps_if (pt_cmpR (op_eqD hr.units) (pv 3) pe_int (nomark _)) (pss_one (ps_set (i := 5) sc_law.nd rfl (Or.inr rfl) (pe_own G_law_bent (hr.mono (by decide)) (pa_cons (pv 2) (pa_cons (pe_own G_law_woven (hr.mono (by decide)) (pa_cons (pv 2) (pa_cons (pv 4) pa_nil))) (pa_cons pe_int pa_nil)))))) pss_nil)
    (pss_cons (ps_set (i := 6) sc_law.nd rfl (Or.inr rfl) (pe_own G_law_lots (hr.mono (by decide)) (pa_cons (pv 4) pa_nil)))
    (pss_cons (ps_set (i := 7) sc_law.nd rfl (Or.inr rfl) (pe_lc (own := [("lot", 13)]) (g := (gName 13)) (by rfl) sc_law.nd (pi_seq (pv 6)) (blkOk_by (own := [("lot", 13)]) (N := ["script", "cell", "deck", "turn", "many", "row", "lots", "good", "there", "same", "bent", "some", "thing", "lot", "k"]) (sc := defScope s_law) (by decide +kernel)) (fun _ _ _ _ _ => (pg_name (i := 13) sc_law.nd rfl (Or.inl rfl))) (fun _ _ _ _ _ => (pts_one (pt_val (pe_own G_law_fits (hr.mono (by decide)) (pa_cons (pe_own G_law_without (hr.mono (by decide)) (pa_cons (pv 5) (pa_cons (pv 13) pa_nil))) pa_nil))))) (fun _ _ _ _ _ => (pv 13))))
    (pss_cons (ps_if (pt_not (pt_val (pe_own G_law_same (hr.mono h_law_same) (pa_cons (pe_own G_fewest (hr.mono (by decide)) (pa_cons (pv 5) pa_nil)) (pa_cons (pe_tup (pa_cons (pe_callB call_lenX (by rfl) T.m_len (by decide +kernel) (pa_cons (pe_ix ix_seq (pv 7) pe_int (fun _ _ => rfl)) pa_nil)) (pa_cons (pe_ix ix_seq (pv 7) pe_int (fun _ _ => rfl)) pa_nil))) pa_nil))))) (pss_one (ps_ret pe_bl)) pss_nil)
    (pss_cons (ps_set (i := 8) sc_law.nd rfl (Or.inr rfl) (pe_own G_woven_of (hr.mono (by decide)) (pa_cons (pv 5) pa_nil)))
    (pss_cons (ps_setLc (i := 9) (own := [("lot", 13)]) (g := (gName 13)) (by rfl) sc_law.nd rfl rfl (sw_true rfl rfl rfl (by decide +kernel)) (pi_seq (pv 7)) (blkOk_by (own := [("lot", 13)]) (N := ["script", "cell", "deck", "turn", "many", "row", "lots", "good", "there", "same", "bent", "some", "thing", "lot", "k"]) (sc := defScope s_law) (by decide +kernel)) (fun _ _ _ _ _ => (pg_name (i := 13) sc_law.nd rfl (Or.inl rfl))) (fun _ _ _ _ _ => (pts_one (PW.pt (pw_and (pt_cmpR (op_eqD hr.units) (pe_callB call_lenX (by rfl) T.m_len (by decide +kernel) (pa_cons (pv 13) pa_nil)) (pe_callB call_lenX (by rfl) T.m_len (by decide +kernel) (pa_cons (pe_ix ix_seq (pv 7) pe_int (fun _ _ => rfl)) pa_nil)) (nomark _)) (pw_and1 (pt_val (pe_own G_law_keeps (hr.mono (by decide)) (pa_cons (pv 5) (pa_cons (pv 8) (pa_cons (pv 13) pa_nil)))))))))) (fun _ _ _ _ _ => (pv 13)))
    (pss_cons (ps_if (PW.pt (pw_or (pt_not (pt_val (pe_own G_law_fits (hr.mono (by decide)) (pa_cons (pv 8) pa_nil)))) (pw_or1 (pt_cmpR (op_eqD hr.units) (pv 9) (pe_lst pa_nil) (nomark _))))) (pss_one (ps_ret pe_bl)) pss_nil)
    (pss_cons (ps_set (i := 10) sc_law.nd rfl (Or.inl rfl) (pe_own G_law_spoilt (hr.mono h_law_spoilt) (pa_cons (pv 2) (pa_cons (pe_ix ix_seq (pv 7) pe_int (fun _ _ => rfl)) pa_nil))))
    (pss_cons (ps_set (i := 11) sc_law.nd rfl (Or.inl rfl) (pe_lst (pa_cons (pe_ix ix_seq (pv 7) pe_int (fun _ _ => rfl)) (pa_cons (pv 10) (pa_cons (pe_revA (pe_ix ix_seq (pv 7) pe_int (fun _ _ => rfl))) (pa_cons (pe_callTy call_lstX (by rfl) T.m_list (by decide +kernel) (pa_cons (pe_ix ix_seq (pv 7) pe_int (fun _ _ => rfl)) pa_nil)) (pa_cons pe_non (pa_cons (pe_tup pa_nil) (pa_cons (pe_tup (pa_cons pe_bl pa_nil)) (pa_cons (pe_tup (pa_cons (pv 4) pa_nil)) (pa_cons (pe_tup (pa_cons pe_int (pa_cons pe_int pa_nil))) (pa_cons (pe_own G_law_odd (hr.mono (by decide)) (pa_cons (pv 2) pa_nil)) pa_nil))))))))))))
    (pss_one (ps_for PassesOwn.never rfl (pi_seq (pe_op op_addX (pv 11) (pe_lc (own := [("k", 14)]) (g := (gName 14)) (by rfl) sc_law.nd (pi_range1 (by rfl) T.m_range (pa_cons pe_int pa_nil)) (blkOk_by (own := [("k", 14)]) (N := ["script", "cell", "deck", "turn", "many", "row", "lots", "good", "there", "same", "bent", "some", "thing", "lot", "k"]) (sc := defScope s_law) (by decide +kernel)) (fun _ _ _ _ _ => (pg_name (i := 14) sc_law.nd rfl (Or.inl rfl))) (fun _ _ _ _ _ => pts_nil) (fun _ _ _ _ _ => (pe_own G_law_one (hr.mono (by decide)) (pa_cons (pv 2) (pa_cons (pv 6) pa_nil))))))) (pg_name (i := 12) sc_law.nd rfl (Or.inl rfl)) (pss_one (ps_if (pt_not (pt_val (pe_own G_law_same (hr.mono h_law_same) (pa_cons (pe_own G_can_be (hr.mono (by decide)) (pa_cons (pv 5) (pa_cons (pv 12) pa_nil))) (pa_cons (pe_own G_law_can (hr.mono (by decide)) (pa_cons (pv 5) (pa_cons (pv 12) pa_nil))) pa_nil))))) (pss_one (ps_ret pe_bl)) pss_nil)))))))))))))))))))
    (pss_one (ps_ret (pe_and (pe_cmpR (op_eqD hr.units) (pe_own G_fewest (hr.mono (by decide)) (pa_cons (pe_tup (pa_cons pe_int (pa_cons pe_int (pa_cons pe_int (pa_cons pe_int pa_nil))))) pa_nil)) (pe_tup (pa_cons pe_int (pa_cons (pe_tup (pa_cons pe_int pa_nil)) pa_nil))) (nomark _)) (pe_and (pe_cmpR (op_eqD hr.units) (pe_own G_fewest (hr.mono (by decide)) (pa_cons (pe_tup (pa_cons pe_int (pa_cons pe_int (pa_cons pe_int pa_nil)))) pa_nil)) (pe_tup (pa_cons pe_int (pa_cons (pe_tup pa_nil) pa_nil))) (nomark _)) (pe_one (pe_cmpR op_isX (pe_own G_can_be (hr.mono (by decide)) (pa_cons (pe_tup (pa_cons pe_int pa_nil)) (pa_cons (pe_tup (pa_cons pe_int pa_nil)) pa_nil))) pe_bl (nomark _)))))))), fun rs μ P h => sx_law (Pg := Pg) (w := w) h⟩
end
theorem all_mk {l : PySem.W.OpenLaw} {w : World} {K : PySem.W.Frag} {h : Heap} {mg : Str → Option Value} {fa : Addr} (X : K.In h) (G : h.Ns mainGlobals mg) (hfa : mg "law" = some (.ref fa))
    {t_MOST_CARDS : Tok} (v_MOST_CARDS : PySem.W.nsIn K mainGlobals "MOST_CARDS" = some (some (.int 40 t_MOST_CARDS)))
    {t_MOST_NUMBER : Tok} (v_MOST_NUMBER : PySem.W.nsIn K mainGlobals "MOST_NUMBER" = some (some (.int 1000000000 t_MOST_NUMBER)))
    (z_all : PySem.W.nsIn K mainGlobals "all" = some none)
    (z_any : PySem.W.nsIn K mainGlobals "any" = some none)
    (z_bool : PySem.W.nsIn K mainGlobals "bool" = some none)
    (z_enumerate : PySem.W.nsIn K mainGlobals "enumerate" = some none)
    (z_int : PySem.W.nsIn K mainGlobals "int" = some none)
    (z_isinstance : PySem.W.nsIn K mainGlobals "isinstance" = some none)
    (z_len : PySem.W.nsIn K mainGlobals "len" = some none)
    (z_list : PySem.W.nsIn K mainGlobals "list" = some none)
    (z_max : PySem.W.nsIn K mainGlobals "max" = some none)
    (z_range : PySem.W.nsIn K mainGlobals "range" = some none)
    (z_set : PySem.W.nsIn K mainGlobals "set" = some none)
    (z_sorted : PySem.W.nsIn K mainGlobals "sorted" = some none)
    (z_str : PySem.W.nsIn K mainGlobals "str" = some none)
    (z_tuple : PySem.W.nsIn K mainGlobals "tuple" = some none)
    (z_zip : PySem.W.nsIn K mainGlobals "zip" = some none)
    {f0 : Addr} {od0 an0 : Option Addr} {sl0 : Array (Option Value)} {oc0 kV0 dc0 pm0 cd0 ct0 : Value}
    (a0 : PySem.W.nsIn K mainGlobals "is_from" = some (some (.ref f0))) (l0 : K.lookup f0 = some ⟨oc0, od0, .func (PySem.W.fnOf "is_from" "is_from" (defArgs s_is_from) (defBody s_is_from) (defScope s_is_from) .none kV0 dc0 pm0 an0 cd0 ct0), sl0⟩) (c0 : PySem.W.codeIn K cd0 "is_from" = true) (k0 : PySem.W.keepIn K (.ref f0) = true)
    {f1 : Addr} {od1 an1 : Option Addr} {sl1 : Array (Option Value)} {oc1 kV1 dc1 pm1 cd1 ct1 : Value}
    (a1 : PySem.W.nsIn K mainGlobals "is_rising" = some (some (.ref f1))) (l1 : K.lookup f1 = some ⟨oc1, od1, .func (PySem.W.fnOf "is_rising" "is_rising" (defArgs s_is_rising) (defBody s_is_rising) (defScope s_is_rising) .none kV1 dc1 pm1 an1 cd1 ct1), sl1⟩) (c1 : PySem.W.codeIn K cd1 "is_rising" = true) (k1 : PySem.W.keepIn K (.ref f1) = true)
    {f2 : Addr} {od2 an2 : Option Addr} {sl2 : Array (Option Value)} {oc2 kV2 dc2 pm2 cd2 ct2 : Value}
    (a2 : PySem.W.nsIn K mainGlobals "is_row" = some (some (.ref f2))) (l2 : K.lookup f2 = some ⟨oc2, od2, .func (PySem.W.fnOf "is_row" "is_row" (defArgs s_is_row) (defBody s_is_row) (defScope s_is_row) .none kV2 dc2 pm2 an2 cd2 ct2), sl2⟩) (c2 : PySem.W.codeIn K cd2 "is_row" = true) (k2 : PySem.W.keepIn K (.ref f2) = true)
    {f3 : Addr} {od3 an3 : Option Addr} {sl3 : Array (Option Value)} {oc3 kV3 dc3 pm3 cd3 ct3 : Value}
    (a3 : PySem.W.nsIn K mainGlobals "need_row" = some (some (.ref f3))) (l3 : K.lookup f3 = some ⟨oc3, od3, .func (PySem.W.fnOf "need_row" "need_row" (defArgs s_need_row) (defBody s_need_row) (defScope s_need_row) .none kV3 dc3 pm3 an3 cd3 ct3), sl3⟩) (c3 : PySem.W.codeIn K cd3 "need_row" = true) (k3 : PySem.W.keepIn K (.ref f3) = true)
    {f4 : Addr} {od4 an4 : Option Addr} {sl4 : Array (Option Value)} {oc4 kV4 dc4 pm4 cd4 ct4 : Value}
    (a4 : PySem.W.nsIn K mainGlobals "of_side" = some (some (.ref f4))) (l4 : K.lookup f4 = some ⟨oc4, od4, .func (PySem.W.fnOf "of_side" "of_side" (defArgs s_of_side) (defBody s_of_side) (defScope s_of_side) .none kV4 dc4 pm4 an4 cd4 ct4), sl4⟩) (c4 : PySem.W.codeIn K cd4 "of_side" = true) (k4 : PySem.W.keepIn K (.ref f4) = true)
    {f5 : Addr} {od5 an5 : Option Addr} {sl5 : Array (Option Value)} {oc5 kV5 dc5 pm5 cd5 ct5 : Value}
    (a5 : PySem.W.nsIn K mainGlobals "next_last" = some (some (.ref f5))) (l5 : K.lookup f5 = some ⟨oc5, od5, .func (PySem.W.fnOf "next_last" "next_last" (defArgs s_next_last) (defBody s_next_last) (defScope s_next_last) .none kV5 dc5 pm5 an5 cd5 ct5), sl5⟩) (c5 : PySem.W.codeIn K cd5 "next_last" = true) (k5 : PySem.W.keepIn K (.ref f5) = true)
    {f6 : Addr} {od6 an6 : Option Addr} {sl6 : Array (Option Value)} {oc6 kV6 dc6 pm6 cd6 ct6 : Value}
    (a6 : PySem.W.nsIn K mainGlobals "begun" = some (some (.ref f6))) (l6 : K.lookup f6 = some ⟨oc6, od6, .func (PySem.W.fnOf "begun" "begun" (defArgs s_begun) (defBody s_begun) (defScope s_begun) .none kV6 dc6 pm6 an6 cd6 ct6), sl6⟩) (c6 : PySem.W.codeIn K cd6 "begun" = true) (k6 : PySem.W.keepIn K (.ref f6) = true)
    {f7 : Addr} {od7 an7 : Option Addr} {sl7 : Array (Option Value)} {oc7 kV7 dc7 pm7 cd7 ct7 : Value}
    (a7 : PySem.W.nsIn K mainGlobals "good_from" = some (some (.ref f7))) (l7 : K.lookup f7 = some ⟨oc7, od7, .func (PySem.W.fnOf "good_from" "good_from" (defArgs s_good_from) (defBody s_good_from) (defScope s_good_from) .none kV7 dc7 pm7 an7 cd7 ct7), sl7⟩) (c7 : PySem.W.codeIn K cd7 "good_from" = true) (k7 : PySem.W.keepIn K (.ref f7) = true)
    {f8 : Addr} {od8 an8 : Option Addr} {sl8 : Array (Option Value)} {oc8 kV8 dc8 pm8 cd8 ct8 : Value}
    (a8 : PySem.W.nsIn K mainGlobals "all_partings" = some (some (.ref f8))) (l8 : K.lookup f8 = some ⟨oc8, od8, .func (PySem.W.fnOf "all_partings" "all_partings" (defArgs s_all_partings) (defBody s_all_partings) (defScope s_all_partings) .none kV8 dc8 pm8 an8 cd8 ct8), sl8⟩) (c8 : PySem.W.codeIn K cd8 "all_partings" = true) (k8 : PySem.W.keepIn K (.ref f8) = true)
    {f9 : Addr} {od9 an9 : Option Addr} {sl9 : Array (Option Value)} {oc9 kV9 dc9 pm9 cd9 ct9 : Value}
    (a9 : PySem.W.nsIn K mainGlobals "is_woven" = some (some (.ref f9))) (l9 : K.lookup f9 = some ⟨oc9, od9, .func (PySem.W.fnOf "is_woven" "is_woven" (defArgs s_is_woven) (defBody s_is_woven) (defScope s_is_woven) .none kV9 dc9 pm9 an9 cd9 ct9), sl9⟩) (c9 : PySem.W.codeIn K cd9 "is_woven" = true) (k9 : PySem.W.keepIn K (.ref f9) = true)
    {f10 : Addr} {od10 an10 : Option Addr} {sl10 : Array (Option Value)} {oc10 kV10 dc10 pm10 cd10 ct10 : Value}
    (a10 : PySem.W.nsIn K mainGlobals "most_from" = some (some (.ref f10))) (l10 : K.lookup f10 = some ⟨oc10, od10, .func (PySem.W.fnOf "most_from" "most_from" (defArgs s_most_from) (defBody s_most_from) (defScope s_most_from) .none kV10 dc10 pm10 an10 cd10 ct10), sl10⟩) (c10 : PySem.W.codeIn K cd10 "most_from" = true) (k10 : PySem.W.keepIn K (.ref f10) = true)
    {f11 : Addr} {od11 an11 : Option Addr} {sl11 : Array (Option Value)} {oc11 kV11 dc11 pm11 cd11 ct11 : Value}
    (a11 : PySem.W.nsIn K mainGlobals "stays" = some (some (.ref f11))) (l11 : K.lookup f11 = some ⟨oc11, od11, .func (PySem.W.fnOf "stays" "stays" (defArgs s_stays) (defBody s_stays) (defScope s_stays) .none kV11 dc11 pm11 an11 cd11 ct11), sl11⟩) (c11 : PySem.W.codeIn K cd11 "stays" = true) (k11 : PySem.W.keepIn K (.ref f11) = true)
    {f12 : Addr} {od12 an12 : Option Addr} {sl12 : Array (Option Value)} {oc12 kV12 dc12 pm12 cd12 ct12 : Value}
    (a12 : PySem.W.nsIn K mainGlobals "leaving" = some (some (.ref f12))) (l12 : K.lookup f12 = some ⟨oc12, od12, .func (PySem.W.fnOf "leaving" "leaving" (defArgs s_leaving) (defBody s_leaving) (defScope s_leaving) .none kV12 dc12 pm12 an12 cd12 ct12), sl12⟩) (c12 : PySem.W.codeIn K cd12 "leaving" = true) (k12 : PySem.W.keepIn K (.ref f12) = true)
    {f13 : Addr} {od13 an13 : Option Addr} {sl13 : Array (Option Value)} {oc13 kV13 dc13 pm13 cd13 ct13 : Value}
    (a13 : PySem.W.nsIn K mainGlobals "fewest" = some (some (.ref f13))) (l13 : K.lookup f13 = some ⟨oc13, od13, .func (PySem.W.fnOf "fewest" "fewest" (defArgs s_fewest) (defBody s_fewest) (defScope s_fewest) .none kV13 dc13 pm13 an13 cd13 ct13), sl13⟩) (c13 : PySem.W.codeIn K cd13 "fewest" = true) (k13 : PySem.W.keepIn K (.ref f13) = true)
    {f14 : Addr} {od14 an14 : Option Addr} {sl14 : Array (Option Value)} {oc14 kV14 dc14 pm14 cd14 ct14 : Value}
    (a14 : PySem.W.nsIn K mainGlobals "woven_of" = some (some (.ref f14))) (l14 : K.lookup f14 = some ⟨oc14, od14, .func (PySem.W.fnOf "woven_of" "woven_of" (defArgs s_woven_of) (defBody s_woven_of) (defScope s_woven_of) .none kV14 dc14 pm14 an14 cd14 ct14), sl14⟩) (c14 : PySem.W.codeIn K cd14 "woven_of" = true) (k14 : PySem.W.keepIn K (.ref f14) = true)
    {f15 : Addr} {od15 an15 : Option Addr} {sl15 : Array (Option Value)} {oc15 kV15 dc15 pm15 cd15 ct15 : Value}
    (a15 : PySem.W.nsIn K mainGlobals "can_be" = some (some (.ref f15))) (l15 : K.lookup f15 = some ⟨oc15, od15, .func (PySem.W.fnOf "can_be" "can_be" (defArgs s_can_be) (defBody s_can_be) (defScope s_can_be) .none kV15 dc15 pm15 an15 cd15 ct15), sl15⟩) (c15 : PySem.W.codeIn K cd15 "can_be" = true) (k15 : PySem.W.keepIn K (.ref f15) = true)
    {f16 : Addr} {od16 an16 : Option Addr} {sl16 : Array (Option Value)} {oc16 kV16 dc16 pm16 cd16 ct16 : Value}
    (a16 : PySem.W.nsIn K mainGlobals "_law_deck" = some (some (.ref f16))) (l16 : K.lookup f16 = some ⟨oc16, od16, .func (PySem.W.fnOf "_law_deck" "_law_deck" (defArgs s_law_deck) (defBody s_law_deck) (defScope s_law_deck) .none kV16 dc16 pm16 an16 cd16 ct16), sl16⟩) (c16 : PySem.W.codeIn K cd16 "_law_deck" = true) (k16 : PySem.W.keepIn K (.ref f16) = true)
    {f17 : Addr} {od17 an17 : Option Addr} {sl17 : Array (Option Value)} {oc17 kV17 dc17 pm17 cd17 ct17 : Value}
    (a17 : PySem.W.nsIn K mainGlobals "_law_pick" = some (some (.ref f17))) (l17 : K.lookup f17 = some ⟨oc17, od17, .func (PySem.W.fnOf "_law_pick" "_law_pick" (defArgs s_law_pick) (defBody s_law_pick) (defScope s_law_pick) .none kV17 dc17 pm17 an17 cd17 ct17), sl17⟩) (c17 : PySem.W.codeIn K cd17 "_law_pick" = true) (k17 : PySem.W.keepIn K (.ref f17) = true)
    {f18 : Addr} {od18 an18 : Option Addr} {sl18 : Array (Option Value)} {oc18 kV18 dc18 pm18 cd18 ct18 : Value}
    (a18 : PySem.W.nsIn K mainGlobals "_law_whole" = some (some (.ref f18))) (l18 : K.lookup f18 = some ⟨oc18, od18, .func (PySem.W.fnOf "_law_whole" "_law_whole" (defArgs s_law_whole) (defBody s_law_whole) (defScope s_law_whole) .none kV18 dc18 pm18 an18 cd18 ct18), sl18⟩) (c18 : PySem.W.codeIn K cd18 "_law_whole" = true) (k18 : PySem.W.keepIn K (.ref f18) = true)
    {f19 : Addr} {od19 an19 : Option Addr} {sl19 : Array (Option Value)} {oc19 kV19 dc19 pm19 cd19 ct19 : Value}
    (a19 : PySem.W.nsIn K mainGlobals "_law_one" = some (some (.ref f19))) (l19 : K.lookup f19 = some ⟨oc19, od19, .func (PySem.W.fnOf "_law_one" "_law_one" (defArgs s_law_one) (defBody s_law_one) (defScope s_law_one) .none kV19 dc19 pm19 an19 cd19 ct19), sl19⟩) (c19 : PySem.W.codeIn K cd19 "_law_one" = true) (k19 : PySem.W.keepIn K (.ref f19) = true)
    {f20 : Addr} {od20 an20 : Option Addr} {sl20 : Array (Option Value)} {oc20 kV20 dc20 pm20 cd20 ct20 : Value}
    (a20 : PySem.W.nsIn K mainGlobals "_law_sort" = some (some (.ref f20))) (l20 : K.lookup f20 = some ⟨oc20, od20, .func (PySem.W.fnOf "_law_sort" "_law_sort" (defArgs s_law_sort) (defBody s_law_sort) (defScope s_law_sort) .none kV20 dc20 pm20 an20 cd20 ct20), sl20⟩) (c20 : PySem.W.codeIn K cd20 "_law_sort" = true) (k20 : PySem.W.keepIn K (.ref f20) = true)
    {f21 : Addr} {od21 an21 : Option Addr} {sl21 : Array (Option Value)} {oc21 kV21 dc21 pm21 cd21 ct21 : Value}
    (a21 : PySem.W.nsIn K mainGlobals "_law_same" = some (some (.ref f21))) (l21 : K.lookup f21 = some ⟨oc21, od21, .func (PySem.W.fnOf "_law_same" "_law_same" (defArgs s_law_same) (defBody s_law_same) (defScope s_law_same) .none kV21 dc21 pm21 an21 cd21 ct21), sl21⟩) (c21 : PySem.W.codeIn K cd21 "_law_same" = true) (k21 : PySem.W.keepIn K (.ref f21) = true)
    {f22 : Addr} {od22 an22 : Option Addr} {sl22 : Array (Option Value)} {oc22 kV22 dc22 pm22 cd22 ct22 : Value}
    (a22 : PySem.W.nsIn K mainGlobals "_law_odd" = some (some (.ref f22))) (l22 : K.lookup f22 = some ⟨oc22, od22, .func (PySem.W.fnOf "_law_odd" "_law_odd" (defArgs s_law_odd) (defBody s_law_odd) (defScope s_law_odd) .none kV22 dc22 pm22 an22 cd22 ct22), sl22⟩) (c22 : PySem.W.codeIn K cd22 "_law_odd" = true) (k22 : PySem.W.keepIn K (.ref f22) = true)
    {f23 : Addr} {od23 an23 : Option Addr} {sl23 : Array (Option Value)} {oc23 kV23 dc23 pm23 cd23 ct23 : Value}
    (a23 : PySem.W.nsIn K mainGlobals "_law_spoilt" = some (some (.ref f23))) (l23 : K.lookup f23 = some ⟨oc23, od23, .func (PySem.W.fnOf "_law_spoilt" "_law_spoilt" (defArgs s_law_spoilt) (defBody s_law_spoilt) (defScope s_law_spoilt) .none kV23 dc23 pm23 an23 cd23 ct23), sl23⟩) (c23 : PySem.W.codeIn K cd23 "_law_spoilt" = true) (k23 : PySem.W.keepIn K (.ref f23) = true)
    {f24 : Addr} {od24 an24 : Option Addr} {sl24 : Array (Option Value)} {oc24 kV24 dc24 pm24 cd24 ct24 : Value}
    (a24 : PySem.W.nsIn K mainGlobals "_law_numbers" = some (some (.ref f24))) (l24 : K.lookup f24 = some ⟨oc24, od24, .func (PySem.W.fnOf "_law_numbers" "_law_numbers" (defArgs s_law_numbers) (defBody s_law_numbers) (defScope s_law_numbers) .none kV24 dc24 pm24 an24 cd24 ct24), sl24⟩) (c24 : PySem.W.codeIn K cd24 "_law_numbers" = true) (k24 : PySem.W.keepIn K (.ref f24) = true)
    {f25 : Addr} {od25 an25 : Option Addr} {sl25 : Array (Option Value)} {oc25 kV25 dc25 pm25 cd25 ct25 : Value}
    (a25 : PySem.W.nsIn K mainGlobals "_law_woven" = some (some (.ref f25))) (l25 : K.lookup f25 = some ⟨oc25, od25, .func (PySem.W.fnOf "_law_woven" "_law_woven" (defArgs s_law_woven) (defBody s_law_woven) (defScope s_law_woven) .none kV25 dc25 pm25 an25 cd25 ct25), sl25⟩) (c25 : PySem.W.codeIn K cd25 "_law_woven" = true) (k25 : PySem.W.keepIn K (.ref f25) = true)
    {f26 : Addr} {od26 an26 : Option Addr} {sl26 : Array (Option Value)} {oc26 kV26 dc26 pm26 cd26 ct26 : Value}
    (a26 : PySem.W.nsIn K mainGlobals "_law_bent" = some (some (.ref f26))) (l26 : K.lookup f26 = some ⟨oc26, od26, .func (PySem.W.fnOf "_law_bent" "_law_bent" (defArgs s_law_bent) (defBody s_law_bent) (defScope s_law_bent) .none kV26 dc26 pm26 an26 cd26 ct26), sl26⟩) (c26 : PySem.W.codeIn K cd26 "_law_bent" = true) (k26 : PySem.W.keepIn K (.ref f26) = true)
    {f27 : Addr} {od27 an27 : Option Addr} {sl27 : Array (Option Value)} {oc27 kV27 dc27 pm27 cd27 ct27 : Value}
    (a27 : PySem.W.nsIn K mainGlobals "_law_fits" = some (some (.ref f27))) (l27 : K.lookup f27 = some ⟨oc27, od27, .func (PySem.W.fnOf "_law_fits" "_law_fits" (defArgs s_law_fits) (defBody s_law_fits) (defScope s_law_fits) .none kV27 dc27 pm27 an27 cd27 ct27), sl27⟩) (c27 : PySem.W.codeIn K cd27 "_law_fits" = true) (k27 : PySem.W.keepIn K (.ref f27) = true)
    {f28 : Addr} {od28 an28 : Option Addr} {sl28 : Array (Option Value)} {oc28 kV28 dc28 pm28 cd28 ct28 : Value}
    (a28 : PySem.W.nsIn K mainGlobals "_law_lots" = some (some (.ref f28))) (l28 : K.lookup f28 = some ⟨oc28, od28, .func (PySem.W.fnOf "_law_lots" "_law_lots" (defArgs s_law_lots) (defBody s_law_lots) (defScope s_law_lots) .none kV28 dc28 pm28 an28 cd28 ct28), sl28⟩) (c28 : PySem.W.codeIn K cd28 "_law_lots" = true) (k28 : PySem.W.keepIn K (.ref f28) = true)
    {f29 : Addr} {od29 an29 : Option Addr} {sl29 : Array (Option Value)} {oc29 kV29 dc29 pm29 cd29 ct29 : Value}
    (a29 : PySem.W.nsIn K mainGlobals "_law_without" = some (some (.ref f29))) (l29 : K.lookup f29 = some ⟨oc29, od29, .func (PySem.W.fnOf "_law_without" "_law_without" (defArgs s_law_without) (defBody s_law_without) (defScope s_law_without) .none kV29 dc29 pm29 an29 cd29 ct29), sl29⟩) (c29 : PySem.W.codeIn K cd29 "_law_without" = true) (k29 : PySem.W.keepIn K (.ref f29) = true)
    {f30 : Addr} {od30 an30 : Option Addr} {sl30 : Array (Option Value)} {oc30 kV30 dc30 pm30 cd30 ct30 : Value}
    (a30 : PySem.W.nsIn K mainGlobals "_law_keeps" = some (some (.ref f30))) (l30 : K.lookup f30 = some ⟨oc30, od30, .func (PySem.W.fnOf "_law_keeps" "_law_keeps" (defArgs s_law_keeps) (defBody s_law_keeps) (defScope s_law_keeps) .none kV30 dc30 pm30 an30 cd30 ct30), sl30⟩) (c30 : PySem.W.codeIn K cd30 "_law_keeps" = true) (k30 : PySem.W.keepIn K (.ref f30) = true)
    {f31 : Addr} {od31 an31 : Option Addr} {sl31 : Array (Option Value)} {oc31 kV31 dc31 pm31 cd31 ct31 : Value}
    (a31 : PySem.W.nsIn K mainGlobals "_law_can" = some (some (.ref f31))) (l31 : K.lookup f31 = some ⟨oc31, od31, .func (PySem.W.fnOf "_law_can" "_law_can" (defArgs s_law_can) (defBody s_law_can) (defScope s_law_can) .none kV31 dc31 pm31 an31 cd31 ct31), sl31⟩) (c31 : PySem.W.codeIn K cd31 "_law_can" = true) (k31 : PySem.W.keepIn K (.ref f31) = true)
    {f32 : Addr} {od32 an32 : Option Addr} {sl32 : Array (Option Value)} {oc32 kV32 dc32 pm32 cd32 ct32 : Value}
    (a32 : PySem.W.nsIn K mainGlobals "law" = some (some (.ref f32))) (l32 : K.lookup f32 = some ⟨oc32, od32, .func (PySem.W.fnOf "law" "law" (defArgs s_law) (defBody s_law) (defScope s_law) .none kV32 dc32 pm32 an32 cd32 ct32), sl32⟩) (c32 : PySem.W.codeIn K cd32 "law" = true) (k32 : PySem.W.keepIn K (.ref f32) = true) :
    ∃ fd : FuncData, (∀ (s : Shared) (v : Value), BindsTo s fd ⟨[v], []⟩ [("script", v)]) ∧ ∀ base : Heap, K.In base → base.Ns mainGlobals mg → FnOk l.prog w K mg base CX0 100 fa fd ["script"] (FSp K spLawD) := by
  have T : Txt K mg t_MOST_CARDS t_MOST_NUMBER := ⟨defAt_mk X G a0 l0 c0 k0 (fun kV doc pm an cdv ct us h => match us, h with | [_, _, _], _ => rfl),
    defAt_mk X G a1 l1 c1 k1 (fun kV doc pm an cdv ct us h => match us, h with | [_], _ => rfl),
    defAt_mk X G a2 l2 c2 k2 (fun kV doc pm an cdv ct us h => match us, h with | [_], _ => rfl),
    defAt_mk X G a3 l3 c3 k3 (fun kV doc pm an cdv ct us h => match us, h with | [_], _ => rfl),
    defAt_mk X G a4 l4 c4 k4 (fun kV doc pm an cdv ct us h => match us, h with | [_, _, _], _ => rfl),
    defAt_mk X G a5 l5 c5 k5 (fun kV doc pm an cdv ct us h => match us, h with | [_, _, _], _ => rfl),
    defAt_mk X G a6 l6 c6 k6 (fun kV doc pm an cdv ct us h => match us, h with | [], _ => rfl),
    defAt_mk X G a7 l7 c7 k7 (fun kV doc pm an cdv ct us h => match us, h with | [_, _, _, _], _ => rfl),
    defAt_mk X G a8 l8 c8 k8 (fun kV doc pm an cdv ct us h => match us, h with | [_], _ => rfl),
    defAt_mk X G a9 l9 c9 k9 (fun kV doc pm an cdv ct us h => match us, h with | [_], _ => rfl),
    defAt_mk X G a10 l10 c10 k10 (fun kV doc pm an cdv ct us h => match us, h with | [_, _, _, _, _], _ => rfl),
    defAt_mk X G a11 l11 c11 k11 (fun kV doc pm an cdv ct us h => match us, h with | [_, _, _, _, _], _ => rfl),
    defAt_mk X G a12 l12 c12 k12 (fun kV doc pm an cdv ct us h => match us, h with | [_, _], _ => rfl),
    defAt_mk X G a13 l13 c13 k13 (fun kV doc pm an cdv ct us h => match us, h with | [_], _ => rfl),
    defAt_mk X G a14 l14 c14 k14 (fun kV doc pm an cdv ct us h => match us, h with | [_], _ => rfl),
    defAt_mk X G a15 l15 c15 k15 (fun kV doc pm an cdv ct us h => match us, h with | [_, _], _ => rfl),
    defAt_mk X G a16 l16 c16 k16 (fun kV doc pm an cdv ct us h => match us, h with | [_, _], _ => rfl),
    defAt_mk X G a17 l17 c17 k17 (fun kV doc pm an cdv ct us h => match us, h with | [_, _], _ => rfl),
    defAt_mk X G a18 l18 c18 k18 (fun kV doc pm an cdv ct us h => match us, h with | [_], _ => rfl),
    defAt_mk X G a19 l19 c19 k19 (fun kV doc pm an cdv ct us h => match us, h with | [_, _], _ => rfl),
    defAt_mk X G a20 l20 c20 k20 (fun kV doc pm an cdv ct us h => match us, h with | [_], _ => rfl),
    defAt_mk X G a21 l21 c21 k21 (fun kV doc pm an cdv ct us h => match us, h with | [_, _], _ => rfl),
    defAt_mk X G a22 l22 c22 k22 (fun kV doc pm an cdv ct us h => match us, h with | [_], _ => rfl),
    defAt_mk X G a23 l23 c23 k23 (fun kV doc pm an cdv ct us h => match us, h with | [_, _], _ => rfl),
    defAt_mk X G a24 l24 c24 k24 (fun kV doc pm an cdv ct us h => match us, h with | [_, _, _], _ => rfl),
    defAt_mk X G a25 l25 c25 k25 (fun kV doc pm an cdv ct us h => match us, h with | [_, _], _ => rfl),
    defAt_mk X G a26 l26 c26 k26 (fun kV doc pm an cdv ct us h => match us, h with | [_, _, _], _ => rfl),
    defAt_mk X G a27 l27 c27 k27 (fun kV doc pm an cdv ct us h => match us, h with | [_], _ => rfl),
    defAt_mk X G a28 l28 c28 k28 (fun kV doc pm an cdv ct us h => match us, h with | [_], _ => rfl),
    defAt_mk X G a29 l29 c29 k29 (fun kV doc pm an cdv ct us h => match us, h with | [_, _], _ => rfl),
    defAt_mk X G a30 l30 c30 k30 (fun kV doc pm an cdv ct us h => match us, h with | [_, _, _], _ => rfl),
    defAt_mk X G a31 l31 c31 k31 (fun kV doc pm an cdv ct us h => match us, h with | [_, _], _ => rfl),
    defAt_mk X G a32 l32 c32 k32 (fun kV doc pm an cdv ct us h => match us, h with | [_], _ => rfl),
    PySem.W.mg_none_of X G z_all,
    PySem.W.mg_none_of X G z_any,
    PySem.W.mg_none_of X G z_bool,
    PySem.W.mg_none_of X G z_enumerate,
    PySem.W.mg_none_of X G z_int,
    PySem.W.mg_none_of X G z_isinstance,
    PySem.W.mg_none_of X G z_len,
    PySem.W.mg_none_of X G z_list,
    PySem.W.mg_none_of X G z_max,
    PySem.W.mg_none_of X G z_range,
    PySem.W.mg_none_of X G z_set,
    PySem.W.mg_none_of X G z_sorted,
    PySem.W.mg_none_of X G z_str,
    PySem.W.mg_none_of X G z_tuple,
    PySem.W.mg_none_of X G z_zip,
    PySem.W.mg_of X G v_MOST_CARDS,
    PySem.W.mg_of X G v_MOST_NUMBER⟩
  have e := hfa.symm.trans (PySem.W.mg_of X G a32)
  cases e
  refine ⟨PySem.W.fnOf "law" "law" (defArgs s_law) (defBody s_law) (defScope s_law) .none kV32 dc32 pm32 an32 cd32 ct32, fun s v => .of_eq rfl, fun base _ _ => ?_⟩
  exact fn_ok (k := 99) (fun_mk (st := s_law) l32 c32 k32) sc_law (fun _ _ _ h => law_len h) fun cdv A outer s H E hr => own_law_body T cdv A outer s H E _ hr

end Wv
open PySem PySem.W PyProof.Rows
set_option maxHeartbeats 0 in
theorem PySem.Challenge.cw_wovenway_k05_whole_fewest_put_elsewhere_holds : PySem.Challenge.rw_wovenway_k05_whole_fewest_put_elsewhere.Holds := by
  w_on; o_law; k_head; (case hw => w_witness2)
  k_fill
  refine L2.walk_of (l := PySem.Challenge.rw_wovenway_k05_whole_fewest_put_elsewhere) (n := 63) (k := 100) (x := "script") (CX := fun _ => L2.CX0) (sp := fun w => Wv.FSp _ Wv.spLawD) rfl (by decide) rfl ⟨rfl, by decide, by decide⟩ (fun w h Y => PySem.W.kIn_of Y) ?F (fun _ _ a ns hl _ hS => Wv.law_sp hl hS) (fun _ _ _ _ _ h => h)
  case F =>
    intro w mg fa h KX G hmg
    refine' Wv.all_mk KX G hmg ?v_MOST_CARDS ?v_MOST_NUMBER ?z_all ?z_any ?z_bool ?z_enumerate ?z_int ?z_isinstance ?z_len ?z_list ?z_max ?z_range ?z_set ?z_sorted ?z_str ?z_tuple ?z_zip ?a0 ?l0 ?c0 ?k0 ?a1 ?l1 ?c1 ?k1 ?a2 ?l2 ?c2 ?k2 ?a3 ?l3 ?c3 ?k3 ?a4 ?l4 ?c4 ?k4 ?a5 ?l5 ?c5 ?k5 ?a6 ?l6 ?c6 ?k6 ?a7 ?l7 ?c7 ?k7 ?a8 ?l8 ?c8 ?k8 ?a9 ?l9 ?c9 ?k9 ?a10 ?l10 ?c10 ?k10 ?a11 ?l11 ?c11 ?k11 ?a12 ?l12 ?c12 ?k12 ?a13 ?l13 ?c13 ?k13 ?a14 ?l14 ?c14 ?k14 ?a15 ?l15 ?c15 ?k15 ?a16 ?l16 ?c16 ?k16 ?a17 ?l17 ?c17 ?k17 ?a18 ?l18 ?c18 ?k18 ?a19 ?l19 ?c19 ?k19 ?a20 ?l20 ?c20 ?k20 ?a21 ?l21 ?c21 ?k21 ?a22 ?l22 ?c22 ?k22 ?a23 ?l23 ?c23 ?k23 ?a24 ?l24 ?c24 ?k24 ?a25 ?l25 ?c25 ?k25 ?a26 ?l26 ?c26 ?k26 ?a27 ?l27 ?c27 ?k27 ?a28 ?l28 ?c28 ?k28 ?a29 ?l29 ?c29 ?k29 ?a30 ?l30 ?c30 ?k30 ?a31 ?l31 ?c31 ?k31 ?a32 ?l32 ?c32 ?k32
    (case v_MOST_CARDS => k_is)
    (case v_MOST_NUMBER => k_is)
    (case z_all => k_is)
    (case z_any => k_is)
    (case z_bool => k_is)
    (case z_enumerate => k_is)
    (case z_int => k_is)
    (case z_isinstance => k_is)
    (case z_len => k_is)
    (case z_list => k_is)
    (case z_max => k_is)
    (case z_range => k_is)
    (case z_set => k_is)
    (case z_sorted => k_is)
    (case z_str => k_is)
    (case z_tuple => k_is)
    (case z_zip => k_is)
    (case a0 => k_is); (case l0 => k_is); (case c0 => k_is); (case k0 => k_is)
    (case a1 => k_is); (case l1 => k_is); (case c1 => k_is); (case k1 => k_is)
    (case a2 => k_is); (case l2 => k_is); (case c2 => k_is); (case k2 => k_is)
    (case a3 => k_is); (case l3 => k_is); (case c3 => k_is); (case k3 => k_is)
    (case a4 => k_is); (case l4 => k_is); (case c4 => k_is); (case k4 => k_is)
    (case a5 => k_is); (case l5 => k_is); (case c5 => k_is); (case k5 => k_is)
    (case a6 => k_is); (case l6 => k_is); (case c6 => k_is); (case k6 => k_is)
    (case a7 => k_is); (case l7 => k_is); (case c7 => k_is); (case k7 => k_is)
    (case a8 => k_is); (case l8 => k_is); (case c8 => k_is); (case k8 => k_is)
    (case a9 => k_is); (case l9 => k_is); (case c9 => k_is); (case k9 => k_is)
    (case a10 => k_is); (case l10 => k_is); (case c10 => k_is); (case k10 => k_is)
    (case a11 => k_is); (case l11 => k_is); (case c11 => k_is); (case k11 => k_is)
    (case a12 => k_is); (case l12 => k_is); (case c12 => k_is); (case k12 => k_is)
    (case a13 => k_is); (case l13 => k_is); (case c13 => k_is); (case k13 => k_is)
    (case a14 => k_is); (case l14 => k_is); (case c14 => k_is); (case k14 => k_is)
    (case a15 => k_is); (case l15 => k_is); (case c15 => k_is); (case k15 => k_is)
    (case a16 => k_is); (case l16 => k_is); (case c16 => k_is); (case k16 => k_is)
    (case a17 => k_is); (case l17 => k_is); (case c17 => k_is); (case k17 => k_is)
    (case a18 => k_is); (case l18 => k_is); (case c18 => k_is); (case k18 => k_is)
    (case a19 => k_is); (case l19 => k_is); (case c19 => k_is); (case k19 => k_is)
    (case a20 => k_is); (case l20 => k_is); (case c20 => k_is); (case k20 => k_is)
    (case a21 => k_is); (case l21 => k_is); (case c21 => k_is); (case k21 => k_is)
    (case a22 => k_is); (case l22 => k_is); (case c22 => k_is); (case k22 => k_is)
    (case a23 => k_is); (case l23 => k_is); (case c23 => k_is); (case k23 => k_is)
    (case a24 => k_is); (case l24 => k_is); (case c24 => k_is); (case k24 => k_is)
    (case a25 => k_is); (case l25 => k_is); (case c25 => k_is); (case k25 => k_is)
    (case a26 => k_is); (case l26 => k_is); (case c26 => k_is); (case k26 => k_is)
    (case a27 => k_is); (case l27 => k_is); (case c27 => k_is); (case k27 => k_is)
    (case a28 => k_is); (case l28 => k_is); (case c28 => k_is); (case k28 => k_is)
    (case a29 => k_is); (case l29 => k_is); (case c29 => k_is); (case k29 => k_is)
    (case a30 => k_is); (case l30 => k_is); (case c30 => k_is); (case k30 => k_is)
    (case a31 => k_is); (case l31 => k_is); (case c31 => k_is); (case k31 => k_is)
    (case a32 => k_is); (case l32 => k_is); (case c32 => k_is); (case k32 => k_is)

